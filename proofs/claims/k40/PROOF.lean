import PyProof.Rows.All
import Wide.All
import OpenK.AllK
import Wide.FinOn
import HandS.ForMost
import HandS.ForExc
import HandS.TryMany
import HandS.Flow
import HandS.Style
import KE.KDictDisplayH
import HandS.TupAny
import HandS.TupMul
import HandS.TupLe
import HandS.Deep
import KE.KDictCopyH
import KE.KDictSum
import HandS.Conv
import HandS.Sort
import HandS.IsInst
import KE.SortData
import KE.OsSort
import HandS.SetFor
import HandS.Strs
import PyProof.Rows.SetFrom
import PyProof.MinMaxWalk
import KE.KDictPairs
import HandS.ExcOwn
import HandS.Dict
import HandS.Zip
import HandS.CallLocal
import HandS.CallSlots
import HandS.ExcIs
import HandS.Iter
import HandS.Comp
import KE.GoesEnum
import KE.GoesZip
import HandS.Exc
import HandS.Defaults
import HandS.HeadHook2
import HandS.Head2
import HandS.HeadEnd
import PySem.Challenge.RW_spottedsheets_k40_main_maps_by_rounds
/-! Dp: a small language without positions, its evaluator. Plain Lean. -/
namespace Dp

/-- values without identity; loc n: the object at place n of the own heap; fn n: the function n; exn c: an exception in hand -/
inductive PV where
  | non | bl (b : Bool) | int (i : Int) | str (s : List Nat) | tup (xs : List PV) | rng (lo hi : Int) | loc (n : Nat) | fn (n : Nat) | exn (c : Nat)

mutual
/-- no place of the heap stands within -/
def PV.pure : PV → Bool
  | .tup xs => PV.pures xs
  | .loc _ => false
  | _ => true
def PV.pures : List PV → Bool
  | [] => true
  | x :: xs => PV.pure x && PV.pures xs
end

/-- objects; ro: a list that is read alone -/
inductive PO where
  | lst (xs : List PV) | ro (xs : List PV) | dct (kvs : List (PV × PV)) | ins (c : Nat) (fs : List (Nat × PV))
  /-- a dict with tuples as keys; v: how often it was written -/
  | dtt (kvs : List (PV × PV)) (v : Nat)

abbrev Mem := List PO

inductive Res (α : Type) where
  | ok (a : α) | exc (c : Nat) (h : Mem) | err

def Res.bd {α β : Type} (r : Res α) (f : α → Res β) : Res β := match r with
  | .ok a => f a
  | .exc c h => .exc c h
  | .err => .err
@[simp] theorem Res.bd_ok {α β : Type} (a : α) (f : α → Res β) : (Res.ok a).bd f = f a := rfl
@[simp] theorem Res.bd_exc {α β : Type} (c : Nat) (h : Mem) (f : α → Res β) : (Res.exc c h : Res α).bd f = .exc c h := rfl
@[simp] theorem Res.bd_err {α β : Type} (f : α → Res β) : (Res.err : Res α).bd f = .err := rfl

abbrev RE := Res (PV × Mem)
abbrev Env := List (Option PV)

/-! ### the language -/
inductive Op | add | sub | mul | fdiv | mod | pow | shl | shr
  deriving DecidableEq
inductive Cp | eq | ne | lt | le | gt | ge | isN | notN | isT | notT | mem | nmem
  deriving DecidableEq
inductive Ty | int | bool | tuple | list | str | seq | bs
  deriving DecidableEq
inductive Bf | len | abs | all | any | int | list | max | min | range | sorted | sset | lset | sitems | sum | tuple | dict | isi (t : Ty)
  deriving DecidableEq
inductive Mf | append | count | extend | get | index | pop
  deriving DecidableEq

mutual
inductive TN where
  | name (i : Nat) | tup (ts : TNs)
inductive TNs where
  | nil | cons (t : TN) (ts : TNs)
end

mutual
inductive E where
  | var (i : Nat)
  | lit (v : PV)
  | gfn (f : Nat)
  | tup (es : Es)
  | lst (es : Es)
  /-- key, value, key, value, .. -/
  | dct (es : Es)
  /-- the keys are tuples -/
  | dctT (es : Es)
  | bin (o : Op) (a b : E)
  | neg (a : E)
  | not (a : E)
  | cmp (o : Cp) (a b : E)
  | chain (o p : Cp) (a b c : E)
  | and (a b : E)
  | or (a b : E)
  | ite (c a b : E)
  | call (f : Nat) (es : Es)
  | callK (f : Nat) (ps ks : Es) (perm : List Nat)
  | callV (i : Nat) (es : Es)
  | blt (b : Bf) (es : Es)
  | mth (m : Mf) (o : E) (es : Es)
  | ix (o i : E)
  | sl (o : E) (a b c : Oe)
  | lc (p : TN) (own : List Nat) (it : It) (cond : Oe) (elt : E)
  | isX (i : Nat) (c : Nat)
inductive Es where
  | nil | cons (e : E) (es : Es)
inductive Oe where
  | no | one (e : E)
inductive It where
  | plain (e : E) | zip (a b : E) | enum (a : E) | items (d : E) | rng3 (es : Es)
end

/-- targets -/
inductive T where
  | pat (p : TN)
  | ix (o i : E)
  | ix2 (o i p j : E)

mutual
inductive S where
  | asg (t : T) (e : E)
  | aug (i : Nat) (o : Op) (e : E)
  | augX (a i : E) (o : Op) (e : E)
  | expr (e : E)
  | ite (c : E) (a b : Ss)
  | for_ (p : TN) (it : It) (body : Ss)
  | while_ (c : E) (body : Ss)
  | ret (e : E)
  | brk | cnt | pass
  | raise (c : Nat)
  | try_ (body : Ss) (hs : Hs)
inductive Ss where
  | nil | cons (s : S) (ss : Ss)
/-- except c as i: body -/
inductive Hs where
  | nil | cons (c : Nat) (i : Option Nat) (body : Ss) (hs : Hs)
end

/-! ### what is read off the heap -/
def lstAt (h : Mem) (n : Nat) : Option (List PV) := match h[n]? with
  | some (.lst xs) => some xs
  | some (.ro xs) => some xs
  | _ => none
/-- the items of a tuple or a list -/
def seqOf (h : Mem) : PV → Option (List PV)
  | .tup xs => some xs
  | .loc n => lstAt h n
  | _ => none
def dctAt (h : Mem) (n : Nat) : Option (List (PV × PV)) := match h[n]? with
  | some (.dct kvs) => some kvs
  | _ => none
def dttAt (h : Mem) (n : Nat) : Option (List (PV × PV)) := match h[n]? with
  | some (.dtt kvs _) => some kvs
  | _ => none

def sizeB : Nat := 16000000
def small64 (i : Int) : Bool := decide (i.natAbs < 18446744073709551616)
def small30 (i : Int) : Bool := decide (i.natAbs < 1073741824)
def small62 (i : Int) : Bool := decide (i.natAbs < 4611686018427387904)

/-- data of so little depth -/
def okD (h : Mem) : Nat → PV → Bool
  | 0, _ => false
  | d + 1, x => match x with
    | .non | .bl _ | .int _ => true
    | .str s => s.all fun c => decide (c < 1114112)
    | .tup xs => xs.all (okD h d)
    | .loc n => match lstAt h n with
      | some xs => xs.all (okD h d)
      | none => false
    | _ => false
def eqbs (f : PV → PV → Bool) : List PV → List PV → Bool
  | [], [] => true
  | x :: xs, y :: ys => f x y && eqbs f xs ys
  | _, _ => false
/-- Python's == of data, to a depth -/
def eqb (h : Mem) : Nat → PV → PV → Bool
  | 0, _, _ => false
  | d + 1, x, y => match x, y with
    | .non, .non => true
    | .bl a, .bl b => a == b
    | .int a, .int b => a == b
    | .bl a, .int b => (if a then (1 : Int) else 0) == b
    | .int a, .bl b => a == (if b then (1 : Int) else 0)
    | .str a, .str b => a == b
    | .tup xs, .tup ys => eqbs (eqb h d) xs ys
    | .loc a, .loc b => match lstAt h a, lstAt h b with
      | some xs, some ys => eqbs (eqb h d) xs ys
      | _, _ => false
    | _, _ => false
def depthB : Nat := 40
def eqq (h : Mem) (x y : PV) : Option Bool := if okD h depthB x && okD h depthB y then some (eqb h depthB x y) else none
def memq (h : Mem) (x : PV) (ys : List PV) : Option Bool := if okD h depthB x && ys.all (okD h depthB) then some (ys.any fun y => eqb h depthB y x) else none

/-- of one shape, and compared by < : ints; tuples of such -/
def ltbs (lt eq : PV → PV → Bool) : List PV → List PV → Bool
  | [], [] => false
  | [], _ :: _ => true
  | _ :: _, [] => false
  | x :: xs, y :: ys => if eq x y then ltbs lt eq xs ys else lt x y
def ltb : Nat → PV → PV → Bool
  | 0, _, _ => false
  | d + 1, x, y => match x, y with
    | .int a, .int b => decide (a < b)
    | .tup xs, .tup ys => ltbs (ltb d) (eqb [] d) xs ys
    | _, _ => false
/-- may x, y be compared by < : None of another kind is met at a place where they differ first -/
def cpbs (cp eq : PV → PV → Bool) : List PV → List PV → Bool
  | x :: xs, y :: ys => if eq x y then cpbs cp eq xs ys else cp x y
  | _, _ => true
def cpb : Nat → PV → PV → Bool
  | 0, _, _ => false
  | d + 1, x, y => match x, y with
    | .int _, .int _ => true
    | .tup xs, .tup ys => cpbs (cpb d) (eqb [] d) xs ys
    | _, _ => false
def isTup : PV → Bool
  | .tup _ => true
  | _ => false
/-- ints, tuples of such at any depth -/
def okL : Nat → PV → Bool
  | 0, _ => false
  | d + 1, x => match x with
    | .int _ => true
    | .tup xs => xs.all (okL d)
    | _ => false
/-- two of one shape, as far as both go -/
def alkbs (f : PV → PV → Bool) : List PV → List PV → Bool
  | x :: xs, y :: ys => f x y && alkbs f xs ys
  | _, _ => true
def alkb : Nat → PV → PV → Bool
  | 0, _, _ => false
  | d + 1, x, y => match x, y with
    | .int _, .int _ => true
    | .tup xs, .tup ys => alkbs (alkb d) xs ys
    | _, _ => false
/-- a tuple with an item at least -/
def fullT : PV → Bool
  | .tup (_ :: _) => true
  | _ => false
def flatT : PV → Bool
  | .tup xs => xs.all fun x => match x with | .int _ => true | _ => false
  | _ => false
/-- tuples that can be put in order -/
def okLs (xs : List PV) : Bool := xs.all (okL depthB) && (xs.all flatT || (xs.all fun x => xs.all fun y => alkb depthB x y)) && xs.all fullT
def insB (x : PV) : List PV → List PV
  | [] => [x]
  | y :: ys => if ltb depthB x y then x :: y :: ys else y :: insB x ys
/-- sorted, stable -/
def sortB (xs : List PV) : List PV := xs.foldl (fun acc x => insB x acc) []
def dedupB : List PV → List PV
  | x :: y :: r => if eqb [] depthB x y then dedupB (y :: r) else x :: dedupB (y :: r)
  | xs => xs
def minB : List PV → Option PV
  | [] => none
  | x :: xs => some (xs.foldl (fun m y => if ltb depthB y m then y else m) x)
def maxB : List PV → Option PV
  | [] => none
  | x :: xs => some (xs.foldl (fun m y => if ltb depthB m y then y else m) x)

/-- keys of a dict: whole numbers, or tuples of such and of texts at some depth -/
def okK : Nat → PV → Bool
  | 0, _ => false
  | d + 1, x => match x with
    | .int _ => true
    | .str _ => true
    | .tup xs => xs.all (okK d)
    | _ => false
def keyD : Nat := 8
/-- what may stand within a key that is a tuple -/
def okN : Nat → PV → Bool
  | 0, x => match x with
    | .int _ | .non => true
    | _ => false
  | n + 1, x => match x with
    | .int _ | .non => true
    | .tup xs => xs.all (okN n)
    | _ => false
def okT (x : PV) : Bool := isTup x && okN keyD x
/-- k may be asked of, put into, a dict with these -/
def okKey (_kvs : List (PV × PV)) (k : PV) : Bool := match k with
  | .int _ | .str _ => true
  | _ => false
def lookB (k : PV) (kvs : List (PV × PV)) : Option PV := (kvs.find? fun p => eqb [] depthB p.1 k).map (·.2)
def putB (k v : PV) (kvs : List (PV × PV)) : List (PV × PV) :=
  if kvs.any (fun p => eqb [] depthB p.1 k) then kvs.map fun p => if eqb [] depthB p.1 k then (p.1, v) else p else kvs ++ [(k, v)]

/-! ### operations -/
def binB (h : Mem) (o : Op) (x y : PV) : RE := match o, x, y with
  | .add, .int a, .int b => .ok (.int (a + b), h)
  | .sub, .int a, .int b => .ok (.int (a - b), h)
  | .mul, .int a, .int b => if small64 a || small64 b then .ok (.int (a * b), h) else .err
  | .fdiv, .int a, .int b => if b != 0 && small30 b then .ok (.int (a.fdiv b), h) else .err
  | .mod, .int a, .int b => if b != 0 then .ok (.int (a.fmod b), h) else .err
  | .pow, .int a, .int b => if decide (0 ≤ b) && decide (b ≤ 1000000) && small64 a then .ok (.int (a ^ b.toNat), h) else .err
  | .shl, .int a, .int b => if decide (0 ≤ b) && decide (b ≤ 1000000) && small64 a then .ok (.int (a * 2 ^ b.toNat), h) else .err
  | .shr, .int a, .int b => if decide (0 ≤ b) then .ok (.int (a / 2 ^ b.toNat), h) else .err
  | .add, .tup xs, .tup ys => if decide (xs.length + ys.length ≤ sizeB) then .ok (.tup (xs ++ ys), h) else .err
  | .mul, .tup xs, .int k => if decide (-1000 ≤ k) && decide (k ≤ 1000) && decide (xs.length ≤ 1000) then .ok (.tup (List.replicate k.toNat xs).flatten, h) else .err
  | .add, .loc a, .loc b => match h[a]?, h[b]? with
    | some (.lst xs), some (.lst ys) => if decide (xs.length + ys.length ≤ sizeB) then .ok (.loc h.length, h ++ [.lst (xs ++ ys)]) else .err
    | _, _ => .err
  | .mul, .loc a, .int k => match h[a]? with
    | some (.lst xs) => if small62 k && decide (xs.length * k.toNat ≤ sizeB) then .ok (.loc h.length, h ++ [.lst (List.replicate k.toNat xs).flatten]) else .err
    | _ => .err
  | _, _, _ => .err

/-- the operators in place: whole numbers alone -/
def augB (h : Mem) (o : Op) (x y : PV) : RE := match o, x, y with
  | .add, .int a, .int b => .ok (.int (a + b), h)
  | .sub, .int a, .int b => .ok (.int (a - b), h)
  | .mul, .int a, .int b => if small64 a || small64 b then .ok (.int (a * b), h) else .err
  | _, _, _ => .err

def obl (h : Mem) (o : Option Bool) : RE := match o with
  | some b => .ok (.bl b, h)
  | none => .err
def cmpB (h : Mem) (o : Cp) (x y : PV) : RE := match o with
  | .eq => obl h (eqq h x y)
  | .ne => obl h ((eqq h x y).map not)
  | .lt => match x, y with
    | .int a, .int b => .ok (.bl (decide (a < b)), h)
    | _, _ => .err
  | .le => match x, y with
    | .int a, .int b => .ok (.bl (decide (a ≤ b)), h)
    | _, _ => .err
  | .gt => match x, y with
    | .int a, .int b => .ok (.bl (decide (b < a)), h)
    | _, _ => .err
  | .ge => match x, y with
    | .int a, .int b => .ok (.bl (decide (b ≤ a)), h)
    | _, _ => .err
  | .isN => match y with
    | .non => .ok (.bl (match x with | .non => true | _ => false), h)
    | _ => .err
  | .notN => match y with
    | .non => .ok (.bl (match x with | .non => false | _ => true), h)
    | _ => .err
  | .isT => match x, y with
    | .bl a, .bl b => .ok (.bl (a == b), h)
    | _, _ => .err
  | .notT => match x, y with
    | .bl a, .bl b => .ok (.bl (!(a == b)), h)
    | _, _ => .err
  | .mem => match y with
    | .loc n => match h[n]? with
      | some (.dct kvs) => if okKey kvs x then .ok (.bl (lookB x kvs).isSome, h) else if kvs.isEmpty && okT x then .ok (.bl false, h) else .err
      | some (.dtt kvs _) => if okT x then .ok (.bl (lookB x kvs).isSome, h) else .err
      | some (.lst ys) => obl h (memq h x ys)
      | some (.ro ys) => obl h (memq h x ys)
      | some (.ins _ _) => .err
      | none => .err
    | .tup ys => obl h (memq h x ys)
    | _ => .err
  | .nmem => match y with
    | .loc n => match h[n]? with
      | some (.dct kvs) => if okKey kvs x then .ok (.bl (!(lookB x kvs).isSome), h) else if kvs.isEmpty && okT x then .ok (.bl true, h) else .err
      | some (.dtt kvs _) => if okT x then .ok (.bl (!(lookB x kvs).isSome), h) else .err
      | some (.lst ys) => obl h ((memq h x ys).map not)
      | some (.ro ys) => obl h ((memq h x ys).map not)
      | some (.ins _ _) => .err
      | none => .err
    | .tup ys => obl h ((memq h x ys).map not)
    | _ => .err

/-- truth of a value -/
def truB (h : Mem) : PV → Option Bool
  | .non => some false
  | .bl b => some b
  | .int i => some (i != 0)
  | .tup xs => some (!xs.isEmpty)
  | .loc n => match h[n]? with
    | some (.lst xs) => some (!xs.isEmpty)
    | some (.ro xs) => some (!xs.isEmpty)
    | _ => none
  | _ => none

def allBl : List PV → Option (List Bool)
  | [] => some []
  | .bl b :: r => (allBl r).map (b :: ·)
  | _ => none
def allInt : List PV → Option (List Int)
  | [] => some []
  | .int i :: r => (allInt r).map (i :: ·)
  | _ => none
def pairsB : List PV → Option (List (PV × PV))
  | [] => some []
  | .tup [k, v] :: r => (pairsB r).map ((k, v) :: ·)
  | _ => none
def twosB : List PV → Option (List (PV × PV))
  | [] => some []
  | k :: v :: r => (twosB r).map ((k, v) :: ·)
  | _ => none
/-- dict of pairs -/
def dictB : List (PV × PV) → List (PV × PV) → Option (List (PV × PV))
  | acc, [] => some acc
  | acc, (k, v) :: r => if okKey acc k then dictB (putB k v acc) r else none
def dictT : List (PV × PV) → List (PV × PV) → Option (List (PV × PV))
  | acc, [] => some acc
  | acc, (k, v) :: r => if okT k then dictT (putB k v acc) r else none
def rngL (lo hi : Int) : List PV := (List.range (hi - lo).toNat).map fun (k : Nat) => .int (lo + (k : Int))
/-- what list(), tuple(), sorted() walk -/
def itemsB (h : Mem) : PV → Option (List PV)
  | .tup xs => some xs
  | .rng lo hi => if small62 lo && small62 hi && decide ((hi - lo).toNat ≤ sizeB) then some (rngL lo hi) else none
  | .loc n => match h[n]? with
    | some (.lst xs) => some xs
    | some (.ro xs) => some xs
    | some (.dct kvs) => some (kvs.map (·.1))
    | some (.dtt kvs _) => some (kvs.map (·.1))
    | some (.ins _ _) => none
    | none => none
  | _ => none
def lenB (h : Mem) : List PV → RE
  | [.loc n] => match h[n]? with
    | some (.lst xs) => .ok (.int xs.length, h)
    | some (.ro xs) => .ok (.int xs.length, h)
    | some (.dct kvs) => .ok (.int kvs.length, h)
    | some (.dtt kvs _) => .ok (.int kvs.length, h)
    | some (.ins _ _) => .err
    | none => .err
  | [.tup xs] => .ok (.int xs.length, h)
  | _ => .err
def absB (h : Mem) : List PV → RE
  | [.int i] => .ok (.int (if i < 0 then -i else i), h)
  | _ => .err
def allB (h : Mem) : List PV → RE
  | [.loc n] => match (lstAt h n).bind allBl with
    | some bs => .ok (.bl (bs.all id), h)
    | none => .err
  | _ => .err
def anyB (h : Mem) : List PV → RE
  | [.loc n] => match (lstAt h n).bind allBl with
    | some bs => .ok (.bl (bs.any id), h)
    | none => .err
  | _ => .err
def intB (h : Mem) : List PV → RE
  | [.int i] => .ok (.int i, h)
  | [.bl b] => .ok (.int (if b then 1 else 0), h)
  | _ => .err
def listB (h : Mem) : List PV → RE
  | [x] => match itemsB h x with
    | some xs => .ok (.loc h.length, h ++ [.lst xs])
    | none => .err
  | _ => .err
/-- what tuple() walks -/
def itemsT (h : Mem) : PV → Option (List PV)
  | .tup xs => some xs
  | .rng lo hi => if small62 lo && small62 hi && decide ((hi - lo).toNat ≤ sizeB) then some (rngL lo hi) else none
  | .loc n => lstAt h n
  | _ => none
def tupleB (h : Mem) : List PV → RE
  | [x] => match itemsT h x with
    | some xs => .ok (.tup xs, h)
    | none => .err
  | _ => .err
def maxV (h : Mem) : List PV → RE
  | [.int i, .int j] => .ok (.int (if j > i then j else i), h)
  | [.loc n] => match ((lstAt h n).bind allInt).bind List.max? with
    | some v => .ok (.int v, h)
    | none => .err
  | _ => .err
def minV (h : Mem) : List PV → RE
  | [.int i, .int j] => .ok (.int (if j < i then j else i), h)
  | [.loc n] => match ((lstAt h n).bind allInt).bind List.min? with
    | some v => .ok (.int v, h)
    | none => match (lstAt h n).bind fun xs => if okLs xs then minB xs else none with
      | some v => .ok (v, h)
      | none => .err
  | _ => .err
def rangeB (h : Mem) : List PV → RE
  | [.int j] => if small62 j then .ok (.rng 0 j, h) else .err
  | [.int i, .int j] => if small62 i && small62 j then .ok (.rng i j, h) else .err
  | _ => .err
def insI (x : Int) : List Int → List Int
  | [] => [x]
  | y :: ys => if x ≤ y then x :: y :: ys else y :: insI x ys
def sortI : List Int → List Int
  | [] => []
  | x :: xs => insI x (sortI xs)
/-- what sorted() walks -/
def itemsO (h : Mem) : PV → Option (List PV)
  | .tup xs => some xs
  | .loc n => match h[n]? with
    | some (.lst xs) => some xs
    | some (.ro xs) => some xs
    | some (.dtt kvs _) => some (kvs.map (·.1))
    | _ => none
  | _ => none
/-- in order -/
def sortO (xs : List PV) : Option (List PV) := match allInt xs with
  | some ns => some ((sortI ns).map .int)
  | none => if okLs xs then some (sortB xs) else none
def sortedB (h : Mem) : List PV → RE
  | [x] => match (itemsO h x).bind sortO with
    | some ys => .ok (.loc h.length, h ++ [.lst ys])
    | none => .err
  | _ => .err
def dedupI : List Int → List Int
  | x :: y :: r => if x = y then dedupI (y :: r) else x :: dedupI (y :: r)
  | xs => xs
/-- the items of a set of whole numbers, in order -/
def setI (h : Mem) (x : PV) : Option (List Int) := match (seqOf h x).bind allInt with
  | some ns => if ns.length < 62 then some (dedupI (sortI ns)) else none
  | none => none
def ssetB (h : Mem) : List PV → RE
  | [x] => match setI h x with
    | some ns => .ok (.loc h.length, h ++ [.lst (ns.map .int)])
    | none => .err
  | _ => .err
def lsetB (h : Mem) : List PV → RE
  | [x] => match setI h x with
    | some ns => .ok (.int ns.length, h)
    | none => .err
  | _ => .err
def sitemsB (h : Mem) : List PV → RE
  | [.loc n] => match (dttAt h n).bind fun kvs => sortO (kvs.map fun p => .tup [p.1, p.2]) with
    | some ys => .ok (.loc h.length, h ++ [.lst ys])
    | none => .err
  | _ => .err
def sumB (h : Mem) : List PV → RE
  | [.loc n] => match (lstAt h n).bind allInt with
    | some ns => .ok (.int ns.sum, h)
    | none => .err
  | _ => .err
def dictV (h : Mem) : List PV → RE
  | [.loc n] => match ((lstAt h n).bind pairsB).bind (dictT []) with
    | some kvs => .ok (.loc h.length, h ++ [.dtt kvs 0])
    | none => match ((lstAt h n).bind pairsB).bind (dictB []) with
      | some kvs => .ok (.loc h.length, h ++ [.dct kvs])
      | none => .err
  | _ => .err
/-- a value's kind -/
inductive Kd | non | bl | int | str | tup | lst
  deriving DecidableEq
def kdB (h : Mem) : PV → Option Kd
  | .non => some .non
  | .bl _ => some .bl
  | .int _ => some .int
  | .str _ => some .str
  | .tup _ => some .tup
  | .loc n => if (lstAt h n).isSome then some .lst else none
  | _ => none
def isB : Ty → Kd → Bool
  | .int, .int => true
  | .int, .bl => true
  | .bool, .bl => true
  | .str, .str => true
  | .tuple, .tup => true
  | .list, .lst => true
  | .seq, .tup => true
  | .seq, .lst => true
  | .bs, .bl => true
  | .bs, .str => true
  | _, _ => false
def isiB (h : Mem) (t : Ty) : List PV → RE
  | [x] => match kdB h x with
    | some k => .ok (.bl (isB t k), h)
    | none => .err
  | _ => .err
def bltB (h : Mem) (b : Bf) (vs : List PV) : RE := match b with
  | .len => lenB h vs
  | .abs => absB h vs
  | .all => allB h vs
  | .any => anyB h vs
  | .int => intB h vs
  | .list => listB h vs
  | .tuple => tupleB h vs
  | .max => maxV h vs
  | .min => minV h vs
  | .range => rangeB h vs
  | .sorted => sortedB h vs
  | .sset => ssetB h vs
  | .lset => lsetB h vs
  | .sitems => sitemsB h vs
  | .sum => sumB h vs
  | .dict => dictV h vs
  | .isi t => isiB h t vs

/-- a place, counted from the end where it is below 0 -/
def ixB (n : Nat) (i : Int) : Option Nat := if 0 ≤ i then (if i < n then some i.toNat else none) else if -(n : Int) ≤ i then some (i + n).toNat else none
def atB {α : Type} (xs : List α) (i : Int) : Option α := (ixB xs.length i).bind fun j => xs[j]?
/-- may v be stored in the object at p: nothing of the heap within, or an object made in this call (n0: the first of these) -/
def mayB (n0 p : Nat) (v : PV) : Bool := v.pure || decide (n0 ≤ p)

def appendB (n0 : Nat) (h : Mem) : PV → List PV → RE
  | .loc n, [v] => match h[n]? with
    | some (.lst xs) => if mayB n0 n v && decide (xs.length < sizeB) then .ok (.non, h.set n (.lst (xs ++ [v]))) else .err
    | _ => .err
  | _, _ => .err
/-- what extend() takes over -/
def seqE (h : Mem) : PV → Option (List PV)
  | .tup xs => some xs
  | .loc n => match h[n]? with
    | some (.lst xs) => some xs
    | _ => none
  | _ => none
def extendB (n0 : Nat) (h : Mem) : PV → List PV → RE
  | .loc n, [x] => match h[n]?, seqE h x with
    | some (.lst xs), some ys => if (PV.pures ys || decide (n0 ≤ n)) && decide (xs.length + ys.length ≤ sizeB) then .ok (.non, h.set n (.lst (xs ++ ys))) else .err
    | _, _ => .err
  | _, _ => .err
def countL (h : Mem) : PV → List PV → RE
  | .loc n, [x] => match lstAt h n with
    | some ys => if okD h depthB x && ys.all (okD h depthB) then .ok (.int (ys.countP fun y => eqb h depthB y x), h) else .err
    | none => .err
  | _, _ => .err
def countT (h : Mem) : PV → List PV → RE
  | .tup ys, [x] => if okD h depthB x && ys.all (okD h depthB) then .ok (.int (ys.countP fun y => eqb h depthB y x), h) else .err
  | _, _ => .err
def dgetB (h : Mem) : PV → List PV → RE
  | .loc n, [k, v] => match h[n]? with
    | some (.dct kvs) => if okKey kvs k then .ok ((lookB k kvs).getD v, h) else if kvs.isEmpty && okT k then .ok (v, h) else .err
    | some (.dtt kvs _) => if okT k then .ok ((lookB k kvs).getD v, h) else .err
    | _ => .err
  | _, _ => .err
def indexL (h : Mem) : PV → List PV → RE
  | .loc n, [x] => match lstAt h n with
    | some ys => if okD h depthB x && ys.all (okD h depthB) then (match ys.findIdx? fun y => eqb h depthB y x with
        | some j => .ok (.int j, h)
        | none => .err) else .err
    | none => .err
  | _, _ => .err
def indexT (h : Mem) : PV → List PV → RE
  | .tup ys, [x] => if okD h depthB x && ys.all (okD h depthB) then (match ys.findIdx? fun y => eqb h depthB y x with
        | some j => .ok (.int j, h)
        | none => .err) else .err
  | _, _ => .err
def popB (h : Mem) : PV → List PV → RE
  | .loc n, [] => match h[n]? with
    | some (.lst xs) => match xs.getLast? with
      | some v => .ok (v, h.set n (.lst xs.dropLast))
      | none => .err
    | _ => .err
  | .loc n, [.int i] => match h[n]? with
    | some (.lst xs) => match ixB xs.length i with
      | some j => match xs[j]? with
        | some v => .ok (v, h.set n (.lst (xs.eraseIdx j)))
        | none => .err
      | none => .err
    | _ => .err
  | _, _ => .err
/-- what a method is asked of -/
inductive Rc | list | tuple | dict
  deriving DecidableEq
def rcB (h : Mem) : PV → Option Rc
  | .tup _ => some .tuple
  | .loc n => match h[n]? with
    | some (.lst _) => some .list
    | some (.ro _) => some .list
    | some (.dct _) => some .dict
    | some (.dtt _ _) => some .dict
    | some (.ins _ _) => none
    | none => none
  | _ => none
/-- the methods that are known -/
def okM : Mf → Rc → Bool
  | .append, .list => true
  | .extend, .list => true
  | .count, .list => true
  | .count, .tuple => true
  | .get, .dict => true
  | .index, .list => true
  | .index, .tuple => true
  | .pop, .list => true
  | _, _ => false
def mthB (n0 : Nat) (h : Mem) (m : Mf) (k : Rc) (o : PV) (vs : List PV) : RE := match m, k with
  | .append, .list => appendB n0 h o vs
  | .extend, .list => extendB n0 h o vs
  | .count, .list => countL h o vs
  | .count, .tuple => countT h o vs
  | .get, .dict => dgetB h o vs
  | .index, .list => indexL h o vs
  | .index, .tuple => indexT h o vs
  | .pop, .list => popB h o vs
  | _, _ => .err

def getB (h : Mem) (o i : PV) : RE := match o, i with
  | .tup xs, .int k => match atB xs k with
    | some v => .ok (v, h)
    | none => .err
  | .loc n, i => match h[n]?, i with
    | some (.lst xs), .int k => match atB xs k with
      | some v => .ok (v, h)
      | none => .err
    | some (.ro xs), .int k => match atB xs k with
      | some v => .ok (v, h)
      | none => .err
    | some (.dct kvs), k => if okKey kvs k then (match lookB k kvs with
        | some v => .ok (v, h)
        | none => .err) else .err
    | some (.dtt kvs _), k => if okT k then (match lookB k kvs with
        | some v => .ok (v, h)
        | none => .err) else .err
    | _, _ => .err
  | _, _ => .err
def setB (n0 : Nat) (h : Mem) (o i v : PV) : Res Mem := match o with
  | .loc n => match h[n]?, i with
    | some (.lst xs), .int k => match ixB xs.length k with
      | some j => if mayB n0 n v then .ok (h.set n (.lst (xs.set j v))) else .err
      | none => .err
    | some (.dct kvs), k => if okKey kvs k then (if mayB n0 n v && decide (kvs.length < sizeB) then .ok (h.set n (.dct (putB k v kvs))) else .err)
      else if kvs.isEmpty && okT k && mayB n0 n v then .ok (h.set n (.dtt [(k, v)] 0)) else .err
    | some (.dtt kvs w), k => if okT k && mayB n0 n v && decide (kvs.length < sizeB) then .ok (h.set n (.dtt (putB k v kvs) (w + 1))) else .err
    | _, _ => .err
  | _ => .err

/-- a bound of a slice -/
def sIxB (n d : Nat) : Option Int → Nat
  | none => d
  | some v => if v < 0 then (v + n).toNat else min v.toNat n
def cutB (xs : List PV) (lo hi : Option Int) : List PV := (xs.drop (sIxB xs.length 0 lo)).take (sIxB xs.length xs.length hi - sIxB xs.length 0 lo)
/-- the first, the last place of a slice with a step -/
def adjB (lo hi : Option Int) (st n : Int) : Int × Int :=
  let dn : Int := if st < 0 then -1 else 0
  let up : Int := if st < 0 then n - 1 else n
  let clip (v : Int) : Int := if v < 0 then max (v + n) dn else min v up
  (match lo with | none => (if st < 0 then up else dn) | some v => clip v, match hi with | none => (if st < 0 then dn else up) | some v => clip v)
def manyB (lo hi st : Int) : Nat := (if st > 0 then (if lo < hi then (hi - lo - 1) / st + 1 else 0) else (if lo > hi then (lo - hi - 1) / (-st) + 1 else 0)).toNat
def pickB (xs : List PV) (lo st : Int) (k : Nat) : List PV := (List.range k).filterMap fun (i : Nat) => xs[(lo + (i : Int) * st).toNat]?
def stepB (xs : List PV) (lo hi st : Option Int) : Option (List PV) := match st with
  | none => some (cutB xs lo hi)
  | some s => if s = 0 ∨ s = 1 then none else if s = -1 && lo.isNone && hi.isNone then some xs.reverse else
      if manyB (adjB lo hi s xs.length).1 (adjB lo hi s xs.length).2 s ≤ sizeB then some (pickB xs (adjB lo hi s xs.length).1 s (manyB (adjB lo hi s xs.length).1 (adjB lo hi s xs.length).2 s)) else none
def oint : Option PV → Option (Option Int)
  | none => some none
  | some (.int i) => if small62 i then some (some i) else none
  | _ => none
def slI (h : Mem) (o : PV) (lo hi st : Option Int) : RE := match o with
  | .tup xs => match stepB xs lo hi st with
    | some ys => .ok (.tup ys, h)
    | none => .err
  | .loc n => match (lstAt h n).bind fun xs => stepB xs lo hi st with
    | some ys => .ok (.loc h.length, h ++ [.lst ys])
    | none => .err
  | _ => .err
def slB (h : Mem) (o : PV) (a b c : Option PV) : RE := match oint a, oint b, oint c with
  | some lo, some hi, some st => slI h o lo hi st
  | _, _, _ => .err

/-! ### what is walked -/
inductive Src where
  | tup (xs : List PV) | lst (n : Nat) | rng (lo : Int) (k : Nat) | zip (a b : Src) | enum (a : Src) | items (n v : Nat) | dn (lo : Int) (k : Nat)
/-- a list or a tuple -/
def Src.seqS : Src → Bool
  | .tup _ | .lst _ => true
  | _ => false
/-- none: it can't be told; some none: the end -/
def Src.at (h : Mem) (i : Nat) : Src → Option (Option PV)
  | .tup xs => some xs[i]?
  | .lst n => (lstAt h n).map fun xs => xs[i]?
  | .rng lo k => if i < k then some (some (.int (lo + i))) else some none
  | .zip a b => match a.at h i, b.at h i with
    | some (some x), some (some y) => some (some (.tup [x, y]))
    | some none, some _ => some none
    | some (some _), some none => some none
    | _, _ => none
  | .enum a => match a.at h i with
    | some (some x) => some (some (.tup [.int i, x]))
    | some none => some none
    | none => none
  | .items n v => match h[n]? with
    | some (.dtt kvs w) => if w = v then some (kvs[i]?.map fun p => .tup [p.1, p.2]) else none
    | _ => none
  | .dn lo k => if i < k then some (some (.int (lo - i))) else some none
def srcB (h : Mem) : PV → Option Src
  | .tup xs => some (.tup xs)
  | .rng lo hi => if small62 lo && small62 hi then some (.rng lo (hi - lo).toNat) else none
  | .loc n => match h[n]? with
    | some (.lst _) => some (.lst n)
    | some (.ro _) => some (.lst n)
    | _ => none
  | _ => none

/-! ### targets -/
mutual
def asgN : TN → PV → Mem → Env → Option Env
  | .name i, v, _, env => if i < env.length then some (env.set i (some v)) else none
  | .tup ts, v, h, env => match v with
    | .tup xs => asgNs ts xs h env
    | _ => none
def asgNs : TNs → List PV → Mem → Env → Option Env
  | .nil, [], _, env => some env
  | .cons t ts, x :: xs, h, env => match asgN t x h env with
    | some e => asgNs ts xs h e
    | none => none
  | _, _, _, _ => none
end
def wipeB (env : Env) : List Nat → Env
  | [] => env
  | i :: r => (wipeB env r).set i none

/-! ### the evaluator -/
structure Cfg where
  call : Nat → List PV → Mem → RE
  has : Nat → Bool
  n0 : Nat
/-- turns of a loop, at most -/
def fuelB : Nat := 1000000000000

/-- the items of a comprehension -/
def lcLoop (step : PV → Mem → Res (Option PV × Mem)) : Nat → Src → Nat → List PV → Mem → Res (List PV × Mem)
  | 0, _, _, _, _ => .err
  | k + 1, src, i, acc, h => match src.at h i with
    | none => .err
    | some none => .ok (acc, h)
    | some (some v) => (step v h).bd fun r => match r.1 with
      | some y => if acc.length < sizeB then lcLoop step k src (i + 1) (acc ++ [y]) r.2 else .err
      | none => lcLoop step k src (i + 1) acc r.2
/-- an exception that would leave a comprehension is not told -/
def Res.still {α : Type} : Res α → Res α
  | .ok a => .ok a
  | _ => .err

/-- t: as a test -/
def fin (t : Bool) (r : RE) : RE := if t then r.bd (fun q => match truB q.2 q.1 with
  | some b => .ok (.bl b, q.2)
  | none => .err) else r

mutual
def evE (c : Cfg) (env : Env) (t : Bool) : E → Mem → RE
  | .var i, h => fin t (match env[i]? with
    | some (some (.exn _)) => .err
    | some (some v) => .ok (v, h)
    | _ => .err)
  | .lit v, h => fin t (.ok (v, h))
  | .gfn f, h => fin t (.ok (.fn f, h))
  | .tup es, h => fin t ((evEs c env es h).bd fun r => .ok (.tup r.1, r.2))
  | .lst es, h => fin t ((evEs c env es h).bd fun r => .ok (.loc r.2.length, r.2 ++ [.lst r.1]))
  | .dct es, h => fin t ((evEs c env es h).bd fun r => match (twosB r.1).bind (dictB []) with
    | some kvs => .ok (.loc r.2.length, r.2 ++ [.dct kvs])
    | none => .err)
  | .dctT es, h => fin t ((evEs c env es h).bd fun r => match (twosB r.1).bind (dictT []) with
    | some kvs => .ok (.loc r.2.length, r.2 ++ [.dtt kvs 0])
    | none => .err)
  | .bin o a b, h => fin t ((evE c env false a h).bd fun r => (evE c env false b r.2).bd fun q => binB q.2 o r.1 q.1)
  | .neg a, h => fin t ((evE c env false a h).bd fun r => match r.1 with
    | .int i => .ok (.int (-i), r.2)
    | _ => .err)
  | .not a, h => (evE c env true a h).bd fun r => match r.1 with
    | .bl b => .ok (.bl (!b), r.2)
    | _ => .err
  | .cmp o a b, h => fin t ((evE c env false a h).bd fun r => (evE c env false b r.2).bd fun q => cmpB q.2 o r.1 q.1)
  | .chain o p a b d, h => fin t ((evE c env false a h).bd fun r => (evE c env false b r.2).bd fun q => (cmpB q.2 o r.1 q.1).bd fun t => match t.1 with
    | .bl true => (evE c env false d t.2).bd fun u => cmpB u.2 p q.1 u.1
    | .bl false => .ok (.bl false, t.2)
    | _ => .err)
  | .and a b, h => (evE c env t a h).bd fun r => match truB r.2 r.1 with
    | some true => evE c env t b r.2
    | some false => .ok r
    | none => .err
  | .or a b, h => (evE c env t a h).bd fun r => match truB r.2 r.1 with
    | some true => .ok r
    | some false => evE c env t b r.2
    | none => .err
  | .ite g a b, h => (evE c env true g h).bd fun r => match r.1 with
    | .bl true => evE c env t a r.2
    | .bl false => evE c env t b r.2
    | _ => .err
  | .call f es, h => fin t (if c.has f then (evEs c env es h).bd fun r => c.call f r.1 r.2 else .err)
  | .callK f ps ks perm, h => fin t (if c.has f then (evEs c env ps h).bd fun r => (evEs c env ks r.2).bd fun q => c.call f (perm.map fun j => (r.1 ++ q.1).getD j .non) q.2 else .err)
  | .callV i es, h => fin t (match env[i]? with
    | some (some (.fn f)) => if c.has f then (evEs c env es h).bd fun r => c.call f r.1 r.2 else .err
    | _ => .err)
  | .blt b es, h => fin t ((evEs c env es h).bd fun r => bltB r.2 b r.1)
  | .mth m o es, h => fin t ((evE c env false o h).bd fun r => match rcB r.2 r.1 with
    | some k => if okM m k then (evEs c env es r.2).bd fun q => mthB c.n0 q.2 m k r.1 q.1 else .err
    | none => .err)
  | .ix o i, h => fin t ((evE c env false o h).bd fun r => (evE c env false i r.2).bd fun q => getB q.2 r.1 q.1)
  | .sl o a b d, h => fin t ((evE c env false o h).bd fun r => (evO c env a r.2).bd fun q => (evO c env b q.2).bd fun t => (evO c env d t.2).bd fun u => slB u.2 r.1 q.1 t.1 u.1)
  | .lc p own it cond elt, h => fin t ((evI c env it h).bd fun r => (lcLoop (fun v h1 => match asgN p v h1 (wipeB env own) with
      | none => .err
      | some e => (evC c e cond h1).bd fun t => if t.1 then (evE c e false elt t.2).bd fun y => .ok (some y.1, y.2) else .ok (none, t.2)) fuelB r.1 0 [] r.2).still.bd fun q => .ok (.loc q.2.length, q.2 ++ [.lst q.1]))
  | .isX i k, h => fin t (match env[i]? with
    | some (some (.exn j)) => .ok (.bl (j == k || (k == 0 && j != 6)), h)
    | _ => .err)
def evEs (c : Cfg) (env : Env) : Es → Mem → Res (List PV × Mem)
  | .nil, h => .ok ([], h)
  | .cons e es, h => (evE c env false e h).bd fun r => (evEs c env es r.2).bd fun q => .ok (r.1 :: q.1, q.2)
/-- a part of a slice -/
def evO (c : Cfg) (env : Env) : Oe → Mem → Res (Option PV × Mem)
  | .no, h => .ok (none, h)
  | .one e, h => (evE c env false e h).bd fun r => .ok (some r.1, r.2)
/-- a comprehension's test -/
def evC (c : Cfg) (env : Env) : Oe → Mem → Res (Bool × Mem)
  | .no, h => .ok (true, h)
  | .one e, h => (evE c env true e h).bd fun r => match r.1 with
    | .bl b => .ok (b, r.2)
    | _ => .err
def evI (c : Cfg) (env : Env) : It → Mem → Res (Src × Mem)
  | .plain e, h => (evE c env false e h).bd fun r => match srcB r.2 r.1 with
    | some s => .ok (s, r.2)
    | none => .err
  | .zip a b, h => (evE c env false a h).bd fun r => (evE c env false b r.2).bd fun q => match srcB q.2 r.1, srcB q.2 q.1 with
    | some s, some t => if s.seqS && t.seqS then .ok (.zip s t, q.2) else .err
    | _, _ => .err
  | .enum a, h => (evE c env false a h).bd fun r => match srcB r.2 r.1 with
    | some s => if s.seqS then .ok (.enum s, r.2) else .err
    | none => .err
  | .items d, h => (evE c env false d h).bd fun r => match r.1 with
    | .loc n => match r.2[n]? with
      | some (.dtt _ v) => .ok (.items n v, r.2)
      | some (.dct []) => .ok (.items n 0, r.2.set n (.dtt [] 0))
      | _ => .err
    | _ => .err
  | .rng3 es, h => (evEs c env es h).bd fun r => match r.1 with
    | [.int i, .int j, .int k] => if k == -1 && small62 i && small62 j then .ok (.dn i (i - j).toNat, r.2) else .err
    | _ => .err
end

/-! ### statements -/
inductive SR where
  | nxt (e : Env) (h : Mem) | ret (v : PV) (h : Mem) | brk (e : Env) (h : Mem) | cnt (e : Env) (h : Mem) | exc (c : Nat) (e : Env) (h : Mem) | err
def Res.sr {α : Type} (r : Res α) (env : Env) (f : α → SR) : SR := match r with
  | .ok a => f a
  | .exc c h => .exc c env h
  | .err => .err
@[simp] theorem Res.sr_ok {α : Type} (a : α) (env : Env) (f : α → SR) : (Res.ok a).sr env f = f a := rfl
@[simp] theorem Res.sr_exc {α : Type} (c : Nat) (h : Mem) (env : Env) (f : α → SR) : (Res.exc c h : Res α).sr env f = .exc c env h := rfl
@[simp] theorem Res.sr_err {α : Type} (env : Env) (f : α → SR) : (Res.err : Res α).sr env f = .err := rfl

def storeT (c : Cfg) (env : Env) (v : PV) (h : Mem) : T → SR
  | .pat p => match asgN p v h env with
    | some e => .nxt e h
    | none => .err
  | .ix o i => (evE c env false o h).sr env fun r => (evE c env false i r.2).sr env fun q => (setB c.n0 q.2 r.1 q.1 v).sr env fun h2 => .nxt env h2
  | .ix2 o i p j => match v with
    | .tup [x, y] => (evE c env false o h).sr env fun r => (evE c env false i r.2).sr env fun q => (setB c.n0 q.2 r.1 q.1 x).sr env fun h2 =>
        (evE c env false p h2).sr env fun r => (evE c env false j r.2).sr env fun q => (setB c.n0 q.2 r.1 q.1 y).sr env fun h3 => .nxt env h3
    | _ => .err

def forLoop (step : PV → Env → Mem → SR) : Nat → Src → Nat → Env → Mem → SR
  | 0, _, _, _, _ => .err
  | k + 1, src, i, env, h => match src.at h i with
    | none => .err
    | some none => .nxt env h
    | some (some v) => match step v env h with
      | .nxt e h1 => forLoop step k src (i + 1) e h1
      | .cnt e h1 => forLoop step k src (i + 1) e h1
      | .brk e h1 => .nxt e h1
      | r => r
def whileLoop (test : Env → Mem → RE) (body : Env → Mem → SR) : Nat → Env → Mem → SR
  | 0, _, _ => .err
  | k + 1, env, h => (test env h).sr env fun r => match r.1 with
    | .bl true => match body env r.2 with
      | .nxt e h1 => whileLoop test body k e h1
      | .cnt e h1 => whileLoop test body k e h1
      | .brk e h1 => .nxt e h1
      | r => r
    | .bl false => .nxt env r.2
    | _ => .err

/-- no exception in hand -/
def noX (env : Env) : Bool := env.all fun o => match o with
  | some (.exn _) => false
  | _ => true
/-- behind an except suite: what it raises is not told -/
def SR.calm : SR → SR
  | .exc _ _ _ => .err
  | r => r
/-- the exception's slot is emptied -/
def SR.drop (n : Nat) : SR → SR
  | .nxt e h => if noX (e.set n none) then .nxt (e.set n none) h else .err
  | .brk e h => if noX (e.set n none) then .brk (e.set n none) h else .err
  | .cnt e h => if noX (e.set n none) then .cnt (e.set n none) h else .err
  | .ret v h => .ret v h
  | _ => .err
mutual
def evS (c : Cfg) : S → Env → Mem → SR
  | .asg t e, env, h => (evE c env false e h).sr env fun r => storeT c env r.1 r.2 t
  | .aug i o e, env, h => match env[i]? with
    | some (some x) => (evE c env false e h).sr env fun r => (augB r.2 o x r.1).sr env fun q => .nxt (env.set i (some q.1)) q.2
    | _ => .err
  | .augX a i o e, env, h => (evE c env false a h).sr env fun r => (evE c env false i r.2).sr env fun q => (getB q.2 r.1 q.1).sr env fun x => (evE c env false e x.2).sr env fun y =>
      (augB y.2 o x.1 y.1).sr env fun z => (setB c.n0 z.2 r.1 q.1 z.1).sr env fun h2 => .nxt env h2
  | .expr e, env, h => (evE c env false e h).sr env fun r => .nxt env r.2
  | .ite g a b, env, h => (evE c env true g h).sr env fun r => match r.1 with
    | .bl true => evSs c a env r.2
    | .bl false => evSs c b env r.2
    | _ => .err
  | .for_ p it body, env, h => (evI c env it h).sr env fun r => forLoop (fun v e h1 => match asgN p v h1 e with
    | none => .err
    | some e2 => evSs c body e2 h1) fuelB r.1 0 env r.2
  | .while_ g body, env, h => whileLoop (fun e h1 => evE c e true g h1) (fun e h1 => evSs c body e h1) fuelB env h
  | .ret e, env, h => (evE c env false e h).sr env fun r => .ret r.1 r.2
  | .brk, env, h => .brk env h
  | .cnt, env, h => .cnt env h
  | .pass, env, h => .nxt env h
  | .raise k, env, h => .exc k env h
  | .try_ body hs, env, h => match evSs c body env h with
    | .exc k e h1 => evH c k hs e h1
    | r => r
def evSs (c : Cfg) : Ss → Env → Mem → SR
  | .nil, env, h => .nxt env h
  | .cons s ss, env, h => match evS c s env h with
    | .nxt e h1 => evSs c ss e h1
    | r => r
def evH (c : Cfg) (k : Nat) : Hs → Env → Mem → SR
  | .nil, env, h => .err
  | .cons j i body hs, env, h => if j == k then (match i with
      | none => (evSs c body env h).calm
      | some n => if noX env then (evSs c body (env.set n (some (.exn k))) h).drop n else .err)
    else evH c k hs env h
end

/-! ### functions -/
structure Fn where
  np : Nat
  ns : Nat
  body : Ss

/-- behind a call: what the call made is dropped where nothing of it can be met -/
def gcB (n0 : Nat) (v : PV) (h : Mem) : RE :=
  if v.pure then .ok (v, h.take n0) else match v with
    | .loc p => if p < n0 then .ok (v, h.take n0) else match h[p]? with
      | some (.lst xs) => if PV.pures xs then .ok (.loc n0, h.take n0 ++ [.lst xs]) else .ok (v, h)
      | some (.dct kvs) => if (kvs.all fun q => q.1.pure && q.2.pure) then .ok (.loc n0, h.take n0 ++ [.dct kvs]) else .ok (v, h)
      | some (.dtt kvs w) => if (kvs.all fun q => q.1.pure && q.2.pure) then .ok (.loc n0, h.take n0 ++ [.dtt kvs w]) else .ok (v, h)
      | _ => .ok (v, h)
    | _ => .ok (v, h)
mutual
/-- behind a call that met nothing of the caller's memory: its objects stand behind the caller's, k of them -/
def PV.up (k : Nat) : PV → PV
  | .tup xs => .tup (PV.ups k xs)
  | .loc n => .loc (n + k)
  | x => x
def PV.ups (k : Nat) : List PV → List PV
  | [] => []
  | x :: xs => PV.up k x :: PV.ups k xs
end
def PO.up (k : Nat) : PO → PO
  | .lst xs => .lst (PV.ups k xs)
  | .ro xs => .ro (PV.ups k xs)
  | .dct kvs => .dct (kvs.map fun q => (q.1.up k, q.2.up k))
  | .ins c fs => .ins c (fs.map fun q => (q.1, q.2.up k))
  | .dtt kvs w => .dtt (kvs.map fun q => (q.1.up k, q.2.up k)) w
/-- v with what a call on an empty memory made, at the end of m -/
def liftB (v : PV) (h m : Mem) : RE :=
  if v.pure then .ok (v, m) else match gcB 0 v h with
    | .ok (z, h2) => .ok (z.up m.length, m ++ h2.map (PO.up m.length))
    | _ => .err
def startB (f : Fn) (args : List PV) : Env := args.map some ++ List.replicate (f.ns - f.np) none
def callAt (tab : Nat → Option Fn) : Nat → Nat → List PV → Mem → RE
  | 0, _, _, _ => .err
  | d + 1, f, args, h => match tab f with
    | none => .err
    | some fn => if args.length = fn.np then (
        if PV.pures args then (match evSs ⟨callAt tab d, fun i => (tab i).isSome, 0⟩ fn.body (startB fn args) [] with
        | .nxt _ _ => .ok (.non, h)
        | .ret v h1 => liftB v h1 h
        | .exc k _ _ => .exc k h
        | _ => .err) else (match evSs ⟨callAt tab d, fun i => (tab i).isSome, h.length⟩ fn.body (startB fn args) h with
        | .nxt _ h1 => gcB h.length .non h1
        | .ret v h1 => gcB h.length v h1
        | .exc k _ h1 => .exc k (h1.take h.length)
        | _ => .err)) else .err

end Dp
set_option Elab.async false
set_option linter.all false
set_option maxRecDepth 100000
/-! Dp2: a piece of the row's own text against the small language. -/
namespace Dp
open PySem PySem.Spec PyProof.Rows L2

/-- what a text is read by: the names with slots, the scope that runs, the stores that are let, the functions, the numbers and the errors of the module -/
structure CC where
  N : List Str
  sc : Scope
  fnB : Str → Bool
  fns : Str → Option Nat
  cns : Str → Option Int
  exs : Str → Option Nat
  /-- calls with keywords that are let: the function, how many stand by place, the keywords' names, the order -/
  kwl : List (Nat × Nat × List Str × List Nat)
  /-- an except suite: nothing that walks or calls -/
  quiet : Bool := false

def starB : Expr → Bool
  | .Starred _ _ => false
  | _ => true
def sliceB : Expr → Bool
  | .Slice _ _ _ _ => false
  | _ => true
def baseB : Expr → Bool
  | .Call (.Name _ _) [] [] _ => false
  | _ => true
def setsB : Expr → Bool
  | .Set _ _ _ => false
  | _ => true
/-- built-ins that an except suite may call -/
def stillB : Bf → Bool
  | .len | .abs | .int | .isi _ => true
  | _ => false
/-- built-ins that are proved -/
def haveB : Bf → Bool
  | .len | .abs | .all | .any | .int | .list | .max | .min | .range | .sorted | .sum | .tuple | .dict => true
  | _ => false

def plainN (x : Str) : Bool := !(x == ("__debug__" : Str)) && !(x == ("__classdict__" : Str)) && !(x == ("__name__" : Str))
def kindB (c : CC) (x : Str) : Option NameKind := c.sc.names.lookup x
def visB (c : CC) (x : Str) : Bool := match kindB c x with
  | some .local | some .cell | some .free => true
  | _ => false
def locB (c : CC) (x : Str) : Bool := match kindB c x with
  | some .local => true
  | some .cell => c.fnB x
  | _ => false
def gloB (c : CC) (x : Str) : Bool := kindB c x == some .globalImplicit
def slotB (c : CC) (i : Nat) (x : Str) : Bool := (match c.N[i]? with | some y => decide (y = x) | none => false) && plainN x
/-- a global name that is no name of the module: a built-in's -/
def bltB1 (c : CC) (x : Str) (y : Str) : Bool := decide (x = y) && gloB c x

def opB : Op → Operator → Bool
  | .add, .Add | .sub, .Sub | .mul, .Mult | .fdiv, .FloorDiv | .mod, .Mod | .pow, .Pow | .shl, .LShift | .shr, .RShift => true
  | _, _ => false
def cpB : Cp → CmpOp → Bool
  | .eq, .Eq | .ne, .NotEq | .lt, .Lt | .le, .LtE | .gt, .Gt | .ge, .GtE | .isN, .Is | .notN, .IsNot | .isT, .Is | .notT, .IsNot | .mem, .In | .nmem, .NotIn => true
  | _, _ => false
def bfName : Bf → Str
  | .len => "len" | .abs => "abs" | .all => "all" | .any => "any" | .int => "int" | .list => "list" | .max => "max" | .min => "min" | .range => "range"
  | .sorted => "sorted" | .sum => "sum" | .tuple => "tuple" | .dict => "dict" | .sset => "sorted" | .lset => "len" | .sitems => "sorted" | .isi _ => "isinstance"
def mfName : Mf → Str
  | .append => "append" | .count => "count" | .extend => "extend" | .get => "get" | .index => "index" | .pop => "pop"
def tyB (c : CC) : Ty → Expr → Bool
  | .int, .Name x _ => bltB1 c x "int"
  | .bool, .Name x _ => bltB1 c x "bool"
  | .tuple, .Name x _ => bltB1 c x "tuple"
  | .list, .Name x _ => bltB1 c x "list"
  | .str, .Name x _ => bltB1 c x "str"
  | .seq, .Tuple [.Name x _, .Name y _] _ _ => bltB1 c x "list" && bltB1 c y "tuple"
  | .bs, .Tuple [.Name x _, .Name y _] _ _ => bltB1 c x "bool" && bltB1 c y "str"
  | _, _ => false

mutual
def chkN (c : CC) : TN → Expr → Bool
  | .name i, .Name x _ => slotB c i x && locB c x
  | .tup ts, .Tuple es _ _ => !c.quiet && chkNs c ts es
  | _, _ => false
def chkNs (c : CC) : TNs → List Expr → Bool
  | .nil, [] => true
  | .cons t ts, e :: es => starB e && chkN c t e && chkNs c ts es
  | _, _ => false
end
mutual
/-- the slots of a target are among these -/
def inN (own : List Nat) : TN → Bool
  | .name i => own.contains i
  | .tup ts => inNs own ts
def inNs (own : List Nat) : TNs → Bool
  | .nil => true
  | .cons t ts => inN own t && inNs own ts
end
/-- the comprehension's own names with their slots -/
def ownB (c : CC) (own : List Nat) : List (Str × Nat) := own.map fun i => (c.N.getD i "", i)
def inner (c : CC) (scope : Scope) : CC := { c with sc := relS scope c.sc, fnB := fun x => scope.names.lookup x == some .cell }

mutual
def chkE (c : CC) : E → Expr → Bool
  | .var i, .Name x _ => slotB c i x && visB c x
  | .lit (.int k), .Constant (.int j) _ _ => k == j
  | .lit (.int k), .Name x _ => gloB c x && plainN x && c.cns x == some k
  | .lit (.bl b), .Constant (.bool d) _ _ => b == d
  | .lit .non, .Constant .none _ _ => true
  | .lit (.str s), .Constant (.str x) _ _ => decide (s = x.cps.toList)
  | .gfn f, .Name x _ => gloB c x && plainN x && c.fns x == some f
  | .tup es, .Tuple xs _ _ => chkEs c es xs && decide (xs.length ≤ 1000)
  | .lst es, .List xs _ => chkEs c es xs && decide (xs.length ≤ 1000)
  | .dct es, .Dict xs ys _ => chkOs c es xs ys && decide (xs.length ≤ 15)
  | .dctT es, .Dict xs ys _ => chkOs c es xs ys && !xs.isEmpty && decide (xs.length ≤ 15)
  | .bin o a b, .BinOp x p y _ => opB o p && chkE c a x && chkE c b y
  | .neg a, .UnaryOp .USub x _ => chkE c a x
  | .not a, .UnaryOp .Not x _ => chkE c a x
  | .cmp o a b, .Compare x [p] [y] _ => cpB o p && chkE c a x && chkE c b y && !(behindInMarks p y)
  | .chain o q a b d, .Compare x [p, r] [y, z] _ => cpB o p && cpB q r && chkE c a x && chkE c b y && chkE c d z && !(lastMarks [p, r] [y, z])
  | .and a b, .BoolOp .And (x :: y :: r) p => chkE c a x && (match r with | [] => chkE c b y | _ => chkE c b (.BoolOp .And (y :: r) p))
  | .or a b, .BoolOp .Or (x :: y :: r) p => chkE c a x && (match r with | [] => chkE c b y | _ => chkE c b (.BoolOp .Or (y :: r) p))
  | .ite g a b, .IfExp x y z _ => chkE c g x && chkE c a y && chkE c b z
  | .call f es, .Call (.Name x _) xs [] _ => !c.quiet && gloB c x && plainN x && c.fns x == some f && chkEs c es xs
  | .callK f ps ks perm, .Call (.Name x _) xs kws _ => !c.quiet && gloB c x && plainN x && c.fns x == some f && chkEs c ps xs && chkKs c ks kws && c.kwl.contains (f, xs.length, kws.filterMap (·.arg), perm)
  | .callV i es, .Call (.Name x _) xs [] _ => !c.quiet && slotB c i x && visB c x && chkEs c es xs && !xs.isEmpty
  | .blt (.isi t) (.cons a .nil), .Call (.Name f _) [x, y] [] _ => bltB1 c f "isinstance" && chkE c a x && starB x && tyB c t y
  | .blt .sset (.cons a .nil), .Call (.Name f _) [.Call (.Name f2 _) [x] [] _] [] _ => !c.quiet && bltB1 c f "sorted" && bltB1 c f2 "set" && starB x && chkE c a x
  | .blt .lset (.cons a .nil), .Call (.Name f _) [.Call (.Name f2 _) [x] [] _] [] _ => !c.quiet && bltB1 c f "len" && bltB1 c f2 "set" && starB x && chkE c a x
  | .blt b es, .Call (.Name f _) xs [] _ => bltB1 c f (bfName b) && chkEs c es xs && !xs.isEmpty && haveB b && (stillB b || !c.quiet)
  | .mth m o es, .Call (.Attribute x f apos) xs [] cpos => decide (f = mfName m) && chkE c o x && chkEs c es xs && baseB x && apos.endLine == cpos.line && decide (xs.length < 29)
  | .ix o i, .Subscript x y _ => chkE c o x && chkE c i y && sliceB y
  | .sl o a b d, .Subscript x (.Slice lo hi st _) _ => chkE c o x && chkO c a lo && chkO c b hi && chkO c d st
  | .isX i k, .Call (.Name f _) [.Name x _, .Name y _] [] _ => c.quiet && bltB1 c f "isinstance" && slotB c i x && visB c x && gloB c y && plainN y && ((decide (y = "ValueError") && k == 0) || (c.exs y == some k && k != 0))
  | .lc p own it cond elt, .ListComp e [⟨tg, iter, ifs, 0⟩] scope _ => !c.quiet && blkC c.N c.sc scope (ownB c own) && inN own p && chkN (inner c scope) p tg && chkI c it tg iter && setsB iter && chkC (inner c scope) cond ifs && chkE (inner c scope) elt e
  | _, _ => false
def chkEs (c : CC) : Es → List Expr → Bool
  | .nil, [] => true
  | .cons e es, x :: xs => starB x && chkE c e x && chkEs c es xs
  | _, _ => false
def chkOs (c : CC) : Es → List (Option Expr) → List Expr → Bool
  | .nil, [], [] => true
  | .cons k (.cons v es), some x :: xs, y :: ys => chkE c k x && chkE c v y && chkOs c es xs ys
  | _, _, _ => false
def chkKs (c : CC) : Es → List Keyword → Bool
  | .nil, [] => true
  | .cons e es, ⟨some _, x, _⟩ :: xs => chkE c e x && chkKs c es xs
  | _, _ => false
def chkO (c : CC) : Oe → Option Expr → Bool
  | .no, none => true
  | .one e, some x => chkE c e x
  | _, _ => false
def chkC (c : CC) : Oe → List Expr → Bool
  | .no, [] => true
  | .one e, [x] => chkE c e x
  | _, _ => false
/-- what is walked; tg: the loop's target -/
def chkI (c : CC) : It → Expr → Expr → Bool
  | .plain e, _, x => chkE c e x
  | .rng3 es, _, .Call (.Name f _) [x, y, z] [] _ => bltB1 c f "range" && chkEs c es [x, y, z]
  | .zip a b, .Tuple _ _ _, .Call (.Name f _) [x, y] [] _ => bltB1 c f "zip" && starB x && starB y && chkE c a x && chkE c b y
  | .enum a, .Tuple _ _ _, .Call (.Name f _) [x] [] _ => bltB1 c f "enumerate" && starB x && chkE c a x
  | .items d, .Tuple _ _ _, .Call (.Attribute x m _) [] [] _ => false && decide (m = "items") && chkE c d x
  | _, _, _ => false
end

/-- two or three plain local names on one line, a written tuple: stored from the right (some some: these); none: not told -/
def swapQ (c : CC) : Expr → Expr → Option (Option (List Str))
  | .Tuple ts _ _, .Tuple vs _ _ =>
    if (!(ts.length == 2 || ts.length == 3) || vs.length != ts.length) = true then some none
    else if (vs.any fun | .Starred .. => true | _ => false) = true then some none
    else
      let line := (ts.head?.map (·.pos.line)).getD 0
      let names := ts.filterMap fun
        | .Name id pos => if (kindB c id == some .local && pos.line == line) = true then some id else none
        | _ => none
      if (names.length != ts.length || names.eraseDups.length != names.length) = true then some none
      else if vs.all (foldedForSure 8) = true then some none
      else if vs.all (constantsAlone 8) = true then none
      else some (some names)
  | .List _ _, .Tuple _ _ _ => none
  | _, _ => some none
/-- a comprehension that the store of a name takes over -/
def takeB (c : CC) (e t : Expr) : Bool := match e, t with
  | .ListComp _ _ scope pos, .Name y py => kindB c y == some .local && py.line == pos.line && !(scope.names.any fun (n, k) => n == y && (k == .local || k == .cell))
  | _, _ => false
/-- other comprehensions are not stored -/
def compB : Expr → Bool
  | .SetComp _ _ _ _ | .DictComp _ _ _ _ _ => true
  | _ => false
def nameOf : Expr → Str
  | .Name x _ => x
  | _ => ""
def locN (c : CC) : Expr → Bool
  | .Name x _ => kindB c x == some .local
  | _ => false
def namesT : TNs → Option (List Nat)
  | .nil => some []
  | .cons (.name i) ts => (namesT ts).map (i :: ·)
  | _ => none
def chkT (c : CC) : T → Expr → Bool
  | .pat p, x => chkN c p x
  | .ix o i, .Subscript x y _ => chkE c o x && chkE c i y && sliceB y
  | .ix2 o i p j, .Tuple [.Subscript x y _, .Subscript z w _] _ _ => !c.quiet && chkE c o x && chkE c i y && chkE c p z && chkE c j w && sliceB y && sliceB w
  | _, _ => false

def notC : Expr → Bool
  | .ListComp _ _ _ _ | .SetComp _ _ _ _ | .DictComp _ _ _ _ _ => false
  | _ => true
/-- what is stored from the right: these plain names, each once, two or three -/
def swapN (c : CC) (t : T) (x : Expr) (ns : List Str) : Bool := match t, x with
  | .pat (.tup ts), .Tuple xs _ _ => decide (ns = xs.map nameOf) && xs.all (locN c) && (xs.length == 2 || xs.length == 3) && (match namesT ts with | some l => decide l.Nodup | none => false)
  | _, _ => false

mutual
def chkS (c : CC) : S → Stmt → Bool
  | .asg t e, .Assign [x] v _ => chkT c t x && chkE c e v && starB x && !(compB v) && (if takeB c v x then true else match swapQ c x v with
      | some none => true
      | some (some ns) => !c.quiet && swapN c t x ns
      | none => false)
  | .aug i o e, .AugAssign (.Name x _) p v _ => slotB c i x && locB c x && opB o p && chkE c e v
  | .augX a i o e, .AugAssign (.Subscript x y _) p v _ => chkE c a x && chkE c i y && opB o p && chkE c e v && sliceB y
  | .expr e, .Expr v _ => chkE c e v && notC v
  | .ite g a b, .If x y z _ => chkE c g x && chkSs c a y && chkSs c b z
  | .for_ p it body, .For tg iter b [] _ => !c.quiet && chkN c p tg && chkI c it tg iter && setsB iter && chkSs c body b
  | .while_ g body, .While x b [] _ => !c.quiet && chkE c g x && chkSs c body b
  | .ret e, .Return (some v) _ => chkE c e v
  | .brk, .Break _ => true
  | .cnt, .Continue _ => true
  | .pass, .Pass _ => true
  | .raise k, .Raise (some (.Call (.Name x _) [] [] _)) none _ => !c.quiet && gloB c x && plainN x && c.exs x == some k
  | .try_ body (.cons k (some j) hb .nil), .Try b [.ExceptHandler (some (.Name x _)) (some y) (s0 :: ss) _] [] [] _ => !c.quiet && chkSs c body b && gloB c x && plainN x && c.exs x == some k && slotB c j y && kindB c y == some .local && chkSs { c with quiet := true } hb (s0 :: ss)
  | _, _ => false
def chkSs (c : CC) : Ss → List Stmt → Bool
  | .nil, [] => true
  | .cons s ss, x :: xs => chkS c s x && chkSs c ss xs
  | _, _ => false
end

end Dp
set_option Elab.async false
set_option linter.all false
set_option maxRecDepth 100000
/-! Dp3: how the small language's values and memory lie in the row's heap. -/
namespace Dp
open PySem PySem.Spec PyProof.Rows L2

/-! ### values below a place -/
mutual
def PV.lt (n : Nat) : PV → Bool
  | .tup xs => PV.lts n xs
  | .loc p => decide (p < n)
  | _ => true
def PV.lts (n : Nat) : List PV → Bool
  | [] => true
  | x :: xs => PV.lt n x && PV.lts n xs
end
def PO.lt (n : Nat) : PO → Bool
  | .lst xs => PV.lts n xs
  | .ro xs => PV.lts n xs
  | .dct kvs => kvs.all fun q => q.1.lt n && q.2.lt n
  | .ins _ fs => fs.all fun q => q.2.lt n
  | .dtt kvs _ => kvs.all fun q => q.1.lt n && q.2.lt n
def Bd (m : Mem) (n : Nat) : Prop := ∀ p o, p < n → m[p]? = some o → o.lt n = true

mutual
theorem PV.lt_pure (n : Nat) : ∀ x : PV, x.pure = true → x.lt n = true
  | .tup xs, h => by unfold PV.lt; unfold PV.pure at h; exact PV.lts_pure n xs h
  | .loc p, h => by unfold PV.pure at h; cases h
  | .non, _ => rfl
  | .bl _, _ => rfl
  | .int _, _ => rfl
  | .str _, _ => rfl
  | .rng _ _, _ => rfl
  | .fn _, _ => rfl
  | .exn _, _ => rfl
theorem PV.lts_pure (n : Nat) : ∀ xs : List PV, PV.pures xs = true → PV.lts n xs = true
  | [], _ => rfl
  | x :: xs, h => by
    unfold PV.pures at h
    unfold PV.lts
    rw [Bool.and_eq_true] at h ⊢
    exact ⟨PV.lt_pure n x h.1, PV.lts_pure n xs h.2⟩
end
theorem PV.lts_all (n : Nat) : ∀ xs : List PV, PV.lts n xs = xs.all (PV.lt n)
  | [] => rfl
  | x :: xs => by unfold PV.lts; rw [PV.lts_all n xs]; rfl
theorem PV.pures_all : ∀ xs : List PV, PV.pures xs = xs.all PV.pure
  | [] => rfl
  | x :: xs => by unfold PV.pures; rw [PV.pures_all xs]; rfl
mutual
theorem PV.lt_mono {n k : Nat} (h : n ≤ k) : ∀ x : PV, x.lt n = true → x.lt k = true
  | .tup xs, q => by unfold PV.lt at q ⊢; exact PV.lts_mono h xs q
  | .loc p, q => by unfold PV.lt at q ⊢; exact decide_eq_true (Nat.lt_of_lt_of_le (of_decide_eq_true q) h)
  | .non, _ => rfl
  | .bl _, _ => rfl
  | .int _, _ => rfl
  | .str _, _ => rfl
  | .rng _ _, _ => rfl
  | .fn _, _ => rfl
  | .exn _, _ => rfl
theorem PV.lts_mono {n k : Nat} (h : n ≤ k) : ∀ xs : List PV, PV.lts n xs = true → PV.lts k xs = true
  | [], _ => rfl
  | x :: xs, q => by
    unfold PV.lts at q ⊢
    rw [Bool.and_eq_true] at q ⊢
    exact ⟨PV.lt_mono h x q.1, PV.lts_mono h xs q.2⟩
end

/-! ### values in the row's heap -/
mutual
inductive RV (fa ρ : Nat → Addr) (L : Nat) (H : L2.Hp) : PV → V → Prop
  | non : RV fa ρ L H .non .non
  | bl (b : Bool) : RV fa ρ L H (.bl b) (.bl b)
  | int (i : Int) : RV fa ρ L H (.int i) (.int i)
  | str (x : Str) : RV fa ρ L H (.str x.cps.toList) (.str x)
  | tup {a : Addr} {o : Obj} {vs : List V} {xs : List PV} : H a = some (.frz o (.tup vs)) → o.dict = none ∧ o.slots = #[] → RVs fa ρ L H xs vs → RV fa ρ L H (.tup xs) (.ref a)
  | rng {a : Addr} {lo hi : Int} : H a = some (.rng lo hi) → RV fa ρ L H (.rng lo hi) (.ref a)
  | loc {n : Nat} : n < L → RV fa ρ L H (.loc n) (.ref (ρ n))
  | fn (n : Nat) : RV fa ρ L H (.fn n) (.ref (fa n))
inductive RVs (fa ρ : Nat → Addr) (L : Nat) (H : L2.Hp) : List PV → List V → Prop
  | nil : RVs fa ρ L H [] []
  | cons {x : PV} {v : V} {xs : List PV} {vs : List V} : RV fa ρ L H x v → RVs fa ρ L H xs vs → RVs fa ρ L H (x :: xs) (v :: vs)
end
structure Keep (H H' : L2.Hp) : Prop where
  rng : ∀ a lo hi, H a = some (.rng lo hi) → H' a = some (.rng lo hi)
  frz : ∀ a o u, H a = some (.frz o u) → H' a = some (.frz o u)
theorem Keep.refl (H : L2.Hp) : Keep H H := ⟨fun _ _ _ h => h, fun _ _ _ h => h⟩
theorem Keep.trans {H H1 H2 : L2.Hp} (a : Keep H H1) (b : Keep H1 H2) : Keep H H2 := ⟨fun c x y h => b.rng _ _ _ (a.rng c x y h), fun c x y h => b.frz _ _ _ (a.frz c x y h)⟩
theorem Keep.same {H H' : L2.Hp} (s : Same H H') : Keep H H' := ⟨fun _ _ _ h => s _ _ h, fun _ _ _ h => s _ _ h⟩
theorem same_new {H : L2.Hp} {p : Addr} {o : HO} (h : H p = none) : Same H (upd H p o) := fun b x e => by rw [upd_ne (ne_of_none e h)]; exact e
theorem Keep.new {H : L2.Hp} {p : Addr} {o : HO} (h : H p = none) : Keep H (upd H p o) := .same (same_new h)
/-- a list, a dict is written -/
theorem Keep.write {H : L2.Hp} {p : Addr} {o u : HO} (h : H p = some u) (h2 : ∀ lo hi, u ≠ .rng lo hi) (h3 : ∀ a b, u ≠ .frz a b) : Keep H (upd H p o) :=
  ⟨fun a x y e => by rw [upd_ne (ne_of e h (fun z => h2 _ _ z.symm))]; exact e, fun a x y e => by rw [upd_ne (ne_of e h (fun z => h3 _ _ z.symm))]; exact e⟩

section
variable {fa ρ ρ' : Nat → Addr} {L L' : Nat} {H H' : L2.Hp}
mutual
theorem RV.mono (hr : ∀ n, n < L → ρ' n = ρ n) (hl : L ≤ L') (hk : Keep H H') : ∀ (x : PV) (v : V), RV fa ρ L H x v → RV fa ρ' L' H' x v
  | .non, _, h => by cases h; exact .non
  | .bl _, _, h => by cases h; exact .bl _
  | .int _, _, h => by cases h; exact .int _
  | .str _, _, h => by cases h; exact .str _
  | .tup xs, _, h => by
    cases h with
    | tup e d r => exact .tup (hk.frz _ _ _ e) d (RVs.mono hr hl hk xs _ r)
  | .rng _ _, _, h => by
    cases h with
    | rng e => exact .rng (hk.rng _ _ _ e)
  | .loc n, _, h => by
    cases h with
    | loc e => rw [← hr n e]; exact .loc (Nat.lt_of_lt_of_le e hl)
  | .fn _, _, h => by cases h; exact .fn _
  | .exn _, _, h => by cases h
theorem RVs.mono (hr : ∀ n, n < L → ρ' n = ρ n) (hl : L ≤ L') (hk : Keep H H') : ∀ (xs : List PV) (vs : List V), RVs fa ρ L H xs vs → RVs fa ρ' L' H' xs vs
  | [], _, h => by cases h; exact .nil
  | x :: xs, _, h => by
    cases h with
    | cons a b => exact .cons (RV.mono hr hl hk x _ a) (RVs.mono hr hl hk xs _ b)
end
mutual
theorem RV.lt : ∀ (x : PV) (v : V), RV fa ρ L H x v → x.lt L = true
  | .non, _, h => rfl
  | .bl _, _, h => rfl
  | .int _, _, h => rfl
  | .str _, _, h => rfl
  | .tup xs, _, h => by
    cases h with
    | tup e d r => unfold PV.lt; exact RVs.lt xs _ r
  | .rng _ _, _, h => rfl
  | .loc n, _, h => by
    cases h with
    | loc e => unfold PV.lt; exact decide_eq_true e
  | .fn _, _, h => rfl
  | .exn _, _, h => rfl
theorem RVs.lt : ∀ (xs : List PV) (vs : List V), RVs fa ρ L H xs vs → PV.lts L xs = true
  | [], _, h => rfl
  | x :: xs, _, h => by
    cases h with
    | cons a b => unfold PV.lts; rw [RV.lt x _ a, RVs.lt xs _ b]; rfl
end
mutual
/-- nothing at or above n stands within -/
theorem RV.cut {n : Nat} : ∀ (x : PV) (v : V), RV fa ρ L H x v → x.lt n = true → RV fa ρ n H x v
  | .non, _, h, _ => by cases h; exact .non
  | .bl _, _, h, _ => by cases h; exact .bl _
  | .int _, _, h, _ => by cases h; exact .int _
  | .str _, _, h, _ => by cases h; exact .str _
  | .tup xs, _, h, q => by
    cases h with
    | tup e d r => exact .tup e d (RVs.cut xs _ r q)
  | .rng _ _, _, h, _ => by
    cases h with
    | rng e => exact .rng e
  | .loc k, _, h, q => by
    cases h with
    | loc e => exact .loc (of_decide_eq_true q)
  | .fn _, _, h, _ => by cases h; exact .fn _
  | .exn _, _, h, _ => by cases h
theorem RVs.cut {n : Nat} : ∀ (xs : List PV) (vs : List V), RVs fa ρ L H xs vs → PV.lts n xs = true → RVs fa ρ n H xs vs
  | [], _, h, _ => by cases h; exact .nil
  | x :: xs, _, h, q => by
    cases h with
    | cons a b =>
      unfold PV.lts at q
      rw [Bool.and_eq_true] at q
      exact .cons (RV.cut x _ a q.1) (RVs.cut xs _ b q.2)
end
mutual
/-- of a value with nothing of the own memory the places are all one -/
theorem RV.pure {L' : Nat} : ∀ (x : PV) (v : V), RV fa ρ L H x v → x.pure = true → RV fa ρ' L' H x v
  | .non, _, h, _ => by cases h; exact .non
  | .bl _, _, h, _ => by cases h; exact .bl _
  | .int _, _, h, _ => by cases h; exact .int _
  | .str _, _, h, _ => by cases h; exact .str _
  | .tup xs, _, h, q => by
    cases h with
    | tup e d r => exact .tup e d (RVs.pure xs _ r q)
  | .rng _ _, _, h, _ => by
    cases h with
    | rng e => exact .rng e
  | .loc k, _, h, q => by unfold PV.pure at q; cases q
  | .fn _, _, h, _ => by cases h; exact .fn _
  | .exn _, _, h, _ => by cases h
theorem RVs.pure {L' : Nat} : ∀ (xs : List PV) (vs : List V), RVs fa ρ L H xs vs → PV.pures xs = true → RVs fa ρ' L' H xs vs
  | [], _, h, _ => by cases h; exact .nil
  | x :: xs, _, h, q => by
    cases h with
    | cons a b =>
      unfold PV.pures at q
      rw [Bool.and_eq_true] at q
      exact .cons (RV.pure x _ a q.1) (RVs.pure xs _ b q.2)
end
theorem RVs.length : ∀ {xs : List PV} {vs : List V}, RVs fa ρ L H xs vs → xs.length = vs.length
  | [], _, h => by cases h; rfl
  | x :: xs, _, h => by
    cases h with
    | cons a b => rw [List.length_cons, List.length_cons, RVs.length b]
theorem RVs.get : ∀ {xs : List PV} {vs : List V} {i : Nat} {x : PV}, RVs fa ρ L H xs vs → xs[i]? = some x → ∃ v, vs[i]? = some v ∧ RV fa ρ L H x v
  | [], _, _, _, _, e => by simp at e
  | y :: xs, _, 0, x, h, e => by
    cases h with
    | cons a b => simp at e; subst e; exact ⟨_, rfl, a⟩
  | y :: xs, _, i + 1, x, h, e => by
    cases h with
    | cons a b =>
      obtain ⟨v, h1, h2⟩ := RVs.get (i := i) (x := x) b (by simpa using e)
      exact ⟨v, by simpa using h1, h2⟩
theorem RVs.at : ∀ {xs : List PV} {vs : List V} {i : Nat} {v : V}, RVs fa ρ L H xs vs → vs[i]? = some v → ∃ x, xs[i]? = some x ∧ RV fa ρ L H x v
  | [], _, i, _, h, e => by cases h; simp at e
  | y :: xs, _, 0, v, h, e => by
    cases h with
    | cons a b => simp at e; subst e; exact ⟨_, rfl, a⟩
  | y :: xs, _, i + 1, v, h, e => by
    cases h with
    | cons a b =>
      obtain ⟨x, h1, h2⟩ := RVs.at (i := i) (v := v) b (by simpa using e)
      exact ⟨x, by simpa using h1, h2⟩
theorem RVs.append : ∀ {xs ys : List PV} {vs ws : List V}, RVs fa ρ L H xs vs → RVs fa ρ L H ys ws → RVs fa ρ L H (xs ++ ys) (vs ++ ws)
  | [], _, _, _, h, q => by cases h; exact q
  | x :: xs, _, _, _, h, q => by
    cases h with
    | cons a b => exact .cons a (RVs.append b q)
theorem RVs.set {x : PV} {v : V} (r : RV fa ρ L H x v) : ∀ {xs : List PV} {vs : List V} (i : Nat), RVs fa ρ L H xs vs → RVs fa ρ L H (xs.set i x) (vs.set i v)
  | [], _, _, h => by cases h; exact .nil
  | y :: xs, _, 0, h => by
    cases h with
    | cons a b => exact .cons r b
  | y :: xs, _, i + 1, h => by
    cases h with
    | cons a b => exact .cons a (RVs.set r i b)
theorem RVs.take : ∀ {xs : List PV} {vs : List V} (n : Nat), RVs fa ρ L H xs vs → RVs fa ρ L H (xs.take n) (vs.take n)
  | _, _, 0, _ => .nil
  | [], _, n + 1, h => by cases h; exact .nil
  | x :: xs, _, n + 1, h => by
    cases h with
    | cons a b => exact .cons a (RVs.take n b)
theorem RVs.drop : ∀ {xs : List PV} {vs : List V} (n : Nat), RVs fa ρ L H xs vs → RVs fa ρ L H (xs.drop n) (vs.drop n)
  | _, _, 0, h => h
  | [], _, n + 1, h => by cases h; exact .nil
  | x :: xs, _, n + 1, h => by
    cases h with
    | cons a b => exact RVs.drop n b
theorem RVs.reverse {xs : List PV} : ∀ {vs : List V}, RVs fa ρ L H xs vs → RVs fa ρ L H xs.reverse vs.reverse := by
  induction xs with
  | nil => intro vs h; cases h; exact .nil
  | cons x xs ih =>
    intro vs h
    cases h with
    | cons a b => rw [List.reverse_cons, List.reverse_cons]; exact (ih b).append (.cons a .nil)
theorem RVs.dropLast : ∀ {xs : List PV} {vs : List V}, RVs fa ρ L H xs vs → RVs fa ρ L H xs.dropLast vs.dropLast := fun {xs vs} h => by
  rw [List.dropLast_eq_take, List.dropLast_eq_take, h.length]
  exact h.take _
theorem RVs.erase : ∀ {xs : List PV} {vs : List V} (i : Nat), RVs fa ρ L H xs vs → RVs fa ρ L H (xs.eraseIdx i) (vs.eraseIdx i)
  | [], _, _, h => by cases h; exact .nil
  | x :: xs, _, 0, h => by
    cases h with
    | cons a b => exact b
  | x :: xs, _, i + 1, h => by
    cases h with
    | cons a b => exact .cons a (RVs.erase i b)
theorem RVs.rep {xs : List PV} {vs : List V} (h : RVs fa ρ L H xs vs) : ∀ k : Nat, RVs fa ρ L H (List.replicate k xs).flatten (List.replicate k vs).flatten
  | 0 => .nil
  | k + 1 => by rw [List.replicate_succ, List.replicate_succ, List.flatten_cons, List.flatten_cons]; exact h.append (RVs.rep h k)
theorem RVs.getD {xs : List PV} {vs : List V} (h : RVs fa ρ L H xs vs) (j : Nat) : RV fa ρ L H (xs.getD j .non) (vs.getD j .non) := by
  rw [List.getD_eq_getElem?_getD, List.getD_eq_getElem?_getD]
  cases e : xs[j]? with
  | none =>
    have : vs[j]? = none := by rw [List.getElem?_eq_none_iff] at e ⊢; rw [← h.length]; exact e
    rw [this]; exact .non
  | some x =>
    obtain ⟨v, e2, r⟩ := h.get e
    rw [e2]; exact r
end

/-! ### objects -/
def keyV : Key → PV
  | .inl i => .int i
  | .inr x => .str x.cps.toList
/-- a dict of whole numbers and texts -/
def RK (fa ρ : Nat → Addr) (L : Nat) (H : L2.Hp) : List (PV × PV) → List (Key × V) → Prop := Paired fun (p : PV × PV) (q : Key × V) => p.1 = keyV q.1 ∧ RV fa ρ L H p.2 q.2
/-- a list that is read alone: known to the object, or an object of the module -/
def Kl (K : PySem.W.Frag) (a : Addr) (vs : List V) : Prop := ∃ (o : Obj) (its : Array Value) (n : Nat), K.lookup a = some o ∧ o.cls = .type "list" ∧ o.dict = none ∧ o.data = .seq its n ∧ its.size ≤ sizeLine ∧ Vals vs its.toList
/-! a dict whose keys are tuples -/
mutual
def nkOf : PV → Option NestedKey
  | .non => some .none
  | .int i => some (.num i)
  | .tup xs => (nksOf xs).map .tup
  | _ => none
def nksOf : List PV → Option (List NestedKey)
  | [] => some []
  | x :: xs => match nkOf x, nksOf xs with
    | some k, some ks => some (k :: ks)
    | _, _ => none
end
/-- the dict's object, known to the sign -/
def dnO (a : Addr) (o : Obj) : HO := .ext fun h => h.get? a = some o
def RD1 (fa ρ : Nat → Addr) (L : Nat) (H : L2.Hp) (p : PV × PV) (x : NestedKey × Addr × Value) : Prop :=
  nkOf p.1 = some x.1 ∧ RV fa ρ L H p.1 (.ref x.2.1) ∧ x.1.depth ≤ 8 ∧ ∃ v, RV fa ρ L H p.2 v ∧ RelV v x.2.2
def RD (fa ρ : Nat → Addr) (L : Nat) (H : L2.Hp) (a : Addr) (kvs : List (PV × PV)) : Prop :=
  ∃ (o : Obj) (es : Array DictEntry) (ep : Nat) (xs : List (NestedKey × Addr × Value)), H a = some (dnO a o) ∧ (a == sysModules) = false ∧ o.ExactDict ∧ o.data = .dict es ep ∧ xs.length ≤ sizeLine ∧
    (∀ w, es.toList = xs.map fun x => ⟨x.1.hash w, .ref x.2.1, x.2.2⟩) ∧ (xs.map (·.1)).Nodup ∧ Paired (RD1 fa ρ L H) kvs xs
def RO (K : PySem.W.Frag) (fa ρ : Nat → Addr) (L : Nat) (H : L2.Hp) (a : Addr) : PO → Prop
  | .lst xs => ∃ vs, H a = some (.lst vs) ∧ RVs fa ρ L H xs vs
  | .ro xs => ∃ vs, ((∃ o, H a = some (.frz o (.lst vs))) ∨ Kl K a vs) ∧ RVs fa ρ L H xs vs
  | .dct kvs => ∃ qs, H a = some (.dK qs) ∧ RK fa ρ L H kvs qs
  | .ins _ _ => False
  | .dtt kvs _ => RD fa ρ L H a kvs
def PO.mut : PO → Bool
  | .lst _ | .dct _ | .dtt _ _ => true
  | _ => false
/-- the memory m lies in H, place n at ρ n -/
structure Rel (K : PySem.W.Frag) (fa ρ : Nat → Addr) (m : Mem) (H : L2.Hp) : Prop where
  objs : ∀ n o, m[n]? = some o → RO K fa ρ m.length H (ρ n) o
  inj : ∀ i j o u, m[i]? = some o → m[j]? = some u → o.mut = true → u.mut = true → ρ i = ρ j → i = j
/-- a dict whose keys are tuples stays one; while it is not written, it is as it was -/
def Dv (ρ : Nat → Addr) (m : Mem) (H : L2.Hp) (m' : Mem) (H' : L2.Hp) : Prop := ∀ n kvs v, m[n]? = some (.dtt kvs v) → ∃ kvs' v', m'[n]? = some (.dtt kvs' v') ∧ v ≤ v' ∧ (v' = v → kvs' = kvs ∧ H' (ρ n) = H (ρ n))
theorem Dv.refl (ρ : Nat → Addr) (m : Mem) (H : L2.Hp) : Dv ρ m H m H := fun _ kvs v e => ⟨kvs, v, e, Nat.le_refl _, fun _ => ⟨rfl, rfl⟩⟩
theorem Dv.trans {ρ ρ1 : Nat → Addr} {m m1 m2 : Mem} {H H1 H2 : L2.Hp} (ag : ∀ n, n < m.length → ρ1 n = ρ n) (a : Dv ρ m H m1 H1) (b : Dv ρ1 m1 H1 m2 H2) : Dv ρ m H m2 H2 := fun n kvs v e => by
  obtain ⟨k1, v1, e1, l1, q1⟩ := a n kvs v e
  obtain ⟨k2, v2, e2, l2, q2⟩ := b n k1 v1 e1
  refine ⟨k2, v2, e2, Nat.le_trans l1 l2, fun z => ?_⟩
  have z2 : v2 = v1 := by omega
  have z1 : v1 = v := by omega
  obtain ⟨h1, h2⟩ := q1 z1
  obtain ⟨h3, h4⟩ := q2 z2
  have hn := ag n (List.getElem?_eq_some_iff.mp e).1
  rw [hn] at h4
  exact ⟨h3.trans h1, h4.trans h2⟩
/-- a later state -/
structure Fut (K : PySem.W.Frag) (fa : Nat → Addr) (n0 : Nat) (ρ : Nat → Addr) (m : Mem) (H : L2.Hp) (ρ' : Nat → Addr) (m' : Mem) (H' : L2.Hp) : Prop where
  ag : ∀ n, n < m.length → ρ' n = ρ n
  le : m.length ≤ m'.length
  bd : ∀ n, n ≤ n0 → Bd m n → Bd m' n
  kp : Keep H H'
  /-- what stands apart from the own memory is as it was -/
  fr : ∀ a u, H a = some u → (∀ n o, m[n]? = some o → o.mut = true → ρ n ≠ a) → H' a = some u
  mu : ∀ n o, n < m.length → m'[n]? = some o → o.mut = true → ∃ o', m[n]? = some o' ∧ o'.mut = true
  nw : ∀ n, m.length ≤ n → n < m'.length → H (ρ' n) = none
  dm : ∀ a, H' a = none → H a = none
  dv : Dv ρ m H m' H'
  rel : Rel K fa ρ' m' H'
/-- what a slot holds; ξ: of an exception in hand -/
def RS (ξ : Nat → V → Prop) (fa ρ : Nat → Addr) (L : Nat) (H : L2.Hp) (x : PV) (v : V) : Prop := match x with
  | .exn c => ξ c v
  | x => RV fa ρ L H x v
/-- the slots -/
structure REnv (ξ : Nat → V → Prop) (fa ρ : Nat → Addr) (L : Nat) (H : L2.Hp) (env : Env) (σ : L2.St) : Prop where
  len : env.length = σ.length
  at_ : ∀ (i : Nat) (x : PV), env[i]? = some (some x) → ∃ v : V, σ[i]? = some (some v) ∧ RS ξ fa ρ L H x v

section
variable {K : PySem.W.Frag} {fa ρ ρ' ρ1 ρ2 : Nat → Addr} {n0 L L' : Nat} {m m' m1 m2 : Mem} {H H' H1 H2 : L2.Hp} {en : Env} {σ : L2.St}
theorem Fut.refl (r : Rel K fa ρ m H) : Fut K fa n0 ρ m H ρ m H := ⟨fun _ _ => rfl, Nat.le_refl _, fun _ _ h => h, .refl _, fun _ _ h _ => h, fun _ o _ e h => ⟨o, e, h⟩, fun n h g => absurd g (Nat.not_lt.mpr h), fun _ h => h, .refl _ _ _, r⟩
theorem Fut.trans (a : Fut K fa n0 ρ m H ρ1 m1 H1) (b : Fut K fa n0 ρ1 m1 H1 ρ2 m2 H2) : Fut K fa n0 ρ m H ρ2 m2 H2 :=
  ⟨fun n h => (b.ag n (Nat.lt_of_lt_of_le h a.le)).trans (a.ag n h), Nat.le_trans a.le b.le, fun n h q => b.bd n h (a.bd n h q), a.kp.trans b.kp,
    fun c u e h => b.fr c u (a.fr c u e h) fun n o eo hm => (by
      by_cases q : n < m.length
      · rw [a.ag n q]
        obtain ⟨o', e', hm'⟩ := a.mu n o q eo hm
        exact h n o' e' hm'
      · intro z
        have := a.nw n (Nat.not_lt.mp q) (List.getElem?_eq_some_iff.mp eo).1
        rw [z, e] at this; exact nomatch this),
    fun n o hn e h => (by
      obtain ⟨o', e', h'⟩ := b.mu n o (Nat.lt_of_lt_of_le hn a.le) e h
      exact a.mu n o' hn e' h'),
    fun n h g => (by
      by_cases q : n < m1.length
      · rw [b.ag n q]; exact a.nw n h q
      · exact a.dm _ (b.nw n (Nat.not_lt.mp q) g)),
    fun c h => a.dm c (b.dm c h), a.dv.trans a.ag b.dv, b.rel⟩
theorem Fut.val (a : Fut K fa n0 ρ m H ρ' m' H') {x : PV} {v : V} (r : RV fa ρ m.length H x v) : RV fa ρ' m'.length H' x v := RV.mono a.ag a.le a.kp x v r
theorem Fut.vals (a : Fut K fa n0 ρ m H ρ' m' H') {xs : List PV} {vs : List V} (r : RVs fa ρ m.length H xs vs) : RVs fa ρ' m'.length H' xs vs := RVs.mono a.ag a.le a.kp xs vs r
theorem RS.mono {ξ : Nat → V → Prop} (hr : ∀ n, n < L → ρ' n = ρ n) (hl : L ≤ L') (hk : Keep H H') {x : PV} {v : V} (r : RS ξ fa ρ L H x v) : RS ξ fa ρ' L' H' x v := by
  cases x with
  | exn c => exact r
  | _ => exact RV.mono hr hl hk _ v r
theorem RS.of {ξ : Nat → V → Prop} {x : PV} {v : V} (r : RV fa ρ L H x v) : RS ξ fa ρ L H x v := by
  cases x with
  | exn c => cases r
  | _ => exact r
theorem REnv.mono {ξ : Nat → V → Prop} (hr : ∀ n, n < L → ρ' n = ρ n) (hl : L ≤ L') (hk : Keep H H') (r : REnv ξ fa ρ L H en σ) : REnv ξ fa ρ' L' H' en σ := ⟨r.len, fun i x e => by
  obtain ⟨v, e1, q⟩ := r.at_ i x e
  exact ⟨v, e1, q.mono hr hl hk⟩⟩
theorem Fut.env {ξ : Nat → V → Prop} (a : Fut K fa n0 ρ m H ρ' m' H') (r : REnv ξ fa ρ m.length H en σ) : REnv ξ fa ρ' m'.length H' en σ := r.mono a.ag a.le a.kp
theorem Fut.low {n1 : Nat} (h : n1 ≤ n0) (a : Fut K fa n0 ρ m H ρ' m' H') : Fut K fa n1 ρ m H ρ' m' H' := ⟨a.ag, a.le, fun n hn q => a.bd n (Nat.le_trans hn h) q, a.kp, a.fr, a.mu, a.nw, a.dm, a.dv, a.rel⟩
theorem RK.mono (hr : ∀ n, n < L → ρ' n = ρ n) (hl : L ≤ L') (hk : Keep H H') {kvs : List (PV × PV)} {qs : List (Key × V)} (r : RK fa ρ L H kvs qs) : RK fa ρ' L' H' kvs qs :=
  Paired.mapP r fun _ _ q => ⟨q.1, RV.mono hr hl hk _ _ q.2⟩
theorem RD1.mono (hr : ∀ n, n < L → ρ' n = ρ n) (hl : L ≤ L') (hk : Keep H H') {p : PV × PV} {x : NestedKey × Addr × Value} (r : RD1 fa ρ L H p x) : RD1 fa ρ' L' H' p x := by
  obtain ⟨a, b, c, v, d, e⟩ := r
  exact ⟨a, RV.mono hr hl hk _ _ b, c, v, RV.mono hr hl hk _ _ d, e⟩
theorem RD.mono {a : Addr} (hr : ∀ n, n < L → ρ' n = ρ n) (hl : L ≤ L') (hk : Keep H H') (he : H' a = H a) {kvs : List (PV × PV)} (r : RD fa ρ L H a kvs) : RD fa ρ' L' H' a kvs := by
  obtain ⟨o, es, ep, xs, h1, h2, h3, h4, h5, h6, h7, h8⟩ := r
  exact ⟨o, es, ep, xs, he.trans h1, h2, h3, h4, h5, h6, h7, Paired.mapP h8 fun _ _ q => q.mono hr hl hk⟩
/-- an object that stands as it stood -/
theorem RO.mono {a : Addr} {o : PO} (hr : ∀ n, n < L → ρ' n = ρ n) (hl : L ≤ L') (hk : Keep H H') (he : o.mut = true → H' a = H a) (r : RO K fa ρ L H a o) : RO K fa ρ' L' H' a o := by
  cases o with
  | lst xs => obtain ⟨vs, e, q⟩ := r; exact ⟨vs, (he rfl).trans e, RVs.mono hr hl hk _ _ q⟩
  | dct kvs => obtain ⟨qs, e, q⟩ := r; exact ⟨qs, (he rfl).trans e, q.mono hr hl hk⟩
  | ins c fs => exact r.elim
  | dtt kvs v => exact RD.mono hr hl hk (he rfl) r
  | ro xs =>
    obtain ⟨vs, s, q⟩ := r
    refine ⟨vs, ?_, RVs.mono hr hl hk _ _ q⟩
    rcases s with ⟨o, s⟩ | s
    · exact .inl ⟨o, hk.frz _ _ _ s⟩
    · exact .inr s
theorem Rel.lt (r : Rel K fa ρ m H) {n : Nat} {o : PO} (e : m[n]? = some o) : n < m.length := (List.getElem?_eq_some_iff.mp e).1
theorem RK.lt {kvs : List (PV × PV)} {qs : List (Key × V)} : RK fa ρ L H kvs qs → (kvs.all fun q => q.1.lt L && q.2.lt L) = true := fun h => by
  induction h with
  | nil => rfl
  | @cons p q _ _ a _ ih =>
    have h1 : p.1.lt L = true := by
      rw [a.1]; cases q.1 <;> rfl
    show (p.1.lt L && p.2.lt L && _) = true
    rw [h1, RV.lt _ _ a.2]
    exact ih
theorem RK.cut {n : Nat} {kvs : List (PV × PV)} {qs : List (Key × V)} : RK fa ρ L H kvs qs → (kvs.all fun q => q.1.lt n && q.2.lt n) = true → RK fa ρ n H kvs qs := fun h => by
  induction h with
  | nil => exact fun _ => .nil
  | @cons p q _ _ a _ ih =>
    intro b
    rw [List.all_cons, Bool.and_eq_true, Bool.and_eq_true] at b
    exact .cons ⟨a.1, RV.cut _ _ a.2 b.1.2⟩ (ih b.2)
theorem RD.lt {a : Addr} {kvs : List (PV × PV)} (r : RD fa ρ L H a kvs) : (kvs.all fun q => q.1.lt L && q.2.lt L) = true := by
  obtain ⟨_, _, _, xs, _, _, _, _, h5, h6, h7, h⟩ := r
  clear h5 h6 h7
  induction h with
  | nil => rfl
  | @cons p q _ _ z _ ih =>
    obtain ⟨_, b, _, v, d, _⟩ := z
    show (p.1.lt L && p.2.lt L && _) = true
    rw [RV.lt _ _ b, RV.lt _ _ d]
    exact ih
theorem RD.cut {n : Nat} {a : Addr} {kvs : List (PV × PV)} (r : RD fa ρ L H a kvs) (hb : (kvs.all fun q => q.1.lt n && q.2.lt n) = true) : RD fa ρ n H a kvs := by
  obtain ⟨o, es, ep, xs, h1, h2, h3, h4, h5, h6, h7, h8⟩ := r
  refine ⟨o, es, ep, xs, h1, h2, h3, h4, h5, h6, h7, ?_⟩
  clear h6 h7 h5
  induction h8 with
  | nil => exact .nil
  | @cons p q _ _ z _ ih =>
    rw [List.all_cons, Bool.and_eq_true, Bool.and_eq_true] at hb
    obtain ⟨z1, z2, z3, v, z4, z5⟩ := z
    exact .cons ⟨z1, RV.cut _ _ z2 hb.1.1, z3, v, RV.cut _ _ z4 hb.1.2, z5⟩ (ih hb.2)
/-- all that the memory holds lies within it -/
theorem Rel.bd (r : Rel K fa ρ m H) : Bd m m.length := fun p o hp e => by
  have q := r.objs p o e
  cases o with
  | lst xs => obtain ⟨vs, _, q⟩ := q; exact RVs.lt _ _ q
  | ro xs => obtain ⟨vs, _, q⟩ := q; exact RVs.lt _ _ q
  | dct kvs => obtain ⟨qs, _, q⟩ := q; exact RK.lt q
  | ins c fs => exact q.elim
  | dtt kvs v => exact RD.lt q
theorem get_snoc {α : Type} {l : List α} {x y : α} {n : Nat} (h : (l ++ [x])[n]? = some y) : (n < l.length ∧ l[n]? = some y) ∨ (n = l.length ∧ y = x) := by
  by_cases q : n < l.length
  · rw [List.getElem?_append_left q] at h; exact .inl ⟨q, h⟩
  · rw [List.getElem?_append_right (by omega)] at h
    cases e : n - l.length with
    | zero => rw [e] at h; exact .inr ⟨by omega, (Option.some.inj h).symm⟩
    | succ k => rw [e] at h; simp at h
theorem RO.tracked {a : Addr} {o : PO} (r : RO K fa ρ L H a o) (h : o.mut = true) : ∃ u, H a = some u ∧ (∀ lo hi, u ≠ .rng lo hi) ∧ ∀ b c, u ≠ .frz b c := by
  cases o with
  | lst xs => obtain ⟨vs, e, _⟩ := r; exact ⟨_, e, (fun _ _ z => by cases z), fun _ _ z => by cases z⟩
  | dct kvs => obtain ⟨qs, e, _⟩ := r; exact ⟨_, e, (fun _ _ z => by cases z), fun _ _ z => by cases z⟩
  | dtt kvs v => obtain ⟨o, es, ep, xs, e, _⟩ := r; exact ⟨_, e, (fun _ _ z => by cases z), fun _ _ z => by cases z⟩
  | ins c fs => cases h
  | ro xs => cases h
/-- where nothing of the own memory stands, a change is not seen -/
theorem Rel.apart (r : Rel K fa ρ m H) {p : Addr} (hp : H p = none) {n : Nat} {o : PO} (e : m[n]? = some o) (h : o.mut = true) : ρ n ≠ p := fun z => by
  obtain ⟨u, q, _⟩ := (r.objs n o e).tracked h
  rw [z, hp] at q; cases q
/-- a thing of its own beside the memory -/
theorem Fut.side {p : Addr} {u : HO} (r : Rel K fa ρ m H) (hp : H p = none) : Fut K fa n0 ρ m H ρ m (upd H p u) :=
  have kp : Keep H (upd H p u) := .new hp
  ⟨fun _ _ => rfl, Nat.le_refl _, fun _ _ h => h, kp, fun a x e _ => by rw [upd_ne (ne_of_none e hp)]; exact e, fun _ o _ e h => ⟨o, e, h⟩, fun n h g => absurd g (Nat.not_lt.mpr h),
    fun a h => (by
      by_cases q : a = p
      · rw [q]; exact hp
      · rw [upd_ne q] at h; exact h),
    fun n kvs v e => ⟨kvs, v, e, Nat.le_refl _, fun _ => ⟨rfl, upd_ne (r.apart hp e rfl)⟩⟩,
    ⟨fun n o e => (r.objs n o e).mono (fun _ _ => rfl) (Nat.le_refl _) kp fun hm => upd_ne fun z => (by
      obtain ⟨u, q, _⟩ := (r.objs n o e).tracked hm
      rw [z, hp] at q; exact nomatch q), r.inj⟩⟩
/-- a new object -/
theorem Fut.new {p : Addr} {o : PO} {u : HO} (r : Rel K fa ρ m H) (hp : H p = none)
    (ro : ∀ ρ', (∀ n, n < m.length → ρ' n = ρ n) → RO K fa ρ' (m.length + 1) (upd H p u) p o) :
    Fut K fa n0 ρ m H (fun n => if n < m.length then ρ n else p) (m ++ [o]) (upd H p u) := by
  have ag : ∀ n, n < m.length → (fun n => if n < m.length then ρ n else p) n = ρ n := fun n h => if_pos h
  have kp : Keep H (upd H p u) := .new hp
  have ll : (m ++ [o]).length = m.length + 1 := by rw [List.length_append]; rfl
  have lo : m.length ≤ (m ++ [o]).length := by rw [ll]; exact Nat.le_succ _
  have at_ : (fun n => if n < m.length then ρ n else p) m.length = p := if_neg (Nat.lt_irrefl _)
  have nep : ∀ n o, m[n]? = some o → o.mut = true → ρ n ≠ p := fun n o e hm z => by
    obtain ⟨u, q, _⟩ := (r.objs n o e).tracked hm
    rw [z, hp] at q; cases q
  have newR := ro (fun n => if n < m.length then ρ n else p) ag
  have rel : Rel K fa (fun n => if n < m.length then ρ n else p) (m ++ [o]) (upd H p u) := by
    refine ⟨fun n x e => ?_, fun i j x y ei ej hi hj z => ?_⟩
    · rcases get_snoc e with ⟨hn, e⟩ | ⟨hn, e⟩
      · show RO K fa _ _ _ (if n < m.length then ρ n else p) x
        rw [if_pos hn]
        exact (r.objs n x e).mono ag lo kp fun hm => upd_ne (nep n x e hm)
      · subst e; subst hn
        show RO K fa _ _ _ (if m.length < m.length then ρ m.length else p) x
        rw [if_neg (Nat.lt_irrefl _), ll]
        exact newR
    · have z' : (if i < m.length then ρ i else p) = (if j < m.length then ρ j else p) := z
      rcases get_snoc ei with ⟨h1, e1⟩ | ⟨h1, e1⟩ <;> rcases get_snoc ej with ⟨h2, e2⟩ | ⟨h2, e2⟩
      · rw [if_pos h1, if_pos h2] at z'; exact r.inj i j x y e1 e2 hi hj z'
      · rw [if_pos h1, h2, if_neg (Nat.lt_irrefl _)] at z'; exact absurd z' (nep i x e1 hi)
      · rw [if_pos h2, h1, if_neg (Nat.lt_irrefl _)] at z'; exact absurd z'.symm (nep j y e2 hj)
      · rw [h1, h2]
  refine ⟨ag, lo, fun n _ q k x hk e => ?_, kp, fun a x e _ => by rw [upd_ne (ne_of_none e hp)]; exact e, fun n o' hn e hm => ⟨o', by rw [List.getElem?_append_left hn] at e; exact e, hm⟩, fun n h g => ?_, fun a h => ?_, fun n kvs v e => ⟨kvs, v, by rw [List.getElem?_append_left (List.getElem?_eq_some_iff.mp e).1]; exact e, Nat.le_refl _, fun _ => ⟨rfl, upd_ne (r.apart hp e rfl)⟩⟩, rel⟩
  rotate_left
  · have e : n = m.length := by rw [ll] at g; omega
    show H (if n < m.length then ρ n else p) = none
    rw [if_neg (by omega)]; exact hp
  · by_cases q : a = p
    · rw [q]; exact hp
    · rw [upd_ne q] at h; exact h
  rcases get_snoc e with ⟨h1, e⟩ | ⟨h1, e⟩
  · exact q k x hk e
  · have b := rel.bd
    have b := b k x (by rw [ll]; omega) (by rw [List.getElem?_append]; rw [if_neg (by omega), h1, Nat.sub_self, e]; rfl)
    rw [ll] at b
    have hn : m.length + 1 ≤ n := by omega
    cases x with
    | lst xs => exact PV.lts_mono hn xs b
    | ro xs => exact PV.lts_mono hn xs b
    | dct kvs =>
      have b' : (kvs.all fun q => q.1.lt (m.length + 1) && q.2.lt (m.length + 1)) = true := b
      show (kvs.all fun q => q.1.lt n && q.2.lt n) = true
      rw [List.all_eq_true] at b' ⊢
      intro x hx
      have := b' x hx
      rw [Bool.and_eq_true] at this ⊢
      exact ⟨PV.lt_mono hn _ this.1, PV.lt_mono hn _ this.2⟩
    | ins c fs =>
      have b' : (fs.all fun q => q.2.lt (m.length + 1)) = true := b
      show (fs.all fun q => q.2.lt n) = true
      rw [List.all_eq_true] at b' ⊢
      exact fun x hx => PV.lt_mono hn _ (b' x hx)
    | dtt kvs v =>
      have b' : (kvs.all fun q => q.1.lt (m.length + 1) && q.2.lt (m.length + 1)) = true := b
      show (kvs.all fun q => q.1.lt n && q.2.lt n) = true
      rw [List.all_eq_true] at b' ⊢
      intro x hx
      have := b' x hx
      rw [Bool.and_eq_true] at this ⊢
      exact ⟨PV.lt_mono hn _ this.1, PV.lt_mono hn _ this.2⟩
theorem get_set {α : Type} {l : List α} {x y : α} {n k : Nat} (h : (l.set n x)[k]? = some y) : (k ≠ n ∧ l[k]? = some y) ∨ (k = n ∧ y = x ∧ n < l.length) := by
  by_cases q : k = n
  · subst q
    by_cases hl : k < l.length
    · rw [List.getElem?_set_self hl] at h; exact .inr ⟨rfl, (Option.some.inj h).symm, hl⟩
    · rw [List.getElem?_eq_none (by rw [List.length_set]; omega)] at h; cases h
  · rw [List.getElem?_set_ne (fun e => q e.symm)] at h; exact .inl ⟨q, h⟩
/-- an object is written -/
theorem Fut.write {n : Nat} {o o' : PO} {u : HO} (r : Rel K fa ρ m H) (e : m[n]? = some o) (hm : o.mut = true) (ho : o'.mut = true)
    (ro : RO K fa ρ m.length (upd H (ρ n) u) (ρ n) o') (hb : ∀ k, k ≤ n0 → n < k → o.lt k = true → o'.lt k = true) (hv : ∀ kvs v, o = .dtt kvs v → ∃ kvs' v', o' = .dtt kvs' v' ∧ v < v' := by intro _ _ z; cases z) : Fut K fa n0 ρ m H ρ (m.set n o') (upd H (ρ n) u) := by
  have ll : (m.set n o').length = m.length := List.length_set
  obtain ⟨w, hw, hw1, hw2⟩ := (r.objs n o e).tracked hm
  have kp : Keep H (upd H (ρ n) u) := .write hw hw1 hw2
  have dv : Dv ρ m H (m.set n o') (upd H (ρ n) u) := fun k kvs v ek => by
    by_cases q : k = n
    · subst q
      rw [e] at ek
      obtain ⟨kvs', v', h1, h2⟩ := hv kvs v (Option.some.inj ek)
      refine ⟨kvs', v', ?_, Nat.le_of_lt h2, fun z => absurd z (Nat.ne_of_gt h2)⟩
      rw [List.getElem?_set_self (List.getElem?_eq_some_iff.mp e).1, h1]
    · refine ⟨kvs, v, by rw [List.getElem?_set_ne (fun z => q z.symm)]; exact ek, Nat.le_refl _, fun _ => ⟨rfl, upd_ne fun z => q (r.inj k n _ _ ek e rfl hm z)⟩⟩
  refine ⟨fun _ _ => rfl, Nat.le_of_eq ll.symm, fun k hk q p x hp ex => ?_, kp, fun a x ea h => ?_, fun k x hk ex hx => ?_, fun k h g => ?_, fun a h => ?_, dv, ⟨fun k x ex => ?_, fun i j x y ei ej hi hj z => ?_⟩⟩
  rotate_left
  · rw [upd_ne fun z => h n o e hm z.symm]; exact ea
  · rcases get_set ex with ⟨h1, h2⟩ | ⟨h1, h2, _⟩
    · exact ⟨x, h2, hx⟩
    · subst h1; exact ⟨o, e, hm⟩
  · rw [ll] at g; exact absurd g (Nat.not_lt.mpr h)
  · by_cases q : a = ρ n
    · rw [q, upd_same] at h; cases h
    · rw [upd_ne q] at h; exact h
  rotate_right
  · rcases get_set ex with ⟨h1, h2⟩ | ⟨h1, h2, _⟩
    · exact q p x hp h2
    · subst h1; subst h2; exact hb k hk hp (q p o hp e)
  · rw [ll]
    rcases get_set ex with ⟨h1, h2⟩ | ⟨h1, h2, _⟩
    · exact (r.objs k x h2).mono (fun _ _ => rfl) (Nat.le_refl _) kp fun hx => upd_ne fun z => h1 (r.inj k n x o h2 e hx hm z)
    · subst h1; subst h2; exact ro
  · have fix : ∀ {i : Nat} {x : PO}, (m.set n o')[i]? = some x → x.mut = true → ∃ y, m[i]? = some y ∧ y.mut = true := fun {i x} ei hi => by
      rcases get_set ei with ⟨h1, h2⟩ | ⟨h1, h2, _⟩
      · exact ⟨x, h2, hi⟩
      · subst h1; exact ⟨o, e, hm⟩
    obtain ⟨x', e1, h1⟩ := fix ei hi
    obtain ⟨y', e2, h2⟩ := fix ej hj
    exact r.inj i j x' y' e1 e2 h1 h2 z
/-- the later objects are forgotten -/
theorem Fut.cut {n : Nat} (f : Fut K fa n0 ρ m H ρ' m' H') (hn : m.length ≤ n0) (r : Rel K fa ρ m H) : Rel K fa ρ' (m'.take m.length) H' := by
  have ll : (m'.take m.length).length = m.length := by rw [List.length_take]; exact Nat.min_eq_left f.le
  have g : ∀ {k : Nat} {x : PO}, (m'.take m.length)[k]? = some x → k < m.length ∧ m'[k]? = some x := fun {k x} e => by
    have hk : k < m.length := by
      have := (List.getElem?_eq_some_iff.mp e).1
      rw [ll] at this; exact this
    rw [List.getElem?_take_of_lt hk] at e
    exact ⟨hk, e⟩
  have bd := f.bd m.length hn r.bd
  refine ⟨fun k x e => ?_, fun i j x y ei ej hi hj z => f.rel.inj i j x y (g ei).2 (g ej).2 hi hj z⟩
  rw [ll]
  obtain ⟨hk, e⟩ := g e
  have b := bd k x hk e
  have q := f.rel.objs k x e
  cases x with
  | lst xs => obtain ⟨vs, h1, h2⟩ := q; exact ⟨vs, h1, RVs.cut _ _ h2 b⟩
  | ro xs => obtain ⟨vs, h1, h2⟩ := q; exact ⟨vs, h1, RVs.cut _ _ h2 b⟩
  | ins c fs => exact q.elim
  | dct kvs =>
    obtain ⟨qs, h1, h2⟩ := q
    exact ⟨qs, h1, h2.cut b⟩
  | dtt kvs v => exact RD.cut q b

/-! ### a thing of its own that is filled while the small language runs on -/
structure FutD (K : PySem.W.Frag) (fa : Nat → Addr) (n0 : Nat) (D : Addr) (ρ : Nat → Addr) (m : Mem) (H : L2.Hp) (ρ' : Nat → Addr) (m' : Mem) (H' : L2.Hp) : Prop where
  ag : ∀ n, n < m.length → ρ' n = ρ n
  le : m.length ≤ m'.length
  bd : ∀ n, n ≤ n0 → Bd m n → Bd m' n
  kp : Keep H H'
  fr : ∀ a u, a ≠ D → H a = some u → (∀ n o, m[n]? = some o → o.mut = true → ρ n ≠ a) → H' a = some u
  mu : ∀ n o, n < m.length → m'[n]? = some o → o.mut = true → ∃ o', m[n]? = some o' ∧ o'.mut = true
  nw : ∀ n, m.length ≤ n → n < m'.length → H (ρ' n) = none
  dm : ∀ a, H' a = none → H a = none
  dv : Dv ρ m H m' H'
  rel : Rel K fa ρ' m' H'
  ap : ∀ n o, m'[n]? = some o → o.mut = true → ρ' n ≠ D
theorem FutD.start {D : Addr} {u : HO} (r : Rel K fa ρ m H) (hD : H D = none) : FutD K fa n0 D ρ m (upd H D u) ρ m (upd H D u) :=
  have F : Fut K fa n0 ρ m H ρ m (upd H D u) := .side r hD
  ⟨fun _ _ => rfl, Nat.le_refl _, fun _ _ h => h, .refl _, fun _ _ _ h _ => h, fun _ o _ e h => ⟨o, e, h⟩, fun n h g => absurd g (Nat.not_lt.mpr h), fun _ h => h, .refl _ _ _, F.rel, fun n o e h z => by
    obtain ⟨u, q, _⟩ := (r.objs n o e).tracked h
    rw [z, hD] at q; exact nomatch q⟩
theorem FutD.step {D : Addr} {u : HO} (a : FutD K fa n0 D ρ m H ρ1 m1 H1) (b : Fut K fa n0 ρ1 m1 H1 ρ2 m2 H2) (hD : H1 D = some u) : FutD K fa n0 D ρ m H ρ2 m2 H2 ∧ H2 D = some u :=
  ⟨⟨fun n h => (b.ag n (Nat.lt_of_lt_of_le h a.le)).trans (a.ag n h), Nat.le_trans a.le b.le, fun n h q => b.bd n h (a.bd n h q), a.kp.trans b.kp,
    fun c u hc e h => b.fr c u (a.fr c u hc e h) fun n o eo hm => (by
      by_cases q : n < m.length
      · rw [a.ag n q]
        obtain ⟨o', e', hm'⟩ := a.mu n o q eo hm
        exact h n o' e' hm'
      · intro z
        have := a.nw n (Nat.not_lt.mp q) (List.getElem?_eq_some_iff.mp eo).1
        rw [z, e] at this; exact nomatch this),
    fun n o hn e h => (by
      obtain ⟨o', e', h'⟩ := b.mu n o (Nat.lt_of_lt_of_le hn a.le) e h
      exact a.mu n o' hn e' h'),
    fun n h g => (by
      by_cases q : n < m1.length
      · rw [b.ag n q]; exact a.nw n h q
      · exact a.dm _ (b.nw n (Nat.not_lt.mp q) g)),
    fun c h => a.dm c (b.dm c h), a.dv.trans a.ag b.dv, b.rel, fun n o e h z => (by
      by_cases q : n < m1.length
      · obtain ⟨o', e', h'⟩ := b.mu n o q e h
        rw [b.ag n q] at z
        exact a.ap n o' e' h' z
      · have := b.nw n (Nat.not_lt.mp q) (List.getElem?_eq_some_iff.mp e).1
        rw [z, hD] at this; exact nomatch this)⟩, b.fr D u hD fun n o e h => a.ap n o e h⟩
/-- it is filled -/
theorem FutD.fill {D : Addr} {u w : HO} (a : FutD K fa n0 D ρ m H ρ1 m1 H1) (hD : H1 D = some u) (h2 : ∀ lo hi, u ≠ .rng lo hi) (h3 : ∀ a b, u ≠ .frz a b) : FutD K fa n0 D ρ m H ρ1 m1 (upd H1 D w) :=
  have kp : Keep H1 (upd H1 D w) := .write hD h2 h3
  ⟨a.ag, a.le, a.bd, a.kp.trans kp, fun c x hc e h => by rw [upd_ne hc]; exact a.fr c x hc e h, a.mu, a.nw, fun c h => (by
    by_cases q : c = D
    · rw [q, upd_same] at h; exact nomatch h
    · rw [upd_ne q] at h; exact a.dm c h),
    fun n kvs v e => (by
      obtain ⟨k1, v1, e1, l1, q1⟩ := a.dv n kvs v e
      refine ⟨k1, v1, e1, l1, fun z => ⟨(q1 z).1, ?_⟩⟩
      have := a.ap n _ e1 rfl
      rw [a.ag n (List.getElem?_eq_some_iff.mp e).1] at this
      rw [upd_ne this]
      exact (q1 z).2),
    ⟨fun n o e => (a.rel.objs n o e).mono (fun _ _ => rfl) (Nat.le_refl _) kp fun hm => upd_ne (a.ap n o e hm), a.rel.inj⟩, a.ap⟩
/-- it is the memory's -/
theorem FutD.born {D : Addr} {o : PO} {u0 : HO} (r : Rel K fa ρ m H) (hD : H D = none) (a : FutD K fa n0 D ρ m (upd H D u0) ρ1 m1 H1)
    (ro : ∀ ρ', (∀ n, n < m1.length → ρ' n = ρ1 n) → RO K fa ρ' (m1.length + 1) H1 D o) :
    Fut K fa n0 ρ m H (fun n => if n < m1.length then ρ1 n else D) (m1 ++ [o]) H1 := by
  have ag : ∀ n, n < m1.length → (fun n => if n < m1.length then ρ1 n else D) n = ρ1 n := fun n h => if_pos h
  have ll : (m1 ++ [o]).length = m1.length + 1 := by rw [List.length_append]; rfl
  have lo : m1.length ≤ (m1 ++ [o]).length := by rw [ll]; exact Nat.le_succ _
  have newR := ro (fun n => if n < m1.length then ρ1 n else D) ag
  have rel : Rel K fa (fun n => if n < m1.length then ρ1 n else D) (m1 ++ [o]) H1 := by
    refine ⟨fun n x e => ?_, fun i j x y ei ej hi hj z => ?_⟩
    · rcases get_snoc e with ⟨hn, e⟩ | ⟨hn, e⟩
      · show RO K fa _ _ _ (if n < m1.length then ρ1 n else D) x
        rw [if_pos hn]
        exact (a.rel.objs n x e).mono ag lo (.refl _) fun _ => rfl
      · subst e; subst hn
        show RO K fa _ _ _ (if m1.length < m1.length then ρ1 m1.length else D) x
        rw [if_neg (Nat.lt_irrefl _), ll]
        exact newR
    · have z' : (if i < m1.length then ρ1 i else D) = (if j < m1.length then ρ1 j else D) := z
      rcases get_snoc ei with ⟨h1, e1⟩ | ⟨h1, e1⟩ <;> rcases get_snoc ej with ⟨h2, e2⟩ | ⟨h2, e2⟩
      · rw [if_pos h1, if_pos h2] at z'; exact a.rel.inj i j x y e1 e2 hi hj z'
      · rw [if_pos h1, h2, if_neg (Nat.lt_irrefl _)] at z'; exact absurd z' (a.ap i x e1 hi)
      · rw [if_pos h2, h1, if_neg (Nat.lt_irrefl _)] at z'; exact absurd z'.symm (a.ap j y e2 hj)
      · rw [h1, h2]
  refine ⟨fun n h => (if_pos (Nat.lt_of_lt_of_le h a.le)).trans (a.ag n h), Nat.le_trans a.le lo, fun n hn q k x hk e => ?_, (Keep.new hD).trans a.kp, fun c x e h => ?_, fun n o' hn e hm => ?_, fun n h g => ?_, fun c h => ?_, fun n kvs v e => ?_, rel⟩
  · rcases get_snoc e with ⟨h1, e⟩ | ⟨h1, e⟩
    · exact a.bd n hn q k x hk e
    · have b := rel.bd
      have b := b k x (by rw [ll]; omega) (by rw [List.getElem?_append]; rw [if_neg (by omega), h1, Nat.sub_self, e]; rfl)
      rw [ll] at b
      have hn : m1.length + 1 ≤ n := by omega
      cases x with
      | lst xs => exact PV.lts_mono hn xs b
      | ro xs => exact PV.lts_mono hn xs b
      | dct kvs =>
        have b' : (kvs.all fun q => q.1.lt (m1.length + 1) && q.2.lt (m1.length + 1)) = true := b
        show (kvs.all fun q => q.1.lt n && q.2.lt n) = true
        rw [List.all_eq_true] at b' ⊢
        intro x hx
        have := b' x hx
        rw [Bool.and_eq_true] at this ⊢
        exact ⟨PV.lt_mono hn _ this.1, PV.lt_mono hn _ this.2⟩
      | ins c fs =>
        have b' : (fs.all fun q => q.2.lt (m1.length + 1)) = true := b
        show (fs.all fun q => q.2.lt n) = true
        rw [List.all_eq_true] at b' ⊢
        exact fun x hx => PV.lt_mono hn _ (b' x hx)
      | dtt kvs v =>
        have b' : (kvs.all fun q => q.1.lt (m1.length + 1) && q.2.lt (m1.length + 1)) = true := b
        show (kvs.all fun q => q.1.lt n && q.2.lt n) = true
        rw [List.all_eq_true] at b' ⊢
        intro x hx
        have := b' x hx
        rw [Bool.and_eq_true] at this ⊢
        exact ⟨PV.lt_mono hn _ this.1, PV.lt_mono hn _ this.2⟩
  · have hc : c ≠ D := ne_of_none e hD
    exact a.fr c x hc (by rw [upd_ne hc]; exact e) h
  · rw [List.getElem?_append_left (Nat.lt_of_lt_of_le hn a.le)] at e
    exact a.mu n o' hn e hm
  · show H (if n < m1.length then ρ1 n else D) = none
    by_cases q : n < m1.length
    · rw [if_pos q]
      have := a.nw n h q
      by_cases z : ρ1 n = D
      · rw [z]; exact hD
      · rw [upd_ne z] at this; exact this
    · rw [if_neg q]; exact hD
  · by_cases z : c = D
    · rw [z]; exact hD
    · have := a.dm c h
      rw [upd_ne z] at this; exact this
  · obtain ⟨k1, v1, e1, l1, q1⟩ := a.dv n kvs v e
    refine ⟨k1, v1, by rw [List.getElem?_append_left (List.getElem?_eq_some_iff.mp e1).1]; exact e1, l1, fun z => ⟨(q1 z).1, ?_⟩⟩
    have := (q1 z).2
    rw [upd_ne (r.apart hD e rfl)] at this
    exact this
end
end Dp
set_option Elab.async false
set_option linter.all false
set_option maxRecDepth 100000
/-! Dp4: the operations of the small language over the row's machine. -/
namespace Dp
open PySem PySem.Spec PyProof.Rows L2

theorem sizeB_line : sizeB ≤ sizeLine := by rw [sizeLine_eq]; decide
section
variable {X : Cx} {fa ρ : Nat → Addr} {n0 L : Nat} {m m' : Mem} {H : L2.Hp}

/-- what a step of the small language promises: its value and memory, in whatever later heap they lie -/
def Gives (K : PySem.W.Frag) (fa : Nat → Addr) (n0 : Nat) (ρ : Nat → Addr) (m : Mem) (H : L2.Hp) (Q : VK) (z : PV) (m' : Mem) : Prop :=
  ∀ ρ' v H', Fut K fa n0 ρ m H ρ' m' H' → RV fa ρ' m'.length H' z v → Q v H'
def r2 (K : PySem.W.Frag) (fa : Nat → Addr) (n0 : Nat) (f : Mem → PV → PV → RE) : R2 := fun x y H Q => ∃ ρ m a b z m', Rel K fa ρ m H ∧ RV fa ρ m.length H a x ∧ RV fa ρ m.length H b y ∧ f m a b = .ok (z, m') ∧ Gives K fa n0 ρ m H Q z m'

theorem same_val {Q : VK} {z : PV} (g : Gives X.K fa n0 ρ m H Q z m) (r : Rel X.K fa ρ m H) {v : V} (h : RV fa ρ m.length H z v) : Q v H := g ρ v H (.refl r) h
/-- a tuple, known to the object -/
abbrev tupO (us : List Value) : Obj := { cls := .type "tuple", data := .seq us.toArray }
theorem mk_tup {pins : List (Addr × Obj)} {σ : L2.St} {s : Shared} {t' : Nat} {vs : List V} {us : List Value} (I : L2.Inv X pins σ H s) (r : L2.Vals vs us) (hz : vs.length ≤ sizeLine) :
    L2.Inv X pins σ (upd H s.heap.objs.size (.frz (tupO us) (.tup vs))) { s with heap := s.heap.push (tupO us), toks := t' } :=
  I.laid (t' := t') (o := .frz (tupO us) (.tup vs)) (fun b ob q => Heap.get?_push_of_some _ q) (Nat.le_refl _) ⟨Heap.get?_push_size _ rfl, hz, us, r, IsTup.new _ _⟩
theorem sqT_of {K : PySem.W.Frag} {a : Addr} {o : Obj} {vs : List V} (h : H a = some (.frz o (.tup vs))) : SqT K H a vs := .inl (.inr ⟨o, h⟩)
/-- a new tuple -/
theorem new_tup {Q : VK} {xs : List PV} {vs : List V} {o : Obj} (g : Gives X.K fa n0 ρ m H Q (.tup xs) m) (r : Rel X.K fa ρ m H) (h : RVs fa ρ m.length H xs vs) {p : Addr} (hp : H p = none) (hd : o.dict = none ∧ o.slots = #[]) : Q (.ref p) (upd H p (.frz o (.tup vs))) :=
  g ρ _ _ (.side r hp) (.tup upd_same hd (RVs.mono (fun _ _ => rfl) (Nat.le_refl _) (.new hp) _ _ h))
theorem new_rng {Q : VK} {lo hi : Int} (g : Gives X.K fa n0 ρ m H Q (.rng lo hi) m) (r : Rel X.K fa ρ m H) {p : Addr} (hp : H p = none) : Q (.ref p) (upd H p (.rng lo hi)) :=
  g ρ _ _ (.side r hp) (.rng upd_same)
/-- a new list -/
theorem new_lst {Q : VK} {xs : List PV} {vs : List V} (g : Gives X.K fa n0 ρ m H Q (.loc m.length) (m ++ [.lst xs])) (r : Rel X.K fa ρ m H) (h : RVs fa ρ m.length H xs vs) {p : Addr} (hp : H p = none) : Q (.ref p) (upd H p (.lst vs)) := by
  have F := Fut.new (n0 := n0) (o := .lst xs) (u := .lst vs) r hp fun ρ' hr => ⟨vs, upd_same, RVs.mono hr (Nat.le_succ _) (.new hp) _ _ h⟩
  have e : (fun n => if n < m.length then ρ n else p) m.length = p := if_neg (Nat.lt_irrefl _)
  have q := RV.loc (fa := fa) (ρ := fun n => if n < m.length then ρ n else p) (L := (m ++ [PO.lst xs]).length) (H := upd H p (.lst vs)) (n := m.length) (by rw [List.length_append]; exact Nat.lt_succ_self _)
  rw [if_neg (Nat.lt_irrefl _)] at q
  exact g _ _ _ F q
theorem new_dct {Q : VK} {kvs : List (PV × PV)} {qs : List (Key × V)} (g : Gives X.K fa n0 ρ m H Q (.loc m.length) (m ++ [.dct kvs])) (r : Rel X.K fa ρ m H) (h : RK fa ρ m.length H kvs qs) {p : Addr} (hp : H p = none) : Q (.ref p) (upd H p (.dK qs)) := by
  have F := Fut.new (n0 := n0) (o := .dct kvs) (u := .dK qs) r hp fun ρ' hr => ⟨qs, upd_same, RK.mono hr (Nat.le_succ _) (.new hp) h⟩
  have e : (fun n => if n < m.length then ρ n else p) m.length = p := if_neg (Nat.lt_irrefl _)
  have q := RV.loc (fa := fa) (ρ := fun n => if n < m.length then ρ n else p) (L := (m ++ [PO.dct kvs]).length) (H := upd H p (.dK qs)) (n := m.length) (by rw [List.length_append]; exact Nat.lt_succ_self _)
  rw [if_neg (Nat.lt_irrefl _)] at q
  exact g _ _ _ F q

theorem cmul_of {i j : Int} (h : (small64 i || small64 j) = true) : CMul i j := by
  unfold small64 at h
  rw [Bool.or_eq_true] at h
  rcases h with h | h
  · exact .inl (by have := of_decide_eq_true h; omega)
  · exact .inr (by have := of_decide_eq_true h; omega)
theorem rv_tup {x : V} {xs : List PV} (h : RV fa ρ L H (.tup xs) x) : ∃ a o vs, x = .ref a ∧ H a = some (.frz o (.tup vs)) ∧ (o.dict = none ∧ o.slots = #[]) ∧ RVs fa ρ L H xs vs := by
  cases h with
  | tup e d r => exact ⟨_, _, _, rfl, e, d, r⟩
theorem rv_int {x : V} {i : Int} (h : RV fa ρ L H (.int i) x) : x = .int i := by cases h; rfl
theorem rv_bl {x : V} {i : Bool} (h : RV fa ρ L H (.bl i) x) : x = .bl i := by cases h; rfl
theorem rv_non {x : V} (h : RV fa ρ L H .non x) : x = .non := by cases h; rfl
theorem rv_loc {x : V} {n : Nat} (h : RV fa ρ L H (.loc n) x) : x = .ref (ρ n) ∧ n < L := by
  cases h with
  | loc e => exact ⟨rfl, e⟩
theorem rel_lst {K : PySem.W.Frag} {n : Nat} {xs : List PV} (r : Rel K fa ρ m H) (e : m[n]? = some (.lst xs)) : ∃ vs, H (ρ n) = some (.lst vs) ∧ RVs fa ρ m.length H xs vs := r.objs n _ e
theorem rel_dct {K : PySem.W.Frag} {n : Nat} {kvs : List (PV × PV)} (r : Rel K fa ρ m H) (e : m[n]? = some (.dct kvs)) : ∃ qs, H (ρ n) = some (.dK qs) ∧ RK fa ρ m.length H kvs qs := r.objs n _ e
theorem rel_seq {K : PySem.W.Frag} {n : Nat} {xs : List PV} (r : Rel K fa ρ m H) (e : lstAt m n = some xs) : ∃ vs, SqL K H (ρ n) vs ∧ RVs fa ρ m.length H xs vs := by
  unfold lstAt at e
  split at e
  · rename_i ys e2; cases e
    obtain ⟨vs, h1, h2⟩ := r.objs n _ e2
    exact ⟨vs, .of h1, h2⟩
  · rename_i ys e2; cases e
    obtain ⟨vs, h1, h2⟩ := r.objs n _ e2
    rcases h1 with ⟨o, h1⟩ | h1
    · exact ⟨vs, .inl (.inr ⟨o, h1⟩), h2⟩
    · exact ⟨vs, .inr h1, h2⟩
  · cases e

/-- a tuple so many times -/
theorem tup_rep {pins : List (Addr × Obj)} {σ : L2.St} {s : Shared} {l : Addr} {k : Int} {u : Value} {xs : List V} {Q : VK} (I : L2.Inv X pins σ H s) (hT : SqT X.K H l xs) (ry : L2.RelV (.int k) u) (hne : xs ≠ []) (h1 : 2 ≤ k) (h2 : k ≤ 1000) (hz : xs.length ≤ 1000)
    (q : ∀ o p, H p = none → o.dict = none ∧ o.slots = #[] → Q (.ref p) (upd H p (.frz o (.tup (List.replicate k.toNat xs).flatten)))) : wpAny (model X.prog X.w) X.A (binaryOp .Mult (.ref l) u) (EP X pins σ Q) X.xe s := by
  obtain ⟨t, rfl⟩ := ry
  obtain ⟨its, r, ⟨⟨cls, dd, data, sl⟩, ho, hc, n, hd⟩, hs⟩ := I.tuple hT
  simp only at hc hd
  subst hc hd
  have hle : its.length = xs.length := r.length.symm
  have hn : its ≠ [] := fun e => hne (List.eq_nil_of_length_eq_zero (by rw [← hle, e]; rfl))
  have hi : its.toArray.isEmpty = false := by
    cases its with
    | nil => exact absurd rfl hn
    | cons a b => rfl
  have hsz0 : its.toArray.size = xs.length := by rw [List.size_toArray, hle]
  have hm : ((its.toArray.size : Nat) : Int) * k ≤ 1000000 := by
    rw [hsz0]
    have a1 : ((xs.length : Nat) : Int) * k ≤ 1000 * k := Int.mul_le_mul_of_nonneg_right (by omega) (by omega)
    omega
  have flen : (List.replicate k.toNat its).flatten.length ≤ sizeLine := by
    rw [PyProof.Rows.lm_len_rep_flat, hle, sizeLine_eq]
    have a1 : k.toNat * xs.length ≤ 1000 * 1000 := Nat.mul_le_mul (by omega) hz
    omega
  have c0 : (decide (k < -(2 ^ 63)) || decide (k ≥ 2 ^ 63)) = false := by rw [decide_eq_false (by omega), decide_eq_false (by omega)] <;> rfl
  have c1 : (its.toArray.isEmpty || k == 1) = false := by
    rw [hi, Bool.false_or]
    exact beq_eq_false_iff_ne.mpr (by omega)
  have c2 : (decide (k ≤ 0) || its.toArray.isEmpty) = false := by
    rw [hi, Bool.or_false]
    exact decide_eq_false (by omega)
  have c4 : Builtin.Tuple.tupleTooMany (((its.toArray.size : Nat) : Int) * k) = false := by
    unfold Builtin.Tuple.tupleTooMany
    rw [sizeLine_eq]
    exact decide_eq_false (by omega)
  refine wpAny_binaryOp_repeat_ref (T := "tuple") (U := "int") (by decide) ⟨_, ho, rfl⟩ (fun s' => typeIs_int s' k t) noFill_tuple_mul F.fills_int_mul F.slot_int_rmul repeat_tuple F.slot_int_index.lookup
    (call_meets F.slot_int_rmul (typeIs_int s k t) F.entry_int_rmul (F.args_int_rmul_2 _ _) (int_rmul_tuple k t l its.toArray n dd sl)
      ⟨ho, rfl, ⟨_, ho, rfl⟩, call_meets F.slot_tuple_mul ⟨_, ho, rfl⟩ F.entry_tuple_mul (F.args_tuple_mul_2 _ _) (tuple_mulW l its.toArray n dd sl k t c0 c1 c2 (by omega) c4 (by rw [size_rep, List.size_toArray]; exact flen)) ⟨ho, ?_⟩⟩)
  rw [size_rep]
  exact ⟨.ref s.heap.objs.size, _, mk_tup (t' := s.toks) I (r.rep k.toNat) (by have := (r.rep k.toNat).length; rw [this]; exact flen), rfl, q _ _ (I.hok.fresh (Nat.le_refl _)) ⟨rfl, rfl⟩⟩

theorem tuple_mul_same (l : Addr) (items : Array Value) (n : Nat) (dd : Option Addr) (sl : Array (Option Value)) (x : Int) (u : Tok) (c0 : (decide (x < -(2 ^ 63)) || decide (x ≥ 2 ^ 63)) = false) (c1 : (items.isEmpty || x == 1) = true) :
    Meets (Builtin.«tuple.__mul__» ⟨[.ref l, .int x u], []⟩) (fun _ R s => s.heap.get? l = some { cls := .type "tuple", dict := dd, data := .seq items n, slots := sl } ∧ R (.ok (.ret (Value.ref l))) s) :=
  .of_wp fun prog w A R s h => by
    obtain ⟨hp, g, d, tk, os⟩ := s
    obtain ⟨hl, h⟩ := h
    have f1 := AutoSeq1.idx_int
    wp_walk using wpAny_loadPart' hl
    repeat (first
      | (refine wpAny_ite_false (decide_eq_false (by rw [c0]; exact Bool.false_ne_true)) ?_; wp_walk using wpAny_loadPart' hl)
      | (refine wpAny_ite_true (decide_eq_true (by rw [c1])) ?_; wp_walk using wpAny_loadPart' hl))
    exact ⟨_, rfl, h⟩
theorem tuple_mul_none (l : Addr) (items : Array Value) (n : Nat) (dd : Option Addr) (sl : Array (Option Value)) (x : Int) (u : Tok) (c0 : (decide (x < -(2 ^ 63)) || decide (x ≥ 2 ^ 63)) = false) (c1 : (items.isEmpty || x == 1) = false) (c2 : (decide (x ≤ 0) || items.isEmpty) = true) :
    Meets (Builtin.«tuple.__mul__» ⟨[.ref l, .int x u], []⟩) (fun _ R s => s.heap.get? l = some { cls := .type "tuple", dict := dd, data := .seq items n, slots := sl } ∧
      R (.ok (.ret (Value.ref s.heap.objs.size))) { s with heap := s.heap.push { cls := Value.type "tuple", data := Data.seq #[] }, toks := s.toks }) :=
  .of_wp fun prog w A R s h => by
    obtain ⟨hp, g, d, tk, os⟩ := s
    obtain ⟨hl, h⟩ := h
    have f1 := AutoSeq1.idx_int
    wp_walk using wpAny_loadPart' hl
    repeat (first
      | (refine wpAny_ite_false (decide_eq_false (by rw [c0]; exact Bool.false_ne_true)) ?_; wp_walk using wpAny_loadPart' hl)
      | (refine wpAny_ite_false (decide_eq_false (by rw [c1]; exact Bool.false_ne_true)) ?_; wp_walk using wpAny_loadPart' hl)
      | (refine wpAny_ite_true (decide_eq_true (by rw [c2])) ?_; wp_walk using wpAny_loadPart' hl))
    exact ⟨_, rfl, h⟩
/-- a tuple never or once -/
theorem tup_rep0 {pins : List (Addr × Obj)} {σ : L2.St} {s : Shared} {l : Addr} {k : Int} {u : Value} {xs : List V} {Q : VK} (I : L2.Inv X pins σ H s) (hT : SqT X.K H l xs) (ry : L2.RelV (.int k) u) (h1 : -1000 ≤ k) (h2 : k ≤ 1000) (hk : xs = [] ∨ k ≤ 1)
    (q1 : xs = [] ∨ k = 1 → Q (.ref l) H) (q2 : k ≤ 0 → ∀ o p, H p = none → o.dict = none ∧ o.slots = #[] → Q (.ref p) (upd H p (.frz o (.tup [])))) : wpAny (model X.prog X.w) X.A (binaryOp .Mult (.ref l) u) (EP X pins σ Q) X.xe s := by
  obtain ⟨t, rfl⟩ := ry
  obtain ⟨its, r, ⟨⟨cls, dd, data, sl⟩, ho, hc, n, hd⟩, hs⟩ := I.tuple hT
  simp only at hc hd
  subst hc hd
  have hle : its.length = xs.length := r.length.symm
  have c0 : (decide (k < -(2 ^ 63)) || decide (k ≥ 2 ^ 63)) = false := by rw [decide_eq_false (by omega), decide_eq_false (by omega)] <;> rfl
  refine wpAny_binaryOp_repeat_ref (T := "tuple") (U := "int") (by decide) ⟨_, ho, rfl⟩ (fun s' => typeIs_int s' k t) noFill_tuple_mul F.fills_int_mul F.slot_int_rmul repeat_tuple F.slot_int_index.lookup
    (call_meets F.slot_int_rmul (typeIs_int s k t) F.entry_int_rmul (F.args_int_rmul_2 _ _) (int_rmul_tuple k t l its.toArray n dd sl) ⟨ho, rfl, ⟨_, ho, rfl⟩, ?_⟩)
  by_cases c1 : xs = [] ∨ k = 1
  · have b1 : (its.toArray.isEmpty || k == 1) = true := by
      rcases c1 with z | z
      · subst z
        have : its = [] := List.eq_nil_of_length_eq_zero hle
        rw [this]; rfl
      · subst z; simp
    exact call_meets F.slot_tuple_mul ⟨_, ho, rfl⟩ F.entry_tuple_mul (F.args_tuple_mul_2 _ _) (tuple_mul_same l its.toArray n dd sl k t c0 b1) ⟨ho, ⟨.ref l, H, I, rfl, q1 c1⟩⟩
  · have hx : xs ≠ [] := fun z => c1 (.inl z)
    have hk1 : k ≠ 1 := fun z => c1 (.inr z)
    have hk0 : k ≤ 0 := by
      rcases hk with z | z
      · exact absurd z hx
      · omega
    have hi : its.toArray.isEmpty = false := by
      cases its with
      | nil => exact absurd (List.eq_nil_of_length_eq_zero hle.symm) hx
      | cons a b => rfl
    have b1 : (its.toArray.isEmpty || k == 1) = false := by
      rw [hi, Bool.false_or]
      exact beq_eq_false_iff_ne.mpr hk1
    have b2 : (decide (k ≤ 0) || its.toArray.isEmpty) = true := by
      rw [decide_eq_true hk0]; rfl
    refine call_meets F.slot_tuple_mul ⟨_, ho, rfl⟩ F.entry_tuple_mul (F.args_tuple_mul_2 _ _) (tuple_mul_none l its.toArray n dd sl k t c0 b1 b2) ⟨ho, ?_⟩
    exact ⟨.ref s.heap.objs.size, _, mk_tup (t' := s.toks) I (vs := []) (us := []) .nil (Nat.zero_le _), rfl, q2 hk0 _ _ (I.hok.fresh (Nat.le_refl _)) ⟨rfl, rfl⟩⟩

/-- the operators on whole numbers, tuples, lists -/
theorem bin_ok {o : Op} {p : Operator} (h : opB o p = true) : OpR X (binaryOp p) (r2 X.K fa n0 fun m a b => binB m o a b) := by
  intro pins s σ H x y v u Q I rx ry hr
  obtain ⟨ρ, m, a, b, z, m', R, ra, rb, e, g⟩ := hr
  have e : binB m o a b = .ok (z, m') := e
  unfold binB at e
  split at e
  -- +
  · cases p <;> first | (cases h; done) | skip
    cases e
    rw [rv_int ra] at rx; rw [rv_int rb] at ry
    exact op_add pins s σ H _ _ v u Q I rx ry ⟨_, _, rfl, rfl, same_val g R (.int _)⟩
  -- -
  · cases p <;> first | (cases h; done) | skip
    cases e
    rw [rv_int ra] at rx; rw [rv_int rb] at ry
    exact op_sub pins s σ H _ _ v u Q I rx ry ⟨_, _, rfl, rfl, same_val g R (.int _)⟩
  -- *
  · cases p <;> first | (cases h; done) | skip
    split at e
    · rename_i hs
      cases e
      rw [rv_int ra] at rx; rw [rv_int rb] at ry
      exact op_mul pins s σ H _ _ v u Q I rx ry ⟨_, _, rfl, rfl, cmul_of hs, same_val g R (.int _)⟩
    · cases e
  -- //
  · cases p <;> first | (cases h; done) | skip
    split at e
    · rename_i hs
      cases e
      rw [rv_int ra] at rx; rw [rv_int rb] at ry
      rw [Bool.and_eq_true] at hs
      exact op_fdivN pins s σ H _ _ v u Q I rx ry ⟨_, _, rfl, rfl, ⟨by simpa using hs.1, of_decide_eq_true hs.2⟩, same_val g R (.int _)⟩
    · cases e
  -- %
  · cases p <;> first | (cases h; done) | skip
    split at e
    · rename_i hs
      cases e
      rw [rv_int ra] at rx; rw [rv_int rb] at ry
      exact op_modN pins s σ H _ _ v u Q I rx ry ⟨_, _, rfl, rfl, by simpa using hs, same_val g R (.int _)⟩
    · cases e
  -- **
  · cases p <;> first | (cases h; done) | skip
    split at e
    · rename_i hs
      cases e
      rw [rv_int ra] at rx; rw [rv_int rb] at ry
      rw [Bool.and_eq_true, Bool.and_eq_true] at hs
      exact op_pow pins s σ H _ _ v u Q I rx ry ⟨_, _, rfl, rfl, ⟨of_decide_eq_true hs.1.1, of_decide_eq_true hs.1.2, by have := of_decide_eq_true (show decide _ = true from hs.2); omega⟩, same_val g R (.int _)⟩
    · cases e
  -- <<
  · cases p <;> first | (cases h; done) | skip
    split at e
    · rename_i hs
      cases e
      rw [rv_int ra] at rx; rw [rv_int rb] at ry
      rw [Bool.and_eq_true, Bool.and_eq_true] at hs
      exact op_shl pins s σ H _ _ v u Q I rx ry ⟨_, _, rfl, rfl, ⟨of_decide_eq_true hs.1.1, of_decide_eq_true hs.1.2, by have := of_decide_eq_true (show decide _ = true from hs.2); omega⟩, same_val g R (.int _)⟩
    · cases e
  -- >>
  · cases p <;> first | (cases h; done) | skip
    split at e
    · rename_i hs
      cases e
      rw [rv_int ra] at rx; rw [rv_int rb] at ry
      exact op_shr pins s σ H _ _ v u Q I rx ry ⟨_, _, rfl, rfl, of_decide_eq_true hs, same_val g R (.int _)⟩
    · cases e
  -- tuples: +
  · cases p <;> first | (cases h; done) | skip
    split at e
    · rename_i hs
      cases e
      obtain ⟨a1, o1, vs, rfl, e1, _, q1⟩ := rv_tup ra
      obtain ⟨b1, o2, ws, rfl, e2, _, q2⟩ := rv_tup rb
      have hz : vs.length + ws.length ≤ sizeLine := by rw [← q1.length, ← q2.length]; exact Nat.le_trans (of_decide_eq_true hs) sizeB_line
      by_cases hx : vs = []
      · refine op_catA pins s σ H _ _ v u Q I rx ry ⟨_, _, vs, ws, rfl, rfl, sqT_of e1, sqT_of e2, hz, fun _ => ?_, fun z => absurd hx z, fun z => absurd hx z⟩
        subst hx
        cases q1
        exact same_val g R rb
      · cases rx
        cases ry
        obtain ⟨its, r1, p1, _⟩ := I.tuple (sqT_of e1)
        obtain ⟨its2, r2, p2, _⟩ := I.tuple (sqT_of e2)
        refine HT.cat_tup p1 p2 (fun z => hx (r1.nil_iff.mp z)) (fun z => ⟨.ref a1, H, I, rfl, ?_⟩) (fun z => ?_) (by rw [← r1.length, ← r2.length]; exact hz)
        · have hw : ws = [] := r2.nil_iff.mp z
          subst hw
          cases q2
          rw [List.append_nil] at g
          exact same_val g R ra
        · exact ⟨.ref s.heap.objs.size, _, mk_tup (t' := s.toks) I (r1.append r2) (by rw [List.length_append]; exact hz), rfl, new_tup g R (q1.append q2) (I.hok.fresh (Nat.le_refl _)) ⟨rfl, rfl⟩⟩
    · cases e
  -- tuple * int
  · cases p <;> first | (cases h; done) | skip
    split at e
    · rename_i ys k e0 hs
      cases e
      obtain ⟨a1, o1, vs, rfl, e1, _, q1⟩ := rv_tup ra
      rw [rv_int rb] at ry
      rw [Bool.and_eq_true, Bool.and_eq_true] at hs
      obtain ⟨⟨h1, h2⟩, h3⟩ := hs
      have h1 := of_decide_eq_true h1
      have h2 := of_decide_eq_true h2
      cases rx
      by_cases c : vs = [] ∨ k ≤ 1
      · refine tup_rep0 I (sqT_of e1) ry h1 h2 c (fun z => ?_) (fun z o p hp hd => ?_)
        · have ez : (List.replicate k.toNat ys).flatten = ys := by
            rcases z with z | z
            · subst z
              cases q1
              clear g
              induction k.toNat with
              | zero => rfl
              | succ n ih => rw [List.replicate_succ, List.flatten_cons, ih]; rfl
            · subst z
              show (List.replicate 1 ys).flatten = ys
              rw [List.replicate_succ, List.flatten_cons, List.replicate_zero, List.flatten_nil, List.append_nil]
          rw [ez] at g
          exact same_val g R ra
        · have ez : (List.replicate k.toNat ys).flatten = [] := by
            rw [show k.toNat = 0 by omega]; rfl
          rw [ez] at g
          exact new_tup g R .nil hp hd
      · have c1 : vs ≠ [] := fun z => c (.inl z)
        have c2 : ¬ k ≤ 1 := fun z => c (.inr z)
        exact tup_rep I (sqT_of e1) ry c1 (by omega) h2 (by rw [← q1.length]; exact of_decide_eq_true h3) fun o p hp hd => new_tup g R (q1.rep _) hp hd
    · cases e
  -- list + list
  · cases p <;> first | (cases h; done) | skip
    rename_i i j
    obtain ⟨ex, hi⟩ := rv_loc ra
    obtain ⟨ey, hj⟩ := rv_loc rb
    subst ex ey
    split at e
    · rename_i xs ys e1 e2
      split at e
      · rename_i hs
        cases e
        obtain ⟨vs, h1, q1⟩ := rel_lst R e1
        obtain ⟨ws, h2, q2⟩ := rel_lst R e2
        exact op_cat pins s σ H _ _ v u Q I rx ry ⟨_, _, vs, ws, rfl, rfl, h1, h2, by rw [← q1.length, ← q2.length]; exact Nat.le_trans (of_decide_eq_true hs) sizeB_line, fun p hp => new_lst g R (q1.append q2) hp⟩
      · cases e
    · cases e
  -- list * int
  · cases p <;> first | (cases h; done) | skip
    obtain ⟨ex, hi⟩ := rv_loc ra
    subst ex
    rw [rv_int rb] at ry
    split at e
    · rename_i xs e1
      split at e
      · rename_i hs
        cases e
        rw [Bool.and_eq_true] at hs
        obtain ⟨vs, h1, q1⟩ := rel_lst R e1
        have h62 := of_decide_eq_true (show decide _ = true from hs.1)
        exact op_rep pins s σ H _ _ v u Q I rx ry ⟨_, _, vs, rfl, rfl, h1, by omega, by omega, by rw [← q1.length]; exact Nat.le_trans (of_decide_eq_true hs.2) sizeB_line, fun p hp => new_lst g R (q1.rep _) hp⟩
      · cases e
    · cases e
  · cases e

/-! ### comparisons -/
/-- as data -/
def toPD (m : Mem) : Nat → PV → PyData
  | 0, _ => .none
  | d + 1, x => match x with
    | .bl b => .bool b
    | .int i => .int i
    | .str s => .str ⟨s.toArray⟩
    | .tup xs => .tuple (xs.map (toPD m d))
    | .loc n => match lstAt m n with
      | some xs => .list (xs.map (toPD m d))
      | none => .none
    | _ => .none
theorem dps_of {d : Nat} (hd : ∀ (x : PV) (v : V), okD m d x = true → RV fa ρ m.length H x v → Dp X.K H v (toPD m d x) ∧ (toPD m d x).canLay0 = true ∧ (toPD m d x).depth ≤ d) :
    ∀ (xs : List PV) (vs : List V), xs.all (okD m d) = true → RVs fa ρ m.length H xs vs → DpAll X.K H vs (xs.map (toPD m d)) ∧ PyData.canLayAll0 (xs.map (toPD m d)) = true ∧ PyData.depthAll (xs.map (toPD m d)) ≤ d
  | [], _, _, r => by cases r; exact ⟨.nil, rfl, Nat.zero_le _⟩
  | x :: xs, _, h, r => by
    cases r with
    | cons a b =>
      rw [List.all_cons, Bool.and_eq_true] at h
      obtain ⟨h1, h2, h3⟩ := hd x _ h.1 a
      obtain ⟨g1, g2, g3⟩ := dps_of hd xs _ h.2 b
      refine ⟨.cons h1 g1, ?_, ?_⟩
      · show (PyData.canLay0 _ && PyData.canLayAll0 _) = true
        rw [h2, g2] <;> rfl
      · show max (PyData.depth _) (PyData.depthAll _) ≤ d
        exact Nat.max_le.mpr ⟨h3, g3⟩
theorem dp_of (r : Rel X.K fa ρ m H) : ∀ (d : Nat) (x : PV) (v : V), okD m d x = true → RV fa ρ m.length H x v → Dp X.K H v (toPD m d x) ∧ (toPD m d x).canLay0 = true ∧ (toPD m d x).depth ≤ d
  | 0, _, _, h, _ => by cases h
  | d + 1, x, v, h, q => by
    cases q with
    | non => exact ⟨.non, rfl, Nat.zero_le _⟩
    | bl b => exact ⟨.bl b, rfl, Nat.zero_le _⟩
    | int i => exact ⟨.int i, rfl, Nat.zero_le _⟩
    | str y =>
      refine ⟨.str y, ?_, Nat.zero_le _⟩
      have h' : (y.cps.toList.all fun c => decide (c < 1114112)) = true := h
      show (y.cps.toList.toArray.all (· < 0x110000)) = true
      rw [← Array.all_toList]
      exact h'
    | @tup a o vs xs e hd qs =>
      have h' : xs.all (okD m d) = true := h
      obtain ⟨h1, h2, h3⟩ := dps_of (dp_of r d) xs vs h' qs
      exact ⟨.tup (sqT_of e) h1, h2, Nat.succ_le_succ h3⟩
    | rng e => cases h
    | @loc n hn =>
      have h' : (match lstAt m n with | some xs => xs.all (okD m d) | none => false) = true := h
      cases e : lstAt m n with
      | none => rw [e] at h'; cases h'
      | some xs =>
        rw [e] at h'
        obtain ⟨vs, s, qs⟩ := rel_seq r e
        obtain ⟨h1, h2, h3⟩ := dps_of (dp_of r d) xs vs h' qs
        have et : toPD m (d + 1) (.loc n) = .list (xs.map (toPD m d)) := by show (match lstAt m n with | some xs => _ | none => _) = _; rw [e]
        rw [et]
        exact ⟨.lst s h1, h2, Nat.succ_le_succ h3⟩
    | fn n => cases h
theorem eqs_of {d : Nat} (hd : ∀ x y : PV, okD m d x = true → okD m d y = true → eqb m d x y = PyData.eqv (toPD m d x) (toPD m d y)) :
    ∀ xs ys : List PV, xs.all (okD m d) = true → ys.all (okD m d) = true → eqbs (eqb m d) xs ys = PyData.eqvAll (xs.map (toPD m d)) (ys.map (toPD m d))
  | [], [], _, _ => rfl
  | [], _ :: _, _, _ => rfl
  | _ :: _, [], _, _ => rfl
  | x :: xs, y :: ys, h, g => by
    rw [List.all_cons, Bool.and_eq_true] at h g
    show (eqb m d x y && eqbs (eqb m d) xs ys) = (PyData.eqv _ _ && PyData.eqvAll _ _)
    rw [hd x y h.1 g.1, eqs_of hd xs ys h.2 g.2]
theorem str_eqv (a b : List Nat) : (a == b) = ((⟨a.toArray⟩ : Str) == ⟨b.toArray⟩) := by
  rw [← SeqAt.str_beq]
theorem eq_of : ∀ (d : Nat) (x y : PV), okD m d x = true → okD m d y = true → eqb m d x y = PyData.eqv (toPD m d x) (toPD m d y)
  | 0, _, _, h, _ => by cases h
  | d + 1, x, y, h, g => by
    have lo : ∀ n, okD m (d + 1) (.loc n) = true → ∃ xs, lstAt m n = some xs ∧ xs.all (okD m d) = true ∧ toPD m (d + 1) (.loc n) = .list (xs.map (toPD m d)) := fun n h => by
      have h' : (match lstAt m n with | some xs => xs.all (okD m d) | none => false) = true := h
      cases e : lstAt m n with
      | none => rw [e] at h'; cases h'
      | some xs =>
        rw [e] at h'
        exact ⟨xs, rfl, h', by show (match lstAt m n with | some xs => _ | none => _) = _; rw [e]⟩
    cases x with
    | rng _ _ => cases h
    | fn _ => cases h
    | exn _ => cases h
    | loc n =>
      obtain ⟨xs, e1, h1, t1⟩ := lo n h
      rw [t1]
      cases y with
      | rng _ _ => cases g
      | fn _ => cases g
      | exn _ => cases g
      | loc k =>
        obtain ⟨ys, e2, h2, t2⟩ := lo k g
        rw [t2]
        show (match lstAt m n, lstAt m k with | some xs, some ys => _ | _, _ => _) = _
        rw [e1, e2]
        exact eqs_of (eq_of d) xs ys h1 h2
      | _ => rfl
    | _ =>
      cases y with
      | rng _ _ => cases g
      | fn _ => cases g
      | exn _ => cases g
      | loc k =>
        obtain ⟨ys, e2, h2, t2⟩ := lo k g
        rw [t2]
        rfl
      | _ => first | rfl | exact str_eqv _ _ | exact eqs_of (eq_of d) _ _ h g
theorem shaped_of {d : Nat} {x : PyData} (h : x.canLay0 = true) (hd : x.depth ≤ d) (h64 : d ≤ 64) : SeqAt.shaped x = true := by
  unfold SeqAt.shaped
  rw [h, decide_eq_true (Nat.le_trans hd h64)] <;> rfl
theorem eqq_some {x y : PV} {b : Bool} (h : eqq m x y = some b) : okD m depthB x = true ∧ okD m depthB y = true ∧ eqb m depthB x y = b := by
  unfold eqq at h
  split at h
  · rename_i q
    rw [Bool.and_eq_true] at q
    exact ⟨q.1, q.2, Option.some.inj h⟩
  · cases h
theorem eq_ok (hu : X.A.units + 64 < cLine) : OpR X (compareOp .Eq) (r2 X.K fa n0 fun m a b => cmpB m .eq a b) := by
  intro pins s σ H x y v u Q I rx ry hr
  obtain ⟨ρ, m, a, b, z, m', R, ra, rb, e, g⟩ := hr
  have e : obl m (eqq m a b) = .ok (z, m') := e
  cases eb : eqq m a b with
  | none => rw [eb] at e; cases e
  | some k =>
    rw [eb] at e
    cases e
    obtain ⟨h1, h2, h3⟩ := eqq_some eb
    obtain ⟨d1, c1, l1⟩ := dp_of R depthB a x h1 ra
    obtain ⟨d2, c2, l2⟩ := dp_of R depthB b y h2 rb
    refine op_eqD hu pins s σ H _ _ v u Q I rx ry ⟨_, _, d1, d2, shaped_of c1 l1 (by decide), shaped_of c2 l2 (by decide), ?_⟩
    rw [← eq_of depthB a b h1 h2, h3]
    exact same_val g R (.bl _)
theorem ne_ok (hu : X.A.units + 64 < cLine) : OpR X (compareOp .NotEq) (r2 X.K fa n0 fun m a b => cmpB m .ne a b) := by
  intro pins s σ H x y v u Q I rx ry hr
  obtain ⟨ρ, m, a, b, z, m', R, ra, rb, e, g⟩ := hr
  have e : obl m ((eqq m a b).map not) = .ok (z, m') := e
  cases eb : eqq m a b with
  | none => rw [eb] at e; cases e
  | some k =>
    rw [eb] at e
    cases e
    obtain ⟨h1, h2, h3⟩ := eqq_some eb
    obtain ⟨d1, c1, l1⟩ := dp_of R depthB a x h1 ra
    obtain ⟨d2, c2, l2⟩ := dp_of R depthB b y h2 rb
    refine op_neD hu pins s σ H _ _ v u Q I rx ry ⟨_, _, d1, d2, shaped_of c1 l1 (by decide), shaped_of c2 l2 (by decide), ?_⟩
    rw [← eq_of depthB a b h1 h2, h3]
    exact same_val g R (.bl _)
end
end Dp
set_option Elab.async false
set_option linter.all false
set_option maxRecDepth 100000
/-! DpD: dicts whose keys are tuples. -/
namespace Dp
open PySem PySem.Spec PyProof.Rows L2

/-! ### keys -/
theorem nks_cons {x : PV} {xs : List PV} {ks : List NestedKey} (h : nksOf (x :: xs) = some ks) : ∃ k r, nkOf x = some k ∧ nksOf xs = some r ∧ ks = k :: r := by
  unfold nksOf at h
  split at h
  · rename_i k r e1 e2
    exact ⟨k, r, e1, e2, (Option.some.inj h).symm⟩
  · cases h
theorem nk_tup {xs : List PV} {k : NestedKey} (h : nkOf (.tup xs) = some k) : ∃ ks, nksOf xs = some ks ∧ k = .tup ks := by
  unfold nkOf at h
  obtain ⟨ks, e1, e2⟩ := Option.map_eq_some_iff.mp h
  exact ⟨ks, e1, e2.symm⟩
mutual
theorem nk_hash (w w' : World) : ∀ (x : PV) (k : NestedKey), nkOf x = some k → k.hash w = k.hash w'
  | .non, k, h => by cases h; rfl
  | .int i, k, h => by cases h; rfl
  | .tup xs, k, h => by
    obtain ⟨ks, e1, rfl⟩ := nk_tup h
    show reduceHash (Builtin.Tuple.tupleHashOf (NestedKey.hashes w ks)) = reduceHash (Builtin.Tuple.tupleHashOf (NestedKey.hashes w' ks))
    rw [nks_hash w w' xs ks e1]
  | .bl _, _, h => by cases h
  | .str _, _, h => by cases h
  | .rng _ _, _, h => by cases h
  | .loc _, _, h => by cases h
  | .fn _, _, h => by cases h
  | .exn _, _, h => by cases h
theorem nks_hash (w w' : World) : ∀ (xs : List PV) (ks : List NestedKey), nksOf xs = some ks → NestedKey.hashes w ks = NestedKey.hashes w' ks
  | [], ks, h => by cases h; rfl
  | x :: xs, ks, h => by
    obtain ⟨k, r, e1, e2, rfl⟩ := nks_cons h
    show NestedKey.hash w k :: NestedKey.hashes w r = NestedKey.hash w' k :: NestedKey.hashes w' r
    rw [nk_hash w w' x k e1, nks_hash w w' xs r e2]
end
theorem okN_nk : ∀ (n : Nat) (x : PV), okN n x = true → ∃ k, nkOf x = some k ∧ k.depth ≤ n
  | 0, x, h => by
    unfold okN at h
    split at h
    · exact ⟨_, rfl, Nat.le_refl _⟩
    · exact ⟨_, rfl, Nat.le_refl _⟩
    · cases h
  | n + 1, x, h => by
    unfold okN at h
    split at h
    · exact ⟨_, rfl, Nat.zero_le _⟩
    · exact ⟨_, rfl, Nat.zero_le _⟩
    · rename_i xs
      have go : ∀ ys : List PV, ys.all (okN n) = true → ∃ ks, nksOf ys = some ks ∧ NestedKey.depthAll ks ≤ n := by
        intro ys
        induction ys with
        | nil => exact fun _ => ⟨[], rfl, Nat.zero_le _⟩
        | cons y ys ih =>
          intro hy
          rw [List.all_cons, Bool.and_eq_true] at hy
          obtain ⟨k, e1, d1⟩ := okN_nk n y hy.1
          obtain ⟨ks, e2, d2⟩ := ih hy.2
          refine ⟨k :: ks, by unfold nksOf; rw [e1, e2], ?_⟩
          show max k.depth (NestedKey.depthAll ks) ≤ n
          exact Nat.max_le.mpr ⟨d1, d2⟩
      obtain ⟨ks, e, d⟩ := go xs h
      exact ⟨.tup ks, by unfold nkOf; rw [e]; rfl, Nat.succ_le_succ d⟩
    · cases h
theorem okT_nk {x : PV} (h : okT x = true) : ∃ xs ks, x = .tup xs ∧ nkOf x = some (.tup ks) ∧ (NestedKey.tup ks).depth ≤ 8 := by
  unfold okT at h
  rw [Bool.and_eq_true] at h
  obtain ⟨k, e, d⟩ := okN_nk _ _ h.2
  cases x with
  | tup xs =>
    obtain ⟨ks, e1, rfl⟩ := nk_tup e
    exact ⟨xs, ks, rfl, e, d⟩
  | _ => cases h.1
theorem nk_eqb : ∀ (d : Nat) (x y : PV) (a b : NestedKey), nkOf x = some a → nkOf y = some b → a.depth < d → b.depth < d → eqb [] d x y = a.beq b
  | 0, _, _, _, _, _, _, h, _ => absurd h (Nat.not_lt_zero _)
  | d + 1, x, y, a, b, ha, hb, da, db => by
    have go : ∀ (xs ys : List PV) (ks ls : List NestedKey), nksOf xs = some ks → nksOf ys = some ls → NestedKey.depthAll ks < d → NestedKey.depthAll ls < d → eqbs (eqb [] d) xs ys = NestedKey.beqAll ks ls := by
      intro xs
      induction xs with
      | nil =>
        intro ys ks ls h1 h2 _ _
        cases h1
        cases ys with
        | nil => cases h2; rfl
        | cons y ys => obtain ⟨_, _, _, _, rfl⟩ := nks_cons h2; rfl
      | cons x xs ih =>
        intro ys ks ls h1 h2 d1 d2
        obtain ⟨k, r, e1, e2, rfl⟩ := nks_cons h1
        cases ys with
        | nil => cases h2; rfl
        | cons y ys =>
          obtain ⟨l, t, e3, e4, rfl⟩ := nks_cons h2
          have d1' : max k.depth (NestedKey.depthAll r) < d := d1
          have d2' : max l.depth (NestedKey.depthAll t) < d := d2
          have a1 := nk_eqb d x y k l e1 e3 (by omega) (by omega)
          have a2 := ih ys r t e2 e4 (by omega) (by omega)
          show (eqb [] d x y && eqbs (eqb [] d) xs ys) = (NestedKey.beq k l && NestedKey.beqAll r t)
          rw [a1, a2]
    cases x with
    | non => cases ha; cases y <;> first | (cases hb; rfl; done) | (cases hb; done) | (obtain ⟨_, _, rfl⟩ := nk_tup hb; rfl)
    | int i =>
      cases ha
      cases y <;> first | (cases hb; rfl; done) | (cases hb; done) | (obtain ⟨_, _, rfl⟩ := nk_tup hb; rfl)
    | tup xs =>
      obtain ⟨ks, e1, rfl⟩ := nk_tup ha
      cases y with
      | tup ys =>
        obtain ⟨ls, e2, rfl⟩ := nk_tup hb
        have d1 : NestedKey.depthAll ks + 1 < d + 1 := da
        have d2 : NestedKey.depthAll ls + 1 < d + 1 := db
        exact go xs ys ks ls e1 e2 (by omega) (by omega)
      | non => cases hb; rfl
      | int j => cases hb; rfl
      | _ => cases hb
    | _ => cases ha
theorem nk_eqB {x y : PV} {a b : NestedKey} (ha : nkOf x = some a) (hb : nkOf y = some b) (da : a.depth ≤ 8) (db : b.depth ≤ 8) : eqb [] depthB x y = decide (a = b) := by
  rw [nk_eqb depthB x y a b ha hb (by unfold depthB; omega) (by unfold depthB; omega), NestedKey.decide_eq]

section
variable {P : Program} {w : World} {fa ρ : Nat → Addr} {L : Nat} {H H' : L2.Hp} {h h' : Heap} {a : Addr}
mutual
theorem nk_is (ok : HOk P w H h) : ∀ (x : PV) (v : V) (u : Value) (k : NestedKey), RV fa ρ L H x v → L2.RelV v u → nkOf x = some k → NestedIs h k u
  | .non, v, u, k, r, rx, e => by
    cases e; cases r; cases rx; exact .none
  | .int i, v, u, k, r, rx, e => by
    cases e; cases r
    obtain ⟨t, rfl⟩ := rx
    exact .int i t
  | .tup xs, v, u, k, r, rx, e => by
    obtain ⟨ks, e1, rfl⟩ := nk_tup e
    cases r with
    | tup ha hd q =>
      cases rx
      obtain ⟨ho, hz2, its2, r2, ot, hot, hoc, n2, hod⟩ := (show ObjOk P w H h _ (.frz _ (.tup _)) from ok _ _ ha)
      exact .tup hot hoc hod (nks_is ok xs _ its2 ks q r2 e1)
  | .bl _, _, _, _, _, _, e => by cases e
  | .str _, _, _, _, _, _, e => by cases e
  | .rng _ _, _, _, _, _, _, e => by cases e
  | .loc _, _, _, _, _, _, e => by cases e
  | .fn _, _, _, _, _, _, e => by cases e
  | .exn _, _, _, _, _, _, e => by cases e
theorem nks_is (ok : HOk P w H h) : ∀ (xs : List PV) (vs : List V) (us : List Value) (ks : List NestedKey), RVs fa ρ L H xs vs → L2.Vals vs us → nksOf xs = some ks → NestedAll h ks us
  | [], vs, us, ks, r, rx, e => by
    cases e; cases r; cases rx; exact .nil
  | x :: xs, vs, us, ks, r, rx, e => by
    obtain ⟨k, t, e1, e2, rfl⟩ := nks_cons e
    cases r with
    | cons r1 r2 =>
      cases rx with
      | cons x1 x2 => exact .cons (nk_is ok x _ _ k r1 x1 e1) (nks_is ok xs _ _ t r2 x2 e2)
end
theorem key_is (ok : HOk P w H h) {x : PV} {b : Addr} {k : NestedKey} (r : RV fa ρ L H x (.ref b)) (e : nkOf x = some k) (d : k.depth ≤ 8) : (nestedKind P w).is h k b := ⟨nk_is ok x _ _ k r rfl e, d⟩

/-! ### what a dict holds -/
theorem RD.at (r : RD fa ρ L H a kvs) (ok : HOk P w H h) : (a == sysModules) = false ∧ ∃ (o : Obj) (xs : List (NestedKey × Addr × Value)), H a = some (dnO a o) ∧ h.get? a = some o ∧ xs.length ≤ sizeLine ∧ h.DictOfH (nestedKind P w) a xs ∧ Paired (RD1 fa ρ L H) kvs xs := by
  obtain ⟨o, es, ep, xs, h1, h2, h3, h4, h5, h6, h7, h8⟩ := r
  obtain ⟨q, _, _⟩ := (show ObjOk P w H h a (dnO a o) from ok a _ h1)
  have q : h.get? a = some o := q
  refine ⟨h2, o, xs, h1, q, h5, ⟨o, es, ep, q, h3, h4, h6 w, ?_, h7⟩, h8⟩
  clear h6 h7 h5 h4
  induction h8 with
  | nil => exact fun x hx => by cases hx
  | @cons p y _ _ z _ ih =>
    intro x hx
    rcases List.mem_cons.mp hx with rfl | hx
    · obtain ⟨z1, z2, z3, _⟩ := z
      exact key_is ok z2 z1 z3
    · exact ih x hx
/-- an empty dict, with no key yet -/
theorem dk_nested (ok : HOk P w H h) (e : H a = some (.dK [])) : (a == sysModules) = false ∧ h.DictOfH (nestedKind P w) a [] := by
  obtain ⟨_, hd, vs, rel, dd⟩ := dk_of ok e
  cases rel
  obtain ⟨o, es, ep, h1, h2, h3, h4⟩ := dd
  refine ⟨hd, o, es, ep, h1, h2, h3, ?_, (fun x hx => by cases hx), List.nodup_nil⟩
  have h4 := h4.2.1
  cases hl : es.toList with
  | nil => rfl
  | cons y ys =>
    exfalso
    first
      | (rw [hl] at h4; cases h4; done)
      | (rw [hl] at h4; simp at h4; done)
theorem rd_mk {xs : List (NestedKey × Addr × Value)} {kvs : List (PV × PV)} (dd : h'.DictOfH (nestedKind P w) a xs) (hd : (a == sysModules) = false) (hz : xs.length ≤ sizeLine) :
    ∃ o, h'.get? a = some o ∧ ∀ {fa ρ : Nat → Addr} {L : Nat} {H' : L2.Hp}, H' a = some (dnO a o) → Paired (RD1 fa ρ L H') kvs xs → RD fa ρ L H' a kvs := by
  obtain ⟨o, es, ep, q1, q2, q3, q4, q6, q5⟩ := dd
  refine ⟨o, q1, fun {fa ρ L H'} e pr => ⟨o, es, ep, xs, e, hd, q2, q3, hz, fun w' => ?_, q5, pr⟩⟩
  rw [q4]
  have all : ∀ x ∈ xs, x.1.hash w = x.1.hash w' := by
    clear q4 q5 hz q6
    induction pr with
    | nil => exact fun x hx => by cases hx
    | @cons p y _ _ z _ ih =>
      intro x hx
      rcases List.mem_cons.mp hx with rfl | hx
      · exact nk_hash w w' _ _ z.1
      · exact ih x hx
  refine List.map_congr_left fun x hx => ?_
  show (⟨(nestedKind P w).hash x.1, .ref x.2.1, x.2.2⟩ : DictEntry) = ⟨x.1.hash w', .ref x.2.1, x.2.2⟩
  rw [show (nestedKind P w).hash x.1 = x.1.hash w from rfl, all x hx]
theorem ext_ok {o : Obj} (e : h.get? a = some o) : ObjOk P w H h a (dnO a o) := ⟨e, ⟨o, e⟩, fun h1 h2 q k => k o q⟩

theorem rd_look {x : PV} {k : NestedKey} (e : nkOf x = some k) (d : k.depth ≤ 8) : ∀ {kvs : List (PV × PV)} {xs : List (NestedKey × Addr × Value)}, Paired (RD1 fa ρ L H) kvs xs →
    (lookB x kvs = none ∧ atKey xs k = none) ∨ ∃ y b u v, lookB x kvs = some y ∧ atKey xs k = some (b, u) ∧ RV fa ρ L H y v ∧ L2.RelV v u := by
  intro kvs xs pr
  induction pr with
  | nil => exact .inl ⟨rfl, rfl⟩
  | @cons p q ps qs z t ih =>
    obtain ⟨z1, z2, z3, v, z4, z5⟩ := z
    have hb := nk_eqB z1 e z3 d
    unfold lookB atKey at ih ⊢
    rw [List.find?_cons, List.find?_cons, hb]
    by_cases c : q.1 = k
    · rw [decide_eq_true c]
      exact .inr ⟨p.2, q.2.1, q.2.2, v, rfl, rfl, z4, z5⟩
    · rw [decide_eq_false c]
      exact ih
theorem rd_map {x y : PV} {k : NestedKey} {v : V} {u : Value} (e : nkOf x = some k) (d : k.depth ≤ 8) (rv : RV fa ρ L H y v) (ru : L2.RelV v u) : ∀ {kvs : List (PV × PV)} {xs : List (NestedKey × Addr × Value)}, Paired (RD1 fa ρ L H) kvs xs →
    Paired (RD1 fa ρ L H) (kvs.map fun p => if eqb [] depthB p.1 x then (p.1, y) else p) (xs.map (putAt k u)) := by
  intro kvs xs pr
  induction pr with
  | nil => exact .nil
  | @cons p q ps qs z t ih =>
    obtain ⟨z1, z2, z3, v0, z4, z5⟩ := z
    have hb := nk_eqB z1 e z3 d
    rw [List.map_cons, List.map_cons]
    refine .cons ?_ ih
    rw [hb]
    unfold putAt
    by_cases c : q.1 = k
    · rw [decide_eq_true c, if_pos rfl, if_pos c]
      exact ⟨z1, z2, z3, v, rv, ru⟩
    · rw [decide_eq_false c, if_neg Bool.false_ne_true, if_neg c]
      exact ⟨z1, z2, z3, v0, z4, z5⟩
theorem paired_append {α β : Type} {F : α → β → Prop} : ∀ {l₁ : List α} {l₂ : List β} {m₁ : List α} {m₂ : List β}, Paired F l₁ l₂ → Paired F m₁ m₂ → Paired F (l₁ ++ m₁) (l₂ ++ m₂)
  | _, _, _, _, .nil, h => h
  | _, _, _, _, .cons a t, h => .cons a (paired_append t h)
theorem rd_put {x y : PV} {k : NestedKey} {b : Addr} {v : V} {u : Value} (e : nkOf x = some k) (d : k.depth ≤ 8) (rx : RV fa ρ L H x (.ref b)) (rv : RV fa ρ L H y v) (ru : L2.RelV v u) {kvs : List (PV × PV)} {xs : List (NestedKey × Addr × Value)} (pr : Paired (RD1 fa ρ L H) kvs xs) :
    Paired (RD1 fa ρ L H) (putB x y kvs) (storedH xs k b u) := by
  have any : (kvs.any fun p => eqb [] depthB p.1 x) = (atKey xs k).isSome := by
    clear rv ru rx
    unfold atKey
    induction pr with
    | nil => rfl
    | @cons p q ps qs z t ih =>
      obtain ⟨z1, z2, z3, _⟩ := z
      rw [List.any_cons, List.find?_cons, nk_eqB z1 e z3 d, ih]
      by_cases c : q.1 = k
      · rw [decide_eq_true c]; rfl
      · rw [decide_eq_false c]; rfl
  unfold putB storedH
  rw [any]
  split
  · exact rd_map e d rv ru pr
  · exact paired_append pr (.cons ⟨e, rx, d, v, rv, ru⟩ .nil)
theorem rd_keys {kvs : List (PV × PV)} {xs : List (NestedKey × Addr × Value)} (pr : Paired (RD1 fa ρ L H) kvs xs) : RVs fa ρ L H (kvs.map (·.1)) (xs.map fun x => V.ref x.2.1) := by
  induction pr with
  | nil => exact .nil
  | cons z t ih => exact .cons z.2.1 ih
theorem vals_refs : ∀ l : List (NestedKey × Addr × Value), L2.Vals (l.map fun x => V.ref x.2.1) (l.map fun x => Value.ref x.2.1)
  | [] => .nil
  | x :: l => .cons rfl (vals_refs l)
theorem keys_acc {w : World} {es : Array DictEntry} {xs : List (NestedKey × Addr × Value)} {acc : Array Value} (he : es.toList = xs.map (entryOfKey (nestedKind P w))) (hacc : ItemsOf (fun i v => ∃ hi : i < es.size, v = es[i].key) acc es.size) : acc.toList = xs.map fun x => Value.ref x.2.1 := by
  have hl : es.size = xs.length := size_of_entries he
  refine List.ext_getElem? fun j => ?_
  by_cases hj : j < xs.length
  · have hj' : j < acc.size := by rw [hacc.1, hl]; exact hj
    obtain ⟨hi, e⟩ := hacc.2 j acc[j] (Array.getElem?_eq_getElem hj')
    rw [Array.getElem?_toList, Array.getElem?_eq_getElem hj', e, List.getElem?_map]
    have q := entry_at he j
    rw [Array.getElem?_eq_getElem hi] at q
    obtain ⟨x, q1, q2⟩ := Option.map_eq_some_iff.mp q.symm
    rw [q1, ← q2]
    rfl
  · rw [List.getElem?_eq_none (by rw [Array.length_toList, hacc.1, hl]; omega), List.getElem?_eq_none (by rw [List.length_map]; omega)]
theorem rd_len {kvs : List (PV × PV)} {xs : List (NestedKey × Addr × Value)} (pr : Paired (RD1 fa ρ L H) kvs xs) : kvs.length = xs.length := Paired.length pr
theorem storedH_len (xs : List (NestedKey × Addr × Value)) (k : NestedKey) (b : Addr) (u : Value) : (storedH xs k b u).length ≤ xs.length + 1 := by
  unfold storedH
  split
  · rw [List.length_map]; omega
  · rw [List.length_append]; exact Nat.le_refl _
end
section
variable {X : Cx} {pins : List (Addr × Obj)} {σ : L2.St} {H : L2.Hp} {s : Shared} {a b : Addr} {A : Around} {E : Value → Shared → Prop} {fa ρ : Nat → Addr} {n0 L : Nat} {m : Mem} {kvs : List (PV × PV)} {x y : PV}
theorem rv_key {v : V} (ok : okT x = true) (r : RV fa ρ L H x v) : ∃ b k, v = .ref b ∧ nkOf x = some k ∧ k.depth ≤ 8 := by
  obtain ⟨xs, ks, rfl, e, d⟩ := okT_nk ok
  obtain ⟨a, o, vs, rfl, _⟩ := rv_tup r
  exact ⟨a, _, rfl, e, d⟩
/-- d[x] = y -/
theorem rd_set {r : Value} {yv : V} {Q : Unit → Shared → Prop} (hu : A.units + 65 < cLine) (I : L2.Inv X pins σ H s) (hk : okT x = true) (rx : RV fa ρ L H x (.ref b)) (ry : RV fa ρ L H y yv) (rv : L2.RelV yv r)
    (hD : RD fa ρ L H a kvs ∨ (H a = some (.dK []) ∧ kvs = [])) (hz : kvs.length < sizeB)
    (h : ∀ o s', L2.Inv X pins σ (upd H a (dnO a o)) s' → RD fa ρ L (upd H a (dnO a o)) a (putB x y kvs) → Q () s') :
    wpAny (model X.prog X.w) A (setItem (.ref a) (.ref b) r) Q E s := by
  obtain ⟨b', k, eb, e, d⟩ := rv_key hk rx
  cases eb
  have hr : (nestedKind X.prog X.w).room A.in1 := by
    show A.units + 1 + 8 < cLine
    omega
  have key := key_is (P := X.prog) (w := X.w) I.hok rx e d
  have hs2 := sizeB_line
  have go : ∀ {xs : List (NestedKey × Addr × Value)}, (a == sysModules) = false → xs.length ≤ sizeLine → s.heap.DictOfH (nestedKind X.prog X.w) a xs → Paired (RD1 fa ρ L H) kvs xs → Mut (H a) → (∀ lo hi, H a ≠ some (.rng lo hi)) → (∀ o u, H a ≠ some (.frz o u)) →
      wpAny (model X.prog X.w) A (setItem (.ref a) (.ref b) r) Q E s := fun {xs} hsys hzx dd pr mu n1 n2 => by
    have hl := rd_len pr
    refine wpAny_setItem_heap (hsz := hzx) hr key dd fun h' dd' hs => ?_
    obtain ⟨o, ho, mk⟩ := rd_mk (kvs := putB x y kvs) dd' hsys (by have := storedH_len xs k b r; omega)
    have I' := d_write (t' := s.toks + (nestedKind X.prog X.w).draws k) (ob := dnO a o) I mu hs ⟨o, ho⟩ (ext_ok ho)
    refine h o _ I' (mk upd_same ?_)
    have kp : Keep H (upd H a (dnO a o)) := by
      cases q : H a with
      | none => exact .new q
      | some u => exact .write q (fun lo hi z => n1 lo hi (by rw [q, z])) (fun c u2 z => n2 c u2 (by rw [q, z]))
    exact Paired.mapP (rd_put e d rx ry rv pr) fun _ _ z => z.mono (fun _ _ => rfl) (Nat.le_refl _) kp
  rcases hD with D | ⟨D, rfl⟩
  · obtain ⟨hsys, o, xs, h1, _, hzx, dd, pr⟩ := D.at (P := X.prog) (w := X.w) I.hok
    exact go hsys hzx dd pr (by rw [h1]; exact True.intro) (fun _ _ z => by rw [h1] at z; cases z) (fun _ _ z => by rw [h1] at z; cases z)
  · obtain ⟨hsys, dd⟩ := dk_nested (P := X.prog) (w := X.w) I.hok D
    exact go hsys (Nat.zero_le _) dd .nil (by rw [D]; exact True.intro) (fun _ _ z => by rw [D] at z; cases z) (fun _ _ z => by rw [D] at z; cases z)
/-- as it is read -/
theorem rd_read (I : L2.Inv X pins σ H s) (hD : RD fa ρ L H a kvs ∨ (H a = some (.dK []) ∧ kvs = [])) : (a == sysModules) = false ∧ ∃ xs : List (NestedKey × Addr × Value), xs.length ≤ sizeLine ∧ s.heap.DictOfH (nestedKind X.prog X.w) a xs ∧ Paired (RD1 fa ρ L H) kvs xs := by
  rcases hD with D | ⟨D, rfl⟩
  · obtain ⟨hsys, o, xs, h1, _, hzx, dd, pr⟩ := D.at (P := X.prog) (w := X.w) I.hok
    exact ⟨hsys, xs, hzx, dd, pr⟩
  · obtain ⟨hsys, dd⟩ := dk_nested (P := X.prog) (w := X.w) I.hok D
    exact ⟨hsys, [], Nat.zero_le _, dd, .nil⟩
/-- x in d -/
theorem rd_in {Q : Value → Shared → Prop} (hu : A.units + 65 < cLine) (I : L2.Inv X pins σ H s) (hk : okT x = true) (rx : RV fa ρ L H x (.ref b)) (hD : RD fa ρ L H a kvs ∨ (H a = some (.dK []) ∧ kvs = []))
    (h : ∀ s', L2.Inv X pins σ H s' → Q (.bool (lookB x kvs).isSome) s') : wpAny (model X.prog X.w) A (compareOp .In (.ref b) (.ref a)) Q E s := by
  obtain ⟨b', k, eb, e, d⟩ := rv_key hk rx
  cases eb
  obtain ⟨hsys, xs, _, dd, pr⟩ := rd_read I hD
  refine wpAny_in_heap (show A.units + 1 + 8 < cLine by omega) (key_is (P := X.prog) (w := X.w) I.hok rx e d) hsys dd ?_
  rcases rd_look e d pr with ⟨e1, e2⟩ | ⟨y, c, u, v, e1, e2, _⟩
  · rw [e1] at h; rw [e2]; exact h _ (I.tok _)
  · rw [e1] at h; rw [e2]; exact h _ (I.tok _)
theorem rd_notIn {Q : Value → Shared → Prop} (hu : A.units + 65 < cLine) (I : L2.Inv X pins σ H s) (hk : okT x = true) (rx : RV fa ρ L H x (.ref b)) (hD : RD fa ρ L H a kvs ∨ (H a = some (.dK []) ∧ kvs = []))
    (h : ∀ s', L2.Inv X pins σ H s' → Q (.bool (!(lookB x kvs).isSome)) s') : wpAny (model X.prog X.w) A (compareOp .NotIn (.ref b) (.ref a)) Q E s := by
  obtain ⟨b', k, eb, e, d⟩ := rv_key hk rx
  cases eb
  obtain ⟨hsys, xs, _, dd, pr⟩ := rd_read I hD
  refine wpAny_notIn_heap (show A.units + 1 + 8 < cLine by omega) (key_is (P := X.prog) (w := X.w) I.hok rx e d) hsys dd ?_
  rcases rd_look e d pr with ⟨e1, e2⟩ | ⟨y, c, u, v, e1, e2, _⟩
  · rw [e1] at h; rw [e2]; exact h _ (I.tok _)
  · rw [e1] at h; rw [e2]; exact h _ (I.tok _)
/-- d[x] -/
theorem rd_get {Q : Value → Shared → Prop} (hu : A.units + 65 < cLine) (I : L2.Inv X pins σ H s) (hk : okT x = true) (rx : RV fa ρ L H x (.ref b)) (hD : RD fa ρ L H a kvs) (hy : lookB x kvs = some y)
    (h : ∀ v u s', L2.Inv X pins σ H s' → RV fa ρ L H y v → L2.RelV v u → Q u s') : wpAny (model X.prog X.w) A (getItem (.ref a) (.ref b)) Q E s := by
  obtain ⟨b', k, eb, e, d⟩ := rv_key hk rx
  cases eb
  obtain ⟨hsys, xs, _, dd, pr⟩ := rd_read I (.inl hD)
  rcases rd_look e d pr with ⟨e1, e2⟩ | ⟨y', c, u, v, e1, e2, e3, e4⟩
  · rw [e1] at hy; cases hy
  · rw [e1] at hy
    cases hy
    exact wpAny_getItem_heap (show A.units + 1 + 8 < cLine by omega) (key_is (P := X.prog) (w := X.w) I.hok rx e d) dd e2 (h v u _ (I.tok _) e3 e4)
/-- d.get(x, z) -/
theorem rd_getOr {z : PV} {zv : V} {zu : Value} {Q : Value → Shared → Prop} (hu : A.units + 65 < cLine) (I : L2.Inv X pins σ H s) (hk : okT x = true) (rx : RV fa ρ L H x (.ref b)) (hD : RD fa ρ L H a kvs ∨ (H a = some (.dK []) ∧ kvs = [])) (rz : RV fa ρ L H z zv) (ru : L2.RelV zv zu)
    (h : ∀ v u s', L2.Inv X pins σ H s' → RV fa ρ L H ((lookB x kvs).getD z) v → L2.RelV v u → Q u s') : wpAny (model X.prog X.w) A (call (.builtin "dict.get") [.ref a, .ref b, zu]) Q E s := by
  obtain ⟨b', k, eb, e, d⟩ := rv_key hk rx
  cases eb
  obtain ⟨hsys, xs, _, dd, pr⟩ := rd_read I hD
  refine getOr_keyed (show A.units + 1 + 8 < cLine by omega) (key_is (P := X.prog) (w := X.w) I.hok rx e d) hsys ⟨xs, dd, rfl⟩ ?_
  rw [valueAt_pairsH]
  rcases rd_look e d pr with ⟨e1, e2⟩ | ⟨y', c, u, v, e1, e2, e3, e4⟩
  · rw [e1] at h; rw [e2]; exact h zv _ _ (I.tok _) rz ru
  · rw [e1] at h; rw [e2]; exact h v _ _ (I.tok _) e3 e4
/-- the entries, as they stand -/
theorem rd_raw (I : L2.Inv X pins σ H s) (hD : RD fa ρ L H a kvs) : (a == sysModules) = false ∧ ∃ (xs : List (NestedKey × Addr × Value)) (es : Array DictEntry) (ep : Nat), s.heap.DictRaw a es ep ∧ es.toList = xs.map (entryOfKey (nestedKind X.prog X.w)) ∧ es.size = xs.length ∧ xs.length ≤ sizeLine ∧ Paired (RD1 fa ρ L H) kvs xs := by
  obtain ⟨hsys, xs, hz, ⟨o, es, ep, q1, q2, q3, q4, _⟩, pr⟩ := rd_read I (.inl hD)
  exact ⟨hsys, xs, es, ep, ⟨o, q1, q2, q3⟩, q4, size_of_entries q4, hz, pr⟩
theorem rd_lenC {Q : Value → Shared → Prop} (I : L2.Inv X pins σ H s) (hD : RD fa ρ L H a kvs) (h : ∀ t s', L2.Inv X pins σ H s' → Q (.int kvs.length t) s') : wpAny (model X.prog X.w) A (call (.builtin "len") [.ref a]) Q E s := by
  obtain ⟨hsys, xs, hz, dd, pr⟩ := rd_read I (.inl hD)
  have hm : s.heap.DictKeyed (nestedKind X.prog X.w) a (pairsH xs) := ⟨xs, dd, rfl⟩
  have hl : (pairsH xs).length = kvs.length := by rw [pairsH_length, rd_len pr]
  have hs := sizeLine_eq
  refine PyProof.Rows.call_len_slot (n := ((pairsH xs).length : Nat)) hm.typeIs PySem.F.slot_dict_len (fun Q' hq => len_keyed hsys hm hq) (by omega) (by rw [hl, rd_len pr]; omega) ?_
  rw [hl]
  exact h _ _ (I.tok _)
end
end Dp
set_option Elab.async false
set_option linter.all false
set_option maxRecDepth 100000
/-! Dp5: dicts, tests, places of lists. -/
namespace Dp
open PySem PySem.Spec PyProof.Rows L2
section
variable {X : Cx} {fa ρ : Nat → Addr} {n0 L : Nat} {m m' : Mem} {H : L2.Hp}

theorem key_eqb (a b : Key) : eqb [] depthB (keyV a) (keyV b) = decide (a = b) := by
  cases a with
  | inl i =>
    cases b with
    | inl j =>
      show (i == j) = _
      rw [key_ll]
    | inr y => rw [key_lr]; rfl
  | inr x =>
    cases b with
    | inl j => rw [key_rl]; rfl
    | inr y =>
      show (x.cps.toList == y.cps.toList) = _
      rw [SeqAt.str_beq, key_rr]
      by_cases e : x = y
      · subst e; simp
      · rw [decide_eq_false e]; simpa using e
theorem okKey_of {kvs : List (PV × PV)} {k : PV} {v : V} (h : okKey kvs k = true) (r : RV fa ρ L H k v) : ∃ q : Key, k = keyV q ∧ v = kV q := by
  cases r with
  | int i => exact ⟨.inl i, rfl, rfl⟩
  | str x => exact ⟨.inr x, rfl, rfl⟩
  | _ => cases h
theorem RK.look {kvs : List (PV × PV)} {qs : List (Key × V)} (h : RK fa ρ L H kvs qs) (b : Key) :
    (lookB (keyV b) kvs = none ∧ valV qs b = none) ∨ ∃ x v, lookB (keyV b) kvs = some x ∧ valV qs b = some v ∧ RV fa ρ L H x v := by
  induction h with
  | nil => exact .inl ⟨rfl, rfl⟩
  | @cons p q ps rs a t ih =>
    obtain ⟨k, x⟩ := p
    obtain ⟨c, v⟩ := q
    obtain ⟨a1, a2⟩ := a
    have a1 : k = keyV c := a1
    subst a1
    by_cases e : c = b
    · subst e
      refine .inr ⟨x, v, ?_, valV_pos rfl, a2⟩
      unfold lookB
      rw [List.find?_cons_of_pos (by rw [key_eqb]; exact decide_eq_true rfl)]
      rfl
    · have e1 : lookB (keyV b) ((keyV c, x) :: ps) = lookB (keyV b) ps := by
        unfold lookB
        rw [List.find?_cons_of_neg (by rw [key_eqb, decide_eq_false e]; exact Bool.false_ne_true)]
      rw [e1, valV_neg (show ¬ ((c, v) : Key × V).1 = b from e)]
      exact ih
theorem RK.any {kvs : List (PV × PV)} {qs : List (Key × V)} (h : RK fa ρ L H kvs qs) (b : Key) : (kvs.any fun p => eqb [] depthB p.1 (keyV b)) = qs.any fun p => decide (p.1 = b) := by
  induction h with
  | nil => rfl
  | cons a t ih => rw [List.any_cons, List.any_cons, ih, a.1, key_eqb]
theorem RK.repl {kvs : List (PV × PV)} {qs : List (Key × V)} (h : RK fa ρ L H kvs qs) (b : Key) {x : PV} {v : V} (r : RV fa ρ L H x v) :
    RK fa ρ L H (kvs.map fun p => if eqb [] depthB p.1 (keyV b) then (p.1, x) else p) (qs.map fun p => if p.1 = b then (p.1, v) else p) := by
  induction h with
  | nil => exact .nil
  | @cons p q ps rs a t ih =>
    rw [List.map_cons, List.map_cons]
    refine .cons ?_ ih
    rw [a.1, key_eqb]
    by_cases e : q.1 = b
    · rw [if_pos (decide_eq_true e), if_pos e]
      exact ⟨rfl, r⟩
    · rw [if_neg (by rw [decide_eq_false e]; exact Bool.false_ne_true), if_neg e]
      exact a
theorem RK.append {kvs ps : List (PV × PV)} {qs rs : List (Key × V)} (h : RK fa ρ L H kvs qs) (g : RK fa ρ L H ps rs) : RK fa ρ L H (kvs ++ ps) (qs ++ rs) := by
  induction h with
  | nil => exact g
  | cons a t ih => exact .cons a ih
theorem RK.put {kvs : List (PV × PV)} {qs : List (Key × V)} (h : RK fa ρ L H kvs qs) (b : Key) {x : PV} {v : V} (r : RV fa ρ L H x v) : RK fa ρ L H (putB (keyV b) x kvs) (putK qs b v) := by
  unfold putB putK
  rw [h.any b]
  by_cases e : (qs.any fun p => decide (p.1 = b)) = true
  · rw [if_pos e, if_pos e]; exact h.repl b r
  · rw [if_neg e, if_neg e]; exact h.append (.cons ⟨rfl, r⟩ .nil)
theorem RK.length {kvs : List (PV × PV)} {qs : List (Key × V)} (h : RK fa ρ L H kvs qs) : kvs.length = qs.length := Paired.length h

/-! ### in -/
theorem mems_of {x : PV} {m : Mem} : ∀ ys : List PV, okD m depthB x = true → ys.all (okD m depthB) = true → (ys.any fun y => eqb m depthB y x) = (ys.map (toPD m depthB)).any fun z => PyData.eqv z (toPD m depthB x)
  | [], _, _ => rfl
  | y :: ys, h, g => by
    rw [List.all_cons, Bool.and_eq_true] at g
    rw [List.map_cons, List.any_cons, List.any_cons, eq_of depthB y x g.1 h, mems_of ys h g.2]
theorem memq_some {x : PV} {ys : List PV} {b : Bool} (h : memq m x ys = some b) : okD m depthB x = true ∧ ys.all (okD m depthB) = true ∧ (ys.any fun y => eqb m depthB y x) = b := by
  unfold memq at h
  split at h
  · rename_i q
    rw [Bool.and_eq_true] at q
    exact ⟨q.1, q.2, Option.some.inj h⟩
  · cases h
theorem shaped_le {d : Nat} {ds : List PyData} (h : PyData.canLayAll0 ds = true) (hd : PyData.depthAll ds ≤ d) (h64 : d + 1 ≤ 64) : SeqAt.shaped (.list ds) = true := by
  unfold SeqAt.shaped
  rw [show (PyData.list ds).canLay0 = true from h, decide_eq_true (show (PyData.list ds).depth ≤ 64 from Nat.le_trans (Nat.succ_le_succ hd) h64)] <;> rfl
theorem cmp_ok {o : Cp} {p : CmpOp} (h : cpB o p = true) (hu : X.A.units + 65 < cLine) : OpR X (compareOp p) (r2 X.K fa n0 fun m a b => cmpB m o a b) := by
  have hu64 : X.A.units + 64 < cLine := by omega
  have hu1 : X.A.units + 1 < cLine := by omega
  cases o with
  | eq => cases p <;> first | (cases h; done) | exact eq_ok hu64
  | ne => cases p <;> first | (cases h; done) | exact ne_ok hu64
  | lt =>
    cases p <;> first | (cases h; done) | skip
    intro pins s σ H x y v u Q I rx ry hr
    obtain ⟨ρ, m, a, b, z, m', R, ra, rb, e, g⟩ := hr
    have e : cmpB m .lt a b = .ok (z, m') := e
    unfold cmpB at e
    dsimp only at e
    split at e
    · cases e
      rw [rv_int ra] at rx; rw [rv_int rb] at ry
      exact op_lt pins s σ H _ _ v u Q I rx ry ⟨_, _, rfl, rfl, same_val g R (.bl _)⟩
    · cases e
  | le =>
    cases p <;> first | (cases h; done) | skip
    intro pins s σ H x y v u Q I rx ry hr
    obtain ⟨ρ, m, a, b, z, m', R, ra, rb, e, g⟩ := hr
    have e : cmpB m .le a b = .ok (z, m') := e
    unfold cmpB at e
    dsimp only at e
    split at e
    · cases e
      rw [rv_int ra] at rx; rw [rv_int rb] at ry
      exact op_le pins s σ H _ _ v u Q I rx ry ⟨_, _, rfl, rfl, same_val g R (.bl _)⟩
    · cases e
  | gt =>
    cases p <;> first | (cases h; done) | skip
    intro pins s σ H x y v u Q I rx ry hr
    obtain ⟨ρ, m, a, b, z, m', R, ra, rb, e, g⟩ := hr
    have e : cmpB m .gt a b = .ok (z, m') := e
    unfold cmpB at e
    dsimp only at e
    split at e
    · cases e
      rw [rv_int ra] at rx; rw [rv_int rb] at ry
      exact op_gt pins s σ H _ _ v u Q I rx ry ⟨_, _, rfl, rfl, same_val g R (.bl _)⟩
    · cases e
  | ge =>
    cases p <;> first | (cases h; done) | skip
    intro pins s σ H x y v u Q I rx ry hr
    obtain ⟨ρ, m, a, b, z, m', R, ra, rb, e, g⟩ := hr
    have e : cmpB m .ge a b = .ok (z, m') := e
    unfold cmpB at e
    dsimp only at e
    split at e
    · cases e
      rw [rv_int ra] at rx; rw [rv_int rb] at ry
      exact op_ge pins s σ H _ _ v u Q I rx ry ⟨_, _, rfl, rfl, same_val g R (.bl _)⟩
    · cases e
  | isN =>
    cases p <;> first | (cases h; done) | skip
    intro pins s σ H x y v u Q I rx ry hr
    obtain ⟨ρ, m, a, b, z, m', R, ra, rb, e, g⟩ := hr
    have e : cmpB m .isN a b = .ok (z, m') := e
    unfold cmpB at e
    dsimp only at e
    split at e
    · cases e
      rw [rv_non rb] at ry
      refine op_isN pins s σ H _ _ v u Q I rx ry ⟨rfl, ?_⟩
      have q := same_val g R (.bl _)
      cases ra <;> exact q
    · cases e
  | notN =>
    cases p <;> first | (cases h; done) | skip
    intro pins s σ H x y v u Q I rx ry hr
    obtain ⟨ρ, m, a, b, z, m', R, ra, rb, e, g⟩ := hr
    have e : cmpB m .notN a b = .ok (z, m') := e
    unfold cmpB at e
    dsimp only at e
    split at e
    · cases e
      rw [rv_non rb] at ry
      refine op_notN pins s σ H _ _ v u Q I rx ry ⟨rfl, ?_⟩
      have q := same_val g R (.bl _)
      cases ra <;> exact q
    · cases e
  | isT =>
    cases p <;> first | (cases h; done) | skip
    intro pins s σ H x y v u Q I rx ry hr
    obtain ⟨ρ, m, a, b, z, m', R, ra, rb, e, g⟩ := hr
    have e : cmpB m .isT a b = .ok (z, m') := e
    unfold cmpB at e
    dsimp only at e
    split at e
    · cases e
      rw [rv_bl ra] at rx; rw [rv_bl rb] at ry
      refine op_isBl pins s σ H _ _ v u Q I rx ry ⟨_, _, rfl, rfl, ?_⟩
      rw [← Bool.beq_eq_decide_eq]
      exact same_val g R (.bl _)
    · cases e
  | notT =>
    cases p <;> first | (cases h; done) | skip
    intro pins s σ H x y v u Q I rx ry hr
    obtain ⟨ρ, m, a, b, z, m', R, ra, rb, e, g⟩ := hr
    have e : cmpB m .notT a b = .ok (z, m') := e
    unfold cmpB at e
    dsimp only at e
    split at e
    · cases e
      rw [rv_bl ra] at rx; rw [rv_bl rb] at ry
      refine op_notBl pins s σ H _ _ v u Q I rx ry ⟨_, _, rfl, rfl, ?_⟩
      rw [← Bool.beq_eq_decide_eq]
      exact same_val g R (.bl _)
    · cases e
  | mem =>
    cases p <;> first | (cases h; done) | skip
    intro pins s σ H x y v u Q I rx ry hr
    obtain ⟨ρ, m, a, b, z, m', R, ra, rb, e, g⟩ := hr
    have e : cmpB m .mem a b = .ok (z, m') := e
    have seqC : ∀ {n : Nat} {ys : List PV}, RV fa ρ m.length H (.loc n) y → lstAt m n = some ys → obl m (memq m a ys) = .ok (z, m') → wpAny (model X.prog X.w) X.A (compareOp .In v u) (EP X pins σ Q) X.xe s := fun {n ys} rb el e => by
      obtain ⟨ey, hn⟩ := rv_loc rb
      subst ey
      cases eb : memq m a ys with
      | none => rw [eb] at e; cases e
      | some k =>
        rw [eb] at e; cases e
        obtain ⟨h1, h2, h3⟩ := memq_some eb
        obtain ⟨vs, hs, q⟩ := rel_seq R el
        obtain ⟨d1, c1, l1⟩ := dp_of R depthB a x h1 ra
        obtain ⟨d2, c2, l2⟩ := dps_of (dp_of R depthB) ys vs h2 q
        refine op_inD hu pins s σ H _ _ v u Q I rx ry ⟨_, _, d1, .lst hs d2, shaped_of c1 l1 (by decide), shaped_le c2 l2 (by decide), ?_⟩
        rw [← mems_of ys h1 h2, h3]
        exact same_val g R (.bl _)
    unfold cmpB at e
    dsimp only at e
    split at e
    · rename_i n
      split at e
      · rename_i kvs ek
        split at e
        · rename_i hk
          cases e
          obtain ⟨ey, hn⟩ := rv_loc rb
          subst ey
          cases ry
          obtain ⟨q, rfl, rfl⟩ := okKey_of hk ra
          obtain ⟨qs, hq, rk⟩ := rel_dct R ek
          have d := DGet.k (k := q) hq
          refine d_in hu1 I d rx fun s' I' => ⟨.bl _, H, I', rfl, ?_⟩
          rcases rk.look q with ⟨e1, e2⟩ | ⟨x', v', e1, e2, _⟩
          · rw [e1] at g; rw [e2]; exact same_val g R (.bl _)
          · rw [e1] at g; rw [e2]; exact same_val g R (.bl _)
        · split at e
          · rename_i hk
            cases e
            rw [Bool.and_eq_true] at hk
            obtain ⟨ey, hn⟩ := rv_loc rb
            subst ey
            cases ry
            obtain ⟨b', k, rfl, _⟩ := rv_key hk.2 ra
            cases rx
            cases kvs with
            | cons _ _ => cases hk.1
            | nil =>
              obtain ⟨qs, hq, rk⟩ := rel_dct R ek
              cases rk
              exact rd_in hu I hk.2 ra (.inr ⟨hq, rfl⟩) fun s' I' => ⟨.bl _, H, I', rfl, same_val g R (.bl _)⟩
          · cases e
      · rename_i kvs w ek
        split at e
        · rename_i hk
          cases e
          obtain ⟨ey, hn⟩ := rv_loc rb
          subst ey
          cases ry
          obtain ⟨b', k, rfl, _⟩ := rv_key hk ra
          cases rx
          exact rd_in hu I hk ra (.inl (R.objs _ _ ek)) fun s' I' => ⟨.bl _, H, I', rfl, same_val g R (.bl _)⟩
        · cases e
      · rename_i ys ek
        exact seqC rb (by unfold lstAt; rw [ek]) e
      · rename_i ys ek
        exact seqC rb (by unfold lstAt; rw [ek]) e
      · cases e
      · cases e
    · rename_i ys _
      obtain ⟨t, ot, vs, ey, ht, _, q⟩ := rv_tup rb
      subst ey
      cases eb : memq m a ys with
      | none => rw [eb] at e; cases e
      | some k =>
        rw [eb] at e; cases e
        obtain ⟨h1, h2, h3⟩ := memq_some eb
        obtain ⟨d1, c1, l1⟩ := dp_of R depthB a x h1 ra
        obtain ⟨d2, c2, l2⟩ := dps_of (dp_of R depthB) ys vs h2 q
        obtain ⟨as, r1⟩ := L2.Dp.reads I _ _ _ d1 rx
        obtain ⟨bs, r2⟩ := L2.Dp.reads I (.tuple _) _ _ (.tup (sqT_of ht) d2) ry
        refine SeqAt.in_tuple_reads r2 r1 c2 c1 (room_in_shaped (shaped_of c1 l1 (by decide)) hu) ⟨.bl _, H, I, rfl, ?_⟩
        rw [← mems_of ys h1 h2, h3]
        exact same_val g R (.bl _)
    · cases e
  | nmem =>
    cases p <;> first | (cases h; done) | skip
    intro pins s σ H x y v u Q I rx ry hr
    obtain ⟨ρ, m, a, b, z, m', R, ra, rb, e, g⟩ := hr
    have e : cmpB m .nmem a b = .ok (z, m') := e
    have seqC : ∀ {n : Nat} {ys : List PV}, RV fa ρ m.length H (.loc n) y → lstAt m n = some ys → obl m ((memq m a ys).map not) = .ok (z, m') → wpAny (model X.prog X.w) X.A (compareOp .NotIn v u) (EP X pins σ Q) X.xe s := fun {n ys} rb el e => by
      obtain ⟨ey, hn⟩ := rv_loc rb
      subst ey
      cases eb : memq m a ys with
      | none => rw [eb] at e; cases e
      | some k =>
        rw [eb] at e; cases e
        obtain ⟨h1, h2, h3⟩ := memq_some eb
        obtain ⟨vs, hs, q⟩ := rel_seq R el
        obtain ⟨d1, c1, l1⟩ := dp_of R depthB a x h1 ra
        obtain ⟨d2, c2, l2⟩ := dps_of (dp_of R depthB) ys vs h2 q
        refine op_notInD hu pins s σ H _ _ v u Q I rx ry ⟨_, _, d1, .lst hs d2, shaped_of c1 l1 (by decide), shaped_le c2 l2 (by decide), ?_⟩
        rw [← mems_of ys h1 h2, h3]
        exact same_val g R (.bl _)
    unfold cmpB at e
    dsimp only at e
    split at e
    · rename_i n
      split at e
      · rename_i kvs ek
        split at e
        · rename_i hk
          cases e
          obtain ⟨ey, hn⟩ := rv_loc rb
          subst ey
          cases ry
          obtain ⟨q, rfl, rfl⟩ := okKey_of hk ra
          obtain ⟨qs, hq, rk⟩ := rel_dct R ek
          have d := DGet.k (k := q) hq
          refine d_notIn hu1 I d rx fun s' I' => ⟨.bl _, H, I', rfl, ?_⟩
          rcases rk.look q with ⟨e1, e2⟩ | ⟨x', v', e1, e2, _⟩
          · rw [e1] at g; rw [e2]; exact same_val g R (.bl _)
          · rw [e1] at g; rw [e2]; exact same_val g R (.bl _)
        · split at e
          · rename_i hk
            cases e
            rw [Bool.and_eq_true] at hk
            obtain ⟨ey, hn⟩ := rv_loc rb
            subst ey
            cases ry
            obtain ⟨b', k, rfl, _⟩ := rv_key hk.2 ra
            cases rx
            cases kvs with
            | cons _ _ => cases hk.1
            | nil =>
              obtain ⟨qs, hq, rk⟩ := rel_dct R ek
              cases rk
              exact rd_notIn hu I hk.2 ra (.inr ⟨hq, rfl⟩) fun s' I' => ⟨.bl _, H, I', rfl, same_val g R (.bl _)⟩
          · cases e
      · rename_i kvs w ek
        split at e
        · rename_i hk
          cases e
          obtain ⟨ey, hn⟩ := rv_loc rb
          subst ey
          cases ry
          obtain ⟨b', k, rfl, _⟩ := rv_key hk ra
          cases rx
          exact rd_notIn hu I hk ra (.inl (R.objs _ _ ek)) fun s' I' => ⟨.bl _, H, I', rfl, same_val g R (.bl _)⟩
        · cases e
      · rename_i ys ek
        exact seqC rb (by unfold lstAt; rw [ek]) e
      · rename_i ys ek
        exact seqC rb (by unfold lstAt; rw [ek]) e
      · cases e
      · cases e
    · rename_i ys _
      obtain ⟨t, ot, vs, ey, ht, _, q⟩ := rv_tup rb
      subst ey
      cases eb : memq m a ys with
      | none => rw [eb] at e; cases e
      | some k =>
        rw [eb] at e; cases e
        obtain ⟨h1, h2, h3⟩ := memq_some eb
        obtain ⟨d1, c1, l1⟩ := dp_of R depthB a x h1 ra
        obtain ⟨d2, c2, l2⟩ := dps_of (dp_of R depthB) ys vs h2 q
        obtain ⟨as, r1⟩ := L2.Dp.reads I _ _ _ d1 rx
        obtain ⟨bs, r2⟩ := L2.Dp.reads I (.tuple _) _ _ (.tup (sqT_of ht) d2) ry
        refine SeqAt.notIn_tuple_reads r2 r1 c2 c1 (room_in_shaped (shaped_of c1 l1 (by decide)) hu) ⟨.bl _, H, I, rfl, ?_⟩
        rw [← mems_of ys h1 h2, h3]
        exact same_val g R (.bl _)
    · cases e
end
end Dp
set_option Elab.async false
set_option linter.all false
set_option maxRecDepth 100000
/-! Dp6: truth, subscripts, stores, slices. -/
namespace Dp
open PySem PySem.Spec PyProof.Rows L2
section
variable {X : Cx} {fa ρ : Nat → Addr} {n0 L : Nat} {m m' : Mem} {H : L2.Hp}

/-! ### truth -/
theorem RVs.emp {xs : List PV} {vs : List V} (h : RVs fa ρ L H xs vs) : vs.isEmpty = xs.isEmpty := by cases h <;> rfl
theorem tru_of {K : PySem.W.Frag} {x : PV} {v : V} {b : Bool} (r : Rel K fa ρ m H) (h : RV fa ρ m.length H x v) (e : truB m x = some b) : TruV K v H b := by
  cases h with
  | non => cases e; rfl
  | bl c => cases e; rfl
  | int i => cases e; rfl
  | str x => cases e
  | rng _ => cases e
  | fn n => cases e
  | @tup a o vs xs ha hd q =>
    have e : some (!xs.isEmpty) = some b := e
    cases e
    exact .inr (.inl ⟨vs, sqT_of ha, by rw [q.emp]⟩)
  | @loc n hn =>
    unfold truB at e
    dsimp only at e
    split at e
    · rename_i xs ek; cases e
      obtain ⟨vs, h1, h2⟩ := rel_seq r (show lstAt m n = some xs by unfold lstAt; rw [ek])
      exact .inl ⟨vs, h1, by rw [h2.emp]⟩
    · rename_i xs ek; cases e
      obtain ⟨vs, h1, h2⟩ := rel_seq r (show lstAt m n = some xs by unfold lstAt; rw [ek])
      exact .inl ⟨vs, h1, by rw [h2.emp]⟩
    · cases e

/-! ### o[i] -/
theorem ixB_ixN (n : Nat) (i : Int) : ixB n i = ixN n i := rfl
theorem RVs.atI {xs : List PV} {vs : List V} (h : RVs fa ρ L H xs vs) {i : Int} {x : PV} (e : atB xs i = some x) : ∃ v, atI vs i = some v ∧ RV fa ρ L H x v := by
  unfold atB at e
  unfold L2.atI
  rw [← h.length]
  cases q : ixB xs.length i with
  | none => rw [q] at e; cases e
  | some j =>
    rw [q] at e
    rw [← ixB_ixN, q]
    exact h.get e
theorem get_ok (hu : X.A.units + 65 < cLine) : IxR X (r2 X.K fa n0 getB) := by
  intro value slice pins s σ H x y v u Q I rx ry hr hs
  obtain ⟨ρ, m, a, b, z, m', R, ra, rb, e, g⟩ := hr
  have seqC : ∀ {n : Nat} {k : Int} {ys : List PV}, RV fa ρ m.length H (.loc n) x → RV fa ρ m.length H (.int k) y → lstAt m n = some ys → ∀ w, atB ys k = some w → z = w → m' = m → wpAny (model X.prog X.w) X.A (subscriptTail value slice v u) (EP X pins σ Q) X.xe s := by
    intro n k ys ra rb el w ew ez em
    subst ez em
    obtain ⟨rfl, hn⟩ := rv_loc ra
    cases rv_int rb
    obtain ⟨vs, hs', q⟩ := rel_seq R el
    obtain ⟨w', e1, q1⟩ := q.atI ew
    exact ix_list value slice pins s σ H _ _ v u Q I rx ry ⟨_, vs, _, w', rfl, rfl, hs', e1, same_val g R q1⟩ hs
  unfold getB at e
  split at e
  · split at e
    · rename_i xs k _ w ew
      cases e
      obtain ⟨t, o, vs, rfl, ht, _, q⟩ := rv_tup ra
      cases rv_int rb
      obtain ⟨w', e1, q1⟩ := q.atI ew
      exact ix_tup value slice pins s σ H _ _ v u Q I rx ry ⟨_, vs, _, w', rfl, rfl, sqT_of ht, e1, same_val g R q1⟩ hs
    · cases e
  · split at e
    · rename_i ek
      split at e
      · rename_i ew
        cases e
        exact seqC ra rb (by unfold lstAt; rw [ek]) _ ew rfl rfl
      · cases e
    · rename_i ek
      split at e
      · rename_i ew
        cases e
        exact seqC ra rb (by unfold lstAt; rw [ek]) _ ew rfl rfl
      · cases e
    · rename_i kvs ek
      split at e
      · rename_i hk
        split at e
        · rename_i ew
          cases e
          obtain ⟨rfl, hn⟩ := rv_loc ra
          cases rx
          obtain ⟨q, rfl, rfl⟩ := okKey_of hk rb
          obtain ⟨qs, hq, rk⟩ := rel_dct R ek
          have d := DGet.k (k := q) hq
          rcases rk.look q with ⟨e1, _⟩ | ⟨x', v', e1, e2, rv⟩
          · rw [e1] at ew; cases ew
          · rw [e1] at ew; cases ew
            rw [e2] at d
            obtain ⟨_, _, _, _, dd⟩ := dk_rd I.hok (.inl hq)
            refine tail_any dd.typeIs PySem.F.slot_dict_getitem.lookup ?_ hs
            exact d_getItem (by omega) I d ry fun w' s' I' rw' => ⟨v', H, I', rw', same_val g R rv⟩
        · cases e
      · cases e
    · rename_i kvs w' ek
      split at e
      · rename_i hk
        split at e
        · rename_i ew
          cases e
          obtain ⟨rfl, hn⟩ := rv_loc ra
          cases rx
          obtain ⟨b', k, rfl, _⟩ := rv_key hk rb
          cases ry
          have D : RD fa ρ m.length H _ _ := R.objs _ _ ek
          obtain ⟨_, _, _, _, _, _, dd, _⟩ := D.at (P := X.prog) (w := X.w) I.hok
          refine tail_any dd.typeIs PySem.F.slot_dict_getitem.lookup ?_ hs
          exact rd_get hu I hk rb D ew fun v' u' s' I' rv ru => ⟨v', H, I', ru, same_val g R rv⟩
        · cases e
      · cases e
    · cases e
  · cases e

mutual
theorem nk_pure : ∀ (x : PV) (k : NestedKey), nkOf x = some k → x.pure = true
  | .non, _, _ => rfl
  | .int _, _, _ => rfl
  | .tup xs, k, h => by
    obtain ⟨ks, e, _⟩ := nk_tup h
    exact nks_pure xs ks e
  | .bl _, _, h => by cases h
  | .str _, _, h => by cases h
  | .rng _ _, _, h => by cases h
  | .loc _, _, h => by cases h
  | .fn _, _, h => by cases h
  | .exn _, _, h => by cases h
theorem nks_pure : ∀ (xs : List PV) (ks : List NestedKey), nksOf xs = some ks → PV.pures xs = true
  | [], _, _ => rfl
  | x :: xs, ks, h => by
    obtain ⟨k, r, e1, e2, _⟩ := nks_cons h
    show (PV.pure x && PV.pures xs) = true
    rw [nk_pure x k e1, nks_pure xs r e2]; rfl
end
theorem okT_pure {x : PV} (h : okT x = true) : x.pure = true := by
  obtain ⟨_, ks, _, e, _⟩ := okT_nk h
  exact nk_pure x _ e

/-! ### o[i] = v -/
theorem pures_lt {k : Nat} {v : PV} (h : v.pure = true) : v.lt k = true := PV.lt_pure k v h
theorem may_lst {n k : Nat} {xs ys : List PV} {v : PV} (h : mayB n0 n v = true) (hk : k ≤ n0) (hn : n < k) (hv : PV.lt k v = true → PV.lts k ys = true) : PV.lts k ys = true := by
  unfold mayB at h
  rw [Bool.or_eq_true] at h
  rcases h with h | h
  · exact hv (PV.lt_pure k v h)
  · exact absurd hn (Nat.not_lt.mpr (Nat.le_trans hk (of_decide_eq_true h)))
theorem lts_set {k : Nat} {v : PV} (hv : v.lt k = true) : ∀ (xs : List PV) (j : Nat), PV.lts k xs = true → PV.lts k (xs.set j v) = true
  | [], _, h => h
  | x :: xs, 0, h => by
    unfold PV.lts at h
    rw [Bool.and_eq_true] at h
    show (PV.lt k v && PV.lts k xs) = true
    rw [hv, h.2]; rfl
  | x :: xs, j + 1, h => by
    unfold PV.lts at h
    rw [Bool.and_eq_true] at h
    show (PV.lt k x && PV.lts k (xs.set j v)) = true
    rw [h.1, lts_set hv xs j h.2]; rfl
theorem lts_append {k : Nat} (xs ys : List PV) : PV.lts k (xs ++ ys) = (PV.lts k xs && PV.lts k ys) := by
  rw [PV.lts_all, PV.lts_all, PV.lts_all, List.all_append]
theorem dct_put {k : Nat} {a v : PV} (ha : a.lt k = true) (hv : v.lt k = true) (kvs : List (PV × PV)) (h : (kvs.all fun q => q.1.lt k && q.2.lt k) = true) : ((putB a v kvs).all fun q => q.1.lt k && q.2.lt k) = true := by
  unfold putB
  split
  · rw [List.all_map, List.all_eq_true]
    intro p hp
    have := List.all_eq_true.mp h p hp
    show (PV.lt k (if eqb [] depthB p.1 a = true then (p.1, v) else p).1 && PV.lt k (if eqb [] depthB p.1 a = true then (p.1, v) else p).2) = true
    split
    · rw [Bool.and_eq_true] at this ⊢
      exact ⟨this.1, hv⟩
    · exact this
  · rw [List.all_append, h]
    show (true && ((a.lt k && v.lt k) && true)) = true
    rw [ha, hv]; rfl
def rset (K : PySem.W.Frag) (fa : Nat → Addr) (n0 : Nat) : V → V → V → L2.Hp → (L2.Hp → Prop) → Prop := fun x y z H Q => ∃ ρ m a b c m', Rel K fa ρ m H ∧ RV fa ρ m.length H a x ∧ RV fa ρ m.length H b y ∧ RV fa ρ m.length H c z ∧ setB n0 m a b c = .ok m' ∧
  ∀ ρ' H', Fut K fa n0 ρ m H ρ' m' H' → Q H'
theorem set_ok (hu : X.A.units + 65 < cLine) : PSet X (rset X.K fa n0) := by
  intro pins s σ H x y z v u w Q I rx ry rz h
  obtain ⟨ρ, m, a, b, c, m', R, ra, rb, rc, e, g⟩ := h
  unfold setB at e
  split at e
  · rename_i n
    obtain ⟨rfl, hn⟩ := rv_loc ra
    split at e
    · rename_i xs k ek
      split at e
      · rename_i j hj
        split at e
        · rename_i hm
          cases e
          cases rv_int rb
          obtain ⟨vs, h1, q1⟩ := rel_lst R ek
          have kp : Keep H (upd H (ρ n) (.lst (vs.set j z))) := .write h1 (fun _ _ z => by cases z) (fun _ _ z => by cases z)
          refine set_list pins s σ H _ _ z v u w Q I rx ry rz ⟨_, vs, _, j, rfl, rfl, h1, by rw [← ixB_ixN, ← q1.length]; exact hj, g ρ _ (.write R ek rfl rfl ⟨_, upd_same, RVs.mono (fun _ _ => rfl) (Nat.le_refl _) kp _ _ (q1.set rc j)⟩ fun k hk hn hl => ?_)⟩
          exact may_lst (xs := xs) hm hk hn fun hv => lts_set hv xs j hl
        · cases e
      · cases e
    · rename_i kk kvs ek
      split at e
      · rename_i hk
        split at e
        · rename_i hm
          cases e
          rw [Bool.and_eq_true] at hm
          obtain ⟨hm, hz⟩ := hm
          obtain ⟨q, rfl, rfl⟩ := okKey_of hk rb
          obtain ⟨qs, hq, rk⟩ := rel_dct R ek
          have kp : Keep H (upd H (ρ n) (.dK (putK qs q z))) := .write hq (fun _ _ z => by cases z) (fun _ _ z => by cases z)
          cases rx
          refine d_setItem (by omega) I (DPut.k (v := z) (k := q) hq (by rw [← rk.length]; exact Nat.lt_of_lt_of_le (of_decide_eq_true hz) sizeB_line)) ry rz fun s' I' => ⟨_, I', ?_⟩
          refine g ρ _ (.write R ek rfl rfl ⟨_, upd_same, RK.mono (fun _ _ => rfl) (Nat.le_refl _) kp (rk.put q rc)⟩ fun k hk hn hl => ?_)
          unfold mayB at hm
          rw [Bool.or_eq_true] at hm
          rcases hm with h | h
          · exact dct_put (a := keyV q) (by cases q <;> rfl) (PV.lt_pure k c h) kvs hl
          · exact absurd hn (Nat.not_lt.mpr (Nat.le_trans hk (of_decide_eq_true h)))
        · cases e
      · split at e
        · rename_i hm
          cases e
          rw [Bool.and_eq_true, Bool.and_eq_true] at hm
          obtain ⟨⟨hemp, hk⟩, hm⟩ := hm
          cases kvs with
          | cons _ _ => cases hemp
          | nil =>
            obtain ⟨b', k, rfl, e1, _⟩ := rv_key hk rb
            cases rx
            cases ry
            obtain ⟨qs, hq, rk⟩ := rel_dct R ek
            cases rk
            refine rd_set hu I hk rb rc rz (.inr ⟨hq, rfl⟩) (by decide) fun o s' I' D => ⟨_, I', ?_⟩
            refine g ρ _ (.write R ek rfl rfl D fun k hk' hn hl => ?_)
            have hbp := okT_pure hk
            unfold mayB at hm
            rw [Bool.or_eq_true] at hm
            rcases hm with h | h
            · exact dct_put (kvs := []) (PV.lt_pure k _ hbp) (PV.lt_pure k c h) rfl
            · exact absurd hn (Nat.not_lt.mpr (Nat.le_trans hk' (of_decide_eq_true h)))
        · cases e
    · rename_i kk kvs ver ek
      split at e
      · rename_i hm
        cases e
        rw [Bool.and_eq_true, Bool.and_eq_true] at hm
        obtain ⟨⟨hk, hm⟩, hz⟩ := hm
        obtain ⟨b', k, rfl, e1, _⟩ := rv_key hk rb
        cases rx
        cases ry
        refine rd_set hu I hk rb rc rz (.inl (R.objs _ _ ek)) (of_decide_eq_true hz) fun o s' I' D => ⟨_, I', ?_⟩
        refine g ρ _ (.write R ek rfl rfl D (fun k hk' hn hl => ?_) fun kv v z => ⟨_, _, rfl, by cases z; exact Nat.lt_succ_self _⟩)
        have hbp := okT_pure hk
        unfold mayB at hm
        rw [Bool.or_eq_true] at hm
        rcases hm with h | h
        · exact dct_put (PV.lt_pure k _ hbp) (PV.lt_pure k c h) kvs hl
        · exact absurd hn (Nat.not_lt.mpr (Nat.le_trans hk' (of_decide_eq_true h)))
      · cases e
    · cases e
  · cases e
end
end Dp
set_option Elab.async false
set_option linter.all false
set_option maxRecDepth 100000
/-! Dp7: slices. -/
namespace Dp
open PySem PySem.Spec PyProof.Rows L2

/-! ### the places that a step picks -/
theorem rvs_pick {fa ρ : Nat → Addr} {L : Nat} {H : L2.Hp} {xs : List PV} {vs : List V} (h : RVs fa ρ L H xs vs) {α : Type} (f : α → Nat) : ∀ l : List α, RVs fa ρ L H (l.filterMap fun i => xs[f i]?) (l.filterMap fun i => vs[f i]?)
  | [] => .nil
  | i :: l => by
    rw [List.filterMap_cons, List.filterMap_cons]
    cases e : xs[f i]? with
    | none =>
      have : vs[f i]? = none := by rw [List.getElem?_eq_none_iff] at e ⊢; rw [← h.length]; exact e
      rw [this]; exact rvs_pick h f l
    | some x =>
      obtain ⟨v, e2, r⟩ := h.get e
      rw [e2]; exact .cons r (rvs_pick h f l)
theorem vals_pick {xs : List V} {us : List Value} (h : L2.Vals xs us) {α : Type} (f : α → Nat) : ∀ l : List α, L2.Vals (l.filterMap fun i => xs[f i]?) (l.filterMap fun i => us[f i]?)
  | [] => .nil
  | i :: l => by
    rw [List.filterMap_cons, List.filterMap_cons]
    cases e : xs[f i]? with
    | none => rw [h.none_of e]; exact vals_pick h f l
    | some x =>
      obtain ⟨v, e2, r⟩ := h.get e
      rw [e2]; exact .cons r (vals_pick h f l)
def pickV {α : Type} (xs : List α) (lo st : Int) (k : Nat) : List α := (List.range k).filterMap fun (i : Nat) => xs[(lo + (i : Int) * st).toNat]?
theorem pick_rev {α : Type} (xs : List α) : pickV xs ((xs.length : Int) - 1) (-1) xs.length = xs.reverse := by
  have e : pickV xs ((xs.length : Int) - 1) (-1) xs.length = ((List.range xs.length).map fun k => xs.length - 1 - k).filterMap fun (i : Nat) => xs[i]? := by
    unfold pickV
    rw [List.filterMap_map]
    congr 1
    funext i
    show xs[((xs.length : Int) - 1 + (i : Int) * -1).toNat]? = xs[xs.length - 1 - i]?
    congr 1
    omega
  rw [e, PySem.W.krv_range, List.filterMap_reverse]
  have := PySem.W.krv_all xs.toArray
  simp only [List.size_toArray, List.getElem?_toArray] at this
  rw [this]
theorem adj_eq (lo hi : Option Int) (st n : Int) : adjB lo hi st n = Builtin.Slice.sliceAdjust lo hi st n := rfl
theorem many_eq (lo hi st : Int) : manyB lo hi st = Builtin.Slice.slicePlaces lo hi st := rfl
theorem ceil_eq {d c : Int} (hc : 0 < c) : (d + c - 1) / c = (d - 1) / c + 1 := by
  rw [show d + c - 1 = d - 1 + 1 * c by omega, Int.add_mul_ediv_right _ _ (by omega)]
theorem bounds_eq (lo hi : Option Int) (s : Int) (n : Nat) (h0 : s ≠ 0) : sliceBounds lo hi (some s) n = ((adjB lo hi s n).1, (adjB lo hi s n).2, s) := by
  unfold sliceBounds adjB
  dsimp only [Option.getD_some]
  by_cases hp : s > 0
  · have hn : ¬ s < 0 := by omega
    simp only [hp, hn, if_true, if_false]
    refine Prod.ext ?_ (Prod.ext ?_ rfl)
    · cases lo with
      | none => rfl
      | some i => dsimp only; split <;> omega
    · cases hi with
      | none => rfl
      | some i => dsimp only; split <;> omega
  · by_cases hn : s < 0
    · simp only [hp, hn, if_true, if_false]
      refine Prod.ext ?_ (Prod.ext ?_ rfl)
      · cases lo with
        | none => rfl
        | some i => dsimp only; split <;> omega
      · cases hi with
        | none => rfl
        | some i => dsimp only; split <;> omega
    · omega
theorem pick_eq (items : Array Value) (lo hi : Option Int) (s : Int) (h0 : s ≠ 0) :
    slicePick items lo hi (some s) = (pickV items.toList (adjB lo hi s items.size).1 s (manyB (adjB lo hi s items.size).1 (adjB lo hi s items.size).2 s)).toArray := by
  unfold slicePick
  rw [bounds_eq lo hi s items.size h0]
  generalize (adjB lo hi s items.size).1 = a
  generalize (adjB lo hi s items.size).2 = b
  congr 1
  unfold sliceRange pickV manyB
  have ec : (if s > 0 then (if a < b then (b - a + s - 1) / s else 0) else (if a > b then (a - b - s - 1) / (-s) else 0)) = (if s > 0 then (if a < b then (b - a - 1) / s + 1 else 0) else (if a > b then (a - b - 1) / (-s) + 1 else 0)) := by
    by_cases hp : s > 0
    · simp only [hp, if_true]
      split
      · exact ceil_eq hp
      · rfl
    · simp only [hp, if_false]
      split
      · rw [show a - b - s - 1 = a - b + (-s) - 1 by omega]
        exact ceil_eq (by omega)
      · rfl
  rw [ec, List.filterMap_map]
  congr 1
  funext i
  show items[(a + s * (i : Int)).toNat]? = items.toList[(a + (i : Int) * s).toNat]?
  rw [Int.mul_comm s, Array.getElem?_toList]

section
variable {prog : Program} {w : World} {A : Around} {E : Value → Shared → Prop} {s : Shared}
theorem applied_step {sl : Addr} {vl vu vs : Value} {lo hi : Option Int} {st : Int} {n : Nat} {Q : Int × Int × Nat → Shared → Prop} (hs : s.heap.IsSliceOf sl vl vu vs) (pl : IsPart vl lo) (pu : IsPart vu hi) (ps : IsPart vs (some st)) (h0 : st ≠ 0)
    (h : Q ((adjB lo hi st n).1, st, manyB (adjB lo hi st n).1 (adjB lo hi st n).2 st) s) : wpAny (model prog w) A (Builtin.Slice.sliceApplied (.ref sl) (pure (n : Int))) Q E s := by
  obtain ⟨os, hos, hcs, hds⟩ := id hs
  unfold Builtin.Slice.sliceApplied Builtin.Slice.sliceFields
  refine wpAny_bind (wpAny_bind (wpAny_field hos hds (x := vl) rfl (wpAny_bind (wpAny_field hos hds (x := vu) rfl (wpAny_bind (wpAny_field hos hds (x := vs) rfl (wpAny_pure ?_)))))))
  refine wpAny_bind (HT.slicePart_ ps ?_)
  show wpAny _ _ (if (st == 0) = true then _ else _) _ _ s
  rw [if_neg (by simpa using h0)]
  refine wpAny_bind (HT.slicePart_ pl (wpAny_bind (HT.slicePart_ pu (wpAny_bind (wpAny_pure ?_)))))
  exact wpAny_pure h
theorem getItem_tuple_step {t sl : Addr} {items : Array Value} {vl vu vs : Value} {lo hi : Option Int} {st : Int} {Q : Value → Shared → Prop} (ht : IsTup s.heap t items) (hs : s.heap.IsSliceOf sl vl vu vs) (pl : IsPart vl lo) (pu : IsPart vu hi) (ps : IsPart vs (some st)) (h0 : st ≠ 0) (h1 : st ≠ 1)
    (h : Q (.ref s.heap.objs.size) { s with heap := s.heap.push { cls := .type "tuple", data := .seq (pickV items.toList (adjB lo hi st items.size).1 st (manyB (adjB lo hi st items.size).1 (adjB lo hi st items.size).2 st)).toArray } })
    (hsz : manyB (adjB lo hi st items.size).1 (adjB lo hi st items.size).2 st ≤ sizeLine) : wpAny (model prog w) A (getItem (.ref t) (.ref sl)) Q E s := by
  have hsize : sizeOk (.seq (pickV items.toList (adjB lo hi st items.size).1 st (manyB (adjB lo hi st items.size).1 (adjB lo hi st items.size).2 st)).toArray) := by
    show (pickV items.toList _ st _).toArray.size ≤ sizeLine
    rw [List.size_toArray]
    unfold pickV
    exact Nat.le_trans (List.length_filterMap_le _ _) (by rw [List.length_range]; exact hsz)
  obtain ⟨os, hos, hcs, hds⟩ := id hs
  have hTs : s.TypeIs (.ref sl) "slice" := ⟨os, hos, hcs⟩
  unfold getItem
  try with_reducible refine wpAny_holding ?_
  first | refine wpAny_bind (wpAny_pure ?_) | skip
  refine wpAny_bind (wpAny_sequenceKey ht.typeIs (by decide) ?_)
  refine wpAny_bind (wpAny_callSpecial?_slot (name := Str.ofString "__getitem__") ht.typeIs PyProof.Rows.slot_tuple_getitem
    (wpAny_call_entry PyProof.Rows.slot_tuple_getitem ht.typeIs entry_tuple_getitem ?_ (args_tuple_getitem _ _)))
  show wpAny _ _ (Builtin.Tuple.tupleItemsOf (.ref t) >>= _) _ _ s
  refine wpAny_bind (tupleItemsOf_ ht ?_)
  refine wpAny_bind (wpAny_typeOf hTs ?_)
  rw [if_pos (by decide)]
  refine wpAny_bind (applied_step hs pl pu ps h0 ?_)
  have hno : ¬ (((adjB lo hi st items.size).1 == 0 && st == 1 && manyB (adjB lo hi st items.size).1 (adjB lo hi st items.size).2 st == items.size) = true) := by
    intro q
    rw [Bool.and_eq_true, Bool.and_eq_true] at q
    exact h1 (eq_of_beq q.1.2)
  show wpAny _ _ (if ((adjB lo hi st items.size).1 == 0 && st == 1 && manyB (adjB lo hi st items.size).1 (adjB lo hi st items.size).2 st == items.size) = true then _ else _) _ _ s
  rw [if_neg hno]
  have e : ((List.range (manyB (adjB lo hi st items.size).1 (adjB lo hi st items.size).2 st)).filterMap fun (k : Nat) => items[((adjB lo hi st items.size).1 + (k : Int) * st).toNat]?) = pickV items.toList (adjB lo hi st items.size).1 st (manyB (adjB lo hi st items.size).1 (adjB lo hi st items.size).2 st) := by
    unfold pickV
    congr 1
    funext i
    rw [Array.getElem?_toList]
  show wpAny _ _ (Builtin.Tuple.tupleExact ((List.range (manyB (adjB lo hi st items.size).1 (adjB lo hi st items.size).2 st)).filterMap fun (k : Nat) => items[((adjB lo hi st items.size).1 + (k : Int) * st).toNat]?).toArray >>= _) _ _ s
  rw [e]
  first
    | exact wpAny_bind (m := Builtin.Tuple.tupleExact _) (wpAny_newObj_type (wpAny_pure ⟨_, rfl, wpAny_pure h⟩) hsize)
    | exact wpAny_bind (m := Builtin.Tuple.tupleExact _) (wpAny_newObj_type (wpAny_bind (wpAny_pure (wpAny_pure ⟨_, rfl, wpAny_pure h⟩))) hsize)
    | exact wpAny_bind (wpAny_bind (m := Builtin.Tuple.tupleExact _) (wpAny_newObj_type (wpAny_pure (wpAny_pure ⟨_, rfl, wpAny_pure h⟩)) hsize))
    | exact wpAny_bind (wpAny_bind (m := Builtin.Tuple.tupleExact _) (wpAny_newObj_type (wpAny_pure ⟨_, rfl, wpAny_pure h⟩) hsize))
end

section
variable {X : Cx} {fa ρ : Nat → Addr} {n0 L : Nat} {m m' : Mem} {H : L2.Hp}
def rsl (K : PySem.W.Frag) (fa : Nat → Addr) (n0 : Nat) : V → Option Int → Option Int → Option Int → L2.Hp → VK → Prop := fun x lo hi st H Q =>
  ∃ ρ m a z m', Rel K fa ρ m H ∧ RV fa ρ m.length H a x ∧ slI m a lo hi st = .ok (z, m') ∧ Gives K fa n0 ρ m H Q z m'
theorem sIxB_eq (n d : Nat) (o : Option Int) : sIxB n d o = HT.sIx n d o := by cases o <;> rfl
theorem cut_rvs {xs : List PV} {vs : List V} (h : RVs fa ρ L H xs vs) (lo hi : Option Int) : RVs fa ρ L H (cutB xs lo hi) (L2.cutV vs lo hi) := by
  unfold cutB L2.cutV
  rw [sIxB_eq, sIxB_eq, h.length]
  exact (h.drop _).take _
theorem sl_ok (pins : List (Addr × Obj)) (s : Shared) (σ : L2.St) (H : L2.Hp) (x : V) (v vl vu vst : Value) (lo hi st : Option Int) (sl : Addr) (Q : VK) (I : L2.Inv X pins σ H s) (rx : L2.RelV x v) (hs : s.heap.IsSliceOf sl vl vu vst) (pl : IsPart vl lo) (pu : IsPart vu hi) (ps : IsPart vst st)
    (hr : rsl X.K fa n0 x lo hi st H Q) : ∃ T id, typeLookup (.type T) "__getitem__" = pure (some (.builtin id)) ∧ s.TypeIs v T ∧ wpAny (model X.prog X.w) X.A (getItem v (.ref sl)) (EP X pins σ Q) X.xe s := by
  obtain ⟨ρ, m, a, z, m', R, ra, e, g⟩ := hr
  unfold slI at e
  split at e
  · rename_i xs
    obtain ⟨t, o, vs, rfl, ht, hd, q⟩ := rv_tup ra
    split at e
    · rename_i ys ey
      cases e
      cases rx
      obtain ⟨its, r, hT, hz⟩ := I.tuple (sqT_of ht)
      have hlen : its.toArray.size = vs.length := by rw [List.size_toArray]; exact r.length.symm
      have hlen2 : its.toArray.size = xs.length := hlen.trans q.length.symm
      refine ⟨"tuple", _, PyProof.Rows.slot_tuple_getitem.lookup, hT.typeIs, ?_⟩
      cases st with
      | none =>
        cases ps
        unfold stepB at ey
        cases ey
        by_cases hw : HT.sIx its.toArray.size 0 lo = 0 ∧ HT.sIx its.toArray.size its.toArray.size hi = its.toArray.size
        · refine getItem_tuple_whole hT hs pl pu hw ⟨.ref t, H, I, rfl, ?_⟩
          have ec : cutB xs lo hi = xs := by
            unfold cutB
            rw [sIxB_eq, sIxB_eq, ← hlen2, hw.1, hw.2, List.drop_zero, hlen2, Nat.sub_zero, List.take_length]
          rw [ec] at g
          exact same_val g R ra
        · refine HT.getItem_tuple_cut hT hs pl pu hw ?_ (by rw [hlen]; exact hz)
          have q2 := cut_rvs q lo hi
          have r2 : L2.Vals (L2.cutV vs lo hi) ((its.drop (HT.sIx its.toArray.size 0 lo)).take (HT.sIx its.toArray.size its.toArray.size hi - HT.sIx its.toArray.size 0 lo)) := by
            unfold L2.cutV
            rw [hlen]
            exact (r.drop _).take _
          exact ⟨.ref s.heap.objs.size, _, mk_tup (t' := s.toks) I r2 (Nat.le_trans (L2.cutV_length vs lo hi) hz), rfl, new_tup g R q2 (I.hok.fresh (Nat.le_refl _)) ⟨rfl, rfl⟩⟩
      | some c =>
        unfold stepB at ey
        dsimp only at ey
        split at ey
        · cases ey
        · rename_i h01
          have h0 : c ≠ 0 := fun e => h01 (.inl e)
          have h1 : c ≠ 1 := fun e => h01 (.inr e)
          split at ey
          · rename_i hrev
            cases ey
            rw [Bool.and_eq_true, Bool.and_eq_true] at hrev
            obtain ⟨⟨hc, hl⟩, hh⟩ := hrev
            have hc : c = -1 := eq_of_beq hc
            subst hc
            cases lo with
            | some _ => cases hl
            | none =>
              cases hi with
              | some _ => cases hh
              | none =>
                have em : manyB (adjB none none (-1) its.toArray.size).1 (adjB none none (-1) its.toArray.size).2 (-1) = its.toArray.size := by
                  show (if (-1 : Int) > 0 then _ else (if ((its.toArray.size : Int) - 1) > -1 then (((its.toArray.size : Int) - 1) - -1 - 1) / (- -1) + 1 else 0)).toNat = _
                  rw [if_neg (by decide)]
                  split
                  · rw [show (- -1 : Int) = 1 by decide, Int.ediv_one]; omega
                  · omega
                refine getItem_tuple_step hT hs pl pu ps h0 h1 ?_ (by rw [em, hlen]; exact hz)
                rw [em]
                have eq : pickV its.toArray.toList (adjB none none (-1) its.toArray.size).1 (-1) its.toArray.size = its.reverse := by
                  show pickV its ((its.toArray.size : Int) - 1) (-1) its.toArray.size = _
                  rw [List.size_toArray]
                  exact pick_rev its
                rw [eq]
                have r2 : L2.Vals vs.reverse its.reverse := r.reverse
                exact ⟨.ref s.heap.objs.size, _, mk_tup (t' := s.toks) I r2 (by rw [List.length_reverse]; exact hz), rfl, new_tup g R q.reverse (I.hok.fresh (Nat.le_refl _)) ⟨rfl, rfl⟩⟩
          · split at ey
            · rename_i hm
              cases ey
              rw [← hlen2] at hm g
              refine getItem_tuple_step hT hs pl pu ps h0 h1 ?_ (Nat.le_trans hm sizeB_line)
              have r2 : L2.Vals _ _ := vals_pick r (fun (i : Nat) => ((adjB lo hi c its.toArray.size).1 + (i : Int) * c).toNat) (List.range (manyB (adjB lo hi c its.toArray.size).1 (adjB lo hi c its.toArray.size).2 c))
              have q2 := rvs_pick q (fun (i : Nat) => ((adjB lo hi c its.toArray.size).1 + (i : Int) * c).toNat) (List.range (manyB (adjB lo hi c its.toArray.size).1 (adjB lo hi c its.toArray.size).2 c))
              exact ⟨.ref s.heap.objs.size, _, mk_tup (t' := s.toks) I r2 (Nat.le_trans (Nat.le_trans (List.length_filterMap_le _ _) (by rw [List.length_range]; exact hm)) sizeB_line), rfl, new_tup g R q2 (I.hok.fresh (Nat.le_refl _)) ⟨rfl, rfl⟩⟩
            · cases ey
    · cases e
  · rename_i n
    obtain ⟨rfl, hn⟩ := rv_loc ra
    split at e
    · rename_i ys ey
      cases e
      obtain ⟨xs, el, ey⟩ := Option.bind_eq_some_iff.mp ey
      obtain ⟨vs, hS, q⟩ := rel_seq R el
      cases rx
      obtain ⟨its, r, hT, hz⟩ := I.list hS
      have hlen : its.toArray.size = vs.length := by rw [List.size_toArray]; exact r.length.symm
      have hlen2 : its.toArray.size = xs.length := hlen.trans q.length.symm
      refine ⟨"list", _, slot_list_getitem.lookup, hT.isList.typeIs, ?_⟩
      cases st with
      | none =>
        cases ps
        unfold stepB at ey
        cases ey
        refine wpAny_getItem_list_slice hT.isList hs pl pu .none (by simp) ?_ (by rw [hlen]; exact hz)
        rw [slicePick_cut, ← r.length]
        have r2 : L2.Vals (L2.cutV vs lo hi) ((its.drop (HT.sIx vs.length 0 lo)).take (HT.sIx vs.length vs.length hi - HT.sIx vs.length 0 lo)) := (r.drop _).take _
        refine ⟨.ref s.heap.objs.size, _, I.laid (t' := s.toks) (o := .lst (cutV vs lo hi)) (fun b ob q => Heap.get?_push_of_some _ q) (Nat.le_refl _) ?_, rfl, new_lst g R (cut_rvs q lo hi) (I.hok.fresh (Nat.le_refl _))⟩
        exact ⟨Nat.le_trans (cutV_length vs lo hi) hz, _, 0, r2, Heap.get?_push_size _ rfl⟩
      | some c =>
        unfold stepB at ey
        dsimp only at ey
        split at ey
        · cases ey
        · rename_i h01
          have h0 : c ≠ 0 := fun e => h01 (.inl e)
          have h1 : c ≠ 1 := fun e => h01 (.inr e)
          refine wpAny_getItem_list_slice hT.isList hs pl pu ps (by simpa using h0) ?_ (by rw [hlen]; exact hz)
          split at ey
          · rename_i hrev
            cases ey
            rw [Bool.and_eq_true, Bool.and_eq_true] at hrev
            obtain ⟨⟨hc, hl⟩, hh⟩ := hrev
            have hc : c = -1 := eq_of_beq hc
            subst hc
            cases lo with
            | some _ => cases hl
            | none =>
              cases hi with
              | some _ => cases hh
              | none =>
                rw [PySem.W.krv_pick]
                refine ⟨.ref s.heap.objs.size, _, I.laid (t' := s.toks) (o := .lst vs.reverse) (fun b ob q => Heap.get?_push_of_some _ q) (Nat.le_refl _) ?_, rfl, new_lst g R q.reverse (I.hok.fresh (Nat.le_refl _))⟩
                exact ⟨by rw [List.length_reverse]; exact hz, _, 0, r.reverse, Heap.get?_push_size _ rfl⟩
          · split at ey
            · rename_i hm
              cases ey
              rw [← hlen2] at hm g
              rw [pick_eq _ lo hi c h0]
              have r2 : L2.Vals _ _ := vals_pick r (fun (i : Nat) => ((adjB lo hi c its.toArray.size).1 + (i : Int) * c).toNat) (List.range (manyB (adjB lo hi c its.toArray.size).1 (adjB lo hi c its.toArray.size).2 c))
              have q2 := rvs_pick q (fun (i : Nat) => ((adjB lo hi c its.toArray.size).1 + (i : Int) * c).toNat) (List.range (manyB (adjB lo hi c its.toArray.size).1 (adjB lo hi c its.toArray.size).2 c))
              refine ⟨.ref s.heap.objs.size, _, I.laid (t' := s.toks) (o := .lst _) (fun b ob q => Heap.get?_push_of_some _ q) (Nat.le_refl _) ?_, rfl, new_lst g R q2 (I.hok.fresh (Nat.le_refl _))⟩
              exact ⟨Nat.le_trans (Nat.le_trans (List.length_filterMap_le _ _) (by rw [List.length_range]; exact hm)) sizeB_line, _, 0, r2, Heap.get?_push_size _ rfl⟩
            · cases ey
    · cases e
  · cases e
end
end Dp
set_option Elab.async false
set_option linter.all false
set_option maxRecDepth 100000
/-! Dp8: built-in functions. -/
namespace Dp
open PySem PySem.Spec PyProof.Rows L2
section
variable {X : Cx} {fa ρ : Nat → Addr} {n0 L : Nat} {m m' : Mem} {H : L2.Hp}

/-- what a built-in's call promises -/
def rB (K : PySem.W.Frag) (fa : Nat → Addr) (n0 : Nat) (f : Mem → List PV → RE) : List V → L2.Hp → VK → Prop := fun vs H Q =>
  ∃ ρ m as z m', Rel K fa ρ m H ∧ RVs fa ρ m.length H as vs ∧ f m as = .ok (z, m') ∧ Gives K fa n0 ρ m H Q z m'
theorem rvs1 {x : PV} {vs : List V} (h : RVs fa ρ L H [x] vs) : ∃ v, vs = [v] ∧ RV fa ρ L H x v := by
  cases h with
  | cons a b => cases b; exact ⟨_, rfl, a⟩
theorem rvs2 {x y : PV} {vs : List V} (h : RVs fa ρ L H [x, y] vs) : ∃ v u, vs = [v, u] ∧ RV fa ρ L H x v ∧ RV fa ρ L H y u := by
  cases h with
  | cons a b =>
    cases b with
    | cons c d => cases d; exact ⟨_, _, rfl, a, c⟩
theorem len_ok : CallR X (.builtin "len") (rB X.K fa n0 lenB) := by
  intro pins s σ H vs us Q I rs h
  obtain ⟨ρ, m, as, z, m', R, ra, e, g⟩ := h
  unfold lenB at e
  split at e
  · rename_i n
    obtain ⟨v, rfl, rv⟩ := rvs1 ra
    obtain ⟨rfl, hn⟩ := rv_loc rv
    split at e
    · rename_i xs ek
      cases e
      obtain ⟨ws, hS, q⟩ := rel_seq R (show lstAt m n = some xs by unfold lstAt; rw [ek])
      refine call_len_seq pins s σ H _ us Q I rs ⟨_, ws, rfl, .inl hS, ?_⟩
      rw [← q.length]; exact same_val g R (.int _)
    · rename_i xs ek
      cases e
      obtain ⟨ws, hS, q⟩ := rel_seq R (show lstAt m n = some xs by unfold lstAt; rw [ek])
      refine call_len_seq pins s σ H _ us Q I rs ⟨_, ws, rfl, .inl hS, ?_⟩
      rw [← q.length]; exact same_val g R (.int _)
    · rename_i kvs ek
      cases e
      obtain ⟨qs, hq, rk⟩ := rel_dct R ek
      obtain ⟨u, rfl, ru⟩ := L2.vals1 rs
      cases ru
      refine d_len I (.inl hq) fun t s' I' => ⟨.int qs.length, H, I', ⟨_, rfl⟩, ?_⟩
      rw [← rk.length]; exact same_val g R (.int _)
    · rename_i kvs w ek
      cases e
      obtain ⟨u, rfl, ru⟩ := L2.vals1 rs
      cases ru
      exact rd_lenC I (R.objs _ _ ek) fun t s' I' => ⟨.int kvs.length, H, I', ⟨_, rfl⟩, same_val g R (.int _)⟩
    · cases e
    · cases e
  · cases e
    obtain ⟨v, rfl, rv⟩ := rvs1 ra
    obtain ⟨t, o, ws, rfl, ht, _, q⟩ := rv_tup rv
    refine call_len_seq pins s σ H _ us Q I rs ⟨_, ws, rfl, .inr (sqT_of ht), ?_⟩
    rw [← q.length]; exact same_val g R (.int _)
  · cases e
theorem abs_ok : CallR X (.builtin "abs") (rB X.K fa n0 absB) := by
  intro pins s σ H vs us Q I rs h
  obtain ⟨ρ, m, as, z, m', R, ra, e, g⟩ := h
  unfold absB at e
  split at e
  · cases e
    obtain ⟨v, rfl, rv⟩ := rvs1 ra
    cases rv_int rv
    exact call_abs pins s σ H _ us Q I rs ⟨_, rfl, same_val g R (.int _)⟩
  · cases e
theorem rvs_bls : ∀ {xs : List PV} {bs : List Bool} {vs : List V}, allBl xs = some bs → RVs fa ρ L H xs vs → vs = bs.map V.bl
  | [], bs, vs, e, h => by cases e; cases h; rfl
  | x :: xs, bs, vs, e, h => by
    cases h with
    | cons a b =>
      cases x with
      | bl c =>
        unfold allBl at e
        obtain ⟨cs, e1, e2⟩ := Option.map_eq_some_iff.mp e
        subst e2
        rw [rvs_bls e1 b, rv_bl a]; rfl
      | _ => cases e
theorem rvs_ints : ∀ {xs : List PV} {ns : List Int} {vs : List V}, allInt xs = some ns → RVs fa ρ L H xs vs → vs = ns.map V.int
  | [], bs, vs, e, h => by cases e; cases h; rfl
  | x :: xs, bs, vs, e, h => by
    cases h with
    | cons a b =>
      cases x with
      | int c =>
        unfold allInt at e
        obtain ⟨cs, e1, e2⟩ := Option.map_eq_some_iff.mp e
        subst e2
        rw [rvs_ints e1 b, rv_int a]; rfl
      | _ => cases e
theorem all_ok (hc : X.calm = true) : CallR X (.builtin "all") (rB X.K fa n0 allB) := by
  intro pins s σ H vs us Q I rs h
  obtain ⟨ρ, m, as, z, m', R, ra, e, g⟩ := h
  unfold allB at e
  split at e
  · split at e
    · rename_i bs eb
      cases e
      obtain ⟨xs, el, eb⟩ := Option.bind_eq_some_iff.mp eb
      obtain ⟨v, rfl, rv⟩ := rvs1 ra
      obtain ⟨rfl, hn⟩ := rv_loc rv
      obtain ⟨ws, hS, q⟩ := rel_seq R el
      rw [rvs_bls eb q] at hS
      exact cr_all hc pins s σ H _ us Q I rs ⟨_, bs, rfl, hS, same_val g R (.bl _)⟩
    · cases e
  · cases e
theorem any_ok (hc : X.calm = true) : CallR X (.builtin "any") (rB X.K fa n0 anyB) := by
  intro pins s σ H vs us Q I rs h
  obtain ⟨ρ, m, as, z, m', R, ra, e, g⟩ := h
  unfold anyB at e
  split at e
  · split at e
    · rename_i bs eb
      cases e
      obtain ⟨xs, el, eb⟩ := Option.bind_eq_some_iff.mp eb
      obtain ⟨v, rfl, rv⟩ := rvs1 ra
      obtain ⟨rfl, hn⟩ := rv_loc rv
      obtain ⟨ws, hS, q⟩ := rel_seq R el
      rw [rvs_bls eb q] at hS
      exact cr_any hc pins s σ H _ us Q I rs ⟨_, bs, rfl, hS, same_val g R (.bl _)⟩
    · cases e
  · cases e
theorem int_ok : CallR X (.type "int") (rB X.K fa n0 intB) := by
  intro pins s σ H vs us Q I rs h
  obtain ⟨ρ, m, as, z, m', R, ra, e, g⟩ := h
  unfold intB at e
  split at e
  · cases e
    obtain ⟨v, rfl, rv⟩ := rvs1 ra
    cases rv_int rv
    exact call_int1 pins s σ H _ us Q I rs (.inl ⟨_, rfl, same_val g R (.int _)⟩)
  · cases e
    obtain ⟨v, rfl, rv⟩ := rvs1 ra
    cases rv_bl rv
    exact call_int1 pins s σ H _ us Q I rs (.inr ⟨_, rfl, same_val g R (.int _)⟩)
  · cases e

theorem rvs_rng (lo hi : Int) : RVs fa ρ L H (rngL lo hi) (rgV lo hi) := by
  unfold rngL rgV
  generalize List.range (hi - lo).toNat = l
  induction l with
  | nil => exact .nil
  | cons k l ih => rw [List.map_cons, List.map_cons]; exact .cons (.int _) ih
theorem small62_of {i : Int} (h : small62 i = true) : -(2 ^ 62) ≤ i ∧ i < 2 ^ 62 := by
  have := of_decide_eq_true (show decide _ = true from h)
  constructor <;> omega
theorem rk_keys {kvs : List (PV × PV)} {qs : List (Key × V)} (h : RK fa ρ L H kvs qs) : RVs fa ρ L H (kvs.map (·.1)) (qs.map fun kv => kV kv.1) := by
  induction h with
  | nil => exact .nil
  | @cons p q _ _ a _ ih =>
    rw [List.map_cons, List.map_cons]
    refine .cons ?_ ih
    rw [a.1]
    cases q.1 with
    | inl i => exact .int i
    | inr x => exact .str x
theorem list_ok (hc : X.calm = true) : CallR X (.type "list") (rB X.K fa n0 listB) := by
  intro pins s σ H vs us Q I rs h
  obtain ⟨ρ, m, as, z, m', R, ra, e, g⟩ := h
  unfold listB at e
  split at e
  · rename_i x
    split at e
    · rename_i xs ex
      cases e
      obtain ⟨v, rfl, rv⟩ := rvs1 ra
      unfold itemsB at ex
      split at ex
      · cases ex
        obtain ⟨t, o, ws, rfl, ht, _, q⟩ := rv_tup rv
        exact call_list_of pins s σ H _ us Q I rs ⟨_, ws, rfl, .inr (sqT_of ht), fun l hl => new_lst g R q hl⟩
      · rename_i lo hi
        split at ex
        · rename_i hs
          cases ex
          rw [Bool.and_eq_true, Bool.and_eq_true] at hs
          obtain ⟨a1, a2⟩ := small62_of hs.1.1
          obtain ⟨b1, b2⟩ := small62_of hs.1.2
          have hz : (hi - lo).toNat ≤ 16000000 := of_decide_eq_true hs.2
          cases rv with
          | rng er =>
            obtain ⟨u, rfl, ru⟩ := L2.vals1 rs
            cases ru
            obtain ⟨t1, t2, t3, ho⟩ := I.hok _ _ er
            refine call_list_range (n := (hi - lo).toNat) (I.ok.hd hc) ho (small_one a1 a2 b1 b2) (rangeSize_nat lo hi) (by omega) fun h' tk acc c' hk e' hi' => ?_
            refine ⟨.ref s.heap.objs.size, upd H s.heap.objs.size (.lst (rgV lo hi)), I.laid hk (Nat.le_refl _) (show ObjOk X.prog X.w _ _ _ (.lst (rgV lo hi)) from ⟨?_, acc.toList, c', vals_rg hi', ?_⟩), rfl, new_lst g R (rvs_rng lo hi) (I.hok.fresh (Nat.le_refl _))⟩
            · rw [rgV_length, sizeLine_eq]; omega
            · rw [Array.toArray_toList]; exact e'
        · cases ex
      · rename_i n
        obtain ⟨rfl, hn⟩ := rv_loc rv
        split at ex
        · rename_i ys ek
          cases ex
          obtain ⟨ws, hS, q⟩ := rel_seq R (show lstAt m n = some xs by unfold lstAt; rw [ek])
          exact call_list_of pins s σ H _ us Q I rs ⟨_, ws, rfl, .inl hS, fun l hl => new_lst g R q hl⟩
        · rename_i ys ek
          cases ex
          obtain ⟨ws, hS, q⟩ := rel_seq R (show lstAt m n = some xs by unfold lstAt; rw [ek])
          exact call_list_of pins s σ H _ us Q I rs ⟨_, ws, rfl, .inl hS, fun l hl => new_lst g R q hl⟩
        · rename_i kvs ek
          cases ex
          obtain ⟨qs, hq, rk⟩ := rel_dct R ek
          exact call_list_dK hc pins s σ H _ us Q I rs ⟨_, qs, rfl, hq, fun l hl => new_lst g R (rk_keys rk) hl⟩
        · rename_i kvs w ek
          cases ex
          obtain ⟨u, rfl, ru⟩ := L2.vals1 rs
          cases ru
          obtain ⟨hsys, xs, es, ep, hraw, he, hl, hz, pr⟩ := rd_raw I (R.objs _ _ ek)
          refine PySem.W.kdl_call (KdlSrc.rawDict (prog := X.prog) (w := X.w) (es := es) (ep := ep) hsys) (I.ok.hd hc) hraw (by rw [hl]; exact hz) fun h' tk acc' c' hk hD hacc => ?_
          have ea := keys_acc (P := X.prog) he hacc
          refine ⟨.ref s.heap.objs.size, _, I.laid (t' := tk) (o := .lst (xs.map fun x => V.ref x.2.1)) hk (Nat.le_refl _) ⟨by rw [List.length_map]; exact hz, acc'.toList, c', by rw [ea]; exact vals_refs xs, by rw [Array.toArray_toList]; exact hD⟩, rfl, new_lst g R (rd_keys pr) (I.hok.fresh (Nat.le_refl _))⟩
        · cases ex
        · cases ex
      · cases ex
    · cases e
  · cases e
theorem tuple_ok (hc : X.calm = true) : CallR X (.type "tuple") (rB X.K fa n0 tupleB) := by
  intro pins s σ H vs us Q I rs h
  obtain ⟨ρ, m, as, z, m', R, ra, e, g⟩ := h
  unfold tupleB at e
  split at e
  · rename_i x
    split at e
    · rename_i xs ex
      cases e
      obtain ⟨v, rfl, rv⟩ := rvs1 ra
      obtain ⟨u, rfl, ru⟩ := L2.vals1 rs
      unfold itemsT at ex
      split at ex
      · cases ex
        obtain ⟨t, o, ws, rfl, ht, _, q⟩ := rv_tup rv
        cases ru
        obtain ⟨its, r', pl, hz⟩ := I.tuple (sqT_of ht)
        exact call_tuple_same pl ⟨.ref t, H, I, rfl, same_val g R rv⟩
      · rename_i lo hi
        split at ex
        · rename_i hs
          cases ex
          rw [Bool.and_eq_true, Bool.and_eq_true] at hs
          obtain ⟨a1, a2⟩ := small62_of hs.1.1
          obtain ⟨b1, b2⟩ := small62_of hs.1.2
          have hz : (hi - lo).toNat ≤ 16000000 := of_decide_eq_true hs.2
          cases rv with
          | rng er =>
            cases ru
            obtain ⟨t1, t2, t3, ho⟩ := I.hok _ _ er
            refine call_tuple_range (n := (hi - lo).toNat) (I.ok.hd hc) ho (small_one a1 a2 b1 b2) (rangeSize_nat lo hi) (by omega) fun h' tk acc hk hi' => ?_
            have I2 : L2.Inv X pins σ H { s with heap := h', toks := tk } := I.kept hk
            have hz2 : (rgV lo hi).length ≤ sizeLine := by rw [rgV_length, sizeLine_eq]; omega
            have q := mk_tup (t' := tk) I2 (vals_rg hi') hz2
            have ea : tupO acc.toList = { cls := .type "tuple", data := .seq acc } := by unfold tupO; rw [Array.toArray_toList]
            rw [ea] at q
            exact ⟨.ref h'.objs.size, _, q, rfl, new_tup g R (rvs_rng lo hi) (I2.hok.fresh (Nat.le_refl _)) ⟨rfl, rfl⟩⟩
        · cases ex
      · rename_i n
        obtain ⟨rfl, hn⟩ := rv_loc rv
        cases ru
        obtain ⟨ws, hS, q⟩ := rel_seq R ex
        obtain ⟨its, r', pl, hz⟩ := I.list hS
        have hlen := r'.length
        refine call_tuple_list pl.isList (fun h' kp => ?_) (by simp only [List.size_toArray] <;> omega)
        have I1 : L2.Inv X pins σ H { s with heap := h' } := I.kept (t' := s.toks) kp
        exact ⟨.ref h'.objs.size, _, mk_tup (t' := s.toks) I1 r' hz, rfl, new_tup g R q (I1.hok.fresh (Nat.le_refl _)) ⟨rfl, rfl⟩⟩
      · cases ex
    · cases e
  · cases e
theorem range_ok : CallR X (.type "range") (rB X.K fa n0 rangeB) := by
  intro pins s σ H vs us Q I rs h
  obtain ⟨ρ, m, as, z, m', R, ra, e, g⟩ := h
  unfold rangeB at e
  split at e
  · split at e
    · rename_i j hs
      cases e
      obtain ⟨v, rfl, rv⟩ := rvs1 ra
      cases rv_int rv
      obtain ⟨u, rfl, t, rfl⟩ := L2.vals1 rs
      refine call_range_1 ⟨.ref s.heap.objs.size, upd H s.heap.objs.size (.rng 0 j), I.laid (t' := s.toks + 2) (fun b o e => Heap.get?_push_of_some _ e) (Nat.le_refl _) ?_, rfl, new_rng g R (I.hok.fresh (Nat.le_refl _))⟩
      exact ⟨_, _, _, Heap.get?_push_size _ rfl⟩
    · cases e
  · split at e
    · cases e
      obtain ⟨v, u, rfl, rv, ru⟩ := rvs2 ra
      cases rv_int rv
      cases rv_int ru
      exact cr_range2 pins s σ H _ us Q I rs ⟨_, _, rfl, fun p hp => new_rng g R hp⟩
    · cases e
  · cases e
theorem sum_ok (hc : X.calm = true) : CallR X (.builtin "sum") (rB X.K fa n0 sumB) := by
  intro pins s σ H vs us Q I rs h
  obtain ⟨ρ, m, as, z, m', R, ra, e, g⟩ := h
  unfold sumB at e
  split at e
  · split at e
    · rename_i ns en
      cases e
      obtain ⟨xs, el, en⟩ := Option.bind_eq_some_iff.mp en
      obtain ⟨v, rfl, rv⟩ := rvs1 ra
      obtain ⟨rfl, hn⟩ := rv_loc rv
      obtain ⟨ws, hS, q⟩ := rel_seq R el
      rw [rvs_ints en q] at hS
      exact cr_sum hc pins s σ H _ us Q I rs ⟨_, ns, rfl, hS, same_val g R (.int _)⟩
    · cases e
  · cases e
end
end Dp
set_option Elab.async false
set_option linter.all false
set_option maxRecDepth 100000
/-! DpT: tuples in order. -/
namespace Dp
open PySem PySem.Spec PyProof.Rows L2
open PySem.W (TotalLe sameRank alike alikeAll dataLt dataLe)

/-! ### sorting by inserting -/
section
variable {α : Type}
def insG (lt : α → α → Bool) (x : α) : List α → List α
  | [] => [x]
  | y :: ys => if lt x y then x :: y :: ys else y :: insG lt x ys
def sortG (lt : α → α → Bool) (xs : List α) : List α := xs.foldl (fun acc x => insG lt x acc) []
variable {le : α → α → Bool}
theorem insG_mem {lt : α → α → Bool} {x z : α} : ∀ {ys : List α}, z ∈ insG lt x ys → z = x ∨ z ∈ ys
  | [], h => .inl (List.mem_singleton.mp h)
  | y :: ys, h => by
    unfold insG at h
    split at h
    · rcases List.mem_cons.mp h with h | h
      · exact .inl h
      · exact .inr h
    · rcases List.mem_cons.mp h with h | h
      · exact .inr (by rw [h]; exact List.mem_cons_self)
      · rcases insG_mem h with h | h
        · exact .inl h
        · exact .inr (List.mem_cons_of_mem _ h)
theorem insG_pw (T : TotalLe le) {lt : α → α → Bool} (hl : ∀ x y, lt x y = !le y x) (x : α) : ∀ ys : List α, ys.Pairwise (fun a b => le a b = true) → (insG lt x ys).Pairwise (fun a b => le a b = true)
  | [], _ => List.pairwise_singleton _ _
  | y :: ys, h => by
    obtain ⟨h1, h2⟩ := List.pairwise_cons.mp h
    unfold insG
    split
    · rename_i q
      have q' : le x y = true := by
        rw [hl] at q
        rcases T.total x y with z | z
        · exact z
        · rw [z] at q; cases q
      refine List.pairwise_cons.mpr ⟨fun z hz => ?_, h⟩
      rcases List.mem_cons.mp hz with e | e
      · rw [e]; exact q'
      · exact T.trans x y z q' (h1 z e)
    · rename_i q
      have q' : le y x = true := by
        rw [hl] at q
        cases e : le y x with
        | true => rfl
        | false => rw [e] at q; exact absurd rfl q
      refine List.pairwise_cons.mpr ⟨fun z hz => ?_, insG_pw T hl x ys h2⟩
      rcases insG_mem hz with e | e
      · rw [e]; exact q'
      · exact h1 z e
theorem insG_filter (T : TotalLe le) {lt : α → α → Bool} (hl : ∀ x y, lt x y = !le y x) (c x : α) : ∀ ys : List α, ys.Pairwise (fun a b => le a b = true) → (insG lt x ys).filter (sameRank le c) = (ys ++ [x]).filter (sameRank le c)
  | [], _ => rfl
  | y :: ys, h => by
    obtain ⟨h1, h2⟩ := List.pairwise_cons.mp h
    unfold insG
    split
    · rename_i q
      rw [hl] at q
      have q' : le y x = false := by
        cases e : le y x with
        | false => rfl
        | true => rw [e] at q; cases q
      have above : ∀ z ∈ y :: ys, le z x = false := fun z hz => by
        rcases List.mem_cons.mp hz with e | e
        · rw [e]; exact q'
        · cases e2 : le z x with
          | false => rfl
          | true =>
            have := T.trans y z x (h1 z e) e2
            rw [q'] at this; cases this
      rw [List.filter_append]
      cases hc : sameRank le c x with
      | false =>
        have hc' : ¬ sameRank le c x = true := by rw [hc]; exact Bool.false_ne_true
        rw [List.filter_cons_of_neg hc', List.filter_cons_of_neg hc', List.filter_nil, List.append_nil]
      | true =>
        have none : (y :: ys).filter (sameRank le c) = [] := List.filter_eq_nil_iff.mpr fun z hz hq => by
          unfold sameRank at hc hq
          rw [Bool.and_eq_true] at hc hq
          have := T.trans z c x hq.2 hc.1
          rw [above z hz] at this; cases this
        rw [List.filter_cons_of_pos hc, none, List.filter_cons_of_pos hc]
        rfl
    · rw [List.cons_append, List.filter_cons, List.filter_cons, insG_filter T hl c x ys h2]
theorem sortG_eq (T : TotalLe le) {lt : α → α → Bool} (hl : ∀ x y, lt x y = !le y x) (xs : List α) : sortG lt xs = xs.mergeSort le := by
  have go : ∀ (ys acc : List α), acc.Pairwise (fun a b => le a b = true) → (ys.foldl (fun acc x => insG lt x acc) acc).Pairwise (fun a b => le a b = true) ∧ ∀ c, (ys.foldl (fun acc x => insG lt x acc) acc).filter (sameRank le c) = (acc ++ ys).filter (sameRank le c) := by
    intro ys
    induction ys with
    | nil => exact fun acc h => ⟨h, fun c => by rw [List.append_nil]; rfl⟩
    | cons y ys ih =>
      intro acc h
      obtain ⟨a1, a2⟩ := ih (insG lt y acc) (insG_pw T hl y acc h)
      refine ⟨a1, fun c => ?_⟩
      have := a2 c
      rw [List.filter_append, insG_filter T hl c y acc h, ← List.filter_append, List.append_assoc] at this
      exact this
  obtain ⟨a1, a2⟩ := go xs [] .nil
  exact PySem.W.sort_unique T a1 fun c => a2 c
theorem insG_congr {lt lt' : α → α → Bool} {x : α} : ∀ {ys : List α}, (∀ y ∈ ys, lt x y = lt' x y) → insG lt x ys = insG lt' x ys
  | [], _ => rfl
  | y :: ys, h => by
    unfold insG
    rw [h y List.mem_cons_self, insG_congr fun z hz => h z (List.mem_cons_of_mem _ hz)]
theorem sortG_congr {lt lt' : α → α → Bool} {xs : List α} (h : ∀ x ∈ xs, ∀ y ∈ xs, lt x y = lt' x y) : sortG lt xs = sortG lt' xs := by
  have go : ∀ (ys acc : List α), (∀ y ∈ ys, y ∈ xs) → (∀ y ∈ acc, y ∈ xs) → ys.foldl (fun acc x => insG lt x acc) acc = ys.foldl (fun acc x => insG lt' x acc) acc := by
    intro ys
    induction ys with
    | nil => exact fun _ _ _ => rfl
    | cons y ys ih =>
      intro acc h1 h2
      have hy := h1 y List.mem_cons_self
      show ys.foldl _ (insG lt y acc) = ys.foldl _ (insG lt' y acc)
      rw [insG_congr fun z hz => h y hy z (h2 z hz)]
      refine ih _ (fun z hz => h1 z (List.mem_cons_of_mem _ hz)) fun z hz => ?_
      rcases insG_mem hz with e | e
      · rw [e]; exact hy
      · exact h2 z e
  exact go xs [] (fun _ h => h) (fun _ h => by cases h)
end
theorem insB_eq (x : PV) : ∀ ys : List PV, insB x ys = insG (ltb depthB) x ys
  | [] => rfl
  | y :: ys => by unfold insB insG; rw [insB_eq x ys]
theorem sortB_eq (xs : List PV) : sortB xs = sortG (ltb depthB) xs := by
  unfold sortB sortG
  congr 1
  funext acc x
  exact insB_eq x acc

/-! ### as data -/
mutual
def pyd : PV → PyData
  | .int i => .int i
  | .tup xs => .tuple (pyds xs)
  | _ => .none
def pyds : List PV → List PyData
  | [] => []
  | x :: xs => pyd x :: pyds xs
end
theorem pyds_map : ∀ xs : List PV, pyds xs = xs.map pyd
  | [] => rfl
  | x :: xs => by show pyd x :: pyds xs = _; rw [pyds_map xs]; rfl
theorem okL_succ {d : Nat} {x : PV} (h : okL (d + 1) x = true) : (∃ i, x = .int i) ∨ ∃ xs, x = .tup xs ∧ xs.all (okL d) = true := by
  unfold okL at h
  split at h
  · exact .inl ⟨_, rfl⟩
  · exact .inr ⟨_, rfl, h⟩
  · cases h
theorem eqb_eqv : ∀ (d : Nat) (x y : PV), okL d x = true → okL d y = true → eqb [] d x y = PyData.eqv (pyd x) (pyd y)
  | 0, x, _, h, _ => by unfold okL at h; cases h
  | d + 1, x, y, hx, hy => by
    rcases okL_succ hx with ⟨i, rfl⟩ | ⟨xs, rfl, h1⟩ <;> rcases okL_succ hy with ⟨j, rfl⟩ | ⟨ys, rfl, h2⟩
    · rfl
    · rfl
    · rfl
    · show eqbs (eqb [] d) xs ys = PyData.eqvAll (pyds xs) (pyds ys)
      clear hx hy
      induction xs generalizing ys with
      | nil => cases ys <;> rfl
      | cons x xs ih =>
        cases ys with
        | nil => rfl
        | cons y ys =>
          rw [List.all_cons, Bool.and_eq_true] at h1 h2
          show (eqb [] d x y && eqbs (eqb [] d) xs ys) = (PyData.eqv (pyd x) (pyd y) && PyData.eqvAll (pyds xs) (pyds ys))
          rw [eqb_eqv d x y h1.1 h2.1, ih h1.2 ys h2.2]
theorem alkb_alike : ∀ (d : Nat) (x y : PV), alkb d x y = true → alike (pyd x) (pyd y) = true
  | 0, _, _, h => by unfold alkb at h; cases h
  | d + 1, x, y, h => by
    unfold alkb at h
    split at h
    · rfl
    · rename_i xs ys
      show alikeAll (pyds xs) (pyds ys) = true
      induction xs generalizing ys with
      | nil => cases ys <;> rfl
      | cons x xs ih =>
        cases ys with
        | nil => rfl
        | cons y ys =>
          have h : (alkb d x y && alkbs (alkb d) xs ys) = true := h
          rw [Bool.and_eq_true] at h
          show (alike (pyd x) (pyd y) && alikeAll (pyds xs) (pyds ys)) = true
          rw [alkb_alike d x y h.1, ih ys h.2]; rfl
    · cases h
theorem flat_alike {x y : PV} (hx : flatT x = true) (hy : flatT y = true) : alike (pyd x) (pyd y) = true := by
  cases x <;> first | (cases hx; done) | skip
  cases y <;> first | (cases hy; done) | skip
  rename_i xs ys
  have h1 : (xs.all fun x => match x with | .int _ => true | _ => false) = true := hx
  have h2 : (ys.all fun x => match x with | .int _ => true | _ => false) = true := hy
  show alikeAll (pyds xs) (pyds ys) = true
  clear hx hy
  induction xs generalizing ys with
  | nil => cases ys <;> rfl
  | cons x xs ih =>
    cases ys with
    | nil => rfl
    | cons y ys =>
      rw [List.all_cons, Bool.and_eq_true] at h1 h2
      show (alike (pyd x) (pyd y) && alikeAll (pyds xs) (pyds ys)) = true
      rw [ih ys h1.2 h2.2]
      cases x <;> first | (cases h1.1; done) | skip
      cases y <;> first | (cases h2.1; done) | rfl
theorem ltb_data : ∀ (d : Nat) (x y : PV), okL d x = true → okL d y = true → alike (pyd x) (pyd y) = true → ltb d x y = dataLt (pyd x) (pyd y)
  | 0, x, _, h, _, _ => by unfold okL at h; cases h
  | d + 1, x, y, hx, hy, ha => by
    rcases okL_succ hx with ⟨i, rfl⟩ | ⟨xs, rfl, h1⟩ <;> rcases okL_succ hy with ⟨j, rfl⟩ | ⟨ys, rfl, h2⟩
    · exact (PySem.W.dataLt_int i j).symm
    · cases ha
    · cases ha
    · show ltbs (ltb d) (eqb [] d) xs ys = dataLt (.tuple (pyds xs)) (.tuple (pyds ys))
      rw [PySem.W.dataLt_tuple]
      have ha : alikeAll (pyds xs) (pyds ys) = true := ha
      clear hx hy
      induction xs generalizing ys with
      | nil => cases ys <;> rfl
      | cons x xs ih =>
        cases ys with
        | nil => rfl
        | cons y ys =>
          rw [List.all_cons, Bool.and_eq_true] at h1 h2
          have ha : (alike (pyd x) (pyd y) && alikeAll (pyds xs) (pyds ys)) = true := ha
          rw [Bool.and_eq_true] at ha
          show (if eqb [] d x y = true then ltbs (ltb d) (eqb [] d) xs ys else ltb d x y) = PyProof.Rows.lexLt itemOrd (PySem.W.keyToksAll (pyd x :: pyds xs)) (PySem.W.keyToksAll (pyd y :: pyds ys))
          rw [PySem.W.dataLt_cons ha.1, ← eqb_eqv d x y h1.1 h2.1, ih h1.2 ys h2.2 ha.2 ha.2, ltb_data d x y h1.1 h2.1 ha.1]
theorem okLs_of {xs : List PV} (h : okLs xs = true) : (∀ x ∈ xs, okL depthB x = true) ∧ (∀ x ∈ xs, ∀ y ∈ xs, alike (pyd x) (pyd y) = true) ∧ ∀ x ∈ xs, fullT x = true := by
  unfold okLs at h
  rw [Bool.and_eq_true, Bool.and_eq_true, Bool.or_eq_true] at h
  obtain ⟨⟨h1, h2⟩, h3⟩ := h
  refine ⟨List.all_eq_true.mp h1, fun x hx y hy => ?_, List.all_eq_true.mp h3⟩
  rcases h2 with h2 | h2
  · exact flat_alike (List.all_eq_true.mp h2 x hx) (List.all_eq_true.mp h2 y hy)
  · exact alkb_alike _ _ _ (List.all_eq_true.mp (List.all_eq_true.mp h2 x hx) y hy)
theorem sortB_merge {xs : List PV} (h : okLs xs = true) : sortB xs = xs.mergeSort (dataLe false pyd) := by
  obtain ⟨h1, h2, _⟩ := okLs_of h
  rw [sortB_eq, sortG_congr (lt' := fun x y => dataLt (pyd x) (pyd y)) fun x hx y hy => ltb_data _ _ _ (h1 x hx) (h1 y hy) (h2 x hx y hy)]
  refine sortG_eq (le := dataLe false pyd) (PySem.W.sortLe_total _ _ _) (fun x y => ?_) xs
  rw [PySem.W.dataLe_eq]
  show dataLt (pyd x) (pyd y) = !(!dataLt (pyd x) (pyd y))
  rw [Bool.not_not]

section
variable {P : Program} {w : World} {fa ρ : Nat → Addr} {L : Nat} {H : L2.Hp} {h : Heap}
mutual
theorem rv_reads (ok : HOk P w H h) : ∀ (x : PV) (v : V) (u : Value) (d : Nat), RV fa ρ L H x v → L2.RelV v u → okL d x = true → ∃ as, Reads h u (pyd x) as
  | .int i, v, u, d, r, rx, _ => by
    cases r
    obtain ⟨t, rfl⟩ := rx
    exact ⟨[], .int i t⟩
  | .tup xs, v, u, d, r, rx, hd => by
    cases d with
    | zero => unfold okL at hd; cases hd
    | succ d =>
      have hd : xs.all (okL d) = true := hd
      cases r with
      | tup ha _ q =>
        cases rx
        obtain ⟨ho, hz2, its2, r2, ot, hot, hoc, n2, hod⟩ := (show ObjOk P w H h _ (.frz _ (.tup _)) from ok _ _ ha)
        obtain ⟨as, r3⟩ := rvs_reads ok xs _ its2 d q r2 hd
        exact ⟨as, .tuple hot hoc hod r3⟩
  | .non, _, _, d, _, _, h => by cases d <;> (unfold okL at h; cases h)
  | .bl _, _, _, d, _, _, h => by cases d <;> (unfold okL at h; cases h)
  | .str _, _, _, d, _, _, h => by cases d <;> (unfold okL at h; cases h)
  | .rng _ _, _, _, d, _, _, h => by cases d <;> (unfold okL at h; cases h)
  | .loc _, _, _, d, _, _, h => by cases d <;> (unfold okL at h; cases h)
  | .fn _, _, _, d, _, _, h => by cases d <;> (unfold okL at h; cases h)
  | .exn _, _, _, d, _, _, h => by cases d <;> (unfold okL at h; cases h)
theorem rvs_reads (ok : HOk P w H h) : ∀ (xs : List PV) (vs : List V) (us : List Value) (d : Nat), RVs fa ρ L H xs vs → L2.Vals vs us → xs.all (okL d) = true → ∃ as, ReadsAll h us (pyds xs) as
  | [], vs, us, d, r, rx, _ => by cases r; cases rx; exact ⟨[], .nil⟩
  | x :: xs, vs, us, d, r, rx, hd => by
    rw [List.all_cons, Bool.and_eq_true] at hd
    cases r with
    | cons r1 r2 =>
      cases rx with
      | cons x1 x2 =>
        obtain ⟨as, q1⟩ := rv_reads ok x _ _ d r1 x1 hd.1
        obtain ⟨bs, q2⟩ := rvs_reads ok xs _ _ d r2 x2 hd.2
        exact ⟨as ++ bs, .cons q1 q2⟩
end
theorem okL_depth : ∀ (d : Nat) (x : PV), okL d x = true → (pyd x).depth ≤ d
  | 0, x, h => by unfold okL at h; cases h
  | d + 1, x, h => by
    rcases okL_succ h with ⟨i, rfl⟩ | ⟨xs, rfl, h1⟩
    · exact Nat.zero_le _
    · have go : PyData.depthAll (pyds xs) ≤ d := by
        clear h
        induction xs with
        | nil => exact Nat.zero_le _
        | cons x xs ih =>
          rw [List.all_cons, Bool.and_eq_true] at h1
          have a := okL_depth d x h1.1
          have b := ih h1.2
          show PyData.depthAll (pyd x :: pyds xs) ≤ d
          rw [PyData.depthAll]
          exact Nat.max_le.mpr ⟨a, b⟩
      show PyData.depth (.tuple (pyds xs)) ≤ d + 1
      rw [PyData.depth]
      omega
end
end Dp
set_option Elab.async false
set_option linter.all false
set_option maxRecDepth 100000
set_option maxHeartbeats 4000000
/-! DpU: sets of whole numbers made of a list. -/
namespace Dp
open PySem PySem.Spec PySem.W PySem.Calls PyProof.Rows L2
/-- a set, as it is made -/
abbrev freshSet (w : World) : Obj := { cls := .type "set", dict := none, data := .set #[] 0 (.fresh 0 0 (!w.params.followText "set-order")) }
section
variable {P : Program} {w : World} {A : Around} {E : Value → Shared → Prop} {s : Shared}
/-- set.__init__ of a new set over a list of whole numbers -/
theorem init_lst {l : Addr} {items : Array Value} (ns : List Int) {R : Result → Shared → Prop} (hh : A.handled = none) (hl : s.heap.IsList l items) (hi : IntsAre items.toList ns) (hb : ns.length + 1 < scanBound)
    (h : ∀ (h' : Heap) (tk c : Nat), SetR w h' s.heap.objs.size (fun j => decide (j ∈ ns)) c → c ≤ ns.length → (∀ b o, s.heap.get? b = some o → h'.get? b = some o) → R (.ok (.ret .none)) { s with heap := h', toks := tk }) :
    wpAny (model P w) A.in1.in1 (Builtin.«set.__init__» ⟨[.ref s.heap.objs.size, .ref l], []⟩)
      (fun fin s' => match fin with | .done f => R (.ok f) s' | .again c' => c'.quiet = true ∧ codeAny (model P w) A.in1 c' R s') (fun e s' => R (.error e) s') { s with heap := s.heap.push (freshSet w) } := by
  have len : items.size = ns.length := by rw [← Array.length_toList]; exact IntsAre.length hi
  generalize hN : s.heap.objs.size = N at h ⊢
  have made : (s.heap.push (freshSet w)).get? N = some (freshSet w) := by rw [← hN]; exact Heap.get?_push_size _ rfl
  have sz : (s.heap.push (freshSet w)).objs.size = N + 1 := by rw [Heap.size_push, hN]
  obtain ⟨⟨c0, d0, x0, t0⟩, hol, hcl, nl, hdl⟩ := hl
  dsimp only at hcl hdl
  subst hcl hdl
  have ol : (s.heap.push (freshSet w)).get? l = some ⟨.type "list", d0, .seq items nl, t0⟩ := Heap.get?_push_of_some _ hol
  have lN : l < N := by rw [← hN]; exact Heap.lt_size hol
  have il : (s.heap.push (freshSet w)).IsList l items := ⟨_, ol, rfl, nl, rfl⟩
  have a1 := F.sub_list_set
  have a2 := F.sub_list_frozenset
  have a3 : (Value.type "list" == Value.type "dict") = false := by decide
  unfold Builtin.«set.__init__» noKeywords Builtin.Frozenset.updateFrom
  generalize hI : pyIter = it
  wp_walk
  subst hI
  refine wpAny_pyIter_list il (wpAny_bind (wpAny_runValue ?_))
  rw [sz]
  have ne1 : N ∉ [N + 1, l] := fun q => by
    rcases List.mem_cons.mp q with q | q
    · exact absurd q (Nat.ne_of_lt (Nat.lt_succ_self N))
    · exact absurd (List.mem_singleton.mp q) (Nat.ne_of_gt lN)
  have ne2 : l ≠ N + 1 := Nat.ne_of_lt (Nat.lt_succ_of_lt lN)
  have iv : ∀ (i : Nat) (v : Value), items[i]? = some v → ∃ k t, ns[i]? = some k ∧ v = .int k t := fun i v hv => by
    have hlt : i < ns.length := by rw [← len]; exact (Array.getElem?_eq_some_iff.mp hv).1
    obtain ⟨t, e⟩ := IntsAre.int_at hi i v (by rw [Array.getElem?_toList]; exact hv)
    exact ⟨ns[i], t, List.getElem?_eq_getElem hlt, by rw [e, List.getD_eq_getElem?_getD, List.getElem?_eq_getElem hlt] <;> rfl⟩
  have W := Walks.list (prog := P) (w := w) (A := A.in1.in1.in1) (by simp [hh]) (N + 1) l ne2 items
  refine set_update_ints W.toS N ne1 ns len hb iv (items.size - 0) 0 _ (by omega) (Nat.zero_le _) ⟨⟨_, by rw [← sz]; exact Heap.get?_push_size _ rfl, rfl, rfl⟩, il.push _⟩ ⟨0, Nat.le_refl 0, setR_new_at (Heap.get?_push_of_some _ made)⟩ fun s' c hm hc hS => ?_
  obtain ⟨h', g2, d', tk', os'⟩ := s'
  have e1 : g2 = s.gens := hm.gens
  have e2 : d' = s.drawn := hm.drawn
  have e3 : os' = s.os := hm.os
  subst e1 e2 e3
  refine (show wpAny _ _ _ _ _ _ from wpAny_pure ?_)
  refine (show wpAny _ _ (ret Value.none) _ _ _ from wpAny_pure ?_)
  refine h h' tk' c hS (by rw [← len]; exact hc) fun b o e => ?_
  have bl : b < N := by rw [← hN]; exact Heap.lt_size e
  refine hm.heap b o (fun q => ?_) (Heap.get?_push_of_some _ (Heap.get?_push_of_some _ e))
  rcases List.mem_cons.mp q with q | q
  · exact absurd q (Nat.ne_of_lt bl)
  · exact absurd (List.mem_singleton.mp q) (Nat.ne_of_lt (Nat.lt_succ_of_lt bl))
/-- set(l), l a list of whole numbers -/
theorem set_lst {l : Addr} {items : Array Value} (ns : List Int) {Q : Value → Shared → Prop} (hh : A.handled = none) (hl : s.heap.IsList l items) (hi : IntsAre items.toList ns) (hb : ns.length + 1 < scanBound)
    (h : ∀ (h' : Heap) (tk c : Nat), SetR w h' s.heap.objs.size (fun j => decide (j ∈ ns)) c → c ≤ ns.length → (∀ b o, s.heap.get? b = some o → h'.get? b = some o) → Q (.ref s.heap.objs.size) { s with heap := h', toks := tk }) :
    wpAny (model P w) A (call (.type "set") [.ref l]) Q E s := by
  obtain ⟨m1, m2, m3⟩ := F.called_set.mro
  have m4 := F.called_set.made
  have m5 := F.called_set.sub
  have m6 := F.called_set.notType
  have m7 := F.called_set.canCreate
  have m8 := F.typeCall_set_1 (.ref l)
  refine wpAny_call (codeAny_of_tree (show wpAny _ _ (callAny (.type "set") _) _ _ _ from wpAny_pure ⟨Code.quiet_builtin _ (by decide +kernel), codeAny_builtin F.entry_type_call ?_⟩))
  rw [Around.under_plain (weight_type_call_type "set" [.ref l] []) rfl]
  repeat (any_goals (first | assumption | wp_step))
  refine codeAny_mono (code_set_led1 (.ref l) (E := E) (Q₁ := fun obj s₁ => obj = .ref s.heap.objs.size ∧ s₁ = { s with heap := s.heap.push (freshSet w) }) ⟨rfl, rfl⟩) fun r s₁ hr => ?_
  cases r with
  | error e => exact hr
  | ok fl =>
    cases fl <;> first | exact hr.elim | skip
    obtain ⟨rfl, rfl⟩ := hr
    have made : (s.heap.push (freshSet w)).get? s.heap.objs.size = some (freshSet w) := Heap.get?_push_size _ rfl
    have tT : Shared.TypeIs { s with heap := s.heap.push (freshSet w) } (.ref s.heap.objs.size) "set" := ⟨_, made, rfl⟩
    have i1 := F.called_set.init.lookup
    have i2 := F.called_set.init.bind (.ref s.heap.objs.size)
    repeat (any_goals (first | assumption | wp_step))
    refine codeAny_mono (codeAny_call_builtin (R := wants (fun r s₂ => r = .none ∧ ∃ h' tk c, s₂ = { s with heap := h', toks := tk } ∧ SetR w h' s.heap.objs.size (fun j => decide (j ∈ ns)) c ∧ c ≤ ns.length ∧ ∀ b o, s.heap.get? b = some o → h'.get? b = some o) E)
      F.called_set.init.plain F.entry_set_init (check_set_init_1 tT (init_lst ns hh hl hi hb fun h' tk c q1 q2 q3 => ⟨rfl, h', tk, c, rfl, q1, q2, q3⟩))) fun r₂ s₂ hr₂ => ?_
    cases r₂ with
    | error e => exact hr₂
    | ok fl₂ =>
      cases fl₂ <;> first | exact hr₂.elim | skip
      obtain ⟨rfl, h', tk, c, rfl, q1, q2, q3⟩ := hr₂
      repeat (any_goals (first | assumption | wp_step))
      exact h _ _ _ q1 q2 q3
end
end Dp
set_option Elab.async false
set_option linter.all false
set_option maxRecDepth 100000
/-! DpM: min of a list of tuples. -/
namespace Dp
open PySem PySem.Spec PyProof.Rows L2

/-- all that stood stands -/
abbrev Grows (a b : Heap) : Prop := ∀ c o, a.get? c = some o → b.get? c = some o
section
variable {prog : Program} {w : World} {A : Around} {R : Result → Shared → Prop} {I : Addr} {fp wr : List Addr} {n : Nat} {P : Nat → Value → Prop} {St : Nat → Heap → Prop}
/-- < of any two of the items, wherever the first heap's objects stand -/
def LtIn (prog : Program) (w : World) (A : Around) (h0 : Heap) (P : Nat → Value → Prop) (bt : Nat → Nat → Bool) : Prop :=
  ∀ i j vi vj (s : Shared) (Q : Value → Shared → Prop) (E : Value → Shared → Prop), Grows h0 s.heap → P i vi → P j vj → Q (.bool (bt i j)) s → wpAny (model prog w) A (richCompare .Lt vi vj) Q E s
theorem minLoop (W : Walks prog w A.in1 I fp wr n P St) {bt : Nat → Nat → Bool} {h0 : Heap} (C : LtIn prog w A.in1 h0 P bt) {S : Addr} (d1 : S ∉ fp) (d2 : h0.get? S = none) (d3 : ∀ b ∈ wr, h0.get? b = none) : ∀ (k j : Nat) (s : Shared) (vb : Value) (c : Nat), n - (j + 1) = k → j + 1 ≤ n →
    St (j + 1) s.heap → Grows h0 s.heap → P (argBest bt j) vb → s.heap.get? S = some { cls := .type "list", dict := none, data := .seq #[vb, vb] c, slots := #[] } →
    (∀ v h' tk, P (argBest bt (n - 1)) v → (∀ b o, b ∉ wr → b ≠ S → s.heap.get? b = some o → h'.get? b = some o) → R (.ok (.ret v)) { s with heap := h', toks := tk }) →
    codeAny (model prog w) A (.builtin "min.loop" ⟨[.ref I, .none, .ref S], []⟩) R s := by
  have d4 : S ∉ wr := fun h => d1 (W.sub _ h)
  have nm : (toString "min" ++ toString ".loop" : String) = "min.loop" := by decide
  have un : ∀ {s : Shared} {Q : PySem.Fin → Shared → Prop} {E : Value → Shared → Prop} {vb : Value} {c : Nat} (f : Option (Array Value) → Sem PySem.Fin), s.heap.get? S = some { cls := .type "list", dict := none, data := .seq #[vb, vb] c, slots := #[] } →
      wpAny (model prog w) A.in1 (f (some #[vb, vb])) Q E s → wpAny (model prog w) A.in1 (seqItems? (.ref S) >>= f) Q E s := fun f hS h => wpAny_bind (wpAny_seqItems hS rfl h)
  have grow : ∀ {a b : Heap}, Grows h0 a → (∀ c o, c ∉ wr → a.get? c = some o → b.get? c = some o) → Grows h0 b := fun ga k c o e => k c o (fun hm => by rw [d3 c hm] at e; cases e) (ga c o e)
  intro k
  induction k with
  | zero =>
    intro j s vb c hk hj st gr hp hS hR
    have en : j + 1 = n := by omega
    refine codeAny_builtin F.entry_min_loop ?_
    rw [Around.under_plainId F.plain_min_loop _]
    refine un _ hS ?_
    show wpAny (model prog w) A.in1 (tryCatch (pyNext (.ref I)) _ >>= _) _ _ s
    refine wpAny_bind (wpAny_tryCatch (W.done s _ _ (en ▸ st) fun h' tk kp => ?_))
    have hS2 := kp S _ d4 hS
    show wpAny (model prog w) A.in1 (updateSeq S (fun _ => #[]) >>= _) _ _ _
    refine wpAny_bind (wpAny_updateSeq hS2 rfl (wpAny_bind (wpAny_letGo (wpAny_pure ?_))))
    exact hR vb _ tk (by rw [← en]; exact hp) fun b o b1 b2 e => (Heap.get?_update_other _ _ (Ne.symm b2)).trans (kp b o b1 e)
  | succ k ih =>
    intro j s vb c hk hj st gr hp hS hR
    have lt : j + 1 < n := by omega
    refine codeAny_builtin F.entry_min_loop ?_
    rw [Around.under_plainId F.plain_min_loop _]
    refine un _ hS ?_
    show wpAny (model prog w) A.in1 (tryCatch (pyNext (.ref I)) _ >>= _) _ _ s
    refine wpAny_bind (wpAny_tryCatch (W.item (j + 1) s _ _ lt st fun v h' tk hv st2 kp => ?_))
    have hS2 := kp S _ d4 hS
    have gr2 : Grows h0 h' := grow gr kp
    show wpAny (model prog w) A.in1 (tryCatch (holding [v, v] (richCompare .Lt v vb >>= _)) _ >>= _) _ _ _
    refine wpAny_bind (wpAny_tryCatch (wpAny_holding (wpAny_bind (C (j + 1) (argBest bt j) v vb _ _ _ gr2 hv hp ?_))))
    refine wpAny_bind (wpAny_holding (wpAny_truthy_bool (wpAny_bind (wpAny_letGo (wpAny_pure ?_)))))
    have bs : argBest bt (j + 1) = if bt (j + 1) (argBest bt j) = true then j + 1 else argBest bt j := rfl
    cases hb : bt (j + 1) (argBest bt j) with
    | true =>
      rw [hb, if_pos rfl] at bs
      simp only [if_true]
      refine wpAny_bind (wpAny_updateSeq hS2 rfl (wpAny_bind (wpAny_letGo ?_)))
      rw [nm]
      have up : ∀ b o, b ≠ S → h'.get? b = some o → (h'.update S (Obj.mapSeq fun _ => #[v, v])).get? b = some o := fun b o b2 e => (Heap.get?_update_other _ _ (Ne.symm b2)).trans e
      refine wpAny_pure ⟨plainId_quiet F.plain_min_loop _, ih (j + 1) _ v _ (by omega) lt (W.frame _ _ _ st2 fun b hbf o e => up b o (fun z => d1 (by rw [← z]; exact hbf)) e) (fun b o e => up b o (fun z => by rw [z, d2] at e; cases e) (gr2 b o e)) (by rw [bs]; exact hv) (Heap.get?_update_self _ hS2 rfl) fun v2 h2 tk2 q1 q2 => ?_⟩
      exact hR v2 h2 tk2 q1 fun b o b1 b2 e => q2 b o b1 b2 (up b o b2 (kp b o b1 e))
    | false =>
      rw [hb, if_neg Bool.false_ne_true] at bs
      simp only [Bool.false_eq_true, if_false]
      refine wpAny_bind (wpAny_letGo ?_)
      rw [nm]
      refine wpAny_pure ⟨plainId_quiet F.plain_min_loop _, ih (j + 1) _ vb c (by omega) lt st2 gr2 (by rw [bs]; exact hp) hS2 fun v2 h2 tk2 q1 q2 => ?_⟩
      exact hR v2 h2 tk2 q1 fun b o b1 b2 e => q2 b o b1 b2 (kp b o b1 e)
theorem minFirst (W : Walks prog w A.in1 I fp wr n P St) {bt : Nat → Nat → Bool} {h0 : Heap} (C : LtIn prog w A.in1 h0 P bt) {S : Addr} (d1 : S ∉ fp) (d2 : h0.get? S = none) (d3 : ∀ b ∈ wr, h0.get? b = none) (hn : 0 < n) {s : Shared} {c : Nat} (st : St 0 s.heap) (gr : Grows h0 s.heap)
    (hS : s.heap.get? S = some { cls := .type "list", dict := none, data := .seq #[] c, slots := #[] })
    (hR : ∀ v h' tk, P (argBest bt (n - 1)) v → (∀ b o, b ∉ wr → b ≠ S → s.heap.get? b = some o → h'.get? b = some o) → R (.ok (.ret v)) { s with heap := h', toks := tk }) :
    codeAny (model prog w) A (.builtin "min.loop" ⟨[.ref I, .none, .ref S], []⟩) R s := by
  have d4 : S ∉ wr := fun h => d1 (W.sub _ h)
  refine codeAny_builtin F.entry_min_loop ?_
  rw [Around.under_plainId F.plain_min_loop _]
  show wpAny (model prog w) A.in1 (seqItems? (.ref S) >>= _) _ _ s
  refine wpAny_bind (wpAny_seqItems hS rfl ?_)
  show wpAny (model prog w) A.in1 (tryCatch (pyNext (.ref I)) _ >>= _) _ _ s
  refine wpAny_bind (wpAny_tryCatch (W.item 0 s _ _ hn st fun v h' tk hv st2 kp => ?_))
  have hS2 := kp S _ d4 hS
  show wpAny (model prog w) A.in1 (updateSeq S (fun _ => #[v, v]) >>= _) _ _ _
  refine wpAny_bind (wpAny_updateSeq hS2 rfl ?_)
  rw [show (toString "min" ++ toString ".loop" : String) = "min.loop" by decide]
  have up : ∀ b o, b ≠ S → h'.get? b = some o → (h'.update S (Obj.mapSeq fun _ => #[v, v])).get? b = some o := fun b o b2 e => (Heap.get?_update_other _ _ (Ne.symm b2)).trans e
  have gr2 : Grows h0 h' := fun b o e => kp b o (fun hm => by rw [d3 b hm] at e; cases e) (gr b o e)
  refine wpAny_pure ⟨plainId_quiet F.plain_min_loop _, minLoop W C d1 d2 d3 _ 0 _ v _ rfl hn (W.frame _ _ _ st2 fun b hbf o e => up b o (fun z => d1 (by rw [← z]; exact hbf)) e) (fun b o e => up b o (fun z => by rw [z, d2] at e; cases e) (gr2 b o e)) hv (Heap.get?_update_self _ hS2 rfl) fun v2 h2 tk2 q1 q2 => ?_⟩
  exact hR v2 h2 tk2 q1 fun b o b1 b2 e => q2 b o b1 b2 (up b o b2 (kp b o b1 e))
end
section
variable {prog : Program} {w : World} {A : Around} {E : Value → Shared → Prop} {s : Shared}
theorem minList {l : Addr} {items : Array Value} {bt : Nat → Nat → Bool} {Q : Value → Shared → Prop} (hh : A.handled = none) (hl : s.heap.IsList l items) (hn : 0 < items.size) (C : LtIn prog w A.in1 s.heap (fun i v => items[i]? = some v) bt)
    (h : ∀ v h' tk, items[argBest bt (items.size - 1)]? = some v → Grows s.heap h' → Q v { s with heap := h', toks := tk }) : wpAny (model prog w) A (call (.builtin "min") [.ref l]) Q E s := by
  refine call_function_tree F.kind_min F.plain_min F.entry_min (F.args_min1 _) ?_
  show wpAny (model prog w) A.in1 (Builtin.Builtins.bindParams "min" ["key", "default"] 0 ⟨[], []⟩ >>= _) _ _ s
  have bp : Builtin.Builtins.bindParams "min" ["key", "default"] 0 ⟨[], []⟩ = pure [none, none] := rfl
  refine wpAny_bind (wpAny_of_eq bp (wpAny_bind (wpAny_pure ?_)))
  have hl' : l < s.heap.objs.size := let ⟨_, ho, _⟩ := hl; Heap.lt_size ho
  refine wpAny_bind (wpAny_pyIter_list hl (wpAny_bind (wpAny_newObj_type ?_)))
  rw [show (toString "min" ++ toString ".loop" : String) = "min.loop" by decide]
  have nb : ∀ b, s.heap.objs.size ≤ b → s.heap.get? b = none := fun b hb => by
    cases e : s.heap.get? b with
    | none => rfl
    | some o => exact absurd (Heap.lt_size e) (Nat.not_lt.mpr hb)
  have W := Walks.list (prog := prog) (w := w) (A := A.in1) hh s.heap.objs.size l (Nat.ne_of_lt hl') items
  have ge : s.heap.objs.size < (s.heap.push { cls := .type "list_iterator", data := .fields #[.ref l, .int 0 0] }).objs.size := by rw [Heap.size_push]; exact Nat.lt_succ_self _
  have key := minFirst (R := fun r s' => match r with
    | .ok (.ret v) => Q v s'
    | .ok _ => False
    | .error e => E e s') W C (S := (s.heap.push { cls := .type "list_iterator", data := .fields #[.ref l, .int 0 0] }).objs.size) (fun q => by
      rcases List.mem_cons.mp q with q | q
      · exact absurd q (Nat.ne_of_gt ge)
      · exact absurd (List.mem_singleton.mp q) (Nat.ne_of_gt (Nat.lt_trans hl' ge))) (nb _ (Nat.le_of_lt ge)) (fun b hb => by rw [List.mem_singleton.mp hb]; exact nb _ (Nat.le_refl _)) hn
    (s := { s with heap := (s.heap.push { cls := .type "list_iterator", data := .fields #[.ref l, .int 0 0] }).push { cls := .type "list", data := .seq #[] } })
    ⟨⟨_, Heap.get?_push_of_some _ (Heap.get?_push_size _ rfl), rfl, rfl⟩, (hl.push _).push _⟩ (fun b o e => Heap.get?_push_of_some _ (Heap.get?_push_of_some _ e)) (Heap.get?_push_size _ rfl) fun v h' tk q1 q2 => h v h' tk q1 fun b o e => q2 b o (fun z => by
      rw [List.mem_singleton.mp z, nb _ (Nat.le_refl _)] at e; cases e) (fun z => by
      rw [z, nb _ (Nat.le_of_lt ge)] at e; cases e) (Heap.get?_push_of_some _ (Heap.get?_push_of_some _ e))
  exact wpAny_pure ⟨plainId_quiet F.plain_min_loop _, key⟩
end
end Dp
set_option Elab.async false
set_option linter.all false
set_option maxRecDepth 100000
/-! DpS: max, min, sorted, isinstance. -/
namespace Dp
open PySem PySem.Spec PyProof.Rows L2

section
variable {prog : Program} {w : World} {A : Around} {E : Value → Shared → Prop} {s : Shared} {κ : PyProof.Rows.KeyKind}
/-- a list or a tuple -/
def IsSeq (h : Heap) (l : Addr) (vs : List Value) : Prop := ∃ o n, h.get? l = some o ∧ (o.cls = .type "list" ∨ o.cls = .type "tuple") ∧ o.data = .seq vs.toArray n
theorem collect_seq {l : Addr} {vs : List Value} {Q : List Value → Shared → Prop} (hl : IsSeq s.heap l vs)
    (h : Q vs { s with heap := (s.heap.push (seqObj "list" #[] 0)).update s.heap.objs.size (Obj.mapSeq (· ++ vs.toArray)) }) (hsz : vs.length ≤ sizeLine) :
    wpAny (model prog w) A (collect (.ref l)) Q E s := by
  obtain ⟨o, n, ho, hc, hd⟩ := hl
  unfold collect
  refine wpAny_bind (wpAny_runValue (codeAny_builtin entry_proto_collect' ?_))
  show wpAny _ _ (do again (.builtin "list.__iadd__" ⟨[← newList [], .ref l], []⟩)) _ _ s
  refine wpAny_bind (wpAny_newList (wpAny_pure ⟨Code.quiet_builtin _ (by decide +kernel), codeAny_builtin entry_list_iadd' ?_⟩))
  show wpAny _ _ (Builtin.List.listExtendWith (.ref s.heap.objs.size) (.ref l) (.ref s.heap.objs.size)) _ _ { s with heap := s.heap.push (seqObj "list" #[] 0) }
  unfold Builtin.List.listExtendWith
  have ho' : (s.heap.push (seqObj "list" #[] 0)).get? l = some o := Heap.get?_push_of_some _ ho
  rcases hc with hc | hc
  · refine wpAny_bind (wpAny_typeOf (T := "list") ⟨o, ho', hc⟩ ?_)
    rw [if_pos (by rw [show (Value.type "list" == Value.type "list") = true from rfl]; simp)]
    refine wpAny_bind (listItems_at ho' hd ?_)
    refine wpAny_bind (listItems_at (xs := #[]) (n := 0) (Heap.get?_push_size _ rfl) rfl ?_)
    rw [if_neg (by simp)]
    refine wpAny_bind (listUpdate_at (xs := #[]) (n := 0) (Heap.get?_push_size _ rfl) rfl ?_ (Nat.zero_le _) (by show (#[] ++ vs.toArray).size ≤ sizeLine + 1; simp only [Array.size_append, List.size_toArray, List.length_nil]; omega))
    refine wpAny_pure ?_
    show wpAny (model prog w) A (do
        let o ← load s.heap.objs.size
        match o.data with
        | .seq xs _ => pure xs.toList
        | _ => unsupported "internal:collect") Q E { s with heap := (s.heap.push (seqObj "list" #[] 0)).update s.heap.objs.size (Obj.mapSeq (· ++ vs.toArray)) }
    refine wpAny_bind (wpAny_load (get?_update_seq (Heap.get?_push_size _ rfl) _) ?_)
    show wpAny _ _ (pure ((#[] : Array Value) ++ vs.toArray).toList) Q E _
    rw [show ((#[] : Array Value) ++ vs.toArray).toList = vs by simp]
    exact wpAny_pure h
  · refine wpAny_bind (wpAny_typeOf (T := "tuple") ⟨o, ho', hc⟩ ?_)
    rw [if_pos (by rw [show (Value.type "tuple" == Value.type "tuple") = true from rfl]; simp)]
    refine wpAny_bind (listItems_at ho' hd ?_)
    refine wpAny_bind (listItems_at (xs := #[]) (n := 0) (Heap.get?_push_size _ rfl) rfl ?_)
    rw [if_neg (by simp)]
    refine wpAny_bind (listUpdate_at (xs := #[]) (n := 0) (Heap.get?_push_size _ rfl) rfl ?_ (Nat.zero_le _) (by show (#[] ++ vs.toArray).size ≤ sizeLine + 1; simp only [Array.size_append, List.size_toArray, List.length_nil]; omega))
    refine wpAny_pure ?_
    show wpAny (model prog w) A (do
        let o ← load s.heap.objs.size
        match o.data with
        | .seq xs _ => pure xs.toList
        | _ => unsupported "internal:collect") Q E { s with heap := (s.heap.push (seqObj "list" #[] 0)).update s.heap.objs.size (Obj.mapSeq (· ++ vs.toArray)) }
    refine wpAny_bind (wpAny_load (get?_update_seq (Heap.get?_push_size _ rfl) _) ?_)
    show wpAny _ _ (pure ((#[] : Array Value) ++ vs.toArray).toList) Q E _
    rw [show ((#[] : Array Value) ++ vs.toArray).toList = vs by simp]
    exact wpAny_pure h
/-- sorted(x), x a list or a tuple -/
theorem sorted_seq {l : Addr} {vs : List Value} {Q : Value → Shared → Prop} (hl : IsSeq s.heap l vs) (S : PySem.W.SortsAt prog w A.in1.in1 { s with heap := PySem.W.sortingHeap (PySem.W.copyHeap s.heap vs) (s.heap.objs.size + 1) vs } κ vs) (hL : vs.length ≤ sizeLine)
    (h : Q (.ref (s.heap.objs.size + 1)) { s with heap := sortedAll s.heap vs (PySem.W.sortVals κ false vs vs).toArray }) : wpAny (model prog w) A (call (.builtin "sorted") [.ref l]) Q E s := by
  refine call_function_entry_kw kind_sorted plain_sorted entry_sorted (args_sorted1 _) ?_
  unfold Builtin.«sorted»
  refine wpAny_bind (m := checkCount "sorted" 1 1 _) (wpAny_pure ?_)
  refine wpAny_bind (collect_seq hl ?_ hL)
  refine wpAny_bind (wpAny_newList ?_ hL)
  have hsz : ((s.heap.push (seqObj "list" #[] 0)).update s.heap.objs.size (Obj.mapSeq (· ++ vs.toArray))).objs.size = s.heap.objs.size + 1 := by
    rw [Heap.size_update, size_push']
  show wpAny _ _ _ _ _ { s with heap := PySem.W.copyHeap s.heap vs }
  rw [hsz]
  refine wpAny_bind (wpAny_holding (wpAny_call_entry_kw slot_list_sort ⟨_, PySem.W.copyHeap_at s.heap vs, rfl⟩ entry_list_sort ?body (args_list_sort _)))
  case body =>
    show wpAny (model prog w) A.in1.in1 (Builtin.«list.sort» ⟨[.ref (s.heap.objs.size + 1)], []⟩) _ _ _
    exact PySem.W.list_sort_vals (s := { s with heap := PySem.W.copyHeap s.heap vs }) (PySem.W.copyHeap_at s.heap vs) S hL ⟨_, rfl, wpAny_pure ⟨_, rfl, h⟩⟩
end

/-! ### whole numbers in order -/
theorem insI_perm (x : Int) : ∀ ys : List Int, (insI x ys).Perm (x :: ys)
  | [] => .refl _
  | y :: ys => by
    unfold insI
    split
    · exact .refl _
    · exact ((insI_perm x ys).cons y).trans (.swap x y ys)
theorem sortI_perm : ∀ xs : List Int, (sortI xs).Perm xs
  | [] => .refl _
  | x :: xs => (insI_perm x (sortI xs)).trans ((sortI_perm xs).cons x)
theorem insI_pw (x : Int) : ∀ ys : List Int, ys.Pairwise (· ≤ ·) → (insI x ys).Pairwise (· ≤ ·)
  | [], _ => by unfold insI; exact List.pairwise_singleton _ _
  | y :: ys, h => by
    obtain ⟨h1, h2⟩ := List.pairwise_cons.mp h
    unfold insI
    split
    · rename_i q
      refine List.pairwise_cons.mpr ⟨fun z hz => ?_, h⟩
      rcases List.mem_cons.mp hz with e | e
      · subst e; exact q
      · exact Int.le_trans q (h1 z e)
    · rename_i q
      refine List.pairwise_cons.mpr ⟨fun z hz => ?_, insI_pw x ys h2⟩
      rcases List.mem_cons.mp ((insI_perm x ys).mem_iff.mp hz) with e | e
      · subst e; omega
      · exact h1 z e
theorem sortI_pw : ∀ xs : List Int, (sortI xs).Pairwise (· ≤ ·)
  | [] => .nil
  | x :: xs => insI_pw x _ (sortI_pw xs)
theorem sortI_eq (xs : List Int) : sortI xs = xs.mergeSort fun x y => decide (x ≤ y) := PySem.W.os_sorted_mergeSort (sortI_perm xs) (sortI_pw xs)
section
variable {X : Cx} {fa ρ : Nat → Addr} {n0 L : Nat} {m m' : Mem} {H : L2.Hp}
theorem rvs_of_ints : ∀ ns : List Int, RVs fa ρ L H (ns.map .int) (ns.map V.int)
  | [] => .nil
  | n :: ns => .cons (.int n) (rvs_of_ints ns)
theorem vals_each : ∀ {ns : List Int} {us : List Value}, L2.Vals (ns.map V.int) us → PySem.W.EachIs (fun v n => ∃ t, v = Value.int n t) us ns
  | [], _, h => by cases h; exact .nil
  | n :: ns, _, h => by
    rw [List.map_cons] at h
    cases h with
    | cons a b => exact .cons a (vals_each b)
theorem each_vals : ∀ {ns : List Int} {us : List Value}, PySem.W.EachIs (fun v n => ∃ t, v = Value.int n t) us ns → L2.Vals (ns.map V.int) us
  | [], _, h => by cases h; exact .nil
  | n :: ns, _, h => by
    cases h with
    | cons a b => exact .cons a (each_vals b)
theorem each_reads {h : Heap} : ∀ {ns : List Int} {us : List Value}, PySem.W.EachIs (fun v n => ∃ t, v = Value.int n t) us ns → PySem.W.EachIs (fun v (d : PyData) => ∃ as, Reads h v d as) us (ns.map PyData.int)
  | [], _, h => by cases h; exact .nil
  | n :: ns, _, h => by
    cases h with
    | cons a b =>
      obtain ⟨t, rfl⟩ := a
      exact .cons ⟨[], .int _ t⟩ (each_reads b)
theorem each_reads' {h : Heap} : ∀ {ns : List Int} {us : List Value}, PySem.W.EachIs (fun v n => ∃ t, v = Value.int n t) us ns → PySem.W.EachIs (fun v (d : Int) => ∃ as, Reads h v (.int d) as) us ns
  | [], _, h => by cases h; exact .nil
  | n :: ns, _, h => by
    cases h with
    | cons a b =>
      obtain ⟨t, rfl⟩ := a
      exact .cons ⟨[], .int _ t⟩ (each_reads' b)
theorem allInt_map : ∀ {xs : List PV} {ns : List Int}, allInt xs = some ns → xs = ns.map .int
  | [], ns, e => by cases e; rfl
  | x :: xs, ns, e => by
    cases x <;> first | (cases e; done) | skip
    obtain ⟨r, e1, rfl⟩ := Option.map_eq_some_iff.mp e
    rw [allInt_map e1]; rfl
/-- what is put in order -/
theorem sortO_facts {xs ys : List PV} (h : sortO xs = some ys) : PySem.W.AllAlike (xs.map pyd) ∧ PySem.W.Sortable (xs.map pyd) ∧ (∀ x ∈ xs, okL depthB x = true) ∧ ys = xs.mergeSort (PySem.W.dataLe false pyd) := by
  unfold sortO at h
  split at h
  · rename_i ns en
    cases h
    have ex := allInt_map en
    subst ex
    have em : (ns.map PV.int).map pyd = ns.map PyData.int := by rw [List.map_map]; rfl
    rw [em]
    refine ⟨.of (enc := PyData.int) fun _ _ => by first | rfl | simp [PySem.W.alike], .others (enc := PyData.int) (by intro b; exact ⟨(by intro z; cases z), (by intro xs z; cases z)⟩), fun x hx => ?_, ?_⟩
    · obtain ⟨n, _, rfl⟩ := List.mem_map.mp hx
      rfl
    · rw [sortI_eq, PySem.W.sort_maps (s := PySem.W.dataLe false pyd) PV.int]
      intro a _ b _
      have := congrFun (congrFun (PySem.W.dataLe_int (k := fun b : Int => b)) a) b
      exact this.symm
  · split at h
    · rename_i hk
      cases h
      obtain ⟨h1, h2, h3⟩ := okLs_of hk
      refine ⟨fun d hd d' hd' => ?_, .inl fun d hd => ?_, h1, sortB_merge hk⟩
      · obtain ⟨x, hx, rfl⟩ := List.mem_map.mp hd
        obtain ⟨y, hy, rfl⟩ := List.mem_map.mp hd'
        exact h2 x hx y hy
      · obtain ⟨x, hx, rfl⟩ := List.mem_map.mp hd
        have q := h3 x hx
        cases x <;> first | (cases q; done) | skip
        rename_i zs
        cases zs <;> first | (cases q; done) | exact ⟨_, _, rfl⟩
    · cases h
theorem each_pairs {s : Shared} : ∀ {xs : List PV} {vs : List V} {its : List Value}, RVs fa ρ L H xs vs → L2.Vals vs its → PySem.W.EachIs (fun u (p : PV × V) => L2.RelV p.2 u ∧ RV fa ρ L H p.1 p.2) its (xs.zip vs)
  | [], _, _, r, rx => by cases r; cases rx; exact .nil
  | x :: xs, _, _, r, rx => by
    cases r with
    | cons r1 r2 =>
      cases rx with
      | cons x1 x2 => exact .cons ⟨x1, r1⟩ (each_pairs (s := s) r2 x2)
theorem pairs_each : ∀ {bs : List (PV × V)} {out : List Value}, PySem.W.EachIs (fun u (p : PV × V) => L2.RelV p.2 u ∧ RV fa ρ L H p.1 p.2) out bs → RVs fa ρ L H (bs.map (·.1)) (bs.map (·.2)) ∧ L2.Vals (bs.map (·.2)) out
  | [], _, h => by cases h; exact ⟨.nil, .nil⟩
  | b :: bs, _, h => by
    cases h with
    | cons a t =>
      obtain ⟨q1, q2⟩ := pairs_each t
      exact ⟨.cons a.2 q1, .cons a.1 q2⟩
theorem each_readsP {P : Program} {w : World} {h h2 : Heap} (ok : HOk P w H h) (k : ∀ b o, h.get? b = some o → h2.get? b = some o) : ∀ {xs : List PV} {vs : List V} {its : List Value}, RVs fa ρ L H xs vs → L2.Vals vs its → (∀ x ∈ xs, okL depthB x = true) → PySem.W.EachIs (fun v (p : PV × V) => ∃ as, Reads h2 v (pyd p.1) as) its (xs.zip vs)
  | [], _, _, r, rx, _ => by cases r; cases rx; exact .nil
  | x :: xs, _, _, r, rx, hd => by
    cases r with
    | cons r1 r2 =>
      cases rx with
      | cons x1 x2 =>
        obtain ⟨as, q⟩ := rv_reads ok x _ _ depthB r1 x1 (hd x List.mem_cons_self)
        exact .cons ⟨as, PyProof.Rows.Reads.keeps k q⟩ (each_readsP ok k r2 x2 fun y hy => hd y (List.mem_cons_of_mem _ hy))
/-- what sorted() collects -/
theorem col_ok {pins : List (Addr × Obj)} {σ : L2.St} {s : Shared} {x : PV} {v : V} {u : Value} {xs : List PV} {Q : List Value → Shared → Prop} {E : Value → Shared → Prop} (hc : X.A.handled = none) (I : L2.Inv X pins σ H s) (R : Rel X.K fa ρ m H) (rv : RV fa ρ m.length H x v) (ru : L2.RelV v u) (e : itemsO m x = some xs)
    (h : ∀ (h' : Heap) (tk : Nat) (its : List Value) (vs : List V), (∀ b o, s.heap.get? b = some o → h'.get? b = some o) → L2.Vals vs its → RVs fa ρ m.length H xs vs → vs.length ≤ sizeLine → Q its { s with heap := h', toks := tk }) : wpAny (model X.prog X.w) X.A.in1 (collect u) Q E s := by
  have seq : ∀ {l : Addr} {its : List Value} {vs : List V}, u = .ref l → IsSeq s.heap l its → L2.Vals vs its → RVs fa ρ m.length H xs vs → vs.length ≤ sizeLine → wpAny (model X.prog X.w) X.A.in1 (collect u) Q E s := fun {l its vs} eu hS r q hz => by
    subst eu
    have hl : l < s.heap.objs.size := let ⟨_, _, ho, _⟩ := hS; Heap.lt_size ho
    refine collect_seq hS (h _ s.toks its vs (fun b o ho => ?_) r q hz) (by rw [← r.length]; exact hz)
    rw [Heap.get?_update_ne _ _ _ _ (Nat.ne_of_lt (Heap.lt_size ho))]
    exact Heap.get?_push_of_some _ ho
  unfold itemsO at e
  split at e
  · cases e
    obtain ⟨t, o, ws, rfl, ht, _, q⟩ := rv_tup rv
    cases ru
    obtain ⟨its, r, ⟨o2, ho, hcl, n, hd⟩, hz⟩ := I.tuple (sqT_of ht)
    exact seq rfl ⟨o2, n, ho, .inr hcl, hd⟩ r q hz
  · rename_i n
    obtain ⟨rfl, hn⟩ := rv_loc rv
    cases ru
    have lst : ∀ {ys : List PV}, lstAt m n = some ys → xs = ys → wpAny (model X.prog X.w) X.A.in1 (collect (.ref (ρ n))) Q E s := fun {ys} el ex => by
      subst ex
      obtain ⟨ws, hS, q⟩ := rel_seq R el
      obtain ⟨its, r, pl, hz⟩ := I.list hS
      obtain ⟨o, ho, hcl, n', hd⟩ := pl.isList
      exact seq rfl ⟨o, n', ho, .inl hcl, hd⟩ r q hz
    split at e
    · rename_i ys ek
      cases e
      exact lst (by unfold lstAt; rw [ek]) rfl
    · rename_i ys ek
      cases e
      exact lst (by unfold lstAt; rw [ek]) rfl
    · rename_i kvs w ek
      cases e
      obtain ⟨hsys, zs, es, ep, hraw, he, hl, hz, pr⟩ := rd_raw I (R.objs _ _ ek)
      refine PySem.W.kdu_collect (A := X.A.in1) (KdlSrc.rawDict (prog := X.prog) (w := X.w) (es := es) (ep := ep) hsys) (by show X.A.handled = none; exact hc) hraw (by rw [hl]; exact hz) fun h' tk acc hk hacc => ?_
      have ea := keys_acc (P := X.prog) he hacc
      rw [ea]
      exact h h' tk _ _ hk (vals_refs zs) (rd_keys pr) (by rw [List.length_map]; exact hz)
    · cases e
  · cases e
theorem zip_fst {α β : Type} : ∀ {xs : List α} {ys : List β}, xs.length = ys.length → (xs.zip ys).map (·.1) = xs := fun {xs ys} h => List.map_fst_zip (by omega)
theorem sorted_ok (hc : X.calm = true) (hu : X.A.units + 65 < cLine) : CallR X (.builtin "sorted") (rB X.K fa n0 sortedB) := by
  intro pins s σ H vs0 us Q I rs h0
  obtain ⟨ρ, m, as, z, m', R, ra, e, g⟩ := h0
  unfold sortedB at e
  split at e
  · rename_i x
    split at e
    · rename_i ys en0
      cases e
      obtain ⟨xs, el, es⟩ := Option.bind_eq_some_iff.mp en0
      clear en0
      obtain ⟨v, rfl, rv⟩ := rvs1 ra
      obtain ⟨u, rfl, ru⟩ := L2.vals1 rs
      obtain ⟨f1, f2, f3, f4⟩ := sortO_facts es
      have hh := I.ok.hd hc
      refine call_function_entry_kw kind_sorted plain_sorted entry_sorted (args_sorted1 _) ?_
      unfold Builtin.«sorted»
      refine wpAny_bind (m := checkCount "sorted" 1 1 _) (wpAny_pure (wpAny_bind (col_ok hh I R rv ru el fun h' tk its vs hk r q hz => ?_)))
      have hl : its.length = vs.length := r.length.symm
      have hxl : xs.length = vs.length := q.length
      refine wpAny_bind (wpAny_newList ?_ (by rw [hl]; exact hz))
      have hoL : (h'.push (seqObj "list" its.toArray 0)).get? h'.objs.size = some (seqObj "list" its.toArray 0) := Heap.get?_push_size _ rfl
      show wpAny _ _ _ _ _ { s with heap := h'.push (seqObj "list" its.toArray 0), toks := tk }
      refine wpAny_bind (wpAny_holding (wpAny_call_entry_kw slot_list_sort ⟨_, hoL, rfl⟩ entry_list_sort ?body (args_list_sort _)))
      show wpAny (model X.prog X.w) X.A.in1.in1 (Builtin.«list.sort» ⟨[.ref h'.objs.size], []⟩) _ _ _
      have kS : ∀ b o, s.heap.get? b = some o → (PySem.W.sortingHeap (h'.push (seqObj "list" its.toArray 0)) h'.objs.size its).get? b = some o := fun b o ho =>
        PySem.W.sortingHeap_old (Nat.ne_of_lt (Heap.lt_size (hk b o ho))) (Heap.get?_push_of_some _ (hk b o ho))
      have eb : (xs.zip vs).map (fun p : PV × V => pyd p.1) = xs.map pyd := by
        have z := congrArg (List.map pyd) (zip_fst hxl)
        rw [List.map_map] at z
        exact z
      have hal : PySem.W.AllAlike ((xs.zip vs).map fun p : PV × V => pyd p.1) := by rw [eb]; exact f1
      have er := each_readsP (h2 := PySem.W.sortingHeap (h'.push (seqObj "list" its.toArray 0)) h'.objs.size its) I.hok kS q r f3
      have S := PySem.W.SortsAt.data (prog := X.prog) (w := X.w) (A := X.A.in1.in1) (s := { s with heap := PySem.W.sortingHeap (h'.push (seqObj "list" its.toArray 0)) h'.objs.size its, toks := tk }) (PySem.W.each_map (R := fun v d => ∃ as, Reads (PySem.W.sortingHeap (h'.push (seqObj "list" its.toArray 0)) h'.objs.size its) v d as) (fun p : PV × V => pyd p.1) er) hal (by rw [eb]; exact f2) fun d hd => by
        rw [eb] at hd
        obtain ⟨y, hy, rfl⟩ := List.mem_map.mp hd
        have := okL_depth _ _ (f3 y hy)
        show X.A.units + 1 + 1 + _ < cLine
        unfold depthB at this
        omega
      refine PySem.W.list_sort_vals (s := { s with heap := h'.push (seqObj "list" its.toArray 0), toks := tk }) hoL S (by rw [hl]; exact hz) ⟨_, rfl, wpAny_pure ⟨_, rfl, ?_⟩⟩
      have out := PySem.W.sortVals_data (h' := PySem.W.sortingHeap (h'.push (seqObj "list" its.toArray 0)) h'.objs.size its) (enc := fun p : PV × V => pyd p.1) false (each_pairs (s := s) q r) er hal
      obtain ⟨o1, o2⟩ := pairs_each out
      have e1 : ((xs.zip vs).mergeSort (PySem.W.dataLe false fun p : PV × V => pyd p.1)).map (·.1) = ys := by
        have z := PySem.W.sort_maps (r := PySem.W.dataLe false fun p : PV × V => pyd p.1) (s := PySem.W.dataLe false pyd) (fun p : PV × V => p.1) (l := xs.zip vs) (fun _ _ _ _ => rfl)
        rw [zip_fst hxl, ← f4] at z
        exact z
      rw [e1] at o1
      obtain ⟨ep, he'⟩ := PyProof.Rows.sortedHeap_at (vs := its) (out := (PySem.W.sortVals (PySem.W.dataKind (PySem.W.sortingHeap (h'.push (seqObj "list" its.toArray 0)) h'.objs.size its) ((xs.zip vs).map fun p : PV × V => pyd p.1)) false its its).toArray) hoL
      have I1 : L2.Inv X pins σ H { s with heap := h', toks := tk } := I.kept hk
      refine ⟨.ref h'.objs.size, upd H h'.objs.size (.lst (((xs.zip vs).mergeSort (PySem.W.dataLe false fun p : PV × V => pyd p.1)).map (·.2))), I1.laid (t' := tk) (fun b ob ho => ?_) (Nat.le_refl _) ⟨?_, _, ep, o2, he'⟩, rfl, new_lst g R o1 (I1.hok.fresh (Nat.le_refl _))⟩
      · have hb : b < h'.objs.size := Heap.lt_size ho
        rw [PyProof.Rows.sortedHeap_old (Nat.ne_of_lt hb) (by rw [size_push']; exact Nat.lt_succ_of_lt hb)]
        exact Heap.get?_push_of_some _ ho
      · rw [List.length_map, (List.mergeSort_perm _ _).length_eq, List.length_zip, hxl, Nat.min_self]
        exact hz
    · cases e
  · cases e
theorem max_ok (hc : X.calm = true) : CallR X (.builtin "max") (rB X.K fa n0 maxV) := by
  intro pins s σ H vs us Q I rs h
  obtain ⟨ρ, m, as, z, m', R, ra, e, g⟩ := h
  unfold maxV at e
  split at e
  · cases e
    obtain ⟨v, u, rfl, rv, ru⟩ := rvs2 ra
    cases rv_int rv
    cases rv_int ru
    exact call_max2 hc pins s σ H _ us Q I rs ⟨_, _, rfl, same_val g R (.int _)⟩
  · split at e
    · rename_i v ev
      cases e
      obtain ⟨ns, en, ev⟩ := Option.bind_eq_some_iff.mp ev
      obtain ⟨xs, el, en⟩ := Option.bind_eq_some_iff.mp en
      obtain ⟨v', rfl, rv⟩ := rvs1 ra
      obtain ⟨rfl, hn⟩ := rv_loc rv
      obtain ⟨ws, hS, q⟩ := rel_seq R el
      rw [rvs_ints en q] at hS
      obtain ⟨h1, h2⟩ := List.max?_eq_some_iff.mp ev
      refine cr_max hc pins s σ H _ us Q I rs ⟨_, ns, rfl, hS, List.length_pos_of_mem h1, fun y hy hm => ?_⟩
      have : y = v := Int.le_antisymm (h2 y hy) (hm v h1)
      subst this
      exact same_val g R (.int _)
    · cases e
  · cases e
/-- the least of the first ones -/
theorem best_fold {lt : PV → PV → Bool} {x0 : PV} {xs : List PV} {bt : Nat → Nat → Bool} (hb : ∀ i j x y, (x0 :: xs)[i]? = some x → (x0 :: xs)[j]? = some y → bt i j = lt x y) : ∀ k, k ≤ xs.length → (x0 :: xs)[argBest bt k]? = some ((xs.take k).foldl (fun m y => if lt y m then y else m) x0)
  | 0, _ => rfl
  | k + 1, hk => by
    have ih := best_fold hb k (Nat.le_of_lt hk)
    have ek : xs[k]? = some xs[k] := List.getElem?_eq_getElem hk
    have e1 : (x0 :: xs)[k + 1]? = some xs[k] := ek
    rw [List.take_add_one, ek, List.foldl_append]
    have q := hb (k + 1) (argBest bt k) _ _ e1 ih
    show (x0 :: xs)[if bt (k + 1) (argBest bt k) = true then k + 1 else argBest bt k]? = some (if lt xs[k] _ = true then xs[k] else _)
    rw [q]
    split
    · exact e1
    · exact ih
theorem reads_at {P : Program} {w : World} {h : Heap} (ok : HOk P w H h) : ∀ {xs : List PV} {vs : List V} {its : List Value} {i : Nat} {u : Value}, RVs fa ρ L H xs vs → L2.Vals vs its → its[i]? = some u → ∃ x v, xs[i]? = some x ∧ RV fa ρ L H x v ∧ L2.RelV v u
  | _, _, _, i, u, r, rx, e => by
    obtain ⟨hlt, _⟩ := List.getElem?_eq_some_iff.mp e
    have l1 := r.length
    have l2 := rx.length
    have ev := List.getElem?_eq_getElem (l := _) (i := i) (show i < _ by rw [l2]; exact hlt)
    obtain ⟨x, e1, q⟩ := r.at ev
    obtain ⟨u', e2, q2⟩ := rx.get ev
    rw [e] at e2
    cases e2
    exact ⟨x, _, e1, q, q2⟩
theorem minT_ok {pins : List (Addr × Obj)} {σ : L2.St} {s : Shared} {n : Nat} {xs : List PV} {z : PV} {Q : VK} (hc : X.calm = true) (hu : X.A.units + 65 < cLine) (I : L2.Inv X pins σ H s) (R : Rel X.K fa ρ m H) (el : lstAt m n = some xs) (hk : okLs xs = true) (ez : minB xs = some z) (g : Gives X.K fa n0 ρ m H Q z m) :
    wpAny (model X.prog X.w) X.A (call (.builtin "min") [.ref (ρ n)]) (EP X pins σ Q) X.xe s := by
  obtain ⟨f1, f2, _⟩ := okLs_of hk
  obtain ⟨ws, hS, q⟩ := rel_seq R el
  obtain ⟨its, r, pl, hz⟩ := I.list hS
  have hl := r.length
  have hl2 := q.length
  cases xs with
  | nil => cases ez
  | cons x0 xs =>
    have hsz : its.toArray.size = xs.length + 1 := by rw [List.size_toArray, ← hl, ← hl2]; rfl
    have at_ : ∀ i v, its.toArray[i]? = some v → ∃ x vv, (x0 :: xs)[i]? = some x ∧ RV fa ρ m.length H x vv ∧ L2.RelV vv v := fun i v e => reads_at (P := X.prog) (w := X.w) I.hok q r (by simpa using e)
    refine minList (bt := fun i j => match (x0 :: xs)[i]?, (x0 :: xs)[j]? with | some x, some y => ltb depthB x y | _, _ => false) (I.ok.hd hc) pl.isList (by omega) (fun i j vi vj s' Q' E' gr hi hj hQ => ?_) fun v h' tk e gr => ?_
    · obtain ⟨x, vx, e1, r1, t1⟩ := at_ i vi hi
      obtain ⟨y, vy, e2, r2, t2⟩ := at_ j vj hj
      have mx : x ∈ x0 :: xs := List.mem_of_getElem? e1
      have my : y ∈ x0 :: xs := List.mem_of_getElem? e2
      obtain ⟨as, a1⟩ := rv_reads (P := X.prog) (w := X.w) I.hok x vx vi depthB r1 t1 (f1 x mx)
      obtain ⟨bs, a2⟩ := rv_reads (P := X.prog) (w := X.w) I.hok y vy vj depthB r2 t2 (f1 y my)
      have dx := okL_depth _ _ (f1 x mx)
      have ha := f2 x mx y my
      have hn : pyd x ≠ .none := fun z => by
        rcases okL_succ (d := 39) (f1 x mx) with ⟨i, rfl⟩ | ⟨zs, rfl, _⟩ <;> cases z
      refine PySem.W.rcLt_alike (prog := X.prog) (w := X.w) _ _ X.A.in1 s' _ _ _ _ (PyProof.Rows.Reads.keeps gr a1) (PyProof.Rows.Reads.keeps gr a2) ha hn (by show X.A.units + 1 + _ < cLine; unfold depthB at dx; omega) _ _ ?_
      rw [← ltb_data depthB x y (f1 x mx) (f1 y my) ha]
      have hQ : Q' (.bool (match (x0 :: xs)[i]?, (x0 :: xs)[j]? with | some x, some y => ltb depthB x y | _, _ => false)) s' := hQ
      rw [e1, e2] at hQ
      exact hQ
    · obtain ⟨x, vx, e1, r1, t1⟩ := at_ _ _ e
      rw [hsz, Nat.add_sub_cancel] at e1
      have b := best_fold (lt := ltb depthB) (x0 := x0) (xs := xs) (bt := fun i j => match (x0 :: xs)[i]?, (x0 :: xs)[j]? with | some x, some y => ltb depthB x y | _, _ => false) (fun i j x y e1 e2 => by
        show (match (x0 :: xs)[i]?, (x0 :: xs)[j]? with | some x, some y => ltb depthB x y | _, _ => false) = _
        rw [e1, e2]) xs.length (Nat.le_refl _)
      rw [List.take_length] at b
      rw [b] at e1
      cases e1
      cases ez
      exact ⟨vx, H, I.kept (t' := tk) gr, t1, same_val g R r1⟩
theorem min_ok (hu : X.A.units + 65 < cLine) (hc : X.calm = true) : CallR X (.builtin "min") (rB X.K fa n0 minV) := by
  intro pins s σ H vs us Q I rs h
  obtain ⟨ρ, m, as, z, m', R, ra, e, g⟩ := h
  unfold minV at e
  split at e
  · cases e
    obtain ⟨v, u, rfl, rv, ru⟩ := rvs2 ra
    cases rv_int rv
    cases rv_int ru
    exact call_min2 hc pins s σ H _ us Q I rs ⟨_, _, rfl, same_val g R (.int _)⟩
  · split at e
    · rename_i v ev
      cases e
      obtain ⟨ns, en, ev⟩ := Option.bind_eq_some_iff.mp ev
      obtain ⟨xs, el, en⟩ := Option.bind_eq_some_iff.mp en
      obtain ⟨v', rfl, rv⟩ := rvs1 ra
      obtain ⟨rfl, hn⟩ := rv_loc rv
      obtain ⟨ws, hS, q⟩ := rel_seq R el
      rw [rvs_ints en q] at hS
      obtain ⟨h1, h2⟩ := List.min?_eq_some_iff.mp ev
      refine cr_min hc pins s σ H _ us Q I rs ⟨_, ns, rfl, hS, List.length_pos_of_mem h1, fun y hy hm => ?_⟩
      have : y = v := Int.le_antisymm (hm v h1) (h2 y hy)
      subst this
      exact same_val g R (.int _)
    · split at e
      · rename_i v ev
        cases e
        obtain ⟨xs, el, ev⟩ := Option.bind_eq_some_iff.mp ev
        obtain ⟨v', rfl, rv⟩ := rvs1 ra
        obtain ⟨rfl, hn⟩ := rv_loc rv
        obtain ⟨u, rfl, ru⟩ := L2.vals1 rs
        cases ru
        split at ev
        · rename_i hk
          exact minT_ok hc hu I R el hk ev g
        · cases ev
      · cases e
  · cases e

/-! ### isinstance -/
def kdName : Kd → String
  | .non => "NoneType" | .bl => "bool" | .int => "int" | .str => "str" | .tup => "tuple" | .lst => "list"
theorem kd_ty {K : PySem.W.Frag} {x : PV} {v : V} {k : Kd} (R : Rel K fa ρ m H) (r : RV fa ρ m.length H x v) (e : kdB m x = some k) : TyX K H v (.type (kdName k)) := by
  cases r with
  | non => cases e; exact .base .non
  | bl b => cases e; exact .base (.bl b)
  | int i => cases e; exact .base (.int i)
  | str x => cases e; exact .base (.str x)
  | tup h d q => cases e; exact .fTuple h
  | rng h => cases e
  | fn n => cases e
  | @loc n hn =>
    unfold kdB at e
    dsimp only at e
    split at e
    · rename_i q
      cases e
      obtain ⟨xs, el⟩ := Option.isSome_iff_exists.mp q
      unfold lstAt at el
      split at el
      · rename_i ys ek
        obtain ⟨vs, h1, _⟩ := rel_lst R ek
        exact .base (.lst h1)
      · rename_i ys ek
        obtain ⟨vs, h1, _⟩ := R.objs n _ ek
        rcases h1 with ⟨o, h1⟩ | ⟨o, its, n', h1, h2, _⟩
        · exact .base (.frz h1)
        · exact .kList h1 h2
      · cases el
    · cases e
def tyNames : Ty → List String
  | .int => ["int"] | .bool => ["bool"] | .tuple => ["tuple"] | .list => ["list"] | .str => ["str"] | .seq => ["list", "tuple"] | .bs => ["bool", "str"]
theorem isB_one (t : Ty) (k : Kd) : isB t k = (tyNames t).any fun n => (kitB (kdName k) n).getD false := by
  cases t <;> cases k <;> decide +kernel
theorem kitB_some (t : Ty) (k : Kd) : (tyNames t).all (fun n => (kitB (kdName k) n).isSome) = true := by
  cases t <;> cases k <;> decide +kernel
theorem kitAny_ty {K : PySem.W.Frag} {a : String} : ∀ {l : List String}, l.all (fun n => (kitB a n).isSome) = true → PySem.W.kitAny K (.type a) (l.map Value.type) = some (l.any fun n => (kitB a n).getD false)
  | [], _ => kitAny_nil
  | n :: l, h => by
    rw [List.all_cons, Bool.and_eq_true] at h
    obtain ⟨b, e⟩ := Option.isSome_iff_exists.mp h.1
    rw [List.map_cons, List.any_cons, e]
    have ih := kitAny_ty (K := K) h.2
    refine kitAny_cons (kit_ty e) (fun hb => ?_) (fun hb => ?_)
    · subst hb; exact ih
    · subst hb; rfl
end
end Dp
set_option Elab.async false
set_option linter.all false
set_option maxRecDepth 100000
/-! DpV: dict of a list of pairs. -/
namespace Dp
open PySem PySem.Spec PyProof.Rows L2
section
variable {X : Cx} {fa ρ : Nat → Addr} {n0 L : Nat} {m m' : Mem} {H : L2.Hp}

theorem pairs_cons {x : PV} {xs : List PV} {qs : List (PV × PV)} (h : pairsB (x :: xs) = some qs) : ∃ k v r, x = .tup [k, v] ∧ pairsB xs = some r ∧ qs = (k, v) :: r := by
  unfold pairsB at h
  split at h
  · rename_i h'; cases h'
  · rename_i k v r e
    cases e
    obtain ⟨qs, e1, e2⟩ := Option.map_eq_some_iff.mp h
    exact ⟨k, v, qs, rfl, e1, e2.symm⟩
  · cases h
theorem dictT_all : ∀ {qs acc kvs : List (PV × PV)}, dictT acc qs = some kvs → (∀ q ∈ qs, okT q.1 = true) ∧ kvs = qs.foldl (fun a q => putB q.1 q.2 a) acc
  | [], acc, kvs, h => by cases h; exact ⟨fun _ h => (by cases h), rfl⟩
  | (k, v) :: qs, acc, kvs, h => by
    unfold dictT at h
    split at h
    · rename_i hk
      obtain ⟨a, b⟩ := dictT_all h
      refine ⟨fun q hq => ?_, b⟩
      rcases List.mem_cons.mp hq with e | hq
      · rw [e]; exact hk
      · exact a q hq
    · cases h
/-- the pairs with their tuples' places -/
theorem pairs_places {pins : List (Addr × Obj)} {σ : L2.St} {s : Shared} (I : L2.Inv X pins σ H s) : ∀ {xs : List PV} {vs : List V} {its : List Value} {qs : List (PV × PV)}, RVs fa ρ L H xs vs → L2.Vals vs its → pairsB xs = some qs → (∀ q ∈ qs, okT q.1 = true) →
    ∃ (ps : List (NestedKey × Addr × Value)) (Ts : List Addr), Paired (RD1 fa ρ L H) qs ps ∧ its = Ts.map Value.ref ∧ Paired (fun (x : NestedKey × Addr × Value) T => s.heap.IsTuple T #[.ref x.2.1, x.2.2]) ps Ts
  | [], _, _, qs, r, rx, e, _ => by cases e; cases r; cases rx; exact ⟨[], [], .nil, rfl, .nil⟩
  | x :: xs, _, _, qs, r, rx, e, hk => by
    obtain ⟨k, v, qs, rfl, e1, rfl⟩ := pairs_cons e
    cases r with
    | cons r1 r2 =>
      cases rx with
      | cons x1 x2 =>
        obtain ⟨ps, Ts, a1, a2, a3⟩ := pairs_places I r2 x2 e1 fun q hq => hk q (List.mem_cons_of_mem _ hq)
        obtain ⟨t, o, ws, rfl, ht, _, q⟩ := rv_tup r1
        cases x1
        obtain ⟨is2, r3, p3, _⟩ := I.tuple (sqT_of ht)
        cases q with
        | cons q1 q =>
          cases q with
          | cons q2 q =>
            cases q
            obtain ⟨b, kk, rfl, e4, e5⟩ := rv_key (hk (k, v) List.mem_cons_self) q1
            cases r3 with
            | cons u1 r3 =>
              cases r3 with
              | cons u2 r3 =>
                cases r3
                cases u1
                exact ⟨(kk, b, _) :: ps, t :: Ts, .cons ⟨e4, q1, e5, _, q2, u2⟩ a1, by rw [a2]; rfl, .cons p3 a3⟩
theorem put_all {qs : List (PV × PV)} {ps : List (NestedKey × Addr × Value)} (h : Paired (RD1 fa ρ L H) qs ps) : ∀ {acc : List (PV × PV)} {xs : List (NestedKey × Addr × Value)}, Paired (RD1 fa ρ L H) acc xs → Paired (RD1 fa ρ L H) (qs.foldl (fun a q => putB q.1 q.2 a) acc) (storedAllH xs ps) := by
  induction h with
  | nil => exact fun h => h
  | @cons q p qs ps z t ih =>
    intro acc xs ha
    obtain ⟨z1, z2, z3, v, z4, z5⟩ := z
    exact ih (rd_put z1 z3 z2 z4 z5 ha)
theorem storedAllH_len (ps : List (NestedKey × Addr × Value)) : ∀ xs : List (NestedKey × Addr × Value), (storedAllH xs ps).length ≤ xs.length + ps.length := by
  induction ps with
  | nil => exact fun xs => Nat.le_refl _
  | cons p ps ih =>
    intro xs
    have a := ih (storedH xs p.1 p.2.1 p.2.2)
    have b := storedH_len xs p.1 p.2.1 p.2.2
    show (storedAllH (storedH xs p.1 p.2.1 p.2.2) ps).length ≤ xs.length + (ps.length + 1)
    omega
/-- a new dict -/
theorem new_dtt {Q : VK} {kvs : List (PV × PV)} {w : Nat} {p : Addr} {o : Obj} (g : Gives X.K fa n0 ρ m H Q (.loc m.length) (m ++ [.dtt kvs w])) (r : Rel X.K fa ρ m H) (hp : H p = none) (h : ∀ ρ', (∀ n, n < m.length → ρ' n = ρ n) → RD fa ρ' (m.length + 1) (upd H p (dnO p o)) p kvs) : Q (.ref p) (upd H p (dnO p o)) := by
  have F := Fut.new (n0 := n0) (o := .dtt kvs w) (u := dnO p o) r hp h
  have q := RV.loc (fa := fa) (ρ := fun n => if n < m.length then ρ n else p) (L := (m ++ [PO.dtt kvs w]).length) (H := upd H p (dnO p o)) (n := m.length) (by rw [List.length_append]; exact Nat.lt_succ_self _)
  rw [if_neg (Nat.lt_irrefl _)] at q
  exact g _ _ _ F q
theorem paired_at {α β : Type} {F : α → β → Prop} : ∀ {l₁ : List α} {l₂ : List β} (_ : Paired F l₁ l₂) {i : Nat} {a : α}, l₁[i]? = some a → ∃ b, l₂[i]? = some b ∧ F a b
  | _, _, .nil, i, a, e => by simp at e
  | _, _, .cons h t, 0, a, e => by cases e; exact ⟨_, rfl, h⟩
  | _, _, .cons h t, i + 1, a, e => paired_at t e
theorem dk_places {K : PySem.W.Frag} : ∀ {xs : List PV} {vs : List V} {qs acc kvs : List (PV × PV)} {ks : List (Key × V)}, RVs fa ρ L H xs vs → pairsB xs = some qs → dictB acc qs = some kvs → RK fa ρ L H acc ks →
    ∃ (Ts : List Addr) (more : List (Key × V)), vs = Ts.map V.ref ∧ Paired (fun p kv => SqT K H p [kV kv.1, kv.2]) Ts more ∧ RK fa ρ L H kvs (mergeK ks more)
  | [], _, qs, acc, kvs, ks, r, e, h, hr => by cases e; cases r; cases h; exact ⟨[], [], rfl, .nil, hr⟩
  | x :: xs, _, qs, acc, kvs, ks, r, e, h, hr => by
    obtain ⟨k, v, qs, rfl, e1, rfl⟩ := pairs_cons e
    unfold dictB at h
    split at h
    · rename_i hk
      cases r with
      | cons r1 r2 =>
        obtain ⟨t, o, ws, rfl, ht, _, q⟩ := rv_tup r1
        cases q with
        | cons q1 q =>
          cases q with
          | cons q2 q =>
            cases q
            obtain ⟨b, e3, e4⟩ := okKey_of hk q1
            subst e3 e4
            obtain ⟨Ts, more, rfl, a1, a2⟩ := dk_places (K := K) r2 e1 h (hr.put b q2)
            exact ⟨t :: Ts, (b, _) :: more, rfl, .cons (sqT_of ht) a1, a2⟩
    · cases h
theorem dict_ok (hc : X.calm = true) (hu : X.A.units + 65 < cLine) : CallR X (.type "dict") (rB X.K fa n0 dictV) := by
  intro pins s σ H vs us Q I rs h
  obtain ⟨ρ, m, as, z, m', R, ra, e, g⟩ := h
  unfold dictV at e
  split at e
  · rename_i n
    obtain ⟨v, rfl, rv⟩ := rvs1 ra
    obtain ⟨rfl, hn⟩ := rv_loc rv
    split at e
    · rename_i kvs ek
      cases e
      obtain ⟨qs, e0, e2⟩ := Option.bind_eq_some_iff.mp ek
      obtain ⟨xs, el, e1⟩ := Option.bind_eq_some_iff.mp e0
      clear e0
      obtain ⟨hall, rfl⟩ := dictT_all e2
      obtain ⟨ws, hS, q⟩ := rel_seq R el
      obtain ⟨u, rfl, ru⟩ := L2.vals1 rs
      cases ru
      obtain ⟨its, r, pl, hz⟩ := I.list hS
      obtain ⟨ps, Ts, a1, a2, a3⟩ := pairs_places I q r e1 hall
      subst a2
      have hl1 : ps.length = Ts.length := Paired.length a3
      have hl2 : qs.length = ps.length := Paired.length a1
      have hl3 : Ts.length = ws.length := by rw [r.length, List.length_map]
      have hpz : ps.length ≤ sizeLine := by omega
      have P := PairArg.list (prog := X.prog) (w := X.w) (ρ n) (Ts.map Value.ref).toArray (fun j => Ts.getD j 0) (ps.map fun x => (Value.ref x.2.1, x.2.2))
      rw [List.length_map] at P
      have items : PairItems s.heap (Ts.map Value.ref).toArray (fun j => Ts.getD j 0) (ps.map fun x => (Value.ref x.2.1, x.2.2)) := by
        refine ⟨by rw [List.size_toArray, List.length_map, List.length_map, hl1], fun j k v ej => ?_⟩
        rw [List.getElem?_map] at ej
        obtain ⟨x, ex, ej⟩ := Option.map_eq_some_iff.mp ej
        cases ej
        obtain ⟨T, eT, it⟩ := paired_at a3 ex
        have eg : Ts.getD j 0 = T := by rw [List.getD_eq_getElem?_getD, eT]; rfl
        refine ⟨?_, ?_⟩
        · simp only [List.getElem?_toArray, List.getElem?_map, eT]
          show some (Value.ref T) = some (Value.ref (Ts.getD j 0))
          rw [eg]
        · show PairAt s.heap (Ts.getD j 0) _ _
          rw [eg]
          exact .inl it
      have plain : PlainSeq "list" s.heap (ρ n) (Ts.map Value.ref).toArray := by
        obtain ⟨o, n', ho, hcl, hd, hdat⟩ := pl
        exact ⟨o, n', ho, hcl, hd, hdat⟩
      have keys : ∀ x ∈ ps, (nestedKind X.prog X.w).is s.heap x.1 x.2.1 := by
        clear hl1 hl2 hl3 hpz P items a3 g e1 e2 ek hall
        induction a1 with
        | nil => exact fun x hx => by cases hx
        | @cons p y _ _ z _ ih =>
          intro x hx
          rcases List.mem_cons.mp hx with rfl | hx
          · obtain ⟨z1, z2, z3, _⟩ := z
            exact key_is I.hok z2 z1 z3
          · exact ih x hx
      refine call_dict_pairsH (knd := nestedKind X.prog X.w) (ps := ps) P (I.ok.hd hc) (show X.A.units + 1 + 1 + 8 < cLine by omega) ⟨plain, items⟩ ⟨rfl, fun i key v hv => ?_⟩ (fun h' hk x hx => ?_) hpz fun h' tk dd hk => ?_
      · have hv : (ps.map fun x => (Value.ref x.2.1, x.2.2))[i]? = some (key, v) := hv
        rw [List.getElem?_map] at hv
        obtain ⟨x, ex, hv⟩ := Option.map_eq_some_iff.mp hv
        cases hv
        exact ⟨x.1, x.2.1, ex, rfl⟩
      · exact nestedKind_stays.stays (fun b o _ _ eb _ => hk b o (Nat.ne_of_lt (Heap.lt_size eb)) (by simp) eb) (keys x hx)
      · have hm : (s.heap.objs.size == sysModules) = false := beq_eq_false_iff_ne.mpr (Nat.ne_of_gt I.big)
        have hp := I.hok.fresh (Nat.le_refl s.heap.objs.size)
        have hlen := storedAllH_len ps []
        rw [List.length_nil] at hlen
        obtain ⟨o, ho, mk⟩ := rd_mk (kvs := qs.foldl (fun a q => putB q.1 q.2 a) []) dd hm (by omega)
        refine ⟨.ref s.heap.objs.size, _, I.laid (t' := tk) (fun b ob eb => hk b ob (by simp) eb) (Nat.le_refl _) (ext_ok ho), rfl, new_dtt g R hp fun ρ' hr => mk upd_same ?_⟩
        exact Paired.mapP (put_all a1 .nil) fun _ _ z => z.mono hr (Nat.le_succ _) (.new hp)
    · split at e
      · rename_i kvs ek
        cases e
        obtain ⟨qs, e1, e2⟩ := Option.bind_eq_some_iff.mp ek
        obtain ⟨xs, el, e1⟩ := Option.bind_eq_some_iff.mp e1
        obtain ⟨ws, hS, q⟩ := rel_seq R el
        obtain ⟨Ts, more, rfl, a1, a2⟩ := dk_places (K := X.K) q e1 e2 .nil
        exact call_dictP hc pins s σ H _ us Q I rs ⟨_, Ts, more, rfl, hS, a1, fun p hp => new_dct g R a2 hp⟩
      · cases e
  · cases e
end
end Dp
set_option Elab.async false
set_option linter.all false
set_option maxRecDepth 100000
/-! Dp9: methods. -/
namespace Dp
open PySem PySem.Spec PyProof.Rows L2
section
variable {X : Cx} {fa ρ : Nat → Addr} {n0 L : Nat} {m m' : Mem} {H : L2.Hp}
def rM (K : PySem.W.Frag) (fa : Nat → Addr) (n0 : Nat) (f : Mem → PV → List PV → RE) : V → List V → L2.Hp → VK → Prop := fun x vs H Q =>
  ∃ ρ m a as z m', Rel K fa ρ m H ∧ RV fa ρ m.length H a x ∧ RVs fa ρ m.length H as vs ∧ f m a as = .ok (z, m') ∧ Gives K fa n0 ρ m H Q z m'
theorem append_ok : MtR X "list.append" (rM X.K fa n0 (appendB n0)) := by
  intro pins s σ H x vs v us Q I rx rs h
  obtain ⟨ρ, m, a, as, z, m', R, ra, rr, e, g⟩ := h
  unfold appendB at e
  split at e
  · rename_i n y
    obtain ⟨rfl, hn⟩ := rv_loc ra
    obtain ⟨w, rfl, rw'⟩ := rvs1 rr
    split at e
    · rename_i xs ek
      split at e
      · rename_i hm
        cases e
        rw [Bool.and_eq_true] at hm
        obtain ⟨ws, h1, q1⟩ := rel_lst R ek
        have kp : Keep H (upd H (ρ n) (.lst (ws ++ [w]))) := .write h1 (fun _ _ z => by cases z) (fun _ _ z => by cases z)
        refine mt_append pins s σ H _ _ v us Q I rx rs ⟨_, ws, w, rfl, rfl, h1, by rw [← q1.length]; exact Nat.lt_of_lt_of_le (of_decide_eq_true hm.2) sizeB_line, ?_⟩
        refine g ρ _ _ (.write R ek rfl rfl ⟨_, upd_same, RVs.mono (fun _ _ => rfl) (Nat.le_refl _) kp _ _ (q1.append (.cons rw' .nil))⟩ fun k hk hn hl => ?_) .non
        refine may_lst (xs := xs) hm.1 hk hn fun hv => ?_
        rw [lts_append, show PV.lts k xs = true from hl]
        show (true && (PV.lt k y && true)) = true
        rw [hv]; rfl
      · cases e
    · cases e
  · cases e
theorem extend_ok : MtR X "list.extend" (rM X.K fa n0 (extendB n0)) := by
  intro pins s σ H x vs v us Q I rx rs h
  obtain ⟨ρ, m, a, as, z, m', R, ra, rr, e, g⟩ := h
  unfold extendB at e
  split at e
  · rename_i n y
    obtain ⟨rfl, hn⟩ := rv_loc ra
    obtain ⟨w, rfl, rw'⟩ := rvs1 rr
    split at e
    · rename_i xs ys ek ey
      split at e
      · rename_i hm
        cases e
        rw [Bool.and_eq_true] at hm
        obtain ⟨ws, h1, q1⟩ := rel_lst R ek
        have fin : ∀ zs, RVs fa ρ m.length H ys zs → Q .non (upd H (ρ n) (.lst (ws ++ zs))) := fun zs q2 => by
          have kp : Keep H (upd H (ρ n) (.lst (ws ++ zs))) := .write h1 (fun _ _ z => by cases z) (fun _ _ z => by cases z)
          refine g ρ _ _ (.write R ek rfl rfl ⟨_, upd_same, RVs.mono (fun _ _ => rfl) (Nat.le_refl _) kp _ _ (q1.append q2)⟩ fun k hk hn hl => ?_) .non
          show PV.lts k (xs ++ ys) = true
          rw [lts_append, show PV.lts k xs = true from hl]
          have hm1 := hm.1
          rw [Bool.or_eq_true] at hm1
          rcases hm1 with h | h
          · rw [PV.lts_pure k ys h]; rfl
          · exact absurd hn (Nat.not_lt.mpr (Nat.le_trans hk (of_decide_eq_true h)))
        unfold seqE at ey
        split at ey
        · cases ey
          obtain ⟨b, o, zs, rfl, hb, hd, q2⟩ := rv_tup rw'
          have hz : ws.length + zs.length ≤ sizeLine := by rw [← q1.length, ← q2.length]; exact Nat.le_trans (of_decide_eq_true hm.2) sizeB_line
          cases rx
          obtain ⟨u, rfl, ru⟩ := L2.vals1 rs
          cases ru
          obtain ⟨z, its, n', r, hl, e⟩ := I.lstM h1
          obtain ⟨ho, hz2, its2, r2, ot, hot, hoc, n2, hod⟩ := (show ObjOk X.prog X.w H s.heap b (.frz o (.tup zs)) from I.hok b _ hb)
          have eo : ot = o := Option.some.inj (hot.symm.trans ho)
          subst eo
          obtain ⟨cls, dd, data, sl⟩ := ot
          simp only at hoc hod hd
          obtain ⟨hd1, hd2⟩ := hd
          subst hoc hod hd1 hd2
          have hl2 := r2.length
          have hsz : its.toArray.size + its2.toArray.size ≤ sizeLine := by rw [List.size_toArray, List.size_toArray]; omega
          have hlong : ¬ (!its.toArray.isEmpty && Builtin.List.listTooLong (its.toArray.size + its2.toArray.size)) = true := by
            rw [notLongL hsz, Bool.and_false]
            exact Bool.false_ne_true
          refine call_meets F.slot_list_extend ⟨_, e, rfl⟩ F.entry_list_extend (F.args_list_extend_2 _ _)
            (AutoSeq1.list_extend_list_tuple_0 (ρ n) its.toArray n' b its2.toArray n2 hlong (by rw [List.size_toArray]; omega) (by omega)) ⟨e, ho, ?_⟩
          refine ⟨.non, _, I.lset (t' := s.toks) (its' := its ++ its2) h1 e (by simp) (r.append r2) ?_, rfl, fin zs q2⟩
          rw [List.length_append]
          omega
        · obtain ⟨rfl, hb⟩ := rv_loc rw'
          split at ey
          · rename_i ys' eb
            cases ey
            obtain ⟨zs, h2, q2⟩ := rel_lst R eb
            have hz : ws.length + zs.length ≤ sizeLine := by rw [← q1.length, ← q2.length]; exact Nat.le_trans (of_decide_eq_true hm.2) sizeB_line
            exact mt_extend pins s σ H _ _ v us Q I rx rs ⟨_, _, ws, zs, rfl, rfl, h1, h2, hz, fin zs q2⟩
          · cases ey
        · cases ey
      · cases e
    · cases e
  · cases e
theorem pop_ok : MtR X "list.pop" (rM X.K fa n0 popB) := by
  intro pins s σ H x vs v us Q I rx rs h
  obtain ⟨ρ, m, a, as, z, m', R, ra, rr, e, g⟩ := h
  unfold popB at e
  split at e
  · rename_i n
    obtain ⟨rfl, hn⟩ := rv_loc ra
    cases rr
    split at e
    · rename_i xs ek
      split at e
      · rename_i y ey
        cases e
        obtain ⟨ws, h1, q1⟩ := rel_lst R ek
        rw [List.getLast?_eq_getElem?] at ey
        obtain ⟨w, ew, rw'⟩ := q1.get ey
        have kp : Keep H (upd H (ρ n) (.lst ws.dropLast)) := .write h1 (fun _ _ z => by cases z) (fun _ _ z => by cases z)
        refine mt_pop pins s σ H _ _ v us Q I rx rs ⟨_, ws, w, rfl, rfl, h1, by rw [← q1.length]; exact ew, ?_⟩
        have F : Fut X.K fa n0 ρ m H ρ (m.set n (.lst xs.dropLast)) (upd H (ρ n) (.lst ws.dropLast)) := .write R ek rfl rfl ⟨_, upd_same, RVs.mono (fun _ _ => rfl) (Nat.le_refl _) kp _ _ q1.dropLast⟩ fun k hk hn hl => by
          have hl : PV.lts k xs = true := hl
          show PV.lts k xs.dropLast = true
          rw [PV.lts_all, List.all_eq_true] at hl ⊢
          exact fun y hy => hl y (List.dropLast_subset _ hy)
        exact g ρ _ _ F (F.val rw')
      · cases e
    · cases e
  · rename_i n i
    obtain ⟨rfl, hn⟩ := rv_loc ra
    obtain ⟨w', rfl, rwi⟩ := rvs1 rr
    cases rv_int rwi
    split at e
    · rename_i xs ek
      split at e
      · rename_i j ej
        split at e
        · rename_i y ey
          cases e
          obtain ⟨ws, h1, q1⟩ := rel_lst R ek
          obtain ⟨w, ew, rw'⟩ := q1.get ey
          have kp : Keep H (upd H (ρ n) (.lst (ws.eraseIdx j))) := .write h1 (fun _ _ z => by cases z) (fun _ _ z => by cases z)
          rw [ixB_ixN, q1.length] at ej
          obtain ⟨e1, e2, e3, e4⟩ := ixN_seq ej
          have hn := line63
          have hz : ws.length ≤ sizeLine := (I.lstM h1).1
          refine mt_popAt pins s σ H _ _ v us Q I rx rs ⟨_, ws, i, j, w, rfl, rfl, h1, by omega, by omega, e1, ew, ?_⟩
          have F : Fut X.K fa n0 ρ m H ρ (m.set n (.lst (xs.eraseIdx j))) (upd H (ρ n) (.lst (ws.eraseIdx j))) := .write R ek rfl rfl ⟨_, upd_same, RVs.mono (fun _ _ => rfl) (Nat.le_refl _) kp _ _ (q1.erase j)⟩ fun k hk hn hl => by
            have hl : PV.lts k xs = true := hl
            show PV.lts k (xs.eraseIdx j) = true
            rw [PV.lts_all, List.all_eq_true] at hl ⊢
            exact fun y hy => hl y (List.eraseIdx_subset hy)
          exact g ρ _ _ F (F.val rw')
        · cases e
      · cases e
    · cases e
  · cases e
theorem dget_ok (hu : X.A.units + 65 < cLine) : MtR X "dict.get" (rM X.K fa n0 dgetB) := by
  intro pins s σ H x vs v us Q I rx rs h
  obtain ⟨ρ, m, a, as, z, m', R, ra, rr, e, g⟩ := h
  unfold dgetB at e
  split at e
  · rename_i n k d
    obtain ⟨rfl, hn⟩ := rv_loc ra
    obtain ⟨w1, w2, rfl, rk1, rk2⟩ := rvs2 rr
    split at e
    · rename_i kvs ek
      split at e
      · rename_i hk
        cases e
        cases rx
        obtain ⟨q, rfl, rfl⟩ := okKey_of hk rk1
        obtain ⟨qs, hq, rk⟩ := rel_dct R ek
        obtain ⟨u1, u2, rfl, r1, r2⟩ := L2.vals2 rs
        refine d_get2 (by omega) I (DGet.k (k := q) hq) r1 r2 fun w' s' I' rw' => ⟨_, H, I', rw', ?_⟩
        rcases rk.look q with ⟨e1, e2⟩ | ⟨x', v', e1, e2, rv⟩
        · rw [e1] at g; rw [e2]; exact same_val g R rk2
        · rw [e1] at g; rw [e2]; exact same_val g R rv
      · split at e
        · rename_i hk
          cases e
          rw [Bool.and_eq_true] at hk
          cases rx
          obtain ⟨b', kk, rfl, _⟩ := rv_key hk.2 rk1
          obtain ⟨u1, u2, rfl, r1, r2⟩ := L2.vals2 rs
          cases r1
          cases kvs with
          | cons _ _ => cases hk.1
          | nil =>
            obtain ⟨qs, hq, rk⟩ := rel_dct R ek
            cases rk
            exact rd_getOr hu I hk.2 rk1 (.inr ⟨hq, rfl⟩) rk2 r2 fun v u s' I' rv ru => ⟨v, H, I', ru, same_val g R rv⟩
        · cases e
    · rename_i kvs w ek
      split at e
      · rename_i hk
        cases e
        cases rx
        obtain ⟨b', kk, rfl, _⟩ := rv_key hk rk1
        obtain ⟨u1, u2, rfl, r1, r2⟩ := L2.vals2 rs
        cases r1
        exact rd_getOr hu I hk rk1 (.inl (R.objs _ _ ek)) rk2 r2 fun v u s' I' rv ru => ⟨v, H, I', ru, same_val g R rv⟩
      · cases e
    · cases e
  · cases e

/-! ### count, index: of lists, of tuples -/
theorem count_of {x : PV} {m : Mem} : ∀ ys : List PV, okD m depthB x = true → ys.all (okD m depthB) = true → (ys.countP fun y => eqb m depthB y x) = (ys.map (toPD m depthB)).countP fun z => PyData.eqv z (toPD m depthB x)
  | [], _, _ => rfl
  | y :: ys, h, g => by
    rw [List.all_cons, Bool.and_eq_true] at g
    rw [List.map_cons, List.countP_cons, List.countP_cons, eq_of depthB y x g.1 h, count_of ys h g.2]
theorem find_of {x : PV} {m : Mem} : ∀ ys : List PV, okD m depthB x = true → ys.all (okD m depthB) = true → (ys.findIdx? fun y => eqb m depthB y x) = (ys.map (toPD m depthB)).findIdx? fun z => PyData.eqv z (toPD m depthB x)
  | [], _, _ => rfl
  | y :: ys, h, g => by
    rw [List.all_cons, Bool.and_eq_true] at g
    rw [List.map_cons, List.findIdx?_cons, List.findIdx?_cons, eq_of depthB y x g.1 h, find_of ys h g.2]
/-- what == asks of the items of a sequence, and of x -/
theorem asks {pins : List (Addr × Obj)} {σ : L2.St} {s : Shared} (hu : X.A.units + 65 < cLine) (I : L2.Inv X pins σ H s) {x : PV} {y : V} {u : Value} {ys : List PV} {vs : List V} {its : List Value} (R : Rel X.K fa ρ m H) (h1 : okD m depthB x = true) (h2 : ys.all (okD m depthB) = true)
    (rx : RV fa ρ m.length H x y) (ru : L2.RelV y u) (q : RVs fa ρ m.length H ys vs) (r : L2.Vals vs its) :
    its.map (SeqAt.readOf s.heap) = ys.map (toPD m depthB) ∧ ∀ w, w ∈ its.toArray → SeqAt.EqAt X.A.in1 s w u (PyData.eqv (SeqAt.readOf s.heap w) (toPD m depthB x)) := by
  obtain ⟨d1, c1, l1⟩ := dp_of R depthB x y h1 rx
  obtain ⟨d2, c2, l2⟩ := dps_of (dp_of R depthB) ys vs h2 q
  obtain ⟨bs, r1⟩ := L2.Dp.reads I _ _ _ d1 ru
  obtain ⟨as, r2⟩ := L2.Dp.readsAll I _ _ its d2 r
  refine ⟨SeqAt.readsAll_map _ _ _ c2 r2, ?_⟩
  exact SeqAt.items_eqAt (vs := its.toArray) (show ReadsAll s.heap its.toArray.toList _ as from r2) r1 c2 c1 (room_in_shaped (shaped_of c1 l1 (by decide)) hu)
theorem countL_ok (hu : X.A.units + 65 < cLine) : MtR X "list.count" (rM X.K fa n0 countL) := by
  intro pins s σ H x vs v us Q I rx rs h
  obtain ⟨ρ, m, a, as, z, m', R, ra, rr, e, g⟩ := h
  unfold countL at e
  split at e
  · rename_i n y
    obtain ⟨rfl, hn⟩ := rv_loc ra
    obtain ⟨w, rfl, rw'⟩ := rvs1 rr
    split at e
    · rename_i ys el
      split at e
      · rename_i hk
        cases e
        rw [Bool.and_eq_true] at hk
        cases rx
        obtain ⟨ws, hS, q⟩ := rel_seq R el
        obtain ⟨its, r, pl, hz⟩ := I.list hS
        obtain ⟨u, rfl, ru⟩ := L2.vals1 rs
        obtain ⟨e1, e2⟩ := asks hu I R hk.1 hk.2 rw' ru q r
        obtain ⟨⟨cls, dd, data, sl⟩, ho, hc, n', hd⟩ := pl.isList
        simp only at hc hd
        subst hc hd
        refine call_meets F.slot_list_count ⟨_, ho, rfl⟩ F.entry_list_count (F.args_list_count_2 _ _) (SeqAt.list_countAt (ρ n) its.toArray n' dd sl u _) ⟨ho, e2, ?_⟩
        refine ⟨.int _, H, I.tok _, ⟨_, rfl⟩, ?_⟩
        have ec : its.toArray.toList.countP (fun w => PyData.eqv (SeqAt.readOf s.heap w) (toPD m depthB y)) = ys.countP fun z => eqb m depthB z y := by
          rw [count_of ys hk.1 hk.2, ← e1, List.countP_map]; rfl
        rw [ec]
        exact same_val g R (.int _)
      · cases e
    · cases e
  · cases e
theorem countT_ok (hu : X.A.units + 65 < cLine) : MtR X "tuple.count" (rM X.K fa n0 countT) := by
  intro pins s σ H x vs v us Q I rx rs h
  obtain ⟨ρ, m, a, as, z, m', R, ra, rr, e, g⟩ := h
  unfold countT at e
  split at e
  · rename_i ys y
    obtain ⟨t, o, ws, rfl, ht, hd0, q⟩ := rv_tup ra
    obtain ⟨w, rfl, rw'⟩ := rvs1 rr
    split at e
    · rename_i hk
      cases e
      rw [Bool.and_eq_true] at hk
      cases rx
      obtain ⟨its, r, pl, hz⟩ := I.tuple (sqT_of ht)
      obtain ⟨u, rfl, ru⟩ := L2.vals1 rs
      obtain ⟨e1, e2⟩ := asks hu I R hk.1 hk.2 rw' ru q r
      obtain ⟨⟨cls, dd, data, sl⟩, ho, hc, n', hd⟩ := pl
      simp only at hc hd
      subst hc hd
      refine call_meets F.slot_tuple_count ⟨_, ho, rfl⟩ F.entry_tuple_count (F.args_tuple_count_2 _ _) (SeqAt.tuple_countAt t its.toArray n' dd sl u _) ⟨ho, e2, ?_⟩
      refine ⟨.int _, H, I.tok _, ⟨_, rfl⟩, ?_⟩
      have ec : its.toArray.toList.countP (fun w => PyData.eqv (SeqAt.readOf s.heap w) (toPD m depthB y)) = ys.countP fun z => eqb m depthB z y := by
        rw [count_of ys hk.1 hk.2, ← e1, List.countP_map]; rfl
      rw [ec]
      exact same_val g R (.int _)
    · cases e
  · cases e
theorem place {its : List Value} {h : Heap} {ds : List PyData} {d : PyData} {j : Nat} (e1 : its.map (SeqAt.readOf h) = ds) (ef : (ds.findIdx? fun z => PyData.eqv z d) = some j) :
    ∃ hj : j < its.toArray.size, PyData.eqv (SeqAt.readOf h its.toArray[j]) d = true ∧ ∀ k (hk : k < its.toArray.size), k < j → PyData.eqv (SeqAt.readOf h its.toArray[k]) d = false := by
  subst e1
  obtain ⟨h1, h2, h3⟩ := List.findIdx?_eq_some_iff_getElem.mp ef
  have hj : j < its.length := by simpa using h1
  refine ⟨by simpa using hj, by simpa using h2, fun k hk hkj => ?_⟩
  have := h3 k hkj
  simpa using this
theorem indexL_ok (hu : X.A.units + 65 < cLine) : MtR X "list.index" (rM X.K fa n0 indexL) := by
  intro pins s σ H x vs v us Q I rx rs h
  obtain ⟨ρ, m, a, as, z, m', R, ra, rr, e, g⟩ := h
  unfold indexL at e
  split at e
  · rename_i n y
    obtain ⟨rfl, hn⟩ := rv_loc ra
    obtain ⟨w, rfl, rw'⟩ := rvs1 rr
    split at e
    · rename_i ys el
      split at e
      · rename_i hk
        split at e
        · rename_i j ej
          cases e
          rw [Bool.and_eq_true] at hk
          cases rx
          obtain ⟨ws, hS, q⟩ := rel_seq R el
          obtain ⟨its, r, pl, hz⟩ := I.list hS
          obtain ⟨u, rfl, ru⟩ := L2.vals1 rs
          obtain ⟨e1, e2⟩ := asks hu I R hk.1 hk.2 rw' ru q r
          rw [find_of ys hk.1 hk.2] at ej
          obtain ⟨hj, p1, p2⟩ := place e1 ej
          obtain ⟨⟨cls, dd, data, sl⟩, ho, hc, n', hd⟩ := pl.isList
          simp only at hc hd
          subst hc hd
          have hs63 := line63
          have hlen := r.length
          rw [List.size_toArray] at hj
          refine call_meets F.slot_list_index ⟨_, ho, rfl⟩ F.entry_list_index (F.args_list_index_2 _ _) (SeqAt.list_indexAt (ρ n) its.toArray n' dd sl u _ j (by simpa using hj) (by have := sizeLine_eq; omega) p1 p2) ⟨ho, e2, ?_⟩
          exact ⟨.int _, H, I.tok _, ⟨_, rfl⟩, same_val g R (.int _)⟩
        · cases e
      · cases e
    · cases e
  · cases e
theorem indexT_ok (hu : X.A.units + 65 < cLine) : MtR X "tuple.index" (rM X.K fa n0 indexT) := by
  intro pins s σ H x vs v us Q I rx rs h
  obtain ⟨ρ, m, a, as, z, m', R, ra, rr, e, g⟩ := h
  unfold indexT at e
  split at e
  · rename_i ys y
    obtain ⟨t, o, ws, rfl, ht, hd0, q⟩ := rv_tup ra
    obtain ⟨w, rfl, rw'⟩ := rvs1 rr
    split at e
    · rename_i hk
      split at e
      · rename_i j ej
        cases e
        rw [Bool.and_eq_true] at hk
        cases rx
        obtain ⟨its, r, pl, hz⟩ := I.tuple (sqT_of ht)
        obtain ⟨u, rfl, ru⟩ := L2.vals1 rs
        obtain ⟨e1, e2⟩ := asks hu I R hk.1 hk.2 rw' ru q r
        rw [find_of ys hk.1 hk.2] at ej
        obtain ⟨hj, p1, p2⟩ := place e1 ej
        obtain ⟨⟨cls, dd, data, sl⟩, ho, hc, n', hd⟩ := pl
        simp only at hc hd
        subst hc hd
        refine call_meets F.slot_tuple_index ⟨_, ho, rfl⟩ F.entry_tuple_index (F.args_tuple_index_2 _ _) (TI.tuple_indexAt t its.toArray n' dd sl u _ j hj p1 p2) ⟨ho, e2, ?_⟩
        exact ⟨.int _, H, I.tok _, ⟨_, rfl⟩, same_val g R (.int _)⟩
      · cases e
    · cases e
  · cases e
end
end Dp
set_option Elab.async false
set_option linter.all false
set_option maxRecDepth 100000
/-! Dp10: what a run of the small language promises. -/
namespace Dp
open PySem PySem.Spec PyProof.Rows L2

section
variable {K : PySem.W.Frag} {fa ρ ρ1 : Nat → Addr} {n0 : Nat} {m m1 : Mem} {H H1 : L2.Hp} {α β : Type} {ma : α → Mem} {mb : β → Mem}
/-- r's end, in whatever later heap it lies -/
def Out (K : PySem.W.Frag) (fa : Nat → Addr) (n0 : Nat) (mem : α → Mem) (ρ : Nat → Addr) (m : Mem) (H : L2.Hp) (r : Res α) (P : α → (Nat → Addr) → L2.Hp → Prop) (E : Nat → L2.Hp → Prop) : Prop := match r with
  | .ok a => ∀ ρ' H', Fut K fa n0 ρ m H ρ' (mem a) H' → P a ρ' H'
  | .exc k m' => ∀ ρ' H', Fut K fa n0 ρ m H ρ' m' H' → E k H'
  | .err => False
theorem Out.later {r : Res α} {P : α → (Nat → Addr) → L2.Hp → Prop} {E : Nat → L2.Hp → Prop} (h : Out K fa n0 ma ρ m H r P E) (F : Fut K fa n0 ρ m H ρ1 m1 H1) : Out K fa n0 ma ρ1 m1 H1 r P E := by
  cases r with
  | ok a => exact fun ρ' H' G => h ρ' H' (F.trans G)
  | exc k m' => exact fun ρ' H' G => h ρ' H' (F.trans G)
  | err => exact h
theorem Out.imp {r : Res α} {P P' : α → (Nat → Addr) → L2.Hp → Prop} {E : Nat → L2.Hp → Prop} (h : Out K fa n0 ma ρ m H r P E) (f : ∀ a ρ' H', r = .ok a → Fut K fa n0 ρ m H ρ' (ma a) H' → P a ρ' H' → P' a ρ' H') : Out K fa n0 ma ρ m H r P' E := by
  cases r with
  | ok a => exact fun ρ' H' G => f a ρ' H' rfl G (h ρ' H' G)
  | exc k m' => exact h
  | err => exact h
theorem Out.bd {r : Res α} {f : α → Res β} {P : β → (Nat → Addr) → L2.Hp → Prop} {E : Nat → L2.Hp → Prop} (h : Out K fa n0 mb ρ m H (r.bd f) P E) : Out K fa n0 ma ρ m H r (fun a ρ1 H1 => Out K fa n0 mb ρ1 (ma a) H1 (f a) P E) E := by
  cases r with
  | ok a => exact fun ρ' H' G => Out.later (r := f a) h G
  | exc k m' => exact h
  | err => exact h
/-- an operation: it raises nothing -/
theorem Out.op {r : Res α} {P : α → (Nat → Addr) → L2.Hp → Prop} {E : Nat → L2.Hp → Prop} (h : Out K fa n0 ma ρ m H r P E) (ne : ∀ k m', r ≠ .exc k m') : ∃ a, r = .ok a ∧ ∀ ρ' H', Fut K fa n0 ρ m H ρ' (ma a) H' → P a ρ' H' := by
  cases r with
  | ok a => exact ⟨a, rfl, h⟩
  | exc k m' => exact absurd rfl (ne k m')
  | err => exact h.elim

/-- the small language's state lies in the row's -/
structure At (K : PySem.W.Frag) (ξ : Nat → V → Prop) (fa : Nat → Addr) (n0 : Nat) (ρ : Nat → Addr) (env : Env) (m : Mem) (σ : L2.St) (H : L2.Hp) : Prop where
  rel : Rel K fa ρ m H
  env : REnv ξ fa ρ m.length H env σ
  le : n0 ≤ m.length
theorem At.later {ξ : Nat → V → Prop} {env : Env} {σ : L2.St} (a : At K ξ fa n0 ρ env m σ H) (F : Fut K fa n0 ρ m H ρ1 m1 H1) : At K ξ fa n0 ρ1 env m1 σ H1 := ⟨F.rel, F.env a.env, Nat.le_trans a.le F.le⟩
end

/-- the setting: the object's facts, the exceptions in hand, the functions' places, the errors' classes -/
structure Sg where
  K : PySem.W.Frag
  ξ : Nat → V → Prop
  fa : Nat → Addr
  ca : Nat → Value
abbrev Sg.at (S : Sg) (g : Cfg) (ρ : Nat → Addr) (env : Env) (m : Mem) (σ : L2.St) (H : L2.Hp) : Prop := At S.K S.ξ S.fa g.n0 ρ env m σ H
abbrev vP (S : Sg) (Q : VK) : PV × Mem → (Nat → Addr) → L2.Hp → Prop := fun a ρ' H' => ∀ v, RV S.fa ρ' a.2.length H' a.1 v → Q v H'
abbrev wX (S : Sg) (W : WX) (σ : L2.St) : Nat → L2.Hp → Prop := fun k H' => W (S.ca k) none σ H'
def OutV (S : Sg) (W : WX) (g : Cfg) (ρ : Nat → Addr) (m : Mem) (σ : L2.St) (H : L2.Hp) (r : RE) (Q : VK) : Prop := Out S.K S.fa g.n0 Prod.snd ρ m H r (vP S Q) (wX S W σ)
def tE (S : Sg) (W : WX) (g : Cfg) (e : E) : TE := fun σ H Q => ∃ ρ env m, S.at g ρ env m σ H ∧ OutV S W g ρ m σ H (evE g env false e m) Q
def tT (S : Sg) (W : WX) (g : Cfg) (e : E) : TT := fun σ H Q => ∃ ρ env m, S.at g ρ env m σ H ∧ Out S.K S.fa g.n0 Prod.snd ρ m H (evE g env true e m) (fun a _ H' => ∃ b, a.1 = .bl b ∧ Q b H') (wX S W σ)
def tEs (S : Sg) (W : WX) (g : Cfg) (es : Es) : TA := fun σ H Q => ∃ ρ env m, S.at g ρ env m σ H ∧ Out S.K S.fa g.n0 Prod.snd ρ m H (evEs g env es m) (fun a ρ' H' => ∀ vs, RVs S.fa ρ' a.2.length H' a.1 vs → Q vs H') (wX S W σ)
theorem PE.imp {X : Cx} {x : Expr} {t t' : TE} (h : PE X x t') (i : ∀ σ H Q, t σ H Q → t' σ H Q) : PE X x t := ⟨fun pins s σ H Q I w => h.run pins s σ H Q I (i σ H Q w)⟩
theorem PT.imp {X : Cx} {x : Expr} {t t' : TT} (h : PT X x t') (i : ∀ σ H Q, t σ H Q → t' σ H Q) : PT X x t := ⟨fun pins s σ H Q I w => h.run pins s σ H Q I (i σ H Q w)⟩
theorem PW.imp {X : Cx} {x : Expr} {t t' : TT} (h : PW X x t') (i : ∀ σ H Q, t σ H Q → t' σ H Q) : PW X x t := ⟨fun wh pins s σ H Q I w => h.run wh pins s σ H Q I (i σ H Q w)⟩
theorem PA.imp {X : Cx} {x : List Expr} {t t' : TA} (h : PA X x t') (i : ∀ σ H Q, t σ H Q → t' σ H Q) : PA X x t := ⟨fun pos pins s σ H Q I w => h.run pos pins s σ H Q I (i σ H Q w)⟩
theorem PS.imp {X : Cx} {x : Stmt} {t t' : TS} (h : PS X x t') (i : ∀ D σ H, t D σ H → t' D σ H) : PS X x t := ⟨fun pins s σ H D I w => h.run pins s σ H D I (i D σ H w)⟩
theorem PSs.imp {X : Cx} {x : List Stmt} {t t' : TS} (h : PSs X x t') (i : ∀ D σ H, t D σ H → t' D σ H) : PSs X x t := ⟨fun pins s σ H D I w => h.run pins s σ H D I (i D σ H w)⟩

/-! ### operations raise nothing -/
theorem ne_obl (h : Mem) (o : Option Bool) (k : Nat) (m' : Mem) : obl h o ≠ .exc k m' := by
  cases o <;> (intro e; cases e)
theorem ne_bin (h : Mem) (o : Op) (x y : PV) (k : Nat) (m' : Mem) : binB h o x y ≠ .exc k m' := by
  intro e; unfold binB at e; split at e <;> (try split at e) <;> (try split at e) <;> cases e
theorem ne_cmp (h : Mem) (o : Cp) (x y : PV) (k : Nat) (m' : Mem) : cmpB h o x y ≠ .exc k m' := by
  intro e; unfold cmpB at e
  cases o <;> dsimp only at e <;> (try exact ne_obl _ _ _ _ e) <;> (repeat' split at e) <;> first | (cases e; done) | exact ne_obl _ _ _ _ e
theorem obl_bl {h : Mem} {o : Option Bool} {z : PV} {m' : Mem} (e : obl h o = .ok (z, m')) : ∃ k, z = .bl k := by
  cases o with
  | none => cases e
  | some b => cases e; exact ⟨_, rfl⟩
theorem cmp_bl {h : Mem} {o : Cp} {x y z : PV} {m' : Mem} (e : cmpB h o x y = .ok (z, m')) : ∃ k, z = .bl k := by
  unfold cmpB at e
  cases o <;> dsimp only at e <;> (try exact obl_bl e) <;> (repeat' split at e) <;> first | (cases e; done) | exact obl_bl e | (cases e; exact ⟨_, rfl⟩)
theorem ne_get (h : Mem) (x y : PV) (k : Nat) (m' : Mem) : getB h x y ≠ .exc k m' := by
  intro e; unfold getB at e; split at e <;> (try split at e) <;> (try split at e) <;> (try split at e) <;> cases e
theorem ne_sl (h : Mem) (x : PV) (a b c : Option Int) (k : Nat) (m' : Mem) : slI h x a b c ≠ .exc k m' := by
  intro e; unfold slI at e; split at e <;> (try split at e) <;> cases e
theorem ne_set (n : Nat) (h : Mem) (x y z : PV) (k : Nat) (m' : Mem) : setB n h x y z ≠ .exc k m' := by
  intro e; unfold setB at e; split at e <;> (try split at e) <;> (try split at e) <;> (try split at e) <;> cases e
theorem ne_blt (h : Mem) (b : Bf) (vs : List PV) (k : Nat) (m' : Mem) : bltB h b vs ≠ .exc k m' := by
  intro e; unfold bltB at e
  cases b <;> dsimp only at e <;>
    (first | unfold lenB at e | unfold absB at e | unfold allB at e | unfold anyB at e | unfold intB at e | unfold listB at e | unfold tupleB at e | unfold maxV at e | unfold minV at e | unfold rangeB at e | unfold sortedB at e | unfold ssetB at e | unfold lsetB at e | unfold sitemsB at e | unfold sumB at e | unfold dictV at e | unfold isiB at e) <;>
    (repeat' split at e) <;> cases e
theorem ne_mth (n : Nat) (h : Mem) (b : Mf) (c : Rc) (o : PV) (vs : List PV) (k : Nat) (m' : Mem) : mthB n h b c o vs ≠ .exc k m' := by
  intro e; unfold mthB at e
  split at e <;>
    (first | unfold appendB at e | unfold extendB at e | unfold countL at e | unfold countT at e | unfold dgetB at e | unfold indexL at e | unfold indexT at e | unfold popB at e | skip) <;>
    (repeat' split at e) <;> cases e
end Dp
set_option Elab.async false
set_option linter.all false
set_option maxRecDepth 100000
/-! Dp11: the expressions, form by form. -/
namespace Dp
open PySem PySem.Spec PyProof.Rows L2

/-! ### a test is the value's truth -/
theorem fin_t (r : RE) : fin true r = r.bd (fun q => match truB q.2 q.1 with
  | some b => .ok (.bl b, q.2)
  | none => .err) := rfl
theorem fin_f (r : RE) : fin false r = r := rfl
theorem fin_fin (r : RE) : fin true (fin true r) = fin true r := by
  cases r with
  | ok a =>
    rw [fin_t (.ok a), Res.bd_ok]
    cases truB a.2 a.1 <;> rfl
  | exc k m => rfl
  | err => rfl
theorem bd_assoc {α β γ : Type} (r : Res α) (f : α → Res β) (g : β → Res γ) : (r.bd f).bd g = r.bd fun a => (f a).bd g := by cases r <;> rfl
theorem fin_bd {α : Type} (r : Res α) (f : α → RE) : fin true (r.bd f) = r.bd fun a => fin true (f a) := by cases r <;> rfl
theorem ev_test (g : Cfg) (env : Env) : ∀ (e : E) (m : Mem), evE g env true e m = fin true (evE g env false e m)
  | .var _, _ => rfl
  | .lit _, _ => rfl
  | .gfn _, _ => rfl
  | .tup _, _ => rfl
  | .lst _, _ => rfl
  | .dct _, _ => rfl
  | .dctT _, _ => rfl
  | .bin _ _ _, _ => rfl
  | .neg _, _ => rfl
  | .not a, m => by
    show (evE g env true a m).bd _ = fin true ((evE g env true a m).bd _)
    rw [fin_bd]
    congr 1
    funext r
    cases r.1 <;> rfl
  | .cmp _ _ _, _ => rfl
  | .chain _ _ _ _ _, _ => rfl
  | .and a b, m => by
    show (evE g env true a m).bd _ = fin true ((evE g env false a m).bd _)
    rw [fin_bd, ev_test g env a m, fin_t, bd_assoc]
    congr 1
    funext r
    cases e : truB r.2 r.1 with
    | none => rfl
    | some k =>
      cases k with
      | true =>
        show evE g env true b r.2 = fin true (evE g env false b r.2)
        exact ev_test g env b r.2
      | false =>
        show (.ok (.bl false, r.2) : RE) = fin true (.ok r)
        rw [fin_t, Res.bd_ok, e]
  | .or a b, m => by
    show (evE g env true a m).bd _ = fin true ((evE g env false a m).bd _)
    rw [fin_bd, ev_test g env a m, fin_t, bd_assoc]
    congr 1
    funext r
    cases e : truB r.2 r.1 with
    | none => rfl
    | some k =>
      cases k with
      | true =>
        show (.ok (.bl true, r.2) : RE) = fin true (.ok r)
        rw [fin_t, Res.bd_ok, e]
      | false =>
        show evE g env true b r.2 = fin true (evE g env false b r.2)
        exact ev_test g env b r.2
  | .ite c a b, m => by
    show (evE g env true c m).bd _ = fin true ((evE g env true c m).bd _)
    rw [fin_bd]
    congr 1
    funext r
    cases r.1 with
    | bl k =>
      cases k with
      | true => exact ev_test g env a r.2
      | false => exact ev_test g env b r.2
    | _ => rfl
  | .call _ _, _ => rfl
  | .callK _ _ _ _, _ => rfl
  | .callV _ _, _ => rfl
  | .blt _ _, _ => rfl
  | .mth _ _ _, _ => rfl
  | .ix _ _, _ => rfl
  | .sl _ _ _ _, _ => rfl
  | .lc _ _ _ _ _, _ => rfl
  | .isX _ _, _ => rfl

theorem ev_bl {g : Cfg} {env : Env} {e : E} {m : Mem} {a : PV × Mem} (h : evE g env true e m = .ok a) : ∃ b, a.1 = .bl b := by
  rw [ev_test, fin_t] at h
  cases q : evE g env false e m with
  | exc k m => rw [q] at h; cases h
  | err => rw [q] at h; cases h
  | ok r =>
    rw [q, Res.bd_ok] at h
    cases e : truB r.2 r.1 with
    | none => rw [e] at h; cases h
    | some b => rw [e] at h; cases h; exact ⟨b, rfl⟩
section
variable {X : Cx} {S : Sg} {W : WX} {g : Cfg} {α : Type}
/-- from a run to the reading of its first step -/
theorem tE_bd {e : E} {σ : L2.St} {H : L2.Hp} {ρ : Nat → Addr} {env : Env} {m : Mem} {r : RE} {f : PV × Mem → RE} {Q Q' : VK} (A : S.at g ρ env m σ H) (h : OutV S W g ρ m σ H ((evE g env false e m).bd f) Q)
    (k : ∀ (a : PV × Mem) (ρ1 : Nat → Addr) (H1 : L2.Hp) (v : V), S.at g ρ1 env a.2 σ H1 → RV S.fa ρ1 a.2.length H1 a.1 v → (∀ x u, RV S.fa ρ m.length H x u → RV S.fa ρ1 a.2.length H1 x u) → OutV S W g ρ1 a.2 σ H1 (f a) Q → Q' v H1) : tE S W g e σ H Q' :=
  ⟨ρ, env, m, A, (Out.bd (ma := Prod.snd) h).imp fun a ρ1 H1 _ F p v rv => k a ρ1 H1 v (A.later F) rv (fun _ _ r => F.val r) p⟩
theorem tE_mono {e : E} {σ : L2.St} {H : L2.Hp} {Q Q' : VK} (h : tE S W g e σ H Q) (k : ∀ v H', Q v H' → Q' v H') : tE S W g e σ H Q' := by
  obtain ⟨ρ, env, m, A, h⟩ := h
  exact ⟨ρ, env, m, A, h.imp fun a ρ1 H1 _ F p v rv => k v H1 (p v rv)⟩
theorem tT_bd {e : E} {σ : L2.St} {H : L2.Hp} {ρ : Nat → Addr} {env : Env} {m : Mem} {mem : α → Mem} {f : PV × Mem → Res α} {P : α → (Nat → Addr) → L2.Hp → Prop} {Q' : Bool → L2.Hp → Prop} (A : S.at g ρ env m σ H) (h : Out S.K S.fa g.n0 mem ρ m H ((evE g env true e m).bd f) P (wX S W σ))
    (k : ∀ (b : Bool) (m1 : Mem) (ρ1 : Nat → Addr) (H1 : L2.Hp), S.at g ρ1 env m1 σ H1 → Fut S.K S.fa g.n0 ρ m H ρ1 m1 H1 → Out S.K S.fa g.n0 mem ρ1 m1 H1 (f (.bl b, m1)) P (wX S W σ) → Q' b H1) : tT S W g e σ H Q' :=
  ⟨ρ, env, m, A, (Out.bd (ma := Prod.snd) h).imp fun a ρ1 H1 er F p => by
    obtain ⟨b, eb⟩ := ev_bl er
    obtain ⟨a1, a2⟩ := a
    have eb : a1 = .bl b := eb
    subst eb
    exact ⟨b, rfl, k b a2 ρ1 H1 (A.later F) F p⟩⟩
theorem gives {ρ : Nat → Addr} {m : Mem} {σ : L2.St} {H : L2.Hp} {z : PV} {m' : Mem} {Q : VK} (h : OutV S W g ρ m σ H (.ok (z, m')) Q) : Gives S.K S.fa g.n0 ρ m H Q z m' := fun ρ' v H' F r => h ρ' H' F v r
theorem now {ρ : Nat → Addr} {m : Mem} {σ : L2.St} {H : L2.Hp} {z : PV} {v : V} {Q : VK} (h : OutV S W g ρ m σ H (.ok (z, m)) Q) (R : Rel S.K S.fa ρ m H) (r : RV S.fa ρ m.length H z v) : Q v H := h ρ H (.refl R) v r

theorem se_var {i : Nat} {x : Str} {pos : Pos} (hN : X.N[i]? = some x) (hv : Vis X.env.scope x) (hd : (x == ("__debug__" : Str)) = false) (hcd : (x == ("__classdict__" : Str)) = false) : PE X (.Name x pos) (tE S W g (.var i)) := by
  refine PE.imp (pe_var hN hv hd hcd) fun σ H Q ⟨ρ, env, m, A, h⟩ => ?_
  have h : OutV S W g ρ m σ H (match env[i]? with
    | some (some (.exn _)) => .err
    | some (some v) => .ok (v, m)
    | _ => .err) Q := h
  split at h
  · exact h.elim
  · rename_i v ne e
    obtain ⟨u, e1, q⟩ := A.env.at_ i v e
    have r : RV S.fa ρ m.length H v u := by
      cases v with
      | exn c => exact absurd rfl (ne c)
      | _ => exact q
    exact ⟨u, e1, now h A.rel r⟩
  · exact h.elim
theorem se_int {k : Int} {j : Nat} {pos : Pos} : PE X (.Constant (.int k) j pos) (tE S W g (.lit (.int k))) :=
  PE.imp pe_int fun σ H Q ⟨ρ, env, m, A, h⟩ => now (z := .int k) h A.rel (.int k)
theorem se_bl {k : Bool} {j : Nat} {pos : Pos} : PE X (.Constant (.bool k) j pos) (tE S W g (.lit (.bl k))) :=
  PE.imp pe_bl fun σ H Q ⟨ρ, env, m, A, h⟩ => now (z := .bl k) h A.rel (.bl k)
theorem se_non {j : Nat} {pos : Pos} : PE X (.Constant .none j pos) (tE S W g (.lit .non)) :=
  PE.imp pe_non fun σ H Q ⟨ρ, env, m, A, h⟩ => now (z := .non) h A.rel .non
theorem se_str {x : Str} {j : Nat} {pos : Pos} : PE X (.Constant (.str x) j pos) (tE S W g (.lit (.str x.cps.toList))) :=
  PE.imp pe_str fun σ H Q ⟨ρ, env, m, A, h⟩ => now (z := .str _) h A.rel (.str x)
theorem se_cn {x : Str} {k : Int} {t : Tok} {pos : Pos} (hg : Gl X x) (hm : X.mg x = some (.int k t)) (hd : (x == ("__debug__" : Str)) = false) : PE X (.Name x pos) (tE S W g (.lit (.int k))) :=
  PE.imp (pe_glob (v := .int k) hg hm ⟨t, rfl⟩ hd) fun σ H Q ⟨ρ, env, m, A, h⟩ => now (z := .int k) h A.rel (.int k)
theorem se_gfn {x : Str} {f : Nat} {pos : Pos} (hg : Gl X x) (hm : X.mg x = some (.ref (S.fa f))) (hd : (x == ("__debug__" : Str)) = false) : PE X (.Name x pos) (tE S W g (.gfn f)) :=
  PE.imp (pe_glob (v := .ref (S.fa f)) hg hm rfl hd) fun σ H Q ⟨ρ, env, m, A, h⟩ => now (z := .fn f) h A.rel (.fn f)
theorem se_bin {o : Op} {p : Operator} {a b : E} {x y : Expr} {pos : Pos} (hK : X.K = S.K) (hp : opB o p = true) (ha : PE X x (tE S W g a)) (hb : PE X y (tE S W g b)) : PE X (.BinOp x p y pos) (tE S W g (.bin o a b)) := by
  refine PE.imp (pe_op (bin_ok (fa := S.fa) (n0 := g.n0) hp) ha hb) fun σ H Q ⟨ρ, env, m, A, h⟩ => ?_
  refine tE_bd (r := .err) A (show OutV S W g ρ m σ H ((evE g env false a m).bd _) Q from h) fun a1 ρ1 H1 v A1 rv _ p1 => ?_
  refine tE_bd (r := .err) A1 p1 fun b1 ρ2 H2 u A2 ru kp p2 => ?_
  obtain ⟨⟨z, m'⟩, e, q⟩ := Out.op p2 (ne_bin _ _ _ _)
  rw [hK]
  exact ⟨ρ2, b1.2, a1.1, b1.1, z, m', A2.rel, kp _ _ rv, ru, e, fun ρ' v H' F r => q ρ' H' F v r⟩

theorem se_cmp {o : Cp} {p : CmpOp} {a b : E} {x y : Expr} {pos : Pos} (hK : X.K = S.K) (hu : X.A.units + 65 < cLine) (hp : cpB o p = true) (hm : behindInMarks p y = false) (ha : PE X x (tE S W g a)) (hb : PE X y (tE S W g b)) : PE X (.Compare x [p] [y] pos) (tE S W g (.cmp o a b)) := by
  refine PE.imp (pe_cmpR (cmp_ok (fa := S.fa) (n0 := g.n0) hp hu) ha hb hm) fun σ H Q ⟨ρ, env, m, A, h⟩ => ?_
  refine tE_bd (r := .err) A (show OutV S W g ρ m σ H ((evE g env false a m).bd _) Q from h) fun a1 ρ1 H1 v A1 rv _ p1 => ?_
  refine tE_bd (r := .err) A1 p1 fun b1 ρ2 H2 u A2 ru kp p2 => ?_
  obtain ⟨⟨z, m'⟩, e, q⟩ := Out.op p2 (ne_cmp _ _ _ _)
  rw [hK]
  exact ⟨ρ2, b1.2, a1.1, b1.1, z, m', A2.rel, kp _ _ rv, ru, e, fun ρ' v H' F r => q ρ' H' F v r⟩
theorem rv_blP {fa ρ : Nat → Addr} {L : Nat} {H : L2.Hp} {x : PV} {k : Bool} (h : x = .bl k) : ∀ v, RV fa ρ L H x v → v = .bl k := fun v r => by subst h; exact rv_bl r
/-- a test's end: its value's truth -/
theorem out_fin {σ : L2.St} {H : L2.Hp} {ρ : Nat → Addr} {m : Mem} {r : RE} {Q : Bool → L2.Hp → Prop} (h : Out S.K S.fa g.n0 Prod.snd ρ m H (fin true r) (fun a _ H' => ∃ b, a.1 = .bl b ∧ Q b H') (wX S W σ)) :
    Out S.K S.fa g.n0 Prod.snd ρ m H r (fun a _ H' => ∃ b, truB a.2 a.1 = some b ∧ Q b H') (wX S W σ) := by
  rw [fin_t] at h
  refine (Out.bd (ma := Prod.snd) h).imp fun a ρ1 H1 _ F p => ?_
  cases e : truB a.2 a.1 with
  | none => rw [e] at p; exact p.elim
  | some b =>
    rw [e] at p
    obtain ⟨b', e1, q⟩ := p ρ1 H1 (.refl F.rel)
    cases e1
    exact ⟨b, rfl, q⟩
theorem tru_bl {m : Mem} {x : PV} {b : Bool} {k : Bool} (h : truB m x = some b) (e : x = .bl k) : b = k := by subst e; cases h; rfl
theorem st_cmp {o : Cp} {p : CmpOp} {a b : E} {x y : Expr} {pos : Pos} (hK : X.K = S.K) (hu : X.A.units + 65 < cLine) (hp : cpB o p = true) (hm : behindInMarks p y = false) (ha : PE X x (tE S W g a)) (hb : PE X y (tE S W g b)) : PT X (.Compare x [p] [y] pos) (tT S W g (.cmp o a b)) := by
  refine PT.imp (pt_cmpR (cmp_ok (fa := S.fa) (n0 := g.n0) hp hu) ha hb hm) fun σ H Q ⟨ρ, env, m, A, h⟩ => ?_
  have h := out_fin (r := (evE g env false a m).bd fun r => (evE g env false b r.2).bd fun q => cmpB q.2 o r.1 q.1) h
  refine ⟨ρ, env, m, A, (Out.bd (ma := Prod.snd) h).imp fun a1 ρ1 H1 _ F1 p1 v rv => ?_⟩
  refine ⟨ρ1, env, a1.2, A.later F1, (Out.bd (ma := Prod.snd) p1).imp fun b1 ρ2 H2 _ F2 p2 u ru => ?_⟩
  obtain ⟨⟨z, m'⟩, e, q⟩ := Out.op p2 (ne_cmp _ _ _ _)
  rw [hK]
  refine ⟨ρ2, b1.2, a1.1, b1.1, z, m', F2.rel, F2.val rv, ru, e, fun ρ' v H' F r => ?_⟩
  obtain ⟨k, e1, q1⟩ := q ρ' H' F
  obtain ⟨k2, e2⟩ : ∃ k2, z = .bl k2 := cmp_bl e
  have := tru_bl (x := z) e1 e2
  subst this
  exact ⟨k, rv_blP e2 v r, q1⟩
theorem se_neg {a : E} {x : Expr} {pos : Pos} (ha : PE X x (tE S W g a)) : PE X (.UnaryOp .USub x pos) (tE S W g (.neg a)) := by
  refine PE.imp (pe_un un_neg ha) fun σ H Q ⟨ρ, env, m, A, h⟩ => ?_
  refine tE_bd (r := .err) A (show OutV S W g ρ m σ H ((evE g env false a m).bd _) Q from h) fun a1 ρ1 H1 v A1 rv _ p1 => ?_
  split at p1
  · rename_i i e
    rw [e] at rv
    exact ⟨i, rv_int rv, now (z := .int (-i)) p1 A1.rel (.int _)⟩
  · exact p1.elim
theorem se_not {a : E} {x : Expr} {pos : Pos} (hK : X.K = S.K) (ha : PE X x (tE S W g a)) : PE X (.UnaryOp .Not x pos) (tE S W g (.not a)) := by
  refine PE.imp (pe_notT ha) fun σ H Q ⟨ρ, env, m, A, h⟩ => ?_
  have h : OutV S W g ρ m σ H ((evE g env true a m).bd fun r => match r.1 with
    | .bl b => .ok (.bl (!b), r.2)
    | _ => .err) Q := h
  rw [ev_test, fin_t, bd_assoc] at h
  refine tE_bd (r := .err) A h fun a1 ρ1 H1 v A1 rv _ p1 => ?_
  cases e : truB a1.2 a1.1 with
  | none => rw [e] at p1; exact p1.elim
  | some b =>
    rw [e] at p1
    rw [hK]
    exact ⟨b, tru_of A1.rel rv e, now (z := .bl (!b)) p1 A1.rel (.bl _)⟩
theorem st_not {a : E} {x : Expr} {pos : Pos} (ha : PT X x (tT S W g a)) : PT X (.UnaryOp .Not x pos) (tT S W g (.not a)) := by
  refine PT.imp (pt_not ha) fun σ H Q ⟨ρ, env, m, A, h⟩ => ?_
  have h : Out S.K S.fa g.n0 Prod.snd ρ m H ((evE g env true a m).bd fun r => match r.1 with
    | .bl b => (.ok (PV.bl (!b), r.2) : RE)
    | _ => .err) (fun (a : PV × Mem) _ H' => ∃ b, a.1 = .bl b ∧ Q b H') (wX S W σ) := h
  refine tT_bd A h fun b m1 ρ1 H1 A1 F p1 => ?_
  obtain ⟨b', e1, q⟩ := p1 ρ1 H1 (.refl A1.rel)
  cases e1
  exact q
theorem st_plain {e : E} {x : Expr} (hK : X.K = S.K) (h : PE X x (tE S W g e)) (hp : ∀ whole, isTrue x X.env whole = (do let v ← whole; standAt x.pos; holding [v] (truthy v))) : PT X x (tT S W g e) := by
  refine PT.imp (pt_truth h hp) fun σ H Q ⟨ρ, env, m, A, h⟩ => ?_
  rw [ev_test] at h
  refine ⟨ρ, env, m, A, (out_fin h).imp fun a ρ1 H1 _ F p v rv => ?_⟩
  obtain ⟨b, e, q⟩ := p
  rw [hK]
  exact ⟨b, tru_of F.rel rv e, q⟩
theorem se_and {a b : E} {x y : Expr} {r : List Expr} {pos : Pos} (hK : X.K = S.K) (ha : PE X x (tE S W g a)) (hb : PE X (.BoolOp .And (y :: r) pos) (tE S W g b)) : PE X (.BoolOp .And (x :: y :: r) pos) (tE S W g (.and a b)) := by
  refine PE.imp (pe_andT ha hb) fun σ H Q ⟨ρ, env, m, A, h⟩ => ?_
  refine tE_bd (r := .err) A (show OutV S W g ρ m σ H ((evE g env false a m).bd fun r => match truB r.2 r.1 with
    | some true => evE g env false b r.2
    | some false => .ok r
    | none => .err) Q from h) fun a1 ρ1 H1 v A1 rv _ p1 => ?_
  cases e : truB a1.2 a1.1 with
  | none => rw [e] at p1; exact p1.elim
  | some k =>
    rw [e] at p1
    rw [hK]
    refine ⟨k, tru_of A1.rel rv e, ?_⟩
    cases k with
    | true => exact ⟨ρ1, env, a1.2, A1, p1⟩
    | false => exact now (z := a1.1) p1 A1.rel rv
theorem se_or {a b : E} {x y : Expr} {r : List Expr} {pos : Pos} (hK : X.K = S.K) (ha : PE X x (tE S W g a)) (hb : PE X (.BoolOp .Or (y :: r) pos) (tE S W g b)) : PE X (.BoolOp .Or (x :: y :: r) pos) (tE S W g (.or a b)) := by
  refine PE.imp (pe_orT ha hb) fun σ H Q ⟨ρ, env, m, A, h⟩ => ?_
  refine tE_bd (r := .err) A (show OutV S W g ρ m σ H ((evE g env false a m).bd fun r => match truB r.2 r.1 with
    | some true => .ok r
    | some false => evE g env false b r.2
    | none => .err) Q from h) fun a1 ρ1 H1 v A1 rv _ p1 => ?_
  cases e : truB a1.2 a1.1 with
  | none => rw [e] at p1; exact p1.elim
  | some k =>
    rw [e] at p1
    rw [hK]
    refine ⟨k, tru_of A1.rel rv e, ?_⟩
    cases k with
    | false => exact ⟨ρ1, env, a1.2, A1, p1⟩
    | true => exact now (z := a1.1) p1 A1.rel rv
theorem st_and {a b : E} {x y : Expr} {r : List Expr} {pos : Pos} (ha : PT X x (tT S W g a)) (hb : PW X (.BoolOp .And (y :: r) pos) (tT S W g b)) : PW X (.BoolOp .And (x :: y :: r) pos) (tT S W g (.and a b)) := by
  refine PW.imp (pw_and ha hb) fun σ H Q ⟨ρ, env, m, A, h⟩ => ?_
  refine tT_bd A (show Out S.K S.fa g.n0 Prod.snd ρ m H ((evE g env true a m).bd fun r => match truB r.2 r.1 with
    | some true => evE g env true b r.2
    | some false => .ok r
    | none => .err) (fun a _ H' => ∃ b, a.1 = .bl b ∧ Q b H') (wX S W σ) from h) fun k m1 ρ1 H1 A1 F p1 => ?_
  cases k with
  | true => exact ⟨ρ1, env, m1, A1, p1⟩
  | false =>
    obtain ⟨b', e1, q⟩ := p1 ρ1 H1 (.refl A1.rel)
    cases e1
    exact q
theorem st_or {a b : E} {x y : Expr} {r : List Expr} {pos : Pos} (ha : PT X x (tT S W g a)) (hb : PW X (.BoolOp .Or (y :: r) pos) (tT S W g b)) : PW X (.BoolOp .Or (x :: y :: r) pos) (tT S W g (.or a b)) := by
  refine PW.imp (pw_or ha hb) fun σ H Q ⟨ρ, env, m, A, h⟩ => ?_
  refine tT_bd A (show Out S.K S.fa g.n0 Prod.snd ρ m H ((evE g env true a m).bd fun r => match truB r.2 r.1 with
    | some true => .ok r
    | some false => evE g env true b r.2
    | none => .err) (fun a _ H' => ∃ b, a.1 = .bl b ∧ Q b H') (wX S W σ) from h) fun k m1 ρ1 H1 A1 F p1 => ?_
  cases k with
  | false => exact ⟨ρ1, env, m1, A1, p1⟩
  | true =>
    obtain ⟨b', e1, q⟩ := p1 ρ1 H1 (.refl A1.rel)
    cases e1
    exact q
/-- the last of an and, an or -/
theorem st_one {op : BoolOp} {b : E} {y : Expr} {pos : Pos} (h : PT X y (tT S W g b)) : PW X (.BoolOp op [y] pos) (tT S W g b) := by
  cases op with
  | And => exact pw_and1 h
  | Or => exact pw_or1 h
theorem se_ite {c a b : E} {x y z : Expr} {pos : Pos} (hc : PT X x (tT S W g c)) (ha : PE X y (tE S W g a)) (hb : PE X z (tE S W g b)) : PE X (.IfExp x y z pos) (tE S W g (.ite c a b)) := by
  refine PE.imp (pe_ifExp hc ha hb) fun σ H Q ⟨ρ, env, m, A, h⟩ => ?_
  refine tT_bd A (show Out S.K S.fa g.n0 Prod.snd ρ m H ((evE g env true c m).bd fun r => match r.1 with
    | .bl true => evE g env false a r.2
    | .bl false => evE g env false b r.2
    | _ => .err) (vP S Q) (wX S W σ) from h) fun k m1 ρ1 H1 A1 F p1 => ?_
  cases k with
  | true => exact ⟨ρ1, env, m1, A1, p1⟩
  | false => exact ⟨ρ1, env, m1, A1, p1⟩
theorem pt_ifExp {x y z : Expr} {tc ta tb : TT} {pos : Pos} (hc : PT X x tc) (ha : PT X y ta) (hb : PT X z tb) : PT X (.IfExp x y z pos) (fun σ H Q => tc σ H fun c H1 => if c = true then ta σ H1 Q else tb σ H1 Q) := by
  refine ⟨fun pins s σ H Q I h => ?_⟩
  show wpAny _ _ (do if ← isTrue x X.env (eval x X.env) then isTrue y X.env (eval y X.env) else isTrue z X.env (eval z X.env)) _ _ s
  refine wpAny_bind (thn (hc.run pins s σ H _ I h) fun d s1 ⟨H1, I1, q1⟩ => ?_)
  cases d with
  | true => exact ha.run pins s1 σ H1 Q I1 q1
  | false => exact hb.run pins s1 σ H1 Q I1 q1
theorem st_ite {c a b : E} {x y z : Expr} {pos : Pos} (hc : PT X x (tT S W g c)) (ha : PT X y (tT S W g a)) (hb : PT X z (tT S W g b)) : PT X (.IfExp x y z pos) (tT S W g (.ite c a b)) := by
  refine PT.imp (pt_ifExp hc ha hb) fun σ H Q ⟨ρ, env, m, A, h⟩ => ?_
  refine tT_bd A (show Out S.K S.fa g.n0 Prod.snd ρ m H ((evE g env true c m).bd fun r => match r.1 with
    | .bl true => evE g env true a r.2
    | .bl false => evE g env true b r.2
    | _ => .err) (fun a _ H' => ∃ b, a.1 = .bl b ∧ Q b H') (wX S W σ) from h) fun k m1 ρ1 H1 A1 F p1 => ?_
  cases k with
  | true => exact ⟨ρ1, env, m1, A1, p1⟩
  | false => exact ⟨ρ1, env, m1, A1, p1⟩

/-! ### chains -/
theorem se_chain {o q : Cp} {p r : CmpOp} {a b d : E} {x y z : Expr} {pos : Pos} (hK : X.K = S.K) (hu : X.A.units + 65 < cLine) (hp : cpB o p = true) (hq : cpB q r = true) (hm : lastMarks [p, r] [y, z] = false)
    (ha : PE X x (tE S W g a)) (hb : PE X y (tE S W g b)) (hd : PE X z (tE S W g d)) : PE X (.Compare x [p, r] [y, z] pos) (tE S W g (.chain o q a b d)) := by
  refine PE.imp (pe_chain (cmp_ok (fa := S.fa) (n0 := g.n0) hp hu) (cmp_ok (fa := S.fa) (n0 := g.n0) hq hu) ha hb hd hm) fun σ H Q ⟨ρ, env, m, A, h⟩ => ?_
  refine tE_bd (r := .err) A (show OutV S W g ρ m σ H ((evE g env false a m).bd _) Q from h) fun a1 ρ1 H1 v A1 rv _ p1 => ?_
  refine tE_bd (r := .err) A1 p1 fun b1 ρ2 H2 u A2 ru kp p2 => ?_
  obtain ⟨⟨z1, m3⟩, e, q2⟩ := Out.op (Out.bd (ma := Prod.snd) p2) (ne_cmp _ _ _ _)
  obtain ⟨k, ek⟩ := cmp_bl e
  subst ek
  rw [hK]
  refine ⟨ρ2, b1.2, a1.1, b1.1, _, m3, A2.rel, kp _ _ rv, ru, e, fun ρ3 w H3 F3 rw3 => ?_⟩
  have p3 := q2 ρ3 H3 F3
  have A3 := A2.later F3
  refine ⟨k, rv_bl rw3, ?_⟩
  cases k with
  | false => exact now (z := .bl false) p3 A3.rel (.bl _)
  | true =>
    refine tE_bd (r := .err) A3 (show OutV S W g ρ3 m3 σ H3 ((evE g env false d m3).bd _) Q from p3) fun d1 ρ4 H4 t A4 rt kp4 p4 => ?_
    obtain ⟨⟨z5, m5⟩, e5, q5⟩ := Out.op p4 (ne_cmp _ _ _ _)
    exact ⟨ρ4, d1.2, b1.1, d1.1, z5, m5, A4.rel, kp4 _ _ (F3.val ru), rt, e5, fun ρ' v H' F r => q5 ρ' H' F v r⟩
theorem st_chain {o q : Cp} {p r : CmpOp} {a b d : E} {x y z : Expr} {pos : Pos} (hK : X.K = S.K) (hu : X.A.units + 65 < cLine) (hp : cpB o p = true) (hq : cpB q r = true) (hm : lastMarks [p, r] [y, z] = false)
    (ha : PE X x (tE S W g a)) (hb : PE X y (tE S W g b)) (hd : PE X z (tE S W g d)) : PT X (.Compare x [p, r] [y, z] pos) (tT S W g (.chain o q a b d)) := by
  refine PT.imp (pt_chain (cmp_ok (fa := S.fa) (n0 := g.n0) hp hu) (cmp_ok (fa := S.fa) (n0 := g.n0) hq hu) ha hb hd hm) fun σ H Q ⟨ρ, env, m, A, h⟩ => ?_
  have h := out_fin (r := (evE g env false a m).bd fun r => (evE g env false b r.2).bd fun q1 => (cmpB q1.2 o r.1 q1.1).bd fun t => match t.1 with
    | .bl true => (evE g env false d t.2).bd fun u => cmpB u.2 q q1.1 u.1
    | .bl false => .ok (.bl false, t.2)
    | _ => .err) h
  refine ⟨ρ, env, m, A, (Out.bd (ma := Prod.snd) h).imp fun a1 ρ1 H1 _ F1 p1 v rv => ?_⟩
  have A1 := A.later F1
  refine ⟨ρ1, env, a1.2, A1, (Out.bd (ma := Prod.snd) p1).imp fun b1 ρ2 H2 _ F2 p2 u ru => ?_⟩
  have A2 := A1.later F2
  obtain ⟨⟨z1, m3⟩, e, q2⟩ := Out.op (Out.bd (ma := Prod.snd) p2) (ne_cmp _ _ _ _)
  obtain ⟨k, ek⟩ := cmp_bl e
  subst ek
  rw [hK]
  refine ⟨ρ2, b1.2, a1.1, b1.1, _, m3, F2.rel, F2.val rv, ru, e, fun ρ3 w H3 F3 rw3 => ?_⟩
  have p3 := q2 ρ3 H3 F3
  have A3 := A2.later F3
  refine ⟨k, rv_bl rw3, ?_⟩
  cases k with
  | false =>
    obtain ⟨b', e1, q1⟩ := p3 ρ3 H3 (.refl A3.rel)
    cases e1
    exact ⟨false, rfl, q1⟩
  | true =>
    refine ⟨ρ3, env, m3, A3, (Out.bd (ma := Prod.snd) (show Out S.K S.fa g.n0 Prod.snd ρ3 m3 H3 ((evE g env false d m3).bd _) _ _ from p3)).imp fun d1 ρ4 H4 _ F4 p4 t rt => ?_⟩
    obtain ⟨⟨z5, m5⟩, e5, q5⟩ := Out.op p4 (ne_cmp _ _ _ _)
    refine ⟨ρ4, d1.2, b1.1, d1.1, z5, m5, F4.rel, F4.val (F3.val ru), rt, e5, fun ρ' v H' F r => ?_⟩
    obtain ⟨k, e6, q6⟩ := q5 ρ' H' F
    obtain ⟨k2, e7⟩ := cmp_bl e5
    have := tru_bl (x := z5) e6 e7
    subst this
    exact ⟨k, rv_blP e7 v r, q6⟩
end
end Dp
set_option Elab.async false
set_option linter.all false
set_option maxRecDepth 100000
/-! Dp12: lists of arguments, displays, subscripts, slices, methods, built-ins, calls. -/
namespace Dp
open PySem PySem.Spec PyProof.Rows L2

/-! ### the text's own conditions -/
theorem star_of {x : Expr} (h : starB x = true) (xs : List Expr) (env : PySem.Env) : starEach (x :: xs) env = (false, eval x env) :: starEach xs env := by
  cases x <;> first | rfl | cases h
inductive Starless : List Expr → Prop
  | nil : Starless []
  | cons {x : Expr} {xs : List Expr} : starB x = true → Starless xs → Starless (x :: xs)
theorem Starless.any {pos : Pos} {env : PySem.Env} : ∀ {xs : List Expr}, Starless xs → (backTo pos (starEach xs env)).any (·.1) = false
  | _, .nil => rfl
  | _, .cons (x := x) (xs := xs) h t => by
    rw [star_of h]
    show (false || (backTo pos (starEach xs env)).any (·.1)) = false
    rw [Starless.any t]; rfl
theorem Starless.all {pos : Pos} {env : PySem.Env} : ∀ {xs : List Expr}, Starless xs → (backTo pos (starEach xs env)).all (fun x => !x.1) = true
  | _, .nil => rfl
  | _, .cons (x := x) (xs := xs) h t => by
    rw [star_of h]
    show (true && (backTo pos (starEach xs env)).all (fun x => !x.1)) = true
    rw [Starless.all t]; rfl
theorem plainIx_of {y : Expr} (h : sliceB y = true) : PlainIx y := by
  intro o i
  cases y <;> first | rfl | cases h
theorem base_of {x : Expr} (h : baseB x = true) (f : Str) (env : PySem.Env) : attributeBase x f env (eval x env) = eval x env := by
  cases x with
  | Call fn args kws pos =>
    cases fn with
    | Name id p =>
      cases args with
      | cons _ _ => rfl
      | nil =>
        cases kws with
        | cons _ _ => rfl
        | nil => cases h
    | _ => rfl
  | _ => rfl
theorem sets_of {x : Expr} (h : setsB x = true) (env : PySem.Env) (v : Value) : foldedSetIterable x env v = pure v := by
  cases x <;> first | rfl | cases h
def Es.len : Es → Nat
  | .nil => 0
  | .cons _ es => es.len + 1
theorem evEs_len {g : Cfg} {env : Env} : ∀ {es : Es} {m : Mem} {a : List PV × Mem}, evEs g env es m = .ok a → a.1.length = es.len
  | .nil, m, a, h => by
    have h : (.ok ([], m) : Res (List PV × Mem)) = .ok a := h
    cases h; rfl
  | .cons e es, m, a, h => by
    have h : ((evE g env false e m).bd fun r => (evEs g env es r.2).bd fun q => .ok (r.1 :: q.1, q.2)) = .ok a := h
    cases e1 : evE g env false e m with
    | exc k m => rw [e1] at h; cases h
    | err => rw [e1] at h; cases h
    | ok r =>
      rw [e1, Res.bd_ok] at h
      cases e2 : evEs g env es r.2 with
      | exc k m => rw [e2] at h; cases h
      | err => rw [e2] at h; cases h
      | ok q =>
        rw [e2, Res.bd_ok] at h
        cases h
        show q.1.length + 1 = es.len + 1
        rw [evEs_len e2]

section
variable {X : Cx} {S : Sg} {W : WX} {g : Cfg} {α : Type}
theorem tEs_bd {es : Es} {σ : L2.St} {H : L2.Hp} {ρ : Nat → Addr} {env : Env} {m : Mem} {mem : α → Mem} {f : List PV × Mem → Res α} {P : α → (Nat → Addr) → L2.Hp → Prop} {Q' : List V → L2.Hp → Prop} (A : S.at g ρ env m σ H) (h : Out S.K S.fa g.n0 mem ρ m H ((evEs g env es m).bd f) P (wX S W σ))
    (k : ∀ (a : List PV × Mem) (ρ1 : Nat → Addr) (H1 : L2.Hp) (vs : List V), S.at g ρ1 env a.2 σ H1 → a.1.length = es.len → RVs S.fa ρ1 a.2.length H1 a.1 vs → Fut S.K S.fa g.n0 ρ m H ρ1 a.2 H1 → Out S.K S.fa g.n0 mem ρ1 a.2 H1 (f a) P (wX S W σ) → Q' vs H1) : tEs S W g es σ H Q' :=
  ⟨ρ, env, m, A, (Out.bd (ma := Prod.snd) h).imp fun a ρ1 H1 er F p vs rv => k a ρ1 H1 vs (A.later F) (evEs_len er) rv F p⟩
theorem sa_nil : PA X [] (tEs S W g .nil) := PA.imp pa_nil fun σ H Q ⟨ρ, env, m, A, h⟩ => (h : Out S.K S.fa g.n0 Prod.snd ρ m H (.ok ([], m)) _ _) ρ H (.refl A.rel) [] .nil
theorem sa_cons {e : E} {es : Es} {x : Expr} {xs : List Expr} (hs : starB x = true) (h1 : PE X x (tE S W g e)) (h2 : PA X xs (tEs S W g es)) : PA X (x :: xs) (tEs S W g (.cons e es)) := by
  refine PA.imp (pa_cons h1 h2 (star_of hs xs X.env)) fun σ H Q ⟨ρ, env, m, A, h⟩ => ?_
  refine ⟨ρ, env, m, A, (Out.bd (ma := Prod.snd) (show Out S.K S.fa g.n0 Prod.snd ρ m H ((evE g env false e m).bd fun r => (evEs g env es r.2).bd fun q => .ok (r.1 :: q.1, q.2)) _ _ from h)).imp fun a ρ1 H1 _ F p v rv => ?_⟩
  refine tEs_bd (A.later F) p fun b ρ2 H2 vs A2 _ rvs F2 p2 => ?_
  exact p2 ρ2 H2 (.refl A2.rel) (v :: vs) (.cons (F2.val rv) rvs)

/-! ### displays -/
theorem se_tup {es : Es} {xs : List Expr} {j : Nat} {pos : Pos} (hK : X.K = S.K) (hl : es.len ≤ 1000) (h : PA X xs (tEs S W g es)) : PE X (.Tuple xs j pos) (tE S W g (.tup es)) := by
  refine ⟨fun pins s σ H Q I ⟨ρ, env, m, A, hq⟩ => ?_⟩
  refine wpAny_Tuple_spliced (thn (h.run pos pins s σ H (fun vs H1 => vs.length ≤ 1000 ∧ ∀ o p, H1 p = none → (o.dict = none ∧ o.slots = #[]) → Q (.ref p) (upd H1 p (.frz o (.tup vs)))) I ?_) fun us s1 ⟨vs, H1, I1, r, hz, q⟩ => ?_)
  · refine tEs_bd A (show Out S.K S.fa g.n0 Prod.snd ρ m H ((evEs g env es m).bd fun r => .ok (.tup r.1, r.2)) (vP S Q) (wX S W σ) from hq) fun a ρ1 H1 vs A1 ha rvs F p => ⟨by rw [← rvs.length, ha]; exact hl, fun o p' hp hd => ?_⟩
    exact new_tup (X := { X with K := S.K }) (ρ := ρ1) (m := a.2) (gives (m := a.2) p) A1.rel rvs hp hd
  · have hz2 : vs.length ≤ sizeLine := by rw [sizeLine_eq]; omega
    exact ⟨by rw [← r.length]; exact hz2, .ref s1.heap.objs.size, _, mk_tup (t' := s1.toks) I1 r hz2, rfl, q _ _ (I1.hok.fresh (Nat.le_refl _)) ⟨rfl, rfl⟩⟩
theorem se_lst {es : Es} {xs : List Expr} {pos : Pos} (hl : es.len ≤ 1000) (h : PA X xs (tEs S W g es)) : PE X (.List xs pos) (tE S W g (.lst es)) := by
  refine PE.imp (pe_lst h) fun σ H Q ⟨ρ, env, m, A, hq⟩ => ?_
  refine tEs_bd A (show Out S.K S.fa g.n0 Prod.snd ρ m H ((evEs g env es m).bd fun r => .ok (.loc r.2.length, r.2 ++ [.lst r.1])) (vP S Q) (wX S W σ) from hq) fun a ρ1 H1 vs A1 ha rvs F p => ⟨by rw [← rvs.length, ha, sizeLine_eq]; omega, fun p' hp => ?_⟩
  exact new_lst (X := { X with K := S.K }) (ρ := ρ1) (m := a.2) (gives (m := a.2) p) A1.rel rvs hp

/-! ### subscripts, slices -/
theorem se_ix {o i : E} {x y : Expr} {pos : Pos} (hK : X.K = S.K) (hu : X.A.units + 65 < cLine) (hy : sliceB y = true) (ha : PE X x (tE S W g o)) (hb : PE X y (tE S W g i)) : PE X (.Subscript x y pos) (tE S W g (.ix o i)) := by
  refine PE.imp (pe_ix (get_ok (fa := S.fa) (n0 := g.n0) hu) ha hb (plainIx_of hy)) fun σ H Q ⟨ρ, env, m, A, h⟩ => ?_
  refine tE_bd (r := .err) A (show OutV S W g ρ m σ H ((evE g env false o m).bd _) Q from h) fun a1 ρ1 H1 v A1 rv _ p1 => ?_
  refine tE_bd (r := .err) A1 p1 fun b1 ρ2 H2 u A2 ru kp p2 => ?_
  obtain ⟨⟨z, m'⟩, e, q⟩ := Out.op p2 (ne_get _ _ _)
  rw [hK]
  exact ⟨ρ2, b1.2, a1.1, b1.1, z, m', A2.rel, kp _ _ rv, ru, e, fun ρ' v H' F r => q ρ' H' F v r⟩

/-- a part's value, where it is written -/
def RU (o : Option V) (u : Value) : Prop := match o with
  | none => u = Value.none
  | some v => L2.RelV v u
/-- a part of a slice -/
structure SO (X : Cx) (e : Option Expr) (t : L2.St → L2.Hp → (Option V → L2.Hp → Prop) → Prop) : Prop where
  run : ∀ (pins : List (Addr × Obj)) (s : Shared) (σ : L2.St) (H : L2.Hp) (Q : Option V → L2.Hp → Prop), L2.Inv X pins σ H s → t σ H Q →
    wpAny (model X.prog X.w) X.A (evalPart e X.env) (fun u s' => ∃ o H', L2.Inv X pins σ H' s' ∧ RU o u ∧ Q o H') X.xe s
def RO1 (fa ρ : Nat → Addr) (L : Nat) (H : L2.Hp) : Option PV → Option V → Prop
  | none, none => True
  | some x, some v => RV fa ρ L H x v
  | _, _ => False
def tO (S : Sg) (W : WX) (g : Cfg) (e : Oe) : L2.St → L2.Hp → (Option V → L2.Hp → Prop) → Prop := fun σ H Q => ∃ ρ env m, S.at g ρ env m σ H ∧ Out S.K S.fa g.n0 Prod.snd ρ m H (evO g env e m) (fun a ρ' H' => ∀ o, RO1 S.fa ρ' a.2.length H' a.1 o → Q o H') (wX S W σ)
theorem so_no : SO X none (tO S W g .no) := by
  refine ⟨fun pins s σ H Q I ⟨ρ, env, m, A, h⟩ => ?_⟩
  rw [evalPart_none]
  exact wpAny_pure ⟨none, H, I, rfl, (show Out S.K S.fa g.n0 Prod.snd ρ m H (.ok ((none : Option PV), m)) _ _ from h) ρ H (.refl A.rel) none True.intro⟩
theorem so_one {e : E} {x : Expr} (he : PE X x (tE S W g e)) : SO X (some x) (tO S W g (.one e)) := by
  refine ⟨fun pins s σ H Q I ⟨ρ, env, m, A, h⟩ => ?_⟩
  rw [evalPart_some]
  refine thn (he.run pins s σ H (fun v H1 => Q (some v) H1) I ?_) fun u s1 ⟨v, H1, I1, r1, q1⟩ => ⟨some v, H1, I1, r1, q1⟩
  refine ⟨ρ, env, m, A, (Out.bd (ma := Prod.snd) (show Out S.K S.fa g.n0 Prod.snd ρ m H ((evE g env false e m).bd fun r => .ok (some r.1, r.2)) _ _ from h)).imp fun a ρ1 H1 _ F p v rv => ?_⟩
  exact p ρ1 H1 (.refl F.rel) (some v) rv
theorem part_of {fa ρ : Nat → Addr} {L : Nat} {H : L2.Hp} {a : Option PV} {o : Option V} {u : Value} {lo : Option Int} (r : RO1 fa ρ L H a o) (ru : RU o u) (h : oint a = some lo) : IsPart u lo := by
  cases a with
  | none =>
    cases o with
    | some _ => exact r.elim
    | none =>
      have ru : u = Value.none := ru
      subst ru
      cases h
      exact .none
  | some x =>
    cases o with
    | none => exact r.elim
    | some v =>
      have r : RV fa ρ L H x v := r
      have ru : L2.RelV v u := ru
      unfold oint at h
      split at h
      · rename_i e; cases e
      · rename_i i e
        cases e
        split at h
        · cases h
          cases rv_int r
          obtain ⟨t, rfl⟩ := ru
          exact .int i t
        · cases h
      · cases h
theorem ro1_later {K : PySem.W.Frag} {fa ρ ρ1 : Nat → Addr} {n0 : Nat} {m m1 : Mem} {H H1 : L2.Hp} (F : Fut K fa n0 ρ m H ρ1 m1 H1) {a : Option PV} {o : Option V} (r : RO1 fa ρ m.length H a o) : RO1 fa ρ1 m1.length H1 a o := by
  cases a <;> cases o <;> first | exact r | exact F.val r
theorem ne_slB (h : Mem) (x : PV) (a b c : Option PV) (k : Nat) (m' : Mem) : slB h x a b c ≠ .exc k m' := by
  intro e; unfold slB at e; split at e
  · exact ne_sl _ _ _ _ _ _ _ e
  · cases e
theorem se_sl {o : E} {a b d : Oe} {x : Expr} {lo hi st : Option Expr} {pp pos : Pos} (hK : X.K = S.K) (ho : PE X x (tE S W g o)) (ha : SO X lo (tO S W g a)) (hb : SO X hi (tO S W g b)) (hd : SO X st (tO S W g d)) : PE X (.Subscript x (.Slice lo hi st pp) pos) (tE S W g (.sl o a b d)) := by
  refine ⟨fun pins s σ H Q I ⟨ρ, env, m, A, h⟩ => ?_⟩
  have h : OutV S W g ρ m σ H ((evE g env false o m).bd fun r => (evO g env a r.2).bd fun q => (evO g env b q.2).bd fun t => (evO g env d t.2).bd fun u => slB u.2 r.1 q.1 t.1 u.1) Q := h
  refine Subscript_ (thn (ho.run pins s σ H (fun v H1 => ∃ a0 ρ1, S.at g ρ1 env a0.2 σ H1 ∧ RV S.fa ρ1 a0.2.length H1 a0.1 v ∧ OutV S W g ρ1 a0.2 σ H1 ((evO g env a a0.2).bd fun q => (evO g env b q.2).bd fun t => (evO g env d t.2).bd fun u => slB u.2 a0.1 q.1 t.1 u.1) Q) I
    (tE_bd (r := .err) A h fun a1 ρ1 H1 v A1 rv _ p1 => ⟨a1, ρ1, A1, rv, p1⟩)) fun v s1 ⟨x1, H1, I1, r1, a1, ρ1, A1, rv1, p1⟩ => ?_)
  refine wpAny_Slice (thn (ha.run pins s1 σ H1 (fun o H2 => ∃ a2 ρ2, S.at g ρ2 env a2.2 σ H2 ∧ Fut S.K S.fa g.n0 ρ1 a1.2 H1 ρ2 a2.2 H2 ∧ RO1 S.fa ρ2 a2.2.length H2 a2.1 o ∧ OutV S W g ρ2 a2.2 σ H2 ((evO g env b a2.2).bd fun t => (evO g env d t.2).bd fun u => slB u.2 a1.1 a2.1 t.1 u.1) Q) I1
    ⟨ρ1, env, a1.2, A1, (Out.bd (ma := Prod.snd) p1).imp fun a2 ρ2 H2 _ F p o ro => ⟨a2, ρ2, A1.later F, F, ro, (show OutV S W g ρ2 a2.2 σ H2 _ Q from p)⟩⟩) fun vl s2 ⟨o2, H2, I2, ru2, a2, ρ2, A2, F2, ro2, p2⟩ => ?_)
  refine thn (hb.run pins s2 σ H2 (fun o H3 => ∃ a3 ρ3, S.at g ρ3 env a3.2 σ H3 ∧ Fut S.K S.fa g.n0 ρ2 a2.2 H2 ρ3 a3.2 H3 ∧ RO1 S.fa ρ3 a3.2.length H3 a3.1 o ∧ OutV S W g ρ3 a3.2 σ H3 ((evO g env d a3.2).bd fun u => slB u.2 a1.1 a2.1 a3.1 u.1) Q) I2
    ⟨ρ2, env, a2.2, A2, (Out.bd (ma := Prod.snd) p2).imp fun a3 ρ3 H3 _ F p o ro => ⟨a3, ρ3, A2.later F, F, ro, (show OutV S W g ρ3 a3.2 σ H3 _ Q from p)⟩⟩) fun vu s3 ⟨o3, H3, I3, ru3, a3, ρ3, A3, F3, ro3, p3⟩ => ?_
  refine thn (hd.run pins s3 σ H3 (fun o H4 => ∃ a4 ρ4, S.at g ρ4 env a4.2 σ H4 ∧ Fut S.K S.fa g.n0 ρ3 a3.2 H3 ρ4 a4.2 H4 ∧ RO1 S.fa ρ4 a4.2.length H4 a4.1 o ∧ OutV S W g ρ4 a4.2 σ H4 (slB a4.2 a1.1 a2.1 a3.1 a4.1) Q) I3
    ⟨ρ3, env, a3.2, A3, (Out.bd (ma := Prod.snd) p3).imp fun a4 ρ4 H4 _ F p o ro => ⟨a4, ρ4, A3.later F, F, ro, (show OutV S W g ρ4 a4.2 σ H4 _ Q from p)⟩⟩) fun vs s4 ⟨o4, H4, I4, ru4, a4, ρ4, A4, F4, ro4, p4⟩ => ?_
  obtain ⟨⟨z, m'⟩, e, q⟩ := Out.op p4 (ne_slB _ _ _ _ _)
  unfold slB at e
  split at e
  · rename_i l1 l2 l3 e1 e2 e3
    have I5 : L2.Inv X pins σ H4 { s4 with heap := s4.heap.push { cls := .type "slice", data := .fields #[vl, vu, vs] } } := I4.kept (t' := s4.toks) fun b ob q => Heap.get?_push_of_some _ q
    obtain ⟨T, id, hT, ht, hg⟩ := sl_ok (n0 := g.n0) (fa := S.fa) pins { s4 with heap := s4.heap.push { cls := .type "slice", data := .fields #[vl, vu, vs] } } σ H4 x1 v vl vu vs l1 l2 l3 s4.heap.objs.size Q I5 r1 (Heap.IsSliceOf.new ..)
      (part_of ro2 ru2 e1) (part_of ro3 ru3 e2) (part_of ro4 ru4 e3) (by rw [hK]; exact ⟨ρ4, a4.2, a1.1, z, m', A4.rel, F4.val (F3.val (F2.val rv1)), e, fun ρ' v H' F r => q ρ' H' F v r⟩)
    show wpAny (model X.prog X.w) X.A (subscriptTail x (.Slice lo hi st pp) v (.ref s4.heap.objs.size)) (EP X pins σ Q) X.xe { s4 with heap := s4.heap.push { cls := .type "slice", data := .fields #[vl, vu, vs] } }
    cases st with
    | none => exact tail_any (ops := [.ref s4.heap.objs.size, v]) ht hT hg (by with_unfolding_all rfl)
    | some st => exact tail_any (ops := [v, .ref s4.heap.objs.size]) ht hT hg (by with_unfolding_all rfl)
  · cases e

/-! ### a dict's display -/
inductive SPs (X : Cx) (S : Sg) (W : WX) (g : Cfg) : Es → List (Option Expr) → List Expr → Prop
  | nil : SPs X S W g .nil [] []
  | cons {k v : E} {es : Es} {x y : Expr} {xs : List (Option Expr)} {ys : List Expr} : PE X x (tE S W g k) → PE X y (tE S W g v) → SPs X S W g es xs ys → SPs X S W g (.cons k (.cons v es)) (some x :: xs) (y :: ys)
def trsOf (S : Sg) (W : WX) (g : Cfg) : Es → List (TE × TE)
  | .cons k (.cons v es) => (tE S W g k, tE S W g v) :: trsOf S W g es
  | _ => []
theorem SPs.pps {pos : Pos} : ∀ {es : Es} {xs : List (Option Expr)} {ys : List Expr}, SPs X S W g es xs ys → PPs X pos xs ys (trsOf S W g es)
  | _, _, _, .nil => pps_nil
  | _, _, _, .cons a b t => pps_cons a b (SPs.pps t)
theorem SPs.len : ∀ {es : Es} {xs : List (Option Expr)} {ys : List Expr}, SPs X S W g es xs ys → xs.length = ys.length ∧ (xs.all (·.isSome)) = true
  | _, _, _, .nil => ⟨rfl, rfl⟩
  | _, _, _, .cons a b t => ⟨by rw [List.length_cons, List.length_cons, t.len.1], by rw [List.all_cons, t.len.2]; rfl⟩
/-- keys, values as pairs -/
def VPs (fa ρ : Nat → Addr) (L : Nat) (H : L2.Hp) : List PV → List (V × V) → Prop
  | [], [] => True
  | k :: v :: r, p :: ps => RV fa ρ L H k p.1 ∧ RV fa ρ L H v p.2 ∧ VPs fa ρ L H r ps
  | _, _ => False
theorem VPs.later {K : PySem.W.Frag} {fa ρ ρ1 : Nat → Addr} {n0 : Nat} {m m1 : Mem} {H H1 : L2.Hp} (F : Fut K fa n0 ρ m H ρ1 m1 H1) : ∀ {xs : List PV} {ps : List (V × V)}, VPs fa ρ m.length H xs ps → VPs fa ρ1 m1.length H1 xs ps
  | [], [], _ => True.intro
  | [], _ :: _, h => h.elim
  | [_], _, h => by cases ‹List (V × V)› <;> exact h.elim
  | _ :: _ :: _, [], h => h.elim
  | k :: v :: r, p :: ps, h => ⟨F.val h.1, F.val h.2.1, VPs.later F h.2.2⟩
theorem pairs_out {env : Env} {σ : L2.St} : ∀ {es : Es} {xs : List (Option Expr)} {ys : List Expr}, SPs X S W g es xs ys → ∀ {ρ : Nat → Addr} {m : Mem} {H : L2.Hp} {Q : List (V × V) → L2.Hp → Prop}, S.at g ρ env m σ H →
    Out S.K S.fa g.n0 Prod.snd ρ m H (evEs g env es m) (fun a ρ' H' => ∀ ps, VPs S.fa ρ' a.2.length H' a.1 ps → Q ps H') (wX S W σ) → tPairs (trsOf S W g es) σ H Q
  | _, _, _, .nil, ρ, m, H, Q, A, h => (show Out S.K S.fa g.n0 Prod.snd ρ m H (.ok (([] : List PV), m)) _ _ from h) ρ H (.refl A.rel) [] True.intro
  | _, _, _, .cons (k := k) (v := v) (es := es) hk hv t, ρ, m, H, Q, A, h => by
    have h : Out S.K S.fa g.n0 Prod.snd ρ m H ((evE g env false k m).bd fun r => ((evE g env false v r.2).bd fun r2 => (evEs g env es r2.2).bd fun q => .ok (r2.1 :: q.1, q.2)).bd fun q => .ok (r.1 :: q.1, q.2)) (fun (a : List PV × Mem) ρ' H' => ∀ ps, VPs S.fa ρ' a.2.length H' a.1 ps → Q ps H') (wX S W σ) := h
    refine ⟨ρ, env, m, A, (Out.bd (ma := Prod.snd) h).imp fun a ρ1 H1 _ F1 p1 x rx => ?_⟩
    have A1 := A.later F1
    rw [bd_assoc] at p1
    refine ⟨ρ1, env, a.2, A1, (Out.bd (ma := Prod.snd) p1).imp fun b ρ2 H2 _ F2 p2 y ry => ?_⟩
    have A2 := A1.later F2
    rw [bd_assoc] at p2
    refine pairs_out t A2 ((Out.bd (ma := Prod.snd) p2).imp fun c ρ3 H3 _ F3 p3 ps hps => ?_)
    exact p3 ρ3 H3 (.refl F3.rel) ((x, y) :: ps) ⟨F3.val (F2.val rx), F3.val ry, hps⟩

theorem SPs.two : ∀ {es : Es} {xs : List (Option Expr)} {ys : List Expr}, SPs X S W g es xs ys → es.len = 2 * xs.length
  | _, _, _, .nil => rfl
  | _, _, _, .cons (es := es) (xs := xs) a b t => by
    show es.len + 1 + 1 = 2 * (xs.length + 1)
    rw [t.two]; omega
theorem dict_of {fa ρ : Nat → Addr} {L : Nat} {H : L2.Hp} : ∀ {xs : List PV} {ps : List (V × V)} {qs acc kvs : List (PV × PV)} {ks : List (Key × V)}, twosB xs = some qs → dictB acc qs = some kvs → VPs fa ρ L H xs ps → RK fa ρ L H acc ks →
    ∃ more : List (Key × V), ps = more.map (fun kv => (kV kv.1, kv.2)) ∧ RK fa ρ L H kvs (mergeK ks more) ∧ 2 * more.length = xs.length
  | [], [], qs, acc, kvs, ks, h1, h2, _, r => by
    cases h1; cases h2
    exact ⟨[], rfl, r, rfl⟩
  | [], _ :: _, _, _, _, _, _, _, h, _ => h.elim
  | [_], ps, _, _, _, _, h1, _, _, _ => by cases h1
  | _ :: _ :: _, [], _, _, _, _, _, _, h, _ => h.elim
  | k :: v :: xs, p :: ps, qs, acc, kvs, ks, h1, h2, h, r => by
    unfold twosB at h1
    obtain ⟨q2, e1, e2⟩ := Option.map_eq_some_iff.mp h1
    subst e2
    unfold dictB at h2
    split at h2
    · rename_i hk
      obtain ⟨b, e3, e4⟩ := okKey_of hk h.1
      subst e3
      obtain ⟨more, e5, e6, e7⟩ := dict_of e1 h2 h.2.2 (r.put b h.2.1)
      obtain ⟨p1, p2⟩ := p
      have e4 : p1 = kV b := e4
      subst e4 e5
      exact ⟨(b, p2) :: more, rfl, e6, by rw [List.length_cons, List.length_cons, List.length_cons]; omega⟩
    · cases h2
theorem dct_end {es : Es} {env : Env} {σ : L2.St} {H : L2.Hp} {ρ : Nat → Addr} {m : Mem} {Q : VK} (A : S.at g ρ env m σ H) (h : OutV S W g ρ m σ H (evE g env false (.dct es) m) Q) {p : Addr} (hp : H p = none) (n15 : es.len ≤ 30) :
    Out S.K S.fa g.n0 Prod.snd ρ m (upd H p (.dK [])) (evEs g env es m) (fun a ρ' H' => ∀ ps, VPs S.fa ρ' a.2.length H' a.1 ps →
      H' p = some (.dK []) ∧ ∃ kvs : List (Key × V), ps = kvs.map (fun kv => (kV kv.1, kv.2)) ∧ kvs.length ≤ 15 ∧ Q (.ref p) (upd H' p (.dK (mergeK [] kvs)))) (wX S W σ) := by
  have h : OutV S W g ρ m σ H ((evEs g env es m).bd fun r => match (twosB r.1).bind (dictB []) with
    | some kvs => .ok (.loc r.2.length, r.2 ++ [.dct kvs])
    | none => .err) Q := h
  cases er : evEs g env es m with
  | err => rw [er] at h; exact h.elim
  | exc k m' =>
    rw [er] at h
    exact fun ρ' H' F => h ρ' H' ((Fut.side A.rel hp).trans F)
  | ok a =>
    rw [er] at h
    intro ρ' H' F ps hps
    have h : OutV S W g ρ m σ H (match (twosB a.1).bind (dictB []) with
      | some kvs => .ok (.loc a.2.length, a.2 ++ [.dct kvs])
      | none => .err) Q := h
    obtain ⟨F1, hD⟩ := (FutD.start (n0 := g.n0) (u := .dK []) A.rel hp).step F upd_same
    cases e : (twosB a.1).bind (dictB []) with
    | none => rw [e] at h; exact h.elim
    | some kvs =>
      rw [e] at h
      obtain ⟨qs, e1, e2⟩ := Option.bind_eq_some_iff.mp e
      obtain ⟨more, e3, e4, e5⟩ := dict_of e1 e2 hps .nil
      refine ⟨hD, more, e3, by have := evEs_len er; omega, ?_⟩
      have F2 := F1.fill (w := .dK (mergeK [] more)) hD (fun _ _ z => by cases z) (fun _ _ z => by cases z)
      have kp : Keep H' (upd H' p (.dK (mergeK [] more))) := .write hD (fun _ _ z => by cases z) (fun _ _ z => by cases z)
      have F3 := FutD.born (o := .dct kvs) A.rel hp F2 fun ρ'' hr => ⟨_, upd_same, RK.mono hr (Nat.le_succ _) kp e4⟩
      have q := RV.loc (fa := S.fa) (ρ := fun n => if n < a.2.length then ρ' n else p) (L := (a.2 ++ [PO.dct kvs]).length) (H := upd H' p (.dK (mergeK [] more))) (n := a.2.length) (by rw [List.length_append]; exact Nat.lt_succ_self _)
      rw [if_neg (Nat.lt_irrefl _)] at q
      exact h _ _ F3 _ q
theorem se_dct {es : Es} {xs : List (Option Expr)} {ys : List Expr} {pos : Pos} (hs : SPs X S W g es xs ys) (h15 : xs.length ≤ 15) : PE X (.Dict xs ys pos) (tE S W g (.dct es)) := by
  have n15 : es.len ≤ 30 := by rw [hs.two]; omega
  cases hs with
  | nil =>
    refine PE.imp pe_dnewK fun σ H Q ⟨ρ, env, m, A, h⟩ => ?_
    intro p hp
    have q := dct_end A h hp n15
    have q : Out S.K S.fa g.n0 Prod.snd ρ m (upd H p (.dK [])) (.ok (([] : List PV), m)) _ _ := q
    obtain ⟨_, kvs, e1, _, q⟩ := q ρ _ (.refl (Fut.side A.rel hp (n0 := 0)).rel) [] True.intro
    cases kvs with
    | cons _ _ => cases e1
    | nil =>
      have e : upd (upd H p (.dK [])) p (.dK (mergeK [] [])) = upd H p (.dK []) := upd_upd
      rw [e] at q
      exact q
  | cons hk hv t =>
    have hs := SPs.cons hk hv t
    refine PE.imp (pe_disp hs.pps hs.len.2 hs.len.1 (by intro z; cases z) h15) fun σ H Q ⟨ρ, env, m, A, h⟩ => ?_
    intro p hp
    exact pairs_out hs (A.later (Fut.side A.rel hp)) (dct_end A h hp n15)
/-! ### a display whose keys are tuples -/
theorem vps_len {fa ρ : Nat → Addr} {L : Nat} {H : L2.Hp} : ∀ {xs : List PV} {ps : List (V × V)}, VPs fa ρ L H xs ps → 2 * ps.length = xs.length
  | [], [], _ => rfl
  | [], _ :: _, h => h.elim
  | [_], ps, h => by cases ps <;> exact h.elim
  | _ :: _ :: _, [], h => h.elim
  | _ :: _ :: xs, _ :: ps, h => by
    have := vps_len h.2.2
    rw [List.length_cons, List.length_cons, List.length_cons]
    omega
theorem dctT_end {es : Es} {env : Env} {σ : L2.St} {H : L2.Hp} {ρ : Nat → Addr} {m : Mem} {Q : VK} (A : S.at g ρ env m σ H) (h : OutV S W g ρ m σ H (evE g env false (.dctT es) m) Q) {p : Addr} (hp : H p = none) :
    Out S.K S.fa g.n0 Prod.snd ρ m (upd H p (.dK [])) (evEs g env es m) (fun a ρ' H' => ∀ ps, VPs S.fa ρ' a.2.length H' a.1 ps → H' p = some (.dK []) ∧ ∃ (ρ2 : Nat → Addr) (b : List PV × Mem) (qs kvs : List (PV × PV)),
      b.1.length = es.len ∧ twosB b.1 = some qs ∧ dictT [] qs = some kvs ∧ VPs S.fa ρ2 b.2.length H' b.1 ps ∧ ∀ o, (∀ ρ'', (∀ n, n < b.2.length → ρ'' n = ρ2 n) → RD S.fa ρ'' (b.2.length + 1) (upd H' p (dnO p o)) p kvs) → Q (.ref p) (upd H' p (dnO p o))) (wX S W σ) := by
  have h : OutV S W g ρ m σ H ((evEs g env es m).bd fun r => match (twosB r.1).bind (dictT []) with
    | some kvs => .ok (.loc r.2.length, r.2 ++ [.dtt kvs 0])
    | none => .err) Q := h
  cases er : evEs g env es m with
  | err => rw [er] at h; exact h.elim
  | exc k m' =>
    rw [er] at h
    exact fun ρ' H' F => h ρ' H' ((Fut.side A.rel hp).trans F)
  | ok a =>
    rw [er] at h
    intro ρ' H' F ps hps
    have h : OutV S W g ρ m σ H (match (twosB a.1).bind (dictT []) with
      | some kvs => .ok (.loc a.2.length, a.2 ++ [.dtt kvs 0])
      | none => .err) Q := h
    obtain ⟨F1, hD⟩ := (FutD.start (n0 := g.n0) (u := .dK []) A.rel hp).step F upd_same
    cases e : (twosB a.1).bind (dictT []) with
    | none => rw [e] at h; exact h.elim
    | some kvs =>
      rw [e] at h
      obtain ⟨qs, e1, e2⟩ := Option.bind_eq_some_iff.mp e
      refine ⟨hD, ρ', a, qs, kvs, evEs_len er, e1, e2, hps, fun o ro => ?_⟩
      have F2 := F1.fill (w := dnO p o) hD (fun _ _ z => by cases z) (fun _ _ z => by cases z)
      have F3 := FutD.born (o := .dtt kvs 0) A.rel hp F2 ro
      have q := RV.loc (fa := S.fa) (ρ := fun n => if n < a.2.length then ρ' n else p) (L := (a.2 ++ [PO.dtt kvs 0]).length) (H := upd H' p (dnO p o)) (n := a.2.length) (by rw [List.length_append]; exact Nat.lt_succ_self _)
      rw [if_neg (Nat.lt_irrefl _)] at q
      exact h _ _ F3 _ q
theorem vps_carry {P : Program} {w : World} {fa ρ : Nat → Addr} {L : Nat} {H : L2.Hp} {h : Heap} (ok : HOk P w H h) : ∀ {xs : List PV} {ps : List (V × V)} {ws : List (Value × Value)} {qs : List (PV × PV)}, twosB xs = some qs → (∀ q ∈ qs, okT q.1 = true) → VPs fa ρ L H xs ps → VV ps ws →
    ∃ zs, CarriesH (nestedKind P w) h ws zs ∧ Paired (RD1 fa ρ L H) qs zs
  | [], [], ws, qs, e, _, _, rel => by cases e; cases rel; exact ⟨[], True.intro, .nil⟩
  | [], _ :: _, _, _, _, _, r, _ => r.elim
  | [_], _, _, _, e, _, _, _ => by cases e
  | _ :: _ :: _, [], _, _, _, _, r, _ => r.elim
  | k :: v :: xs, (p1, p2) :: ps, ws, qs, e, hk, r, rel => by
    unfold twosB at e
    obtain ⟨q2, e1, rfl⟩ := Option.map_eq_some_iff.mp e
    cases rel with
    | cons a t =>
      obtain ⟨zs, c, pr⟩ := vps_carry ok e1 (fun q hq => hk q (List.mem_cons_of_mem _ hq)) r.2.2 t
      have r1 : RV fa ρ L H k p1 := r.1
      obtain ⟨b, kk, rfl, e4, e5⟩ := rv_key (hk (k, v) List.mem_cons_self) r1
      rename_i b2 _
      obtain ⟨w1, w2⟩ := b2
      have a1 : L2.RelV (.ref b) w1 := a.1
      have a2 : L2.RelV p2 w2 := a.2
      cases a1
      exact ⟨(kk, b, w2) :: zs, ⟨rfl, rfl, key_is ok r1 e4 e5, c⟩, .cons ⟨e4, r1, e5, p2, r.2.1, a2⟩ pr⟩
theorem se_dctT {es : Es} {xs : List (Option Expr)} {ys : List Expr} {pos : Pos} (hu : X.A.units + 65 < cLine) (hs : SPs X S W g es xs ys) (h0 : xs ≠ []) (h15 : xs.length ≤ 15) : PE X (.Dict xs ys pos) (tE S W g (.dctT es)) := by
  refine ⟨fun pins s σ H Q I ⟨ρ, env, m, A, h⟩ => ?_⟩
  have hn := I.hok.fresh (Nat.le_refl s.heap.objs.size)
  have J := I.laid (a := s.heap.objs.size) (o := .dK []) (h' := s.heap.push { cls := .type "dict", data := .dict #[] }) (t' := s.toks) (fun _ _ q => Heap.get?_push_of_some _ q) (Nat.le_refl _) (dk_empty s.heap I.big)
  have run := hs.pps (pos := pos) |>.run pins _ σ _ _ J (pairs_out hs (A.later (Fut.side A.rel hn)) (dctT_end A h hn))
  have hlen := pairTrees_length xs ys X.env pos hs.len.2 hs.len.1
  rw [arm_eval_Dict, zip_pairTrees xs ys X.env pos hs.len.2 hs.len.1, dictDisplay_pairs _ (fun z => h0 (by rw [z] at hlen; exact List.length_eq_zero_iff.mp hlen.symm)) (by omega)]
  refine wpAny_bind (wpAny_standAt (wpAny_bind (wpAny_subDictH (knd := nestedKind X.prog X.w) (Q := fun d s' => wpAny (model X.prog X.w) X.A (pure (Value.ref d)) (EP X pins σ Q) X.xe s') (show X.A.units + 8 < cLine by omega) (by omega) (thn run fun ws s2 ⟨ps, H2, I2, rel, hD, ρ2, b, qs, kvs, e0, e1, e2, vp, q⟩ => ?_))))
  obtain ⟨hall, rfl⟩ := dictT_all e2
  obtain ⟨zs, c, pr⟩ := vps_carry (P := X.prog) (w := X.w) I2.hok e1 hall vp rel
  obtain ⟨hsys, dd⟩ := dk_nested (P := X.prog) (w := X.w) I2.hok hD
  refine ⟨zs, c, dd, fun h' tk dd' hs' => wpAny_pure ?_⟩
  have hz : zs.length ≤ 15 := by
    have l1 := c.length
    have l2 := Paired.length rel
    have l3 := vps_len vp
    have l4 := hs.two
    omega
  have hl := storedAllH_len zs []
  rw [List.length_nil] at hl
  obtain ⟨o, ho, mk⟩ := rd_mk (kvs := qs.foldl (fun a q => putB q.1 q.2 a) []) dd' hsys (by rw [sizeLine_eq]; omega)
  refine ⟨.ref s.heap.objs.size, _, d_write (t' := tk) I2 (by rw [hD]; exact True.intro) hs' ⟨o, ho⟩ (ext_ok ho), rfl, q o fun ρ'' hr => mk upd_same ?_⟩
  have kp : Keep H2 (upd H2 s.heap.objs.size (dnO s.heap.objs.size o)) := .write hD (fun _ _ z => by cases z) (fun _ _ z => by cases z)
  exact Paired.mapP (put_all pr .nil) fun _ _ z => z.mono hr (Nat.le_succ _) kp
end
end Dp
set_option Elab.async false
set_option linter.all false
set_option maxRecDepth 100000
/-! Dp13: methods, built-ins, calls. -/
namespace Dp
open PySem PySem.Spec PyProof.Rows L2

def rcName : Rc → String
  | .list => "list"
  | .tuple => "tuple"
  | .dict => "dict"
theorem rc_is {X : Cx} {pins : List (Addr × Obj)} {σ : L2.St} {H : L2.Hp} {s : Shared} {fa ρ : Nat → Addr} {m : Mem} {a : PV} {x : V} {v : Value} {k : Rc} (I : L2.Inv X pins σ H s) (R : Rel X.K fa ρ m H) (ra : RV fa ρ m.length H a x) (rx : L2.RelV x v) (e : rcB m a = some k) :
    s.TypeIs v (rcName k) ∧ ∀ b, v = .ref b → ∃ ob, s.heap.get? b = some ob ∧ ob.dict = none := by
  have seqC : ∀ {n : Nat} {xs : List PV}, x = .ref (ρ n) → lstAt m n = some xs → s.TypeIs v "list" ∧ ∀ b, v = .ref b → ∃ ob, s.heap.get? b = some ob ∧ ob.dict = none := by
    intro n xs ex el
    subst ex
    cases rx
    obtain ⟨vs, hS, q⟩ := rel_seq R el
    obtain ⟨its, r, pl, hz⟩ := I.list hS
    refine ⟨pl.isList.typeIs, fun b e => ?_⟩
    cases e
    obtain ⟨o, n, e, c, hd, _⟩ := pl
    exact ⟨o, e, hd⟩
  unfold rcB at e
  split at e
  · cases e
    obtain ⟨t, o, vs, rfl, ht, hd, q⟩ := rv_tup ra
    cases rx
    obtain ⟨ho, hz2, its2, r2, ot, hot, hoc, n2, hod⟩ := (show ObjOk X.prog X.w H s.heap t (.frz o (.tup vs)) from I.hok t _ ht)
    refine ⟨⟨ot, hot, hoc⟩, fun b e => ?_⟩
    cases e
    exact ⟨o, ho, hd.1⟩
  · obtain ⟨ex, hn⟩ := rv_loc ra
    split at e
    · rename_i xs ek
      cases e
      exact seqC ex (by unfold lstAt; rw [ek])
    · rename_i xs ek
      cases e
      exact seqC ex (by unfold lstAt; rw [ek])
    · rename_i kvs ek
      cases e
      subst ex
      cases rx
      obtain ⟨qs, hq, rk⟩ := rel_dct R ek
      obtain ⟨_, _, _, _, o, _, _, e, ex, _⟩ := I.hok _ _ hq
      refine ⟨⟨o, e, ex.1⟩, fun b e2 => ?_⟩
      cases e2
      exact ⟨o, e, ex.2.1⟩
    · rename_i kvs w ek
      cases e
      subst ex
      cases rx
      obtain ⟨o, es, ep, xs, h1, _, ex, _⟩ := (show RD fa ρ m.length H _ _ from R.objs _ _ ek)
      have e : s.heap.get? _ = some o := (I.hok _ _ h1).1
      refine ⟨⟨o, e, ex.1⟩, fun b e2 => ?_⟩
      cases e2
      exact ⟨o, e, ex.2.1⟩
    · cases e
    · cases e
  · cases e
/-- a method: its place, its code, what it does -/
theorem mth_has {X : Cx} {fa : Nat → Addr} {n0 : Nat} (hu : X.A.units + 65 < cLine) {m : Mf} {k : Rc} (h : okM m k = true) :
    ∃ id, PlainAttrs (rcName k) ∧ Slot (rcName k) (mfName m) id ∧ typeOf (.builtin id) = pure (.type "method_descriptor") ∧ MtR X id (rM X.K fa n0 fun h o vs => mthB n0 h m k o vs) := by
  have hu1 : X.A.units + 1 < cLine := by omega
  cases m <;> cases k <;> first | (cases h; done) | skip
  · exact ⟨_, PySem.F.plainAttrs_list, PySem.F.slot_list_append, PySem.F.type_list_append, append_ok⟩
  · exact ⟨_, PySem.F.plainAttrs_list, PySem.F.slot_list_count, PySem.F.type_list_count, countL_ok hu⟩
  · exact ⟨_, PySem.F.plainAttrs_tuple, PySem.F.slot_tuple_count, PySem.F.type_tuple_count, countT_ok hu⟩
  · exact ⟨_, PySem.F.plainAttrs_list, PySem.F.slot_list_extend, PySem.F.type_list_extend, extend_ok⟩
  · exact ⟨_, PySem.F.plainAttrs_dict, PySem.F.slot_dict_get, PySem.F.type_dict_get, dget_ok hu⟩
  · exact ⟨_, PySem.F.plainAttrs_list, PySem.F.slot_list_index, PySem.F.type_list_index, indexL_ok hu⟩
  · exact ⟨_, PySem.F.plainAttrs_tuple, PySem.F.slot_tuple_index, PySem.F.type_tuple_index, indexT_ok hu⟩
  · exact ⟨_, PySem.F.plainAttrs_list, PySem.F.slot_list_pop, PySem.F.type_list_pop, pop_ok⟩

section
variable {X : Cx} {S : Sg} {W : WX} {g : Cfg} {α : Type}
theorem se_mth {m : Mf} {o : E} {es : Es} {x : Expr} {f : Str} {xs : List Expr} {apos cpos : Pos} (hK : X.K = S.K) (hu : X.A.units + 65 < cLine) (ho : PE X x (tE S W g o)) (ha : PA X xs (tEs S W g es)) (hf : f = mfName m) (hb : baseB x = true) (hl : (apos.endLine == cpos.line) = true) (hs : Starless xs) (hn : xs.length < 29) (h0 : xs = [] → es = .nil) :
    PE X (.Call (.Attribute x f apos) xs [] cpos) (tE S W g (.mth m o es)) := by
  subst hf
  refine ⟨fun pins s σ H Q I ⟨ρ, env, mm, A, h⟩ => ?_⟩
  have h : OutV S W g ρ mm σ H ((evE g env false o mm).bd fun r => match rcB r.2 r.1 with
    | some k => if okM m k then (evEs g env es r.2).bd fun q => mthB g.n0 q.2 m k r.1 q.1 else .err
    | none => .err) Q := h
  have go : wpAny (model X.prog X.w) X.A (eval x X.env) (fun ov s₁ => MethodOn X.prog X.w X.A (mfName m) cpos ov (backTo cpos (starEach xs X.env)) (EP X pins σ Q) X.xe s₁) X.xe s := by
    refine thn (ho.run pins s σ H (fun v H1 => ∃ (a : PV × Mem) (ρ1 : Nat → Addr) (k : Rc), S.at g ρ1 env a.2 σ H1 ∧ RV S.fa ρ1 a.2.length H1 a.1 v ∧ rcB a.2 a.1 = some k ∧ okM m k = true ∧ OutV S W g ρ1 a.2 σ H1 ((evEs g env es a.2).bd fun q => mthB g.n0 q.2 m k a.1 q.1) Q) I
      (tE_bd (r := .err) A h fun a ρ1 H1 v A1 rv _ p => ?_)) fun v s1 ⟨x1, H1, I1, r1, a, ρ1, k, A1, rv, ek, hk, p⟩ => ?_
    · cases ek : rcB a.2 a.1 with
      | none => rw [ek] at p; exact p.elim
      | some k =>
        rw [ek] at p
        cases hk : okM m k with
        | false =>
          have p : OutV S W g ρ1 a.2 σ H1 (if okM m k = true then _ else _) Q := p
          rw [hk, if_neg Bool.false_ne_true] at p
          exact p.elim
        | true =>
          have p : OutV S W g ρ1 a.2 σ H1 (if okM m k = true then _ else _) Q := p
          rw [hk, if_pos rfl] at p
          exact ⟨a, ρ1, k, A1, rv, ek, hk, p⟩
    · obtain ⟨h1, h2⟩ := rc_is I1 (by rw [hK]; exact A1.rel) rv r1 ek
      obtain ⟨id, pa, slot, hty, hm⟩ := mth_has (X := X) (fa := S.fa) (n0 := g.n0) hu hk
      refine ⟨rcName k, id, pa, slot, hty, h1, h2, ?_⟩
      have fin : ∀ {H2 : L2.Hp} {s2 : Shared} {vs : List V} {us : List Value}, L2.Inv X pins σ H2 s2 → L2.Vals vs us → (∃ (b : List PV × Mem) (ρ2 : Nat → Addr), S.at g ρ2 env b.2 σ H2 ∧ RVs S.fa ρ2 b.2.length H2 b.1 vs ∧ Fut S.K S.fa g.n0 ρ1 a.2 H1 ρ2 b.2 H2 ∧ OutV S W g ρ2 b.2 σ H2 (mthB g.n0 b.2 m k a.1 b.1) Q) →
          wpAny (model X.prog X.w) X.A (call (.builtin id) (v :: us)) (EP X pins σ Q) X.xe s2 := fun {H2 s2 vs us} I2 r2 ⟨b, ρ2, A2, rvs, F, p2⟩ => by
        obtain ⟨⟨z, m'⟩, e, q⟩ := Out.op p2 (ne_mth _ _ _ _ _ _)
        exact hm pins s2 σ H2 x1 vs v us Q I2 r1 r2 (by rw [hK]; exact ⟨ρ2, b.2, a.1, b.1, z, m', A2.rel, F.val rv, rvs, e, fun ρ' v H' F r => q ρ' H' F v r⟩)
      cases hs with
      | nil =>
        refine Calls.callWith_builtin rfl (PySem.evalArgs_none ?_)
        rw [h0 rfl] at p
        exact fin I1 .nil ⟨([], a.2), ρ1, A1, .nil, .refl A1.rel, (show OutV S W g ρ1 a.2 σ H1 ((.ok (([] : List PV), a.2) : Res (List PV × Mem)).bd fun q => mthB g.n0 q.2 m k a.1 q.1) Q from p)⟩
      | cons hx ht =>
        have hA := ha.run cpos pins s1 σ H1 (fun vs H2 => ∃ (b : List PV × Mem) (ρ2 : Nat → Addr), S.at g ρ2 env b.2 σ H2 ∧ RVs S.fa ρ2 b.2.length H2 b.1 vs ∧ Fut S.K S.fa g.n0 ρ1 a.2 H1 ρ2 b.2 H2 ∧ OutV S W g ρ2 b.2 σ H2 (mthB g.n0 b.2 m k a.1 b.1) Q) I1
          (tEs_bd A1 p fun b ρ2 H2 vs A2 _ rvs F p2 => ⟨b, ρ2, A2, rvs, F, (show OutV S W g ρ2 b.2 σ H2 _ Q from p2)⟩)
        rw [star_of hx] at hA ⊢
        refine Calls.callWith_builtin (by show (false || (backTo cpos (starEach _ X.env)).any (·.1)) = false; rw [ht.any] <;> rfl) (Calls.evalArgs_plain ?_)
        exact thn hA fun us s2 ⟨vs, H2, I2, r2, q2⟩ => fin I2 r2 q2
  cases hs with
  | nil => exact wpAny_Call_method0_late (base_of hb _ _) hl go
  | cons hx ht =>
    refine wpAny_Call_method_late (base_of hb _ _) ?_ hl rfl go
    rw [(Starless.cons hx ht).all]
    show (true && true && decide (_ + 0 + 0 < 30)) = true
    rw [decide_eq_true (by omega)]; rfl

/-! ### built-ins by name -/
/-- where a built-in's name leads -/
def bfVal : Bf → Value
  | .int => .type "int" | .list => .type "list" | .tuple => .type "tuple" | .range => .type "range"
  | .len => .builtin "len" | .abs => .builtin "abs" | .all => .builtin "all" | .any => .builtin "any" | .max => .builtin "max" | .min => .builtin "min"
  | .sorted => .builtin "sorted" | .sum => .builtin "sum" | _ => .none
theorem se_blt {b : Bf} {es : Es} {x : Expr} {xs : List Expr} {f : Str} {p pos : Pos} (hK : X.K = S.K) (hu : X.A.units + 65 < cLine) (hc : stillB b = true ∨ X.calm = true) (hb : haveB b = true) (hg : Gl X f) (hm : X.mg f = none) (hf : f = bfName b) (hs : Starless (x :: xs)) (ha : PA X (x :: xs) (tEs S W g es)) :
    PE X (.Call (.Name f p) (x :: xs) [] pos) (tE S W g (.blt b es)) := by
  subst hf
  have red : ∀ {r : List V → L2.Hp → VK → Prop}, (∀ vs H Q, rB S.K S.fa g.n0 (fun h vs => bltB h b vs) vs H Q → r vs H Q) → ∀ σ H Q, tE S W g (.blt b es) σ H Q → tCB r (tEs S W g es) σ H Q := fun {r} hr σ H Q ⟨ρ, env, m, A, h⟩ => by
    refine tEs_bd A (show Out S.K S.fa g.n0 Prod.snd ρ m H ((evEs g env es m).bd fun r => bltB r.2 b r.1) (vP S Q) (wX S W σ) from h) fun a ρ1 H1 vs A1 _ rvs F p => ?_
    obtain ⟨⟨z, m'⟩, e, q⟩ := Out.op p (ne_blt _ _ _)
    exact hr _ _ _ ⟨ρ1, a.2, a.1, z, m', A1.rel, rvs, e, fun ρ' v H' F r => q ρ' H' F v r⟩
  rw [← hK] at red
  cases hs with
  | cons hx ht =>
    have he := star_of hx xs X.env
    have hpl : (backTo pos (starEach xs X.env)).any (·.1) = false := ht.any
    cases b <;> first | (cases hb; done) | skip
    · exact PE.imp (pe_callB len_ok hg hm (by decide +kernel) ha (by decide) (by decide) he hpl) (red fun _ _ _ h => h)
    · exact PE.imp (pe_callB abs_ok hg hm (by decide +kernel) ha (by decide) (by decide) he hpl) (red fun _ _ _ h => h)
    · exact PE.imp (pe_callB (all_ok (hc.resolve_left (by decide))) hg hm (by decide +kernel) ha (by decide) (by decide) he hpl) (red fun _ _ _ h => h)
    · exact PE.imp (pe_callB (any_ok (hc.resolve_left (by decide))) hg hm (by decide +kernel) ha (by decide) (by decide) he hpl) (red fun _ _ _ h => h)
    · exact PE.imp (pe_callTy int_ok hg hm (by decide +kernel) ha (by decide) (by decide) he hpl) (red fun _ _ _ h => h)
    · exact PE.imp (pe_callTy (list_ok (hc.resolve_left (by decide))) hg hm (by decide +kernel) ha (by decide) (by decide) he hpl) (red fun _ _ _ h => h)
    · exact PE.imp (pe_callB (max_ok (hc.resolve_left (by decide))) hg hm (by decide +kernel) ha (by decide) (by decide) he hpl) (red fun _ _ _ h => h)
    · exact PE.imp (pe_callB (min_ok hu (hc.resolve_left (by decide))) hg hm (by decide +kernel) ha (by decide) (by decide) he hpl) (red fun _ _ _ h => h)
    · exact PE.imp (pe_callTy range_ok hg hm (by decide +kernel) ha (by decide) (by decide) he hpl) (red fun _ _ _ h => h)
    · exact PE.imp (pe_callB (sorted_ok (hc.resolve_left (by decide)) hu) hg hm (by decide +kernel) ha (by decide) (by decide) he hpl) (red fun _ _ _ h => h)
    · exact PE.imp (pe_callB (sum_ok (hc.resolve_left (by decide))) hg hm (by decide +kernel) ha (by decide) (by decide) he hpl) (red fun _ _ _ h => h)
    · exact PE.imp (pe_callTy (tuple_ok (hc.resolve_left (by decide))) hg hm (by decide +kernel) ha (by decide) (by decide) he hpl) (red fun _ _ _ h => h)
    · exact PE.imp (pe_callTy (dict_ok (hc.resolve_left (by decide)) hu) hg hm (by decide +kernel) ha (by decide) (by decide) he hpl) (red fun _ _ _ h => h)

/-! ### sets of whole numbers -/
theorem set_red {b : Bf} {a : E} {σ : L2.St} {H : L2.Hp} {Q : VK} (h : tE S W g (.blt b (.cons a .nil)) σ H Q) :
    tE S W g a σ H (fun v H1 => ∃ (ρ1 : Nat → Addr) (a1 : PV × Mem) (z : PV) (m' : Mem), Rel S.K S.fa ρ1 a1.2 H1 ∧ RV S.fa ρ1 a1.2.length H1 a1.1 v ∧ bltB a1.2 b [a1.1] = .ok (z, m') ∧ Gives S.K S.fa g.n0 ρ1 a1.2 H1 Q z m') := by
  obtain ⟨ρ, env, m, A, h⟩ := h
  have h : OutV S W g ρ m σ H ((evE g env false a m).bd fun r => bltB r.2 b [r.1]) Q := by
    have h : OutV S W g ρ m σ H (((evE g env false a m).bd fun r => (Res.ok ([], r.2) : Res (List PV × Mem)).bd fun q => .ok (r.1 :: q.1, q.2)).bd fun r => bltB r.2 b r.1) Q := h
    rw [bd_assoc] at h
    exact h
  refine tE_bd (r := .err) A h fun a1 ρ1 H1 v A1 rv _ p1 => ?_
  obtain ⟨⟨z, m'⟩, e, q⟩ := Out.op p1 (ne_blt _ _ _)
  exact ⟨ρ1, a1, z, m', A1.rel, rv, e, fun ρ' v H' F r => q ρ' H' F v r⟩
/-- set(x), of a list or a tuple of whole numbers -/
theorem set_made {pins : List (Addr × Obj)} {σ : L2.St} {s : Shared} {x : PV} {v : V} {u : Value} {ns : List Int} {fa ρ : Nat → Addr} {m : Mem} {H : L2.Hp} {Q : Value → Shared → Prop} {E : Value → Shared → Prop} (hc : X.A.handled = none) (I : L2.Inv X pins σ H s) (R : Rel X.K fa ρ m H) (rv : RV fa ρ m.length H x v) (ru : L2.RelV v u) (e : (seqOf m x).bind allInt = some ns) (hb : ns.length < 62)
    (h : ∀ (h' : Heap) (tk c : Nat) (a : Addr), SetR X.w h' a (fun j => decide (j ∈ ns)) c → c ≤ ns.length → (∀ b o, s.heap.get? b = some o → h'.get? b = some o) → s.heap.objs.size ≤ a → Q (.ref a) { s with heap := h', toks := tk }) :
    wpAny (model X.prog X.w) X.A (call (.type "set") [u]) Q E s := by
  obtain ⟨xs, el, en⟩ := Option.bind_eq_some_iff.mp e
  have sb : ns.length + 1 < scanBound := by unfold scanBound; omega
  unfold seqOf at el
  split at el
  · cases el
    obtain ⟨t, o, ws, rfl, ht, _, q⟩ := rv_tup rv
    cases ru
    obtain ⟨its, r, p, _⟩ := I.tuple (sqT_of ht)
    rw [rvs_ints en q] at r
    exact call_set_tupI ns hc p (by simpa using RZ.intsAre_vals r) sb fun h' tk c q1 q2 q3 => h h' tk c _ q1 q2 q3 (Nat.le_refl _)
  · obtain ⟨rfl, hn⟩ := rv_loc rv
    cases ru
    obtain ⟨ws, hS, q⟩ := rel_seq R el
    obtain ⟨its, r, pl, _⟩ := I.list hS
    rw [rvs_ints en q] at r
    exact set_lst ns hc pl.isList (by simpa using RZ.intsAre_vals r) sb fun h' tk c q1 q2 q3 => h h' tk c _ q1 q2 q3 (Nat.le_refl _)
  · cases el

theorem dedup_mem : ∀ (xs : List Int) (k : Int), k ∈ dedupI xs ↔ k ∈ xs
  | [], k => Iff.rfl
  | [x], k => Iff.rfl
  | x :: y :: r, k => by
    unfold dedupI
    have ih := dedup_mem (y :: r) k
    split
    · rename_i e
      rw [ih, e]
      simp
    · rw [List.mem_cons, ih, List.mem_cons (a := k) (b := x)]
theorem dedup_pw : ∀ xs : List Int, xs.Pairwise (· ≤ ·) → (dedupI xs).Pairwise (· < ·)
  | [], _ => .nil
  | [x], _ => List.pairwise_singleton _ _
  | x :: y :: r, h => by
    obtain ⟨h1, h2⟩ := List.pairwise_cons.mp h
    unfold dedupI
    have ih := dedup_pw (y :: r) h2
    split
    · exact ih
    · rename_i ne
      refine List.pairwise_cons.mpr ⟨fun z hz => ?_, ih⟩
      have hz := (dedup_mem _ _).mp hz
      have a1 := h1 y List.mem_cons_self
      rcases List.mem_cons.mp hz with e | e
      · rw [e]; omega
      · have a2 := (List.pairwise_cons.mp h2).1 z e
        omega
/-- strictly ascending lists of the same numbers are one -/
theorem asc_one : ∀ (xs ys : List Int), xs.Pairwise (· < ·) → ys.Pairwise (· < ·) → (∀ k, k ∈ xs ↔ k ∈ ys) → xs = ys
  | [], [], _, _, _ => rfl
  | [], y :: ys, _, _, h => by have := (h y).mpr List.mem_cons_self; cases this
  | x :: xs, [], _, _, h => by have := (h x).mp List.mem_cons_self; cases this
  | x :: xs, y :: ys, h1, h2, h => by
    obtain ⟨a1, a2⟩ := List.pairwise_cons.mp h1
    obtain ⟨b1, b2⟩ := List.pairwise_cons.mp h2
    have e : x = y := by
      have p := (h x).mp List.mem_cons_self
      have q := (h y).mpr List.mem_cons_self
      rcases List.mem_cons.mp p with p | p
      · exact p
      · rcases List.mem_cons.mp q with q | q
        · exact q.symm
        · have := b1 x p
          have := a1 y q
          omega
    subst e
    rw [asc_one xs ys a2 b2 fun k => ⟨fun hk => ?_, fun hk => ?_⟩]
    · rcases List.mem_cons.mp ((h k).mp (List.mem_cons_of_mem _ hk)) with e | e
      · have := a1 k hk; omega
      · exact e
    · rcases List.mem_cons.mp ((h k).mpr (List.mem_cons_of_mem _ hk)) with e | e
      · have := b1 k hk; omega
      · exact e
theorem set_is {ns ms : List Int} (h1 : ms.Pairwise (· < ·)) (h2 : ∀ k : Int, k ∈ ms ↔ decide (k ∈ ns) = true) : ms = dedupI (sortI ns) :=
  asc_one _ _ h1 (dedup_pw _ (sortI_pw ns)) fun k => by rw [h2, decide_eq_true_eq, dedup_mem, (sortI_perm ns).mem_iff]
theorem setI_of {m : Mem} {x : PV} {ms : List Int} (h : setI m x = some ms) : ∃ ns, (seqOf m x).bind allInt = some ns ∧ ns.length < 62 ∧ ms = dedupI (sortI ns) := by
  unfold setI at h
  split at h
  · rename_i ns e
    split at h
    · rename_i hl
      exact ⟨ns, e, hl, (Option.some.inj h).symm⟩
    · cases h
  · cases h
/-- sorted(set(x)) -/
theorem se_sset {a : E} {x : Expr} {f f2 : Str} {p p2 q pos : Pos} (hK : X.K = S.K) (hc : X.calm = true) (hf : f = "sorted") (hg : Gl X f) (hm : X.mg f = none) (hf2 : f2 = "set") (hg2 : Gl X f2) (hm2 : X.mg f2 = none) (hx : starB x = true) (ha : PE X x (tE S W g a)) :
    PE X (.Call (.Name f p) [.Call (.Name f2 p2) [x] [] q] [] pos) (tE S W g (.blt .sset (.cons a .nil))) := by
  subst hf hf2
  refine ⟨fun pins s σ H Q I h => ?_⟩
  have na := star_of hx [] X.env
  refine Call_ (ld_blt I hg hm (u := .builtin "sorted") (by decide +kernel) (PyProof.Rows.callWith_builtin1 (PyProof.Rows.args_cons ?_ rfl) rfl rfl))
  refine Call_ (ld_blt I hg2 hm2 (u := .type "set") (by decide +kernel) (PyProof.Rows.callWith_type1 (PyProof.Rows.args_cons (thn (ha.run pins s σ H _ I (set_red h)) fun u s1 ⟨v, H1, I1, r1, ρ1, a1, z, m', R, rv, e, g1⟩ => PyProof.Rows.args_nil ?_) na) na rfl))
  have e : ssetB a1.2 [a1.1] = .ok (z, m') := e
  unfold ssetB at e
  dsimp only at e
  split at e
  · rename_i ms em
    cases e
    obtain ⟨ns, e1, e2, rfl⟩ := setI_of em
    have hh := I1.ok.hd hc
    rw [← hK] at R g1
    refine set_made hh I1 R rv r1 e1 e2 fun h' tk c b hS hcl hk hb => PyProof.Rows.args_nil ?_
    have I2 : L2.Inv X pins σ H1 { s1 with heap := h', toks := tk } := I1.kept hk
    refine sorted_set (s := { s1 with heap := h', toks := tk }) hS hh (by omega) fun s' l out cc ms k g o hl hgl hi hs hmm hll => ?_
    have em := set_is hs fun k => hmm k
    subst em
    have hlen : ((dedupI (sortI ns)).map V.int).length ≤ sizeLine := by rw [List.length_map, hll, sizeLine_eq]; omega
    have hn : H1 l = none := I2.hok.fresh hl
    have J : L2.Inv X pins σ (upd H1 l (.lst ((dedupI (sortI ns)).map V.int))) { s1 with heap := s'.heap, gens := s'.gens, drawn := s'.drawn, toks := s'.toks } :=
      Inv.call (s := { s1 with heap := h', toks := tk }) I2 (ch := []) (Un.laid k hl hn) (I2.hok.laid k hl ⟨hlen, out.toList, cc, vals_of_ints hi, hgl⟩) (by rw [g]; exact I2.bare) (fun _ z => nomatch z)
    have es : s' = { s1 with heap := s'.heap, gens := s'.gens, drawn := s'.drawn, toks := s'.toks } := by
      cases s'; cases s1; cases o; rfl
    rw [es]
    exact ⟨.ref l, _, J, rfl, new_lst g1 R (rvs_of_ints _) hn⟩
  · cases e
/-- len(set(x)) -/
theorem se_lset {a : E} {x : Expr} {f f2 : Str} {p p2 q pos : Pos} (hK : X.K = S.K) (hc : X.calm = true) (hf : f = "len") (hg : Gl X f) (hm : X.mg f = none) (hf2 : f2 = "set") (hg2 : Gl X f2) (hm2 : X.mg f2 = none) (hx : starB x = true) (ha : PE X x (tE S W g a)) :
    PE X (.Call (.Name f p) [.Call (.Name f2 p2) [x] [] q] [] pos) (tE S W g (.blt .lset (.cons a .nil))) := by
  subst hf hf2
  refine ⟨fun pins s σ H Q I h => ?_⟩
  have na := star_of hx [] X.env
  refine Call_ (ld_blt I hg hm (u := .builtin "len") (by decide +kernel) (PyProof.Rows.callWith_builtin1 (PyProof.Rows.args_cons ?_ rfl) rfl rfl))
  refine Call_ (ld_blt I hg2 hm2 (u := .type "set") (by decide +kernel) (PyProof.Rows.callWith_type1 (PyProof.Rows.args_cons (thn (ha.run pins s σ H _ I (set_red h)) fun u s1 ⟨v, H1, I1, r1, ρ1, a1, z, m', R, rv, e, g1⟩ => PyProof.Rows.args_nil ?_) na) na rfl))
  have e : lsetB a1.2 [a1.1] = .ok (z, m') := e
  unfold lsetB at e
  dsimp only at e
  split at e
  · rename_i ms em
    cases e
    obtain ⟨ns, e1, e2, rfl⟩ := setI_of em
    have hh := I1.ok.hd hc
    rw [← hK] at R g1
    refine set_made hh I1 R rv r1 e1 e2 fun h' tk c b hS hcl hk hb => PyProof.Rows.args_nil ?_
    have I2 : L2.Inv X pins σ H1 { s1 with heap := h', toks := tk } := I1.kept hk
    obtain ⟨o, es, ep, t, ho, hex, hd, _, hnd, hmem, hsz, hf, hn, _⟩ := hS
    have el : (dedupI (sortI ns)).length = c := by
      have : (dedupI (sortI ns)).Perm (es.toList.map keyOf) := by
        have nd1 : (dedupI (sortI ns)).Nodup := (dedup_pw _ (sortI_pw ns)).imp fun h e => by rw [e] at h; exact absurd h (Int.lt_irrefl _)
        refine (List.perm_ext_iff_of_nodup nd1 hnd).mpr fun k => ?_
        rw [← hmem k, decide_eq_true_eq, dedup_mem, (sortI_perm ns).mem_iff]
      rw [this.length_eq, List.length_map, Array.length_toList, hn]
    refine call_len_set (s := { s1 with heap := h', toks := tk }) ho hex hd hf (by rw [hn] <;> omega) ⟨.int c, H1, I2.tok _, ⟨_, by rw [hn]⟩, ?_⟩
    have q := same_val g1 R (RV.int (fa := S.fa) (ρ := ρ1) (L := a1.2.length) (H := H1) (((dedupI (sortI ns)).length : Nat) : Int))
    rw [el] at q
    exact q
  · cases e

/-! ### isinstance -/
theorem boot_ty (t : Ty) : ∀ n ∈ tyNames t, bootBuiltins (Str.ofString n) = some (.type n) := by
  cases t <;> (intro n hn; simp only [tyNames, List.mem_cons, List.not_mem_nil, or_false] at hn; rcases hn with rfl | rfl <;> decide +kernel)
theorem isi_red {t : Ty} {a : E} {σ : L2.St} {H : L2.Hp} {Q : VK} (h : tE S W g (.blt (.isi t) (.cons a .nil)) σ H Q) :
    tE S W g a σ H (fun v H1 => ∃ (ρ1 : Nat → Addr) (m1 : Mem) (k : Kd), TyX S.K H1 v (.type (kdName k)) ∧ Rel S.K S.fa ρ1 m1 H1 ∧ (∀ H2, (∃ F : Fut S.K S.fa g.n0 ρ1 m1 H1 ρ1 m1 H2, True) → TyX S.K H2 v (.type (kdName k)) ∧ Q (.bl (isB t k)) H2)) := by
  obtain ⟨ρ, env, m, A, h⟩ := h
  have h : OutV S W g ρ m σ H ((evE g env false a m).bd fun r => isiB r.2 t [r.1]) Q := by
    have h : OutV S W g ρ m σ H (((evE g env false a m).bd fun r => (Res.ok ([], r.2) : Res (List PV × Mem)).bd fun q => .ok (r.1 :: q.1, q.2)).bd fun r => isiB r.2 t r.1) Q := h
    rw [bd_assoc] at h
    exact h
  refine tE_bd (r := .err) A h fun a1 ρ1 H1 v A1 rv _ p1 => ?_
  unfold isiB at p1
  dsimp only at p1
  cases e : kdB a1.2 a1.1 with
  | none => rw [e] at p1; exact p1.elim
  | some k =>
    rw [e] at p1
    refine ⟨ρ1, a1.2, k, kd_ty A1.rel rv e, A1.rel, fun H2 ⟨F, _⟩ => ⟨kd_ty F.rel (F.val rv) e, ?_⟩⟩
    exact p1 ρ1 H2 F (.bl (isB t k)) (.bl _)
theorem se_isi1 {t : Ty} {n : String} {a : E} {x : Expr} {f y : Str} {p q pos : Pos} (hK : X.K = S.K) (ht : tyNames t = [n]) (hy : y = Str.ofString n) (hf : f = "isinstance") (hg : Gl X f) (hm : X.mg f = none) (hgy : Gl X y) (hmy : X.mg y = none) (hn : y ≠ "__name__") (hdb : (y == ("__debug__" : Str)) = false) (hx : starB x = true) (ha : PE X x (tE S W g a)) :
    PE X (.Call (.Name f p) [x, .Name y q] [] pos) (tE S W g (.blt (.isi t) (.cons a .nil))) := by
  subst hf
  have hv : bootBuiltins y = some (.type n) := by subst hy; exact boot_ty t n (by rw [ht]; exact List.mem_singleton.mpr rfl)
  have hb : PE X (.Name y q) (tC (.ty n)) := pe_bltn hgy hmy hv rfl hn hdb
  refine PE.imp (pe_callB call_isi hg hm (by decide +kernel) (pa_cons ha (pa_cons hb pa_nil) (star_of hx _ _)) (by decide) (by decide) (star_of hx _ _) (by rfl)) fun σ H Q h => ?_
  refine tE_mono (isi_red h) fun v H1 ⟨ρ1, m1, k, ty, R, fin⟩ => ?_
  rw [hK]
  refine ⟨v, .ty n, .type (kdName k), .type n, isB t k, rfl, .ty n, ty, kit_ty ?_, (fin H1 ⟨.refl R, True.intro⟩).2⟩
  have h1 := kitB_some t k
  have h2 := isB_one t k
  rw [ht] at h1 h2
  rw [List.all_cons, List.all_nil, Bool.and_true] at h1
  rw [List.any_cons, List.any_nil, Bool.or_false] at h2
  obtain ⟨b, e⟩ := Option.isSome_iff_exists.mp h1
  rw [h2, e]; rfl
theorem se_isi2 {t : Ty} {n n' : String} {a : E} {x : Expr} {f y z : Str} {p q r pos tp : Pos} {j : Nat} (hK : X.K = S.K) (ht : tyNames t = [n, n']) (hy : y = Str.ofString n) (hz : z = Str.ofString n') (hf : f = "isinstance") (hg : Gl X f) (hm : X.mg f = none)
    (hgy : Gl X y) (hmy : X.mg y = none) (hn : y ≠ "__name__") (hdb : (y == ("__debug__" : Str)) = false) (hgz : Gl X z) (hmz : X.mg z = none) (hnz : z ≠ "__name__") (hdz : (z == ("__debug__" : Str)) = false) (hx : starB x = true) (ha : PE X x (tE S W g a)) :
    PE X (.Call (.Name f p) [x, .Tuple [.Name y q, .Name z r] j tp] [] pos) (tE S W g (.blt (.isi t) (.cons a .nil))) := by
  subst hf
  have hv : bootBuiltins y = some (.type n) := by subst hy; exact boot_ty t n (by rw [ht]; exact List.mem_cons_self)
  have hv' : bootBuiltins z = some (.type n') := by subst hz; exact boot_ty t n' (by rw [ht]; exact List.mem_cons_of_mem _ List.mem_cons_self)
  have hb : PE X (.Name y q) (tC (.ty n)) := pe_bltn hgy hmy hv rfl hn hdb
  have hb' : PE X (.Name z r) (tC (.ty n')) := pe_bltn hgz hmz hv' rfl hnz hdz
  have hT : PE X (.Tuple [.Name y q, .Name z r] j tp) (tTup (tCons (tC (.ty n)) (tCons (tC (.ty n')) tNil))) := pe_tup (pa_cons hb (pa_cons hb' pa_nil))
  refine PE.imp (pe_callB call_isiT hg hm (by decide +kernel) (pa_cons ha (pa_cons hT pa_nil) (star_of hx _ _)) (by decide) (by decide) (star_of hx _ _) (by rfl)) fun σ H Q h => ?_
  refine tE_mono (isi_red h) fun v H1 ⟨ρ1, m1, k, ty, R, fin⟩ => ?_
  refine ⟨by show 2 ≤ sizeLine; rw [sizeLine_eq]; omega, fun p' hp => ?_⟩
  obtain ⟨ty2, q2⟩ := fin (upd H1 p' (.tup [.ty n, .ty n'])) ⟨.side R hp, True.intro⟩
  rw [hK]
  refine ⟨v, p', [.ty n, .ty n'], .type (kdName k), [.type n, .type n'], isB t k, rfl, upd_same, .cons (.ty n) (.cons (.ty n') .nil), ty2, ?_, q2⟩
  have h1 := kitAny_ty (K := S.K) (kitB_some t k)
  rw [← isB_one t k, ht] at h1
  exact h1
end
end Dp
set_option Elab.async false
set_option linter.all false
set_option maxRecDepth 100000
/-! DpX: is the error in hand one of a class. -/
namespace Dp
open PySem PySem.Spec PyProof.Rows L2

section
variable {X : Cx} {S : Sg} {W : WX} {g : Cfg}
theorem se_isX {i k : Nat} {f x y : Str} {p q r pos : Pos} {c : V} {cv : Value} (hf : f = "isinstance") (hg : Gl X f) (hm : X.mg f = none) (hN : X.N[i]? = some x) (hv : Vis X.env.scope x) (hd : (x == ("__debug__" : Str)) = false) (hcd : (x == ("__classdict__" : Str)) = false)
    (hb : PE X (.Name y r) (tC c)) (hcv : ∀ u, L2.RelV c u → u = cv) (hS : ∀ j v, S.ξ j v → ∃ D a, v = .ref a ∧ CallR X (.builtin "isinstance") (rIsE X.K D a) ∧ PySem.W.kitOne X.K (.ref D) cv = some (j == k || (k == 0 && j != 6))) :
    PE X (.Call (.Name f p) [.Name x q, .Name y r] [] pos) (tE S W g (.isX i k)) := by
  subst hf
  refine ⟨fun pins s σ H Q I ⟨ρ, env, m, A, h⟩ => ?_⟩
  have h : OutV S W g ρ m σ H (match env[i]? with
    | some (some (.exn j)) => .ok (.bl (j == k || (k == 0 && j != 6)), m)
    | _ => .err) Q := h
  split at h
  · rename_i j e
    obtain ⟨v, e1, z⟩ := A.env.at_ i _ e
    have z : S.ξ j v := z
    obtain ⟨D, a, rfl, hC, hk⟩ := hS j v z
    exact (pe_callB hC hg hm (by decide +kernel) (pa_cons (pe_var (pos := q) hN hv hd hcd) (pa_cons hb pa_nil))).run pins s σ H Q I ⟨_, e1, c, cv, _, rfl, hcv, hk, h ρ H (.refl A.rel) _ (.bl _)⟩
  · exact h.elim
theorem se_isX0 {i k : Nat} {x : Expr} (hS : ¬ ∃ j v, S.ξ j v) : PE X x (tE S W g (.isX i k)) := by
  refine ⟨fun pins s σ H Q I ⟨ρ, env, m, A, h⟩ => ?_⟩
  have h : OutV S W g ρ m σ H (match env[i]? with
    | some (some (.exn j)) => .ok (.bl (j == k || (k == 0 && j != 6)), m)
    | _ => .err) Q := h
  split at h
  · rename_i j e
    obtain ⟨v, e1, z⟩ := A.env.at_ i _ e
    exact absurd ⟨j, v, z⟩ hS
  · exact h.elim
end
end Dp
set_option Elab.async false
set_option linter.all false
set_option maxRecDepth 100000
/-! Dp14: calls. -/
namespace Dp
open PySem PySem.Spec PyProof.Rows L2

theorem Out.low {K : PySem.W.Frag} {fa ρ : Nat → Addr} {n0 n1 : Nat} {m : Mem} {H : L2.Hp} {α : Type} {ma : α → Mem} {r : Res α} {P : α → (Nat → Addr) → L2.Hp → Prop} {E : Nat → L2.Hp → Prop} (hn : n1 ≤ n0) (h : Out K fa n1 ma ρ m H r P E) : Out K fa n0 ma ρ m H r P E := by
  cases r with
  | ok a => exact fun ρ' H' F => h ρ' H' (F.low hn)
  | exc k m' => exact fun ρ' H' F => h ρ' H' (F.low hn)
  | err => exact h
/-- what a function promises, by the small language -/
def spF (S : Sg) (F : Nat → List PV → Mem → RE) (f n : Nat) : Sp := fun vs H Q E => vs.length = n ∧ ∃ ρ m as, Rel S.K S.fa ρ m H ∧ RVs S.fa ρ m.length H as vs ∧ Out S.K S.fa m.length Prod.snd ρ m H (F f as m) (vP S Q) (fun k H' => E (S.ca k) none H')
abbrev Kwl := List (Nat × Nat × List Str × List Nat)
def permV {α : Type} (d : α) (perm : List Nat) (us ws : List α) : List α := perm.map fun j => (us ++ ws).getD j d
/-- the function f keeps its promise -/
def Fk (P : Program) (w : World) (K : PySem.W.Frag) (mg : Str → Option Value) (base : Heap) (S : Sg) (kk : Nat) (kwl : Kwl) (F : Nat → List PV → Mem → RE) (f : Nat) : Prop :=
  ∃ fd ps, FnOk P w K mg base (L2.CX P w) kk (S.fa f) fd ps (spF S F f ps.length) ∧ Binds K fd ps [] ∧ PySem.W.keepIn K (.ref (S.fa f)) = true ∧ (∀ as m, F f as m ≠ .err → as.length = ps.length) ∧
    ∀ n ks perm, (f, n, ks, perm) ∈ kwl → ∀ (s : Shared) (us ws : List Value), K.In s.heap → us.length = n → ws.length = ks.length → BindsTo s fd ⟨us, ks.zip ws⟩ (ps.zip (permV .none perm us ws))
theorem vals_app {xs ys : List V} {us ws : List Value} (a : L2.Vals xs us) (b : L2.Vals ys ws) : L2.Vals (xs ++ ys) (us ++ ws) := a.append b
theorem vals_getD {xs : List V} {us : List Value} (a : L2.Vals xs us) (j : Nat) : L2.RelV (xs.getD j .non) (us.getD j .none) := by
  rw [List.getD_eq_getElem?_getD, List.getD_eq_getElem?_getD]
  cases e : xs[j]? with
  | none => rw [a.none_of e]; rfl
  | some x =>
    obtain ⟨u, e2, r⟩ := a.get e
    rw [e2]; exact r
theorem vals_perm {perm : List Nat} {xs ys : List V} {us ws : List Value} (a : L2.Vals xs us) (b : L2.Vals ys ws) : L2.Vals (permV .non perm xs ys) (permV .none perm us ws) := by
  unfold permV
  induction perm with
  | nil => exact .nil
  | cons j l ih => rw [List.map_cons, List.map_cons]; exact .cons (vals_getD (a.append b) j) ih
theorem rvs_perm {fa ρ : Nat → Addr} {L : Nat} {H : L2.Hp} {perm : List Nat} {xs ys : List PV} {us ws : List V} (a : RVs fa ρ L H xs us) (b : RVs fa ρ L H ys ws) : RVs fa ρ L H (permV .non perm xs ys) (permV .non perm us ws) := by
  unfold permV
  induction perm with
  | nil => exact .nil
  | cons j l ih => rw [List.map_cons, List.map_cons]; exact .cons ((a.append b).getD j) ih

section
variable {X : Cx} {S : Sg} {W : WX} {g : Cfg} {kk : Nat} {kwl : Kwl}
/-- what a call asks -/
structure CallOk (X : Cx) (S : Sg) (W : WX) (g : Cfg) (kk : Nat) (kwl : Kwl) : Prop where
  hK : X.K = S.K
  room : Room kk X.A
  tk : Takes X W
  fns : ∀ f, g.has f = true → Fk X.prog X.w X.K X.mg X.base S kk kwl g.call f
theorem not_err {K : PySem.W.Frag} {fa ρ : Nat → Addr} {n0 : Nat} {m : Mem} {H : L2.Hp} {α : Type} {ma : α → Mem} {r : Res α} {P : α → (Nat → Addr) → L2.Hp → Prop} {E : Nat → L2.Hp → Prop} (h : Out K fa n0 ma ρ m H r P E) : r ≠ .err := by
  intro e; subst e; exact h
/-- the callee runs -/
theorem run_call (C : CallOk X S W g kk kwl) {pins : List (Addr × Obj)} {σ : L2.St} {H : L2.Hp} {s : Shared} {Q : VK} {us : List Value} {vs : List V} {f : Nat} {as : List PV} {ρ : Nat → Addr} {env : Env} {m : Mem} (I : L2.Inv X pins σ H s) (A : S.at g ρ env m σ H) (r : L2.Vals vs us) (rv : RVs S.fa ρ m.length H as vs)
    (hh : g.has f = true) (h : OutV S W g ρ m σ H (g.call f as m) Q) : wpAny (model X.prog X.w) X.A (call (.ref (S.fa f)) us) (EP X pins σ Q) X.xe s := by
  obtain ⟨fd, ps, F, hb, hk, hl, _⟩ := C.fns f hh
  exact run_fnS F C.room hb (passAt C.tk σ) I r ⟨by rw [← rv.length]; exact hl as m (not_err h), ρ, m, as, A.rel, rv, Out.low A.le h⟩
theorem run_callK (C : CallOk X S W g kk kwl) {pins : List (Addr × Obj)} {σ : L2.St} {H : L2.Hp} {s : Shared} {Q : VK} {us ws : List Value} {vs zs : List V} {f n : Nat} {ks : List Str} {perm : List Nat} {as bs : List PV} {ρ : Nat → Addr} {env : Env} {m : Mem} (I : L2.Inv X pins σ H s) (A : S.at g ρ env m σ H) (r : L2.Vals vs us) (rz : L2.Vals zs ws)
    (rv : RVs S.fa ρ m.length H as vs) (rw' : RVs S.fa ρ m.length H bs zs) (hm : (f, n, ks, perm) ∈ kwl) (hn : us.length = n) (hk : ws.length = ks.length)
    (hh : g.has f = true) (h : OutV S W g ρ m σ H (g.call f (permV .non perm as bs) m) Q) : wpAny (model X.prog X.w) X.A (call (.ref (S.fa f)) us (ks.zip ws)) (EP X pins σ Q) X.xe s := by
  obtain ⟨fd, ps, F, hb, hk', hl, hkw⟩ := C.fns f hh
  have r2 : L2.Vals (permV .non perm vs zs) (permV .none perm us ws) := vals_perm r rz
  have rv2 := rvs_perm (perm := perm) rv rw'
  refine wpAny_call (codeAny_mono (F.run X.A X.stack s H ⟨us, ks.zip ws⟩ (permV .none perm us ws) (permV .non perm vs zs) Q (WE W σ) C.room I.env0 (hkw n ks perm hm s us ws I.kIn hn hk) r2 ⟨by rw [← rv2.length]; exact hl _ m (not_err h), ρ, m, _, A.rel, rv2, Out.low A.le h⟩) fun r s' hq => ?_)
  cases r with
  | error e => exact passAt C.tk σ pins H s e s' I hq
  | ok fl =>
    cases fl with
    | ret u => exact I.after hq
    | next => exact False.elim hq
    | brk => exact False.elim hq
    | cont => exact False.elim hq
theorem fk_keep (C : CallOk X S W g kk kwl) {f : Nat} (h : g.has f = true) : PySem.W.keepIn X.K (.ref (S.fa f)) = true := by
  obtain ⟨fd, ps, F, hb, hk, hl, _⟩ := C.fns f h
  exact hk
/-- the arguments, then the callee -/
theorem se_args (C : CallOk X S W g kk kwl) {f : Nat} {es : Es} {a : Expr} {xs : List Expr} {pos : Pos} (hs : Starless (a :: xs)) (ha : PA X (a :: xs) (tEs S W g es)) {pins : List (Addr × Obj)} {s : Shared} {σ : L2.St} {H : L2.Hp} {Q : VK} {ρ : Nat → Addr} {env : Env} {m : Mem} (I : L2.Inv X pins σ H s) (A : S.at g ρ env m σ H) (hh : g.has f = true)
    (h : OutV S W g ρ m σ H ((evEs g env es m).bd fun r => g.call f r.1 r.2) Q) : wpAny (model X.prog X.w) X.A (callWith pos (.ref (S.fa f)) [] (backTo pos (starEach (a :: xs) X.env)) []) (EP X pins σ Q) X.xe s := by
  cases hs with
  | cons hx ht =>
    refine PySem.W.callWith_K (h₀ := X.base) I.ok.mod.kin (fk_keep C hh) (thn (ha.run pos pins s σ H (fun vs H1 => ∃ (b : List PV × Mem) (ρ1 : Nat → Addr), S.at g ρ1 env b.2 σ H1 ∧ RVs S.fa ρ1 b.2.length H1 b.1 vs ∧ OutV S W g ρ1 b.2 σ H1 (g.call f b.1 b.2) Q) I
      (tEs_bd A (show Out S.K S.fa g.n0 Prod.snd ρ m H ((evEs g env es m).bd fun r => g.call f r.1 r.2) (vP S Q) (wX S W σ) from h) fun b ρ1 H1 vs A1 _ rvs F p => ⟨b, ρ1, A1, rvs, (show OutV S W g ρ1 b.2 σ H1 _ Q from p)⟩)) fun us s1 ⟨vs, H1, I1, r, b, ρ1, A1, rvs, p⟩ => ⟨I1.kIn, ?_⟩) (star_of hx _ _) ht.any
    exact run_call C I1 A1 r rvs hh p
theorem se_call (C : CallOk X S W g kk kwl) {f : Nat} {es : Es} {x : Str} {a : Expr} {xs : List Expr} {p pos : Pos} (hg : Gl X x) (hm : X.mg x = some (.ref (S.fa f))) (hd : (x == ("__debug__" : Str)) = false) (hs : Starless (a :: xs)) (ha : PA X (a :: xs) (tEs S W g es)) :
    PE X (.Call (.Name x p) (a :: xs) [] pos) (tE S W g (.call f es)) := by
  refine ⟨fun pins s σ H Q I ⟨ρ, env, m, A, h⟩ => ?_⟩
  have h : OutV S W g ρ m σ H (if g.has f then (evEs g env es m).bd fun r => g.call f r.1 r.2 else .err) Q := h
  split at h
  · rename_i hh
    exact wpAny_Call_Name_kw (ld_glob I hg hm (se_args C hs ha I A hh h) hd)
  · exact h.elim
theorem se_callV (C : CallOk X S W g kk kwl) {i : Nat} {es : Es} {x : Str} {a : Expr} {xs : List Expr} {p pos : Pos} (hN : X.N[i]? = some x) (hv : Vis X.env.scope x) (hd : (x == ("__debug__" : Str)) = false) (hcd : (x == ("__classdict__" : Str)) = false) (hs : Starless (a :: xs)) (ha : PA X (a :: xs) (tEs S W g es)) :
    PE X (.Call (.Name x p) (a :: xs) [] pos) (tE S W g (.callV i es)) := by
  refine ⟨fun pins s σ H Q I ⟨ρ, env, m, A, h⟩ => ?_⟩
  have h : OutV S W g ρ m σ H (match env[i]? with
    | some (some (.fn f)) => if g.has f then (evEs g env es m).bd fun r => g.call f r.1 r.2 else .err
    | _ => .err) Q := h
  split at h
  · rename_i f e
    split at h
    · rename_i hh
      obtain ⟨v, e1, q⟩ := A.env.at_ i _ e
      have q : RV S.fa ρ m.length H (.fn f) v := q
      obtain rfl : v = .ref (S.fa f) := by cases q; rfl
      refine wpAny_Call_Name_kw (thn ((pe_var (pos := p) hN hv hd hcd).run pins s σ H (fun v H1 => v = .ref (S.fa f) ∧ H1 = H) I ⟨.ref (S.fa f), e1, rfl, rfl⟩) fun u s1 ⟨v, H1, I1, r1, q1⟩ => ?_)
      obtain ⟨rfl, rfl⟩ := q1
      cases r1
      exact se_args C hs ha I1 A hh h
    · exact h.elim
  · exact h.elim
/-! ### keywords -/
inductive SK (X : Cx) (S : Sg) (W : WX) (g : Cfg) : Es → List Keyword → Prop
  | nil : SK X S W g .nil []
  | cons {e : E} {es : Es} {x : Expr} {nm : Str} {kpos : Pos} {kws : List Keyword} : PE X x (tE S W g e) → SK X S W g es kws → SK X S W g (.cons e es) (⟨some nm, x, kpos⟩ :: kws)
theorem SK.pk : ∀ {es : Es} {kws : List Keyword}, SK X S W g es kws → PK X kws (tEs S W g es)
  | _, _, .nil => ⟨fun pos pins s σ H Q I ⟨ρ, env, m, A, h⟩ => (pk_nil (X := X)).run pos pins s σ H Q I ((show Out S.K S.fa g.n0 Prod.snd ρ m H (.ok (([] : List PV), m)) _ _ from h) ρ H (.refl A.rel) [] .nil)⟩
  | _, _, .cons (e := e) (es := es) h1 t => ⟨fun pos pins s σ H Q I ⟨ρ, env, m, A, h⟩ => (pk_cons h1 t.pk).run pos pins s σ H Q I (by
      refine ⟨ρ, env, m, A, (Out.bd (ma := Prod.snd) (show Out S.K S.fa g.n0 Prod.snd ρ m H ((evE g env false e m).bd fun r => (evEs g env es r.2).bd fun q => .ok (r.1 :: q.1, q.2)) _ _ from h)).imp fun a ρ1 H1 _ F p v rv => ?_⟩
      refine tEs_bd (A.later F) p fun b ρ2 H2 vs A2 _ rvs F2 p2 => ?_
      exact p2 ρ2 H2 (.refl A2.rel) (v :: vs) (.cons (F2.val rv) rvs))⟩
theorem SK.names {pos : Pos} : ∀ {es : Es} {kws : List Keyword}, SK X S W g es kws → (backToKw pos (keywordEach kws X.env)).filterMap (·.1) = kws.filterMap (·.arg) ∧ (backToKw pos (keywordEach kws X.env)).all (·.1.isSome) = true ∧ (backToKw pos (keywordEach kws X.env)).any (·.1.isNone) = false ∧ es.len = (kws.filterMap (·.arg)).length
  | _, _, .nil => ⟨rfl, rfl, rfl, rfl⟩
  | _, _, .cons (es := es) (nm := nm) (kws := kws) h1 t => by
    obtain ⟨a, b, c, d⟩ := t.names (pos := pos)
    refine ⟨?_, ?_, ?_, ?_⟩
    · show nm :: (backToKw pos (keywordEach kws X.env)).filterMap (·.1) = nm :: kws.filterMap (·.arg)
      rw [a]
    · show (true && (backToKw pos (keywordEach kws X.env)).all (·.1.isSome)) = true
      rw [b]; rfl
    · show (false || (backToKw pos (keywordEach kws X.env)).any (·.1.isNone)) = false
      rw [c]; rfl
    · show es.len + 1 = (kws.filterMap (·.arg)).length + 1
      rw [d]
theorem se_callK (C : CallOk X S W g kk kwl) {f : Nat} {es ks : Es} {perm : List Nat} {x : Str} {a : Expr} {xs : List Expr} {kws : List Keyword} {p pos : Pos} (hg : Gl X x) (hm : X.mg x = some (.ref (S.fa f))) (hd : (x == ("__debug__" : Str)) = false) (hs : Starless (a :: xs)) (ha : PA X (a :: xs) (tEs S W g es))
    (hk : SK X S W g ks kws) (hl : es.len = (a :: xs).length) (hmem : (f, (a :: xs).length, kws.filterMap (·.arg), perm) ∈ kwl) : PE X (.Call (.Name x p) (a :: xs) kws pos) (tE S W g (.callK f es ks perm)) := by
  refine ⟨fun pins s σ H Q I ⟨ρ, env, m, A, h⟩ => ?_⟩
  have h : OutV S W g ρ m σ H (if g.has f then (evEs g env es m).bd fun r => (evEs g env ks r.2).bd fun q => g.call f (permV .non perm r.1 q.1) q.2 else .err) Q := h
  split at h
  · rename_i hh
    refine wpAny_Call_Name_kw (ld_glob I hg hm ?_ hd)
    have hs0 := hs
    cases hs with
    | cons hx ht =>
      obtain ⟨n1, n2, n3, n4⟩ := hk.names (pos := pos)
      refine PySem.W.callWith_KW (h₀ := X.base) I.ok.mod.kin (fk_keep C hh) n2 (thn (ha.run pos pins s σ H (fun vs H1 => ∃ (b : List PV × Mem) (ρ1 : Nat → Addr), b.1.length = es.len ∧ S.at g ρ1 env b.2 σ H1 ∧ RVs S.fa ρ1 b.2.length H1 b.1 vs ∧ OutV S W g ρ1 b.2 σ H1 ((evEs g env ks b.2).bd fun q => g.call f (permV .non perm b.1 q.1) q.2) Q) I
        (tEs_bd A (show Out S.K S.fa g.n0 Prod.snd ρ m H ((evEs g env es m).bd fun r => (evEs g env ks r.2).bd fun q => g.call f (permV .non perm r.1 q.1) q.2) (vP S Q) (wX S W σ) from h) fun b ρ1 H1 vs A1 hb rvs F p => ⟨b, ρ1, hb, A1, rvs, (show OutV S W g ρ1 b.2 σ H1 _ Q from p)⟩)) fun us s1 ⟨vs, H1, I1, r, b, ρ1, hb, A1, rvs, p⟩ => ?_) (by rw [hs0.any, n3]; rfl) (star_of hx _ _)
      refine thn (hk.pk.run pos pins s1 σ H1 (fun zs H2 => ∃ (d : List PV × Mem) (ρ2 : Nat → Addr), d.1.length = ks.len ∧ S.at g ρ2 env d.2 σ H2 ∧ RVs S.fa ρ2 d.2.length H2 b.1 vs ∧ RVs S.fa ρ2 d.2.length H2 d.1 zs ∧ OutV S W g ρ2 d.2 σ H2 (g.call f (permV .non perm b.1 d.1) d.2) Q) I1
        (tEs_bd A1 p fun d ρ2 H2 zs A2 hd' rvz F p2 => ⟨d, ρ2, hd', A2, F.vals rvs, rvz, (show OutV S W g ρ2 d.2 σ H2 _ Q from p2)⟩)) fun ws s2 ⟨zs, H2, I2, rz, d, ρ2, hd', A2, rvs2, rvz, p2⟩ => ⟨I2.kIn, ?_⟩
      rw [n1]
      exact run_callK C I2 A2 r rz rvs2 rvz hmem (by show us.length = _; rw [← r.length, ← rvs.length, hb, hl]) (by rw [← rz.length, ← rvz.length, hd', n4]) hh p2
  · exact h.elim
/-- f() -/
theorem se_call0 (C : CallOk X S W g kk kwl) {f : Nat} {x : Str} {p pos : Pos} (hg : Gl X x) (hm : X.mg x = some (.ref (S.fa f))) (hd : (x == ("__debug__" : Str)) = false) :
    PE X (.Call (.Name x p) [] [] pos) (tE S W g (.call f .nil)) := by
  refine ⟨fun pins s σ H Q I ⟨ρ, env, m, A, h⟩ => ?_⟩
  have h : OutV S W g ρ m σ H (if g.has f then ((.ok (([] : List PV), m) : Res (List PV × Mem)).bd fun r => g.call f r.1 r.2) else .err) Q := h
  split at h
  · rename_i hh
    exact wpAny_Call_Name_kw (ld_glob I hg hm (PySem.W.callWith_K0 I.kIn (fk_keep C hh) (run_call (us := []) (vs := []) C I A .nil .nil hh h)) hd)
  · exact h.elim
/-- f(k = v, ..) -/
theorem se_callK0 (C : CallOk X S W g kk kwl) {f : Nat} {ks : Es} {perm : List Nat} {x : Str} {kws : List Keyword} {p pos : Pos} (hg : Gl X x) (hm : X.mg x = some (.ref (S.fa f))) (hd : (x == ("__debug__" : Str)) = false)
    (hk : SK X S W g ks kws) (hmem : (f, 0, kws.filterMap (·.arg), perm) ∈ kwl) : PE X (.Call (.Name x p) [] kws pos) (tE S W g (.callK f .nil ks perm)) := by
  refine ⟨fun pins s σ H Q I ⟨ρ, env, m, A, h⟩ => ?_⟩
  have h : OutV S W g ρ m σ H (if g.has f then ((.ok (([] : List PV), m) : Res (List PV × Mem)).bd fun r => (evEs g env ks r.2).bd fun q => g.call f (permV .non perm r.1 q.1) q.2) else .err) Q := h
  split at h
  · rename_i hh
    have h : OutV S W g ρ m σ H ((evEs g env ks m).bd fun q => g.call f (permV .non perm [] q.1) q.2) Q := h
    refine wpAny_Call_Name_kw (ld_glob I hg hm ?_ hd)
    obtain ⟨n1, n2, n3, n4⟩ := hk.names (pos := pos)
    refine PySem.W.callWith_KW0 (h₀ := X.base) I.ok.mod.kin (fk_keep C hh) n2 ?_ (by rw [n3]; rfl)
    refine thn (hk.pk.run pos pins s σ H (fun zs H2 => ∃ (d : List PV × Mem) (ρ2 : Nat → Addr), d.1.length = ks.len ∧ S.at g ρ2 env d.2 σ H2 ∧ RVs S.fa ρ2 d.2.length H2 d.1 zs ∧ OutV S W g ρ2 d.2 σ H2 (g.call f (permV .non perm [] d.1) d.2) Q) I
      (tEs_bd A h fun d ρ2 H2 zs A2 hd' rvz F p2 => ⟨d, ρ2, hd', A2, rvz, (show OutV S W g ρ2 d.2 σ H2 _ Q from p2)⟩)) fun ws s2 ⟨zs, H2, I2, rz, d, ρ2, hd', A2, rvz, p2⟩ => ⟨I2.kIn, ?_⟩
    rw [n1]
    exact run_callK (us := []) (vs := []) (as := []) C I2 A2 .nil rz .nil rvz hmem rfl (by rw [← rz.length, ← rvz.length, hd', n4]) hh p2
  · exact h.elim
end
end Dp
set_option Elab.async false
set_option linter.all false
set_option maxRecDepth 100000
/-! Dp15: targets, what is walked. -/
namespace Dp
open PySem PySem.Spec PyProof.Rows L2

/-! ### targets -/
mutual
def slotN : TN → Nat → Bool
  | .name i, j => i == j
  | .tup ts, j => slotNs ts j
def slotNs : TNs → Nat → Bool
  | .nil, _ => false
  | .cons t ts, j => slotN t j || slotNs ts j
end
mutual
theorem slot_in (own : List Nat) : ∀ p : TN, inN own p = true → ∀ j, slotN p j = true → j ∈ own
  | .name i, h, j, q => by
    unfold inN at h
    unfold slotN at q
    have e : i = j := eq_of_beq q
    subst e
    exact List.contains_iff_mem.mp h
  | .tup ts, h, j, q => by
    unfold inN at h
    unfold slotN at q
    exact slots_in own ts h j q
theorem slots_in (own : List Nat) : ∀ p : TNs, inNs own p = true → ∀ j, slotNs p j = true → j ∈ own
  | .nil, _, j, q => by cases q
  | .cons t ts, h, j, q => by
    unfold inNs at h
    unfold slotNs at q
    rw [Bool.and_eq_true] at h
    rw [Bool.or_eq_true] at q
    rcases q with q | q
    · exact slot_in own t h.1 j q
    · exact slots_in own ts h.2 j q
end
def TNs.len : TNs → Nat
  | .nil => 0
  | .cons _ ts => ts.len + 1
/-- beside these slots all is as it was -/
def Beside (f : Nat → Bool) (σ σ' : L2.St) : Prop := σ'.length = σ.length ∧ ∀ i, f i = false → σ'[i]? = σ[i]?
theorem Beside.refl (f : Nat → Bool) (σ : L2.St) : Beside f σ σ := ⟨rfl, fun _ _ => rfl⟩
/-- a value that is taken apart at once -/
def RT (K : PySem.W.Frag) (fa ρ : Nat → Addr) (L : Nat) (H : L2.Hp) (x : PV) (v : V) : Prop := RV fa ρ L H x v ∨ ∃ xs a vs, x = .tup xs ∧ v = .ref a ∧ SqT K H a vs ∧ RVs fa ρ L H xs vs
def RG (K : PySem.W.Frag) (fa ρ : Nat → Addr) (L : Nat) (H : L2.Hp) : TN → PV → V → Prop
  | .name _, x, v => RV fa ρ L H x v
  | .tup _, x, v => RT K fa ρ L H x v
theorem RG.of {K : PySem.W.Frag} {fa ρ : Nat → Addr} {L : Nat} {H : L2.Hp} {p : TN} {x : PV} {v : V} (h : RV fa ρ L H x v) : RG K fa ρ L H p x v := by
  cases p with
  | name i => exact h
  | tup ts => exact .inl h
def tG (S : Sg) (g : Cfg) (p : TN) : TG := fun v σ H Q => ∃ ρ env m x, S.at g ρ env m σ H ∧ RG S.K S.fa ρ m.length H p x v ∧ ∃ e, asgN p x m env = some e ∧ ∀ σ', S.at g ρ e m σ' H → Beside (slotN p) σ σ' → Q σ' H
def tGs (S : Sg) (g : Cfg) (ps : TNs) : TGs := fun vs σ H Q => ∃ ρ env m xs, S.at g ρ env m σ H ∧ RVs S.fa ρ m.length H xs vs ∧ ∃ e, asgNs ps xs m env = some e ∧ ∀ σ', S.at g ρ e m σ' H → Beside (slotNs ps) σ σ' → Q σ' H
theorem PG.imp {X : Cx} {x : Expr} {t t' : TG} (h : PG X x t') (i : ∀ v σ H Q, t v σ H Q → t' v σ H Q) : PG X x t := ⟨fun pins s σ H v u Q I r w => h.run pins s σ H v u Q I r (i v σ H Q w)⟩
theorem PGs.imp {X : Cx} {x : List Expr} {t t' : TGs} (h : PGs X x t') (i : ∀ v σ H Q, t v σ H Q → t' v σ H Q) : PGs X x t := ⟨fun pins s σ H v u Q I r w => h.run pins s σ H v u Q I r (i v σ H Q w)⟩
theorem asgNs_len {m : Mem} : ∀ {ps : TNs} {xs : List PV} {env e : Env}, asgNs ps xs m env = some e → ps.len = xs.length
  | .nil, [], _, _, _ => rfl
  | .nil, _ :: _, _, _, h => by cases h
  | .cons _ _, [], _, _, h => by cases h
  | .cons t ts, x :: xs, env, e, h => by
    unfold asgNs at h
    split at h
    · show ts.len + 1 = xs.length + 1
      rw [asgNs_len h]
    · cases h
section
variable {X : Cx} {S : Sg} {W : WX} {g : Cfg}
theorem At.set {ρ : Nat → Addr} {env : Env} {m : Mem} {σ : L2.St} {H : L2.Hp} (A : S.at g ρ env m σ H) {i : Nat} {x : PV} {v : V} (r : RS S.ξ S.fa ρ m.length H x v) : S.at g ρ (env.set i (some x)) m (σ.set i (some v)) H := by
  refine ⟨A.rel, ⟨by rw [List.length_set, List.length_set]; exact A.env.len, fun j y e => ?_⟩, A.le⟩
  rcases get_set e with ⟨h1, h2⟩ | ⟨h1, h2, h3⟩
  · obtain ⟨w, e1, q⟩ := A.env.at_ j y h2
    exact ⟨w, by rw [List.getElem?_set_ne (fun z => h1 z.symm)]; exact e1, q⟩
  · subst h1
    cases h2
    exact ⟨v, by rw [List.getElem?_set_self (by rw [← A.env.len]; exact h3)], r⟩
theorem sg_name {i : Nat} {x : Str} {pos : Pos} (hN : X.N.Nodup) (hi : X.N[i]? = some x) (hx : Loc X.env.scope x) (hf : X.fn x = true ∨ X.env.scope.names.lookup x = some .local) : PG X (.Name x pos) (tG S g (.name i)) := by
  refine PG.imp (pg_name hN hi hx hf) fun v σ H Q ⟨ρ, env, m, y, A, r, e, he, q⟩ => ?_
  unfold asgN at he
  split at he
  · cases he
    refine q _ (A.set (.of r)) ⟨by rw [List.length_set], fun j hj => ?_⟩
    refine List.getElem?_set_ne fun z => ?_
    unfold slotN at hj
    rw [z, beq_self_eq_true] at hj
    cases hj
  · cases he
theorem sgs_nil : PGs X [] (tGs S g .nil) := by
  refine PGs.imp pgs_nil fun vs σ H Q ⟨ρ, env, m, xs, A, r, e, he, q⟩ => ?_
  cases xs with
  | cons _ _ => cases he
  | nil =>
    cases he
    cases r
    exact ⟨rfl, q σ A (.refl _ _)⟩
theorem assignEach_of {x : Expr} (h : starB x = true) (xs : List Expr) (env : PySem.Env) : (assignEach (x :: xs) env).map (·.2) = assign x env :: (assignEach xs env).map (·.2) ∧ assignEach (x :: xs) env = (false, assign x env) :: assignEach xs env := by
  cases x <;> first | exact ⟨rfl, rfl⟩ | cases h
theorem sgs_cons {p : TN} {ps : TNs} {x : Expr} {xs : List Expr} (hs : starB x = true) (h1 : PG X x (tG S g p)) (h2 : PGs X xs (tGs S g ps)) : PGs X (x :: xs) (tGs S g (.cons p ps)) := by
  refine PGs.imp (pgs_cons h1 h2 (assignEach_of hs xs X.env).1) fun vs σ H Q ⟨ρ, env, m, ys, A, r, e, he, q⟩ => ?_
  cases ys with
  | nil => cases he
  | cons y ys =>
    cases r with
    | cons a b =>
      unfold asgNs at he
      split at he
      · rename_i e1 he1
        refine ⟨_, _, rfl, ρ, env, m, y, A, .of a, e1, he1, fun σ1 A1 b1 => ?_⟩
        refine ⟨ρ, e1, m, ys, A1, b, e, he, fun σ2 A2 b2 => q σ2 A2 ⟨b2.1.trans b1.1, fun i hi => ?_⟩⟩
        unfold slotNs at hi
        rw [Bool.or_eq_false_iff] at hi
        exact (b2.2 i hi.2).trans (b1.2 i hi.1)
      · cases he
theorem starless_len {env : PySem.Env} : ∀ {xs : List Expr}, Starless xs → (assignEach xs env).length = xs.length ∧ (assignEach xs env).findIdx? (·.1) = none
  | _, .nil => ⟨rfl, rfl⟩
  | _, .cons (x := x) (xs := xs) h t => by
    obtain ⟨a, b⟩ := starless_len (env := env) t
    rw [(assignEach_of h xs env).2]
    exact ⟨by rw [List.length_cons, a, List.length_cons], by rw [List.findIdx?_cons, b]; rfl⟩
theorem sg_tup {ps : TNs} {xs : List Expr} {k : Nat} {pos : Pos} (hK : X.K = S.K) (hc : X.calm = true) (hs : Starless xs) (hl : ps.len = xs.length) (h : PGs X xs (tGs S g ps)) : PG X (.Tuple xs k pos) (tG S g (.tup ps)) := by
  refine PG.imp (pg_tup (n := xs.length) hc h (starless_len hs).1 (starless_len hs).2) fun v σ H Q ⟨ρ, env, m, y, A, r, e, he, q⟩ => ?_
  unfold asgN at he
  split at he
  · rename_i ys
    have r : RT S.K S.fa ρ m.length H (.tup ys) v := r
    have hy := asgNs_len he
    rcases r with r | ⟨zs, a, vs, e1, e2, e3, e4⟩
    · obtain ⟨a, o, vs, rfl, ha, _, rvs⟩ := rv_tup r
      rw [hK]
      exact ⟨a, vs, rfl, sqT_of ha, by rw [← rvs.length, ← hy, hl], ρ, env, m, ys, A, rvs, e, he, q⟩
    · cases e1
      subst e2
      rw [hK]
      exact ⟨a, vs, rfl, e3, by rw [← e4.length, ← hy, hl], ρ, env, m, ys, A, e4, e, he, q⟩
  · cases he

/-! ### what is walked -/
/-- a later state, seen from the values -/
structure Lat (ρ : Nat → Addr) (m : Mem) (H : L2.Hp) (ρ' : Nat → Addr) (m' : Mem) (H' : L2.Hp) : Prop where
  ag : ∀ n, n < m.length → ρ' n = ρ n
  le : m.length ≤ m'.length
  kp : Keep H H'
  dv : Dv ρ m H m' H'
theorem Lat.refl (ρ : Nat → Addr) (m : Mem) (H : L2.Hp) : Lat ρ m H ρ m H := ⟨fun _ _ => rfl, Nat.le_refl _, .refl _, .refl _ _ _⟩
theorem Fut.lat {K : PySem.W.Frag} {fa ρ ρ' : Nat → Addr} {n0 : Nat} {m m' : Mem} {H H' : L2.Hp} (F : Fut K fa n0 ρ m H ρ' m' H') : Lat ρ m H ρ' m' H' := ⟨F.ag, F.le, F.kp, F.dv⟩
theorem FutD.lat {K : PySem.W.Frag} {fa ρ ρ' : Nat → Addr} {n0 : Nat} {D : Addr} {m m' : Mem} {H H' : L2.Hp} (F : FutD K fa n0 D ρ m H ρ' m' H') : Lat ρ m H ρ' m' H' := ⟨F.ag, F.le, F.kp, F.dv⟩
theorem Lat.trans {ρ ρ1 ρ2 : Nat → Addr} {m m1 m2 : Mem} {H H1 H2 : L2.Hp} (a : Lat ρ m H ρ1 m1 H1) (b : Lat ρ1 m1 H1 ρ2 m2 H2) : Lat ρ m H ρ2 m2 H2 :=
  ⟨fun n h => (b.ag n (Nat.lt_of_lt_of_le h a.le)).trans (a.ag n h), Nat.le_trans a.le b.le, a.kp.trans b.kp, a.dv.trans a.ag b.dv⟩
/-- its items are values of their own -/
def srcP : Src → Bool
  | .tup _ | .lst _ | .rng _ _ | .dn _ _ => true
  | _ => false
theorem srcB_plain {m : Mem} {x : PV} {s : Src} (h : srcB m x = some s) : srcP s = true := by
  unfold srcB at h
  split at h
  · cases h; rfl
  · split at h
    · cases h; rfl
    · cases h
  · split at h
    · cases h; rfl
    · cases h; rfl
    · cases h
  · cases h
/-- J walks src -/
def JOk (S : Sg) (src : Src) (J : L2.It) (ρ : Nat → Addr) (m : Mem) (H : L2.Hp) : Prop := ∀ ρ2 m2 H2, Lat ρ m H ρ2 m2 H2 → Rel S.K S.fa ρ2 m2 H2 → ∀ i ox, src.at m2 i = some ox → match ox with
  | none => J.stop i H2
  | some x => J.go i H2 ∧ ∀ v H3, J.yld i H2 v H3 → (∀ n0, Fut S.K S.fa n0 ρ2 m2 H2 ρ2 m2 H3) ∧ RT S.K S.fa ρ2 m2.length H3 x v ∧ (srcP src = true → RV S.fa ρ2 m2.length H3 x v)
def tI (S : Sg) (W : WX) (g : Cfg) (it : It) : TI := fun σ H R => ∃ ρ env m, S.at g ρ env m σ H ∧ Out S.K S.fa g.n0 Prod.snd ρ m H (evI g env it m) (fun a ρ' H' => ∀ J, JOk S a.1 J ρ' a.2 H' → R J H') (wX S W σ)
theorem jok_tup {ρ : Nat → Addr} {m : Mem} {H : L2.Hp} {xs : List PV} {a : Addr} {o : Obj} {vs : List V} (ha : H a = some (.frz o (.tup vs))) (q : RVs S.fa ρ m.length H xs vs) : JOk S (.tup xs) (Itt S.K a) ρ m H := by
  intro ρ2 m2 H2 L R i ox e
  have ha2 := L.kp.frz _ _ _ ha
  have q2 := RVs.mono L.ag L.le L.kp _ _ q
  have e : some xs[i]? = some ox := e
  cases e
  cases ex : xs[i]? with
  | none => exact ⟨vs, sqT_of ha2, by rw [← q2.length]; exact List.getElem?_eq_none_iff.mp ex⟩
  | some x =>
    obtain ⟨v, ev, r⟩ := q2.get ex
    refine ⟨⟨vs, v, sqT_of ha2, ev⟩, fun v' H3 ⟨e1, e2⟩ => ?_⟩
    subst e1
    have := e2 vs (sqT_of ha2)
    rw [ev] at this
    cases this
    exact ⟨fun n0 => .refl R, .inl r, fun _ => r⟩
theorem jok_lst {ρ : Nat → Addr} {m : Mem} {H : L2.Hp} {n : Nat} (hn : n < m.length) : JOk S (.lst n) (Itl S.K (ρ n)) ρ m H := by
  intro ρ2 m2 H2 L R i ox e
  have e : (lstAt m2 n).map (fun xs => xs[i]?) = some ox := e
  obtain ⟨xs, el, ex⟩ := Option.map_eq_some_iff.mp e
  obtain ⟨vs, hS, q⟩ := rel_seq R el
  rw [L.ag n hn] at hS
  subst ex
  cases ex : xs[i]? with
  | none => exact ⟨vs, hS, by rw [← q.length]; exact List.getElem?_eq_none_iff.mp ex⟩
  | some x =>
    obtain ⟨v, ev, r⟩ := q.get ex
    refine ⟨⟨vs, v, hS, ev⟩, fun v' H3 ⟨e1, e2⟩ => ?_⟩
    subst e1
    have := e2 vs hS
    rw [ev] at this
    cases this
    exact ⟨fun n0 => .refl R, .inl r, fun _ => r⟩
theorem jok_rng {ρ : Nat → Addr} {m : Mem} {H : L2.Hp} {lo : Int} {k : Nat} : JOk S (.rng lo k) (Itr lo k) ρ m H := by
  intro ρ2 m2 H2 L R i ox e
  have e : (if i < k then some (some (PV.int (lo + i))) else some none) = some ox := e
  split at e
  · rename_i h
    cases e
    refine ⟨h, fun v H3 ⟨e1, e2⟩ => ?_⟩
    subst e1 e2
    exact ⟨fun n0 => .refl R, .inl (.int _), fun _ => .int _⟩
  · rename_i h
    cases e
    exact Nat.not_lt.mp h
/-- an iterator over a value -/
theorem src_ok {pins : List (Addr × Obj)} {s : Shared} {σ : L2.St} {H : L2.Hp} {R : L2.It → L2.Hp → Prop} {tg : Expr} {ρ : Nat → Addr} {m : Mem} {x : PV} {v : V} {u : Value} {src : Src} (hK : X.K = S.K) (I : L2.Inv X pins σ H s) (rel : Rel S.K S.fa ρ m H) (r : RV S.fa ρ m.length H x v) (ru : L2.RelV v u) (e : srcB m x = some src)
    (h : ∀ J, JOk S src J ρ m H → R J H) : wpAny (model X.prog X.w) X.A (pyIter u) (PIE X pins σ tg R) X.xe s := by
  unfold srcB at e
  split at e
  · cases e
    obtain ⟨a, o, vs, rfl, ha, _, q⟩ := rv_tup r
    cases ru
    obtain ⟨its, rv, p, hz⟩ := I.tuple (sqT_of ha)
    refine wpAny_pyIter_tuple (show s.heap.IsTuple a its.toArray from p) ?_
    have T : L2.Turn X.prog X.w X.K tg (Itt S.K a) [s.heap.objs.size] s.heap.objs.size (fun i h => h.IsTupleIter s.heap.objs.size a i) := by rw [hK]; exact turn_tuple a _
    exact pi_one (tk := s.toks) I _ T ⟨_, Heap.get?_push_size _ rfl, rfl, rfl⟩ (h _ (jok_tup ha q))
  · split at e
    · rename_i lo hi hs
      cases e
      rw [Bool.and_eq_true] at hs
      obtain ⟨a1, a2⟩ := small62_of hs.1
      obtain ⟨b1, b2⟩ := small62_of hs.2
      cases r with
      | rng er =>
        cases ru
        obtain ⟨t1, t2, t3, ho⟩ := I.hok _ _ er
        refine wpAny_pyIter_range (show IsRange s.heap _ lo hi 1 t1 t2 t3 from ho) (small_one a1 a2 b1 b2) ?_
        refine pi_one (tk := s.toks) I _ (by rw [hK]; exact turn_range _ lo (hi - lo).toNat) ?_ (h _ jok_rng)
        have e1 : lo + ((0 : Nat) : Int) * 1 = lo := by simp
        have e2 : (((hi - lo).toNat : Nat) : Int) - ((0 : Nat) : Int) = Builtin.Range.rangeSize lo hi 1 := by rw [rangeSize_one]; split <;> omega
        show IsRangeIter _ _ (lo + ((0 : Nat) : Int) * 1) ((((hi - lo).toNat : Nat) : Int) - ((0 : Nat) : Int)) 1
        rw [e1, e2]
        exact Heap.get?_push_size _ rfl
    · cases e
  · rename_i n
    obtain ⟨rfl, hn⟩ := rv_loc r
    cases ru
    have go : ∀ {xs : List PV}, lstAt m n = some xs → (JOk S (.lst n) (Itl S.K (ρ n)) ρ m H → R (Itl S.K (ρ n)) H) → wpAny (model X.prog X.w) X.A (pyIter (.ref (ρ n))) (PIE X pins σ tg R) X.xe s := fun {xs} el hh => by
      obtain ⟨vs, hS, q⟩ := rel_seq rel el
      rw [← hK] at hS
      obtain ⟨its, rv, p, hz⟩ := I.list hS
      refine wpAny_pyIter_list p.isList ?_
      have T : L2.Turn X.prog X.w X.K tg (Itl S.K (ρ n)) [s.heap.objs.size] s.heap.objs.size (fun i h => h.IsListIter s.heap.objs.size (ρ n) i) := by rw [hK]; exact turn_list (ρ n) _
      exact pi_one (tk := s.toks) I _ T ⟨_, Heap.get?_push_size _ rfl, rfl, rfl⟩ (hh (jok_lst hn))
    split at e
    · rename_i xs ek
      cases e
      exact go (show lstAt m n = some xs by unfold lstAt; rw [ek]) (h _)
    · rename_i xs ek
      cases e
      exact go (show lstAt m n = some xs by unfold lstAt; rw [ek]) (h _)
    · cases e
  · cases e
theorem si_plain {e : E} {tg x : Expr} (hK : X.K = S.K) (he : PE X x (tE S W g e)) : PI X tg x (tI S W g (.plain e)) := by
  refine ⟨fun pins s σ H R I ⟨ρ, env, m, A, h⟩ => ?_⟩
  have h : Out S.K S.fa g.n0 Prod.snd ρ m H ((evE g env false e m).bd fun r => match srcB r.2 r.1 with
    | some s => (.ok (s, r.2) : Res (Src × Mem))
    | none => .err) (fun a ρ' H' => ∀ J, JOk S a.1 J ρ' a.2 H' → R J H') (wX S W σ) := h
  refine thn (he.run pins s σ H (fun v H1 => ∃ (a : PV × Mem) (ρ1 : Nat → Addr) (src : Src), Rel S.K S.fa ρ1 a.2 H1 ∧ RV S.fa ρ1 a.2.length H1 a.1 v ∧ srcB a.2 a.1 = some src ∧ ∀ J, JOk S src J ρ1 a.2 H1 → R J H1) I
    ⟨ρ, env, m, A, (Out.bd (ma := Prod.snd) h).imp fun a ρ1 H1 _ F p v rv => ?_⟩) fun u s1 ⟨v, H1, I1, r1, a, ρ1, src, rel, rv, es, q⟩ => src_ok hK I1 rel rv r1 es q
  cases es : srcB a.2 a.1 with
  | none => rw [es] at p; exact p.elim
  | some src =>
    rw [es] at p
    exact ⟨a, ρ1, src, F.rel, rv, es, p ρ1 H1 (.refl F.rel)⟩
theorem jok_dn {ρ : Nat → Addr} {m : Mem} {H : L2.Hp} {lo : Int} {k : Nat} : JOk S (.dn lo k) (Itc lo (-1) k) ρ m H := by
  intro ρ2 m2 H2 L R i ox e
  have e : (if i < k then some (some (PV.int (lo - i))) else some none) = some ox := e
  split at e
  · rename_i h
    cases e
    refine ⟨h, fun v H3 ⟨e1, e2⟩ => ?_⟩
    have e3 : lo + (i : Int) * (-1) = lo - i := by omega
    rw [e3] at e2
    subst e1 e2
    exact ⟨fun n0 => .refl R, .inl (.int _), fun _ => .int _⟩
  · rename_i h
    cases e
    exact Nat.not_lt.mp h
/-- range(i, j, -1) -/
theorem si_rng3 {es : Es} {a b c tg : Expr} {p pos : Pos} (hg : Gl X "range") (hm : X.mg "range" = none) (hs : Starless [a, b, c]) (ha : PA X [a, b, c] (tEs S W g es)) : PI X tg (.Call (.Name "range" p) [a, b, c] [] pos) (tI S W g (.rng3 es)) := by
  refine ⟨fun pins s σ H R I ⟨ρ, env, m, A, h⟩ => ?_⟩
  have h : Out S.K S.fa g.n0 Prod.snd ρ m H ((evEs g env es m).bd fun r => match r.1 with
    | [.int i, .int j, .int k] => if k == -1 && small62 i && small62 j then (.ok (.dn i (i - j).toNat, r.2) : Res (Src × Mem)) else .err
    | _ => .err) (fun a ρ' H' => ∀ J, JOk S a.1 J ρ' a.2 H' → R J H') (wX S W σ) := h
  have hs0 := hs
  cases hs with
  | cons hx ht =>
    refine (pi_range3 hg hm ha (star_of hx _ _) ht.any).run pins s σ H R I (tEs_bd A h fun d ρ1 H1 vs A1 _ rvs F q => ?_)
    split at q
    · rename_i i j k e
      split at q
      · rename_i hc
        simp only [Bool.and_eq_true, beq_iff_eq] at hc
        obtain ⟨⟨rfl, h1⟩, h2⟩ := hc
        obtain ⟨a1, a2⟩ := small62_of h1
        obtain ⟨b1, b2⟩ := small62_of h2
        rw [e] at rvs
        cases rvs with
        | cons r1 t1 =>
          cases t1 with
          | cons r2 t2 =>
            cases t2 with
            | cons r3 t3 =>
              cases t3
              cases r1
              cases r2
              cases r3
              exact ⟨i, j, -1, _, rfl, .neg a1 a2 b1 b2, q ρ1 H1 (.refl F.rel) _ jok_dn⟩
      · exact q.elim
    · exact q.elim
end
end Dp
set_option Elab.async false
set_option linter.all false
set_option maxRecDepth 100000
/-! DpZ: zip and enumerate over lists and tuples. -/
namespace Dp
open PySem PySem.Spec PyProof.Rows L2

/-! ### lists and tuples alike: true for a list -/
def SqX (K : PySem.W.Frag) (H : L2.Hp) (b : Bool) (a : Addr) (xs : List V) : Prop := match b with
  | true => SqL K H a xs
  | false => SqT K H a xs
def isX (b : Bool) (h : Heap) (a : Addr) (its : Array Value) : Prop := match b with
  | true => h.IsList a its
  | false => h.IsTuple a its
def tnX (b : Bool) (h : Heap) (it a : Addr) (i : Nat) : Prop := match b with
  | true => h.IsListIter it a i
  | false => h.IsTupleIter it a i
def obX (b : Bool) (a : Addr) : Obj := match b with
  | true => { cls := .type "list_iterator", data := .fields #[.ref a, .int 0 0] }
  | false => { cls := .type "tuple_iterator", data := .fields #[.ref a, .int 0 0] }
theorem tnX.obj {b : Bool} {h : Heap} {it a : Addr} {i : Nat} (x : tnX b h it a i) : ∃ o, h.get? it = some o ∧ ∀ v, o.data ≠ .cell v := by
  cases b
  · obtain ⟨o, e, _, d⟩ := x; exact ⟨o, e, fun v q => by rw [d] at q; cases q⟩
  · obtain ⟨o, e, _, d⟩ := x; exact ⟨o, e, fun v q => by rw [d] at q; cases q⟩
theorem tnX.at {b : Bool} {h h' : Heap} {it a : Addr} {i : Nat} (x : tnX b h it a i) (e : ∀ o, h.get? it = some o → h'.get? it = some o) : tnX b h' it a i := by
  cases b
  · exact Heap.IsTupleIter.at x e
  · exact Heap.IsListIter.at x e
theorem isX.at {b : Bool} {h h' : Heap} {a : Addr} {its : Array Value} (x : isX b h a its) (e : ∀ o, h.get? a = some o → h'.get? a = some o) : isX b h' a its := by
  cases b
  · exact Heap.IsTuple.at x e
  · exact Heap.IsList.at x e
theorem isX.lt {b : Bool} {h : Heap} {a : Addr} {its : Array Value} (x : isX b h a its) : a < h.objs.size := by
  cases b
  · obtain ⟨o, e, _⟩ := x; exact Heap.lt_size e
  · obtain ⟨o, e, _⟩ := x; exact Heap.lt_size e
theorem begX (b : Bool) (a : Addr) (its : Array Value) : Begins (.ref a) (obX b a) fun h => isX b h a its := by
  cases b
  · exact begins_tuple a its
  · exact begins_list a its
theorem tnX_new (b : Bool) {h : Heap} {it a : Addr} (e : h.get? it = some (obX b a)) : tnX b h it a 0 := by
  cases b
  · exact ⟨_, e, rfl, rfl⟩
  · exact ⟨_, e, rfl, rfl⟩
theorem drawX {prog : Program} {w : World} {A : Around} (hh : A.handled = none) (b : Bool) (it a : Addr) (hne : a ≠ it) (its : Array Value) : Draws prog w A it [it, a] its.size (fun i v => its[i]? = some v) (fun i h => tnX b h it a i ∧ isX b h a its) := by
  cases b
  · exact Draws.tuple hh it a hne its
  · exact Draws.list hh it a hne its
/-- at its end -/
theorem drawE {prog : Program} {w : World} {A : Around} (hh : A.handled = none) (b : Bool) (it a : Addr) (its : Array Value) (i : Nat) (hi : its[i]? = none) : Draws prog w A it [it, a] i (fun _ _ => True) (fun j h => j = i ∧ tnX b h it a i ∧ isX b h a its) where
  live := fun _ _ st => by obtain ⟨o, e, _⟩ := st.2.1.obj; exact ⟨o, e⟩
  frame := fun _ _ _ st hk => ⟨st.1, st.2.1.at fun o e => hk it (by simp) o e, st.2.2.at fun o e => hk a (by simp) o e⟩
  item := fun j s Q E hj st hQ => absurd hj (by rw [st.1]; exact Nat.lt_irrefl _)
  done := fun s Q E st hE => by
    obtain ⟨_, h1, h2⟩ := st
    cases b
    · exact wpAny_nextOf_tuple_end hh h1 h2 hi hE
    · exact wpAny_nextOf_list_end hh h1 h2 hi hE
section
variable {X : Cx} {pins : List (Addr × Obj)} {σ : L2.St} {H : L2.Hp} {s : Shared}
theorem invX (I : L2.Inv X pins σ H s) {b : Bool} {a : Addr} {xs : List V} (h : SqX X.K H b a xs) : ∃ its : List Value, L2.Vals xs its ∧ isX b s.heap a its.toArray := by
  cases b
  · obtain ⟨its, rv, p, _⟩ := I.tuple h; exact ⟨its, rv, p⟩
  · obtain ⟨its, rv, p, _⟩ := I.list h; exact ⟨its, rv, p.isList⟩
theorem injX (I : L2.Inv X pins σ H s) {b : Bool} {a : Addr} {xs ys : List V} (h : SqX X.K H b a xs) (g : SqX X.K H b a ys) : xs = ys := by
  cases b
  · exact I.tuple_inj h g
  · exact I.list_inj h g
end
theorem vals_none {xs : List V} {us : List Value} (r : L2.Vals xs us) {i : Nat} (h : xs[i]? = none) : us.toArray[i]? = none := by
  have := r.none_of h
  simpa using this

/-! ### enumerate -/
set_option maxHeartbeats 1000000 in
theorem meets_enum1 {v : Value} {o : Obj} {Hh : Heap → Prop} (B : Begins v o Hh) :
    Meets (Builtin.«enumerate.__new__» ⟨[.type "enumerate", v], []⟩) (fun _ R s => Hh s.heap ∧
      R (.ok (.ret (.ref (s.heap.push o).objs.size))) { s with heap := (s.heap.push o).push { cls := .type "enumerate", data := .fields #[.none, .bool false, .ref s.heap.objs.size, rawInt 0, .none, .none] } }) :=
  .of_wp fun prog w A R s h => by
    obtain ⟨hp, g, d, tk, os⟩ := s; obtain ⟨h1, h⟩ := h
    have hsub := sub_enumerate
    have q1 : ∀ {A' : Around} {E : Value → Shared → Prop} {Q : Value → Shared → Prop}, Q (.ref hp.objs.size) ⟨hp.push o, g, d, tk, os⟩ → wpAny (model prog w) A' (pyIter v) Q E ⟨hp, g, d, tk, os⟩ :=
      fun q => B.iter prog w _ _ ⟨hp, g, d, tk, os⟩ _ h1 q
    wp_walk using q1
    refine wpAny_stack_any fun st => wpAny_pure ?_
    split
    · rename_i c _ _ _ _ _
      cases (c == Value.type "enumerate")
      · wp_walk using q1
        exact ⟨_, rfl, h⟩
      · wp_walk using q1
        exact ⟨_, rfl, h⟩
    · wp_walk using q1
      exact ⟨_, rfl, h⟩
theorem enum_begins1 {prog : Program} {w : World} {A : Around} {E : Value → Shared → Prop} {s : Shared} {v : Value} {o : Obj} {Hh : Heap → Prop} {Q : Value → Shared → Prop} (B : Begins v o Hh) (h1 : Hh s.heap)
    (h : ∀ h', IsEnum h' (s.heap.objs.size + 1) s.heap.objs.size 0 .none → h'.get? s.heap.objs.size = some o → h'.objs.size = s.heap.objs.size + 2 →
      (∀ b o, s.heap.get? b = some o → h'.get? b = some o) → Q (.ref (s.heap.objs.size + 1)) { s with heap := h' }) :
    wpAny (model prog w) A (call (.type "enumerate") [v]) Q E s := by
  refine callType_new F.called_enumerate (by decide) (F.typeCall_enumerate_1 _) (F.newCall_enumerate_1 _) (fun obj => F.args_object_init_2 obj _) F.entry_enumerate_new
    (meets_enum1 B) ⟨h1, ?_⟩
  have hz : (s.heap.push o).objs.size = s.heap.objs.size + 1 := Heap.size_push ..
  show _ ∧ _
  rw [hz]
  have he : IsEnum ((s.heap.push o).push { cls := .type "enumerate", data := .fields #[.none, .bool false, .ref s.heap.objs.size, rawInt 0, .none, .none] }) (s.heap.objs.size + 1) s.heap.objs.size 0 .none := by
    have := Heap.get?_push_size (s.heap.push o) (o := { cls := .type "enumerate", data := .fields #[.none, .bool false, .ref s.heap.objs.size, rawInt 0, .none, .none] }) rfl
    rw [hz] at this; exact this
  refine ⟨⟨_, he, rfl⟩, h _ he (Heap.get?_push_of_some _ (Heap.get?_push_size _ B.free)) (by rw [Heap.size_push, hz]) fun b o x => Heap.get?_push_of_some _ (Heap.get?_push_of_some _ x)⟩

def IteX (K : PySem.W.Frag) (b : Bool) (a : Addr) : L2.It :=
  ⟨fun i H => ∃ xs x, SqX K H b a xs ∧ xs[i]? = some x, fun i H v H' => ∃ T x, v = .ref T ∧ H T = none ∧ H' = upd H T (.tup [.int (i : Nat), x]) ∧ ∀ ys, SqX K H b a ys → ys[i]? = some x,
    fun i H => ∃ xs : List V, SqX K H b a xs ∧ xs.length ≤ i⟩
theorem turn_enumX {P : Program} {w : World} {K : PySem.W.Frag} {elts : List Expr} {kk : Nat} {tpos : Pos} (b : Bool) (a e it : Addr) :
    Turn P w K (.Tuple elts kk tpos) (IteX K b a) [e, it] e (fun i h => (∃ old, IsEnum h e it ((i : Nat) : Int) old) ∧ tnX b h it a i ∧ e ≠ it ∧ a ≠ it ∧ a ≠ e) where
  mem := by simp
  obj := fun i h st c hc => by
    obtain ⟨⟨old, he⟩, ht, _⟩ := st
    have e' : c = e ∨ c = it := by simpa using hc
    rcases e' with z | z
    · rw [z]; exact ⟨_, he, fun v q => nomatch q⟩
    · rw [z]; exact ht.obj
  keep := fun i h h' st k => let ⟨⟨old, he⟩, hi, hne⟩ := st; ⟨⟨old, k e (by simp) _ he⟩, hi.at fun o q => k it (by simp) o q, hne⟩
  item := by
    intro X hP hw hK hc i pins s σ H E I hf st hg
    subst hP hw hK
    obtain ⟨⟨old, he⟩, hit, hne, ha1, ha2⟩ := st
    obtain ⟨xs, x, hq, hx⟩ := hg
    obtain ⟨its, rv, p⟩ := invX I hq
    obtain ⟨u, hu, ru⟩ := rv.get hx
    have hu' : its.toArray[i]? = some u := by simpa using hu
    have hlt : i < its.toArray.size := (Array.getElem?_eq_some_iff.mp hu').1
    have hel : e < s.heap.objs.size := Heap.lt_size he
    have hil : it < s.heap.objs.size := by obtain ⟨_, q, _⟩ := hit.obj; exact Heap.lt_size q
    refine wpAny_pyNext_enum_itemD (drawX (A := X.A.in1) (I.ok.hd hc) b it a ha1 its.toArray) he ⟨hit, p⟩ hlt hne (by simp [hne, Ne.symm ha2]) fun y h' tk hy ho hit' hT hsz hk => ?_
    rw [hu'] at hy
    cases hy
    refine ⟨_, rfl, wpAny_letOwnedTupleGo_enum (s := { s with heap := h', toks := tk + 1 }) ho fun h'' he' sb => ?_⟩
    have hT2 : h''.get? s.heap.objs.size = some { cls := .type "tuple", data := .seq #[.int i tk, u] } := (sb.2 _ (Nat.ne_of_gt hel)).trans hT
    have new : ObjOk X.prog X.w (upd H s.heap.objs.size (.tup [.int (i : Nat), x])) h'' s.heap.objs.size (.tup [.int (i : Nat), x]) :=
      ⟨by show 2 ≤ sizeLine; decide, [.int i tk, u], .cons ⟨_, rfl⟩ (.cons ru .nil), ⟨_, hT2, rfl, _, rfl⟩⟩
    have I1 : L2.Inv X pins σ (upd H s.heap.objs.size (.tup [.int (i : Nat), x])) { s with heap := h'', toks := tk + 1 } :=
      I.turnedNew (ch := [e, it]) (fun c ob hb q => (sb.2 c (fun z => hb (by simp [z]))).trans (hk c ob (fun z => hb (by simp [z])) (fun z => hb (by simp [z])) q)) hf (Nat.le_refl _) new
    refine ⟨.ref s.heap.objs.size, _, I1, rfl, ⟨_, x, rfl, I.hok.fresh (Nat.le_refl _), rfl, fun ys hy => by rw [injX I hy hq]; exact hx⟩, ⟨⟨u, ?_⟩, hit'.1.at fun o q => (sb.2 it (Ne.symm hne)).trans q, hne, ha1, ha2⟩, fun c hb => ?_⟩
    · have e1 : ((i + 1 : Nat) : Int) = (i : Int) + 1 := by omega
      rw [e1]; exact he'
    · have hb' : c < s.heap.objs.size := by
        have e' : c = e ∨ c = it := by simpa using hb
        rcases e' with z | z
        · rw [z]; exact hel
        · rw [z]; exact hil
      rw [upd_ne (Nat.ne_of_lt hb')]
      exact (hf c hb).1
  done := by
    intro X hP hw hK hc i pins s σ H E I hf st hg
    subst hP hw hK
    obtain ⟨⟨old, he⟩, hit, hne, ha1, ha2⟩ := st
    obtain ⟨xs, hq, hx⟩ := hg
    obtain ⟨its, rv, p⟩ := invX I hq
    obtain ⟨f0, f1, f2, f3, f4, f5⟩ := hf it (by simp)
    have hn : its.toArray[i]? = none := vals_none rv (List.getElem?_eq_none hx)
    exact wpAny_pyNext_enum_endD (drawE (A := X.A.in1) (I.ok.hd hc) b it a its.toArray i hn) he ⟨rfl, hit, p⟩ fun h' eb => ⟨rfl, I.turned (t' := s.toks) (fun c o hb q => eb c o hb q) f0 f1 f3 f4 f5⟩
  self := fun A i s Q E st h => let ⟨⟨_, he⟩, _⟩ := st; wpAny_pyIter_enum he h

/-! ### zip -/
def ItzX (K : PySem.W.Frag) (b1 : Bool) (a1 : Addr) (b2 : Bool) (a2 : Addr) : L2.It :=
  ⟨fun i H => ∃ (xs ys : List V) (x y : V), SqX K H b1 a1 xs ∧ SqX K H b2 a2 ys ∧ xs[i]? = some x ∧ ys[i]? = some y,
    fun i H v H' => ∃ T x y, v = .ref T ∧ H T = none ∧ H' = upd H T (.tup [x, y]) ∧ (∀ xs, SqX K H b1 a1 xs → xs[i]? = some x) ∧ ∀ ys, SqX K H b2 a2 ys → ys[i]? = some y,
    fun i H => ∃ xs ys : List V, SqX K H b1 a1 xs ∧ SqX K H b2 a2 ys ∧ (xs.length ≤ i ∨ ys.length ≤ i)⟩
theorem turn_zipX {P : Program} {w : World} {K : PySem.W.Frag} {elts : List Expr} {kk : Nat} {tpos : Pos} (b1 b2 : Bool) {a1 a2 z TI TO i1 i2 : Addr} (D : ZipSep2 z TI TO i1 i2 [i1, a1] [i2, a2]) (h11 : a1 ≠ i1) (h22 : a2 ≠ i2) :
    Turn P w K (.Tuple elts kk tpos) (ItzX K b1 a1 b2 a2) [z, TI, TO, i1, i2] z (fun i h => IsZip h z TI TO .none ∧ IsTupOf2 h TI (.ref i1) (.ref i2) ∧ (∃ x y, IsTupOf2 h TO x y) ∧ tnX b1 h i1 a1 i ∧ tnX b2 h i2 a2 i) where
  mem := by simp
  obj := fun i h st c hc => by
    obtain ⟨hz, hTI, ⟨x, y, hTO⟩, h1, h2⟩ := st
    have e' : c = z ∨ c = TI ∨ c = TO ∨ c = i1 ∨ c = i2 := by simpa using hc
    rcases e' with q | q | q | q | q
    · rw [q]; exact ⟨_, hz, fun v q => nomatch q⟩
    · rw [q]; exact ⟨_, hTI, fun v q => nomatch q⟩
    · rw [q]; exact ⟨_, hTO, fun v q => nomatch q⟩
    · rw [q]; exact h1.obj
    · rw [q]; exact h2.obj
  keep := fun i h h' st k => by
    obtain ⟨hz, hTI, ⟨x, y, hTO⟩, h1, h2⟩ := st
    exact ⟨k z (by simp) _ hz, k TI (by simp) _ hTI, ⟨x, y, k TO (by simp) _ hTO⟩, h1.at fun o q => k i1 (by simp) o q, h2.at fun o q => k i2 (by simp) o q⟩
  item := by
    intro X hP hw hK hc i pins s σ H E I hf st hg
    subst hP hw hK
    obtain ⟨hz, hTI, ⟨x0, y0, hTO⟩, h1, h2⟩ := st
    obtain ⟨xs, ys, x, y, hqx, hqy, hx, hy⟩ := hg
    obtain ⟨its, rv, p⟩ := invX I hqx
    obtain ⟨its2, rv2, p2⟩ := invX I hqy
    obtain ⟨u, hu, ru⟩ := rv.get hx
    obtain ⟨u2, hu2, ru2⟩ := rv2.get hy
    have hu' : its.toArray[i]? = some u := by simpa using hu
    have hu2' : its2.toArray[i]? = some u2 := by simpa using hu2
    have hzl : z < s.heap.objs.size := Heap.lt_size hz
    refine wpAny_pyNext_zipD2_item D (drawX (A := X.A.in1) (I.ok.hd hc) b1 i1 a1 h11 its.toArray) (drawX (A := X.A.in1) (I.ok.hd hc) b2 i2 a2 h22 its2.toArray) hz hTI hTO ⟨h1, p⟩ ⟨h2, p2⟩ (Array.getElem?_eq_some_iff.mp hu').1 (Array.getElem?_eq_some_iff.mp hu2').1
      fun v1 v2 h' tk hv1 hv2 z' TO' h1' h2' hT hsz hk => ?_
    rw [hu'] at hv1
    cases hv1
    rw [hu2'] at hv2
    cases hv2
    refine ⟨_, rfl, wpAny_letOwnedTupleGo_zip (s := { s with heap := h', toks := tk }) z' fun h'' z'' sb => ?_⟩
    have hT2 : h''.get? s.heap.objs.size = some { cls := .type "tuple", data := .seq #[u, u2] } := (sb.2 _ (Nat.ne_of_gt hzl)).trans hT
    have new : ObjOk X.prog X.w (upd H s.heap.objs.size (.tup [x, y])) h'' s.heap.objs.size (.tup [x, y]) :=
      ⟨by show 2 ≤ sizeLine; decide, [u, u2], .cons ru (.cons ru2 .nil), ⟨_, hT2, rfl, _, rfl⟩⟩
    have I1 : L2.Inv X pins σ (upd H s.heap.objs.size (.tup [x, y])) { s with heap := h'', toks := tk } :=
      I.turnedNew (t' := tk) (ch := [z, TI, TO, i1, i2]) (fun c o hb q => (sb.2 c (fun q' => hb (by simp [q']))).trans (hk c o (fun q' => hb (by simp [q'])) (fun q' => hb (by simp [q'])) (fun q' => hb (by simp [q'])) (fun q' => hb (by simp [q'])) q)) hf (Nat.le_refl _) new
    refine ⟨.ref s.heap.objs.size, _, I1, rfl, ⟨_, x, y, rfl, I.hok.fresh (Nat.le_refl _), rfl, fun l hl => by rw [injX I hl hqx]; exact hx, fun l hl => by rw [injX I hl hqy]; exact hy⟩, ⟨z'', ?_, ⟨u, u2, ?_⟩, ?_, ?_⟩, fun c hcm => ?_⟩
    · exact (sb.2 _ D.TIz).trans (hk _ _ D.TIz D.TITO D.TIi1 D.TIi2 hTI)
    · exact (sb.2 _ D.TOz).trans TO'
    · exact h1'.1.at fun o q => (sb.2 _ D.zi1.symm).trans q
    · exact h2'.1.at fun o q => (sb.2 _ D.zi2.symm).trans q
    · have hlt : c < s.heap.objs.size := by
        have e' : c = z ∨ c = TI ∨ c = TO ∨ c = i1 ∨ c = i2 := by simpa using hcm
        rcases e' with q | q | q | q | q
        · rw [q]; exact hzl
        · rw [q]; exact Heap.lt_size hTI
        · rw [q]; exact Heap.lt_size hTO
        · rw [q]; obtain ⟨_, e1, _⟩ := h1.obj; exact Heap.lt_size e1
        · rw [q]; obtain ⟨_, e2, _⟩ := h2.obj; exact Heap.lt_size e2
      rw [upd_ne (Nat.ne_of_lt hlt)]
      exact (hf c hcm).1
  done := by
    intro X hP hw hK hc i pins s σ H E I hf st hg
    subst hP hw hK
    obtain ⟨hz, hTI, ⟨x0, y0, hTO⟩, h1, h2⟩ := st
    obtain ⟨xs, ys, hqx, hqy, hend⟩ := hg
    obtain ⟨its, rv, p⟩ := invX I hqx
    obtain ⟨its2, rv2, p2⟩ := invX I hqy
    have fin : ∀ (h' : Heap) (tk : Nat), (∀ c o, c ≠ z → c ≠ TO → c ≠ i1 → c ≠ i2 → s.heap.get? c = some o → h'.get? c = some o) → (none : Option Value) = none ∧ L2.Inv X pins σ H { s with heap := h', toks := tk } := fun h' tk hk =>
      ⟨rfl, I.turnedL (t' := tk) (ch := [z, TI, TO, i1, i2]) (fun c o hb q => hk c o (fun q' => hb (by simp [q'])) (fun q' => hb (by simp [q'])) (fun q' => hb (by simp [q'])) (fun q' => hb (by simp [q'])) q) hf⟩
    cases e1 : its.toArray[i]? with
    | none =>
      cases e2 : its2.toArray[i]? with
      | none => exact wpAny_pyNext_zipD2_end (i := i) D (drawE (A := X.A.in1) (I.ok.hd hc) b1 i1 a1 its.toArray i e1) (drawE (A := X.A.in1) (I.ok.hd hc) b2 i2 a2 its2.toArray i e2) hz hTI hTO ⟨rfl, h1, p⟩ ⟨rfl, h2, p2⟩ (Nat.le_refl _) (Nat.le_refl _) (.inl rfl) fin
      | some v2 => exact wpAny_pyNext_zipD2_end (i := i) D (drawE (A := X.A.in1) (I.ok.hd hc) b1 i1 a1 its.toArray i e1) (drawX (A := X.A.in1) (I.ok.hd hc) b2 i2 a2 h22 its2.toArray) hz hTI hTO ⟨rfl, h1, p⟩ ⟨h2, p2⟩ (Nat.le_refl _) (Nat.le_of_lt (Array.getElem?_eq_some_iff.mp e2).1) (.inl rfl) fin
    | some v1 =>
      cases e2 : its2.toArray[i]? with
      | none => exact wpAny_pyNext_zipD2_end (i := i) D (drawX (A := X.A.in1) (I.ok.hd hc) b1 i1 a1 h11 its.toArray) (drawE (A := X.A.in1) (I.ok.hd hc) b2 i2 a2 its2.toArray i e2) hz hTI hTO ⟨h1, p⟩ ⟨rfl, h2, p2⟩ (Nat.le_of_lt (Array.getElem?_eq_some_iff.mp e1).1) (Nat.le_refl _) (.inr rfl) fin
      | some v2 =>
        exfalso
        rcases hend with q | q
        · rw [vals_none rv (List.getElem?_eq_none q)] at e1; cases e1
        · rw [vals_none rv2 (List.getElem?_eq_none q)] at e2; cases e2
  self := fun A i s Q E st h => wpAny_pyIter_zip st.1 h
theorem nea {a b : Nat} (h : a < b ∨ b < a) : @Ne Addr a b := fun e => by
  have e : a = b := e
  omega
theorem nem {x a b : Nat} (h1 : x < a ∨ a < x) (h2 : x < b ∨ b < x) : ¬ (@Membership.mem Addr (List Addr) _ [a, b] x) := fun e => by
  rcases List.mem_cons.mp e with q | q
  · exact nea h1 q
  · exact nea h2 (List.mem_singleton.mp q)
theorem sep_of {n a b : Nat} (ha : a < n) (hb : b < n) : ZipSep2 (n + 4) (n + 2) (n + 3) n (n + 1) [n, a] [n + 1, b] where
  TIz := nea (by omega)
  TOz := nea (by omega)
  TITO := nea (by omega)
  TIi1 := nea (by omega)
  mem1 := List.mem_cons_self
  zf1 := nem (by omega) (by omega)
  Tf1 := nem (by omega) (by omega)
  TIi2 := nea (by omega)
  mem2 := List.mem_cons_self
  zf2 := nem (by omega) (by omega)
  Tf2 := nem (by omega) (by omega)
  sep1_2 := nem (by omega) (by omega)
  sep2_1 := nem (by omega) (by omega)

/-! ### what the small language walks -/
section
variable {X : Cx} {S : Sg} {W : WX} {g : Cfg}
/-- the list or tuple at a is what src tells, now and later -/
def SOk (S : Sg) (src : Src) (b : Bool) (a : Addr) (ρ : Nat → Addr) (m : Mem) (H : L2.Hp) : Prop := (∃ vs, SqX S.K H b a vs) ∧ ∀ ρ2 m2 H2, Lat ρ m H ρ2 m2 H2 → Rel S.K S.fa ρ2 m2 H2 → ∀ i ox, src.at m2 i = some ox → ∃ vs, SqX S.K H2 b a vs ∧ match ox with
  | none => vs.length ≤ i
  | some x => ∃ v, vs[i]? = some v ∧ RV S.fa ρ2 m2.length H2 x v
theorem sok_of {ρ : Nat → Addr} {m : Mem} {H : L2.Hp} {x : PV} {v : V} {src : Src} (rel : Rel S.K S.fa ρ m H) (r : RV S.fa ρ m.length H x v) (e : srcB m x = some src) (hs : src.seqS = true) : ∃ b a, v = .ref a ∧ SOk S src b a ρ m H := by
  unfold srcB at e
  split at e
  · rename_i xs
    cases e
    obtain ⟨a, o, vs, rfl, ha, _, q⟩ := rv_tup r
    refine ⟨false, a, rfl, ⟨vs, sqT_of ha⟩, fun ρ2 m2 H2 L R i ox ex => ?_⟩
    have q2 := RVs.mono L.ag L.le L.kp _ _ q
    cases ex
    refine ⟨vs, sqT_of (L.kp.frz _ _ _ ha), ?_⟩
    cases ey : xs[i]? with
    | none => show vs.length ≤ i; rw [← q2.length]; exact List.getElem?_eq_none_iff.mp ey
    | some x => exact q2.get ey
  · split at e
    · cases e; cases hs
    · cases e
  · rename_i n
    obtain ⟨rfl, hn⟩ := rv_loc r
    have go : ∀ {xs : List PV}, lstAt m n = some xs → ∃ b a, V.ref (ρ n) = .ref a ∧ SOk S (.lst n) b a ρ m H := fun {xs} el => by
      obtain ⟨vs, hS, q⟩ := rel_seq rel el
      refine ⟨true, ρ n, rfl, ⟨vs, hS⟩, fun ρ2 m2 H2 L R i ox ex => ?_⟩
      have ex : (lstAt m2 n).map (fun xs => xs[i]?) = some ox := ex
      obtain ⟨ys, ey, eo⟩ := Option.map_eq_some_iff.mp ex
      obtain ⟨ws, hS2, q2⟩ := rel_seq R ey
      rw [L.ag n hn] at hS2
      subst eo
      refine ⟨ws, hS2, ?_⟩
      cases ez : ys[i]? with
      | none => show ws.length ≤ i; rw [← q2.length]; exact List.getElem?_eq_none_iff.mp ez
      | some x => exact q2.get ez
    split at e
    · rename_i xs ek
      cases e
      exact go (show lstAt m n = some xs by unfold lstAt; rw [ek])
    · rename_i xs ek
      cases e
      exact go (show lstAt m n = some xs by unfold lstAt; rw [ek])
    · cases e
  · cases e
theorem lat_new {K : PySem.W.Frag} {fa ρ : Nat → Addr} {m : Mem} {H : L2.Hp} {T : Addr} {u : HO} (r : Rel K fa ρ m H) (hT : H T = none) : Lat ρ m H ρ m (upd H T u) := (Fut.side (n0 := 0) r hT).lat
theorem jok_zip {s1 s2 : Src} {b1 b2 : Bool} {a1 a2 : Addr} {ρ : Nat → Addr} {m : Mem} {H : L2.Hp} (h1 : SOk S s1 b1 a1 ρ m H) (h2 : SOk S s2 b2 a2 ρ m H) : JOk S (.zip s1 s2) (ItzX S.K b1 a1 b2 a2) ρ m H := by
  intro ρ2 m2 H2 L R i ox e
  have e : (match s1.at m2 i, s2.at m2 i with
    | some (some x), some (some y) => some (some (PV.tup [x, y]))
    | some none, some _ => some none
    | some (some _), some none => some none
    | _, _ => none) = some ox := e
  cases e1 : s1.at m2 i with
  | none => rw [e1] at e; cases e
  | some o1 =>
    cases e2 : s2.at m2 i with
    | none => rw [e1, e2] at e; cases o1 <;> cases e
    | some o2 =>
      obtain ⟨vs, hv, r1⟩ := h1.2 ρ2 m2 H2 L R i o1 e1
      obtain ⟨ws, hw, r2⟩ := h2.2 ρ2 m2 H2 L R i o2 e2
      rw [e1, e2] at e
      cases o1 with
      | none => cases e; exact ⟨vs, ws, hv, hw, .inl r1⟩
      | some x =>
        cases o2 with
        | none => cases e; exact ⟨vs, ws, hv, hw, .inr r2⟩
        | some y =>
          cases e
          obtain ⟨v, ev, rv⟩ := r1
          obtain ⟨u, eu, ru⟩ := r2
          refine ⟨⟨vs, ws, v, u, hv, hw, ev, eu⟩, ?_⟩
          rintro z H3 ⟨T, v', u', rfl, hT, rfl, f1, f2⟩
          have := f1 vs hv; rw [ev] at this; cases this
          have := f2 ws hw; rw [eu] at this; cases this
          have kp : Keep H2 (upd H2 T (.tup [v, u])) := .new hT
          refine ⟨fun n0 => .side R hT, .inr ⟨_, T, _, rfl, rfl, .inl (.inl upd_same), .cons (RV.mono (fun _ _ => rfl) (Nat.le_refl _) kp _ _ rv) (.cons (RV.mono (fun _ _ => rfl) (Nat.le_refl _) kp _ _ ru) .nil)⟩, fun q => by cases q⟩
theorem jok_enum {s1 : Src} {b1 : Bool} {a1 : Addr} {ρ : Nat → Addr} {m : Mem} {H : L2.Hp} (h1 : SOk S s1 b1 a1 ρ m H) : JOk S (.enum s1) (IteX S.K b1 a1) ρ m H := by
  intro ρ2 m2 H2 L R i ox e
  have e : (match s1.at m2 i with
    | some (some x) => some (some (PV.tup [.int i, x]))
    | some none => some none
    | none => none) = some ox := e
  cases e1 : s1.at m2 i with
  | none => rw [e1] at e; cases e
  | some o1 =>
    obtain ⟨vs, hv, r1⟩ := h1.2 ρ2 m2 H2 L R i o1 e1
    rw [e1] at e
    cases o1 with
    | none => cases e; exact ⟨vs, hv, r1⟩
    | some x =>
      cases e
      obtain ⟨v, ev, rv⟩ := r1
      refine ⟨⟨vs, v, hv, ev⟩, ?_⟩
      rintro z H3 ⟨T, v', rfl, hT, rfl, f1⟩
      have := f1 vs hv; rw [ev] at this; cases this
      have kp : Keep H2 (upd H2 T (.tup [.int (i : Nat), v])) := .new hT
      refine ⟨fun n0 => .side R hT, .inr ⟨_, T, _, rfl, rfl, .inl (.inl upd_same), .cons (.int _) (.cons (RV.mono (fun _ _ => rfl) (Nat.le_refl _) kp _ _ rv) .nil)⟩, fun q => by cases q⟩

def zipS (s t : Option Src) (h : Mem) : Res (Src × Mem) := match s, t with
  | some s, some t => if s.seqS && t.seqS then .ok (.zip s t, h) else .err
  | _, _ => .err
def zipR (r : List PV × Mem) : Res (Src × Mem) := match r.1 with
  | [x, y] => zipS (srcB r.2 x) (srcB r.2 y) r.2
  | _ => .err
theorem evI_zip {env : Env} {a b : E} {m : Mem} : evI g env (.zip a b) m = (evEs g env (.cons a (.cons b .nil)) m).bd zipR := by
  show ((evE g env false a m).bd fun r => (evE g env false b r.2).bd fun q => match srcB q.2 r.1, srcB q.2 q.1 with
    | some s, some t => if s.seqS && t.seqS then (.ok (.zip s t, q.2) : Res (Src × Mem)) else .err
    | _, _ => .err) = (((evE g env false a m).bd fun r => ((evE g env false b r.2).bd fun q => (.ok ([q.1], q.2) : Res (List PV × Mem))).bd fun q => .ok (r.1 :: q.1, q.2)).bd zipR)
  cases evE g env false a m with
  | ok r =>
    show ((evE g env false b r.2).bd _) = (((evE g env false b r.2).bd _).bd _).bd _
    cases evE g env false b r.2 <;> rfl
  | exc k h => rfl
  | err => rfl
theorem si_zip {a b : E} {x y : Expr} {p pos tpos : Pos} {elts : List Expr} {kk : Nat} (hK : X.K = S.K) (hg : Gl X "zip") (hm : X.mg "zip" = none) (hs : Starless [x, y]) (ha : PA X [x, y] (tEs S W g (.cons a (.cons b .nil)))) :
    PI X (.Tuple elts kk tpos) (.Call (.Name "zip" p) [x, y] [] pos) (tI S W g (.zip a b)) := by
  refine ⟨fun pins s σ H R I ⟨ρ, env, m, A, h⟩ => ?_⟩
  rw [evI_zip] at h
  cases hs with
  | cons hx ht =>
    refine Call_ (ld_blt I hg hm PyProof.Rows.boot_zip (PyProof.Rows.callWith_type1 (thn (ha.run pos pins s σ H (fun vs H1 => ∃ (d : List PV × Mem) (ρ1 : Nat → Addr), S.at g ρ1 env d.2 σ H1 ∧ RVs S.fa ρ1 d.2.length H1 d.1 vs ∧ Out S.K S.fa g.n0 Prod.snd ρ1 d.2 H1 (zipR d) (fun a ρ' H' => ∀ J, JOk S a.1 J ρ' a.2 H' → R J H') (wX S W σ)) I
      (tEs_bd A h fun d ρ1 H1 vs A1 _ rvs F q => ⟨d, ρ1, A1, rvs, q⟩)) fun us s1 ⟨vs, H1, I1, r1, d, ρ1, A1, rvs, q⟩ => ?_) (star_of hx _ _) ht.any))
    obtain ⟨d1, d2⟩ := d
    unfold zipR at q
    dsimp only at q
    split at q
    · rename_i x y
      obtain ⟨v1, v2, rfl, q1, q2⟩ := rvs2 rvs
      cases e1 : srcB d2 x with
      | none => rw [e1] at q; exact q.elim
      | some t1 =>
        cases e2 : srcB d2 y with
        | none => rw [e1, e2] at q; exact q.elim
        | some t2 =>
          rw [e1, e2] at q
          have q : Out S.K S.fa g.n0 Prod.snd ρ1 d2 H1 (if (t1.seqS && t2.seqS) = true then (.ok (.zip t1 t2, d2) : Res (Src × Mem)) else .err) (fun a ρ' H' => ∀ J, JOk S a.1 J ρ' a.2 H' → R J H') (wX S W σ) := q
          split at q
          · rename_i hss
            rw [Bool.and_eq_true] at hss
            obtain ⟨b1, a1, rfl, k1⟩ := sok_of A1.rel q1 e1 hss.1
            obtain ⟨b2, a2, rfl, k2⟩ := sok_of A1.rel q2 e2 hss.2
            obtain ⟨ws1, hw1⟩ := k1.1
            obtain ⟨ws2, hw2⟩ := k2.1
            rw [← hK] at hw1 hw2
            obtain ⟨its, rv, p1⟩ := invX I1 hw1
            obtain ⟨its2, rv2, p2⟩ := invX I1 hw2
            have q := q ρ1 H1 (.refl A1.rel) _ (jok_zip k1 k2)
            rw [← hK] at q
            obtain ⟨u1, u2, rfl, ru1, ru2⟩ := L2.vals2 r1
            cases ru1
            cases ru2
            refine zip_begins2 (begX b1 a1 its.toArray) (begX b2 a2 its2.toArray) p1 p2 fun h' hz hTI hTO h1 h2 hsz hk => wpAny_pyIter_zip hz ?_
            have I2 : L2.Inv X pins σ H1 { s1 with heap := h' } := I1.kept (t' := s1.toks) hk
            refine ⟨s1.heap.objs.size + 4, [s1.heap.objs.size + 4, s1.heap.objs.size + 2, s1.heap.objs.size + 3, s1.heap.objs.size, s1.heap.objs.size + 1], _, _, H1, rfl, I2, turn_zipX b1 b2 (sep_of p1.lt p2.lt) (nea (.inl p1.lt)) (nea (.inl (Nat.lt_succ_of_lt p2.lt))), ⟨hz, hTI, ⟨_, _, hTO⟩, tnX_new b1 h1, tnX_new b2 h2⟩, fun c hcm => ?_, q⟩
            have e' : c = s1.heap.objs.size + 4 ∨ c = s1.heap.objs.size + 2 ∨ c = s1.heap.objs.size + 3 ∨ c = s1.heap.objs.size ∨ c = s1.heap.objs.size + 1 := by simpa using hcm
            have hle : s1.heap.objs.size ≤ c := by
              rcases e' with z | z | z | z | z
              · rw [z]; exact Nat.le_add_right _ _
              · rw [z]; exact Nat.le_add_right _ _
              · rw [z]; exact Nat.le_add_right _ _
              · rw [z]; exact Nat.le_refl _
              · rw [z]; exact Nat.le_add_right _ _
            exact I1.fpOk hle (I1.hok.fresh hle)
          · exact q.elim
    · exact q.elim

def enumS (s : Option Src) (h : Mem) : Res (Src × Mem) := match s with
  | some s => if s.seqS then .ok (.enum s, h) else .err
  | none => .err
def enumR (r : List PV × Mem) : Res (Src × Mem) := match r.1 with
  | [x] => enumS (srcB r.2 x) r.2
  | _ => .err
theorem evI_enum {env : Env} {a : E} {m : Mem} : evI g env (.enum a) m = (evEs g env (.cons a .nil) m).bd enumR := by
  show ((evE g env false a m).bd fun r => match srcB r.2 r.1 with
    | some s => if s.seqS then (.ok (.enum s, r.2) : Res (Src × Mem)) else .err
    | none => .err) = (((evE g env false a m).bd fun r => (.ok ([r.1], r.2) : Res (List PV × Mem))).bd enumR)
  cases evE g env false a m <;> rfl
theorem si_enum {a : E} {x : Expr} {p pos tpos : Pos} {elts : List Expr} {kk : Nat} (hK : X.K = S.K) (hg : Gl X "enumerate") (hm : X.mg "enumerate" = none) (hs : Starless [x]) (ha : PA X [x] (tEs S W g (.cons a .nil))) :
    PI X (.Tuple elts kk tpos) (.Call (.Name "enumerate" p) [x] [] pos) (tI S W g (.enum a)) := by
  refine ⟨fun pins s σ H R I ⟨ρ, env, m, A, h⟩ => ?_⟩
  rw [evI_enum] at h
  cases hs with
  | cons hx ht =>
    refine Call_ (ld_blt I hg hm PyProof.Rows.boot_enumerate (PyProof.Rows.callWith_type1 (thn (ha.run pos pins s σ H (fun vs H1 => ∃ (d : List PV × Mem) (ρ1 : Nat → Addr), S.at g ρ1 env d.2 σ H1 ∧ RVs S.fa ρ1 d.2.length H1 d.1 vs ∧ Out S.K S.fa g.n0 Prod.snd ρ1 d.2 H1 (enumR d) (fun a ρ' H' => ∀ J, JOk S a.1 J ρ' a.2 H' → R J H') (wX S W σ)) I
      (tEs_bd A h fun d ρ1 H1 vs A1 _ rvs F q => ⟨d, ρ1, A1, rvs, q⟩)) fun us s1 ⟨vs, H1, I1, r1, d, ρ1, A1, rvs, q⟩ => ?_) (star_of hx _ _) ht.any))
    obtain ⟨d1, d2⟩ := d
    unfold enumR at q
    dsimp only at q
    split at q
    · rename_i x
      cases rvs with
      | cons q1 rest =>
        cases rest
        rename_i v1
        cases e1 : srcB d2 x with
        | none => rw [e1] at q; exact q.elim
        | some t1 =>
          rw [e1] at q
          have q : Out S.K S.fa g.n0 Prod.snd ρ1 d2 H1 (if t1.seqS = true then (.ok (.enum t1, d2) : Res (Src × Mem)) else .err) (fun a ρ' H' => ∀ J, JOk S a.1 J ρ' a.2 H' → R J H') (wX S W σ) := q
          split at q
          · rename_i hss
            obtain ⟨b1, a1, rfl, k1⟩ := sok_of A1.rel q1 e1 hss
            obtain ⟨ws1, hw1⟩ := k1.1
            rw [← hK] at hw1
            obtain ⟨its, rv, p1⟩ := invX I1 hw1
            have q := q ρ1 H1 (.refl A1.rel) _ (jok_enum k1)
            rw [← hK] at q
            cases r1 with
            | cons ru1 rr =>
              cases rr
              cases ru1
              refine enum_begins1 (begX b1 a1 its.toArray) p1 fun h' he h1 hsz hk => wpAny_pyIter_enum he ?_
              have I2 : L2.Inv X pins σ H1 { s1 with heap := h' } := I1.kept (t' := s1.toks) hk
              refine ⟨s1.heap.objs.size + 1, [s1.heap.objs.size + 1, s1.heap.objs.size], _, _, H1, rfl, I2, turn_enumX b1 a1 (s1.heap.objs.size + 1) s1.heap.objs.size, ⟨⟨.none, he⟩, tnX_new b1 h1, Nat.succ_ne_self _, nea (.inl p1.lt), nea (.inl (Nat.lt_succ_of_lt p1.lt))⟩, fun c hcm => ?_, q⟩
              have e' : c = s1.heap.objs.size + 1 ∨ c = s1.heap.objs.size := by simpa using hcm
              have hle : s1.heap.objs.size ≤ c := by
                rcases e' with z | z
                · rw [z]; exact Nat.le_add_right _ _
                · rw [z]; exact Nat.le_refl _
              exact I1.fpOk hle (I1.hok.fresh hle)
          · exact q.elim
    · exact q.elim
end
end Dp
set_option Elab.async false
set_option linter.all false
set_option maxRecDepth 100000
/-! Dp16: comprehensions. -/
namespace Dp
open PySem PySem.Spec PyProof.Rows L2

/-! ### forgotten slots -/
theorem wipe_in {σ : L2.St} {i : Nat} : ∀ {vs : List Nat}, i ∈ vs → i < σ.length → (L2.wipe σ vs)[i]? = some none
  | v :: vs, h, hl => by
    show ((L2.wipe σ vs).set v none)[i]? = some none
    by_cases e : v = i
    · subst e
      rw [List.getElem?_set_self (by rw [wipe_length]; exact hl)]
    · rw [List.getElem?_set_ne e]
      rcases List.mem_cons.mp h with z | z
      · exact absurd z.symm e
      · exact wipe_in z hl
theorem wipe_beside {σ σ2 : L2.St} {f : Nat → Bool} {own : List Nat} (hf : ∀ j, f j = true → j ∈ own) (b : Beside f (L2.wipe σ own) σ2) : L2.wipe σ2 own = L2.wipe σ own := by
  have hl : σ2.length = σ.length := b.1.trans (wipe_length _ _)
  refine List.ext_getElem? fun i => ?_
  by_cases h : i ∈ own
  · by_cases hi : i < σ.length
    · rw [wipe_in h hi, wipe_in h (by rw [hl]; exact hi)]
    · rw [List.getElem?_eq_none (by rw [wipe_length, hl]; omega), List.getElem?_eq_none (by rw [wipe_length]; omega)]
  · rw [wipe_out h]
    exact b.2 i (by
      cases e : f i with
      | false => rfl
      | true => exact absurd (hf i e) h)
theorem wipeB_some {env : Env} {i : Nat} {x : PV} : ∀ {vs : List Nat}, (wipeB env vs)[i]? = some (some x) → env[i]? = some (some x) ∧ i ∉ vs
  | [], h => ⟨h, by simp⟩
  | v :: vs, h => by
    unfold wipeB at h
    rcases get_set h with ⟨h1, h2⟩ | ⟨h1, h2, _⟩
    · obtain ⟨a, b⟩ := wipeB_some h2
      exact ⟨a, by simp only [List.mem_cons, not_or]; exact ⟨h1, b⟩⟩
    · cases h2
theorem wipeB_len {env : Env} : ∀ {vs : List Nat}, (wipeB env vs).length = env.length
  | [] => rfl
  | v :: vs => by unfold wipeB; rw [List.length_set, wipeB_len]
theorem REnv.wipe {ξ : Nat → V → Prop} {fa ρ : Nat → Addr} {L : Nat} {H : L2.Hp} {env : Env} {σ : L2.St} (r : REnv ξ fa ρ L H env σ) (vs : List Nat) : REnv ξ fa ρ L H (wipeB env vs) (L2.wipe σ vs) := by
  refine ⟨by rw [wipeB_len, wipe_length]; exact r.len, fun i x e => ?_⟩
  obtain ⟨h1, h2⟩ := wipeB_some e
  obtain ⟨v, e1, q⟩ := r.at_ i x h1
  exact ⟨v, by rw [wipe_out h2]; exact e1, q⟩

/-- a comprehension's test -/
def tC1 (S : Sg) (W : WX) (g : Cfg) (e : Oe) : TT := fun σ H Q => ∃ ρ env m, S.at g ρ env m σ H ∧ Out S.K S.fa g.n0 Prod.snd ρ m H (evC g env e m) (fun a _ H' => Q a.1 H') (wX S W σ)
/-- no exception leaves a comprehension -/
abbrev noW : WX := fun _ _ _ _ => False
section
variable {X : Cx} {S : Sg} {W : WX} {g : Cfg}
theorem sc_no : PTs X [] (tC1 S W g .no) := ⟨fun pins s σ H Q I ⟨ρ, env, m, A, h⟩ => pts_nil.run pins s σ H Q I ((show Out S.K S.fa g.n0 Prod.snd ρ m H (.ok (true, m)) _ _ from h) ρ H (.refl A.rel))⟩
theorem sc_one {e : E} {x : Expr} (h : PT X x (tT S W g e)) : PTs X [x] (tC1 S W g (.one e)) := ⟨fun pins s σ H Q I ⟨ρ, env, m, A, hq⟩ => (pts_one h).run pins s σ H Q I (by
  refine tT_bd A (show Out S.K S.fa g.n0 Prod.snd ρ m H ((evE g env true e m).bd fun r => match r.1 with
    | .bl b => (.ok (b, r.2) : Res (Bool × Mem))
    | _ => .err) (fun (a : Bool × Mem) _ H' => Q a.1 H') (wX S W σ) from hq) fun b m1 ρ1 H1 A1 F p => ?_
  exact p ρ1 H1 (.refl A1.rel))⟩

/-- one turn of a comprehension -/
def stepLc (g : Cfg) (env : Env) (p : TN) (own : List Nat) (cond : Oe) (elt : E) : PV → Mem → Res (Option PV × Mem) := fun v h1 => match asgN p v h1 (wipeB env own) with
  | none => .err
  | some e => (evC g e cond h1).bd fun t => if t.1 then (evE g e false elt t.2).bd fun y => .ok (some y.1, y.2) else .ok (none, t.2)
theorem lc_ev {env : Env} {p : TN} {own : List Nat} {it : It} {cond : Oe} {elt : E} {m : Mem} : evE g env false (.lc p own it cond elt) m = (evI g env it m).bd fun r => (lcLoop (stepLc g env p own cond elt) fuelB r.1 0 [] r.2).still.bd fun q => .ok (.loc q.2.length, q.2 ++ [.lst q.1]) := rfl
theorem still_ok {α : Type} {r : Res α} {β : Type} {f : α → Res β} (h : r.still.bd f ≠ .err) : ∃ q, r = .ok q := by
  cases r with
  | ok q => exact ⟨q, rfl⟩
  | exc k m => exact absurd rfl h
  | err => exact absurd rfl h
theorem evI_plain {env : Env} {e : E} {m : Mem} {a : Src × Mem} (h : evI g env (.plain e) m = .ok a) : srcP a.1 = true := by
  have h : ((evE g env false e m).bd fun r => match srcB r.2 r.1 with
    | some s => (.ok (s, r.2) : Res (Src × Mem))
    | none => .err) = .ok a := h
  cases er : evE g env false e m with
  | err => rw [er] at h; cases h
  | exc k m => rw [er] at h; cases h
  | ok r =>
    rw [er, Res.bd_ok] at h
    cases es : srcB r.2 r.1 with
    | none => rw [es] at h; cases h
    | some s => rw [es] at h; cases h; exact srcB_plain es
/-- items that are values of their own -/
def srcI : It → Bool
  | .plain _ | .rng3 _ => true
  | _ => false
theorem evI_src {env : Env} {it : It} {m : Mem} {a : Src × Mem} (hs : srcI it = true) (h : evI g env it m = .ok a) : srcP a.1 = true := by
  cases it with
  | plain e => exact evI_plain h
  | rng3 es =>
    have h : ((evEs g env es m).bd fun r => match r.1 with
      | [.int i, .int j, .int k] => if k == -1 && small62 i && small62 j then (.ok (.dn i (i - j).toNat, r.2) : Res (Src × Mem)) else .err
      | _ => .err) = .ok a := h
    cases er : evEs g env es m with
    | err => rw [er] at h; cases h
    | exc k m => rw [er] at h; cases h
    | ok r =>
      rw [er, Res.bd_ok] at h
      split at h
      · split at h
        · cases h; rfl
        · cases h
      · cases h
  | zip _ _ => cases hs
  | enum _ => cases hs
  | items _ => cases hs
theorem se_lc {p : TN} {own : List (Str × Nat)} {own' : List Nat} {it : It} {cond : Oe} {elt : E} (ho : own.map (·.2) = own') (hin : inN own' p = true)
    (hpl : (∃ ts, p = .tup ts) ∨ srcI it = true) {σ : L2.St} {H : L2.Hp} {Q : VK} (h : tE S W g (.lc p own' it cond elt) σ H Q) : tLc (tI S W g it) (tG S g p) (tC1 S noW g cond) (tE S noW g elt) (own.map (·.2)) σ H Q := by
  obtain ⟨ρ, env, m, A, h⟩ := h
  rw [lc_ev] at h
  refine ⟨ρ, env, m, A, (Out.bd (ma := Prod.snd) h).imp fun a ρ1 H1 ei F1 q J hJ => ?_⟩
  have A1 := A.later F1
  intro D hD
  obtain ⟨src, m1⟩ := a
  have q : OutV S W g ρ1 m1 σ H1 ((lcLoop (stepLc g env p own' cond elt) fuelB src 0 [] m1).still.bd fun q => .ok (.loc q.2.length, q.2 ++ [.lst q.1])) Q := q
  obtain ⟨⟨ys, me⟩, eL⟩ := still_ok (not_err q)
  rw [eL] at q
  have q : OutV S W g ρ1 m1 σ H1 (.ok (.loc me.length, me ++ [.lst ys])) Q := q
  rw [ho]
  refine ⟨fun i k Hc => ∃ ρc mc acc vs, FutD S.K S.fa g.n0 D ρ1 m1 (upd H1 D (.lst [])) ρc mc Hc ∧ Hc D = some (.lst vs) ∧ RVs S.fa ρc mc.length Hc acc vs ∧ lcLoop (stepLc g env p own' cond elt) k src i acc mc = .ok (ys, me), ⟨fuelB, ρ1, m1, [], [], .start A1.rel hD, upd_same, .nil, eL⟩, ?_⟩
  rintro i k Hc ⟨ρc, mc, acc, vs, F, hDc, rvs, el⟩
  have L : Lat ρ1 m1 H1 ρc mc Hc := Lat.trans (Fut.side (n0 := 0) A1.rel hD).lat F.lat
  cases k with
  | zero => cases el
  | succ k =>
    unfold lcLoop at el
    cases es : src.at mc i with
    | none => rw [es] at el; cases el
    | some ox =>
      rw [es] at el
      have hj := hJ ρc mc Hc L F.rel i ox es
      cases ox with
      | none =>
        cases el
        refine .inl ⟨hj, ?_⟩
        have G := FutD.born (o := .lst ys) A1.rel hD F fun ρ'' hr => ⟨vs, hDc, RVs.mono hr (Nat.le_succ _) (.refl _) _ _ rvs⟩
        have r := RV.loc (fa := S.fa) (ρ := fun n => if n < me.length then ρc n else D) (L := (me ++ [PO.lst ys]).length) (H := Hc) (n := me.length) (by rw [List.length_append]; exact Nat.lt_succ_self _)
        rw [if_neg (Nat.lt_irrefl _)] at r
        exact q _ _ G _ r
      | some v =>
        obtain ⟨hgo, hyl⟩ := hj
        refine .inr ⟨hgo, _, fun H' n => ⟨k, Nat.lt_succ_self _, n⟩, fun xv H2 hy => ?_⟩
        obtain ⟨Fs, rt, rp⟩ := hyl xv H2 hy
        have el : ((stepLc g env p own' cond elt v mc).bd fun r => match r.1 with
          | some y => if acc.length < sizeB then lcLoop (stepLc g env p own' cond elt) k src (i + 1) (acc ++ [y]) r.2 else .err
          | none => lcLoop (stepLc g env p own' cond elt) k src (i + 1) acc r.2) = .ok (ys, me) := el
        obtain ⟨F2, hD2⟩ := F.step (Fs g.n0) hDc
        have rvs2 := (Fs g.n0).vals rvs
        have L2' : Lat ρ1 m1 H1 ρc mc H2 := L.trans (Fs g.n0).lat
        have A2 : S.at g ρc (wipeB env own') mc (L2.wipe σ own') H2 := ⟨F2.rel, (A1.env.mono L2'.ag L2'.le L2'.kp).wipe _, Nat.le_trans A1.le L2'.le⟩
        cases ea : asgN p v mc (wipeB env own') with
        | none =>
          have e0 : stepLc g env p own' cond elt v mc = .err := by unfold stepLc; rw [ea]
          rw [e0] at el; cases el
        | some e =>
          have e0 : stepLc g env p own' cond elt v mc = (evC g e cond mc).bd fun t => if t.1 then (evE g e false elt t.2).bd fun y => .ok (some y.1, y.2) else .ok (none, t.2) := by unfold stepLc; rw [ea]
          rw [e0] at el
          refine ⟨ρc, wipeB env own', mc, v, A2, ?_, e, ea, fun σ2 A3 b2 => ⟨wipe_beside (fun j hj => slot_in own' p hin j hj) b2, ρc, e, mc, A3, ?_⟩⟩
          · rcases hpl with ⟨ts, rfl⟩ | hpl
            · exact rt
            · exact .of (rp (evI_src hpl ei))
          · cases ec : evC g e cond mc with
            | err => rw [ec] at el; cases el
            | exc k m => rw [ec] at el; cases el
            | ok t =>
              rw [ec] at el
              obtain ⟨b, m3⟩ := t
              intro ρ3 H3 F3
              obtain ⟨G3, hD3⟩ := F2.step F3 hD2
              have rvs3 := F3.vals rvs2
              cases b with
              | false =>
                exact ⟨ρ3, m3, acc, vs, G3, hD3, rvs3, el⟩
              | true =>
                have el : (((evE g e false elt m3).bd fun y => (.ok (some y.1, y.2) : Res (Option PV × Mem))).bd fun r => match r.1 with
                  | some y => if acc.length < sizeB then lcLoop (stepLc g env p own' cond elt) k src (i + 1) (acc ++ [y]) r.2 else .err
                  | none => lcLoop (stepLc g env p own' cond elt) k src (i + 1) acc r.2) = .ok (ys, me) := el
                show tE S noW g elt σ2 H3 _
                cases ey : evE g e false elt m3 with
                | err => rw [ey] at el; cases el
                | exc k m => rw [ey] at el; cases el
                | ok y =>
                  rw [ey] at el
                  have el : (if acc.length < sizeB then lcLoop (stepLc g env p own' cond elt) k src (i + 1) (acc ++ [y.1]) y.2 else .err) = .ok (ys, me) := el
                  split at el
                  · rename_i hz
                    refine ⟨ρ3, e, m3, A3.later F3, ?_⟩
                    rw [ey]
                    intro ρ4 H4 F4 yv ry
                    obtain ⟨G4, hD4⟩ := G3.step F4 hD3
                    have kp : Keep H4 (upd H4 D (.lst (vs ++ [yv]))) := .write hD4 (fun _ _ z => by cases z) (fun _ _ z => by cases z)
                    refine ⟨vs, hD4, by rw [← rvs.length]; exact Nat.lt_of_lt_of_le hz sizeB_line, ρ4, y.2, acc ++ [y.1], vs ++ [yv], G4.fill hD4 (fun _ _ z => by cases z) (fun _ _ z => by cases z), upd_same, ?_, el⟩
                    exact RVs.mono (fun _ _ => rfl) (Nat.le_refl _) kp _ _ ((F4.vals rvs3).append (.cons ry .nil))
                  · cases el
end
end Dp
set_option Elab.async false
set_option linter.all false
set_option maxRecDepth 100000
set_option maxHeartbeats 2000000
/-! Dp17: every expression. -/
namespace Dp
open PySem PySem.Spec PyProof.Rows L2

def bltNs : List Str := ["len", "abs", "all", "any", "int", "list", "max", "min", "range", "sorted", "sum", "tuple", "isinstance", "bool", "str", "zip", "enumerate", "set", "dict", "ValueError"]
theorem bf_in {b : Bf} (h : haveB b = true) : bfName b ∈ bltNs := by cases b <;> first | (cases h; done) | decide
/-- the frame that a text is read in -/
structure Good (c : CC) (X : Cx) (S : Sg) (W : WX) (g : Cfg) (kk : Nat) : Prop where
  hK : X.K = S.K
  N : X.N = c.N
  nd : X.N.Nodup
  sc : X.env.scope = c.sc
  fn : ∀ x, c.fnB x = true → X.fn x = true
  calm : c.quiet = false → X.calm = true
  un : X.A.units + 65 < cLine
  blt : ∀ x ∈ bltNs, X.mg x = none
  cns : ∀ x k, c.cns x = some k → ∃ t, X.mg x = some (.int k t)
  fns : ∀ x f, c.fns x = some f → X.mg x = some (.ref (S.fa f))
  call : c.quiet = false → CallOk X S W g kk c.kwl
  isx : c.quiet = true → ∀ j v, S.ξ j v → ∃ D a, v = .ref a ∧ CallR X (.builtin "isinstance") (L2.rIsE X.K D a) ∧ PySem.W.kitOne X.K (.ref D) (.type "ValueError") = some (j != 6) ∧ ∀ y k, c.exs y = some k → ∃ C, X.mg y = some (.ref C) ∧ PySem.W.kitOne X.K (.ref D) (.ref C) = some (j == k)
theorem takes_no {X : Cx} (h : X.xe = fun _ _ => False) : Takes X noW := fun u s' x => by
  obtain ⟨_, _, _, _, _, _, _, _, _, _, _, _, _, _, _, _, w⟩ := x
  exact w.elim
section
variable {S : Sg} {g : Cfg} {kk : Nat}
theorem Good.inner {c : CC} {X : Cx} {W : WX} (G : Good c X S W g kk) (hq0 : c.quiet = false) (scope : Scope) (s : Shared) (H : L2.Hp) (C : Addr) (cl : List (Str × Addr)) (fp : List Addr) : Good (inner c scope) (X.blk s H scope (compEnvC scope cl C X.env) fp) S noW g kk where
  hK := G.hK
  N := G.N
  nd := G.nd
  sc := by show relS scope X.env.scope = relS scope c.sc; rw [G.sc]
  fn := fun x h => h
  calm := G.calm
  un := G.un
  blt := G.blt
  cns := G.cns
  fns := G.fns
  call := fun hq => ⟨(G.call hq).hK, (G.call hq).room, takes_no rfl, (G.call hq).fns⟩
  isx := fun hq => absurd (hq0.symm.trans hq) nofun

section
variable {c : CC} {X : Cx} {W : WX}
theorem plain3 {x : Str} (h : plainN x = true) : (x == ("__debug__" : Str)) = false ∧ (x == ("__classdict__" : Str)) = false ∧ x ≠ "__name__" := by
  unfold plainN at h
  simp only [Bool.and_eq_true, Bool.not_eq_true'] at h
  exact ⟨h.1.1, h.1.2, fun e => by rw [e, beq_self_eq_true] at h; exact absurd h.2 (by decide)⟩
theorem Good.slot (G : Good c X S W g kk) {i : Nat} {x : Str} (h : slotB c i x = true) : X.N[i]? = some x ∧ (x == ("__debug__" : Str)) = false ∧ (x == ("__classdict__" : Str)) = false := by
  unfold slotB at h
  rw [Bool.and_eq_true] at h
  obtain ⟨h1, h2⟩ := h
  obtain ⟨a, b, _⟩ := plain3 h2
  refine ⟨?_, a, b⟩
  rw [G.N]
  split at h1
  · rename_i y e
    rw [e, of_decide_eq_true h1]
  · cases h1
theorem Good.vis (G : Good c X S W g kk) {x : Str} (h : visB c x = true) : L2.Vis X.env.scope x := by
  unfold visB kindB at h
  unfold L2.Vis
  rw [G.sc]
  split at h
  · exact .inl (by assumption)
  · exact .inr (.inl (by assumption))
  · exact .inr (.inr (by assumption))
  · cases h
theorem Good.loc (G : Good c X S W g kk) {x : Str} (h : locB c x = true) : L2.Loc X.env.scope x ∧ (X.fn x = true ∨ X.env.scope.names.lookup x = some .local) := by
  unfold locB kindB at h
  unfold L2.Loc
  rw [G.sc]
  split at h
  · rename_i e; exact ⟨.inl e, .inr e⟩
  · rename_i e; exact ⟨.inr e, .inl (G.fn x h)⟩
  · cases h
theorem Good.glo (G : Good c X S W g kk) {x : Str} (h : gloB c x = true) : Gl X x := by
  unfold gloB kindB at h
  show X.env.scope.names.lookup x = some .globalImplicit
  rw [G.sc]
  simpa using h
theorem Good.bl1 (G : Good c X S W g kk) {x y : Str} (h : bltB1 c x y = true) : x = y ∧ Gl X x := by
  unfold bltB1 at h
  rw [Bool.and_eq_true] at h
  exact ⟨of_decide_eq_true h.1, G.glo h.2⟩
end

mutual
theorem sN : ∀ (p : TN) {c : CC} {X : Cx} {W : WX} (G : Good c X S W g kk) (x : Expr), chkN c p x = true → PG X x (tG S g p)
  | .name i, c, X, W, G, x, h => by
    cases x <;> first | (cases h; done) | skip
    rename_i x pos
    have h : (slotB c i x && locB c x) = true := h
    rw [Bool.and_eq_true] at h
    obtain ⟨h1, _, _⟩ := G.slot h.1
    obtain ⟨l1, l2⟩ := G.loc h.2
    exact sg_name G.nd h1 l1 l2
  | .tup ts, c, X, W, G, x, h => by
    cases x <;> first | (cases h; done) | skip
    rename_i xs k pos
    have h : (!c.quiet && chkNs c ts xs) = true := h
    rw [Bool.and_eq_true, Bool.not_eq_true'] at h
    obtain ⟨a, b, d⟩ := sNs ts G xs h.2
    exact sg_tup G.hK (G.calm h.1) b d a
theorem sNs : ∀ (p : TNs) {c : CC} {X : Cx} {W : WX} (G : Good c X S W g kk) (xs : List Expr), chkNs c p xs = true → PGs X xs (tGs S g p) ∧ Starless xs ∧ p.len = xs.length
  | .nil, c, X, W, G, xs, h => by
    cases xs <;> first | (cases h; done) | skip
    exact ⟨sgs_nil, .nil, rfl⟩
  | .cons t ts, c, X, W, G, xs, h => by
    cases xs <;> first | (cases h; done) | skip
    rename_i x xs
    have h : (starB x && chkN c t x && chkNs c ts xs) = true := h
    simp only [Bool.and_eq_true] at h
    obtain ⟨a, b, d⟩ := sNs ts G xs h.2
    exact ⟨sgs_cons h.1.1 (sN t G x h.1.2) a, .cons h.1.1 b, by show ts.len + 1 = xs.length + 1; rw [d]⟩
end
theorem chkI_tup {c : CC} {it : It} {tg x : Expr} (h : chkI c it tg x = true) : srcI it = true ∨ ∃ ts k p, tg = .Tuple ts k p := by
  cases it with
  | plain e => exact .inl rfl
  | zip a b => cases tg <;> first | (cases h; done) | exact .inr ⟨_, _, _, rfl⟩
  | enum a => cases tg <;> first | (cases h; done) | exact .inr ⟨_, _, _, rfl⟩
  | items d => cases tg <;> first | (cases h; done) | exact .inr ⟨_, _, _, rfl⟩
  | rng3 es => exact .inl rfl
theorem pl_of {c c' : CC} {it : It} {tg x : Expr} {p : TN} (h : chkI c it tg x = true) (hp : chkN c' p tg = true) : (∃ ts, p = .tup ts) ∨ srcI it = true := by
  rcases chkI_tup h with q | ⟨ts, k, ps, rfl⟩
  · exact .inr q
  · cases p with
    | name i => cases hp
    | tup ts => exact .inl ⟨ts, rfl⟩
theorem own_snd (c : CC) (own : List Nat) : (ownB c own).map (·.2) = own := by
  unfold ownB
  rw [List.map_map]
  exact List.map_id' own
theorem blt_shape {c : CC} {b : Bf} {es : Es} {x : Expr} (h : chkE c (.blt b es) x = true) : ∃ f p xs pos, x = .Call (.Name f p) xs [] pos := by
  have no : ∀ {y : Expr}, (∀ f p xs pos, y ≠ .Call (.Name f p) xs [] pos) → chkE c (.blt b es) y = true → False := fun {y} hy q => by
    unfold chkE at q
    split at q <;> first | (cases q; done) | (rename_i e; cases e; done) | (rename_i e1 e2; cases e1; done) | skip
    all_goals first | exact hy _ _ _ _ rfl | (exact hy _ _ _ _ (by assumption)) | skip
  by_cases q : ∃ f p xs pos, x = .Call (.Name f p) xs [] pos
  · exact q
  · exact (no (fun f p xs pos e => q ⟨f, p, xs, pos, e⟩) h).elim
theorem no4 {a b c d : Bool} (h : (a && b && c && false && d) = true) : False := by simp at h
theorem set_no2 {c : CC} {b : Bf} {es : Es} {f : Str} {p pos : Pos} {x x2 : Expr} {xs : List Expr} (hb : b = .sset ∨ b = .lset) (h : chkE c (.blt b es) (.Call (.Name f p) (x :: x2 :: xs) [] pos) = true) : False := by
  rcases hb with rfl | rfl
  · unfold chkE at h
    split at h <;> first | (rename_i e1 e2; cases e1; simp [haveB] at h; done) | (simp_all; done)
  · unfold chkE at h
    split at h <;> first | (rename_i e1 e2; cases e1; simp [haveB] at h; done) | (simp_all; done)
theorem set_shape {c : CC} {b : Bf} {es : Es} {f : Str} {p pos : Pos} {xs : List Expr} (hb : b = .sset ∨ b = .lset) (h : chkE c (.blt b es) (.Call (.Name f p) xs [] pos) = true) :
    ∃ a f2 p2 y q, es = .cons a .nil ∧ xs = [.Call (.Name f2 p2) [y] [] q] ∧ c.quiet = false ∧ bltB1 c f (bfName b) = true ∧ bltB1 c f2 "set" = true ∧ starB y = true ∧ chkE c a y = true := by
  rcases hb with rfl | rfl
  · cases es with
    | nil => exact (no4 (show (bltB1 c f "sorted" && chkEs c .nil xs && !(xs).isEmpty && false && (stillB .sset || !c.quiet)) = true from h)).elim
    | cons a es => cases es with
      | cons a2 es => exact (no4 (show (bltB1 c f "sorted" && chkEs c (.cons a (.cons a2 es)) xs && !(xs).isEmpty && false && (stillB .sset || !c.quiet)) = true from h)).elim
      | nil => cases xs with
        | nil => exact (no4 (show (bltB1 c f "sorted" && chkEs c (.cons a .nil) [] && !([]).isEmpty && false && (stillB .sset || !c.quiet)) = true from h)).elim
        | cons x xs => cases xs with
          | cons x2 xs => exact (set_no2 (by first | exact .inl rfl | exact .inr rfl) h).elim
          | nil => cases x with
            | Call fn ys kws q => cases fn with
              | Name f2 p2 => cases kws with
                | cons k ks => rcases ys with _ | ⟨y, _ | ⟨y2, ys⟩⟩ <;> exact (no4 (show (bltB1 c f "sorted" && chkEs c (.cons a .nil) [_] && !([_]).isEmpty && false && (stillB .sset || !c.quiet)) = true from h)).elim
                | nil => cases ys with
                  | nil => exact (no4 (show (bltB1 c f "sorted" && chkEs c (.cons a .nil) [_] && !([_]).isEmpty && false && (stillB .sset || !c.quiet)) = true from h)).elim
                  | cons y ys => cases ys with
                    | cons y2 ys => exact (no4 (show (bltB1 c f "sorted" && chkEs c (.cons a .nil) [_] && !([_]).isEmpty && false && (stillB .sset || !c.quiet)) = true from h)).elim
                    | nil =>
                      have h : (!c.quiet && bltB1 c f "sorted" && bltB1 c f2 "set" && starB y && chkE c a y) = true := h
                      simp only [Bool.and_eq_true, Bool.not_eq_true'] at h
                      exact ⟨a, f2, p2, y, q, rfl, rfl, h.1.1.1.1, h.1.1.1.2, h.1.1.2, h.1.2, h.2⟩
              | _ => exact (no4 (show (bltB1 c f "sorted" && chkEs c (.cons a .nil) [_] && !([_]).isEmpty && false && (stillB .sset || !c.quiet)) = true from h)).elim
            | _ => exact (no4 (show (bltB1 c f "sorted" && chkEs c (.cons a .nil) [_] && !([_]).isEmpty && false && (stillB .sset || !c.quiet)) = true from h)).elim
  · cases es with
    | nil => exact (no4 (show (bltB1 c f "len" && chkEs c .nil xs && !(xs).isEmpty && false && (stillB .lset || !c.quiet)) = true from h)).elim
    | cons a es => cases es with
      | cons a2 es => exact (no4 (show (bltB1 c f "len" && chkEs c (.cons a (.cons a2 es)) xs && !(xs).isEmpty && false && (stillB .lset || !c.quiet)) = true from h)).elim
      | nil => cases xs with
        | nil => exact (no4 (show (bltB1 c f "len" && chkEs c (.cons a .nil) [] && !([]).isEmpty && false && (stillB .lset || !c.quiet)) = true from h)).elim
        | cons x xs => cases xs with
          | cons x2 xs => exact (set_no2 (by first | exact .inl rfl | exact .inr rfl) h).elim
          | nil => cases x with
            | Call fn ys kws q => cases fn with
              | Name f2 p2 => cases kws with
                | cons k ks => rcases ys with _ | ⟨y, _ | ⟨y2, ys⟩⟩ <;> exact (no4 (show (bltB1 c f "len" && chkEs c (.cons a .nil) [_] && !([_]).isEmpty && false && (stillB .lset || !c.quiet)) = true from h)).elim
                | nil => cases ys with
                  | nil => exact (no4 (show (bltB1 c f "len" && chkEs c (.cons a .nil) [_] && !([_]).isEmpty && false && (stillB .lset || !c.quiet)) = true from h)).elim
                  | cons y ys => cases ys with
                    | cons y2 ys => exact (no4 (show (bltB1 c f "len" && chkEs c (.cons a .nil) [_] && !([_]).isEmpty && false && (stillB .lset || !c.quiet)) = true from h)).elim
                    | nil =>
                      have h : (!c.quiet && bltB1 c f "len" && bltB1 c f2 "set" && starB y && chkE c a y) = true := h
                      simp only [Bool.and_eq_true, Bool.not_eq_true'] at h
                      exact ⟨a, f2, p2, y, q, rfl, rfl, h.1.1.1.1, h.1.1.1.2, h.1.1.2, h.1.2, h.2⟩
              | _ => exact (no4 (show (bltB1 c f "len" && chkEs c (.cons a .nil) [_] && !([_]).isEmpty && false && (stillB .lset || !c.quiet)) = true from h)).elim
            | _ => exact (no4 (show (bltB1 c f "len" && chkEs c (.cons a .nil) [_] && !([_]).isEmpty && false && (stillB .lset || !c.quiet)) = true from h)).elim
/-- an expression, as a value and as a test -/
structure SndE (X : Cx) (S : Sg) (W : WX) (g : Cfg) (e : E) (x : Expr) : Prop where
  pe : PE X x (tE S W g e)
  pt : PT X x (tT S W g e)
  pw : ∀ op l p, x = .BoolOp op l p → PW X x (tT S W g e)
theorem SndE.plain {X : Cx} {W : WX} {e : E} {x : Expr} (hK : X.K = S.K) (h : PE X x (tE S W g e)) (hp : ∀ whole, isTrue x X.env whole = (do let v ← whole; standAt x.pos; holding [v] (truthy v))) (hx : ∀ op l p, x ≠ .BoolOp op l p) : SndE X S W g e x :=
  ⟨h, st_plain hK h hp, fun op l p e => absurd e (hx op l p)⟩

mutual
theorem sE : ∀ (e : E) {c : CC} {X : Cx} {W : WX} (G : Good c X S W g kk) (x : Expr), chkE c e x = true → SndE X S W g e x
  | .var i, c, X, W, G, x, h => by
    cases x <;> first | (cases h; done) | skip
    rename_i x pos
    have h : (slotB c i x && visB c x) = true := h
    rw [Bool.and_eq_true] at h
    obtain ⟨h1, h2, h3⟩ := G.slot h.1
    exact .plain G.hK (se_var h1 (G.vis h.2) h2 h3) (fun _ => rfl) nofun
  | .lit v, c, X, W, G, x, h => by
    cases v with
    | int k =>
      cases x <;> first | (cases h; done) | skip
      · rename_i d j pos
        cases d <;> first | (cases h; done) | skip
        rename_i j'
        have h : (k == j') = true := h
        have e : k = j' := by simpa using h
        subst e
        exact .plain G.hK se_int (fun _ => rfl) nofun
      · rename_i x pos
        have h : (gloB c x && plainN x && c.cns x == some k) = true := h
        rw [Bool.and_eq_true, Bool.and_eq_true] at h
        obtain ⟨t, hm⟩ := G.cns x k (by simpa using h.2)
        exact .plain G.hK (se_cn (G.glo h.1.1) hm (plain3 h.1.2).1) (fun _ => rfl) nofun
    | bl b =>
      cases x <;> first | (cases h; done) | skip
      rename_i d j pos
      cases d <;> first | (cases h; done) | skip
      rename_i d
      have h : (b == d) = true := h
      have e : b = d := by simpa using h
      subst e
      exact .plain G.hK se_bl (fun _ => rfl) nofun
    | non =>
      cases x <;> first | (cases h; done) | skip
      rename_i d j pos
      cases d <;> first | (cases h; done) | skip
      exact .plain G.hK se_non (fun _ => rfl) nofun
    | str s =>
      cases x <;> first | (cases h; done) | skip
      rename_i d j pos
      cases d <;> first | (cases h; done) | skip
      rename_i d
      have h : decide (s = d.cps.toList) = true := h
      have e := of_decide_eq_true h
      subst e
      exact .plain G.hK se_str (fun _ => rfl) nofun
    | tup _ => cases x <;> cases h
    | rng _ _ => cases x <;> cases h
    | loc _ => cases x <;> cases h
    | fn _ => cases x <;> cases h
    | exn _ => cases x <;> cases h
  | .gfn f, c, X, W, G, x, h => by
    cases x <;> first | (cases h; done) | skip
    rename_i x pos
    have h : (gloB c x && plainN x && c.fns x == some f) = true := h
    rw [Bool.and_eq_true, Bool.and_eq_true] at h
    exact .plain G.hK (se_gfn (G.glo h.1.1) (G.fns x f (by simpa using h.2)) (plain3 h.1.2).1) (fun _ => rfl) nofun
  | .tup es, c, X, W, G, x, h => by
    cases x <;> first | (cases h; done) | skip
    rename_i xs j pos
    have h : (chkEs c es xs && decide (xs.length ≤ 1000)) = true := h
    rw [Bool.and_eq_true] at h
    obtain ⟨h1, h2, h3⟩ := sEs es G xs h.1
    exact .plain G.hK (se_tup G.hK (by rw [h3]; exact of_decide_eq_true h.2) h1) (fun _ => rfl) nofun
  | .lst es, c, X, W, G, x, h => by
    cases x <;> first | (cases h; done) | skip
    rename_i xs pos
    have h : (chkEs c es xs && decide (xs.length ≤ 1000)) = true := h
    rw [Bool.and_eq_true] at h
    obtain ⟨h1, h2, h3⟩ := sEs es G xs h.1
    exact .plain G.hK (se_lst (by rw [h3]; exact of_decide_eq_true h.2) h1) (fun _ => rfl) nofun
  | .dct es, c, X, W, G, x, h => by
    cases x <;> first | (cases h; done) | skip
    rename_i xs ys pos
    have h : (chkOs c es xs ys && decide (xs.length ≤ 15)) = true := h
    rw [Bool.and_eq_true] at h
    exact .plain G.hK (se_dct (sOs es G xs ys h.1) (of_decide_eq_true h.2)) (fun _ => rfl) nofun
  | .bin o a b, c, X, W, G, x, h => by
    cases x <;> first | (cases h; done) | skip
    rename_i y p z pos
    have h : (opB o p && chkE c a y && chkE c b z) = true := h
    rw [Bool.and_eq_true, Bool.and_eq_true] at h
    exact .plain G.hK (se_bin G.hK h.1.1 (sE a G y h.1.2).pe (sE b G z h.2).pe) (fun _ => rfl) nofun
  | .neg a, c, X, W, G, x, h => by
    cases x <;> first | (cases h; done) | skip
    rename_i o y pos
    cases o <;> first | (cases h; done) | skip
    exact .plain G.hK (se_neg (sE a G y h).pe) (fun _ => rfl) nofun
  | .not a, c, X, W, G, x, h => by
    cases x <;> first | (cases h; done) | skip
    rename_i o y pos
    cases o <;> first | (cases h; done) | skip
    have q := sE a G y h
    exact ⟨se_not G.hK q.pe, st_not q.pt, nofun⟩
  | .cmp o a b, c, X, W, G, x, h => by
    cases x <;> first | (cases h; done) | skip
    rename_i y ps zs pos
    cases ps <;> first | (cases h; done) | skip
    rename_i p ps
    cases ps <;> first | (cases h; done) | skip
    cases zs <;> first | (cases h; done) | skip
    rename_i z zs
    cases zs <;> first | (cases h; done) | skip
    have h : (cpB o p && chkE c a y && chkE c b z && !(behindInMarks p z)) = true := h
    simp only [Bool.and_eq_true, Bool.not_eq_true'] at h
    obtain ⟨⟨⟨h1, h2⟩, h3⟩, h4⟩ := h
    exact ⟨se_cmp G.hK G.un h1 h4 (sE a G y h2).pe (sE b G z h3).pe, st_cmp G.hK G.un h1 h4 (sE a G y h2).pe (sE b G z h3).pe, nofun⟩
  | .chain o q a b d, c, X, W, G, x, h => by
    cases x <;> first | (cases h; done) | skip
    rename_i y ps zs pos
    cases ps <;> first | (cases h; done) | skip
    rename_i p ps
    cases ps <;> first | (cases h; done) | skip
    rename_i p2 ps
    cases ps <;> first | (cases h; done) | skip
    cases zs <;> first | (cases h; done) | skip
    rename_i z zs
    cases zs <;> first | (cases h; done) | skip
    rename_i z2 zs
    cases zs <;> first | (cases h; done) | skip
    have h : (cpB o p && cpB q p2 && chkE c a y && chkE c b z && chkE c d z2 && !(lastMarks [p, p2] [z, z2])) = true := h
    simp only [Bool.and_eq_true, Bool.not_eq_true'] at h
    obtain ⟨⟨⟨⟨⟨h1, h2⟩, h3⟩, h4⟩, h5⟩, h6⟩ := h
    exact ⟨se_chain G.hK G.un h1 h2 h6 (sE a G y h3).pe (sE b G z h4).pe (sE d G z2 h5).pe, st_chain G.hK G.un h1 h2 h6 (sE a G y h3).pe (sE b G z h4).pe (sE d G z2 h5).pe, nofun⟩
  | .and a b, c, X, W, G, x, h => by
    cases x <;> first | (cases h; done) | skip
    rename_i op l pos
    cases op <;> first | (cases h; done) | skip
    cases l <;> first | (cases h; done) | skip
    rename_i y l
    cases l <;> first | (cases h; done) | skip
    rename_i z l
    have h : (chkE c a y && (match (generalizing := false) l with | [] => chkE c b z | _ => chkE c b (.BoolOp .And (z :: l) pos))) = true := h
    rw [Bool.and_eq_true] at h
    have qa := sE a G y h.1
    have h2 := h.2
    have pw : PW X (.BoolOp .And (y :: z :: l) pos) (tT S W g (.and a b)) ∧ PE X (.BoolOp .And (y :: z :: l) pos) (tE S W g (.and a b)) := by
      cases l with
      | nil =>
        have qb := sE b G z h2
        exact ⟨st_and qa.pt (st_one qb.pt), se_and G.hK qa.pe (pe_one qb.pe)⟩
      | cons t l =>
        have qb := sE b G _ h2
        exact ⟨st_and qa.pt (qb.pw _ _ _ rfl), se_and G.hK qa.pe qb.pe⟩
    exact ⟨pw.2, pw.1.pt, fun _ _ _ _ => pw.1⟩
  | .or a b, c, X, W, G, x, h => by
    cases x <;> first | (cases h; done) | skip
    rename_i op l pos
    cases op <;> first | (cases h; done) | skip
    cases l <;> first | (cases h; done) | skip
    rename_i y l
    cases l <;> first | (cases h; done) | skip
    rename_i z l
    have h : (chkE c a y && (match (generalizing := false) l with | [] => chkE c b z | _ => chkE c b (.BoolOp .Or (z :: l) pos))) = true := h
    rw [Bool.and_eq_true] at h
    have qa := sE a G y h.1
    have h2 := h.2
    have pw : PW X (.BoolOp .Or (y :: z :: l) pos) (tT S W g (.or a b)) ∧ PE X (.BoolOp .Or (y :: z :: l) pos) (tE S W g (.or a b)) := by
      cases l with
      | nil =>
        have qb := sE b G z h2
        exact ⟨st_or qa.pt (st_one qb.pt), se_or G.hK qa.pe (pe_one qb.pe)⟩
      | cons t l =>
        have qb := sE b G _ h2
        exact ⟨st_or qa.pt (qb.pw _ _ _ rfl), se_or G.hK qa.pe qb.pe⟩
    exact ⟨pw.2, pw.1.pt, fun _ _ _ _ => pw.1⟩
  | .ite d a b, c, X, W, G, x, h => by
    cases x <;> first | (cases h; done) | skip
    rename_i y z t pos
    have h : (chkE c d y && chkE c a z && chkE c b t) = true := h
    rw [Bool.and_eq_true, Bool.and_eq_true] at h
    have q1 := sE d G y h.1.1
    have q2 := sE a G z h.1.2
    have q3 := sE b G t h.2
    exact ⟨se_ite q1.pt q2.pe q3.pe, st_ite q1.pt q2.pt q3.pt, nofun⟩
  | .call f es, c, X, W, G, x, h => by
    cases x <;> first | (cases h; done) | skip
    rename_i fn xs kws pos
    cases fn <;> first | (cases h; done) | skip
    rename_i y p
    cases kws <;> first | (cases h; done) | skip
    have h : (!c.quiet && gloB c y && plainN y && c.fns y == some f && chkEs c es xs) = true := h
    simp only [Bool.and_eq_true, Bool.not_eq_true'] at h
    obtain ⟨⟨⟨⟨h1, h2⟩, h3⟩, h4⟩, h5⟩ := h
    obtain ⟨k1, k2, k3⟩ := sEs es G xs h5
    cases xs with
    | nil =>
      cases es with
      | nil => exact .plain G.hK (se_call0 (G.call h1) (G.glo h2) (G.fns y f (by simpa using h4)) (plain3 h3).1) (fun _ => rfl) nofun
      | cons _ _ => cases k3
    | cons a xs => exact .plain G.hK (se_call (G.call h1) (G.glo h2) (G.fns y f (by simpa using h4)) (plain3 h3).1 k2 k1) (fun _ => rfl) nofun
  | .callK f ps ks perm, c, X, W, G, x, h => by
    cases x <;> first | (cases h; done) | skip
    rename_i fn xs kws pos
    cases fn <;> first | (cases h; done) | skip
    rename_i y p
    have h : (!c.quiet && gloB c y && plainN y && c.fns y == some f && chkEs c ps xs && chkKs c ks kws && c.kwl.contains (f, xs.length, kws.filterMap (·.arg), perm)) = true := h
    simp only [Bool.and_eq_true, Bool.not_eq_true'] at h
    obtain ⟨⟨⟨⟨⟨⟨h1, h2⟩, h3⟩, h4⟩, h5⟩, h7⟩, h8⟩ := h
    obtain ⟨k1, k2, k3⟩ := sEs ps G xs h5
    have k4 := sKs ks G kws h7
    cases xs with
    | nil =>
      cases ps with
      | nil => exact .plain G.hK (se_callK0 (G.call h1) (G.glo h2) (G.fns y f (by simpa using h4)) (plain3 h3).1 k4 (List.contains_iff_mem.mp h8)) (fun _ => rfl) nofun
      | cons _ _ => cases k3
    | cons a xs => exact .plain G.hK (se_callK (G.call h1) (G.glo h2) (G.fns y f (by simpa using h4)) (plain3 h3).1 k2 k1 k4 k3 (List.contains_iff_mem.mp h8)) (fun _ => rfl) nofun
  | .callV i es, c, X, W, G, x, h => by
    cases x <;> first | (cases h; done) | skip
    rename_i fn xs kws pos
    cases fn <;> first | (cases h; done) | skip
    rename_i y p
    cases kws <;> first | (cases h; done) | skip
    have h : (!c.quiet && slotB c i y && visB c y && chkEs c es xs && !xs.isEmpty) = true := h
    simp only [Bool.and_eq_true, Bool.not_eq_true'] at h
    obtain ⟨⟨⟨⟨h1, h2⟩, h3⟩, h5⟩, h6⟩ := h
    obtain ⟨k1, k2, k3⟩ := sEs es G xs h5
    obtain ⟨s1, s2, s3⟩ := G.slot h2
    cases xs with
    | nil => cases h6
    | cons a xs => exact .plain G.hK (se_callV (G.call h1) s1 (G.vis h3) s2 s3 k2 k1) (fun _ => rfl) nofun
  | .blt b es, c, X, W, G, x, h => by
    obtain ⟨f, p, xs, pos, rfl⟩ := blt_shape h
    by_cases hss : b = .sset ∨ b = .lset
    · obtain ⟨a, f2, p2, y, q, rfl, rfl, h1, h2, h3, h4, h5⟩ := set_shape hss h
      obtain ⟨e2, g2⟩ := G.bl1 h3
      have qa := (sE a G y h5).pe
      rcases hss with rfl | rfl
      · obtain ⟨e1, g1⟩ := G.bl1 h2
        exact .plain G.hK (se_sset G.hK (G.calm h1) e1 g1 (G.blt f (by rw [e1]; decide)) e2 g2 (G.blt f2 (by rw [e2]; decide)) h4 qa) (fun _ => rfl) nofun
      · obtain ⟨e1, g1⟩ := G.bl1 h2
        exact .plain G.hK (se_lset G.hK (G.calm h1) e1 g1 (G.blt f (by rw [e1]; decide)) e2 g2 (G.blt f2 (by rw [e2]; decide)) h4 qa) (fun _ => rfl) nofun
    by_cases hi : ∃ t, b = .isi t
    · obtain ⟨t, rfl⟩ := hi
      cases es with
      | nil => cases h' : chkE c (.blt (.isi t) .nil) (.Call (.Name f p) xs [] pos) with
        | false => rw [h'] at h; cases h
        | true =>
          have h' : (bltB1 c f "isinstance" && chkEs c .nil xs && !xs.isEmpty && false && (stillB (.isi t) || !c.quiet)) = true := h'
          simp only [Bool.and_false, Bool.false_and] at h'
          cases h'
      | cons a es =>
        cases es with
        | cons a2 es =>
          have h' : (bltB1 c f "isinstance" && chkEs c (.cons a (.cons a2 es)) xs && !xs.isEmpty && false && (stillB (.isi t) || !c.quiet)) = true := h
          simp only [Bool.and_false, Bool.false_and] at h'
          cases h'
        | nil =>
          have two : (∃ y z, xs = [y, z]) ∨ ¬ ∃ y z, xs = [y, z] := Classical.em _
          rcases two with ⟨y, z, rfl⟩ | two
          · have h : (bltB1 c f "isinstance" && chkE c a y && starB y && tyB c t z) = true := h
            simp only [Bool.and_eq_true] at h
            obtain ⟨⟨⟨h1, h2⟩, h3⟩, h4⟩ := h
            obtain ⟨e1, g1⟩ := G.bl1 h1
            have qa := (sE a G y h2).pe
            have hm : X.mg f = none := G.blt f (by rw [e1]; decide)
            have one : ∀ {n : String} {y : Str} {pp : Pos}, tyNames t = [n] → bltB1 c y (Str.ofString n) = true → Str.ofString n ∈ bltNs → Str.ofString n ≠ "__name__" → ((Str.ofString n) == ("__debug__" : Str)) = false → z = .Name y pp → SndE X S W g (.blt (.isi t) (.cons a .nil)) (.Call (.Name f p) [_, z] [] pos) := fun {n y pp} ht hb hin hn hd ez => by
              subst ez
              obtain ⟨e2, g2⟩ := G.bl1 hb
              subst e2
              exact .plain G.hK (se_isi1 G.hK ht rfl e1 g1 hm g2 (G.blt _ hin) hn hd h3 qa) (fun _ => rfl) nofun
            have pair : ∀ {n n' : String} {y y' : Str} {p1 p2 tp : Pos} {j : Nat}, tyNames t = [n, n'] → bltB1 c y (Str.ofString n) = true → bltB1 c y' (Str.ofString n') = true → Str.ofString n ∈ bltNs → Str.ofString n' ∈ bltNs → Str.ofString n ≠ "__name__" → ((Str.ofString n) == ("__debug__" : Str)) = false → Str.ofString n' ≠ "__name__" → ((Str.ofString n') == ("__debug__" : Str)) = false →
                z = .Tuple [.Name y p1, .Name y' p2] j tp → SndE X S W g (.blt (.isi t) (.cons a .nil)) (.Call (.Name f p) [_, z] [] pos) := fun {n n' y y' p1 p2 tp j} ht hb hb' hin hin' hn hd hn' hd' ez => by
              subst ez
              obtain ⟨e2, g2⟩ := G.bl1 hb
              obtain ⟨e3, g3⟩ := G.bl1 hb'
              subst e2 e3
              exact .plain G.hK (se_isi2 G.hK ht rfl rfl e1 g1 hm g2 (G.blt _ hin) hn hd g3 (G.blt _ hin') hn' hd' h3 qa) (fun _ => rfl) nofun
            cases t with
            | int =>
              cases z <;> first | (cases h4; done) | skip
              exact one (n := "int") rfl h4 (by decide) (by decide) (by decide) rfl
            | bool =>
              cases z <;> first | (cases h4; done) | skip
              exact one (n := "bool") rfl h4 (by decide) (by decide) (by decide) rfl
            | tuple =>
              cases z <;> first | (cases h4; done) | skip
              exact one (n := "tuple") rfl h4 (by decide) (by decide) (by decide) rfl
            | list =>
              cases z <;> first | (cases h4; done) | skip
              exact one (n := "list") rfl h4 (by decide) (by decide) (by decide) rfl
            | str =>
              cases z <;> first | (cases h4; done) | skip
              exact one (n := "str") rfl h4 (by decide) (by decide) (by decide) rfl
            | seq =>
              cases z <;> first | (cases h4; done) | skip
              rename_i l j tp
              cases l <;> first | (cases h4; done) | skip
              rename_i u l
              cases u <;> first | (cases h4; done) | skip
              cases l <;> first | (cases h4; done) | skip
              rename_i u l
              cases u <;> first | (cases h4; done) | skip
              cases l <;> first | (cases h4; done) | skip
              have h4 : (bltB1 c _ "list" && bltB1 c _ "tuple") = true := h4
              rw [Bool.and_eq_true] at h4
              exact pair (n := "list") (n' := "tuple") rfl h4.1 h4.2 (by decide) (by decide) (by decide) (by decide) (by decide) (by decide) rfl
            | bs =>
              cases z <;> first | (cases h4; done) | skip
              rename_i l j tp
              cases l <;> first | (cases h4; done) | skip
              rename_i u l
              cases u <;> first | (cases h4; done) | skip
              cases l <;> first | (cases h4; done) | skip
              rename_i u l
              cases u <;> first | (cases h4; done) | skip
              cases l <;> first | (cases h4; done) | skip
              have h4 : (bltB1 c _ "bool" && bltB1 c _ "str") = true := h4
              rw [Bool.and_eq_true] at h4
              exact pair (n := "bool") (n' := "str") rfl h4.1 h4.2 (by decide) (by decide) (by decide) (by decide) (by decide) (by decide) rfl
          · have h' : (bltB1 c f "isinstance" && chkEs c (.cons a .nil) xs && !xs.isEmpty && false && (stillB (.isi t) || !c.quiet)) = true := by
              cases xs with
              | nil => exact h
              | cons y xs =>
                cases xs with
                | nil => exact h
                | cons z xs =>
                  cases xs with
                  | nil => exact absurd ⟨y, z, rfl⟩ two
                  | cons _ _ => exact h
            simp only [Bool.and_false, Bool.false_and] at h'
            cases h'
    · have h : (bltB1 c f (bfName b) && chkEs c es xs && !xs.isEmpty && haveB b && (stillB b || !c.quiet)) = true := by
        cases b <;> first | exact h | exact absurd ⟨_, rfl⟩ hi | exact absurd (.inl rfl) hss | exact absurd (.inr rfl) hss
      simp only [Bool.and_eq_true] at h
      obtain ⟨⟨⟨⟨h1, h2⟩, h3⟩, h4⟩, h5⟩ := h
      obtain ⟨e1, g1⟩ := G.bl1 h1
      obtain ⟨k1, k2, k3⟩ := sEs es G xs h2
      have hc : stillB b = true ∨ X.calm = true := by
        rw [Bool.or_eq_true, Bool.not_eq_true'] at h5
        rcases h5 with h5 | h5
        · exact .inl h5
        · exact .inr (G.calm h5)
      cases xs with
      | nil => cases h3
      | cons y xs => exact .plain G.hK (se_blt G.hK G.un hc h4 g1 (G.blt f (by rw [e1]; exact bf_in h4)) e1 k2 k1) (fun _ => rfl) nofun
  | .mth m o es, c, X, W, G, x, h => by
    cases x <;> first | (cases h; done) | skip
    rename_i fn xs kws pos
    cases fn <;> first | (cases h; done) | skip
    rename_i y f apos
    cases kws <;> first | (cases h; done) | skip
    have h : (decide (f = mfName m) && chkE c o y && chkEs c es xs && baseB y && apos.endLine == pos.line && decide (xs.length < 29)) = true := h
    simp only [Bool.and_eq_true] at h
    obtain ⟨⟨⟨⟨⟨h1, h2⟩, h3⟩, h4⟩, h5⟩, h6⟩ := h
    obtain ⟨k1, k2, k3⟩ := sEs es G xs h3
    refine .plain G.hK (se_mth G.hK G.un (sE o G y h2).pe k1 (of_decide_eq_true h1) h4 h5 k2 (of_decide_eq_true h6) fun z => ?_) (fun _ => rfl) nofun
    subst z
    cases es with
    | nil => rfl
    | cons _ _ => cases k3
  | .ix o i, c, X, W, G, x, h => by
    cases x <;> first | (cases h; done) | skip
    rename_i y z pos
    have h : (chkE c o y && chkE c i z && sliceB z) = true := h
    simp only [Bool.and_eq_true] at h
    exact .plain G.hK (se_ix G.hK G.un h.2 (sE o G y h.1.1).pe (sE i G z h.1.2).pe) (fun _ => rfl) nofun
  | .sl o a b d, c, X, W, G, x, h => by
    cases x <;> first | (cases h; done) | skip
    rename_i y z pos
    cases z <;> first | (cases h; done) | skip
    rename_i lo hi st pp
    have h : (chkE c o y && chkO c a lo && chkO c b hi && chkO c d st) = true := h
    simp only [Bool.and_eq_true] at h
    exact .plain G.hK (se_sl G.hK (sE o G y h.1.1.1).pe (sO a G lo h.1.1.2) (sO b G hi h.1.2) (sO d G st h.2)) (fun _ => rfl) nofun
  | .dctT es, c, X, W, G, x, h => by
    cases x <;> first | (cases h; done) | skip
    rename_i xs ys pos
    have h : (chkOs c es xs ys && !xs.isEmpty && decide (xs.length ≤ 15)) = true := h
    rw [Bool.and_eq_true, Bool.and_eq_true] at h
    refine .plain G.hK (se_dctT G.un (sOs es G xs ys h.1.1) (fun e => ?_) (of_decide_eq_true h.2)) (fun _ => rfl) nofun
    rw [e] at h
    cases h.1.2
  | .isX i k, c, X, W, G, x, h => by
    cases x <;> first | (cases h; done) | skip
    rename_i f xs kws pos
    cases f <;> first | (cases h; done) | skip
    rename_i f p
    cases xs <;> first | (cases h; done) | skip
    rename_i x xs
    cases x <;> first | (cases h; done) | skip
    rename_i x q
    cases xs <;> first | (cases h; done) | skip
    rename_i y xs
    cases y <;> first | (cases h; done) | skip
    rename_i y r
    cases xs <;> cases kws <;> first | (cases h; done) | skip
    have h : (c.quiet && bltB1 c f "isinstance" && slotB c i x && visB c x && gloB c y && plainN y && ((decide (y = "ValueError") && k == 0) || (c.exs y == some k && k != 0))) = true := h
    simp only [Bool.and_eq_true, Bool.or_eq_true] at h
    obtain ⟨⟨⟨⟨⟨⟨h1, h2⟩, h3⟩, h4⟩, h5⟩, h6⟩, h7⟩ := h
    obtain ⟨e1, g1⟩ := G.bl1 h2
    have hm : X.mg f = none := G.blt f (by rw [e1]; decide)
    obtain ⟨s1, s2, s3⟩ := G.slot h3
    have gy := G.glo h5
    obtain ⟨p1, p2, p3⟩ := plain3 h6
    rcases h7 with ⟨hy, hk⟩ | ⟨hy, hk⟩
    · have hy := of_decide_eq_true hy
      have hk : k = 0 := by simpa using hk
      subst hk
      have hb : PE X (.Name y r) (tC (.ty "ValueError")) := pe_bltn gy (G.blt y (by rw [hy]; decide)) (by rw [hy]; decide +kernel) rfl p3 p1
      refine .plain G.hK (se_isX e1 g1 hm s1 (G.vis h4) s2 s3 hb (fun u z => z) fun j v z => ?_) (fun _ => rfl) nofun
      obtain ⟨D, a, ea, hC, hV, _⟩ := G.isx h1 j v z
      refine ⟨D, a, ea, hC, hV.trans ?_⟩
      by_cases q0 : j = 0
      · subst q0; rfl
      · simp [q0]
    · have hy : c.exs y = some k := by simpa using hy
      have hk : k ≠ 0 := by simpa using hk
      by_cases hne : ∃ j v, S.ξ j v
      · obtain ⟨j0, v0, z0⟩ := hne
        obtain ⟨_, _, _, _, _, own⟩ := G.isx h1 j0 v0 z0
        obtain ⟨C, mC, _⟩ := own y k hy
        have hb : PE X (.Name y r) (tC (.ref C)) := pe_glob gy mC rfl p1
        refine .plain G.hK (se_isX e1 g1 hm s1 (G.vis h4) s2 s3 hb (fun u z => z) fun j v z => ?_) (fun _ => rfl) nofun
        obtain ⟨D, a, ea, hC, _, own⟩ := G.isx h1 j v z
        obtain ⟨C2, m2, k2⟩ := own y k hy
        rw [mC] at m2
        cases m2
        refine ⟨D, a, ea, hC, k2.trans ?_⟩
        simp [hk]
      · exact .plain G.hK (se_isX0 hne) (fun _ => rfl) nofun
  | .lc p own it cond elt, c, X, W, G, x, h => by
    cases x <;> first | (cases h; done) | skip
    rename_i e gens scope pos
    cases gens <;> first | (cases h; done) | skip
    rename_i gn gens
    obtain ⟨tg, iter, ifs, asy⟩ := gn
    cases gens <;> cases asy <;> first | (cases h; done) | (rename_i n; cases n <;> first | (cases h; done) | skip)
    have h : (!c.quiet && blkC c.N c.sc scope (ownB c own) && inN own p && chkN (inner c scope) p tg && chkI c it tg iter && setsB iter && chkC (inner c scope) cond ifs && chkE (inner c scope) elt e) = true := h
    simp only [Bool.and_eq_true, Bool.not_eq_true'] at h
    obtain ⟨⟨⟨⟨⟨⟨⟨h1, h2⟩, h3⟩, h4⟩, h5⟩, h6⟩, h7⟩, h8⟩ := h
    have ok : BlkOk X.N X.env.scope scope (ownB c own) := by rw [G.N, G.sc]; exact blkOk_by h2
    refine .plain G.hK (PE.imp (pe_lc (own := ownB c own) (G.calm h1) G.nd (sI it G h1 tg iter h5) ok (fun s H C cl fp => sN p (G.inner h1 scope s H C cl fp) tg h4) (fun s H C cl fp => sC cond (G.inner h1 scope s H C cl fp) ifs h7) (fun s H C cl fp => (sE elt (G.inner h1 scope s H C cl fp) e h8).pe) (fun v => sets_of h6 _ v))
      fun σ H Q q => se_lc (own_snd c own) h3 (pl_of h5 h4) q) (fun _ => rfl) nofun
theorem sEs : ∀ (es : Es) {c : CC} {X : Cx} {W : WX} (G : Good c X S W g kk) (xs : List Expr), chkEs c es xs = true → PA X xs (tEs S W g es) ∧ Starless xs ∧ es.len = xs.length
  | .nil, c, X, W, G, xs, h => by
    cases xs <;> first | (cases h; done) | skip
    exact ⟨sa_nil, .nil, rfl⟩
  | .cons e es, c, X, W, G, xs, h => by
    cases xs <;> first | (cases h; done) | skip
    rename_i x xs
    have h : (starB x && chkE c e x && chkEs c es xs) = true := h
    simp only [Bool.and_eq_true] at h
    obtain ⟨k1, k2, k3⟩ := sEs es G xs h.2
    exact ⟨sa_cons h.1.1 (sE e G x h.1.2).pe k1, .cons h.1.1 k2, by show es.len + 1 = xs.length + 1; rw [k3]⟩
theorem sOs : ∀ (es : Es) {c : CC} {X : Cx} {W : WX} (G : Good c X S W g kk) (xs : List (Option Expr)) (ys : List Expr), chkOs c es xs ys = true → SPs X S W g es xs ys
  | .nil, c, X, W, G, xs, ys, h => by
    cases xs <;> cases ys <;> first | (cases h; done) | skip
    exact .nil
  | .cons k .nil, c, X, W, G, xs, ys, h => by
    cases xs <;> cases ys <;> cases h
  | .cons k (.cons v es), c, X, W, G, xs, ys, h => by
    cases xs <;> first | (cases h; done) | skip
    rename_i x xs
    cases x <;> first | (cases h; done) | skip
    rename_i x
    cases ys <;> first | (cases h; done) | skip
    rename_i y ys
    have h : (chkE c k x && chkE c v y && chkOs c es xs ys) = true := h
    simp only [Bool.and_eq_true] at h
    exact .cons (sE k G x h.1.1).pe (sE v G y h.1.2).pe (sOs es G xs ys h.2)
theorem sKs : ∀ (es : Es) {c : CC} {X : Cx} {W : WX} (G : Good c X S W g kk) (xs : List Keyword), chkKs c es xs = true → SK X S W g es xs
  | .nil, c, X, W, G, xs, h => by
    cases xs <;> first | (cases h; done) | skip
    exact .nil
  | .cons e es, c, X, W, G, xs, h => by
    cases xs <;> first | (cases h; done) | skip
    rename_i k xs
    obtain ⟨a, x, kp⟩ := k
    cases a <;> first | (cases h; done) | skip
    have h : (chkE c e x && chkKs c es xs) = true := h
    simp only [Bool.and_eq_true] at h
    exact .cons (sE e G x h.1).pe (sKs es G xs h.2)
theorem sO : ∀ (e : Oe) {c : CC} {X : Cx} {W : WX} (G : Good c X S W g kk) (x : Option Expr), chkO c e x = true → SO X x (tO S W g e)
  | .no, c, X, W, G, x, h => by
    cases x <;> first | (cases h; done) | skip
    exact so_no
  | .one e, c, X, W, G, x, h => by
    cases x <;> first | (cases h; done) | skip
    rename_i x
    exact so_one (sE e G x h).pe
theorem sC : ∀ (e : Oe) {c : CC} {X : Cx} {W : WX} (G : Good c X S W g kk) (xs : List Expr), chkC c e xs = true → PTs X xs (tC1 S W g e)
  | .no, c, X, W, G, xs, h => by
    cases xs <;> first | (cases h; done) | skip
    exact sc_no
  | .one e, c, X, W, G, xs, h => by
    cases xs <;> first | (cases h; done) | skip
    rename_i x xs
    cases xs <;> first | (cases h; done) | skip
    exact sc_one (sE e G x h).pt
theorem sI : ∀ (it : It) {c : CC} {X : Cx} {W : WX} (G : Good c X S W g kk) (hq : c.quiet = false) (tg x : Expr), chkI c it tg x = true → PI X tg x (tI S W g it)
  | .plain e, c, X, W, G, hq, tg, x, h => si_plain G.hK (sE e G x h).pe
  | .zip a b, c, X, W, G, hq, tg, x, h => by
    cases tg <;> first | (cases h; done) | skip
    cases x <;> first | (cases h; done) | skip
    rename_i f xs kws pos
    cases f <;> first | (cases h; done) | skip
    rename_i f p
    cases xs <;> first | (cases h; done) | skip
    rename_i x xs
    cases xs <;> first | (cases h; done) | skip
    rename_i y xs
    cases xs <;> cases kws <;> first | (cases h; done) | skip
    have h : (bltB1 c f "zip" && starB x && starB y && chkE c a x && chkE c b y) = true := h
    simp only [Bool.and_eq_true] at h
    obtain ⟨⟨⟨⟨h1, h2⟩, h3⟩, h4⟩, h5⟩ := h
    obtain ⟨rfl, hg⟩ := G.bl1 h1
    exact si_zip G.hK hg (G.blt _ (by decide)) (.cons h2 (.cons h3 .nil)) (sa_cons h2 (sE a G x h4).pe (sa_cons h3 (sE b G y h5).pe sa_nil))
  | .enum a, c, X, W, G, hq, tg, x, h => by
    cases tg <;> first | (cases h; done) | skip
    cases x <;> first | (cases h; done) | skip
    rename_i f xs kws pos
    cases f <;> first | (cases h; done) | skip
    rename_i f p
    cases xs <;> first | (cases h; done) | skip
    rename_i x xs
    cases xs <;> cases kws <;> first | (cases h; done) | skip
    have h : (bltB1 c f "enumerate" && starB x && chkE c a x) = true := h
    simp only [Bool.and_eq_true] at h
    obtain ⟨⟨h1, h2⟩, h3⟩ := h
    obtain ⟨rfl, hg⟩ := G.bl1 h1
    exact si_enum G.hK hg (G.blt _ (by decide)) (.cons h2 .nil) (sa_cons h2 (sE a G x h3).pe sa_nil)
  | .rng3 es, c, X, W, G, hq, tg, x, h => by
    cases x <;> first | (cases h; done) | skip
    rename_i f xs kws pos
    cases f <;> first | (cases h; done) | skip
    rename_i f p
    cases xs <;> first | (cases h; done) | skip
    rename_i x xs
    cases xs <;> first | (cases h; done) | skip
    rename_i y xs
    cases xs <;> first | (cases h; done) | skip
    rename_i z xs
    cases xs <;> cases kws <;> first | (cases h; done) | skip
    have h : (bltB1 c f "range" && chkEs c es [x, y, z]) = true := h
    rw [Bool.and_eq_true] at h
    obtain ⟨rfl, hg⟩ := G.bl1 h.1
    obtain ⟨k1, k2, k3⟩ := sEs es G [x, y, z] h.2
    exact si_rng3 hg (G.blt _ (by decide)) k2 k1
  | .items d, c, X, W, G, hq, tg, x, h => by
    exfalso
    unfold chkI at h
    split at h <;> first | contradiction | (cases h; done) | (simp at h; done)
end
end
end Dp
set_option Elab.async false
set_option linter.all false
set_option maxRecDepth 100000
/-! Dp18: statements, form by form. -/
namespace Dp
open PySem PySem.Spec PyProof.Rows L2

/-- a statement's end -/
def OutS (S : Sg) (W : WX) (g : Cfg) (ρ : Nat → Addr) (m : Mem) (H : L2.Hp) (r : SR) (D : Ends) : Prop := match r with
  | .nxt e h => ∀ ρ' σ' H', Fut S.K S.fa g.n0 ρ m H ρ' h H' → S.at g ρ' e h σ' H' → D.nx σ' H'
  | .brk e h => ∀ ρ' σ' H', Fut S.K S.fa g.n0 ρ m H ρ' h H' → S.at g ρ' e h σ' H' → D.bk σ' H'
  | .cnt e h => ∀ ρ' σ' H', Fut S.K S.fa g.n0 ρ m H ρ' h H' → S.at g ρ' e h σ' H' → D.ct σ' H'
  | .ret v h => ∀ ρ' H' u, Fut S.K S.fa g.n0 ρ m H ρ' h H' → RV S.fa ρ' h.length H' v u → D.rt u H'
  | .exc k e h => ∀ ρ' σ' H', Fut S.K S.fa g.n0 ρ m H ρ' h H' → S.at g ρ' e h σ' H' → W (S.ca k) none σ' H'
  | .err => False
def tS (S : Sg) (W : WX) (g : Cfg) (s : Dp.S) : TS := fun D σ H => ∃ ρ env m, S.at g ρ env m σ H ∧ OutS S W g ρ m H (evS g s env m) D
def tSs (S : Sg) (W : WX) (g : Cfg) (s : Ss) : TS := fun D σ H => ∃ ρ env m, S.at g ρ env m σ H ∧ OutS S W g ρ m H (evSs g s env m) D
section
variable {X : Cx} {S : Sg} {W : WX} {g : Cfg} {α : Type} {ma : α → Mem}
theorem OutS.later {ρ ρ1 : Nat → Addr} {m m1 : Mem} {H H1 : L2.Hp} {r : SR} {D : Ends} (h : OutS S W g ρ m H r D) (F : Fut S.K S.fa g.n0 ρ m H ρ1 m1 H1) : OutS S W g ρ1 m1 H1 r D := by
  cases r with
  | nxt e h' => exact fun ρ' σ' H' G => h ρ' σ' H' (F.trans G)
  | brk e h' => exact fun ρ' σ' H' G => h ρ' σ' H' (F.trans G)
  | cnt e h' => exact fun ρ' σ' H' G => h ρ' σ' H' (F.trans G)
  | ret v h' => exact fun ρ' H' u G => h ρ' H' u (F.trans G)
  | exc k e h' => exact fun ρ' σ' H' G => h ρ' σ' H' (F.trans G)
  | err => exact h
theorem OutS.sr {ρ : Nat → Addr} {env : Env} {m : Mem} {σ : L2.St} {H : L2.Hp} {r : Res α} {f : α → SR} {D : Ends} (A : S.at g ρ env m σ H) (h : OutS S W g ρ m H (r.sr env f) D) :
    Out S.K S.fa g.n0 ma ρ m H r (fun a ρ1 H1 => OutS S W g ρ1 (ma a) H1 (f a) D) (wX S W σ) := by
  cases r with
  | ok a => exact fun ρ' H' G => OutS.later (r := f a) h G
  | exc k m' => exact fun ρ' H' G => h ρ' σ H' G (A.later G)
  | err => exact h.elim
theorem OutS.nxt {ρ : Nat → Addr} {e : Env} {m : Mem} {σ : L2.St} {H : L2.Hp} {D : Ends} (h : OutS S W g ρ m H (.nxt e m) D) (A : S.at g ρ e m σ H) : D.nx σ H := h ρ σ H (.refl A.rel) A

/-! ### small statements -/
theorem ss_nil : PSs X [] (tSs S W g .nil) := PSs.imp pss_nil fun D σ H ⟨ρ, env, m, A, h⟩ => OutS.nxt (e := env) h A
theorem ss_cons {s : Dp.S} {ss : Ss} {x : Stmt} {xs : List Stmt} (h1 : PS X x (tS S W g s)) (h2 : PSs X xs (tSs S W g ss)) : PSs X (x :: xs) (tSs S W g (.cons s ss)) := by
  refine PSs.imp (pss_cons h1 h2) fun D σ H ⟨ρ, env, m, A, h⟩ => ⟨ρ, env, m, A, ?_⟩
  have h : OutS S W g ρ m H (match evS g s env m with
    | .nxt e h1 => evSs g ss e h1
    | r => r) D := h
  cases e : evS g s env m with
  | nxt e1 h1 =>
    rw [e] at h
    exact fun ρ' σ' H' F A1 => ⟨ρ', e1, h1, A1, OutS.later (r := evSs g ss e1 h1) h F⟩
  | brk e1 h1 => rw [e] at h; exact h
  | cnt e1 h1 => rw [e] at h; exact h
  | ret v h1 => rw [e] at h; exact h
  | exc k e1 h1 => rw [e] at h; exact h
  | err => rw [e] at h; exact h
theorem ss_pass {pos : Pos} : PS X (.Pass pos) (tS S W g .pass) := PS.imp ps_pass fun D σ H ⟨ρ, env, m, A, h⟩ => OutS.nxt (e := env) h A
theorem ss_brk {pos : Pos} : PS X (.Break pos) (tS S W g .brk) := PS.imp ps_break fun D σ H ⟨ρ, env, m, A, h⟩ => (show OutS S W g ρ m H (.brk env m) D from h) ρ σ H (.refl A.rel) A
theorem ss_cnt {pos : Pos} : PS X (.Continue pos) (tS S W g .cnt) := PS.imp ps_continue fun D σ H ⟨ρ, env, m, A, h⟩ => (show OutS S W g ρ m H (.cnt env m) D from h) ρ σ H (.refl A.rel) A
/-- from a statement's run to the reading of its first expression -/
theorem tE_sr {e : E} {σ : L2.St} {H : L2.Hp} {ρ : Nat → Addr} {env : Env} {m : Mem} {f : PV × Mem → SR} {D : Ends} {Q' : VK} (A : S.at g ρ env m σ H) (h : OutS S W g ρ m H ((evE g env false e m).sr env f) D)
    (k : ∀ (a : PV × Mem) (ρ1 : Nat → Addr) (H1 : L2.Hp) (v : V), S.at g ρ1 env a.2 σ H1 → RV S.fa ρ1 a.2.length H1 a.1 v → (∀ x u, RV S.fa ρ m.length H x u → RV S.fa ρ1 a.2.length H1 x u) → OutS S W g ρ1 a.2 H1 (f a) D → Q' v H1) : tE S W g e σ H Q' :=
  ⟨ρ, env, m, A, (OutS.sr (ma := Prod.snd) A h).imp fun a ρ1 H1 _ F p v rv => k a ρ1 H1 v (A.later F) rv (fun _ _ r => F.val r) p⟩
theorem ss_expr {e : E} {x : Expr} {pos : Pos} (he : PE X x (tE S W g e)) (hs : swapsWith x none pos.line X.env = pure false) : PS X (.Expr x pos) (tS S W g (.expr e)) := by
  refine PS.imp (ps_expr he hs) fun D σ H ⟨ρ, env, m, A, h⟩ => ?_
  exact tE_sr A (show OutS S W g ρ m H ((evE g env false e m).sr env fun r => .nxt env r.2) D from h) fun a ρ1 H1 v A1 _ _ p => OutS.nxt p A1
theorem ss_ret {e : E} {x : Expr} {pos : Pos} (he : PE X x (tE S W g e)) : PS X (.Return (some x) pos) (tS S W g (.ret e)) := by
  refine PS.imp (ps_ret he) fun D σ H ⟨ρ, env, m, A, h⟩ => ?_
  exact tE_sr A (show OutS S W g ρ m H ((evE g env false e m).sr env fun r => .ret r.1 r.2) D from h) fun a ρ1 H1 v A1 rv _ p => p ρ1 H1 v (.refl A1.rel) rv
theorem ss_if {c : E} {a b : Ss} {x : Expr} {xs ys : List Stmt} {pos : Pos} (hc : PT X x (tT S W g c)) (ha : PSs X xs (tSs S W g a)) (hb : PSs X ys (tSs S W g b)) : PS X (.If x xs ys pos) (tS S W g (.ite c a b)) := by
  refine PS.imp (ps_if hc ha hb) fun D σ H ⟨ρ, env, m, A, h⟩ => ?_
  have h : OutS S W g ρ m H ((evE g env true c m).sr env fun r => match r.1 with
    | .bl true => evSs g a env r.2
    | .bl false => evSs g b env r.2
    | _ => .err) D := h
  refine ⟨ρ, env, m, A, (OutS.sr (ma := Prod.snd) A h).imp fun r ρ1 H1 er F p => ?_⟩
  obtain ⟨k, ek⟩ := ev_bl er
  obtain ⟨r1, r2⟩ := r
  have ek : r1 = .bl k := ek
  subst ek
  refine ⟨k, rfl, ?_⟩
  cases k with
  | true => exact ⟨ρ1, env, r2, A.later F, p⟩
  | false => exact ⟨ρ1, env, r2, A.later F, p⟩

/-! ### loops -/
theorem ss_for {p : TN} {it : It} {body : Ss} {tg iter : Expr} {xs : List Stmt} {pos : Pos} (hp : PassesOwn (model X.prog X.w) X.A X.env X.xe) (hc : X.calm = true) (hi : PI X tg iter (tI S W g it)) (hg : PG X tg (tG S g p)) (hb : PSs X xs (tSs S W g body)) (hs : setsB iter = true)
    (hpl : (∃ ts, p = .tup ts) ∨ srcI it = true) : PS X (.For tg iter xs [] pos) (tS S W g (.for_ p it body)) := by
  refine PS.imp (ps_for hp hc hi hg hb (fun v => sets_of hs _ v)) fun D σ H ⟨ρ, env, m, A, h⟩ => ?_
  have h : OutS S W g ρ m H ((evI g env it m).sr env fun r => forLoop (fun v e h1 => match asgN p v h1 e with
    | none => .err
    | some e2 => evSs g body e2 h1) fuelB r.1 0 env r.2) D := h
  refine ⟨ρ, env, m, A, (OutS.sr (ma := Prod.snd) A h).imp fun r ρ1 H1 er F q J hJ => ?_⟩
  obtain ⟨src, m1⟩ := r
  refine ⟨fun i k σc Hc => ∃ ρc ec mc, Fut S.K S.fa g.n0 ρ1 m1 H1 ρc mc Hc ∧ S.at g ρc ec mc σc Hc ∧ OutS S W g ρc mc Hc (forLoop (fun v e h1 => match asgN p v h1 e with
    | none => .err
    | some e2 => evSs g body e2 h1) k src i ec mc) D, ⟨fuelB, ρ1, env, m1, .refl F.rel, A.later F, q⟩, ?_⟩
  rintro i k σc Hc ⟨ρc, ec, mc, Fc, Ac, hl⟩
  cases k with
  | zero => exact hl.elim
  | succ k =>
    unfold forLoop at hl
    cases es : src.at mc i with
    | none => rw [es] at hl; exact hl.elim
    | some ox =>
      rw [es] at hl
      have hj := hJ ρc mc Hc Fc.lat Fc.rel i ox es
      cases ox with
      | none => exact .inl ⟨hj, OutS.nxt (e := ec) hl Ac⟩
      | some v =>
        obtain ⟨hgo, hyl⟩ := hj
        refine .inr ⟨hgo, _, fun σ' H' n => ⟨k, Nat.lt_succ_self _, n⟩, fun xv H2 hy => ?_⟩
        obtain ⟨Fs, rt, rp⟩ := hyl xv H2 hy
        have A2 := Ac.later (Fs g.n0)
        have hl2 := OutS.later hl (Fs g.n0)
        dsimp only at hl2
        cases ea : asgN p v mc ec with
        | none => rw [ea] at hl2; exact hl2.elim
        | some e2 =>
          rw [ea] at hl2
          refine ⟨ρc, ec, mc, v, A2, ?_, e2, ea, fun σ2 A3 b2 => ⟨ρc, e2, mc, A3, ?_⟩⟩
          · rcases hpl with ⟨ts, rfl⟩ | hpl
            · exact rt
            · exact .of (rp (evI_src hpl er))
          · dsimp only at hl2
            cases eb : evSs g body e2 mc with
            | nxt e3 h3 =>
              rw [eb] at hl2
              exact fun ρ' σ' H' G A4 => ⟨ρ', e3, h3, (Fc.trans (Fs g.n0)).trans G, A4, OutS.later hl2 G⟩
            | cnt e3 h3 =>
              rw [eb] at hl2
              exact fun ρ' σ' H' G A4 => ⟨ρ', e3, h3, (Fc.trans (Fs g.n0)).trans G, A4, OutS.later hl2 G⟩
            | brk e3 h3 => rw [eb] at hl2; exact hl2
            | ret u h3 => rw [eb] at hl2; exact hl2
            | exc k2 e3 h3 => rw [eb] at hl2; exact hl2
            | err => rw [eb] at hl2; exact hl2
theorem ss_while {c : E} {body : Ss} {x : Expr} {xs : List Stmt} {pos : Pos} (hp : PassesOwn (model X.prog X.w) X.A X.env X.xe) (hc : PT X x (tT S W g c)) (hb : PSs X xs (tSs S W g body)) : PS X (.While x xs [] pos) (tS S W g (.while_ c body)) := by
  refine PS.imp (ps_while hp hc hb) fun D σ H ⟨ρ, env, m, A, h⟩ => ?_
  have h : OutS S W g ρ m H (whileLoop (fun e h1 => evE g e true c h1) (fun e h1 => evSs g body e h1) fuelB env m) D := h
  refine ⟨fun k σc Hc => ∃ ρc ec mc, S.at g ρc ec mc σc Hc ∧ OutS S W g ρc mc Hc (whileLoop (fun e h1 => evE g e true c h1) (fun e h1 => evSs g body e h1) k ec mc) D, ⟨fuelB, ρ, env, m, A, h⟩, ?_⟩
  rintro k σc Hc ⟨ρc, ec, mc, Ac, hl⟩
  cases k with
  | zero => exact hl.elim
  | succ k =>
    unfold whileLoop at hl
    refine ⟨ρc, ec, mc, Ac, (OutS.sr (ma := Prod.snd) Ac hl).imp fun r ρ1 H1 er F p => ?_⟩
    obtain ⟨b, eb⟩ := ev_bl er
    obtain ⟨r1, r2⟩ := r
    have eb : r1 = .bl b := eb
    subst eb
    have A1 := Ac.later F
    refine ⟨b, rfl, ?_⟩
    cases b with
    | false => exact OutS.nxt p A1
    | true =>
      refine ⟨_, fun σ' H' n => ⟨k, Nat.lt_succ_self _, n⟩, ?_⟩
      refine ⟨ρ1, ec, r2, A1, ?_⟩
      dsimp only at p
      cases eb : evSs g body ec r2 with
      | nxt e3 h3 =>
        rw [eb] at p
        exact fun ρ' σ' H' G A4 => ⟨ρ', e3, h3, A4, OutS.later p G⟩
      | cnt e3 h3 =>
        rw [eb] at p
        exact fun ρ' σ' H' G A4 => ⟨ρ', e3, h3, A4, OutS.later p G⟩
      | brk e3 h3 => rw [eb] at p; exact p
      | ret u h3 => rw [eb] at p; exact p
      | exc k2 e3 h3 => rw [eb] at p; exact p
      | err => rw [eb] at p; exact p
end
end Dp
set_option Elab.async false
set_option linter.all false
set_option maxRecDepth 100000
/-! Dp19: assignments, raise. -/
namespace Dp
open PySem PySem.Spec PyProof.Rows L2

def tTg (S : Sg) (W : WX) (g : Cfg) (t : Dp.T) : TG := fun v σ H Q => ∃ ρ env m x, S.at g ρ env m σ H ∧ RV S.fa ρ m.length H x v ∧ OutS S W g ρ m H (storeT g env x m t) { nx := Q, rt := fun _ _ => False }
section
variable {X : Cx} {S : Sg} {W : WX} {g : Cfg}
theorem sg_pat {p : TN} {x : Expr} (h : PG X x (tG S g p)) : PG X x (tTg S W g (.pat p)) := by
  refine PG.imp h fun v σ H Q ⟨ρ, env, m, y, A, r, q⟩ => ?_
  have q : OutS S W g ρ m H (match asgN p y m env with
    | some e => .nxt e m
    | none => .err) { nx := Q, rt := fun _ _ => False } := q
  cases e : asgN p y m env with
  | none => rw [e] at q; exact q.elim
  | some e' =>
    rw [e] at q
    exact ⟨ρ, env, m, y, A, .of r, e', e, fun σ' A' _ => OutS.nxt (D := { nx := Q, rt := fun _ _ => False }) q A'⟩
/-- one store o[i] = v within a run -/
theorem gsub_of {o i : E} {σ : L2.St} {H : L2.Hp} {ρ : Nat → Addr} {env : Env} {m : Mem} {x : PV} {v : V} {Q : L2.St → L2.Hp → Prop} {f : Mem → SR} {D : Ends} (A : S.at g ρ env m σ H) (r : RV S.fa ρ m.length H x v)
    (h : OutS S W g ρ m H ((evE g env false o m).sr env fun r => (evE g env false i r.2).sr env fun q => (setB g.n0 q.2 r.1 q.1 x).sr env f) D)
    (k : ∀ (m3 : Mem) (ρ3 : Nat → Addr) (H3 : L2.Hp), S.at g ρ3 env m3 σ H3 → Fut S.K S.fa g.n0 ρ m H ρ3 m3 H3 → OutS S W g ρ3 m3 H3 (f m3) D → Q σ H3) : gSub (tE S W g o) (tE S W g i) (rset S.K S.fa g.n0) v σ H Q := by
  refine ⟨ρ, env, m, A, (OutS.sr (ma := Prod.snd) A h).imp fun a ρ1 H1 _ F1 p1 ov ro => ?_⟩
  have A1 := A.later F1
  refine ⟨ρ1, env, a.2, A1, (OutS.sr (ma := Prod.snd) A1 p1).imp fun b ρ2 H2 _ F2 p2 iv ri => ?_⟩
  have A2 := A1.later F2
  obtain ⟨m3, e, q⟩ := Out.op (OutS.sr (ma := id) A2 p2) (ne_set _ _ _ _ _)
  exact ⟨ρ2, b.2, a.1, b.1, x, m3, A2.rel, F2.val ro, ri, F2.val (F1.val r), e, fun ρ' H' F => k m3 ρ' H' (A2.later F) ((F1.trans F2).trans F) (q ρ' H' F)⟩
theorem assign_sub {o i : Expr} {pos : Pos} {env : PySem.Env} (h : sliceB i = true) : ∀ v, assign (.Subscript o i pos) env v = (do
      let ov ← holding [v] (eval o env)
      let iv ← holding [v, ov] (eval i env)
      standAt pos
      holding [v, ov, iv] (setItem ov iv v)
      release [v, ov, iv] []) := by
  intro v
  cases i <;> first | rfl | cases h
theorem sg_ix {o i : E} {x y : Expr} {pos : Pos} (hK : X.K = S.K) (hu : X.A.units + 65 < cLine) (hy : sliceB y = true) (ho : PE X x (tE S W g o)) (hi : PE X y (tE S W g i)) : PG X (.Subscript x y pos) (tTg S W g (.ix o i)) := by
  refine PG.imp (pg_sub ho hi (set_ok (fa := S.fa) (n0 := g.n0) hu) (assign_sub hy)) fun v σ H Q ⟨ρ, env, m, z, A, r, q⟩ => ?_
  rw [hK]
  exact gsub_of (f := fun h2 => .nxt env h2) (D := { nx := Q, rt := fun _ _ => False }) A r q fun m3 ρ3 H3 A3 _ p => OutS.nxt (D := { nx := Q, rt := fun _ _ => False }) p A3
theorem sg_ix2 {o i p j : E} {x y z w : Expr} {k : Nat} {pos pos1 pos2 : Pos} (hK : X.K = S.K) (hc : X.calm = true) (hu : X.A.units + 65 < cLine) (hy : sliceB y = true) (hw : sliceB w = true) (ho : PE X x (tE S W g o)) (hi : PE X y (tE S W g i)) (hp : PE X z (tE S W g p)) (hj : PE X w (tE S W g j)) :
    PG X (.Tuple [.Subscript x y pos1, .Subscript z w pos2] k pos) (tTg S W g (.ix2 o i p j)) := by
  have s1 : PSet X (rset X.K S.fa g.n0) := set_ok hu
  refine PG.imp (pg_tup (n := 2) hc (pgs_cons (pg_sub ho hi s1 (assign_sub hy)) (pgs_cons (pg_sub hp hj s1 (assign_sub hw)) pgs_nil (assignEach_of rfl _ _).1) (assignEach_of rfl _ _).1) rfl rfl) fun v σ H Q ⟨ρ, env, m, t, A, r, q⟩ => ?_
  have q : OutS S W g ρ m H (match (generalizing := false) t with
    | .tup [x, y] => (evE g env false o m).sr env fun r => (evE g env false i r.2).sr env fun q => (setB g.n0 q.2 r.1 q.1 x).sr env fun h2 =>
        (evE g env false p h2).sr env fun r => (evE g env false j r.2).sr env fun q => (setB g.n0 q.2 r.1 q.1 y).sr env fun h3 => .nxt env h3
    | _ => .err) { nx := Q, rt := fun _ _ => False } := q
  split at q
  · rename_i t1 t2 _
    obtain ⟨a, ob, vs, rfl, ha, _, rvs⟩ := rv_tup r
    obtain ⟨v1, v2, rfl, r1, r2⟩ := rvs2 rvs
    rw [hK]
    refine ⟨a, [v1, v2], rfl, sqT_of ha, rfl, v1, [v2], rfl, ?_⟩
    refine gsub_of (f := fun h2 => (evE g env false p h2).sr env fun r => (evE g env false j r.2).sr env fun q => (setB g.n0 q.2 r.1 q.1 t2).sr env fun h3 => .nxt env h3) A r1 q fun m3 ρ3 H3 A3 F3 p3 => ?_
    refine ⟨v2, [], rfl, ?_⟩
    refine gsub_of (f := fun h3 => .nxt env h3) A3 (F3.val r2) p3 fun m4 ρ4 H4 A4 _ p4 => ?_
    exact ⟨rfl, OutS.nxt (D := { nx := Q, rt := fun _ _ => False }) p4 A4⟩
  · exact q.elim
/-- the ends of a store -/
theorem tg_ends {t : Dp.T} {ρ : Nat → Addr} {env : Env} {m : Mem} {H : L2.Hp} {x : PV} {D : Ends} (h : OutS S W g ρ m H (storeT g env x m t) D) : OutS S W g ρ m H (storeT g env x m t) { nx := D.nx, rt := fun _ _ => False } := by
  have nr : ∀ {r : SR}, (∀ v h, r ≠ .ret v h) → (∀ e h, r ≠ .brk e h) → (∀ e h, r ≠ .cnt e h) → OutS S W g ρ m H r D → OutS S W g ρ m H r { nx := D.nx, rt := fun _ _ => False } := fun {r} h1 h2 h3 q => by
    cases r with
    | nxt e h => exact q
    | brk e h => exact absurd rfl (h2 e h)
    | cnt e h => exact absurd rfl (h3 e h)
    | ret v h => exact absurd rfl (h1 v h)
    | exc k e h => exact q
    | err => exact q
  have sr3 : ∀ {α : Type} {r : Res α} {f : α → SR}, (∀ a, (∀ v h, f a ≠ .ret v h) ∧ (∀ e h, f a ≠ .brk e h) ∧ ∀ e h, f a ≠ .cnt e h) → (∀ v h, r.sr env f ≠ .ret v h) ∧ (∀ e h, r.sr env f ≠ .brk e h) ∧ ∀ e h, r.sr env f ≠ .cnt e h := fun {α r f} hf => by
    cases r with
    | ok a => exact hf a
    | exc k m => exact ⟨nofun, nofun, nofun⟩
    | err => exact ⟨nofun, nofun, nofun⟩
  have all : (∀ v h, storeT g env x m t ≠ .ret v h) ∧ (∀ e h, storeT g env x m t ≠ .brk e h) ∧ ∀ e h, storeT g env x m t ≠ .cnt e h := by
    cases t with
    | pat p => unfold storeT; dsimp only; split <;> exact ⟨nofun, nofun, nofun⟩
    | ix o i => exact sr3 fun a => sr3 fun b => sr3 fun c => ⟨nofun, nofun, nofun⟩
    | ix2 o i p j =>
      unfold storeT
      dsimp only
      split
      · exact sr3 fun a => sr3 fun b => sr3 fun c => sr3 fun d => sr3 fun e => sr3 fun f => ⟨nofun, nofun, nofun⟩
      · exact ⟨nofun, nofun, nofun⟩
  exact nr all.1 all.2.1 all.2.2 h
theorem ss_asg {t : Dp.T} {e : E} {x v : Expr} {pos : Pos} (he : PE X v (tE S W g e)) (hg : PG X x (tTg S W g t)) (hx : starB x = true) (hs : swapsWithSole [x] v pos.line X.env = pure false) (hw : swappedStores [x] v X.env = pure none) : PS X (.Assign [x] v pos) (tS S W g (.asg t e)) := by
  refine PS.imp (ps_asg he hg hs hw (assignEach_of hx [] X.env).1) fun D σ H ⟨ρ, env, m, A, h⟩ => ?_
  exact tE_sr A (show OutS S W g ρ m H ((evE g env false e m).sr env fun r => storeT g env r.1 r.2 t) D from h) fun a ρ1 H1 u A1 ru _ p => ⟨ρ1, env, a.2, a.1, A1, ru, tg_ends p⟩
/-- two or three names on one line: stored from the right -/
def tSwap2 (K : PySem.W.Frag) (i j : Nat) (te : TE) : TS := fun D σ H => te σ H fun v H1 => ∃ a v1 v2, v = .ref a ∧ SqT K H1 a [v1, v2] ∧ D.nx ((σ.set i (some v1)).set j (some v2)) H1
theorem ps_swap2 {i j : Nat} {x y : Str} {e : Expr} {te : TE} {px py pt pos : Pos} {kt : Nat} (hc : X.calm = true) (hN : X.N.Nodup) (hi : X.N[i]? = some x) (hj : X.N[j]? = some y) (hij : i ≠ j)
    (hx : X.env.scope.names.lookup x = some .local) (hy : X.env.scope.names.lookup y = some .local) (he : PE X e te) (hw : swappedStores [.Tuple [.Name x px, .Name y py] kt pt] e X.env = pure (some [x, y]))
    (hs : swapsWithSole [.Tuple [.Name x px, .Name y py] kt pt] e pos.line X.env = pure false) : PS X (.Assign [.Tuple [.Name x px, .Name y py] kt pt] e pos) (tSwap2 X.K i j te) := by
  refine ⟨fun pins s σ H D I h => ?_⟩
  rw [exec_Assign_arm]
  refine wpAny_bind (wpAny_standAt ?_)
  rw [hs]
  refine wpAny_bind (wpAny_pure ?_)
  rw [if_neg (by decide)]
  refine wpAny_bind (thn (he.run pins s σ H _ I h) fun u s1 ⟨v, H1, I1, r1, a, v1, v2, ev, hT, q1⟩ => ?_)
  subst ev
  cases r1
  obtain ⟨its, rv, ht, hz⟩ := I1.tuple hT
  obtain ⟨u1, u2, rfl, ru1, ru2⟩ := L2.vals2 rv
  rw [hw]
  refine wpAny_bind (wpAny_pure ?_)
  show wpAny (model X.prog X.w) X.A (do rule "assign.swapped-stores"; let items ← unpackItems (.ref a) 2 none; assignInOrder [fun v => bindName X.env y v, fun v => bindName X.env x v] items.reverse; pure Flow.next) _ _ _
  refine wpAny_bind (wpAny_rule (wpAny_bind (unpackItems_tuple (items := #[u1, u2]) (I.ok.hd hc) ht fun h' hx' => ?_)))
  have I3 := I1.kept (h' := h') (t' := s1.toks) fun b o e => hx' b o (Nat.ne_of_lt (Heap.lt_size e)) e
  show wpAny _ _ (assignInOrder [fun v => bindName X.env y v, fun v => bindName X.env x v] [u2, u1] >>= fun _ => pure Flow.next) _ _ _
  refine wpAny_bind (assignInOrder_cons (wpAny_bindName (store_ok I3 hN hj (.inl hy) ru2 (fun s2 I4 => ?_) (.inr hy))))
  refine assignInOrder_cons (wpAny_bindName (store_ok I4 hN hi (.inl hx) ru1 (fun s3 I5 => assignInOrder_nil (wpAny_pure ?_)) (.inr hx)))
  rw [List.set_comm _ _ (Ne.symm hij)] at I5
  exact ⟨_, H1, I5, q1⟩
def tSwap3 (K : PySem.W.Frag) (i j l : Nat) (te : TE) : TS := fun D σ H => te σ H fun v H1 => ∃ a v1 v2 v3, v = .ref a ∧ SqT K H1 a [v1, v2, v3] ∧ D.nx (((σ.set i (some v1)).set j (some v2)).set l (some v3)) H1
theorem ps_swap3 {i j l : Nat} {x y z : Str} {e : Expr} {te : TE} {px py pz pt pos : Pos} {kt : Nat} (hc : X.calm = true) (hN : X.N.Nodup) (hi : X.N[i]? = some x) (hj : X.N[j]? = some y) (hl : X.N[l]? = some z) (hij : i ≠ j) (hil : i ≠ l) (hjl : j ≠ l)
    (hx : X.env.scope.names.lookup x = some .local) (hy : X.env.scope.names.lookup y = some .local) (hz : X.env.scope.names.lookup z = some .local) (he : PE X e te) (hw : swappedStores [.Tuple [.Name x px, .Name y py, .Name z pz] kt pt] e X.env = pure (some [x, y, z]))
    (hs : swapsWithSole [.Tuple [.Name x px, .Name y py, .Name z pz] kt pt] e pos.line X.env = pure false) : PS X (.Assign [.Tuple [.Name x px, .Name y py, .Name z pz] kt pt] e pos) (tSwap3 X.K i j l te) := by
  refine ⟨fun pins s σ H D I h => ?_⟩
  rw [exec_Assign_arm]
  refine wpAny_bind (wpAny_standAt ?_)
  rw [hs]
  refine wpAny_bind (wpAny_pure ?_)
  rw [if_neg (by decide)]
  refine wpAny_bind (thn (he.run pins s σ H _ I h) fun u s1 ⟨v, H1, I1, r1, a, v1, v2, v3, ev, hT, q1⟩ => ?_)
  subst ev
  cases r1
  obtain ⟨its, rv, ht, hzz⟩ := I1.tuple hT
  cases rv with
  | cons ru1 rv =>
    obtain ⟨u2, u3, rfl, ru2, ru3⟩ := L2.vals2 rv
    rename_i u1
    rw [hw]
    refine wpAny_bind (wpAny_pure ?_)
    show wpAny (model X.prog X.w) X.A (do rule "assign.swapped-stores"; let items ← unpackItems (.ref a) 3 none; assignInOrder [fun v => bindName X.env z v, fun v => bindName X.env y v, fun v => bindName X.env x v] items.reverse; pure Flow.next) _ _ _
    refine wpAny_bind (wpAny_rule (wpAny_bind (unpackItems_tuple (items := #[u1, u2, u3]) (I.ok.hd hc) ht fun h' hx' => ?_)))
    have I3 := I1.kept (h' := h') (t' := s1.toks) fun b o e => hx' b o (Nat.ne_of_lt (Heap.lt_size e)) e
    show wpAny _ _ (assignInOrder [fun v => bindName X.env z v, fun v => bindName X.env y v, fun v => bindName X.env x v] [u3, u2, u1] >>= fun _ => pure Flow.next) _ _ _
    refine wpAny_bind (assignInOrder_cons (wpAny_bindName (store_ok I3 hN hl (.inl hz) ru3 (fun s2 I4 => ?_) (.inr hz))))
    refine assignInOrder_cons (wpAny_bindName (store_ok I4 hN hj (.inl hy) ru2 (fun s3 I5 => ?_) (.inr hy)))
    refine assignInOrder_cons (wpAny_bindName (store_ok I5 hN hi (.inl hx) ru1 (fun s4 I6 => assignInOrder_nil (wpAny_pure ?_)) (.inr hx)))
    rw [List.set_comm _ _ (Ne.symm hjl), List.set_comm _ _ (Ne.symm hil), List.set_comm _ _ (Ne.symm hij)] at I6
    exact ⟨_, H1, I6, q1⟩
end
/-! ### more statements -/
theorem asgNs2 {i j : Nat} {x y : PV} {m : Mem} {env e : Env} (h : asgNs (.cons (.name i) (.cons (.name j) .nil)) [x, y] m env = some e) : e = (env.set i (some x)).set j (some y) := by
  unfold asgNs at h
  split at h
  · rename_i e1 h1
    unfold asgN at h1
    split at h1
    · cases h1
      unfold asgNs at h
      split at h
      · rename_i e2 h2
        unfold asgN at h2
        split at h2
        · cases h2
          cases h
          rfl
        · cases h2
      · cases h
    · cases h1
  · cases h
theorem asgNs3 {i j l : Nat} {x y z : PV} {m : Mem} {env e : Env} (h : asgNs (.cons (.name i) (.cons (.name j) (.cons (.name l) .nil))) [x, y, z] m env = some e) : e = ((env.set i (some x)).set j (some y)).set l (some z) := by
  unfold asgNs at h
  split at h
  · rename_i e1 h1
    unfold asgN at h1
    split at h1
    · cases h1
      exact asgNs2 h
    · cases h1
  · cases h
section
variable {X : Cx} {S : Sg} {W : WX} {g : Cfg}
theorem ss_swap2 {i j : Nat} {x y : Str} {e : E} {v : Expr} {px py pt pos : Pos} {kt : Nat} (hK : X.K = S.K) (hc : X.calm = true) (hN : X.N.Nodup) (hi : X.N[i]? = some x) (hj : X.N[j]? = some y) (hij : i ≠ j)
    (hx : X.env.scope.names.lookup x = some .local) (hy : X.env.scope.names.lookup y = some .local) (he : PE X v (tE S W g e)) (hw : swappedStores [.Tuple [.Name x px, .Name y py] kt pt] v X.env = pure (some [x, y]))
    (hs : swapsWithSole [.Tuple [.Name x px, .Name y py] kt pt] v pos.line X.env = pure false) : PS X (.Assign [.Tuple [.Name x px, .Name y py] kt pt] v pos) (tS S W g (.asg (.pat (.tup (.cons (.name i) (.cons (.name j) .nil)))) e)) := by
  refine PS.imp (ps_swap2 hc hN hi hj hij hx hy he hw hs) fun D σ H ⟨ρ, env, m, A, h⟩ => ?_
  refine tE_sr A (show OutS S W g ρ m H ((evE g env false e m).sr env fun r => storeT g env r.1 r.2 (.pat (.tup (.cons (.name i) (.cons (.name j) .nil))))) D from h) fun a ρ1 H1 u A1 ru _ p => ?_
  unfold storeT at p
  dsimp only at p
  cases ea : asgN (.tup (.cons (.name i) (.cons (.name j) .nil))) a.1 a.2 env with
  | none => rw [ea] at p; exact p.elim
  | some e' =>
    rw [ea] at p
    unfold asgN at ea
    split at ea
    · rename_i ys ey
      rw [ey] at ru
      obtain ⟨b, o, vs, rfl, hb, _, rvs⟩ := rv_tup ru
      have hl := asgNs_len ea
      obtain ⟨y1, y2, rfl⟩ : ∃ y1 y2, ys = [y1, y2] := by
        match ys, hl with
        | [y1, y2], _ => exact ⟨y1, y2, rfl⟩
      obtain ⟨v1, v2, rfl, r1, r2⟩ := rvs2 rvs
      rw [hK]
      refine ⟨b, v1, v2, rfl, sqT_of hb, OutS.nxt (e := e') p ?_⟩
      rw [asgNs2 ea]
      exact (A1.set (.of r1)).set (.of r2)
    · cases ea
theorem ss_swap3 {i j l : Nat} {x y z : Str} {e : E} {v : Expr} {px py pz pt pos : Pos} {kt : Nat} (hK : X.K = S.K) (hc : X.calm = true) (hN : X.N.Nodup) (hi : X.N[i]? = some x) (hj : X.N[j]? = some y) (hl : X.N[l]? = some z) (hij : i ≠ j) (hil : i ≠ l) (hjl : j ≠ l)
    (hx : X.env.scope.names.lookup x = some .local) (hy : X.env.scope.names.lookup y = some .local) (hz : X.env.scope.names.lookup z = some .local) (he : PE X v (tE S W g e)) (hw : swappedStores [.Tuple [.Name x px, .Name y py, .Name z pz] kt pt] v X.env = pure (some [x, y, z]))
    (hs : swapsWithSole [.Tuple [.Name x px, .Name y py, .Name z pz] kt pt] v pos.line X.env = pure false) : PS X (.Assign [.Tuple [.Name x px, .Name y py, .Name z pz] kt pt] v pos) (tS S W g (.asg (.pat (.tup (.cons (.name i) (.cons (.name j) (.cons (.name l) .nil))))) e)) := by
  refine PS.imp (ps_swap3 hc hN hi hj hl hij hil hjl hx hy hz he hw hs) fun D σ H ⟨ρ, env, m, A, h⟩ => ?_
  refine tE_sr A (show OutS S W g ρ m H ((evE g env false e m).sr env fun r => storeT g env r.1 r.2 (.pat (.tup (.cons (.name i) (.cons (.name j) (.cons (.name l) .nil)))))) D from h) fun a ρ1 H1 u A1 ru _ p => ?_
  unfold storeT at p
  dsimp only at p
  cases ea : asgN (.tup (.cons (.name i) (.cons (.name j) (.cons (.name l) .nil)))) a.1 a.2 env with
  | none => rw [ea] at p; exact p.elim
  | some e' =>
    rw [ea] at p
    unfold asgN at ea
    split at ea
    · rename_i ys ey
      rw [ey] at ru
      obtain ⟨b, o, vs, rfl, hb, _, rvs⟩ := rv_tup ru
      have hl := asgNs_len ea
      obtain ⟨y1, y2, y3, rfl⟩ : ∃ y1 y2 y3, ys = [y1, y2, y3] := by
        match ys, hl with
        | [y1, y2, y3], _ => exact ⟨y1, y2, y3, rfl⟩
      cases rvs with
      | cons r1 rvs =>
        obtain ⟨v2, v3, rfl, r2, r3⟩ := rvs2 rvs
        rw [hK]
        refine ⟨b, _, v2, v3, rfl, sqT_of hb, OutS.nxt (e := e') p ?_⟩
        rw [asgNs3 ea]
        exact ((A1.set (.of r1)).set (.of r2)).set (.of r3)
    · cases ea
/-- name = [..], taken over -/
theorem ss_lc {i : Nat} {y : Str} {py : Pos} {p : TN} {own : List (Str × Nat)} {own' : List Nat} {it : It} {cond : Oe} {elt : E} {x tg iter : Expr} {ifs : List Expr} {scope : Scope} {pos spos : Pos} (hc : X.calm = true) (hN : X.N.Nodup) (hy : X.N[i]? = some y) (hyl : X.env.scope.names.lookup y = some .local)
    (hsw : swapsWith (.ListComp x [⟨tg, iter, ifs, 0⟩] scope pos) (some (.Name y py)) spos.line X.env = pure true) (hi : PI X tg iter (tI S W g it)) (ok : BlkOk X.N X.env.scope scope own)
    (hg : ∀ (s : Shared) (H : L2.Hp) (C : Addr) (cl : List (Str × Addr)) (fp : List Addr), PG (X.blk s H scope (compEnvC scope cl C X.env) fp) tg (tG S g p)) (ht : ∀ (s : Shared) (H : L2.Hp) (C : Addr) (cl : List (Str × Addr)) (fp : List Addr), PTs (X.blk s H scope (compEnvC scope cl C X.env) fp) ifs (tC1 S noW g cond))
    (he : ∀ (s : Shared) (H : L2.Hp) (C : Addr) (cl : List (Str × Addr)) (fp : List Addr), PE (X.blk s H scope (compEnvC scope cl C X.env) fp) x (tE S noW g elt)) (hs : ∀ v, foldedSetIterable iter X.env v = pure v)
    (ho : own.map (·.2) = own') (hin : inN own' p = true) (hpl : (∃ ts, p = .tup ts) ∨ srcI it = true) : PS X (.Assign [.Name y py] (.ListComp x [⟨tg, iter, ifs, 0⟩] scope pos) spos) (tS S W g (.asg (.pat (.name i)) (.lc p own' it cond elt))) := by
  refine PS.imp (ps_setLc hc hN hy hyl hsw hi ok hg ht he hs) fun D σ H ⟨ρ, env, m, A, h⟩ => ?_
  refine se_lc ho hin hpl (tE_sr A (show OutS S W g ρ m H ((evE g env false (.lc p own' it cond elt) m).sr env fun r => storeT g env r.1 r.2 (.pat (.name i))) D from h) fun a ρ1 H1 u A1 ru _ q => ?_)
  have q : OutS S W g ρ1 a.2 H1 (match asgN (.name i) a.1 a.2 env with
    | some e => .nxt e a.2
    | none => .err) D := q
  cases ea : asgN (.name i) a.1 a.2 env with
  | none => rw [ea] at q; exact q.elim
  | some e' =>
    rw [ea] at q
    unfold asgN at ea
    split at ea
    · cases ea
      exact OutS.nxt q (A1.set (.of ru))
    · cases ea
/-- the operators in place -/
theorem aug_ok {fa : Nat → Addr} {n0 : Nat} {o : Op} {p : Operator} (h : opB o p = true) : PIp X p (r2 X.K fa n0 fun m a b => augB m o a b) := by
  intro pins s σ H x y v u Q I rx ry hr
  obtain ⟨ρ, m, a, b, z, m', R, ra, rb, e, g⟩ := hr
  have e : augB m o a b = .ok (z, m') := e
  unfold augB at e
  split at e
  · cases p <;> first | (cases h; done) | skip
    cases e
    rw [rv_int ra] at rx; rw [rv_int rb] at ry
    exact iop_add pins s σ H _ _ v u Q I rx ry ⟨_, _, rfl, rfl, same_val g R (.int _)⟩
  · cases p <;> first | (cases h; done) | skip
    cases e
    rw [rv_int ra] at rx; rw [rv_int rb] at ry
    exact iop_sub pins s σ H _ _ v u Q I rx ry ⟨_, _, rfl, rfl, same_val g R (.int _)⟩
  · cases p <;> first | (cases h; done) | skip
    split at e
    · rename_i hs
      cases e
      rw [rv_int ra] at rx; rw [rv_int rb] at ry
      exact iop_mul pins s σ H _ _ v u Q I rx ry ⟨_, _, rfl, rfl, cmul_of hs, same_val g R (.int _)⟩
    · cases e
  · cases e
theorem ne_aug (h : Mem) (o : Op) (x y : PV) (k : Nat) (m' : Mem) : augB h o x y ≠ .exc k m' := by
  intro e; unfold augB at e; split at e <;> (try split at e) <;> cases e
theorem geti_list : PGet X (rIxL X.K) := by
  intro pins s σ H x y v u Q I rx ry h
  obtain ⟨p, xs, i, z, rfl, rfl, hq, he, q⟩ := h
  cases rx
  obtain ⟨t, rfl⟩ := ry
  obtain ⟨its, r, pl, hz⟩ := I.list hq
  obtain ⟨j, h1, h2, h3, h4, h5⟩ := atI_get he
  obtain ⟨w, ew, rw'⟩ := r.get h2
  have hl := r.length
  have hn := line63
  have fin : EP X pins σ Q w s := ⟨z, H, I, rw', q⟩
  by_cases h0 : 0 ≤ i
  · have hj : i.toNat = j := by
      rw [seqIndex_of h0 h5] at h1
      exact Option.some.inj h1
    exact wpAny_getItem_list pl.isList h0 (by omega) (by rw [hj]; simpa using ew) fin
  · have hj : (i + (its.toArray.size : Int)).toNat = j := by
      rw [seqIndex_neg (by omega) h4] at h1
      rw [List.size_toArray, ← hl]
      exact Option.some.inj h1
    exact wpAny_getItem_list_neg pl.isList (by omega) (by rw [List.size_toArray] <;> omega) (by omega) (by rw [hj]; simpa using ew) fin
theorem geti_tup : PGet X (rIxT X.K) := by
  intro pins s σ H x y v u Q I rx ry h
  obtain ⟨p, xs, i, z, rfl, rfl, hq, he, q⟩ := h
  cases rx
  obtain ⟨t, rfl⟩ := ry
  obtain ⟨its, r, pl, hz⟩ := I.tuple hq
  obtain ⟨j, h1, h2, h3, h4, h5⟩ := atI_get he
  obtain ⟨w, ew, rw'⟩ := r.get h2
  have hl := r.length
  have hn := line63
  have fin : EP X pins σ Q w s := ⟨z, H, I, rw', q⟩
  exact getItem_tuple (j := j) pl (by omega) (by omega) (by rw [List.size_toArray, ← hl]; exact h1) (by simpa using ew) fin
/-- o[i], the value -/
theorem getI_ok {fa : Nat → Addr} {n0 : Nat} (hu : X.A.units + 65 < cLine) : PGet X (r2 X.K fa n0 getB) := by
  intro pins s σ H x y v u Q I rx ry hr
  obtain ⟨ρ, m, a, b, z, m', R, ra, rb, e, g⟩ := hr
  have seqC : ∀ {n : Nat} {k : Int} {ys : List PV}, RV fa ρ m.length H (.loc n) x → RV fa ρ m.length H (.int k) y → lstAt m n = some ys → ∀ w, atB ys k = some w → z = w → m' = m → wpAny (model X.prog X.w) X.A (getItem v u) (EP X pins σ Q) X.xe s := by
    intro n k ys ra rb el w ew ez em
    subst ez em
    obtain ⟨rfl, hn⟩ := rv_loc ra
    cases rv_int rb
    obtain ⟨vs, hs', q⟩ := rel_seq R el
    obtain ⟨w', e1, q1⟩ := q.atI ew
    exact geti_list pins s σ H _ _ v u Q I rx ry ⟨_, vs, _, w', rfl, rfl, hs', e1, same_val g R q1⟩
  unfold getB at e
  split at e
  · split at e
    · rename_i xs k _ w ew
      cases e
      obtain ⟨t, o, vs, rfl, ht, _, q⟩ := rv_tup ra
      cases rv_int rb
      obtain ⟨w', e1, q1⟩ := q.atI ew
      exact geti_tup pins s σ H _ _ v u Q I rx ry ⟨_, vs, _, w', rfl, rfl, sqT_of ht, e1, same_val g R q1⟩
    · cases e
  · split at e
    · rename_i ek
      split at e
      · rename_i ew
        cases e
        exact seqC ra rb (by unfold lstAt; rw [ek]) _ ew rfl rfl
      · cases e
    · rename_i ek
      split at e
      · rename_i ew
        cases e
        exact seqC ra rb (by unfold lstAt; rw [ek]) _ ew rfl rfl
      · cases e
    · rename_i kvs ek
      split at e
      · rename_i hk
        split at e
        · rename_i ew
          cases e
          obtain ⟨rfl, hn⟩ := rv_loc ra
          cases rx
          obtain ⟨q, rfl, rfl⟩ := okKey_of hk rb
          obtain ⟨qs, hq, rk⟩ := rel_dct R ek
          have d := DGet.k (k := q) hq
          rcases rk.look q with ⟨e1, _⟩ | ⟨x', v', e1, e2, rv⟩
          · rw [e1] at ew; cases ew
          · rw [e1] at ew; cases ew
            rw [e2] at d
            exact d_getItem (by omega) I d ry fun w' s' I' rw' => ⟨v', H, I', rw', same_val g R rv⟩
        · cases e
      · cases e
    · rename_i kvs w' ek
      split at e
      · rename_i hk
        split at e
        · rename_i ew
          cases e
          obtain ⟨rfl, hn⟩ := rv_loc ra
          cases rx
          obtain ⟨b', k, rfl, _⟩ := rv_key hk rb
          cases ry
          have D : RD fa ρ m.length H _ _ := R.objs _ _ ek
          exact rd_get hu I hk rb D ew fun v' u' s' I' rv ru => ⟨v', H, I', ru, same_val g R rv⟩
        · cases e
      · cases e
    · cases e
  · cases e
theorem ss_aug {i : Nat} {x : Str} {o : Op} {p : Operator} {e : E} {v : Expr} {px pos : Pos} (hK : X.K = S.K) (hN : X.N.Nodup) (hi : X.N[i]? = some x) (hx : L2.Loc X.env.scope x) (hf : X.fn x = true ∨ X.env.scope.names.lookup x = some .local) (ho : opB o p = true) (he : PE X v (tE S W g e)) :
    PS X (.AugAssign (.Name x px) p v pos) (tS S W g (.aug i o e)) := by
  refine PS.imp (ps_aug hN hi hx he (aug_ok (fa := S.fa) (n0 := g.n0) ho) hf) fun D σ H ⟨ρ, env, m, A, h⟩ => ?_
  have h : OutS S W g ρ m H (match env[i]? with
    | some (some x) => (evE g env false e m).sr env fun r => (augB r.2 o x r.1).sr env fun q => .nxt (env.set i (some q.1)) q.2
    | _ => .err) D := h
  split at h
  · rename_i xv ex
    obtain ⟨w, e1, rs⟩ := A.env.at_ i xv ex
    refine ⟨w, e1, tE_sr A h fun a ρ1 H1 u A1 ru kp p1 => ?_⟩
    obtain ⟨⟨z, m'⟩, e2, q⟩ := Out.op (OutS.sr (ma := Prod.snd) A1 p1) (ne_aug _ _ _ _)
    have rw0 : RV S.fa ρ m.length H xv w := by
      cases xv with
      | exn c => unfold augB at e2; cases o <;> cases e2
      | _ => exact rs
    rw [hK]
    exact ⟨ρ1, a.2, xv, a.1, z, m', A1.rel, kp _ _ rw0, ru, e2, fun ρ' v' H' F r => OutS.nxt (q ρ' H' F) ((A1.later F).set (.of r))⟩
  · exact h.elim
theorem augStore_of {i : Expr} (h : sliceB i = true) : ∀ ov iv new, augStore i ov iv new = (do holding [new, ov, iv] (setItem ov iv new); release [new, ov, iv] []; pure .next) := by
  intro ov iv new
  cases i <;> first | rfl | cases h
theorem ss_augX {a i e : E} {o : Op} {p : Operator} {x y v : Expr} {tp pos : Pos} (hK : X.K = S.K) (hu : X.A.units + 65 < cLine) (hy : sliceB y = true) (ho : opB o p = true) (ha : PE X x (tE S W g a)) (hi : PE X y (tE S W g i)) (he : PE X v (tE S W g e)) :
    PS X (.AugAssign (.Subscript x y tp) p v pos) (tS S W g (.augX a i o e)) := by
  refine PS.imp (ps_augS ha hi (getI_ok (fa := S.fa) (n0 := g.n0) hu) he (aug_ok (fa := S.fa) (n0 := g.n0) ho) (set_ok (fa := S.fa) (n0 := g.n0) hu) (augStore_of hy)) fun D σ H ⟨ρ, env, m, A, h⟩ => ?_
  have h : OutS S W g ρ m H ((evE g env false a m).sr env fun r => (evE g env false i r.2).sr env fun q => (getB q.2 r.1 q.1).sr env fun x => (evE g env false e x.2).sr env fun y =>
      (augB y.2 o x.1 y.1).sr env fun z => (setB g.n0 z.2 r.1 q.1 z.1).sr env fun h2 => .nxt env h2) D := h
  refine ⟨ρ, env, m, A, (OutS.sr (ma := Prod.snd) A h).imp fun r1 ρ1 H1 _ F1 p1 v1 q1 => ?_⟩
  have A1 := A.later F1
  refine ⟨ρ1, env, r1.2, A1, (OutS.sr (ma := Prod.snd) A1 p1).imp fun r2 ρ2 H2 _ F2 p2 v2 q2 => ?_⟩
  have A2 := A1.later F2
  obtain ⟨⟨z, m3⟩, e3, p3⟩ := Out.op (OutS.sr (ma := Prod.snd) A2 p2) (ne_get _ _ _)
  rw [hK]
  refine ⟨ρ2, r2.2, r1.1, r2.1, z, m3, A2.rel, F2.val q1, q2, e3, fun ρ3 v3 H3 F3 q3 => ?_⟩
  have A3 := A2.later F3
  refine ⟨ρ3, env, m3, A3, (OutS.sr (ma := Prod.snd) A3 (p3 ρ3 H3 F3)).imp fun r4 ρ4 H4 _ F4 p4 v4 q4 => ?_⟩
  have A4 := A3.later F4
  obtain ⟨⟨z5, m5⟩, e5, p5⟩ := Out.op (OutS.sr (ma := Prod.snd) A4 p4) (ne_aug _ _ _ _)
  refine ⟨ρ4, r4.2, z, r4.1, z5, m5, A4.rel, F4.val q3, q4, e5, fun ρ5 v5 H5 F5 q5 => ?_⟩
  have A5 := A4.later F5
  obtain ⟨m6, e6, p6⟩ := Out.op (OutS.sr (ma := id) A5 (p5 ρ5 H5 F5)) (ne_set _ _ _ _ _)
  refine ⟨ρ5, m5, r1.1, r2.1, z5, m6, A5.rel, F5.val (F4.val (F3.val (F2.val q1))), F5.val (F4.val (F3.val q2)), q5, e6, fun ρ6 H6 F6 => OutS.nxt (p6 ρ6 H6 F6) (A5.later F6)⟩

/-! ### raise -/
/-- an own class of errors, made with nothing -/
theorem pmk_own0 {x : Str} {p pos : Pos} {C : Addr} {bmB : List Value} {B newId initId : String} (F : ExcBaseFacts B newId initId bmB) (q : PySem.W.excIn X.K C bmB newId = true) (gC : X.mg x = some (.ref C)) (kC : PySem.W.keepIn X.K (.ref C) = true) (r : Raises X (.ref C)) (hg : Gl X x) (hdb : (x == ("__debug__" : Str)) = false) :
    PMk X (.Call (.Name x p) [] [] pos) (fun _ H Q => Q (.ref C) none H) := by
  intro pins s σ H Q I h
  refine wpAny_Call_Name_kw (ld_glob I hg gC ?_ hdb)
  refine PySem.W.callWith_K0 I.kIn kC ?_
  show wpAny _ _ (call (.ref C) []) _ _ _
  obtain ⟨bm, N, nm, qn, bs, hdct, sn, sub, ab, col, dd, k0, k1, k2, k3, k5, mN, hC, hN, hni, T⟩ := exc_obj I.kIn q
  exact wpAny_call_exc_subT F T hC hN hni (fun h' e hm => mk_of I hm r h (I.hok.gone hm.new)) (Nat.zero_le _)
/-- what is known of an own class of errors -/
def ExF (K : PySem.W.Frag) (mg : Str → Option Value) (x : Str) (u : Value) : Prop := ∃ (C : Addr) (B newId initId : String) (bmB : List Value), u = .ref C ∧ ExcBaseFacts B newId initId bmB ∧ PySem.W.excIn K C bmB newId = true ∧ mg x = some (.ref C) ∧ PySem.W.keepIn K (.ref C) = true ∧
  PySem.W.subIn K (.ref C) (.type "BaseException") = some true ∧ PySem.W.typeIn K (.ref C) = some (.type "type")
theorem ss_raise {k : Nat} {x : Str} {p pos spos : Pos} (hc : X.calm = true) (tk : Takes X W) (hx : ExF X.K X.mg x (S.ca k)) (hg : Gl X x) (hdb : (x == ("__debug__" : Str)) = false) : PS X (.Raise (some (.Call (.Name x p) [] [] pos)) none spos) (tS S W g (.raise k)) := by
  obtain ⟨C, B, newId, initId, bmB, ec, F, q, gC, kC, r1, r2⟩ := hx
  refine PS.imp (ps_raise hc tk (pmk_own0 F q gC kC (raises_own r1 r2) hg hdb)) fun D σ H ⟨ρ, env, m, A, h⟩ => ?_
  have q := (show OutS S W g ρ m H (.exc k env m) D from h) ρ σ H (.refl A.rel) A
  rw [ec] at q
  exact q
end
end Dp
set_option Elab.async false
set_option linter.all false
set_option maxRecDepth 100000
/-! DpY: try with one named clause. -/
namespace Dp
open PySem PySem.Spec PyProof.Rows L2

/-- while the suite holds the error at a -/
def Sg.hold (S : Sg) (a : Addr) (k : Nat) : Sg := { S with ξ := fun c v => v = .ref a ∧ c = k }
theorem noX_at {env : Env} (h : noX env = true) {i : Nat} {x : PV} (e : env[i]? = some (some x)) : ∀ c, x ≠ .exn c := fun c z => by
  subst z
  have := List.all_eq_true.mp h _ (List.mem_of_getElem? e)
  cases this
theorem REnv.xi {ξ ξ' : Nat → V → Prop} {fa ρ : Nat → Addr} {L : Nat} {H : L2.Hp} {env : Env} {σ : L2.St} (h : noX env = true) (r : REnv ξ fa ρ L H env σ) : REnv ξ' fa ρ L H env σ :=
  ⟨r.len, fun i x e => by
    obtain ⟨v, e1, q⟩ := r.at_ i x e
    refine ⟨v, e1, ?_⟩
    have := noX_at h e
    cases x with
    | exn c => exact absurd rfl (this c)
    | _ => exact q⟩
theorem REnv.none {ξ : Nat → V → Prop} {fa ρ : Nat → Addr} {L : Nat} {H : L2.Hp} {env : Env} {σ : L2.St} {j : Nat} (r : REnv ξ fa ρ L H env σ) : REnv ξ fa ρ L H (env.set j none) (σ.set j none) :=
  ⟨by rw [List.length_set, List.length_set]; exact r.len, fun i x e => by
    rcases get_set e with ⟨h1, h2⟩ | ⟨_, h2, _⟩
    · obtain ⟨v, e1, q⟩ := r.at_ i x h2
      exact ⟨v, by rw [List.getElem?_set_ne (fun z => h1 z.symm)]; exact e1, q⟩
    · cases h2⟩
section
variable {X : Cx} {S : Sg} {W : WX} {g : Cfg}
theorem ss_try {body hb : Ss} {k j : Nat} {x n : Str} {bs suite : List Stmt} {b0 : Stmt} {np pos pos' : Pos} (hs : X.stack = X.env :: X.outer) (hf : X.env.frame = some X.env.locals) (hN : X.N.Nodup) (hi : X.N[j]? = some n) (hln : X.env.kindOf n = some .local) (hc : Names X x (S.ca k)) (hex : PySem.W.exmOne X.K (S.ca k) (S.ca k) = some true) (tk : Takes X W)
    (hbody : ∀ (W' : WX) (pn : List (Addr × Obj)) (xe : Value → Shared → Prop), Takes (X.tr pn xe) W' → PassesOwn (model X.prog X.w) X.A X.env xe → PSs (X.tr pn xe) bs (tSs S W' g body))
    (hsu : ∀ (a : Addr) (oe : Obj) (pn : List (Addr × Obj)), Zc (S.ca k) none oe → (∃ vs, oe.data = .fields vs) → PSs (X.suite a ((a, oe) :: pn)) (b0 :: suite) (tSs (S.hold a k) (fun _ _ _ _ => False) g hb)) :
    PS X (.Try bs [.ExceptHandler (some (.Name x np)) (some n) (b0 :: suite) pos'] [] [] pos) (tS S W g (.try_ body (.cons k (some j) hb .nil))) := by
  refine PS.imp (ps_try_as (tb := fun W' => tSs S W' g body) (ts := fun a cls d => fun D σ H => cls = S.ca k ∧ d = none ∧ tSs (S.hold a k) (fun _ _ _ _ => False) g hb D σ H) hs hf hN hi hln hc tk hbody fun a oe cls d pn hz hd => ⟨fun pins s σ H D I ⟨e1, e2, h⟩ => ?_⟩) fun D σ H ⟨ρ, env, m, A, h⟩ => ?_
  · subst e1 e2
    exact (hsu a oe pn hz hd).run pins s σ H D I h
  · have h : OutS S W g ρ m H (match evSs g body env m with
      | .exc k' e m1 => evH g k' (.cons k (some j) hb .nil) e m1
      | r => r) D := h
    refine ⟨ρ, env, m, A, ?_⟩
    cases er : evSs g body env m with
    | nxt e m1 => rw [er] at h; exact h
    | ret v m1 => rw [er] at h; exact h
    | brk e m1 => rw [er] at h; exact h
    | cnt e m1 => rw [er] at h; exact h
    | err => rw [er] at h; exact h.elim
    | exc k' e m1 =>
      rw [er] at h
      intro ρ' σ' H' F A1
      have h : OutS S W g ρ m H (if k == k' then (if noX e then (evSs g hb (e.set j (some (.exn k'))) m1).drop j else .err) else .err) D := h
      split at h
      · rename_i ek
        have ek : k = k' := by simpa using ek
        subst ek
        split at h
        · rename_i hx
          refine ⟨true, hex, fun _ a ha => ⟨rfl, rfl, ρ', e.set j (some (.exn k)), m1, ⟨A1.rel, ?_, A1.le⟩, ?_⟩, nofun⟩
          · have r := REnv.xi (ξ' := (S.hold a k).ξ) hx A1.env
            refine ⟨by rw [List.length_set, List.length_set]; exact r.len, fun i y ey => ?_⟩
            rcases get_set ey with ⟨h1, h2⟩ | ⟨h1, h2, h3⟩
            · obtain ⟨v, e1, q⟩ := r.at_ i y h2
              exact ⟨v, by rw [List.getElem?_set_ne (fun z => h1 z.symm)]; exact e1, q⟩
            · subst h1
              cases h2
              exact ⟨.ref a, List.getElem?_set_self (by rw [← r.len]; exact h3), rfl, rfl⟩
          · have back : ∀ {ρ'' : Nat → Addr} {e2 : Env} {m2 : Mem} {σ'' : L2.St} {H'' : L2.Hp}, noX (e2.set j none) = true → (S.hold a k).at g ρ'' e2 m2 σ'' H'' → S.at g ρ'' (e2.set j none) m2 (σ''.set j none) H'' := fun hn A2 => ⟨A2.rel, REnv.xi hn A2.env.none, A2.le⟩
            cases es : evSs g hb (e.set j (some (.exn k))) m1 with
            | nxt e2 m2 =>
              rw [es] at h
              have h : OutS S W g ρ m H (if noX (e2.set j none) then .nxt (e2.set j none) m2 else .err) D := h
              split at h
              · rename_i hn
                exact fun ρ'' σ'' H'' F2 A2 => h ρ'' _ H'' (F.trans F2) (back hn A2)
              · exact h.elim
            | brk e2 m2 =>
              rw [es] at h
              have h : OutS S W g ρ m H (if noX (e2.set j none) then .brk (e2.set j none) m2 else .err) D := h
              split at h
              · rename_i hn
                exact fun ρ'' σ'' H'' F2 A2 => h ρ'' _ H'' (F.trans F2) (back hn A2)
              · exact h.elim
            | cnt e2 m2 =>
              rw [es] at h
              have h : OutS S W g ρ m H (if noX (e2.set j none) then .cnt (e2.set j none) m2 else .err) D := h
              split at h
              · rename_i hn
                exact fun ρ'' σ'' H'' F2 A2 => h ρ'' _ H'' (F.trans F2) (back hn A2)
              · exact h.elim
            | ret v m2 =>
              rw [es] at h
              exact fun ρ'' H'' u F2 rv => h ρ'' H'' u (F.trans F2) rv
            | exc k2 e2 m2 => rw [es] at h; exact h.elim
            | err => rw [es] at h; exact h.elim
        · exact h.elim
      · exact h.elim
end
end Dp
set_option Elab.async false
set_option linter.all false
set_option maxRecDepth 100000
/-! Dp20: every statement. -/
namespace Dp
open PySem PySem.Spec PyProof.Rows L2

/-- a def's own frame -/
structure GoodS (c : CC) (X : Cx) (S : Sg) (W : WX) (g : Cfg) (kk : Nat) : Prop extends Good c X S W g kk where
  pas : c.quiet = false → PassesOwn (model X.prog X.w) X.A X.env X.xe
  hs : X.stack = X.env :: X.outer
  hf : X.env.frame = some X.env.locals
  kind : X.env.scope.kind = .function
  exf : ∀ x k, c.exs x = some k → ExF X.K X.mg x (S.ca k)
  exk : ∀ x k, c.exs x = some k → ∃ D, S.ca k = .ref D ∧ L2.ExcC X.K D ∧ PySem.W.exmOne X.K (.ref D) (.ref D) = some true ∧ PySem.W.kitOne X.K (.ref D) (.type "ValueError") = some (k != 6) ∧ ∀ y j, c.exs y = some j → ∃ C, X.mg y = some (.ref C) ∧ PySem.W.kitOne X.K (.ref D) (.ref C) = some (k == j)
theorem blk_fun {env : PySem.Env} (h : env.scope.kind = .function) : env.blockKind = .function := by
  unfold Env.blockKind; rw [h]; rfl
section
variable {S : Sg} {g : Cfg} {kk : Nat} {c : CC} {X : Cx} {W : WX}
theorem sw_false (G : GoodS c X S W g kk) {x v : Expr} {l : Nat} (h1 : takeB c v x = false) (h2 : compB v = false) : swapsWithSole [x] v l X.env = pure false := by
  show swapsWith v (some x) l X.env = pure false
  cases v <;> first | rfl | (cases h2; done) | skip
  rename_i e gs scope pos
  cases x <;> first | rfl | skip
  rename_i y py
  unfold takeB kindB at h1
  unfold swapsWith
  have ek : X.env.kindOf y = c.sc.names.lookup y := by show X.env.scope.names.lookup y = _; rw [G.sc]
  show (pure (X.env.blockKind == .function && X.env.kindOf y == some .local && py.line == (Expr.ListComp e gs scope pos).pos.line && !(scope.names.any fun (n, k) => n == y && (k == .local || k == .cell))) : Sem Bool) = pure false
  rw [ek, blk_fun G.kind]
  have h1 : (c.sc.names.lookup y == some .local && py.line == pos.line && !(scope.names.any fun (n, k) => n == y && (k == .local || k == .cell))) = false := h1
  show (pure ((ScopeKind.function == ScopeKind.function) && c.sc.names.lookup y == some .local && py.line == pos.line && !(scope.names.any fun (n, k) => n == y && (k == .local || k == .cell))) : Sem Bool) = pure false
  rw [show (ScopeKind.function == ScopeKind.function) = true from rfl, Bool.true_and, h1]
theorem sw_store (G : GoodS c X S W g kk) {x v : Expr} {r : Option (List Str)} (h : swapQ c x v = some r) : swappedStores [x] v X.env = pure r := by
  have ek : ∀ y, X.env.kindOf y = kindB c y := fun y => by show X.env.scope.names.lookup y = _; rw [G.sc]; rfl
  have bk := blk_fun G.kind
  cases x <;> cases v <;> first | (cases h; rfl; done) | (cases h; done) | skip
  rename_i ts k1 p1 vs k2 p2
  unfold swapQ at h
  unfold swappedStores
  simp only [ek, bk]
  dsimp only at h
  rw [show (ScopeKind.function != ScopeKind.function) = false from rfl, Bool.or_false]
  split at h
  · rename_i c1; cases h; exact if_pos c1
  · rename_i c1; refine (if_neg c1).trans ?_
    split at h
    · rename_i c2; cases h; exact if_pos c2
    · rename_i c2; refine (if_neg c2).trans ?_
      split at h
      · rename_i c3; cases h; exact if_pos c3
      · rename_i c3; refine (if_neg c3).trans ?_
        split at h
        · rename_i c4; cases h; exact if_pos c4
        · rename_i c4; refine (if_neg c4).trans ?_
          split at h
          · cases h
          · rename_i c5; cases h; exact if_neg c5

theorem sT (G : GoodS c X S W g kk) (t : Dp.T) (x : Expr) (h : chkT c t x = true) : PG X x (tTg S W g t) := by
  cases t with
  | pat p => exact sg_pat (sN p G.toGood x h)
  | ix o i =>
    cases x <;> first | (cases h; done) | skip
    rename_i y z pos
    have h : (chkE c o y && chkE c i z && sliceB z) = true := h
    simp only [Bool.and_eq_true] at h
    exact sg_ix G.hK G.un h.2 (sE o G.toGood y h.1.1).pe (sE i G.toGood z h.1.2).pe
  | ix2 o i p j =>
    cases x <;> first | (cases h; done) | skip
    rename_i l k pos
    cases l <;> first | (cases h; done) | skip
    rename_i a l
    cases a <;> first | (cases h; done) | skip
    rename_i x y p1
    cases l <;> first | (cases h; done) | skip
    rename_i b l
    cases b <;> first | (cases h; done) | skip
    rename_i z w p2
    cases l <;> first | (cases h; done) | skip
    have h : (!c.quiet && chkE c o x && chkE c i y && chkE c p z && chkE c j w && sliceB y && sliceB w) = true := h
    simp only [Bool.and_eq_true, Bool.not_eq_true'] at h
    obtain ⟨⟨⟨⟨⟨⟨h1, h2⟩, h3⟩, h4⟩, h5⟩, h6⟩, h7⟩ := h
    exact sg_ix2 G.hK (G.calm h1) G.un h6 h7 (sE o G.toGood x h2).pe (sE i G.toGood y h3).pe (sE p G.toGood z h4).pe (sE j G.toGood w h5).pe
theorem kind_of (G : GoodS c X S W g kk) {x : Str} (h : (kindB c x == some NameKind.local) = true) : X.env.scope.names.lookup x = some .local := by
  have : kindB c x = some .local := by simpa using h
  rw [G.sc]; exact this
theorem namesT2 {t1 t2 : TN} {l : List Nat} (h : namesT (.cons t1 (.cons t2 .nil)) = some l) : ∃ i j, t1 = .name i ∧ t2 = .name j ∧ l = [i, j] := by
  cases t1 with
  | tup _ => cases h
  | name i =>
    cases t2 with
    | tup _ => cases h
    | name j => cases h; exact ⟨i, j, rfl, rfl, rfl⟩
theorem namesT3 {t1 t2 t3 : TN} {l : List Nat} (h : namesT (.cons t1 (.cons t2 (.cons t3 .nil))) = some l) : ∃ i j k, t1 = .name i ∧ t2 = .name j ∧ t3 = .name k ∧ l = [i, j, k] := by
  cases t1 with
  | tup _ => cases h
  | name i =>
    cases t2 with
    | tup _ => cases h
    | name j =>
      cases t3 with
      | tup _ => cases h
      | name k => cases h; exact ⟨i, j, k, rfl, rfl, rfl, rfl⟩
theorem sSwap (G : GoodS c X S W g kk) {t : Dp.T} {e : E} {x v : Expr} {pos : Pos} {ns : List Str} (hq : c.quiet = false) (hn : swapN c t x ns = true) (ht : chkT c t x = true) (he : PE X v (tE S W g e)) (hw : swappedStores [x] v X.env = pure (some ns)) (hs : swapsWithSole [x] v pos.line X.env = pure false) :
    PS X (.Assign [x] v pos) (tS S W g (.asg t e)) := by
  cases t with
  | ix _ _ => cases hn
  | ix2 _ _ _ _ => cases hn
  | pat p =>
    cases p with
    | name i => cases x <;> cases hn
    | tup ts =>
      cases x <;> first | (cases hn; done) | skip
      rename_i xs k pt
      have hn : (decide (ns = xs.map nameOf) && xs.all (locN c) && (xs.length == 2 || xs.length == 3) && (match namesT ts with | some l => decide l.Nodup | none => false)) = true := hn
      simp only [Bool.and_eq_true] at hn
      obtain ⟨⟨⟨n1, n2⟩, n3⟩, n4⟩ := hn
      have n1 := of_decide_eq_true n1
      subst n1
      have ht : (!c.quiet && chkNs c ts xs) = true := ht
      rw [Bool.and_eq_true] at ht
      obtain ⟨_, hls, hlen⟩ := sNs (W := W) ts G.toGood xs ht.2
      cases el : namesT ts with
      | none => rw [el] at n4; cases n4
      | some l =>
        rw [el] at n4
        have nd := of_decide_eq_true n4
        have locs : ∀ {a : Str} {pa : Pos}, locN c (.Name a pa) = true → X.env.scope.names.lookup a = some .local := fun h => kind_of G h
        match xs, ts, hls, hlen, n2, n3, el, ht.2, hw, hs with
        | [x1, x2], .cons t1 (.cons t2 .nil), _, _, n2, _, el, h2, hw, hs =>
          obtain ⟨i, j, rfl, rfl, rfl⟩ := namesT2 el
          have h2 : (starB x1 && chkN c (.name i) x1 && (starB x2 && chkN c (.name j) x2 && true)) = true := h2
          simp only [Bool.and_eq_true] at h2
          have n2 : (locN c x1 && (locN c x2 && true)) = true := n2
          simp only [Bool.and_eq_true] at n2
          cases x1 <;> first | (cases n2.1; done) | skip
          cases x2 <;> first | (cases n2.2.1; done) | skip
          have a1 : (slotB c i _ && locB c _) = true := h2.1.2
          have a2 : (slotB c j _ && locB c _) = true := h2.2.1.2
          rw [Bool.and_eq_true] at a1 a2
          have hij : i ≠ j := by simpa using nd
          exact ss_swap2 G.hK (G.calm hq) G.nd (G.toGood.slot a1.1).1 (G.toGood.slot a2.1).1 hij (locs n2.1) (locs n2.2.1) he hw hs
        | [x1, x2, x3], .cons t1 (.cons t2 (.cons t3 .nil)), _, _, n2, _, el, h2, hw, hs =>
          obtain ⟨i, j, k, rfl, rfl, rfl, rfl⟩ := namesT3 el
          have h2 : (starB x1 && chkN c (.name i) x1 && (starB x2 && chkN c (.name j) x2 && (starB x3 && chkN c (.name k) x3 && true))) = true := h2
          simp only [Bool.and_eq_true] at h2
          have n2 : (locN c x1 && (locN c x2 && (locN c x3 && true))) = true := n2
          simp only [Bool.and_eq_true] at n2
          cases x1 <;> first | (cases n2.1; done) | skip
          cases x2 <;> first | (cases n2.2.1; done) | skip
          cases x3 <;> first | (cases n2.2.2.1; done) | skip
          have a1 : (slotB c i _ && locB c _) = true := h2.1.2
          have a2 : (slotB c j _ && locB c _) = true := h2.2.1.2
          have a3 : (slotB c k _ && locB c _) = true := h2.2.2.1.2
          rw [Bool.and_eq_true] at a1 a2 a3
          have nd : (i ≠ j ∧ i ≠ k) ∧ j ≠ k := by simpa using nd
          exact ss_swap3 G.hK (G.calm hq) G.nd (G.toGood.slot a1.1).1 (G.toGood.slot a2.1).1 (G.toGood.slot a3.1).1 nd.1.1 nd.1.2 nd.2 (locs n2.1) (locs n2.2.1) (locs n2.2.2.1) he hw hs

theorem lc_shape {e : E} {x : Expr} {gs : List Comprehension} {scope : Scope} {pos : Pos} (h : chkE c e (.ListComp x gs scope pos) = true) : ∃ p own it cond elt, e = .lc p own it cond elt := by
  cases e <;> first | exact ⟨_, _, _, _, _, rfl⟩ | (cases h; done) | skip
  all_goals first
    | (obtain ⟨_, _, _, _, ex⟩ := blt_shape h; cases ex; done)
    | (rename_i a; cases a <;> (cases h; done))
theorem name_shape {t : Dp.T} {y : Str} {py : Pos} (h : chkT c t (.Name y py) = true) : ∃ i, t = .pat (.name i) ∧ (slotB c i y && locB c y) = true := by
  cases t with
  | pat p =>
    cases p with
    | name i => exact ⟨i, rfl, h⟩
    | tup ts => cases h
  | ix o i => cases h
  | ix2 o i p j => cases h
theorem sTake (G : GoodS c X S W g kk) {t : Dp.T} {e : E} {x v : Expr} {pos : Pos} (hk : takeB c v x = true) (ht : chkT c t x = true) (he : chkE c e v = true) : PS X (.Assign [x] v pos) (tS S W g (.asg t e)) := by
  cases v <;> first | (cases hk; done) | skip
  rename_i b gs scope vpos
  cases x <;> first | (cases hk; done) | skip
  rename_i y py
  obtain ⟨p, own, it, cond, elt, rfl⟩ := lc_shape he
  obtain ⟨i, rfl, hsl⟩ := name_shape ht
  rw [Bool.and_eq_true] at hsl
  cases gs <;> first | (cases he; done) | skip
  rename_i gn gens
  obtain ⟨tg, iter, ifs, asy⟩ := gn
  cases gens <;> cases asy <;> first | (cases he; done) | (rename_i n; cases n <;> first | (cases he; done) | skip)
  have h : (!c.quiet && blkC c.N c.sc scope (ownB c own) && inN own p && chkN (inner c scope) p tg && chkI c it tg iter && setsB iter && chkC (inner c scope) cond ifs && chkE (inner c scope) elt b) = true := he
  simp only [Bool.and_eq_true, Bool.not_eq_true'] at h
  obtain ⟨⟨⟨⟨⟨⟨⟨h1, h2⟩, h3⟩, h4⟩, h5⟩, h6⟩, h7⟩, h8⟩ := h
  have ok : BlkOk X.N X.env.scope scope (ownB c own) := by rw [G.N, G.sc]; exact blkOk_by h2
  have hk' : (kindB c y == some .local && py.line == vpos.line && !(scope.names.any fun (n, k) => n == y && (k == .local || k == .cell))) = true := hk
  have hl : (kindB c y == some NameKind.local) = true := by
    simp only [Bool.and_eq_true] at hk'
    exact hk'.1.1
  have ek : X.env.kindOf y = kindB c y := by show X.env.scope.names.lookup y = _; rw [G.sc]; rfl
  have sw : swapsWith (.ListComp b [⟨tg, iter, ifs, 0⟩] scope vpos) (some (.Name y py)) pos.line X.env = pure true := by
    show (pure (X.env.blockKind == .function && X.env.kindOf y == some .local && py.line == vpos.line && !(scope.names.any fun (n, k) => n == y && (k == .local || k == .cell))) : Sem Bool) = pure true
    rw [ek, blk_fun G.kind, show (ScopeKind.function == ScopeKind.function) = true from rfl, Bool.true_and, hk']
  exact ss_lc (G.calm h1) G.nd (G.toGood.slot hsl.1).1 (kind_of G hl) sw (sI it G.toGood h1 tg iter h5) ok (fun s H C cl fp => sN p (G.toGood.inner h1 scope s H C cl fp) tg h4) (fun s H C cl fp => sC cond (G.toGood.inner h1 scope s H C cl fp) ifs h7) (fun s H C cl fp => (sE elt (G.toGood.inner h1 scope s H C cl fp) b h8).pe) (fun v => sets_of h6 _ v) (own_snd c own) h3 (pl_of h5 h4)
theorem notC_of {x : Expr} (h : notC x = true) (l : Nat) (env : PySem.Env) : swapsWith x none l env = pure false := by
  cases x <;> first | rfl | (cases h; done)
theorem Good.exGl (G : Good c X S W g kk) {x : Str} (h : (gloB c x && plainN x) = true) : Gl X x ∧ (x == ("__debug__" : Str)) = false := by
  rw [Bool.and_eq_true] at h
  exact ⟨G.glo h.1, (plain3 h.2).1⟩
theorem raise_shape {k : Nat} {x : Stmt} (h : chkS c (.raise k) x = true) : ∃ y p cpos pos, x = .Raise (some (.Call (.Name y p) [] [] cpos)) none pos := by
  cases x <;> first | (cases h; done) | skip
  rename_i v w pos
  cases v with
  | none => cases h
  | some v =>
    cases v <;> first | (cases h; done) | skip
    rename_i f l1 l2 cpos
    cases f <;> first | (cases h; done) | skip
    cases l1 <;> first | (cases h; done) | skip
    cases l2 <;> first | (cases h; done) | skip
    cases w <;> first | (cases h; done) | skip
    exact ⟨_, _, _, _, rfl⟩
theorem try_shape {c : CC} {body hb : Ss} {k j : Nat} {x : Stmt} (h : chkS c (.try_ body (.cons k (some j) hb .nil)) x = true) : ∃ b n np y s0 ss hp pos, x = .Try b [.ExceptHandler (some (.Name n np)) (some y) (s0 :: ss) hp] [] [] pos := by
  unfold chkS at h
  split at h <;> first | (rename_i e; cases e; done) | (cases h; done) | skip
  all_goals first | exact ⟨_, _, _, _, _, _, _, _, rfl⟩ | (rename_i e1 e2; cases e1; done) | skip
mutual
theorem sS : ∀ (s : Dp.S) {S : Sg} {c : CC} {X : Cx} {W : WX} (G : GoodS c X S W g kk) (x : Stmt), chkS c s x = true → PS X x (tS S W g s)
  | .asg t e, S, c, X, W, G, x, h => by
    cases x <;> first | (cases h; done) | skip
    rename_i xs v pos
    cases xs <;> first | (cases h; done) | skip
    rename_i x xs
    cases xs <;> first | (cases h; done) | skip
    have h : (chkT c t x && chkE c e v && starB x && !(compB v) && (if takeB c v x then true else match swapQ c x v with
      | some none => true
      | some (some ns) => !c.quiet && swapN c t x ns
      | none => false)) = true := h
    simp only [Bool.and_eq_true, Bool.not_eq_true'] at h
    obtain ⟨⟨⟨⟨h1, h2⟩, h3⟩, h4⟩, h5⟩ := h
    cases hk : takeB c v x with
    | true => exact sTake G hk h1 h2
    | false =>
      rw [hk, if_neg (by decide)] at h5
      have sw := sw_false (l := pos.line) G hk h4
      have he := (sE e G.toGood v h2).pe
      cases hq : swapQ c x v with
      | none => rw [hq] at h5; cases h5
      | some r =>
        have hw := sw_store G hq
        cases r with
        | none => exact ss_asg he (sT G t x h1) h3 sw hw
        | some ns =>
          rw [hq] at h5
          have h5 : (!c.quiet && swapN c t x ns) = true := h5
          simp only [Bool.and_eq_true, Bool.not_eq_true'] at h5
          exact sSwap G h5.1 h5.2 h1 he hw sw
  | .aug i o e, S, c, X, W, G, x, h => by
    cases x <;> first | (cases h; done) | skip
    rename_i x p v pos
    cases x <;> first | (cases h; done) | skip
    rename_i x px
    have h : (slotB c i x && locB c x && opB o p && chkE c e v) = true := h
    simp only [Bool.and_eq_true] at h
    obtain ⟨⟨⟨h1, h2⟩, h3⟩, h4⟩ := h
    exact ss_aug G.hK G.nd (G.toGood.slot h1).1 (G.toGood.loc h2).1 (G.toGood.loc h2).2 h3 (sE e G.toGood v h4).pe
  | .augX a i o e, S, c, X, W, G, x, h => by
    cases x <;> first | (cases h; done) | skip
    rename_i x p v pos
    cases x <;> first | (cases h; done) | skip
    rename_i x y px
    have h : (chkE c a x && chkE c i y && opB o p && chkE c e v && sliceB y) = true := h
    simp only [Bool.and_eq_true] at h
    obtain ⟨⟨⟨⟨h1, h2⟩, h3⟩, h4⟩, h5⟩ := h
    exact ss_augX G.hK (by have := G.un; omega) h5 h3 (sE a G.toGood x h1).pe (sE i G.toGood y h2).pe (sE e G.toGood v h4).pe
  | .expr e, S, c, X, W, G, x, h => by
    cases x <;> first | (cases h; done) | skip
    rename_i v pos
    have h : (chkE c e v && notC v) = true := h
    rw [Bool.and_eq_true] at h
    exact ss_expr (sE e G.toGood v h.1).pe (notC_of h.2 _ _)
  | .ite g' a b, S, c, X, W, G, x, h => by
    cases x <;> first | (cases h; done) | skip
    rename_i x y z pos
    have h : (chkE c g' x && chkSs c a y && chkSs c b z) = true := h
    simp only [Bool.and_eq_true] at h
    exact ss_if (sE g' G.toGood x h.1.1).pt (sSs a G y h.1.2) (sSs b G z h.2)
  | .for_ p it body, S, c, X, W, G, x, h => by
    cases x <;> first | (cases h; done) | skip
    rename_i tg iter b els pos
    cases els <;> first | (cases h; done) | skip
    have h : (!c.quiet && chkN c p tg && chkI c it tg iter && setsB iter && chkSs c body b) = true := h
    simp only [Bool.and_eq_true, Bool.not_eq_true'] at h
    obtain ⟨⟨⟨⟨h1, h2⟩, h3⟩, h4⟩, h5⟩ := h
    exact ss_for (G.pas h1) (G.calm h1) (sI it G.toGood h1 tg iter h3) (sN p G.toGood tg h2) (sSs body G b h5) h4 (pl_of h3 h2)
  | .while_ g' body, S, c, X, W, G, x, h => by
    cases x <;> first | (cases h; done) | skip
    rename_i x b els pos
    cases els <;> first | (cases h; done) | skip
    have h : (!c.quiet && chkE c g' x && chkSs c body b) = true := h
    simp only [Bool.and_eq_true, Bool.not_eq_true'] at h
    exact ss_while (G.pas h.1.1) (sE g' G.toGood x h.1.2).pt (sSs body G b h.2)
  | .ret e, S, c, X, W, G, x, h => by
    cases x <;> first | (cases h; done) | skip
    rename_i v pos
    cases v <;> first | (cases h; done) | skip
    exact ss_ret (sE e G.toGood _ h).pe
  | .brk, S, c, X, W, G, x, h => by
    cases x <;> first | (cases h; done) | exact ss_brk
  | .cnt, S, c, X, W, G, x, h => by
    cases x <;> first | (cases h; done) | exact ss_cnt
  | .pass, S, c, X, W, G, x, h => by
    cases x <;> first | (cases h; done) | exact ss_pass
  | .raise k, S, c, X, W, G, x, h => by
    obtain ⟨x, p, cpos, pos, rfl⟩ := raise_shape h
    have h : (!c.quiet && gloB c x && plainN x && c.exs x == some k) = true := h
    simp only [Bool.and_eq_true, Bool.not_eq_true'] at h
    obtain ⟨⟨⟨h1, h2⟩, h3⟩, h4⟩ := h
    have h4 : c.exs x = some k := by simpa using h4
    exact ss_raise (G.calm h1) (G.call h1).tk (G.exf x k h4) (G.toGood.glo h2) (plain3 h3).1
  | .try_ body .nil, S, c, X, W, G, x, h => by cases x <;> cases h
  | .try_ body (.cons k none hb hs), S, c, X, W, G, x, h => by cases x <;> cases h
  | .try_ body (.cons k (some j) hb (.cons k2 j2 hb2 hs)), S, c, X, W, G, x, h => by cases x <;> cases h
  | .try_ body (.cons k (some j) hb .nil), S, c, X, W, G, x, h => by
    obtain ⟨b, x, np, y, s0, ss, hp, pos, rfl⟩ := try_shape h
    have h : (!c.quiet && chkSs c body b && gloB c x && plainN x && c.exs x == some k && slotB c j y && kindB c y == some .local && chkSs { c with quiet := true } hb (s0 :: ss)) = true := h
    simp only [Bool.and_eq_true, Bool.not_eq_true'] at h
    obtain ⟨⟨⟨⟨⟨⟨⟨h1, h2⟩, h3⟩, h4⟩, h5⟩, h6⟩, h7⟩, h8⟩ := h
    have h5 : c.exs x = some k := by simpa using h5
    have h7 : kindB c y = some .local := by simpa using h7
    obtain ⟨D, eD, eC, em, eV, eO⟩ := G.exk x k h5
    obtain ⟨C, B, nId, iId, bm, eC2, F, q1, gC, kC, r1, r2⟩ := G.exf x k h5
    have gl := G.toGood.glo h3
    have hk : X.env.kindOf y = some .local := by
      show X.env.scope.names.lookup y = _
      rw [G.sc]
      exact h7
    have cal := G.call h1
    refine ss_try G.hs G.hf G.nd (G.toGood.slot h6).1 hk ⟨gl, (plain3 h4).1, .inl (by rw [eC2]; exact gC)⟩ (by rw [eD]; exact em) cal.tk (fun W' pn xe tk' pa => ?_) (fun a oe pn hz hd => ?_)
    · exact sSs body (c := c) (X := X.tr pn xe) (W := W') { hK := G.hK, N := G.N, nd := G.nd, sc := G.sc, fn := G.fn, calm := G.calm, un := G.un, blt := G.blt, cns := G.cns, fns := G.fns, call := fun _ => ⟨cal.hK, cal.room, tk', cal.fns⟩, isx := (fun hq => absurd (h1.symm.trans hq) nofun), pas := (fun _ => pa), hs := G.hs, hf := G.hf, kind := G.kind, exf := G.exf, exk := G.exk } b h2
    · have G2 : GoodS { c with quiet := true } (X.suite a ((a, oe) :: pn)) (S.hold a k) (fun _ _ _ _ => False) g kk := by
        refine { hK := G.hK, N := G.N, nd := G.nd, sc := G.sc, fn := G.fn, calm := ?_, un := G.un, blt := G.blt, cns := G.cns, fns := G.fns, call := ?_, isx := ?_, pas := ?_, hs := G.hs, hf := G.hf, kind := G.kind, exf := G.exf, exk := G.exk }
        · intro hq
          cases hq
        · intro hq
          cases hq
        · rintro _ j' v ⟨ev, ej⟩
          subst ej
          exact ⟨D, a, ev, L2.call_isE eC (by rw [← eD]; exact hz) hd, eV, eO⟩
        · intro hq
          cases hq
      exact sSs hb G2 (s0 :: ss) h8
theorem sSs : ∀ (s : Ss) {S : Sg} {c : CC} {X : Cx} {W : WX} (G : GoodS c X S W g kk) (xs : List Stmt), chkSs c s xs = true → PSs X xs (tSs S W g s)
  | .nil, S, c, X, W, G, xs, h => by
    cases xs <;> first | (cases h; done) | exact ss_nil
  | .cons s ss, S, c, X, W, G, xs, h => by
    cases xs <;> first | (cases h; done) | skip
    rename_i x xs
    have h : (chkS c s x && chkSs c ss xs) = true := h
    rw [Bool.and_eq_true] at h
    exact ss_cons (sS s G x h.1) (sSs ss G xs h.2)
end
end
end Dp
set_option Elab.async false
set_option linter.all false
set_option maxRecDepth 100000
/-! Dp21: what stands behind a call. -/
namespace Dp
open PySem PySem.Spec PyProof.Rows L2

section
variable {K : PySem.W.Frag} {fa ρ ρ' ρ1 ρ2 : Nat → Addr} {n0 L L' : Nat} {m m' : Mem} {H H' : L2.Hp}
theorem take_at {k n : Nat} {x : PO} (e : (m'.take k)[n]? = some x) : n < k ∧ m'[n]? = some x := by
  have h := (List.getElem?_eq_some_iff.mp e).1
  rw [List.length_take] at h
  have hk : n < k := Nat.lt_of_lt_of_le h (Nat.min_le_left _ _)
  rw [List.getElem?_take_of_lt hk] at e
  exact ⟨hk, e⟩
theorem Fut.cutF (f : Fut K fa m.length ρ m H ρ' m' H') (r : Rel K fa ρ m H) : Fut K fa m.length ρ m H ρ' (m'.take m.length) H' := by
  have ll : (m'.take m.length).length = m.length := by rw [List.length_take]; exact Nat.min_eq_left f.le
  refine ⟨f.ag, Nat.le_of_eq ll.symm, fun n hn q k x hk e => f.bd n hn q k x hk (take_at e).2, f.kp, f.fr, fun n o hn e h => f.mu n o hn (take_at e).2 h, fun n h g => ?_, f.dm, fun n kvs v e => (by
    obtain ⟨k1, v1, e1, l1, q1⟩ := f.dv n kvs v e
    exact ⟨k1, v1, by rw [List.getElem?_take_of_lt (List.getElem?_eq_some_iff.mp e).1]; exact e1, l1, q1⟩), f.cut (n := m.length) (Nat.le_refl _) r⟩
  rw [ll] at g
  exact absurd g (Nat.not_lt.mpr h)
/-- one new object stays -/
theorem Fut.cut1 {p : Nat} {o : PO} (f : Fut K fa m.length ρ m H ρ' m' H') (r : Rel K fa ρ m H) (hp : m.length ≤ p) (e : m'[p]? = some o)
    (ro : ∀ ρ'', RO K fa ρ'' (m.length + 1) H' (ρ' p) o) : Fut K fa m.length ρ m H (fun n => if n < m.length then ρ' n else ρ' p) (m'.take m.length ++ [o]) H' := by
  have ll : (m'.take m.length).length = m.length := by rw [List.length_take]; exact Nat.min_eq_left f.le
  have ll2 : (m'.take m.length ++ [o]).length = m.length + 1 := by rw [List.length_append, ll]; rfl
  have F := f.cutF r
  have at_ : ∀ {n : Nat} {x : PO}, (m'.take m.length ++ [o])[n]? = some x → (n < m.length ∧ m'[n]? = some x) ∨ (n = m.length ∧ x = o) := fun {n x} q => by
    rcases get_snoc q with ⟨h1, h2⟩ | ⟨h1, h2⟩
    · exact .inl ⟨by rw [ll] at h1; exact h1, (take_at h2).2⟩
    · exact .inr ⟨by rw [ll] at h1; exact h1, h2⟩
  refine ⟨fun n h => (if_pos h).trans (f.ag n h), by rw [ll2]; exact Nat.le_succ _, fun n hn q k x hk ex => ?_, f.kp, f.fr, fun n x hn ex h => ?_, fun n h g => ?_, f.dm, fun n kvs v e => (by
    obtain ⟨k1, v1, e1, l1, q1⟩ := F.dv n kvs v e
    exact ⟨k1, v1, by rw [List.getElem?_append_left (List.getElem?_eq_some_iff.mp e1).1]; exact e1, l1, q1⟩), ⟨fun n x ex => ?_, fun i j x y ei ej hi hj z => ?_⟩⟩
  · rcases at_ ex with ⟨_, h2⟩ | ⟨h1, _⟩
    · exact f.bd n hn q k x hk h2
    · omega
  · rcases at_ ex with ⟨_, h2⟩ | ⟨h1, _⟩
    · exact f.mu n x hn h2 h
    · omega
  · rw [ll2] at g
    have en : n = m.length := by omega
    show H (if n < m.length then ρ' n else ρ' p) = none
    rw [if_neg (by omega)]
    exact f.nw p hp (List.getElem?_eq_some_iff.mp e).1
  · rw [ll2]
    rcases at_ ex with ⟨h1, h2⟩ | ⟨h1, h2⟩
    · show RO K fa _ _ _ (if n < m.length then ρ' n else ρ' p) x
      rw [if_pos h1]
      have q := F.rel.objs n x (by rw [List.getElem?_take_of_lt h1]; exact h2)
      rw [ll] at q
      exact q.mono (fun k hk => if_pos hk) (Nat.le_succ _) (.refl _) fun _ => rfl
    · show RO K fa _ _ _ (if n < m.length then ρ' n else ρ' p) x
      rw [if_neg (by omega), h2]
      exact ro _
  · have z' : (if i < m.length then ρ' i else ρ' p) = (if j < m.length then ρ' j else ρ' p) := z
    rcases at_ ei with ⟨h1, e1⟩ | ⟨h1, e1⟩ <;> rcases at_ ej with ⟨h2, e2⟩ | ⟨h2, e2⟩
    · rw [if_pos h1, if_pos h2] at z'
      exact f.rel.inj i j x y e1 e2 hi hj z'
    · rw [if_pos h1, if_neg (by omega)] at z'
      subst e2
      have := f.rel.inj i p x y e1 e hi hj z'
      omega
    · rw [if_neg (by omega), if_pos h2] at z'
      subst e1
      have := f.rel.inj p j x y e e2 hi hj z'
      omega
    · rw [h1, h2]
theorem RK.pure {L' : Nat} {kvs : List (PV × PV)} {qs : List (Key × V)} (r : RK fa ρ L H kvs qs) (h : (kvs.all fun q => q.1.pure && q.2.pure) = true) : RK fa ρ' L' H kvs qs := by
  unfold RK at r ⊢
  induction r with
  | nil => exact .nil
  | cons q t ih =>
    rw [List.all_cons, Bool.and_eq_true, Bool.and_eq_true] at h
    exact .cons ⟨q.1, RV.pure _ _ q.2 h.1.2⟩ (ih h.2)
theorem RD.pure {L' : Nat} {a : Addr} {kvs : List (PV × PV)} (r : RD fa ρ L H a kvs) (h : (kvs.all fun q => q.1.pure && q.2.pure) = true) : RD fa ρ' L' H a kvs := by
  obtain ⟨o, es, ep, xs, h1, h2, h3, h4, h5, h6, h7, h8⟩ := r
  refine ⟨o, es, ep, xs, h1, h2, h3, h4, h5, h6, h7, ?_⟩
  clear h4 h5 h6 h7
  induction h8 with
  | nil => exact .nil
  | cons q t ih =>
    rw [List.all_cons, Bool.and_eq_true, Bool.and_eq_true] at h
    obtain ⟨a1, a2, a3, v, a4, a5⟩ := q
    exact .cons ⟨a1, RV.pure _ _ a2 h.1.1, a3, v, RV.pure _ _ a4 h.1.2, a5⟩ (ih h.2)
theorem gc_ok (f : Fut K fa m.length ρ m H ρ' m' H') (r : Rel K fa ρ m H) {v : PV} {u : V} (rv : RV fa ρ' m'.length H' v u) {z : PV} {h2 : Mem} (e : gcB m.length v m' = .ok (z, h2)) :
    ∃ ρ'', Fut K fa m.length ρ m H ρ'' h2 H' ∧ RV fa ρ'' h2.length H' z u := by
  have ll : (m'.take m.length).length = m.length := by rw [List.length_take]; exact Nat.min_eq_left f.le
  unfold gcB at e
  split at e
  · rename_i hp
    cases e
    exact ⟨ρ', f.cutF r, RV.pure _ _ rv hp⟩
  · split at e
    · rename_i p _
      have hp' : p < m'.length ∧ u = .ref (ρ' p) := by cases rv with | loc h => exact ⟨h, rfl⟩
      obtain ⟨hpl, rfl⟩ := hp'
      split at e
      · rename_i hlt
        cases e
        exact ⟨ρ', f.cutF r, .loc (by rw [ll]; exact hlt)⟩
      · rename_i hge
        have hge : m.length ≤ p := Nat.not_lt.mp hge
        have fin : ∀ {o : PO}, m'[p]? = some o → (∀ ρ'', RO K fa ρ'' (m.length + 1) H' (ρ' p) o) → ∃ ρ'', Fut K fa m.length ρ m H ρ'' (m'.take m.length ++ [o]) H' ∧ RV fa ρ'' (m'.take m.length ++ [o]).length H' (.loc m.length) (.ref (ρ' p)) := fun {o} eo ro => by
          refine ⟨_, f.cut1 r hge eo ro, ?_⟩
          have q : RV fa (fun n => if n < m.length then ρ' n else ρ' p) (m'.take m.length ++ [o]).length H' (.loc m.length) (.ref ((fun n => if n < m.length then ρ' n else ρ' p) m.length)) := .loc (by rw [List.length_append, ll]; exact Nat.lt_succ_self _)
          have q2 : (fun n => if n < m.length then ρ' n else ρ' p) m.length = ρ' p := if_neg (Nat.lt_irrefl _)
          rw [q2] at q
          exact q
        split at e
        · rename_i xs ex
          split at e
          · rename_i hx
            cases e
            obtain ⟨vs, h1, h3⟩ := f.rel.objs p _ ex
            exact fin ex fun ρ'' => ⟨vs, h1, RVs.pure _ _ h3 hx⟩
          · cases e; exact ⟨ρ', f, rv⟩
        · rename_i kvs ex
          split at e
          · rename_i hx
            cases e
            obtain ⟨qs, h1, h3⟩ := f.rel.objs p _ ex
            exact fin ex fun ρ'' => ⟨qs, h1, h3.pure hx⟩
          · cases e; exact ⟨ρ', f, rv⟩
        · rename_i kvs w ex
          split at e
          · rename_i hx
            cases e
            have D : RD fa ρ' m'.length H' (ρ' p) kvs := f.rel.objs p _ ex
            exact fin ex fun ρ'' => D.pure hx
          · cases e; exact ⟨ρ', f, rv⟩
        · cases e; exact ⟨ρ', f, rv⟩
    · cases e; exact ⟨ρ', f, rv⟩
mutual
theorem RV.upR {k : Nat} (hr : ∀ n, n < L → ρ' (n + k) = ρ n) (hl : L + k ≤ L') : ∀ (x : PV) (v : V), RV fa ρ L H x v → RV fa ρ' L' H (x.up k) v
  | .non, _, h => by cases h; exact .non
  | .bl _, _, h => by cases h; exact .bl _
  | .int _, _, h => by cases h; exact .int _
  | .str _, _, h => by cases h; exact .str _
  | .tup xs, _, h => by
    cases h with
    | tup e d r => exact .tup e d (RVs.upR hr hl xs _ r)
  | .rng _ _, _, h => by
    cases h with
    | rng e => exact .rng e
  | .loc n, _, h => by
    cases h with
    | loc e => rw [← hr n e]; exact .loc (by omega)
  | .fn _, _, h => by cases h; exact .fn _
  | .exn _, _, h => by cases h
theorem RVs.upR {k : Nat} (hr : ∀ n, n < L → ρ' (n + k) = ρ n) (hl : L + k ≤ L') : ∀ (xs : List PV) (vs : List V), RVs fa ρ L H xs vs → RVs fa ρ' L' H (PV.ups k xs) vs
  | [], _, h => by cases h; exact .nil
  | x :: xs, _, h => by
    cases h with
    | cons a b => exact .cons (RV.upR hr hl x _ a) (RVs.upR hr hl xs _ b)
end
mutual
theorem up_pure (k : Nat) : ∀ x : PV, x.pure = true → x.up k = x
  | .tup xs, h => congrArg PV.tup (ups_pure k xs h)
  | .loc _, h => by cases h
  | .non, _ => rfl
  | .bl _, _ => rfl
  | .int _, _ => rfl
  | .str _, _ => rfl
  | .rng _ _, _ => rfl
  | .fn _, _ => rfl
  | .exn _, _ => rfl
theorem ups_pure (k : Nat) : ∀ xs : List PV, PV.pures xs = true → PV.ups k xs = xs
  | [], _ => rfl
  | x :: xs, h => by
    have h : (x.pure && PV.pures xs) = true := h
    rw [Bool.and_eq_true] at h
    show x.up k :: PV.ups k xs = x :: xs
    rw [up_pure k x h.1, ups_pure k xs h.2]
end
theorem RD.upR {k : Nat} {a : Addr} (hr : ∀ n, n < L → ρ' (n + k) = ρ n) (hl : L + k ≤ L') {kvs : List (PV × PV)} (r : RD fa ρ L H a kvs) : RD fa ρ' L' H a (kvs.map fun q => (q.1.up k, q.2.up k)) := by
  obtain ⟨o, es, ep, xs, h1, h2, h3, h4, h5, h6, h7, h8⟩ := r
  refine ⟨o, es, ep, xs, h1, h2, h3, h4, h5, h6, h7, ?_⟩
  clear h4 h5 h6 h7
  induction h8 with
  | nil => exact .nil
  | cons q t ih =>
    obtain ⟨a1, a2, a3, v, a4, a5⟩ := q
    exact .cons ⟨by show nkOf (PV.up k _) = _; rw [up_pure k _ (nk_pure _ _ a1)]; exact a1, RV.upR hr hl _ _ a2, a3, v, RV.upR hr hl _ _ a4, a5⟩ ih
theorem keyV_up (q : Key) (k : Nat) : (keyV q).up k = keyV q := by cases q <;> rfl
theorem RK.upR {k : Nat} (hr : ∀ n, n < L → ρ' (n + k) = ρ n) (hl : L + k ≤ L') {kvs : List (PV × PV)} {qs : List (Key × V)} (r : RK fa ρ L H kvs qs) : RK fa ρ' L' H (kvs.map fun q => (q.1.up k, q.2.up k)) qs := by
  unfold RK at r ⊢
  induction r with
  | nil => exact .nil
  | cons q t ih => exact .cons ⟨(congrArg (PV.up k) q.1).trans (keyV_up _ _), RV.upR hr hl _ _ q.2⟩ ih
theorem RO.upR {k : Nat} {a : Addr} {o : PO} (hr : ∀ n, n < L → ρ' (n + k) = ρ n) (hl : L + k ≤ L') (r : RO K fa ρ L H a o) : RO K fa ρ' L' H a (o.up k) := by
  cases o with
  | lst xs => obtain ⟨vs, h1, h2⟩ := r; exact ⟨vs, h1, RVs.upR hr hl _ _ h2⟩
  | ro xs => obtain ⟨vs, h1, h2⟩ := r; exact ⟨vs, h1, RVs.upR hr hl _ _ h2⟩
  | dct kvs => obtain ⟨qs, h1, h2⟩ := r; exact ⟨qs, h1, h2.upR hr hl⟩
  | ins c fs => exact r.elim
  | dtt kvs v => exact RD.upR hr hl r
theorem up_mut (o : PO) (k : Nat) : (o.up k).mut = o.mut := by cases o <;> rfl
/-- a run that met nothing of m -/
theorem Fut.same0 {h3 : Mem} (f : Fut K fa n0 ρ [] H ρ' h3 H') : Same H H' := fun a u e => f.fr a u e fun n o q => by simp at q
theorem Fut.still {h3 : Mem} (f : Fut K fa n0 ρ1 [] H ρ' h3 H') (r : Rel K fa ρ m H) : Rel K fa ρ m H' :=
  ⟨fun n o e => (r.objs n o e).mono (fun _ _ => rfl) (Nat.le_refl _) f.kp fun hm => by
    obtain ⟨u, q, _⟩ := (r.objs n o e).tracked hm
    rw [q]; exact f.same0 _ _ q, r.inj⟩
theorem Fut.dvS {h3 : Mem} (f : Fut K fa n0 ρ1 [] H ρ' h3 H') (r : Rel K fa ρ m H) : Dv ρ m H m H' := fun n kvs v e => ⟨kvs, v, e, Nat.le_refl _, fun _ => ⟨rfl, by
  obtain ⟨u, q, _⟩ := (r.objs n _ e).tracked rfl
  rw [q]; exact f.same0 _ _ q⟩⟩
theorem Fut.lift0 {h3 : Mem} (f : Fut K fa n0 ρ1 [] H ρ' h3 H') (r : Rel K fa ρ m H) {n1 : Nat} : Fut K fa n1 ρ m H ρ m H' :=
  ⟨fun _ _ => rfl, Nat.le_refl _, fun _ _ h => h, f.kp, fun a u e _ => f.same0 a u e, fun _ o _ e h => ⟨o, e, h⟩, fun n h g => absurd g (Nat.not_lt.mpr h), f.dm, f.dvS r, f.still r⟩
theorem Fut.lift {h3 : Mem} (f : Fut K fa n0 ρ1 [] H ρ' h3 H') (r : Rel K fa ρ m H) : Fut K fa m.length ρ m H (fun n => if n < m.length then ρ n else ρ' (n - m.length)) (m ++ h3.map (PO.up m.length)) H' := by
  have ll : (m ++ h3.map (PO.up m.length)).length = h3.length + m.length := by rw [List.length_append, List.length_map]; omega
  have at_ : ∀ {n : Nat} {x : PO}, (m ++ h3.map (PO.up m.length))[n]? = some x → (n < m.length ∧ m[n]? = some x) ∨ (m.length ≤ n ∧ ∃ o, h3[n - m.length]? = some o ∧ x = o.up m.length) := fun {n x} q => by
    by_cases hn : n < m.length
    · rw [List.getElem?_append_left hn] at q
      exact .inl ⟨hn, q⟩
    · rw [List.getElem?_append_right (Nat.not_lt.mp hn), List.getElem?_map] at q
      obtain ⟨o, e1, e2⟩ := Option.map_eq_some_iff.mp q
      exact .inr ⟨Nat.not_lt.mp hn, o, e1, e2.symm⟩
  have R := f.still r
  refine ⟨fun n h => if_pos h, by rw [ll]; omega, fun n hn q k x hk ex => ?_, f.kp, fun a u e _ => f.same0 a u e, fun n x hn ex h => ?_, fun n h g => ?_, f.dm, fun n kvs v e => (by
    obtain ⟨k1, v1, e1, l1, q1⟩ := f.dvS r n kvs v e
    exact ⟨k1, v1, by rw [List.getElem?_append_left (List.getElem?_eq_some_iff.mp e1).1]; exact e1, l1, q1⟩), ⟨fun n x ex => ?_, fun i j x y ei ej hi hj z => ?_⟩⟩
  · rcases at_ ex with ⟨_, h2⟩ | ⟨h1, _⟩
    · exact q k x hk h2
    · omega
  · rcases at_ ex with ⟨_, h2⟩ | ⟨h1, _⟩
    · exact ⟨x, h2, h⟩
    · omega
  · rw [ll] at g
    show H (if n < m.length then ρ n else ρ' (n - m.length)) = none
    rw [if_neg (Nat.not_lt.mpr h)]
    exact f.nw _ (Nat.zero_le _) (by omega)
  · rw [ll]
    rcases at_ ex with ⟨h1, h2⟩ | ⟨h1, o, h2, rfl⟩
    · show RO K fa _ _ _ (if n < m.length then ρ n else ρ' (n - m.length)) x
      rw [if_pos h1]
      exact (R.objs n x h2).mono (fun k hk => if_pos hk) (by omega) (.refl _) fun _ => rfl
    · show RO K fa _ _ _ (if n < m.length then ρ n else ρ' (n - m.length)) _
      rw [if_neg (Nat.not_lt.mpr h1)]
      refine (f.rel.objs _ o h2).upR (fun k hk => ?_) (Nat.le_refl _)
      show (if k + m.length < m.length then ρ (k + m.length) else ρ' (k + m.length - m.length)) = ρ' k
      rw [if_neg (by omega), Nat.add_sub_cancel]
  · have z' : (if i < m.length then ρ i else ρ' (i - m.length)) = (if j < m.length then ρ j else ρ' (j - m.length)) := z
    rcases at_ ei with ⟨h1, e1⟩ | ⟨h1, o1, e1, rfl⟩ <;> rcases at_ ej with ⟨h2, e2⟩ | ⟨h2, o2, e2, rfl⟩
    · rw [if_pos h1, if_pos h2] at z'
      exact r.inj i j x y e1 e2 hi hj z'
    · rw [if_pos h1, if_neg (Nat.not_lt.mpr h2)] at z'
      obtain ⟨u, q, _⟩ := (r.objs i x e1).tracked hi
      rw [z', f.nw _ (Nat.zero_le _) (List.getElem?_eq_some_iff.mp e2).1] at q
      cases q
    · rw [if_neg (Nat.not_lt.mpr h1), if_pos h2] at z'
      obtain ⟨u, q, _⟩ := (r.objs j y e2).tracked hj
      rw [← z', f.nw _ (Nat.zero_le _) (List.getElem?_eq_some_iff.mp e1).1] at q
      cases q
    · rw [if_neg (Nat.not_lt.mpr h1), if_neg (Nat.not_lt.mpr h2)] at z'
      rw [up_mut] at hi hj
      have := f.rel.inj _ _ o1 o2 e1 e2 hi hj z'
      omega
theorem rel_nil : Rel K fa ρ [] H := ⟨fun n o e => by simp at e, fun i j o u e => by simp at e⟩
theorem lift_ok (f : Fut K fa 0 ρ1 [] H ρ' m' H') (r : Rel K fa ρ m H) {v : PV} {u : V} (rv : RV fa ρ' m'.length H' v u) {z : PV} {h2 : Mem} (e : liftB v m' m = .ok (z, h2)) :
    ∃ ρ'', Fut K fa m.length ρ m H ρ'' h2 H' ∧ RV fa ρ'' h2.length H' z u := by
  unfold liftB at e
  split at e
  · rename_i hp
    cases e
    exact ⟨ρ, f.lift0 r, RV.pure _ _ rv hp⟩
  · cases eg : gcB 0 v m' with
    | ok a =>
      obtain ⟨z0, h3⟩ := a
      rw [eg] at e
      cases e
      obtain ⟨ρ3, F, rv3⟩ := gc_ok (m := []) f rel_nil rv eg
      refine ⟨_, F.lift r, RV.upR (fun n hn => ?_) ?_ _ _ rv3⟩
      · show (if n + m.length < m.length then ρ (n + m.length) else ρ3 (n + m.length - m.length)) = ρ3 n
        rw [if_neg (by omega), Nat.add_sub_cancel]
      · rw [List.length_append, List.length_map]; omega
    | exc k h3 => rw [eg] at e; cases e
    | err => rw [eg] at e; cases e
end
end Dp
set_option Elab.async false
set_option linter.all false
set_option maxRecDepth 100000
/-! Dp22: functions. -/
namespace Dp
open PySem PySem.Spec PyProof.Rows L2

/-- a def: as it stands behind the top, its slots, its parameters, its code in the small language -/
structure Df where
  d : He.DefD
  N : List Str
  ps : List Str
  fn : Fn
/-- a program: its defs, its numbers, its classes of errors, its calls with keywords -/
structure Pr where
  dfs : Nat → Option Df
  fns : Str → Option Nat
  cns : Str → Option Int
  exs : Str → Option Nat
  kwl : Kwl
def Pr.tab (p : Pr) (f : Nat) : Option Fn := (p.dfs f).map (·.fn)
def Pr.cc (p : Pr) (df : Df) : CC := { N := df.N, sc := df.d.scope, fnB := fun _ => true, fns := p.fns, cns := p.cns, exs := p.exs, kwl := p.kwl }
def Df.scB (df : Df) : Bool := decide (df.d.scope.kind = .function) && !df.d.scope.isCoroutine && !df.d.scope.isGenerator && decide df.N.Nodup && decide (df.N.take df.ps.length = df.ps) &&
  (df.ps.all fun x => df.d.scope.names.lookup x == some .local || df.d.scope.names.lookup x == some .cell) && (df.d.scope.names.all fun y => !(y.2 == .free))
def Pr.chk (p : Pr) (df : Df) : Bool := df.scB && chkSs (p.cc df) df.fn.body df.d.body && decide (df.fn.np = df.ps.length) && decide (df.fn.ns = df.N.length) && df.d.dfl.isEmpty && df.d.kwd.isEmpty
theorem Df.scope {df : Df} (h : df.scB = true) : FnScope df.N df.ps df.d.scope := by
  unfold Df.scB at h
  simp only [Bool.and_eq_true, Bool.not_eq_true', List.all_eq_true, Bool.or_eq_true, beq_iff_eq] at h
  obtain ⟨⟨⟨⟨⟨⟨h1, h2⟩, h3⟩, h4⟩, h5⟩, h6⟩, h7⟩ := h
  exact ⟨of_decide_eq_true h1, h2, h3, of_decide_eq_true h4, of_decide_eq_true h5, h6, fun y hy e => by
    have := h7 y hy
    rw [e] at this
    cases this⟩

/-- what the top has written -/
structure Top (p : Pr) (K : PySem.W.Frag) (mg : Str → Option Value) (S : Sg) : Prop where
  hK : K = S.K
  blt : ∀ x ∈ bltNs, mg x = none
  cns : ∀ x k, p.cns x = some k → ∃ t, mg x = some (.int k t)
  fns : ∀ x f, p.fns x = some f → mg x = some (.ref (S.fa f))
  exs : ∀ x k, p.exs x = some k → ExF K mg x (S.ca k)
  exk : ∀ x k, p.exs x = some k → ∃ D, S.ca k = .ref D ∧ L2.ExcC K D ∧ PySem.W.exmOne K (.ref D) (.ref D) = some true ∧ PySem.W.kitOne K (.ref D) (.type "ValueError") = some (k != 6) ∧ ∀ y j, p.exs y = some j → ∃ C, mg y = some (.ref C) ∧ PySem.W.kitOne K (.ref D) (.ref C) = some (k == j)
  dfs : ∀ f df, p.dfs f = some df → p.chk df = true ∧ ∃ fd, FunD K df.d.name df.d.qual df.d.params df.d.body df.d.scope (df.d.dvs K) (df.d.kws K) (S.fa f) fd ∧ Binds K fd df.ps [] ∧
    ∀ n ks perm, (f, n, ks, perm) ∈ p.kwl → ∀ (s : Shared) (us ws : List Value), K.In s.heap → us.length = n → ws.length = ks.length → BindsTo s fd ⟨us, ks.zip ws⟩ (df.ps.zip (permV .none perm us ws))

theorem start_env {ξ : Nat → V → Prop} {fa ρ : Nat → Addr} {L : Nat} {H : L2.Hp} {fn : Fn} {N : List Str} {as : List PV} {vs : List V} (r : RVs fa ρ L H as vs) (hn : fn.ns = N.length) (hp : as.length = fn.np) : REnv ξ fa ρ L H (startB fn as) (L2.start N vs) := by
  have hl := r.length
  refine ⟨?_, fun i x e => ?_⟩
  · show (as.map some ++ List.replicate (fn.ns - fn.np) none).length = (vs.map some ++ List.replicate (N.length - vs.length) none).length
    rw [List.length_append, List.length_append, List.length_map, List.length_map, List.length_replicate, List.length_replicate, ← hl, hn, hp]
  · have e : (as.map some ++ List.replicate (fn.ns - fn.np) none)[i]? = some (some x) := e
    by_cases h : i < as.length
    · rw [List.getElem?_append_left (by rw [List.length_map]; exact h), List.getElem?_map] at e
      obtain ⟨y, e1, e2⟩ := Option.map_eq_some_iff.mp e
      cases e2
      obtain ⟨v, e3, q⟩ := r.get e1
      refine ⟨v, ?_, .of q⟩
      show (vs.map some ++ List.replicate (N.length - vs.length) none)[i]? = some (some v)
      rw [List.getElem?_append_left (by rw [List.length_map, ← hl]; exact h), List.getElem?_map, e3]
      rfl
    · rw [List.getElem?_append_right (by rw [List.length_map]; exact Nat.not_lt.mp h), List.getElem?_replicate] at e
      split at e <;> cases e

section
variable {p : Pr} {P : Program} {w : World} {K : PySem.W.Frag} {mg : Str → Option Value} {base : Heap} {S : Sg}
theorem good_of (T : Top p K mg S) {df : Df} (hc : p.chk df = true) {k n0 : Nat} {F : Nat → List PV → Mem → RE} (ih : ∀ f, (p.tab f).isSome = true → Fk P w K mg base S k p.kwl F f) {qual : Str} {f : Addr} {cdv : Value} {A : Around} {outer : List PySem.Env} {s : Shared} {H : L2.Hp} {E : XK}
    (hr : Room k (A.deeper (envOfC qual df.d.scope s.heap.objs.size f cdv))) : GoodS (p.cc df) (cxOf (L2.CX P w) P w K mg base df.N qual df.d.scope f cdv A outer s H E) S (fun cls d _ H => E cls d H) ⟨F, fun i => (p.tab i).isSome, n0⟩ k := by
  unfold Pr.chk at hc
  simp only [Bool.and_eq_true] at hc
  have sc := Df.scope hc.1.1.1.1.1
  have tk : Takes (cxOf (L2.CX P w) P w K mg base df.N qual df.d.scope f cdv A outer s H E) (fun cls d _ H => E cls d H) := takes_of rfl rfl rfl rfl
  refine { hK := T.hK, N := rfl, nd := sc.nd, sc := rfl, fn := fun _ _ => rfl, calm := fun _ => rfl, un := ?_, blt := T.blt, cns := T.cns, fns := T.fns, call := fun _ => ⟨T.hK, hr, tk, ih⟩, pas := fun _ => passes_of rfl, hs := rfl, hf := rfl, kind := sc.kind, exf := T.exs, exk := T.exk, isx := fun hq => nomatch hq }
  have := hr.un
  show (A.deeper (envOfC qual df.d.scope s.heap.objs.size f cdv)).units + 65 < cLine
  omega
/-- the body's end is the call's -/
theorem ends_of {k f : Nat} {fn : Fn} (ht : p.tab f = some fn) {as : List PV} (hp : as.length = fn.np) {ρ : Nat → Addr} {m : Mem} {H : L2.Hp} {vs : List V} {Q : VK} {E : XK} {N : List Str} (hn : fn.ns = N.length) (R : Rel S.K S.fa ρ m H) (rv : RVs S.fa ρ m.length H as vs)
    (h : Out S.K S.fa m.length Prod.snd ρ m H (callAt p.tab (k + 1) f as m) (vP S Q) (fun k H' => E (S.ca k) none H')) :
    ∃ n0, tSs S (fun cls d _ H => E cls d H) ⟨callAt p.tab k, fun i => (p.tab i).isSome, n0⟩ fn.body { nx := fun _ H' => Q .non H', rt := Q } (L2.start N vs) H := by
  unfold callAt at h
  rw [ht] at h
  dsimp only at h
  rw [if_pos hp] at h
  by_cases hpu : PV.pures as = true
  · rw [if_pos hpu] at h
    refine ⟨0, ρ, startB fn as, [], ⟨rel_nil, start_env (RVs.pure _ _ rv hpu) hn hp, Nat.zero_le _⟩, ?_⟩
    cases eb : evSs ⟨callAt p.tab k, fun i => (p.tab i).isSome, 0⟩ fn.body (startB fn as) [] with
    | nxt e h1 =>
      rw [eb] at h
      intro ρ' σ' H' F A
      exact h ρ H' (F.lift0 R) .non .non
    | ret v h1 =>
      rw [eb] at h
      dsimp only at h
      intro ρ' H' u F rvu
      cases el : liftB v h1 m with
      | ok a =>
        obtain ⟨z, h2⟩ := a
        rw [el] at h
        obtain ⟨ρ'', F2, r2⟩ := lift_ok F R rvu el
        exact h ρ'' H' F2 u r2
      | exc j h3 =>
        exfalso
        unfold liftB at el
        split at el
        · cases el
        · split at el <;> cases el
      | err => rw [el] at h; exact h.elim
    | exc j e h1 =>
      rw [eb] at h
      intro ρ' σ' H' F A
      exact h ρ H' (F.lift0 R)
    | brk e h1 => rw [eb] at h; exact h.elim
    | cnt e h1 => rw [eb] at h; exact h.elim
    | err => rw [eb] at h; exact h.elim
  · rw [if_neg hpu] at h
    refine ⟨m.length, ρ, startB fn as, m, ⟨R, start_env rv hn hp, Nat.le_refl _⟩, ?_⟩
    have gc : ∀ {v : PV} {h1 : Mem} {u : V} {ρ' : Nat → Addr} {H' : L2.Hp}, Out S.K S.fa m.length Prod.snd ρ m H (gcB m.length v h1) (vP S Q) (fun k H' => E (S.ca k) none H') → Fut S.K S.fa m.length ρ m H ρ' h1 H' → RV S.fa ρ' h1.length H' v u → Q u H' := fun {v h1 u ρ' H'} h F rvu => by
      cases el : gcB m.length v h1 with
      | ok a =>
        obtain ⟨z, h2⟩ := a
        rw [el] at h
        obtain ⟨ρ'', F2, r2⟩ := gc_ok F R rvu el
        exact h ρ'' H' F2 u r2
      | exc j h3 =>
        exfalso
        unfold gcB at el
        repeat' split at el
        all_goals cases el
      | err => rw [el] at h; exact h.elim
    cases eb : evSs ⟨callAt p.tab k, fun i => (p.tab i).isSome, m.length⟩ fn.body (startB fn as) m with
    | nxt e h1 =>
      rw [eb] at h
      intro ρ' σ' H' F A
      exact gc h F .non
    | ret v h1 =>
      rw [eb] at h
      intro ρ' H' u F rvu
      exact gc h F rvu
    | exc j e h1 =>
      rw [eb] at h
      intro ρ' σ' H' F A
      exact h ρ' H' (F.cutF R)
    | brk e h1 => rw [eb] at h; exact h.elim
    | cnt e h1 => rw [eb] at h; exact h.elim
    | err => rw [eb] at h; exact h.elim
theorem call_len {k f : Nat} {as : List PV} {m : Mem} (h : callAt p.tab k f as m ≠ .err) : ∃ fn, p.tab f = some fn ∧ as.length = fn.np := by
  cases k with
  | zero => exact absurd rfl h
  | succ k =>
    unfold callAt at h
    cases e : p.tab f with
    | none => rw [e] at h; exact absurd rfl h
    | some fn =>
      rw [e] at h
      dsimp only at h
      by_cases q : as.length = fn.np
      · exact ⟨fn, rfl, q⟩
      · rw [if_neg q] at h; exact absurd rfl h
/-- every def keeps its promise -/
theorem fk_all (T : Top p K mg S) : ∀ (k f : Nat), (p.tab f).isSome = true → Fk P w K mg base S k p.kwl (callAt p.tab k) f := fun k => by
  induction k with
  | zero =>
    intro f hf
    unfold Pr.tab at hf
    cases ed : p.dfs f with
    | none => rw [ed] at hf; cases hf
    | some df =>
      obtain ⟨hc, fd, F, hb, hkw⟩ := T.dfs f df ed
      refine ⟨fd, df.ps, ⟨fun vs H Q E h => h.1, fun A outer s H args us vs Q E hr e0 hbt r ⟨_, ρ, m, as, _, _, h⟩ => h.elim⟩, hb, F.kp, fun as m h => absurd rfl h, hkw⟩
  | succ k ih =>
    intro f hf
    unfold Pr.tab at hf
    cases ed : p.dfs f with
    | none => rw [ed] at hf; cases hf
    | some df =>
      have ht : p.tab f = some df.fn := by unfold Pr.tab; rw [ed]; rfl
      obtain ⟨hc, fd, F, hb, hkw⟩ := T.dfs f df ed
      have hc' := hc
      unfold Pr.chk at hc'
      simp only [Bool.and_eq_true] at hc'
      obtain ⟨⟨⟨⟨⟨c1, c2⟩, c3⟩, c4⟩, c5⟩, c6⟩ := hc'
      have hnp := of_decide_eq_true c3
      have hns := of_decide_eq_true c4
      have sc := Df.scope c1
      refine ⟨fd, df.ps, F.ok sc (fun vs H Q E h => h.1) (fun cdv A outer s H vs Q E hr h => ?_), hb, F.kp, fun as m h => ?_, hkw⟩
      · obtain ⟨hl, ρ, m, as, R, rv, h⟩ := h
        obtain ⟨n0, t⟩ := ends_of ht (by rw [rv.length, hl, hnp]) hns R rv h
        exact ⟨_, sSs df.fn.body (good_of T hc ih hr) df.d.body c2, t⟩
      · obtain ⟨fn, e1, e2⟩ := call_len h
        rw [ht] at e1
        cases e1
        rw [e2, hnp]
end
end Dp
set_option Elab.async false
set_option linter.all false
set_option maxRecDepth 100000
/-! Dp23: a law's program as data; what its head says; its end. -/
namespace Dp
open PySem PySem.Spec PyProof.Rows L2

structure LawP where
  L : List (Nat × Df)
  cnL : List (Str × Int)
  exL : List (Str × Nat)
  kwl : Kwl
def mkDf (name : Str) (st : Stmt) (ps N : List Str) (fn : Fn) : Df := ⟨⟨(name, none), name, name, defArgs st, defBody st, defScope st, [], []⟩, N, ps, fn⟩
def LawP.byId (l : LawP) (f : Nat) : Option Df := (l.L.find? fun q => q.1 == f).map (·.2)
def LawP.pr (l : LawP) : Pr where
  dfs := l.byId
  fns := fun x => (l.L.find? fun q => decide (q.2.d.name = x)).map (·.1)
  cns := fun x => (l.cnL.find? fun q => decide (q.1 = x)).map (·.2)
  exs := fun x => (l.exL.find? fun q => decide (q.1 = x)).map (·.2)
  kwl := l.kwl
def LawP.fa (l : LawP) : List He.Fa := l.L.map (fun q => .glo q.2.d.name) ++ (bltNs.map .free ++ (l.cnL.map (fun q => .int q.1 q.2) ++ (l.exL.map (fun q => .glo q.1) ++ l.exL.map (fun q => .exc q.1))))
def LawP.fn (l : LawP) : List He.DefD := l.L.map (·.2.d)
def LawP.S (l : LawP) (K : PySem.W.Frag) : Sg where
  K := K
  ξ := fun _ _ => False
  fa := fun f => match l.byId f with
    | some df => He.ga K df.d.name
    | none => 0
  ca := fun k => match l.exL.find? fun q => q.2 == k with
    | some q => .ref (He.ga K q.1)
    | none => .none
def LawP.okB (l : LawP) : Bool := (l.L.all fun q => l.pr.chk q.2 && decide (q.2.d.at_ = (q.2.d.name, none)) && (match l.byId q.1 with
    | some r => decide (r.d.name = q.2.d.name)
    | none => false)) && l.exL.all fun q => match l.exL.find? fun r => r.2 == q.2 with
    | some r => decide (r.1 = q.1)
    | none => false
/-- what a caught error's class must tell -/
def exOne (K : PySem.W.Frag) (D : Addr) : Bool :=
  decide (PySem.W.findIn K (.ref D) "__getattribute__" = some (some (.builtin "BaseException.__getattribute__"))) && (decide (PySem.W.findIn K (.ref D) "__getattr__" = some none) && (decide (PySem.W.subIn K (.ref D) (.type "BaseException") = some true) && (PySem.W.hasDictIn K D &&
  (decide (PySem.W.findIn K (.ref D) "__class__" = some (some (.builtin "object.__class__"))) && (decide (PySem.W.specialIn K (.builtin "object.__class__") "__get__" = some (some (.builtin "getset_descriptor.__get__"))) && (decide (PySem.W.takesIn K (.builtin "object.__class__") = some true) && decide (PySem.W.mroIn K D (.type "object") = some true)))))))
theorem exOne_ok {K : PySem.W.Frag} {D : Addr} (h : exOne K D = true) : L2.ExcC K D := by
  unfold exOne at h
  simp only [Bool.and_eq_true, decide_eq_true_eq] at h
  obtain ⟨h1, h2, h3, h4, h5, h6, h7, h8⟩ := h
  exact ⟨h1, h2, h3, h4, h5, h6, h7, h8⟩
def LawP.exB (l : LawP) (K : PySem.W.Frag) : Bool := l.exL.all fun q => exOne K (He.ga K q.1) && (decide (PySem.W.kitOne K (.ref (He.ga K q.1)) (.type "ValueError") = some (q.2 != 6)) && (decide (PySem.W.exmOne K (.ref (He.ga K q.1)) (.ref (He.ga K q.1)) = some true) &&
  l.exL.all fun r => decide (PySem.W.kitOne K (.ref (He.ga K q.1)) (.ref (He.ga K r.1)) = some (q.2 == r.2))))
/-! the head's hook with one Bool more -/
def obsE (fa : List He.Fa) (fn : List He.DefD) (ex : PySem.W.Frag → Bool) (K : PySem.W.Frag) : Bool × He.AlD := (ex K, He.obsD fa fn K)
def obsEG (n : Nat) (fa : List He.Fa) (fn : List He.DefD) (ex : PySem.W.Frag → Bool) (g : Addr → Option Obj) : Bool × He.AlD := obsE fa fn ex (He.frG g (He.asD g n))
def hookE (n : Nat) (fa : List He.Fa) (fn : List He.DefD) (ex : PySem.W.Frag → Bool) : PySem.W.Hook where
  α := Bool × He.AlD
  obs := fun sh => obsEG n fa fn ex sh.heap.get?
  val := fun _ => (true, He.valD fn)
  says := fun _ hp => ∃ Kk : PySem.W.Frag, Kk.In hp ∧ He.SaysD fa fn Kk ∧ ex Kk = true
  of := fun _ _ eq => ⟨_, He.frG_in, congrArg Prod.snd eq, congrArg Prod.fst eq⟩
  keeps := fun _ _ _ ⟨Kk, hin, cs, ce⟩ kp => ⟨Kk, PySem.W.Frag.In.keeps hin kp, cs, ce⟩
theorem obsEG_eq {n : Nat} {fa : List He.Fa} {fn : List He.DefD} {ex : PySem.W.Frag → Bool} {g : Addr → Option Obj} {sh : Shared} (h : ∀ a, g a = sh.heap.get? a) : obsEG n fa fn ex g = (hookE n fa fn ex).obs sh := by
  have eg : g = sh.heap.get? := funext h
  subst eg
  rfl
/-- the def's binding of arguments by place -/
def DfB (df : Df) : Prop := ∀ (kV doc pm : Value) (an : Option Addr) (cdv ct : Value) (us : List Value), us.length = df.ps.length → bindArgs (PySem.W.fnOf df.d.name df.d.qual df.d.params df.d.body df.d.scope .none kV doc pm an cdv ct) ⟨us, []⟩ = pure (df.ps.zip us)
/-- .. with keywords -/
def DfK (df : Df) (n : Nat) (ks : List Str) (perm : List Nat) : Prop := ∀ (kV doc pm : Value) (an : Option Addr) (cdv ct : Value) (us ws : List Value), us.length = n → ws.length = ks.length →
  bindArgs (PySem.W.fnOf df.d.name df.d.qual df.d.params df.d.body df.d.scope .none kV doc pm an cdv ct) ⟨us, ks.zip ws⟩ = pure (df.ps.zip (permV .none perm us ws))

theorem findL_of {α : Type} {l : List α} {p : α → Bool} {x : α} (h : l.find? p = some x) : x ∈ l ∧ p x = true := ⟨List.mem_of_find?_eq_some h, List.find?_some h⟩
section
variable {fa : List He.Fa} {fn : List He.DefD} {K : PySem.W.Frag}
theorem fact_mem (c : He.SaysD fa fn K) {f : He.Fa} (h : f ∈ fa) : f.ok K = true := by
  obtain ⟨i, e⟩ := List.getElem?_of_mem h
  exact c.fact i e
theorem def_mem (c : He.SaysD fa fn K) {d : He.DefD} (h : d ∈ fn) : ∃ fd, FunD K d.name d.qual d.params d.body d.scope (d.dvs K) (d.kws K) (He.fAd K d.at_) fd := by
  obtain ⟨i, e⟩ := List.getElem?_of_mem h
  exact c.def_ i e
end
section
variable {l : LawP} {K : PySem.W.Frag} {h : Heap} {mg : Str → Option Value}
theorem LawP.ok1 (ok : l.okB = true) {q : Nat × Df} (hq : q ∈ l.L) : l.pr.chk q.2 = true ∧ q.2.d.at_ = (q.2.d.name, none) ∧ ∃ r, l.byId q.1 = some r ∧ r.d.name = q.2.d.name := by
  unfold LawP.okB at ok
  rw [Bool.and_eq_true] at ok
  have z := List.all_eq_true.mp ok.1 q hq
  simp only [Bool.and_eq_true] at z
  refine ⟨z.1.1, of_decide_eq_true z.1.2, ?_⟩
  have z2 := z.2
  split at z2
  · rename_i r e
    exact ⟨r, e, of_decide_eq_true z2⟩
  · cases z2
theorem LawP.ok2 (ok : l.okB = true) {q : Str × Nat} (hq : q ∈ l.exL) : (l.S K).ca q.2 = .ref (He.ga K q.1) := by
  unfold LawP.okB at ok
  rw [Bool.and_eq_true] at ok
  have z := List.all_eq_true.mp ok.2 q hq
  show (match l.exL.find? fun r => r.2 == q.2 with
    | some q => Value.ref (He.ga K q.1)
    | none => .none) = _
  split at z
  · rename_i r e
    rw [of_decide_eq_true z]
  · cases z
theorem LawP.at_ (ok : l.okB = true) {f : Nat} {df : Df} (e : l.byId f = some df) : (f, df) ∈ l.L := by
  unfold LawP.byId at e
  obtain ⟨q, e1, e2⟩ := Option.map_eq_some_iff.mp e
  obtain ⟨h1, h2⟩ := findL_of e1
  subst e2
  have : q.1 = f := by simpa using h2
  subst this
  exact h1
theorem LawP.funD (ok : l.okB = true) (c : He.SaysD l.fa l.fn K) {f : Nat} {df : Df} (e : l.byId f = some df) : l.pr.chk df = true ∧ df.d.dvs K = [] ∧ ∃ fd, FunD K df.d.name df.d.qual df.d.params df.d.body df.d.scope [] (df.d.kws K) ((l.S K).fa f) fd := by
  have hm := LawP.at_ ok e
  obtain ⟨h1, h2, _⟩ := LawP.ok1 ok hm
  have h1' := h1
  unfold Pr.chk at h1'
  simp only [Bool.and_eq_true] at h1'
  have hd : df.d.dvs K = [] := by
    have := h1'.1.2
    show df.d.dfl.map _ = []
    rw [List.isEmpty_iff.mp this]
    rfl
  obtain ⟨fd, F⟩ := def_mem c (d := df.d) (List.mem_map.mpr ⟨(f, df), hm, rfl⟩)
  refine ⟨h1, hd, fd, ?_⟩
  have ea : (l.S K).fa f = He.fAd K df.d.at_ := by
    rw [h2]
    show (match l.byId f with
      | some df => He.ga K df.d.name
      | none => 0) = He.ga K df.d.name
    rw [e]
  rw [ea]
  rw [hd] at F
  exact F
theorem FunD.kwB {df : Df} {f : Addr} {fd : FuncData} (F : FunD K df.d.name df.d.qual df.d.params df.d.body df.d.scope [] (df.d.kws K) f fd) {n : Nat} {ks : List Str} {perm : List Nat} (hb : DfK df n ks perm) (s : Shared) (us ws : List Value) (h1 : us.length = n) (h2 : ws.length = ks.length) :
    BindsTo s fd ⟨us, ks.zip ws⟩ (df.ps.zip (permV .none perm us ws)) := by
  obtain ⟨oc, od, dV, kV, doc, pm, an, cdv, ct, osl, rfl, lk, hcd, hD, hK⟩ := F.ex
  rcases hD with ⟨_, rfl⟩ | ⟨e, _⟩
  · exact .of_eq (hb kV doc pm an cdv ct us ws h1 h2)
  · exact absurd rfl e
theorem LawP.top (ok : l.okB = true) (hb : ∀ q ∈ l.L, DfB q.2) (hk : ∀ z ∈ l.kwl, ∀ df, l.byId z.1 = some df → DfK df z.2.1 z.2.2.1 z.2.2.2) (X : K.In h) (G : h.Ns mainGlobals mg) (c : He.SaysD l.fa l.fn K) (ce : l.exB K = true) : Top l.pr K mg (l.S K) where
  hK := rfl
  blt := fun x hx => He.free_ok X G (fact_mem c (f := .free x) (by
    unfold LawP.fa
    exact List.mem_append.mpr (.inr (List.mem_append.mpr (.inl (List.mem_map.mpr ⟨x, hx, rfl⟩))))))
  cns := fun x k e => by
    obtain ⟨q, e1, e2⟩ := Option.map_eq_some_iff.mp e
    obtain ⟨h1, h2⟩ := findL_of e1
    subst e2
    have := of_decide_eq_true h2
    subst this
    exact He.int_ok X G (fact_mem c (f := .int q.1 q.2) (by
      unfold LawP.fa
      exact List.mem_append.mpr (.inr (List.mem_append.mpr (.inr (List.mem_append.mpr (.inl (List.mem_map.mpr ⟨q, h1, rfl⟩))))))))
  fns := fun x f e => by
    obtain ⟨q, e1, e2⟩ := Option.map_eq_some_iff.mp e
    obtain ⟨h1, h2⟩ := findL_of e1
    subst e2
    have := of_decide_eq_true h2
    subst this
    obtain ⟨_, _, r, h3, h4⟩ := LawP.ok1 ok h1
    have ea : (l.S K).fa q.1 = He.ga K q.2.d.name := by
      show (match l.byId q.1 with
        | some df => He.ga K df.d.name
        | none => 0) = _
      rw [h3]
      dsimp only
      rw [h4]
    rw [ea]
    exact He.glo_ok X G (fact_mem c (f := .glo q.2.d.name) (by
      unfold LawP.fa
      exact List.mem_append.mpr (.inl (List.mem_map.mpr ⟨q, h1, rfl⟩))))
  exs := fun x k e => by
    obtain ⟨q, e1, e2⟩ := Option.map_eq_some_iff.mp e
    obtain ⟨h1, h2⟩ := findL_of e1
    subst e2
    have := of_decide_eq_true h2
    subst this
    obtain ⟨a1, a2, a3, a4⟩ := He.exc_ok (fact_mem c (f := .exc q.1) (by
      unfold LawP.fa
      exact List.mem_append.mpr (.inr (List.mem_append.mpr (.inr (List.mem_append.mpr (.inr (List.mem_append.mpr (.inr (List.mem_map.mpr ⟨q, h1, rfl⟩))))))))))
    exact ⟨He.ga K q.1, _, _, _, _, LawP.ok2 ok h1, PySem.F.excBase_ValueError, a1, He.glo_ok X G (fact_mem c (f := .glo q.1) (by
      unfold LawP.fa
      exact List.mem_append.mpr (.inr (List.mem_append.mpr (.inr (List.mem_append.mpr (.inr (List.mem_append.mpr (.inl (List.mem_map.mpr ⟨q, h1, rfl⟩)))))))))), a2, a3, a4⟩
  exk := fun x k e => by
    obtain ⟨q, e1, e2⟩ := Option.map_eq_some_iff.mp e
    obtain ⟨h1, h2⟩ := findL_of e1
    subst e2
    have := of_decide_eq_true h2
    subst this
    unfold LawP.exB at ce
    have z := List.all_eq_true.mp ce q h1
    simp only [Bool.and_eq_true] at z
    obtain ⟨z1, z2, z3, z4⟩ := z
    refine ⟨He.ga K q.1, LawP.ok2 ok h1, exOne_ok z1, of_decide_eq_true z3, of_decide_eq_true z2, fun y j ey => ?_⟩
    obtain ⟨r, e3, e4⟩ := Option.map_eq_some_iff.mp ey
    obtain ⟨h3, h4⟩ := findL_of e3
    subst e4
    have := of_decide_eq_true h4
    subst this
    exact ⟨He.ga K r.1, He.glo_ok X G (fact_mem c (f := .glo r.1) (by
      unfold LawP.fa
      exact List.mem_append.mpr (.inr (List.mem_append.mpr (.inr (List.mem_append.mpr (.inr (List.mem_append.mpr (.inl (List.mem_map.mpr ⟨r, h3, rfl⟩)))))))))), of_decide_eq_true (List.all_eq_true.mp z4 r h3)⟩
  dfs := fun f df e => by
    obtain ⟨h1, h2, fd, F⟩ := LawP.funD ok c e
    have hm := LawP.at_ ok e
    refine ⟨h1, fd, by rw [h2]; exact F, F.bindsN (hb _ hm), fun n ks perm hz s us ws _ l1 l2 => ?_⟩
    exact FunD.kwB F (hk _ hz df e) s us ws l1 l2

theorem find_map {l : List (Nat × Df)} {f : Nat} : ((l.map fun q => (q.1, q.2.fn)).find? fun q => q.1 == f).map (·.2) = ((l.find? fun q => q.1 == f).map (·.2)).map (·.fn) := by
  induction l with
  | nil => rfl
  | cons a t ih =>
    rw [List.map_cons, List.find?_cons, List.find?_cons]
    dsimp only
    cases a.1 == f with
    | true => rfl
    | false => exact ih
theorem LawP.tabE {l : LawP} {cL : List (Nat × Fn)} (h : cL = l.L.map fun q => (q.1, q.2.fn)) : l.pr.tab = fun f => (cL.find? fun q => q.1 == f).map (·.2) := by
  funext f
  rw [h, find_map]
  rfl
/-- what the law is asked -/
def LawP.Plain (l : LawP) (k f n : Nat) : Prop := ∀ ns : List Int, ns.length ≤ n → ∃ m, callAt l.pr.tab (k + 1) f [.loc 0] [.ro (ns.map .int)] = .ok (.bl true, m)
theorem rvs_is {fa ρ : Nat → Addr} {L : Nat} {H : L2.Hp} : ∀ ns : List Int, RVs fa ρ L H (ns.map .int) (ns.map .int)
  | [] => .nil
  | _ :: ns => .cons (.int _) (rvs_is ns)
theorem LawP.facts (ok : l.okB = true) (hb : ∀ q ∈ l.L, DfB q.2) (hk : ∀ z ∈ l.kwl, ∀ df, l.byId z.1 = some df → DfK df z.2.1 z.2.2.1 z.2.2.2) {P : Program} {w : World} {k f n : Nat} {df : Df} {x : Str} (hp : l.Plain k f n) (he : l.byId f = some df) (hps : df.ps = [x])
    (X : K.In h) (G : h.Ns mainGlobals mg) (c : He.SaysD l.fa l.fn K) (ce : l.exB K = true) : mg df.d.name = some (.ref ((l.S K).fa f)) ∧
      ∃ (fd : FuncData) (sp : Sp), (∀ (s : Shared) (u : Value), BindsTo s fd ⟨[u], []⟩ [(x, u)]) ∧
        (∀ (H : L2.Hp) (a : Addr) (ns : List Int), ns.length ≤ n → Only H → SqL K H a (ns.map V.int) → sp [.ref a] H (fun v _ => v = .bl true) fun _ _ _ => False) ∧
        ∀ base : Heap, K.In base → base.Ns mainGlobals mg → FnOk P w K mg base (L2.CX P w) (k + 1) ((l.S K).fa f) fd [x] sp := by
  have hm := LawP.at_ ok he
  obtain ⟨h1, h2, fd, F⟩ := LawP.funD ok c he
  have T : Top l.pr K mg (l.S K) := LawP.top ok hb hk X G c ce
  refine ⟨?_, fd, spF (l.S K) (callAt l.pr.tab (k + 1)) f 1, fun s u => ?_, fun H a ns hl hO hS => ?_, fun base _ _ => ?_⟩
  · have e : (l.S K).fa f = He.ga K df.d.name := by
      show (match l.byId f with
        | some df => He.ga K df.d.name
        | none => 0) = _
      rw [he]
    rw [e]
    exact He.glo_ok X G (fact_mem c (f := .glo df.d.name) (by
      unfold LawP.fa
      exact List.mem_append.mpr (.inl (List.mem_map.mpr ⟨_, hm, rfl⟩))))
  · have b := FunD.bindsA (ps := df.ps) F (hb _ hm) s [u] (by rw [hps]; rfl)
    rw [hps] at b
    exact b
  · refine ⟨rfl, fun _ => a, [.ro (ns.map .int)], [.loc 0], ⟨fun i o e => ?_, fun i j o u e1 e2 _ _ _ => ?_⟩, .cons (.loc (Nat.zero_lt_succ 0)) .nil, ?_⟩
    · cases i with
      | succ i => simp at e
      | zero =>
        cases Option.some.inj e
        refine ⟨ns.map V.int, ?_, rvs_is ns⟩
        rcases hS with (q | q) | q
        · rcases hO a with z | ⟨o, xs, z⟩
          · rw [z] at q; cases q
          · rw [z] at q; cases q
        · exact .inl q
        · exact .inr q
    · have e1 := (List.getElem?_eq_some_iff.mp e1).1
      have e2 := (List.getElem?_eq_some_iff.mp e2).1
      simp at e1 e2
      omega
    · obtain ⟨m, e⟩ := hp ns hl
      rw [e]
      intro ρ' H' _ v rv
      cases rv
      rfl
  · have hc' := h1
    unfold Pr.chk at hc'
    simp only [Bool.and_eq_true] at hc'
    obtain ⟨⟨⟨⟨⟨c1, c2⟩, c3⟩, c4⟩, c5⟩, c6⟩ := hc'
    have hnp := of_decide_eq_true c3
    have hns := of_decide_eq_true c4
    have sc := Df.scope c1
    have ht : l.pr.tab f = some df.fn := by unfold Pr.tab; rw [show l.pr.dfs f = some df from he]; rfl
    have F' := F.ok (P := P) (w := w) (mg := mg) (base := base) (CX := L2.CX P w) (k := k) (sp := spF (l.S K) (callAt l.pr.tab (k + 1)) f 1) sc (fun vs H Q E h => by rw [hps]; exact h.1) (fun cdv A outer s H vs Q E hr h => by
      obtain ⟨hl, ρ, m, as, R, rv, h⟩ := h
      obtain ⟨n0, t⟩ := ends_of ht (by rw [rv.length, hl, hnp, hps]; rfl) hns R rv h
      exact ⟨_, sSs df.fn.body (good_of T h1 (fk_all T k) hr) df.d.body c2, t⟩)
    rw [hps] at F'
    exact F'
end
/-- whatever the world, nothing gets out -/
def CXe (P : Program) : CXT := fun outer H s E u s' => ∃ w, L2.CX P w outer H s E u s'
theorem cxe_no {P : Program} {H : L2.Hp} {s s' : Shared} {e : Value} (h : CXe P [] H s (fun _ _ _ => False) e s') : False := by
  obtain ⟨_, _, _, _, _, _, _, _, _, _, _, _, _, z⟩ := h
  exact z
theorem fnOk_e {P : Program} {w : World} {K : PySem.W.Frag} {mg : Str → Option Value} {base : Heap} {k : Nat} {f : Addr} {fd : FuncData} {ps : List Str} {sp : Sp} (F : FnOk P w K mg base (L2.CX P w) k f fd ps sp) : FnOk P w K mg base (CXe P) k f fd ps sp :=
  ⟨F.len, fun A outer s H args us vs Q E h1 h2 h3 h4 h5 => codeAny_mono (F.run A outer s H args us vs Q E h1 h2 h3 h4 h5) fun r s' h => by
    cases r with
    | error e => exact ⟨w, h⟩
    | ok r => cases r <;> exact h⟩
/-- the law's walk -/
theorem LawP.walk {l : LawP} (ok : l.okB = true) (hb : ∀ q ∈ l.L, DfB q.2) (hk : ∀ z ∈ l.kwl, ∀ df, l.byId z.1 = some df → DfK df z.2.1 z.2.2.1 z.2.2.2) {law : PySem.W.OpenLaw} {k f n N : Nat} {df : Df} {x : Str} {q : Program} {loose : List Str} {XP : (Str → Option Value) → Heap → Prop} {d : DefRec}
    (hp : l.Plain k f n) (he : l.byId f = some df) (hps : df.ps = [x]) (hn : law.most = some n) (hn2 : n ≤ sizeLine) (hdf : d.params.defaults = []) (hr : Room (k + 1) callerA) (hname : d.name = df.d.name) :
    PySem.W.WalkO q loose XP (hookE N l.fa l.fn l.exB).says law.row.toRowW d [] (fun f vs => PySem.call f vs) :=
  walk_ofE (k := k + 1) (CX := CXe law.prog) hn hn2 hdf hr (fun w mg fa h ⟨K, X, c, ce⟩ G hm => by
    obtain ⟨e, fd, sp, h1, h2, h3⟩ := LawP.facts (P := law.prog) (w := w) ok hb hk hp he hps X G c ce
    rw [hname, e] at hm
    cases hm
    exact ⟨K, fd, sp, X, h1, h2, fun base i j => fnOk_e (h3 base i j)⟩) fun _ _ _ _ z => cxe_no z
end Dp
set_option linter.all false
set_option Elab.async false
set_option maxRecDepth 100000
/-! Dq1: rules for runs of the small language. Plain Lean. -/
namespace Dp

/-- the run ends well, with this -/
def wp {α : Type} (r : Res α) (P : α → Prop) : Prop := match r with
  | .ok a => P a
  | _ => False
@[simp] theorem wp_ok {α : Type} {a : α} {P : α → Prop} : wp (.ok a) P = P a := rfl
@[simp] theorem wp_err {α : Type} {P : α → Prop} : wp .err P = False := rfl
@[simp ↓] theorem wp_bd {α β : Type} {r : Res α} {f : α → Res β} {P : β → Prop} : wp (r.bd f) P = wp r fun a => wp (f a) P := by cases r <;> rfl
theorem wp.imp {α : Type} {r : Res α} {P Q : α → Prop} (h : wp r P) (i : ∀ a, P a → Q a) : wp r Q := by
  cases r with
  | ok a => exact i a h
  | _ => exact h.elim
theorem wp.to {α : Type} {r : Res α} {P : α → Prop} (h : wp r P) : ∃ a, r = .ok a ∧ P a := by
  cases r with
  | ok a => exact ⟨a, rfl, h⟩
  | _ => exact h.elim
theorem wp.of {α : Type} {r : Res α} {P : α → Prop} {a : α} (e : r = .ok a) (h : P a) : wp r P := by rw [e]; exact h
@[simp ↓] theorem wp_still {α : Type} {r : Res α} {P : α → Prop} : wp r.still P = wp r P := by cases r <;> rfl
@[simp ↓] theorem wp_fin0 {r : RE} {P : PV × Mem → Prop} : wp (fin false r) P = wp r P := rfl
@[simp ↓] theorem wp_fin1 {r : RE} {P : PV × Mem → Prop} : wp (fin true r) P = wp r fun q => match truB q.2 q.1 with
    | some b => P (.bl b, q.2)
    | none => False := by
  show wp (r.bd _) P = _
  rw [wp_bd]
  refine congrArg (wp _) (funext fun q => ?_)
  cases truB q.2 q.1 <;> rfl
/-- where a run of statements may end -/
structure Po where
  nx : Env → Mem → Prop := fun _ _ => False
  rt : PV → Mem → Prop := fun _ _ => False
  br : Env → Mem → Prop := fun _ _ => False
  ct : Env → Mem → Prop := fun _ _ => False
def ws (r : SR) (D : Po) : Prop := match r with
  | .nxt e h => D.nx e h
  | .ret v h => D.rt v h
  | .brk e h => D.br e h
  | .cnt e h => D.ct e h
  | _ => False
theorem ws.imp {r : SR} {D D' : Po} (h : ws r D) (h1 : ∀ e m, D.nx e m → D'.nx e m) (h2 : ∀ v m, D.rt v m → D'.rt v m) (h3 : ∀ e m, D.br e m → D'.br e m) (h4 : ∀ e m, D.ct e m → D'.ct e m) : ws r D' := by
  cases r with
  | nxt e m => exact h1 _ _ h
  | ret v m => exact h2 _ _ h
  | brk e m => exact h3 _ _ h
  | cnt e m => exact h4 _ _ h
  | exc _ _ _ => exact h.elim
  | err => exact h.elim
@[simp] theorem ws_nxt {e : Env} {h : Mem} {D : Po} : ws (.nxt e h) D = D.nx e h := rfl
@[simp ↓] theorem ws_sr {α : Type} {r : Res α} {env : Env} {f : α → SR} {D : Po} : ws (r.sr env f) D = wp r fun a => ws (f a) D := by cases r <;> rfl

section
variable {c : Cfg} {env : Env} {t : Bool} {h : Mem} {P : PV × Mem → Prop}
/-! ### expressions -/
@[simp ↓] theorem wp_var {i : Nat} : wp (evE c env false (.var i) h) P = match env[i]? with
    | some (some (.exn _)) => False
    | some (some v) => P (v, h)
    | _ => False := by
  conv => lhs; unfold evE
  rw [wp_fin0]
  cases env[i]? with
  | none => rfl
  | some o =>
    cases o with
    | none => rfl
    | some v => cases v <;> rfl
@[simp ↓] theorem wp_var1 {i : Nat} : wp (evE c env true (.var i) h) P = match env[i]? with
    | some (some (.exn _)) => False
    | some (some v) => (match truB h v with
      | some b => P (.bl b, h)
      | none => False)
    | _ => False := by
  conv => lhs; unfold evE
  rw [wp_fin1]
  cases env[i]? with
  | none => rfl
  | some o =>
    cases o with
    | none => rfl
    | some v => cases v <;> rfl
@[simp ↓] theorem wp_lit {v : PV} : wp (evE c env false (.lit v) h) P = P (v, h) := by unfold evE; rfl
@[simp ↓] theorem wp_gfn {f : Nat} : wp (evE c env false (.gfn f) h) P = P (.fn f, h) := by unfold evE; rfl
@[simp ↓] theorem wp_tup {es : Es} : wp (evE c env false (.tup es) h) P = wp (evEs c env es h) fun r => P (.tup r.1, r.2) := by
  conv => lhs; unfold evE
  rw [wp_fin0, wp_bd]
  rfl
@[simp ↓] theorem wp_lst {es : Es} : wp (evE c env false (.lst es) h) P = wp (evEs c env es h) fun r => P (.loc r.2.length, r.2 ++ [.lst r.1]) := by
  conv => lhs; unfold evE
  rw [wp_fin0, wp_bd]
  rfl
@[simp ↓] theorem wp_bin {o : Op} {a b : E} : wp (evE c env false (.bin o a b) h) P = wp (evE c env false a h) fun r => wp (evE c env false b r.2) fun q => wp (binB q.2 o r.1 q.1) P := by
  conv => lhs; unfold evE
  rw [wp_fin0, wp_bd]
  refine congrArg (wp _) (funext fun r => ?_)
  rw [wp_bd]
@[simp ↓] theorem wp_neg {a : E} : wp (evE c env false (.neg a) h) P = wp (evE c env false a h) fun r => match r.1 with
    | .int i => P (.int (-i), r.2)
    | _ => False := by
  conv => lhs; unfold evE
  rw [wp_fin0, wp_bd]
  refine congrArg (wp _) (funext fun r => ?_)
  cases r.1 <;> rfl
@[simp ↓] theorem wp_not {a : E} : wp (evE c env t (.not a) h) P = wp (evE c env true a h) fun r => match r.1 with
    | .bl b => P (.bl (!b), r.2)
    | _ => False := by
  conv => lhs; unfold evE
  rw [wp_bd]
  refine congrArg (wp _) (funext fun r => ?_)
  cases r.1 <;> rfl
@[simp ↓] theorem wp_cmp {o : Cp} {a b : E} : wp (evE c env t (.cmp o a b) h) P = wp (evE c env false a h) fun r => wp (evE c env false b r.2) fun q => wp (fin t (cmpB q.2 o r.1 q.1)) P := by
  conv => lhs; unfold evE
  cases t with
  | false =>
    rw [wp_fin0, wp_bd]
    refine congrArg (wp _) (funext fun r => ?_)
    rw [wp_bd]
    rfl
  | true =>
    rw [wp_fin1, wp_bd]
    refine congrArg (wp _) (funext fun r => ?_)
    rw [wp_bd]
    refine congrArg (wp _) (funext fun q => ?_)
    rw [wp_fin1]
@[simp ↓] theorem wp_chain {o p : Cp} {a b d : E} : wp (evE c env t (.chain o p a b d) h) P = wp (evE c env false a h) fun r => wp (evE c env false b r.2) fun q => wp (cmpB q.2 o r.1 q.1) fun u => match u.1 with
    | .bl true => wp (evE c env false d u.2) fun z => wp (fin t (cmpB z.2 p q.1 z.1)) P
    | .bl false => P (.bl false, u.2)
    | _ => False := by
  conv => lhs; unfold evE
  cases t with
  | false =>
    rw [wp_fin0, wp_bd]
    refine congrArg (wp _) (funext fun r => ?_)
    rw [wp_bd]
    refine congrArg (wp _) (funext fun q => ?_)
    rw [wp_bd]
    refine congrArg (wp _) (funext fun u => ?_)
    obtain ⟨v, m⟩ := u
    cases v with
    | bl b => cases b with
      | true => show wp (Res.bd _ _) P = _; rw [wp_bd]; rfl
      | false => rfl
    | _ => rfl
  | true =>
    rw [wp_fin1, wp_bd]
    refine congrArg (wp _) (funext fun r => ?_)
    rw [wp_bd]
    refine congrArg (wp _) (funext fun q => ?_)
    rw [wp_bd]
    refine congrArg (wp _) (funext fun u => ?_)
    obtain ⟨v, m⟩ := u
    cases v with
    | bl b => cases b with
      | true =>
        show wp (Res.bd _ _) _ = _
        rw [wp_bd]
        refine congrArg (wp _) (funext fun z => ?_)
        rw [wp_fin1]
      | false => rfl
    | _ => rfl
@[simp ↓] theorem wp_and {a b : E} : wp (evE c env t (.and a b) h) P = wp (evE c env t a h) fun r => match truB r.2 r.1 with
    | some true => wp (evE c env t b r.2) P
    | some false => P r
    | none => False := by
  conv => lhs; unfold evE
  rw [wp_bd]
  refine congrArg (wp _) (funext fun r => ?_)
  cases truB r.2 r.1 with
  | none => rfl
  | some b => cases b <;> rfl
@[simp ↓] theorem wp_or {a b : E} : wp (evE c env t (.or a b) h) P = wp (evE c env t a h) fun r => match truB r.2 r.1 with
    | some true => P r
    | some false => wp (evE c env t b r.2) P
    | none => False := by
  conv => lhs; unfold evE
  rw [wp_bd]
  refine congrArg (wp _) (funext fun r => ?_)
  cases truB r.2 r.1 with
  | none => rfl
  | some b => cases b <;> rfl
@[simp ↓] theorem wp_ite {g a b : E} : wp (evE c env t (.ite g a b) h) P = wp (evE c env true g h) fun r => match r.1 with
    | .bl true => wp (evE c env t a r.2) P
    | .bl false => wp (evE c env t b r.2) P
    | _ => False := by
  conv => lhs; unfold evE
  rw [wp_bd]
  refine congrArg (wp _) (funext fun r => ?_)
  obtain ⟨v, m⟩ := r
  cases v with
  | bl b => cases b <;> rfl
  | _ => rfl
@[simp ↓] theorem wp_call {f : Nat} {es : Es} : wp (evE c env t (.call f es) h) P = if c.has f then wp (evEs c env es h) fun r => wp (fin t (c.call f r.1 r.2)) P else False := by
  conv => lhs; unfold evE
  cases t with
  | false =>
    rw [wp_fin0]
    split
    · rw [wp_bd]; rfl
    · rfl
  | true =>
    rw [wp_fin1]
    split
    · rw [wp_bd]
      refine congrArg (wp _) (funext fun r => ?_)
      rw [wp_fin1]
    · rfl
@[simp ↓] theorem wp_callK {f : Nat} {ps ks : Es} {perm : List Nat} : wp (evE c env t (.callK f ps ks perm) h) P = if c.has f then wp (evEs c env ps h) fun r => wp (evEs c env ks r.2) fun q => wp (fin t (c.call f (perm.map fun j => (r.1 ++ q.1).getD j .non) q.2)) P else False := by
  conv => lhs; unfold evE
  cases t with
  | false =>
    rw [wp_fin0]
    split
    · rw [wp_bd]
      refine congrArg (wp _) (funext fun r => ?_)
      rw [wp_bd]
      rfl
    · rfl
  | true =>
    rw [wp_fin1]
    split
    · rw [wp_bd]
      refine congrArg (wp _) (funext fun r => ?_)
      rw [wp_bd]
      refine congrArg (wp _) (funext fun q => ?_)
      rw [wp_fin1]
    · rfl
@[simp ↓] theorem wp_callV {i : Nat} {es : Es} : wp (evE c env false (.callV i es) h) P = match env[i]? with
    | some (some (.fn f)) => if c.has f then wp (evEs c env es h) fun r => wp (c.call f r.1 r.2) P else False
    | _ => False := by
  conv => lhs; unfold evE
  rw [wp_fin0]
  cases env[i]? with
  | none => rfl
  | some o => cases o with
    | none => rfl
    | some v => cases v with
      | fn f =>
        show wp (if c.has f then _ else _) P = if c.has f then _ else _
        split
        · rw [wp_bd]
        · rfl
      | _ => rfl
@[simp ↓] theorem wp_blt {b : Bf} {es : Es} : wp (evE c env t (.blt b es) h) P = wp (evEs c env es h) fun r => wp (fin t (bltB r.2 b r.1)) P := by
  conv => lhs; unfold evE
  cases t with
  | false => rw [wp_fin0, wp_bd]; rfl
  | true =>
    rw [wp_fin1, wp_bd]
    refine congrArg (wp _) (funext fun r => ?_)
    rw [wp_fin1]
@[simp ↓] theorem wp_mth {m : Mf} {o : E} {es : Es} : wp (evE c env false (.mth m o es) h) P = wp (evE c env false o h) fun r => match rcB r.2 r.1 with
    | some k => if okM m k then wp (evEs c env es r.2) fun q => wp (mthB c.n0 q.2 m k r.1 q.1) P else False
    | none => False := by
  conv => lhs; unfold evE
  rw [wp_fin0, wp_bd]
  refine congrArg (wp _) (funext fun r => ?_)
  cases rcB r.2 r.1 with
  | none => rfl
  | some k =>
    show wp (if okM m k then _ else _) P = if okM m k then _ else _
    split
    · rw [wp_bd]
    · rfl
@[simp ↓] theorem wp_ix {o i : E} : wp (evE c env false (.ix o i) h) P = wp (evE c env false o h) fun r => wp (evE c env false i r.2) fun q => wp (getB q.2 r.1 q.1) P := by
  conv => lhs; unfold evE
  rw [wp_fin0, wp_bd]
  refine congrArg (wp _) (funext fun r => ?_)
  rw [wp_bd]
@[simp ↓] theorem wp_sl {o : E} {a b d : Oe} : wp (evE c env false (.sl o a b d) h) P = wp (evE c env false o h) fun r => wp (evO c env a r.2) fun q => wp (evO c env b q.2) fun u => wp (evO c env d u.2) fun z => wp (slB z.2 r.1 q.1 u.1 z.1) P := by
  conv => lhs; unfold evE
  rw [wp_fin0, wp_bd]
  refine congrArg (wp _) (funext fun r => ?_)
  rw [wp_bd]
  refine congrArg (wp _) (funext fun q => ?_)
  rw [wp_bd]
  refine congrArg (wp _) (funext fun u => ?_)
  rw [wp_bd]
/-- one turn of a comprehension -/
def lcStep (c : Cfg) (env : Env) (p : TN) (own : List Nat) (cond : Oe) (elt : E) (v : PV) (h1 : Mem) : Res (Option PV × Mem) := match asgN p v h1 (wipeB env own) with
  | none => .err
  | some e => (evC c e cond h1).bd fun t => if t.1 then (evE c e false elt t.2).bd fun y => .ok (some y.1, y.2) else .ok (none, t.2)
@[simp ↓] theorem wp_lc {p : TN} {own : List Nat} {it : It} {cond : Oe} {elt : E} : wp (evE c env false (.lc p own it cond elt) h) P = wp (evI c env it h) fun r => wp (lcLoop (lcStep c env p own cond elt) fuelB r.1 0 [] r.2) fun q => P (.loc q.2.length, q.2 ++ [.lst q.1]) := by
  conv => lhs; unfold evE
  rw [wp_fin0, wp_bd]
  refine congrArg (wp _) (funext fun r => ?_)
  rw [wp_bd, wp_still]
  rfl
@[simp ↓] theorem wp_step {p : TN} {own : List Nat} {cond : Oe} {elt : E} {v : PV} {Q : Option PV × Mem → Prop} : wp (lcStep c env p own cond elt v h) Q = match asgN p v h (wipeB env own) with
    | none => False
    | some e => wp (evC c e cond h) fun t => if t.1 then wp (evE c e false elt t.2) fun y => Q (some y.1, y.2) else Q (none, t.2) := by
  unfold lcStep
  cases asgN p v h (wipeB env own) with
  | none => rfl
  | some e =>
    show wp (Res.bd _ _) Q = _
    rw [wp_bd]
    refine congrArg (wp _) (funext fun t => ?_)
    cases t.1 with
    | true => show wp (Res.bd _ _) Q = _; rw [wp_bd]; rfl
    | false => rfl
@[simp ↓] theorem wp_nil {Q : List PV × Mem → Prop} : wp (evEs c env .nil h) Q = Q ([], h) := by unfold evEs; rfl
@[simp ↓] theorem wp_cons {e : E} {es : Es} {Q : List PV × Mem → Prop} : wp (evEs c env (.cons e es) h) Q = wp (evE c env false e h) fun r => wp (evEs c env es r.2) fun q => Q (r.1 :: q.1, q.2) := by
  conv => lhs; unfold evEs
  rw [wp_bd]
  refine congrArg (wp _) (funext fun r => ?_)
  rw [wp_bd]
  rfl
@[simp ↓] theorem wp_no {Q : Option PV × Mem → Prop} : wp (evO c env .no h) Q = Q (none, h) := by unfold evO; rfl
@[simp ↓] theorem wp_one {e : E} {Q : Option PV × Mem → Prop} : wp (evO c env (.one e) h) Q = wp (evE c env false e h) fun r => Q (some r.1, r.2) := by
  conv => lhs; unfold evO
  rw [wp_bd]
  rfl
@[simp ↓] theorem wp_cno {Q : Bool × Mem → Prop} : wp (evC c env .no h) Q = Q (true, h) := by unfold evC; rfl
@[simp ↓] theorem wp_cone {e : E} {Q : Bool × Mem → Prop} : wp (evC c env (.one e) h) Q = wp (evE c env true e h) fun r => match r.1 with
    | .bl b => Q (b, r.2)
    | _ => False := by
  conv => lhs; unfold evC
  rw [wp_bd]
  refine congrArg (wp _) (funext fun r => ?_)
  cases r.1 <;> rfl
@[simp ↓] theorem wp_iplain {e : E} {Q : Src × Mem → Prop} : wp (evI c env (.plain e) h) Q = wp (evE c env false e h) fun r => match srcB r.2 r.1 with
    | some s => Q (s, r.2)
    | none => False := by
  conv => lhs; unfold evI
  rw [wp_bd]
  refine congrArg (wp _) (funext fun r => ?_)
  cases srcB r.2 r.1 <;> rfl
@[simp ↓] theorem wp_izip {a b : E} {Q : Src × Mem → Prop} : wp (evI c env (.zip a b) h) Q = wp (evE c env false a h) fun r => wp (evE c env false b r.2) fun q => match srcB q.2 r.1, srcB q.2 q.1 with
    | some s, some t => if s.seqS && t.seqS then Q (.zip s t, q.2) else False
    | _, _ => False := by
  conv => lhs; unfold evI
  rw [wp_bd]
  refine congrArg (wp _) (funext fun r => ?_)
  rw [wp_bd]
  refine congrArg (wp _) (funext fun q => ?_)
  cases srcB q.2 r.1 with
  | none => cases srcB q.2 q.1 <;> rfl
  | some s => cases srcB q.2 q.1 with
    | none => rfl
    | some t =>
      show wp (if s.seqS && t.seqS then _ else _) Q = if s.seqS && t.seqS then _ else _
      split <;> rfl
@[simp ↓] theorem wp_ienum {a : E} {Q : Src × Mem → Prop} : wp (evI c env (.enum a) h) Q = wp (evE c env false a h) fun r => match srcB r.2 r.1 with
    | some s => if s.seqS then Q (.enum s, r.2) else False
    | none => False := by
  conv => lhs; unfold evI
  rw [wp_bd]
  refine congrArg (wp _) (funext fun r => ?_)
  cases srcB r.2 r.1 with
  | none => rfl
  | some s =>
    show wp (if s.seqS then _ else _) Q = if s.seqS then _ else _
    split <;> rfl
end
/-! ### statements -/
section
variable {c : Cfg} {env : Env} {h : Mem} {D : Po}
@[simp ↓] theorem ws_nil : ws (evSs c .nil env h) D = D.nx env h := by unfold evSs; rfl
@[simp ↓] theorem ws_cons {s : S} {ss : Ss} : ws (evSs c (.cons s ss) env h) D = ws (evS c s env h) { D with nx := fun e h1 => ws (evSs c ss e h1) D } := by
  show ws (match evS c s env h with
    | .nxt e h1 => evSs c ss e h1
    | r => r) D = _
  cases evS c s env h <;> rfl
@[simp ↓] theorem ws_asg {t : T} {e : E} : ws (evS c (.asg t e) env h) D = wp (evE c env false e h) fun r => ws (storeT c env r.1 r.2 t) D := by
  conv => lhs; unfold evS
  rw [ws_sr]
@[simp ↓] theorem ws_pat {p : TN} {v : PV} : ws (storeT c env v h (.pat p)) D = match asgN p v h env with
    | some e => D.nx e h
    | none => False := by
  show ws (match asgN p v h env with
    | some e => SR.nxt e h
    | none => .err) D = _
  cases asgN p v h env <;> rfl
@[simp ↓] theorem ws_six {o i : E} {v : PV} : ws (storeT c env v h (.ix o i)) D = wp (evE c env false o h) fun r => wp (evE c env false i r.2) fun q => wp (setB c.n0 q.2 r.1 q.1 v) fun h2 => D.nx env h2 := by
  unfold storeT
  rw [ws_sr]
  refine congrArg (wp _) (funext fun r => ?_)
  rw [ws_sr]
  refine congrArg (wp _) (funext fun q => ?_)
  rw [ws_sr]
  rfl
@[simp ↓] theorem ws_aug {i : Nat} {o : Op} {e : E} : ws (evS c (.aug i o e) env h) D = match env[i]? with
    | some (some x) => wp (evE c env false e h) fun r => wp (augB r.2 o x r.1) fun q => D.nx (env.set i (some q.1)) q.2
    | _ => False := by
  conv => lhs; unfold evS
  cases env[i]? with
  | none => rfl
  | some x => cases x with
    | none => rfl
    | some x =>
      show ws (Res.sr _ _ _) D = _
      rw [ws_sr]
      refine congrArg (wp _) (funext fun r => ?_)
      rw [ws_sr]
      rfl
@[simp ↓] theorem ws_augX {a i e : E} {o : Op} : ws (evS c (.augX a i o e) env h) D = wp (evE c env false a h) fun r => wp (evE c env false i r.2) fun q => wp (getB q.2 r.1 q.1) fun x => wp (evE c env false e x.2) fun y =>
      wp (augB y.2 o x.1 y.1) fun z => wp (setB c.n0 z.2 r.1 q.1 z.1) fun h2 => D.nx env h2 := by
  conv => lhs; unfold evS
  simp only [ws_sr]
  rfl
@[simp ↓] theorem ws_expr {e : E} : ws (evS c (.expr e) env h) D = wp (evE c env false e h) fun r => D.nx env r.2 := by
  conv => lhs; unfold evS
  rw [ws_sr]
  rfl
@[simp ↓] theorem ws_ite {g : E} {a b : Ss} : ws (evS c (.ite g a b) env h) D = wp (evE c env true g h) fun r => match r.1 with
    | .bl true => ws (evSs c a env r.2) D
    | .bl false => ws (evSs c b env r.2) D
    | _ => False := by
  conv => lhs; unfold evS
  rw [ws_sr]
  refine congrArg (wp _) (funext fun r => ?_)
  obtain ⟨v, m⟩ := r
  cases v with
  | bl b => cases b <;> rfl
  | _ => rfl
/-- one turn of a loop -/
def forStep (c : Cfg) (p : TN) (body : Ss) (v : PV) (e : Env) (h1 : Mem) : SR := match asgN p v h1 e with
  | none => .err
  | some e2 => evSs c body e2 h1
@[simp ↓] theorem ws_for {p : TN} {it : It} {body : Ss} : ws (evS c (.for_ p it body) env h) D = wp (evI c env it h) fun r => ws (forLoop (forStep c p body) fuelB r.1 0 env r.2) D := by
  conv => lhs; unfold evS
  rw [ws_sr]
  rfl
@[simp ↓] theorem ws_step {p : TN} {body : Ss} {v : PV} : ws (forStep c p body v env h) D = match asgN p v h env with
    | none => False
    | some e2 => ws (evSs c body e2 h) D := by
  unfold forStep
  cases asgN p v h env <;> rfl
@[simp ↓] theorem ws_while {g : E} {body : Ss} : ws (evS c (.while_ g body) env h) D = ws (whileLoop (fun e h1 => evE c e true g h1) (fun e h1 => evSs c body e h1) fuelB env h) D := by
  conv => lhs; unfold evS
@[simp ↓] theorem ws_ret {e : E} : ws (evS c (.ret e) env h) D = wp (evE c env false e h) fun r => D.rt r.1 r.2 := by
  conv => lhs; unfold evS
  rw [ws_sr]
  rfl
@[simp ↓] theorem ws_brk : ws (evS c .brk env h) D = D.br env h := by unfold evS; rfl
@[simp ↓] theorem ws_cnt : ws (evS c .cnt env h) D = D.ct env h := by unfold evS; rfl
@[simp ↓] theorem ws_pass : ws (evS c .pass env h) D = D.nx env h := by unfold evS; rfl
end
/-! ### loops -/
/-- a loop over n things -/
theorem for_ok {step : PV → Env → Mem → SR} {src : Src} {D : Po} {n : Nat} (I : Nat → Env → Mem → Prop) (x : Nat → PV)
    (hat : ∀ i e m, i ≤ n → I i e m → src.at m i = some (if i < n then some (x i) else none))
    (hst : ∀ i e m, i < n → I i e m → ws (step (x i) e m) { nx := I (i + 1), ct := I (i + 1), br := D.nx, rt := D.rt })
    (hend : ∀ e m, I n e m → D.nx e m) : ∀ {k i : Nat} {env : Env} {h : Mem}, i ≤ n → n < k + i → I i env h → ws (forLoop step k src i env h) D
  | 0, i, env, h, hi, hk, _ => by omega
  | k + 1, i, env, h, hi, hk, hI => by
    unfold forLoop
    rw [hat i env h hi hI]
    by_cases q : i < n
    · rw [if_pos q]
      have w := hst i env h q hI
      dsimp only
      cases e : step (x i) env h with
      | nxt e1 h1 => rw [e] at w; exact for_ok I x hat hst hend (by omega) (by omega) w
      | cnt e1 h1 => rw [e] at w; exact for_ok I x hat hst hend (by omega) (by omega) w
      | brk e1 h1 => rw [e] at w; exact w
      | ret v h1 => rw [e] at w; exact w
      | exc k' e1 h1 => rw [e] at w; exact w.elim
      | err => rw [e] at w; exact w.elim
    · rw [if_neg q]
      have : i = n := by omega
      subst this
      exact hend _ _ hI
/-- a comprehension over n things -/
theorem lc_ok {step : PV → Mem → Res (Option PV × Mem)} {src : Src} {P : List PV × Mem → Prop} {n : Nat} (I : Nat → List PV → Mem → Prop) (x : Nat → PV)
    (hat : ∀ i acc m, i ≤ n → I i acc m → src.at m i = some (if i < n then some (x i) else none))
    (hst : ∀ i acc m, i < n → I i acc m → wp (step (x i) m) fun r => match r.1 with
      | some y => acc.length < sizeB ∧ I (i + 1) (acc ++ [y]) r.2
      | none => I (i + 1) acc r.2)
    (hend : ∀ acc m, I n acc m → P (acc, m)) : ∀ {k i : Nat} {acc : List PV} {h : Mem}, i ≤ n → n < k + i → I i acc h → wp (lcLoop step k src i acc h) P
  | 0, i, acc, h, hi, hk, _ => by omega
  | k + 1, i, acc, h, hi, hk, hI => by
    unfold lcLoop
    rw [hat i acc h hi hI]
    by_cases q : i < n
    · rw [if_pos q]
      dsimp only
      rw [wp_bd]
      refine (hst i acc h q hI).imp fun r w => ?_
      split
      · rename_i y ey
        rw [ey] at w
        dsimp only at w
        rw [if_pos w.1]
        exact lc_ok I x hat hst hend (by omega) (by omega) w.2
      · rename_i ey
        rw [ey] at w
        exact lc_ok I x hat hst hend (by omega) (by omega) w
    · rw [if_neg q]
      have : i = n := by omega
      subst this
      exact hend _ _ hI
/-- a while loop; n: a bound of the turns that are left -/
theorem while_ok {test : Env → Mem → RE} {body : Env → Mem → SR} {D : Po} (I : Nat → Env → Mem → Prop)
    (hst : ∀ n e m, I n e m → wp (test e m) fun r => (r.1 = .bl true ∧ ∃ k, n = k + 1 ∧ ws (body e r.2) { nx := I k, ct := I k, br := D.nx, rt := D.rt }) ∨ (r.1 = .bl false ∧ D.nx e r.2)) :
    ∀ {k n : Nat} {env : Env} {h : Mem}, n < k → I n env h → ws (whileLoop test body k env h) D
  | 0, n, env, h, hk, _ => by omega
  | k + 1, n, env, h, hk, hI => by
    unfold whileLoop
    rw [ws_sr]
    refine (hst n env h hI).imp fun r w => ?_
    rcases w with ⟨e, j, rfl, w⟩ | ⟨e, w⟩
    · rw [e]
      dsimp only
      cases eb : body env r.2 with
      | nxt e1 h1 => rw [eb] at w; exact while_ok I hst (by omega) w
      | cnt e1 h1 => rw [eb] at w; exact while_ok I hst (by omega) w
      | brk e1 h1 => rw [eb] at w; exact w
      | ret v h1 => rw [eb] at w; exact w
      | exc k' e1 h1 => rw [eb] at w; exact w.elim
      | err => rw [eb] at w; exact w.elim
    · rw [e]
      exact w
theorem at_tup {m : Mem} {xs : List PV} {i : Nat} (hi : i ≤ xs.length) : (Src.tup xs).at m i = some (if i < xs.length then some (xs.getD i .non) else none) := by
  show some xs[i]? = _
  split
  · rename_i h
    rw [List.getElem?_eq_getElem h, List.getD_eq_getElem?_getD, List.getElem?_eq_getElem h]
    rfl
  · rename_i h
    rw [List.getElem?_eq_none (by omega)]
theorem at_lst {m : Mem} {n : Nat} {xs : List PV} (e : lstAt m n = some xs) {i : Nat} (hi : i ≤ xs.length) : (Src.lst n).at m i = some (if i < xs.length then some (xs.getD i .non) else none) := by
  show (lstAt m n).map (fun xs => xs[i]?) = _
  rw [e]
  exact at_tup (m := m) hi
theorem at_rng {m : Mem} {lo : Int} {k i : Nat} (_ : i ≤ k) : (Src.rng lo k).at m i = some (if i < k then some (.int (lo + i)) else none) := by
  show (if i < k then some (some (PV.int (lo + i))) else some none) = _
  split <;> rfl
/-- a comprehension that leaves the memory's front as it is and has a value for each thing -/
theorem lc_map {step : PV → Mem → Res (Option PV × Mem)} {src : Src} {P : List PV × Mem → Prop} {h : Mem} (xs : List PV) (f : PV → PV) (hl : xs.length < sizeB)
    (hat : ∀ i l, i ≤ xs.length → src.at (h ++ l) i = some (if i < xs.length then some (xs.getD i .non) else none))
    (hst : ∀ x ∈ xs, ∀ l, wp (step x (h ++ l)) fun r => r.1 = some (f x) ∧ ∃ l', r.2 = h ++ l')
    (hend : ∀ l, P (xs.map f, h ++ l)) : wp (lcLoop step fuelB src 0 [] h) P := by
  refine lc_ok (n := xs.length) (fun i acc m => acc = (xs.take i).map f ∧ ∃ l, m = h ++ l) (fun i => xs.getD i .non) ?_ ?_ ?_ (Nat.zero_le _) (by simp only [sizeB, fuelB] at hl ⊢; omega) ⟨rfl, [], by simp⟩
  · rintro i acc m hi ⟨_, l, rfl⟩
    exact hat i l hi
  · rintro i acc m hi ⟨ea, l, rfl⟩
    have hm : xs.getD i .non ∈ xs := by
      rw [List.getD_eq_getElem?_getD, List.getElem?_eq_getElem hi]
      exact List.getElem_mem hi
    refine (hst _ hm l).imp fun r ⟨e, l', el⟩ => ?_
    rw [e]
    refine ⟨?_, ?_, l', el⟩
    · rw [ea, List.length_map, List.length_take]
      omega
    · rw [ea, List.take_succ, List.map_append, List.getElem?_eq_getElem hi, List.getD_eq_getElem?_getD, List.getElem?_eq_getElem hi]
      rfl
  · rintro acc m ⟨ea, l, rfl⟩
    rw [ea, List.take_length]
    exact hend l
/-- .. with a test -/
theorem lc_filter {step : PV → Mem → Res (Option PV × Mem)} {src : Src} {P : List PV × Mem → Prop} {h : Mem} (xs : List PV) (f : PV → Option PV) (hl : xs.length < sizeB)
    (hat : ∀ i l, i ≤ xs.length → src.at (h ++ l) i = some (if i < xs.length then some (xs.getD i .non) else none))
    (hst : ∀ x ∈ xs, ∀ l, wp (step x (h ++ l)) fun r => r.1 = f x ∧ ∃ l', r.2 = h ++ l')
    (hend : ∀ l, P (xs.filterMap f, h ++ l)) : wp (lcLoop step fuelB src 0 [] h) P := by
  refine lc_ok (n := xs.length) (fun i acc m => acc = (xs.take i).filterMap f ∧ ∃ l, m = h ++ l) (fun i => xs.getD i .non) ?_ ?_ ?_ (Nat.zero_le _) (by simp only [sizeB, fuelB] at hl ⊢; omega) ⟨rfl, [], by simp⟩
  · rintro i acc m hi ⟨_, l, rfl⟩
    exact hat i l hi
  · rintro i acc m hi ⟨ea, l, rfl⟩
    have eg : xs.getD i .non = xs[i] := by rw [List.getD_eq_getElem?_getD, List.getElem?_eq_getElem hi]; rfl
    have hm : xs.getD i .non ∈ xs := by rw [eg]; exact List.getElem_mem hi
    refine (hst _ hm l).imp fun r ⟨e, l', el⟩ => ?_
    have et : (xs.take (i + 1)).filterMap f = (xs.take i).filterMap f ++ (match f xs[i] with | some y => [y] | none => []) := by
      rw [List.take_succ, List.filterMap_append, List.getElem?_eq_getElem hi]
      congr 1
      show List.filterMap f [xs[i]] = _
      rw [List.filterMap_cons]
      cases f xs[i] <;> rfl
    rw [e, eg]
    cases ef : f xs[i] with
    | none =>
      refine ⟨?_, l', el⟩
      rw [et, ef, ea]
      simp
    | some y =>
      refine ⟨?_, ?_, l', el⟩
      · have := List.length_filterMap_le f (xs.take i)
        rw [List.length_take] at this
        rw [ea]
        omega
      · rw [et, ef, ea]
  · rintro acc m ⟨ea, l, rfl⟩
    rw [ea, List.take_length]
    exact hend l
/-! ### calls -/
mutual
theorem up_pure0 (k : Nat) : ∀ x : PV, x.pure = true → x.up k = x
  | .tup xs, h => congrArg PV.tup (ups_pure0 k xs h)
  | .loc _, h => by cases h
  | .non, _ => rfl
  | .bl _, _ => rfl
  | .int _, _ => rfl
  | .str _, _ => rfl
  | .rng _ _, _ => rfl
  | .fn _, _ => rfl
  | .exn _, _ => rfl
theorem ups_pure0 (k : Nat) : ∀ xs : List PV, PV.pures xs = true → PV.ups k xs = xs
  | [], _ => rfl
  | x :: xs, h => by
    have h : (x.pure && PV.pures xs) = true := h
    rw [Bool.and_eq_true] at h
    show x.up k :: PV.ups k xs = x :: xs
    rw [up_pure0 k x h.1, ups_pure0 k xs h.2]
end
theorem pures_of {xs : List PV} (h : ∀ x ∈ xs, x.pure = true) : PV.pures xs = true := by
  induction xs with
  | nil => rfl
  | cons x xs ih =>
    show (x.pure && PV.pures xs) = true
    rw [h x (List.mem_cons_self ..), ih fun y hy => h y (List.mem_cons_of_mem _ hy)]
    rfl
theorem pures_ints (l : List Int) : PV.pures (l.map .int) = true := pures_of fun x hx => by
  obtain ⟨i, _, rfl⟩ := List.mem_map.mp hx
  rfl
section
variable {tab : Nat → Option Fn} {d f : Nat} {fn : Fn} {args : List PV} {h : Mem}
/-- nothing of the caller's memory is met: a value comes -/
theorem call_pure {v : PV} (t : tab f = some fn) (hl : args.length = fn.np) (hp : PV.pures args = true) (hv : v.pure = true)
    (w : ws (evSs ⟨callAt tab d, fun i => (tab i).isSome, 0⟩ fn.body (startB fn args) []) { rt := fun u _ => u = v }) : callAt tab (d + 1) f args h = .ok (v, h) := by
  unfold callAt
  rw [t]
  dsimp only
  rw [if_pos hl, if_pos hp]
  cases e : evSs ⟨callAt tab d, fun i => (tab i).isSome, 0⟩ fn.body (startB fn args) [] with
  | ret u h1 =>
    rw [e] at w
    have w : u = v := w
    subst w
    show liftB u h1 h = _
    unfold liftB
    rw [if_pos hv]
  | _ => rw [e] at w; exact w.elim
/-- .. a new list of values comes -/
theorem call_pureL {xs : List PV} (t : tab f = some fn) (hl : args.length = fn.np) (hp : PV.pures args = true) (hv : PV.pures xs = true)
    (w : ws (evSs ⟨callAt tab d, fun i => (tab i).isSome, 0⟩ fn.body (startB fn args) []) { rt := fun u m => ∃ p, u = .loc p ∧ m[p]? = some (.lst xs) }) : callAt tab (d + 1) f args h = .ok (.loc h.length, h ++ [.lst xs]) := by
  unfold callAt
  rw [t]
  dsimp only
  rw [if_pos hl, if_pos hp]
  cases e : evSs ⟨callAt tab d, fun i => (tab i).isSome, 0⟩ fn.body (startB fn args) [] with
  | ret u h1 =>
    rw [e] at w
    obtain ⟨p, rfl, w⟩ : ∃ p, u = .loc p ∧ h1[p]? = some (.lst xs) := w
    show liftB (.loc p) h1 h = _
    have eg : gcB 0 (.loc p) h1 = .ok (.loc 0, [.lst xs]) := by
      unfold gcB
      rw [if_neg (show ¬ ((PV.loc p).pure = true) from nofun)]
      dsimp only
      rw [if_neg (Nat.not_lt_zero p), w]
      dsimp only
      rw [if_pos hv]
      rfl
    unfold liftB
    rw [if_neg (show ¬ ((PV.loc p).pure = true) from nofun), eg]
    dsimp only
    show Res.ok (PV.loc (0 + h.length), h ++ [PO.lst (PV.ups h.length xs)]) = _
    rw [ups_pure0 _ _ hv, Nat.zero_add]
  | _ => rw [e] at w; exact w.elim
/-- the caller's memory is met: a value comes, the front of the memory is kept or written -/
theorem call_loc {P : PV × Mem → Prop} (t : tab f = some fn) (hl : args.length = fn.np) (hp : PV.pures args = false)
    (w : ws (evSs ⟨callAt tab d, fun i => (tab i).isSome, h.length⟩ fn.body (startB fn args) h) { rt := fun u m => u.pure = true ∧ P (u, m.take h.length) }) : wp (callAt tab (d + 1) f args h) P := by
  unfold callAt
  rw [t]
  dsimp only
  rw [if_pos hl, hp, if_neg (by decide)]
  cases e : evSs ⟨callAt tab d, fun i => (tab i).isSome, h.length⟩ fn.body (startB fn args) h with
  | ret u h1 =>
    rw [e] at w
    obtain ⟨w1, w2⟩ : u.pure = true ∧ P (u, h1.take h.length) := w
    show wp (gcB h.length u h1) P
    unfold gcB
    rw [if_pos w1]
    exact w2
  | _ => rw [e] at w; exact w.elim
/-- .. a new list of values comes -/
theorem call_locL {P : PV × Mem → Prop} (t : tab f = some fn) (hl : args.length = fn.np) (hp : PV.pures args = false)
    (w : ws (evSs ⟨callAt tab d, fun i => (tab i).isSome, h.length⟩ fn.body (startB fn args) h) { rt := fun u m => ∃ p xs, u = .loc p ∧ h.length ≤ p ∧ m[p]? = some (.lst xs) ∧ PV.pures xs = true ∧ P (.loc h.length, m.take h.length ++ [.lst xs]) }) : wp (callAt tab (d + 1) f args h) P := by
  unfold callAt
  rw [t]
  dsimp only
  rw [if_pos hl, hp, if_neg (by decide)]
  cases e : evSs ⟨callAt tab d, fun i => (tab i).isSome, h.length⟩ fn.body (startB fn args) h with
  | ret u h1 =>
    rw [e] at w
    obtain ⟨p, xs, rfl, w1, w2, w3, w4⟩ : ∃ p xs, u = .loc p ∧ h.length ≤ p ∧ h1[p]? = some (.lst xs) ∧ PV.pures xs = true ∧ P (.loc h.length, h1.take h.length ++ [PO.lst xs]) := w
    show wp (gcB h.length (.loc p) h1) P
    unfold gcB
    rw [if_neg (show ¬ ((PV.loc p).pure = true) from nofun)]
    dsimp only
    rw [if_neg (by omega), w2]
    dsimp only
    rw [if_pos w3]
    exact w4
  | _ => rw [e] at w; exact w.elim
end
theorem call_pureP {tab : Nat → Option Fn} {d f : Nat} {fn : Fn} {args : List PV} {P : PV → Prop} (t : tab f = some fn) (hl : args.length = fn.np) (hp : PV.pures args = true)
    (w : ws (evSs ⟨callAt tab d, fun i => (tab i).isSome, 0⟩ fn.body (startB fn args) []) { rt := fun u _ => u.pure = true ∧ P u }) : ∃ u, P u ∧ u.pure = true ∧ ∀ h : Mem, callAt tab (d + 1) f args h = .ok (u, h) := by
  cases e : evSs ⟨callAt tab d, fun i => (tab i).isSome, 0⟩ fn.body (startB fn args) [] with
  | ret u h1 =>
    rw [e] at w
    obtain ⟨w1, w2⟩ : u.pure = true ∧ P u := w
    refine ⟨u, w2, w1, fun h => call_pure t hl hp w1 ?_⟩
    rw [e]
    exact rfl
  | _ => rw [e] at w; exact w.elim
end Dp
set_option linter.all false
set_option Elab.async false
set_option maxRecDepth 100000
/-! Dq2: what the operations give, as rules. -/
namespace Dp
section
variable {h : Mem} {vs : List PV}
@[simp] theorem bltB_len : bltB h .len vs = lenB h vs := rfl
@[simp] theorem bltB_abs : bltB h .abs vs = absB h vs := rfl
@[simp] theorem bltB_all : bltB h .all vs = allB h vs := rfl
@[simp] theorem bltB_any : bltB h .any vs = anyB h vs := rfl
@[simp] theorem bltB_int : bltB h .int vs = intB h vs := rfl
@[simp] theorem bltB_list : bltB h .list vs = listB h vs := rfl
@[simp] theorem bltB_tuple : bltB h .tuple vs = tupleB h vs := rfl
@[simp] theorem bltB_max : bltB h .max vs = maxV h vs := rfl
@[simp] theorem bltB_min : bltB h .min vs = minV h vs := rfl
@[simp] theorem bltB_range : bltB h .range vs = rangeB h vs := rfl
@[simp] theorem bltB_sorted : bltB h .sorted vs = sortedB h vs := rfl
@[simp] theorem bltB_sum : bltB h .sum vs = sumB h vs := rfl
@[simp] theorem bltB_isi {t : Ty} : bltB h (.isi t) vs = isiB h t vs := rfl
@[simp] theorem lenB_tup {xs : List PV} : lenB h [.tup xs] = .ok (.int xs.length, h) := rfl
theorem lenB_loc {n : Nat} : lenB h [.loc n] = match h[n]? with
    | some (.lst xs) => .ok (.int xs.length, h)
    | some (.ro xs) => .ok (.int xs.length, h)
    | some (.dct kvs) => .ok (.int kvs.length, h)
    | some (.dtt kvs _) => .ok (.int kvs.length, h)
    | some (.ins _ _) => .err
    | none => .err := rfl
theorem absB_int {i : Int} : absB h [.int i] = .ok (.int i.natAbs, h) := by
  show Res.ok (PV.int (if i < 0 then -i else i), h) = _
  have : (if i < 0 then -i else i) = (i.natAbs : Int) := by split <;> omega
  rw [this]
@[simp] theorem intB_int {i : Int} : intB h [.int i] = .ok (.int i, h) := rfl
@[simp] theorem intB_bl {b : Bool} : intB h [.bl b] = .ok (.int (if b then 1 else 0), h) := rfl
@[simp] theorem rangeB_1 {j : Int} : rangeB h [.int j] = if small62 j then .ok (.rng 0 j, h) else .err := rfl
@[simp] theorem rangeB_2 {i j : Int} : rangeB h [.int i, .int j] = if small62 i && small62 j then .ok (.rng i j, h) else .err := rfl
@[simp] theorem isiB_int {t : Ty} {i : Int} : isiB h t [.int i] = .ok (.bl (isB t .int), h) := rfl
@[simp] theorem isiB_bl {t : Ty} {b : Bool} : isiB h t [.bl b] = .ok (.bl (isB t .bl), h) := rfl
@[simp] theorem isiB_tup {t : Ty} {xs : List PV} : isiB h t [.tup xs] = .ok (.bl (isB t .tup), h) := rfl
@[simp] theorem isiB_non {t : Ty} : isiB h t [.non] = .ok (.bl (isB t .non), h) := rfl
@[simp] theorem isiB_str {t : Ty} {s : List Nat} : isiB h t [.str s] = .ok (.bl (isB t .str), h) := rfl
theorem isiB_loc {t : Ty} {n : Nat} {xs : List PV} (e : lstAt h n = some xs) : isiB h t [.loc n] = .ok (.bl (isB t .lst), h) := by
  show (match (if (lstAt h n).isSome then some Kd.lst else none) with
    | some k => Res.ok (PV.bl (isB t k), h)
    | none => .err) = _
  rw [e]
  rfl
@[simp] theorem tupleB_1 {x : PV} : tupleB h [x] = match itemsT h x with
    | some xs => .ok (.tup xs, h)
    | none => .err := rfl
@[simp] theorem itemsT_tup {xs : List PV} : itemsT h (.tup xs) = some xs := rfl
@[simp] theorem itemsT_loc {n : Nat} : itemsT h (.loc n) = lstAt h n := rfl
@[simp] theorem itemsT_rng {lo hi : Int} : itemsT h (.rng lo hi) = if small62 lo && small62 hi && decide ((hi - lo).toNat ≤ sizeB) then some (rngL lo hi) else none := rfl
@[simp] theorem listB_1 {x : PV} : listB h [x] = match itemsB h x with
    | some xs => .ok (.loc h.length, h ++ [.lst xs])
    | none => .err := rfl
@[simp] theorem itemsB_tup {xs : List PV} : itemsB h (.tup xs) = some xs := rfl
@[simp] theorem itemsB_rng {lo hi : Int} : itemsB h (.rng lo hi) = if small62 lo && small62 hi && decide ((hi - lo).toNat ≤ sizeB) then some (rngL lo hi) else none := rfl
/-! the operators -/
@[simp] theorem binB_add {a b : Int} : binB h .add (.int a) (.int b) = .ok (.int (a + b), h) := rfl
@[simp] theorem binB_sub {a b : Int} : binB h .sub (.int a) (.int b) = .ok (.int (a - b), h) := rfl
@[simp] theorem binB_mul {a b : Int} : binB h .mul (.int a) (.int b) = if small64 a || small64 b then .ok (.int (a * b), h) else .err := rfl
@[simp] theorem binB_fdiv {a b : Int} : binB h .fdiv (.int a) (.int b) = if b != 0 && small30 b then .ok (.int (a.fdiv b), h) else .err := rfl
@[simp] theorem binB_mod {a b : Int} : binB h .mod (.int a) (.int b) = if b != 0 then .ok (.int (a.fmod b), h) else .err := rfl
@[simp] theorem binB_pow {a b : Int} : binB h .pow (.int a) (.int b) = if decide (0 ≤ b) && decide (b ≤ 1000000) && small64 a then .ok (.int (a ^ b.toNat), h) else .err := rfl
@[simp] theorem binB_addT {xs ys : List PV} : binB h .add (.tup xs) (.tup ys) = if decide (xs.length + ys.length ≤ sizeB) then .ok (.tup (xs ++ ys), h) else .err := rfl
@[simp] theorem binB_mulT {xs : List PV} {k : Int} : binB h .mul (.tup xs) (.int k) = if decide (-1000 ≤ k) && decide (k ≤ 1000) && decide (xs.length ≤ 1000) then .ok (.tup (List.replicate k.toNat xs).flatten, h) else .err := rfl
@[simp] theorem binB_mulL {a : Nat} {k : Int} : binB h .mul (.loc a) (.int k) = match h[a]? with
    | some (.lst xs) => if small62 k && decide (xs.length * k.toNat ≤ sizeB) then .ok (.loc h.length, h ++ [.lst (List.replicate k.toNat xs).flatten]) else .err
    | _ => .err := rfl
@[simp] theorem binB_addL {a b : Nat} : binB h .add (.loc a) (.loc b) = match h[a]?, h[b]? with
    | some (.lst xs), some (.lst ys) => if decide (xs.length + ys.length ≤ sizeB) then .ok (.loc h.length, h ++ [.lst (xs ++ ys)]) else .err
    | _, _ => .err := rfl
@[simp] theorem augB_add {a b : Int} : augB h .add (.int a) (.int b) = .ok (.int (a + b), h) := rfl
@[simp] theorem augB_sub {a b : Int} : augB h .sub (.int a) (.int b) = .ok (.int (a - b), h) := rfl
@[simp] theorem augB_mul {a b : Int} : augB h .mul (.int a) (.int b) = if small64 a || small64 b then .ok (.int (a * b), h) else .err := rfl
/-! comparing -/
@[simp] theorem cmpB_eqI {a b : Int} : cmpB h .eq (.int a) (.int b) = .ok (.bl (decide (a = b)), h) := rfl
@[simp] theorem cmpB_neI {a b : Int} : cmpB h .ne (.int a) (.int b) = .ok (.bl (!decide (a = b)), h) := rfl
@[simp] theorem cmpB_eqB {a b : Bool} : cmpB h .eq (.bl a) (.bl b) = .ok (.bl (a == b), h) := rfl
@[simp] theorem cmpB_neB {a b : Bool} : cmpB h .ne (.bl a) (.bl b) = .ok (.bl (!(a == b)), h) := rfl
@[simp] theorem cmpB_lt {a b : Int} : cmpB h .lt (.int a) (.int b) = .ok (.bl (decide (a < b)), h) := rfl
@[simp] theorem cmpB_le {a b : Int} : cmpB h .le (.int a) (.int b) = .ok (.bl (decide (a ≤ b)), h) := rfl
@[simp] theorem cmpB_gt {a b : Int} : cmpB h .gt (.int a) (.int b) = .ok (.bl (decide (b < a)), h) := rfl
@[simp] theorem cmpB_ge {a b : Int} : cmpB h .ge (.int a) (.int b) = .ok (.bl (decide (b ≤ a)), h) := rfl
@[simp] theorem cmpB_isN {x : PV} : cmpB h .isN x .non = .ok (.bl (match x with | .non => true | _ => false), h) := by cases x <;> rfl
@[simp] theorem cmpB_notN {x : PV} : cmpB h .notN x .non = .ok (.bl (match x with | .non => false | _ => true), h) := by cases x <;> rfl
@[simp] theorem truB_bl {b : Bool} : truB h (.bl b) = some b := rfl
@[simp] theorem truB_int {i : Int} : truB h (.int i) = some (i != 0) := rfl
@[simp] theorem truB_non : truB h .non = some false := rfl
@[simp] theorem truB_tup {xs : List PV} : truB h (.tup xs) = some (!xs.isEmpty) := rfl
/-! targets, sources -/
@[simp] theorem asgN_name {i : Nat} {v : PV} {env : Env} : asgN (.name i) v h env = if i < env.length then some (env.set i (some v)) else none := rfl
@[simp] theorem asgN_tup {ts : TNs} {xs : List PV} {env : Env} : asgN (.tup ts) (.tup xs) h env = asgNs ts xs h env := rfl
@[simp] theorem asgNs_nil {env : Env} : asgNs .nil [] h env = some env := rfl
@[simp] theorem asgNs_cons {t : TN} {ts : TNs} {x : PV} {xs : List PV} {env : Env} : asgNs (.cons t ts) (x :: xs) h env = match asgN t x h env with
    | some e => asgNs ts xs h e
    | none => none := rfl
@[simp] theorem srcB_tup {xs : List PV} : srcB h (.tup xs) = some (.tup xs) := rfl
@[simp] theorem srcB_rng {lo hi : Int} : srcB h (.rng lo hi) = if small62 lo && small62 hi then some (.rng lo (hi - lo).toNat) else none := rfl
@[simp] theorem wipe_nil {env : Env} : wipeB env [] = env := rfl
@[simp] theorem wipe_cons {env : Env} {i : Nat} {r : List Nat} : wipeB env (i :: r) = (wipeB env r).set i none := rfl
/-! memory -/
@[simp] theorem at_new {o : PO} : (h ++ [o])[h.length]? = some o := by simp
@[simp] theorem lstAt_new {xs : List PV} : lstAt (h ++ [.lst xs]) h.length = some xs := by unfold lstAt; rw [at_new]
theorem at_app {n : Nat} {o : PO} {l : Mem} (e : h[n]? = some o) : (h ++ l)[n]? = some o := by
  rw [List.getElem?_append_left (List.getElem?_eq_some_iff.mp e).1]; exact e
theorem lstAt_app {n : Nat} {xs : List PV} {l : Mem} (e : lstAt h n = some xs) : lstAt (h ++ l) n = some xs := by
  unfold lstAt at e ⊢
  cases q : h[n]? with
  | none => rw [q] at e; cases e
  | some o => rw [at_app q, ← e, q]
end
theorem small62_iff {i : Int} : small62 i = true ↔ -4611686018427387904 < i ∧ i < 4611686018427387904 := by
  unfold small62
  rw [decide_eq_true_iff]
  omega
theorem small64_iff {i : Int} : small64 i = true ↔ -18446744073709551616 < i ∧ i < 18446744073709551616 := by
  unfold small64
  rw [decide_eq_true_iff]
  omega
theorem small30_iff {i : Int} : small30 i = true ↔ -1073741824 < i ∧ i < 1073741824 := by
  unfold small30
  rw [decide_eq_true_iff]
  omega
end Dp
set_option linter.all false
set_option Elab.async false
set_option maxRecDepth 100000
/-! Dq3: comprehensions and loops over known things; what takes a new list. -/
namespace Dp
/-- a list of whole numbers, as a tuple -/
abbrev ti (l : List Int) : PV := .tup (l.map .int)
theorem ti_pure (l : List Int) : (ti l).pure = true := pures_ints l
@[simp] theorem pure_int {i : Int} : (PV.int i).pure = true := rfl
@[simp] theorem pure_bl {b : Bool} : (PV.bl b).pure = true := rfl
@[simp] theorem pure_non : PV.non.pure = true := rfl
@[simp] theorem pure_tup {xs : List PV} : (PV.tup xs).pure = PV.pures xs := rfl
@[simp] theorem pure_loc {n : Nat} : (PV.loc n).pure = false := rfl
@[simp] theorem pures_nil : PV.pures [] = true := rfl
@[simp] theorem pures_cons {x : PV} {xs : List PV} : PV.pures (x :: xs) = (x.pure && PV.pures xs) := rfl
@[simp] theorem pures_ints1 {l : List Int} : PV.pures (l.map .int) = true := pures_ints l
theorem pures_app {xs ys : List PV} (h : PV.pures xs = true) (q : PV.pures ys = true) : PV.pures (xs ++ ys) = true := by
  induction xs with
  | nil => exact q
  | cons x xs ih =>
    have h : (x.pure && PV.pures xs) = true := h
    rw [Bool.and_eq_true] at h
    show (x.pure && PV.pures (xs ++ ys)) = true
    rw [h.1, ih h.2]
    rfl
/-! ### sources -/
/-- src gives these, whatever stands behind h -/
def Gives0 (h : Mem) (src : Src) (xs : List PV) : Prop := ∀ (i : Nat) (m : Mem), src.at (h ++ m) i = some xs[i]?
theorem g0_tup {h : Mem} {xs : List PV} : Gives0 h (.tup xs) xs := fun i m => rfl
theorem g0_lst {h : Mem} {n : Nat} {xs : List PV} (e : lstAt h n = some xs) : Gives0 h (.lst n) xs := fun i m => by
  show (lstAt (h ++ m) n).map (fun xs => xs[i]?) = _
  rw [lstAt_app e]
  rfl
theorem g0_rng {h : Mem} {lo : Int} {k : Nat} : Gives0 h (.rng lo k) ((List.range k).map fun (i : Nat) => .int (lo + (i : Int))) := fun i m => by
  show (if i < k then some (some (PV.int (lo + i))) else some none) = _
  rw [List.getElem?_map]
  by_cases q : i < k
  · rw [if_pos q, List.getElem?_range q]
    rfl
  · rw [if_neg q, List.getElem?_eq_none (by rw [List.length_range]; omega)]
    rfl
theorem g0_zip {h : Mem} {a b : Src} {xs ys : List PV} (ha : Gives0 h a xs) (hb : Gives0 h b ys) : Gives0 h (.zip a b) (List.zipWith (fun x y => .tup [x, y]) xs ys) := fun i m => by
  show (match a.at (h ++ m) i, b.at (h ++ m) i with
    | some (some x), some (some y) => some (some (PV.tup [x, y]))
    | some none, some _ => some none
    | some (some _), some none => some none
    | _, _ => none) = _
  rw [ha i m, hb i m, List.getElem?_zipWith]
  cases xs[i]? <;> cases ys[i]? <;> rfl
theorem g0_enum {h : Mem} {a : Src} {xs : List PV} (ha : Gives0 h a xs) : Gives0 h (.enum a) (xs.mapIdx fun i x => .tup [.int (i : Int), x]) := fun i m => by
  show (match a.at (h ++ m) i with
    | some (some x) => some (some (PV.tup [.int i, x]))
    | some none => some none
    | none => none) = _
  rw [ha i m, List.getElem?_mapIdx]
  cases xs[i]? <;> rfl
theorem Gives0.app {h l : Mem} {src : Src} {xs : List PV} (g : Gives0 h src xs) : Gives0 (h ++ l) src xs := fun i m => by
  rw [List.append_assoc]
  exact g i (l ++ m)
/-! ### comprehensions -/
/-- the front of the memory stays, each thing gives a value -/
theorem lcA {α : Type} {step : PV → Mem → Res (Option PV × Mem)} {src : Src} {P : List PV × Mem → Prop} {h : Mem} (l : List α) (x : α → PV) (f : α → PV) (g : Gives0 h src (l.map x)) (hl : l.length < sizeB)
    (hst : ∀ a ∈ l, ∀ m, wp (step (x a) (h ++ m)) fun r => r.1 = some (f a) ∧ ∃ m', r.2 = h ++ m')
    (hend : ∀ m, P (l.map f, h ++ m)) : wp (lcLoop step fuelB src 0 [] h) P := by
  refine lc_ok (n := l.length) (fun i acc m => acc = (l.take i).map f ∧ ∃ m', m = h ++ m') (fun i => (l.map x).getD i .non) ?_ ?_ ?_ (Nat.zero_le _) (by simp only [sizeB, fuelB] at hl ⊢; omega) ⟨rfl, [], by simp⟩
  · rintro i acc m hi ⟨_, m', rfl⟩
    rw [g i m']
    split
    · rename_i q
      rw [List.getD_eq_getElem?_getD, List.getElem?_eq_getElem (by rw [List.length_map]; exact q)]
      rfl
    · rw [List.getElem?_eq_none (by rw [List.length_map]; omega)]
  · rintro i acc m hi ⟨ea, m', rfl⟩
    have e1 : (l.map x).getD i .non = x l[i] := by
      rw [List.getD_eq_getElem?_getD, List.getElem?_map, List.getElem?_eq_getElem hi]
      rfl
    rw [e1]
    refine (hst _ (List.getElem_mem hi) m').imp fun r ⟨e, m2, el⟩ => ?_
    rw [e]
    refine ⟨?_, ?_, m2, el⟩
    · rw [ea, List.length_map, List.length_take]
      omega
    · rw [ea, List.take_succ, List.map_append, List.getElem?_eq_getElem hi]
      rfl
  · rintro acc m ⟨ea, m', rfl⟩
    rw [ea, List.take_length]
    exact hend m'
/-- .. with a test -/
theorem lcF {α : Type} {step : PV → Mem → Res (Option PV × Mem)} {src : Src} {P : List PV × Mem → Prop} {h : Mem} (l : List α) (x : α → PV) (f : α → Option PV) (g : Gives0 h src (l.map x)) (hl : l.length < sizeB)
    (hst : ∀ a ∈ l, ∀ m, wp (step (x a) (h ++ m)) fun r => r.1 = f a ∧ ∃ m', r.2 = h ++ m')
    (hend : ∀ m, P (l.filterMap f, h ++ m)) : wp (lcLoop step fuelB src 0 [] h) P := by
  refine lc_ok (n := l.length) (fun i acc m => acc = (l.take i).filterMap f ∧ ∃ m', m = h ++ m') (fun i => (l.map x).getD i .non) ?_ ?_ ?_ (Nat.zero_le _) (by simp only [sizeB, fuelB] at hl ⊢; omega) ⟨rfl, [], by simp⟩
  · rintro i acc m hi ⟨_, m', rfl⟩
    rw [g i m']
    split
    · rename_i q
      rw [List.getD_eq_getElem?_getD, List.getElem?_eq_getElem (by rw [List.length_map]; exact q)]
      rfl
    · rw [List.getElem?_eq_none (by rw [List.length_map]; omega)]
  · rintro i acc m hi ⟨ea, m', rfl⟩
    have e1 : (l.map x).getD i .non = x l[i] := by
      rw [List.getD_eq_getElem?_getD, List.getElem?_map, List.getElem?_eq_getElem hi]
      rfl
    rw [e1]
    have et : (l.take (i + 1)).filterMap f = (l.take i).filterMap f ++ (match f l[i] with | some y => [y] | none => []) := by
      rw [List.take_succ, List.filterMap_append, List.getElem?_eq_getElem hi]
      congr 1
      show List.filterMap f [l[i]] = _
      rw [List.filterMap_cons]
      cases f l[i] <;> rfl
    refine (hst _ (List.getElem_mem hi) m').imp fun r ⟨e, m2, el⟩ => ?_
    rw [e]
    cases ef : f l[i] with
    | none =>
      refine ⟨?_, m2, el⟩
      rw [et, ef, ea]
      simp
    | some y =>
      refine ⟨?_, ?_, m2, el⟩
      · have := List.length_filterMap_le f (l.take i)
        rw [List.length_take] at this
        rw [ea]
        omega
      · rw [et, ef, ea]
  · rintro acc m ⟨ea, m', rfl⟩
    rw [ea, List.take_length]
    exact hend m'
/-- each thing gives a value, and the memory is of a kind that stays so -/
theorem lcI {step : PV → Mem → Res (Option PV × Mem)} {src : Src} {P : List PV × Mem → Prop} {h : Mem} (xs : List PV) (I : Nat → List PV → Mem → Prop) (hl : xs.length < sizeB)
    (hat : ∀ i acc m, I i acc m → src.at m i = some xs[i]?)
    (hst : ∀ i acc m (hi : i < xs.length), I i acc m → wp (step xs[i] m) fun r => match r.1 with
      | some y => acc.length < sizeB ∧ I (i + 1) (acc ++ [y]) r.2
      | none => I (i + 1) acc r.2)
    (h0 : I 0 [] h) (hend : ∀ acc m, I xs.length acc m → P (acc, m)) : wp (lcLoop step fuelB src 0 [] h) P := by
  refine lc_ok (n := xs.length) I (fun i => xs.getD i .non) ?_ ?_ hend (Nat.zero_le _) (by simp only [sizeB, fuelB] at hl ⊢; omega) h0
  · intro i acc m hi hI
    rw [hat i acc m hI]
    split
    · rename_i q
      rw [List.getD_eq_getElem?_getD, List.getElem?_eq_getElem q]
      rfl
    · rw [List.getElem?_eq_none (by omega)]
  · intro i acc m hi hI
    have e1 : xs.getD i .non = xs[i] := by
      rw [List.getD_eq_getElem?_getD, List.getElem?_eq_getElem hi]
      rfl
    rw [e1]
    exact hst i acc m hi hI
theorem forI {step : PV → Env → Mem → SR} {src : Src} {D : Po} {env : Env} {h : Mem} (xs : List PV) (I : Nat → Env → Mem → Prop) (hl : xs.length < sizeB)
    (hat : ∀ i e m, I i e m → src.at m i = some xs[i]?)
    (hst : ∀ i e m (hi : i < xs.length), I i e m → ws (step xs[i] e m) { nx := I (i + 1), ct := I (i + 1), br := D.nx, rt := D.rt })
    (h0 : I 0 env h) (hend : ∀ e m, I xs.length e m → D.nx e m) : ws (forLoop step fuelB src 0 env h) D := by
  refine for_ok (n := xs.length) I (fun i => xs.getD i .non) ?_ ?_ hend (Nat.zero_le _) (by simp only [sizeB, fuelB] at hl ⊢; omega) h0
  · intro i e m hi hI
    rw [hat i e m hI]
    split
    · rename_i q
      rw [List.getD_eq_getElem?_getD, List.getElem?_eq_getElem q]
      rfl
    · rw [List.getElem?_eq_none (by omega)]
  · intro i e m hi hI
    have e1 : xs.getD i .non = xs[i] := by
      rw [List.getD_eq_getElem?_getD, List.getElem?_eq_getElem hi]
      rfl
    rw [e1]
    exact hst i e m hi hI
/-! ### what takes a new list -/
section
variable {h : Mem} {xs : List PV}
@[simp] theorem tupleB_new : tupleB (h ++ [.lst xs]) [.loc h.length] = .ok (.tup xs, h ++ [.lst xs]) := by
  rw [tupleB_1, itemsT_loc, lstAt_new]
@[simp] theorem allB_new : allB (h ++ [.lst xs]) [.loc h.length] = match allBl xs with
    | some bs => .ok (.bl (bs.all id), h ++ [.lst xs])
    | none => .err := by
  show (match (lstAt (h ++ [PO.lst xs]) h.length).bind allBl with
    | some bs => Res.ok (PV.bl (bs.all id), h ++ [PO.lst xs])
    | none => .err) = _
  rw [lstAt_new]
  rfl
@[simp] theorem anyB_new : anyB (h ++ [.lst xs]) [.loc h.length] = match allBl xs with
    | some bs => .ok (.bl (bs.any id), h ++ [.lst xs])
    | none => .err := by
  show (match (lstAt (h ++ [PO.lst xs]) h.length).bind allBl with
    | some bs => Res.ok (PV.bl (bs.any id), h ++ [PO.lst xs])
    | none => .err) = _
  rw [lstAt_new]
  rfl
@[simp] theorem sumB_new : sumB (h ++ [.lst xs]) [.loc h.length] = match allInt xs with
    | some ns => .ok (.int ns.sum, h ++ [.lst xs])
    | none => .err := by
  show (match (lstAt (h ++ [PO.lst xs]) h.length).bind allInt with
    | some ns => Res.ok (PV.int ns.sum, h ++ [PO.lst xs])
    | none => .err) = _
  rw [lstAt_new]
  rfl
@[simp] theorem sortedB_new : sortedB (h ++ [.lst xs]) [.loc h.length] = match sortO xs with
    | some ys => .ok (.loc (h.length + 1), h ++ [.lst xs] ++ [.lst ys])
    | none => .err := by
  show (match (itemsO (h ++ [PO.lst xs]) (.loc h.length)).bind sortO with
    | some ys => Res.ok (PV.loc (h ++ [PO.lst xs]).length, h ++ [PO.lst xs] ++ [PO.lst ys])
    | none => .err) = _
  have : itemsO (h ++ [PO.lst xs]) (.loc h.length) = some xs := by
    show (match (h ++ [PO.lst xs])[h.length]? with
      | some (.lst xs) => some xs
      | some (.ro xs) => some xs
      | some (.dtt kvs _) => some (kvs.map fun (p : PV × PV) => p.1)
      | _ => none) = _
    rw [at_new]
  rw [this, List.length_append]
  rfl
end
theorem allBl_map {α : Type} (l : List α) (f : α → Bool) : allBl (l.map fun a => .bl (f a)) = some (l.map f) := by
  induction l with
  | nil => rfl
  | cons a l ih =>
    show (allBl (l.map fun a => .bl (f a))).map (f a :: ·) = _
    rw [ih]
    rfl
theorem allI_map {α : Type} (l : List α) (f : α → Int) : allInt (l.map fun a => .int (f a)) = some (l.map f) := by
  induction l with
  | nil => rfl
  | cons a l ih =>
    show (allInt (l.map fun a => .int (f a))).map (f a :: ·) = _
    rw [ih]
    rfl
@[simp] theorem allInt_ints (l : List Int) : allInt (l.map .int) = some l := by
  have := allI_map l id
  rw [List.map_id] at this
  exact this
@[simp] theorem sortO_ints (l : List Int) : sortO (l.map .int) = some ((sortI l).map .int) := by
  unfold sortO
  rw [allInt_ints]
/-! ### memory -/
/-- the front of m is h -/
def Fr (h m : Mem) : Prop := m.take h.length = h
theorem Fr.refl (h : Mem) : Fr h h := List.take_length
theorem Fr.len {h m : Mem} (f : Fr h m) : h.length ≤ m.length := by
  have := congrArg List.length f
  rw [List.length_take] at this
  omega
theorem Fr.app {h m : Mem} (f : Fr h m) (l : Mem) : Fr h (m ++ l) := by
  unfold Fr
  rw [List.take_append_of_le_length f.len]
  exact f
theorem Fr.set {h m : Mem} (f : Fr h m) {r : Nat} (hr : h.length ≤ r) (o : PO) : Fr h (m.set r o) := by
  unfold Fr
  rw [List.take_set_of_le hr]
  exact f
theorem Fr.at {h m : Mem} (f : Fr h m) {n : Nat} {o : PO} (e : h[n]? = some o) : m[n]? = some o := by
  have hn := (List.getElem?_eq_some_iff.mp e).1
  rw [← f, List.getElem?_take_of_lt hn] at e
  exact e
theorem Fr.lst {h m : Mem} (f : Fr h m) {n : Nat} {xs : List PV} (e : lstAt h n = some xs) : lstAt m n = some xs := by
  unfold lstAt at e ⊢
  cases q : h[n]? with
  | none => rw [q] at e; cases e
  | some o => rw [f.at q, ← e, q]
theorem Fr.trans {h m k : Mem} (f : Fr h m) (g : Fr m k) : Fr h k := by
  have a : (k.take m.length).take h.length = h := by
    rw [show k.take m.length = m from g]
    exact f
  rw [List.take_take, Nat.min_eq_left f.len] at a
  exact a
theorem lst_of {h : Mem} {n : Nat} {xs : List PV} (e : h[n]? = some (.lst xs)) : lstAt h n = some xs := by unfold lstAt; rw [e]
section
variable {h : Mem}
theorem okD_int {i : Int} : okD h depthB (.int i) = true := rfl
theorem all_okD (l : List Int) : (l.map PV.int).all (okD h depthB) = true := by
  rw [List.all_map, List.all_eq_true]
  intro x _
  rfl
theorem countP_int (l : List Int) (v : Int) : ((l.map PV.int).countP fun y => eqb h depthB y (.int v)) = l.count v := by
  rw [List.countP_map]
  rfl
@[simp] theorem countT_ints {l : List Int} {v : Int} : countT h (ti l) [.int v] = .ok (.int (l.count v), h) := by
  show (if okD h depthB (.int v) && (l.map PV.int).all (okD h depthB) then Res.ok (PV.int (((l.map PV.int).countP fun y => eqb h depthB y (.int v) : Nat) : Int), h) else .err) = _
  rw [all_okD, countP_int]
  rfl
@[simp] theorem mthB_countT {n0 : Nat} {o : PV} {vs : List PV} : mthB n0 h .count .tuple o vs = countT h o vs := rfl
@[simp] theorem mthB_countL {n0 : Nat} {o : PV} {vs : List PV} : mthB n0 h .count .list o vs = countL h o vs := rfl
@[simp] theorem mthB_append {n0 : Nat} {o : PV} {vs : List PV} : mthB n0 h .append .list o vs = appendB n0 h o vs := rfl
@[simp] theorem mthB_extend {n0 : Nat} {o : PV} {vs : List PV} : mthB n0 h .extend .list o vs = extendB n0 h o vs := rfl
@[simp] theorem mthB_pop {n0 : Nat} {o : PV} {vs : List PV} : mthB n0 h .pop .list o vs = popB h o vs := rfl
@[simp] theorem rcB_tup {xs : List PV} : rcB h (.tup xs) = some .tuple := rfl
theorem rcB_lst {n : Nat} {xs : List PV} (e : h[n]? = some (.lst xs)) : rcB h (.loc n) = some .list := by
  show (match h[n]? with
    | some (.lst _) => some Rc.list
    | some (.ro _) => some Rc.list
    | some (.dct _) => some Rc.dict
    | some (.dtt _ _) => some Rc.dict
    | some (.ins _ _) => none
    | none => none) = _
  rw [e]
@[simp] theorem okM_1 : okM .count .tuple = true := rfl
@[simp] theorem okM_2 : okM .count .list = true := rfl
@[simp] theorem okM_3 : okM .append .list = true := rfl
@[simp] theorem okM_4 : okM .extend .list = true := rfl
@[simp] theorem okM_5 : okM .pop .list = true := rfl
@[simp] theorem getB_tup {xs : List PV} {k : Int} : getB h (.tup xs) (.int k) = match atB xs k with
    | some v => .ok (v, h)
    | none => .err := rfl
theorem getB_lst {n : Nat} {xs : List PV} {k : Int} (e : lstAt h n = some xs) : getB h (.loc n) (.int k) = match atB xs k with
    | some v => .ok (v, h)
    | none => .err := by
  unfold lstAt at e
  show (match h[n]?, PV.int k with
    | some (.lst xs), .int k => match atB xs k with
      | some v => Res.ok (v, h)
      | none => .err
    | some (.ro xs), .int k => match atB xs k with
      | some v => .ok (v, h)
      | none => .err
    | some (.dct kvs), k => if okKey kvs k then (match lookB k kvs with
        | some v => .ok (v, h)
        | none => .err) else .err
    | some (.dtt kvs _), k => if okT k then (match lookB k kvs with
        | some v => .ok (v, h)
        | none => .err) else .err
    | _, _ => .err) = _
  cases q : h[n]? with
  | none => rw [q] at e; cases e
  | some o =>
    rw [q] at e
    cases o <;> first | (cases e; rfl) | cases e
theorem atB_nat {α : Type} {xs : List α} {k : Int} (h0 : 0 ≤ k) (h1 : k < xs.length) : atB xs k = xs[k.toNat]? := by
  unfold atB ixB
  rw [if_pos h0, if_pos h1]
  rfl
theorem ixB_nat {n : Nat} {k : Int} (h0 : 0 ≤ k) (h1 : k < n) : ixB n k = some k.toNat := by
  unfold ixB
  rw [if_pos h0, if_pos h1]
theorem setB_lst {n0 n : Nat} {xs : List PV} {k : Int} {v : PV} (e : h[n]? = some (.lst xs)) (h0 : 0 ≤ k) (h1 : k < xs.length) (hv : mayB n0 n v = true) : setB n0 h (.loc n) (.int k) v = .ok (h.set n (.lst (xs.set k.toNat v))) := by
  show (match h[n]?, PV.int k with
    | some (.lst xs), .int k => match ixB xs.length k with
      | some j => if mayB n0 n v then Res.ok (h.set n (.lst (xs.set j v))) else .err
      | none => .err
    | some (.dct kvs), k => if okKey kvs k then (if mayB n0 n v && decide (kvs.length < sizeB) then .ok (h.set n (.dct (putB k v kvs))) else .err)
      else if kvs.isEmpty && okT k && mayB n0 n v then .ok (h.set n (.dtt [(k, v)] 0)) else .err
    | some (.dtt kvs w), k => if okT k && mayB n0 n v && decide (kvs.length < sizeB) then .ok (h.set n (.dtt (putB k v kvs) (w + 1))) else .err
    | _, _ => .err) = _
  rw [e]
  dsimp only
  rw [ixB_nat h0 h1]
  dsimp only
  rw [if_pos hv]
@[simp] theorem mayB_int {n0 n : Nat} {i : Int} : mayB n0 n (.int i) = true := rfl
theorem lenB_lst {n : Nat} {xs : List PV} (e : lstAt h n = some xs) : lenB h [.loc n] = .ok (.int xs.length, h) := by
  rw [lenB_loc]
  unfold lstAt at e
  cases q : h[n]? with
  | none => rw [q] at e; cases e
  | some o =>
    rw [q] at e
    cases o <;> first | (cases e; rfl) | cases e
@[simp] theorem lenB_new {xs : List PV} : lenB (h ++ [.lst xs]) [.loc h.length] = .ok (.int xs.length, h ++ [.lst xs]) := lenB_lst lstAt_new
theorem srcB_lst {n : Nat} {xs : List PV} (e : lstAt h n = some xs) : srcB h (.loc n) = some (.lst n) := by
  show (match h[n]? with
    | some (.lst _) => some (Src.lst n)
    | some (.ro _) => some (.lst n)
    | _ => none) = _
  unfold lstAt at e
  cases q : h[n]? with
  | none => rw [q] at e; cases e
  | some o =>
    rw [q] at e
    cases o <;> first | rfl | cases e
theorem itemsB_loc {n : Nat} : itemsB h (.loc n) = match h[n]? with
    | some (.lst xs) => some xs
    | some (.ro xs) => some xs
    | some (.dct kvs) => some (kvs.map fun (p : PV × PV) => p.1)
    | some (.dtt kvs _) => some (kvs.map fun (p : PV × PV) => p.1)
    | some (.ins _ _) => none
    | none => none := rfl
@[simp] theorem itemsB_new {xs : List PV} : itemsB (h ++ [.lst xs]) (.loc h.length) = some xs := by
  rw [itemsB_loc, at_new]
theorem itemsB_lst {n : Nat} {xs : List PV} (e : lstAt h n = some xs) : itemsB h (.loc n) = some xs := by
  rw [itemsB_loc]
  unfold lstAt at e
  cases q : h[n]? with
  | none => rw [q] at e; cases e
  | some o =>
    rw [q] at e
    cases o <;> first | (cases e; rfl) | cases e
theorem truB_lst {n : Nat} {xs : List PV} (e : lstAt h n = some xs) : truB h (.loc n) = some (!xs.isEmpty) := by
  show (match h[n]? with
    | some (.lst xs) => some (!xs.isEmpty)
    | some (.ro xs) => some (!xs.isEmpty)
    | _ => none) = _
  unfold lstAt at e
  cases q : h[n]? with
  | none => rw [q] at e; cases e
  | some o =>
    rw [q] at e
    cases o <;> first | (cases e; rfl) | cases e
/-- is a list of whole numbers empty -/
theorem ne_nil {a b : Nat} {l : List Int} (ea : lstAt h a = some (l.map .int)) (eb : lstAt h b = some []) : cmpB h .ne (.loc a) (.loc b) = .ok (.bl (!l.isEmpty), h) := by
  have e1 : okD h depthB (.loc a) = true := by
    show (match lstAt h a with
      | some xs => xs.all (okD h 39)
      | none => false) = true
    rw [ea]
    dsimp only
    rw [List.all_map, List.all_eq_true]
    intro x _
    rfl
  have e2 : okD h depthB (.loc b) = true := by
    show (match lstAt h b with
      | some xs => xs.all (okD h 39)
      | none => false) = true
    rw [eb]
    rfl
  have e3 : eqb h depthB (.loc a) (.loc b) = l.isEmpty := by
    show (match lstAt h a, lstAt h b with
      | some xs, some ys => eqbs (eqb h 39) xs ys
      | _, _ => false) = _
    rw [ea, eb]
    cases l <;> rfl
  show obl h ((if okD h depthB (.loc a) && okD h depthB (.loc b) then some (eqb h depthB (.loc a) (.loc b)) else none).map not) = _
  rw [e1, e2, e3]
  rfl
theorem eq_nil {a b : Nat} {l : List Int} (ea : lstAt h a = some (l.map .int)) (eb : lstAt h b = some []) : cmpB h .eq (.loc a) (.loc b) = .ok (.bl l.isEmpty, h) := by
  have e1 : okD h depthB (.loc a) = true := by
    show (match lstAt h a with
      | some xs => xs.all (okD h 39)
      | none => false) = true
    rw [ea]
    dsimp only
    rw [List.all_map, List.all_eq_true]
    intro x _
    rfl
  have e2 : okD h depthB (.loc b) = true := by
    show (match lstAt h b with
      | some xs => xs.all (okD h 39)
      | none => false) = true
    rw [eb]
    rfl
  have e3 : eqb h depthB (.loc a) (.loc b) = l.isEmpty := by
    show (match lstAt h a, lstAt h b with
      | some xs, some ys => eqbs (eqb h 39) xs ys
      | _, _ => false) = _
    rw [ea, eb]
    cases l <;> rfl
  show obl h (if okD h depthB (.loc a) && okD h depthB (.loc b) then some (eqb h depthB (.loc a) (.loc b)) else none) = _
  rw [e1, e2, e3]
  rfl
end
/-- the product -/
def pr : List Int → Int
  | [] => 1
  | x :: xs => x * pr xs
theorem pr_set {l : List Int} {i : Nat} {x p : Int} (e : l[i]? = some x) : pr (l.set i (x * p)) = pr l * p := by
  induction l generalizing i with
  | nil => simp at e
  | cons y l ih =>
    cases i with
    | zero =>
      simp at e
      subst e
      show y * p * pr l = y * pr l * p
      rw [Int.mul_assoc, Int.mul_assoc, Int.mul_comm p]
    | succ i =>
      show y * pr (l.set i (x * p)) = y * pr l * p
      rw [ih (by simpa using e), Int.mul_assoc]
theorem pr_filter {l : List Int} (h : ∀ x ∈ l, 1 ≤ x) : pr (l.filter fun x => decide (1 < x)) = pr l := by
  induction l with
  | nil => rfl
  | cons y l ih =>
    have hy := h y (List.mem_cons_self ..)
    have ih := ih fun x hx => h x (List.mem_cons_of_mem _ hx)
    rw [List.filter_cons]
    by_cases q : 1 < y
    · rw [if_pos (by simpa using q)]
      show y * pr _ = y * pr l
      rw [ih]
    · rw [if_neg (by simpa using q), ih]
      have : y = 1 := by omega
      subst this
      show _ = 1 * pr l
      rw [Int.one_mul]
section
variable {h : Mem}
theorem slB_rev {xs : List PV} : slB h (.tup xs) none none (some (.int (-1))) = .ok (.tup xs.reverse, h) := rfl
theorem slB_to {xs : List PV} {k : Int} (h0 : 0 ≤ k) (h1 : k < 4611686018427387904) : slB h (.tup xs) none (some (.int k)) none = .ok (.tup (xs.take k.toNat), h) := by
  have hs : small62 k = true := small62_iff.mpr (by omega)
  have e : cutB xs none (some k) = xs.take k.toNat := by
    show (xs.drop 0).take ((if k < 0 then (k + xs.length).toNat else min k.toNat xs.length) - 0) = _
    rw [if_neg (by omega), List.drop_zero, Nat.sub_zero]
    by_cases q : k.toNat ≤ xs.length
    · rw [Nat.min_eq_left q]
    · rw [Nat.min_eq_right (by omega), List.take_length, List.take_of_length_le (by omega)]
  show (match oint none, (if small62 k then some (some k) else none), oint none with
    | some lo, some hi, some st => slI h (.tup xs) lo hi st
    | _, _, _ => .err) = _
  rw [if_pos hs]
  show Res.ok (PV.tup (cutB xs none (some k)), h) = _
  rw [e]
theorem slB_toL {n : Nat} {xs : List PV} {k : Int} (el : lstAt h n = some xs) (h0 : 0 ≤ k) (h1 : k < 4611686018427387904) : slB h (.loc n) none (some (.int k)) none = .ok (.loc h.length, h ++ [.lst (xs.take k.toNat)]) := by
  have hs : small62 k = true := small62_iff.mpr (by omega)
  have e : cutB xs none (some k) = xs.take k.toNat := by
    show (xs.drop 0).take ((if k < 0 then (k + xs.length).toNat else min k.toNat xs.length) - 0) = _
    rw [if_neg (by omega), List.drop_zero, Nat.sub_zero]
    by_cases q : k.toNat ≤ xs.length
    · rw [Nat.min_eq_left q]
    · rw [Nat.min_eq_right (by omega), List.take_length, List.take_of_length_le (by omega)]
  show (match oint none, (if small62 k then some (some k) else none), oint none with
    | some lo, some hi, some st => slI h (.loc n) lo hi st
    | _, _, _ => .err) = _
  rw [if_pos hs]
  show (match (lstAt h n).bind fun xs => some (cutB xs none (some k)) with
    | some ys => Res.ok (PV.loc h.length, h ++ [PO.lst ys])
    | none => .err) = _
  rw [el]
  show Res.ok (PV.loc h.length, h ++ [PO.lst (cutB xs none (some k))]) = _
  rw [e]
/-- a part of a list -/
theorem slB_cutL {n : Nat} {xs : List PV} {j k : Int} (el : lstAt h n = some xs) (h0 : 0 ≤ j) (h2 : 0 ≤ k) (h3 : j < 4611686018427387904) (h1 : k < 4611686018427387904) : slB h (.loc n) (some (.int j)) (some (.int k)) none = .ok (.loc h.length, h ++ [.lst (cutB xs (some j) (some k))]) := by
  have hs : small62 k = true := small62_iff.mpr (by omega)
  have hj : small62 j = true := small62_iff.mpr (by omega)
  show (match (if small62 j then some (some j) else none), (if small62 k then some (some k) else none), oint none with
    | some lo, some hi, some st => slI h (.loc n) lo hi st
    | _, _, _ => .err) = _
  rw [if_pos hs, if_pos hj]
  show (match (lstAt h n).bind fun xs => some (cutB xs (some j) (some k)) with
    | some ys => Res.ok (PV.loc h.length, h ++ [PO.lst ys])
    | none => .err) = _
  rw [el]
  rfl
end
theorem all_tt {α : Type} (l : List α) : (l.all fun _ => true) = true := by simp
theorem map_int_len (l : List Int) : (l.map PV.int).length = l.length := by simp
theorem wp_eq {α : Type} {r : Res α} {a : α} (h : wp r fun x => x = a) : r = .ok a := by
  obtain ⟨b, e, q⟩ := h.to
  rw [e, q]
theorem zipW (a b : List Int) : List.zipWith (fun x y => PV.tup [x, y]) (a.map .int) (b.map .int) = (a.zip b).map fun q => .tup [.int q.1, .int q.2] := by
  induction a generalizing b with
  | nil => rfl
  | cons x a ih => cases b with
    | nil => rfl
    | cons y b =>
      show _ :: _ = _ :: (a.zip b).map _
      rw [ih b]
@[simp] theorem Fr.take {h m : Mem} (f : Fr h m) : m.take h.length = h := f
@[simp] theorem take_app {h l : Mem} : (h ++ l).take h.length = h := by simp
@[simp] theorem lstAt_one {xs : List PV} : lstAt [.lst xs] 0 = some xs := rfl
/-- places with their things -/
def idx {α : Type} (l : List α) : List (Nat × α) := l.mapIdx fun i x => (i, x)
theorem idx_enum {α : Type} (l : List α) (f : α → PV) : (l.map f).mapIdx (fun i x => PV.tup [.int (i : Int), x]) = (idx l).map fun q => .tup [.int (q.1 : Int), f q.2] := by
  refine List.ext_getElem? fun i => ?_
  unfold idx
  rw [List.getElem?_mapIdx, List.getElem?_map, List.getElem?_map, List.getElem?_mapIdx]
  cases l[i]? <;> rfl
theorem idx_lt {α : Type} {l : List α} {q : Nat × α} (h : q ∈ idx l) : q.1 < l.length ∧ l[q.1]? = some q.2 := by
  unfold idx at h
  obtain ⟨i, hi, e⟩ := List.mem_mapIdx.mp h
  subst e
  exact ⟨hi, List.getElem?_eq_getElem hi⟩
theorem idx_len {α : Type} (l : List α) : (idx l).length = l.length := by unfold idx; simp
/-- the number at a place -/
def at0 (p : List Int) (i : Nat) : Int := p.getD i 0
theorem at0_eq {p : List Int} {i : Nat} {x : Int} (e : p[i]? = some x) : at0 p i = x := by
  unfold at0
  rw [List.getD_eq_getElem?_getD, e]
  rfl
theorem at0_some {p : List Int} {i : Nat} (h : i < p.length) : p[i]? = some (at0 p i) := by
  rw [List.getElem?_eq_getElem h]
  exact congrArg some (at0_eq (List.getElem?_eq_getElem h)).symm
theorem idx_zip (s p : List Int) (hl : s.length = p.length) : (idx s).map (fun q => (q.2, at0 p q.1)) = s.zip p := by
  refine List.ext_getElem? fun i => ?_
  unfold idx
  rw [List.getElem?_map, List.getElem?_mapIdx]
  by_cases q : i < s.length
  · rw [List.getElem?_eq_getElem q, List.getElem?_eq_getElem (by rw [List.length_zip]; omega), List.getElem_zip]
    show some (s[i], at0 p i) = _
    rw [at0_eq (List.getElem?_eq_getElem (by omega))]
  · rw [List.getElem?_eq_none (by omega), List.getElem?_eq_none (by rw [List.length_zip]; omega)]
    rfl
theorem g0_enumI {h : Mem} {a : Src} {α : Type} {l : List α} {f : α → PV} (ha : Gives0 h a (l.map f)) : Gives0 h (.enum a) ((idx l).map fun q => .tup [.int (q.1 : Int), f q.2]) := by
  rw [← idx_enum]
  exact g0_enum ha
theorem atB_map {α : Type} {l : List α} {f : α → PV} {i : Nat} {x : α} (e : l[i]? = some x) : atB (l.map f) (i : Int) = some (f x) := by
  have hi := (List.getElem?_eq_some_iff.mp e).1
  rw [atB_nat (by omega) (by rw [List.length_map]; omega), Int.toNat_natCast, List.getElem?_map, e]
  rfl
end Dp
set_option linter.all false
set_option Elab.async false
/-! Dm1: shuffles, their rounds, how many; Euler. Plain Lean. -/
namespace Dp
open Classical in
/-- how many below n -/
noncomputable def cnt : Nat → (Nat → Prop) → Nat
  | 0, _ => 0
  | n + 1, P => cnt n P + if P n then 1 else 0
theorem cnt_congr {P Q : Nat → Prop} : ∀ {n : Nat}, (∀ k, k < n → (P k ↔ Q k)) → cnt n P = cnt n Q
  | 0, _ => rfl
  | n + 1, h => by
    unfold cnt
    rw [cnt_congr fun k hk => h k (by omega)]
    have := h n (by omega)
    by_cases q : P n
    · rw [if_pos q, if_pos (this.mp q)]
    · rw [if_neg q, if_neg fun z => q (this.mpr z)]
theorem cnt_one {P Q : Nat → Prop} {m : Nat} (hm : P m) (hq : ¬ Q m) (h : ∀ k, k ≠ m → (P k ↔ Q k)) : ∀ {n : Nat}, m < n → cnt n P = cnt n Q + 1
  | 0, hn => by omega
  | n + 1, hn => by
    unfold cnt
    by_cases e : m = n
    · subst e
      rw [if_pos hm, if_neg hq, cnt_congr (P := P) (Q := Q) fun k hk => h k (by omega)]
    · rw [cnt_one hm hq h (show m < n by omega)]
      have := h n fun z => e z.symm
      by_cases q : P n
      · rw [if_pos q, if_pos (this.mp q)]
      · rw [if_neg q, if_neg fun z => q (this.mpr z)]
theorem cnt_zero {P : Nat → Prop} : ∀ {n : Nat}, (∀ k, k < n → ¬ P k) → cnt n P = 0
  | 0, _ => rfl
  | n + 1, h => by
    unfold cnt
    rw [cnt_zero fun k hk => h k (by omega), if_neg (h n (by omega))]
theorem cnt_filter {P : Nat → Prop} [DecidablePred P] : ∀ {n : Nat}, ((List.range n).filter fun k => decide (P k)).length = cnt n P
  | 0 => rfl
  | n + 1 => by
    rw [List.range_succ, List.filter_append, List.length_append, cnt_filter]
    show cnt n P + _ = cnt n P + _
    congr 1
    by_cases q : P n
    · rw [if_pos q, List.filter_cons_of_pos (by simpa using q)]; rfl
    · rw [if_neg q, List.filter_cons_of_neg (by simpa using q)]; rfl
theorem least {P : Nat → Prop} {m : Nat} (h : P m) : ∃ k, P k ∧ k ≤ m ∧ ∀ j, j < k → ¬ P j := by
  induction m using Nat.strongRecOn with
  | _ m ih =>
    by_cases q : ∃ j, j < m ∧ P j
    · obtain ⟨j, hj, hp⟩ := q
      obtain ⟨k, a, b, c⟩ := ih j hj hp
      exact ⟨k, a, by omega, c⟩
    · exact ⟨m, h, Nat.le_refl _, fun j hj hp => q ⟨j, hj, hp⟩⟩
/-! ### parts of a lot -/
structure Eqv (E : Nat → Nat → Prop) : Prop where
  rfl : ∀ x, E x x
  sym : ∀ {x y}, E x y → E y x
  tr : ∀ {x y z}, E x y → E y z → E x z
/-- how many parts -/
noncomputable def cc (n : Nat) (E : Nat → Nat → Prop) : Nat := cnt n fun k => ∀ j, j < k → ¬ E j k
/-- the parts of a and b as one -/
def Jn (E : Nat → Nat → Prop) (a b x y : Nat) : Prop := E x y ∨ (E x a ∧ E b y) ∨ (E x b ∧ E a y)
theorem Jn.eqv {E : Nat → Nat → Prop} (h : Eqv E) (a b : Nat) : Eqv (Jn E a b) where
  rfl x := .inl (h.rfl x)
  sym {x y} q := by
    rcases q with q | ⟨q, r⟩ | ⟨q, r⟩
    · exact .inl (h.sym q)
    · exact .inr (.inr ⟨h.sym r, h.sym q⟩)
    · exact .inr (.inl ⟨h.sym r, h.sym q⟩)
  tr {x y z} q r := by
    rcases q with q | ⟨q, q2⟩ | ⟨q, q2⟩ <;> rcases r with r | ⟨r, r2⟩ | ⟨r, r2⟩
    · exact .inl (h.tr q r)
    · exact .inr (.inl ⟨h.tr q r, r2⟩)
    · exact .inr (.inr ⟨h.tr q r, r2⟩)
    · exact .inr (.inl ⟨q, h.tr q2 r⟩)
    · exact .inr (.inl ⟨q, r2⟩)
    · exact .inl (h.tr q r2)
    · exact .inr (.inr ⟨q, h.tr q2 r⟩)
    · exact .inl (h.tr q r2)
    · exact .inr (.inr ⟨q, r2⟩)
theorem cc_congr {n : Nat} {E F : Nat → Nat → Prop} (h : ∀ x y, E x y ↔ F x y) : cc n E = cc n F := cnt_congr fun k _ => forall_congr' fun j => forall_congr' fun _ => not_congr (h j k)
theorem cc_join1 {n : Nat} {E : Nat → Nat → Prop} (h : Eqv E) {a b ma mb : Nat} (hb : mb < n) (na : E a ma) (nb : E b mb) (la : ∀ j, j < ma → ¬ E a j) (lb : ∀ j, j < mb → ¬ E b j) (hab : ¬ E a b) (hlt : ma < mb) : cc n E = cc n (Jn E a b) + 1 := by
  refine cnt_one (m := mb) (fun j hj e => lb j hj (h.tr nb (h.sym e))) (fun q => q ma hlt (.inr (.inl ⟨h.sym na, nb⟩))) (fun k hk => ⟨fun q j hj e => ?_, fun q j hj e => q j hj (.inl e)⟩) hb
  rcases e with e | ⟨e, e2⟩ | ⟨e, e2⟩
  · exact q j hj e
  · have h1 : ¬ k < mb := fun z => lb k z e2
    exact q mb (by omega) (h.tr (h.sym nb) e2)
  · have h1 : ¬ k < ma := fun z => la k z e2
    have h2 : ¬ j < mb := fun z => lb j z (h.sym e)
    have h3 : ¬ ma < k := fun z => q ma z (h.tr (h.sym na) e2)
    omega
theorem cc_join {n : Nat} {E : Nat → Nat → Prop} (h : Eqv E) {a b : Nat} (ha : a < n) (hb : b < n) (hab : ¬ E a b) : cc n E = cc n (Jn E a b) + 1 := by
  obtain ⟨ma, na, ka, la⟩ := least (P := E a) (h.rfl a)
  obtain ⟨mb, nb, kb, lb⟩ := least (P := E b) (h.rfl b)
  have hne : ma ≠ mb := fun e => hab (h.tr na (e ▸ h.sym nb))
  by_cases q : ma < mb
  · exact cc_join1 h (by omega) na nb la lb hab q
  · rw [cc_join1 h (show ma < n by omega) nb na lb la (fun e => hab (h.sym e)) (by omega)]
    exact congrArg (· + 1) (cc_congr fun x y => ⟨fun z => by rcases z with z | z | z; exact .inl z; exact .inr (.inr z); exact .inr (.inl z), fun z => by rcases z with z | z | z; exact .inl z; exact .inr (.inr z); exact .inr (.inl z)⟩)
theorem cc_all {n : Nat} {E : Nat → Nat → Prop} (hn : 0 < n) (h : ∀ x, x < n → E 0 x) : cc n E = 1 := by
  unfold cc
  have : ∀ k : Nat, k < n → ((∀ j, j < k → ¬ E j k) ↔ k = 0) := fun k hk => ⟨fun q => by
    by_cases z : k = 0
    · exact z
    · exact absurd (h k hk) (q 0 (by omega)), fun e j hj => by omega⟩
  rw [cnt_congr this, cnt_one (P := fun k => k = 0) (Q := fun _ => False) (m := 0) _root_.rfl (fun z => z) (fun k hk => ⟨fun z => hk z, fun z => z.elim⟩) hn, cnt_zero fun _ _ z => z]
/-! ### going on and on -/
def it (f : Nat → Nat) : Nat → Nat → Nat
  | 0, x => x
  | i + 1, x => f (it f i x)
theorem it_add (f : Nat → Nat) (i j x : Nat) : it f (i + j) x = it f i (it f j x) := by
  induction i with
  | zero => rw [Nat.zero_add]; rfl
  | succ i ih => rw [Nat.succ_add]; exact congrArg f ih
theorem it_mul {f : Nat → Nat} {m x : Nat} (h : it f m x = x) (i : Nat) : it f (i * m) x = x := by
  induction i with
  | zero => rw [Nat.zero_mul]; rfl
  | succ i ih => rw [Nat.succ_mul, it_add, h, ih]
/-- a shuffle of what is below n; all else stays -/
structure Bij (n : Nat) (f : Nat → Nat) : Prop where
  lt : ∀ {x}, x < n → f x < n
  inj : ∀ {x y}, f x = f y → x = y
  out : ∀ {x}, n ≤ x → f x = x
theorem it_inj {n : Nat} {f : Nat → Nat} (B : Bij n f) {i x y : Nat} (h : it f i x = it f i y) : x = y := by
  induction i with
  | zero => exact h
  | succ i ih => exact ih (B.inj h)
theorem it_lt {n : Nat} {f : Nat → Nat} (B : Bij n f) {i x : Nat} (h : x < n) : it f i x < n := by
  induction i with
  | zero => exact h
  | succ i ih => exact B.lt ih
theorem nodup_len : ∀ {n : Nat} {l : List Nat}, l.Nodup → (∀ x ∈ l, x < n) → l.length ≤ n
  | 0, l, _, h => by
    cases l with
    | nil => exact Nat.le_refl _
    | cons x l => exact absurd (h x (List.mem_cons_self ..)) (Nat.not_lt_zero _)
  | n + 1, l, hd, h => by
    by_cases q : n ∈ l
    · have := nodup_len (n := n) (l := l.erase n) (hd.erase n) fun x hx => by
        have h1 := (List.Nodup.mem_erase_iff hd).mp hx
        have h2 := h x h1.2
        have h3 := h1.1
        omega
      rw [List.length_erase_of_mem q] at this
      omega
    · have := nodup_len (n := n) (l := l) hd fun x hx => by
        have h2 := h x hx
        have h3 : x ≠ n := fun e => q (e ▸ hx)
        omega
      omega
/-- all come home -/
theorem per_ex {n : Nat} {f : Nat → Nat} (B : Bij n f) (x : Nat) : ∃ m, 0 < m ∧ m ≤ n + 1 ∧ it f m x = x ∧ ∀ i, 0 < i → i < m → it f i x ≠ x := by
  have e1 : ∃ m, 0 < m ∧ m ≤ n + 1 ∧ it f m x = x := by
    by_cases hx : x < n
    · have h1 : ¬ ((List.range (n + 1)).map fun i => it f i x).Nodup := fun hd => by
        have := nodup_len hd (n := n) fun y hy => by
          obtain ⟨i, _, rfl⟩ := List.mem_map.mp hy
          exact it_lt B hx
        rw [List.length_map, List.length_range] at this
        omega
      have h2 : ∃ i j, i < j ∧ j < n + 1 ∧ it f i x = it f j x := by
        refine Classical.byContradiction fun hno => h1 ?_
        rw [List.nodup_iff_pairwise_ne, List.pairwise_map]
        refine List.Pairwise.imp_of_mem (fun {a b} ha hb hab e => hno ⟨a, b, hab, List.mem_range.mp hb, e⟩) List.pairwise_lt_range
      obtain ⟨i, j, hij, hj, e⟩ := h2
      refine ⟨j - i, by omega, by omega, ?_⟩
      have : it f i (it f (j - i) x) = it f i x := by rw [← it_add, show i + (j - i) = j by omega, e]
      exact it_inj B this
    · exact ⟨1, Nat.one_pos, Nat.le_add_left 1 n, B.out (Nat.le_of_not_lt hx)⟩
  obtain ⟨m, h1, h2, h3⟩ := e1
  obtain ⟨k, ⟨a1, a2⟩, a3, a4⟩ := least (P := fun m => 0 < m ∧ it f m x = x) ⟨h1, h3⟩
  exact ⟨k, a1, by omega, a2, fun i hi hk e => a4 i hk ⟨hi, e⟩⟩
/-- one round -/
def Rd (f : Nat → Nat) (x y : Nat) : Prop := ∃ i, it f i x = y
theorem Rd.eqv {n : Nat} {f : Nat → Nat} (B : Bij n f) : Eqv (Rd f) where
  rfl x := ⟨0, _root_.rfl⟩
  sym {x y} h := by
    obtain ⟨i, e⟩ := h
    obtain ⟨m, h1, _, h3, _⟩ := per_ex B x
    refine ⟨i * m - i, ?_⟩
    have h4 : i ≤ i * m := Nat.le_mul_of_pos_right i h1
    rw [← e, ← it_add, show i * m - i + i = i * m by omega, it_mul h3]
  tr {x y z} h q := by
    obtain ⟨i, e⟩ := h
    obtain ⟨j, e2⟩ := q
    exact ⟨j + i, by rw [it_add, e, e2]⟩
theorem Rd.step {f : Nat → Nat} (x : Nat) : Rd f x (f x) := ⟨1, rfl⟩
theorem Rd.le {f : Nat → Nat} {E : Nat → Nat → Prop} (h : Eqv E) (hs : ∀ x, E x (f x)) {x y : Nat} (r : Rd f x y) : E x y := by
  obtain ⟨i, rfl⟩ := r
  induction i with
  | zero => exact h.rfl x
  | succ i ih => exact h.tr ih (hs _)
/-! ### two change places -/
def sw (a b y : Nat) : Nat := if y = a then b else if y = b then a else y
theorem sw_sw (a b y : Nat) : sw a b (sw a b y) = y := by
  unfold sw
  by_cases h1 : y = a
  · by_cases h2 : b = a <;> simp [h1, h2]
  · by_cases h2 : y = b
    · simp [h1, h2]
    · simp [h1, h2]
theorem sw_bij {n : Nat} {f : Nat → Nat} (B : Bij n f) {a b : Nat} (ha : a < n) (hb : b < n) : Bij n fun x => sw a b (f x) where
  lt {x} hx := by
    have := B.lt hx
    unfold sw
    split
    · exact hb
    · split
      · exact ha
      · exact this
  inj {x y} e := B.inj (by rw [← sw_sw a b (f x), ← sw_sw a b (f y)]; exact congrArg (sw a b) e)
  out {x} hx := by
    show sw a b (f x) = x
    rw [B.out hx]
    unfold sw
    rw [if_neg (by omega), if_neg (by omega)]
/-- before it comes to a or b nothing is changed -/
theorem sw_it {f : Nat → Nat} {a b x : Nat} {m : Nat} (h : ∀ i, 0 < i → i < m → it f i x ≠ a ∧ it f i x ≠ b) : ∀ i, i < m → it (fun x => sw a b (f x)) i x = it f i x
  | 0, _ => rfl
  | i + 1, hi => by
    show sw a b (f (it (fun x => sw a b (f x)) i x)) = f (it f i x)
    rw [sw_it h i (by omega)]
    have := h (i + 1) (by omega) hi
    show sw a b (it f (i + 1) x) = it f (i + 1) x
    unfold sw
    rw [if_neg this.1, if_neg this.2]
/-- b comes to a behind the change, if it did not come there ahead -/
theorem sw_meet {n : Nat} {f : Nat → Nat} (B : Bij n f) {a b : Nat} (hab : ¬ Rd f b a) : Rd (fun x => sw a b (f x)) b a := by
  obtain ⟨m, h1, _, h3, h4⟩ := per_ex B b
  refine ⟨m, ?_⟩
  obtain ⟨k, rfl⟩ : ∃ k, m = k + 1 := ⟨m - 1, by omega⟩
  show sw a b (f (it (fun x => sw a b (f x)) k b)) = a
  rw [sw_it (m := k + 1) (fun i hi hm => ⟨fun e => hab ⟨i, e⟩, h4 i hi hm⟩) k (by omega)]
  have : f (it f k b) = b := h3
  rw [this]
  unfold sw
  split
  · rename_i e; exact e
  · rw [if_pos rfl]
theorem sw_comm (a b y : Nat) : sw a b y = sw b a y := by
  unfold sw
  by_cases h1 : y = a <;> by_cases h2 : y = b <;> simp [h1, h2]
  all_goals exact fun h => h.symm
theorem sw_join {n : Nat} {f : Nat → Nat} (B : Bij n f) {a b : Nat} (ha : a < n) (hb : b < n) (hab : ¬ Rd f a b) (x y : Nat) : Rd (fun x => sw a b (f x)) x y ↔ Jn (Rd f) a b x y := by
  have E := Rd.eqv B
  have G := Rd.eqv (sw_bij B ha hb)
  have J := Jn.eqv E a b
  have m1 : Rd (fun x => sw a b (f x)) b a := sw_meet B fun q => hab (E.sym q)
  have m2 : Rd (fun x => sw a b (f x)) a b := G.sym m1
  have le : ∀ {x y}, Rd f x y → Rd (fun x => sw a b (f x)) x y := fun r => Rd.le G (fun x => by
    have s : Rd (fun x => sw a b (f x)) x (sw a b (f x)) := Rd.step x
    by_cases q1 : f x = a
    · rw [q1] at s ⊢
      have : sw a b a = b := by unfold sw; rw [if_pos _root_.rfl]
      rw [this] at s
      exact G.tr s m1
    · by_cases q2 : f x = b
      · rw [q2] at s ⊢
        have : sw a b b = a := by rw [sw_comm]; unfold sw; rw [if_pos _root_.rfl]
        rw [this] at s
        exact G.tr s m2
      · have : sw a b (f x) = f x := by unfold sw; rw [if_neg q1, if_neg q2]
        rw [this] at s
        exact s) r
  refine ⟨fun r => Rd.le J (fun x => ?_) r, fun r => ?_⟩
  · have s : Rd f x (f x) := Rd.step x
    show Jn (Rd f) a b x (sw a b (f x))
    unfold sw
    split
    · rename_i e
      exact .inr (.inl ⟨e ▸ s, E.rfl b⟩)
    · split
      · rename_i e
        exact .inr (.inr ⟨e ▸ s, E.rfl a⟩)
      · exact .inl s
  · rcases r with r | ⟨r, r2⟩ | ⟨r, r2⟩
    · exact le r
    · exact G.tr (le r) (G.tr m2 (le r2))
    · exact G.tr (le r) (G.tr m1 (le r2))
theorem sw_part {n : Nat} {f : Nat → Nat} (B : Bij n f) {a b : Nat} (hab : Rd f a b) (hne : a ≠ b) : ¬ Rd (fun x => sw a b (f x)) a b := by
  obtain ⟨m0, e0⟩ := hab
  obtain ⟨m, h3, _, h4⟩ := least (P := fun m => it f m a = b) e0
  have h1 : 0 < m := by
    cases m with
    | zero => exact absurd h3 hne
    | succ m => omega
  have h5 : ∀ i, 0 < i → i < m → it f i a ≠ a ∧ it f i a ≠ b := fun i hi hm => ⟨fun e => h4 (m - i) (by omega) (by
    have : it f (m - i) (it f i a) = b := by rw [← it_add, show m - i + i = m by omega, h3]
    rw [e] at this
    exact this), h4 i hm⟩
  have h6 := sw_it h5
  have h7 : it (fun x => sw a b (f x)) m a = a := by
    obtain ⟨k, rfl⟩ : ∃ k, m = k + 1 := ⟨m - 1, by omega⟩
    show sw a b (f (it (fun x => sw a b (f x)) k a)) = a
    rw [h6 k (by omega)]
    have : f (it f k a) = b := h3
    rw [this, sw_comm]
    unfold sw
    rw [if_pos rfl]
  rintro ⟨i, e⟩
  have h8 : it (fun x => sw a b (f x)) (i % m) a = b := by
    have h9 : it (fun x => sw a b (f x)) i a = it (fun x => sw a b (f x)) (i % m) a := by
      conv => lhs; rw [← Nat.mod_add_div i m, it_add, Nat.mul_comm, it_mul h7]
    rw [← h9, e]
  have h9 := Nat.mod_lt i h1
  rw [h6 _ h9] at h8
  exact h4 _ h9 h8
theorem cc_sw {n : Nat} {f : Nat → Nat} (B : Bij n f) {a b : Nat} (ha : a < n) (hb : b < n) (hne : a ≠ b) :
    (¬ Rd f a b → cc n (Rd f) = cc n (Rd fun x => sw a b (f x)) + 1) ∧ (Rd f a b → cc n (Rd fun x => sw a b (f x)) = cc n (Rd f) + 1) := by
  refine ⟨fun h => by rw [cc_join (Rd.eqv B) ha hb h, cc_congr (sw_join B ha hb h)], fun h => ?_⟩
  have h2 := sw_part B h hne
  have B2 := sw_bij B ha hb
  rw [cc_join (Rd.eqv B2) ha hb h2, ← cc_congr (sw_join B2 ha hb h2)]
  refine congrArg (· + 1) (cc_congr fun x y => ?_)
  have : (fun x => sw a b (sw a b (f x))) = f := funext fun x => sw_sw a b (f x)
  rw [this]
end Dp
set_option linter.all false
set_option Elab.async false
/-! Dm2: Euler. Plain Lean. -/
namespace Dp
/-- u turns over two and two -/
structure Inv (n : Nat) (u : Nat → Nat) : Prop where
  bij : Bij n u
  ne : ∀ {x}, x < n → u x ≠ x
  two : ∀ x, u (u x) = x
/-- u, of what lies below j with its other -/
def upto (u : Nat → Nat) (j y : Nat) : Nat := if y < j ∨ u y < j then u y else y
theorem upto_zero (u : Nat → Nat) (y : Nat) : upto u 0 y = y := by
  unfold upto
  rw [if_neg (by omega)]
theorem upto_end {n : Nat} {u : Nat → Nat} (U : Inv n u) (y : Nat) : upto u n y = u y := by
  unfold upto
  split
  · rfl
  · rw [U.bij.out (by omega)]
theorem upto_sw {n : Nat} {u : Nat → Nat} (U : Inv n u) {j : Nat} (hj : j < n) (h : j < u j) (y : Nat) : upto u (j + 1) y = sw j (u j) (upto u j y) := by
  unfold upto
  by_cases e1 : y = j
  · subst e1
    rw [if_pos (by omega), if_neg (by omega)]
    unfold sw
    rw [if_pos rfl]
  · by_cases e2 : y = u j
    · subst e2
      have := U.two j
      rw [if_pos (by omega), if_neg (by omega), this, sw_comm]
      unfold sw
      rw [if_pos rfl]
    · have e3 : u y ≠ j := fun e => e2 (by rw [← e, U.two])
      have e4 : u y ≠ u j := fun e => e1 (U.bij.inj e)
      by_cases q : y < j ∨ u y < j
      · rw [if_pos q, if_pos (by omega)]
        unfold sw
        rw [if_neg e3, if_neg e4]
      · rw [if_neg q, if_neg (by omega)]
        unfold sw
        rw [if_neg e1, if_neg e2]
theorem upto_no {n : Nat} {u : Nat → Nat} (U : Inv n u) {j : Nat} (hj : j < n) (h : ¬ j < u j) (y : Nat) : upto u (j + 1) y = upto u j y := by
  have h1 := U.ne hj
  unfold upto
  by_cases e1 : y = j
  · subst e1
    rw [if_pos (by omega), if_pos (by omega)]
  · by_cases e2 : u y = j
    · have : y = u j := by rw [← e2, U.two]
      rw [if_pos (by omega), if_pos (by omega)]
    · by_cases q : y < j ∨ u y < j
      · rw [if_pos q, if_pos (by omega)]
      · rw [if_neg q, if_neg (by omega)]
/-- how many twos begin below j -/
noncomputable def twos (u : Nat → Nat) (j : Nat) : Nat := cnt j fun x => x < u x
theorem twos_succ (u : Nat → Nat) (j : Nat) : (j < u j → twos u (j + 1) = twos u j + 1) ∧ (¬ j < u j → twos u (j + 1) = twos u j) := by
  refine ⟨fun h => ?_, fun h => ?_⟩
  · show cnt j _ + _ = _; rw [if_pos h]; rfl
  · show cnt j _ + _ = _; rw [if_neg h]; rfl
theorem it_id (i x : Nat) : it (fun y => y) i x = x := by
  induction i with
  | zero => rfl
  | succ i ih => exact ih
theorem cc_id (n : Nat) : cc n (Rd fun y => y) = n := by
  have : ∀ m, cnt m (fun k => ∀ j, j < k → ¬ Rd (fun y => y) j k) = m := fun m => by
    induction m with
    | zero => rfl
    | succ m ih =>
      show cnt m _ + _ = _
      rw [ih, if_pos]
      rintro j hj ⟨i, e⟩
      rw [it_id] at e
      omega
  exact this n
theorem bij_upto {n : Nat} {u f : Nat → Nat} (U : Inv n u) (B : Bij n f) : ∀ j, j ≤ n → Bij n fun x => upto u j (f x)
  | 0, _ => by
    have : (fun x => upto u 0 (f x)) = f := funext fun x => upto_zero u _
    rw [this]
    exact B
  | j + 1, hj => by
    have ih := bij_upto U B j (by omega)
    by_cases h : j < u j
    · have : (fun x => upto u (j + 1) (f x)) = fun x => sw j (u j) (upto u j (f x)) := funext fun x => upto_sw U hj h _
      rw [this]
      exact sw_bij ih hj (U.bij.lt hj)
    · have : (fun x => upto u (j + 1) (f x)) = fun x => upto u j (f x) := funext fun x => upto_no U hj h _
      rw [this]
      exact ih
theorem bij_id (n : Nat) : Bij n fun x => x := ⟨fun h => h, fun h => h, fun _ => rfl⟩
theorem cc_twos {n : Nat} {u : Nat → Nat} (U : Inv n u) : ∀ j, j ≤ n → cc n (Rd (upto u j)) + twos u j = n
  | 0, _ => by
    have : upto u 0 = fun x => x := funext (upto_zero u)
    rw [this, cc_id]
    rfl
  | j + 1, hj => by
    have ih := cc_twos U j (by omega)
    by_cases h : j < u j
    · have e : upto u (j + 1) = fun x => sw j (u j) (upto u j x) := funext fun x => upto_sw U hj h _
      have hn : ¬ Rd (upto u j) j (u j) := by
        rintro ⟨i, e⟩
        have : ∀ i, it (upto u j) i j = j := fun i => by
          induction i with
          | zero => rfl
          | succ i ih =>
            show upto u j (it (upto u j) i j) = j
            rw [ih]
            unfold upto
            rw [if_neg (by omega)]
        rw [this] at e
        omega
      have : cc n (Rd (upto u j)) = _ := (cc_sw (bij_upto U (bij_id n) j (by omega)) hj (U.bij.lt hj) (by omega)).1 hn
      rw [e, (twos_succ u j).1 h]
      omega
    · have e : upto u (j + 1) = upto u j := funext fun x => upto_no U hj h _
      rw [e, (twos_succ u j).2 h]
      exact ih
theorem rd_inv {n : Nat} {u : Nat → Nat} (U : Inv n u) (x y : Nat) : Rd u x y ↔ y = x ∨ y = u x := by
  refine ⟨fun ⟨i, e⟩ => ?_, fun h => ?_⟩
  · subst e
    have : ∀ i, it u i x = x ∨ it u i x = u x := fun i => by
      induction i with
      | zero => exact .inl rfl
      | succ i ih =>
        rcases ih with h | h
        · exact .inr (congrArg u h)
        · refine .inl ?_
          show u (it u i x) = x
          rw [h, U.two]
    exact this i
  · rcases h with h | h
    · exact ⟨0, h.symm⟩
    · exact ⟨1, h.symm⟩
theorem cc_inv {n : Nat} {u : Nat → Nat} (U : Inv n u) : cc n (Rd u) = twos u n := cnt_congr fun k hk => by
  have h1 := U.ne hk
  refine ⟨fun h => ?_, fun h j hj r => ?_⟩
  · have : ¬ u k < k := fun z => h _ z ((rd_inv U _ _).mpr (.inr (U.two k).symm))
    omega
  · rcases (rd_inv U _ _).mp r with e | e
    · omega
    · rw [e, U.two] at h
      omega
theorem inv_half {n : Nat} {u : Nat → Nat} (U : Inv n u) : n = 2 * cc n (Rd u) := by
  have h1 := cc_twos U n (Nat.le_refl _)
  have h2 : upto u n = u := funext (upto_end U)
  have h3 := cc_inv U
  rw [h2] at h1
  omega
/-- what f and the twos below j join -/
def grp (f u : Nat → Nat) : Nat → Nat → Nat → Prop
  | 0 => Rd f
  | j + 1 => fun x y => (j < u j ∧ Jn (grp f u j) j (u j) x y) ∨ (¬ j < u j ∧ grp f u j x y)
theorem grp_yes {f u : Nat → Nat} {j : Nat} (h : j < u j) (x y : Nat) : grp f u (j + 1) x y ↔ Jn (grp f u j) j (u j) x y := ⟨fun q => by rcases q with q | q; exact q.2; exact absurd h q.1, fun q => .inl ⟨h, q⟩⟩
theorem grp_no {f u : Nat → Nat} {j : Nat} (h : ¬ j < u j) (x y : Nat) : grp f u (j + 1) x y ↔ grp f u j x y := ⟨fun q => by rcases q with q | q; exact absurd q.1 h; exact q.2, fun q => .inr ⟨h, q⟩⟩
theorem Eqv.congr {E F : Nat → Nat → Prop} (h : Eqv E) (q : ∀ x y, F x y ↔ E x y) : Eqv F := ⟨fun x => (q x x).mpr (h.rfl x), fun z => (q _ _).mpr (h.sym ((q _ _).mp z)), fun z w => (q _ _).mpr (h.tr ((q _ _).mp z) ((q _ _).mp w))⟩
theorem jn_same {E : Nat → Nat → Prop} (h : Eqv E) {a b : Nat} (hab : E a b) (x y : Nat) : Jn E a b x y ↔ E x y := ⟨fun q => by
  rcases q with q | ⟨q, r⟩ | ⟨q, r⟩
  · exact q
  · exact h.tr q (h.tr hab r)
  · exact h.tr q (h.tr (h.sym hab) r), .inl⟩
theorem grp_step {n : Nat} {f u : Nat → Nat} (U : Inv n u) (B : Bij n f) : ∀ j, j ≤ n →
    Eqv (grp f u j) ∧ (∀ x, grp f u j x (upto u j (f x))) ∧ (∀ x, grp f u j x (f x)) ∧ (∀ y, y < j ∨ u y < j → y < n → grp f u j y (u y)) ∧
    cc n (Rd fun x => upto u j (f x)) + cc n (Rd f) ≤ twos u j + 2 * cc n (grp f u j) ∧ (cc n (Rd fun x => upto u j (f x)) + cc n (Rd f) + twos u j) % 2 = 0
  | 0, _ => by
    have : (fun x => upto u 0 (f x)) = f := funext fun x => upto_zero u _
    rw [this]
    refine ⟨Rd.eqv B, fun x => ?_, fun x => Rd.step x, fun y h => by omega, ?_, ?_⟩
    · rw [upto_zero]
      exact Rd.step x
    · show cc n (Rd f) + cc n (Rd f) ≤ 0 + 2 * cc n (Rd f)
      omega
    · show (cc n (Rd f) + cc n (Rd f) + 0) % 2 = 0
      omega
  | j + 1, hj => by
    obtain ⟨h1, h2, h3, h4, h5, h6⟩ := grp_step U B j (by omega)
    by_cases h : j < u j
    · have e : (fun x => upto u (j + 1) (f x)) = fun x => sw j (u j) (upto u j (f x)) := funext fun x => upto_sw U hj h _
      have ej := grp_yes (f := f) h
      have hu := U.bij.lt hj
      have E1 : Eqv (grp f u (j + 1)) := (Jn.eqv h1 j (u j)).congr ej
      have up : ∀ {x y}, grp f u j x y → grp f u (j + 1) x y := fun q => (ej _ _).mpr (.inl q)
      have own : grp f u (j + 1) j (u j) := (ej _ _).mpr (.inr (.inl ⟨h1.rfl _, h1.rfl _⟩))
      have cs := cc_sw (bij_upto U B j (by omega)) hj hu (show j ≠ u j by omega)
      have e2 := (twos_succ u j).1 h
      refine ⟨E1, fun x => ?_, fun x => up (h3 x), fun y hy hn => ?_, ?_, ?_⟩
      · have := up (h2 x)
        rw [upto_sw U hj h]
        by_cases q1 : upto u j (f x) = j
        · rw [q1] at this ⊢
          have : sw j (u j) j = u j := by unfold sw; rw [if_pos _root_.rfl]
          rw [this]
          exact E1.tr (by assumption) own
        · by_cases q2 : upto u j (f x) = u j
          · rw [q2] at this ⊢
            have : sw j (u j) (u j) = j := by rw [sw_comm]; unfold sw; rw [if_pos _root_.rfl]
            rw [this]
            exact E1.tr (by assumption) (E1.sym own)
          · have e3 : sw j (u j) (upto u j (f x)) = upto u j (f x) := by unfold sw; rw [if_neg q1, if_neg q2]
            rw [e3]
            exact this
      · by_cases q : y < j ∨ u y < j
        · exact up (h4 y q hn)
        · have : y = j ∨ u y = j := by omega
          rcases this with q | q
          · rw [q]; exact own
          · have : y = u j := by rw [← q, U.two]
            rw [this, U.two]
            exact E1.sym own
      · rw [e]
        by_cases q : grp f u j j (u j)
        · have c1 : cc n (grp f u (j + 1)) = cc n (grp f u j) := cc_congr fun x y => (ej x y).trans (jn_same h1 q x y)
          by_cases r : Rd (fun x => upto u j (f x)) j (u j)
          · have := cs.2 r; omega
          · have := cs.1 r; omega
        · have c1 : cc n (grp f u j) = cc n (grp f u (j + 1)) + 1 := by rw [cc_join h1 hj hu q]; exact congrArg (· + 1) (cc_congr fun x y => (ej x y).symm)
          have r : ¬ Rd (fun x => upto u j (f x)) j (u j) := fun r => q (Rd.le h1 h2 r)
          have := cs.1 r
          omega
      · rw [e]
        by_cases r : Rd (fun x => upto u j (f x)) j (u j)
        · have := cs.2 r; omega
        · have := cs.1 r; omega
    · have e : (fun x => upto u (j + 1) (f x)) = fun x => upto u j (f x) := funext fun x => upto_no U hj h _
      have ej := grp_no (f := f) h
      have e2 := (twos_succ u j).2 h
      have h0 := U.ne hj
      rw [e, e2, cc_congr ej]
      refine ⟨h1.congr ej, fun x => (ej _ _).mpr ?_, fun x => (ej _ _).mpr (h3 x), fun y hy hn => (ej _ _).mpr (h4 y ?_ hn), h5, h6⟩
      · rw [upto_no U hj h]
        exact h2 x
      · by_cases q : y = j
        · subst q; omega
        · by_cases q2 : u y = j
          · have : y = u j := by rw [← q2, U.two]
            omega
          · omega
/-- Euler: points, sides, faces of a lot that hangs together -/
theorem euler {n : Nat} {f u : Nat → Nat} (B : Bij n f) (U : Inv n u) (hn : 0 < n)
    (hc : ∀ E : Nat → Nat → Prop, Eqv E → (∀ x, E x (f x)) → (∀ x, x < n → E x (u x)) → ∀ x, x < n → E 0 x) :
    cc n (Rd f) + cc n (Rd fun x => u (f x)) ≤ cc n (Rd u) + 2 ∧ (cc n (Rd f) + cc n (Rd fun x => u (f x)) + cc n (Rd u)) % 2 = 0 := by
  obtain ⟨h1, h2, h3, h4, h5, h6⟩ := grp_step U B n (Nat.le_refl _)
  have e : (fun x => upto u n (f x)) = fun x => u (f x) := funext fun x => upto_end U _
  rw [e] at h5 h6
  rw [cc_all hn (hc _ h1 h3 fun x hx => h4 x (.inl hx) hx)] at h5
  rw [cc_inv U]
  omega
end Dp
set_option linter.all false
set_option Elab.async false
/-! Dm3: shuffles as lists; the list of rounds. Plain Lean. -/
namespace Dp
/-- what stands at k, k beyond the end -/
def ap (p : List Nat) (k : Nat) : Nat := p.getD k k
theorem ap_lt {p : List Nat} {k : Nat} (h : k < p.length) : ap p k = p[k] := by
  unfold ap
  rw [List.getD_eq_getElem?_getD, List.getElem?_eq_getElem h]
  rfl
theorem ap_some {p : List Nat} {k : Nat} (h : k < p.length) : p[k]? = some (ap p k) := by
  rw [ap_lt h, List.getElem?_eq_getElem h]
theorem ap_ge {p : List Nat} {k : Nat} (h : p.length ≤ k) : ap p k = k := by
  unfold ap
  rw [List.getD_eq_getElem?_getD, List.getElem?_eq_none h]
  rfl
theorem ap_ext {p q : List Nat} (hl : p.length = q.length) (h : ∀ k, k < p.length → ap p k = ap q k) : p = q := by
  refine List.ext_getElem hl fun k h1 h2 => ?_
  rw [← ap_lt h1, ← ap_lt h2]
  exact h k h1
structure Sh (p : List Nat) : Prop where
  nd : p.Nodup
  lt : ∀ x ∈ p, x < p.length
theorem Sh.ap {p : List Nat} (h : Sh p) {k : Nat} (hk : k < p.length) : ap p k < p.length := by
  rw [ap_lt hk]
  exact h.lt _ (List.getElem_mem hk)
theorem Sh.bij {p : List Nat} (h : Sh p) : Bij p.length (Dp.ap p) where
  lt hx := h.ap hx
  inj {x y} e := by
    by_cases hx : x < p.length
    · by_cases hy : y < p.length
      · rw [ap_lt hx, ap_lt hy] at e
        exact (List.getElem_inj h.nd).mp e
      · have := h.ap hx
        rw [ap_ge (Nat.le_of_not_lt hy)] at e
        omega
    · rw [ap_ge (Nat.le_of_not_lt hx)] at e
      by_cases hy : y < p.length
      · have := h.ap hy
        omega
      · rw [ap_ge (Nat.le_of_not_lt hy)] at e
        exact e
  out hx := ap_ge hx
theorem sh_of {p : List Nat} {f : Nat → Nat} (B : Bij p.length f) (h : ∀ k, k < p.length → ap p k = f k) : Sh p where
  nd := by
    rw [List.nodup_iff_pairwise_ne, List.pairwise_iff_getElem]
    intro i j hi hj hij e
    rw [← ap_lt hi, ← ap_lt hj, h i hi, h j hj] at e
    have := B.inj e
    omega
  lt x hx := by
    obtain ⟨k, hk, rfl⟩ := List.getElem_of_mem hx
    rw [← ap_lt hk, h k hk]
    exact B.lt hk
/-- all that is below is come to -/
theorem Bij.onto {n : Nat} {f : Nat → Nat} (B : Bij n f) {y : Nat} (hy : y < n) : ∃ x, x < n ∧ f x = y := by
  obtain ⟨m, h1, _, h3, _⟩ := per_ex B y
  refine ⟨it f (m - 1) y, it_lt B hy, ?_⟩
  have : it f (m - 1 + 1) y = y := by rw [show m - 1 + 1 = m by omega, h3]
  exact this
theorem Bij.perm {n : Nat} {f : Nat → Nat} (B : Bij n f) : ((List.range n).map f).Perm (List.range n) := by
  refine (List.perm_ext_iff_of_nodup ?_ List.nodup_range).mpr fun a => ?_
  · rw [List.nodup_iff_pairwise_ne, List.pairwise_map]
    exact List.pairwise_lt_range.imp fun h e => by
      have := B.inj e
      omega
  · rw [List.mem_map, List.mem_range]
    exact ⟨fun ⟨x, hx, e⟩ => e ▸ B.lt (List.mem_range.mp hx), fun h => by
      obtain ⟨x, hx, e⟩ := B.onto h
      exact ⟨x, List.mem_range.mpr hx, e⟩⟩
theorem map_ap_range (p : List Nat) : (List.range p.length).map (ap p) = p := by
  refine List.ext_getElem (by simp) fun k h1 h2 => ?_
  rw [List.getElem_map, List.getElem_range, ap_lt h2]
theorem Sh.perm {p : List Nat} (h : Sh p) : p.Perm (List.range p.length) := by
  have := h.bij.perm
  rw [map_ap_range] at this
  exact this
theorem sh_perm {p : List Nat} {n : Nat} (h : p.Perm (List.range n)) : Sh p ∧ p.length = n := by
  have e : p.length = n := by rw [h.length_eq, List.length_range]
  exact ⟨⟨h.nodup_iff.mpr List.nodup_range, fun x hx => by rw [e]; exact List.mem_range.mp (h.mem_iff.mp hx)⟩, e⟩
theorem Bij.comp {n : Nat} {f g : Nat → Nat} (F : Bij n f) (G : Bij n g) : Bij n fun x => g (f x) := ⟨fun h => G.lt (F.lt h), fun e => F.inj (G.inj e), fun h => by rw [F.out h, G.out h]⟩
/-- one, the other behind it -/
def thn (p q : List Nat) : List Nat := p.map (ap q)
@[simp] theorem thn_len (p q : List Nat) : (thn p q).length = p.length := by unfold thn; simp
theorem thn_ap {p q : List Nat} (hl : q.length = p.length) (k : Nat) : ap (thn p q) k = ap q (ap p k) := by
  by_cases h : k < p.length
  · rw [ap_lt (show k < (thn p q).length by rw [thn_len]; exact h), ap_lt h]
    unfold thn
    rw [List.getElem_map]
  · rw [ap_ge (show (thn p q).length ≤ k by rw [thn_len]; omega), ap_ge (show p.length ≤ k by omega), ap_ge (show q.length ≤ k by omega)]
theorem thn_sh {p q : List Nat} (hp : Sh p) (hq : Sh q) (hl : q.length = p.length) : Sh (thn p q) := by
  refine sh_of (f := fun x => ap q (ap p x)) ?_ fun k _ => thn_ap hl k
  rw [thn_len]
  exact hp.bij.comp (hl ▸ hq.bij)
/-- what undoes -/
def und (p : List Nat) : List Nat := (List.range p.length).map fun k => p.idxOf k
@[simp] theorem und_len (p : List Nat) : (und p).length = p.length := by unfold und; simp
theorem und_at {p : List Nat} {k : Nat} (h : k < p.length) : ap (und p) k = p.idxOf k := by
  rw [ap_lt (show k < (und p).length by rw [und_len]; exact h)]
  unfold und
  rw [List.getElem_map, List.getElem_range]
theorem und_ap {p : List Nat} (hp : Sh p) (k : Nat) : ap (und p) (ap p k) = k := by
  by_cases h : k < p.length
  · rw [und_at (hp.ap h), ap_lt h]
    exact hp.nd.idxOf_getElem k h
  · rw [ap_ge (show p.length ≤ k by omega), ap_ge (show (und p).length ≤ k by rw [und_len]; omega)]
theorem ap_und {p : List Nat} (hp : Sh p) (k : Nat) : ap p (ap (und p) k) = k := by
  by_cases h : k < p.length
  · obtain ⟨x, hx, rfl⟩ := hp.bij.onto h
    rw [und_ap hp]
  · rw [ap_ge (show (und p).length ≤ k by rw [und_len]; omega), ap_ge (show p.length ≤ k by omega)]
theorem und_sh {p : List Nat} (hp : Sh p) : Sh (und p) := by
  refine sh_of (f := ap (und p)) ?_ fun k _ => rfl
  rw [und_len]
  refine ⟨fun {x} hx => ?_, fun {x y} e => by rw [← ap_und hp x, e, ap_und hp], fun {x} hx => ap_ge (by rw [und_len]; exact hx)⟩
  obtain ⟨y, hy, rfl⟩ := hp.bij.onto hx
  rw [und_ap hp]
  exact hy
theorem und_und {p : List Nat} (hp : Sh p) : und (und p) = p := ap_ext (by simp) fun k hk => by
  have h1 := und_ap (und_sh hp) (ap p k)
  rw [und_ap hp] at h1
  exact h1
/-! ### one round as a list -/
/-- from y on till it comes to x, k things at most -/
def orbL (f : Nat → Nat) (x : Nat) : Nat → Nat → List Nat
  | 0, _ => []
  | k + 1, y => y :: (if f y = x then [] else orbL f x k (f y))
def orb (f : Nat → Nat) (n x : Nat) : List Nat := orbL f x (n + 1) x
theorem orbL_eq {f : Nat → Nat} {x m : Nat} (hm : it f m x = x) (h : ∀ i, 0 < i → i < m → it f i x ≠ x) : ∀ k j, j < m → m ≤ k + j → orbL f x k (it f j x) = (List.range' j (m - j)).map fun i => it f i x
  | 0, j, h1, h2 => by omega
  | k + 1, j, h1, h2 => by
    have e : m - j = (m - (j + 1)) + 1 := by omega
    rw [e, List.range'_succ, List.map_cons]
    unfold orbL
    congr 1
    by_cases q : j + 1 = m
    · have : f (it f j x) = x := by
        show it f (j + 1) x = x
        rw [q, hm]
      rw [if_pos this, show m - (j + 1) = 0 by omega]
      rfl
    · rw [if_neg (show ¬ f (it f j x) = x from h (j + 1) (by omega) (by omega))]
      exact orbL_eq hm h k (j + 1) (by omega) (by omega)
/-- the round of x, told by how often it takes -/
theorem orb_ex {n : Nat} {f : Nat → Nat} (B : Bij n f) (x : Nat) : ∃ m, 0 < m ∧ m ≤ n + 1 ∧ it f m x = x ∧ (∀ i, 0 < i → i < m → it f i x ≠ x) ∧ orb f n x = (List.range m).map fun i => it f i x := by
  obtain ⟨m, h1, h2, h3, h4⟩ := per_ex B x
  refine ⟨m, h1, h2, h3, h4, ?_⟩
  have := orbL_eq h3 h4 (n + 1) 0 h1 (by omega)
  rw [List.range_eq_range']
  exact this
theorem it_ne {n : Nat} {f : Nat → Nat} (B : Bij n f) {x m : Nat} (h : ∀ i, 0 < i → i < m → it f i x ≠ x) {i j : Nat} (hi : i < j) (hj : j < m) : it f i x ≠ it f j x := fun e => by
  have : it f i (it f (j - i) x) = it f i x := by rw [← it_add, show i + (j - i) = j by omega, e]
  exact h (j - i) (by omega) (by omega) (it_inj B this)
theorem mem_orb {n : Nat} {f : Nat → Nat} (B : Bij n f) {x y : Nat} : y ∈ orb f n x ↔ Rd f x y := by
  obtain ⟨m, h1, h2, h3, h4, h5⟩ := orb_ex B x
  rw [h5, List.mem_map]
  refine ⟨fun ⟨i, _, e⟩ => ⟨i, e⟩, fun ⟨i, e⟩ => ⟨i % m, List.mem_range.mpr (Nat.mod_lt _ h1), ?_⟩⟩
  rw [← e]
  conv => rhs; rw [← Nat.mod_add_div i m, it_add, Nat.mul_comm, it_mul h3]
theorem orb_nd {n : Nat} {f : Nat → Nat} (B : Bij n f) (x : Nat) : (orb f n x).Nodup := by
  obtain ⟨m, h1, h2, h3, h4, h5⟩ := orb_ex B x
  rw [h5, List.nodup_iff_pairwise_ne, List.pairwise_map]
  exact List.Pairwise.imp_of_mem (fun {a b} _ hb hab => it_ne B h4 hab (List.mem_range.mp hb)) List.pairwise_lt_range
theorem orb_lt {n : Nat} {f : Nat → Nat} (B : Bij n f) {x : Nat} (hx : x < n) : ∀ y ∈ orb f n x, y < n := fun y hy => by
  obtain ⟨i, rfl⟩ := (mem_orb B).mp hy
  exact it_lt B hx
theorem orb_len {n : Nat} {f : Nat → Nat} (B : Bij n f) {x : Nat} (hx : x < n) : 0 < (orb f n x).length ∧ (orb f n x).length ≤ n := by
  refine ⟨?_, nodup_len (orb_nd B x) (orb_lt B hx)⟩
  have : x ∈ orb f n x := (mem_orb B).mpr ⟨0, rfl⟩
  exact List.length_pos_of_mem this
/-- is it the least of its round -/
def isMn (f : Nat → Nat) (n x : Nat) : Bool := (orb f n x).all fun y => decide (x ≤ y)
theorem isMn_iff {n : Nat} {f : Nat → Nat} (B : Bij n f) (x : Nat) : isMn f n x = true ↔ ∀ j, j < x → ¬ Rd f j x := by
  unfold isMn
  rw [List.all_eq_true]
  refine ⟨fun h j hj r => ?_, fun h y hy => ?_⟩
  · have := h j ((mem_orb B).mpr ((Rd.eqv B).sym r))
    rw [decide_eq_true_iff] at this
    omega
  · rw [decide_eq_true_iff]
    refine Nat.le_of_not_lt fun z => h y z ((Rd.eqv B).sym ((mem_orb B).mp hy))
/-- the rounds of a shuffle, by their least -/
def mins (p : List Nat) : List Nat := (List.range p.length).filter (isMn (ap p) p.length)
def rounds (p : List Nat) : List (List Nat) := (mins p).map (orb (ap p) p.length)
def lens (p : List Nat) : List Nat := (rounds p).map List.length
theorem filter_cnt {n : Nat} {P : Nat → Prop} {b : Nat → Bool} (h : ∀ k, b k = true ↔ P k) : ((List.range n).filter b).length = cnt n P := by
  rw [← List.countP_eq_length_filter]
  induction n with
  | zero => rfl
  | succ n ih =>
    rw [List.range_succ, List.countP_append, ih]
    show cnt n P + _ = cnt n P + _
    congr 1
    by_cases q : P n
    · rw [if_pos q, List.countP_cons_of_pos ((h n).mpr q)]; rfl
    · rw [if_neg q, List.countP_cons_of_neg (fun z => q ((h n).mp z))]; rfl
theorem rounds_len {p : List Nat} (hp : Sh p) : (rounds p).length = cc p.length (Rd (ap p)) := by
  unfold rounds mins
  rw [List.length_map]
  exact filter_cnt fun k => isMn_iff hp.bij k
theorem lens_len (p : List Nat) : (lens p).length = (rounds p).length := by unfold lens; simp
theorem orb_cnt {n : Nat} {f : Nat → Nat} (B : Bij n f) {x : Nat} (hx : x < n) : (orb f n x).length = cnt n (Rd f x) := by
  have : (orb f n x).Perm ((List.range n).filter fun y => decide (y ∈ orb f n x)) := (List.perm_ext_iff_of_nodup (orb_nd B x) (List.nodup_range.filter _)).mpr fun y => by
    rw [List.mem_filter, List.mem_range, decide_eq_true_iff]
    exact ⟨fun h => ⟨orb_lt B hx y h, h⟩, fun h => h.2⟩
  rw [this.length_eq]
  exact filter_cnt fun k => by rw [decide_eq_true_iff]; exact mem_orb B
theorem cnt_perm {n : Nat} {s : Nat → Nat} (B : Bij n s) (P : Nat → Prop) : cnt n (fun x => P (s x)) = cnt n P := by
  classical
  rw [← filter_cnt (n := n) (P := P) (b := fun x => decide (P x)) (fun k => decide_eq_true_iff), ← filter_cnt (n := n) (P := fun x => P (s x)) (b := fun x => decide (P (s x))) (fun k => decide_eq_true_iff)]
  have := (B.perm.filter fun x => decide (P x)).length_eq
  rw [List.filter_map, List.length_map] at this
  exact this
/-- rounds told one to one are as long -/
theorem lens_perm {p q : List Nat} (hp : Sh p) (hq : Sh q) (hl : q.length = p.length) {s : Nat → Nat} (S : Bij p.length s) (h : ∀ x y, Rd (ap q) (s x) (s y) ↔ Rd (ap p) x y) : (lens q).Perm (lens p) := by
  have F := Rd.eqv hp.bij
  have G := Rd.eqv hq.bij
  have hq' : Bij p.length (ap q) := hl ▸ hq.bij
  -- the least of the round of s x
  have ht : ∀ x, ∃ t, x < p.length → (t < p.length ∧ Rd (ap q) (s x) t ∧ ∀ j, j < t → ¬ Rd (ap q) (s x) j) := fun x => by
    obtain ⟨t, h1, h2, h3⟩ := least (P := Rd (ap q) (s x)) (G.rfl (s x))
    exact ⟨t, fun hx => ⟨by have := S.lt hx; omega, h1, h3⟩⟩
  let t := fun x => Classical.choose (ht x)
  have ht : ∀ x, x < p.length → (t x < p.length ∧ Rd (ap q) (s x) (t x) ∧ ∀ j, j < t x → ¬ Rd (ap q) (s x) j) := fun x => Classical.choose_spec (ht x)
  have m1 : ((mins p).map t).Perm (mins q) := by
    refine (List.perm_ext_iff_of_nodup ?_ (List.nodup_range.filter _)).mpr fun y => ?_
    · rw [List.nodup_iff_pairwise_ne, List.pairwise_map]
      refine List.Pairwise.imp_of_mem (fun {a b} ha hb hab e => ?_) (List.Pairwise.filter _ List.pairwise_lt_range)
      obtain ⟨ha1, ha2⟩ := List.mem_filter.mp ha
      obtain ⟨hb1, hb2⟩ := List.mem_filter.mp hb
      have h1 := (ht a (List.mem_range.mp ha1)).2.1
      have h2 := (ht b (List.mem_range.mp hb1)).2.1
      rw [← e] at h2
      exact (isMn_iff hp.bij b).mp hb2 a hab ((h a b).mp (G.tr h1 (G.sym h2)))
    · unfold mins
      rw [List.mem_map, List.mem_filter, List.mem_range]
      constructor
      · rintro ⟨x, hx, rfl⟩
        have hx1 := List.mem_range.mp (List.mem_filter.mp hx).1
        obtain ⟨h1, h2, h3⟩ := ht x hx1
        exact ⟨by omega, (isMn_iff hq.bij _).mpr fun j hj r => h3 j hj (G.tr h2 (G.sym r))⟩
      · rintro ⟨hy, hm⟩
        obtain ⟨x0, hx0, e0⟩ := S.onto (show y < p.length by omega)
        obtain ⟨x, h1, h2, h3⟩ := least (P := Rd (ap p) x0) (F.rfl x0)
        have hx : x < p.length := by omega
        refine ⟨x, List.mem_filter.mpr ⟨List.mem_range.mpr hx, (isMn_iff hp.bij _).mpr fun j hj r => h3 j hj (F.tr h1 (F.sym r))⟩, ?_⟩
        obtain ⟨a1, a2, a3⟩ := ht x hx
        have b1 : Rd (ap q) (s x) y := by rw [← e0]; exact (h x x0).mpr (F.sym h1)
        have b2 := (isMn_iff hq.bij y).mp hm
        have c1 : ¬ t x < y := fun z => b2 _ z (G.tr (G.sym a2) b1)
        have c2 : ¬ y < t x := fun z => a3 _ z b1
        omega
  have m2 : lens q = (mins q).map fun x => cnt p.length (Rd (ap q) x) := by
    unfold lens rounds
    rw [List.map_map]
    refine List.map_congr_left fun x hx => ?_
    have := List.mem_range.mp (List.mem_filter.mp hx).1
    show (orb (ap q) q.length x).length = _
    rw [hl] at this ⊢
    exact orb_cnt hq' this
  have m3 : lens p = ((mins p).map t).map fun x => cnt p.length (Rd (ap q) x) := by
    unfold lens rounds
    rw [List.map_map, List.map_map]
    refine List.map_congr_left fun x hx => ?_
    have hx1 := List.mem_range.mp (List.mem_filter.mp hx).1
    obtain ⟨a1, a2, a3⟩ := ht x hx1
    show (orb (ap p) p.length x).length = cnt p.length (Rd (ap q) (t x))
    rw [orb_cnt hp.bij hx1, ← cnt_perm S (Rd (ap q) (t x))]
    refine cnt_congr fun k _ => ?_
    rw [← h x k]
    exact ⟨fun r => G.tr (G.sym a2) r, fun r => G.tr a2 r⟩
  rw [m2, m3]
  exact (m1.map _).symm
end Dp
set_option linter.all false
set_option Elab.async false
/-! Dm4: what is led to, behind a change of two. Plain Lean. -/
namespace Dp
/-- led by these from one to another -/
inductive Rch (ps : List (List Nat)) : Nat → Nat → Prop
  | refl (x : Nat) : Rch ps x x
  | step {x y : Nat} {p : List Nat} : Rch ps x y → p ∈ ps → Rch ps x (ap p y)
theorem Rch.trans {ps : List (List Nat)} {x y z : Nat} (h : Rch ps x y) (q : Rch ps y z) : Rch ps x z := by
  induction q with
  | refl => exact h
  | step _ hp ih => exact ih.step hp
theorem Rch.closed {ps : List (List Nat)} {F : List Nat} (hc : ∀ x ∈ F, ∀ p ∈ ps, ap p x ∈ F) {x y : Nat} (h : Rch ps x y) (hx : x ∈ F) : y ∈ F := by
  induction h with
  | refl => exact hx
  | step _ hp ih => exact hc _ ih _ hp
/-- a way by p alone -/
theorem Rch.rd {ps : List (List Nat)} {p : List Nat} (hp : p ∈ ps) {x y : Nat} (h : Rd (ap p) x y) : Rch ps x y := by
  obtain ⟨i, rfl⟩ := h
  induction i with
  | zero => exact .refl x
  | succ i ih => exact ih.step hp
theorem Rch.le {ps : List (List Nat)} {E : Nat → Nat → Prop} (h : Eqv E) (hs : ∀ p ∈ ps, ∀ x, E x (ap p x)) {x y : Nat} (r : Rch ps x y) : E x y := by
  induction r with
  | refl => exact h.rfl x
  | step _ hp ih => exact h.tr ih (hs _ hp _)
/-- the values at x and y change places -/
theorem swap_ap {Y : List Nat} {x y : Nat} (hx : x < Y.length) (hy : y < Y.length) (k : Nat) : ap ((Y.set x (ap Y y)).set y (ap Y x)) k = ap Y (sw x y k) := by
  unfold sw
  by_cases h1 : k = y
  · subst h1
    rw [ap_lt (by simp; exact hy)]
    by_cases h2 : k = x
    · subst h2; simp
    · simp [h2]
  · by_cases h2 : k = x
    · subst h2
      rw [ap_lt (by simp; exact hx), if_pos rfl, List.getElem_set_ne (by omega), List.getElem_set_self]
    · rw [if_neg h2, if_neg h1]
      by_cases hk : k < Y.length
      · rw [ap_lt (by simp; exact hk), ap_lt hk, List.getElem_set_ne (by omega), List.getElem_set_ne (by omega)]
      · rw [ap_ge (by simp; omega), ap_ge (by omega)]
theorem sw_bij1 {n x y : Nat} (hx : x < n) (hy : y < n) : Bij n (sw x y) where
  lt {k} hk := by unfold sw; split; exact hy; split; exact hx; exact hk
  inj {a b} e := by rw [← sw_sw x y a, e, sw_sw]
  out {k} hk := by unfold sw; rw [if_neg (by omega), if_neg (by omega)]
theorem swap_sh {Y : List Nat} (h : Sh Y) {x y : Nat} (hx : x < Y.length) (hy : y < Y.length) : Sh ((Y.set x (ap Y y)).set y (ap Y x)) := by
  refine sh_of (f := fun k => ap Y (sw x y k)) ?_ fun k _ => swap_ap hx hy k
  simp only [List.length_set]
  exact (sw_bij1 hx hy).comp h.bij
/-- what was led to stays so, and y comes -/
theorem swap_rch {Y X F : List Nat} (hY : Sh Y) {x y : Nat} (hF : ∀ z ∈ F, z < Y.length) (hc : ∀ z ∈ F, ap Y z ∈ F ∧ ap X z ∈ F) (hr : ∀ z ∈ F, Rch [Y, X] 0 z) (h0 : 0 ∈ F) (hx : x ∈ F) (hy : y < Y.length) (hyF : y ∉ F) :
    (∀ z ∈ F, Rch [(Y.set x (ap Y y)).set y (ap Y x), X] 0 z) ∧ Rch [(Y.set x (ap Y y)).set y (ap Y x), X] 0 y := by
  have hxl := hF x hx
  generalize eZ : (Y.set x (ap Y y)).set y (ap Y x) = Z
  have eZ1 : ∀ k, ap Z k = ap Y (sw x y k) := fun k => by rw [← eZ]; exact swap_ap hxl hy k
  have hne : x ≠ y := fun e => hyF (e ▸ hx)
  have B := hY.bij
  -- the round of y stands outside
  have hout : ∀ i, it (ap Y) i y ∉ F := fun i hi => hyF (by
    have : Rd (ap Y) (it (ap Y) i y) y := (Rd.eqv B).sym ⟨i, rfl⟩
    obtain ⟨j, e⟩ := this
    rw [← e]
    have : ∀ j, it (ap Y) j (it (ap Y) i y) ∈ F := fun j => by
      induction j with
      | zero => exact hi
      | succ j ih => exact (hc _ ih).1
    exact this j)
  obtain ⟨m, h1, _, h3, h4⟩ := per_ex B y
  have hZx : ∀ i, i < m → Rch [Z, X] x (it (ap Y) (i + 1) y) := fun i => by
    induction i with
    | zero =>
      intro _
      have := (Rch.refl (ps := [Z, X]) x).step (p := Z) (List.mem_cons_self ..)
      rw [eZ1] at this
      have e : sw x y x = y := by unfold sw; rw [if_pos rfl]
      rw [e] at this
      exact this
    | succ i ih =>
      intro hi
      have := (ih (by omega)).step (p := Z) (List.mem_cons_self ..)
      rw [eZ1] at this
      have e : sw x y (it (ap Y) (i + 1) y) = it (ap Y) (i + 1) y := by
        unfold sw
        rw [if_neg (fun (e : it (ap Y) (i + 1) y = x) => hout (i + 1) (e ▸ hx)), if_neg (h4 (i + 1) (by omega) hi)]
      rw [e] at this
      exact this
  have hxy : Rch [Z, X] x y := by
    have := hZx (m - 1) (by omega)
    rw [show m - 1 + 1 = m by omega, h3] at this
    exact this
  have hstep : ∀ z, z ∈ F → Rch [Z, X] z (ap Y z) := fun z hz => by
    by_cases e : z = x
    · subst e
      have := hxy.step (p := Z) (List.mem_cons_self ..)
      rw [eZ1] at this
      have e : sw z y y = z := by rw [sw_comm]; unfold sw; rw [if_pos rfl]
      rw [e] at this
      exact this
    · have := (Rch.refl (ps := [Z, X]) z).step (p := Z) (List.mem_cons_self ..)
      rw [eZ1] at this
      have e : sw x y z = z := by
        unfold sw
        rw [if_neg e, if_neg fun (q : z = y) => hyF (q ▸ hz)]
      rw [e] at this
      exact this
  have all : ∀ z, Rch [Y, X] 0 z → z ∈ F ∧ Rch [Z, X] 0 z := fun z r => by
    induction r with
    | refl => exact ⟨h0, .refl 0⟩
    | step r hp ih =>
      rename_i p
      obtain ⟨a, b⟩ := ih
      rcases List.mem_cons.mp hp with e | e
      · subst e
        exact ⟨(hc _ a).1, b.trans (hstep _ a)⟩
      · rw [List.mem_singleton] at e
        subst e
        exact ⟨(hc _ a).2, b.step (by simp)⟩
  exact ⟨fun z hz => (all z (hr z hz)).2, ((all x (hr x hx)).2).trans hxy⟩
/-- two and two of a list come to each other -/
theorem pairs_inv {O X : List Nat} {n s : Nat} (hn : n = 2 * s) (hO : O.Perm (List.range n)) (hX : X.length = n) (h : ∀ i, i < s → ap X (ap O (2 * i)) = ap O (2 * i + 1) ∧ ap X (ap O (2 * i + 1)) = ap O (2 * i)) : Sh X ∧ Inv n (ap X) := by
  obtain ⟨hs, hl⟩ := sh_perm hO
  have key : ∀ x, x < n → ∃ y, y < n ∧ y ≠ x ∧ ap X x = y ∧ ap X y = x := fun x hx => by
    obtain ⟨i, hi, rfl⟩ := hs.bij.onto (show x < O.length by omega)
    by_cases q : i % 2 = 0
    · have := h (i / 2) (by omega)
      rw [show 2 * (i / 2) = i by omega] at this
      refine ⟨ap O (i + 1), by have := hs.ap (show i + 1 < O.length by omega); omega, fun e => ?_, this.1, this.2⟩
      have := hs.bij.inj e
      omega
    · have := h (i / 2) (by omega)
      rw [show 2 * (i / 2) + 1 = i by omega, show 2 * (i / 2) = i - 1 by omega] at this
      refine ⟨ap O (i - 1), by have := hs.ap (show i - 1 < O.length by omega); omega, fun e => ?_, this.2, this.1⟩
      have := hs.bij.inj e
      omega
  have two : ∀ x, ap X (ap X x) = x := fun x => by
    by_cases hx : x < n
    · obtain ⟨y, _, _, e1, e2⟩ := key x hx
      rw [e1, e2]
    · have e := ap_ge (p := X) (k := x) (by omega)
      rw [e, e]
  have B : Bij n (ap X) := ⟨fun {x} hx => by obtain ⟨y, h1, _, e, _⟩ := key x hx; omega, fun {x y} e => by rw [← two x, e, two], fun {x} hx => ap_ge (by omega)⟩
  refine ⟨sh_of (f := ap X) (hX ▸ B) fun _ _ => rfl, B, fun {x} hx e => ?_, two⟩
  obtain ⟨y, _, h2, h3, _⟩ := key x hx
  omega
end Dp
set_option linter.all false
set_option Elab.async false
set_option maxRecDepth 100000
/-! Dq4: shuffles as values; dicts of places; what is in a list; try. -/
namespace Dp
/-- a shuffle as a value -/
abbrev ni (k : Nat) : PV := .int (k : Int)
abbrev tn (p : List Nat) : PV := .tup (p.map ni)
@[simp] theorem pures_ni {p : List Nat} : PV.pures (p.map ni) = true := pures_of fun x hx => by
  obtain ⟨i, _, rfl⟩ := List.mem_map.mp hx
  rfl
theorem tn_pure (p : List Nat) : (tn p).pure = true := pures_ni
@[simp] theorem pures_tn {ps : List (List Nat)} : PV.pures (ps.map tn) = true := pures_of fun x hx => by
  obtain ⟨i, _, rfl⟩ := List.mem_map.mp hx
  exact pures_ni
theorem tn_ti (p : List Nat) : p.map ni = (p.map fun (k : Nat) => (k : Int)).map PV.int := by rw [List.map_map]; rfl
theorem g0_rngN {h : Mem} {k : Nat} : Gives0 h (.rng 0 k) ((List.range k).map ni) := by
  have := g0_rng (h := h) (lo := 0) (k := k)
  have e : ((List.range k).map fun (i : Nat) => PV.int (0 + (i : Int))) = (List.range k).map ni := List.map_congr_left fun i _ => by simp [ni]
  rw [e] at this
  exact this
theorem rngL_N (k : Nat) : rngL 0 (k : Int) = (List.range k).map ni := by
  unfold rngL
  rw [show ((k : Int) - 0).toNat = k by omega]
  exact List.map_congr_left fun i _ => by simp [ni]
theorem atB_ni {p : List Nat} {k : Nat} (h : k < p.length) : atB (p.map ni) (k : Int) = some (ni (ap p k)) := atB_map (ap_some h)
@[simp] theorem small62_nat {k : Nat} (h : k < 4611686018427387904) : small62 (k : Int) = true := small62_iff.mpr (by omega)
section
variable {h : Mem}
theorem eqbs_ints (l r : List Int) : eqbs (eqb h 39) (l.map .int) (r.map .int) = decide (l = r) := by
  induction l generalizing r with
  | nil => cases r <;> simp [eqbs]
  | cons x l ih =>
    cases r with
    | nil => simp [eqbs]
    | cons y r =>
      show (eqb h 39 (.int x) (.int y) && eqbs (eqb h 39) (l.map .int) (r.map .int)) = _
      rw [ih, show eqb h 39 (.int x) (.int y) = (x == y) from rfl, Bool.eq_iff_iff]
      simp
theorem okD_lst {n : Nat} {xs : List Int} (e : lstAt h n = some (xs.map .int)) : okD h depthB (.loc n) = true := by
  show (match lstAt h n with
    | some xs => xs.all (okD h 39)
    | none => false) = true
  rw [e]
  dsimp only
  rw [List.all_map, List.all_eq_true]
  intro x _
  rfl
theorem eqq_ints {a b : Nat} {l r : List Int} (ea : lstAt h a = some (l.map .int)) (eb : lstAt h b = some (r.map .int)) : eqq h (.loc a) (.loc b) = some (decide (l = r)) := by
  unfold eqq
  rw [okD_lst ea, okD_lst eb]
  have : eqb h depthB (.loc a) (.loc b) = decide (l = r) := by
    show (match lstAt h a, lstAt h b with
      | some xs, some ys => eqbs (eqb h 39) xs ys
      | _, _ => false) = _
    rw [ea, eb]
    exact eqbs_ints l r
  rw [this]
  rfl
theorem eq_ints {a b : Nat} {l r : List Int} (ea : lstAt h a = some (l.map .int)) (eb : lstAt h b = some (r.map .int)) : cmpB h .eq (.loc a) (.loc b) = .ok (.bl (decide (l = r)), h) := by
  show obl h (eqq h (.loc a) (.loc b)) = _
  rw [eqq_ints ea eb]
  rfl
theorem ne_ints {a b : Nat} {l r : List Int} (ea : lstAt h a = some (l.map .int)) (eb : lstAt h b = some (r.map .int)) : cmpB h .ne (.loc a) (.loc b) = .ok (.bl (!decide (l = r)), h) := by
  show obl h ((eqq h (.loc a) (.loc b)).map not) = _
  rw [eqq_ints ea eb]
  rfl
theorem any_ni (p : List Nat) (k : Nat) : ((p.map ni).any fun y => eqb h depthB y (ni k)) = decide (k ∈ p) := by
  rw [List.any_map, Bool.eq_iff_iff, List.any_eq_true, decide_eq_true_iff]
  refine ⟨fun ⟨x, hx, e⟩ => ?_, fun hk => ⟨k, hk, ?_⟩⟩
  · have e : ((x : Int) == (k : Int)) = true := e
    have e2 : (x : Int) = (k : Int) := by simpa using e
    have : x = k := by omega
    exact this ▸ hx
  · show ((k : Int) == (k : Int)) = true
    simp
theorem all_okN (p : List Nat) : (p.map ni).all (okD h depthB) = true := by
  rw [List.all_map, List.all_eq_true]
  intro x _
  rfl
theorem memq_ni (p : List Nat) (k : Nat) : memq h (ni k) (p.map ni) = some (decide (k ∈ p)) := by
  unfold memq
  rw [all_okN, any_ni]
  rfl
theorem mem_lst {n k : Nat} {p : List Nat} (e : h[n]? = some (.lst (p.map ni))) : cmpB h .mem (ni k) (.loc n) = .ok (.bl (decide (k ∈ p)), h) := by
  show (match h[n]? with
      | some (.dct kvs) => if okKey kvs (ni k) then Res.ok (PV.bl (lookB (ni k) kvs).isSome, h) else if kvs.isEmpty && okT (ni k) then .ok (.bl false, h) else .err
      | some (.dtt kvs _) => if okT (ni k) then .ok (.bl (lookB (ni k) kvs).isSome, h) else .err
      | some (.lst ys) => obl h (memq h (ni k) ys)
      | some (.ro ys) => obl h (memq h (ni k) ys)
      | some (.ins _ _) => .err
      | none => .err) = _
  rw [e]
  dsimp only
  rw [memq_ni]
  rfl
theorem nmem_lst {n k : Nat} {p : List Nat} (e : h[n]? = some (.lst (p.map ni))) : cmpB h .nmem (ni k) (.loc n) = .ok (.bl (!decide (k ∈ p)), h) := by
  show (match h[n]? with
      | some (.dct kvs) => if okKey kvs (ni k) then Res.ok (PV.bl (!(lookB (ni k) kvs).isSome), h) else if kvs.isEmpty && okT (ni k) then .ok (.bl true, h) else .err
      | some (.dtt kvs _) => if okT (ni k) then .ok (.bl (!(lookB (ni k) kvs).isSome), h) else .err
      | some (.lst ys) => obl h ((memq h (ni k) ys).map not)
      | some (.ro ys) => obl h ((memq h (ni k) ys).map not)
      | some (.ins _ _) => .err
      | none => .err) = _
  rw [e]
  dsimp only
  rw [memq_ni]
  rfl
theorem mem_tup {k : Nat} {p : List Nat} : cmpB h .mem (ni k) (.tup (p.map ni)) = .ok (.bl (decide (k ∈ p)), h) := by
  show obl h (memq h (ni k) (p.map ni)) = _
  rw [memq_ni]
  rfl
/-! dicts whose keys are places -/
/-- places with their values -/
abbrev dk (l : List (Nat × PV)) : PO := .dct (l.map fun q => (ni q.1, q.2))
theorem look_dk (l : List (Nat × PV)) (k : Nat) : lookB (ni k) (l.map fun q => (ni q.1, q.2)) = (l.find? fun q => q.1 == k).map (·.2) := by
  unfold lookB
  induction l with
  | nil => rfl
  | cons q l ih =>
    rw [List.map_cons, List.find?_cons, List.find?_cons]
    have : eqb [] depthB (ni q.1, q.2).1 (ni k) = (q.1 == k) := by
      show ((q.1 : Int) == (k : Int)) = _
      rw [Bool.eq_iff_iff]
      simp [Int.natCast_inj]
    rw [this]
    cases q.1 == k with
    | true => rfl
    | false => exact ih
theorem look_some {l : List (Nat × PV)} {k : Nat} : ((l.find? fun q => q.1 == k).map (·.2)).isSome = decide (k ∈ l.map (·.1)) := by
  rw [Bool.eq_iff_iff]
  simp
theorem mem_dk {n k : Nat} {l : List (Nat × PV)} (e : h[n]? = some (dk l)) : cmpB h .mem (ni k) (.loc n) = .ok (.bl (decide (k ∈ l.map (·.1))), h) := by
  show (match h[n]? with
      | some (.dct kvs) => if okKey kvs (ni k) then Res.ok (PV.bl (lookB (ni k) kvs).isSome, h) else if kvs.isEmpty && okT (ni k) then .ok (.bl false, h) else .err
      | some (.dtt kvs _) => if okT (ni k) then .ok (.bl (lookB (ni k) kvs).isSome, h) else .err
      | some (.lst ys) => obl h (memq h (ni k) ys)
      | some (.ro ys) => obl h (memq h (ni k) ys)
      | some (.ins _ _) => .err
      | none => .err) = _
  rw [e]
  dsimp only
  rw [look_dk, look_some]
  rfl
theorem nmem_dk {n k : Nat} {l : List (Nat × PV)} (e : h[n]? = some (dk l)) : cmpB h .nmem (ni k) (.loc n) = .ok (.bl (!decide (k ∈ l.map (·.1))), h) := by
  show (match h[n]? with
      | some (.dct kvs) => if okKey kvs (ni k) then Res.ok (PV.bl (!(lookB (ni k) kvs).isSome), h) else if kvs.isEmpty && okT (ni k) then .ok (.bl true, h) else .err
      | some (.dtt kvs _) => if okT (ni k) then .ok (.bl (!(lookB (ni k) kvs).isSome), h) else .err
      | some (.lst ys) => obl h ((memq h (ni k) ys).map not)
      | some (.ro ys) => obl h ((memq h (ni k) ys).map not)
      | some (.ins _ _) => .err
      | none => .err) = _
  rw [e]
  dsimp only
  rw [look_dk, look_some]
  rfl
theorem get_dk {n k : Nat} {v : PV} {l : List (Nat × PV)} (e : h[n]? = some (dk l)) (q : (l.find? fun q => q.1 == k).map (·.2) = some v) : getB h (.loc n) (ni k) = .ok (v, h) := by
  show (match h[n]?, ni k with
    | some (.lst xs), .int k => match atB xs k with
      | some v => Res.ok (v, h)
      | none => .err
    | some (.ro xs), .int k => match atB xs k with
      | some v => .ok (v, h)
      | none => .err
    | some (.dct kvs), k => if okKey kvs k then (match lookB k kvs with
        | some v => .ok (v, h)
        | none => .err) else .err
    | some (.dtt kvs _), k => if okT k then (match lookB k kvs with
        | some v => .ok (v, h)
        | none => .err) else .err
    | _, _ => .err) = _
  rw [e]
  dsimp only
  rw [look_dk, q]
  rfl
theorem put_dk {l : List (Nat × PV)} {k : Nat} {v : PV} (hk : k ∉ l.map (·.1)) : putB (ni k) v (l.map fun q => (ni q.1, q.2)) = (l ++ [(k, v)]).map fun q => (ni q.1, q.2) := by
  unfold putB
  rw [if_neg, List.map_append]
  · rfl
  · rw [List.any_map, List.any_eq_true]
    rintro ⟨q, hq, e⟩
    have e : ((q.1 : Int) == (k : Int)) = true := e
    have e2 : (q.1 : Int) = (k : Int) := by simpa using e
    have : q.1 = k := by omega
    exact hk (List.mem_map.mpr ⟨q, hq, this⟩)
theorem set_dk {n0 n k : Nat} {v : PV} {l : List (Nat × PV)} (e : h[n]? = some (dk l)) (hk : k ∉ l.map (·.1)) (hl : l.length < sizeB) (hv : mayB n0 n v = true) : setB n0 h (.loc n) (ni k) v = .ok (h.set n (dk (l ++ [(k, v)]))) := by
  show (match h[n]?, ni k with
    | some (.lst xs), .int k => match ixB xs.length k with
      | some j => if mayB n0 n v then Res.ok (h.set n (.lst (xs.set j v))) else .err
      | none => .err
    | some (.dct kvs), k => if okKey kvs k then (if mayB n0 n v && decide (kvs.length < sizeB) then .ok (h.set n (.dct (putB k v kvs))) else .err)
      else if kvs.isEmpty && okT k && mayB n0 n v then .ok (h.set n (.dtt [(k, v)] 0)) else .err
    | some (.dtt kvs w), k => if okT k && mayB n0 n v && decide (kvs.length < sizeB) then .ok (h.set n (.dtt (putB k v kvs) (w + 1))) else .err
    | _, _ => .err) = _
  rw [e]
  dsimp only
  rw [hv, put_dk hk, List.length_map, if_pos (show okKey _ (ni k) = true from rfl), if_pos (by simpa using hl)]
theorem len_dk {n : Nat} {l : List (Nat × PV)} (e : h[n]? = some (dk l)) : lenB h [.loc n] = .ok (.int l.length, h) := by
  rw [lenB_loc, e]
  dsimp only
  rw [List.length_map]
/-! lists -/
theorem append_lst {n0 n : Nat} {xs : List PV} {v : PV} (e : h[n]? = some (.lst xs)) (hv : mayB n0 n v = true) (hl : xs.length < sizeB) : appendB n0 h (.loc n) [v] = .ok (.non, h.set n (.lst (xs ++ [v]))) := by
  show (match h[n]? with
    | some (.lst xs) => if mayB n0 n v && decide (xs.length < sizeB) then Res.ok (PV.non, h.set n (.lst (xs ++ [v]))) else .err
    | _ => .err) = _
  rw [e]
  dsimp only
  rw [if_pos (by rw [hv]; simpa using hl)]
theorem pop_lst {n : Nat} {xs : List PV} {v : PV} (e : h[n]? = some (.lst (xs ++ [v]))) : popB h (.loc n) [] = .ok (v, h.set n (.lst xs)) := by
  show (match h[n]? with
    | some (.lst xs) => match xs.getLast? with
      | some v => Res.ok (v, h.set n (.lst xs.dropLast))
      | none => .err
    | _ => .err) = _
  rw [e]
  dsimp only
  rw [List.getLast?_concat, List.dropLast_concat]
theorem popi_lst {n j : Nat} {xs : List PV} {v : PV} (e : h[n]? = some (.lst xs)) (hv : xs[j]? = some v) : popB h (.loc n) [ni j] = .ok (v, h.set n (.lst (xs.eraseIdx j))) := by
  show (match h[n]? with
    | some (.lst xs) => match ixB xs.length (j : Int) with
      | some j => match xs[j]? with
        | some v => Res.ok (v, h.set n (.lst (xs.eraseIdx j)))
        | none => .err
      | none => .err
    | _ => .err) = _
  rw [e]
  dsimp only
  have hj := (List.getElem?_eq_some_iff.mp hv).1
  rw [ixB_nat (by omega) (by omega)]
  dsimp only
  rw [Int.toNat_natCast, hv]
@[simp] theorem mthB_get {n0 : Nat} {o : PV} {vs : List PV} : mthB n0 h .get .dict o vs = dgetB h o vs := rfl
@[simp] theorem mthB_indexT {n0 : Nat} {o : PV} {vs : List PV} : mthB n0 h .index .tuple o vs = indexT h o vs := rfl
@[simp] theorem mthB_indexL {n0 : Nat} {o : PV} {vs : List PV} : mthB n0 h .index .list o vs = indexL h o vs := rfl
@[simp] theorem okM_6 : okM .index .tuple = true := rfl
@[simp] theorem okM_7 : okM .index .list = true := rfl
@[simp] theorem okM_8 : okM .get .dict = true := rfl
theorem find_idxOf (p : List Nat) (k : Nat) (hk : k ∈ p) : (p.map ni).findIdx? (fun y => eqb h depthB y (ni k)) = some (p.idxOf k) := by
  induction p with
  | nil => cases hk
  | cons x p ih =>
    rw [List.map_cons, List.findIdx?_cons, List.idxOf_cons]
    have : eqb h depthB (ni x) (ni k) = (x == k) := by
      show ((x : Int) == (k : Int)) = _
      rw [Bool.eq_iff_iff]
      simp [Int.natCast_inj]
    rw [this]
    cases e : x == k with
    | true => rfl
    | false =>
      have h1 : k ≠ x := fun z => by rw [z] at e; simp at e
      have h2 : k ∈ p := (List.mem_cons.mp hk).resolve_left h1
      rw [ih h2]
      rfl
theorem index_tn {p : List Nat} {k : Nat} (hk : k ∈ p) : indexT h (.tup (p.map ni)) [ni k] = .ok (ni (p.idxOf k), h) := by
  show (if okD h depthB (ni k) && (p.map ni).all (okD h depthB) then (match (p.map ni).findIdx? fun y => eqb h depthB y (ni k) with
        | some j => Res.ok (PV.int j, h)
        | none => .err) else .err) = _
  rw [all_okN, find_idxOf p k hk]
  rfl
end
/-! try -/
theorem ws_try {c : Cfg} {env : Env} {h : Mem} {D : Po} {body : Ss} {hs : Hs} : ws (evS c (.try_ body hs) env h) D = match evSs c body env h with
    | .exc k e h1 => ws (evH c k hs e h1) D
    | r => ws r D := by
  conv => lhs; unfold evS
  cases evSs c body env h <;> rfl
/-! orders -/
theorem sortI_mem {x : Int} {l : List Int} : x ∈ sortI l ↔ x ∈ l := by
  have hi : ∀ (y : Int) (l : List Int), x ∈ insI y l ↔ x = y ∨ x ∈ l := fun y l => by
    induction l with
    | nil => simp [insI]
    | cons z l ih =>
      unfold insI
      split
      · simp
      · simp only [List.mem_cons, ih]
        constructor <;> rintro (h | h | h) <;> simp [h]
  induction l with
  | nil => simp [sortI]
  | cons y l ih => simp [sortI, hi, ih]
theorem insI_permN (x : Int) (l : List Int) : (insI x l).Perm (x :: l) := by
  induction l with
  | nil => exact .refl _
  | cons y l ih =>
    unfold insI
    split
    · exact .refl _
    · exact (ih.cons y).trans (.swap x y l)
theorem sortI_permN (l : List Int) : (sortI l).Perm l := by
  induction l with
  | nil => exact .refl _
  | cons x l ih => exact (insI_permN x _).trans (ih.cons x)
theorem insI_pwN {x : Int} {l : List Int} (h : l.Pairwise (· ≤ ·)) : (insI x l).Pairwise (· ≤ ·) := by
  induction l with
  | nil => exact List.pairwise_singleton _ _
  | cons y l ih =>
    unfold insI
    rw [List.pairwise_cons] at h
    split
    · rename_i q
      refine List.pairwise_cons.mpr ⟨fun z hz => ?_, List.pairwise_cons.mpr h⟩
      rcases List.mem_cons.mp hz with e | e
      · omega
      · have := h.1 z e
        omega
    · rename_i q
      refine List.pairwise_cons.mpr ⟨fun z hz => ?_, ih h.2⟩
      rcases List.mem_cons.mp ((insI_permN x l).mem_iff.mp hz) with e | e
      · omega
      · exact h.1 z e
theorem sortI_pair (l : List Int) : (sortI l).Pairwise (· ≤ ·) := by
  induction l with
  | nil => exact List.Pairwise.nil
  | cons x l ih => exact insI_pwN ih
theorem sortI_eqN {l r : List Int} (h : l.Perm r) (hr : r.Pairwise (· ≤ ·)) : sortI l = r := List.Perm.eq_of_pairwise (le := (· ≤ ·)) (fun a b _ _ h1 h2 => by omega) (sortI_pair l) hr ((sortI_permN l).trans h)
theorem sortI_congr {l r : List Int} (h : l.Perm r) : sortI l = sortI r := sortI_eqN (h.trans (sortI_permN r).symm) (sortI_pair r)
/-- places put in order -/
theorem sortI_range {p : List Nat} {n : Nat} : sortI (p.map fun (k : Nat) => (k : Int)) = (List.range n).map (fun (k : Nat) => (k : Int)) ↔ p.Perm (List.range n) := by
  constructor
  · intro e
    have h1 := sortI_permN (p.map fun (k : Nat) => (k : Int))
    rw [e] at h1
    have h2 := h1.symm.map Int.toNat
    rw [List.map_map, List.map_map] at h2
    have e1 : ∀ l : List Nat, l.map (Int.toNat ∘ fun (k : Nat) => (k : Int)) = l := fun l => by
      conv => rhs; rw [← List.map_id l]
      exact List.map_congr_left fun k _ => by simp
    rw [e1, e1] at h2
    exact h2
  · intro h
    refine sortI_eqN (h.map _) ?_
    rw [List.pairwise_map]
    exact List.pairwise_lt_range.imp fun h => by omega
end Dp
set_option linter.all false
set_option Elab.async false
set_option maxRecDepth 100000
/-! Dq5: what is raised; sets of whole numbers. -/
namespace Dp
/-- it ends with this exception -/
def Ex (r : SR) (k : Nat) : Prop := ∃ e m, r = .exc k e m
theorem call_exc {tab : Nat → Option Fn} {d f : Nat} {fn : Fn} {args : List PV} {k : Nat} (t : tab f = some fn) (hl : args.length = fn.np) (hp : PV.pures args = true)
    (w : Ex (evSs ⟨callAt tab d, fun i => (tab i).isSome, 0⟩ fn.body (startB fn args) []) k) (h : Mem) : callAt tab (d + 1) f args h = .exc k h := by
  unfold callAt
  rw [t]
  dsimp only
  rw [if_pos hl, if_pos hp]
  obtain ⟨e, m, w⟩ := w
  rw [w]
section
variable {c : Cfg} {env : Env} {h : Mem} {k : Nat} {s : S} {ss : Ss}
theorem ex_nx (w : ws (evS c s env h) { nx := fun e m => Ex (evSs c ss e m) k }) : Ex (evSs c (.cons s ss) env h) k := by
  unfold evSs
  cases e : evS c s env h with
  | nxt e1 m => rw [e] at w; exact w
  | _ => rw [e] at w; exact w.elim
theorem ex_now (w : Ex (evS c s env h) k) : Ex (evSs c (.cons s ss) env h) k := by
  obtain ⟨e, m, w⟩ := w
  unfold evSs
  rw [w]
  exact ⟨e, m, rfl⟩
theorem ex_ite {g : E} {a b : Ss} (w : wp (evE c env true g h) fun r => r.1 = .bl true ∧ Ex (evSs c a env r.2) k) : Ex (evS c (.ite g a b) env h) k := by
  conv => arg 1; unfold evS
  obtain ⟨r, e, e1, e2⟩ := w.to
  rw [e]
  show Ex (match r.1 with
    | .bl true => evSs c a env r.2
    | .bl false => evSs c b env r.2
    | _ => .err) k
  rw [e1]
  exact e2
theorem ex_raise : Ex (evS c (.raise k) env h) k := ⟨env, h, by unfold evS; rfl⟩
theorem ex_asg {t : T} {e : E} {m : Mem} (w : evE c env false e h = .exc k m) : Ex (evS c (.asg t e) env h) k := ⟨env, m, by unfold evS; rw [w]; rfl⟩
theorem ex_ret {e : E} {m : Mem} (w : evE c env false e h = .exc k m) : Ex (evS c (.ret e) env h) k := ⟨env, m, by unfold evS; rw [w]; rfl⟩
end
/-! sets -/
theorem ws_six2 {c : Cfg} {env : Env} {h : Mem} {D : Po} {o i p j : E} {x y : PV} : ws (storeT c env (.tup [x, y]) h (.ix2 o i p j)) D = wp (evE c env false o h) fun r => wp (evE c env false i r.2) fun q => wp (setB c.n0 q.2 r.1 q.1 x) fun h2 =>
    wp (evE c env false p h2) fun r => wp (evE c env false j r.2) fun q => wp (setB c.n0 q.2 r.1 q.1 y) fun h3 => D.nx env h3 := by
  unfold storeT
  simp only [ws_sr]
  rfl
theorem dedup_memN {x : Int} : ∀ {l : List Int}, x ∈ dedupI l ↔ x ∈ l
  | [] => Iff.rfl
  | [y] => Iff.rfl
  | y :: z :: r => by
    unfold dedupI
    split
    · rename_i e
      rw [dedup_memN, e]
      simp
    · rw [List.mem_cons, dedup_memN, List.mem_cons, List.mem_cons, List.mem_cons]
theorem dedup_pwN : ∀ {l : List Int}, l.Pairwise (· ≤ ·) → (dedupI l).Pairwise (· < ·)
  | [], _ => List.Pairwise.nil
  | [y], _ => List.pairwise_singleton _ _
  | y :: z :: r, h => by
    rw [List.pairwise_cons] at h
    unfold dedupI
    split
    · exact dedup_pwN h.2
    · rename_i e
      refine List.pairwise_cons.mpr ⟨fun w hw => ?_, dedup_pwN h.2⟩
      rw [dedup_memN] at hw
      have h1 := h.1 z (List.mem_cons_self ..)
      rcases List.mem_cons.mp hw with q | q
      · omega
      · have := (List.pairwise_cons.mp h.2).1 w q
        omega
theorem dedup_le : ∀ l : List Int, (dedupI l).length ≤ l.length
  | [] => Nat.le_refl _
  | [y] => Nat.le_refl _
  | y :: z :: r => by
    unfold dedupI
    have := dedup_le (z :: r)
    split
    · simp only [List.length_cons] at this ⊢; omega
    · simp only [List.length_cons] at this ⊢; omega
/-- the items of a set, in order -/
def dd (l : List Int) : List Int := dedupI (sortI l)
theorem dd_mem {x : Int} {l : List Int} : x ∈ dd l ↔ x ∈ l := by unfold dd; rw [dedup_memN, sortI_mem]
theorem dd_pos {l : List Int} (h : l ≠ []) : 0 < (dd l).length := by
  obtain ⟨x, r, rfl⟩ := List.exists_cons_of_ne_nil h
  exact List.length_pos_of_mem (dd_mem.mpr (List.mem_cons_self ..))
/-- a set of places, in order -/
theorem dd_nat (p : List Nat) : ∃ N : List Nat, dd (p.map fun (k : Nat) => (k : Int)) = N.map (fun (k : Nat) => (k : Int)) ∧ N.Nodup ∧ N.length ≤ p.length ∧ ∀ x, x ∈ N ↔ x ∈ p := by
  have hm : ∀ z ∈ dd (p.map fun (k : Nat) => (k : Int)), ∃ k ∈ p, z = (k : Nat) := fun z hz => by
    obtain ⟨k, hk, e⟩ := List.mem_map.mp (dd_mem.mp hz)
    exact ⟨k, hk, e.symm⟩
  have e1 : dd (p.map fun (k : Nat) => (k : Int)) = ((dd (p.map fun (k : Nat) => (k : Int))).map Int.toNat).map (fun (k : Nat) => (k : Int)) := by
    rw [List.map_map]
    conv => lhs; rw [← List.map_id (dd (p.map fun (k : Nat) => (k : Int)))]
    refine List.map_congr_left fun z hz => ?_
    obtain ⟨k, _, rfl⟩ := hm z hz
    rfl
  have pw : (dd (p.map fun (k : Nat) => (k : Int))).Pairwise (· < ·) := dedup_pwN (sortI_pair _)
  have mem : ∀ x, x ∈ (dd (p.map fun (k : Nat) => (k : Int))).map Int.toNat ↔ x ∈ p := fun x => by
    rw [List.mem_map]
    constructor
    · rintro ⟨z, hz, rfl⟩
      obtain ⟨k, hk, rfl⟩ := hm z hz
      exact hk
    · intro hx
      exact ⟨(x : Int), dd_mem.mpr (List.mem_map.mpr ⟨x, hx, rfl⟩), by simp⟩
  refine ⟨(dd (p.map fun (k : Nat) => (k : Int))).map Int.toNat, e1, ?_, ?_, mem⟩
  · rw [List.nodup_iff_pairwise_ne, List.pairwise_map]
    refine List.Pairwise.imp_of_mem (fun {a b} ha hb hab e => ?_) pw
    obtain ⟨k, _, rfl⟩ := hm a ha
    obtain ⟨j, _, rfl⟩ := hm b hb
    simp at e
    omega
  · rw [List.length_map]
    have : (dedupI (sortI (p.map fun (k : Nat) => (k : Int)))).length ≤ (sortI (p.map fun (k : Nat) => (k : Int))).length := dedup_le _
    rw [(sortI_permN _).length_eq, List.length_map] at this
    exact this
theorem dd_one {x : Int} {r : List Int} (h : (dd (x :: r)).length = 1) : dd (x :: r) = [x] := by
  have hx : x ∈ dd (x :: r) := dd_mem.mpr (List.mem_cons_self ..)
  cases e : dd (x :: r) with
  | nil => rw [e] at h; cases h
  | cons y t =>
    cases t with
    | nil =>
      rw [e, List.mem_singleton] at hx
      rw [hx]
    | cons z t => rw [e] at h; simp at h
section
variable {h : Mem}
theorem setI_lst {n : Nat} {l : List Int} (e : lstAt h n = some (l.map .int)) (hl : l.length < 62) : setI h (.loc n) = some (dd l) := by
  show (match (lstAt h n).bind allInt with
  | some ns => if ns.length < 62 then some (dedupI (sortI ns)) else none
  | none => none) = _
  rw [e, Option.bind_some, allInt_ints]
  dsimp only
  rw [if_pos hl]
  rfl
@[simp] theorem bltB_sset {vs : List PV} : bltB h .sset vs = ssetB h vs := rfl
@[simp] theorem bltB_lset {vs : List PV} : bltB h .lset vs = lsetB h vs := rfl
theorem sset_lst {n : Nat} {l : List Int} (e : lstAt h n = some (l.map .int)) (hl : l.length < 62) : ssetB h [.loc n] = .ok (.loc h.length, h ++ [.lst ((dd l).map .int)]) := by
  show (match setI h (.loc n) with
    | some ns => Res.ok (PV.loc h.length, h ++ [PO.lst (ns.map .int)])
    | none => .err) = _
  rw [setI_lst e hl]
theorem lset_lst {n : Nat} {l : List Int} (e : lstAt h n = some (l.map .int)) (hl : l.length < 62) : lsetB h [.loc n] = .ok (.int (dd l).length, h) := by
  show (match setI h (.loc n) with
    | some ns => Res.ok (PV.int ns.length, h)
    | none => .err) = _
  rw [setI_lst e hl]
end
theorem sset_new {h : Mem} {l : List Int} (hl : l.length < 62) : ssetB (h ++ [.lst (l.map .int)]) [.loc h.length] = .ok (.loc (h.length + 1), h ++ [.lst (l.map .int)] ++ [.lst ((dd l).map .int)]) := by
  rw [sset_lst lstAt_new hl, List.length_append]
  rfl
theorem lset_new {h : Mem} {l : List Int} (hl : l.length < 62) : lsetB (h ++ [.lst (l.map .int)]) [.loc h.length] = .ok (.int (dd l).length, h ++ [.lst (l.map .int)]) := lset_lst lstAt_new hl
/-- how long the rounds are, as whole numbers -/
def il (l : List (List Nat)) : List Int := l.map fun r => (r.length : Int)
theorem il_map (l : List (List Nat)) : l.map (fun r => PV.int (r.length : Int)) = (il l).map .int := by unfold il; rw [List.map_map]; rfl
theorem il_len (l : List (List Nat)) : (il l).length = l.length := by unfold il; simp
end Dp
set_option linter.all false
set_option Elab.async false
set_option maxRecDepth 100000
/-! Dq6: try with one clause. -/
namespace Dp
theorem ws_seq {c : Cfg} {env : Env} {h : Mem} {D : Po} {s : S} {ss : Ss} (w : ws (evS c s env h) { D with nx := fun e h1 => ws (evSs c ss e h1) D }) : ws (evSs c (.cons s ss) env h) D := by
  rw [ws_cons]
  exact w
/-- three statements: draws, laps, the end -/
theorem three {c : Cfg} {env : Env} {h : Mem} {S0 S1 S2 : S} {P1 P2 : Env → Mem → Prop} {Q : PV → Mem → Prop} (A : ws (evS c S0 env h) { nx := P1 }) (B : ∀ e m, P1 e m → ws (evS c S1 e m) { nx := P2 }) (C : ∀ e m, P2 e m → ws (evS c S2 e m) { rt := Q }) : ws (evSs c (.cons S0 (.cons S1 (.cons S2 .nil))) env h) { rt := Q } := by
  refine ws_seq (A.imp (fun e m h => ?_) (fun _ _ h => h.elim) (fun _ _ h => h.elim) (fun _ _ h => h.elim))
  refine ws_seq ((B e m h).imp (fun e m h => ?_) (fun _ _ h => h.elim) (fun _ _ h => h.elim) (fun _ _ h => h.elim))
  exact ws_seq ((C e m h).imp (fun _ _ h => h.elim) (fun u m h => h) (fun _ _ h => h.elim) (fun _ _ h => h.elim))
theorem wp_bl {r : RE} (w : wp r fun q => q.1 = .bl true) : ∃ m, r = .ok (.bl true, m) := by
  obtain ⟨⟨v, m⟩, e, h⟩ := w.to
  dsimp only at h
  subst h
  exact ⟨m, e⟩
/-- told, and not looked into -/
structure Bx (P : Prop) : Prop where
  h : P
/-- a law of three statements -/
theorem law3 {tab : Nat → Option Fn} {k f : Nat} {fn : Fn} {xs : List PV} {S0 S1 S2 : S} {env : Env} {P1 P2 : Env → Mem → Prop} (t : tab f = some fn) (hn : fn.np = 1) (hb : fn.body = .cons S0 (.cons S1 (.cons S2 .nil))) (he : startB fn [.loc 0] = env)
    (A : Bx (ws (evS ⟨callAt tab k, fun i => (tab i).isSome, 1⟩ S0 env [.ro xs]) { nx := P1 })) (B : Bx (∀ e m, P1 e m → ws (evS ⟨callAt tab k, fun i => (tab i).isSome, 1⟩ S1 e m) { nx := P2 })) (C : Bx (∀ e m, P2 e m → ws (evS ⟨callAt tab k, fun i => (tab i).isSome, 1⟩ S2 e m) { rt := fun u _ => u = .bl true })) :
    ∃ m, callAt tab (k + 1) f [.loc 0] [.ro xs] = .ok (.bl true, m) := by
  refine wp_bl (call_loc t hn.symm rfl ?_)
  rw [hb, he]
  refine ws.imp (three A.h B.h C.h) (fun _ _ h => h) (fun u m h => ?_) (fun _ _ h => h) (fun _ _ h => h)
  have h : u = .bl true := h
  rw [h]
  exact ⟨rfl, rfl⟩
def noXo (o : Option PV) : Bool := match o with
  | some (.exn _) => false
  | _ => true
theorem noX_all (env : Env) : noX env = env.all noXo := by
  unfold noX
  congr 1
theorem noX_iff {env : Env} : noX env = true ↔ ∀ o ∈ env, noXo o = true := by rw [noX_all, List.all_eq_true]
theorem noX_set {env : Env} {i : Nat} {o : Option PV} (h : noX env = true) (ho : noXo o = true) : noX (env.set i o) = true := by
  rw [noX_iff] at h ⊢
  intro x hx
  rcases List.mem_or_eq_of_mem_set hx with q | q
  · exact h x q
  · rw [q]; exact ho
section
variable {c : Cfg} {env : Env} {h h2 : Mem} {D : Po} {f i j n k : Nat} {v u : PV} {hs : Hs}
/-- a body that ends well -/
theorem try_ok {b : Ss} {e2 : Env} (q : evSs c b env h = .nxt e2 h2) (w : D.nx e2 h2) : ws (evS c (.try_ b hs) env h) D := by
  rw [ws_try, q]
  exact w
/-- a body that raises what the one clause takes -/
theorem try_caught {b : Ss} (q : evSs c b env h = .exc k env h2) (hx : noX env = true) (hn : n < env.length) (hi : i < env.length) (hin : i ≠ n) (hk : k ≠ 6) (w : D.nx (((env.set n (some (.exn k))).set i (some (.bl true))).set n none) h2) :
    ws (evS c (.try_ b (.cons k (some n) (.cons (.asg (.pat (.name i)) (.isX n 0)) .nil) .nil)) env h) D := by
  rw [ws_try, q]
  have e1 : (env.set n (some (.exn k)))[n]? = some (some (.exn k)) := by rw [List.getElem?_set_self hn]
  have e2 : evSs c (.cons (.asg (.pat (.name i)) (.isX n 0)) .nil) (env.set n (some (.exn k))) h2 = .nxt ((env.set n (some (.exn k))).set i (some (.bl true))) h2 := by
    have hb : (k == 0 || ((0 : Nat) == 0 && k != 6)) = true := by simp [hk]
    simp only [evSs, evS, evE, fin, e1, Res.sr_ok, storeT, asgN, Bool.false_eq_true, if_false, hb, List.length_set, if_pos hi]
  have e3 : noX (((env.set n (some (.exn k))).set i (some (.bl true))).set n none) = true := by
    have : ((env.set n (some (.exn k))).set i (some (.bl true))).set n none = (env.set i (some (.bl true))).set n none := by
      rw [List.set_comm _ _ hin, List.set_set, List.set_comm _ _ (Ne.symm hin)]
    rw [this]
    exact noX_set (noX_set hx rfl) rfl
  show ws (evH c k _ env h2) D
  unfold evH
  rw [if_pos (by simp)]
  dsimp only
  rw [if_pos hx, e2]
  unfold SR.drop
  dsimp only
  rw [if_pos e3]
  exact w
/-- a call with one argument by name, told to a name -/
theorem asg_callK {b : Ss} (hb : b = .cons (.asg (.pat (.name i)) (.callK f .nil (.cons (.var j) .nil) [0])) .nil) (hj : env[j]? = some (some v)) (hv : ∀ c, v ≠ .exn c) (hf : c.has f = true) (hi : i < env.length) (q : c.call f [v] h = .ok (u, h2)) :
    evSs c b env h = .nxt (env.set i (some u)) h2 := by
  subst hb
  have e1 : evE c env false (.var j) h = .ok (v, h) := by
    unfold evE
    rw [hj]
    cases v <;> first | rfl | exact absurd rfl (hv _)
  simp only [evSs, evS]
  have e2 : evE c env false (.callK f .nil (.cons (.var j) .nil) [0]) h = .ok (u, h2) := by
    unfold evE
    rw [if_pos hf]
    simp only [evEs, e1, Res.bd_ok]
    simp [fin, q]
  rw [e2]
  simp only [Res.sr_ok, storeT, asgN, if_pos hi]
theorem asg_callK_exc {b : Ss} (hb : b = .cons (.asg (.pat (.name i)) (.callK f .nil (.cons (.var j) .nil) [0])) .nil) (hj : env[j]? = some (some v)) (hv : ∀ c, v ≠ .exn c) (hf : c.has f = true) (q : c.call f [v] h = .exc k h2) :
    evSs c b env h = .exc k env h2 := by
  subst hb
  have e1 : evE c env false (.var j) h = .ok (v, h) := by
    unfold evE
    rw [hj]
    cases v <;> first | rfl | exact absurd rfl (hv _)
  simp only [evSs, evS]
  have e2 : evE c env false (.callK f .nil (.cons (.var j) .nil) [0]) h = .exc k h2 := by
    unfold evE
    rw [if_pos hf]
    simp only [evEs, e1, Res.bd_ok]
    simp [fin, q]
  rw [e2]
  rfl
end
end Dp
set_option Elab.async false
set_option linter.all false
set_option maxRecDepth 100000
namespace Dp
namespace K40
def c_is_number : Fn := ⟨1, 1, (.cons (.ret (.and (.blt (.isi .int) (.cons (.var 0) .nil)) (.not (.blt (.isi .bool) (.cons (.var 0) .nil)))))
   .nil)⟩
def c_is_long : Fn := ⟨2, 2, (.cons (.ret (.and (.blt (.isi .tuple) (.cons (.var 0) .nil)) (.cmp .eq (.blt .len (.cons (.var 0) .nil)) (.var 1))))
   .nil)⟩
def c_are_numbers : Fn := ⟨1, 2, (.cons (.ret (.and (.blt (.isi .tuple) (.cons (.var 0) .nil)) (.blt .all (.cons (.lc (.name 1) [1] (.plain (.var 0)) .no (.call 132 (.cons (.var 1) .nil))) .nil))))
   .nil)⟩
def c_tupled : Fn := ⟨1, 2, (.cons (.ret (.ite (.blt (.isi .seq) (.cons (.var 0) .nil)) (.blt .tuple (.cons (.lc (.name 1) [1] (.plain (.var 0)) .no (.call 287 (.cons (.var 1) .nil))) .nil)) (.var 0)))
   .nil)⟩
def c_is_shuffle_of : Fn := ⟨2, 2, (.cons (.ret (.and (.call 123 (.cons (.var 1) (.cons (.var 0) .nil))) (.and (.call 67 (.cons (.var 1) .nil)) (.cmp .eq (.blt .sorted (.cons (.var 1) .nil)) (.blt .list (.cons (.blt .range (.cons (.var 0) .nil)) .nil))))))
   .nil)⟩
def s_undone_0 : Ss := (.cons (.asg (.ix (.var 1) (.var 3)) (.var 2))
   .nil)
def c_undone : Fn := ⟨1, 4, (.cons (.asg (.pat (.name 1)) (.bin .mul (.lst (.cons (.lit (.int 0)) .nil)) (.blt .len (.cons (.var 0) .nil))))
   (.cons (.for_ (.tup (.cons (.name 2) (.cons (.name 3) .nil))) (.enum (.var 0))
   s_undone_0)
   (.cons (.ret (.blt .tuple (.cons (.var 1) .nil)))
   .nil)))⟩
def c_then : Fn := ⟨2, 3, (.cons (.ret (.blt .tuple (.cons (.lc (.name 2) [2] (.plain (.var 0)) .no (.ix (.var 1) (.var 2))) .nil)))
   .nil)⟩
def s_rounds_of_0 : Ss := (.cons (.asg (.ix (.var 3) (.var 5)) (.lit (.bl true)))
   (.cons (.expr (.mth .append (.var 4) (.cons (.var 5) .nil)))
   (.cons (.asg (.pat (.name 5)) (.ix (.var 0) (.var 5)))
   .nil)))
def s_rounds_of_1 : Ss := (.cons (.asg (.pat (.tup (.cons (.name 4) (.cons (.name 5) .nil)))) (.tup (.cons (.lst .nil) (.cons (.var 1) .nil))))
   (.cons (.while_ (.cmp .nmem (.var 5) (.var 3))
   s_rounds_of_0)
   (.cons (.expr (.mth .append (.var 2) (.cons (.blt .tuple (.cons (.var 4) .nil)) .nil)))
   .nil)))
def s_rounds_of_2 : Ss := (.cons (.ite (.cmp .nmem (.var 1) (.var 3))
   s_rounds_of_1
   .nil)
   .nil)
def c_rounds_of : Fn := ⟨1, 6, (.cons (.asg (.pat (.tup (.cons (.name 2) (.cons (.name 3) .nil)))) (.tup (.cons (.lst .nil) (.cons (.dct .nil) .nil))))
   (.cons (.for_ (.name 1) (.plain (.blt .range (.cons (.blt .len (.cons (.var 0) .nil)) .nil)))
   s_rounds_of_2)
   (.cons (.ret (.var 2))
   .nil)))⟩
def s_comes_to_all_0 : Ss := (.cons (.ite (.cmp .nmem (.ix (.var 5) (.var 4)) (.var 2))
   (.cons (.asg (.ix (.var 2) (.ix (.var 5) (.var 4))) (.lit (.bl true)))
   (.cons (.expr (.mth .append (.var 3) (.cons (.ix (.var 5) (.var 4)) .nil)))
   .nil))
   .nil)
   .nil)
def s_comes_to_all_1 : Ss := (.cons (.asg (.pat (.name 4)) (.mth .pop (.var 3) .nil))
   (.cons (.for_ (.name 5) (.plain (.var 1))
   s_comes_to_all_0)
   .nil))
def c_comes_to_all : Fn := ⟨2, 6, (.cons (.asg (.pat (.tup (.cons (.name 2) (.cons (.name 3) .nil)))) (.tup (.cons (.dct (.cons (.lit (.int 0)) (.cons (.lit (.bl true)) .nil))) (.cons (.lst (.cons (.lit (.int 0)) .nil)) .nil))))
   (.cons (.while_ (.cmp .ne (.var 3) (.lst .nil))
   s_comes_to_all_1)
   (.cons (.ret (.cmp .eq (.blt .len (.cons (.var 2) .nil)) (.var 0)))
   .nil)))⟩
def c_is_map_in : Fn := ⟨1, 3, (.cons (.ite (.or (.not (.blt (.isi .tuple) (.cons (.var 0) .nil))) (.or (.cmp .ne (.blt .len (.cons (.var 0) .nil)) (.lit (.int 2))) (.or (.not (.blt (.isi .tuple) (.cons (.ix (.var 0) (.lit (.int 0))) .nil))) (.cmp .lt (.blt .len (.cons (.ix (.var 0) (.lit (.int 0))) .nil)) (.lit (.int 2))))))
   (.cons (.ret (.lit (.bl false)))
   .nil)
   .nil)
   (.cons (.asg (.pat (.name 1)) (.blt .len (.cons (.ix (.var 0) (.lit (.int 0))) .nil)))
   (.cons (.ite (.or (.not (.call 141 (.cons (.var 1) (.cons (.ix (.var 0) (.lit (.int 0))) .nil)))) (.not (.call 141 (.cons (.var 1) (.cons (.ix (.var 0) (.lit (.int 1))) .nil)))))
   (.cons (.ret (.lit (.bl false)))
   .nil)
   .nil)
   (.cons (.ite (.blt .any (.cons (.lc (.name 2) [2] (.plain (.blt .range (.cons (.var 1) .nil))) .no (.or (.cmp .eq (.ix (.ix (.var 0) (.lit (.int 1))) (.var 2)) (.var 2)) (.cmp .ne (.ix (.ix (.var 0) (.lit (.int 1))) (.ix (.ix (.var 0) (.lit (.int 1))) (.var 2))) (.var 2)))) .nil))
   (.cons (.ret (.lit (.bl false)))
   .nil)
   .nil)
   (.cons (.ret (.call 78 (.cons (.var 1) (.cons (.var 0) .nil))))
   .nil)))))⟩
def c_is_map : Fn := ⟨1, 1, (.cons (.ret (.call 127 (.cons (.var 0) .nil)))
   .nil)⟩
def c_sure_map : Fn := ⟨1, 2, (.cons (.asg (.pat (.name 1)) (.call 287 (.cons (.var 0) .nil)))
   (.cons (.ite (.or (.not (.call 127 (.cons (.var 1) .nil))) (.cmp .gt (.blt .len (.cons (.ix (.var 1) (.lit (.int 0))) .nil)) (.lit (.int 60))))
   (.cons (.raise 3)
   .nil)
   .nil)
   (.cons (.ret (.var 1))
   .nil)))⟩
def c_faced : Fn := ⟨1, 1, (.cons (.ret (.call 282 (.cons (.ix (.var 0) (.lit (.int 0))) (.cons (.ix (.var 0) (.lit (.int 1))) .nil))))
   .nil)⟩
def c_map_points : Fn := ⟨1, 1, (.cons (.ret (.call 222 (.cons (.ix (.call 273 (.cons (.var 0) .nil)) (.lit (.int 0))) .nil)))
   .nil)⟩
def c_map_sides : Fn := ⟨1, 1, (.cons (.ret (.call 222 (.cons (.ix (.call 273 (.cons (.var 0) .nil)) (.lit (.int 1))) .nil)))
   .nil)⟩
def c_map_faces : Fn := ⟨1, 1, (.cons (.ret (.call 222 (.cons (.call 89 (.cons (.call 273 (.cons (.var 0) .nil)) .nil)) .nil)))
   .nil)⟩
def c_handles_in : Fn := ⟨1, 1, (.cons (.ret (.bin .fdiv (.bin .sub (.bin .add (.bin .sub (.lit (.int 2)) (.blt .len (.cons (.call 222 (.cons (.ix (.var 0) (.lit (.int 0))) .nil)) .nil))) (.bin .fdiv (.blt .len (.cons (.ix (.var 0) (.lit (.int 0))) .nil)) (.lit (.int 2)))) (.blt .len (.cons (.call 222 (.cons (.call 89 (.cons (.var 0) .nil)) .nil)) .nil))) (.lit (.int 2))))
   .nil)⟩
def c_map_handles : Fn := ⟨1, 1, (.cons (.ret (.call 103 (.cons (.call 273 (.cons (.var 0) .nil)) .nil)))
   .nil)⟩
def c_map_type : Fn := ⟨1, 5, (.cons (.asg (.pat (.name 1)) (.call 273 (.cons (.var 0) .nil)))
   (.cons (.asg (.pat (.name 2)) (.blt .sset (.cons (.lc (.name 4) [4] (.plain (.call 222 (.cons (.call 89 (.cons (.var 1) .nil)) .nil))) .no (.blt .len (.cons (.var 4) .nil))) .nil)))
   (.cons (.asg (.pat (.name 3)) (.blt .sset (.cons (.lc (.name 4) [4] (.plain (.call 222 (.cons (.ix (.var 1) (.lit (.int 0))) .nil))) .no (.blt .len (.cons (.var 4) .nil))) .nil)))
   (.cons (.ite (.or (.cmp .gt (.blt .len (.cons (.var 2) .nil)) (.lit (.int 1))) (.cmp .gt (.blt .len (.cons (.var 3) .nil)) (.lit (.int 1))))
   (.cons (.raise 1)
   .nil)
   .nil)
   (.cons (.ret (.tup (.cons (.ix (.var 2) (.lit (.int 0))) (.cons (.ix (.var 3) (.lit (.int 0))) .nil))))
   .nil)))))⟩
def c_map_turned : Fn := ⟨1, 2, (.cons (.asg (.pat (.name 1)) (.call 273 (.cons (.var 0) .nil)))
   (.cons (.ret (.tup (.cons (.call 89 (.cons (.var 1) .nil)) (.cons (.ix (.var 1) (.lit (.int 1))) .nil))))
   .nil))⟩
def c_map_mirrored : Fn := ⟨1, 2, (.cons (.asg (.pat (.name 1)) (.call 273 (.cons (.var 0) .nil)))
   (.cons (.ret (.tup (.cons (.call 290 (.cons (.ix (.var 1) (.lit (.int 0))) .nil)) (.cons (.ix (.var 1) (.lit (.int 1))) .nil))))
   .nil))⟩
def c__law_box : Fn := ⟨2, 3, (.cons (.asg (.pat (.name 2)) (.ite (.cmp .lt (.var 1) (.blt .len (.cons (.var 0) .nil))) (.ix (.var 0) (.var 1)) (.lit (.int 0))))
   (.cons (.ret (.lst (.cons (.bin .mul (.blt .abs (.cons (.var 2) .nil)) (.blt .int (.cons (.cmp .ge (.blt .abs (.cons (.var 2) .nil)) (.bin .pow (.lit (.int 10)) (.lit (.int 18)))) .nil))) (.cons (.bin .add (.bin .add (.bin .mod (.blt .int (.cons (.var 2) .nil)) (.lit (.int 2305843009213693951))) (.bin .mul (.lit (.int 39373)) (.var 1))) (.lit (.int 251700))) (.cons (.lit (.int 0)) .nil)))))
   .nil))⟩
def s__law_take_0 : Ss := (.cons (.asg (.pat (.name 5)) (.bin .mod (.blt .int (.cons (.ix (.var 0) (.lit (.int 0))) .nil)) (.var 1)))
   (.cons (.asg (.ix (.var 0) (.lit (.int 0))) (.bin .fdiv (.ix (.var 0) (.lit (.int 0))) (.var 1)))
   (.cons (.ret (.var 5))
   .nil)))
def c__law_take : Fn := ⟨2, 6, (.cons (.ite (.cmp .gt (.ix (.var 0) (.lit (.int 0))) (.lit (.int 0)))
   s__law_take_0
   .nil)
   (.cons (.asg (.ix (.var 0) (.lit (.int 2))) (.bin .add (.ix (.var 0) (.lit (.int 2))) (.lit (.int 1))))
   (.cons (.asg (.pat (.name 2)) (.bin .mod (.blt .int (.cons (.bin .mul (.bin .add (.ix (.var 0) (.lit (.int 1))) (.bin .mul (.lit (.int 48271)) (.ix (.var 0) (.lit (.int 2))))) (.bin .add (.lit (.int 39373)) (.ix (.var 0) (.lit (.int 2))))) .nil)) (.lit (.int 2147483647))))
   (.cons (.asg (.pat (.name 3)) (.bin .add (.bin .mod (.blt .int (.cons (.var 2) .nil)) (.lit (.int 40009))) (.lit (.int 7))))
   (.cons (.asg (.pat (.name 4)) (.bin .mod (.blt .int (.cons (.bin .mul (.bin .add (.bin .add (.var 2) (.ix (.var 0) (.lit (.int 2)))) (.bin .fdiv (.ix (.var 0) (.lit (.int 1))) (.lit (.int 1000003)))) (.var 3)) .nil)) (.lit (.int 2147483629))))
   (.cons (.ret (.bin .mod (.blt .int (.cons (.bin .fdiv (.bin .mod (.blt .int (.cons (.bin .add (.bin .mul (.var 4) (.lit (.int 48271))) (.var 2)) .nil)) (.lit (.int 2147483587))) (.lit (.int 64))) .nil)) (.var 1)))
   .nil))))))⟩
def s__law_cells_0 : Ss := (.cons (.asg (.pat (.name 5)) (.bin .mod (.blt .int (.cons (.var 3) .nil)) (.var 1)))
   (.cons (.asg (.ix (.var 2) (.var 5)) (.bin .add (.ix (.var 2) (.var 5)) (.bin .mul (.var 4) (.bin .add (.var 3) (.lit (.int 2))))))
   .nil))
def c__law_cells : Fn := ⟨2, 6, (.cons (.asg (.pat (.name 2)) (.or (.blt .list (.cons (.sl (.var 0) .no (.one (.var 1)) .no) .nil)) (.lst (.cons (.lit (.int 0)) .nil))))
   (.cons (.for_ (.tup (.cons (.name 3) (.cons (.name 4) .nil))) (.enum (.sl (.var 0) (.one (.var 1)) (.one (.lit (.int 63))) .no))
   s__law_cells_0)
   (.cons (.ret (.var 2))
   .nil)))⟩
def s__law_pick_0 : Ss := (.cons (.expr (.mth .append (.var 5) (.cons (.mth .pop (.var 4) (.cons (.call 47 (.cons (.var 0) (.cons (.blt .len (.cons (.var 4) .nil)) .nil))) .nil)) .nil)))
   .nil)
def c__law_pick : Fn := ⟨3, 6, (.cons (.asg (.pat (.tup (.cons (.name 4) (.cons (.name 5) .nil)))) (.tup (.cons (.blt .list (.cons (.var 1) .nil)) (.cons (.lst .nil) .nil))))
   (.cons (.for_ (.name 3) (.plain (.blt .range (.cons (.blt .min (.cons (.blt .int (.cons (.var 2) .nil)) (.cons (.blt .len (.cons (.var 4) .nil)) .nil))) .nil)))
   s__law_pick_0)
   (.cons (.ret (.var 5))
   .nil)))⟩
def c__law_lists : Fn := ⟨1, 2, (.cons (.ret (.ite (.blt (.isi .seq) (.cons (.var 0) .nil)) (.lc (.name 1) [1] (.plain (.var 0)) .no (.call 26 (.cons (.var 1) .nil))) (.var 0)))
   .nil)⟩
def c__law_same : Fn := ⟨2, 4, (.cons (.ite (.blt (.isi .seq) (.cons (.var 1) .nil))
   (.cons (.ite (.or (.cmp .ne (.blt (.isi .list) (.cons (.var 0) .nil)) (.blt (.isi .list) (.cons (.var 1) .nil))) (.cmp .ne (.blt (.isi .tuple) (.cons (.var 0) .nil)) (.blt (.isi .tuple) (.cons (.var 1) .nil))))
   (.cons (.ret (.lit (.bl false)))
   .nil)
   .nil)
   (.cons (.ret (.and (.cmp .eq (.blt .len (.cons (.var 0) .nil)) (.blt .len (.cons (.var 1) .nil))) (.blt .all (.cons (.lc (.tup (.cons (.name 2) (.cons (.name 3) .nil))) [2, 3] (.zip (.var 0) (.var 1)) .no (.call 39 (.cons (.var 2) (.cons (.var 3) .nil)))) .nil))))
   .nil))
   .nil)
   (.cons (.ite (.cmp .isN (.var 1) (.lit .non))
   (.cons (.ret (.cmp .isN (.var 0) (.lit .non)))
   .nil)
   .nil)
   (.cons (.ite (.blt (.isi .bs) (.cons (.var 1) .nil))
   (.cons (.ret (.and (.cmp .eq (.blt (.isi .bool) (.cons (.var 0) .nil)) (.blt (.isi .bool) (.cons (.var 1) .nil))) (.and (.cmp .eq (.blt (.isi .str) (.cons (.var 0) .nil)) (.blt (.isi .str) (.cons (.var 1) .nil))) (.cmp .eq (.var 0) (.var 1)))))
   .nil)
   .nil)
   (.cons (.ret (.and (.blt (.isi .int) (.cons (.var 0) .nil)) (.and (.not (.blt (.isi .bool) (.cons (.var 0) .nil))) (.cmp .eq (.var 0) (.var 1)))))
   .nil))))⟩
def c__law_then : Fn := ⟨2, 3, (.cons (.ret (.blt .tuple (.cons (.lc (.name 2) [2] (.plain (.var 0)) .no (.ix (.var 1) (.var 2))) .nil)))
   .nil)⟩
def c__law_undone : Fn := ⟨1, 2, (.cons (.ret (.blt .tuple (.cons (.lc (.name 1) [1] (.plain (.blt .range (.cons (.blt .len (.cons (.var 0) .nil)) .nil))) .no (.mth .index (.var 0) (.cons (.var 1) .nil))) .nil)))
   .nil)⟩
def s__law_rounds_0 : Ss := (.cons (.ite (.cmp .mem (.var 6) (.var 5))
   (.cons .brk
   .nil)
   .nil)
   (.cons (.expr (.mth .append (.var 5) (.cons (.var 6) .nil)))
   (.cons (.asg (.pat (.name 6)) (.ix (.var 0) (.var 6)))
   .nil)))
def s__law_rounds_1 : Ss := (.cons (.asg (.pat (.tup (.cons (.name 5) (.cons (.name 6) .nil)))) (.tup (.cons (.lst .nil) (.cons (.var 1) .nil))))
   (.cons (.for_ (.name 4) (.plain (.blt .range (.cons (.blt .len (.cons (.var 0) .nil)) .nil)))
   s__law_rounds_0)
   (.cons (.expr (.mth .append (.var 2) (.cons (.blt .tuple (.cons (.var 5) .nil)) .nil)))
   (.cons (.asg (.pat (.name 3)) (.bin .add (.var 3) (.var 5)))
   .nil))))
def s__law_rounds_2 : Ss := (.cons (.ite (.cmp .nmem (.var 1) (.var 3))
   s__law_rounds_1
   .nil)
   .nil)
def c__law_rounds : Fn := ⟨1, 7, (.cons (.asg (.pat (.tup (.cons (.name 2) (.cons (.name 3) .nil)))) (.tup (.cons (.lst .nil) (.cons (.lst .nil) .nil))))
   (.cons (.for_ (.name 1) (.plain (.blt .range (.cons (.blt .len (.cons (.var 0) .nil)) .nil)))
   s__law_rounds_2)
   (.cons (.ret (.var 2))
   .nil)))⟩
def s__law_map_0 : Ss := (.cons (.asg (.pat (.name 8)) (.bin .add (.var 8) (.lc (.name 4) [4] (.plain (.blt .sset (.cons (.lc (.name 12) [12] (.plain (.var 8)) .no (.ix (.var 11) (.var 12))) .nil))) (.one (.cmp .nmem (.var 4) (.var 8))) (.var 4))))
   .nil)
def s__law_map_1 : Ss := (.cons (.for_ (.name 11) (.plain (.tup (.cons (.var 7) (.cons (.var 6) .nil))))
   s__law_map_0)
   .nil)
def s__law_map_2 : Ss := (.cons (.asg (.pat (.name 8)) (.lst (.cons (.lit (.int 0)) .nil)))
   (.cons (.for_ (.name 9) (.plain (.blt .range (.cons (.var 2) .nil)))
   s__law_map_1)
   (.cons (.asg (.pat (.name 10)) (.lc (.name 4) [4] (.plain (.blt .range (.cons (.var 2) .nil))) (.one (.cmp .nmem (.var 4) (.var 8))) (.var 4)))
   (.cons (.ite (.cmp .eq (.var 10) (.lst .nil))
   (.cons .brk
   .nil)
   .nil)
   (.cons (.asg (.ix2 (.var 7) (.ix (.var 8) (.neg (.lit (.int 1)))) (.var 7) (.ix (.var 10) (.lit (.int 0)))) (.tup (.cons (.ix (.var 7) (.ix (.var 10) (.lit (.int 0)))) (.cons (.ix (.var 7) (.ix (.var 8) (.neg (.lit (.int 1))))) .nil))))
   .nil)))))
def s__law_map_3 : Ss := (.cons (.asg (.ix2 (.var 6) (.ix (.var 3) (.bin .mul (.lit (.int 2)) (.var 4))) (.var 6) (.ix (.var 3) (.bin .add (.bin .mul (.lit (.int 2)) (.var 4)) (.lit (.int 1))))) (.tup (.cons (.ix (.var 3) (.bin .add (.bin .mul (.lit (.int 2)) (.var 4)) (.lit (.int 1)))) (.cons (.ix (.var 3) (.bin .mul (.lit (.int 2)) (.var 4))) .nil))))
   .nil)
def c__law_map : Fn := ⟨2, 13, (.cons (.asg (.pat (.name 2)) (.bin .mul (.lit (.int 2)) (.var 1)))
   (.cons (.asg (.pat (.name 3)) (.call 35 (.cons (.var 0) (.cons (.blt .list (.cons (.blt .range (.cons (.var 2) .nil)) .nil)) (.cons (.var 2) .nil)))))
   (.cons (.asg (.pat (.tup (.cons (.name 6) (.cons (.name 7) .nil)))) (.tup (.cons (.bin .mul (.lst (.cons (.lit (.int 0)) .nil)) (.var 2)) (.cons (.call 35 (.cons (.var 0) (.cons (.blt .list (.cons (.blt .range (.cons (.var 2) .nil)) .nil)) (.cons (.var 2) .nil)))) .nil))))
   (.cons (.for_ (.name 4) (.plain (.blt .range (.cons (.var 1) .nil)))
   s__law_map_3)
   (.cons (.for_ (.name 5) (.plain (.blt .range (.cons (.var 2) .nil)))
   s__law_map_2)
   (.cons (.ret (.tup (.cons (.blt .tuple (.cons (.var 7) .nil)) (.cons (.blt .tuple (.cons (.var 6) .nil)) .nil))))
   .nil))))))⟩
def s_law_0 : Ss := (.cons (.asg (.pat (.name 3)) (.ite (.cmp .eq (.var 2) (.lit (.int 0))) (.tup (.cons (.tup (.cons (.lit (.int 0)) (.cons (.lit (.int 2)) (.cons (.lit (.int 1)) (.cons (.lit (.int 3)) .nil))))) (.cons (.tup (.cons (.lit (.int 1)) (.cons (.lit (.int 0)) (.cons (.lit (.int 3)) (.cons (.lit (.int 2)) .nil))))) .nil))) (.call 27 (.cons (.var 1) (.cons (.bin .add (.lit (.int 1)) (.call 47 (.cons (.var 1) (.cons (.lit (.int 12)) .nil)))) .nil)))))
   (.cons (.asg (.pat (.tup (.cons (.name 13) (.cons (.name 14) .nil)))) (.var 3))
   (.cons (.asg (.pat (.name 4)) (.call 49 (.cons (.var 13) (.cons (.var 14) .nil))))
   (.cons (.asg (.pat (.tup (.cons (.name 15) (.cons (.name 16) (.cons (.name 17) .nil))))) (.tup (.cons (.call 38 (.cons (.var 13) .nil)) (.cons (.call 38 (.cons (.var 14) .nil)) (.cons (.call 38 (.cons (.var 4) .nil)) .nil)))))
   (.cons (.asg (.pat (.name 5)) (.lst (.cons (.callK 126 .nil (.cons (.var 3) .nil) [0]) (.cons (.callK 183 .nil (.cons (.call 26 (.cons (.var 3) .nil)) .nil) [0]) (.cons (.callK 184 .nil (.cons (.var 3) .nil) [0]) (.cons (.callK 178 .nil (.cons (.var 3) .nil) [0]) (.cons (.bin .sub (.lit (.int 2)) (.bin .mul (.lit (.int 2)) (.callK 179 .nil (.cons (.var 3) .nil) [0]))) .nil)))))))
   (.cons (.ite (.or (.not (.call 39 (.cons (.var 5) (.cons (.lst (.cons (.lit (.bl true)) (.cons (.var 15) (.cons (.var 16) (.cons (.var 17) (.cons (.bin .add (.bin .sub (.blt .len (.cons (.var 15) .nil)) (.blt .len (.cons (.var 16) .nil))) (.blt .len (.cons (.var 17) .nil))) .nil)))))) .nil)))) (.cmp .lt (.call 179 (.cons (.var 3) .nil)) (.lit (.int 0))))
   (.cons (.ret (.lit (.bl false)))
   .nil)
   .nil)
   (.cons (.asg (.pat (.tup (.cons (.name 18) (.cons (.name 19) .nil)))) (.tup (.cons (.lit .non) (.cons (.lit .non) .nil))))
   (.cons (.try_ (.cons (.asg (.pat (.name 19)) (.callK 187 .nil (.cons (.var 3) .nil) [0]))
   .nil)
   (.cons 1 (some 6)
   (.cons (.asg (.pat (.name 18)) (.isX 6 0))
   .nil)
   .nil))
   (.cons (.asg (.pat (.name 7)) (.and (.cmp .eq (.blt .lset (.cons (.lc (.name 21) [21] (.plain (.var 15)) .no (.blt .len (.cons (.var 21) .nil))) .nil)) (.lit (.int 1))) (.cmp .eq (.blt .lset (.cons (.lc (.name 21) [21] (.plain (.var 17)) .no (.blt .len (.cons (.var 21) .nil))) .nil)) (.lit (.int 1)))))
   (.cons (.ite (.not (.call 39 (.cons (.lst (.cons (.var 19) (.cons (.var 18) .nil))) (.cons (.lst (.cons (.ite (.var 7) (.tup (.cons (.blt .len (.cons (.ix (.var 17) (.lit (.int 0))) .nil)) (.cons (.blt .len (.cons (.ix (.var 15) (.lit (.int 0))) .nil)) .nil))) (.lit .non)) (.cons (.ite (.var 7) (.lit .non) (.lit (.bl true))) .nil))) .nil))))
   (.cons (.ret (.lit (.bl false)))
   .nil)
   .nil)
   (.cons (.asg (.pat (.name 8)) (.callK 185 .nil (.cons (.var 3) .nil) [0]))
   (.cons (.asg (.pat (.name 5)) (.lst (.cons (.var 8) (.cons (.call 183 (.cons (.var 8) .nil)) (.cons (.call 178 (.cons (.var 8) .nil)) (.cons (.call 185 (.cons (.var 8) .nil)) (.cons (.call 179 (.cons (.var 8) .nil)) .nil)))))))
   (.cons (.ite (.not (.call 39 (.cons (.var 5) (.cons (.lst (.cons (.tup (.cons (.var 4) (.cons (.var 14) .nil))) (.cons (.var 17) (.cons (.var 15) (.cons (.var 3) (.cons (.call 179 (.cons (.var 3) .nil)) .nil)))))) .nil))))
   (.cons (.ret (.lit (.bl false)))
   .nil)
   .nil)
   (.cons (.asg (.pat (.name 9)) (.callK 181 .nil (.cons (.var 3) .nil) [0]))
   (.cons (.ite (.not (.call 39 (.cons (.lst (.cons (.var 9) (.cons (.call 181 (.cons (.var 9) .nil)) (.cons (.call 179 (.cons (.var 9) .nil)) (.cons (.blt .sorted (.cons (.lc (.name 21) [21] (.plain (.call 178 (.cons (.var 9) .nil))) .no (.blt .len (.cons (.var 21) .nil))) .nil)) .nil))))) (.cons (.lst (.cons (.tup (.cons (.call 53 (.cons (.var 13) .nil)) (.cons (.var 14) .nil))) (.cons (.var 3) (.cons (.call 179 (.cons (.var 3) .nil)) (.cons (.blt .sorted (.cons (.lc (.name 21) [21] (.plain (.var 17)) .no (.blt .len (.cons (.var 21) .nil))) .nil)) .nil))))) .nil))))
   (.cons (.ret (.lit (.bl false)))
   .nil)
   .nil)
   (.cons (.asg (.pat (.name 10)) (.call 47 (.cons (.var 1) (.cons (.blt .len (.cons (.var 13) .nil)) .nil))))
   (.cons (.asg (.pat (.name 11)) (.blt .tuple (.cons (.lc (.name 20) [20] (.plain (.blt .range (.cons (.blt .len (.cons (.var 14) .nil)) .nil))) .no (.ite (.cmp .mem (.var 20) (.tup (.cons (.var 10) (.cons (.ix (.var 14) (.var 10)) .nil)))) (.var 20) (.ix (.var 14) (.var 20)))) .nil)))
   (.cons (.asg (.pat (.name 12)) (.lst (.cons (.lit .non) (.cons (.tup .nil) (.cons (.sl (.var 3) .no (.one (.lit (.int 1))) .no) (.cons (.blt .list (.cons (.var 3) .nil)) (.cons (.tup (.cons (.var 13) (.cons (.blt .list (.cons (.var 14) .nil)) .nil))) (.cons (.tup (.cons (.var 13) (.cons (.var 11) .nil))) (.cons (.tup (.cons (.var 13) (.cons (.bin .add (.var 13) (.tup (.cons (.lit (.int 0)) .nil))) .nil))) (.cons (.tup (.cons (.bin .add (.var 13) (.tup (.cons (.blt .len (.cons (.var 13) .nil)) .nil))) (.cons (.bin .add (.var 14) (.tup (.cons (.blt .len (.cons (.var 13) .nil)) .nil))) .nil))) (.cons (.ite (.cmp .gt (.blt .len (.cons (.var 13) .nil)) (.lit (.int 2))) (.tup (.cons (.blt .tuple (.cons (.blt .range (.cons (.blt .len (.cons (.var 13) .nil)) .nil)) .nil)) (.cons (.var 14) .nil))) (.tup (.cons (.tup (.cons (.lit (.int 0)) .nil)) (.cons (.tup (.cons (.lit (.int 0)) .nil)) .nil)))) (.cons (.tup (.cons (.lit (.int 0)) (.cons (.lit (.int 1)) .nil))) .nil))))))))))))
   (.cons (.ite (.not (.call 39 (.cons (.lc (.name 21) [21] (.plain (.var 12)) .no (.call 126 (.cons (.var 21) .nil))) (.cons (.bin .mul (.lst (.cons (.lit (.bl false)) .nil)) (.lit (.int 10))) .nil))))
   (.cons (.ret (.lit (.bl false)))
   .nil)
   .nil)
   .nil)))))))))))))))))))
def c_law : Fn := ⟨1, 22, (.cons (.asg (.pat (.name 1)) (.call 7 (.cons (.call 9 (.cons (.var 0) (.cons (.lit (.int 1)) .nil))) (.cons (.lit (.int 0)) .nil))))
   (.cons (.for_ (.name 2) (.plain (.blt .range (.cons (.lit (.int 6)) .nil)))
   s_law_0)
   (.cons (.ret (.call 39 (.cons (.lst (.cons (.call 126 (.cons (.tup (.cons (.tup (.cons (.lit (.int 0)) (.cons (.lit (.int 1)) .nil))) (.cons (.tup (.cons (.lit (.int 1)) (.cons (.lit (.int 0)) .nil))) .nil))) .nil)) (.cons (.call 126 (.cons (.tup (.cons (.tup (.cons (.lit (.int 1)) (.cons (.lit (.int 0)) .nil))) (.cons (.tup (.cons (.lit (.int 1)) (.cons (.lit (.int 0)) .nil))) .nil))) .nil)) (.cons (.call 126 (.cons (.tup (.cons (.tup (.cons (.lit (.bl true)) (.cons (.lit (.int 0)) .nil))) (.cons (.tup (.cons (.lit (.int 1)) (.cons (.lit (.int 0)) .nil))) .nil))) .nil)) (.cons (.call 179 (.cons (.tup (.cons (.tup (.cons (.lit (.int 1)) (.cons (.lit (.int 2)) (.cons (.lit (.int 3)) (.cons (.lit (.int 0)) .nil))))) (.cons (.tup (.cons (.lit (.int 2)) (.cons (.lit (.int 3)) (.cons (.lit (.int 0)) (.cons (.lit (.int 1)) .nil))))) .nil))) .nil)) .nil))))) (.cons (.lst (.cons (.lit (.bl true)) (.cons (.lit (.bl true)) (.cons (.lit (.bl false)) (.cons (.lit (.int 1)) .nil))))) .nil))))
   .nil)))⟩
def cL : List (Nat × Fn) := [(132, c_is_number), (123, c_is_long), (67, c_are_numbers), (287, c_tupled), (141, c_is_shuffle_of), (290, c_undone), (282, c_then), (222, c_rounds_of), (78, c_comes_to_all), (127, c_is_map_in), (126, c_is_map), (273, c_sure_map), (89, c_faced), (183, c_map_points), (184, c_map_sides), (178, c_map_faces), (103, c_handles_in), (179, c_map_handles), (187, c_map_type), (185, c_map_turned), (181, c_map_mirrored), (7, c__law_box), (47, c__law_take), (9, c__law_cells), (35, c__law_pick), (26, c__law_lists), (39, c__law_same), (49, c__law_then), (53, c__law_undone), (38, c__law_rounds), (27, c__law_map), (161, c_law)]
def tab (f : Nat) : Option Fn := (cL.find? fun q => q.1 == f).map (·.2)
theorem t_is_number : tab 132 = some c_is_number := rfl
theorem h_is_number : (tab 132).isSome = true := rfl
theorem t_is_long : tab 123 = some c_is_long := rfl
theorem h_is_long : (tab 123).isSome = true := rfl
theorem t_are_numbers : tab 67 = some c_are_numbers := rfl
theorem h_are_numbers : (tab 67).isSome = true := rfl
theorem t_tupled : tab 287 = some c_tupled := rfl
theorem h_tupled : (tab 287).isSome = true := rfl
theorem t_is_shuffle_of : tab 141 = some c_is_shuffle_of := rfl
theorem h_is_shuffle_of : (tab 141).isSome = true := rfl
theorem t_undone : tab 290 = some c_undone := rfl
theorem h_undone : (tab 290).isSome = true := rfl
theorem t_then : tab 282 = some c_then := rfl
theorem h_then : (tab 282).isSome = true := rfl
theorem t_rounds_of : tab 222 = some c_rounds_of := rfl
theorem h_rounds_of : (tab 222).isSome = true := rfl
theorem t_comes_to_all : tab 78 = some c_comes_to_all := rfl
theorem h_comes_to_all : (tab 78).isSome = true := rfl
theorem t_is_map_in : tab 127 = some c_is_map_in := rfl
theorem h_is_map_in : (tab 127).isSome = true := rfl
theorem t_is_map : tab 126 = some c_is_map := rfl
theorem h_is_map : (tab 126).isSome = true := rfl
theorem t_sure_map : tab 273 = some c_sure_map := rfl
theorem h_sure_map : (tab 273).isSome = true := rfl
theorem t_faced : tab 89 = some c_faced := rfl
theorem h_faced : (tab 89).isSome = true := rfl
theorem t_map_points : tab 183 = some c_map_points := rfl
theorem h_map_points : (tab 183).isSome = true := rfl
theorem t_map_sides : tab 184 = some c_map_sides := rfl
theorem h_map_sides : (tab 184).isSome = true := rfl
theorem t_map_faces : tab 178 = some c_map_faces := rfl
theorem h_map_faces : (tab 178).isSome = true := rfl
theorem t_handles_in : tab 103 = some c_handles_in := rfl
theorem h_handles_in : (tab 103).isSome = true := rfl
theorem t_map_handles : tab 179 = some c_map_handles := rfl
theorem h_map_handles : (tab 179).isSome = true := rfl
theorem t_map_type : tab 187 = some c_map_type := rfl
theorem h_map_type : (tab 187).isSome = true := rfl
theorem t_map_turned : tab 185 = some c_map_turned := rfl
theorem h_map_turned : (tab 185).isSome = true := rfl
theorem t_map_mirrored : tab 181 = some c_map_mirrored := rfl
theorem h_map_mirrored : (tab 181).isSome = true := rfl
theorem t__law_box : tab 7 = some c__law_box := rfl
theorem h__law_box : (tab 7).isSome = true := rfl
theorem t__law_take : tab 47 = some c__law_take := rfl
theorem h__law_take : (tab 47).isSome = true := rfl
theorem t__law_cells : tab 9 = some c__law_cells := rfl
theorem h__law_cells : (tab 9).isSome = true := rfl
theorem t__law_pick : tab 35 = some c__law_pick := rfl
theorem h__law_pick : (tab 35).isSome = true := rfl
theorem t__law_lists : tab 26 = some c__law_lists := rfl
theorem h__law_lists : (tab 26).isSome = true := rfl
theorem t__law_same : tab 39 = some c__law_same := rfl
theorem h__law_same : (tab 39).isSome = true := rfl
theorem t__law_then : tab 49 = some c__law_then := rfl
theorem h__law_then : (tab 49).isSome = true := rfl
theorem t__law_undone : tab 53 = some c__law_undone := rfl
theorem h__law_undone : (tab 53).isSome = true := rfl
theorem t__law_rounds : tab 38 = some c__law_rounds := rfl
theorem h__law_rounds : (tab 38).isSome = true := rfl
theorem t__law_map : tab 27 = some c__law_map := rfl
theorem h__law_map : (tab 27).isSome = true := rfl
theorem t_law : tab 161 = some c_law := rfl
theorem h_law : (tab 161).isSome = true := rfl
end K40
end Dp
set_option linter.all false
set_option Elab.async false
set_option maxRecDepth 100000
namespace Dp
theorem call_ret {tab : Nat → Option Fn} {d f : Nat} {fn : Fn} {args : List PV} {v : PV} {h1 : Mem} (t : tab f = some fn) (hl : args.length = fn.np) (hp : PV.pures args = true)
    (w : ws (evSs ⟨callAt tab d, fun i => (tab i).isSome, 0⟩ fn.body (startB fn args) []) { rt := fun u m => u = v ∧ m = h1 }) (h : Mem) : callAt tab (d + 1) f args h = liftB v h1 h := by
  unfold callAt
  rw [t]
  dsimp only
  rw [if_pos hl, if_pos hp]
  cases e : evSs ⟨callAt tab d, fun i => (tab i).isSome, 0⟩ fn.body (startB fn args) [] with
  | ret u h2 =>
    rw [e] at w
    obtain ⟨rfl, rfl⟩ : u = v ∧ h2 = h1 := w
    rfl
  | _ => rw [e] at w; exact w.elim
/-- places, each told True -/
abbrev ds (S : List Nat) : PO := dk (S.map fun k => (k, .bl true))
theorem ds_keys (S : List Nat) : (S.map fun k => (k, PV.bl true)).map (·.1) = S := by
  rw [List.map_map]
  conv => rhs; rw [← List.map_id S]
  rfl
theorem nmem_ds {h : Mem} {n k : Nat} {S : List Nat} (e : h[n]? = some (ds S)) : cmpB h .nmem (ni k) (.loc n) = .ok (.bl (!decide (k ∈ S)), h) := by
  rw [nmem_dk e, ds_keys]
theorem mem_ds {h : Mem} {n k : Nat} {S : List Nat} (e : h[n]? = some (ds S)) : cmpB h .mem (ni k) (.loc n) = .ok (.bl (decide (k ∈ S)), h) := by
  rw [mem_dk e, ds_keys]
theorem set_ds {h : Mem} {n0 n k : Nat} {S : List Nat} (e : h[n]? = some (ds S)) (hk : k ∉ S) (hl : S.length < sizeB) : setB n0 h (.loc n) (ni k) (.bl true) = .ok (h.set n (ds (S ++ [k]))) := by
  rw [set_dk e (by rw [ds_keys]; exact hk) (by simpa using hl) rfl]
  simp [ds]
theorem len_ds {h : Mem} {n : Nat} {S : List Nat} (e : h[n]? = some (ds S)) : lenB h [.loc n] = .ok (.int S.length, h) := by
  rw [len_dk e, List.length_map]
theorem srcB_rngN {h : Mem} {k : Nat} (hk : k < 1000000) : srcB h (.rng 0 (k : Int)) = some (.rng 0 k) := by
  rw [srcB_rng, if_pos]
  · rw [show ((k : Int) - 0).toNat = k by omega]
  · rw [show small62 0 = true from rfl, small62_nat (by omega)]
    rfl
theorem rangeB_N {h : Mem} {k : Nat} (hk : k < 1000000) : rangeB h [ni k] = .ok (.rng 0 (k : Int), h) := by
  rw [rangeB_1, if_pos (small62_nat (by omega))]
theorem itemsB_rngN {h : Mem} {k : Nat} (hk : k < 1000000) : itemsB h (.rng 0 (k : Int)) = some ((List.range k).map ni) := by
  rw [itemsB_rng, if_pos, rngL_N]
  rw [show small62 0 = true from rfl, small62_nat (by omega)]
  simp [sizeB]
  omega
theorem itemsT_rngN {h : Mem} {k : Nat} (hk : k < 1000000) : itemsT h (.rng 0 (k : Int)) = some ((List.range k).map ni) := by
  rw [itemsT_rng, if_pos, rngL_N]
  rw [show small62 0 = true from rfl, small62_nat (by omega)]
  simp [sizeB]
  omega
theorem ap_thn_list (p q : List Nat) : p.map (fun k => ni (ap q k)) = (thn p q).map ni := by
  unfold thn
  rw [List.map_map]
  rfl
theorem sorted_tup {h : Mem} (p : List Nat) : sortedB h [.tup (p.map ni)] = .ok (.loc h.length, h ++ [.lst ((sortI (p.map fun (k : Nat) => (k : Int))).map .int)]) := by
  show (match (some (p.map ni)).bind sortO with
    | some ys => Res.ok (PV.loc h.length, h ++ [PO.lst ys])
    | none => .err) = _
  rw [Option.bind_some, tn_ti, sortO_ints]
/-- is it a shuffle of so many -/
def isSh (n : Nat) (p : List Nat) : Bool := decide (p.length = n) && decide (p.Perm (List.range n))
theorem isSh_iff {n : Nat} {p : List Nat} : isSh n p = true ↔ Sh p ∧ p.length = n := by
  unfold isSh
  rw [Bool.and_eq_true, decide_eq_true_iff, decide_eq_true_iff]
  exact ⟨fun h => sh_perm h.2, fun ⟨h1, h2⟩ => ⟨h2, h2 ▸ h1.perm⟩⟩
open Classical in
noncomputable def cta (n : Nat) (ps : List (List Nat)) : Bool := decide (∀ x, x < n → Rch ps 0 x)
theorem nodup_full {n : Nat} {S : List Nat} (hd : S.Nodup) (hl : ∀ x ∈ S, x < n) : S.length = n ↔ ∀ x, x < n → x ∈ S := by
  refine ⟨fun e x hx => Classical.byContradiction fun q => ?_, fun q => ?_⟩
  · have := nodup_len (n := n) (l := x :: S) (List.nodup_cons.mpr ⟨q, hd⟩) fun y hy => by
      rcases List.mem_cons.mp hy with h | h
      · omega
      · exact hl y h
    rw [List.length_cons] at this
    omega
  · have := (List.perm_ext_iff_of_nodup hd List.nodup_range).mpr fun x => ⟨fun h => List.mem_range.mpr (hl x h), fun h => q x (List.mem_range.mp h)⟩
    rw [this.length_eq, List.length_range]
theorem nodup_le {S : List Nat} : ∀ {L : List Nat}, L.Nodup → (∀ x ∈ L, x ∈ S) → L.length ≤ S.length
  | [], _, _ => Nat.zero_le _
  | x :: L, hd, h => by
    rw [List.nodup_cons] at hd
    have hx := h x (List.mem_cons_self ..)
    have := nodup_le (S := S.erase x) hd.2 fun y hy => (List.mem_erase_of_ne (fun (e : y = x) => hd.1 (e ▸ hy))).mpr (h y (List.mem_cons_of_mem _ hy))
    rw [List.length_erase_of_mem hx] at this
    have := List.length_pos_of_mem hx
    rw [List.length_cons]
    omega
namespace K40
theorem s_is_number (d k : Nat) (h : Mem) : callAt tab (d + 1) 132 [ni k] h = .ok (.bl true, h) := by
  refine call_pure t_is_number rfl rfl rfl ?_
  simp [c_is_number, startB, isB]
theorem s_is_long (d : Nat) (xs : List PV) (k : Int) (hp : PV.pures xs = true) (h : Mem) : callAt tab (d + 1) 123 [.tup xs, .int k] h = .ok (.bl (decide ((xs.length : Int) = k)), h) := by
  refine call_pure t_is_long rfl (by simp [hp]) rfl ?_
  simp [c_is_long, startB, isB]
theorem s_are_numbers (d : Nat) (p : List Nat) (hl : p.length < sizeB) (h : Mem) : callAt tab (d + 2) 67 [tn p] h = .ok (.bl true, h) := by
  refine call_pure t_are_numbers rfl (by simp) rfl ?_
  simp [c_are_numbers, startB, isB]
  refine lcA p ni (fun _ => .bl true) g0_tup hl (fun a _ m => ?_) fun m => ?_
  · simp [h_is_number, s_is_number]
  · simp [allBl_map]
theorem s_is_shuffle_of (d : Nat) {n : Nat} (hn : n < 1000000) (p : List Nat) (hl : p.length < sizeB) (h : Mem) : callAt tab (d + 3) 141 [ni n, tn p] h = .ok (.bl (isSh n p), h) := by
  refine call_pure t_is_shuffle_of rfl (by simp) rfl ?_
  by_cases q : p.length = n
  · simp [c_is_shuffle_of, startB, h_is_long, h_are_numbers, s_is_long, s_are_numbers _ _ hl, q, sorted_tup, rangeB_N hn, itemsB_rngN hn]
    have e1 : lstAt ([PO.lst ((sortI (p.map fun (k : Nat) => (k : Int))).map .int)] ++ [PO.lst ((List.range n).map ni)]) 0 = some ((sortI (p.map fun (k : Nat) => (k : Int))).map .int) := rfl
    have e2 : lstAt ([PO.lst ((sortI (p.map fun (k : Nat) => (k : Int))).map .int)] ++ [PO.lst ((List.range n).map ni)]) 1 = some (((List.range n).map fun (k : Nat) => (k : Int)).map .int) := by
      rw [← tn_ti]
      rfl
    have e3 := eq_ints e1 e2
    simp at e3
    simp [e3, isSh, q]
    exact (sortI_range (p := p) (n := n))
  · simp [c_is_shuffle_of, startB, h_is_long, h_are_numbers, s_is_long, q, isSh, Int.natCast_inj]
theorem s_then (d : Nat) {p q : List Nat} (hq : ∀ x ∈ p, x < q.length) (hl : p.length < sizeB) (h : Mem) : callAt tab (d + 1) 282 [tn p, tn q] h = .ok (tn (thn p q), h) := by
  refine call_pure t_then rfl (by simp) (tn_pure _) ?_
  simp [c_then, startB]
  refine lcA p ni (fun k => ni (ap q k)) g0_tup hl (fun a ha m => ?_) fun m => ?_
  · simp [atB_ni (hq a ha)]
  · simp [ap_thn_list]
/-! rounds -/
theorem rounds_in (d : Nat) {p : List Nat} (hp : Sh p) (hl : p.length < 1000000) {i r : Nat} {S F : List Nat} {x2 : Option PV} {D : Po} {X : List PV} {m : Mem}
    (h0 : m[0]? = some (.lst X)) (h1 : m[1]? = some (ds S)) (hr : m[r]? = some (.lst [])) (hr2 : 2 ≤ r) (hi : i < p.length) (hS : ∀ x ∈ S, x < p.length) (hSd : S.Nodup) (hiS : ∀ y, Rd (ap p) i y → y ∉ S)
    (hD : ∀ e5 m', m'[0]? = some (.lst X) → m'[1]? = some (ds (S ++ orb (ap p) p.length i)) → m'[r]? = some (.lst ((orb (ap p) p.length i).map ni)) → D.nx [some (tn p), some (ni i), some (.loc 0), some (.loc 1), some (.loc r), e5] m') (n0 : Nat) :
    ws (evS ⟨callAt tab d, fun i => (tab i).isSome, n0⟩ (.while_ (.cmp .nmem (.var 5) (.var 3)) s_rounds_of_0) [some (tn p), some (ni i), some (.loc 0), some (.loc 1), some (.loc r), some (ni i)] m) D := by
  obtain ⟨M, g1, g2, g3, g4, g5⟩ := orb_ex hp.bij i
  have hM : M ≤ p.length := by
    have := (orb_len hp.bij hi).2
    rw [g5, List.length_map, List.length_range] at this
    exact this
  simp
  refine while_ok (n := M) (fun n e m => ∃ j, j ≤ M ∧ n = M - j ∧ e = [some (tn p), some (ni i), some (.loc 0), some (.loc 1), some (.loc r), some (ni (it (ap p) j i))] ∧ m[0]? = some (.lst X) ∧ m[1]? = some (ds (S ++ (List.range j).map fun k => it (ap p) k i)) ∧ m[r]? = some (.lst ((List.range j).map fun k => ni (it (ap p) k i)))) ?_ (by simp only [fuelB]; omega) ⟨0, Nat.zero_le _, rfl, rfl, h0, by simpa using h1, hr⟩
  rintro n e m ⟨j, hj, rfl, rfl, k0, k1, kr⟩
  have hin : it (ap p) j i ∈ S ++ ((List.range j).map fun k => it (ap p) k i) ↔ j = M := by
    rw [List.mem_append, List.mem_map]
    constructor
    · rintro (h | ⟨k, hk, e⟩)
      · exact absurd h (hiS _ ⟨j, rfl⟩)
      · have hk := List.mem_range.mp hk
        by_cases z : j < M
        · exact absurd e (it_ne hp.bij g4 hk z)
        · omega
    · rintro rfl
      exact .inr ⟨0, List.mem_range.mpr g1, by rw [g3]; rfl⟩
  have e1 := nmem_ds (k := it (ap p) j i) k1
  by_cases z : j = M
  · have z1 := hin.mpr z
    simp only [z1, decide_true, Bool.not_true] at e1
    simp [e1]
    subst z
    refine hD _ _ k0 ?_ ?_
    · rw [g5]; exact k1
    · rw [g5, List.map_map]; exact kr
  · have z1 : ¬ _ := fun h => z (hin.mp h)
    simp only [z1, decide_false, Bool.not_false] at e1
    have hlt : it (ap p) j i < p.length := it_lt hp.bij hi
    have r1 : 1 < m.length := (List.getElem?_eq_some_iff.mp k1).1
    have rr : r < m.length := (List.getElem?_eq_some_iff.mp kr).1
    have e2 := set_ds (n0 := n0) k1 z1 (by
      have : (S ++ (List.range j).map fun k => it (ap p) k i).length ≤ p.length := nodup_len (n := p.length) (by
        rw [List.nodup_append]
        refine ⟨hSd, ?_, fun a ha b hb e => ?_⟩
        · rw [List.nodup_iff_pairwise_ne, List.pairwise_map]
          exact List.Pairwise.imp_of_mem (fun {a b} _ hb hab => it_ne hp.bij g4 hab (by have := List.mem_range.mp hb; omega)) List.pairwise_lt_range
        · obtain ⟨k, _, rfl⟩ := List.mem_map.mp hb
          exact hiS _ ⟨k, rfl⟩ (e ▸ ha)) fun x hx => by
        rcases List.mem_append.mp hx with h | h
        · exact hS x h
        · obtain ⟨k, _, rfl⟩ := List.mem_map.mp h
          exact it_lt hp.bij hi
      simp only [sizeB]; omega)
    have k2 : (m.set 1 (ds (S ++ ((List.range j).map fun k => it (ap p) k i) ++ [it (ap p) j i])))[r]? = some (.lst ((List.range j).map fun k => ni (it (ap p) k i))) := by
      rw [List.getElem?_set_ne (by omega)]; exact kr
    have e3 := append_lst (n0 := n0) (v := ni (it (ap p) j i)) k2 rfl (by rw [List.length_map, List.length_range]; simp only [sizeB]; omega)
    simp only [List.append_assoc] at e2 e3 k2
    simp [e1, s_rounds_of_0, e2, rcB_lst k2, e3, atB_ni hlt]
    refine ⟨M - (j + 1), by omega, j + 1, by omega, by omega, rfl, ?_, ?_, ?_⟩
    · rw [List.getElem?_set_ne (by omega), List.getElem?_set_ne (by omega)]; exact k0
    · rw [List.getElem?_set_ne (by omega), List.getElem?_set_self r1, List.range_succ]; simp
    · rw [List.getElem?_set_self (by rw [List.length_set]; exact rr), List.range_succ]; simp
theorem s_rounds_of (d : Nat) {p : List Nat} (hp : Sh p) (hl : p.length < 1000000) (h : Mem) : callAt tab (d + 1) 222 [tn p] h = .ok (.loc h.length, h ++ [.lst ((rounds p).map tn)]) := by
  refine call_pureL t_rounds_of rfl (by simp) (by simp) ?_
  simp [c_rounds_of, startB, dictB, twosB, rangeB_N hl, srcB_rngN hl]
  refine forI ((List.range p.length).map ni) (fun i e m => ∃ s1 s4 s5 S, e = [some (tn p), s1, some (.loc 0), some (.loc 1), s4, s5] ∧ m[0]? = some (.lst ((((List.range i).filter (isMn (ap p) p.length)).map (orb (ap p) p.length)).map tn)) ∧ m[1]? = some (ds S) ∧ (∀ x, x ∈ S ↔ ∃ j, j < i ∧ Rd (ap p) j x) ∧ S.Nodup) (by simp [sizeB]; omega) ?_ ?_ ⟨none, none, none, [], rfl, rfl, rfl, by simp, List.nodup_nil⟩ ?_
  · rintro i e m ⟨s1, s4, s5, S, rfl, _⟩
    exact g0_rngN (h := m) i []
  · rintro i e m hi ⟨s1, s4, s5, S, rfl, k0, k1, kS, kd⟩
    have hi' : i < p.length := by simpa using hi
    have hx : ((List.range p.length).map ni)[i] = ni i := by simp
    rw [hx]
    have e1 := nmem_ds (k := i) k1
    have E := Rd.eqv hp.bij
    have hS : ∀ x ∈ S, x < p.length := fun x hx => by
      obtain ⟨j, hj, k, rfl⟩ := (kS x).mp hx
      exact it_lt hp.bij (by omega)
    have l0 : 0 < m.length := (List.getElem?_eq_some_iff.mp k0).1
    have l1 : 1 < m.length := (List.getElem?_eq_some_iff.mp k1).1
    by_cases z : i ∈ S
    · simp only [z, decide_true, Bool.not_true] at e1
      simp [s_rounds_of_2, e1]
      have hm : isMn (ap p) p.length i = false := by
        rw [← Bool.not_eq_true, isMn_iff hp.bij]
        intro q
        obtain ⟨j, hj, r⟩ := (kS i).mp z
        exact q j hj r
      refine ⟨?_, S, k1, fun x => ?_, kd⟩
      · rw [k0, List.range_succ, List.filter_append, List.filter_cons_of_neg (by rw [hm]; decide), List.filter_nil, List.append_nil, List.map_map]
      · rw [kS]
        refine ⟨fun ⟨j, hj, r⟩ => ⟨j, by omega, r⟩, fun ⟨j, hj, r⟩ => ?_⟩
        by_cases q : j = i
        · subst q
          obtain ⟨j', hj', r'⟩ := (kS j).mp z
          exact ⟨j', hj', E.tr r' r⟩
        · exact ⟨j, by omega, r⟩
    · simp only [z, decide_false, Bool.not_false] at e1
      have hm : isMn (ap p) p.length i = true := (isMn_iff hp.bij i).mpr fun j hj r => z ((kS i).mpr ⟨j, hj, r⟩)
      have hz : ∀ y, Rd (ap p) i y → y ∉ S := fun y r hy => by
        obtain ⟨j, hj, r'⟩ := (kS y).mp hy
        exact z ((kS i).mpr ⟨j, hj, E.tr r' (E.sym r)⟩)
      simp [s_rounds_of_2, e1, s_rounds_of_1, -ws_while]
      refine rounds_in d hp hl (F := []) (x2 := none) (at_app k0) (at_app k1) at_new (by omega) hi' hS kd hz (fun e5 m' q0 q1 qr => ?_) 0
      have e4 := append_lst (n0 := 0) (v := tn (orb (ap p) p.length i)) q0 (by simp [mayB]) (by
        rw [List.length_map, List.length_map]
        have := List.length_filter_le (isMn (ap p) p.length) (List.range i)
        rw [List.length_range] at this
        simp only [sizeB]; omega)
      have e5 : itemsT m' (.loc m.length) = some ((orb (ap p) p.length i).map ni) := by rw [itemsT_loc, lst_of qr]
      have e6 : tupleB m' [.loc m.length] = .ok (tn (orb (ap p) p.length i), m') := by rw [tupleB_1, e5]
      simp [rcB_lst q0, lst_of qr, e4]
      refine ⟨?_, S ++ orb (ap p) p.length i, ?_, fun x => ?_, ?_⟩
      · rw [List.getElem?_set_self (List.getElem?_eq_some_iff.mp q0).1, List.range_succ, List.filter_append, List.filter_cons_of_pos hm, List.filter_nil]
        simp
      · exact q1
      · rw [List.mem_append, kS, mem_orb hp.bij]
        constructor
        · rintro (⟨j, hj, r⟩ | r)
          · exact ⟨j, by omega, r⟩
          · exact ⟨i, by omega, r⟩
        · rintro ⟨j, hj, r⟩
          by_cases q : j = i
          · subst q; exact .inr r
          · exact .inl ⟨j, by omega, r⟩
      · rw [List.nodup_append]
        refine ⟨kd, orb_nd hp.bij i, fun a ha b hb e => ?_⟩
        exact hz b ((mem_orb hp.bij).mp hb) (e ▸ ha)
  · rintro e m ⟨s1, s4, s5, S, rfl, k0, _⟩
    simp
    rw [k0]
    simp [rounds, mins]
/-! are all led to -/
/-- what is come to from x, so far -/
inductive CtaF (ps : List (List Nat)) (n x : Nat) (S L : List Nat) : Nat → Env → Mem → Prop
  | mk {i : Nat} {m : Mem} (N : List Nat) (s5 : Option PV) (h0 : m[0]? = some (ds (S ++ N))) (h1 : m[1]? = some (.lst ((L ++ N).map ni))) (hd : (S ++ N).Nodup) (hN : ∀ y ∈ N, ∃ p ∈ ps, y = ap p x)
      (hj : ∀ j (hj : j < ps.length), j < i → ap ps[j] x ∈ S ++ N) (hl : ∀ y ∈ S ++ N, y < n) : CtaF ps n x S L i [some (ni n), some (.tup (ps.map tn)), some (.loc 0), some (.loc 1), some (ni x), s5] m
theorem cta_for (d : Nat) {ps : List (List Nat)} {n x : Nat} (hps : ∀ p ∈ ps, Sh p ∧ p.length = n) (hn : n < 1000000) (hx : x < n) (hk : ps.length < 1000) {S L : List Nat} {D : Po} {m : Mem} {s5 : Option PV} (n0 : Nat)
    (h0 : m[0]? = some (ds S)) (h1 : m[1]? = some (.lst (L.map ni))) (hS : ∀ x ∈ S, x < n) (hd : S.Nodup) (hL : L.length ≤ S.length)
    (hD : ∀ e m', CtaF ps n x S L ps.length e m' → D.nx e m') :
    ws (forLoop (forStep ⟨callAt tab d, fun i => (tab i).isSome, n0⟩ (.name 5) s_comes_to_all_0) fuelB (.tup (ps.map tn)) 0 [some (ni n), some (.tup (ps.map tn)), some (.loc 0), some (.loc 1), some (ni x), s5] m) D := by
  refine forI (ps.map tn) (CtaF ps n x S L) (by simp [sizeB]; omega) ?_ ?_ (.mk [] s5 (by simpa using h0) (by simpa using h1) (by simpa using hd) (by simp) (by omega) (by simpa using hS)) ?_
  · rintro i e m ⟨N, s5⟩
    exact g0_tup (h := m) i []
  · rintro i e m hi ⟨N, s5, k0, k1, kd, kN, kj, kl⟩
    have hi' : i < ps.length := by simpa using hi
    have hx2 : (ps.map tn)[i] = tn ps[i] := by simp
    rw [hx2]
    obtain ⟨hsh, hln⟩ := hps ps[i] (List.getElem_mem hi')
    generalize ep : ps[i] = p at hsh hln
    have hxp : x < p.length := by omega
    have e1 := nmem_ds (k := ap p x) k0
    have l0 : 0 < m.length := (List.getElem?_eq_some_iff.mp k0).1
    have l1 : 1 < m.length := (List.getElem?_eq_some_iff.mp k1).1
    have hSl := nodup_len kd kl
    by_cases z : ap p x ∈ S ++ N
    · simp only [z, decide_true, Bool.not_true] at e1
      simp [s_comes_to_all_0, atB_ni hxp, e1]
      refine .mk N _ k0 k1 kd kN (fun j hj hji => ?_) kl
      by_cases q : j = i
      · subst q; rw [ep]; exact z
      · exact kj j hj (by omega)
    · simp only [z, decide_false, Bool.not_false] at e1
      have e2 := set_ds (n0 := n0) k0 z (by simp only [sizeB]; omega)
      have k2 : (m.set 0 (ds (S ++ N ++ [ap p x])))[1]? = some (.lst ((L ++ N).map ni)) := by rw [List.getElem?_set_ne (by omega)]; exact k1
      have e3 := append_lst (n0 := n0) (v := ni (ap p x)) k2 rfl (by
        rw [List.length_map, List.length_append]
        rw [List.length_append] at hSl
        simp only [sizeB]; omega)
      simp [s_comes_to_all_0, atB_ni hxp, e1, e2, rcB_lst k2, e3, -List.append_assoc, -List.length_append]
      refine .mk (N ++ [ap p x]) _ ?_ ?_ ?_ (fun y hy => ?_) (fun j hj hji => ?_) fun y hy => ?_
      · rw [List.getElem?_set_ne (by omega), List.getElem?_set_self l0, List.append_assoc]
      · rw [List.getElem?_set_self (by rw [List.length_set]; exact l1)]; simp
      · rw [← List.append_assoc, List.nodup_append]
        refine ⟨kd, by simp, fun a ha b hb e => ?_⟩
        rw [List.mem_singleton] at hb
        exact z (hb ▸ e ▸ ha)
      · rcases List.mem_append.mp hy with h | h
        · exact kN y h
        · exact ⟨p, by rw [← ep]; exact List.getElem_mem hi', List.mem_singleton.mp h⟩
      · rw [← List.append_assoc]
        by_cases q : j = i
        · subst q; rw [ep]; simp
        · exact List.mem_append_left _ (kj j hj (by omega))
      · rw [← List.append_assoc] at hy
        rcases List.mem_append.mp hy with h | h
        · exact kl y h
        · rw [List.mem_singleton.mp h, ← hln]
          exact hsh.ap hxp
  · intro e m h
    rw [List.length_map] at h
    exact hD e m h
inductive CtaW (ps : List (List Nat)) (n : Nat) : Nat → Env → Mem → Prop
  | mk {k : Nat} {m : Mem} (S L : List Nat) (s4 s5 : Option PV) (h0 : m[0]? = some (ds S)) (h1 : m[1]? = some (.lst (L.map ni))) (hd : S.Nodup) (hl : ∀ x ∈ S, x < n) (hz : 0 ∈ S) (hr : ∀ x ∈ S, Rch ps 0 x) (hL : ∀ x ∈ L, x ∈ S) (hLd : L.Nodup)
      (hc : ∀ x ∈ S, x ∉ L → ∀ p ∈ ps, ap p x ∈ S) (hk : 2 * n + L.length ≤ k + 2 * S.length) : CtaW ps n k [some (ni n), some (.tup (ps.map tn)), some (.loc 0), some (.loc 1), s4, s5] m
theorem s_comes_to_all (d : Nat) {n : Nat} {ps : List (List Nat)} (hps : ∀ p ∈ ps, Sh p ∧ p.length = n) (h1 : 0 < n) (hn : n < 1000000) (hk : ps.length < 1000) (h : Mem) : callAt tab (d + 1) 78 [ni n, .tup (ps.map tn)] h = .ok (.bl (cta n ps), h) := by
  refine call_pure t_comes_to_all rfl (by simp) rfl ?_
  simp [c_comes_to_all, startB, dictB, twosB, okKey, putB]
  refine while_ok (n := 2 * n - 1) (CtaW ps n) ?_ (by simp only [fuelB]; omega) (.mk [0] [0] none none rfl rfl (by simp) (by simpa using h1) (by simp) (by simpa using Rch.refl 0) (by simp) (by simp) (by simp) (by simp; omega))
  rintro k e m ⟨S, L, s4, s5, k0, k1, kd, kl, kz, kr, kL, kLd, kc, kk⟩
  have l0 : 0 < m.length := (List.getElem?_eq_some_iff.mp k0).1
  have l1 : 1 < m.length := (List.getElem?_eq_some_iff.mp k1).1
  have e0 : lstAt (m ++ [PO.lst []]) 1 = some ((L.map fun (k : Nat) => (k : Int)).map .int) := by
    rw [← tn_ti]
    exact lst_of (at_app k1)
  have e1 := ne_ints (l := L.map fun (k : Nat) => (k : Int)) (r := []) e0 lstAt_new
  have hSl := nodup_len kd kl
  have hLS : L.length ≤ S.length := nodup_le kLd kL
  rcases List.eq_nil_or_concat L with hL | ⟨L', x, hL⟩
  · subst hL
    simp at e1
    have e2 := len_ds (at_app k0 (l := [PO.lst []]))
    simp [e1, e2]
    have hcl : ∀ x, Rch ps 0 x → x ∈ S := fun x r => by
      induction r with
      | refl => exact kz
      | step r hp ih => exact kc _ ih (by simp) _ hp
    unfold cta
    rw [decide_eq_decide, Int.natCast_inj, nodup_full kd kl]
    exact ⟨fun q x hx => kr x (q x hx), fun q x hx => hcl x (q x hx)⟩
  · rw [List.concat_eq_append] at hL
    subst hL
    simp at e1
    have hxS := kL x (by simp)
    have e2 := pop_lst (h := m ++ [PO.lst []]) (n := 1) (xs := L'.map ni) (v := ni x) (by rw [at_app k1]; simp)
    have e3 : rcB (m ++ [PO.lst []]) (.loc 1) = some .list := rcB_lst (at_app k1)
    rw [List.nodup_append] at kLd
    obtain ⟨kd1, _, kd2⟩ := kLd
    simp [e1, s_comes_to_all_1, e3, e2, -List.append_assoc, -List.length_append]
    refine ⟨k - 1, by simp at kk; omega, cta_for d hps hn (kl x hxS) hk (S := S) (L := L') 0 ?_ ?_ kl kd (by simp at hLS; omega) fun e m' q => ?_⟩
    · rw [List.getElem?_set_ne (by omega)]; exact at_app k0
    · rw [List.getElem?_set_self (by simp; omega)]
    · obtain ⟨N, s5, q0, q1, q2, q3, q4, q5⟩ := q
      rw [List.nodup_append] at q2
      obtain ⟨qd1, qd2, qd3⟩ := q2
      refine .mk (S ++ N) (L' ++ N) _ _ q0 q1 (List.nodup_append.mpr ⟨qd1, qd2, qd3⟩) q5 (List.mem_append_left _ kz) (fun y hy => ?_) (fun y hy => ?_) (List.nodup_append.mpr ⟨kd1, qd2, fun a ha b hb => qd3 a (kL a (by simp [ha])) b hb⟩) (fun y hy hyL p hp => ?_) ?_
      · rcases List.mem_append.mp hy with h | h
        · exact kr y h
        · obtain ⟨p, hp, rfl⟩ := q3 y h
          exact (kr x hxS).step hp
      · rcases List.mem_append.mp hy with h | h
        · exact List.mem_append_left _ (kL y (by simp [h]))
        · exact List.mem_append_right _ h
      · rw [List.mem_append, not_or] at hyL
        have hyS := (List.mem_append.mp hy).resolve_right hyL.2
        by_cases z : y = x
        · subst z
          obtain ⟨j, hj, rfl⟩ := List.getElem_of_mem hp
          exact q4 j hj hj
        · exact List.mem_append_left _ (kc y hyS (by simp [hyL.1, z]) p hp)
      · simp at kk ⊢
        omega
end K40
end Dp
set_option linter.all false
set_option Elab.async false
set_option maxRecDepth 100000
namespace Dp
/-- a pair of shuffles as a value -/
abbrev mp (a b : List Nat) : PV := .tup [tn a, tn b]
theorem mp_pure (a b : List Nat) : (mp a b).pure = true := by simp
/-- across of none, home done twice -/
def twoB (b : List Nat) : Bool := !(List.range b.length).any fun k => decide (ap b k = k) || !decide (ap b (ap b k) = k)
noncomputable def isMapB (a b : List Nat) : Bool := decide (2 ≤ a.length) && isSh a.length a && isSh a.length b && twoB b && cta a.length [a, b]
structure IsMap (a b : List Nat) : Prop where
  ha : Sh a
  hb : Sh b
  hl : b.length = a.length
  h2 : 2 ≤ a.length
  ne : ∀ k, k < a.length → ap b k ≠ k
  tw : ∀ k, k < a.length → ap b (ap b k) = k
  rc : ∀ k, k < a.length → Rch [a, b] 0 k
theorem twoB_iff {b : List Nat} : twoB b = true ↔ ∀ k, k < b.length → ap b k ≠ k ∧ ap b (ap b k) = k := by
  unfold twoB
  rw [Bool.not_eq_true', List.any_eq_false]
  refine forall_congr' fun k => ?_
  rw [List.mem_range]
  refine forall_congr' fun _ => ?_
  simp
theorem isMapB_iff {a b : List Nat} : isMapB a b = true ↔ IsMap a b := by
  unfold isMapB cta
  simp only [Bool.and_eq_true, decide_eq_true_iff, isSh_iff, twoB_iff]
  exact ⟨fun ⟨⟨⟨⟨h1, h2⟩, h3⟩, h4⟩, h5⟩ => ⟨h2.1, h3.1, h3.2, h1, fun k hk => (h4 k (by omega)).1, fun k hk => (h4 k (by omega)).2, h5⟩,
    fun M => ⟨⟨⟨⟨M.h2, M.ha, trivial⟩, M.hb, M.hl⟩, fun k hk => ⟨M.ne k (by have := M.hl; omega), M.tw k (by have := M.hl; omega)⟩⟩, M.rc⟩⟩
theorem IsMap.inv {a b : List Nat} (M : IsMap a b) : Inv a.length (ap b) where
  bij := M.hl ▸ M.hb.bij
  ne hx := M.ne _ hx
  two x := by
    by_cases h : x < a.length
    · exact M.tw x h
    · rw [ap_ge (show b.length ≤ x by have := M.hl; omega), ap_ge (show b.length ≤ x by have := M.hl; omega)]
/-- handles -/
def hdl (a b : List Nat) : Int := (2 - ((rounds a).length : Int) + ((a.length : Int)).fdiv 2 - (rounds (thn a b)).length).fdiv 2
theorem int_ne_nat {a b : Nat} : ((a : Int) = (b : Int)) = (a = b) := by simp [Int.natCast_inj]
namespace K40
theorem s_is_map_in (d : Nat) (a b : List Nat) (hla : a.length < 1000000) (hlb : b.length < 1000000) (h : Mem) : callAt tab (d + 4) 127 [mp a b] h = .ok (.bl (isMapB a b), h) := by
  have hsa : a.length < sizeB := by simp only [sizeB]; omega
  have hsb : b.length < sizeB := by simp only [sizeB]; omega
  refine call_pure t_is_map_in rfl (by simp) rfl ?_
  have e0 : atB [tn a, tn b] (0 : Int) = some (tn a) := rfl
  have e1 : atB [tn a, tn b] (1 : Int) = some (tn b) := rfl
  unfold isMapB
  by_cases q2 : 2 ≤ a.length
  · have q3 : ¬ (a.length : Int) < 2 := by omega
    cases q4 : isSh a.length a with
    | false => simp [c_is_map_in, startB, isB, e0, e1, q2, q3, h_is_shuffle_of, s_is_shuffle_of d hla a hsa, q4]
    | true =>
      cases q5 : isSh a.length b with
      | false => simp [c_is_map_in, startB, isB, e0, e1, q2, q3, h_is_shuffle_of, s_is_shuffle_of d hla a hsa, s_is_shuffle_of d hla b hsb, q4, q5]
      | true =>
        obtain ⟨hb, hl⟩ := isSh_iff.mp q5
        obtain ⟨ha, _⟩ := isSh_iff.mp q4
        simp [c_is_map_in, startB, isB, e0, e1, q2, q3, h_is_shuffle_of, s_is_shuffle_of d hla a hsa, s_is_shuffle_of d hla b hsb, q4, q5, rangeB_N hla, srcB_rngN hla]
        refine lcA (List.range a.length) ni (fun k => .bl (decide (ap b k = k) || !decide (ap b (ap b k) = k))) g0_rngN (by simp [sizeB]; omega) (fun k hk m => ?_) fun m => ?_
        · have hk := List.mem_range.mp hk
          have z1 : atB (b.map ni) (k : Int) = some (ni (ap b k)) := atB_ni (by omega)
          have z2 : atB (b.map ni) (ap b k : Int) = some (ni (ap b (ap b k))) := atB_ni (hb.ap (by omega))
          by_cases q : ap b k = k
          · simp [e1, z1, q]
          · by_cases q' : ap b (ap b k) = k <;> simp [e1, z1, z2, q, q', Int.natCast_inj]
        · rw [← hl]
          cases q6 : twoB b with
          | false =>
            have q7 : ((List.range b.length).any fun k => decide (ap b k = k) || !decide (ap b (ap b k) = k)) = true := by
              unfold twoB at q6
              simpa using q6
            have q8 : ((List.range b.length).map fun k => decide (ap b k = k) || !decide (ap b (ap b k) = k)).any id = true := by rw [List.any_map]; exact q7
            dsimp only
            have q9 := allBl_map (List.range b.length) fun k => decide (ap b k = k) || !decide (ap b (ap b k) = k)
            generalize (List.range b.length).map (fun k => PV.bl (decide (ap b k = k) || !decide (ap b (ap b k) = k))) = X at q9 ⊢
            simp [q9, q8]
          | true =>
            have q7 : ((List.range b.length).any fun k => decide (ap b k = k) || !decide (ap b (ap b k) = k)) = false := by
              unfold twoB at q6
              rw [Bool.not_eq_true'] at q6
              exact q6
            have q8 : ((List.range b.length).map fun k => decide (ap b k = k) || !decide (ap b (ap b k) = k)).any id = false := by rw [List.any_map]; exact q7
            dsimp only
            have q9 := allBl_map (List.range b.length) fun k => decide (ap b k = k) || !decide (ap b (ap b k) = k)
            generalize (List.range b.length).map (fun k => PV.bl (decide (ap b k = k) || !decide (ap b (ap b k) = k))) = X at q9 ⊢
            have cta := fun h => s_comes_to_all (d + 2) (n := b.length) (ps := [a, b]) (fun p hp => by
              rcases List.mem_cons.mp hp with e | e
              · rw [e]; exact ⟨ha, hl.symm⟩
              · rw [List.mem_singleton.mp e]; exact ⟨hb, rfl⟩) (by omega) (by omega) (by simp) h
            simp at cta
            simp [q9, q8, h_comes_to_all, cta]
  · have q3 : (a.length : Int) < 2 := by omega
    simp [c_is_map_in, startB, isB, e0, q2, q3]
theorem s_is_map (d : Nat) (a b : List Nat) (hla : a.length < 1000000) (hlb : b.length < 1000000) (h : Mem) : callAt tab (d + 5) 126 [mp a b] h = .ok (.bl (isMapB a b), h) := by
  refine call_pure t_is_map rfl (by simp) rfl ?_
  simp [c_is_map, startB, h_is_map_in, s_is_map_in d a b hla hlb]
theorem s_tupled_int (d k : Nat) (h : Mem) : callAt tab (d + 1) 287 [ni k] h = .ok (ni k, h) := by
  refine call_pure t_tupled rfl rfl rfl ?_
  simp [c_tupled, startB, isB]
theorem s_tupled_tn (d : Nat) (p : List Nat) (hl : p.length < sizeB) (h : Mem) : callAt tab (d + 2) 287 [tn p] h = .ok (tn p, h) := by
  refine call_pure t_tupled rfl (by simp) (by simp) ?_
  simp [c_tupled, startB, isB]
  refine lcA p ni ni g0_tup hl (fun a _ m => ?_) fun m => ?_
  · simp [h_tupled, s_tupled_int]
  · simp
theorem s_tupled_mp (d : Nat) (a b : List Nat) (ha : a.length < sizeB) (hb : b.length < sizeB) (h : Mem) : callAt tab (d + 3) 287 [mp a b] h = .ok (mp a b, h) := by
  refine call_pure t_tupled rfl (by simp) (by simp) ?_
  simp [c_tupled, startB, isB]
  refine lcA [a, b] tn tn g0_tup (by simp [sizeB]) (fun p hp m => ?_) fun m => ?_
  · have : p.length < sizeB := by
      rcases List.mem_cons.mp hp with e | e
      · rw [e]; exact ha
      · rw [List.mem_singleton.mp e]; exact hb
    simp [h_tupled, s_tupled_tn d p this]
  · simp
theorem s_sure_map (d : Nat) {a b : List Nat} (M : IsMap a b) (h60 : a.length ≤ 60) (h : Mem) : callAt tab (d + 5) 273 [mp a b] h = .ok (mp a b, h) := by
  have hl := M.hl
  refine call_pure t_sure_map rfl (by simp) (by simp) ?_
  have e0 : atB [tn a, tn b] (0 : Int) = some (tn a) := rfl
  simp [c_sure_map, startB, h_tupled, h_is_map_in, s_tupled_mp (d + 1) a b (by simp only [sizeB]; omega) (by simp only [sizeB]; omega), s_is_map_in d a b (by omega) (by omega), isMapB_iff.mpr M, e0, show ¬ (60 : Int) < a.length by omega]
theorem s_faced (d : Nat) {a b : List Nat} (M : IsMap a b) (hl : a.length < sizeB) (h : Mem) : callAt tab (d + 2) 89 [mp a b] h = .ok (tn (thn a b), h) := by
  refine call_pure t_faced rfl (by simp) (by simp) ?_
  have e0 : atB [tn a, tn b] (0 : Int) = some (tn a) := rfl
  have e1 : atB [tn a, tn b] (1 : Int) = some (tn b) := rfl
  simp [c_faced, startB, e0, e1, h_then, s_then d (p := a) (q := b) (fun x hx => by have := M.ha.lt x hx; have := M.hl; omega) hl]
section
variable (d : Nat) {a b : List Nat} (M : IsMap a b) (h60 : a.length ≤ 60) (h : Mem)
include M h60
theorem s_map_points : callAt tab (d + 6) 183 [mp a b] h = .ok (.loc h.length, h ++ [.lst ((rounds a).map tn)]) := by
  refine call_pureL t_map_points rfl (by simp) (by simp) ?_
  have e0 : atB [tn a, tn b] (0 : Int) = some (tn a) := rfl
  simp [c_map_points, startB, h_rounds_of, h_sure_map, s_sure_map d M h60, e0, s_rounds_of (d + 4) M.ha (by omega)]
theorem s_map_sides : callAt tab (d + 6) 184 [mp a b] h = .ok (.loc h.length, h ++ [.lst ((rounds b).map tn)]) := by
  refine call_pureL t_map_sides rfl (by simp) (by simp) ?_
  have e0 : atB [tn a, tn b] (1 : Int) = some (tn b) := rfl
  simp [c_map_sides, startB, h_rounds_of, h_sure_map, s_sure_map d M h60, e0, s_rounds_of (d + 4) M.hb (by have := M.hl; omega)]
theorem s_map_faces : callAt tab (d + 6) 178 [mp a b] h = .ok (.loc h.length, h ++ [.lst ((rounds (thn a b)).map tn)]) := by
  refine call_pureL t_map_faces rfl (by simp) (by simp) ?_
  simp [c_map_faces, startB, h_rounds_of, h_faced, h_sure_map, s_sure_map d M h60, s_faced (d + 3) M (by simp only [sizeB]; omega), s_rounds_of (d + 4) (thn_sh M.ha M.hb M.hl) (by rw [thn_len]; omega)]
theorem s_handles_in : callAt tab (d + 3) 103 [mp a b] h = .ok (.int (hdl a b), h) := by
  refine call_pure t_handles_in rfl (by simp) rfl ?_
  have e0 : atB [tn a, tn b] (0 : Int) = some (tn a) := rfl
  have e1 : lenB [PO.lst ((rounds a).map tn)] [.loc 0] = .ok (.int (rounds a).length, [PO.lst ((rounds a).map tn)]) := by
    rw [lenB_lst (xs := (rounds a).map tn) rfl, List.length_map]
  have e2 : lenB ([PO.lst ((rounds a).map tn)] ++ [PO.lst ((rounds (thn a b)).map tn)]) [.loc 1] = .ok (.int (rounds (thn a b)).length, [PO.lst ((rounds a).map tn)] ++ [PO.lst ((rounds (thn a b)).map tn)]) := by
    rw [lenB_lst (xs := (rounds (thn a b)).map tn) rfl, List.length_map]
  have s1 : small30 (2 : Int) = true := rfl
  simp at e1 e2
  simp [c_handles_in, startB, h_rounds_of, h_faced, s_faced d M (by simp only [sizeB]; omega), e0, s_rounds_of (d + 1) M.ha (by omega), s_rounds_of (d + 1) (thn_sh M.ha M.hb M.hl) (by rw [thn_len]; omega), e1, e2, s1]
  rfl
theorem s_map_handles : callAt tab (d + 6) 179 [mp a b] h = .ok (.int (hdl a b), h) := by
  refine call_pure t_map_handles rfl (by simp) rfl ?_
  simp [c_map_handles, startB, h_handles_in, h_sure_map, s_sure_map d M h60, s_handles_in (d + 2) M h60]
theorem s_map_turned : callAt tab (d + 6) 185 [mp a b] h = .ok (mp (thn a b) b, h) := by
  refine call_pure t_map_turned rfl (by simp) (by simp) ?_
  have e0 : atB [tn a, tn b] (1 : Int) = some (tn b) := rfl
  simp [c_map_turned, startB, h_faced, h_sure_map, s_sure_map d M h60, s_faced (d + 3) M (by simp only [sizeB]; omega), e0]
end
end K40
end Dp
set_option linter.all false
set_option Elab.async false
set_option maxRecDepth 100000
namespace Dp
theorem rounds_le {p : List Nat} : (rounds p).length ≤ p.length := by
  unfold rounds mins
  rw [List.length_map]
  have := List.length_filter_le (isMn (ap p) p.length) (List.range p.length)
  rw [List.length_range] at this
  exact this
/-- of one kind alone -/
def oneK (p : List Nat) : Bool := decide ((dd (il (rounds p))).length = 1)
theorem rounds_pos {p : List Nat} (hp : Sh p) (h : 0 < p.length) : rounds p ≠ [] := fun e => by
  have h0 : 0 ∈ mins p := List.mem_filter.mpr ⟨List.mem_range.mpr h, (isMn_iff hp.bij 0).mpr fun j hj => by omega⟩
  unfold rounds at e
  rw [List.map_eq_nil_iff] at e
  rw [e] at h0
  cases h0
/-- how long the first round is -/
def len0 (p : List Nat) : Nat := ((rounds p).headD []).length
theorem oneK_eq {p : List Nat} (hp : Sh p) (h : 0 < p.length) (q : oneK p = true) : dd (il (rounds p)) = [(len0 p : Int)] := by
  unfold oneK at q
  rw [decide_eq_true_iff] at q
  unfold len0
  obtain ⟨x, r, e⟩ := List.exists_cons_of_ne_nil (rounds_pos hp h)
  rw [e] at q ⊢
  exact dd_one q
/-- what undoes, half way -/
inductive UndF (p : List Nat) : Nat → Env → Mem → Prop
  | mk {i : Nat} {m : Mem} (F : List Nat) (s2 s3 : Option PV) (h1 : m[1]? = some (.lst (F.map ni))) (hl : F.length = p.length) (hF : ∀ j, j < i → j < p.length → ap F (ap p j) = j) : UndF p i [some (tn p), some (.loc 1), s2, s3] m
namespace K40
theorem s_undone (d : Nat) {p : List Nat} (hp : Sh p) (hl : p.length < 1000000) (h : Mem) : callAt tab (d + 1) 290 [tn p] h = .ok (tn (und p), h) := by
  refine call_pure t_undone rfl (by simp) (tn_pure _) ?_
  have h62 : small62 (p.length : Int) = true := small62_nat (by omega)
  simp [c_undone, startB, Src.seqS, h62, show p.length ≤ sizeB by simp only [sizeB]; omega]
  have hF : (List.replicate p.length [PV.int 0]).flatten = (List.replicate p.length 0).map ni := by
    have : ∀ n : Nat, (List.replicate n [PV.int 0]).flatten = (List.replicate n 0).map ni := fun n => by
      induction n with
      | zero => rfl
      | succ n ih =>
        rw [List.replicate_succ, List.replicate_succ, List.flatten_cons, ih]
        rfl
    exact this _
  refine forI ((idx p).map fun q => .tup [ni q.1, ni q.2]) (UndF p) (by simp [idx_len, sizeB]; omega) ?_ ?_ (.mk (List.replicate p.length 0) _ _ (by simpa using hF) (by simp) (by omega)) ?_
  · rintro i e m ⟨F, s2, s3, _⟩
    have := g0_enumI (h := m) (f := ni) (g0_tup (h := m) (xs := p.map ni)) i []
    rw [List.append_nil] at this
    exact this
  · rintro i e m hi ⟨F, s2, s3, k1, kl, kF⟩
    have hi' : i < p.length := by simpa [idx_len] using hi
    have hx : ((idx p).map fun q => PV.tup [ni q.1, ni q.2])[i] = .tup [ni i, ni (ap p i)] := by
      simp [idx, ap_lt hi']
    rw [hx]
    have hlt := hp.ap hi'
    have e2 := setB_lst (n0 := 0) (k := (ap p i : Int)) (v := ni i) k1 (by omega) (by rw [List.length_map]; omega) rfl
    have l1 := (List.getElem?_eq_some_iff.mp k1).1
    rw [Int.toNat_natCast] at e2
    simp [s_undone_0, e2]
    refine .mk (F.set (ap p i) i) _ _ ?_ (by rw [List.length_set]; exact kl) fun j hj hjp => ?_
    · rw [List.getElem?_set_self l1, List.map_set]
    · by_cases q : j = i
      · subst q
        rw [ap_lt (show ap p j < (F.set (ap p j) j).length by rw [List.length_set]; omega), List.getElem_set_self]
      · have hne : ap p i ≠ ap p j := fun e => q (hp.bij.inj e).symm
        have h1 := hp.ap hjp
        rw [ap_lt (show ap p j < (F.set (ap p i) i).length by rw [List.length_set]; omega), List.getElem_set_ne hne, ← ap_lt (by omega)]
        exact kF j (by omega) hjp
  · rintro e m ⟨F, s2, s3, k1, kl, kF⟩
    simp [lst_of k1]
    rw [List.length_map, idx_len] at kF
    have : F = und p := ap_ext (by rw [kl, und_len]) fun k hk => by
      obtain ⟨x, hx, rfl⟩ := hp.bij.onto (show k < p.length by omega)
      rw [kF x hx hx, und_ap hp]
    rw [this]
section
variable (d : Nat) {a b : List Nat} (M : IsMap a b) (h60 : a.length ≤ 60) (h : Mem)
include M h60
theorem s_map_mirrored : callAt tab (d + 6) 181 [mp a b] h = .ok (mp (und a) b, h) := by
  refine call_pure t_map_mirrored rfl (by simp) (by simp) ?_
  have e0 : atB [tn a, tn b] (0 : Int) = some (tn a) := rfl
  have e1 : atB [tn a, tn b] (1 : Int) = some (tn b) := rfl
  simp [c_map_mirrored, startB, h_undone, h_sure_map, s_sure_map d M h60, s_undone (d + 4) M.ha (by omega), e0, e1]
theorem s_map_type (q1 : oneK (thn a b) = true) (q2 : oneK a = true) : callAt tab (d + 6) 187 [mp a b] h = .ok (.tup [ni (len0 (thn a b)), ni (len0 a)], h) := by
  refine call_pure t_map_type rfl (by simp) (by simp) ?_
  have e0 : atB [tn a, tn b] (0 : Int) = some (tn a) := rfl
  have r1 := rounds_le (p := a)
  have r2 := rounds_le (p := thn a b)
  rw [thn_len] at r2
  have hs := thn_sh M.ha M.hb M.hl
  simp [c_map_type, startB, h_rounds_of, h_faced, h_sure_map, s_sure_map d M h60, s_faced (d + 3) M (by simp only [sizeB]; omega), e0, s_rounds_of (d + 4) M.ha (by omega), s_rounds_of (d + 4) hs (by rw [thn_len]; omega), srcB_lst lstAt_new, -List.append_assoc, -List.length_append]
  refine lcA (rounds (thn a b)) tn (fun r => .int (r.length : Int)) (g0_lst rfl) (by simp [sizeB]; omega) (fun r _ m => ?_) fun m => ?_
  · simp
  · rw [il_map]
    dsimp only
    rw [sset_new (by rw [il_len]; omega)]
    have e1 : lstAt ([PO.lst ((rounds (thn a b)).map tn)] ++ m ++ [PO.lst ((il (rounds (thn a b))).map .int)] ++ [PO.lst ((dd (il (rounds (thn a b)))).map .int)]) (([PO.lst ((rounds (thn a b)).map tn)] ++ m).length + 1) = some ((dd (il (rounds (thn a b)))).map .int) := by
      have := lstAt_new (h := [PO.lst ((rounds (thn a b)).map tn)] ++ m ++ [PO.lst ((il (rounds (thn a b))).map .int)]) (xs := (dd (il (rounds (thn a b)))).map .int)
      rw [List.length_append] at this
      exact this
    generalize [PO.lst ((rounds (thn a b)).map tn)] ++ m ++ [PO.lst ((il (rounds (thn a b))).map .int)] ++ [PO.lst ((dd (il (rounds (thn a b)))).map .int)] = M1 at e1 ⊢
    generalize ([PO.lst ((rounds (thn a b)).map tn)] ++ m).length + 1 = r at e1 ⊢
    simp [h_rounds_of, e0, s_rounds_of (d + 4) M.ha (by omega), srcB_lst lstAt_new, -List.append_assoc, -List.length_append]
    refine lcA (rounds a) tn (fun r => .int (r.length : Int)) (g0_lst lstAt_new) (by simp [sizeB]; omega) (fun r _ m => ?_) fun m => ?_
    · simp
    · rw [il_map]
      dsimp only
      rw [sset_new (by rw [il_len]; omega)]
      have e2 : lstAt (M1 ++ [PO.lst ((rounds a).map tn)] ++ m ++ [PO.lst ((il (rounds a)).map .int)] ++ [PO.lst ((dd (il (rounds a))).map .int)]) ((M1 ++ [PO.lst ((rounds a).map tn)] ++ m).length + 1) = some ((dd (il (rounds a))).map .int) := by
        have := lstAt_new (h := M1 ++ [PO.lst ((rounds a).map tn)] ++ m ++ [PO.lst ((il (rounds a)).map .int)]) (xs := (dd (il (rounds a))).map .int)
        rw [List.length_append] at this
        exact this
      have e3 := lstAt_app (l := [PO.lst ((rounds a).map tn)] ++ m ++ [PO.lst ((il (rounds a)).map .int)] ++ [PO.lst ((dd (il (rounds a))).map .int)]) e1
      simp only [← List.append_assoc] at e3
      generalize M1 ++ [PO.lst ((rounds a).map tn)] ++ m ++ [PO.lst ((il (rounds a)).map .int)] ++ [PO.lst ((dd (il (rounds a))).map .int)] = M2 at e2 e3 ⊢
      generalize (M1 ++ [PO.lst ((rounds a).map tn)] ++ m).length + 1 = r2 at e2 ⊢
      rw [oneK_eq hs (by rw [thn_len]; have := M.h2; omega) q1] at e3
      rw [oneK_eq M.ha (by have := M.h2; omega) q2] at e2
      simp [lenB_lst e2, lenB_lst e3, getB_lst e2, getB_lst e3, atB, ixB]
theorem s_map_type_no (q : ¬ (oneK (thn a b) = true ∧ oneK a = true)) : callAt tab (d + 6) 187 [mp a b] h = .exc 1 h := by
  refine call_exc t_map_type rfl (by simp) ?_ h
  have e0 : atB [tn a, tn b] (0 : Int) = some (tn a) := rfl
  have r1 := rounds_le (p := a)
  have r2 := rounds_le (p := thn a b)
  rw [thn_len] at r2
  have hs := thn_sh M.ha M.hb M.hl
  refine ex_nx ?_
  simp [startB, h_sure_map, s_sure_map d M h60, c_map_type, -List.append_assoc, -List.length_append]
  refine ex_nx ?_
  simp [startB, h_rounds_of, h_faced, h_sure_map, s_faced (d + 3) M (by simp only [sizeB]; omega), e0, s_rounds_of (d + 4) hs (by rw [thn_len]; omega), srcB_lst lstAt_new, -List.append_assoc, -List.length_append]
  refine lcA (rounds (thn a b)) tn (fun r => .int (r.length : Int)) (g0_lst rfl) (by simp [sizeB]; omega) (fun r _ m => ?_) fun m => ?_
  · simp
  · rw [il_map]
    dsimp only
    rw [sset_new (by rw [il_len]; omega)]
    have e1 : lstAt ([PO.lst ((rounds (thn a b)).map tn)] ++ m ++ [PO.lst ((il (rounds (thn a b))).map .int)] ++ [PO.lst ((dd (il (rounds (thn a b)))).map .int)]) (([PO.lst ((rounds (thn a b)).map tn)] ++ m).length + 1) = some ((dd (il (rounds (thn a b)))).map .int) := by
      have := lstAt_new (h := [PO.lst ((rounds (thn a b)).map tn)] ++ m ++ [PO.lst ((il (rounds (thn a b))).map .int)]) (xs := (dd (il (rounds (thn a b)))).map .int)
      rw [List.length_append] at this
      exact this
    generalize [PO.lst ((rounds (thn a b)).map tn)] ++ m ++ [PO.lst ((il (rounds (thn a b))).map .int)] ++ [PO.lst ((dd (il (rounds (thn a b)))).map .int)] = M1 at e1 ⊢
    generalize ([PO.lst ((rounds (thn a b)).map tn)] ++ m).length + 1 = r at e1 ⊢
    simp [-List.append_assoc, -List.length_append]
    refine ex_nx ?_
    simp [h_rounds_of, e0, s_rounds_of (d + 4) M.ha (by omega), srcB_lst lstAt_new, -List.append_assoc, -List.length_append]
    refine lcA (rounds a) tn (fun r => .int (r.length : Int)) (g0_lst lstAt_new) (by simp [sizeB]; omega) (fun r _ m => ?_) fun m => ?_
    · simp
    · rw [il_map]
      dsimp only
      rw [sset_new (by rw [il_len]; omega)]
      have e2 : lstAt (M1 ++ [PO.lst ((rounds a).map tn)] ++ m ++ [PO.lst ((il (rounds a)).map .int)] ++ [PO.lst ((dd (il (rounds a))).map .int)]) ((M1 ++ [PO.lst ((rounds a).map tn)] ++ m).length + 1) = some ((dd (il (rounds a))).map .int) := by
        have := lstAt_new (h := M1 ++ [PO.lst ((rounds a).map tn)] ++ m ++ [PO.lst ((il (rounds a)).map .int)]) (xs := (dd (il (rounds a))).map .int)
        rw [List.length_append] at this
        exact this
      have e3 := lstAt_app (l := [PO.lst ((rounds a).map tn)] ++ m ++ [PO.lst ((il (rounds a)).map .int)] ++ [PO.lst ((dd (il (rounds a))).map .int)]) e1
      simp only [← List.append_assoc] at e3
      generalize M1 ++ [PO.lst ((rounds a).map tn)] ++ m ++ [PO.lst ((il (rounds a)).map .int)] ++ [PO.lst ((dd (il (rounds a))).map .int)] = M2 at e2 e3 ⊢
      generalize (M1 ++ [PO.lst ((rounds a).map tn)] ++ m).length + 1 = r2 at e2 ⊢
      have p1 := dd_pos (l := il (rounds a)) (fun e => rounds_pos M.ha (by have := M.h2; omega) (by
        unfold il at e
        exact List.map_eq_nil_iff.mp e))
      have p2 := dd_pos (l := il (rounds (thn a b))) (fun e => rounds_pos hs (by rw [thn_len]; have := M.h2; omega) (by
        unfold il at e
        exact List.map_eq_nil_iff.mp e))
      unfold oneK at q
      rw [decide_eq_true_iff, decide_eq_true_iff] at q
      simp [-List.append_assoc, -List.length_append]
      refine ex_now (ex_ite ?_)
      by_cases z : (1 : Int) < ((dd (il (rounds (thn a b)))).length : Int)
      · simp [lenB_lst e3, z]
        exact ex_now ex_raise
      · have z2 : (1 : Int) < ((dd (il (rounds a))).length : Int) := by omega
        simp [lenB_lst e3, lenB_lst e2, z, z2]
        exact ex_now ex_raise
end
end K40
end Dp
set_option linter.all false
set_option Elab.async false
set_option maxRecDepth 100000
namespace Dp
/-- the draws' list at t; k: how many there were at most -/
def Tin (h : Mem) (t k : Nat) : Prop := ∃ a b c : Int, h[t]? = some (.lst [.int a, .int b, .int c]) ∧ 0 ≤ a ∧ 0 ≤ b ∧ b < 4611686018427387904 ∧ 0 ≤ c ∧ c ≤ k
theorem Tin.mono {h : Mem} {t k k' : Nat} (T : Tin h t k) (hk : k ≤ k') : Tin h t k' := by
  obtain ⟨a, b, c, h1, h2, h3, h4, h5, h6⟩ := T
  exact ⟨a, b, c, h1, h2, h3, h4, h5, by omega⟩
theorem Tin.lt {h : Mem} {t k : Nat} (T : Tin h t k) : t < h.length := by
  obtain ⟨a, b, c, h1, _⟩ := T
  exact (List.getElem?_eq_some_iff.mp h1).1
theorem Tin.app {h l : Mem} {t k : Nat} (T : Tin h t k) : Tin (h ++ l) t k := by
  obtain ⟨a, b, c, h1, r⟩ := T
  exact ⟨a, b, c, at_app h1, r⟩
theorem Tin.fr {h m : Mem} {t k : Nat} (T : Tin h t k) (f : Fr h m) : Tin m t k := by
  obtain ⟨a, b, c, h1, r⟩ := T
  exact ⟨a, b, c, f.at h1, r⟩
/-- a later memory: all is kept but what stands at t -/
def Mx (t : Nat) (h h' : Mem) : Prop := h.length ≤ h'.length ∧ ∀ n, n < h.length → n ≠ t → h'[n]? = h[n]?
theorem Mx.refl {t : Nat} {h : Mem} : Mx t h h := ⟨Nat.le_refl _, fun _ _ _ => rfl⟩
theorem Mx.trans {t : Nat} {h h1 h2 : Mem} (a : Mx t h h1) (b : Mx t h1 h2) : Mx t h h2 := ⟨Nat.le_trans a.1 b.1, fun n hn ht => (b.2 n (Nat.lt_of_lt_of_le hn a.1) ht).trans (a.2 n hn ht)⟩
theorem Mx.app {t : Nat} {h h1 l : Mem} (a : Mx t h h1) : Mx t h (h1 ++ l) := ⟨by rw [List.length_append]; exact Nat.le_trans a.1 (Nat.le_add_right _ _), fun n hn ht => by
  rw [List.getElem?_append_left (Nat.lt_of_lt_of_le hn a.1)]
  exact a.2 n hn ht⟩
theorem Mx.set {t : Nat} {h h1 : Mem} {o : PO} (a : Mx t h h1) : Mx t h (h1.set t o) := ⟨by rw [List.length_set]; exact a.1, fun n hn ht => by
  rw [List.getElem?_set_ne (fun e => ht e.symm)]
  exact a.2 n hn ht⟩
/-- .. what was made behind may be written -/
theorem Mx.set2 {t r : Nat} {h h1 : Mem} {o : PO} (a : Mx t h h1) (hr : h.length ≤ r) : Mx t h (h1.set r o) := ⟨by rw [List.length_set]; exact a.1, fun n hn ht => by
  rw [List.getElem?_set_ne (by omega)]
  exact a.2 n hn ht⟩
theorem Mx.at {t n : Nat} {h h1 : Mem} {o : PO} (a : Mx t h h1) (e : h[n]? = some o) (ht : n ≠ t) : h1[n]? = some o := by
  rw [a.2 n (List.getElem?_eq_some_iff.mp e).1 ht]
  exact e
theorem Mx.lst {t n : Nat} {h h1 : Mem} {xs : List PV} (a : Mx t h h1) (e : lstAt h n = some xs) (ht : n ≠ t) : lstAt h1 n = some xs := by
  unfold lstAt at e ⊢
  cases q : h[n]? with
  | none => rw [q] at e; cases e
  | some o => rw [a.at q ht, ← e, q]
theorem zipSelf {α β : Type} (f : α → α → β) : ∀ l : List α, List.zipWith f l l = l.map fun x => f x x
  | [] => rfl
  | x :: l => by
    show f x x :: List.zipWith f l l = _ :: l.map _
    rw [zipSelf f l]
theorem Mx.of_fr {t : Nat} {h m : Mem} (f : Fr h m) : Mx t h m := ⟨f.len, fun n hn _ => by
  obtain ⟨o, e⟩ : ∃ o, h[n]? = some o := ⟨_, List.getElem?_eq_getElem hn⟩
  rw [e]
  exact f.at e⟩
theorem Mx.take {t : Nat} {h h1 : Mem} (a : Mx t h h1) : Mx t h (h1.take h.length) := ⟨by rw [List.length_take, Nat.min_eq_left a.1]; exact Nat.le_refl _, fun n hn ht => by
  rw [List.getElem?_take_of_lt hn]
  exact a.2 n hn ht⟩
theorem Tin.take {h h1 : Mem} {t k : Nat} (T : Tin h1 t k) (ht : t < h.length) : Tin (h1.take h.length) t k := by
  obtain ⟨a, b, c, h1, r⟩ := T
  exact ⟨a, b, c, by rw [List.getElem?_take_of_lt ht]; exact h1, r⟩
/-- all but the first, 62 at most -/
def cutI (ns : List Int) : List Int := (ns.drop (min 1 ns.length)).take (min 63 ns.length - min 1 ns.length)
theorem cutI_eq (ns : List Int) : cutB (ns.map .int) (some 1) (some 63) = (cutI ns).map .int := by
  show (((ns.map PV.int).drop (min 1 (ns.map PV.int).length)).take (min 63 (ns.map PV.int).length - min 1 (ns.map PV.int).length)) = _
  rw [List.length_map, ← List.map_drop, ← List.map_take]
  rfl
theorem cutI_len (ns : List Int) : (cutI ns).length ≤ 63 := by
  unfold cutI
  rw [List.length_take]
  omega
namespace K40
theorem s_take (d : Nat) {n : Int} {K t : Nat} {h : Mem} (T : Tin h t K) (hK : K < 1000000000000000) (h0 : 0 < n) (h1 : n < 1000000000) :
    wp (callAt tab (d + 1) 47 [.loc t, .int n] h) fun r => ∃ k : Nat, r.1 = .int k ∧ (k : Int) < n ∧ Mx t h r.2 ∧ r.2.length = h.length ∧ Tin r.2 t (K + 1) := by
  have ht := T.lt
  obtain ⟨a, b, c, hm, ha, hb, hb2, hc, hc2⟩ := T
  refine call_loc t__law_take rfl rfl ?_
  have h30 : small30 n = true := small30_iff.mpr (by omega)
  have hne : ¬ n = 0 := by omega
  have nn : ∀ x : Int, ∃ k : Nat, x.fmod n = k ∧ (k : Int) < n := fun x => by
    have e1 := Int.fmod_nonneg_of_pos x h0
    have e2 := Int.fmod_lt_of_pos x h0
    exact ⟨(x.fmod n).toNat, by omega, by omega⟩
  by_cases q : 0 < a
  · have e2 : ∀ v : Int, setB h.length h (.loc t) (.int 0) (.int v) = .ok (h.set t (.lst [.int v, .int b, .int c])) := fun v => setB_lst hm (by decide) (by simp) rfl
    simp [c__law_take, startB, getB_lst (lst_of hm), atB, ixB, q, s__law_take_0, h30, hne, e2, -List.append_assoc, -List.length_append]
    obtain ⟨k, e3, e4⟩ := nn a
    refine ⟨k, by rw [e3], e4, Mx.refl.set.take, Tin.take (k := K + 1) ⟨a.fdiv n, b, c, ?_, Int.fdiv_nonneg ha (by omega), hb, hb2, hc, by omega⟩ ht⟩
    rw [List.getElem?_set_self ht]
  · have e2 : ∀ v : Int, setB h.length h (.loc t) (.int 2) (.int v) = .ok (h.set t (.lst [.int a, .int b, .int v])) := fun v => setB_lst hm (by decide) (by simp) rfl
    have hm2 : (h.set t (.lst [.int a, .int b, .int (c + 1)]))[t]? = some (.lst [.int a, .int b, .int (c + 1)]) := List.getElem?_set_self ht
    have s1 : small64 (c + 1) = true := small64_iff.mpr (by omega)
    have s2 : small64 (39373 + (c + 1)) = true := small64_iff.mpr (by omega)
    have s3 : small64 48271 = true := rfl
    have s4 : small30 1000003 = true := rfl
    have s5 : small30 64 = true := rfl
    have s6 : ∀ x : Int, small64 (x.fmod 40009 + 7) = true := fun x => small64_iff.mpr (by
      have e1 := Int.fmod_nonneg_of_pos x (show (0 : Int) < 40009 by decide)
      have e2 := Int.fmod_lt_of_pos x (show (0 : Int) < 40009 by decide)
      omega)
    simp [c__law_take, startB, getB_lst (lst_of hm), getB_lst (lst_of hm2), atB, ixB, q, e2, s1, s2, s3, s4, s5, s6, hne, -List.append_assoc, -List.length_append]
    obtain ⟨k, e3, e4⟩ := nn _
    refine ⟨k, e3, e4, Mx.refl.set.take, Tin.take (k := K + 1) ⟨a, b, c + 1, hm2, ha, hb, hb2, by omega, by omega⟩ ht⟩
theorem cells_loop (c : Cfg) {h M : Mem} {a r q : Nat} {x0 : Int} {ys : List Int} {D : Po} (f : Fr h M) (hr : h.length ≤ r) (hM : M[r]? = some (.lst [.int x0])) (hq : lstAt M q = some (ys.map .int)) (hqr : q ≠ r) (hl : ys.length < 1000)
    (hD : ∀ e m x, e[2]? = some (some (.loc r)) → Fr h m → m[r]? = some (.lst [.int x]) → D.nx e m) :
    ws (forLoop (forStep c (TN.tup (TNs.cons (TN.name 3) (TNs.cons (TN.name 4) TNs.nil))) s__law_cells_0) fuelB (Src.lst q).enum 0 [some (.loc a), some (.int 1), some (.loc r), none, none, none] M) D := by
  refine forI ((ys.map PV.int).mapIdx fun i x => .tup [.int (i : Int), x]) (fun i e m => ∃ s3 s4 s5 x, e = [some (.loc a), some (.int 1), some (.loc r), s3, s4, s5] ∧ Fr h m ∧ m[r]? = some (.lst [.int x]) ∧ lstAt m q = some (ys.map .int)) (by simp [sizeB]; omega) ?_ ?_ ⟨none, none, none, x0, rfl, f, hM, hq⟩ ?_
  · rintro i e m ⟨s3, s4, s5, x, rfl, f1, h1, h2⟩
    have := g0_enum (g0_lst h2) i []
    rw [List.append_nil] at this
    exact this
  · rintro i e m hi ⟨s3, s4, s5, x, rfl, f1, h1, h2⟩
    have hi' : i < ys.length := by simpa using hi
    have e2 : ∀ v : Int, setB c.n0 m (.loc r) (.int 0) (.int v) = .ok (m.set r (.lst [.int v])) := fun v => setB_lst h1 (by decide) (by simp) rfl
    have s1 : small64 ((i : Int) + 2) = true := small64_iff.mpr (by omega)
    have e3 : (i : Int).fmod 1 = 0 := by simp [Int.fmod_one]
    simp [s__law_cells_0, getB_lst (lst_of h1), atB, ixB, e2, e3, s1, -List.append_assoc, -List.length_append]
    refine ⟨f1.set hr _, ⟨_, List.getElem?_set_self (List.getElem?_eq_some_iff.mp h1).1⟩, ?_⟩
    unfold lstAt at h2 ⊢
    rw [List.getElem?_set_ne (fun z => hqr z.symm)]
    exact h2
  · rintro e m ⟨s3, s4, s5, x, rfl, f1, h1, h2⟩
    exact hD _ _ _ rfl f1 h1
theorem s_cells (d : Nat) {h : Mem} {a : Nat} {ns : List Int} (ha : lstAt h a = some (ns.map .int)) (hl : ns.length < 1000) :
    wp (callAt tab (d + 1) 9 [.loc a, .int 1] h) fun r => r.1 = .loc h.length ∧ ∃ x : Int, r.2 = h ++ [.lst [.int x]] := by
  refine call_locL t__law_cells rfl rfl ?_
  have es := slB_toL ha (k := 1) (by decide) (by decide)
  have cut : ∀ M : Mem, lstAt M a = some (ns.map .int) → slB M (.loc a) (some (.int 1)) (some (.int 63)) none = .ok (.loc M.length, M ++ [.lst ((cutI ns).map .int)]) := fun M e => by
    rw [slB_cutL e (by decide) (by decide) (by decide) (by decide), cutI_eq]
  have hc := cutI_len ns
  cases ns with
  | nil =>
    have f1 : Fr h (h ++ [.lst []] ++ [.lst []] ++ [.lst [.int 0]]) := (((Fr.refl h).app _).app _).app _
    have e0 : truB (h ++ [PO.lst []] ++ [PO.lst []]) (.loc (h ++ [PO.lst []]).length) = some false := truB_lst lstAt_new
    have e1 : (h ++ [.lst []] ++ [.lst []] ++ [.lst [.int 0]])[(h ++ [PO.lst []] ++ [PO.lst []]).length]? = some (.lst [.int 0]) := at_new
    have l1 : h.length ≤ (h ++ [PO.lst []] ++ [PO.lst []]).length := ((Fr.refl h).app _ |>.app _).len
    simp [c__law_cells, startB, es, e0, -List.append_assoc, -List.length_append]
    generalize (h ++ [PO.lst []] ++ [PO.lst []]).length = r at e1 l1 ⊢
    generalize h ++ [PO.lst []] ++ [PO.lst []] ++ [PO.lst [PV.int 0]] = M at f1 e1 ⊢
    have lr := (List.getElem?_eq_some_iff.mp e1).1
    rw [cut M (f1.lst ha)]
    simp [srcB_lst lstAt_new, Src.seqS, -List.append_assoc, -List.length_append]
    refine cells_loop _ (f1.app _) l1 (at_app e1) lstAt_new (by omega) (by omega) fun e m x e1 f h1 => ?_
    simp [e1, -List.append_assoc, -List.length_append]
    exact ⟨l1, _, h1, rfl, f, x, rfl⟩
  | cons n ns =>
    have f1 : Fr h (h ++ [PO.lst [PV.int n]] ++ [PO.lst [PV.int n]]) := ((Fr.refl h).app _).app _
    have e0 : truB (h ++ [PO.lst [PV.int n]] ++ [PO.lst [PV.int n]]) (PV.loc (h ++ [PO.lst [PV.int n]]).length) = some true := truB_lst lstAt_new
    have e1 : (h ++ [PO.lst [PV.int n]] ++ [PO.lst [PV.int n]])[(h ++ [PO.lst [PV.int n]]).length]? = some (.lst [.int n]) := at_new
    have l1 : h.length ≤ (h ++ [PO.lst [PV.int n]]).length := ((Fr.refl h).app _).len
    simp [c__law_cells, startB, es, e0, -List.append_assoc, -List.length_append]
    generalize (h ++ [PO.lst [PV.int n]]).length = r at e1 l1 ⊢
    generalize h ++ [PO.lst [PV.int n]] ++ [PO.lst [PV.int n]] = M at f1 e1 ⊢
    have lr := (List.getElem?_eq_some_iff.mp e1).1
    rw [cut M (f1.lst ha)]
    simp [srcB_lst lstAt_new, Src.seqS, -List.append_assoc, -List.length_append]
    refine cells_loop _ (f1.app _) l1 (at_app e1) lstAt_new (by omega) (by omega) fun e m x e1 f h1 => ?_
    simp [e1, -List.append_assoc, -List.length_append]
    exact ⟨l1, _, h1, rfl, f, x, rfl⟩
theorem s_box (d : Nat) {h : Mem} {a : Nat} {x : Int} (ha : h[a]? = some (.lst [.int x])) :
    wp (callAt tab (d + 1) 7 [.loc a, .int 0] h) fun r => r.1 = .loc h.length ∧ ∃ a b : Int, 0 ≤ a ∧ 0 ≤ b ∧ b < 4611686018427387904 ∧ r.2 = h ++ [.lst [.int a, .int b, .int 0]] := by
  refine call_locL t__law_box rfl rfl ?_
  have s1 : small64 (10 : Int) = true := rfl
  have s2 : small64 (1 : Int) = true := rfl
  have s4 : small64 (0 : Int) = true := rfl
  have s3 : small64 39373 = true := rfl
  have e1 := Int.fmod_nonneg_of_pos x (show (0 : Int) < 2305843009213693951 by decide)
  have e2 := Int.fmod_lt_of_pos x (show (0 : Int) < 2305843009213693951 by decide)
  simp [c__law_box, startB, getB_lst (lst_of ha), lenB_lst (lst_of ha), atB, ixB, absB_int, s1, s2, s3, -List.append_assoc, -List.length_append]
  by_cases q : (1000000000000000000 : Int) ≤ x.natAbs
  · simp [q, s2, -List.append_assoc, -List.length_append]
    exact ⟨x.natAbs, by omega, _, by omega, by omega, rfl, rfl⟩
  · simp [q, s4, -List.append_assoc, -List.length_append]
    exact ⟨0, by omega, _, by omega, by omega, rfl, rfl⟩
/-! the law's own helpers -/
theorem s_lists_int (d : Nat) (i : Int) (h : Mem) : callAt tab (d + 1) 26 [.int i] h = .ok (.int i, h) := by
  refine call_pure t__law_lists rfl rfl rfl ?_
  simp [c__law_lists, startB, isB]
theorem s_lists (d : Nat) (l : List Int) (hl : l.length < sizeB) (h : Mem) : callAt tab (d + 2) 26 [ti l] h = .ok (.loc h.length, h ++ [.lst (l.map .int)]) := by
  refine call_pureL t__law_lists rfl (by simp) (by simp) ?_
  simp [c__law_lists, startB, isB]
  refine lcA l .int .int g0_tup hl (fun a _ m => ?_) fun m => ?_
  · simp [h__law_lists, s_lists_int]
  · simp
theorem s_same_int (d : Nat) (i j : Int) (h : Mem) : callAt tab (d + 1) 39 [.int i, .int j] h = .ok (.bl (decide (i = j)), h) := by
  refine call_pure t__law_same rfl rfl rfl ?_
  simp [c__law_same, startB, isB]
theorem s_same_bl (d : Nat) (a b : Bool) (h : Mem) : callAt tab (d + 1) 39 [.bl a, .bl b] h = .ok (.bl (a == b), h) := by
  refine call_pure t__law_same rfl rfl rfl ?_
  simp [c__law_same, startB, isB]
/-- a value that same tells to be itself at this depth -/
def SameAt (d : Nat) (x : PV) : Prop := x.pure = true ∧ (∀ c, x ≠ .exn c) ∧ ∀ h : Mem, callAt tab d 39 [x, x] h = .ok (.bl true, h)
theorem sameAt_int (d : Nat) (i : Int) : SameAt (d + 1) (.int i) := ⟨rfl, nofun, fun h => by rw [s_same_int]; simp⟩
theorem sameAt_bl (d : Nat) (b : Bool) : SameAt (d + 1) (.bl b) := ⟨rfl, nofun, fun h => by rw [s_same_bl]; simp⟩
theorem var_ne {v : PV} {P Q : Prop} (h : ∀ c, v ≠ .exn c) : (match some (some v) with | some (some (.exn _)) => False | some (some _) => P | _ => False) = P := by
  cases v <;> first | rfl | exact absurd rfl (h _)
theorem sameAt_tup (d : Nat) (xs : List PV) (hl : xs.length < sizeB) (hx : ∀ x ∈ xs, SameAt (d + 1) x) : SameAt (d + 2) (.tup xs) := by
  have hp : PV.pures xs = true := pures_of fun x h => (hx x h).1
  refine ⟨hp, nofun, fun h => ?_⟩
  refine call_pure t__law_same rfl (by simp [hp]) rfl ?_
  simp [c__law_same, startB, isB, Src.seqS]
  refine lcA xs (fun x => .tup [x, x]) (fun _ => .bl true) (by rw [← zipSelf fun x y => PV.tup [x, y]]; exact g0_zip g0_tup g0_tup) hl (fun a ha m => ?_) fun m => ?_
  · obtain ⟨h1, h2, h3⟩ := hx a ha
    cases a <;> first | exact absurd rfl (h2 _) | simp [h__law_same, h3]
  · simp [allBl_map]
theorem sameAt_ti (d : Nat) (l : List Int) (hl : l.length < sizeB) : SameAt (d + 2) (ti l) := sameAt_tup d _ (by simpa using hl) fun x hx => by
  obtain ⟨i, _, rfl⟩ := List.mem_map.mp hx
  exact sameAt_int d i
theorem s_same_lst (d : Nat) {h : Mem} {a b : Nat} {xs : List PV} (ha : lstAt h a = some xs) (hb : lstAt h b = some xs) (hl : xs.length < sizeB) (hx : ∀ x ∈ xs, SameAt (d + 1) x) : callAt tab (d + 2) 39 [.loc a, .loc b] h = .ok (.bl true, h) := by
  refine wp_eq (call_loc t__law_same rfl rfl ?_)
  simp [c__law_same, startB, isiB_loc ha, isiB_loc hb, isB, Src.seqS, lenB_lst ha, lenB_lst hb, srcB_lst ha, srcB_lst hb, -List.append_assoc, -List.length_append]
  refine lcA xs (fun x => .tup [x, x]) (fun _ => .bl true) (by rw [← zipSelf fun x y => PV.tup [x, y]]; exact g0_zip (g0_lst ha) (g0_lst hb)) hl (fun a ha m => ?_) fun m => ?_
  · obtain ⟨h1, h2, h3⟩ := hx a ha
    cases a <;> first | exact absurd rfl (h2 _) | simp [h__law_same, h3, -List.append_assoc, -List.length_append]
  · simp [allBl_map, -List.append_assoc, -List.length_append]
    exact (((Fr.refl h).app _).app _).take
end K40
end Dp
set_option linter.all false
set_option Elab.async false
set_option maxRecDepth 100000
namespace Dp
theorem eraseIdx_perm {α : Type} : ∀ {l : List α} {k : Nat} (h : k < l.length), l.Perm (l[k] :: l.eraseIdx k)
  | x :: l, 0, h => .refl _
  | x :: l, k + 1, h => by
    have := (eraseIdx_perm (l := l) (k := k) (by simpa using h)).cons x
    exact this.trans (.swap _ _ _)
theorem pures_all0 : ∀ xs : List PV, PV.pures xs = xs.all PV.pure
  | [] => rfl
  | x :: xs => by
    show (x.pure && PV.pures xs) = _
    rw [pures_all0 xs]
    rfl
/-- drawn so far: pool at a, found behind it -/
inductive PickF (h : Mem) (t a K c : Nat) (goods : List PV) : Nat → Env → Mem → Prop
  | mk {i : Nat} {m : Mem} (s3 : Option PV) (pool fnd : List PV) (mx : Mx t h m) (T : Tin m t (K + i)) (h1 : m[h.length]? = some (.lst pool)) (h2 : m[h.length + 1]? = some (.lst fnd)) (hl : fnd.length = i) (hp : (fnd ++ pool).Perm goods) (hm : m.length = h.length + 2) :
    PickF h t a K c goods i [some (.loc t), some (.loc a), some (.int c), s3, some (.loc h.length), some (.loc (h.length + 1))] m
/-- the rounds by the law's own -/
inductive LrF (p : List Nat) : Nat → Env → Mem → Prop
  | mk {i : Nat} {m : Mem} (s1 s4 s5 s6 : Option PV) (s : Nat) (S : List Nat) (h0 : m[0]? = some (.lst ((((List.range i).filter (isMn (ap p) p.length)).map (orb (ap p) p.length)).map tn))) (hs : s ≠ 0) (h1 : m[s]? = some (.lst (S.map ni)))
      (hS : ∀ x, x ∈ S ↔ ∃ j, j < i ∧ Rd (ap p) j x) (hd : S.Nodup) : LrF p i [some (tn p), s1, some (.loc 0), some (.loc s), s4, s5, s6] m
inductive LrI (p : List Nat) (k s r : Nat) (X : List PV) (S : List Nat) : Nat → Env → Mem → Prop
  | mk {i : Nat} {m : Mem} (s4 : Option PV) (h0 : m[0]? = some (.lst X)) (h1 : m[s]? = some (.lst (S.map ni))) (h2 : m[r]? = some (.lst ((List.range i).map fun j => ni (it (ap p) j k)))) : LrI p k s r X S i [some (tn p), some (ni k), some (.loc 0), some (.loc s), s4, some (.loc r), some (ni (it (ap p) i k))] m
theorem set2_at {m : Mem} {r : Nat} {o : PO} (h : r < m.length) : (m.set r o)[r]? = some o := List.getElem?_set_self h
theorem ne_at {m : Mem} {r n : Nat} {o : PO} (h : n ≠ r) : (m.set r o)[n]? = m[n]? := List.getElem?_set_ne (fun e => h e.symm)
namespace K40
theorem s_pick (d : Nat) {h : Mem} {t a K c : Nat} {goods : List PV} (T : Tin h t K) (hK : K < 100000000000000) (ha : lstAt h a = some goods) (hp : PV.pures goods = true) (hl : goods.length < 1000000) (hc : c < 1000000) :
    wp (callAt tab (d + 2) 35 [.loc t, .loc a, .int c] h) fun r => r.1 = .loc h.length ∧ ∃ m ys rest, r.2 = m ++ [.lst ys] ∧ m.length = h.length ∧ Mx t h m ∧ Tin m t (K + c) ∧ ys.length = min c goods.length ∧ (ys ++ rest).Perm goods := by
  have ht := T.lt
  refine call_locL t__law_pick rfl rfl ?_
  obtain ⟨w, hw⟩ : ∃ w, w = min c goods.length := ⟨_, rfl⟩
  have em : (if goods.length < c then (goods.length : Int) else (c : Int)) = (w : Int) := by split <;> omega
  have s0 : small62 0 = true := rfl
  have s1 : small62 (w : Int) = true := small62_iff.mpr (by omega)
  rw [← hw]
  have e1 : lstAt (h ++ [.lst goods] ++ [.lst []]) h.length = some goods := lstAt_app lstAt_new
  have hmin : ∀ (m : Mem) (i j : Int), minV m [.int i, .int j] = .ok (.int (if j < i then j else i), m) := fun _ _ _ => rfl
  have lm : (h ++ [PO.lst goods]).length = h.length + 1 := by simp
  have T1 : Tin (h ++ [.lst goods] ++ [.lst []]) t K := T.app.app
  have M1 : Mx t h (h ++ [.lst goods] ++ [.lst []]) := Mx.refl.app.app
  have g1 : (h ++ [.lst goods] ++ [.lst []])[h.length]? = some (.lst goods) := at_app at_new
  have g2 : (h ++ [.lst goods] ++ [.lst []])[h.length + 1]? = some (.lst []) := by
    have := at_new (h := h ++ [.lst goods]) (o := .lst [])
    rw [lm] at this
    exact this
  have g3 : (h ++ [PO.lst goods] ++ [PO.lst []]).length = h.length + 2 := by simp
  simp [c__law_pick, startB, itemsB_lst ha, lenB_lst e1, hmin, em, s0, s1, lm, -List.append_assoc, -List.length_append]
  generalize h ++ [PO.lst goods] ++ [PO.lst []] = M at T1 M1 g1 g2 g3 ⊢
  refine forI ((List.range w).map fun (i : Nat) => .int (0 + (i : Int))) (PickF h t a K c goods) (by simp [sizeB]; omega) ?_ ?_ (.mk none goods [] M1 T1 g1 g2 rfl (.refl _) g3) ?_
  · rintro i e m _
    exact g0_rng (h := m) i []
  · rintro i e m hi ⟨s3, pool, fnd, M2, T2, p1, p2, p3, p4, p5⟩
    have hi' : i < w := by simpa using hi
    rw [List.getElem_map]
    have hpl := p4.length_eq
    rw [List.length_append] at hpl
    simp [s__law_pick_0, rcB_lst p2, rcB_lst p1, lenB_lst (lst_of p1), h__law_take, -List.append_assoc, -List.length_append]
    refine (s_take d T2 (n := (pool.length : Int)) (by omega) (by omega) (by omega)).imp fun r ⟨k, e, hk, mx, hl, T3⟩ => ?_
    obtain ⟨v, m2⟩ := r
    dsimp only at e mx hl T3 ⊢
    subst e
    have q1 := mx.at p1 (by omega)
    have q2 := mx.at p2 (by omega)
    have hk' : k < pool.length := by omega
    have hg : pool[k] ∈ goods := p4.mem_iff.mp (List.mem_append_right _ (List.getElem_mem hk'))
    have hpu : pool[k].pure = true := by
      rw [pures_all0] at hp
      exact List.all_eq_true.mp hp _ hg
    have l2 := (List.getElem?_eq_some_iff.mp q2).1
    have l1 := (List.getElem?_eq_some_iff.mp q1).1
    have q3 : (m2.set h.length (.lst (pool.eraseIdx k)))[h.length + 1]? = some (.lst fnd) := by
      rw [List.getElem?_set_ne (by omega)]
      exact q2
    have hmay : mayB h.length (h.length + 1) pool[k] = true := by
      unfold mayB
      rw [hpu]
      rfl
    simp [popi_lst q1 (List.getElem?_eq_getElem hk'), append_lst q3 hmay (by simp only [sizeB]; omega), -List.append_assoc, -List.length_append]
    refine .mk _ (pool.eraseIdx k) (fnd ++ [pool[k]]) (((M2.trans mx).set2 (Nat.le_refl _)).set2 (Nat.le_succ _)) ?_ ?_ ?_ ?_ ?_ ?_
    · obtain ⟨a1, b1, c1, z1, z2⟩ := T3
      refine ⟨a1, b1, c1, ?_, z2⟩
      rw [List.getElem?_set_ne (by omega), List.getElem?_set_ne (by omega)]
      exact z1
    · rw [List.getElem?_set_ne (by omega)]
      exact List.getElem?_set_self l1
    · exact List.getElem?_set_self (by rw [List.length_set]; exact l2)
    · simp [p3]
    · rw [List.append_assoc]
      exact ((eraseIdx_perm hk').symm.append_left fnd).trans p4
    · rw [List.length_set, List.length_set, hl, p5]
  · rintro e m ⟨s3, pool, fnd, M2, T2, p1, p2, p3, p4, p5⟩
    rw [List.length_map, List.length_range] at p3 T2
    have hpf : PV.pures fnd = true := by
      rw [pures_all0, List.all_eq_true] at hp ⊢
      exact fun x hx => hp x (p4.mem_iff.mp (List.mem_append_left _ hx))
    simp [-List.append_assoc, -List.length_append]
    refine ⟨fnd, p2, hpf, m.take h.length, fnd, ⟨rfl, rfl⟩, by rw [List.length_take]; omega, M2.take, (T2.take ht).mono (by omega), p3, pool, p4⟩
theorem s_law_then (d : Nat) {p q : List Nat} (hq : ∀ x ∈ p, x < q.length) (hl : p.length < sizeB) (h : Mem) : callAt tab (d + 1) 49 [tn p, tn q] h = .ok (tn (thn p q), h) := by
  refine call_pure t__law_then rfl (by simp) (tn_pure _) ?_
  simp [c__law_then, startB]
  refine lcA p ni (fun k => ni (ap q k)) g0_tup hl (fun a ha m => ?_) fun m => ?_
  · simp [atB_ni (hq a ha)]
  · simp [ap_thn_list]
theorem s_law_undone (d : Nat) {p : List Nat} (hp : Sh p) (hl : p.length < 1000000) (h : Mem) : callAt tab (d + 1) 53 [tn p] h = .ok (tn (und p), h) := by
  refine call_pure t__law_undone rfl (by simp) (tn_pure _) ?_
  simp [c__law_undone, startB, rangeB_N hl, srcB_rngN hl]
  refine lcA (List.range p.length) ni (fun k => ni (p.idxOf k)) g0_rngN (by simp [sizeB]; omega) (fun k hk m => ?_) fun m => ?_
  · have : k ∈ p := hp.perm.mem_iff.mpr hk
    simp [index_tn this]
  · simp
    unfold und
    rw [List.map_map]
    rfl
theorem s_law_rounds (d : Nat) {p : List Nat} (hp : Sh p) (hl : p.length < 1000000) (h : Mem) : callAt tab (d + 1) 38 [tn p] h = .ok (.loc h.length, h ++ [.lst ((rounds p).map tn)]) := by
  refine call_pureL t__law_rounds rfl (by simp) (by simp) ?_
  simp [c__law_rounds, startB, rangeB_N hl, srcB_rngN hl]
  refine forI ((List.range p.length).map ni) (LrF p) (by simp [sizeB]; omega) ?_ ?_ (.mk none none none none 1 [] rfl (by decide) rfl (by simp) List.nodup_nil) ?_
  · rintro i e m _
    exact g0_rngN (h := m) i []
  · rintro i e m hi ⟨s1, s4, s5, s6, s, S, k0, hs, k1, kS, kd⟩
    have hi' : i < p.length := by simpa using hi
    have hx : ((List.range p.length).map ni)[i] = ni i := by simp
    rw [hx]
    have e1 := nmem_lst (k := i) k1
    have E := Rd.eqv hp.bij
    have hS : ∀ x ∈ S, x < p.length := fun x hx => by
      obtain ⟨j, hj, k, rfl⟩ := (kS x).mp hx
      exact it_lt hp.bij (by omega)
    have hSl := nodup_len kd hS
    have l0 : 0 < m.length := (List.getElem?_eq_some_iff.mp k0).1
    have l1 : s < m.length := (List.getElem?_eq_some_iff.mp k1).1
    by_cases z : i ∈ S
    · simp only [z, decide_true, Bool.not_true] at e1
      simp [s__law_rounds_2, e1]
      have hm : isMn (ap p) p.length i = false := by
        rw [← Bool.not_eq_true, isMn_iff hp.bij]
        intro q
        obtain ⟨j, hj, r⟩ := (kS i).mp z
        exact q j hj r
      refine .mk _ _ _ _ s S ?_ hs k1 (fun x => ?_) kd
      · rw [k0, List.range_succ, List.filter_append, List.filter_cons_of_neg (by rw [hm]; decide), List.filter_nil, List.append_nil]
      · rw [kS]
        refine ⟨fun ⟨j, hj, r⟩ => ⟨j, by omega, r⟩, fun ⟨j, hj, r⟩ => ?_⟩
        by_cases q : j = i
        · subst q
          obtain ⟨j', hj', r'⟩ := (kS j).mp z
          exact ⟨j', hj', E.tr r' r⟩
        · exact ⟨j, by omega, r⟩
    · simp only [z, decide_false, Bool.not_false] at e1
      have hm : isMn (ap p) p.length i = true := (isMn_iff hp.bij i).mpr fun j hj r => z ((kS i).mpr ⟨j, hj, r⟩)
      have hz : ∀ y, Rd (ap p) i y → y ∉ S := fun y r hy => by
        obtain ⟨j, hj, r'⟩ := (kS y).mp hy
        exact z ((kS i).mpr ⟨j, hj, E.tr r' (E.sym r)⟩)
      obtain ⟨M, g1, g2, g3, g4, g5⟩ := orb_ex hp.bij i
      have hM : M ≤ p.length := by
        have := (orb_len hp.bij hi').2
        rw [g5, List.length_map, List.length_range] at this
        exact this
      obtain ⟨X, hX⟩ : ∃ X, X = (((List.range i).filter (isMn (ap p) p.length)).map (orb (ap p) p.length)).map tn := ⟨_, rfl⟩
      have hXl : X.length < sizeB := by
        rw [hX, List.length_map, List.length_map]
        have := List.length_filter_le (isMn (ap p) p.length) (List.range i)
        rw [List.length_range] at this
        simp only [sizeB]; omega
      rw [← hX] at k0
      simp [s__law_rounds_2, e1, s__law_rounds_1, rangeB_N hl, srcB_rngN hl, -List.append_assoc, -List.length_append]
      -- behind the inner loop
      have fin : ∀ e m', LrI p i s m.length X S M e m' → ws (evSs ⟨callAt tab d, fun i => (tab i).isSome, 0⟩ (.cons (.expr (.mth .append (.var 2) (.cons (.blt .tuple (.cons (.var 5) .nil)) .nil))) (.cons (.asg (.pat (.name 3)) (.bin .add (.var 3) (.var 5))) .nil)) e m') { nx := LrF p (i + 1), ct := LrF p (i + 1) } := by
        rintro e m' ⟨s4, q0, q1, qr⟩
        have hrow : ((List.range M).map fun j => ni (it (ap p) j i)) = (orb (ap p) p.length i).map ni := by rw [g5, List.map_map]; rfl
        rw [hrow] at qr
        have e4 := append_lst (n0 := 0) (v := tn (orb (ap p) p.length i)) q0 (by simp [mayB]) hXl
        have lo := (orb_len hp.bij hi').2
        have l0' := (List.getElem?_eq_some_iff.mp q0).1
        have q2 : (m'.set 0 (.lst (X ++ [tn (orb (ap p) p.length i)])))[s]? = some (.lst (S.map ni)) := by rw [ne_at hs]; exact q1
        have q3 : (m'.set 0 (.lst (X ++ [tn (orb (ap p) p.length i)])))[m.length]? = some (.lst ((orb (ap p) p.length i).map ni)) := by rw [ne_at (by omega)]; exact qr
        have q4 := set2_at (o := .lst (X ++ [tn (orb (ap p) p.length i)])) (List.getElem?_eq_some_iff.mp q0).1
        simp [rcB_lst q0, lst_of qr, e4, q2, q3, show S.length + (orb (ap p) p.length i).length ≤ sizeB by simp only [sizeB]; omega, -List.append_assoc, -List.length_append]
        refine .mk _ _ _ _ _ (S ++ orb (ap p) p.length i) ?_ (by omega) (by rw [List.map_append]; simp) (fun x => ?_) ?_
        · rw [at_app q4, List.range_succ, List.filter_append, List.filter_cons_of_pos hm, List.filter_nil]
          simp [hX]
        · rw [List.mem_append, kS, mem_orb hp.bij]
          constructor
          · rintro (⟨j, hj, r⟩ | r)
            · exact ⟨j, by omega, r⟩
            · exact ⟨i, by omega, r⟩
          · rintro ⟨j, hj, r⟩
            by_cases q : j = i
            · subst q; exact .inr r
            · exact .inl ⟨j, by omega, r⟩
        · rw [List.nodup_append]
          refine ⟨kd, orb_nd hp.bij i, fun a ha b hb e => ?_⟩
          exact hz b ((mem_orb hp.bij).mp hb) (e ▸ ha)
      refine forI ((List.range p.length).map ni) (fun j e m' => j ≤ M ∧ LrI p i s m.length X S j e m') (by simp [sizeB]; omega) ?_ ?_ ⟨Nat.zero_le _, .mk _ (at_app k0) (at_app k1) (by simp)⟩ ?_
      · rintro i e m _
        exact g0_rngN (h := m) i []
      · rintro j e m' hj ⟨hjM, ⟨s4, q0, q1, qr⟩⟩
        have hj' : j < p.length := by simpa using hj
        have hx : ((List.range p.length).map ni)[j] = ni j := by simp
        rw [hx]
        have qr' : m'[m.length]? = some (.lst (((List.range j).map fun k => it (ap p) k i).map ni)) := by rw [qr, List.map_map]; rfl
        have e2 := mem_lst (k := it (ap p) j i) qr'
        have hin : it (ap p) j i ∈ ((List.range j).map fun k => it (ap p) k i) ↔ j = M := by
          rw [List.mem_map]
          constructor
          · rintro ⟨k, hk, e⟩
            have hk := List.mem_range.mp hk
            by_cases z : j < M
            · exact absurd e (it_ne hp.bij g4 hk z)
            · omega
          · rintro rfl
            exact ⟨0, List.mem_range.mpr g1, by rw [g3]; rfl⟩
        have hlt : it (ap p) j i < p.length := it_lt hp.bij hi'
        by_cases zz : j = M
        · have z1 := hin.mpr zz
          simp only [z1, decide_true] at e2
          simp [s__law_rounds_0, e2]
          subst zz
          have := fin _ _ (.mk (some (ni j)) q0 q1 qr)
          simpa using this
        · have z1 : ¬ _ := fun h => zz (hin.mp h)
          simp only [z1, decide_false] at e2
          have e3 := append_lst (n0 := 0) (v := ni (it (ap p) j i)) qr rfl (by rw [List.length_map, List.length_range]; simp only [sizeB]; omega)
          simp [s__law_rounds_0, e2, rcB_lst qr, e3, atB_ni hlt]
          have lr := (List.getElem?_eq_some_iff.mp qr).1
          refine ⟨by omega, .mk _ ?_ ?_ ?_⟩
          · rw [ne_at (by omega)]; exact q0
          · rw [ne_at (by omega)]; exact q1
          · rw [set2_at lr, List.range_succ]; simp
      · rintro e m' ⟨hjM, L⟩
        rw [List.length_map, List.length_range] at hjM L
        have : p.length = M := by omega
        have L' : LrI p i s m.length X S M e m' := by rw [← this]; exact L
        have := fin _ _ L'
        simpa using this
  · rintro e m ⟨s1, s4, s5, s6, s, S, k0, _⟩
    simp
    rw [k0]
    simp [rounds, mins]
end K40
end Dp
set_option linter.all false
set_option Elab.async false
set_option maxRecDepth 100000
namespace Dp
theorem perm_ni {ys : List PV} {n : Nat} (h : ys.Perm ((List.range n).map ni)) : ∃ O : List Nat, ys = O.map ni ∧ O.Perm (List.range n) := by
  refine ⟨ys.map fun y => match y with | .int i => i.toNat | _ => 0, ?_, ?_⟩
  · rw [List.map_map]
    conv => lhs; rw [← List.map_id ys]
    refine List.map_congr_left fun y hy => ?_
    obtain ⟨k, _, rfl⟩ := List.mem_map.mp (h.mem_iff.mp hy)
    rfl
  · have := h.map fun y => match y with | .int i => i.toNat | _ => 0
    rw [List.map_map] at this
    have e : (List.range n).map ((fun y => match y with | PV.int i => i.toNat | _ => 0) ∘ ni) = List.range n := by
      conv => rhs; rw [← List.map_id (List.range n)]
      rfl
    rw [e] at this
    exact this
/-- all drawn -/
theorem all_drawn {ys rest : List PV} {n : Nat} (h : (ys ++ rest).Perm ((List.range n).map ni)) (hl : ys.length = n) : ∃ O : List Nat, ys = O.map ni ∧ O.Perm (List.range n) := by
  have := h.length_eq
  rw [List.length_append, List.length_map, List.length_range] at this
  have e : rest = [] := List.eq_nil_of_length_eq_zero (by omega)
  rw [e, List.append_nil] at h
  exact perm_ni h
/-- across, around in the making -/
structure Mst (h : Mem) (t K lc la : Nat) (X Y : List Nat) (m : Mem) : Prop where
  mx : Mx t h m
  T : Tin m t K
  hc : m[lc]? = some (.lst (X.map ni))
  ha : m[la]? = some (.lst (Y.map ni))
  gc : h.length ≤ lc
  ga : h.length ≤ la
  ne : lc ≠ la
  ht : t < h.length
theorem Mst.app {h l m : Mem} {t K lc la : Nat} {X Y : List Nat} (s : Mst h t K lc la X Y m) : Mst h t K lc la X Y (m ++ l) := ⟨s.mx.app, s.T.app, at_app s.hc, at_app s.ha, s.gc, s.ga, s.ne, s.ht⟩
theorem Tin.set {h : Mem} {t k r : Nat} {o : PO} (T : Tin h t k) (hr : r ≠ t) : Tin (h.set r o) t k := by
  obtain ⟨a, b, c, h1, z⟩ := T
  exact ⟨a, b, c, by rw [List.getElem?_set_ne hr]; exact h1, z⟩
theorem Mst.setC {h m : Mem} {t K lc la : Nat} {X Y Z : List Nat} (s : Mst h t K lc la X Y m) : Mst h t K lc la Z Y (m.set lc (.lst (Z.map ni))) :=
  ⟨s.mx.set2 s.gc, s.T.set (by have := s.ht; have := s.gc; omega), List.getElem?_set_self (List.getElem?_eq_some_iff.mp s.hc).1, by rw [List.getElem?_set_ne s.ne]; exact s.ha, s.gc, s.ga, s.ne, s.ht⟩
theorem Mst.setA {h m : Mem} {t K lc la : Nat} {X Y Z : List Nat} (s : Mst h t K lc la X Y m) : Mst h t K lc la X Z (m.set la (.lst (Z.map ni))) :=
  ⟨s.mx.set2 s.ga, s.T.set (by have := s.ht; have := s.ga; omega), by rw [List.getElem?_set_ne (fun e => s.ne e.symm)]; exact s.hc, List.getElem?_set_self (List.getElem?_eq_some_iff.mp s.ha).1, s.gc, s.ga, s.ne, s.ht⟩
/-- the pairs so far -/
inductive LmA (h : Mem) (t K s n lo lc la : Nat) (O Y : List Nat) : Nat → Env → Mem → Prop
  | mk {i : Nat} {m : Mem} (s4 s5 s8 s9 s10 s11 s12 : Option PV) (X : List Nat) (M : Mst h t K lc la X Y m) (ho : m[lo]? = some (.lst (O.map ni))) (hX : X.length = n) (hj : ∀ j, j < i → ap X (ap O (2 * j)) = ap O (2 * j + 1) ∧ ap X (ap O (2 * j + 1)) = ap O (2 * j)) :
    LmA h t K s n lo lc la O Y i [some (.loc t), some (ni s), some (ni n), some (.loc lo), s4, s5, some (.loc lc), some (.loc la), s8, s9, s10, s11, s12] m
/-- what is found so far -/
structure Fnd (n : Nat) (X Y F : List Nat) : Prop where
  nd : F.Nodup
  lt : ∀ x ∈ F, x < n
  z : 0 ∈ F
  rc : ∀ x ∈ F, Rch [Y, X] 0 x
/-- two of the own lists done: i of them -/
inductive LmO (h : Mem) (t K s n lc la : Nat) (X Y F : List Nat) (E : Nat → Option PV) : Nat → Env → Mem → Prop
  | mk {i : Nat} {m : Mem} (lf : Nat) (s4 s11 s12 : Option PV) (N : List Nat) (M : Mst h t K lc la X Y m) (hf : m[lf]? = some (.lst ((F ++ N).map ni))) (hF : Fnd n X Y (F ++ N)) (h1 : 1 ≤ i → ∀ x ∈ F, ap Y x ∈ F ++ N) (h2 : 2 ≤ i → ∀ x ∈ F, ap X x ∈ F ++ N)
     : LmO h t K s n lc la X Y F E i [some (.loc t), some (ni s), some (ni n), E 3, s4, E 5, some (.loc lc), some (.loc la), some (.loc lf), E 9, E 10, s11, s12] m
/-- all that is led to from what is found is found -/
def Clo (X Y F : List Nat) : Prop := ∀ z ∈ F, ap Y z ∈ F ∧ ap X z ∈ F
inductive LmT (h : Mem) (t K s n lc la : Nat) (X Y : List Nat) (E : Nat → Option PV) : Nat → Env → Mem → Prop
  | mk {i : Nat} {m : Mem} (lf : Nat) (s4 s9 s11 s12 : Option PV) (F : List Nat) (M : Mst h t K lc la X Y m) (hf : m[lf]? = some (.lst (F.map ni))) (hF : Fnd n X Y F) (hc : Clo X Y F ∨ i + 1 ≤ F.length)
     : LmT h t K s n lc la X Y E i [some (.loc t), some (ni s), some (ni n), E 3, s4, E 5, some (.loc lc), some (.loc la), some (.loc lf), s9, E 10, s11, s12] m
/-- the laps: some are led to, or all is done -/
inductive LmL (h : Mem) (t K s n lc la : Nat) (X : List Nat) : Nat → Env → Mem → Prop
  | mk {i : Nat} {m : Mem} (s3 s4 s5 s8 s9 s10 s11 s12 : Option PV) (Y : List Nat) (M : Mst h t K lc la X Y m) (hY : Sh Y) (hl : Y.length = n) (hL : (∀ x, x < n → Rch [Y, X] 0 x) ∨ ∃ L : List Nat, L.Nodup ∧ (∀ x ∈ L, x < n) ∧ (∀ x ∈ L, Rch [Y, X] 0 x) ∧ i + 1 ≤ L.length)
     : LmL h t K s n lc la X i [some (.loc t), some (ni s), some (ni n), s3, s4, s5, some (.loc lc), some (.loc la), s8, s9, s10, s11, s12] m
theorem filt_nin (N F : List Nat) : (N.filterMap fun k => if k ∈ F then none else some (ni k)) = (N.filter fun k => !decide (k ∈ F)).map ni := by
  induction N with
  | nil => rfl
  | cons x N ih =>
    rw [List.filterMap_cons, List.filter_cons]
    by_cases z : x ∈ F <;> simp [z, ih]
namespace K40
/-- found, and what one list leads it to -/
theorem map_own (c : Cfg) {m : Mem} {lf q : Nat} {F P : List Nat} {D : Po} {e0 e1 e2 e3 e4 e5 e6 e7 e9 e10 e12 : Option PV} (hf : m[lf]? = some (.lst (F.map ni))) (hq : m[q]? = some (.lst (P.map ni))) (hF : ∀ x ∈ F, x < P.length) (hl : F.length < 62)
    (hD : ∀ l lf' N e4 e12, (m ++ l)[lf']? = some (.lst ((F ++ N).map ni)) → N.Nodup → (∀ x, x ∈ N ↔ (x ∉ F ∧ ∃ y ∈ F, ap P y = x)) → D.nx [e0, e1, e2, e3, e4, e5, e6, e7, some (.loc lf'), e9, e10, some (.loc q), e12] (m ++ l)) :
    ws (evSs c s__law_map_0 [e0, e1, e2, e3, e4, e5, e6, e7, some (.loc lf), e9, e10, some (.loc q), e12] m) D := by
  have hs : F.length < sizeB := by simp only [sizeB]; omega
  simp [s__law_map_0, srcB_lst (lst_of hf), -List.append_assoc, -List.length_append]
  refine lcA F ni (fun k => ni (ap P k)) (g0_lst (lst_of hf)) hs (fun k hk m1 => ?_) fun m1 => ?_
  · simp [getB_lst (lst_of (at_app hq)), atB_ni (hF k hk), -List.append_assoc, -List.length_append]
  · have e1 : F.map (fun k => ni (ap P k)) = ((F.map (ap P)).map fun (k : Nat) => (k : Int)).map .int := by rw [List.map_map, List.map_map]; rfl
    obtain ⟨N, n1, n2, n3, n4⟩ := dd_nat (F.map (ap P))
    dsimp only
    rw [e1, sset_new (by rw [List.length_map, List.length_map]; exact hl), n1, ← tn_ti, ← tn_ti]
    rw [List.length_map] at n3
    generalize (F.map (ap P)).map ni = W
    have el : lstAt (m ++ m1 ++ [PO.lst W] ++ [PO.lst (N.map ni)]) ((m ++ m1).length + 1) = some (N.map ni) := by
      have := lstAt_new (h := m ++ m1 ++ [PO.lst W]) (xs := N.map ni)
      rw [List.length_append] at this
      exact this
    have ef : (m ++ m1 ++ [PO.lst W] ++ [PO.lst (N.map ni)])[lf]? = some (.lst (F.map ni)) := at_app (at_app (at_app hf))
    simp [srcB_lst el, -List.append_assoc, -List.length_append]
    obtain ⟨l1, hl1⟩ : ∃ l1, m ++ m1 ++ [PO.lst W] ++ [PO.lst (N.map ni)] = m ++ l1 := ⟨m1 ++ [PO.lst W] ++ [PO.lst (N.map ni)], by simp⟩
    rw [hl1] at el ef ⊢
    refine lcF N ni (fun k => if k ∈ F then none else some (ni k)) (g0_lst el) (by simp only [sizeB]; omega) (fun k hk m2 => ?_) fun m2 => ?_
    · have e2 := nmem_lst (k := k) (at_app (l := m2) ef)
      by_cases z : k ∈ F
      · simp only [z, decide_true, Bool.not_true] at e2
        simp [e2, z, -List.append_assoc, -List.length_append]
      · simp only [z, decide_false, Bool.not_false] at e2
        simp [e2, z, -List.append_assoc, -List.length_append]
    · rw [filt_nin]
      have h1 := List.length_filter_le (fun k => !decide (k ∈ F)) N
      generalize hN2 : N.filter (fun k => !decide (k ∈ F)) = N2 at h1 ⊢
      have e3 : (m ++ l1 ++ m2 ++ [PO.lst (N2.map ni)])[lf]? = some (.lst (F.map ni)) := at_app (at_app ef)
      simp [e3, show F.length + N2.length ≤ sizeB by simp only [sizeB]; omega, -List.append_assoc, -List.length_append]
      have := hD (l1 ++ m2 ++ [PO.lst (N2.map ni)] ++ [PO.lst ((F ++ N2).map ni)]) (m ++ (l1 ++ m2 ++ [PO.lst (N2.map ni)])).length N2 e4 e12 (by rw [← List.append_assoc]; exact at_new) (by rw [← hN2]; exact n2.filter _) (fun x => by
        rw [← hN2, List.mem_filter, n4, List.mem_map]
        simp [and_comm])
      simp at this ⊢
      exact this
theorem fnd_own {n : Nat} {X Y F N P : List Nat} (hP : P = Y ∨ P = X) (hS : Sh P) (hl : P.length = n) (h : Fnd n X Y F) (hd : N.Nodup) (hN : ∀ x, x ∈ N ↔ (x ∉ F ∧ ∃ y ∈ F, ap P y = x)) : Fnd n X Y (F ++ N) ∧ ∀ x ∈ F, ap P x ∈ F ++ N := by
  refine ⟨⟨List.nodup_append.mpr ⟨h.nd, hd, fun a ha b hb e => ((hN b).mp hb).1 (e ▸ ha)⟩, fun x hx => ?_, List.mem_append_left _ h.z, fun x hx => ?_⟩, fun x hx => ?_⟩
  · rcases List.mem_append.mp hx with q | q
    · exact h.lt x q
    · obtain ⟨_, y, hy, rfl⟩ := (hN x).mp q
      have := h.lt y hy
      have := hS.ap (show y < P.length by omega)
      omega
  · rcases List.mem_append.mp hx with q | q
    · exact h.rc x q
    · obtain ⟨_, y, hy, rfl⟩ := (hN x).mp q
      exact (h.rc y hy).step (by rcases hP with e | e <;> simp [e])
  · by_cases q : ap P x ∈ F
    · exact List.mem_append_left _ q
    · exact List.mem_append_right _ ((hN _).mpr ⟨q, x, hx, rfl⟩)
theorem own_loop (c : Cfg) {h m : Mem} {t K s n lc la lf : Nat} {X Y F : List Nat} {E : Nat → Option PV} {s4 s11 s12 : Option PV} {D : Po} (M : Mst h t K lc la X Y m) (hX : Sh X) (hXl : X.length = n) (hY : Sh Y) (hYl : Y.length = n) (hn : n < 62)
    (hf : m[lf]? = some (.lst (F.map ni))) (hF : Fnd n X Y F) (hD : ∀ e m', LmO h t K s n lc la X Y F E 2 e m' → D.nx e m') :
    ws (forLoop (forStep c (.name 11) s__law_map_0) fuelB (.tup [.loc la, .loc lc]) 0 [some (.loc t), some (ni s), some (ni n), E 3, s4, E 5, some (.loc lc), some (.loc la), some (.loc lf), E 9, E 10, s11, s12] m) D := by
  refine forI [.loc la, .loc lc] (LmO h t K s n lc la X Y F E) (by simp [sizeB]) ?_ ?_ (.mk lf s4 s11 s12 [] M (by simpa using hf) (by simpa using hF) (by omega) (by omega)) ?_
  · rintro i e m _
    exact g0_tup (h := m) i []
  · rintro i e m hi ⟨lf, s4, s11, s12, N, M, hf, hF, h1, h2⟩
    have hl := nodup_len hF.nd hF.lt
    have hi' : i = 0 ∨ i = 1 := by simp at hi; omega
    rcases hi' with rfl | rfl
    · simp [-List.append_assoc, -List.length_append]
      refine map_own c hf M.ha (fun x hx => by have := hF.lt x hx; omega) (by omega) fun l lf' N2 e4 e12 k1 k2 k3 => ?_
      obtain ⟨f1, f2⟩ := fnd_own (.inl rfl) hY hYl hF k2 k3
      refine .mk lf' e4 _ e12 (N ++ N2) M.app (by rw [← List.append_assoc]; exact k1) (by rw [← List.append_assoc]; exact f1) (fun _ x hx => ?_) (by omega)
      rw [← List.append_assoc]
      exact f2 x (List.mem_append_left _ hx)
    · simp [-List.append_assoc, -List.length_append]
      refine map_own c hf M.hc (fun x hx => by have := hF.lt x hx; omega) (by omega) fun l lf' N2 e4 e12 k1 k2 k3 => ?_
      obtain ⟨f1, f2⟩ := fnd_own (.inr rfl) hX hXl hF k2 k3
      refine .mk lf' e4 _ e12 (N ++ N2) M.app (by rw [← List.append_assoc]; exact k1) (by rw [← List.append_assoc]; exact f1) (fun _ x hx => ?_) fun _ x hx => ?_
      · rw [← List.append_assoc]
        exact List.mem_append_left _ (h1 (by omega) x hx)
      · rw [← List.append_assoc]
        exact f2 x (List.mem_append_left _ hx)
  · intro e m L
    exact hD e m L
theorem turn_loop (d n0 : Nat) {h m : Mem} {t K s n lc la lf : Nat} {X Y F : List Nat} {E : Nat → Option PV} {s4 s9 s11 s12 : Option PV} {D : Po} (M : Mst h t K lc la X Y m) (hX : Sh X) (hXl : X.length = n) (hY : Sh Y) (hYl : Y.length = n) (hn : n < 62)
    (hf : m[lf]? = some (.lst (F.map ni))) (hF : Fnd n X Y F) (hD : ∀ e m', LmT h t K s n lc la X Y E n e m' → D.nx e m') :
    ws (forLoop (forStep ⟨callAt tab d, fun i => (tab i).isSome, n0⟩ (.name 9) s__law_map_1) fuelB (.rng 0 n) 0 [some (.loc t), some (ni s), some (ni n), E 3, s4, E 5, some (.loc lc), some (.loc la), some (.loc lf), s9, E 10, s11, s12] m) D := by
  refine forI ((List.range n).map ni) (LmT h t K s n lc la X Y E) (by simp [sizeB]; omega) ?_ ?_ (.mk lf s4 s9 s11 s12 F M hf hF (.inr (by have := List.length_pos_of_mem hF.z; omega))) ?_
  · rintro i e m _
    exact g0_rngN (h := m) i []
  · rintro i e m hi ⟨lf, s4, s9, s11, s12, F, M, hf, hF, hc⟩
    rw [List.getElem_map]
    simp [s__law_map_1, -List.append_assoc, -List.length_append]
    refine own_loop _ (E := fun k => if k = 9 then some (ni i) else E k) M hX hXl hY hYl hn hf hF fun e m' L => ?_
    obtain ⟨lf', s4', s11', s12', N, M', hf', hF', h1, h2⟩ := L
    refine .mk lf' s4' _ s11' s12' (F ++ N) M' hf' hF' ?_
    by_cases hN : N = []
    · subst hN
      rw [List.append_nil] at h1 h2 ⊢
      exact .inl fun z hz => ⟨h1 (by omega) z hz, h2 (by omega) z hz⟩
    · rcases hc with hc | hc
      · -- closed: nothing new
        refine .inl fun z hz => ?_
        have all : ∀ x, Rch [Y, X] 0 x → x ∈ F := fun x r => r.closed (fun x hx p hp => by
          rcases List.mem_cons.mp hp with e | e
          · rw [e]; exact (hc x hx).1
          · rw [List.mem_singleton.mp e]; exact (hc x hx).2) hF.z
        have hz' := all z (hF'.rc z hz)
        exact ⟨List.mem_append_left _ (hc z hz').1, List.mem_append_left _ (hc z hz').2⟩
      · refine .inr ?_
        have := List.length_pos_iff.mpr hN
        rw [List.length_append]
        omega
  · intro e m L
    rw [List.length_map, List.length_range] at L
    exact hD e m L
/-- all is led to -/
inductive LmE (h : Mem) (t K s n lc la : Nat) (X : List Nat) : Env → Mem → Prop
  | mk {m : Mem} (s3 s4 s5 s8 s9 s10 s11 s12 : Option PV) (Y : List Nat) (M : Mst h t K lc la X Y m) (hY : Sh Y) (hl : Y.length = n) (hL : ∀ x, x < n → Rch [Y, X] 0 x)
     : LmE h t K s n lc la X [some (.loc t), some (ni s), some (ni n), s3, s4, s5, some (.loc lc), some (.loc la), s8, s9, s10, s11, s12] m
theorem lap_body (d n0 : Nat) {h m : Mem} {t K s n lc la i : Nat} {X : List Nat} {e : Env} {D : Po} (h0 : n0 ≤ h.length) (hX : Sh X) (hXl : X.length = n) (hn : n < 62) (hn0 : 0 < n) (L : LmL h t K s n lc la X i e m)
    (h1 : ∀ e m', LmL h t K s n lc la X (i + 1) e m' → D.nx e m') (h2 : ∀ e m', LmE h t K s n lc la X e m' → D.br e m') : ws (evSs ⟨callAt tab d, fun i => (tab i).isSome, n0⟩ s__law_map_2 e m) D := by
  obtain ⟨s3, s4, s5, s8, s9, s10, s11, s12, Y, M, hY, hYl, hL⟩ := L
  simp [s__law_map_2, rangeB_N (show n < 1000000 by omega), srcB_rngN (show n < 1000000 by omega), -List.append_assoc, -List.length_append]
  refine turn_loop d n0 (E := fun k => if k = 3 then s3 else if k = 5 then s5 else s10) M.app hX hXl hY hYl hn (F := [0]) at_new ⟨by simp, by simpa using hn0, by simp, by simpa using Rch.refl 0⟩ fun e m' L => ?_
  obtain ⟨lf, s4, s9, s11, s12, F, M, hf, hF, hc⟩ := L
  have hFl := nodup_len hF.nd hF.lt
  have hc : Clo X Y F := hc.resolve_right (by omega)
  simp [rangeB_N (show n < 1000000 by omega), srcB_rngN (show n < 1000000 by omega), -List.append_assoc, -List.length_append]
  refine lcF (List.range n) ni (fun k => if k ∈ F then none else some (ni k)) g0_rngN (by simp [sizeB]; omega) (fun k hk m2 => ?_) fun m2 => ?_
  · have e2 := nmem_lst (k := k) (at_app (l := m2) hf)
    by_cases z : k ∈ F
    · simp only [z, decide_true, Bool.not_true] at e2
      simp [e2, z, -List.append_assoc, -List.length_append]
    · simp only [z, decide_false, Bool.not_false] at e2
      simp [e2, z, -List.append_assoc, -List.length_append]
  · rw [filt_nin]
    have hleft : ∀ x, x ∈ (List.range n).filter (fun k => !decide (k ∈ F)) ↔ x < n ∧ x ∉ F := fun x => by simp
    generalize (List.range n).filter (fun k => !decide (k ∈ F)) = R at hleft
    have el : lstAt (m' ++ m2 ++ [PO.lst (R.map ni)] ++ [PO.lst []]) (m' ++ m2).length = some ((R.map fun (k : Nat) => (k : Int)).map .int) := by rw [← tn_ti]; exact lstAt_app lstAt_new
    have e1 := eq_ints (l := R.map fun (k : Nat) => (k : Int)) (r := []) el lstAt_new
    have hfM : (m' ++ m2 ++ [PO.lst (R.map ni)] ++ [PO.lst []])[lf]? = some (.lst (F.map ni)) := at_app (at_app (at_app hf))
    have M2 : Mst h t K lc la X Y (m' ++ m2 ++ [PO.lst (R.map ni)] ++ [PO.lst []]) := M.app.app.app
    rw [← tn_ti] at el
    dsimp only
    have hlr : (m' ++ m2).length ≠ la := by
      have := (List.getElem?_eq_some_iff.mp M.ha).1
      rw [List.length_append]
      omega
    generalize m' ++ m2 ++ [PO.lst (R.map ni)] ++ [PO.lst []] = M3 at el e1 hfM M2 ⊢
    generalize (m' ++ m2 ++ [PO.lst (R.map ni)]).length = lr2 at e1 ⊢
    generalize (m' ++ m2).length = lr at el e1 hlr ⊢
    cases R with
    | nil =>
      simp at e1
      simp [e1, -List.append_assoc, -List.length_append]
      exact h2 _ _ (.mk _ _ _ _ _ _ _ _ Y M2 hY hYl fun x hx => hF.rc x (Classical.byContradiction fun q => by have := (hleft x).mpr ⟨hx, q⟩; cases this))
    | cons y R =>
      obtain ⟨hy, hyF⟩ := (hleft y).mp (List.mem_cons_self ..)
      obtain ⟨F', x, rfl⟩ : ∃ F' x, F = F' ++ [x] := by
        rcases List.eq_nil_or_concat F with q | ⟨F', x, q⟩
        · have := hF.z; rw [q] at this; cases this
        · exact ⟨F', x, by rw [q, List.concat_eq_append]⟩
      have hxF : x ∈ F' ++ [x] := by simp
      have hx := hF.lt x hxF
      simp at e1
      have c1 : atB ((y :: R).map ni) (0 : Int) = some (ni y) := by simp [atB, ixB]
      have c2 : atB ((F' ++ [x]).map ni) (-1 : Int) = some (ni x) := by
        unfold atB ixB
        rw [if_neg (by decide), if_pos (by simp; omega)]
        simp
        rw [show (-1 + ((F'.length : Int) + 1)).toNat = F'.length by omega]
        simp
      have a1 : atB (Y.map ni) (x : Int) = some (ni (ap Y x)) := atB_ni (by omega)
      have a2 : atB (Y.map ni) (y : Int) = some (ni (ap Y y)) := atB_ni (by omega)
      have b1 := setB_lst (n0 := n0) (k := (x : Int)) (v := ni (ap Y y)) M2.ha (by omega) (by rw [List.length_map]; omega) rfl
      have M4 := M2.setA (Z := Y.set x (ap Y y))
      rw [Int.toNat_natCast, ← List.map_set] at b1
      have b2 := setB_lst (n0 := n0) (k := (y : Int)) (v := ni (ap Y x)) M4.ha (by omega) (by rw [List.length_map, List.length_set]; omega) rfl
      rw [Int.toNat_natCast, ← List.map_set] at b2
      have M5 := M4.setA (Z := (Y.set x (ap Y y)).set y (ap Y x))
      have g1 : getB M3 (.loc lr) (.int 0) = .ok (ni y, M3) := by rw [getB_lst el, c1]
      have g2 : getB M3 (.loc la) (ni y) = .ok (ni (ap Y y), M3) := by rw [getB_lst (lst_of M2.ha), a2]
      have g3 : getB M3 (.loc lf) (.int (-1)) = .ok (ni x, M3) := by rw [getB_lst (lst_of hfM), c2]
      have g4 : getB M3 (.loc la) (ni x) = .ok (ni (ap Y x), M3) := by rw [getB_lst (lst_of M2.ha), a1]
      have g5 : getB (M3.set la (.lst ((Y.set x (ap Y y)).map ni))) (.loc lr) (.int 0) = .ok (ni y, M3.set la (.lst ((Y.set x (ap Y y)).map ni))) := by
        have : lstAt (M3.set la (.lst ((Y.set x (ap Y y)).map ni))) lr = some ((y :: R).map ni) := by
          unfold lstAt at el ⊢
          rw [ne_at hlr]
          exact el
        rw [getB_lst this, c1]
      obtain ⟨w1, w2⟩ := swap_rch hY (fun z hz => by have := hF.lt z hz; omega) hc hF.rc hF.z hxF (show y < Y.length by omega) hyF
      have hZs := swap_sh hY (show x < Y.length by omega) (show y < Y.length by omega)
      have hZl : ((Y.set x (ap Y y)).set y (ap Y x)).length = n := by simp [hYl]
      generalize (Y.set x (ap Y y)).set y (ap Y x) = Z2 at b2 M5 w1 w2 hZs hZl
      generalize Y.set x (ap Y y) = Z1 at b1 b2 M4 M5 g5
      rw [List.set_set] at M5
      simp [e1, ws_six2, g1, g2, g3, g4, b1, g5, b2, -List.append_assoc, -List.length_append]
      refine h1 _ _ (.mk _ _ _ _ _ _ _ _ _ M5 hZs hZl ?_)
      refine .inr ⟨F' ++ [x] ++ [y], List.nodup_append.mpr ⟨hF.nd, by simp, fun a ha b hb e => hyF (by rw [List.mem_singleton] at hb; exact hb ▸ e ▸ ha)⟩, fun z hz => ?_, fun z hz => ?_, ?_⟩
      · rcases List.mem_append.mp hz with q | q
        · exact hF.lt z q
        · rw [List.mem_singleton.mp q]; exact hy
      · rcases List.mem_append.mp hz with q | q
        · exact w1 z q
        · rw [List.mem_singleton.mp q]; exact w2
      · rw [List.length_append]
        rcases hL with hL | ⟨L, l1, l2, l3, l4⟩
        · have hcl : ∀ z, Rch [Y, X] 0 z → z ∈ F' ++ [x] := fun z r => r.closed (fun x hx p hp => by
            rcases List.mem_cons.mp hp with e | e
            · rw [e]; exact (hc x hx).1
            · rw [List.mem_singleton.mp e]; exact (hc x hx).2) hF.z
          exact absurd (hcl y (hL y hy)) hyF
        · have hcl : ∀ z, Rch [Y, X] 0 z → z ∈ F' ++ [x] := fun z r => r.closed (fun x hx p hp => by
            rcases List.mem_cons.mp hp with e | e
            · rw [e]; exact (hc x hx).1
            · rw [List.mem_singleton.mp e]; exact (hc x hx).2) hF.z
          have := nodup_le l1 fun z hz => hcl z (l3 z hz)
          simp only [List.length_singleton]
          omega
theorem s_law_map (d : Nat) {h : Mem} {t K s : Nat} (T : Tin h t K) (hK : K < 1000000000000) (hs : 0 < s) (hs2 : s ≤ 30) :
    wp (callAt tab (d + 3) 27 [.loc t, ni s] h) fun r => ∃ a b : List Nat, r.1 = mp a b ∧ IsMap a b ∧ a.length = 2 * s ∧ Mx t h r.2 ∧ r.2.length = h.length ∧ Tin r.2 t (K + 4 * s) := by
  have ht := T.lt
  refine call_loc t__law_map rfl rfl ?_
  obtain ⟨n, hn⟩ : ∃ n, n = 2 * s := ⟨_, rfl⟩
  have en : (2 : Int) * (s : Int) = (n : Int) := by omega
  have s2 : small64 (2 : Int) = true := rfl
  have n62 : small62 (n : Int) = true := small62_nat (by omega)
  simp [c__law_map, startB, s2, en, h__law_pick, rangeB_N (show n < 1000000 by omega), itemsB_rngN (show n < 1000000 by omega), -List.append_assoc, -List.length_append]
  -- the order
  refine (s_pick (d + 0) (T.app (l := [.lst ((List.range n).map ni)])) (by omega) lstAt_new pures_ni (by simp; omega) (show n < 1000000 by omega)).imp fun r q => ?_
  obtain ⟨er, m1, ys, rest, em, el, mx, T1, yl, yp⟩ := q
  obtain ⟨v, m⟩ := r
  dsimp only at er em ⊢
  subst er em
  have hy : ys.length = n := by simpa using yl
  obtain ⟨O, rfl, hO⟩ := all_drawn yp hy
  have mx1 : Mx t h (m1 ++ [.lst (O.map ni)]) := ((Mx.refl.app (l := [.lst ((List.range n).map ni)])).trans mx).app
  have T1 : Tin (m1 ++ [.lst (O.map ni)]) t (K + n) := T1.app
  have g1 : (m1 ++ [PO.lst (O.map ni)])[(h ++ [PO.lst ((List.range n).map ni)]).length]? = some (.lst (O.map ni)) := by rw [← el]; exact at_new
  have l1 : h.length < (h ++ [PO.lst ((List.range n).map ni)]).length := by simp
  generalize (h ++ [PO.lst ((List.range n).map ni)]).length = lo at g1 l1 ⊢
  generalize m1 ++ [PO.lst (O.map ni)] = M1 at mx1 T1 g1 ⊢
  -- across, around
  simp [n62, show n ≤ sizeB by simp only [sizeB]; omega, itemsB_rngN (show n < 1000000 by omega), rangeB_N (show n < 1000000 by omega), h__law_pick, -List.append_assoc, -List.length_append]
  have hz : List.replicate n (PV.int 0) = (List.replicate n 0).map ni := by simp [ni]
  rw [hz]
  have mx2 : Mx t h (M1 ++ [.lst [.int 0]] ++ [.lst ((List.replicate n 0).map ni)] ++ [.lst ((List.range n).map ni)]) := mx1.app.app.app
  have T2 : Tin (M1 ++ [.lst [.int 0]] ++ [.lst ((List.replicate n 0).map ni)] ++ [.lst ((List.range n).map ni)]) t (K + n) := T1.app.app.app
  have g2 : (M1 ++ [PO.lst [PV.int 0]] ++ [PO.lst ((List.replicate n 0).map ni)] ++ [PO.lst ((List.range n).map ni)])[lo]? = some (.lst (O.map ni)) := at_app (at_app (at_app g1))
  have c2 : (M1 ++ [PO.lst [PV.int 0]] ++ [PO.lst ((List.replicate n 0).map ni)] ++ [PO.lst ((List.range n).map ni)])[(M1 ++ [PO.lst [PV.int 0]]).length]? = some (.lst ((List.replicate n 0).map ni)) := at_app at_new
  have lc1 : lo < (M1 ++ [PO.lst [PV.int 0]]).length := by
    have := (List.getElem?_eq_some_iff.mp g1).1
    rw [List.length_append]
    omega
  refine (s_pick (d + 0) T2 (by omega) lstAt_new pures_ni (by simp; omega) (show n < 1000000 by omega)).imp fun r q => ?_
  obtain ⟨er, m3, zs, rest2, em, el3, mx3, T3, zl, zp⟩ := q
  obtain ⟨v, m⟩ := r
  dsimp only at er em ⊢
  subst er em
  have hzl : zs.length = n := by simpa using zl
  obtain ⟨Y, rfl, hY⟩ := all_drawn zp hzl
  have ht' : t < lo := by omega
  have g3 : (m3 ++ [PO.lst (Y.map ni)])[lo]? = some (.lst (O.map ni)) := at_app (mx3.at g2 (by omega))
  have c3 : (m3 ++ [PO.lst (Y.map ni)])[(M1 ++ [PO.lst [PV.int 0]]).length]? = some (.lst ((List.replicate n 0).map ni)) := at_app (mx3.at c2 (by omega))
  have a3 : (m3 ++ [PO.lst (Y.map ni)])[m3.length]? = some (.lst (Y.map ni)) := at_new
  have l3 : (M1 ++ [PO.lst [PV.int 0]]).length < m3.length := by
    rw [el3]
    exact (List.getElem?_eq_some_iff.mp c2).1
  rw [← el3]
  have M3 : Mst h t (K + n + n) (M1 ++ [PO.lst [PV.int 0]]).length m3.length (List.replicate n 0) Y (m3 ++ [PO.lst (Y.map ni)]) := ⟨(mx2.trans mx3).app, T3.app, c3, a3, by omega, by omega, by omega, ht⟩
  generalize (M1 ++ [PO.lst [PV.int 0]]).length = lc at M3 l3 lc1 ⊢
  generalize m3.length = la at M3 l3 ⊢
  generalize m3 ++ [PO.lst (Y.map ni)] = M2 at M3 g3 ⊢
  obtain ⟨hYs, hYl⟩ := sh_perm hY
  have hOl : O.length = n := (sh_perm hO).2
  have hOs := (sh_perm hO).1
  simp [rangeB_N (show s < 1000000 by omega), srcB_rngN (show s < 1000000 by omega), small62_nat (show s < 4611686018427387904 by omega), -List.append_assoc, -List.length_append]
  refine forI ((List.range s).map ni) (LmA h t (K + n + n) s n lo lc la O Y) (by simp [sizeB]; omega) ?_ ?_ (.mk none none none none none none none (List.replicate n 0) M3 g3 (by simp) (by omega)) ?_
  · rintro i e m _
    exact g0_rngN (h := m) i []
  · rintro i e m hi ⟨s4, s5, s8, s9, s10, s11, s12, X, M, ho, hX, hj⟩
    have hi' : i < s := by simpa using hi
    rw [List.getElem_map, List.getElem_range]
    have o1 : getB m (.loc lo) (.int ((2 * i : Nat) : Int)) = .ok (ni (ap O (2 * i)), m) := by rw [getB_lst (lst_of ho), atB_ni (by omega)]
    have o2 : getB m (.loc lo) (.int ((2 * i + 1 : Nat) : Int)) = .ok (ni (ap O (2 * i + 1)), m) := by rw [getB_lst (lst_of ho), atB_ni (by omega)]
    have x1 := hOs.ap (show 2 * i < O.length by omega)
    have x2 := hOs.ap (show 2 * i + 1 < O.length by omega)
    have b1 := setB_lst (n0 := h.length) (k := (ap O (2 * i) : Int)) (v := ni (ap O (2 * i + 1))) M.hc (by omega) (by rw [List.length_map]; omega) rfl
    rw [Int.toNat_natCast, ← List.map_set] at b1
    have M4 := M.setC (Z := X.set (ap O (2 * i)) (ap O (2 * i + 1)))
    have b2 := setB_lst (n0 := h.length) (k := (ap O (2 * i + 1) : Int)) (v := ni (ap O (2 * i))) M4.hc (by omega) (by rw [List.length_map, List.length_set]; omega) rfl
    rw [Int.toNat_natCast, ← List.map_set] at b2
    have M5 := M4.setC (Z := (X.set (ap O (2 * i)) (ap O (2 * i + 1))).set (ap O (2 * i + 1)) (ap O (2 * i)))
    rw [List.set_set] at M5
    have hne : lo ≠ lc := by omega
    have o3 : getB (m.set lc (.lst ((X.set (ap O (2 * i)) (ap O (2 * i + 1))).map ni))) (.loc lo) (.int ((2 * i + 1 : Nat) : Int)) = .ok (ni (ap O (2 * i + 1)), m.set lc (.lst ((X.set (ap O (2 * i)) (ap O (2 * i + 1))).map ni))) := by
      have : lstAt (m.set lc (.lst ((X.set (ap O (2 * i)) (ap O (2 * i + 1))).map ni))) lo = some (O.map ni) := by
        refine lst_of ?_
        rw [ne_at hne]
        exact ho
      rw [getB_lst this, atB_ni (by omega)]
    have hdiff : ap O (2 * i) ≠ ap O (2 * i + 1) := fun e => by have := hOs.bij.inj e; omega
    have hnew : ∀ j, j < i + 1 → ap ((X.set (ap O (2 * i)) (ap O (2 * i + 1))).set (ap O (2 * i + 1)) (ap O (2 * i))) (ap O (2 * j)) = ap O (2 * j + 1) ∧ ap ((X.set (ap O (2 * i)) (ap O (2 * i + 1))).set (ap O (2 * i + 1)) (ap O (2 * i))) (ap O (2 * j + 1)) = ap O (2 * j) := fun j hji => by
      have y1 := hOs.ap (show 2 * j < O.length by omega)
      have y2 := hOs.ap (show 2 * j + 1 < O.length by omega)
      rw [ap_lt (k := ap O (2 * j)) (by simp; omega), ap_lt (k := ap O (2 * j + 1)) (by simp; omega)]
      by_cases q : j = i
      · subst q
        rw [List.getElem_set_ne (Ne.symm hdiff), List.getElem_set_self, List.getElem_set_self]
        exact ⟨rfl, rfl⟩
      · have q1 : ap O (2 * i + 1) ≠ ap O (2 * j) := fun e => by have := hOs.bij.inj e; omega
        have q2 : ap O (2 * i) ≠ ap O (2 * j) := fun e => by have := hOs.bij.inj e; omega
        have q3 : ap O (2 * i + 1) ≠ ap O (2 * j + 1) := fun e => by have := hOs.bij.inj e; omega
        have q4 : ap O (2 * i) ≠ ap O (2 * j + 1) := fun e => by have := hOs.bij.inj e; omega
        rw [List.getElem_set_ne q1, List.getElem_set_ne q2, List.getElem_set_ne q3, List.getElem_set_ne q4, ← ap_lt, ← ap_lt]
        exact hj j (by omega)
    have hnl : ((X.set (ap O (2 * i)) (ap O (2 * i + 1))).set (ap O (2 * i + 1)) (ap O (2 * i))).length = n := by simp [hX]
    generalize (X.set (ap O (2 * i)) (ap O (2 * i + 1))).set (ap O (2 * i + 1)) (ap O (2 * i)) = Z2 at b2 M5 hnew hnl
    generalize X.set (ap O (2 * i)) (ap O (2 * i + 1)) = Z1 at b1 b2 o3 M4
    have ei : (2 : Int) * (i : Int) = ((2 * i : Nat) : Int) := by omega
    have ei2 : ((2 * i : Nat) : Int) + 1 = ((2 * i + 1 : Nat) : Int) := by omega
    generalize 2 * i = i2 at *
    generalize i2 + 1 = i3 at *
    simp [s__law_map_3, s2, ei, ei2, o1, o2, ws_six2, b1, o3, b2, -List.append_assoc, -List.length_append]
    exact .mk _ _ _ _ _ _ _ Z2 M5 (by rw [ne_at hne]; exact ho) hnl hnew
  · intro e m L
    obtain ⟨s4, s5, s8, s9, s10, s11, s12, X, M, ho, hX, hj⟩ := L
    rw [List.length_map, List.length_range] at hj
    obtain ⟨hXs, hXi⟩ := pairs_inv hn hO hX hj
    simp [rangeB_N (show n < 1000000 by omega), srcB_rngN (show n < 1000000 by omega), -List.append_assoc, -List.length_append]
    have fin : ∀ (e : Env) (m : Mem), LmE h t (K + n + n) s n lc la X e m → ws (evSs ⟨callAt tab (d + 2), fun i => (tab i).isSome, h.length⟩ (.cons (.ret (.tup (.cons (.blt .tuple (.cons (.var 7) .nil)) (.cons (.blt .tuple (.cons (.var 6) .nil)) .nil)))) .nil) e m)
        { rt := fun u m => u.pure = true ∧ ∃ a b : List Nat, u = mp a b ∧ IsMap a b ∧ a.length = 2 * s ∧ Mx t h (m.take h.length) ∧ (m.take h.length).length = h.length ∧ Tin (m.take h.length) t (K + 4 * s) } := by
      rintro e m ⟨s3, s4, s5, s8, s9, s10, s11, s12, Y, M, hY, hYl, hL⟩
      simp [lst_of M.ha, lst_of M.hc, -List.append_assoc, -List.length_append]
      refine ⟨Y, X, ⟨rfl, rfl⟩, ⟨hY, hXs, by omega, by omega, fun k hk => hXi.ne (by omega), fun k hk => hXi.two k, fun k hk => hL k (by omega)⟩, by omega, M.mx.take, Nat.min_eq_left M.mx.1, (M.T.take M.ht).mono (by omega)⟩
    refine forI ((List.range n).map ni) (LmL h t (K + n + n) s n lc la X) (by simp [sizeB]; omega) ?_ ?_ (.mk _ _ _ _ _ _ _ _ Y M hYs hYl (.inr ⟨[0], by simp, by simp; omega, by simpa using Rch.refl 0, by simp⟩)) ?_
    · rintro i e m _
      exact g0_rngN (h := m) i []
    · rintro i e m hi L
      rw [List.getElem_map, List.getElem_range]
      obtain ⟨s3, s4, s5, s8, s9, s10, s11, s12, Y, M, hY, hYl, hL⟩ := L
      simp [-List.append_assoc, -List.length_append]
      refine lap_body (d + 2) h.length (Nat.le_refl _) hXs hX (by omega) (by omega) (.mk s3 s4 _ s8 s9 s10 s11 s12 Y M hY hYl hL) (fun e m' L => L) fun e m' L => ?_
      have := fin _ _ L
      simpa using this
    · rintro e m ⟨s3, s4, s5, s8, s9, s10, s11, s12, Y, M, hY, hYl, hL⟩
      rw [List.length_map, List.length_range] at hL
      have hL : ∀ x, x < n → Rch [Y, X] 0 x := hL.resolve_right fun ⟨L, l1, l2, l3, l4⟩ => by
        have := nodup_len l1 l2
        omega
      have := fin _ _ (.mk s3 s4 s5 s8 s9 s10 s11 s12 Y M hY hYl hL)
      simpa using this
end K40
end Dp
set_option linter.all false
set_option Elab.async false
set_option maxRecDepth 100000
namespace Dp
/-- no exception -/
def noE (x : PV) : Prop := ∀ c, x ≠ .exn c
theorem noE_tup (xs : List PV) : noE (.tup xs) := fun c => nofun
theorem noE_loc (n : Nat) : noE (.loc n) := fun c => nofun
theorem noE_int (i : Int) : noE (.int i) := fun c => nofun
theorem noE_bl (b : Bool) : noE (.bl b) := fun c => nofun
theorem noE_non : noE .non := fun c => nofun
theorem zipMap {α β γ δ : Type} (f : β → γ → δ) (g : α → β) (k : α → γ) (l : List α) : List.zipWith f (l.map g) (l.map k) = l.map fun x => f (g x) (k x) := by
  induction l with
  | nil => rfl
  | cons x l ih =>
    show _ :: _ = _ :: _
    rw [ih]
theorem var_noE {v : PV} {P : PV → Prop} (h : noE v) : (match some (some v) with | some (some (.exn _)) => False | some (some w) => P w | _ => False) = P v := by
  cases v <;> first | rfl | exact absurd rfl (h _)
namespace K40
/-- the law tells them to be the same, in this memory and behind it -/
def Sm (d : Nat) (h : Mem) (x y : PV) : Prop := noE x ∧ noE y ∧ ∀ l : Mem, callAt tab d 39 [x, y] (h ++ l) = .ok (.bl true, h ++ l)
theorem Sm.app {d : Nat} {h l : Mem} {x y : PV} (s : Sm d h x y) : Sm d (h ++ l) x y := ⟨s.1, s.2.1, fun m => by rw [List.append_assoc]; exact s.2.2 (l ++ m)⟩
theorem Sm.of {d : Nat} {h : Mem} {x : PV} (s : SameAt d x) : Sm d h x x := ⟨s.2.1, s.2.1, fun l => s.2.2 _⟩
theorem Sm.call {d : Nat} {h : Mem} {x y : PV} (s : Sm d h x y) : callAt tab d 39 [x, y] h = .ok (.bl true, h) := by
  have := s.2.2 []
  rw [List.append_nil] at this
  exact this
/-- two lists -/
theorem sm_lst (d : Nat) {h : Mem} {a b : Nat} (ps : List (PV × PV)) (ha : lstAt h a = some (ps.map Prod.fst)) (hb : lstAt h b = some (ps.map Prod.snd)) (hl : ps.length < sizeB) (hx : ∀ q ∈ ps, Sm (d + 1) h q.1 q.2) : Sm (d + 2) h (.loc a) (.loc b) := by
  refine ⟨noE_loc _, noE_loc _, fun l => ?_⟩
  have ha := lstAt_app (l := l) ha
  have hb := lstAt_app (l := l) hb
  have hx : ∀ q ∈ ps, Sm (d + 1) (h ++ l) q.1 q.2 := fun q hq => (hx q hq).app
  generalize h ++ l = h at ha hb hx ⊢
  refine wp_eq (call_loc t__law_same rfl rfl ?_)
  simp [c__law_same, startB, isiB_loc ha, isiB_loc hb, isB, Src.seqS, lenB_lst ha, lenB_lst hb, srcB_lst ha, srcB_lst hb, -List.append_assoc, -List.length_append]
  refine lcA ps (fun q => .tup [q.1, q.2]) (fun _ => .bl true) (by rw [← zipMap fun x y => PV.tup [x, y]]; exact g0_zip (g0_lst ha) (g0_lst hb)) hl (fun q hq m => ?_) fun m => ?_
  · obtain ⟨h1, h2, h3⟩ := hx q hq
    obtain ⟨x, y⟩ := q
    dsimp only at h1 h2 h3 ⊢
    simp [h__law_same, -List.append_assoc, -List.length_append]
    refine Eq.mpr (var_noE h1) ?_
    refine Eq.mpr (var_noE h2) ?_
    simp [h3, -List.append_assoc, -List.length_append]
  · simp [allBl_map, -List.append_assoc, -List.length_append]
    exact (((Fr.refl h).app _).app _).take
/-- a list told twice -/
theorem sm_same (d : Nat) {h : Mem} {a b : Nat} {xs : List PV} (ha : lstAt h a = some xs) (hb : lstAt h b = some xs) (hl : xs.length < sizeB) (hx : ∀ x ∈ xs, SameAt (d + 1) x) : Sm (d + 2) h (.loc a) (.loc b) := by
  refine sm_lst d (xs.map fun x => (x, x)) ?_ ?_ (by simpa using hl) fun q hq => ?_
  · rw [List.map_map, ha]; conv => lhs; rw [← List.map_id xs]
    rfl
  · rw [List.map_map, hb]; conv => lhs; rw [← List.map_id xs]
    rfl
  · obtain ⟨x, hx', rfl⟩ := List.mem_map.mp hq
    exact .of (hx x hx')
theorem s_same_non (d : Nat) (h : Mem) : callAt tab (d + 1) 39 [.non, .non] h = .ok (.bl true, h) := by
  refine call_pure t__law_same rfl rfl rfl ?_
  simp [c__law_same, startB, isB]
theorem sameAt_non (d : Nat) : SameAt (d + 1) .non := ⟨rfl, nofun, fun h => s_same_non d h⟩
theorem sameAt_tn (d : Nat) (p : List Nat) (hl : p.length < sizeB) : SameAt (d + 2) (tn p) := sameAt_tup d _ (by simpa using hl) fun x hx => by
  obtain ⟨i, _, rfl⟩ := List.mem_map.mp hx
  exact sameAt_int d _
theorem sameAt_mp (d : Nat) (a b : List Nat) (ha : a.length < sizeB) (hb : b.length < sizeB) : SameAt (d + 3) (mp a b) := sameAt_tup (d + 1) _ (by simp [sizeB]) fun x hx => by
  simp at hx
  rcases hx with rfl | rfl
  · exact sameAt_tn d a ha
  · exact sameAt_tn d b hb
/-- lists of rounds -/
theorem sm_rounds (d : Nat) {h : Mem} {a b : Nat} {L : List (List Nat)} (ha : lstAt h a = some (L.map tn)) (hb : lstAt h b = some (L.map tn)) (hl : L.length < sizeB) (hx : ∀ x ∈ L, x.length < sizeB) : Sm (d + 3) h (.loc a) (.loc b) :=
  sm_same (d + 1) ha hb (by simpa using hl) fun x hx' => by
    obtain ⟨r, hr, rfl⟩ := List.mem_map.mp hx'
    exact sameAt_tn d r (hx r hr)
theorem s_lists_tn (d : Nat) (p : List Nat) (hl : p.length < sizeB) (h : Mem) : callAt tab (d + 2) 26 [tn p] h = .ok (.loc h.length, h ++ [.lst (p.map ni)]) := by
  refine call_pureL t__law_lists rfl (by simp) (by simp) ?_
  simp [c__law_lists, startB, isB]
  refine lcA p ni ni g0_tup hl (fun a _ m => ?_) fun m => ?_
  · simp [h__law_lists, s_lists_int]
  · simp
theorem s_lists_mp (d : Nat) (a b : List Nat) (ha : a.length < sizeB) (hb : b.length < sizeB) (h : Mem) : callAt tab (d + 3) 26 [mp a b] h = .ok (.loc (h.length + 2), h ++ [.lst (a.map ni), .lst (b.map ni), .lst [.loc h.length, .loc (h.length + 1)]]) := by
  have key := fun h => call_ret (v := .loc 2) (h1 := [.lst (a.map ni), .lst (b.map ni), .lst [.loc 0, .loc 1]]) (d := d + 2) (args := [mp a b]) t__law_lists rfl (by simp) (by
    simp [c__law_lists, startB, isB]
    refine lcI [tn a, tn b] (fun i acc m => (i = 0 ∧ acc = [] ∧ m = []) ∨ (i = 1 ∧ acc = [.loc 0] ∧ m = [.lst (a.map ni)]) ∨ (i = 2 ∧ acc = [.loc 0, .loc 1] ∧ m = [.lst (a.map ni), .lst (b.map ni)])) (by simp [sizeB]) ?_ ?_ (.inl ⟨rfl, rfl, rfl⟩) ?_
    · rintro i acc m _
      exact g0_tup (h := m) i []
    · rintro i acc m hi (⟨rfl, rfl, rfl⟩ | ⟨rfl, rfl, rfl⟩ | ⟨rfl, rfl, rfl⟩)
      · simp [h__law_lists, s_lists_tn d a ha, sizeB]
      · simp [h__law_lists, s_lists_tn d b hb, sizeB]
      · simp at hi
    · rintro acc m (⟨z, _, _⟩ | ⟨z, _, _⟩ | ⟨_, rfl, rfl⟩)
      · cases z
      · cases z
      · simp) h
  have := key h
  rw [this]
  have e : ∀ q : List Nat, PV.ups h.length (q.map ni) = q.map ni := fun q => ups_pure0 _ _ pures_ni
  simp [liftB, gcB, PO.up, PV.up, PV.ups, e, Nat.add_comm]
theorem s_tupled_loc (d : Nat) {h : Mem} {a : Nat} {p : List Nat} (ha : lstAt h a = some (p.map ni)) (hl : p.length < sizeB) : callAt tab (d + 2) 287 [.loc a] h = .ok (tn p, h) := by
  refine wp_eq (call_loc t_tupled rfl rfl ?_)
  simp [c_tupled, startB, isB, isiB_loc ha, srcB_lst ha, -List.append_assoc, -List.length_append]
  refine lcA p ni ni (g0_lst ha) hl (fun a _ m => ?_) fun m => ?_
  · simp [h_tupled, s_tupled_int, -List.append_assoc, -List.length_append]
  · simp [-List.append_assoc, -List.length_append]
    exact (((Fr.refl h).app _).app _).take
theorem s_tupled_lists (d : Nat) {h : Mem} {p : Nat} {xs : List PV} {f : PV → PV} (hp : lstAt h p = some xs) (hl : xs.length < sizeB) (hf : ∀ x, (f x).pure = true) (hx : ∀ x ∈ xs, noE x ∧ ∀ l, callAt tab (d + 1) 287 [x] (h ++ l) = .ok (f x, h ++ l)) : callAt tab (d + 2) 287 [.loc p] h = .ok (.tup (xs.map f), h) := by
  refine wp_eq (call_loc t_tupled rfl rfl ?_)
  simp [c_tupled, startB, isB, isiB_loc hp, srcB_lst hp, -List.append_assoc, -List.length_append]
  refine lcA xs id f (by rw [List.map_id]; exact g0_lst hp) hl (fun a ha m => ?_) fun m => ?_
  · obtain ⟨h1, h2⟩ := hx a ha
    simp [h_tupled, -List.append_assoc, -List.length_append]
    refine Eq.mpr (var_noE h1) ?_
    simp [h2, -List.append_assoc, -List.length_append]
  · have : PV.pures (xs.map f) = true := pures_of fun x hx => by
      obtain ⟨y, _, rfl⟩ := List.mem_map.mp hx
      exact hf y
    simp [this, -List.append_assoc, -List.length_append]
    exact (((Fr.refl h).app _).app _).take
theorem s_tupled_mpl (d : Nat) {h : Mem} {p q r : Nat} {a b : List Nat} (hp : lstAt h p = some [.loc q, .loc r]) (hq : lstAt h q = some (a.map ni)) (hr : lstAt h r = some (b.map ni)) (ha : a.length < sizeB) (hb : b.length < sizeB) : callAt tab (d + 3) 287 [.loc p] h = .ok (mp a b, h) := by
  refine wp_eq (call_loc t_tupled rfl rfl ?_)
  simp [c_tupled, startB, isB, isiB_loc hp, srcB_lst hp, -List.append_assoc, -List.length_append]
  refine lcA [(q, a), (r, b)] (fun z => .loc z.1) (fun z => tn z.2) (g0_lst hp) (by simp [sizeB]) (fun z hz m => ?_) fun m => ?_
  · have : lstAt (h ++ m) z.1 = some (z.2.map ni) ∧ z.2.length < sizeB := by
      simp at hz
      rcases hz with rfl | rfl
      · exact ⟨lstAt_app hq, ha⟩
      · exact ⟨lstAt_app hr, hb⟩
    simp [h_tupled, s_tupled_loc d this.1 this.2, -List.append_assoc, -List.length_append]
  · simp [-List.append_assoc, -List.length_append]
    exact (((Fr.refl h).app _).app _).take
end K40
end Dp
set_option linter.all false
set_option Elab.async false
set_option maxRecDepth 100000
namespace Dp
/-! maps: what is told of them -/
section
variable {a b : List Nat} (M : IsMap a b)
include M
theorem IsMap.two (x : Nat) : ap b (ap b x) = x := M.inv.two x
theorem map_euler : (a.length : Int) = 2 * (rounds b).length ∧ ((rounds a).length : Int) + (rounds (thn a b)).length ≤ (rounds b).length + 2 ∧ ((rounds a).length + (rounds (thn a b)).length + (rounds b).length) % 2 = 0 := by
  have B := M.ha.bij
  have U := M.inv
  have h2 := M.h2
  have hs := thn_sh M.ha M.hb M.hl
  have e := euler B U (by omega) fun E hE h1 h2 x hx => by
    have := M.rc x hx
    exact this.le hE fun p hp y => by
      rcases List.mem_cons.mp hp with e | e
      · rw [e]; exact h1 y
      · rw [List.mem_singleton.mp e]
        by_cases q : y < a.length
        · exact h2 y q
        · rw [ap_ge (by have := M.hl; omega)]
          exact hE.rfl y
  have ef : (fun x => ap b (ap a x)) = ap (thn a b) := funext fun x => (thn_ap M.hl x).symm
  rw [ef] at e
  have r1 := rounds_len M.ha
  have r2 := rounds_len M.hb
  have r3 := rounds_len hs
  have r4 := inv_half U
  rw [thn_len] at r3
  rw [M.hl] at r2
  rw [r1, r2, r3]
  omega
theorem hdl_euler : 2 - 2 * hdl a b = ((rounds a).length : Int) - (rounds b).length + (rounds (thn a b)).length ∧ 0 ≤ hdl a b := by
  obtain ⟨h1, h2, h3⟩ := map_euler M
  unfold hdl
  have e1 : ((a.length : Int)).fdiv 2 = (rounds b).length := by rw [h1, Int.mul_fdiv_cancel_left _ (by decide)]
  rw [e1]
  have e2 : ∀ x : Int, x % 2 = 0 → x.fdiv 2 = x / 2 := fun x _ => by rw [Int.fdiv_eq_ediv]; simp
  rw [e2 _ (by omega)]
  omega
theorem IsMap.turned : IsMap (thn a b) b where
  ha := thn_sh M.ha M.hb M.hl
  hb := M.hb
  hl := by rw [thn_len]; exact M.hl
  h2 := by rw [thn_len]; exact M.h2
  ne k hk := M.ne k (by rw [thn_len] at hk; exact hk)
  tw k hk := M.tw k (by rw [thn_len] at hk; exact hk)
  rc k hk := by
    rw [thn_len] at hk
    have r := M.rc k hk
    induction r with
    | refl => exact .refl 0
    | step r hp ih =>
      rename_i y p
      have hy : Rch [thn a b, b] 0 y := by
        by_cases q : y < a.length
        · exact ih q
        · rcases List.mem_cons.mp hp with e | e
          · subst e
            rw [ap_ge (by omega)] at hk
            omega
          · rw [List.mem_singleton] at e
            subst e
            rw [ap_ge (by have := M.hl; omega)] at hk
            omega
      rcases List.mem_cons.mp hp with e | e
      · subst e
        have h1 := (hy.step (p := thn p b) (List.mem_cons_self ..)).step (p := b) (by simp)
        rw [thn_ap M.hl, M.two] at h1
        exact h1
      · rw [List.mem_singleton] at e
        subst e
        exact hy.step (by simp)
theorem thn_thn : thn (thn a b) b = a := ap_ext (by simp) fun k _ => by rw [thn_ap (by rw [thn_len]; exact M.hl), thn_ap M.hl, M.two]
theorem IsMap.mirrored : IsMap (und a) b where
  ha := und_sh M.ha
  hb := M.hb
  hl := by rw [und_len]; exact M.hl
  h2 := by rw [und_len]; exact M.h2
  ne k hk := M.ne k (by rw [und_len] at hk; exact hk)
  tw k hk := M.tw k (by rw [und_len] at hk; exact hk)
  rc k hk := by
    rw [und_len] at hk
    have r := M.rc k hk
    induction r with
    | refl => exact .refl 0
    | step r hp ih =>
      rename_i y p
      have hy : Rch [und a, b] 0 y := by
        by_cases q : y < a.length
        · exact ih q
        · rcases List.mem_cons.mp hp with e | e
          · subst e
            rw [ap_ge (by omega)] at hk
            omega
          · rw [List.mem_singleton] at e
            subst e
            rw [ap_ge (by have := M.hl; omega)] at hk
            omega
      rcases List.mem_cons.mp hp with e | e
      · subst e
        have h1 : Rd (ap (und p)) (ap p y) y := ⟨1, und_ap M.ha y⟩
        exact hy.trans (Rch.rd (List.mem_cons_self ..) ((Rd.eqv (und_sh M.ha).bij).sym h1))
      · rw [List.mem_singleton] at e
        subst e
        exact hy.step (by simp)
theorem rounds_und : (rounds (und a)).length = (rounds a).length := by
  rw [rounds_len M.ha, rounds_len (und_sh M.ha), und_len]
  refine cc_congr fun x y => ?_
  have E := Rd.eqv M.ha.bij
  have G := Rd.eqv (und_sh M.ha).bij
  refine ⟨fun r => Rd.le E (fun x => ?_) r, fun r => Rd.le G (fun x => ?_) r⟩
  · exact E.sym ⟨1, ap_und M.ha x⟩
  · exact G.sym ⟨1, und_ap M.ha x⟩
/-- the faces of the one gone around the other way -/
theorem lens_mirrored : (lens (thn (und a) b)).Perm (lens (thn a b)) := by
  have hs := thn_sh M.ha M.hb M.hl
  have hu := M.mirrored
  have hq := thn_sh hu.ha hu.hb hu.hl
  refine lens_perm hs hq (by simp) (s := ap a) (by rw [thn_len]; exact M.ha.bij) fun x y => ?_
  have E := Rd.eqv hs.bij
  have G := Rd.eqv hq.bij
  have gx : ∀ x, ap (thn (und a) b) (ap a x) = ap b x := fun x => by rw [thn_ap hu.hl, und_ap M.ha]
  have fx : ∀ x, ap (thn a b) x = ap b (ap a x) := fun x => thn_ap M.hl x
  constructor
  · intro r
    have key : ∀ u v, Rd (ap (thn (und a) b)) u v → Rd (ap (thn a b)) (ap (und a) u) (ap (und a) v) := fun u v r => by
      refine Rd.le (E := fun u v => Rd (ap (thn a b)) (ap (und a) u) (ap (und a) v)) ⟨fun _ => E.rfl _, fun h => E.sym h, fun h q => E.tr h q⟩ (fun u => ?_) r
      refine E.sym ⟨1, ?_⟩
      show ap (thn a b) (ap (und a) (ap (thn (und a) b) u)) = ap (und a) u
      rw [fx, ap_und M.ha, thn_ap hu.hl, M.two]
    have := key _ _ r
    rw [und_ap M.ha, und_ap M.ha] at this
    exact this
  · intro r
    refine Rd.le (E := fun x y => Rd (ap (thn (und a) b)) (ap a x) (ap a y)) ⟨fun _ => G.rfl _, fun h => G.sym h, fun h q => G.tr h q⟩ (fun x => ?_) r
    refine G.sym ⟨1, ?_⟩
    show ap (thn (und a) b) (ap a (ap (thn a b) x)) = ap a x
    rw [gx, fx, M.two]
theorem hdl_turned : hdl (thn a b) b = hdl a b := by
  have h1 := (hdl_euler M).1
  have h2 := (hdl_euler M.turned).1
  rw [thn_thn M] at h2
  omega
theorem hdl_mirrored : hdl (und a) b = hdl a b := by
  have h1 := (hdl_euler M).1
  have h2 := (hdl_euler M.mirrored).1
  have h3 := rounds_und M
  have h4 := (lens_mirrored M).length_eq
  rw [lens_len, lens_len] at h4
  rw [h3, h4] at h2
  omega
theorem sort_mirrored : sortI (il (rounds (thn (und a) b))) = sortI (il (rounds (thn a b))) := by
  refine sortI_congr ?_
  have := (lens_mirrored M).map fun (k : Nat) => (k : Int)
  unfold lens at this
  rw [List.map_map, List.map_map] at this
  exact this
end
theorem round_len {p : List Nat} (hp : Sh p) : ∀ r ∈ rounds p, r.length ≤ p.length := fun r hr => by
  unfold rounds mins at hr
  obtain ⟨x, hx, rfl⟩ := List.mem_map.mp hr
  exact (orb_len hp.bij (List.mem_range.mp (List.mem_filter.mp hx).1)).2
/-- a small map -/
theorem isMap_path : IsMap [0, 2, 1, 3] [1, 0, 3, 2] where
  ha := ⟨by decide, by decide⟩
  hb := ⟨by decide, by decide⟩
  hl := rfl
  h2 := by decide
  ne := by decide
  tw := by decide
  rc k hk := by
    have r0 : Rch [[0, 2, 1, 3], [1, 0, 3, 2]] 0 0 := .refl 0
    have r1 : Rch [[0, 2, 1, 3], [1, 0, 3, 2]] 0 1 := r0.step (p := [1, 0, 3, 2]) (by simp)
    have r2 : Rch [[0, 2, 1, 3], [1, 0, 3, 2]] 0 2 := r1.step (p := [0, 2, 1, 3]) (by simp)
    have r3 : Rch [[0, 2, 1, 3], [1, 0, 3, 2]] 0 3 := r2.step (p := [1, 0, 3, 2]) (by simp)
    have : k = 0 ∨ k = 1 ∨ k = 2 ∨ k = 3 := by simp at hk; omega
    rcases this with rfl | rfl | rfl | rfl
    · exact r0
    · exact r1
    · exact r2
    · exact r3
theorem isMap_two : IsMap [0, 1] [1, 0] where
  ha := ⟨by decide, by decide⟩
  hb := ⟨by decide, by decide⟩
  hl := rfl
  h2 := by decide
  ne := by decide
  tw := by decide
  rc k hk := by
    have r0 : Rch [[0, 1], [1, 0]] 0 0 := .refl 0
    have r1 : Rch [[0, 1], [1, 0]] 0 1 := r0.step (p := [1, 0]) (by simp)
    have : k = 0 ∨ k = 1 := by simp at hk; omega
    rcases this with rfl | rfl
    · exact r0
    · exact r1
theorem isMap_turn : IsMap [1, 0] [1, 0] where
  ha := ⟨by decide, by decide⟩
  hb := ⟨by decide, by decide⟩
  hl := rfl
  h2 := by decide
  ne := by decide
  tw := by decide
  rc k hk := by
    have r0 : Rch [[1, 0], [1, 0]] 0 0 := .refl 0
    have r1 : Rch [[1, 0], [1, 0]] 0 1 := r0.step (p := [1, 0]) (by simp)
    have : k = 0 ∨ k = 1 := by simp at hk; omega
    rcases this with rfl | rfl
    · exact r0
    · exact r1
theorem isMap_ring : IsMap [1, 2, 3, 0] [2, 3, 0, 1] where
  ha := ⟨by decide, by decide⟩
  hb := ⟨by decide, by decide⟩
  hl := rfl
  h2 := by decide
  ne := by decide
  tw := by decide
  rc k hk := by
    have r0 : Rch [[1, 2, 3, 0], [2, 3, 0, 1]] 0 0 := .refl 0
    have r1 : Rch [[1, 2, 3, 0], [2, 3, 0, 1]] 0 1 := r0.step (p := [1, 2, 3, 0]) (by simp)
    have r2 : Rch [[1, 2, 3, 0], [2, 3, 0, 1]] 0 2 := r1.step (p := [1, 2, 3, 0]) (by simp)
    have r3 : Rch [[1, 2, 3, 0], [2, 3, 0, 1]] 0 3 := r2.step (p := [1, 2, 3, 0]) (by simp)
    have : k = 0 ∨ k = 1 ∨ k = 2 ∨ k = 3 := by simp at hk; omega
    rcases this with rfl | rfl | rfl | rfl
    · exact r0
    · exact r1
    · exact r2
    · exact r3
namespace K40
section
variable (d : Nat) {a b : List Nat} (M : IsMap a b) (h60 : a.length ≤ 60) {h : Mem} {p q r : Nat} (hp : lstAt h p = some [.loc q, .loc r]) (hq : lstAt h q = some (a.map ni)) (hr : lstAt h r = some (b.map ni))
include M h60 hp hq hr
theorem s_sure_map_loc : callAt tab (d + 5) 273 [.loc p] h = .ok (mp a b, h) := by
  have hl := M.hl
  refine wp_eq (call_loc t_sure_map rfl rfl ?_)
  have e0 : atB [tn a, tn b] (0 : Int) = some (tn a) := rfl
  simp [c_sure_map, startB, h_tupled, h_is_map_in, s_tupled_mpl (d + 1) hp hq hr (by simp only [sizeB]; omega) (by simp only [sizeB]; omega), s_is_map_in d a b (by omega) (by omega), isMapB_iff.mpr M, e0, show ¬ (60 : Int) < a.length by omega, -List.append_assoc, -List.length_append]
theorem s_map_points_loc : callAt tab (d + 6) 183 [.loc p] h = .ok (.loc h.length, h ++ [.lst ((rounds a).map tn)]) := by
  refine wp_eq (call_locL t_map_points rfl rfl ?_)
  have e0 : atB [tn a, tn b] (0 : Int) = some (tn a) := rfl
  simp [c_map_points, startB, h_rounds_of, h_sure_map, s_sure_map_loc d M h60 hp hq hr, e0, s_rounds_of (d + 4) M.ha (by omega), -List.append_assoc, -List.length_append]
end
end K40
end Dp
set_option linter.all false
set_option Elab.async false
set_option maxRecDepth 100000
namespace Dp
def Ss.hd : Ss → S
  | .cons s _ => s
  | .nil => .pass
def Ss.tl : Ss → Ss
  | .cons _ ss => ss
  | .nil => .nil
/-- a side that leaves two darts -/
def still (b : List Nat) (k : Nat) : List Nat := (List.range b.length).map fun j => if j = k ∨ j = ap b k then j else ap b j
theorem notMap {a b : List Nat} (h : ¬ IsMap a b) : isMapB a b = false := by
  rw [← Bool.not_eq_true, isMapB_iff]
  exact h
section
variable {a b : List Nat} (M : IsMap a b)
include M
theorem no_still {k : Nat} (hk : k < a.length) : isMapB a (still b k) = false := notMap fun N => by
  have hl := M.hl
  have : ap (still b k) k = k := by
    rw [ap_lt (show k < (still b k).length by unfold still; simp; omega)]
    unfold still
    simp
  exact N.ne k hk this
theorem no_long : isMapB a (a ++ [0]) = false := notMap fun N => by
  have := N.hl
  simp at this
theorem no_more : isMapB (a ++ [a.length]) (b ++ [a.length]) = false := notMap fun N => by
  have hl := M.hl
  have : ap (b ++ [a.length]) a.length = a.length := by
    rw [ap_lt (by simp; omega)]
    simp [← hl]
  exact N.ne a.length (by simp) this
theorem no_home (h : 2 < a.length) : isMapB (List.range a.length) b = false := notMap fun N => by
  have hl := M.hl
  have key : ∀ x, Rch [List.range a.length, b] 0 x → x = 0 ∨ x = ap b 0 := fun x r => by
    induction r with
    | refl => exact .inl rfl
    | step r hp ih =>
      rename_i y p
      rcases List.mem_cons.mp hp with e | e
      · have : ap p y = y := by
          rw [e]
          by_cases q : y < a.length
          · rw [ap_lt (by simpa using q)]; simp
          · exact ap_ge (by simp; omega)
        rw [this]
        exact ih
      · rw [List.mem_singleton] at e
        subst e
        rcases ih with ih | ih
        · exact .inr (congrArg _ ih)
        · refine .inl ?_
          rw [ih, M.two]
  have h0 := M.ne 0 (by omega)
  have h1 := key 1 (N.rc 1 (by simp; omega))
  have h2 := key 2 (N.rc 2 (by simp; omega))
  omega
end
theorem no_one : isMapB [0] [0] = false := notMap fun N => by
  have := N.h2
  simp at this
theorem no_true : isMapB [0] [0] = false := no_one
namespace K40
theorem s_bad_non (d : Nat) (h : Mem) : callAt tab (d + 5) 126 [.non] h = .ok (.bl false, h) := by
  have e := fun h => call_pure (d := d + 3) (h := h) (v := .bl false) (args := [.non]) t_is_map_in rfl rfl rfl (by simp [c_is_map_in, startB, isB])
  refine call_pure t_is_map rfl rfl rfl ?_
  simp [c_is_map, startB, h_is_map_in, e]
theorem s_bad_nil (d : Nat) (h : Mem) : callAt tab (d + 5) 126 [.tup []] h = .ok (.bl false, h) := by
  have e := fun h => call_pure (d := d + 3) (h := h) (v := .bl false) (args := [.tup []]) t_is_map_in rfl rfl rfl (by simp [c_is_map_in, startB, isB])
  refine call_pure t_is_map rfl rfl rfl ?_
  simp [c_is_map, startB, h_is_map_in, e]
theorem s_bad_one (d : Nat) (a : List Nat) (h : Mem) : callAt tab (d + 5) 126 [.tup [tn a]] h = .ok (.bl false, h) := by
  have e := fun h => call_pure (d := d + 3) (h := h) (v := .bl false) (args := [.tup [tn a]]) t_is_map_in rfl (by simp) rfl (by simp [c_is_map_in, startB, isB])
  refine call_pure t_is_map rfl (by simp) rfl ?_
  simp [c_is_map, startB, h_is_map_in, e]
theorem s_bad_ints (d : Nat) (h : Mem) : callAt tab (d + 5) 126 [.tup [.int 0, .int 1]] h = .ok (.bl false, h) := by
  have e := fun h => call_pure (d := d + 3) (h := h) (v := .bl false) (args := [.tup [.int 0, .int 1]]) t_is_map_in rfl (by simp) rfl (by simp [c_is_map_in, startB, isB, atB, ixB])
  refine call_pure t_is_map rfl (by simp) rfl ?_
  simp [c_is_map, startB, h_is_map_in, e]
theorem s_bad_lst (d : Nat) {h : Mem} {p : Nat} {xs : List PV} (hp : lstAt h p = some xs) : callAt tab (d + 5) 126 [.loc p] h = .ok (.bl false, h) := by
  have e : callAt tab (d + 4) 127 [.loc p] h = .ok (.bl false, h) := wp_eq (call_loc t_is_map_in rfl rfl (by
    simp [c_is_map_in, startB, isB, isiB_loc hp, -List.append_assoc, -List.length_append]))
  refine wp_eq (call_loc t_is_map rfl rfl ?_)
  simp [c_is_map, startB, h_is_map_in, e, -List.append_assoc, -List.length_append]
theorem s_bad_half (d : Nat) {h : Mem} {p : Nat} {a : List Nat} {xs : List PV} (ha : Sh a) (h2 : 2 ≤ a.length) (hl : a.length < 1000000) (hp : lstAt h p = some xs) : callAt tab (d + 5) 126 [.tup [tn a, .loc p]] h = .ok (.bl false, h) := by
  have e0 : atB [tn a, .loc p] (0 : Int) = some (tn a) := rfl
  have e1 : atB [tn a, .loc p] (1 : Int) = some (.loc p) := rfl
  have e2 : ∀ n : Nat, callAt tab (d + 2) 123 [.loc p, ni n] h = .ok (.bl false, h) := fun n => wp_eq (call_loc t_is_long rfl rfl (by
    simp [c_is_long, startB, isB, isiB_loc hp, -List.append_assoc, -List.length_append]))
  have e3 : ∀ n : Nat, callAt tab (d + 3) 141 [ni n, .loc p] h = .ok (.bl false, h) := fun n => wp_eq (call_loc t_is_shuffle_of rfl rfl (by
    simp [c_is_shuffle_of, startB, h_is_long, e2 n, -List.append_assoc, -List.length_append]))
  have e : callAt tab (d + 4) 127 [.tup [tn a, .loc p]] h = .ok (.bl false, h) := wp_eq (call_loc t_is_map_in rfl (by simp) (by
    simp [c_is_map_in, startB, isB, e0, e1, h2, show ¬ (a.length : Int) < 2 by omega, h_is_shuffle_of, s_is_shuffle_of d hl a (by simp only [sizeB]; omega), isSh_iff.mpr ⟨ha, rfl⟩, e3, -List.append_assoc, -List.length_append]))
  refine wp_eq (call_loc t_is_map rfl (by simp) ?_)
  simp [c_is_map, startB, h_is_map_in, e, -List.append_assoc, -List.length_append]
theorem s_bad_bool (d : Nat) (h : Mem) : callAt tab (d + 5) 126 [.tup [.tup [.bl true, .int 0], .tup [.int 1, .int 0]]] h = .ok (.bl false, h) := by
  have e0 : atB [PV.tup [.bl true, .int 0], .tup [.int 1, .int 0]] (0 : Int) = some (.tup [.bl true, .int 0]) := rfl
  have e1 : ∀ h, callAt tab (d + 1) 132 [.bl true] h = .ok (.bl false, h) := fun h => call_pure t_is_number rfl rfl rfl (by simp [c_is_number, startB, isB])
  have e2 : ∀ h, callAt tab (d + 2) 67 [.tup [.bl true, .int 0]] h = .ok (.bl false, h) := fun h => call_pure t_are_numbers rfl rfl rfl (by
    simp [c_are_numbers, startB, isB]
    refine lcA [PV.bl true, .int 0] id (fun x => match x with | .int _ => .bl true | _ => .bl false) (by rw [List.map_id]; exact g0_tup) (by simp [sizeB]) (fun a ha m => ?_) fun m => ?_
    · simp at ha
      rcases ha with rfl | rfl
      · simp [h_is_number, e1]
      · have := s_is_number d 0 (m)
        simp [ni] at this
        simp [h_is_number, this]
    · simp [allBl])
  have e3 : ∀ h, callAt tab (d + 3) 141 [.int 2, .tup [.bl true, .int 0]] h = .ok (.bl false, h) := fun h => call_pure t_is_shuffle_of rfl rfl rfl (by
    simp [c_is_shuffle_of, startB, h_is_long, h_are_numbers, s_is_long, e2])
  have e := fun h => call_pure (d := d + 3) (h := h) (v := .bl false) (args := [.tup [.tup [.bl true, .int 0], .tup [.int 1, .int 0]]]) t_is_map_in rfl (by simp) rfl (by simp [c_is_map_in, startB, isB, e0, h_is_shuffle_of, e3])
  refine call_pure t_is_map rfl (by simp) rfl ?_
  simp [c_is_map, startB, h_is_map_in, e]
/-! the law's slots -/
inductive L0 (t lap : Nat) : Env → Prop
  | mk (s0 s3 s4 s5 s6 s7 s8 s9 s10 s11 s12 s13 s14 s15 s16 s17 s18 s19 s20 s21 : Option PV) (hx : noX [s0, some (.loc t), some (ni lap), s3, s4, s5, s6, s7, s8, s9, s10, s11, s12, s13, s14, s15, s16, s17, s18, s19, s20, s21] = true) : L0 t lap [s0, some (.loc t), some (ni lap), s3, s4, s5, s6, s7, s8, s9, s10, s11, s12, s13, s14, s15, s16, s17, s18, s19, s20, s21]
inductive LA (t : Nat) (v : PV) : Env → Prop
  | mk (s0 s2 s4 s5 s6 s7 s8 s9 s10 s11 s12 s13 s14 s15 s16 s17 s18 s19 s20 s21 : Option PV) (hx : noX [s0, some (.loc t), s2, some v, s4, s5, s6, s7, s8, s9, s10, s11, s12, s13, s14, s15, s16, s17, s18, s19, s20, s21] = true) : LA t v [s0, some (.loc t), s2, some v, s4, s5, s6, s7, s8, s9, s10, s11, s12, s13, s14, s15, s16, s17, s18, s19, s20, s21]
inductive L1 (t : Nat) (a b : List Nat) : Env → Prop
  | mk (s0 s2 s4 s5 s6 s7 s8 s9 s10 s11 s12 s15 s16 s17 s18 s19 s20 s21 : Option PV) (hx : noX [s0, some (.loc t), s2, some (mp a b), s4, s5, s6, s7, s8, s9, s10, s11, s12, some (tn a), some (tn b), s15, s16, s17, s18, s19, s20, s21] = true) : L1 t a b [s0, some (.loc t), s2, some (mp a b), s4, s5, s6, s7, s8, s9, s10, s11, s12, some (tn a), some (tn b), s15, s16, s17, s18, s19, s20, s21]
inductive L2 (t : Nat) (a b : List Nat) : Env → Prop
  | mk (s0 s2 s5 s6 s7 s8 s9 s10 s11 s12 s15 s16 s17 s18 s19 s20 s21 : Option PV) (hx : noX [s0, some (.loc t), s2, some (mp a b), some (tn (thn a b)), s5, s6, s7, s8, s9, s10, s11, s12, some (tn a), some (tn b), s15, s16, s17, s18, s19, s20, s21] = true) : L2 t a b [s0, some (.loc t), s2, some (mp a b), some (tn (thn a b)), s5, s6, s7, s8, s9, s10, s11, s12, some (tn a), some (tn b), s15, s16, s17, s18, s19, s20, s21]
inductive L3 (t : Nat) (a b : List Nat) (P S F : Nat) : Env → Prop
  | mk (s0 s2 s5 s6 s7 s8 s9 s10 s11 s12 s18 s19 s20 s21 : Option PV) (hx : noX [s0, some (.loc t), s2, some (mp a b), some (tn (thn a b)), s5, s6, s7, s8, s9, s10, s11, s12, some (tn a), some (tn b), some (.loc P), some (.loc S), some (.loc F), s18, s19, s20, s21] = true) : L3 t a b P S F [s0, some (.loc t), s2, some (mp a b), some (tn (thn a b)), s5, s6, s7, s8, s9, s10, s11, s12, some (tn a), some (tn b), some (.loc P), some (.loc S), some (.loc F), s18, s19, s20, s21]
inductive L4 (t : Nat) (a b : List Nat) (P S F g : Nat) : Env → Prop
  | mk (s0 s2 s6 s7 s8 s9 s10 s11 s12 s18 s19 s20 s21 : Option PV) (hx : noX [s0, some (.loc t), s2, some (mp a b), some (tn (thn a b)), some (.loc g), s6, s7, s8, s9, s10, s11, s12, some (tn a), some (tn b), some (.loc P), some (.loc S), some (.loc F), s18, s19, s20, s21] = true) : L4 t a b P S F g [s0, some (.loc t), s2, some (mp a b), some (tn (thn a b)), some (.loc g), s6, s7, s8, s9, s10, s11, s12, some (tn a), some (tn b), some (.loc P), some (.loc S), some (.loc F), s18, s19, s20, s21]
inductive L5 (t : Nat) (a b : List Nat) (P S F : Nat) (x y : PV) : Env → Prop
  | mk (s0 s2 s5 s6 s7 s8 s9 s10 s11 s12 s20 s21 : Option PV) (hx : noX [s0, some (.loc t), s2, some (mp a b), some (tn (thn a b)), s5, s6, s7, s8, s9, s10, s11, s12, some (tn a), some (tn b), some (.loc P), some (.loc S), some (.loc F), some x, some y, s20, s21] = true) : L5 t a b P S F x y [s0, some (.loc t), s2, some (mp a b), some (tn (thn a b)), s5, s6, s7, s8, s9, s10, s11, s12, some (tn a), some (tn b), some (.loc P), some (.loc S), some (.loc F), some x, some y, s20, s21]
inductive L6 (t : Nat) (a b : List Nat) (P S F : Nat) (x y : PV) (f : Bool) : Env → Prop
  | mk (s0 s2 s5 s6 s8 s9 s10 s11 s12 s20 s21 : Option PV) (hx : noX [s0, some (.loc t), s2, some (mp a b), some (tn (thn a b)), s5, s6, some (.bl f), s8, s9, s10, s11, s12, some (tn a), some (tn b), some (.loc P), some (.loc S), some (.loc F), some x, some y, s20, s21] = true) : L6 t a b P S F x y f [s0, some (.loc t), s2, some (mp a b), some (tn (thn a b)), s5, s6, some (.bl f), s8, s9, s10, s11, s12, some (tn a), some (tn b), some (.loc P), some (.loc S), some (.loc F), some x, some y, s20, s21]
inductive L7 (t : Nat) (a b : List Nat) (P S F : Nat) : Env → Prop
  | mk (s0 s2 s5 s6 s7 s9 s10 s11 s12 s18 s19 s20 s21 : Option PV) (hx : noX [s0, some (.loc t), s2, some (mp a b), some (tn (thn a b)), s5, s6, s7, some (mp (thn a b) b), s9, s10, s11, s12, some (tn a), some (tn b), some (.loc P), some (.loc S), some (.loc F), s18, s19, s20, s21] = true) : L7 t a b P S F [s0, some (.loc t), s2, some (mp a b), some (tn (thn a b)), s5, s6, s7, some (mp (thn a b) b), s9, s10, s11, s12, some (tn a), some (tn b), some (.loc P), some (.loc S), some (.loc F), s18, s19, s20, s21]
inductive L8 (t : Nat) (a b : List Nat) (P S F g : Nat) : Env → Prop
  | mk (s0 s2 s6 s7 s9 s10 s11 s12 s18 s19 s20 s21 : Option PV) (hx : noX [s0, some (.loc t), s2, some (mp a b), some (tn (thn a b)), some (.loc g), s6, s7, some (mp (thn a b) b), s9, s10, s11, s12, some (tn a), some (tn b), some (.loc P), some (.loc S), some (.loc F), s18, s19, s20, s21] = true) : L8 t a b P S F g [s0, some (.loc t), s2, some (mp a b), some (tn (thn a b)), some (.loc g), s6, s7, some (mp (thn a b) b), s9, s10, s11, s12, some (tn a), some (tn b), some (.loc P), some (.loc S), some (.loc F), s18, s19, s20, s21]
inductive L9 (t : Nat) (a b : List Nat) (P S F : Nat) : Env → Prop
  | mk (s0 s2 s5 s6 s7 s8 s10 s11 s12 s18 s19 s20 s21 : Option PV) (hx : noX [s0, some (.loc t), s2, some (mp a b), some (tn (thn a b)), s5, s6, s7, s8, some (mp (und a) b), s10, s11, s12, some (tn a), some (tn b), some (.loc P), some (.loc S), some (.loc F), s18, s19, s20, s21] = true) : L9 t a b P S F [s0, some (.loc t), s2, some (mp a b), some (tn (thn a b)), s5, s6, s7, s8, some (mp (und a) b), s10, s11, s12, some (tn a), some (tn b), some (.loc P), some (.loc S), some (.loc F), s18, s19, s20, s21]
inductive LK (t : Nat) (a b : List Nat) (P S F k : Nat) : Env → Prop
  | mk (s0 s2 s5 s6 s7 s8 s9 s11 s12 s18 s19 s20 s21 : Option PV) (hx : noX [s0, some (.loc t), s2, some (mp a b), some (tn (thn a b)), s5, s6, s7, s8, s9, some (ni k), s11, s12, some (tn a), some (tn b), some (.loc P), some (.loc S), some (.loc F), s18, s19, s20, s21] = true) : LK t a b P S F k [s0, some (.loc t), s2, some (mp a b), some (tn (thn a b)), s5, s6, s7, s8, s9, some (ni k), s11, s12, some (tn a), some (tn b), some (.loc P), some (.loc S), some (.loc F), s18, s19, s20, s21]
inductive LS (t : Nat) (a b : List Nat) (P S F k : Nat) : Env → Prop
  | mk (s0 s2 s5 s6 s7 s8 s9 s12 s18 s19 s20 s21 : Option PV) (hx : noX [s0, some (.loc t), s2, some (mp a b), some (tn (thn a b)), s5, s6, s7, s8, s9, some (ni k), some (tn (still b k)), s12, some (tn a), some (tn b), some (.loc P), some (.loc S), some (.loc F), s18, s19, s20, s21] = true) : LS t a b P S F k [s0, some (.loc t), s2, some (mp a b), some (tn (thn a b)), s5, s6, s7, s8, s9, some (ni k), some (tn (still b k)), s12, some (tn a), some (tn b), some (.loc P), some (.loc S), some (.loc F), s18, s19, s20, s21]
inductive LB (t : Nat) (a b : List Nat) (P S F k g : Nat) : Env → Prop
  | mk (s0 s2 s5 s6 s7 s8 s9 s18 s19 s20 s21 : Option PV) (hx : noX [s0, some (.loc t), s2, some (mp a b), some (tn (thn a b)), s5, s6, s7, s8, s9, some (ni k), some (tn (still b k)), some (.loc g), some (tn a), some (tn b), some (.loc P), some (.loc S), some (.loc F), s18, s19, s20, s21] = true) : LB t a b P S F k g [s0, some (.loc t), s2, some (mp a b), some (tn (thn a b)), s5, s6, s7, s8, s9, some (ni k), some (tn (still b k)), some (.loc g), some (tn a), some (tn b), some (.loc P), some (.loc S), some (.loc F), s18, s19, s20, s21]
end K40
end Dp
set_option linter.all false
set_option Elab.async false
set_option maxRecDepth 100000
set_option maxHeartbeats 1000000
namespace Dp
def Ss.nth : Ss → Nat → S
  | .cons s _, 0 => s
  | .cons _ ss, n + 1 => ss.nth n
  | .nil, _ => .pass
theorem isMap_len {a b : List Nat} (M : IsMap a b) : b.length = a.length := M.hl
namespace K40
abbrev cf (d n0 : Nat) : Cfg := ⟨callAt tab (d + 6), fun i => (tab i).isSome, n0⟩
/-- the rounds stand in the memory -/
structure Rs (a b : List Nat) (P S F : Nat) (m : Mem) : Prop where
  hP : lstAt m P = some ((rounds a).map tn)
  hS : lstAt m S = some ((rounds b).map tn)
  hF : lstAt m F = some ((rounds (thn a b)).map tn)
theorem Rs.app {a b : List Nat} {P S F : Nat} {m l : Mem} (r : Rs a b P S F m) : Rs a b P S F (m ++ l) := ⟨lstAt_app r.hP, lstAt_app r.hS, lstAt_app r.hF⟩
theorem Rs.fr {a b : List Nat} {P S F : Nat} {m m' : Mem} (r : Rs a b P S F m) (f : Fr m m') : Rs a b P S F m' := ⟨f.lst r.hP, f.lst r.hS, f.lst r.hF⟩
theorem Rs.mx {a b : List Nat} {t P S F : Nat} {m m' : Mem} (r : Rs a b P S F m) (f : Mx t m m') (hP : P ≠ t) (hS : S ≠ t) (hF : F ≠ t) : Rs a b P S F m' := ⟨f.lst r.hP hP, f.lst r.hS hS, f.lst r.hF hF⟩
section
variable {d n0 t K : Nat} {e : Env} {m : Mem} {a b : List Nat} {D : Po}
/-- the map -/
theorem b1 {lap : Nat} (L : L0 t lap e) (T : Tin m t K) (hK : K < 100000000) (hD : ∀ a b, IsMap a b → a.length ≤ 24 → ∀ e' m', LA t (mp a b) e' → Tin m' t (K + 50) → D.nx e' m') :
    ws (evS (cf d n0) (s_law_0.nth 0) e m) D := by
  obtain ⟨s0, s3, s4, s5, s6, s7, s8, s9, s10, s11, s12, s13, s14, s15, s16, s17, s18, s19, s20, s21, hx⟩ := L
  by_cases q : lap = 0
  · subst q
    simp [s_law_0, Ss.nth, -List.append_assoc, -List.length_append]
    exact hD [0, 2, 1, 3] [1, 0, 3, 2] isMap_path (by decide) _ _ (.mk (hx := noX_set (i := 3) hx rfl) ..) (T.mono (by omega))
  · simp [s_law_0, Ss.nth, q, h__law_take, h__law_map, -List.append_assoc, -List.length_append]
    refine (s_take (d + 5) T (n := 12) (by omega) (by decide) (by decide)).imp fun r ⟨k, er, hk, mx, hl, T2⟩ => ?_
    obtain ⟨v, m1⟩ := r
    dsimp only at er mx hl T2 ⊢
    subst er
    obtain ⟨s, e1⟩ : ∃ s : Nat, (1 : Int) + (k : Int) = (s : Int) := ⟨1 + k, by omega⟩
    simp [e1, -List.append_assoc, -List.length_append]
    refine (s_law_map (d + 3) T2 (s := s) (by omega) (by omega) (by omega)).imp fun r ⟨a, b, er, M, hl, mx, hl2, T3⟩ => ?_
    obtain ⟨v, m2⟩ := r
    dsimp only at er mx hl2 T3 ⊢
    subst er
    exact hD a b M (by omega) _ _ (.mk (hx := noX_set (i := 3) hx rfl) ..) (T3.mono (by omega))
/-- taken apart; its faces' shuffle; rounds -/
theorem b2 (L : LA t (mp a b) e) (hD : ∀ e', L1 t a b e' → D.nx e' m) : ws (evS (cf d n0) (s_law_0.nth 1) e m) D := by
  obtain ⟨s0, s2, s4, s5, s6, s7, s8, s9, s10, s11, s12, s13, s14, s15, s16, s17, s18, s19, s20, s21, hx⟩ := L
  simp [s_law_0, Ss.nth, -List.append_assoc, -List.length_append]
  exact hD _ (.mk (hx := noX_set (i := 14) (noX_set (i := 13) hx rfl) rfl) ..)
theorem b3 (M : IsMap a b) (h24 : a.length ≤ 24) (L : L1 t a b e) (hD : ∀ e', L2 t a b e' → D.nx e' m) : ws (evS (cf d n0) (s_law_0.nth 2) e m) D := by
  obtain ⟨s0, s2, s4, s5, s6, s7, s8, s9, s10, s11, s12, s15, s16, s17, s18, s19, s20, s21, hx⟩ := L
  simp [s_law_0, Ss.nth, h__law_then, s_law_then (d + 5) (p := a) (q := b) (fun x hx => by have := M.ha.lt x hx; have := M.hl; omega) (by simp only [sizeB]; omega), -List.append_assoc, -List.length_append]
  exact hD _ (.mk (hx := noX_set (i := 4) hx rfl) ..)
theorem b4 (M : IsMap a b) (h24 : a.length ≤ 24) (L : L2 t a b e) (T : Tin m t K) (hD : ∀ e' m' P S F, P ≠ t → S ≠ t → F ≠ t → Rs a b P S F m' → L3 t a b P S F e' → Tin m' t K → D.nx e' m') : ws (evS (cf d n0) (s_law_0.nth 3) e m) D := by
  have ht := T.lt
  have hl := M.hl
  obtain ⟨s0, s2, s5, s6, s7, s8, s9, s10, s11, s12, s15, s16, s17, s18, s19, s20, s21, hx⟩ := L
  simp [s_law_0, Ss.nth, h__law_rounds, s_law_rounds (d + 5) M.ha (by omega), s_law_rounds (d + 5) M.hb (by omega), s_law_rounds (d + 5) (thn_sh M.ha M.hb M.hl) (by rw [thn_len]; omega), -List.append_assoc, -List.length_append]
  refine hD _ _ m.length (m ++ [PO.lst ((rounds a).map tn)]).length (m ++ [PO.lst ((rounds a).map tn)] ++ [PO.lst ((rounds b).map tn)]).length (by omega) (by rw [List.length_append]; omega) (by rw [List.length_append, List.length_append]; omega) ⟨lstAt_app (lstAt_app lstAt_new), lstAt_app lstAt_new, lstAt_new⟩ (.mk (hx := noX_set (i := 17) (noX_set (i := 16) (noX_set (i := 15) hx rfl) rfl) rfl) ..) T.app.app.app
/-- what the program says -/
theorem b5 {P S F : Nat} (M : IsMap a b) (h24 : a.length ≤ 24) (R : Rs a b P S F m) (L : L3 t a b P S F e) (T : Tin m t K)
    (hD : ∀ e' m' g p s f, Rs a b P S F m' → L4 t a b P S F g e' → lstAt m' g = some [.bl true, .loc p, .loc s, .loc f, .int (2 - 2 * hdl a b)] → Rs a b p s f m' → Tin m' t K → D.nx e' m') : ws (evS (cf d n0) (s_law_0.nth 4) e m) D := by
  have hl := M.hl
  have hsa : a.length < sizeB := by simp only [sizeB]; omega
  have hsb : b.length < sizeB := by simp only [sizeB]; omega
  obtain ⟨s0, s2, s5, s6, s7, s8, s9, s10, s11, s12, s18, s19, s20, s21, hx⟩ := L
  have r1 : ∀ M' : Mem, callAt tab (d + 6) 126 [mp a b] M' = .ok (.bl true, M') := fun M' => by rw [s_is_map (d + 1) a b (by omega) (by omega), isMapB_iff.mpr M]
  have r2 : ∀ M' : Mem, callAt tab (d + 6) 26 [mp a b] M' = .ok (.loc (M'.length + 2), M' ++ [.lst (a.map ni), .lst (b.map ni), .lst [.loc M'.length, .loc (M'.length + 1)]]) := s_lists_mp (d + 3) a b hsa hsb
  have r3 : callAt tab (d + 6) 183 [.loc (m.length + 2)] (m ++ [.lst (a.map ni), .lst (b.map ni), .lst [.loc m.length, .loc (m.length + 1)]]) = .ok (.loc (m ++ [PO.lst (a.map ni), .lst (b.map ni), .lst [.loc m.length, .loc (m.length + 1)]]).length, m ++ [.lst (a.map ni), .lst (b.map ni), .lst [.loc m.length, .loc (m.length + 1)]] ++ [.lst ((rounds a).map tn)]) :=
    s_map_points_loc d M (by omega) (q := m.length) (r := m.length + 1) (by simp [lstAt]) (by simp [lstAt]) (by simp [lstAt])
  have r4 : ∀ M' : Mem, callAt tab (d + 6) 184 [mp a b] M' = .ok (.loc M'.length, M' ++ [.lst ((rounds b).map tn)]) := s_map_sides d M (by omega)
  have r5 : ∀ M' : Mem, callAt tab (d + 6) 178 [mp a b] M' = .ok (.loc M'.length, M' ++ [.lst ((rounds (thn a b)).map tn)]) := s_map_faces d M (by omega)
  have r6 : ∀ M' : Mem, callAt tab (d + 6) 179 [mp a b] M' = .ok (.int (hdl a b), M') := s_map_handles d M (by omega)
  have s2 : small64 (2 : Int) = true := rfl
  simp [s_law_0, Ss.nth, h_is_map, h__law_lists, h_map_points, h_map_sides, h_map_faces, h_map_handles, r1, r2, r3, r4, r5, r6, s2, -List.append_assoc, -List.length_append]
  exact hD _ _ _ _ _ _ R.app.app.app.app.app (.mk (hx := noX_set (i := 5) hx rfl) ..) lstAt_new ⟨lstAt_app (lstAt_app (lstAt_app lstAt_new)), lstAt_app (lstAt_app lstAt_new), lstAt_app lstAt_new⟩ T.app.app.app.app.app
theorem sm_rs {P Q : Nat} {p : List Nat} (hp : Sh p) (hl : p.length ≤ 24) (hP : lstAt m P = some ((rounds p).map tn)) (hQ : lstAt m Q = some ((rounds p).map tn)) : Sm (d + 5) m (.loc P) (.loc Q) :=
  sm_rounds (d + 2) hP hQ (by have := rounds_le (p := p); simp only [sizeB]; omega) fun x hx => by have := round_len hp x hx; simp only [sizeB]; omega
/-- .. is what the law says -/
theorem b6 {P S F g p s f : Nat} (M : IsMap a b) (h24 : a.length ≤ 24) (R : Rs a b P S F m) (L : L4 t a b P S F g e) (T : Tin m t K) (hg : lstAt m g = some [.bl true, .loc p, .loc s, .loc f, .int (2 - 2 * hdl a b)]) (R2 : Rs a b p s f m)
    (hD : ∀ e' m', Rs a b P S F m' → L3 t a b P S F e' → Tin m' t K → D.nx e' m') : ws (evS (cf d n0) (s_law_0.nth 5) e m) D := by
  have hl := M.hl
  obtain ⟨h1, h2⟩ := hdl_euler M
  obtain ⟨s0, s2, s6, s7, s8, s9, s10, s11, s12, s18, s19, s20, s21, hx⟩ := L
  have hs := thn_sh M.ha M.hb M.hl
  have r7 : callAt tab (d + 6) 39 [.loc g, .loc m.length] (m ++ [.lst [.bl true, .loc P, .loc S, .loc F, .int (((rounds a).length : Int) - (rounds b).length + (rounds (thn a b)).length)]]) = .ok (.bl true, m ++ [.lst [.bl true, .loc P, .loc S, .loc F, .int (((rounds a).length : Int) - (rounds b).length + (rounds (thn a b)).length)]]) := by
    refine Sm.call (sm_lst (d + 4) [(.bl true, .bl true), (.loc p, .loc P), (.loc s, .loc S), (.loc f, .loc F), (.int (2 - 2 * hdl a b), .int (((rounds a).length : Int) - (rounds b).length + (rounds (thn a b)).length))] (lstAt_app hg) lstAt_new (by simp [sizeB]) fun q hq => ?_)
    simp only [List.mem_cons, List.not_mem_nil, or_false] at hq
    rcases hq with rfl | rfl | rfl | rfl | rfl
    · exact .of (sameAt_bl (d + 4) _)
    · exact (sm_rs M.ha h24 R2.hP R.hP).app
    · exact (sm_rs M.hb (by omega) R2.hS R.hS).app
    · exact (sm_rs hs (by rw [thn_len]; omega) R2.hF R.hF).app
    · dsimp only
      rw [h1]
      exact .of (sameAt_int (d + 4) _)
  have r6 : ∀ M' : Mem, callAt tab (d + 6) 179 [mp a b] M' = .ok (.int (hdl a b), M') := s_map_handles d M (by omega)
  simp [s_law_0, Ss.nth, h__law_same, h_map_handles, lenB_lst R.hP, lenB_lst R.hS, lenB_lst R.hF, r6, r7, show ¬ hdl a b < 0 by omega, -List.append_assoc, -List.length_append]
  exact hD _ _ R.app (.mk (hx := hx) ..) T.app
theorem b7 {P S F : Nat} (L : L3 t a b P S F e) (hD : ∀ e', L5 t a b P S F .non .non e' → D.nx e' m) : ws (evS (cf d n0) (s_law_0.nth 6) e m) D := by
  obtain ⟨s0, s2, s5, s6, s7, s8, s9, s10, s11, s12, s18, s19, s20, s21, hx⟩ := L
  simp [s_law_0, Ss.nth, -List.append_assoc, -List.length_append]
  exact hD _ (.mk (hx := noX_set (i := 19) (noX_set (i := 18) hx rfl) rfl) ..)
/-- its type, or what is raised -/
theorem b8 {P S F : Nat} (M : IsMap a b) (h24 : a.length ≤ 24) (L : L5 t a b P S F .non .non e) (hD : ∀ e' x y, (if oneK a && oneK (thn a b) then x = PV.non ∧ y = PV.tup [ni (len0 (thn a b)), ni (len0 a)] else x = PV.bl true ∧ y = PV.non) → L5 t a b P S F x y e' → D.nx e' m) : ws (evS (cf d n0) (s_law_0.nth 7) e m) D := by
  obtain ⟨s0, s2, s5, s6, s7, s8, s9, s10, s11, s12, s20, s21, hx⟩ := L
  rw [show s_law_0.nth 7 = .try_ (.cons (.asg (.pat (.name 19)) (.callK 187 .nil (.cons (.var 3) .nil) [0])) .nil) (.cons 1 (some 6) (.cons (.asg (.pat (.name 18)) (.isX 6 0)) .nil) .nil) from rfl]
  cases q : (oneK a && oneK (thn a b)) with
  | true =>
    rw [q] at hD
    have q := Bool.and_eq_true_iff.mp q
    have r : callAt tab (d + 6) 187 [mp a b] m = .ok (.tup [ni (len0 (thn a b)), ni (len0 a)], m) := s_map_type d M (by omega) m q.2 q.1
    refine try_ok (asg_callK rfl (v := mp a b) rfl nofun h_map_type (by simp) r) ?_
    exact hD _ _ _ ⟨rfl, rfl⟩ (.mk (hx := noX_set (i := 19) hx rfl) ..)
  | false =>
    rw [q] at hD
    have r : callAt tab (d + 6) 187 [mp a b] m = .exc 1 m := s_map_type_no d M (by omega) m (fun z => by rw [z.1, z.2] at q; cases q)
    refine try_caught (asg_callK_exc rfl (v := mp a b) rfl nofun h_map_type r) hx (by simp) (by simp) (by decide) (by decide) ?_
    exact hD _ _ _ ⟨rfl, rfl⟩ (.mk (hx := noX_set (i := 18) (noX_set (i := 6) hx (o := none) rfl) (o := some (.bl true)) rfl) ..)
theorem lens_step (c : Cfg) {env : Env} (hh : Mem) (l : List (List Nat)) {Q : List PV × Mem → Prop} {src : Src} (hl : l.length < sizeB) (g : Gives0 hh src (l.map tn)) (he : env.length = 22) (hend : ∀ m, Q ((il l).map .int, hh ++ m)) :
    wp (lcLoop (lcStep c env (.name 21) [21] .no (.blt .len (.cons (.var 21) .nil))) fuelB src 0 [] hh) Q := by
  refine lcA l tn (fun r => .int (r.length : Int)) g hl (fun r _ m => ?_) fun m => ?_
  · have e1 : 21 < env.length := by omega
    simp [e1, he]
  · rw [il_map]
    exact hend m
/-- is it of one kind -/
theorem b9 {P S F : Nat} {x y : PV} (M : IsMap a b) (h24 : a.length ≤ 24) (R : Rs a b P S F m) (L : L5 t a b P S F x y e) (T : Tin m t K) (hD : ∀ e' m', Rs a b P S F m' → L6 t a b P S F x y (oneK a && oneK (thn a b)) e' → Tin m' t K → D.nx e' m') : ws (evS (cf d n0) (s_law_0.nth 8) e m) D := by
  obtain ⟨s0, s2, s5, s6, s7, s8, s9, s10, s11, s12, s20, s21, hx⟩ := L
  have r1 := rounds_le (p := a)
  have r2 := rounds_le (p := thn a b)
  rw [thn_len] at r2
  simp [s_law_0, Ss.nth, srcB_lst R.hP, -List.append_assoc, -List.length_append]
  refine lens_step _ _ (rounds a) (by simp only [sizeB]; omega) (g0_lst R.hP) (by simp) fun m1 => ?_
  dsimp only
  rw [lset_new (by rw [il_len]; omega)]
  have R1 := R.app (l := m1)
  have T1 := T.app (l := m1)
  have R2 := R1.app (l := [.lst ((il (rounds a)).map .int)])
  have T2 := T1.app (l := [.lst ((il (rounds a)).map .int)])
  generalize m ++ m1 ++ [PO.lst ((il (rounds a)).map .int)] = M1 at R2 T2 ⊢
  by_cases q1 : (dd (il (rounds a))).length = 1
  · have k1 : oneK a = true := by unfold oneK; rw [decide_eq_true q1]
    simp [q1, srcB_lst R2.hF, -List.append_assoc, -List.length_append]
    refine lens_step _ _ (rounds (thn a b)) (by simp only [sizeB]; omega) (g0_lst R2.hF) (by simp) fun m2 => ?_
    dsimp only
    rw [lset_new (by rw [il_len]; omega)]
    rw [k1] at hD
    by_cases q2 : (dd (il (rounds (thn a b)))).length = 1
    · have k2 : oneK (thn a b) = true := by unfold oneK; rw [decide_eq_true q2]
      rw [k2] at hD
      simp [q2, -List.append_assoc, -List.length_append]
      exact hD _ _ R2.app.app (.mk (hx := noX_set (i := 7) hx rfl) ..) T2.app.app
    · have k2 : oneK (thn a b) = false := by unfold oneK; rw [decide_eq_false q2]
      rw [k2] at hD
      simp [q2, Int.natCast_inj, show ¬ ((dd (il (rounds (thn a b)))).length : Int) = 1 by omega, -List.append_assoc, -List.length_append]
      exact hD _ _ R2.app.app (.mk (hx := noX_set (i := 7) hx rfl) ..) T2.app.app
  · have k1 : oneK a = false := by unfold oneK; rw [decide_eq_false q1]
    rw [k1] at hD
    simp [show ¬ ((dd (il (rounds a))).length : Int) = 1 by omega, -List.append_assoc, -List.length_append]
    exact hD _ _ R2 (.mk (hx := noX_set (i := 7) hx rfl) ..) T2
end
end K40
end Dp
set_option linter.all false
set_option Elab.async false
set_option maxRecDepth 100000
set_option maxHeartbeats 1000000
namespace Dp
theorem rounds_head {p : List Nat} (hp : Sh p) (h : 0 < p.length) : ∃ x r, rounds p = x :: r ∧ len0 p = x.length := by
  obtain ⟨x, r, e⟩ := List.exists_cons_of_ne_nil (rounds_pos hp h)
  exact ⟨x, r, e, by unfold len0; rw [e]; rfl⟩
namespace K40
section
variable {d n0 t K : Nat} {e : Env} {m : Mem} {a b : List Nat} {D : Po}
theorem b10 {P S F : Nat} {x y : PV} (M : IsMap a b) (h24 : a.length ≤ 24) (R : Rs a b P S F m) (L : L6 t a b P S F x y (oneK a && oneK (thn a b)) e) (T : Tin m t K)
    (hv : if oneK a && oneK (thn a b) then x = PV.non ∧ y = PV.tup [ni (len0 (thn a b)), ni (len0 a)] else x = PV.bl true ∧ y = PV.non)
    (hD : ∀ e' m', Rs a b P S F m' → L3 t a b P S F e' → Tin m' t K → D.nx e' m') : ws (evS (cf d n0) (s_law_0.nth 9) e m) D := by
  obtain ⟨s0, s2, s5, s6, s8, s9, s10, s11, s12, s20, s21, hx⟩ := L
  have hs := thn_sh M.ha M.hb M.hl
  have h2 := M.h2
  obtain ⟨xf, rf, ef, lf⟩ := rounds_head hs (by rw [thn_len]; omega)
  obtain ⟨xp, rp, ep, lp⟩ := rounds_head M.ha (by omega)
  cases q : (oneK a && oneK (thn a b)) with
  | true =>
    rw [q] at hv hx
    obtain ⟨rfl, rfl⟩ := hv
    have r7 : ∀ M' : Mem, callAt tab (d + 6) 39 [.loc M'.length, .loc (M' ++ [PO.lst [.tup [ni (len0 (thn a b)), ni (len0 a)], .non]]).length] (M' ++ [.lst [.tup [ni (len0 (thn a b)), ni (len0 a)], .non]] ++ [.lst [.tup [ni (len0 (thn a b)), ni (len0 a)], .non]]) = .ok (.bl true, M' ++ [.lst [.tup [ni (len0 (thn a b)), ni (len0 a)], .non]] ++ [.lst [.tup [ni (len0 (thn a b)), ni (len0 a)], .non]]) := fun M' => by
      refine Sm.call (sm_same (d + 4) (lstAt_app lstAt_new) lstAt_new (by simp [sizeB]) fun z hz => ?_)
      simp only [List.mem_cons, List.not_mem_nil, or_false] at hz
      rcases hz with rfl | rfl
      · exact sameAt_tup (d + 3) _ (by simp [sizeB]) fun z hz => by
          simp only [List.mem_cons, List.not_mem_nil, or_false] at hz
          rcases hz with rfl | rfl <;> exact sameAt_int (d + 3) _
      · exact sameAt_non (d + 4)
    rw [lf, lp] at r7 ⊢
    have e1 : ∀ l, getB (m ++ l) (.loc F) (.int 0) = .ok (tn xf, m ++ l) := fun l => by rw [getB_lst (lstAt_app R.hF), ef]; simp [atB, ixB]
    have e2 : ∀ l, getB (m ++ l) (.loc P) (.int 0) = .ok (tn xp, m ++ l) := fun l => by rw [getB_lst (lstAt_app R.hP), ep]; simp [atB, ixB]
    simp [s_law_0, Ss.nth, h__law_same, e1, e2, r7, -List.append_assoc, -List.length_append]
    exact hD _ _ R.app.app (.mk (hx := hx) ..) T.app.app
  | false =>
    rw [q] at hv hx
    obtain ⟨rfl, rfl⟩ := hv
    have r7 : ∀ M' : Mem, callAt tab (d + 6) 39 [.loc M'.length, .loc (M' ++ [PO.lst [.non, .bl true]]).length] (M' ++ [.lst [.non, .bl true]] ++ [.lst [.non, .bl true]]) = .ok (.bl true, M' ++ [.lst [.non, .bl true]] ++ [.lst [.non, .bl true]]) := fun M' => by
      refine Sm.call (sm_same (d + 4) (lstAt_app lstAt_new) lstAt_new (by simp [sizeB]) fun z hz => ?_)
      simp only [List.mem_cons, List.not_mem_nil, or_false] at hz
      rcases hz with rfl | rfl
      · exact sameAt_non (d + 4)
      · exact sameAt_bl (d + 4) _
    simp [s_law_0, Ss.nth, h__law_same, r7, -List.append_assoc, -List.length_append]
    exact hD _ _ R.app.app (.mk (hx := hx) ..) T.app.app
theorem b11 {P S F : Nat} (M : IsMap a b) (h24 : a.length ≤ 24) (L : L3 t a b P S F e) (hD : ∀ e', L7 t a b P S F e' → D.nx e' m) : ws (evS (cf d n0) (s_law_0.nth 10) e m) D := by
  obtain ⟨s0, s2, s5, s6, s7, s8, s9, s10, s11, s12, s18, s19, s20, s21, hx⟩ := L
  have r : callAt tab (d + 6) 185 [mp a b] m = .ok (mp (thn a b) b, m) := s_map_turned d M (by omega) m
  simp [s_law_0, Ss.nth, h_map_turned, r, -List.append_assoc, -List.length_append]
  exact hD _ (.mk (hx := noX_set (i := 8) hx rfl) ..)
theorem b12 {P S F : Nat} (M : IsMap a b) (h24 : a.length ≤ 24) (R : Rs a b P S F m) (L : L7 t a b P S F e) (T : Tin m t K)
    (hD : ∀ e' m' g p f, Rs a b P S F m' → L8 t a b P S F g e' → lstAt m' g = some [mp (thn a b) b, .loc p, .loc f, mp a b, .int (hdl a b)] → lstAt m' p = some ((rounds (thn a b)).map tn) → lstAt m' f = some ((rounds a).map tn) → Tin m' t K → D.nx e' m') : ws (evS (cf d n0) (s_law_0.nth 11) e m) D := by
  obtain ⟨s0, s2, s5, s6, s7, s9, s10, s11, s12, s18, s19, s20, s21, hx⟩ := L
  have N := M.turned
  have hn : (thn a b).length ≤ 60 := by rw [thn_len]; omega
  have r1 : ∀ M' : Mem, callAt tab (d + 6) 183 [mp (thn a b) b] M' = .ok (.loc M'.length, M' ++ [.lst ((rounds (thn a b)).map tn)]) := s_map_points d N hn
  have r2 : ∀ M' : Mem, callAt tab (d + 6) 178 [mp (thn a b) b] M' = .ok (.loc M'.length, M' ++ [.lst ((rounds a).map tn)]) := fun M' => by rw [s_map_faces d N hn, thn_thn M]
  have r3 : ∀ M' : Mem, callAt tab (d + 6) 185 [mp (thn a b) b] M' = .ok (mp a b, M') := fun M' => by rw [s_map_turned d N hn, thn_thn M]
  have r4 : ∀ M' : Mem, callAt tab (d + 6) 179 [mp (thn a b) b] M' = .ok (.int (hdl a b), M') := fun M' => by rw [s_map_handles d N hn, hdl_turned M]
  simp [s_law_0, Ss.nth, h_map_turned, h_map_points, h_map_faces, h_map_handles, r1, r2, r3, r4, -List.append_assoc, -List.length_append]
  exact hD _ _ _ _ _ R.app.app.app (.mk (hx := noX_set (i := 5) hx rfl) ..) lstAt_new (lstAt_app (lstAt_app lstAt_new)) (lstAt_app lstAt_new) T.app.app.app
theorem b13 {P S F g p f : Nat} (M : IsMap a b) (h24 : a.length ≤ 24) (R : Rs a b P S F m) (L : L8 t a b P S F g e) (T : Tin m t K) (hg : lstAt m g = some [mp (thn a b) b, .loc p, .loc f, mp a b, .int (hdl a b)]) (hp : lstAt m p = some ((rounds (thn a b)).map tn)) (hf : lstAt m f = some ((rounds a).map tn))
    (hD : ∀ e' m', Rs a b P S F m' → L3 t a b P S F e' → Tin m' t K → D.nx e' m') : ws (evS (cf d n0) (s_law_0.nth 12) e m) D := by
  obtain ⟨s0, s2, s6, s7, s9, s10, s11, s12, s18, s19, s20, s21, hx⟩ := L
  have hl := M.hl
  have hsa : a.length < sizeB := by simp only [sizeB]; omega
  have hsb : b.length < sizeB := by simp only [sizeB]; omega
  have hs := thn_sh M.ha M.hb M.hl
  have r7 : callAt tab (d + 6) 39 [.loc g, .loc m.length] (m ++ [.lst [mp (thn a b) b, .loc F, .loc P, mp a b, .int (hdl a b)]]) = .ok (.bl true, m ++ [.lst [mp (thn a b) b, .loc F, .loc P, mp a b, .int (hdl a b)]]) := by
    refine Sm.call (sm_lst (d + 4) [(mp (thn a b) b, mp (thn a b) b), (.loc p, .loc F), (.loc f, .loc P), (mp a b, mp a b), (.int (hdl a b), .int (hdl a b))] (lstAt_app hg) lstAt_new (by simp [sizeB]) fun q hq => ?_)
    simp only [List.mem_cons, List.not_mem_nil, or_false] at hq
    rcases hq with rfl | rfl | rfl | rfl | rfl
    · exact .of (sameAt_mp (d + 2) _ _ (by rw [thn_len]; exact hsa) hsb)
    · exact (sm_rs hs (by rw [thn_len]; omega) hp R.hF).app
    · exact (sm_rs M.ha h24 hf R.hP).app
    · exact .of (sameAt_mp (d + 2) _ _ hsa hsb)
    · exact .of (sameAt_int (d + 4) _)
  have r6 : ∀ M' : Mem, callAt tab (d + 6) 179 [mp a b] M' = .ok (.int (hdl a b), M') := s_map_handles d M (by omega)
  simp [s_law_0, Ss.nth, h__law_same, h_map_handles, r6, r7, -List.append_assoc, -List.length_append]
  exact hD _ _ R.app (.mk (hx := hx) ..) T.app
theorem b14 {P S F : Nat} (M : IsMap a b) (h24 : a.length ≤ 24) (L : L3 t a b P S F e) (hD : ∀ e', L9 t a b P S F e' → D.nx e' m) : ws (evS (cf d n0) (s_law_0.nth 13) e m) D := by
  obtain ⟨s0, s2, s5, s6, s7, s8, s9, s10, s11, s12, s18, s19, s20, s21, hx⟩ := L
  have r : callAt tab (d + 6) 181 [mp a b] m = .ok (mp (und a) b, m) := s_map_mirrored d M (by omega) m
  simp [s_law_0, Ss.nth, h_map_mirrored, r, -List.append_assoc, -List.length_append]
  exact hD _ (.mk (hx := noX_set (i := 9) hx rfl) ..)
theorem b15 {P S F : Nat} (M : IsMap a b) (h24 : a.length ≤ 24) (R : Rs a b P S F m) (L : L9 t a b P S F e) (T : Tin m t K)
    (hD : ∀ e' m', Rs a b P S F m' → L3 t a b P S F e' → Tin m' t K → D.nx e' m') : ws (evS (cf d n0) (s_law_0.nth 14) e m) D := by
  obtain ⟨s0, s2, s5, s6, s7, s8, s10, s11, s12, s18, s19, s20, s21, hx⟩ := L
  have hl := M.hl
  have hsa : a.length < sizeB := by simp only [sizeB]; omega
  have hsb : b.length < sizeB := by simp only [sizeB]; omega
  have N := M.mirrored
  have hn : (und a).length ≤ 60 := by rw [und_len]; omega
  have hs := thn_sh N.ha N.hb N.hl
  have r1 : ∀ M' : Mem, callAt tab (d + 6) 181 [mp (und a) b] M' = .ok (mp a b, M') := fun M' => by rw [s_map_mirrored d N hn, und_und M.ha]
  have r2 : ∀ M' : Mem, callAt tab (d + 6) 179 [mp (und a) b] M' = .ok (.int (hdl a b), M') := fun M' => by rw [s_map_handles d N hn, hdl_mirrored M]
  have r3 : ∀ M' : Mem, callAt tab (d + 6) 178 [mp (und a) b] M' = .ok (.loc M'.length, M' ++ [.lst ((rounds (thn (und a) b)).map tn)]) := s_map_faces d N hn
  have r4 : ∀ M' : Mem, callAt tab (d + 6) 53 [tn a] M' = .ok (tn (und a), M') := s_law_undone (d + 5) M.ha (by omega)
  have r5 : ∀ M' : Mem, callAt tab (d + 6) 179 [mp a b] M' = .ok (.int (hdl a b), M') := s_map_handles d M (by omega)
  have q1 := rounds_le (p := thn (und a) b)
  have q2 := rounds_le (p := thn a b)
  rw [thn_len] at q1 q2
  rw [und_len] at q1
  have so := sort_mirrored M
  simp [s_law_0, Ss.nth, h_map_mirrored, h_map_handles, h_map_faces, h__law_same, h__law_undone, r1, r2, r3, srcB_lst lstAt_new, -List.append_assoc, -List.length_append]
  refine lens_step _ _ (rounds (thn (und a) b)) (by simp only [sizeB]; omega) (g0_lst lstAt_new) rfl fun m1 => ?_
  have R1 := R.app (l := [.lst ((rounds (thn (und a) b)).map tn)]) |>.app (l := m1)
  have T1 := T.app (l := [.lst ((rounds (thn (und a) b)).map tn)]) |>.app (l := m1)
  generalize m ++ [PO.lst ((rounds (thn (und a) b)).map tn)] ++ m1 = M1 at R1 T1 ⊢
  rw [sortO_ints, so]
  dsimp only [wp_ok]
  have R2 := R1.app (l := [.lst ((il (rounds (thn (und a) b))).map .int)]) |>.app (l := [.lst ((sortI (il (rounds (thn a b)))).map .int)])
  have T2 := T1.app (l := [.lst ((il (rounds (thn (und a) b))).map .int)]) |>.app (l := [.lst ((sortI (il (rounds (thn a b)))).map .int)])
  have z1 : lstAt (M1 ++ [.lst ((il (rounds (thn (und a) b))).map .int)] ++ [PO.lst ((sortI (il (rounds (thn a b)))).map .int)]) (M1.length + 1) = some ((sortI (il (rounds (thn a b)))).map .int) := by
    have := lstAt_new (h := M1 ++ [PO.lst ((il (rounds (thn (und a) b))).map .int)]) (xs := (sortI (il (rounds (thn a b)))).map .int)
    rw [List.length_append] at this
    exact this
  generalize M1 ++ [PO.lst ((il (rounds (thn (und a) b))).map .int)] ++ [PO.lst ((sortI (il (rounds (thn a b)))).map .int)] = M2 at R2 T2 z1 ⊢
  generalize M1.length + 1 = z at z1 ⊢
  have R3 := R2.app (l := [.lst [mp (und a) b, mp a b, .int (hdl a b), .loc z]])
  have T3 := T2.app (l := [.lst [mp (und a) b, mp a b, .int (hdl a b), .loc z]])
  have z3 := lstAt_app (l := [.lst [mp (und a) b, mp a b, .int (hdl a b), .loc z]]) z1
  have g3 : lstAt (M2 ++ [.lst [mp (und a) b, mp a b, .int (hdl a b), .loc z]]) M2.length = some [mp (und a) b, mp a b, .int (hdl a b), .loc z] := lstAt_new
  generalize M2 ++ [PO.lst [mp (und a) b, mp a b, .int (hdl a b), .loc z]] = M3 at R3 T3 z3 g3 ⊢
  generalize M2.length = g at g3 ⊢
  simp [h__law_undone, h_map_handles, r4, r5, srcB_lst R3.hF, -List.append_assoc, -List.length_append]
  refine lens_step _ _ (rounds (thn a b)) (by simp only [sizeB]; omega) (g0_lst R3.hF) rfl fun m2 => ?_
  have R4 := R3.app (l := m2) |>.app (l := [.lst ((il (rounds (thn a b))).map .int)]) |>.app (l := [.lst ((sortI (il (rounds (thn a b)))).map .int)])
  have T4 := T3.app (l := m2) |>.app (l := [.lst ((il (rounds (thn a b))).map .int)]) |>.app (l := [.lst ((sortI (il (rounds (thn a b)))).map .int)])
  have z4 := lstAt_app (l := m2) z3 |> lstAt_app (l := [.lst ((il (rounds (thn a b))).map .int)]) |> lstAt_app (l := [.lst ((sortI (il (rounds (thn a b)))).map .int)])
  have g4 := lstAt_app (l := m2) g3 |> lstAt_app (l := [.lst ((il (rounds (thn a b))).map .int)]) |> lstAt_app (l := [.lst ((sortI (il (rounds (thn a b)))).map .int)])
  have w4 : lstAt (M3 ++ m2 ++ [.lst ((il (rounds (thn a b))).map .int)] ++ [PO.lst ((sortI (il (rounds (thn a b)))).map .int)]) ((M3 ++ m2).length + 1) = some ((sortI (il (rounds (thn a b)))).map .int) := by
    have := lstAt_new (h := M3 ++ m2 ++ [PO.lst ((il (rounds (thn a b))).map .int)]) (xs := (sortI (il (rounds (thn a b)))).map .int)
    rw [List.length_append] at this
    exact this
  rw [sortO_ints]
  dsimp only [wp_ok]
  generalize M3 ++ m2 ++ [PO.lst ((il (rounds (thn a b))).map .int)] ++ [PO.lst ((sortI (il (rounds (thn a b)))).map .int)] = M4 at R4 T4 z4 g4 w4 ⊢
  generalize (M3 ++ m2).length + 1 = w at w4 ⊢
  have r7 : callAt tab (d + 6) 39 [.loc g, .loc M4.length] (M4 ++ [.lst [mp (und a) b, mp a b, .int (hdl a b), .loc w]]) = .ok (.bl true, M4 ++ [.lst [mp (und a) b, mp a b, .int (hdl a b), .loc w]]) := by
    refine Sm.call (sm_lst (d + 4) [(mp (und a) b, mp (und a) b), (mp a b, mp a b), (.int (hdl a b), .int (hdl a b)), (.loc z, .loc w)] (lstAt_app g4) lstAt_new (by simp [sizeB]) fun q hq => ?_)
    simp only [List.mem_cons, List.not_mem_nil, or_false] at hq
    rcases hq with rfl | rfl | rfl | rfl
    · exact .of (sameAt_mp (d + 2) _ _ (by rw [und_len]; exact hsa) hsb)
    · exact .of (sameAt_mp (d + 2) _ _ hsa hsb)
    · exact .of (sameAt_int (d + 4) _)
    · refine (sm_same (d + 3) z4 w4 (by rw [List.length_map, (sortI_permN _).length_eq, il_len]; simp only [sizeB]; omega) fun x hx => ?_).app
      obtain ⟨i, _, rfl⟩ := List.mem_map.mp hx
      exact sameAt_int (d + 3) i
  simp [h__law_same, r7, -List.append_assoc, -List.length_append]
  exact hD _ _ R4.app (.mk (hx := hx) ..) T4.app
end
end K40
end Dp
set_option linter.all false
set_option Elab.async false
set_option maxRecDepth 100000
set_option maxHeartbeats 1000000
namespace Dp
theorem mem_two {h : Mem} {j k l : Nat} : cmpB h .mem (ni j) (.tup [ni k, ni l]) = .ok (.bl (decide (j = k ∨ j = l)), h) := by
  have := mem_tup (h := h) (k := j) (p := [k, l])
  simp only [List.map_cons, List.map_nil, List.mem_cons, List.not_mem_nil, or_false] at this
  exact this
namespace K40
/-- what is no map -/
def badL (a b : List Nat) (k p q : Nat) : List PV := [.non, .tup [], .tup [tn a], .loc p, .tup [tn a, .loc q], mp a (still b k), mp a (a ++ [0]), mp (a ++ [a.length]) (b ++ [a.length]), if 2 < a.length then mp (List.range a.length) b else mp [0] [0], .tup [.int 0, .int 1]]
section
variable {d n0 t K : Nat} {e : Env} {m : Mem} {a b : List Nat} {D : Po}
theorem b16 {P S F : Nat} (M : IsMap a b) (h24 : a.length ≤ 24) (L : L3 t a b P S F e) (T : Tin m t K) (hK : K < 1000000000) (hD : ∀ e' m' k, k < a.length → LK t a b P S F k e' → Tin m' t (K + 1) → D.nx e' m') : ws (evS (cf d n0) (s_law_0.nth 15) e m) D := by
  have h2 := M.h2
  obtain ⟨s0, s2, s5, s6, s7, s8, s9, s10, s11, s12, s18, s19, s20, s21, hx⟩ := L
  simp [s_law_0, Ss.nth, h__law_take, -List.append_assoc, -List.length_append]
  refine (s_take (d + 5) T (n := (a.length : Int)) (by omega) (by omega) (by omega)).imp fun r ⟨k, er, hk, mx, hl, T2⟩ => ?_
  obtain ⟨v, m1⟩ := r
  dsimp only at er mx hl T2 ⊢
  subst er
  exact hD _ _ k (by omega) (.mk (hx := noX_set (i := 10) hx rfl) ..) T2
theorem b17 {P S F k : Nat} (M : IsMap a b) (h24 : a.length ≤ 24) (hk : k < a.length) (L : LK t a b P S F k e) (T : Tin m t K) (hD : ∀ e' m', LS t a b P S F k e' → Tin m' t K → D.nx e' m') : ws (evS (cf d n0) (s_law_0.nth 16) e m) D := by
  have hl := M.hl
  obtain ⟨s0, s2, s5, s6, s7, s8, s9, s11, s12, s18, s19, s20, s21, hx⟩ := L
  simp [s_law_0, Ss.nth, rangeB_N (show b.length < 1000000 by omega), srcB_rngN (show b.length < 1000000 by omega), -List.append_assoc, -List.length_append]
  refine lcA (List.range b.length) ni (fun j => ni (if j = k ∨ j = ap b k then j else ap b j)) g0_rngN (by simp [sizeB]; omega) (fun j hj m => ?_) fun m2 => ?_
  · have hj := List.mem_range.mp hj
    have e1 : atB (b.map ni) (k : Int) = some (ni (ap b k)) := atB_ni (by omega)
    have e2 : atB (b.map ni) (j : Int) = some (ni (ap b j)) := atB_ni (by omega)
    by_cases q : j = k ∨ j = ap b k
    · simp [e1, mem_two, q, -List.append_assoc, -List.length_append]
    · simp [e1, e2, mem_two, q, -List.append_assoc, -List.length_append]
  · have : (List.range b.length).map (fun j => ni (if j = k ∨ j = ap b k then j else ap b j)) = (still b k).map ni := by
      unfold still
      rw [List.map_map]
      rfl
    dsimp only
    rw [this]
    exact hD _ _ (.mk (hx := noX_set (i := 11) hx rfl) ..) T.app.app
theorem b18 {P S F k : Nat} (M : IsMap a b) (h24 : a.length ≤ 24) (L : LS t a b P S F k e) (T : Tin m t K)
    (hD : ∀ e' m' g p q xs ys, LB t a b P S F k g e' → lstAt m' g = some (badL a b k p q) → lstAt m' p = some xs → lstAt m' q = some ys → Tin m' t K → D.nx e' m') : ws (evS (cf d n0) (s_law_0.nth 17) e m) D := by
  have hl := M.hl
  obtain ⟨s0, s2, s5, s6, s7, s8, s9, s12, s18, s19, s20, s21, hx⟩ := L
  have z1 : ∀ M' : Mem, slB M' (mp a b) none (some (.int 1)) none = .ok (.tup [tn a], M') := fun M' => slB_to (xs := [tn a, tn b]) (by decide) (by decide)
  have z2 : a.length + 1 ≤ sizeB := by simp only [sizeB]; omega
  have z3 : b.length + 1 ≤ sizeB := by simp only [sizeB]; omega
  by_cases q : 2 < a.length
  · have q2 : (2 : Int) < (a.length : Int) := by omega
    simp [s_law_0, Ss.nth, z1, z2, z3, q, q2, rangeB_N (show a.length < 1000000 by omega), itemsT_rngN (show a.length < 1000000 by omega), -List.append_assoc, -List.length_append]
    refine hD _ _ _ m.length (m ++ [PO.lst [tn a, tn b]]).length _ _ (.mk (hx := noX_set (i := 12) hx rfl) ..) ?_ (lstAt_app (lstAt_app lstAt_new)) (lstAt_app lstAt_new) T.app.app.app
    rw [lstAt_new]
    unfold badL
    rw [if_pos q]
    simp
  · have q2 : ¬ (2 : Int) < (a.length : Int) := by omega
    simp [s_law_0, Ss.nth, z1, z2, z3, q, q2, -List.append_assoc, -List.length_append]
    refine hD _ _ _ m.length (m ++ [PO.lst [tn a, tn b]]).length _ _ (.mk (hx := noX_set (i := 12) hx rfl) ..) ?_ (lstAt_app (lstAt_app lstAt_new)) (lstAt_app lstAt_new) T.app.app.app
    rw [lstAt_new]
    unfold badL
    rw [if_neg q]
    simp
theorem b19 {P S F k g p q : Nat} {xs ys : List PV} (M : IsMap a b) (h24 : a.length ≤ 24) (hk : k < a.length) (L : LB t a b P S F k g e) (T : Tin m t K) (hg : lstAt m g = some (badL a b k p q)) (hp : lstAt m p = some xs) (hq : lstAt m q = some ys)
    (hD : ∀ e' m', L3 t a b P S F e' → Tin m' t K → D.nx e' m') : ws (evS (cf d n0) (s_law_0.nth 18) e m) D := by
  have hl := M.hl
  obtain ⟨s0, s2, s5, s6, s7, s8, s9, s18, s19, s20, s21, hx⟩ := L
  have key : ∀ x ∈ badL a b k p q, noE x ∧ ∀ M' : Mem, callAt tab (d + 6) 126 [x] (m ++ M') = .ok (.bl false, m ++ M') := by
    intro x hx
    simp only [badL, List.mem_cons, List.not_mem_nil, or_false] at hx
    rcases hx with rfl | rfl | rfl | rfl | rfl | rfl | rfl | rfl | rfl | rfl
    · exact ⟨noE_non, fun M' => s_bad_non (d + 1) _⟩
    · exact ⟨noE_tup _, fun M' => s_bad_nil (d + 1) _⟩
    · exact ⟨noE_tup _, fun M' => s_bad_one (d + 1) a _⟩
    · exact ⟨noE_loc _, fun M' => s_bad_lst (d + 1) (lstAt_app hp)⟩
    · exact ⟨noE_tup _, fun M' => s_bad_half (d + 1) M.ha M.h2 (by omega) (lstAt_app hq)⟩
    · exact ⟨noE_tup _, fun M' => by rw [s_is_map (d + 1) _ _ (by omega) (by unfold still; simp; omega), no_still M hk]⟩
    · exact ⟨noE_tup _, fun M' => by rw [s_is_map (d + 1) _ _ (by omega) (by simp; omega), no_long M]⟩
    · exact ⟨noE_tup _, fun M' => by rw [s_is_map (d + 1) _ _ (by simp; omega) (by simp; omega), no_more M]⟩
    · by_cases z : 2 < a.length
      · rw [if_pos z]
        exact ⟨noE_tup _, fun M' => by rw [s_is_map (d + 1) _ _ (by simp; omega) (by omega), no_home M z]⟩
      · rw [if_neg z]
        exact ⟨noE_tup _, fun M' => by rw [s_is_map (d + 1) _ _ (by simp) (by simp), no_one]⟩
    · exact ⟨noE_tup _, fun M' => s_bad_ints (d + 1) _⟩
  have hlen : (badL a b k p q).length = 10 := rfl
  simp [s_law_0, Ss.nth, srcB_lst hg, h_is_map, h__law_same, -List.append_assoc, -List.length_append]
  refine lcA (badL a b k p q) id (fun _ => .bl false) (by rw [List.map_id]; exact g0_lst hg) (by rw [hlen]; simp [sizeB]) (fun x hx m2 => ?_) fun m2 => ?_
  · obtain ⟨h1, h2⟩ := key x hx
    simp [-List.append_assoc, -List.length_append]
    refine ⟨h_is_map, Eq.mpr (var_noE h1) ?_⟩
    simp [h2, -List.append_assoc, -List.length_append]
  · obtain ⟨X, hX⟩ : ∃ X : List PV, X = [.bl false, .bl false, .bl false, .bl false, .bl false, .bl false, .bl false, .bl false, .bl false, .bl false] := ⟨_, rfl⟩
    have e1 : (badL a b k p q).map (fun _ => PV.bl false) = X := by rw [hX]; rfl
    dsimp only
    rw [e1]
    have s62 : small62 (10 : Int) = true := rfl
    have T2 := T.app (l := m2) |>.app (l := [.lst X]) |>.app (l := [.lst [.bl false]]) |>.app (l := [.lst X])
    have g1 : lstAt (m ++ m2 ++ [PO.lst X] ++ [PO.lst [.bl false]] ++ [PO.lst X]) (m ++ m2).length = some X := lstAt_app (lstAt_app lstAt_new)
    have g2 : lstAt (m ++ m2 ++ [PO.lst X] ++ [PO.lst [.bl false]] ++ [PO.lst X]) (m ++ m2 ++ [PO.lst X] ++ [PO.lst [.bl false]]).length = some X := lstAt_new
    have r7 := Sm.call (sm_same (d + 4) g1 g2 (by rw [hX]; simp [sizeB]) fun x hx => by
      have : x = .bl false := by rw [hX] at hx; simpa using hx
      rw [this]
      exact sameAt_bl (d + 4) _)
    simp [s62, sizeB, -List.append_assoc, -List.length_append]
    rw [← hX]
    rw [r7]
    simp [-List.append_assoc, -List.length_append]
    exact hD _ _ (.mk (hx := hx) ..) T2
end
end K40
end Dp
set_option linter.all false
set_option Elab.async false
set_option maxRecDepth 100000
set_option maxHeartbeats 1000000
namespace Dp
theorem ws_end {c : Cfg} {env : Env} {h : Mem} {D : Po} (w : D.nx env h) : ws (evSs c .nil env h) D := by
  rw [ws_nil]
  exact w
namespace K40
inductive LZ (t : Nat) : Env → Prop
  | mk (s0 s2 s3 s4 s5 s6 s7 s8 s9 s10 s11 s12 s13 s14 s15 s16 s17 s18 s19 s20 s21 : Option PV) (hx : noX [s0, some (.loc t), s2, s3, s4, s5, s6, s7, s8, s9, s10, s11, s12, s13, s14, s15, s16, s17, s18, s19, s20, s21] = true) : LZ t [s0, some (.loc t), s2, s3, s4, s5, s6, s7, s8, s9, s10, s11, s12, s13, s14, s15, s16, s17, s18, s19, s20, s21]
theorem lz0 (x : PV) (hx : noXo (some x) = true) : LZ 2 [some x, some (.loc 2), none, none, none, none, none, none, none, none, none, none, none, none, none, none, none, none, none, none, none, none] := .mk (some x) none none none none none none none none none none none none none none none none none none none none (noX_set (i := 0) (env := [none, some (.loc 2), none, none, none, none, none, none, none, none, none, none, none, none, none, none, none, none, none, none, none, none]) (by decide) hx)
section
variable {d n0 t K : Nat} {e : Env} {m : Mem} {D : Po}
theorem lap_ok {lap : Nat} (L : L0 t lap e) (T : Tin m t K) (hK : K < 100000000) (hD : ∀ e' m', LZ t e' → Tin m' t (K + 60) → D.nx e' m') : ws (evSs (cf d n0) s_law_0 e m) D := by
  rw [show s_law_0 = .cons (s_law_0.nth 0) (.cons (s_law_0.nth 1) (.cons (s_law_0.nth 2) (.cons (s_law_0.nth 3) (.cons (s_law_0.nth 4) (.cons (s_law_0.nth 5) (.cons (s_law_0.nth 6) (.cons (s_law_0.nth 7) (.cons (s_law_0.nth 8) (.cons (s_law_0.nth 9) (.cons (s_law_0.nth 10) (.cons (s_law_0.nth 11) (.cons (s_law_0.nth 12) (.cons (s_law_0.nth 13) (.cons (s_law_0.nth 14) (.cons (s_law_0.nth 15) (.cons (s_law_0.nth 16) (.cons (s_law_0.nth 17) (.cons (s_law_0.nth 18) .nil)))))))))))))))))) from rfl]
  refine ws_seq ?_
  refine b1 L T hK fun a b M h24 e m L T => ?_
  refine ws_seq ?_
  refine b2 L fun e L => ?_
  refine ws_seq ?_
  refine b3 M h24 L fun e L => ?_
  refine ws_seq ?_
  refine b4 M h24 L T fun e m P S F hP hS hF R L T => ?_
  refine ws_seq ?_
  refine b5 M h24 R L T fun e m g p s f R L hg R2 T => ?_
  refine ws_seq ?_
  refine b6 M h24 R L T hg R2 fun e m R L T => ?_
  refine ws_seq ?_
  refine b7 L fun e L => ?_
  refine ws_seq ?_
  refine b8 M h24 L fun e x y hv L => ?_
  refine ws_seq ?_
  refine b9 M h24 R L T fun e m R L T => ?_
  refine ws_seq ?_
  refine b10 M h24 R L T hv fun e m R L T => ?_
  refine ws_seq ?_
  refine b11 M h24 L fun e L => ?_
  refine ws_seq ?_
  refine b12 M h24 R L T fun e m g p f R L hg hp hf T => ?_
  refine ws_seq ?_
  refine b13 M h24 R L T hg hp hf fun e m R L T => ?_
  refine ws_seq ?_
  refine b14 M h24 L fun e L => ?_
  refine ws_seq ?_
  refine b15 M h24 R L T fun e m R L T => ?_
  refine ws_seq ?_
  refine b16 M h24 L T (by omega) fun e m k hk L T => ?_
  refine ws_seq ?_
  refine b17 M h24 hk L T fun e m L T => ?_
  refine ws_seq ?_
  refine b18 M h24 L T fun e m g p q xs ys L hg hp hq T => ?_
  refine ws_seq ?_
  refine b19 M h24 hk L T hg hp hq fun e m L T => ?_
  show ws (evSs (cf d n0) .nil _ _) D
  rw [ws_nil]
  refine hD _ _ ?_ (T.mono (by omega))
  obtain ⟨s0, s2, s5, s6, s7, s8, s9, s10, s11, s12, s18, s19, s20, s21, hx⟩ := L
  exact .mk (hx := hx) ..
end
/-- the law's statements -/
theorem law_head (d : Nat) (ns : List Int) (hn : ns.length ≤ 63) (n0 : Nat) : Bx (ws (evS (cf d n0) (c_law.body.nth 0) [some (.loc 0), none, none, none, none, none, none, none, none, none, none, none, none, none, none, none, none, none, none, none, none, none] [.ro (ns.map .int)]) { nx := fun e m => LZ 2 e ∧ Tin m 2 0 }) := by
  constructor
  have ha : lstAt [PO.ro (ns.map .int)] 0 = some (ns.map .int) := rfl
  rw [show c_law.body.nth 0 = .asg (.pat (.name 1)) (.call 7 (.cons (.call 9 (.cons (.var 0) (.cons (.lit (.int 1)) .nil))) (.cons (.lit (.int 0)) .nil))) from rfl]
  simp [h__law_box, h__law_cells, -List.append_assoc, -List.length_append]
  refine (s_cells (d + 5) ha (by omega)).imp fun r q => ?_
  obtain ⟨er, x, em⟩ := q
  obtain ⟨v, m1⟩ := r
  dsimp only at er em ⊢
  subst er em
  simp [-List.append_assoc, -List.length_append]
  refine (s_box (d + 5) (h := [.ro (ns.map .int), .lst [.int x]]) (a := 1) (x := x) rfl).imp fun r q => ?_
  obtain ⟨er, a, b, ha0, hb0, hb1, em⟩ := q
  obtain ⟨v, m2⟩ := r
  dsimp only at er em ⊢
  subst er
  refine ⟨lz0 (.loc 0) rfl, ?_⟩
  rw [em]
  exact ⟨a, b, 0, rfl, ha0, hb0, hb1, Int.le_refl _, Int.le_refl _⟩
theorem law_loop (d n0 : Nat) : Bx (∀ e m, LZ 2 e ∧ Tin m 2 0 → ws (evS (cf d n0) (c_law.body.nth 1) e m) { nx := fun e _ => LZ 2 e }) := by
  constructor
  rintro e m ⟨L, T⟩
  rw [show c_law.body.nth 1 = .for_ (.name 2) (.plain (.blt .range (.cons (.lit (.int 6)) .nil))) s_law_0 from rfl]
  have s0 : small62 0 = true := rfl
  have s1 : small62 6 = true := rfl
  simp [s0, s1, -List.append_assoc, -List.length_append]
  refine forI ((List.range 6).map fun (i : Nat) => .int (0 + (i : Int))) (fun i e m => LZ 2 e ∧ Tin m 2 (100 * i)) (by simp [sizeB]) (fun i e m _ => g0_rng (h := m) i []) ?_ ⟨L, T⟩ ?_
  · rintro i e m hi ⟨L, T⟩
    have hi' : i < 6 := by simpa using hi
    rw [List.getElem_map, List.getElem_range, Int.zero_add]
    obtain ⟨s0, s2, s3, s4, s5, s6, s7, s8, s9, s10, s11, s12, s13, s14, s15, s16, s17, s18, s19, s20, s21, hx⟩ := L
    rw [ws_step]
    simp only [asgN_name, List.length_cons, List.length_nil]
    exact lap_ok (d := d) (lap := i) (.mk (hx := noX_set (i := 2) hx rfl) ..) T (by omega) fun e' m' L T => ⟨L, T.mono (by omega)⟩
  · rintro e m ⟨L, _⟩
    exact L
theorem law_last (d n0 : Nat) : Bx (∀ e m, LZ 2 e → ws (evS (cf d n0) (c_law.body.nth 2) e m) { rt := fun u _ => u = .bl true }) := by
  constructor
  intro e m L
  obtain ⟨s0, s2, s3, s4, s5, s6, s7, s8, s9, s10, s11, s12, s13, s14, s15, s16, s17, s18, s19, s20, s21, hx⟩ := L
  have r1 : ∀ M' : Mem, callAt tab (d + 6) 126 [.tup [.tup [.int 0, .int 1], .tup [.int 1, .int 0]]] M' = .ok (.bl true, M') := fun M' => by
    have := s_is_map (d + 1) [0, 1] [1, 0] (by decide) (by decide) M'
    rw [isMapB_iff.mpr isMap_two] at this
    exact this
  have r2 : ∀ M' : Mem, callAt tab (d + 6) 126 [.tup [.tup [.int 1, .int 0], .tup [.int 1, .int 0]]] M' = .ok (.bl true, M') := fun M' => by
    have := s_is_map (d + 1) [1, 0] [1, 0] (by decide) (by decide) M'
    rw [isMapB_iff.mpr isMap_turn] at this
    exact this
  have r3 : ∀ M' : Mem, callAt tab (d + 6) 126 [.tup [.tup [.bl true, .int 0], .tup [.int 1, .int 0]]] M' = .ok (.bl false, M') := s_bad_bool (d + 1)
  have r4 : ∀ M' : Mem, callAt tab (d + 6) 179 [.tup [.tup [.int 1, .int 2, .int 3, .int 0], .tup [.int 2, .int 3, .int 0, .int 1]]] M' = .ok (.int 1, M') := fun M' => by
    have := s_map_handles d isMap_ring (by decide) M'
    rw [show hdl [1, 2, 3, 0] [2, 3, 0, 1] = 1 by decide] at this
    exact this
  have r5 : ∀ M' : Mem, callAt tab (d + 6) 39 [.loc M'.length, .loc (M' ++ [PO.lst [.bl true, .bl true, .bl false, .int 1]]).length] (M' ++ [.lst [.bl true, .bl true, .bl false, .int 1]] ++ [.lst [.bl true, .bl true, .bl false, .int 1]]) = .ok (.bl true, M' ++ [.lst [.bl true, .bl true, .bl false, .int 1]] ++ [.lst [.bl true, .bl true, .bl false, .int 1]]) := fun M' => by
    refine Sm.call (sm_same (d + 4) (lstAt_app lstAt_new) lstAt_new (by simp [sizeB]) fun z hz => ?_)
    simp only [List.mem_cons, List.not_mem_nil, or_false] at hz
    rcases hz with rfl | rfl | rfl | rfl
    · exact sameAt_bl (d + 4) _
    · exact sameAt_bl (d + 4) _
    · exact sameAt_bl (d + 4) _
    · exact sameAt_int (d + 4) _
  simp [c_law, Ss.nth, h_is_map, h_map_handles, h__law_same, r1, r2, r3, r4, r5, -List.append_assoc, -List.length_append]
/-- the law holds at every script -/
theorem plain40 (ns : List Int) (hn : ns.length ≤ 63) : ∃ m, callAt tab 7 161 [.loc 0] [.ro (ns.map .int)] = .ok (.bl true, m) :=
  law3 (k := 6) (P1 := fun e m => LZ 2 e ∧ Tin m 2 0) (P2 := fun e _ => LZ 2 e) t_law rfl (S0 := c_law.body.nth 0) (S1 := c_law.body.nth 1) (S2 := c_law.body.nth 2) rfl rfl (law_head 0 ns hn 1) (law_loop 0 1) (law_last 0 1)
end K40
end Dp
set_option Elab.async false
set_option linter.all false
set_option maxRecDepth 100000
namespace Dp
namespace K40
open PySem PySem.Spec PyProof.Rows L2
def topS (i : Nat) : Stmt := PySem.Challenge.pw_spottedsheets_k40_main_maps_by_rounds.main.body.getD i (.Pass ⟨0, 0, 0, 0⟩)
def d_is_number : Df := mkDf "is_number" (topS 4) ["thing"] ["thing"] c_is_number
theorem b_is_number : DfB d_is_number := fun _ _ _ _ _ _ us hl => match us, hl with | [_], _ => rfl
def d_is_long : Df := mkDf "is_long" (topS 5) ["thing", "length"] ["thing", "length"] c_is_long
theorem b_is_long : DfB d_is_long := fun _ _ _ _ _ _ us hl => match us, hl with | [_, _], _ => rfl
def d_are_numbers : Df := mkDf "are_numbers" (topS 6) ["thing"] ["thing", "own"] c_are_numbers
theorem b_are_numbers : DfB d_are_numbers := fun _ _ _ _ _ _ us hl => match us, hl with | [_], _ => rfl
def d_tupled : Df := mkDf "tupled" (topS 7) ["value"] ["value", "own"] c_tupled
theorem b_tupled : DfB d_tupled := fun _ _ _ _ _ _ us hl => match us, hl with | [_], _ => rfl
def d_is_shuffle_of : Df := mkDf "is_shuffle_of" (topS 8) ["many", "thing"] ["many", "thing"] c_is_shuffle_of
theorem b_is_shuffle_of : DfB d_is_shuffle_of := fun _ _ _ _ _ _ us hl => match us, hl with | [_, _], _ => rfl
def d_undone : Df := mkDf "undone" (topS 9) ["shuffle"] ["shuffle", "found", "place", "own"] c_undone
theorem b_undone : DfB d_undone := fun _ _ _ _ _ _ us hl => match us, hl with | [_], _ => rfl
def d_then : Df := mkDf "then" (topS 10) ["one", "other"] ["one", "other", "own"] c_then
theorem b_then : DfB d_then := fun _ _ _ _ _ _ us hl => match us, hl with | [_, _], _ => rfl
def d_rounds_of : Df := mkDf "rounds_of" (topS 12) ["shuffle"] ["shuffle", "own", "found", "seen", "row", "here"] c_rounds_of
theorem b_rounds_of : DfB d_rounds_of := fun _ _ _ _ _ _ us hl => match us, hl with | [_], _ => rfl
def d_comes_to_all : Df := mkDf "comes_to_all" (topS 13) ["many", "way"] ["many", "way", "found", "line", "here", "own"] c_comes_to_all
theorem b_comes_to_all : DfB d_comes_to_all := fun _ _ _ _ _ _ us hl => match us, hl with | [_, _], _ => rfl
def d_is_map_in : Df := mkDf "is_map_in" (topS 16) ["thing"] ["thing", "many", "own"] c_is_map_in
theorem b_is_map_in : DfB d_is_map_in := fun _ _ _ _ _ _ us hl => match us, hl with | [_], _ => rfl
def d_is_map : Df := mkDf "is_map" (topS 17) ["thing"] ["thing"] c_is_map
theorem b_is_map : DfB d_is_map := fun _ _ _ _ _ _ us hl => match us, hl with | [_], _ => rfl
def d_sure_map : Df := mkDf "sure_map" (topS 18) ["value"] ["value", "own"] c_sure_map
theorem b_sure_map : DfB d_sure_map := fun _ _ _ _ _ _ us hl => match us, hl with | [_], _ => rfl
def d_faced : Df := mkDf "faced" (topS 19) ["own"] ["own"] c_faced
theorem b_faced : DfB d_faced := fun _ _ _ _ _ _ us hl => match us, hl with | [_], _ => rfl
def d_map_points : Df := mkDf "map_points" (topS 20) ["map_of"] ["map_of"] c_map_points
theorem b_map_points : DfB d_map_points := fun _ _ _ _ _ _ us hl => match us, hl with | [_], _ => rfl
def d_map_sides : Df := mkDf "map_sides" (topS 21) ["map_of"] ["map_of"] c_map_sides
theorem b_map_sides : DfB d_map_sides := fun _ _ _ _ _ _ us hl => match us, hl with | [_], _ => rfl
def d_map_faces : Df := mkDf "map_faces" (topS 22) ["map_of"] ["map_of"] c_map_faces
theorem b_map_faces : DfB d_map_faces := fun _ _ _ _ _ _ us hl => match us, hl with | [_], _ => rfl
def d_handles_in : Df := mkDf "handles_in" (topS 23) ["own"] ["own"] c_handles_in
theorem b_handles_in : DfB d_handles_in := fun _ _ _ _ _ _ us hl => match us, hl with | [_], _ => rfl
def d_map_handles : Df := mkDf "map_handles" (topS 24) ["map_of"] ["map_of"] c_map_handles
theorem b_map_handles : DfB d_map_handles := fun _ _ _ _ _ _ us hl => match us, hl with | [_], _ => rfl
def d_map_type : Df := mkDf "map_type" (topS 25) ["map_of"] ["map_of", "own", "faces", "points", "row"] c_map_type
theorem b_map_type : DfB d_map_type := fun _ _ _ _ _ _ us hl => match us, hl with | [_], _ => rfl
def d_map_turned : Df := mkDf "map_turned" (topS 26) ["map_of"] ["map_of", "own"] c_map_turned
theorem b_map_turned : DfB d_map_turned := fun _ _ _ _ _ _ us hl => match us, hl with | [_], _ => rfl
def d_map_mirrored : Df := mkDf "map_mirrored" (topS 27) ["map_of"] ["map_of", "own"] c_map_mirrored
theorem b_map_mirrored : DfB d_map_mirrored := fun _ _ _ _ _ _ us hl => match us, hl with | [_], _ => rfl
def d__law_box : Df := mkDf "_law_box" (topS 29) ["script", "k"] ["script", "k", "bit_so"] c__law_box
theorem b__law_box : DfB d__law_box := fun _ _ _ _ _ _ us hl => match us, hl with | [_, _], _ => rfl
def d__law_take : Df := mkDf "_law_take" (topS 30) ["tin", "below_so"] ["tin", "below_so", "once_so", "wide_so", "twice_so", "drawn_so"] c__law_take
theorem b__law_take : DfB d__law_take := fun _ _ _ _ _ _ us hl => match us, hl with | [_, _], _ => rfl
def d__law_cells : Df := mkDf "_law_cells" (topS 31) ["script", "most_so"] ["script", "most_so", "cells_so", "k", "bit_so", "at_so"] c__law_cells
theorem b__law_cells : DfB d__law_cells := fun _ _ _ _ _ _ us hl => match us, hl with | [_, _], _ => rfl
def d__law_pick : Df := mkDf "_law_pick" (topS 32) ["tin", "goods_so", "count_so"] ["tin", "goods_so", "count_so", "lap", "pool_so", "found"] c__law_pick
theorem b__law_pick : DfB d__law_pick := fun _ _ _ _ _ _ us hl => match us, hl with | [_, _, _], _ => rfl
def d__law_lists : Df := mkDf "_law_lists" (topS 33) ["matter"] ["matter", "bit"] c__law_lists
theorem b__law_lists : DfB d__law_lists := fun _ _ _ _ _ _ us hl => match us, hl with | [_], _ => rfl
def d__law_same : Df := mkDf "_law_same" (topS 34) ["got", "due"] ["got", "due", "mine", "its"] c__law_same
theorem b__law_same : DfB d__law_same := fun _ _ _ _ _ _ us hl => match us, hl with | [_, _], _ => rfl
def d__law_then : Df := mkDf "_law_then" (topS 35) ["one_so", "two_so"] ["one_so", "two_so", "k"] c__law_then
theorem b__law_then : DfB d__law_then := fun _ _ _ _ _ _ us hl => match us, hl with | [_, _], _ => rfl
def d__law_undone : Df := mkDf "_law_undone" (topS 36) ["one_so"] ["one_so", "k"] c__law_undone
theorem b__law_undone : DfB d__law_undone := fun _ _ _ _ _ _ us hl => match us, hl with | [_], _ => rfl
def d__law_rounds : Df := mkDf "_law_rounds" (topS 37) ["one_so"] ["one_so", "k", "found", "seen_so", "lap", "row_so", "here"] c__law_rounds
theorem b__law_rounds : DfB d__law_rounds := fun _ _ _ _ _ _ us hl => match us, hl with | [_], _ => rfl
def d__law_map : Df := mkDf "_law_map" (topS 38) ["tin", "sides_so"] ["tin", "sides_so", "many_so", "order_so", "k", "lap", "across_so", "around_so", "found", "turn", "left_so", "own", "j"] c__law_map
theorem b__law_map : DfB d__law_map := fun _ _ _ _ _ _ us hl => match us, hl with | [_, _], _ => rfl
def d_law : Df := mkDf "law" (topS 39) ["script"] ["script", "tin", "lap", "map_so", "faced_so", "got", "error_a", "fine", "turned_so", "back_so", "k", "still_so", "bads_so", "around_so", "across_so", "points_so", "sides_so", "faces_so", "caught", "told_so", "j", "own"] c_law
theorem b_law : DfB d_law := fun _ _ _ _ _ _ us hl => match us, hl with | [_], _ => rfl
def pg : LawP := ⟨[(132, d_is_number), (123, d_is_long), (67, d_are_numbers), (287, d_tupled), (141, d_is_shuffle_of), (290, d_undone), (282, d_then), (222, d_rounds_of), (78, d_comes_to_all), (127, d_is_map_in), (126, d_is_map), (273, d_sure_map), (89, d_faced), (183, d_map_points), (184, d_map_sides), (178, d_map_faces), (103, d_handles_in), (179, d_map_handles), (187, d_map_type), (185, d_map_turned), (181, d_map_mirrored), (7, d__law_box), (47, d__law_take), (9, d__law_cells), (35, d__law_pick), (26, d__law_lists), (39, d__law_same), (49, d__law_then), (53, d__law_undone), (38, d__law_rounds), (27, d__law_map), (161, d_law)],
 [("MOST_DARTS", 60)], [("CanNot", 1), ("Unfit", 3)],
 [(126, 0, ["thing"], [0]), (178, 0, ["map_of"], [0]), (179, 0, ["map_of"], [0]), (181, 0, ["map_of"], [0]), (183, 0, ["map_of"], [0]), (184, 0, ["map_of"], [0]), (185, 0, ["map_of"], [0]), (187, 0, ["map_of"], [0])]⟩
theorem tab_eq : pg.pr.tab = tab := LawP.tabE rfl
theorem okP : pg.okB = true := by decide +kernel
theorem bindP : ∀ q ∈ pg.L, DfB q.2 := List.forall_mem_cons.mpr ⟨b_is_number, List.forall_mem_cons.mpr ⟨b_is_long, List.forall_mem_cons.mpr ⟨b_are_numbers, List.forall_mem_cons.mpr ⟨b_tupled, List.forall_mem_cons.mpr ⟨b_is_shuffle_of, List.forall_mem_cons.mpr ⟨b_undone, List.forall_mem_cons.mpr ⟨b_then, List.forall_mem_cons.mpr ⟨b_rounds_of, List.forall_mem_cons.mpr ⟨b_comes_to_all, List.forall_mem_cons.mpr ⟨b_is_map_in, List.forall_mem_cons.mpr ⟨b_is_map, List.forall_mem_cons.mpr ⟨b_sure_map, List.forall_mem_cons.mpr ⟨b_faced, List.forall_mem_cons.mpr ⟨b_map_points, List.forall_mem_cons.mpr ⟨b_map_sides, List.forall_mem_cons.mpr ⟨b_map_faces, List.forall_mem_cons.mpr ⟨b_handles_in, List.forall_mem_cons.mpr ⟨b_map_handles, List.forall_mem_cons.mpr ⟨b_map_type, List.forall_mem_cons.mpr ⟨b_map_turned, List.forall_mem_cons.mpr ⟨b_map_mirrored, List.forall_mem_cons.mpr ⟨b__law_box, List.forall_mem_cons.mpr ⟨b__law_take, List.forall_mem_cons.mpr ⟨b__law_cells, List.forall_mem_cons.mpr ⟨b__law_pick, List.forall_mem_cons.mpr ⟨b__law_lists, List.forall_mem_cons.mpr ⟨b__law_same, List.forall_mem_cons.mpr ⟨b__law_then, List.forall_mem_cons.mpr ⟨b__law_undone, List.forall_mem_cons.mpr ⟨b__law_rounds, List.forall_mem_cons.mpr ⟨b__law_map, List.forall_mem_cons.mpr ⟨b_law, fun _ h => nomatch h⟩⟩⟩⟩⟩⟩⟩⟩⟩⟩⟩⟩⟩⟩⟩⟩⟩⟩⟩⟩⟩⟩⟩⟩⟩⟩⟩⟩⟩⟩⟩⟩
theorem kb_7 : DfK d_map_type 0 ["map_of"] [0] := fun _ _ _ _ _ _ us ws h1 h2 => match us, h1, ws, h2 with | [], _, [_], _ => rfl
theorem kb_6 : DfK d_map_turned 0 ["map_of"] [0] := fun _ _ _ _ _ _ us ws h1 h2 => match us, h1, ws, h2 with | [], _, [_], _ => rfl
theorem kb_5 : DfK d_map_sides 0 ["map_of"] [0] := fun _ _ _ _ _ _ us ws h1 h2 => match us, h1, ws, h2 with | [], _, [_], _ => rfl
theorem kb_4 : DfK d_map_points 0 ["map_of"] [0] := fun _ _ _ _ _ _ us ws h1 h2 => match us, h1, ws, h2 with | [], _, [_], _ => rfl
theorem kb_3 : DfK d_map_mirrored 0 ["map_of"] [0] := fun _ _ _ _ _ _ us ws h1 h2 => match us, h1, ws, h2 with | [], _, [_], _ => rfl
theorem kb_2 : DfK d_map_handles 0 ["map_of"] [0] := fun _ _ _ _ _ _ us ws h1 h2 => match us, h1, ws, h2 with | [], _, [_], _ => rfl
theorem kb_1 : DfK d_map_faces 0 ["map_of"] [0] := fun _ _ _ _ _ _ us ws h1 h2 => match us, h1, ws, h2 with | [], _, [_], _ => rfl
theorem kb_0 : DfK d_is_map 0 ["thing"] [0] := fun _ _ _ _ _ _ us ws h1 h2 => match us, h1, ws, h2 with | [], _, [_], _ => rfl
theorem kwP : ∀ z ∈ pg.kwl, ∀ df, pg.byId z.1 = some df → DfK df z.2.1 z.2.2.1 z.2.2.2 := List.forall_mem_cons.mpr ⟨fun df e => (Option.some.inj ((show pg.byId 126 = some d_is_map from rfl).symm.trans e)) ▸ kb_0, List.forall_mem_cons.mpr ⟨fun df e => (Option.some.inj ((show pg.byId 178 = some d_map_faces from rfl).symm.trans e)) ▸ kb_1, List.forall_mem_cons.mpr ⟨fun df e => (Option.some.inj ((show pg.byId 179 = some d_map_handles from rfl).symm.trans e)) ▸ kb_2, List.forall_mem_cons.mpr ⟨fun df e => (Option.some.inj ((show pg.byId 181 = some d_map_mirrored from rfl).symm.trans e)) ▸ kb_3, List.forall_mem_cons.mpr ⟨fun df e => (Option.some.inj ((show pg.byId 183 = some d_map_points from rfl).symm.trans e)) ▸ kb_4, List.forall_mem_cons.mpr ⟨fun df e => (Option.some.inj ((show pg.byId 184 = some d_map_sides from rfl).symm.trans e)) ▸ kb_5, List.forall_mem_cons.mpr ⟨fun df e => (Option.some.inj ((show pg.byId 185 = some d_map_turned from rfl).symm.trans e)) ▸ kb_6, List.forall_mem_cons.mpr ⟨fun df e => (Option.some.inj ((show pg.byId 187 = some d_map_type from rfl).symm.trans e)) ▸ kb_7, fun _ h => nomatch h⟩⟩⟩⟩⟩⟩⟩⟩
end K40
end Dp
set_option maxHeartbeats 0
set_option Elab.async false
set_option linter.all false
set_option maxRecDepth 100000
namespace Dp
namespace K40
open PySem PySem.Spec PyProof.Rows L2
def loose0 : List Str := ["CanNot", "Unfit", "is_number", "is_long", "are_numbers", "tupled", "is_shuffle_of", "undone", "then", "rounds_of", "comes_to_all", "MOST_DARTS", "is_map_in", "is_map", "sure_map", "faced", "map_points", "map_sides", "map_faces", "handles_in", "map_handles", "map_type", "map_turned", "map_mirrored", "_law_box", "_law_take", "_law_cells", "_law_pick", "_law_lists", "_law_same"]
def loose1 : List Str := ["_law_then", "_law_undone", "_law_rounds", "_law_map"]
def looseP : List Str := loose0 ++ loose1
abbrev R : PySem.W.OpenRow := PySem.W.OpenLaw.row PySem.Challenge.rw_spottedsheets_k40_main_maps_by_rounds
abbrev hk : PySem.W.Hook := hookE 4 pg.fa pg.fn pg.exB
def ob (s : PySem.W.SharedT) : Bool × He.AlD := obsEG 4 pg.fa pg.fn pg.exB (HandSHeadRun.getT s)
theorem ob_eq (s : PySem.W.SharedT) : ob s = hk.obs s.abs := obsEG_eq (HandSHeadRun.getT_eq s)
theorem run (w : World) : HandSHeadRun.RunEq R (PySem.W.view R.prog [39]) hk ob 6000 looseP w := by
  intro os
  kernel_rfl
end K40
end Dp
set_option maxHeartbeats 0
set_option Elab.async false
set_option linter.all false
set_option maxRecDepth 100000
namespace Dp
namespace K40
open PySem PySem.Spec PyProof.Rows L2
theorem plainP : pg.Plain 6 161 63 := fun ns h => by
  rw [tab_eq]
  exact plain40 ns h
theorem callP : PySem.W.WalkO (PySem.W.view R.prog [39]) looseP (PySem.W.XL (PySem.W.view R.prog [39]) []) hk.says R.toRowW (HandSHeadRun.topDef R.prog 39) [] (fun f vs => PySem.call f vs) :=
  LawP.walk (l := pg) (df := d_law) okP bindP kwP (law := PySem.Challenge.rw_spottedsheets_k40_main_maps_by_rounds) plainP rfl rfl rfl (by decide) (by kernel_rfl) ⟨rfl, by decide, by decide⟩ (by kernel_rfl)
end K40
end Dp
open PySem PySem.W PySem.Calls PyProof.Rows
theorem PySem.Challenge.cw_spottedsheets_k40_main_maps_by_rounds_holds : PySem.Challenge.rw_spottedsheets_k40_main_maps_by_rounds.Holds := by
  w_on; o_law
  exact HandSHeadRun.head_any (r := Dp.K40.R) (q := view Dp.K40.R.prog [39]) (H := Dp.K40.hk) (ob := Dp.K40.ob) (M := 6000) (loose := Dp.K40.looseP) (d := HandSHeadRun.topDef Dp.K40.R.prog 39) (kwd := []) Dp.K40.ob_eq
    (by kernel_rfl) (fun s => by kernel_rfl) Dp.K40.run (by kernel_rfl) (by kernel_rfl) (by kernel_rfl) (by rfl) (by first | assumption | decide +kernel) (by decide +kernel) ⟨rfl, rfl, rfl, rfl, rfl, by decide +kernel⟩ (by w_witness2) Dp.K40.callP
