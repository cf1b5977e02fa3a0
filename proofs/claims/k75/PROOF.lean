import PyProof.Rows.All
import Wide.All
import OpenK.AllK
import Wide.FinOn
import HandS.ForMost
import PySem.Challenge.RW_chosenbymany_k75_whole_places_do_not_pun
import HandS.Conv
import HandS.Deep
import HandS.DictTup
import HandS.Flow
import HandS.IsInst
import HandS.More
import HandS.Star
import HandS.Style
import HandS.TupAny
import HandS.TupLen
import HandS.TupMul
import HandS.Zip
import KE.DataMinMax
import KE.GoesMore
import KE.KDictCopyH
import KE.KDictSum
import KE.KDictWalk
import KE.KRevSl
import KE.SortData
import PyProof.EnumMake
import PyProof.ReprLen
import PyProof.Rows.SumAny
import PyProof.SeqIndex
import PyProof.TupleOfSeq
import PyProof.WalksMore
set_option Elab.async false
set_option linter.all false
set_option maxRecDepth 100000
set_option maxHeartbeats 4000000
/-! DSem: what the written Python does, as functions over plain data. Env: the names by slots. M: with the drawn numbers' source. -/
namespace DL
open PySem

abbrev D := PyData
/-- the draws' source: cells (the next one first), the present one, the mixed number, the turn -/
structure Src where
  cells : List Int
  left : Int
  mixed : Int
  turn : Int
abbrev M := StateT Src Option
abbrev Env := List (Option D)
/-- what a block ends with -/
inductive Out where
  | nx (ρ : Env)
  | rt (d : D)
  | bk (ρ : Env)
  | ct (ρ : Env)
def fail {α : Type} : M α := fun _ => none
def chk (b : Bool) : M Unit := if b = true then pure () else fail

-- within it nothing changes
mutual
def imm : D → Bool
  | .none | .bool _ | .int _ | .str _ => true
  | .tuple xs => immAll xs
  | .list _ | .dict _ => false
def immAll : List D → Bool
  | [] => true
  | x :: xs => imm x && immAll xs
end
/-- its items are so -/
def itm : D → Bool
  | .list xs => immAll xs
  | .dict kvs => immAll (kvs.map (·.1)) && immAll (kvs.map (·.2))
  | d => imm d
def fit (n : Nat) : Bool := decide (n ≤ sizeLine)

def seqOf : D → Option (List D)
  | .list xs => some xs
  | .tuple xs => some xs
  | _ => none

/-! ### expressions -/
abbrev EF := Env → M D
abbrev TF := Env → M Bool
abbrev LF := Env → M (List D)
def eVar (i : Nat) : EF := fun ρ => match ρ[i]? with
  | some (some d) => pure d
  | _ => fail
def eC (d : D) : EF := fun _ => pure d
/-- only what does not change -/
def eImm (f : EF) : EF := fun ρ => do
  let d ← f ρ
  chk (imm d)
  pure d
def eItm (f : EF) : EF := fun ρ => do
  let d ← f ρ
  chk (itm d)
  pure d
def e1 (op : D → M D) (f : EF) : EF := fun ρ => do op (← f ρ)
def e2 (op : D → D → M D) (f g : EF) : EF := fun ρ => do
  let x ← f ρ
  let y ← g ρ
  op x y
def e3 (op : D → D → D → M D) (f g h : EF) : EF := fun ρ => do
  let x ← f ρ
  let y ← g ρ
  let z ← h ρ
  op x y z
def lNil : LF := fun _ => pure []
def lCons (f : EF) (g : LF) : LF := fun ρ => do
  let x ← f ρ
  let xs ← g ρ
  pure (x :: xs)
/-- *e in a display -/
def lStar (f : EF) (g : LF) : LF := fun ρ => do
  let x ← f ρ
  let xs ← g ρ
  match seqOf x with
  | some ys => do
    chk (immAll ys)
    pure (ys ++ xs)
  | none => fail
def eTup (f : LF) : EF := fun ρ => do
  let xs ← f ρ
  chk (fit xs.length)
  pure (.tuple xs)
def eLst (f : LF) : EF := fun ρ => do
  let xs ← f ρ
  chk (fit xs.length)
  pure (.list xs)
/-- a call of one's own def -/
def noSrc {α : Type} (x : M α) : M α := fun S => (x S).map fun p => (p.1, S)
def eCall (m : List D → M D) (f : LF) : EF := fun ρ => do noSrc (m (← f ρ))
/-- .. that draws -/
def eCallM (m : List D → M D) (f : LF) : EF := fun ρ => do m (← f ρ)
def eIf (c : TF) (f g : EF) : EF := fun ρ => do if (← c ρ) = true then f ρ else g ρ
/-- a bool that a test gives -/
def eB (t : TF) : EF := fun ρ => do pure (.bool (← t ρ))

/-! ### tests -/
def tB (f : EF) : TF := fun ρ => do
  match ← f ρ with
  | .bool b => pure b
  | _ => fail
def tNot (t : TF) : TF := fun ρ => do pure (!(← t ρ))
def tAnd (t u : TF) : TF := fun ρ => do if (← t ρ) = true then u ρ else pure false
def tOr (t u : TF) : TF := fun ρ => do if (← t ρ) = true then pure true else u ρ

/-- x and y, x or y as bools -/
def eAnd (f g : EF) : EF := fun ρ => do
  match ← f ρ with
  | .bool true => g ρ
  | .bool false => pure (.bool false)
  | _ => fail
def eOr (f g : EF) : EF := fun ρ => do
  match ← f ρ with
  | .bool true => pure (.bool true)
  | .bool false => g ρ
  | _ => fail
def notD : D → M D
  | .bool b => pure (.bool (!b))
  | _ => fail

/-! ### operators -/
def addD (own : Bool) : D → D → M D
  | .int a, .int b => pure (.int (a + b))
  | .tuple a, .tuple b => do
    chk (fit (a.length + b.length))
    chk (!own || (immAll a && immAll b))
    pure (.tuple (a ++ b))
  | .list a, .list b => do
    chk (fit (a.length + b.length))
    chk (!own || (immAll a && immAll b))
    pure (.list (a ++ b))
  | _, _ => fail
def subD : D → D → M D
  | .int a, .int b => pure (.int (a - b))
  | _, _ => fail
def small64 (a : Int) : Bool := decide (a.natAbs < 2 ^ 64)
def mulD : D → D → M D
  | .int a, .int b => do
    chk (small64 a || small64 b)
    pure (.int (a * b))
  | .list a, .int k => do
    chk (decide (k.natAbs < 2 ^ 63) && fit (a.length * k.toNat) && immAll a)
    pure (.list (List.replicate k.toNat a).flatten)
  | .tuple a, .int k => do
    chk (decide (0 ≤ k ∧ k ≤ 1000) && decide (a.length ≤ 1000) && !a.isEmpty && immAll a)
    pure (.tuple (List.replicate k.toNat a).flatten)
  | _, _ => fail
def fdivD : D → D → M D
  | .int a, .int b => do
    chk (decide (b ≠ 0 ∧ b.natAbs < 1073741824))
    pure (.int (a.fdiv b))
  | _, _ => fail
def modD : D → D → M D
  | .int a, .int b => do
    chk (decide (b ≠ 0))
    pure (.int (a.fmod b))
  | _, _ => fail
def negD : D → M D
  | .int a => pure (.int (-a))
  | _ => fail
def absD : D → M D
  | .int i => pure (.int (if i < 0 then -i else i))
  | _ => fail
def max2D : D → D → M D
  | .int i, .int j => pure (.int (if j > i then j else i))
  | _, _ => fail
def min2D : D → D → M D
  | .int i, .int j => pure (.int (if j < i then j else i))
  | _, _ => fail
def intD : D → M D
  | .int i => pure (.int i)
  | .bool b => pure (.int (if b then 1 else 0))
  | _ => fail

/-! ### comparisons: the answer a bool -/
def eqD (neg : Bool) (x y : D) : M D := do
  chk (SeqAt.shaped x && SeqAt.shaped y)
  pure (.bool (if neg = true then !PyData.eqv x y else PyData.eqv x y))
inductive Cm where
  | lt | le | gt | ge
def cmI (c : Cm) (a b : Int) : Bool := match c with
  | .lt => decide (a < b)
  | .le => decide (a ≤ b)
  | .gt => decide (b < a)
  | .ge => decide (b ≤ a)
def cmD (c : Cm) : D → D → M D
  | .int a, .int b => pure (.bool (cmI c a b))
  | _, _ => fail
def inD (neg : Bool) (x y : D) : M D := match seqOf y with
  | some ys => do
    chk (SeqAt.shaped x && SeqAt.shaped y)
    pure (.bool (if neg = true then !ys.any (fun z => PyData.eqv z x) else ys.any (fun z => PyData.eqv z x)))
  | none => fail
/-- x is None, x is True, x is False -/
def isNoneD : D → Bool
  | .none => true
  | _ => false
def isD (neg : Bool) (x : D) : M D := pure (.bool (if neg = true then !isNoneD x else isNoneD x))
def isBD (neg : Bool) (c : Bool) : D → M D
  | .bool b => pure (.bool (if neg = true then !(b == c) else b == c))
  | _ => fail

/-- a < b < c -/
def eChain (o1 o2 : D → D → M D) (f g h : EF) : EF := fun ρ => do
  let x ← f ρ
  let y ← g ρ
  match ← o1 x y with
  | .bool true => do
    let z ← h ρ
    o2 y z
  | .bool false => pure (.bool false)
  | _ => fail

/-! ### items, slices -/
def ixD (n : Nat) (i : Int) : Option Nat := if 0 ≤ i ∧ i < (n : Int) then some i.toNat else if i < 0 ∧ 0 ≤ i + (n : Int) then some (i + n).toNat else none
def idxD : D → D → M D
  | x, .int i => match seqOf x with
    | some xs => match (ixD xs.length i).bind fun j => xs[j]? with
      | some d => pure d
      | none => fail
    | none => fail
  | _, _ => fail
/-- where a slice begins, ends -/
def slD (n d : Nat) : Option Int → Nat
  | none => d
  | some i => if 0 ≤ i then min i.toNat n else (i + n).toNat
def cutD (xs : List D) (lo hi : Option Int) : List D := (xs.drop (slD xs.length 0 lo)).take (slD xs.length xs.length hi - slD xs.length 0 lo)
def partD : Option EF → Env → M (Option Int)
  | none, _ => pure none
  | some f, ρ => do
    match ← f ρ with
    | .int i => pure (some i)
    | _ => fail
def sliceD (own : Bool) (lo hi : Option Int) : D → M D
  | .tuple xs => do
    chk (!own || immAll xs)
    pure (.tuple (cutD xs lo hi))
  | .list xs => do
    chk (!own || immAll xs)
    pure (.list (cutD xs lo hi))
  | _ => fail
def eSlice (own : Bool) (f : EF) (lo hi : Option EF) : EF := fun ρ => do
  let x ← f ρ
  let a ← partD lo ρ
  let b ← partD hi ρ
  sliceD own a b x
/-- x[::-1] -/
def revD (own : Bool) : D → M D
  | .tuple xs => do
    chk (!own || immAll xs)
    pure (.tuple xs.reverse)
  | .list xs => do
    chk (!own || immAll xs)
    pure (.list xs.reverse)
  | _ => fail

/-! ### built-in functions -/
def lenD : D → M D
  | .list xs => pure (.int xs.length)
  | .tuple xs => pure (.int xs.length)
  | _ => fail
def tupleD (own : Bool) (x : D) : M D := match seqOf x with
  | some xs => do
    chk (!own || immAll xs)
    pure (.tuple xs)
  | none => fail
def listD (own : Bool) (x : D) : M D := match seqOf x with
  | some xs => do
    chk (!own || immAll xs)
    pure (.list xs)
  | none => fail
def intsOf : List D → Option (List Int)
  | [] => some []
  | .int i :: r => (intsOf r).map (i :: ·)
  | _ :: _ => none
def boolsOf : List D → Option (List Bool)
  | [] => some []
  | .bool i :: r => (boolsOf r).map (i :: ·)
  | _ :: _ => none
def sumD (x : D) : M D := match (seqOf x).bind intsOf with
  | some ns => pure (.int ns.sum)
  | none => fail
def allD : D → M D
  | .list xs => match boolsOf xs with
    | some bs => pure (.bool (bs.all id))
    | none => fail
  | _ => fail
def anyD : D → M D
  | .list xs => match boolsOf xs with
    | some bs => pure (.bool (bs.any id))
    | none => fail
  | _ => fail
def isTupCons : D → Bool
  | .tuple (_ :: _) => true
  | _ => false
def isTup : D → Bool
  | .tuple _ => true
  | _ => false
/-- they can be put in order: all places alike -/
def sortable (xs : List D) : Bool := (xs.all fun a => xs.all fun b => W.alike a b) && (xs.all isTupCons || xs.all fun a => !isNoneD a && !isTup a) && xs.all fun a => decide (a.depth ≤ 64)
def leD (a b : D) : Bool := !W.dataLt b a
def sortedD (x : D) : M D := match seqOf x with
  | some xs => do
    chk (sortable xs && immAll xs)
    pure (.list (xs.mergeSort leD))
  | none => fail
def reprD (x : D) : M D := do
  chk (x.showable && fit x.shown.length && !x.hasDict && decide (x.depth ≤ 64))
  pure (.str x.shown)
/-- one element at least, all can be compared -/
def alikes (xs : List D) : Bool := (xs.all fun a => xs.all fun b => W.alike a b) && (xs.all fun a => !isNoneD a) && decide (PyData.depthAll xs ≤ 64) && immAll xs
def minF (x : D) (xs : List D) : D := xs.foldl (fun a y => if W.dataLt y a then y else a) x
def maxF (x : D) (xs : List D) : D := xs.foldl (fun a y => if W.dataLt a y then y else a) x
def bestD (F : D → List D → D) (x : D) : M D := match seqOf x with
  | some (d :: ds) => do
    chk (alikes (d :: ds))
    pure (F d ds)
  | _ => fail
/-- range(lo, hi) -/
def rngD (lo hi : Int) : List D := (List.range (hi - lo).toNat).map fun i => .int (lo + (i : Nat))
def rng62 (i : Int) : Bool := decide (i.natAbs < 2 ^ 62)

/-! ### dicts: the pairs in order; ahead of them (None, None) where the keys are tuples -/
abbrev Kt := Sum Int Str
def dictSplit : D → Option (Bool × List (D × D))
  | .dict ((.none, .none) :: r) => some (true, r)
  | .dict kvs => some (false, kvs)
  | _ => none
def keyK : D → Option Kt
  | .int i => some (.inl i)
  | .str x => some (.inr x)
  | _ => none
def keysI : List D → Option (List Int)
  | [] => some []
  | .int i :: xs => (keysI xs).map (i :: ·)
  | _ => none
def keyT : D → Option (List Int)
  | .tuple xs => keysI xs
  | _ => none
def okKey (t : Bool) (k : D) : Bool := if t = true then (keyT k).isSome else (keyK k).isSome
def sameKey (t : Bool) (k x : D) : Bool := if t = true then decide (keyT x = keyT k) else decide (keyK x = keyK k)
def lookD (t : Bool) (kvs : List (D × D)) (k : D) : Option D := (kvs.find? fun p => sameKey t k p.1).map (·.2)
def storeD (t : Bool) (kvs : List (D × D)) (k v : D) : List (D × D) := if (kvs.any fun p => sameKey t k p.1) = true then kvs.map (fun p => if sameKey t k p.1 = true then (p.1, v) else p) else kvs ++ [(k, v)]
def packD (t : Bool) (kvs : List (D × D)) : D := .dict (if t = true then (.none, .none) :: kvs else kvs)
/-- d[k] -/
def dgetD (x k : D) : M D := match dictSplit x with
  | some (t, kvs) => do
    chk (okKey t k)
    match lookD t kvs k with
    | some v => pure v
    | none => fail
  | none => fail
/-- d.get(k, z) -/
def dget2D (x k z : D) : M D := match dictSplit x with
  | some (t, kvs) => do
    chk (okKey t k)
    pure ((lookD t kvs k).getD z)
  | none => fail
def dinD (neg : Bool) (k x : D) : M D := match dictSplit x with
  | some (t, kvs) => do
    chk (okKey t k)
    pure (.bool (if neg = true then !(lookD t kvs k).isSome else (lookD t kvs k).isSome))
  | none => fail
def itemsD (kvs : List (D × D)) : List D := kvs.map fun p => .tuple [p.1, p.2]
/-- sorted(d.items()), sorted(d) -/
def sortItemsD (x : D) : M D := match dictSplit x with
  | some (_, kvs) => sortedD (.list (itemsD kvs))
  | none => fail
def sortKeysD (x : D) : M D := match dictSplit x with
  | some (_, kvs) => sortedD (.list (kvs.map (·.1)))
  | none => fail
/-- isinstance(x, T) -/
inductive PyT where
  | int | bool | str | tuple | list | dict
def PyT.name : PyT → String
  | .int => "int"
  | .bool => "bool"
  | .str => "str"
  | .tuple => "tuple"
  | .list => "list"
  | .dict => "dict"
def isiD (T : PyT) : D → M D
  | .none => pure (.bool false)
  | .bool _ => pure (.bool (match T with | .bool | .int => true | _ => false))
  | .int _ => pure (.bool (match T with | .int => true | _ => false))
  | .str _ => pure (.bool (match T with | .str => true | _ => false))
  | .tuple _ => pure (.bool (match T with | .tuple => true | _ => false))
  | .list _ => pure (.bool (match T with | .list => true | _ => false))
  | .dict kvs => match dictSplit (.dict kvs) with
    | some (false, _) => pure (.bool (match T with | .dict => true | _ => false))
    | _ => fail
/-- xs.index(x) -/
def findD (x : D) : List D → Option Nat
  | [] => none
  | y :: ys => if PyData.eqv y x = true then some 0 else (findD x ys).map (· + 1)
def indexD (xs x : D) : M D := match seqOf xs with
  | some ys => do
    chk (SeqAt.shaped xs && SeqAt.shaped x)
    match findD x ys with
    | some j => pure (.int j)
    | none => fail
  | none => fail
/-- x[k] = e -/
def sDPut (x : Nat) (fk fe : Env → M D) : Env → M Out := fun ρ => do
  let v ← fe ρ
  let k ← fk ρ
  match ρ[x]? with
  | some (some d) => match dictSplit d with
    | some (t, kvs) => do
      chk (okKey t k && decide (kvs.length < sizeLine))
      pure (.nx (ρ.set x (some (packD t (storeD t kvs k v)))))
    | none => fail
  | _ => fail

/-! ### what a loop walks -/
def wSeq (f : EF) : LF := fun ρ => do
  match seqOf (← f ρ) with
  | some xs => pure xs
  | none => fail
def wRange1 (f : EF) : LF := fun ρ => do
  match ← f ρ with
  | .int n => do
    chk (rng62 n)
    pure (rngD 0 n)
  | _ => fail
def wRange2 (f g : EF) : LF := fun ρ => do
  let x ← f ρ
  let y ← g ρ
  match x, y with
  | .int a, .int b => do
    chk (rng62 a && rng62 b)
    pure (rngD a b)
  | _, _ => fail
def enumD (k : Int) : List D → List D
  | [] => []
  | x :: xs => .tuple [.int k, x] :: enumD (k + 1) xs
def wEnum (f : EF) : LF := fun ρ => do
  match seqOf (← f ρ) with
  | some xs => pure (enumD 0 xs)
  | none => fail
def zipD : List D → List D → List D
  | x :: xs, y :: ys => .tuple [x, y] :: zipD xs ys
  | _, _ => []
def wZip (f g : EF) : LF := fun ρ => do
  let x ← f ρ
  let y ← g ρ
  match seqOf x, seqOf y with
  | some xs, some ys => pure (zipD xs ys)
  | _, _ => fail
/-- list(range(..)), tuple(range(..)) -/
def eListOf (w : LF) : EF := fun ρ => do
  let xs ← w ρ
  chk (fit xs.length)
  pure (.list xs)
def eTupOf (w : LF) : EF := fun ρ => do
  let xs ← w ρ
  chk (fit xs.length)
  pure (.tuple xs)

/-! ### targets -/
abbrev GF := D → Env → M Env
def gName (i : Nat) : GF := fun d ρ => pure (ρ.set i (some d))
def gAll : List GF → List D → Env → M Env
  | [], [], ρ => pure ρ
  | g :: gs, d :: ds, ρ => do gAll gs ds (← g d ρ)
  | _, _, _ => fail
def gTup (gs : List GF) : GF := fun d ρ => match d with
  | .tuple xs => gAll gs xs ρ
  | _ => fail

/-! ### comprehensions -/
def compD (g : GF) (t : TF) (e : EF) (ρ : Env) : List D → M (List D)
  | [] => pure []
  | x :: xs => do
    let ρ' ← g x ρ
    if (← t ρ') = true then do
      let y ← e ρ'
      let ys ← compD g t e ρ xs
      pure (y :: ys)
    else compD g t e ρ xs
def tYes : TF := fun _ => pure true
/-- forget slots -/
def kill (ks : List Nat) (ρ : Env) : Env := ks.foldl (fun ρ k => ρ.set k none) ρ
def eComp (vs : List Nat) (w : LF) (g : GF) (t : TF) (e : EF) : EF := fun ρ => do
  let xs ← w ρ
  let ys ← compD g t e (kill vs ρ) xs
  chk (fit ys.length)
  pure (.list ys)
/-- two fors -/
def compD2 (vs1 : List Nat) (g : GF) (t : TF) (w : LF) (g1 : GF) (t1 : TF) (e : EF) (ρ : Env) : List D → M (List D)
  | [] => pure []
  | x :: xs => do
    let ρ' ← g x ρ
    if (← t ρ') = true then do
      let zs ← w ρ'
      let ys ← compD g1 t1 e (kill vs1 ρ') zs
      let r ← compD2 vs1 g t w g1 t1 e ρ xs
      pure (ys ++ r)
    else compD2 vs1 g t w g1 t1 e ρ xs
def eComp2 (vs vs1 : List Nat) (w : LF) (g : GF) (t : TF) (w1 : LF) (g1 : GF) (t1 : TF) (e : EF) : EF := fun ρ => do
  let xs ← w ρ
  let ys ← compD2 vs1 g t w1 g1 t1 e (kill vs ρ) xs
  chk (fit ys.length)
  pure (.list ys)

/-! ### statements -/
abbrev SF := Env → M Out
def sNext : SF := fun ρ => pure (.nx ρ)
def sSeq (s t : SF) : SF := fun ρ => do
  match ← s ρ with
  | .nx ρ' => t ρ'
  | o => pure o
def sExpr (f : EF) : SF := fun ρ => do
  let _ ← f ρ
  pure (.nx ρ)
def sRet (f : EF) : SF := fun ρ => do pure (.rt (← f ρ))
def sBreak : SF := fun ρ => pure (.bk ρ)
def sCont : SF := fun ρ => pure (.ct ρ)
def sIf (c : TF) (s t : SF) : SF := fun ρ => do if (← c ρ) = true then s ρ else t ρ
def sFail : SF := fun _ => fail
def sAsg (f : EF) (g : GF) : SF := fun ρ => do
  let d ← f ρ
  pure (.nx (← g d ρ))
def setAll {α : Type} : List Nat → List α → List (Option α) → List (Option α)
  | i :: is, d :: ds, ρ => setAll is ds (ρ.set i (some d))
  | _, _, ρ => ρ
/-- a, b = x, y -/
def sPar (is : List Nat) (f : LF) : SF := fun ρ => do
  let ds ← f ρ
  chk (ds.length == is.length)
  pure (.nx (setAll is ds ρ))
def killO (ks : List Nat) : Out → Out
  | .nx ρ => .nx (kill ks ρ)
  | .rt d => .rt d
  | .bk ρ => .bk (kill ks ρ)
  | .ct ρ => .ct (kill ks ρ)
def sKill (ks : List Nat) (s : SF) : SF := fun ρ => do pure (killO ks (← s ρ))
def forD (body : D → SF) : List D → SF
  | [], ρ => pure (.nx ρ)
  | x :: xs, ρ => do
    match ← body x ρ with
    | .nx ρ' => forD body xs ρ'
    | .ct ρ' => forD body xs ρ'
    | .bk ρ' => pure (.nx ρ')
    | .rt d => pure (.rt d)
def turnD (g : GF) (b : SF) : D → SF := fun x ρ => do b (← g x ρ)
def sFor (w : LF) (g : GF) (b : SF) : SF := fun ρ => do
  let xs ← w ρ
  forD (turnD g b) xs ρ
def whileD (c : TF) (b : SF) : Nat → SF
  | 0, _ => fail
  | n + 1, ρ => do
    if (← c ρ) = true then do
      match ← b ρ with
      | .nx ρ' => whileD c b n ρ'
      | .ct ρ' => whileD c b n ρ'
      | .bk ρ' => pure (.nx ρ')
      | .rt d => pure (.rt d)
    else pure (.nx ρ)
def sWhile (N : Nat) (c : TF) (b : SF) : SF := fun ρ => whileD c b N ρ

/-! stores into lists that a name holds -/
def putAt (xs : List D) (i : Int) (v : D) : Option (List D) := (ixD xs.length i).map fun j => xs.set j v
/-- x[i] = e (e first) -/
def sSetIx (x : Nat) (fi fe : EF) : SF := fun ρ => do
  let v ← fe ρ
  let i ← fi ρ
  match ρ[x]?, i with
  | some (some (.list xs)), .int k => match putAt xs k v with
    | some xs' => pure (.nx (ρ.set x (some (.list xs'))))
    | none => fail
  | _, _ => fail
/-- x[i][j] = e -/
def sSetIx2 (x : Nat) (fi fj fe : EF) : SF := fun ρ => do
  let v ← fe ρ
  let i ← fi ρ
  let j ← fj ρ
  match ρ[x]?, i, j with
  | some (some (.list xs)), .int k, .int l => match (ixD xs.length k).bind fun p => xs[p]? with
    | some (.list ys) => match putAt ys l v with
      | some ys' => match putAt xs k (.list ys') with
        | some xs' => pure (.nx (ρ.set x (some (.list xs'))))
        | none => fail
      | none => fail
    | _ => fail
  | _, _, _ => fail
/-- x.append(e) -/
def sAppend (x : Nat) (fe : EF) : SF := fun ρ => do
  let v ← fe ρ
  match ρ[x]? with
  | some (some (.list xs)) => do
    chk (decide (xs.length < sizeLine))
    pure (.nx (ρ.set x (some (.list (xs ++ [v])))))
  | _ => fail
/-- x.extend(e), e a list -/
def sExtend (x : Nat) (fe : EF) : SF := fun ρ => do
  let v ← fe ρ
  match ρ[x]?, v with
  | some (some (.list xs)), .list ys => do
    chk (fit (xs.length + ys.length) && immAll ys)
    pure (.nx (ρ.set x (some (.list (xs ++ ys)))))
  | _, _ => fail

/-- a def: its parameters, its slots, its body; None behind its end -/
def endD : Out → M D
  | .nx _ => pure .none
  | .rt d => pure d
  | _ => fail
def runDef (n m : Nat) (b : SF) (ds : List D) : M D := do
  chk (ds.length == n)
  endD (← b (ds.map some ++ List.replicate (m - n) none))
/-- .. whose first parameter is the draws' source -/
def runDefS (n m : Nat) (b : SF) (ds : List D) : M D := do
  chk (ds.length == n)
  endD (← b (none :: ds.map some ++ List.replicate (m - 1 - n) none))
/-- the source at the start -/
def openS (ns : List Int) : Src := ⟨ns.map fun i => if i < 0 then -i else i, 1, ns.foldl (fun s c => Int.fmod (s * 69069 + c * 31 + 5) 2147483629) 11, 0⟩
/-- the law: its first statement makes the source -/
def runLaw (m : Nat) (b : SF) (ns : List Int) : Option D := (b (List.replicate m none) (openS ns)).bind fun p => (endD p.1 p.2).map (·.1)
/-! ### the draws' source -/
inductive SK where
  | left | mixed | turn
def SK.get (k : SK) (S : Src) : Int := match k with
  | .left => S.left
  | .mixed => S.mixed
  | .turn => S.turn
def SK.set (k : SK) (i : Int) (S : Src) : Src := match k with
  | .left => { S with left := i }
  | .mixed => { S with mixed := i }
  | .turn => { S with turn := i }
def eSrc (k : SK) : EF := fun _ S => some (.int (k.get S), S)
def sSrc (k : SK) (f : EF) : SF := fun ρ => do
  match ← f ρ with
  | .int i => fun S => some (.nx ρ, k.set i S)
  | _ => fail
/-- len(source['cells']) -/
def eSrcLen : EF := fun _ S => some (.int S.cells.length, S)
/-- source['left'] = source['cells'].pop() -/
def sSrcPop : SF := fun ρ S => match S.cells with
  | c :: cs => some (.nx ρ, { S with left := c, cells := cs })
  | [] => none
def drain : Int → List Int → Int × List Int
  | l, [] => (l, [])
  | l, c :: cs => if l < 2 then drain c cs else (l, c :: cs)
def Src.drained (S : Src) : Src := { S with left := (drain S.left S.cells).1, cells := (drain S.left S.cells).2 }
/-- cells = source['cells'], at i; while source['left'] < 2 and len(cells) > 0: source['left'] = cells.pop() -/
def sDrain (i : Nat) : SF := fun ρ S => if i < ρ.length then some (.nx (ρ.set i none), S.drained) else none
/-- [others.pop(pick(source, len(others))) for lap in range(len(others))] -/
def mixD (pick : List D → M D) : Nat → List D → M (List D)
  | 0, _ => pure []
  | n + 1, xs => do
    match ← pick [.int xs.length] with
    | .int j => match ixD xs.length j with
      | some p => do
        let ys ← mixD pick n (xs.eraseIdx p)
        pure (xs.getD p .none :: ys)
      | none => fail
    | _ => fail
def eMix (i : Nat) (pick : List D → M D) : EF := fun ρ => do
  match ρ[i]? with
  | some (some (.list xs)) => do
    chk (immAll xs && decide (xs.length ≤ 16777216))
    let ys ← mixD pick xs.length xs
    pure (.list ys)
  | _ => fail
end DL

/-! DS1: data as they lie in the abstract heap; the relation of slots and names; judgements. -/
namespace DL
open PySem PySem.Spec PyProof.Rows L2

abbrev St := L2.St
def kD : Key → D
  | .inl i => .int i
  | .inr x => .str x
/-- a tuple at a -/
def TupAt (K : PySem.W.Frag) (H : Hp) (a : Addr) (xs : List V) : Prop := ∃ o : Obj, H a = some (.frz o (.tup xs)) ∧ o.cls = .type "tuple" ∧ o.dict = none
theorem TupAt.sq {K : PySem.W.Frag} {H : Hp} {a : Addr} {xs : List V} (h : TupAt K H a xs) : SqT K H a xs := let ⟨o, h, _⟩ := h; .inl (.inr ⟨o, h⟩)
/-- the mark ahead of the pairs of a dict whose keys are tuples -/
abbrev tMark : D × D := (.none, .none)
/-- an entry of a dict whose keys are tuples of numbers -/
def entT (x : List Int × Addr × Value) : DictEntry := ⟨reduceHash (Builtin.Tuple.tupleHashOf (x.1.map hashInt)), .ref x.2.1, x.2.2⟩
/-- a dict at a that is known in full; its keys are tuples of numbers -/
def TD (K : PySem.W.Frag) (H : Hp) (a : Addr) (kvs : List (List Int × V)) : Prop := ∃ (ob : Obj) (xs : List (List Int × Addr × Value)) (es : Array DictEntry) (ep : Nat),
  Rd H a (.ext fun h => h.get? a = some ob) ∧ ob.ExactDict ∧ ob.data = .dict es ep ∧ es.toList = xs.map entT ∧ (a == sysModules) = false ∧ kvs.length ≤ sizeLine ∧
  Paired (fun (p : List Int × V) (q : List Int × Addr × Value) => p.1 = q.1 ∧ TupAt K H q.2.1 (p.1.map .int) ∧ RelV p.2 q.2.2) kvs xs
mutual
inductive Den (K : PySem.W.Frag) (H : Hp) : V → D → List Addr → Prop
  | non : Den K H .non .none []
  | bl (b : Bool) : Den K H (.bl b) (.bool b) []
  | int (i : Int) : Den K H (.int i) (.int i) []
  | str (x : Str) : Den K H (.str x) (.str x) []
  | lst {a : Addr} {xs : List V} {ds : List D} {F : List Addr} : H a = some (.lst xs) → DenL K H xs ds F → Den K H (.ref a) (.list ds) (a :: F)
  | tup {a : Addr} {xs : List V} {ds : List D} {F : List Addr} : TupAt K H a xs → DenL K H xs ds F → Den K H (.ref a) (.tuple ds) F
  | dctK {a : Addr} {kvs : List (Key × V)} {ds : List (D × D)} {F : List Addr} : Rd H a (.dK kvs) ∧ (kvs.map (·.1)).Nodup → ds.map (·.1) = kvs.map (fun p => kD p.1) → DenL K H (kvs.map (·.2)) (ds.map (·.2)) F → Den K H (.ref a) (.dict ds) (a :: F)
  | dctT {a : Addr} {kvs : List (List Int × V)} {ds : List (D × D)} {F : List Addr} : TD K H a kvs ∧ (kvs.map (·.1)).Nodup → ds.map (·.1) = kvs.map (fun p => .tuple (p.1.map .int)) → DenL K H (kvs.map (·.2)) (ds.map (·.2)) F → Den K H (.ref a) (.dict (tMark :: ds)) (a :: F)
inductive DenL (K : PySem.W.Frag) (H : Hp) : List V → List D → List Addr → Prop
  | nil : DenL K H [] [] []
  | cons {v : V} {vs : List V} {d : D} {ds : List D} {F G : List Addr} : Den K H v d F → DenL K H vs ds G → DenL K H (v :: vs) (d :: ds) (F ++ G)
end

/-- what stood stands, but for R; tuples stand -/
structure Ext (R : List Addr) (H H' : Hp) : Prop where
  keep : ∀ a o, H a = some o → a ∉ R → H' a = some o
  tup : ∀ a o u, H a = some (.frz o u) → H' a = some (.frz o u)
  dom : ∀ a, H a ≠ none → H' a ≠ none
  fz : ∀ a o u, H' a = some (.frz o u) → (∃ xs, u = .tup xs) ∨ H a = some (.frz o u)
theorem upd_dom {H : Hp} {p a : Addr} {o : HO} (h : H a ≠ none) : upd H p o a ≠ none := by
  by_cases e : a = p
  · subst e
    rw [upd_same]
    exact fun z => nomatch z
  · rw [upd_ne e]
    exact h
theorem Ext.refl {R : List Addr} {H : Hp} : Ext R H H := ⟨fun _ _ h _ => h, fun _ _ _ h => h, fun _ h => h, fun _ _ _ h => .inr h⟩
theorem Ext.trans {R : List Addr} {H H1 H2 : Hp} (a : Ext R H H1) (b : Ext R H1 H2) : Ext R H H2 := ⟨fun x o h n => b.keep x o (a.keep x o h n) n, fun x o u h => b.tup x o u (a.tup x o u h), fun x h => b.dom x (a.dom x h), fun x o u h => (b.fz x o u h).elim .inl (a.fz x o u)⟩
/-- no thing that is locked, but for tuples -/
def NoLk (o : HO) : Prop := ∀ z u, o = .frz z u → ∃ xs, u = .tup xs
theorem upd_fz {H : Hp} {p : Addr} {o : HO} (nf : NoLk o) : ∀ a z u, upd H p o a = some (.frz z u) → (∃ xs, u = .tup xs) ∨ H a = some (.frz z u) := by
  intro a z u h
  by_cases e : a = p
  · subst e
    rw [upd_same] at h
    exact .inl (nf z u (Option.some.inj h))
  · rw [upd_ne e] at h
    exact .inr h
theorem Ext.new {R : List Addr} {H : Hp} {p : Addr} {o : HO} (h : H p = none) (nf : NoLk o := by intro _ _ z; cases z; first | exact ⟨_, rfl⟩ | done) : Ext R H (upd H p o) :=
  ⟨fun a u e _ => by rw [upd_ne (ne_of_none e h)]; exact e, fun a _ u e => by rw [upd_ne (ne_of_none e h)]; exact e, fun _ => upd_dom, upd_fz nf⟩
/-- a store at an address within R that holds nothing locked -/
theorem Ext.poke {R : List Addr} {H : Hp} {p : Addr} {o : HO} (hp : p ∈ R) (ht : ∀ z u, H p ≠ some (.frz z u)) (nf : NoLk o := by intro _ _ z; cases z; first | exact ⟨_, rfl⟩ | done) : Ext R H (upd H p o) :=
  ⟨fun a u e n => by
    have hne : a ≠ p := fun z => n (z ▸ hp)
    rw [upd_ne hne]
    exact e, fun a y u e => by
    have hne : a ≠ p := fun z => ht y u (z ▸ e)
    rw [upd_ne hne]
    exact e, fun _ => upd_dom, upd_fz nf⟩
theorem Ext.mono {R R' : List Addr} {H H' : Hp} (h : Ext R H H') (s : ∀ a ∈ R, a ∈ R') : Ext R' H H' := ⟨fun a o e n => h.keep a o e fun z => n (s a z), h.tup, h.dom, h.fz⟩
theorem Ext.nn {R : List Addr} {H H' : Hp} (h : Ext R H H') {a : Addr} (e : H' a = Option.none) (n : a ∉ R) : H a = Option.none := by
  cases q : H a with
  | none => rfl
  | some o =>
    have z := h.keep a o q n
    rw [e] at z
    cases z

section
variable {K : PySem.W.Frag} {H H' : Hp}
theorem TupAt.ext {R : List Addr} {a : Addr} {xs : List V} (h : TupAt K H a xs) (e : Ext R H H') : TupAt K H' a xs := let ⟨o, h, r⟩ := h; ⟨o, e.tup _ _ _ h, r⟩
theorem Rd.ext {R : List Addr} {a : Addr} {o : HO} (h : Rd H a o) (e : Ext R H H') (n : a ∉ R) : Rd H' a o := by
  rcases h with h | ⟨z, h⟩
  · exact .inl (e.keep _ _ h n)
  · exact .inr ⟨z, e.keep _ _ h n⟩
theorem Rd.wr {p a : Addr} {o u : HO} (h : Rd H a u) (n : a ≠ p) : Rd (upd H p o) a u := by
  rcases h with h | ⟨z, h⟩
  · exact .inl (by rw [upd_ne n]; exact h)
  · exact .inr ⟨z, by rw [upd_ne n]; exact h⟩
theorem Rd.dom {a : Addr} {u : HO} (h : Rd H a u) : H a ≠ none := by
  rcases h with h | ⟨z, h⟩ <;> rw [h] <;> exact fun q => nomatch q
theorem TD.keeps {a : Addr} {kvs : List (List Int × V)} (h : TD K H a kvs) (k : ∀ o, Rd H a o → Rd H' a o) (t : ∀ b xs, TupAt K H b xs → TupAt K H' b xs) : TD K H' a kvs := by
  obtain ⟨ob, xs, es, ep, h1, h2, h3, h4, h5, h6, h7⟩ := h
  exact ⟨ob, xs, es, ep, k _ h1, h2, h3, h4, h5, h6, Paired.mapP h7 fun p q z => ⟨z.1, t _ _ z.2.1, z.2.2⟩⟩
theorem TD.ext {R : List Addr} {a : Addr} {kvs : List (List Int × V)} (h : TD K H a kvs) (e : Ext R H H') (n : a ∉ R) : TD K H' a kvs := h.keeps (fun _ r => Rd.ext r e n) fun _ _ q => q.ext e
theorem TD.wr {p a : Addr} {o : HO} {kvs : List (List Int × V)} (hp : ∀ z u, H p ≠ some (.frz z u)) (h : TD K H a kvs) (n : a ≠ p) : TD K (upd H p o) a kvs :=
  h.keeps (fun _ r => Rd.wr r n) fun _ _ q => let ⟨o', h, r⟩ := q; ⟨o', by rw [upd_ne fun z => hp _ _ (z ▸ h)]; exact h, r⟩
theorem TD.dom {a : Addr} {kvs : List (List Int × V)} (h : TD K H a kvs) : H a ≠ none := let ⟨_, _, _, _, h1, _⟩ := h; Rd.dom h1
mutual
theorem Den.ext {R : List Addr} (e : Ext R H H') : ∀ {v : V} {d : D} {F : List Addr}, Den K H v d F → (∀ a ∈ F, a ∉ R) → Den K H' v d F
  | _, _, _, .non, _ => .non
  | _, _, _, .bl b, _ => .bl b
  | _, _, _, .int i, _ => .int i
  | _, _, _, .str x, _ => .str x
  | _, _, _, .lst h l, n => .lst (e.keep _ _ h (n _ List.mem_cons_self)) (DenL.ext e l fun a z => n a (List.mem_cons_of_mem _ z))
  | _, _, _, .tup h l, n => .tup (h.ext e) (DenL.ext e l n)
  | _, _, _, .dctK h k l, n => .dctK ⟨Rd.ext h.1 e (n _ List.mem_cons_self), h.2⟩ k (DenL.ext e l fun a z => n a (List.mem_cons_of_mem _ z))
  | _, _, _, .dctT h k l, n => .dctT ⟨h.1.ext e (n _ List.mem_cons_self), h.2⟩ k (DenL.ext e l fun a z => n a (List.mem_cons_of_mem _ z))
theorem DenL.ext {R : List Addr} (e : Ext R H H') : ∀ {v : List V} {d : List D} {F : List Addr}, DenL K H v d F → (∀ a ∈ F, a ∉ R) → DenL K H' v d F
  | _, _, _, .nil, _ => .nil
  | _, _, _, .cons h l, n => .cons (Den.ext e h fun a z => n a (List.mem_append_left _ z)) (DenL.ext e l fun a z => n a (List.mem_append_right _ z))
end
-- a store at an address that is not within
mutual
theorem Den.wr {p : Addr} {o : HO} (hp : ∀ z u, H p ≠ some (.frz z u)) : ∀ {v : V} {d : D} {F : List Addr}, Den K H v d F → p ∉ F → Den K (upd H p o) v d F
  | _, _, _, .non, _ => .non
  | _, _, _, .bl b, _ => .bl b
  | _, _, _, .int i, _ => .int i
  | _, _, _, .str x, _ => .str x
  | _, _, _, .lst h l, n => .lst (by rw [upd_ne fun z => n (by rw [z]; exact List.mem_cons_self)]; exact h) (DenL.wr hp l fun z => n (List.mem_cons_of_mem _ z))
  | _, _, _, .tup h l, n => .tup (let ⟨o', h, r⟩ := h; ⟨o', by rw [upd_ne fun z => hp _ _ (z ▸ h)]; exact h, r⟩) (DenL.wr hp l n)
  | _, _, _, .dctK h k l, n => .dctK ⟨Rd.wr h.1 fun z => n (by rw [z]; exact List.mem_cons_self), h.2⟩ k (DenL.wr hp l fun z => n (List.mem_cons_of_mem _ z))
  | _, _, _, .dctT h k l, n => .dctT ⟨h.1.wr hp fun z => n (by rw [z]; exact List.mem_cons_self), h.2⟩ k (DenL.wr hp l fun z => n (List.mem_cons_of_mem _ z))
theorem DenL.wr {p : Addr} {o : HO} (hp : ∀ z u, H p ≠ some (.frz z u)) : ∀ {v : List V} {d : List D} {F : List Addr}, DenL K H v d F → p ∉ F → DenL K (upd H p o) v d F
  | _, _, _, .nil, _ => .nil
  | _, _, _, .cons h l, n => .cons (Den.wr hp h fun z => n (List.mem_append_left _ z)) (DenL.wr hp l fun z => n (List.mem_append_right _ z))
end
mutual
/-- what is within stands in the heap -/
theorem Den.dom : ∀ {v : V} {d : D} {F : List Addr}, Den K H v d F → ∀ a ∈ F, H a ≠ none
  | _, _, _, .non, _, z => nomatch z
  | _, _, _, .bl b, _, z => nomatch z
  | _, _, _, .int i, _, z => nomatch z
  | _, _, _, .str x, _, z => nomatch z
  | _, _, _, .lst h l, a, z => by
    rcases List.mem_cons.mp z with rfl | z
    · rw [h]; exact fun q => nomatch q
    · exact DenL.dom l a z
  | _, _, _, .tup h l, a, z => DenL.dom l a z
  | _, _, _, .dctK h k l, a, z => by
    rcases List.mem_cons.mp z with rfl | z
    · exact Rd.dom h.1
    · exact DenL.dom l a z
  | _, _, _, .dctT h k l, a, z => by
    rcases List.mem_cons.mp z with rfl | z
    · exact TD.dom h.1
    · exact DenL.dom l a z
theorem DenL.dom : ∀ {v : List V} {d : List D} {F : List Addr}, DenL K H v d F → ∀ a ∈ F, H a ≠ none
  | _, _, _, .nil, _, z => nomatch z
  | _, _, _, .cons h l, a, z => by
    rcases List.mem_append.mp z with z | z
    · exact Den.dom h a z
    · exact DenL.dom l a z
end
mutual
theorem Den.imm : ∀ {v : V} {d : D} {F : List Addr}, Den K H v d F → imm d = true → F = []
  | _, _, _, .non, _ => rfl
  | _, _, _, .bl b, _ => rfl
  | _, _, _, .int i, _ => rfl
  | _, _, _, .str x, _ => rfl
  | _, _, _, .lst h l, z => by simp [DL.imm] at z
  | _, _, _, .tup h l, z => DenL.imm l (by simpa [DL.imm] using z)
  | _, _, _, .dctK h k l, z => by simp [DL.imm] at z
  | _, _, _, .dctT h k l, z => by simp [DL.imm] at z
theorem DenL.imm : ∀ {v : List V} {d : List D} {F : List Addr}, DenL K H v d F → immAll d = true → F = []
  | _, _, _, .nil, _ => rfl
  | _, _, _, .cons (d := d) (ds := ds) h l, z => by
    have z' : DL.imm d = true ∧ immAll ds = true := by simpa [immAll] using z
    rw [Den.imm h z'.1, DenL.imm l z'.2]
    rfl
end
mutual
theorem Den.dpN : ∀ {v : V} {d : D} {F : List Addr}, Den K H v d F → d.hasDict = false → Dp K H v d
  | _, _, _, .non, _ => .non
  | _, _, _, .bl b, _ => .bl b
  | _, _, _, .int i, _ => .int i
  | _, _, _, .str x, _ => .str x
  | _, _, _, .lst h l, z => .lst (.inl (.inl h)) (DenL.dpN l (by simpa [PyData.hasDict] using z))
  | _, _, _, .tup h l, z => .tup h.sq (DenL.dpN l (by simpa [PyData.hasDict] using z))
  | _, _, _, .dctK h k l, z => by simp [PyData.hasDict] at z
  | _, _, _, .dctT h k l, z => by simp [PyData.hasDict] at z
theorem DenL.dpN : ∀ {v : List V} {d : List D} {F : List Addr}, DenL K H v d F → PyData.hasDictAll d = false → DpAll K H v d
  | _, _, _, .nil, _ => .nil
  | _, _, _, .cons (d := d) (ds := ds) h l, z => by
    have z' : d.hasDict = false ∧ PyData.hasDictAll ds = false := by simpa [PyData.hasDictAll] using z
    exact .cons (Den.dpN h z'.1) (DenL.dpN l z'.2)
end
theorem Den.dp {v : V} {d : D} {F : List Addr} (h : Den K H v d F) (z : d.canLay0 = true) : Dp K H v d := h.dpN (PyData.hasDict_of_canLay d z)
mutual
theorem imm_noDict : ∀ d : D, imm d = true → d.hasDict = false
  | .none, _ => by simp [PyData.hasDict]
  | .bool _, _ => by simp [PyData.hasDict]
  | .int _, _ => by simp [PyData.hasDict]
  | .str _, _ => by simp [PyData.hasDict]
  | .tuple xs, h => by
    simp only [PyData.hasDict]
    exact immAll_noDict xs (by simpa [imm] using h)
  | .list _, h => by simp [imm] at h
  | .dict _, h => by simp [imm] at h
theorem immAll_noDict : ∀ ds : List D, immAll ds = true → PyData.hasDictAll ds = false
  | [], _ => by simp [PyData.hasDictAll]
  | d :: ds, h => by
    have h' : imm d = true ∧ immAll ds = true := by simpa [immAll] using h
    simp [PyData.hasDictAll, imm_noDict d h'.1, immAll_noDict ds h'.2]
end
theorem DenL.length : ∀ {v : List V} {d : List D} {F : List Addr}, DenL K H v d F → v.length = d.length
  | _, _, _, .nil => rfl
  | _, _, _, .cons h l => by simp [DenL.length l]
theorem DenL.get : ∀ {v : List V} {d : List D} {F : List Addr} {i : Nat} {x : D}, DenL K H v d F → d[i]? = some x → ∃ y G, v[i]? = some y ∧ Den K H y x G ∧ ∀ a ∈ G, a ∈ F
  | _, _, _, _, _, .nil, e => by simp at e
  | _, _, _, 0, _, .cons h l, e => by
    simp at e
    subst e
    exact ⟨_, _, rfl, h, fun a z => List.mem_append_left _ z⟩
  | _, _, _, i + 1, _, .cons h l, e => by
    obtain ⟨y, G, e1, e2, e3⟩ := DenL.get (i := i) l (by simpa using e)
    exact ⟨y, G, by simpa using e1, e2, fun a z => List.mem_append_right _ (e3 a z)⟩
theorem DenL.append : ∀ {v w : List V} {d e : List D} {F G : List Addr}, DenL K H v d F → DenL K H w e G → DenL K H (v ++ w) (d ++ e) (F ++ G)
  | _, _, _, _, _, _, .nil, l => l
  | _, _, _, _, _, _, .cons h l, m => by
    rw [List.append_assoc]
    exact .cons h (DenL.append l m)
theorem DenL.one {v : V} {d : D} {F : List Addr} (h : Den K H v d F) : DenL K H [v] [d] F := by
  have z := DenL.cons h .nil
  rwa [List.append_nil] at z
theorem DenL.inj_imm : ∀ {v : List V} {d : List D} {F : List Addr} {i : Nat} {y : V}, DenL K H v d F → v[i]? = some y → ∃ x G, d[i]? = some x ∧ Den K H y x G ∧ ∀ a ∈ G, a ∈ F
  | _, _, _, _, _, .nil, e => by simp at e
  | _, _, _, 0, _, .cons h l, e => by
    simp at e
    subst e
    exact ⟨_, _, rfl, h, fun a z => List.mem_append_left _ z⟩
  | _, _, _, i + 1, _, .cons h l, e => by
    obtain ⟨y, G, e1, e2, e3⟩ := DenL.inj_imm (i := i) l (by simpa using e)
    exact ⟨y, G, by simpa using e1, e2, fun a z => List.mem_append_right _ (e3 a z)⟩
/-- the place of one item -/
theorem DenL.at : ∀ {v : List V} {d : List D} {F : List Addr} {i : Nat} {x : D}, DenL K H v d F → d[i]? = some x → ∃ y G A B, v[i]? = some y ∧ Den K H y x G ∧ F = A ++ G ++ B ∧
    ∀ (H' : Hp) (y' : V) (x' : D) (G' : List Addr), (∀ w e E, Den K H w e E → (∀ a ∈ E, a ∈ A ∨ a ∈ B) → Den K H' w e E) → Den K H' y' x' G' → DenL K H' (v.set i y') (d.set i x') (A ++ G' ++ B)
  | _, _, _, _, _, .nil, e => by simp at e
  | _, _, _, 0, _, .cons (F := F) (G := G) h l, e => by
    simp at e
    subst e
    refine ⟨_, F, [], G, rfl, h, by simp, fun H' y' x' G' st q => ?_⟩
    simp only [List.set_cons_zero, List.nil_append]
    refine .cons q ?_
    have all : ∀ {v : List V} {d : List D} {E : List Addr}, DenL K H v d E → (∀ a ∈ E, a ∈ G) → DenL K H' v d E := by
      intro v d E
      intro m
      induction m using DenL.rec (motive_1 := fun _ _ _ _ => True) with
      | non => trivial
      | bl => trivial
      | int => trivial
      | str => trivial
      | lst => trivial
      | tup => trivial
      | dctK => trivial
      | dctT => trivial
      | nil => exact fun _ => .nil
      | cons hh ll _ ih => exact fun hs => .cons (st _ _ _ hh fun a z => .inr (hs a (List.mem_append_left _ z))) (ih fun a z => hs a (List.mem_append_right _ z))
    exact all l fun a z => z
  | _, _, _, i + 1, _, .cons (F := F) (G := G) h l, e => by
    obtain ⟨y, G1, A, B, e1, e2, e3, e4⟩ := DenL.at (i := i) l (by simpa using e)
    refine ⟨y, G1, F ++ A, B, by simpa using e1, e2, by rw [e3]; simp [List.append_assoc], fun H' y' x' G' st q => ?_⟩
    simp only [List.set_cons_succ]
    rw [show F ++ A ++ G' ++ B = F ++ (A ++ G' ++ B) by simp [List.append_assoc]]
    exact .cons (st _ _ _ h fun a z => .inl (List.mem_append_left _ z)) (e4 H' y' x' G' (fun w e E hh hs => st w e E hh fun a z => (hs a z).elim (fun q => .inl (List.mem_append_right _ q)) .inr) q)
end
end DL

/-! DS2: the state's relation; judgements of expressions; the first rules. -/
namespace DL
open PySem PySem.Spec PyProof.Rows L2

/-- the source as it lies: its dict at p, its cells at q -/
def SrcAt (H : Hp) (p q : Addr) (S : Src) : Prop :=
  H p = some (.dK [(.inr "cells", .ref q), (.inr "left", .int S.left), (.inr "mixed", .int S.mixed), (.inr "turn", .int S.turn)]) ∧ H q = some (.lst ((S.cells.reverse).map V.int))
theorem SrcAt.ext {R : List Addr} {H H' : Hp} {p q : Addr} {S : Src} (h : SrcAt H p q S) (e : Ext R H H') (hp : p ∉ R) (hq : q ∉ R) : SrcAt H' p q S := ⟨e.keep _ _ h.1 hp, e.keep _ _ h.2 hq⟩

/-- what a def's run keeps in mind: the source's place, the heap at its entry, addresses that are not to be met -/
structure Cc where
  src : Option (Addr × Addr)
  H0 : Hp
  P : Addr → Prop
def Cc.R (c : Cc) : List Addr := match c.src with
  | some (p, q) => [p, q]
  | none => []
/-- a value that is held, not by a name -/
structure Tmp where
  v : V
  d : D
  F : List Addr
/-- what is written of a def: the names whose lists it changes, the source's name -/
structure Sg where
  mu : List Nat
  sc : Option Nat
def SrcOk (sc : Option Nat) (c : Cc) (S : Src) (σ : St) (H : Hp) : Prop := match sc, c.src with
  | none, none => True
  | some i, some (p, q) => σ[i]? = some (some (.ref p)) ∧ SrcAt H p q S
  | _, _ => False
structure StOk (K : PySem.W.Frag) (G : Sg) (c : Cc) (T : List Tmp) (fp : Nat → List Addr) (ρ : Env) (S : Src) (σ : St) (H : Hp) : Prop where
  den : ∀ i d, ρ[i]? = some (some d) → ∃ v, σ[i]? = some (some v) ∧ Den K H v d (fp i)
  tmp : ∀ t ∈ T, Den K H t.v t.d t.F
  av : ∀ i d, ρ[i]? = some (some d) → ∀ a ∈ fp i, ¬ c.P a
  tav : ∀ t ∈ T, ∀ a ∈ t.F, ¬ c.P a
  sep : ∀ i j d e, i ∈ G.mu → i ≠ j → ρ[i]? = some (some d) → ρ[j]? = some (some e) → ∀ a ∈ fp i, a ∉ fp j
  tsep : ∀ i d, i ∈ G.mu → ρ[i]? = some (some d) → ∀ t ∈ T, ∀ a ∈ fp i, a ∉ t.F
  nd : ∀ i d, i ∈ G.mu → ρ[i]? = some (some d) → (fp i).Nodup
  new : ∀ i d, i ∈ G.mu → ρ[i]? = some (some d) → ∀ a ∈ fp i, c.H0 a = none
  ext : Ext c.R c.H0 H
  hP : ∀ a ∈ c.R, c.P a
  pd : ∀ a, c.P a → H a ≠ none
  src : SrcOk G.sc c S σ H
  len : ρ.length = σ.length

inductive Md where
  | bor | val | own
/-- what is known of what a value holds: nothing; no changing name has it; it is new -/
def ResOk (G : Sg) (fp : Nat → List Addr) (ρ : Env) (H : Hp) (m : Md) (F : List Addr) : Prop := match m with
  | .bor => True
  | .val => ∀ i d, i ∈ G.mu → ρ[i]? = some (some d) → ∀ a ∈ F, a ∉ fp i
  | .own => F.Nodup ∧ ∀ a ∈ F, H a = none

section
variable {K : PySem.W.Frag} {G : Sg} {c : Cc} {T : List Tmp} {fp : Nat → List Addr} {ρ : Env} {S S' : Src} {σ : St} {H H' : Hp} {m : Md} {F : List Addr}
theorem StOk.notR (h : StOk K G c T fp ρ S σ H) {a : Addr} (n : ¬ c.P a) : a ∉ c.R := fun z => n (h.hP a z)
theorem StOk.step (h : StOk K G c T fp ρ S σ H) (e : Ext c.R H H') (s : SrcOk G.sc c S' σ H') : StOk K G c T fp ρ S' σ H' :=
  ⟨fun i d z => let ⟨v, q1, q2⟩ := h.den i d z; ⟨v, q1, q2.ext e fun a q => h.notR (h.av i d z a q)⟩, fun t z => (h.tmp t z).ext e fun a q => h.notR (h.tav t z a q), h.av, h.tav, h.sep, h.tsep, h.nd, h.new, h.ext.trans e, h.hP, fun a z => e.dom a (h.pd a z), s, h.len⟩
theorem SrcOk.ext (h : SrcOk G.sc c S σ H) (e : Ext [] H H') : SrcOk G.sc c S σ H' := by
  unfold SrcOk at h ⊢
  split at h
  · trivial
  · exact ⟨h.1, h.2.ext e (by simp) (by simp)⟩
  · exact h.elim
theorem StOk.grow (h : StOk K G c T fp ρ S σ H) (e : Ext [] H H') : StOk K G c T fp ρ S σ H' := h.step (e.mono fun _ z => nomatch z) (h.src.ext e)
theorem StOk.new_av (h : StOk K G c T fp ρ S σ H) {p : Addr} (n : H p = none) : ¬ c.P p := fun z => h.pd p z n
theorem ResOk.val (h : StOk K G c T fp ρ S σ H) (r : ResOk G fp ρ H m F) (hm : m ≠ .bor) : ResOk G fp ρ H .val F := by
  cases m with
  | bor => exact absurd rfl hm
  | val => exact r
  | own =>
    intro i d hi hd a ha z
    obtain ⟨v, _, q⟩ := h.den i d hd
    exact q.dom a z (r.2 a ha)
theorem ResOk.imm (e : F = []) : ResOk G fp ρ H m F := by
  subst e
  cases m with
  | bor => trivial
  | val => exact fun _ _ _ _ _ z => nomatch z
  | own => exact ⟨List.nodup_nil, fun _ z => nomatch z⟩
/-- seen from an earlier heap -/
theorem ResOk.back {R : List Addr} {P : Addr → Prop} (r : ResOk G fp ρ H' m F) (e : Ext R H H') (hP : ∀ a ∈ R, P a) (n : ∀ a ∈ F, ¬ P a) : ResOk G fp ρ H m F := by
  cases m with
  | bor => trivial
  | val => exact r
  | own => exact ⟨r.1, fun a z => e.nn (r.2 a z) fun q => n a z (hP a q)⟩
end

/-! ### judgements -/
def tD (K : PySem.W.Frag) (G : Sg) (m : Md) (f : EF) : TE := fun σ H Q => ∃ c T fp ρ S d S', StOk K G c T fp ρ S σ H ∧ f ρ S = some (d, S') ∧
  ∀ v H' F, StOk K G c T fp ρ S' σ H' → Ext c.R H H' → Den K H' v d F → (∀ a ∈ F, ¬ c.P a) → ResOk G fp ρ H m F → Q v H'
def tDT (K : PySem.W.Frag) (G : Sg) (f : TF) : TT := fun σ H Q => ∃ c T fp ρ S d S', StOk K G c T fp ρ S σ H ∧ f ρ S = some (d, S') ∧
  ∀ H', StOk K G c T fp ρ S' σ H' → Ext c.R H H' → Q d H'
def tDA (K : PySem.W.Frag) (G : Sg) (m : Md) (f : LF) : TA := fun σ H Q => ∃ c T fp ρ S d S', StOk K G c T fp ρ S σ H ∧ f ρ S = some (d, S') ∧
  ∀ v H' F, StOk K G c T fp ρ S' σ H' → Ext c.R H H' → DenL K H' v d F → (∀ a ∈ F, ¬ c.P a) → ResOk G fp ρ H m F → Q v H'
abbrev EV (X : Cx) (G : Sg) (m : Md) (e : Expr) (f : EF) : Prop := PE X e (tD X.K G m f)
abbrev TV (X : Cx) (G : Sg) (e : Expr) (f : TF) : Prop := PT X e (tDT X.K G f)
abbrev TW (X : Cx) (G : Sg) (e : Expr) (f : TF) : Prop := PW X e (tDT X.K G f)
abbrev AV (X : Cx) (G : Sg) (m : Md) (es : List Expr) (f : LF) : Prop := PA X es (tDA X.K G m f)

theorem PE.mono {X : Cx} {e : Expr} {t t' : TE} (h : PE X e t) (m : ∀ σ H Q, t' σ H Q → t σ H Q) : PE X e t' := ⟨fun pins s σ H Q I q => h.run pins s σ H Q I (m σ H Q q)⟩
theorem PT.mono {X : Cx} {e : Expr} {t t' : TT} (h : PT X e t) (m : ∀ σ H Q, t' σ H Q → t σ H Q) : PT X e t' := ⟨fun pins s σ H Q I q => h.run pins s σ H Q I (m σ H Q q)⟩
theorem PW.mono {X : Cx} {e : Expr} {t t' : TT} (h : PW X e t) (m : ∀ σ H Q, t' σ H Q → t σ H Q) : PW X e t' := ⟨fun wh pins s σ H Q I q => h.run wh pins s σ H Q I (m σ H Q q)⟩
theorem PA.mono {X : Cx} {e : List Expr} {t t' : TA} (h : PA X e t) (m : ∀ σ H Q, t' σ H Q → t σ H Q) : PA X e t' := ⟨fun pos pins s σ H Q I q => h.run pos pins s σ H Q I (m σ H Q q)⟩

/-! ### the monad -/
theorem M.bind_some {α β : Type} {x : M α} {f : α → M β} {S S' : Src} {b : β} (h : (x >>= f) S = some (b, S')) : ∃ a S1, x S = some (a, S1) ∧ f a S1 = some (b, S') := by
  have h' : (x S).bind (fun p => f p.1 p.2) = some (b, S') := h
  cases e : x S with
  | none => rw [e] at h'; cases h'
  | some p =>
    obtain ⟨a, S1⟩ := p
    rw [e] at h'
    exact ⟨a, S1, rfl, h'⟩
theorem M.pure_some {α : Type} {a b : α} {S S' : Src} (h : (pure a : M α) S = some (b, S')) : a = b ∧ S = S' := by
  have h' : some (a, S) = some (b, S') := h
  cases h'
  exact ⟨rfl, rfl⟩
theorem M.chk_some {b : Bool} {S S' : Src} {u : Unit} (h : chk b S = some (u, S')) : b = true ∧ S = S' := by
  unfold chk at h
  by_cases e : b = true
  · rw [if_pos e] at h
    exact ⟨e, (M.pure_some h).2⟩
  · rw [if_neg e] at h
    cases h
theorem M.fail_some {α : Type} {S S' : Src} {u : α} (h : (fail : M α) S = some (u, S')) : False := by cases h

theorem eVar_some {i : Nat} {ρ : Env} {S S' : Src} {d : D} (h : eVar i ρ S = some (d, S')) : ρ[i]? = some (some d) ∧ S = S' := by
  unfold eVar at h
  cases e : ρ[i]? with
  | none => rw [e] at h; exact (M.fail_some h).elim
  | some o =>
    cases o with
    | none => rw [e] at h; exact (M.fail_some h).elim
    | some d' =>
      rw [e] at h
      obtain ⟨rfl, rfl⟩ := M.pure_some h
      exact ⟨rfl, rfl⟩

section
variable {X : Cx} {G : Sg} {m ma mb : Md} {a b : Expr} {fa fb : EF} {pos : Pos}

/-! ### names, constants -/
theorem ev_var {i : Nat} {x : Str} (hN : X.N[i]? = some x) (hv : Vis X.env.scope x) (hd : (x == ("__debug__" : Str)) = false := by decide) (hcd : (x == ("__classdict__" : Str)) = false := by decide) : EV X G .bor (.Name x pos) (eVar i) := by
  refine PE.mono (pe_var hN hv hd hcd) fun σ H Q h => ?_
  obtain ⟨c, T, fp, ρ, S, d, S', ok, hf, q⟩ := h
  obtain ⟨e, rfl⟩ := eVar_some hf
  obtain ⟨v, e1, e2⟩ := ok.den i d e
  exact ⟨v, e1, q v H (fp i) ok Ext.refl e2 (ok.av i d e) trivial⟩
/-- a name whose list does not change -/
theorem ev_varV {i : Nat} {x : Str} (hN : X.N[i]? = some x) (hv : Vis X.env.scope x) (hi : i ∉ G.mu) (hd : (x == ("__debug__" : Str)) = false := by decide) (hcd : (x == ("__classdict__" : Str)) = false := by decide) : EV X G .val (.Name x pos) (eVar i) := by
  refine PE.mono (pe_var hN hv hd hcd) fun σ H Q h => ?_
  obtain ⟨c, T, fp, ρ, S, d, S', ok, hf, q⟩ := h
  obtain ⟨e, rfl⟩ := eVar_some hf
  obtain ⟨v, e1, e2⟩ := ok.den i d e
  refine ⟨v, e1, q v H (fp i) ok Ext.refl e2 (ok.av i d e) fun j d2 hj hd2 a ha z => ?_⟩
  exact ok.sep j i d2 d hj (fun w => hi (w ▸ hj)) hd2 e a z ha
theorem ev_C {e : Expr} {v : V} {d : D} (h : PE X e (tC v)) (hd : ∀ H, Den X.K H v d []) : EV X G .own e (eC d) := by
  refine PE.mono h fun σ H Q hh => ?_
  obtain ⟨c, T, fp, ρ, S, d', S', ok, hf, q⟩ := hh
  obtain ⟨rfl, rfl⟩ := M.pure_some hf
  exact q v H [] ok Ext.refl (hd H) (fun _ z => nomatch z) (ResOk.imm rfl)
theorem ev_int {i : Int} {j} : EV X G .own (.Constant (.int i) j pos) (eC (.int i)) := ev_C pe_int fun _ => .int i
theorem ev_bool {i : Bool} {j} : EV X G .own (.Constant (.bool i) j pos) (eC (.bool i)) := ev_C pe_bl fun _ => .bl i
theorem ev_none {j} : EV X G .own (.Constant .none j pos) (eC .none) := ev_C pe_non fun _ => .non
theorem ev_str {i : Str} {j} : EV X G .own (.Constant (.str i) j pos) (eC (.str i)) := ev_C pe_str fun _ => .str i
/-- a module's constant -/
theorem ev_glob {x : Str} {u : Value} {v : V} {d : D} (hg : Gl X x) (hm : X.mg x = some u) (r : RelV v u) (hd : ∀ H, Den X.K H v d []) (hdb : (x == ("__debug__" : Str)) = false := by decide) : EV X G .own (.Name x pos) (eC d) := ev_C (pe_glob hg hm r hdb) hd

/-! ### modes -/
theorem EV.weak (h : EV X G .own a fa) : EV X G .val a fa := by
  refine PE.mono h fun σ H Q hh => ?_
  obtain ⟨c, T, fp, ρ, S, d, S', ok, hf, q⟩ := hh
  exact ⟨c, T, fp, ρ, S, d, S', ok, hf, fun v H' F ok' e den av r => q v H' F ok' e den av (r.val ok (by simp))⟩
theorem EV.bor (h : EV X G m a fa) : EV X G .bor a fa := by
  refine PE.mono h fun σ H Q hh => ?_
  obtain ⟨c, T, fp, ρ, S, d, S', ok, hf, q⟩ := hh
  exact ⟨c, T, fp, ρ, S, d, S', ok, hf, fun v H' F ok' e den av r => q v H' F ok' e den av trivial⟩
theorem ev_imm (h : EV X G .bor a fa) : EV X G m a (eImm fa) := by
  refine PE.mono h fun σ H Q hh => ?_
  obtain ⟨c, T, fp, ρ, S, d, S', ok, hf, q⟩ := hh
  obtain ⟨d1, S1, h1, hf⟩ := M.bind_some hf
  obtain ⟨_, S2, h2, hf⟩ := M.bind_some hf
  obtain ⟨hi, rfl⟩ := M.chk_some h2
  obtain ⟨rfl, rfl⟩ := M.pure_some hf
  exact ⟨c, T, fp, ρ, S, d1, _, ok, h1, fun v H' F ok' e den av r => q v H' F ok' e den av (ResOk.imm (den.imm hi))⟩

/-! ### one, two operands -/
theorem tD.two {K : PySem.W.Frag} {c : Cc} {T : List Tmp} {fp : Nat → List Addr} {ρ : Env} {S S2 : Src} {σ : St} {H : Hp} {x y : D} {R : V → V → Hp → Prop} {S1 : Src}
    (ok : StOk K G c T fp ρ S σ H) (h1 : fa ρ S = some (x, S1)) (h2 : fb ρ S1 = some (y, S2))
    (h : ∀ v w H' Fx Fy, StOk K G c T fp ρ S2 σ H' → Ext c.R H H' → Den K H' v x Fx → Den K H' w y Fy → (∀ a ∈ Fx, ¬ c.P a) → (∀ a ∈ Fy, ¬ c.P a) → ResOk G fp ρ H ma Fx → ResOk G fp ρ H mb Fy → R v w H') :
    tD K G ma fa σ H fun v H1 => tD K G mb fb σ H1 fun w H2 => R v w H2 := by
  refine ⟨c, T, fp, ρ, S, x, S1, ok, h1, fun v H1 Fx ok1 e1 d1 av1 r1 => ?_⟩
  refine ⟨c, T, fp, ρ, S1, y, S2, ok1, h2, fun w H2 Fy ok2 e2 d2 av2 r2 => ?_⟩
  exact h v w H2 Fx Fy ok2 (e1.trans e2) (d1.ext e2 fun a z => ok.notR (av1 a z)) d2 av1 av2 r1 (r2.back e1 ok.hP av2)
/-- a rule by values, of two operands -/
theorem rd_2 {K : PySem.W.Frag} {r : R2} {op : D → D → M D}
    (hr : ∀ (c : Cc) (T : List Tmp) (fp : Nat → List Addr) (ρ : Env) (S S' : Src) (σ : St) (H0 H : Hp) (x y d : D) (v w : V) (Fx Fy : List Addr) (Q : VK), StOk K G c T fp ρ S σ H → Ext c.R H0 H → Den K H v x Fx → Den K H w y Fy → (∀ a ∈ Fx, ¬ c.P a) → (∀ a ∈ Fy, ¬ c.P a) →
      ResOk G fp ρ H0 ma Fx → ResOk G fp ρ H0 mb Fy → op x y S = some (d, S') →
      (∀ v H' F, Ext [] H H' → S' = S → Den K H' v d F → (∀ a ∈ F, ¬ c.P a) → ResOk G fp ρ H0 m F → Q v H') → r v w H Q) : ∀ σ H Q, tD K G m (e2 op fa fb) σ H Q → tOp r (tD K G ma fa) (tD K G mb fb) σ H Q := by
  intro σ H Q hh
  obtain ⟨c, T, fp, ρ, S, d, S', ok, hf, q⟩ := hh
  obtain ⟨x, S1, h1, hf⟩ := M.bind_some hf
  obtain ⟨y, S2, h2, hf⟩ := M.bind_some hf
  refine tD.two ok h1 h2 fun v w H' Fx Fy ok' e dx dy ax ay rx ry => ?_
  refine hr c T fp ρ S2 S' σ H H' x y d v w Fx Fy Q ok' e dx dy ax ay rx ry hf fun v' H'' F e2 es den av res => ?_
  subst es
  exact q v' H'' F (ok'.grow e2) (e.trans (e2.mono fun _ z => nomatch z)) den av res
theorem ev_2 {e : Expr} {r : R2} {op : D → D → M D} (h : PE X e (tOp r (tD X.K G ma fa) (tD X.K G mb fb)))
    (hr : ∀ (c : Cc) (T : List Tmp) (fp : Nat → List Addr) (ρ : Env) (S S' : Src) (σ : St) (H0 H : Hp) (x y d : D) (v w : V) (Fx Fy : List Addr) (Q : VK), StOk X.K G c T fp ρ S σ H → Ext c.R H0 H → Den X.K H v x Fx → Den X.K H w y Fy → (∀ a ∈ Fx, ¬ c.P a) → (∀ a ∈ Fy, ¬ c.P a) →
      ResOk G fp ρ H0 ma Fx → ResOk G fp ρ H0 mb Fy → op x y S = some (d, S') →
      (∀ v H' F, Ext [] H H' → S' = S → Den X.K H' v d F → (∀ a ∈ F, ¬ c.P a) → ResOk G fp ρ H0 m F → Q v H') → r v w H Q) : EV X G m e (e2 op fa fb) := PE.mono h (rd_2 hr)
theorem rd_1 {K : PySem.W.Frag} {r : V → Hp → VK → Prop} {op : D → M D}
    (hr : ∀ (c : Cc) (T : List Tmp) (fp : Nat → List Addr) (ρ : Env) (S S' : Src) (σ : St) (H0 H : Hp) (x d : D) (v : V) (Fx : List Addr) (Q : VK), StOk K G c T fp ρ S σ H → Ext c.R H0 H → Den K H v x Fx → (∀ a ∈ Fx, ¬ c.P a) →
      ResOk G fp ρ H0 ma Fx → op x S = some (d, S') →
      (∀ v H' F, Ext [] H H' → S' = S → Den K H' v d F → (∀ a ∈ F, ¬ c.P a) → ResOk G fp ρ H0 m F → Q v H') → r v H Q) : ∀ σ H Q, tD K G m (DL.e1 op fa) σ H Q → tD K G ma fa σ H fun x H1 => r x H1 Q := by
  intro σ H Q hh
  obtain ⟨c, T, fp, ρ, S, d, S', ok, hf, q⟩ := hh
  obtain ⟨x, S1, h1, hf⟩ := M.bind_some hf
  refine ⟨c, T, fp, ρ, S, x, S1, ok, h1, fun v H' Fx ok' e dx ax rx => ?_⟩
  refine hr c T fp ρ S1 S' σ H H' x d v Fx Q ok' e dx ax rx hf fun v' H'' F e2 es den av res => ?_
  subst es
  exact q v' H'' F (ok'.grow e2) (e.trans (e2.mono fun _ z => nomatch z)) den av res
theorem ev_1 {e : Expr} {r : V → Hp → VK → Prop} {op : D → M D} (h : PE X e (fun σ H Q => tD X.K G ma fa σ H fun x H1 => r x H1 Q))
    (hr : ∀ (c : Cc) (T : List Tmp) (fp : Nat → List Addr) (ρ : Env) (S S' : Src) (σ : St) (H0 H : Hp) (x d : D) (v : V) (Fx : List Addr) (Q : VK), StOk X.K G c T fp ρ S σ H → Ext c.R H0 H → Den X.K H v x Fx → (∀ a ∈ Fx, ¬ c.P a) →
      ResOk G fp ρ H0 ma Fx → op x S = some (d, S') →
      (∀ v H' F, Ext [] H H' → S' = S → Den X.K H' v d F → (∀ a ∈ F, ¬ c.P a) → ResOk G fp ρ H0 m F → Q v H') → r v H Q) : EV X G m e (DL.e1 op fa) := PE.mono h (rd_1 hr)
theorem tB_some {f : EF} {ρ : Env} {S S' : Src} {b : Bool} (h : tB f ρ S = some (b, S')) : f ρ S = some (.bool b, S') := by
  obtain ⟨d, S1, h1, hf⟩ := M.bind_some h
  split at hf
  · obtain ⟨rfl, rfl⟩ := M.pure_some hf
    exact h1
  · exact (M.fail_some hf).elim
/-- a bool's expression as a test -/
theorem tv_of {K : PySem.W.Frag} {t : TE} {f : EF} (hr : ∀ σ H Q, tD K G m f σ H Q → t σ H Q) : ∀ σ H Q, tDT K G (tB f) σ H Q → t σ H fun x H1 => ∃ k, x = .bl k ∧ Q k H1 := by
  intro σ H Q hh
  obtain ⟨c, T, fp, ρ, S, d, S', ok, hf, q⟩ := hh
  refine hr σ H _ ⟨c, T, fp, ρ, S, _, S', ok, tB_some hf, fun v H' F ok' e dn av r => ?_⟩
  cases dn
  exact ⟨_, rfl, q H' ok' e⟩
theorem tv_val (h : EV X G m a fa) (he : ∀ whole, isTrue a X.env whole = (do let v ← whole; standAt a.pos; holding [v] (truthy v)) := by intro _; rfl) : TV X G a (tB fa) := PT.mono (pt_val h he) (tv_of fun _ _ _ z => z)
/-- a comparison, as a value and as a test -/
structure CV (X : Cx) (G : Sg) (e : Expr) (f : EF) : Prop where
  ev : EV X G .own e f
  tv : TV X G e (tB f)
theorem cv_2 {cop : CmpOp} {r : R2} {op : D → D → M D} (ho : OpR X (compareOp cop) r) (hn : behindInMarks cop b = false) (ha : EV X G ma a fa) (hb : EV X G mb b fb)
    (hr : ∀ (c : Cc) (T : List Tmp) (fp : Nat → List Addr) (ρ : Env) (S S' : Src) (σ : St) (H0 H : Hp) (x y d : D) (v w : V) (Fx Fy : List Addr) (Q : VK), StOk X.K G c T fp ρ S σ H → Ext c.R H0 H → Den X.K H v x Fx → Den X.K H w y Fy → (∀ a ∈ Fx, ¬ c.P a) → (∀ a ∈ Fy, ¬ c.P a) →
      ResOk G fp ρ H0 ma Fx → ResOk G fp ρ H0 mb Fy → op x y S = some (d, S') →
      (∀ v H' F, Ext [] H H' → S' = S → Den X.K H' v d F → (∀ a ∈ F, ¬ c.P a) → ResOk G fp ρ H0 .own F → Q v H') → r v w H Q) : CV X G (.Compare a [cop] [b] pos) (e2 op fa fb) :=
  ⟨PE.mono (pe_cmpR ho ha hb hn) (rd_2 hr), PT.mono (pt_cmpR ho ha hb hn) (tv_of (rd_2 hr))⟩
/-- the right side is written -/
theorem cv_1 {cop : CmpOp} {r : R2} {op : D → M D} {vb : V} (ho : OpR X (compareOp cop) r) (hn : behindInMarks cop b = false) (ha : EV X G ma a fa) (hb : PE X b (tC vb))
    (hr : ∀ (c : Cc) (T : List Tmp) (fp : Nat → List Addr) (ρ : Env) (S S' : Src) (σ : St) (H0 H : Hp) (x d : D) (v : V) (Fx : List Addr) (Q : VK), StOk X.K G c T fp ρ S σ H → Ext c.R H0 H → Den X.K H v x Fx → (∀ a ∈ Fx, ¬ c.P a) →
      ResOk G fp ρ H0 ma Fx → op x S = some (d, S') →
      (∀ v H' F, Ext [] H H' → S' = S → Den X.K H' v d F → (∀ a ∈ F, ¬ c.P a) → ResOk G fp ρ H0 .own F → Q v H') → r v vb H Q) : CV X G (.Compare a [cop] [b] pos) (DL.e1 op fa) :=
  ⟨PE.mono (pe_cmpR ho ha hb hn) (rd_1 hr), PT.mono (pt_cmpR ho ha hb hn) (tv_of (rd_1 (r := fun x H Q => r x vb H Q) hr))⟩
end
end DL

namespace DL
open PySem PySem.Spec PyProof.Rows L2
/-! tuple * 1, tuple * 0 -/
theorem tuple_mul1W (l : Addr) (items : Array Value) (n : Nat) (dd : Option Addr) (sl : Array (Option Value)) (u : Tok) :
    Meets (Builtin.«tuple.__mul__» ⟨[.ref l, .int 1 u], []⟩) (fun _ R s => s.heap.get? l = some { cls := .type "tuple", dict := dd, data := .seq items n, slots := sl } ∧ R (.ok (.ret (Value.ref l))) s) :=
  .of_wp fun prog w A R s h => by
    obtain ⟨hp, g, d, tk, os⟩ := s
    obtain ⟨hl, h⟩ := h
    have f1 := AutoSeq1.idx_int
    have c1 : (items.isEmpty || (1 : Int) == 1) = true := by simp
    wp_walk using wpAny_loadPart' hl
    repeat (first
      | (refine wpAny_ite_true (by rw [c1]) ?_; wp_walk using wpAny_loadPart' hl)
      | (refine wpAny_ite_false (by decide) ?_; wp_walk using wpAny_loadPart' hl))
    exact ⟨_, rfl, h⟩
theorem tuple_mul0W (l : Addr) (items : Array Value) (n : Nat) (dd : Option Addr) (sl : Array (Option Value)) (u : Tok) (hi : items.isEmpty = false) :
    Meets (Builtin.«tuple.__mul__» ⟨[.ref l, .int 0 u], []⟩) (fun _ R s => s.heap.get? l = some { cls := .type "tuple", dict := dd, data := .seq items n, slots := sl } ∧
      R (.ok (.ret (Value.ref s.heap.objs.size))) { s with heap := s.heap.push { cls := Value.type "tuple", data := Data.seq #[] }, toks := s.toks }) :=
  .of_wp fun prog w A R s h => by
    obtain ⟨hp, g, d, tk, os⟩ := s
    obtain ⟨hl, h⟩ := h
    have f1 := AutoSeq1.idx_int
    have c1 : (items.isEmpty || (0 : Int) == 1) = false := by rw [hi]; rfl
    have c2 : (decide ((0 : Int) ≤ 0) || items.isEmpty) = true := by rw [hi]; rfl
    wp_walk using wpAny_loadPart' hl
    repeat (first
      | (refine wpAny_ite_false (decide_eq_false (by rw [c1]; exact Bool.false_ne_true)) ?_; wp_walk using wpAny_loadPart' hl)
      | (refine wpAny_ite_true (decide_eq_true (by rw [c2])) ?_; wp_walk using wpAny_loadPart' hl)
      | (refine wpAny_ite_false (by decide) ?_; wp_walk using wpAny_loadPart' hl))
    exact ⟨_, rfl, h⟩
end DL

/-! DS2c: tuples that are made, with their object: no dict of their own. -/
namespace DL
open PySem PySem.Spec PyProof.Rows L2

/-- a tuple's object -/
def TO (o : Obj) : Prop := o.cls = .type "tuple" ∧ o.dict = none
/-- what follows a new tuple of xs -/
def NewT (H : Hp) (xs : List V) (Q : VK) : Prop := ∀ p o, H p = none → TO o → Q (.ref p) (upd H p (.frz o (.tup xs)))
section
variable {X : Cx} {pins : List (Addr × Obj)} {σ : St} {H : Hp} {s : Shared}
theorem laidT {xs : List V} {its : List Value} {Q : VK} (I : Inv X pins σ H s) (hz : xs.length ≤ sizeLine) (r : Vals xs its) (q : NewT H xs Q) : EP X pins σ Q (.ref s.heap.objs.size) { s with heap := s.heap.push { cls := .type "tuple", data := .seq its.toArray } } := by
  have e : (s.heap.push { cls := .type "tuple", data := .seq its.toArray }).get? s.heap.objs.size = some { cls := .type "tuple", data := .seq its.toArray } := Heap.get?_push_size _ rfl
  have new : ObjOk X.prog X.w (upd H s.heap.objs.size (.frz { cls := .type "tuple", data := .seq its.toArray } (.tup xs))) (s.heap.push { cls := .type "tuple", data := .seq its.toArray }) s.heap.objs.size (.frz { cls := .type "tuple", data := .seq its.toArray } (.tup xs)) :=
    ⟨e, hz, its, r, ⟨_, e, rfl, 0, rfl⟩⟩
  have I2 := I.laid (t' := s.toks) (fun b ob q => Heap.get?_push_of_some _ q) (Nat.le_refl _) new
  exact ⟨.ref s.heap.objs.size, _, I2, rfl, q _ _ (I.hok.fresh (Nat.le_refl _)) ⟨rfl, rfl⟩⟩
variable {e : Expr} {es : List Expr} {te : TE} {t : TA} {pos : Pos}
def tTupF (t : TA) : TE := fun σ H Q => t σ H fun xs H1 => xs.length ≤ sizeLine ∧ NewT H1 xs Q
theorem pe_tupF {x1 : Nat} (h : PA X es t) : PE X (.Tuple es x1 pos) (tTupF t) := by
  refine ⟨fun pins s σ H Q I hq => ?_⟩
  have run := h.run pos pins s σ H _ I hq
  exact wpAny_Tuple_spliced (thn run fun us s1 ⟨xs, H1, I1, r, z, q⟩ => ⟨by rw [← r.length]; exact z, laidT I1 z r q⟩)
theorem call_tupleF : CallR X (.type "tuple") (fun xs H Q => ∃ p ys, xs = [.ref p] ∧ ((SqL X.K H p ys ∧ NewT H ys Q) ∨ (SqT X.K H p ys ∧ Q (.ref p) H))) := by
  intro pins s σ H xs us Q I r h
  obtain ⟨p, ys, rfl, h⟩ := h
  obtain rfl := Vals.ref1 r
  rcases h with ⟨hq, q⟩ | ⟨hq, q⟩
  · obtain ⟨its, r', pl, hz⟩ := I.list hq
    have hsz : its.toArray.size ≤ sizeLine := by rw [List.size_toArray, ← r'.length]; exact hz
    exact call_tuple_list pl.isList (fun h' kp => laidT (s := { s with heap := h' }) (I.kept (t' := s.toks) kp) hz r' q) hsz
  · obtain ⟨its, r', pl, hz⟩ := I.tuple hq
    exact call_tuple_same pl ⟨.ref p, H, I, rfl, q⟩
def rCatF (K : PySem.W.Frag) : R2 := fun x y H Q => ∃ a b xs ys, x = .ref a ∧ y = .ref b ∧ SqT K H a xs ∧ SqT K H b ys ∧ xs.length + ys.length ≤ sizeLine ∧
  (xs = [] → Q (.ref b) H) ∧ (xs ≠ [] → ys = [] → Q (.ref a) H) ∧ (xs ≠ [] → ys ≠ [] → NewT H (xs ++ ys) Q)
theorem op_catF : OpR X (binaryOp .Add) (rCatF X.K) := by
  intro pins s σ H x y v u Q I rx ry h
  obtain ⟨a, b, xs, ys, rfl, rfl, ha, hb, hz, q0, q1, q2⟩ := h
  cases rx
  cases ry
  obtain ⟨is, r1, p1, _⟩ := I.tuple ha
  obtain ⟨js, r2, p2, _⟩ := I.tuple hb
  by_cases hx : xs = []
  · subst hx
    cases r1
    exact cat_tup0 p1 p2 ⟨.ref b, H, I, rfl, q0 rfl⟩
  · have n1 : is ≠ [] := fun z => hx (r1.nil_iff.mp z)
    have zz : is.length + js.length ≤ sizeLine := by rw [← r1.length, ← r2.length]; exact hz
    refine HT.cat_tup p1 p2 n1 (fun z => ⟨.ref a, H, I, rfl, q1 hx (r2.nil_iff.mp z)⟩) (fun z => ?_) zz
    exact laidT I (by rw [List.length_append]; exact hz) (r1.append r2) (q2 hx fun w => z (r2.nil_iff.mpr w))
def rSlF (K : PySem.W.Frag) : V → Option Int → Option Int → Hp → VK → Prop := fun x lo hi H Q => ∃ a xs, x = .ref a ∧ SqT K H a xs ∧
  (HT.sIx xs.length 0 lo = 0 ∧ HT.sIx xs.length xs.length hi = xs.length → Q (.ref a) H) ∧ (¬ (HT.sIx xs.length 0 lo = 0 ∧ HT.sIx xs.length xs.length hi = xs.length) → NewT H (cutV xs lo hi) Q)
theorem sl_tupF : SlR X (rSlF X.K) := by
  intro pins s σ H x v vl vu lo hi sl Q I rx hs pl pu h
  obtain ⟨a, xs, rfl, hx, q1, q2⟩ := h
  cases rx
  obtain ⟨is, r, ht, hz⟩ := I.tuple hx
  have hn : is.toArray.size = xs.length := by rw [List.size_toArray, r.length]
  refine ⟨"tuple", _, slot_tuple_getitem.lookup, ht.typeIs, ?_⟩
  by_cases hw : HT.sIx xs.length 0 lo = 0 ∧ HT.sIx xs.length xs.length hi = xs.length
  · exact getItem_tuple_whole ht hs pl pu (by rw [hn]; exact hw) ⟨.ref a, H, I, rfl, q1 hw⟩
  · refine HT.getItem_tuple_cut ht hs pl pu (by rw [hn]; exact hw) ?_ (by rw [hn]; exact hz)
    rw [hn]
    have r2 := (r.drop (HT.sIx xs.length 0 lo)).take (HT.sIx xs.length xs.length hi - HT.sIx xs.length 0 lo)
    exact laidT I (Nat.le_trans (cutV_length xs lo hi) hz) r2 (q2 hw)
def tTupRgF (te : St → Hp → (Int → Int → Hp → Prop) → Prop) : TE := fun σ H Q => te σ H fun a b H1 => RgOk a b ∧ NewT H1 (rgV a b) Q
theorem pe_tupRgF {p pos : Pos} {tr : St → Hp → (Int → Int → Hp → Prop) → Prop} (hc : X.calm = true) (hg : Gl X "tuple") (hm : X.mg "tuple" = none) (he : PRg X e tr) (na : starEach [e] X.env = (false, eval e X.env) :: starEach [] X.env := by rfl) : PE X (.Call (.Name "tuple" p) [e] [] pos) (tTupRgF tr) := by
  refine ⟨fun pins s σ H Q I h => ?_⟩
  refine Call_ (ld_blt I hg hm boot_tuple (callWith_type1 (args_cons (thn (he pins s σ H _ I h) fun x s1 ⟨r, a, b, t, u, v, H1, ex, hr, I1, ok, q⟩ => args_nil ?_) na) na))
  subst ex
  have ok' := ok
  obtain ⟨b1, b2, b3, b4, b5⟩ := ok
  have hd := I1.ok.hd hc
  refine call_tuple_range (n := (b - a).toNat) hd hr (small_one b1 b2 b3 b4) (rangeSize_nat a b) b5 fun h' tk acc hk hi => ?_
  have I2 : Inv X pins σ H1 { s1 with heap := h', toks := tk } := I1.kept hk
  have fin := laidT (its := acc.toList) I2 (by rw [rgV_length, sizeLine_eq]; omega) (vals_rg hi) q
  rw [Array.toArray_toList] at fin
  exact fin
def rRepF (K : PySem.W.Frag) : R2 := fun x y H Q => ∃ l k xs, x = .ref l ∧ y = .int k ∧ SqT K H l xs ∧ xs ≠ [] ∧ 0 ≤ k ∧ k ≤ 1000 ∧ xs.length ≤ 1000 ∧ (k = 1 → Q (.ref l) H) ∧ (k ≠ 1 → NewT H (List.replicate k.toNat xs).flatten Q)
theorem op_repF : OpR X (binaryOp .Mult) (rRepF X.K) := by
  intro pins s σ H x y v u Q I rx ry h
  obtain ⟨l, k, xs, rfl, rfl, hT, hne, h0, h1, hz, q1, q2⟩ := h
  cases rx
  obtain ⟨t, rfl⟩ := ry
  obtain ⟨is, r, ⟨⟨cl, dd, da, sl⟩, ho, hc, n, hd⟩, hs⟩ := I.tuple hT
  simp only at hc hd
  subst hc hd
  have le : is.length = xs.length := r.length.symm
  have hi : is.toArray.isEmpty = false := by
    cases is with
    | nil => exact absurd (List.eq_nil_of_length_eq_zero le.symm) hne
    | cons a b => rfl
  have hsz : is.toArray.size = xs.length := by rw [List.size_toArray, le]
  have go : ∀ {Q' : Value → Shared → Prop}, wpAny (model X.prog X.w) X.A (call (.builtin "tuple.__mul__") [.ref l, .int k t]) Q' X.xe s → wpAny (model X.prog X.w) X.A (binaryOp .Mult (.ref l) (.int k t)) Q' X.xe s := fun {Q'} z =>
    wpAny_binaryOp_repeat_ref (T := "tuple") (U := "int") (by decide) ⟨_, ho, rfl⟩ (fun s' => typeIs_int s' k t) noFill_tuple_mul F.fills_int_mul F.slot_int_rmul repeat_tuple F.slot_int_index.lookup
      (call_meets F.slot_int_rmul (typeIs_int s k t) F.entry_int_rmul (F.args_int_rmul_2 _ _) (int_rmul_tuple k t l is.toArray n dd sl) ⟨ho, rfl, ⟨_, ho, rfl⟩, z⟩)
  refine go ?_
  have hT2 : s.TypeIs (.ref l) "tuple" := ⟨_, ho, rfl⟩
  by_cases k1 : k = 1
  · subst k1
    exact call_meets F.slot_tuple_mul hT2 F.entry_tuple_mul (F.args_tuple_mul_2 _ _) (tuple_mul1W l is.toArray n dd sl t) ⟨ho, ⟨.ref l, H, I, rfl, q1 rfl⟩⟩
  have q := q2 k1
  by_cases k0 : k = 0
  · subst k0
    exact call_meets F.slot_tuple_mul hT2 F.entry_tuple_mul (F.args_tuple_mul_2 _ _) (tuple_mul0W l is.toArray n dd sl t hi) ⟨ho, laidT (its := []) I (by simp) .nil q⟩
  have m1 : k.toNat * xs.length ≤ 1000 * 1000 := Nat.mul_le_mul (by omega) hz
  have m2 : ((xs.length : Nat) : Int) * k ≤ 1000 * k := Int.mul_le_mul_of_nonneg_right (by omega) (by omega)
  have fl : (List.replicate k.toNat is).flatten.length ≤ sizeLine := by rw [lm_len_rep_flat, le, sizeLine_eq]; omega
  have fl2 : (List.replicate k.toNat xs).flatten.length ≤ sizeLine := by rw [lm_len_rep_flat, sizeLine_eq]; omega
  have c0 : (decide (k < -(2 ^ 63)) || decide (k ≥ 2 ^ 63)) = false := by simp; omega
  have c1 : (is.toArray.isEmpty || k == 1) = false := by rw [hi]; simpa using k1
  have c2 : (decide (k ≤ 0) || is.toArray.isEmpty) = false := by rw [hi]; simp; omega
  have c3 : ¬ ((is.toArray.size : Nat) : Int) * k > (2 ^ 63 - 1) / 8 := by rw [hsz]; omega
  have c4 : Builtin.Tuple.tupleTooMany (((is.toArray.size : Nat) : Int) * k) = false := by
    unfold Builtin.Tuple.tupleTooMany
    rw [hsz, sizeLine_eq]
    exact decide_eq_false (by omega)
  refine call_meets F.slot_tuple_mul hT2 F.entry_tuple_mul (F.args_tuple_mul_2 _ _) (tuple_mulW l is.toArray n dd sl k t c0 c1 c2 c3 c4 (by rw [size_rep, List.size_toArray]; exact fl)) ⟨ho, ?_⟩
  rw [size_rep]
  exact laidT I fl2 (r.rep k.toNat) q
end
end DL

/-! DS3: operators, comparisons, items, slices, built-in functions. -/
namespace DL
open PySem PySem.Spec PyProof.Rows L2

theorem M.chk_bind {α : Type} {b : Bool} {f : M α} {S S' : Src} {u : α} (h : (do chk b; f) S = some (u, S')) : b = true ∧ f S = some (u, S') := by
  obtain ⟨_, S1, h1, h2⟩ := M.bind_some h
  obtain ⟨e, rfl⟩ := M.chk_some h1
  exact ⟨e, h2⟩
theorem fit_le {n : Nat} (h : fit n = true) : n ≤ sizeLine := of_decide_eq_true h
theorem and_true {a b : Bool} (h : (a && b) = true) : a = true ∧ b = true := Bool.and_eq_true_iff.mp h

section
variable {K : PySem.W.Frag} {G : Sg} {c : Cc} {T : List Tmp} {fp : Nat → List Addr} {ρ : Env} {S S' : Src} {σ : St} {H0 H H' : Hp} {m : Md} {F : List Addr}
theorem DenL.grow {vs : List V} {ds : List D} (h : DenL K H vs ds F) (e : Ext [] H H') : DenL K H' vs ds F := h.ext e fun _ _ z => nomatch z
theorem Den.grow {v : V} {d : D} (h : Den K H v d F) (e : Ext [] H H') : Den K H' v d F := h.ext e fun _ _ z => nomatch z
theorem Ext.back0 (e : Ext c.R H0 H) (ok : StOk K G c T fp ρ S σ H) {p : Addr} (n : H p = Option.none) : H0 p = Option.none := e.nn n fun z => ok.new_av n (ok.hP p z)
/-- a new list of items that are held somewhere -/
theorem Den.newL {p : Addr} {vs : List V} {ds : List D} (n : H p = none) (h : DenL K H vs ds F) : Den K (upd H p (.lst vs)) (.ref p) (.list ds) (p :: F) := .lst upd_same (h.grow (Ext.new n))
theorem Den.newT {p : Addr} {vs : List V} {ds : List D} {o : Obj} (n : H p = none) (ho : TO o) (h : DenL K H vs ds F) : Den K (upd H p (.frz o (.tup vs))) (.ref p) (.tuple ds) F := .tup ⟨o, upd_same, ho⟩ (h.grow (Ext.new n))
/-- a new list of what does not change is new -/
theorem ResOk.one {p : Addr} (n : H p = none) : ResOk G fp ρ H .own [p] := ⟨by simp, fun a z => by
  have e : a = p := by simpa using z
  rw [e]
  exact n⟩
theorem StOk.av1 (ok : StOk K G c T fp ρ S σ H) {p : Addr} (n : H p = none) : ∀ a ∈ [p], ¬ c.P a := fun a z => by
  have e : a = p := by simpa using z
  rw [e]
  exact ok.new_av n
theorem StOk.avc (ok : StOk K G c T fp ρ S σ H) {p : Addr} (n : H p = none) (h : ∀ a ∈ F, ¬ c.P a) : ∀ a ∈ p :: F, ¬ c.P a := fun a z => by
  rcases List.mem_cons.mp z with e | z
  · rw [e]
    exact ok.new_av n
  · exact h a z
theorem av0 : ∀ a ∈ ([] : List Addr), ¬ c.P a := fun _ z => nomatch z
theorem DenL.immV (h : DenL K H (vs : List V) ds F) (e : immAll ds = true) : DenL K H vs ds [] := by
  have z := h.imm e
  subst z
  exact h
end

theorem ixD_eq (n : Nat) (i : Int) : ixD n i = ixN n i := by
  unfold ixD ixN
  by_cases h : 0 ≤ i
  · rw [if_pos h]
    by_cases h2 : i < (n : Int)
    · rw [if_pos ⟨h, h2⟩, if_pos h2]
    · rw [if_neg (fun z => h2 z.2), if_neg h2, if_neg (fun z => by omega)]
  · rw [if_neg h, if_neg (fun z => h z.1)]
    by_cases h2 : -(n : Int) ≤ i
    · rw [if_pos h2, if_pos (by omega)]
    · rw [if_neg h2, if_neg (by omega)]
theorem slD_eq (n d : Nat) (o : Option Int) : slD n d o = HT.sIx n d o := by
  cases o with
  | none => rfl
  | some v =>
    show (if 0 ≤ v then min v.toNat n else (v + n).toNat) = if v < 0 then (v + (n : Int)).toNat else min v.toNat n
    by_cases h : 0 ≤ v
    · rw [if_pos h, if_neg (by omega)]
    · rw [if_neg h, if_pos (by omega)]

section
variable {X : Cx} {G : Sg} {m ma mb : Md} {a b : Expr} {fa fb : EF} {pos : Pos}

/-! ### arithmetic -/
theorem ev_add (ha : EV X G .bor a fa) (hb : EV X G .bor b fb) : EV X G .own (.BinOp a .Add b pos) (e2 (addD true) fa fb) := by
  refine ev_2 (pe_op ((op_add.or op_cat).or op_catF) ha hb) fun c T fp ρ S S' σ H0 H x y d v w Fx Fy Q ok e dx dy ax ay rx ry hf q => ?_
  unfold addD at hf
  split at hf
  · obtain ⟨rfl, rfl⟩ := M.pure_some hf
    cases dx; cases dy
    exact .inl (.inl ⟨_, _, rfl, rfl, q _ H [] Ext.refl rfl (.int _) av0 (ResOk.imm rfl)⟩)
  · obtain ⟨h1, hf⟩ := M.chk_bind hf
    obtain ⟨h2, hf⟩ := M.chk_bind hf
    obtain ⟨rfl, rfl⟩ := M.pure_some hf
    simp only [Bool.not_true, Bool.false_or] at h2
    cases dx with
    | tup e1 l1 =>
      cases dy with
      | tup e2 l2 =>
        obtain rfl := l1.imm (and_true h2).1
        obtain rfl := l2.imm (and_true h2).2
        have le1 := l1.length
        have le2 := l2.length
        refine .inr ⟨_, _, _, _, rfl, rfl, e1.sq, e2.sq, by rw [le1, le2]; exact fit_le h1, fun z => ?_, fun z1 z2 => ?_, fun z1 z2 p o n ho => ?_⟩
        · subst z
          cases l1
          exact q _ H [] Ext.refl rfl (.tup e2 l2) av0 (ResOk.imm rfl)
        · subst z2
          cases l2
          rw [List.append_nil] at q
          exact q _ H [] Ext.refl rfl (.tup e1 l1) av0 (ResOk.imm rfl)
        · exact q _ _ [] (Ext.new n) rfl (Den.newT n ho (l1.append l2)) av0 (ResOk.imm rfl)
  · obtain ⟨h1, hf⟩ := M.chk_bind hf
    obtain ⟨h2, hf⟩ := M.chk_bind hf
    obtain ⟨rfl, rfl⟩ := M.pure_some hf
    simp only [Bool.not_true, Bool.false_or] at h2
    cases dx with
    | lst e1 l1 =>
      cases dy with
      | lst e2 l2 =>
        obtain rfl := l1.imm (and_true h2).1
        obtain rfl := l2.imm (and_true h2).2
        refine .inl (.inr ⟨_, _, _, _, rfl, rfl, e1, e2, by rw [l1.length, l2.length]; exact fit_le h1, fun p n => ?_⟩)
        exact q _ _ [p] (Ext.new n) rfl (Den.newL n (l1.append l2)) (ok.av1 n) (ResOk.one (e.back0 ok n))
  · exact (M.fail_some hf).elim
/-- of lists whose items may change: nothing is known to be new -/
theorem ev_addV (ha : EV X G .val a fa) (hb : EV X G .val b fb) : EV X G .val (.BinOp a .Add b pos) (e2 (addD false) fa fb) := by
  refine ev_2 (pe_op ((op_add.or op_cat).or op_catF) ha hb) fun c T fp ρ S S' σ H0 H x y d v w Fx Fy Q ok e dx dy ax ay rx ry hf q => ?_
  have ap : ∀ {A B : List Addr}, (∀ z ∈ A, ¬ c.P z) → (∀ z ∈ B, ¬ c.P z) → ∀ z ∈ A ++ B, ¬ c.P z := fun h1 h2 z hz => (List.mem_append.mp hz).elim (h1 z) (h2 z)
  have rs : ∀ {A B : List Addr}, ResOk G fp ρ H0 .val A → ResOk G fp ρ H0 .val B → ResOk G fp ρ H0 .val (A ++ B) := fun h1 h2 i d hi hd z hz => (List.mem_append.mp hz).elim (h1 i d hi hd z) (h2 i d hi hd z)
  unfold addD at hf
  split at hf
  · obtain ⟨rfl, rfl⟩ := M.pure_some hf
    cases dx; cases dy
    exact .inl (.inl ⟨_, _, rfl, rfl, q _ H [] Ext.refl rfl (.int _) av0 (ResOk.imm rfl)⟩)
  · obtain ⟨h1, hf⟩ := M.chk_bind hf
    obtain ⟨h2, hf⟩ := M.chk_bind hf
    obtain ⟨rfl, rfl⟩ := M.pure_some hf
    cases dx with
    | tup e1 l1 =>
      cases dy with
      | tup e2 l2 =>
        have le1 := l1.length
        have le2 := l2.length
        refine .inr ⟨_, _, _, _, rfl, rfl, e1.sq, e2.sq, by rw [le1, le2]; exact fit_le h1, fun z => ?_, fun z1 z2 => ?_, fun z1 z2 p o n ho => ?_⟩
        · subst z
          cases l1
          exact q _ H _ Ext.refl rfl (.tup e2 l2) ay ry
        · subst z2
          cases l2
          rw [List.append_nil] at q
          exact q _ H _ Ext.refl rfl (.tup e1 l1) ax rx
        · exact q _ _ _ (Ext.new n) rfl (Den.newT n ho (l1.append l2)) (ap ax ay) (rs rx ry)
  · obtain ⟨h1, hf⟩ := M.chk_bind hf
    obtain ⟨h2, hf⟩ := M.chk_bind hf
    obtain ⟨rfl, rfl⟩ := M.pure_some hf
    cases dx with
    | lst e1 l1 =>
      cases dy with
      | lst e2 l2 =>
        refine .inl (.inr ⟨_, _, _, _, rfl, rfl, e1, e2, by rw [l1.length, l2.length]; exact fit_le h1, fun p n => ?_⟩)
        have i1 : ResOk G fp ρ H0 .val [p] := fun i d hi hd z hz w => by
          have ez : z = p := by simpa using hz
          subst ez
          obtain ⟨v', _, dn⟩ := ok.den i d hd
          exact dn.dom z w n
        refine q _ _ _ (Ext.new n) rfl (Den.newL n (l1.append l2)) (ok.avc n (ap (fun z hz => ax z (List.mem_cons_of_mem _ hz)) (fun z hz => ay z (List.mem_cons_of_mem _ hz)))) ?_
        exact rs (A := [p]) i1 (rs (fun i d hi hd z hz => rx i d hi hd z (List.mem_cons_of_mem _ hz)) (fun i d hi hd z hz => ry i d hi hd z (List.mem_cons_of_mem _ hz)))
  · exact (M.fail_some hf).elim
theorem ev_sub (ha : EV X G ma a fa) (hb : EV X G mb b fb) : EV X G .own (.BinOp a .Sub b pos) (e2 subD fa fb) := by
  refine ev_2 (pe_op op_sub ha hb) fun c T fp ρ S S' σ H0 H x y d v w Fx Fy Q ok e dx dy ax ay rx ry hf q => ?_
  unfold subD at hf
  split at hf
  · obtain ⟨rfl, rfl⟩ := M.pure_some hf
    cases dx; cases dy
    exact ⟨_, _, rfl, rfl, q _ H [] Ext.refl rfl (.int _) av0 (ResOk.imm rfl)⟩
  · exact (M.fail_some hf).elim
theorem rep_imm {K : PySem.W.Frag} {H : Hp} {vs : List V} {ds : List D} (h : DenL K H vs ds []) (k : Nat) : DenL K H (List.replicate k vs).flatten (List.replicate k ds).flatten [] := by
  induction k with
  | zero => exact .nil
  | succ n ih => exact h.append ih
theorem of_small {a : Int} (h : small64 a = true) : -(2 ^ 64) < a ∧ a < 2 ^ 64 := by
  have h' : a.natAbs < 2 ^ 64 := of_decide_eq_true h
  omega
theorem of_63 {k : Int} (h : k.natAbs < 2 ^ 63) : -(2 ^ 63) ≤ k ∧ k < 2 ^ 63 := by omega
theorem rep_case {K : PySem.W.Frag} {H : Hp} {l : Addr} {vs : List V} {ds : List D} {k : Int} {Q : VK} (e1 : TupAt K H l vs) (l1 : DenL K H vs ds []) (hne : (!ds.isEmpty) = true) (h0 : 0 ≤ k ∧ k ≤ 1000) (hl : ds.length ≤ 1000)
    (q : ∀ v H', Ext [] H H' → Den K H' v (.tuple (List.replicate k.toNat ds).flatten) [] → Q v H') : rRepF K (.ref l) (.int k) H Q := by
  have le := l1.length
  have hv : vs ≠ [] := fun z => by
    subst z
    cases ds with
    | nil => simp at hne
    | cons => simp at le
  refine ⟨_, _, _, rfl, rfl, e1.sq, hv, h0.1, h0.2, by rw [le]; exact hl, fun k1 => ?_, fun _ p o n ho => q _ _ (Ext.new n) (Den.newT n ho (rep_imm l1 _))⟩
  subst k1
  refine q _ H Ext.refl (.tup e1 ?_)
  show DenL _ _ _ (List.replicate 1 _).flatten []
  simpa using l1
theorem ev_mul (ha : EV X G ma a fa) (hb : EV X G mb b fb) : EV X G .own (.BinOp a .Mult b pos) (e2 mulD fa fb) := by
  refine ev_2 (pe_op ((op_mul.or op_rep).or op_repF) ha hb) fun c T fp ρ S S' σ H0 H x y d v w Fx Fy Q ok e dx dy ax ay rx ry hf q => ?_
  unfold mulD at hf
  split at hf
  · obtain ⟨h1, hf⟩ := M.chk_bind hf
    obtain ⟨rfl, rfl⟩ := M.pure_some hf
    cases dx; cases dy
    refine .inl (.inl ⟨_, _, rfl, rfl, ?_, q _ H [] Ext.refl rfl (.int _) av0 (ResOk.imm rfl)⟩)
    rcases Bool.or_eq_true_iff.mp h1 with z | z
    · exact .inl (of_small z)
    · exact .inr (of_small z)
  · obtain ⟨h1, hf⟩ := M.chk_bind hf
    obtain ⟨rfl, rfl⟩ := M.pure_some hf
    obtain ⟨h1, h3⟩ := and_true h1
    obtain ⟨h1, h2⟩ := and_true h1
    have h1 := of_decide_eq_true h1
    cases dx with
    | lst e1 l1 =>
      cases dy
      obtain rfl := l1.imm h3
      refine .inl (.inr ⟨_, _, _, rfl, rfl, e1, (of_63 h1).1, (of_63 h1).2, by rw [l1.length]; exact fit_le h2, fun p n => ?_⟩)
      exact q _ _ [p] (Ext.new n) rfl (Den.newL n (rep_imm l1 _)) (ok.av1 n) (ResOk.one (e.back0 ok n))
  · obtain ⟨h1, hf⟩ := M.chk_bind hf
    obtain ⟨rfl, rfl⟩ := M.pure_some hf
    obtain ⟨h1, h4⟩ := and_true h1
    obtain ⟨h1, h3⟩ := and_true h1
    obtain ⟨h1, h2⟩ := and_true h1
    have h1 := of_decide_eq_true h1
    have h2 := of_decide_eq_true h2
    cases dx with
    | tup e1 l1 =>
      cases dy
      obtain rfl := l1.imm h4
      have le := l1.length
      exact .inr (rep_case e1 l1 h3 h1 h2 (Q := Q) fun v' H' ex dn => q v' H' [] ex rfl dn av0 (ResOk.imm rfl))
  · exact (M.fail_some hf).elim
theorem ev_fdiv (ha : EV X G ma a fa) (hb : EV X G mb b fb) : EV X G .own (.BinOp a .FloorDiv b pos) (e2 fdivD fa fb) := by
  refine ev_2 (pe_op op_fdivN ha hb) fun c T fp ρ S S' σ H0 H x y d v w Fx Fy Q ok e dx dy ax ay rx ry hf q => ?_
  unfold fdivD at hf
  split at hf
  · obtain ⟨h1, hf⟩ := M.chk_bind hf
    obtain ⟨rfl, rfl⟩ := M.pure_some hf
    cases dx; cases dy
    have h1 := of_decide_eq_true h1
    exact ⟨_, _, rfl, rfl, h1, q _ H [] Ext.refl rfl (.int _) av0 (ResOk.imm rfl)⟩
  · exact (M.fail_some hf).elim
theorem ev_mod (ha : EV X G ma a fa) (hb : EV X G mb b fb) : EV X G .own (.BinOp a .Mod b pos) (e2 modD fa fb) := by
  refine ev_2 (pe_op op_modN ha hb) fun c T fp ρ S S' σ H0 H x y d v w Fx Fy Q ok e dx dy ax ay rx ry hf q => ?_
  unfold modD at hf
  split at hf
  · obtain ⟨h1, hf⟩ := M.chk_bind hf
    obtain ⟨rfl, rfl⟩ := M.pure_some hf
    cases dx; cases dy
    exact ⟨_, _, rfl, rfl, of_decide_eq_true h1, q _ H [] Ext.refl rfl (.int _) av0 (ResOk.imm rfl)⟩
  · exact (M.fail_some hf).elim
theorem ev_neg (ha : EV X G ma a fa) : EV X G .own (.UnaryOp .USub a pos) (DL.e1 negD fa) := by
  refine ev_1 (pe_un un_neg ha) fun c T fp ρ S S' σ H0 H x d v Fx Q ok e dx ax rx hf q => ?_
  unfold negD at hf
  split at hf
  · obtain ⟨rfl, rfl⟩ := M.pure_some hf
    cases dx
    exact ⟨_, rfl, q _ H [] Ext.refl rfl (.int _) av0 (ResOk.imm rfl)⟩
  · exact (M.fail_some hf).elim

/-! ### comparisons -/
theorem cv_eq (hu : X.A.units + 64 < cLine) (ha : EV X G ma a fa) (hb : EV X G mb b fb) : CV X G (.Compare a [.Eq] [b] pos) (e2 (eqD false) fa fb) := by
  refine cv_2 (op_eqD hu) (nomark _) ha hb fun c T fp ρ S S' σ H0 H x y d v w Fx Fy Q ok e dx dy ax ay rx ry hf q => ?_
  unfold eqD at hf
  obtain ⟨h1, hf⟩ := M.chk_bind hf
  obtain ⟨rfl, rfl⟩ := M.pure_some hf
  obtain ⟨h1, h2⟩ := and_true h1
  exact ⟨x, y, dx.dp (SeqAt.canLay_of_shaped h1), dy.dp (SeqAt.canLay_of_shaped h2), h1, h2, q _ H [] Ext.refl rfl (.bl _) av0 (ResOk.imm rfl)⟩
theorem cv_ne (hu : X.A.units + 64 < cLine) (ha : EV X G ma a fa) (hb : EV X G mb b fb) : CV X G (.Compare a [.NotEq] [b] pos) (e2 (eqD true) fa fb) := by
  refine cv_2 (op_neD hu) (nomark _) ha hb fun c T fp ρ S S' σ H0 H x y d v w Fx Fy Q ok e dx dy ax ay rx ry hf q => ?_
  unfold eqD at hf
  obtain ⟨h1, hf⟩ := M.chk_bind hf
  obtain ⟨rfl, rfl⟩ := M.pure_some hf
  obtain ⟨h1, h2⟩ := and_true h1
  exact ⟨x, y, dx.dp (SeqAt.canLay_of_shaped h1), dy.dp (SeqAt.canLay_of_shaped h2), h1, h2, q _ H [] Ext.refl rfl (.bl _) av0 (ResOk.imm rfl)⟩
theorem cv_cmI {op : CmpOp} {cm : Cm} (ho : OpR X (compareOp op) (rI0 fun i j => .bl (cmI cm i j))) (hn : behindInMarks op b = false) (ha : EV X G ma a fa) (hb : EV X G mb b fb) : CV X G (.Compare a [op] [b] pos) (e2 (cmD cm) fa fb) := by
  refine cv_2 ho hn ha hb fun c T fp ρ S S' σ H0 H x y d v w Fx Fy Q ok e dx dy ax ay rx ry hf q => ?_
  unfold cmD at hf
  split at hf
  · obtain ⟨rfl, rfl⟩ := M.pure_some hf
    cases dx; cases dy
    exact ⟨_, _, rfl, rfl, q _ H [] Ext.refl rfl (.bl _) av0 (ResOk.imm rfl)⟩
  · exact (M.fail_some hf).elim
theorem cv_lt (ha : EV X G ma a fa) (hb : EV X G mb b fb) : CV X G (.Compare a [.Lt] [b] pos) (e2 (cmD .lt) fa fb) := cv_cmI op_lt (nomark _) ha hb
theorem cv_le (ha : EV X G ma a fa) (hb : EV X G mb b fb) : CV X G (.Compare a [.LtE] [b] pos) (e2 (cmD .le) fa fb) := cv_cmI op_le (nomark _) ha hb
theorem cv_gt (ha : EV X G ma a fa) (hb : EV X G mb b fb) : CV X G (.Compare a [.Gt] [b] pos) (e2 (cmD .gt) fa fb) := cv_cmI op_gt (nomark _) ha hb
theorem cv_ge (ha : EV X G ma a fa) (hb : EV X G mb b fb) : CV X G (.Compare a [.GtE] [b] pos) (e2 (cmD .ge) fa fb) := cv_cmI op_ge (nomark _) ha hb
theorem isN_eq {K : PySem.W.Frag} {H : Hp} {v : V} {d : D} {F : List Addr} (h : Den K H v d F) : decide (v = .non) = isNoneD d := by
  cases h <;> first | rfl | (exact decide_eq_false (fun z => nomatch z))
theorem cv_is {j p2} (ha : EV X G ma a fa) : CV X G (.Compare a [.Is] [.Constant .none j p2] pos) (DL.e1 (isD false) fa) := by
  refine cv_1 op_isN (nomark _) ha pe_non fun c T fp ρ S S' σ H0 H x d v Fx Q ok e dx ax rx hf q => ?_
  obtain ⟨rfl, rfl⟩ := M.pure_some hf
  refine ⟨rfl, ?_⟩
  rw [isN_eq dx]
  exact q _ H [] Ext.refl rfl (.bl _) av0 (ResOk.imm rfl)
theorem cv_isnot {j p2} (ha : EV X G ma a fa) : CV X G (.Compare a [.IsNot] [.Constant .none j p2] pos) (DL.e1 (isD true) fa) := by
  refine cv_1 op_notN (nomark _) ha pe_non fun c T fp ρ S S' σ H0 H x d v Fx Q ok e dx ax rx hf q => ?_
  obtain ⟨rfl, rfl⟩ := M.pure_some hf
  refine ⟨rfl, ?_⟩
  rw [isN_eq dx]
  exact q _ H [] Ext.refl rfl (.bl _) av0 (ResOk.imm rfl)
theorem cv_isB {j p2} {k : Bool} (ha : EV X G ma a fa) : CV X G (.Compare a [.Is] [.Constant (.bool k) j p2] pos) (DL.e1 (isBD false k) fa) := by
  refine cv_1 op_isBl (nomark _) ha pe_bl fun c T fp ρ S S' σ H0 H x d v Fx Q ok e dx ax rx hf q => ?_
  unfold isBD at hf
  split at hf
  · obtain ⟨rfl, rfl⟩ := M.pure_some hf
    cases dx
    refine ⟨_, _, rfl, rfl, ?_⟩
    rw [← Bool.beq_eq_decide_eq]
    exact q _ H [] Ext.refl rfl (.bl _) av0 (ResOk.imm rfl)
  · exact (M.fail_some hf).elim
theorem cv_isnotB {j p2} {k : Bool} (ha : EV X G ma a fa) : CV X G (.Compare a [.IsNot] [.Constant (.bool k) j p2] pos) (DL.e1 (isBD true k) fa) := by
  refine cv_1 op_notBl (nomark _) ha pe_bl fun c T fp ρ S S' σ H0 H x d v Fx Q ok e dx ax rx hf q => ?_
  unfold isBD at hf
  split at hf
  · obtain ⟨rfl, rfl⟩ := M.pure_some hf
    cases dx
    refine ⟨_, _, rfl, rfl, ?_⟩
    rw [← Bool.beq_eq_decide_eq]
    exact q _ H [] Ext.refl rfl (.bl _) av0 (ResOk.imm rfl)
  · exact (M.fail_some hf).elim

/-! ### items, slices -/
theorem seq_cases {K : PySem.W.Frag} {H : Hp} {v : V} {d : D} {F : List Addr} {ds : List D} (h : Den K H v d F) (e : seqOf d = some ds) : ∃ p xs G, v = .ref p ∧ (SqL K H p xs ∨ SqT K H p xs) ∧ DenL K H xs ds G ∧ ∀ z ∈ G, z ∈ F := by
  cases h with
  | lst e1 l =>
    cases e
    exact ⟨_, _, _, rfl, .inl (.inl (.inl e1)), l, fun z q => List.mem_cons_of_mem _ q⟩
  | tup e1 l =>
    cases e
    exact ⟨_, _, _, rfl, .inr e1.sq, l, fun z q => q⟩
  | non => cases e
  | bl => cases e
  | int => cases e
  | str => cases e
  | dctK => cases e
  | dctT => cases e
theorem idxD_some {x y d : D} {S S' : Src} (h : idxD x y S = some (d, S')) : ∃ i xs j, y = .int i ∧ seqOf x = some xs ∧ ixD xs.length i = some j ∧ xs[j]? = some d ∧ S' = S := by
  unfold idxD at h
  split at h
  · rename_i i
    cases e : seqOf x with
    | none => rw [e] at h; exact (M.fail_some h).elim
    | some xs =>
      rw [e] at h
      cases q : ixD xs.length i with
      | none => simp only [q, Option.bind_none] at h; exact (M.fail_some h).elim
      | some j =>
        cases e' : xs[j]? with
        | none => simp only [q, e', Option.bind_some] at h; exact (M.fail_some h).elim
        | some d' =>
          simp only [q, e', Option.bind_some] at h
          obtain ⟨rfl, rfl⟩ := M.pure_some h
          exact ⟨i, xs, j, rfl, rfl, q, e', rfl⟩
  · exact (M.fail_some h).elim
theorem ev_idx (ha : EV X G ma a fa) (hb : EV X G mb b fb) (hs : PlainIx b) (hm : m = .bor ∨ (m = .val ∧ ma = .val)) : EV X G m (.Subscript a b pos) (e2 idxD fa fb) := by
  refine ev_2 (pe_ix (ix_list.or ix_tup) ha hb hs) fun c T fp ρ S S' σ H0 H x y d v w Fx Fy Q ok e dx dy ax ay rx ry hf q => ?_
  obtain ⟨i, xs, j, rfl, h1, h2, h3, rfl⟩ := idxD_some hf
  cases dy
  obtain ⟨p, vs, Gs, rfl, sq, l, hG⟩ := seq_cases dx h1
  obtain ⟨y, F, e1, e2, e3⟩ := l.get h3
  have at_ : atI vs i = some y := by
    unfold atI
    rw [l.length, ← ixD_eq, h2]
    exact e1
  have qq := q y H F Ext.refl rfl e2 (fun z hz => ax z (hG z (e3 z hz))) (by
    rcases hm with rfl | ⟨rfl, rfl⟩
    · trivial
    · exact fun i' d' hi hd z hz => rx i' d' hi hd z (hG z (e3 z hz)))
  rcases sq with sq | sq
  · exact .inl ⟨p, vs, i, y, rfl, rfl, sq, at_, qq⟩
  · exact .inr ⟨p, vs, i, y, rfl, rfl, sq, at_, qq⟩
/-- an optional part of a slice -/
abbrev OV (X : Cx) (G : Sg) (o : Option Expr) (f : Option EF) : Prop := PO X o (fun σ H Q => ∃ c T fp ρ S d S', StOk X.K G c T fp ρ S σ H ∧ partD f ρ S = some (d, S') ∧ ∀ H', StOk X.K G c T fp ρ S' σ H' → Ext c.R H H' → Q d H')
theorem ov_none : OV X G none none := by
  refine ⟨fun pins s σ H Q I h => po_none.run pins s σ H Q I ?_⟩
  obtain ⟨c, T, fp, ρ, S, d, S', ok, hf, q⟩ := h
  obtain ⟨rfl, rfl⟩ := M.pure_some hf
  exact q H ok Ext.refl
theorem ov_some (ha : EV X G ma a fa) : OV X G (some a) (some fa) := by
  refine ⟨fun pins s σ H Q I h => (po_some ha).run pins s σ H Q I ?_⟩
  obtain ⟨c, T, fp, ρ, S, d, S', ok, hf, q⟩ := h
  obtain ⟨x, S1, h1, hf⟩ := M.bind_some hf
  split at hf
  · obtain ⟨rfl, rfl⟩ := M.pure_some hf
    refine ⟨c, T, fp, ρ, S, _, _, ok, h1, fun v H' F ok' e dn av r => ?_⟩
    cases dn
    exact ⟨_, rfl, q H' ok' e⟩
  · exact (M.fail_some hf).elim
theorem DenL.cut {K : PySem.W.Frag} {H : Hp} : ∀ {vs : List V} {ds : List D} {F : List Addr} (n k : Nat), DenL K H vs ds F → ∃ F', DenL K H ((vs.drop n).take k) ((ds.drop n).take k) F' ∧ ∀ z ∈ F', z ∈ F
  | _, _, _, n, 0, _ => ⟨[], by simpa using DenL.nil, fun _ z => nomatch z⟩
  | _, _, _, n, k + 1, .nil => ⟨[], by simpa using DenL.nil, fun _ z => nomatch z⟩
  | _, _, _, 0, k + 1, .cons h l => by
    obtain ⟨F', h1, h2⟩ := DenL.cut 0 k l
    refine ⟨_, .cons h (by simpa using h1), fun z q => ?_⟩
    rcases List.mem_append.mp q with q | q
    · exact List.mem_append_left _ q
    · exact List.mem_append_right _ (h2 z q)
  | _, _, _, n + 1, k + 1, .cons h l => by
    obtain ⟨F', h1, h2⟩ := DenL.cut n (k + 1) l
    exact ⟨F', by simpa using h1, fun z q => List.mem_append_right _ (h2 z q)⟩
theorem slice_core {K : PySem.W.Frag} {c : Cc} {T : List Tmp} {fp : Nat → List Addr} {ρ : Env} {S S2 : Src} {σ : St} {H0 H : Hp} {own : Bool} {x d : D} {v : V} {Fx : List Addr} {lo hi : Option Int} {Q : VK} (ok : StOk K G c T fp ρ S σ H) (e : Ext c.R H0 H) (dx : Den K H v x Fx) (ax : ∀ a ∈ Fx, ¬ c.P a) (rx : ResOk G fp ρ H0 ma Fx)
    (hm : if own = true then m = .own else ma = .val ∧ m = .val) (hf : sliceD own lo hi x S = some (d, S2)) (q : ∀ v H' F, Ext [] H H' → S2 = S → Den K H' v d F → (∀ a ∈ F, ¬ c.P a) → ResOk G fp ρ H0 m F → Q v H') : rSlL K v lo hi H Q ∨ rSlF K v lo hi H Q := by
  unfold sliceD at hf
  have key : ∀ {xs : List D} {F : List Addr}, (!own || immAll xs) = true → (∀ vs, DenL K H vs xs F → (∀ z ∈ F, z ∈ Fx) → ∃ F', DenL K H ((vs.drop (slD xs.length 0 lo)).take (slD xs.length xs.length hi - slD xs.length 0 lo)) (cutD xs lo hi) F' ∧ (∀ z ∈ F', z ∈ Fx) ∧ (own = true → F' = [])) := by
    intro xs F h1 vs l hF
    obtain ⟨F', l', hF'⟩ := l.cut (slD xs.length 0 lo) (slD xs.length xs.length hi - slD xs.length 0 lo)
    refine ⟨F', l', fun z hz => hF z (hF' z hz), fun ho => ?_⟩
    subst ho
    obtain rfl := l.imm (by simpa using h1)
    exact List.eq_nil_iff_forall_not_mem.mpr fun z hz => nomatch hF' z hz
  have fin : ∀ {F' : List Addr}, (∀ z ∈ F', z ∈ Fx) → (own = true → F' = []) → ResOk G fp ρ H0 m F' := by
    intro F' h1 h2
    cases own with
    | true =>
      exact ResOk.imm (h2 rfl)
    | false =>
      obtain ⟨rfl, rfl⟩ := hm
      exact fun i d hi hd z hz => rx i d hi hd z (h1 z hz)
  split at hf
  · obtain ⟨h1, hf⟩ := M.chk_bind hf
    obtain ⟨rfl, rfl⟩ := M.pure_some hf
    cases dx with
    | tup e1 l1 =>
      obtain ⟨F', l', hF', hi'⟩ := key h1 _ l1 fun z hz => hz
      have le := l1.length
      refine .inr ⟨_, _, rfl, e1.sq, fun hw => ?_, fun hw p o n ho => ?_⟩
      · have l' := l'
        rw [← le, slD_eq, slD_eq, hw.1, hw.2, List.drop_zero, List.take_of_length_le (by omega)] at l'
        exact q _ H F' Ext.refl rfl (.tup e1 l') (fun z hz => ax z (hF' z hz)) (fin hF' hi')
      · have l2 := l'
        rw [← le, slD_eq, slD_eq] at l2
        exact q _ _ F' (Ext.new n) rfl (Den.newT n ho l2) (fun z hz => ax z (hF' z hz)) (fin hF' hi')
  · obtain ⟨h1, hf⟩ := M.chk_bind hf
    obtain ⟨rfl, rfl⟩ := M.pure_some hf
    cases dx with
    | lst e1 l1 =>
      obtain ⟨F', l', hF', hi'⟩ := key h1 _ l1 fun z hz => List.mem_cons_of_mem _ hz
      have le := l1.length
      refine .inl ⟨_, _, rfl, .inl (.inl e1), fun p n => ?_⟩
      have l2 := l'
      rw [← le, slD_eq, slD_eq] at l2
      refine q _ _ (p :: F') (Ext.new n) rfl (Den.newL n l2) (ok.avc n fun z hz => ax z (hF' z hz)) ?_
      cases own with
      | true =>
        have hm' : m = .own := hm
        subst hm'
        rw [hi' rfl]
        exact ResOk.one (e.back0 ok n)
      | false =>
        obtain ⟨rfl, rfl⟩ := hm
        intro i d hi hd z hz w
        rcases List.mem_cons.mp hz with rfl | hz
        · obtain ⟨v', _, dn⟩ := ok.den i d hd
          exact dn.dom _ w n
        · exact rx i d hi hd z (hF' z hz) w
  · exact (M.fail_some hf).elim
theorem ev_sliceG {own : Bool} {lo hi : Option Expr} {fl fh : Option EF} {p2 : Pos} (hm : if own = true then m = .own else ma = .val ∧ m = .val) (ha : EV X G ma a fa) (hl : OV X G lo fl) (hh : OV X G hi fh) : EV X G m (.Subscript a (.Slice lo hi none p2) pos) (eSlice own fa fl fh) := by
  refine PE.mono (pe_slice (sl_list.or sl_tupF) ha hl hh) fun σ H Q h => ?_
  obtain ⟨c, T, fp, ρ, S, d, S', ok, hf, q⟩ := h
  obtain ⟨x, S1, h1, hf⟩ := M.bind_some hf
  obtain ⟨l, S2, h2, hf⟩ := M.bind_some hf
  obtain ⟨u, S3, h3, hf⟩ := M.bind_some hf
  refine ⟨c, T, fp, ρ, S, x, S1, ok, h1, fun v H1 Fx ok1 e1 dx ax rx => ?_⟩
  refine ⟨c, T, fp, ρ, S1, l, S2, ok1, h2, fun H2 ok2 e2 => ?_⟩
  refine ⟨c, T, fp, ρ, S2, u, S3, ok2, h3, fun H3 ok3 e3 => ?_⟩
  have e := (e1.trans e2).trans e3
  exact slice_core (m := m) ok3 e (dx.ext (e2.trans e3) fun z hz => ok.notR (ax z hz)) ax rx hm hf fun v' H' F ex es den av res => q v' H' F (by rw [es]; exact ok3.grow ex) (e.trans (ex.mono fun _ z => nomatch z)) den av res
theorem ev_slice {lo hi : Option Expr} {fl fh : Option EF} {p2 : Pos} (ha : EV X G ma a fa) (hl : OV X G lo fl) (hh : OV X G hi fh) : EV X G .own (.Subscript a (.Slice lo hi none p2) pos) (eSlice true fa fl fh) := ev_sliceG (own := true) rfl ha hl hh
theorem ev_sliceV {lo hi : Option Expr} {fl fh : Option EF} {p2 : Pos} (ha : EV X G .val a fa) (hl : OV X G lo fl) (hh : OV X G hi fh) : EV X G .val (.Subscript a (.Slice lo hi none p2) pos) (eSlice false fa fl fh) := ev_sliceG (own := false) ⟨rfl, rfl⟩ ha hl hh
end
end DL

/-! DS4: tests, displays, calls. -/
namespace DL
open PySem PySem.Spec PyProof.Rows L2

section
variable {X : Cx} {G : Sg} {m ma mb : Md} {a b c' : Expr} {fa fb fc : EF} {ta tb : TF} {pos : Pos} {es : List Expr} {fs : LF}

/-! ### tests -/
theorem tv_pw (h : TW X G a ta) : TV X G a ta := h.pt
theorem tv_not (h : TV X G a ta) : TV X G (.UnaryOp .Not a pos) (tNot ta) := by
  refine PT.mono (pt_not h) fun σ H Q hh => ?_
  obtain ⟨c, T, fp, ρ, S, d, S', ok, hf, q⟩ := hh
  obtain ⟨x, S1, h1, hf⟩ := M.bind_some hf
  obtain ⟨rfl, rfl⟩ := M.pure_some hf
  exact ⟨c, T, fp, ρ, S, x, _, ok, h1, q⟩
theorem tw_and1 (h : TV X G a ta) : TW X G (.BoolOp .And [a] pos) ta := pw_and1 h
theorem tw_or1 (h : TV X G a ta) : TW X G (.BoolOp .Or [a] pos) ta := pw_or1 h
theorem tw_and {rest : List Expr} (h : TV X G a ta) (h2 : TW X G (.BoolOp .And (b :: rest) pos) tb) : TW X G (.BoolOp .And (a :: b :: rest) pos) (tAnd ta tb) := by
  refine PW.mono (pw_and h h2) fun σ H Q hh => ?_
  obtain ⟨c, T, fp, ρ, S, d, S', ok, hf, q⟩ := hh
  obtain ⟨x, S1, h1, hf⟩ := M.bind_some hf
  refine ⟨c, T, fp, ρ, S, x, S1, ok, h1, fun H1 ok1 e1 => ?_⟩
  by_cases hx : x = true
  · rw [if_pos hx] at hf ⊢
    exact ⟨c, T, fp, ρ, S1, d, S', ok1, hf, fun H2 ok2 e2 => q H2 ok2 (e1.trans e2)⟩
  · rw [if_neg hx] at hf ⊢
    obtain ⟨rfl, rfl⟩ := M.pure_some hf
    exact q H1 ok1 e1
theorem tw_or {rest : List Expr} (h : TV X G a ta) (h2 : TW X G (.BoolOp .Or (b :: rest) pos) tb) : TW X G (.BoolOp .Or (a :: b :: rest) pos) (tOr ta tb) := by
  refine PW.mono (pw_or h h2) fun σ H Q hh => ?_
  obtain ⟨c, T, fp, ρ, S, d, S', ok, hf, q⟩ := hh
  obtain ⟨x, S1, h1, hf⟩ := M.bind_some hf
  refine ⟨c, T, fp, ρ, S, x, S1, ok, h1, fun H1 ok1 e1 => ?_⟩
  by_cases hx : x = true
  · rw [if_pos hx] at hf ⊢
    obtain ⟨rfl, rfl⟩ := M.pure_some hf
    exact q H1 ok1 e1
  · rw [if_neg hx] at hf ⊢
    exact ⟨c, T, fp, ρ, S1, d, S', ok1, hf, fun H2 ok2 e2 => q H2 ok2 (e1.trans e2)⟩
/-- as values -/
theorem ev_one {op} (h : EV X G m a fa) : EV X G m (.BoolOp op [a] pos) fa := pe_one h
theorem ev_and {rest : List Expr} (h : EV X G ma a fa) (h2 : EV X G m (.BoolOp .And (b :: rest) pos) fb) : EV X G m (.BoolOp .And (a :: b :: rest) pos) (eAnd fa fb) := by
  refine PE.mono (pe_and h h2) fun σ H Q hh => ?_
  obtain ⟨c, T, fp, ρ, S, d, S', ok, hf, q⟩ := hh
  obtain ⟨x, S1, h1, hf⟩ := M.bind_some hf
  refine ⟨c, T, fp, ρ, S, x, S1, ok, h1, fun v H1 F ok1 e1 dn av r => ?_⟩
  split at hf
  · cases dn
    exact ⟨_, rfl, iteT ⟨c, T, fp, ρ, S1, d, S', ok1, hf, fun v2 H2 F2 ok2 e2 d2 av2 r2 => q v2 H2 F2 ok2 (e1.trans e2) d2 av2 (r2.back e1 ok.hP av2)⟩⟩
  · cases dn
    obtain ⟨rfl, rfl⟩ := M.pure_some hf
    exact ⟨_, rfl, iteF (q _ H1 [] ok1 e1 (.bl _) av0 (ResOk.imm rfl))⟩
  · exact (M.fail_some hf).elim
theorem ev_or {rest : List Expr} (h : EV X G ma a fa) (h2 : EV X G m (.BoolOp .Or (b :: rest) pos) fb) : EV X G m (.BoolOp .Or (a :: b :: rest) pos) (eOr fa fb) := by
  refine PE.mono (pe_or h h2) fun σ H Q hh => ?_
  obtain ⟨c, T, fp, ρ, S, d, S', ok, hf, q⟩ := hh
  obtain ⟨x, S1, h1, hf⟩ := M.bind_some hf
  refine ⟨c, T, fp, ρ, S, x, S1, ok, h1, fun v H1 F ok1 e1 dn av r => ?_⟩
  split at hf
  · cases dn
    obtain ⟨rfl, rfl⟩ := M.pure_some hf
    exact ⟨_, rfl, iteT (q _ H1 [] ok1 e1 (.bl _) av0 (ResOk.imm rfl))⟩
  · cases dn
    exact ⟨_, rfl, iteF ⟨c, T, fp, ρ, S1, d, S', ok1, hf, fun v2 H2 F2 ok2 e2 d2 av2 r2 => q v2 H2 F2 ok2 (e1.trans e2) d2 av2 (r2.back e1 ok.hP av2)⟩⟩
  · exact (M.fail_some hf).elim
theorem ev_not (h : EV X G ma a fa) : EV X G .own (.UnaryOp .Not a pos) (DL.e1 notD fa) := by
  refine ev_1 (r := fun x H Q => ∃ c, x = .bl c ∧ Q (.bl (!c)) H) (pe_not h) fun c T fp ρ S S' σ H0 H x d v Fx Q ok e dx ax rx hf q => ?_
  unfold notD at hf
  split at hf
  · obtain ⟨rfl, rfl⟩ := M.pure_some hf
    cases dx
    exact ⟨_, rfl, q _ H [] Ext.refl rfl (.bl _) av0 (ResOk.imm rfl)⟩
  · exact (M.fail_some hf).elim
theorem ev_if {t : TF} {cnd : Expr} (ht : TV X G cnd t) (ha : EV X G m a fa) (hb : EV X G m b fb) : EV X G m (.IfExp cnd a b pos) (eIf t fa fb) := by
  refine PE.mono (pe_ifExp ht ha hb) fun σ H Q hh => ?_
  obtain ⟨c, T, fp, ρ, S, d, S', ok, hf, q⟩ := hh
  obtain ⟨x, S1, h1, hf⟩ := M.bind_some hf
  refine ⟨c, T, fp, ρ, S, x, S1, ok, h1, fun H1 ok1 e1 => ?_⟩
  by_cases hx : x = true
  · rw [if_pos hx] at hf ⊢
    exact ⟨c, T, fp, ρ, S1, d, S', ok1, hf, fun v2 H2 F2 ok2 e2 d2 av2 r2 => q v2 H2 F2 ok2 (e1.trans e2) d2 av2 (r2.back e1 ok.hP av2)⟩
  · rw [if_neg hx] at hf ⊢
    exact ⟨c, T, fp, ρ, S1, d, S', ok1, hf, fun v2 H2 F2 ok2 e2 d2 av2 r2 => q v2 H2 F2 ok2 (e1.trans e2) d2 av2 (r2.back e1 ok.hP av2)⟩
/-- a < b < c -/
theorem cv_chain {op op' : CmpOp} {r r' : R2} {o1 o2 : D → D → M D} {mc : Md} (ho : OpR X (compareOp op) r) (ho' : OpR X (compareOp op') r') (ha : EV X G ma a fa) (hb : EV X G mb b fb) (hc : EV X G mc c' fc)
    (hr : ∀ (c : Cc) (T : List Tmp) (fp : Nat → List Addr) (ρ : Env) (S S' : Src) (σ : St) (H0 H : Hp) (x y d : D) (v w : V) (Fx Fy : List Addr) (Q : VK), StOk X.K G c T fp ρ S σ H → Ext c.R H0 H → Den X.K H v x Fx → Den X.K H w y Fy → (∀ a ∈ Fx, ¬ c.P a) → (∀ a ∈ Fy, ¬ c.P a) →
      ResOk G fp ρ H0 ma Fx → ResOk G fp ρ H0 mb Fy → o1 x y S = some (d, S') →
      (∀ v H' F, Ext [] H H' → S' = S → Den X.K H' v d F → (∀ a ∈ F, ¬ c.P a) → ResOk G fp ρ H0 .own F → Q v H') → r v w H Q)
    (hr' : ∀ (c : Cc) (T : List Tmp) (fp : Nat → List Addr) (ρ : Env) (S S' : Src) (σ : St) (H0 H : Hp) (x y d : D) (v w : V) (Fx Fy : List Addr) (Q : VK), StOk X.K G c T fp ρ S σ H → Ext c.R H0 H → Den X.K H v x Fx → Den X.K H w y Fy → (∀ a ∈ Fx, ¬ c.P a) → (∀ a ∈ Fy, ¬ c.P a) →
      ResOk G fp ρ H0 .bor Fx → ResOk G fp ρ H0 mc Fy → o2 x y S = some (d, S') →
      (∀ v H' F, Ext [] H H' → S' = S → Den X.K H' v d F → (∀ a ∈ F, ¬ c.P a) → ResOk G fp ρ H0 .own F → Q v H') → r' v w H Q) (hm : lastMarks [op, op'] [b, c'] = false := by with_unfolding_all rfl) : CV X G (.Compare a [op, op'] [b, c'] pos) (eChain o1 o2 fa fb fc) := by
  have key : ∀ σ H Q, tD X.K G .own (eChain o1 o2 fa fb fc) σ H Q → tChain r r' (tD X.K G ma fa) (tD X.K G mb fb) (tD X.K G mc fc) σ H Q := by
    intro σ H Q hh
    obtain ⟨c, T, fp, ρ, S, d, S', ok, hf, q⟩ := hh
    obtain ⟨x, S1, h1, hf⟩ := M.bind_some hf
    obtain ⟨y, S2, h2, hf⟩ := M.bind_some hf
    obtain ⟨z, S3, h3, hf3⟩ := M.bind_some hf
    clear hf
    refine tD.two ok h1 h2 fun v w H' Fx Fy ok' e dx dy ax ay rx ry => ?_
    refine hr c T fp ρ S2 S3 σ H H' x y z v w Fx Fy _ ok' e dx dy ax ay rx ry h3 fun v' H'' F e2 es dn av res => ?_
    subst es
    have ok2 := ok'.grow e2
    have e3 : Ext c.R H H'' := e.trans (e2.mono fun _ z => nomatch z)
    split at hf3
    · cases dn
      obtain ⟨u, S4, h4, hf4⟩ := M.bind_some hf3
      clear hf3
      refine ⟨_, rfl, iteT ⟨c, T, fp, ρ, _, u, S4, ok2, h4, fun w3 H3 F3 ok3 e4 d3 a3 r3 => ?_⟩⟩
      have e5 : Ext c.R H' H3 := (e2.mono fun _ z => nomatch z).trans e4
      refine hr' c T fp ρ S4 S' σ H'' H3 y u d w w3 Fy F3 Q ok3 e4 (dy.ext e5 fun z hz => ok.notR (ay z hz)) d3 ay a3 trivial r3 hf4 fun v4 H4 F4 e6 es4 d4 a4 r4 => ?_
      subst es4
      exact q v4 H4 F4 (ok3.grow e6) ((e3.trans e4).trans (e6.mono fun _ z => nomatch z)) d4 a4 (r4.back e3 ok.hP a4)
    · cases dn
      obtain ⟨rfl, rfl⟩ := M.pure_some hf3
      exact ⟨_, rfl, iteF (q _ H'' [] ok2 e3 (.bl _) av0 (ResOk.imm rfl))⟩
    · exact (M.fail_some hf3).elim
  exact ⟨PE.mono (pe_chain ho ho' ha hb hc hm) key, PT.mono (pt_chain ho ho' ha hb hc hm) (tv_of key)⟩

/-! ### lists of expressions, displays -/
theorem av_nil : AV X G m [] lNil := by
  refine PA.mono pa_nil fun σ H Q hh => ?_
  obtain ⟨c, T, fp, ρ, S, d, S', ok, hf, q⟩ := hh
  obtain ⟨rfl, rfl⟩ := M.pure_some hf
  exact q [] H [] ok Ext.refl .nil av0 (ResOk.imm rfl)
theorem ResOk.app {fp : Nat → List Addr} {ρ : Env} {H H1 : Hp} {A B : List Addr} (h1 : ResOk G fp ρ H m A) (h2 : ResOk G fp ρ H m B) (hd : ∀ z ∈ A, H1 z ≠ none) (h3 : ResOk G fp ρ H1 m B) : ResOk G fp ρ H m (A ++ B) := by
  cases m with
  | bor => trivial
  | val => exact fun i d hi he z hz => (List.mem_append.mp hz).elim (h1 i d hi he z) (h2 i d hi he z)
  | own =>
    refine ⟨List.nodup_append.mpr ⟨h1.1, h2.1, fun z hz w hw e => ?_⟩, fun z hz => (List.mem_append.mp hz).elim (h1.2 z) (h2.2 z)⟩
    subst e
    exact hd z hz (h3.2 z hw)
theorem av_cons (ha : EV X G m a fa) (hr : AV X G m es fs) (hs : starEach (a :: es) X.env = (false, eval a X.env) :: starEach es X.env := by rfl) : AV X G m (a :: es) (lCons fa fs) := by
  refine PA.mono (pa_cons ha hr hs) fun σ H Q hh => ?_
  obtain ⟨c, T, fp, ρ, S, d, S', ok, hf, q⟩ := hh
  obtain ⟨x, S1, h1, hf⟩ := M.bind_some hf
  obtain ⟨xs, S2, h2, hf⟩ := M.bind_some hf
  obtain ⟨rfl, rfl⟩ := M.pure_some hf
  refine ⟨c, T, fp, ρ, S, x, S1, ok, h1, fun v H1 F1 ok1 e1 d1 a1 r1 => ?_⟩
  refine ⟨c, T, fp, ρ, S1, xs, _, ok1, h2, fun vs H2 F2 ok2 e2 d2 a2 r2 => ?_⟩
  refine q _ H2 _ ok2 (e1.trans e2) (.cons (d1.ext e2 fun z hz => ok.notR (a1 z hz)) d2) (fun z hz => (List.mem_append.mp hz).elim (a1 z) (a2 z)) ?_
  exact ResOk.app r1 (r2.back e1 ok.hP a2) (fun z hz => d1.dom z hz) r2
theorem av_star {p : Pos} (ha : EV X G ma a fa) (hr : AV X G m es fs) (hs : starEach (.Starred a p :: es) X.env = (true, eval a X.env) :: starEach es X.env := by rfl) : AV X G m (.Starred a p :: es) (lStar fa fs) := by
  refine PA.mono (StX.pa_star ha hr hs) fun σ H Q hh => ?_
  obtain ⟨c, T, fp, ρ, S, d, S', ok, hf, q⟩ := hh
  obtain ⟨x, S1, h1, hf⟩ := M.bind_some hf
  obtain ⟨xs, S2, h2, hf⟩ := M.bind_some hf
  refine ⟨c, T, fp, ρ, S, x, S1, ok, h1, fun v H1 F1 ok1 e1 d1 a1 r1 => ?_⟩
  cases e : seqOf x with
  | none => rw [e] at hf; exact (M.fail_some hf).elim
  | some ys =>
    rw [e] at hf
    obtain ⟨hi, hf⟩ := M.chk_bind hf
    obtain ⟨rfl, rfl⟩ := M.pure_some hf
    obtain ⟨p, vs, Gs, rfl, sq, l, hG⟩ := seq_cases d1 e
    obtain rfl := l.imm hi
    refine ⟨p, vs, rfl, sq.symm, c, T, fp, ρ, S1, xs, _, ok1, h2, fun ws H2 F2 ok2 e2 d2 a2 r2 => ?_⟩
    have l2 := (l.ext e2 fun _ z => nomatch z).append d2
    exact q _ H2 _ ok2 (e1.trans e2) l2 a2 (r2.back e1 ok.hP a2)
theorem ev_tup {k : Nat} (h : AV X G m es fs) : EV X G m (.Tuple es k pos) (eTup fs) := by
  refine PE.mono (pe_tupF h) fun σ H Q hh => ?_
  obtain ⟨c, T, fp, ρ, S, d, S', ok, hf, q⟩ := hh
  obtain ⟨xs, S1, h1, hf⟩ := M.bind_some hf
  obtain ⟨hl, hf⟩ := M.chk_bind hf
  obtain ⟨rfl, rfl⟩ := M.pure_some hf
  refine ⟨c, T, fp, ρ, S, xs, _, ok, h1, fun vs H1 F ok1 e1 d1 a1 r1 => ⟨by rw [d1.length]; exact fit_le hl, fun p o n ho => ?_⟩⟩
  exact q _ _ F (ok1.grow (Ext.new n)) (e1.trans (Ext.new n)) (Den.newT n ho d1) a1 r1
theorem ResOk.cons {K : PySem.W.Frag} {c : Cc} {T : List Tmp} {fp : Nat → List Addr} {ρ : Env} {S : Src} {σ : St} {H H1 : Hp} {vs : List V} {ds : List D} {A : List Addr} {p : Addr} (ok1 : StOk K G c T fp ρ S σ H1) (e1 : Ext c.R H H1) (h : ResOk G fp ρ H m A) (l : DenL K H1 vs ds A) (n : H1 p = none) : ResOk G fp ρ H m (p :: A) := by
  cases m with
  | bor => trivial
  | val =>
    intro i d hi hd z hz w
    rcases List.mem_cons.mp hz with rfl | hz
    · obtain ⟨v', _, dn⟩ := ok1.den i d hd
      exact dn.dom _ w n
    · exact h i d hi hd z hz w
  | own =>
    refine ⟨List.nodup_cons.mpr ⟨fun z => l.dom p z n, h.1⟩, fun z hz => ?_⟩
    rcases List.mem_cons.mp hz with rfl | hz
    · exact e1.back0 ok1 n
    · exact h.2 z hz
theorem ev_lst (h : AV X G m es fs) : EV X G m (.List es pos) (eLst fs) := by
  refine PE.mono (pe_lst h) fun σ H Q hh => ?_
  obtain ⟨c, T, fp, ρ, S, d, S', ok, hf, q⟩ := hh
  obtain ⟨xs, S1, h1, hf⟩ := M.bind_some hf
  obtain ⟨hl, hf⟩ := M.chk_bind hf
  obtain ⟨rfl, rfl⟩ := M.pure_some hf
  refine ⟨c, T, fp, ρ, S, xs, _, ok, h1, fun vs H1 F ok1 e1 d1 a1 r1 => ⟨by rw [d1.length]; exact fit_le hl, fun p n => ?_⟩⟩
  exact q _ _ _ (ok1.grow (Ext.new n)) (e1.trans (Ext.new n)) (Den.newL n d1) (ok1.avc n a1) (r1.cons ok1 e1 d1 n)
end

/-! ### calls of one's own defs -/
/-- the promise of a def that changes nothing of its caller's -/
def spD (K : PySem.W.Frag) (n : Nat) (own : Bool) (mf : List D → M D) : Sp := fun vs H Q _ => vs.length = n ∧ ∃ (P : Addr → Prop) (ds : List D) (F : List Addr) (S : Src) (r : D) (S' : Src), DenL K H vs ds F ∧ (∀ a ∈ F, ¬ P a) ∧ (∀ a, P a → H a ≠ none) ∧ mf ds S = some (r, S') ∧
  ∀ v H' F', Ext [] H H' → Den K H' v r F' → (∀ a ∈ F', ¬ P a) → (own = true → F'.Nodup ∧ ∀ a ∈ F', H a = none) → Q v H'
/-- .. of one that draws: the source is its first argument -/
def spM (K : PySem.W.Frag) (n : Nat) (own : Bool) (mf : List D → M D) : Sp := fun ws H Q _ => ws.length = n + 1 ∧ ∃ (p q : Addr) (vs : List V) (P : Addr → Prop) (ds : List D) (F : List Addr) (S : Src) (r : D) (S' : Src), ws = .ref p :: vs ∧ SrcAt H p q S ∧ P p ∧ P q ∧ DenL K H vs ds F ∧ (∀ a ∈ F, ¬ P a) ∧ (∀ a, P a → H a ≠ none) ∧ mf ds S = some (r, S') ∧
  ∀ v H' F', Ext [p, q] H H' → SrcAt H' p q S' → Den K H' v r F' → (∀ a ∈ F', ¬ P a) → (own = true → F'.Nodup ∧ ∀ a ∈ F', H a = none) → Q v H'
theorem noSrc_some {α : Type} {x : M α} {S S' : Src} {a : α} (h : noSrc x S = some (a, S')) : S' = S ∧ ∃ S1, x S = some (a, S1) := by
  unfold noSrc at h
  cases e : x S with
  | none => rw [e] at h; cases h
  | some p =>
    rw [e] at h
    cases h
    exact ⟨rfl, p.2, rfl⟩

section
variable {X : Cx} {G : Sg} {m : Md} {a : Expr} {pos p : Pos} {es : List Expr} {fs : LF} {k : Nat} {f : Addr} {fd : FuncData} {ps : List Str} {n : Nat} {mf : List D → M D} {x : Str} {own : Bool}
theorem call_core (hm : if own = true then m = .own else m = .bor) {σ : St} {H : Hp} {Q : VK} (h : tD X.K G m (eCall mf fs) σ H Q) (hl : ∀ vs ds F H, DenL X.K H vs ds F → (∃ S r, mf ds S = some r) → vs.length = n) :
    (tDA X.K G .bor fs) σ H fun vs H1 => spD X.K n own mf (vs ++ []) H1 Q E0 := by
  obtain ⟨c, T, fp, ρ, S, d, S', ok, hf, q⟩ := h
  obtain ⟨ds, S1, h1, hf⟩ := M.bind_some hf
  obtain ⟨rfl, S2, h2⟩ := noSrc_some hf
  refine ⟨c, T, fp, ρ, S, ds, _, ok, h1, fun vs H1 F ok1 e1 dn av r => ?_⟩
  show spD X.K n own mf (vs ++ []) H1 Q E0
  rw [List.append_nil]
  refine ⟨hl vs ds F H1 dn ⟨_, _, h2⟩, c.P, ds, F, _, d, S2, dn, av, fun z hz w => ok1.new_av w hz, h2, fun v H' F' e2 d2 a2 o2 => ?_⟩
  refine q v H' F' (ok1.grow e2) (e1.trans (e2.mono fun _ z => nomatch z)) d2 a2 ?_
  cases own with
  | true =>
    have hm' : m = .own := hm
    subst hm'
    exact ResOk.back (R := c.R) (P := c.P) (H' := H1) (m := .own) (o2 rfl) e1 ok.hP a2
  | false =>
    have hm' : m = .bor := hm
    subst hm'
    trivial
theorem ev_callG {own : Bool} (hm : if own = true then m = .own else m = .bor) (F : FnOk X.prog X.w X.K X.mg X.base CX0 k f fd ps (spD X.K n own mf)) (hr : Room k X.A) (hg : Gl X x) (hm2 : X.mg x = some (.ref f)) (hk : PySem.W.keepIn X.K (.ref f) = true) (hb : Binds X.K fd ps []) (ha : AV X G .bor (a :: es) fs)
    (hn : ∀ ds S r, mf ds S = some r → ds.length = n) (hdb : (x == ("__debug__" : Str)) = false := by decide) (he : starEach (a :: es) X.env = (false, eval a X.env) :: starEach es X.env := by rfl) (hpl : (backTo pos (starEach es X.env)).any (·.1) = false := by rfl) : EV X G m (.Call (.Name x p) (a :: es) [] pos) (eCall mf fs) :=
  PE.mono (pe_call F hr hg hm2 hk hb .nil pass0 ha hdb he hpl) fun σ H Q h => call_core hm h fun vs ds F H l ⟨S, r, e⟩ => l.length.trans (hn ds S r e)
theorem ev_call (F : FnOk X.prog X.w X.K X.mg X.base CX0 k f fd ps (spD X.K n true mf)) (hr : Room k X.A) (hg : Gl X x) (hm2 : X.mg x = some (.ref f)) (hk : PySem.W.keepIn X.K (.ref f) = true) (hb : Binds X.K fd ps []) (ha : AV X G .bor (a :: es) fs)
    (hn : ∀ ds S r, mf ds S = some r → ds.length = n) (hdb : (x == ("__debug__" : Str)) = false := by decide) (he : starEach (a :: es) X.env = (false, eval a X.env) :: starEach es X.env := by rfl) (hpl : (backTo pos (starEach es X.env)).any (·.1) = false := by rfl) : EV X G .own (.Call (.Name x p) (a :: es) [] pos) (eCall mf fs) := ev_callG (own := true) rfl F hr hg hm2 hk hb ha hn hdb he hpl
theorem ev_callB (F : FnOk X.prog X.w X.K X.mg X.base CX0 k f fd ps (spD X.K n false mf)) (hr : Room k X.A) (hg : Gl X x) (hm2 : X.mg x = some (.ref f)) (hk : PySem.W.keepIn X.K (.ref f) = true) (hb : Binds X.K fd ps []) (ha : AV X G .bor (a :: es) fs)
    (hn : ∀ ds S r, mf ds S = some r → ds.length = n) (hdb : (x == ("__debug__" : Str)) = false := by decide) (he : starEach (a :: es) X.env = (false, eval a X.env) :: starEach es X.env := by rfl) (hpl : (backTo pos (starEach es X.env)).any (·.1) = false := by rfl) : EV X G .bor (.Call (.Name x p) (a :: es) [] pos) (eCall mf fs) := ev_callG (own := false) rfl F hr hg hm2 hk hb ha hn hdb he hpl
/-- a call that draws -/
theorem ev_callMG {i : Nat} {sx : Str} {ps1 : Pos} {own : Bool} (hm : if own = true then m = .own else m = .bor) (hsc : G.sc = some i) (hN : X.N[i]? = some sx) (hv : Vis X.env.scope sx) (F : FnOk X.prog X.w X.K X.mg X.base CX0 k f fd ps (spM X.K n own mf)) (hr : Room k X.A) (hg : Gl X x) (hm2 : X.mg x = some (.ref f)) (hk : PySem.W.keepIn X.K (.ref f) = true) (hb : Binds X.K fd ps []) (ha : AV X G .bor es fs)
    (hn : ∀ ds S r, mf ds S = some r → ds.length = n) (hdb : (x == ("__debug__" : Str)) = false := by decide) (he : starEach (.Name sx ps1 :: es) X.env = (false, eval (.Name sx ps1) X.env) :: starEach es X.env := by rfl) (hpl : (backTo pos (starEach es X.env)).any (·.1) = false := by rfl)
    (hdb2 : (sx == ("__debug__" : Str)) = false := by decide) (hcd : (sx == ("__classdict__" : Str)) = false := by decide) : EV X G m (.Call (.Name x p) (.Name sx ps1 :: es) [] pos) (eCallM mf fs) := by
  refine PE.mono (pe_call F hr hg hm2 hk hb .nil pass0 (pa_cons (pe_var hN hv hdb2 hcd) ha he) hdb he hpl) fun σ H Q h => ?_
  obtain ⟨c, T, fp, ρ, S, d, S', ok, hf, q⟩ := h
  obtain ⟨ds, S1, h1, hf⟩ := M.bind_some hf
  have sOk := ok.src
  unfold SrcOk at sOk
  rw [hsc] at sOk
  cases e : c.src with
  | none =>
    rw [e] at sOk
    exact sOk.elim
  | some pq =>
    obtain ⟨p0, q0⟩ := pq
    rw [e] at sOk
    obtain ⟨s1, _⟩ := sOk
    refine ⟨.ref p0, s1, c, T, fp, ρ, S, ds, S1, ok, h1, fun vs H1 Fa ok1 e1 dn av r => ?_⟩
    have sOk1 := ok1.src
    unfold SrcOk at sOk1
    rw [hsc, e] at sOk1
    have hR : c.R = [p0, q0] := by
      unfold Cc.R
      rw [e]
    show spM X.K n own mf ((.ref p0 :: vs) ++ []) H1 Q E0
    rw [List.append_nil]
    refine ⟨by rw [List.length_cons, dn.length, hn ds S1 _ hf], p0, q0, vs, c.P, ds, Fa, S1, d, S', rfl, sOk1.2, ok.hP _ (by rw [hR]; simp), ok.hP _ (by rw [hR]; simp), dn, av, fun z hz w => ok1.new_av w hz, hf, fun v H' F' e2 sa d2 a2 o2 => ?_⟩
    rw [← hR] at e2
    refine q v H' F' (ok1.step e2 ?_) (e1.trans e2) d2 a2 ?_
    · unfold SrcOk
      rw [hsc, e]
      exact ⟨s1, sa⟩
    · cases own with
      | true =>
        have hm' : m = .own := hm
        subst hm'
        exact ResOk.back (R := c.R) (P := c.P) (H' := H1) (m := .own) (o2 rfl) e1 ok.hP a2
      | false =>
        have hm' : m = .bor := hm
        subst hm'
        trivial
end
end DL

/-! DS5: built-in functions. -/
namespace DL
open PySem PySem.Spec PyProof.Rows L2

/-! ### sorted -/
theorem each_den {K : PySem.W.Frag} {H : Hp} : ∀ {us : List Value} {ds : List D}, PySem.W.EachIs (fun u d => ∃ v, RelV v u ∧ Den K H v d []) us ds → ∃ vs, Vals vs us ∧ DenL K H vs ds []
  | _, _, .nil => ⟨[], .nil, .nil⟩
  | _, _, .cons ⟨v, r, d⟩ t => by
    obtain ⟨vs, h1, h2⟩ := each_den t
    exact ⟨v :: vs, .cons r h1, .cons d h2⟩
theorem den_each {K : PySem.W.Frag} {H : Hp} : ∀ {vs : List V} {us : List Value} {ds : List D}, Vals vs us → DenL K H vs ds [] → PySem.W.EachIs (fun u d => ∃ v, RelV v u ∧ Den K H v d []) us ds
  | _, _, _, .nil, l => by
    cases l
    exact .nil
  | v :: vs, _, d :: ds, .cons r t, l => by
    have l2 : ∃ A B, A ++ B = [] ∧ Den K H v d A ∧ DenL K H vs ds B := by
      generalize e : ([] : List Addr) = E at l
      cases l with
      | cons h1 h2 => exact ⟨_, _, rfl, h1, h2⟩
    obtain ⟨A, B, e, h1, h2⟩ := l2
    obtain ⟨rfl, rfl⟩ := List.append_eq_nil_iff.mp e
    exact .cons ⟨v, r, h1⟩ (den_each t h2)
  | v :: vs, _, [], .cons r t, l => by
    exact absurd (DenL.length l) (by simp)
theorem EachR.mono {α β : Type} {R R' : α → β → Prop} : ∀ {as : List α} {bs : List β}, PySem.W.EachIs R as bs → (∀ a b, b ∈ bs → R a b → R' a b) → PySem.W.EachIs R' as bs
  | _, _, .nil, _ => .nil
  | _, _, .cons h t, f => .cons (f _ _ List.mem_cons_self h) (EachR.mono t fun a b z => f a b (List.mem_cons_of_mem _ z))
theorem immAll_mem : ∀ {ds : List D}, immAll ds = true → ∀ d ∈ ds, imm d = true
  | [], _, _, z => nomatch z
  | d :: ds, h, x, z => by
    have h' : imm d = true ∧ immAll ds = true := by simpa [immAll] using h
    rcases List.mem_cons.mp z with rfl | z
    · exact h'.1
    · exact immAll_mem h'.2 x z
theorem immAll_of : ∀ {ds : List D}, (∀ d ∈ ds, imm d = true) → immAll ds = true
  | [], _ => rfl
  | d :: ds, h => by
    simp only [immAll, h d List.mem_cons_self, immAll_of fun x z => h x (List.mem_cons_of_mem _ z), Bool.and_self]
theorem sortable_alike {ds : List D} (h : sortable ds = true) : PySem.W.AllAlike ds := by
  unfold sortable at h
  obtain ⟨h, _⟩ := and_true h
  obtain ⟨h, _⟩ := and_true h
  exact fun d hd d' hd' => List.all_eq_true.mp (List.all_eq_true.mp h d hd) d' hd'
theorem sortable_sort {ds : List D} (h : sortable ds = true) : PySem.W.Sortable ds := by
  unfold sortable at h
  obtain ⟨h, _⟩ := and_true h
  obtain ⟨_, h⟩ := and_true h
  rcases Bool.or_eq_true_iff.mp h with h | h
  · refine .inl fun d hd => ?_
    have z := List.all_eq_true.mp h d hd
    unfold isTupCons at z
    split at z
    · exact ⟨_, _, rfl⟩
    · cases z
  · refine .inr fun d hd => ?_
    have z := List.all_eq_true.mp h d hd
    obtain ⟨z1, z2⟩ := and_true z
    refine ⟨fun e => ?_, fun xs e => ?_⟩
    · subst e
      cases z1
    · subst e
      cases z2
theorem sortable_depth {ds : List D} (h : sortable ds = true) : ∀ d ∈ ds, d.depth ≤ 64 := by
  unfold sortable at h
  obtain ⟨_, h⟩ := and_true h
  exact fun d hd => of_decide_eq_true (List.all_eq_true.mp h d hd)
theorem mem_sort {ds : List D} {d : D} (h : d ∈ ds.mergeSort leD) : d ∈ ds := by
  exact (List.mergeSort_perm ds leD).mem_iff.mp h
mutual
theorem reads_imm {h : Heap} : ∀ {u : Value} {d : D} {as : List Addr}, Reads h u d as → imm d = true → as = []
  | _, _, _, .none, _ => rfl
  | _, _, _, .bool _, _ => rfl
  | _, _, _, .int _ _, _ => rfl
  | _, _, _, .str _ _, _ => rfl
  | _, _, _, .list _ _ _ _, z => by simp [imm] at z
  | _, _, _, .tuple _ _ _ r, z => readsAll_imm r (by simpa [imm] using z)
  | _, _, _, .dict _ _ _ _ _, z => by simp [imm] at z
theorem readsAll_imm {h : Heap} : ∀ {us : List Value} {ds : List D} {as : List Addr}, ReadsAll h us ds as → immAll ds = true → as = []
  | _, _, _, .nil, _ => rfl
  | _, _, _, .cons (d := d) (ds := ds) a b, z => by
    have z' : imm d = true ∧ immAll ds = true := by simpa [immAll] using z
    rw [reads_imm a z'.1, readsAll_imm b z'.2]
    rfl
end
section
variable {X : Cx} {pins : List (Addr × Obj)} {σ : St} {H : Hp} {s : Shared}
/-- iter and collect: what a list, a tuple gives -/
def Collects (X : Cx) (u : Value) (us : List Value) (s : Shared) : Prop := ∀ (A : Around) (Q : List Value → Shared → Prop) (E : Value → Shared → Prop), A.handled = none →
  (∀ h' tk, (∀ b o, s.heap.get? b = some o → h'.get? b = some o) → Q us { s with heap := h', toks := tk }) → wpAny (model X.prog X.w) A (collect u) Q E s
theorem collects_seq {p : Addr} {xs : List V} (I : Inv X pins σ H s) (h : SqL X.K H p xs ∨ SqT X.K H p xs) : ∃ us, Vals xs us ∧ us.length ≤ sizeLine ∧ Collects X (.ref p) us s := by
  rcases h with h | h
  · obtain ⟨its, rv, ⟨o, n, ho, hc, _, hd⟩, hz⟩ := I.list h
    have hl := rv.length
    refine ⟨its, rv, by omega, fun A Q E _ q => ?_⟩
    exact wpAny_collect_seq p (.inl rfl) ho hc hd (fun h' k => q h' s.toks k) (by rw [List.size_toArray]; omega)
  · obtain ⟨its, rv, ⟨o, ho, hc, n, hd⟩, hz⟩ := I.tuple h
    have hl := rv.length
    refine ⟨its, rv, by omega, fun A Q E _ q => ?_⟩
    exact wpAny_collect_seq p (.inr rfl) ho hc hd (fun h' k => q h' s.toks k) (by rw [List.size_toArray]; omega)
theorem sorted_run {u : Value} {us : List Value} {vs : List V} {ds : List D} {Q : VK} (I : Inv X pins σ H s) (hc : X.calm = true) (hu : X.A.units + 128 < cLine) (hl : us.length ≤ sizeLine) (C : Collects X u us s) (rv : Vals vs us) (dn : DenL X.K H vs ds []) (hi : immAll ds = true) (hs : sortable ds = true)
    (q : ∀ p ys, H p = none → DenL X.K H ys (ds.mergeSort leD) [] → Q (.ref p) (upd H p (.lst ys))) : wpAny (model X.prog X.w) X.A (call (.builtin "sorted") [u]) (EP X pins σ Q) X.xe s := by
  refine Calls.call_function_entry kind_sorted plain_sorted entry_sorted (args_sorted1 _) ?_
  unfold Builtin.«sorted»
  refine wpAny_bind (m := checkCount "sorted" 1 1 _) (wpAny_pure ?_)
  refine wpAny_bind (C _ _ _ (I.ok.hd hc) fun h' tk hk => ?_)
  have I1 : Inv X pins σ H { s with heap := h', toks := tk } := I.kept hk
  refine wpAny_bind (wpAny_newList ?_ hl)
  have hL : (h'.push (seqObj "list" us.toArray 0)).get? h'.objs.size = some (seqObj "list" us.toArray 0) := Heap.get?_push_size _ rfl
  have hgrow : ∀ b o, h'.get? b = some o → (h'.push (seqObj "list" us.toArray 0)).get? b = some o := fun b o e => Heap.get?_push_of_some _ e
  have ee := den_each rv dn
  have ed := dn.length
  have hlen : us.length = ds.length := by rw [← rv.length]; exact ed
  have er : PySem.W.EachIs (fun v b => ∃ as, Reads (h'.push (seqObj "list" us.toArray 0)) v (id b) as ∧ h'.objs.size ∉ as) us ds := by
    refine EachR.mono ee fun a b hb ⟨v, r1, d1⟩ => ?_
    obtain ⟨as, rd⟩ := Dp.reads I1 b v a (d1.dpN (imm_noDict b (immAll_mem hi b hb))) r1
    refine ⟨as, PyProof.Rows.Reads.keeps hgrow rd, fun z => ?_⟩
    rw [reads_imm rd (immAll_mem hi b hb)] at z
    cases z
  refine wpAny_bind (wpAny_holding (PySem.W.list_sort_data (enc := id) (R := fun u d => ∃ v, RelV v u ∧ Den X.K H v d []) hL ee er (by rw [List.map_id]; exact sortable_alike hs) (by rw [List.map_id]; exact sortable_sort hs) (by rw [← hlen]; exact hl) (fun b hb => ?_) fun out ol oe => ?_))
  · have := sortable_depth hs b hb
    show X.A.units + 1 + 1 + b.depth < cLine
    omega
  · have eq1 : (PySem.W.dataLe false id : D → D → Bool) = leD := by
      rw [PySem.W.dataLe_eq]
      rfl
    rw [eq1] at oe
    obtain ⟨ys, rv2, dn2⟩ := each_den oe
    obtain ⟨e', he'⟩ := PyProof.Rows.sortedHeap_at (vs := us) (out := out.toArray) hL
    refine wpAny_pure ⟨_, rfl, .ref h'.objs.size, upd H h'.objs.size (.lst ys), I1.laid (t' := tk) (fun b o e => ?_) (Nat.le_refl _) (show ObjOk X.prog X.w _ _ _ (.lst ys) from ⟨?_, out, e', rv2, he'⟩), rfl, q _ ys (I1.hok.fresh (Nat.le_refl _)) dn2⟩
    · have hb : b < h'.objs.size := Heap.lt_size e
      rw [PyProof.Rows.sortedHeap_old (Nat.ne_of_lt hb) (by rw [size_push']; exact Nat.lt_succ_of_lt hb)]
      exact hgrow b o e
    · rw [rv2.length, ol, ← hlen]
      exact hl
end
end DL

/-! DS6: calls of built-in functions as expressions. -/
namespace DL
open PySem PySem.Spec PyProof.Rows L2

section
variable {X : Cx} {G : Sg} {m ma mb : Md} {a b : Expr} {fa fb : EF} {pos p : Pos} {x : Str}

/-- a built-in function of one argument -/
theorem ev_blt1 {id : String} {r : List V → Hp → VK → Prop} {op : D → M D} (hc : CallR X (.builtin id) r) (hg : Gl X x) (hm2 : X.mg x = none) (hv : bootBuiltins x = some (.builtin id)) (ha : EV X G ma a fa)
    (hr : ∀ (c : Cc) (T : List Tmp) (fp : Nat → List Addr) (ρ : Env) (S S' : Src) (σ : St) (H0 H : Hp) (x d : D) (v : V) (Fx : List Addr) (Q : VK), StOk X.K G c T fp ρ S σ H → Ext c.R H0 H → Den X.K H v x Fx → (∀ a ∈ Fx, ¬ c.P a) →
      ResOk G fp ρ H0 ma Fx → op x S = some (d, S') →
      (∀ v H' F, Ext [] H H' → S' = S → Den X.K H' v d F → (∀ a ∈ F, ¬ c.P a) → ResOk G fp ρ H0 m F → Q v H') → r [v] H Q) (hn : x ≠ "__name__" := by decide) (hdb : (x == ("__debug__" : Str)) = false := by decide)
    (he : starEach [a] X.env = (false, eval a X.env) :: starEach [] X.env := by rfl) (hpl : (backTo pos (starEach [] X.env)).any (·.1) = false := by rfl) : EV X G m (.Call (.Name x p) [a] [] pos) (DL.e1 op fa) :=
  PE.mono (pe_callB hc hg hm2 hv (pa_cons ha pa_nil he) hn hdb he hpl) (rd_1 (r := fun x H Q => r [x] H Q) hr)
theorem ev_ty1 {id : String} {r : List V → Hp → VK → Prop} {op : D → M D} (hc : CallR X (.type id) r) (hg : Gl X x) (hm2 : X.mg x = none) (hv : bootBuiltins x = some (.type id)) (ha : EV X G ma a fa)
    (hr : ∀ (c : Cc) (T : List Tmp) (fp : Nat → List Addr) (ρ : Env) (S S' : Src) (σ : St) (H0 H : Hp) (x d : D) (v : V) (Fx : List Addr) (Q : VK), StOk X.K G c T fp ρ S σ H → Ext c.R H0 H → Den X.K H v x Fx → (∀ a ∈ Fx, ¬ c.P a) →
      ResOk G fp ρ H0 ma Fx → op x S = some (d, S') →
      (∀ v H' F, Ext [] H H' → S' = S → Den X.K H' v d F → (∀ a ∈ F, ¬ c.P a) → ResOk G fp ρ H0 m F → Q v H') → r [v] H Q) (hn : x ≠ "__name__" := by decide) (hdb : (x == ("__debug__" : Str)) = false := by decide)
    (he : starEach [a] X.env = (false, eval a X.env) :: starEach [] X.env := by rfl) (hpl : (backTo pos (starEach [] X.env)).any (·.1) = false := by rfl) : EV X G m (.Call (.Name x p) [a] [] pos) (DL.e1 op fa) :=
  PE.mono (pe_callTy hc hg hm2 hv (pa_cons ha pa_nil he) hn hdb he hpl) (rd_1 (r := fun x H Q => r [x] H Q) hr)
/-- of two arguments -/
theorem ev_blt2 {id : String} {r : List V → Hp → VK → Prop} {op : D → D → M D} (hc : CallR X (.builtin id) r) (hg : Gl X x) (hm2 : X.mg x = none) (hv : bootBuiltins x = some (.builtin id)) (ha : EV X G ma a fa) (hb : EV X G mb b fb)
    (hr : ∀ (c : Cc) (T : List Tmp) (fp : Nat → List Addr) (ρ : Env) (S S' : Src) (σ : St) (H0 H : Hp) (x y d : D) (v w : V) (Fx Fy : List Addr) (Q : VK), StOk X.K G c T fp ρ S σ H → Ext c.R H0 H → Den X.K H v x Fx → Den X.K H w y Fy → (∀ a ∈ Fx, ¬ c.P a) → (∀ a ∈ Fy, ¬ c.P a) →
      ResOk G fp ρ H0 ma Fx → ResOk G fp ρ H0 mb Fy → op x y S = some (d, S') →
      (∀ v H' F, Ext [] H H' → S' = S → Den X.K H' v d F → (∀ a ∈ F, ¬ c.P a) → ResOk G fp ρ H0 m F → Q v H') → r [v, w] H Q) (hn : x ≠ "__name__" := by decide) (hdb : (x == ("__debug__" : Str)) = false := by decide)
    (he : starEach [a, b] X.env = (false, eval a X.env) :: starEach [b] X.env := by rfl) (he2 : starEach [b] X.env = (false, eval b X.env) :: starEach [] X.env := by rfl) (hpl : (backTo pos (starEach [b] X.env)).any (·.1) = false := by rfl) : EV X G m (.Call (.Name x p) [a, b] [] pos) (e2 op fa fb) :=
  PE.mono (pe_callB hc hg hm2 hv (pa_cons ha (pa_cons hb pa_nil he2) he) hn hdb he hpl) (rd_2 (r := fun x y H Q => r [x, y] H Q) hr)

theorem ev_len (hm2 : X.mg "len" = none) (ha : EV X G ma a fa) (hg : Gl X "len" := by rfl) (he : starEach [a] X.env = (false, eval a X.env) :: starEach [] X.env := by rfl) (hpl : (backTo pos (starEach [] X.env)).any (·.1) = false := by rfl) : EV X G .own (.Call (.Name "len" p) [a] [] pos) (DL.e1 lenD fa) := by
  refine ev_blt1 ((call_len_seq.or call_lenD).or call_len_dT) hg hm2 PySem.boot_len ha (fun c T fp ρ S S' σ H0 H x d v Fx Q ok e dx ax rx hf q => ?_) (by decide) (by decide) he hpl
  unfold lenD at hf
  split at hf
  · obtain ⟨rfl, rfl⟩ := M.pure_some hf
    cases dx with
    | lst e1 l =>
      refine .inl (.inl ⟨_, _, rfl, .inl (.inl (.inl e1)), ?_⟩)
      rw [l.length]
      exact q _ H [] Ext.refl rfl (.int _) av0 (ResOk.imm rfl)
  · obtain ⟨rfl, rfl⟩ := M.pure_some hf
    cases dx with
    | tup e1 l =>
      refine .inl (.inl ⟨_, _, rfl, .inr e1.sq, ?_⟩)
      rw [l.length]
      exact q _ H [] Ext.refl rfl (.int _) av0 (ResOk.imm rfl)
  · exact (M.fail_some hf).elim
theorem seq_bind {α : Type} {x : D} {f : List D → M α} {S S' : Src} {u : α} (h : (match seqOf x with
  | some xs => f xs
  | none => fail : M α) S = some (u, S')) : ∃ xs, seqOf x = some xs ∧ f xs S = some (u, S') := by
  cases e : seqOf x with
  | none => rw [e] at h; exact (M.fail_some h).elim
  | some xs =>
    rw [e] at h
    exact ⟨xs, rfl, h⟩
theorem seq_kind {K : PySem.W.Frag} {H : Hp} {v : V} {d : D} {F : List Addr} {ds : List D} (h : Den K H v d F) (e : seqOf d = some ds) : (∃ a vs F', v = .ref a ∧ H a = some (.lst vs) ∧ DenL K H vs ds F' ∧ F = a :: F') ∨ ∃ a vs, v = .ref a ∧ TupAt K H a vs ∧ DenL K H vs ds F := by
  cases h with
  | lst e1 l =>
    cases e
    exact .inl ⟨_, _, _, rfl, e1, l, rfl⟩
  | tup e1 l =>
    cases e
    exact .inr ⟨_, _, rfl, e1, l⟩
  | non => cases e
  | bl => cases e
  | int => cases e
  | str => cases e
  | dctK => cases e
  | dctT => cases e
theorem ev_tupleG {own : Bool} (hm : if own = true then m = .own else ma = .val ∧ m = .val) (hm2 : X.mg "tuple" = none) (ha : EV X G ma a fa) (hg : Gl X "tuple" := by rfl) (he : starEach [a] X.env = (false, eval a X.env) :: starEach [] X.env := by rfl) (hpl : (backTo pos (starEach [] X.env)).any (·.1) = false := by rfl) : EV X G m (.Call (.Name "tuple" p) [a] [] pos) (DL.e1 (tupleD own) fa) := by
  refine ev_ty1 call_tupleF hg hm2 (by decide +kernel) ha (fun c T fp ρ S S' σ H0 H x d v Fx Q ok e dx ax rx hf q => ?_) (by decide) (by decide) he hpl
  obtain ⟨xs, e1, hf⟩ := seq_bind hf
  obtain ⟨h1, hf⟩ := M.chk_bind hf
  obtain ⟨rfl, rfl⟩ := M.pure_some hf
  rcases seq_kind dx e1 with ⟨a, vs, F, rfl, e2, l, rfl⟩ | ⟨a, vs, rfl, e2, l⟩
  · refine ⟨_, _, rfl, .inl ⟨.inl (.inl e2), fun p o n ho => ?_⟩⟩
    refine q _ _ _ (Ext.new n) rfl (Den.newT n ho l) (fun z hz => ax z (List.mem_cons_of_mem _ hz)) ?_
    cases own with
    | true => exact ResOk.imm (l.imm (by simpa using h1))
    | false =>
      obtain ⟨rfl, rfl⟩ := hm
      exact fun i d hi hd z hz => rx i d hi hd z (List.mem_cons_of_mem _ hz)
  · refine ⟨_, _, rfl, .inr ⟨e2.sq, ?_⟩⟩
    refine q _ _ _ Ext.refl rfl (.tup e2 l) ax ?_
    cases own with
    | true => exact ResOk.imm (l.imm (by simpa using h1))
    | false =>
      obtain ⟨rfl, rfl⟩ := hm
      exact rx
theorem ev_tuple (hm2 : X.mg "tuple" = none) (ha : EV X G ma a fa) (hg : Gl X "tuple" := by rfl) (he : starEach [a] X.env = (false, eval a X.env) :: starEach [] X.env := by rfl) (hpl : (backTo pos (starEach [] X.env)).any (·.1) = false := by rfl) : EV X G .own (.Call (.Name "tuple" p) [a] [] pos) (DL.e1 (tupleD true) fa) := ev_tupleG (own := true) rfl hm2 ha hg he hpl
theorem ev_tupleV (hm2 : X.mg "tuple" = none) (ha : EV X G .val a fa) (hg : Gl X "tuple" := by rfl) (he : starEach [a] X.env = (false, eval a X.env) :: starEach [] X.env := by rfl) (hpl : (backTo pos (starEach [] X.env)).any (·.1) = false := by rfl) : EV X G .val (.Call (.Name "tuple" p) [a] [] pos) (DL.e1 (tupleD false) fa) := ev_tupleG (own := false) ⟨rfl, rfl⟩ hm2 ha hg he hpl
theorem ev_listG {own : Bool} (hm : if own = true then m = .own else ma = .val ∧ m = .val) (hm2 : X.mg "list" = none) (ha : EV X G ma a fa) (hg : Gl X "list" := by rfl) (he : starEach [a] X.env = (false, eval a X.env) :: starEach [] X.env := by rfl) (hpl : (backTo pos (starEach [] X.env)).any (·.1) = false := by rfl) : EV X G m (.Call (.Name "list" p) [a] [] pos) (DL.e1 (listD own) fa) := by
  refine ev_ty1 call_list_of hg hm2 (by decide +kernel) ha (fun c T fp ρ S S' σ H0 H x d v Fx Q ok e dx ax rx hf q => ?_) (by decide) (by decide) he hpl
  obtain ⟨xs, e1, hf⟩ := seq_bind hf
  obtain ⟨h1, hf⟩ := M.chk_bind hf
  obtain ⟨rfl, rfl⟩ := M.pure_some hf
  obtain ⟨p, vs, F, rfl, sq, l, hF⟩ := seq_cases dx e1
  refine ⟨_, _, rfl, sq, fun p n => ?_⟩
  refine q _ _ _ (Ext.new n) rfl (Den.newL n l) (ok.avc n fun z hz => ax z (hF z hz)) ?_
  have r2 : ResOk G fp ρ H0 m F := by
    cases own with
    | true => exact ResOk.imm (l.imm (by simpa using h1))
    | false =>
      obtain ⟨rfl, rfl⟩ := hm
      exact fun i d hi hd z hz => rx i d hi hd z (hF z hz)
  exact r2.cons ok e l n
theorem ev_list (hm2 : X.mg "list" = none) (ha : EV X G ma a fa) (hg : Gl X "list" := by rfl) (he : starEach [a] X.env = (false, eval a X.env) :: starEach [] X.env := by rfl) (hpl : (backTo pos (starEach [] X.env)).any (·.1) = false := by rfl) : EV X G .own (.Call (.Name "list" p) [a] [] pos) (DL.e1 (listD true) fa) := ev_listG (own := true) rfl hm2 ha hg he hpl
theorem ev_listV (hm2 : X.mg "list" = none) (ha : EV X G .val a fa) (hg : Gl X "list" := by rfl) (he : starEach [a] X.env = (false, eval a X.env) :: starEach [] X.env := by rfl) (hpl : (backTo pos (starEach [] X.env)).any (·.1) = false := by rfl) : EV X G .val (.Call (.Name "list" p) [a] [] pos) (DL.e1 (listD false) fa) := ev_listG (own := false) ⟨rfl, rfl⟩ hm2 ha hg he hpl

/-! ### numbers -/
theorem ev_abs (hm2 : X.mg "abs" = none) (ha : EV X G ma a fa) (hg : Gl X "abs" := by rfl) (he : starEach [a] X.env = (false, eval a X.env) :: starEach [] X.env := by rfl) (hpl : (backTo pos (starEach [] X.env)).any (·.1) = false := by rfl) : EV X G .own (.Call (.Name "abs" p) [a] [] pos) (DL.e1 absD fa) := by
  refine ev_blt1 call_abs hg hm2 (by decide +kernel) ha (fun c T fp ρ S S' σ H0 H x d v Fx Q ok e dx ax rx hf q => ?_) (by decide) (by decide) he hpl
  unfold absD at hf
  split at hf
  · obtain ⟨rfl, rfl⟩ := M.pure_some hf
    cases dx
    exact ⟨_, rfl, q _ H [] Ext.refl rfl (.int _) av0 (ResOk.imm rfl)⟩
  · exact (M.fail_some hf).elim
theorem ev_intOf (hm2 : X.mg "int" = none) (ha : EV X G ma a fa) (hg : Gl X "int" := by rfl) (he : starEach [a] X.env = (false, eval a X.env) :: starEach [] X.env := by rfl) (hpl : (backTo pos (starEach [] X.env)).any (·.1) = false := by rfl) : EV X G .own (.Call (.Name "int" p) [a] [] pos) (DL.e1 intD fa) := by
  refine ev_ty1 call_int1 hg hm2 (by decide +kernel) ha (fun c T fp ρ S S' σ H0 H x d v Fx Q ok e dx ax rx hf q => ?_) (by decide) (by decide) he hpl
  unfold intD at hf
  split at hf
  · obtain ⟨rfl, rfl⟩ := M.pure_some hf
    cases dx
    exact .inl ⟨_, rfl, q _ H [] Ext.refl rfl (.int _) av0 (ResOk.imm rfl)⟩
  · obtain ⟨rfl, rfl⟩ := M.pure_some hf
    cases dx
    exact .inr ⟨_, rfl, q _ H [] Ext.refl rfl (.int _) av0 (ResOk.imm rfl)⟩
  · exact (M.fail_some hf).elim
theorem ev_max2 (hcm : X.calm = true) (hm2 : X.mg "max" = none) (ha : EV X G ma a fa) (hb : EV X G mb b fb) (hg : Gl X "max" := by rfl) (he : starEach [a, b] X.env = (false, eval a X.env) :: starEach [b] X.env := by rfl) (he2 : starEach [b] X.env = (false, eval b X.env) :: starEach [] X.env := by rfl) (hpl : (backTo pos (starEach [b] X.env)).any (·.1) = false := by rfl) : EV X G .own (.Call (.Name "max" p) [a, b] [] pos) (e2 max2D fa fb) := by
  refine ev_blt2 (call_max2 hcm) hg hm2 (by decide +kernel) ha hb (fun c T fp ρ S S' σ H0 H x y d v w Fx Fy Q ok e dx dy ax ay rx ry hf q => ?_) (by decide) (by decide) he he2 hpl
  unfold max2D at hf
  split at hf
  · obtain ⟨rfl, rfl⟩ := M.pure_some hf
    cases dx; cases dy
    exact ⟨_, _, rfl, q _ H [] Ext.refl rfl (.int _) av0 (ResOk.imm rfl)⟩
  · exact (M.fail_some hf).elim
theorem ev_min2 (hcm : X.calm = true) (hm2 : X.mg "min" = none) (ha : EV X G ma a fa) (hb : EV X G mb b fb) (hg : Gl X "min" := by rfl) (he : starEach [a, b] X.env = (false, eval a X.env) :: starEach [b] X.env := by rfl) (he2 : starEach [b] X.env = (false, eval b X.env) :: starEach [] X.env := by rfl) (hpl : (backTo pos (starEach [b] X.env)).any (·.1) = false := by rfl) : EV X G .own (.Call (.Name "min" p) [a, b] [] pos) (e2 min2D fa fb) := by
  refine ev_blt2 (call_min2 hcm) hg hm2 (by decide +kernel) ha hb (fun c T fp ρ S S' σ H0 H x y d v w Fx Fy Q ok e dx dy ax ay rx ry hf q => ?_) (by decide) (by decide) he he2 hpl
  unfold min2D at hf
  split at hf
  · obtain ⟨rfl, rfl⟩ := M.pure_some hf
    cases dx; cases dy
    exact ⟨_, _, rfl, q _ H [] Ext.refl rfl (.int _) av0 (ResOk.imm rfl)⟩
  · exact (M.fail_some hf).elim

/-! ### sums, all, any -/
theorem den_ints {K : PySem.W.Frag} {H : Hp} : ∀ {vs : List V} {ds : List D} {F : List Addr} {ns : List Int}, DenL K H vs ds F → intsOf ds = some ns → vs = ns.map V.int
  | _, _, _, _, .nil, e => by cases e; rfl
  | _, _, _, _, .cons (d := d) h l, e => by
    cases h <;> first | cases e | skip
    rename_i i
    obtain ⟨ms, e1, e2⟩ := Option.map_eq_some_iff.mp (show (intsOf _).map (i :: ·) = some _ from e)
    subst e2
    rw [den_ints l e1]
    rfl
theorem den_bools {K : PySem.W.Frag} {H : Hp} : ∀ {vs : List V} {ds : List D} {F : List Addr} {ns : List Bool}, DenL K H vs ds F → boolsOf ds = some ns → vs = ns.map V.bl
  | _, _, _, _, .nil, e => by cases e; rfl
  | _, _, _, _, .cons (d := d) h l, e => by
    cases h <;> first | cases e | skip
    rename_i i
    obtain ⟨ms, e1, e2⟩ := Option.map_eq_some_iff.mp (show (boolsOf _).map (i :: ·) = some _ from e)
    subst e2
    rw [den_bools l e1]
    rfl
theorem preSum_list (ns : List Int) : ∀ j, preSum (fun i => ns.getD i 0) j = (ns.take j).sum
  | 0 => by simp [preSum]
  | j + 1 => by
    rw [preSum, preSum_list ns j]
    by_cases h : j < ns.length
    · rw [List.take_add_one, List.getElem?_eq_getElem h, List.sum_append]
      simp [h]
    · rw [List.take_of_length_le (by omega), List.take_of_length_le (by omega)]
      simp [List.getD_eq_getElem?_getD, List.getElem?_eq_none (Nat.le_of_not_lt h)]
/-- sum of a tuple of ints -/
def rSumT (K : PySem.W.Frag) : List V → Hp → VK → Prop := fun vs H Q => ∃ (a : Addr) (ns : List Int), vs = [V.ref a] ∧ SqT K H a (ns.map V.int) ∧ Q (.int ns.sum) H
theorem cr_sumT (hc : X.calm = true) : CallR X (.builtin "sum") (rSumT X.K) := by
  intro pins s σ H vs us Q I r h
  obtain ⟨a, ns, rfl, hs, q⟩ := h
  obtain ⟨its, rv, ht, _⟩ := I.tuple hs
  have hi := rv.ints
  have ht2 : s.heap.IsTuple a its.toArray := ht
  have hne : a ≠ s.heap.objs.size := Nat.ne_of_lt ht.lt
  rw [Vals.ref1 r]
  refine call_sum_walkG (wpAny_pyIter_tuple ht2 ?_)
  refine ⟨_, _, _, _, _, _, fun i => ns.getD i 0, rfl, Walks.tuple (A := X.A.in1) (I.ok.hd hc) s.heap.objs.size a hne its.toArray, ⟨⟨_, Heap.get?_push_size _ rfl, rfl, rfl⟩, ?_⟩, fun b hb => ?_, fun i v hv => ?_, fun h' tk t' hk => ?_⟩
  · obtain ⟨o, e1, e2⟩ := ht2
    exact ⟨o, Heap.get?_push_of_some _ e1, e2⟩
  · rw [Heap.size_push]
    have e : b = s.heap.objs.size ∨ b = a := by simpa using hb
    rcases e with e | e
    · rw [e]; exact Nat.lt_succ_self _
    · rw [e]; exact Nat.lt_succ_of_lt ht.lt
  · have hv' : its[i]? = some v := by simpa using hv
    have hl := rv.length
    obtain ⟨y, hy⟩ : ∃ y, (ns.map V.int)[i]? = some y := by
      have : i < its.length := (List.getElem?_eq_some_iff.mp hv').1
      exact ⟨_, List.getElem?_eq_getElem (by omega)⟩
    obtain ⟨u, e1, e2⟩ := rv.get hy
    rw [hv'] at e1
    cases e1
    rw [List.getElem?_map] at hy
    obtain ⟨k, e3, rfl⟩ := Option.map_eq_some_iff.mp hy
    obtain ⟨t, rfl⟩ := e2
    refine ⟨t, ?_⟩
    show Value.int k t = Value.int (ns.getD i 0) t
    rw [List.getD_eq_getElem?_getD, e3]
    rfl
  · have hl := rv.length
    rw [List.length_map] at hl
    refine ⟨.int _, H, I.kept fun b o eo => hk b o (fun hm => ?_) (Heap.get?_push_of_some _ eo), ⟨t', ?_⟩, q⟩
    · have e : b = s.heap.objs.size := by simpa using hm
      exact absurd (e ▸ Heap.lt_size eo) (Nat.lt_irrefl _)
    · rw [preSum_list, List.size_toArray, ← hl, List.take_of_length_le (Nat.le_refl _)]
theorem ev_sum (hcm : X.calm = true) (hm2 : X.mg "sum" = none) (ha : EV X G ma a fa) (hg : Gl X "sum" := by rfl) (he : starEach [a] X.env = (false, eval a X.env) :: starEach [] X.env := by rfl) (hpl : (backTo pos (starEach [] X.env)).any (·.1) = false := by rfl) : EV X G .own (.Call (.Name "sum" p) [a] [] pos) (DL.e1 sumD fa) := by
  refine ev_blt1 ((cr_sum hcm).or (cr_sumT hcm)) hg hm2 (by decide +kernel) ha (fun c T fp ρ S S' σ H0 H x d v Fx Q ok e dx ax rx hf q => ?_) (by decide) (by decide) he hpl
  unfold sumD at hf
  obtain ⟨ns, e1⟩ : ∃ ns, (seqOf x).bind intsOf = some ns := by
    cases e1 : (seqOf x).bind intsOf with
    | none => rw [e1] at hf; exact (M.fail_some hf).elim
    | some ns => exact ⟨ns, rfl⟩
  rw [e1] at hf
  obtain ⟨rfl, rfl⟩ := M.pure_some hf
  obtain ⟨xs, e2, e3⟩ := Option.bind_eq_some_iff.mp e1
  obtain ⟨p, vs, F, rfl, sq, l, hF⟩ := seq_cases dx e2
  rw [den_ints l e3] at sq
  have qq := q _ H [] Ext.refl rfl (.int _) av0 (ResOk.imm rfl)
  rcases sq with sq | sq
  · exact .inl ⟨p, ns, rfl, sq, qq⟩
  · exact .inr ⟨p, ns, rfl, sq, qq⟩
def seqL : D → Option (List D)
  | .list xs => some xs
  | _ => none
theorem ev_all (hcm : X.calm = true) (hm2 : X.mg "all" = none) (ha : EV X G ma a fa) (hg : Gl X "all" := by rfl) (he : starEach [a] X.env = (false, eval a X.env) :: starEach [] X.env := by rfl) (hpl : (backTo pos (starEach [] X.env)).any (·.1) = false := by rfl) : EV X G .own (.Call (.Name "all" p) [a] [] pos) (DL.e1 allD fa) := by
  refine ev_blt1 (cr_all hcm) hg hm2 (by decide +kernel) ha (fun c T fp ρ S S' σ H0 H x d v Fx Q ok e dx ax rx hf q => ?_) (by decide) (by decide) he hpl
  unfold allD at hf
  split at hf
  · rename_i xs
    obtain ⟨ns, e1⟩ : ∃ ns, boolsOf xs = some ns := by
      cases e1 : boolsOf xs with
      | none => rw [e1] at hf; exact (M.fail_some hf).elim
      | some ns => exact ⟨ns, rfl⟩
    rw [e1] at hf
    obtain ⟨rfl, rfl⟩ := M.pure_some hf
    cases dx with
    | lst e2 l => exact ⟨_, ns, rfl, by rw [← den_bools l e1]; exact .inl (.inl e2), q _ H [] Ext.refl rfl (.bl _) av0 (ResOk.imm rfl)⟩
  · exact (M.fail_some hf).elim
theorem ev_any (hcm : X.calm = true) (hm2 : X.mg "any" = none) (ha : EV X G ma a fa) (hg : Gl X "any" := by rfl) (he : starEach [a] X.env = (false, eval a X.env) :: starEach [] X.env := by rfl) (hpl : (backTo pos (starEach [] X.env)).any (·.1) = false := by rfl) : EV X G .own (.Call (.Name "any" p) [a] [] pos) (DL.e1 anyD fa) := by
  refine ev_blt1 (cr_any hcm) hg hm2 (by decide +kernel) ha (fun c T fp ρ S S' σ H0 H x d v Fx Q ok e dx ax rx hf q => ?_) (by decide) (by decide) he hpl
  unfold anyD at hf
  split at hf
  · rename_i xs
    obtain ⟨ns, e1⟩ : ∃ ns, boolsOf xs = some ns := by
      cases e1 : boolsOf xs with
      | none => rw [e1] at hf; exact (M.fail_some hf).elim
      | some ns => exact ⟨ns, rfl⟩
    rw [e1] at hf
    obtain ⟨rfl, rfl⟩ := M.pure_some hf
    cases dx with
    | lst e2 l => exact ⟨_, ns, rfl, by rw [← den_bools l e1]; exact .inl (.inl e2), q _ H [] Ext.refl rfl (.bl _) av0 (ResOk.imm rfl)⟩
  · exact (M.fail_some hf).elim

/-! ### sorted, repr -/
def rSortD (X : Cx) : List V → Hp → VK → Prop := fun vs H Q => ∃ (a : Addr) (xs : List V) (ds : List D), vs = [.ref a] ∧ (SqL X.K H a xs ∨ SqT X.K H a xs) ∧ DenL X.K H xs ds [] ∧ immAll ds = true ∧ sortable ds = true ∧
  ∀ p ys, H p = none → DenL X.K H ys (ds.mergeSort leD) [] → Q (.ref p) (upd H p (.lst ys))
theorem cr_sortD (hc : X.calm = true) (hu : X.A.units + 128 < cLine) : CallR X (.builtin "sorted") (rSortD X) := by
  intro pins s σ H vs us Q I r h
  obtain ⟨a, xs, ds, rfl, hs, dn, hi, hso, q⟩ := h
  obtain ⟨ws, rv, hl, C⟩ := collects_seq I hs
  rw [Vals.ref1 r]
  exact sorted_run I hc hu hl C rv dn hi hso q
theorem ev_sorted (hcm : X.calm = true) (hu : X.A.units + 128 < cLine) (hm2 : X.mg "sorted" = none) (ha : EV X G ma a fa) (hg : Gl X "sorted" := by rfl) (he : starEach [a] X.env = (false, eval a X.env) :: starEach [] X.env := by rfl) (hpl : (backTo pos (starEach [] X.env)).any (·.1) = false := by rfl) : EV X G .own (.Call (.Name "sorted" p) [a] [] pos) (DL.e1 sortedD fa) := by
  refine ev_blt1 (cr_sortD hcm hu) hg hm2 (by decide +kernel) ha (fun c T fp ρ S S' σ H0 H x d v Fx Q ok e dx ax rx hf q => ?_) (by decide) (by decide) he hpl
  obtain ⟨xs, e1, hf⟩ := seq_bind hf
  obtain ⟨h1, hf⟩ := M.chk_bind hf
  obtain ⟨rfl, rfl⟩ := M.pure_some hf
  obtain ⟨h1, h2⟩ := and_true h1
  obtain ⟨p, vs, F, rfl, sq, l, hF⟩ := seq_cases dx e1
  obtain rfl := l.imm h2
  refine ⟨p, vs, xs, rfl, sq, l, h2, h1, fun p ys n l2 => ?_⟩
  exact q _ _ [p] (Ext.new n) rfl (Den.newL n l2) (ok.av1 n) (ResOk.one (e.back0 ok n))
def rReprD (X : Cx) : List V → Hp → VK → Prop := fun vs H Q => ∃ (v : V) (d : D) (F : List Addr), vs = [v] ∧ Den X.K H v d F ∧ d.hasDict = false ∧ d.showable = true ∧ d.shown.length ≤ sizeLine ∧ d.depth ≤ 64 ∧ Q (.str d.shown) H
theorem cr_reprD (hG : X.A.guards = some []) (hu : X.A.units + 128 < cLine) : CallR X (.builtin "repr") (rReprD X) := by
  intro pins s σ H vs us Q I r h
  obtain ⟨v, d, F, rfl, dn, hd, hs, hl, hdp, q⟩ := h
  obtain ⟨u, rfl, ru⟩ := vals1 r
  obtain ⟨as, rd⟩ := Dp.reads I d v u (dn.dpN hd) ru
  by_cases hr : ∃ a, u = .ref a
  · obtain ⟨a, rfl⟩ := hr
    refine repr_of_reads' rd hs (fun z => ?_) hG (by omega) (fun _ _ e => e) (fun h' t tk hk => ⟨.str _, H, I.kept hk, ⟨t, rfl⟩, q⟩) hl
    rw [hd] at z
    cases z
  · cases dn with
    | non =>
      cases ru
      exact PySem.P.repr_of_none ⟨.str _, H, I.tok _, ⟨_, rfl⟩, q⟩
    | bl b =>
      cases ru
      exact PySem.P.repr_of_bool ⟨.str _, H, I.tok _, ⟨_, rfl⟩, q⟩
    | int i =>
      obtain ⟨t, rfl⟩ := ru
      exact PySem.P.repr_of_int (by simpa [PyData.showable] using hs) ⟨.str _, H, I.tok _, ⟨_, rfl⟩, q⟩
    | str x =>
      obtain ⟨t, rfl⟩ := ru
      exact PySem.P.repr_of_str ⟨.str _, H, I.tok _, ⟨_, rfl⟩, q⟩ (by simpa [PyData.shown] using hl)
    | lst => cases ru; exact absurd ⟨_, rfl⟩ hr
    | tup => cases ru; exact absurd ⟨_, rfl⟩ hr
    | dctK => cases ru; exact absurd ⟨_, rfl⟩ hr
    | dctT => cases ru; exact absurd ⟨_, rfl⟩ hr
theorem ev_repr (hG : X.A.guards = some []) (hu : X.A.units + 128 < cLine) (hm2 : X.mg "repr" = none) (ha : EV X G ma a fa) (hg : Gl X "repr" := by rfl) (he : starEach [a] X.env = (false, eval a X.env) :: starEach [] X.env := by rfl) (hpl : (backTo pos (starEach [] X.env)).any (·.1) = false := by rfl) : EV X G .own (.Call (.Name "repr" p) [a] [] pos) (DL.e1 reprD fa) := by
  refine ev_blt1 (cr_reprD hG hu) hg hm2 (by decide +kernel) ha (fun c T fp ρ S S' σ H0 H x d v Fx Q ok e dx ax rx hf q => ?_) (by decide) (by decide) he hpl
  obtain ⟨h1, hf⟩ := M.chk_bind hf
  obtain ⟨rfl, rfl⟩ := M.pure_some hf
  obtain ⟨h1, h4⟩ := and_true h1
  obtain ⟨h1, h3⟩ := and_true h1
  obtain ⟨h1, h2⟩ := and_true h1
  exact ⟨v, x, Fx, rfl, dx, by simpa using h3, h1, fit_le h2, of_decide_eq_true h4, q _ H [] Ext.refl rfl (.str _) av0 (ResOk.imm rfl)⟩
/-! ### the least, the greatest of a list, a tuple -/
def rMinD (X : Cx) (F : D → List D → D) : List V → Hp → VK → Prop := fun vs H Q => ∃ (a : Addr) (xs : List V) (d : D) (ds : List D), vs = [.ref a] ∧ (SqL X.K H a xs ∨ SqT X.K H a xs) ∧ DenL X.K H xs (d :: ds) [] ∧ immAll (d :: ds) = true ∧ W.AlikeAll (d :: ds) ∧ PyData.depthAll (d :: ds) ≤ 64 ∧
  ∀ v, Den X.K H v (F d ds) [] → Q v H
theorem den_reads {pins : List (Addr × Obj)} {σ : St} {H : Hp} {s : Shared} (I : Inv X pins σ H s) : ∀ {vs : List V} {us : List Value} {ds : List D}, Vals vs us → DenL X.K H vs ds [] → immAll ds = true → ∃ as, ReadsAll s.heap us ds as
  | _, _, _, .nil, l, _ => by
    cases l
    exact ⟨[], .nil⟩
  | v :: vs, _, d :: ds, .cons r t, l, hi => by
    have l2 : ∃ A B, A ++ B = [] ∧ Den X.K H v d A ∧ DenL X.K H vs ds B := by
      generalize e : ([] : List Addr) = E at l
      cases l with
      | cons h1 h2 => exact ⟨_, _, rfl, h1, h2⟩
    obtain ⟨A, B, e, h1, h2⟩ := l2
    obtain ⟨rfl, rfl⟩ := List.append_eq_nil_iff.mp e
    have z : imm d = true ∧ immAll ds = true := by simpa [immAll] using hi
    obtain ⟨as, ra⟩ := Dp.reads I d v _ (h1.dpN (imm_noDict d z.1)) r
    obtain ⟨bs, rb⟩ := den_reads I t h2 z.2
    exact ⟨_, .cons ra rb⟩
  | v :: vs, _, [], .cons r t, l, _ => by
    exact absurd (DenL.length l) (by simp)
theorem den_at {K : PySem.W.Frag} {H : Hp} {vs : List V} {us : List Value} {ds : List D} {i : Nat} {u : Value} (r : Vals vs us) (l : DenL K H vs ds []) (e : us[i]? = some u) : ∃ v d, ds[i]? = some d ∧ RelV v u ∧ Den K H v d [] := by
  have hlt := (List.getElem?_eq_some_iff.mp e).1
  have hv : i < vs.length := by rw [r.length]; exact hlt
  obtain ⟨u', e1, r1⟩ := r.get (List.getElem?_eq_getElem hv)
  rw [e] at e1
  cases e1
  obtain ⟨d, G, e2, dn, hG⟩ := l.inj_imm (List.getElem?_eq_getElem hv)
  have : G = [] := List.eq_nil_iff_forall_not_mem.mpr fun z hz => nomatch hG z hz
  subst this
  exact ⟨_, d, e2, r1, dn⟩
theorem cr_minD (hc : X.calm = true) (hu : X.A.units + 128 < cLine) : CallR X (.builtin "min") (rMinD X minF) := by
  intro pins s σ H vs us Q I r h
  obtain ⟨a, xs, d, ds, rfl, hs, dn, hi, ha, hd, q⟩ := h
  rw [Vals.ref1 r]
  rcases hs with hs | hs
  · obtain ⟨its, rv, ht, _⟩ := I.list hs
    obtain ⟨as, rr⟩ := den_reads I rv dn hi
    refine PySem.W.min_list_data (I.ok.hd hc) ht.isList (by simpa using rr) ha (by omega) fun i v h' tk bs hv hr hk => ?_
    have I1 : Inv X pins σ H { s with heap := h', toks := tk } := I.kept hk
    obtain ⟨w, e, he, rw', dw⟩ := den_at rv dn (by simpa using hv)
    obtain ⟨cs, re⟩ := Dp.reads I1 e w v (dw.dpN (imm_noDict e (immAll_mem hi e (List.mem_of_getElem? he)))) rw'
    have hee := (Reads.unique re _ _ hr).1
    subst hee
    exact ⟨w, H, I1, rw', q w dw⟩
  · obtain ⟨its, rv, ht, _⟩ := I.tuple hs
    obtain ⟨as, rr⟩ := den_reads I rv dn hi
    refine PySem.W.min_tuple_data (I.ok.hd hc) (show s.heap.IsTuple a its.toArray from ht) (by simpa using rr) ha (by omega) fun i v h' tk bs hv hr hk => ?_
    have I1 : Inv X pins σ H { s with heap := h', toks := tk } := I.kept hk
    obtain ⟨w, e, he, rw', dw⟩ := den_at rv dn (by simpa using hv)
    obtain ⟨cs, re⟩ := Dp.reads I1 e w v (dw.dpN (imm_noDict e (immAll_mem hi e (List.mem_of_getElem? he)))) rw'
    have hee := (Reads.unique re _ _ hr).1
    subst hee
    exact ⟨w, H, I1, rw', q w dw⟩
theorem cr_maxD (hc : X.calm = true) (hu : X.A.units + 128 < cLine) : CallR X (.builtin "max") (rMinD X maxF) := by
  intro pins s σ H vs us Q I r h
  obtain ⟨a, xs, d, ds, rfl, hs, dn, hi, ha, hd, q⟩ := h
  rw [Vals.ref1 r]
  rcases hs with hs | hs
  · obtain ⟨its, rv, ht, _⟩ := I.list hs
    obtain ⟨as, rr⟩ := den_reads I rv dn hi
    refine PySem.W.max_list_data (I.ok.hd hc) ht.isList (by simpa using rr) ha (by omega) fun i v h' tk bs hv hr hk => ?_
    have I1 : Inv X pins σ H { s with heap := h', toks := tk } := I.kept hk
    obtain ⟨w, e, he, rw', dw⟩ := den_at rv dn (by simpa using hv)
    obtain ⟨cs, re⟩ := Dp.reads I1 e w v (dw.dpN (imm_noDict e (immAll_mem hi e (List.mem_of_getElem? he)))) rw'
    have hee := (Reads.unique re _ _ hr).1
    subst hee
    exact ⟨w, H, I1, rw', q w dw⟩
  · obtain ⟨its, rv, ht, _⟩ := I.tuple hs
    obtain ⟨as, rr⟩ := den_reads I rv dn hi
    refine PySem.W.max_tuple_data (I.ok.hd hc) (show s.heap.IsTuple a its.toArray from ht) (by simpa using rr) ha (by omega) fun i v h' tk bs hv hr hk => ?_
    have I1 : Inv X pins σ H { s with heap := h', toks := tk } := I.kept hk
    obtain ⟨w, e, he, rw', dw⟩ := den_at rv dn (by simpa using hv)
    obtain ⟨cs, re⟩ := Dp.reads I1 e w v (dw.dpN (imm_noDict e (immAll_mem hi e (List.mem_of_getElem? he)))) rw'
    have hee := (Reads.unique re _ _ hr).1
    subst hee
    exact ⟨w, H, I1, rw', q w dw⟩
theorem bestD_some {F : D → List D → D} {x r : D} {S S' : Src} (h : bestD F x S = some (r, S')) : ∃ d ds, seqOf x = some (d :: ds) ∧ alikes (d :: ds) = true ∧ r = F d ds ∧ S' = S := by
  unfold bestD at h
  cases e : seqOf x with
  | none => rw [e] at h; exact (M.fail_some h).elim
  | some xs =>
    cases xs with
    | nil => rw [e] at h; exact (M.fail_some h).elim
    | cons d ds =>
      rw [e] at h
      obtain ⟨h1, h2⟩ := M.chk_bind h
      obtain ⟨rfl, rfl⟩ := M.pure_some h2
      exact ⟨d, ds, rfl, h1, rfl, rfl⟩
theorem alikes_all {xs : List D} (h : alikes xs = true) : W.AlikeAll xs ∧ PyData.depthAll xs ≤ 64 ∧ immAll xs = true := by
  unfold alikes at h
  obtain ⟨h, h4⟩ := and_true h
  obtain ⟨h, h3⟩ := and_true h
  obtain ⟨h1, h2⟩ := and_true h
  refine ⟨⟨fun x hx y hy => List.all_eq_true.mp (List.all_eq_true.mp h1 x hx) y hy, fun x hx e => ?_⟩, of_decide_eq_true h3, h4⟩
  have := List.all_eq_true.mp h2 x hx
  subst e
  cases this
theorem ev_minL (hcm : X.calm = true) (hu : X.A.units + 128 < cLine) (hm2 : X.mg "min" = none) (ha : EV X G ma a fa) (hg : Gl X "min" := by rfl) (he : starEach [a] X.env = (false, eval a X.env) :: starEach [] X.env := by rfl) (hpl : (backTo pos (starEach [] X.env)).any (·.1) = false := by rfl) : EV X G .own (.Call (.Name "min" p) [a] [] pos) (DL.e1 (bestD minF) fa) := by
  refine ev_blt1 (cr_minD hcm hu) hg hm2 (by decide +kernel) ha (fun c T fp ρ S S' σ H0 H x d v Fx Q ok e dx ax rx hf q => ?_) (by decide) (by decide) he hpl
  obtain ⟨y, ys, e1, e2, rfl, rfl⟩ := bestD_some hf
  obtain ⟨h1, h2, h3⟩ := alikes_all e2
  obtain ⟨p, vs, F, rfl, sq, l, hF⟩ := seq_cases dx e1
  obtain rfl := l.imm h3
  exact ⟨p, vs, y, ys, rfl, sq, l, h3, h1, h2, fun v dv => q v H [] Ext.refl rfl dv av0 (ResOk.imm rfl)⟩
theorem ev_maxL (hcm : X.calm = true) (hu : X.A.units + 128 < cLine) (hm2 : X.mg "max" = none) (ha : EV X G ma a fa) (hg : Gl X "max" := by rfl) (he : starEach [a] X.env = (false, eval a X.env) :: starEach [] X.env := by rfl) (hpl : (backTo pos (starEach [] X.env)).any (·.1) = false := by rfl) : EV X G .own (.Call (.Name "max" p) [a] [] pos) (DL.e1 (bestD maxF) fa) := by
  refine ev_blt1 (cr_maxD hcm hu) hg hm2 (by decide +kernel) ha (fun c T fp ρ S S' σ H0 H x d v Fx Q ok e dx ax rx hf q => ?_) (by decide) (by decide) he hpl
  obtain ⟨y, ys, e1, e2, rfl, rfl⟩ := bestD_some hf
  obtain ⟨h1, h2, h3⟩ := alikes_all e2
  obtain ⟨p, vs, F, rfl, sq, l, hF⟩ := seq_cases dx e1
  obtain rfl := l.imm h3
  exact ⟨p, vs, y, ys, rfl, sq, l, h3, h1, h2, fun v dv => q v H [] Ext.refl rfl dv av0 (ResOk.imm rfl)⟩
end
end DL

/-! DS7: frames; what loops walk. -/
namespace DL
open PySem PySem.Spec PyProof.Rows L2

section
variable {K : PySem.W.Frag} {G G' : Sg} {c : Cc} {T : List Tmp} {fp : Nat → List Addr} {ρ : Env} {S S' : Src} {σ : St} {H H' : Hp}
theorem StOk.mono (h : StOk K G c T fp ρ S σ H) (hm : ∀ i ∈ G'.mu, i ∈ G.mu) (hs : G'.sc = G.sc) : StOk K G' c T fp ρ S σ H :=
  ⟨h.den, h.tmp, h.av, h.tav, fun i j d e hi => h.sep i j d e (hm i hi), fun i d hi => h.tsep i d (hm i hi), fun i d hi => h.nd i d (hm i hi), fun i d hi => h.new i d (hm i hi), h.ext, h.hP, h.pd, by rw [hs]; exact h.src, h.len⟩
theorem StOk.pushT {T' : List Tmp} (h : StOk K G c T fp ρ S σ H) (h1 : ∀ t ∈ T', Den K H t.v t.d t.F) (h2 : ∀ t ∈ T', ∀ a ∈ t.F, ¬ c.P a) (h3 : ∀ t ∈ T', ResOk G fp ρ H .val t.F) : StOk K G c (T' ++ T) fp ρ S σ H :=
  ⟨h.den, fun t z => (List.mem_append.mp z).elim (h1 t) (h.tmp t), h.av, fun t z => (List.mem_append.mp z).elim (h2 t) (h.tav t), h.sep,
    fun i d hi hd t z a ha w => (List.mem_append.mp z).elim (fun z => h3 t z i d hi hd a w ha) (fun z => h.tsep i d hi hd t z a ha w), h.nd, h.new, h.ext, h.hP, h.pd, h.src, h.len⟩
theorem StOk.popT {T' : List Tmp} (h : StOk K G c (T' ++ T) fp ρ S σ H) : StOk K G c T fp ρ S σ H :=
  ⟨h.den, fun t z => h.tmp t (List.mem_append_right _ z), h.av, fun t z => h.tav t (List.mem_append_right _ z), h.sep, fun i d hi hd t z => h.tsep i d hi hd t (List.mem_append_right _ z), h.nd, h.new, h.ext, h.hP, h.pd, h.src, h.len⟩
end

section
variable {X : Cx} {mu : List Nat} {sc : Option Nat} {m : Md} {a : Expr} {fa : EF} {ta : TF}
/-- what does not hang on the changing names -/
theorem EV.pure (h : EV X ⟨[], sc⟩ m a fa) (hm : m ≠ .val := by decide) : EV X ⟨mu, sc⟩ m a fa := by
  refine PE.mono h fun σ H Q hh => ?_
  obtain ⟨c, T, fp, ρ, S, d, S', ok, hf, q⟩ := hh
  refine ⟨c, T, fp, ρ, S, d, S', ok.mono (fun _ z => nomatch z) rfl, hf, fun v H' F ok' e den av r => q v H' F (ok.step e ok'.src) e den av ?_⟩
  cases m with
  | bor => trivial
  | val => exact absurd rfl hm
  | own => exact r
theorem TV.pure (h : TV X ⟨[], sc⟩ a ta) : TV X ⟨mu, sc⟩ a ta := by
  refine PT.mono h fun σ H Q hh => ?_
  obtain ⟨c, T, fp, ρ, S, d, S', ok, hf, q⟩ := hh
  exact ⟨c, T, fp, ρ, S, d, S', ok.mono (fun _ z => nomatch z) rfl, hf, fun H' ok' e => q H' (ok.step e ok'.src) e⟩
theorem EV.bv (h : EV X ⟨[], sc⟩ .bor a fa) : EV X ⟨[], sc⟩ .val a fa := by
  refine PE.mono h fun σ H Q hh => ?_
  obtain ⟨c, T, fp, ρ, S, d, S', ok, hf, q⟩ := hh
  exact ⟨c, T, fp, ρ, S, d, S', ok, hf, fun v H' F ok' e den av r => q v H' F ok' e den av fun _ _ z => nomatch z⟩
end

instance : DecidableEq Md := fun a b => match a, b with
  | .bor, .bor => .isTrue rfl
  | .val, .val => .isTrue rfl
  | .own, .own => .isTrue rfl
  | .bor, .val => .isFalse fun h => nomatch h
  | .bor, .own => .isFalse fun h => nomatch h
  | .val, .bor => .isFalse fun h => nomatch h
  | .val, .own => .isFalse fun h => nomatch h
  | .own, .bor => .isFalse fun h => nomatch h
  | .own, .val => .isFalse fun h => nomatch h

/-! ### what is walked -/
/-- a thing that is walked over: itself; or a tuple that is at once taken apart -/
inductive DenB (K : PySem.W.Frag) (H : Hp) : Bool → V → D → List Addr → Prop
  | of {wk : Bool} {v : V} {d : D} {F : List Addr} : Den K H v d F → DenB K H wk v d F
  | tp {p : Addr} {vs : List V} {ds : List D} {F : List Addr} : SqT K H p vs → DenL K H vs ds F → DenB K H true (.ref p) (.tuple ds) F
theorem DenB.name {K : PySem.W.Frag} {H : Hp} {v : V} {d : D} {F : List Addr} (h : DenB K H false v d F) : Den K H v d F := by
  cases h with
  | of h => exact h
def ItOk (K : PySem.W.Frag) (wk : Bool) (J : It) (T' : List Tmp) (ds : List D) : Prop := ∀ H, (∀ t ∈ T', Den K H t.v t.d t.F) →
  (∀ i, i < ds.length → J.go i H) ∧ J.stop ds.length H ∧ ∀ i d x H', ds[i]? = some d → J.yld i H x H' → Ext [] H H' ∧ ∃ F, DenB K H' wk x d F ∧ ∀ a ∈ F, ∃ t ∈ T', a ∈ t.F
def tDI (K : PySem.W.Frag) (G : Sg) (wk : Bool) (w : LF) : TI := fun σ H R => ∃ c T fp ρ S ds S', StOk K G c T fp ρ S σ H ∧ w ρ S = some (ds, S') ∧
  ∀ J H' T', StOk K G c T fp ρ S' σ H' → Ext c.R H H' → ItOk K wk J T' ds → (∀ t ∈ T', Den K H' t.v t.d t.F) → (∀ t ∈ T', ∀ a ∈ t.F, ¬ c.P a) → (∀ t ∈ T', ResOk G fp ρ H' .val t.F) → R J H'
abbrev IV (X : Cx) (G : Sg) (wk : Bool) (tg e : Expr) (w : LF) : Prop := PI X tg e (tDI X.K G wk w)
theorem PI.mono {X : Cx} {tg e : Expr} {t t' : TI} (h : PI X tg e t) (m : ∀ σ H Q, t' σ H Q → t σ H Q) : PI X tg e t' := ⟨fun pins s σ H Q I q => h.run pins s σ H Q I (m σ H Q q)⟩

theorem itok_list {wk : Bool} {K : PySem.W.Frag} {a : Addr} {ds : List D} {F : List Addr} : ItOk K wk (Itl K a) [⟨.ref a, .list ds, F⟩] ds := by
  intro H h
  have h := h _ List.mem_cons_self
  cases h with
  | lst e l =>
    rename_i xs F
    have sq : SqL K H a xs := .inl (.inl e)
    refine ⟨fun i hi => ⟨xs, xs[i]'(by rw [l.length]; exact hi), sq, List.getElem?_eq_getElem _⟩, ⟨xs, sq, Nat.le_of_eq l.length⟩, fun i d x H' hd hy => ?_⟩
    obtain ⟨rfl, hy⟩ := hy
    obtain ⟨y, G, e1, e2, e3⟩ := l.get hd
    have := hy xs sq
    rw [this] at e1
    cases e1
    exact ⟨Ext.refl, G, .of e2, fun z hz => ⟨_, List.mem_cons_self, List.mem_cons_of_mem _ (e3 z hz)⟩⟩
theorem itok_tup {wk : Bool} {K : PySem.W.Frag} {a : Addr} {ds : List D} {F : List Addr} : ItOk K wk (Itt K a) [⟨.ref a, .tuple ds, F⟩] ds := by
  intro H h
  have h := h _ List.mem_cons_self
  cases h with
  | tup e l =>
    rename_i xs
    have sq : SqT K H a xs := e.sq
    refine ⟨fun i hi => ⟨xs, xs[i]'(by rw [l.length]; exact hi), sq, List.getElem?_eq_getElem _⟩, ⟨xs, sq, Nat.le_of_eq l.length⟩, fun i d x H' hd hy => ?_⟩
    obtain ⟨rfl, hy⟩ := hy
    obtain ⟨y, G, e1, e2, e3⟩ := l.get hd
    have := hy xs sq
    rw [this] at e1
    cases e1
    exact ⟨Ext.refl, G, .of e2, fun z hz => ⟨_, List.mem_cons_self, e3 z hz⟩⟩
theorem rngD_get {lo hi : Int} {i : Nat} (h : i < (hi - lo).toNat) : (rngD lo hi)[i]? = some (.int (lo + (i : Nat))) := by
  unfold rngD
  rw [List.getElem?_map, List.getElem?_range h]
  rfl
theorem rngD_len (lo hi : Int) : (rngD lo hi).length = (hi - lo).toNat := by simp [rngD]
theorem itok_range {wk : Bool} {K : PySem.W.Frag} {lo hi : Int} : ItOk K wk (Itr lo (hi - lo).toNat) [] (rngD lo hi) := by
  intro H h
  refine ⟨fun i hi => by rw [rngD_len] at hi; exact hi, Nat.le_of_eq (rngD_len _ _).symm, fun i d x H' hd hy => ?_⟩
  obtain ⟨rfl, rfl⟩ := hy
  have hi := (List.getElem?_eq_some_iff.mp hd).1
  rw [rngD_len] at hi
  rw [rngD_get hi] at hd
  cases hd
  exact ⟨Ext.refl, [], .of (.int _), fun _ z => nomatch z⟩

section
variable {X : Cx} {G : Sg} {m : Md} {e b tg : Expr} {fe fb : EF} {pos p : Pos}
theorem seq_kindD {x : D} {xs : List D} (h : seqOf x = some xs) : x = .list xs ∨ x = .tuple xs := by
  cases x with
  | list ys => exact .inl (congrArg _ (Option.some.inj h))
  | tuple ys => exact .inr (congrArg _ (Option.some.inj h))
  | none => cases h
  | bool => cases h
  | int => cases h
  | str => cases h
  | dict => cases h
theorem iv_seq (he : EV X G .val e fe) : IV X G wk tg e (wSeq fe) := by
  refine ⟨fun pins s σ H R I h => ?_⟩
  obtain ⟨c, T, fp, ρ, S, ds, S', ok, hf, q⟩ := h
  obtain ⟨x, S1, h1, hf⟩ := M.bind_some hf
  obtain ⟨xs, e1, hf⟩ := seq_bind hf
  obtain ⟨rfl, rfl⟩ := M.pure_some hf
  refine thn (he.run pins s σ H (fun v H' => ∃ a, v = .ref a ∧ ((∃ vs, SqL X.K H' a vs) ∧ R (Itl X.K a) H' ∨ (∃ vs, SqT X.K H' a vs) ∧ R (Itt X.K a) H')) I ⟨c, T, fp, ρ, S, x, _, ok, h1, fun v H' F ok' e dn av r => ?_⟩) fun v s1 ⟨x, H1, I1, r1, q1⟩ => ?_
  · rcases seq_kindD e1 with rfl | rfl
    · cases dn with
      | lst e2 l =>
        rename_i a vs F
        refine ⟨a, rfl, .inl ⟨⟨vs, .inl (.inl e2)⟩, q _ H' [⟨.ref a, .list xs, a :: F⟩] ok' e itok_list ?_ ?_ ?_⟩⟩ <;> (intro t ht; obtain rfl := List.mem_singleton.mp ht)
        · exact .lst e2 l
        · exact av
        · exact r
    · cases dn with
      | tup e2 l =>
        rename_i a vs
        refine ⟨a, rfl, .inr ⟨⟨vs, e2.sq⟩, q _ H' [⟨.ref a, .tuple xs, F⟩] ok' e itok_tup ?_ ?_ ?_⟩⟩ <;> (intro t ht; obtain rfl := List.mem_singleton.mp ht)
        · exact .tup e2 l
        · exact av
        · exact r
  · obtain ⟨a, e, qq⟩ := q1
    subst e
    cases r1
    have fr : ∀ z ∈ [s1.heap.objs.size], FpOk X pins H1 z := fun z hz => by
      obtain rfl := List.mem_singleton.mp hz
      exact I1.fpOk (Nat.le_refl _) (I1.hok.fresh (Nat.le_refl _))
    rcases qq with ⟨⟨vs, sq⟩, qq⟩ | ⟨⟨vs, sq⟩, qq⟩
    · obtain ⟨its, rv, pl, _⟩ := I1.list sq
      exact wpAny_pyIter_list pl.isList ⟨_, _, _, _, H1, rfl, I1.kept (t' := s1.toks) fun b o e => Heap.get?_push_of_some _ e, turn_list a _, ⟨_, Heap.get?_push_size _ rfl, rfl, rfl⟩, fr, qq⟩
    · obtain ⟨its, rv, pl, _⟩ := I1.tuple sq
      exact wpAny_pyIter_tuple (show s1.heap.IsTuple a its.toArray from pl) ⟨_, _, _, _, H1, rfl, I1.kept (t' := s1.toks) fun b o e => Heap.get?_push_of_some _ e, turn_tuple a _, ⟨_, Heap.get?_push_size _ rfl, rfl, rfl⟩, fr, qq⟩
theorem rng62_of {i : Int} (h : rng62 i = true) : -(2 ^ 62) ≤ i ∧ i < 2 ^ 62 := by
  have h' : i.natAbs < 2 ^ 62 := of_decide_eq_true h
  omega
theorem iv_range1 (hm : X.mg "range" = none) (ha : EV X G m e fe) (hg : Gl X "range" := by rfl) (hs : starEach [e] X.env = [(false, eval e X.env)] := by rfl) : IV X G wk tg (.Call (.Name "range" p) [e] [] pos) (wRange1 fe) := by
  refine PI.mono (pi_range1 hg hm (pa_cons ha pa_nil (by rw [hs]; rfl)) hs) fun σ H R h => ?_
  obtain ⟨c, T, fp, ρ, S, ds, S', ok, hf, q⟩ := h
  obtain ⟨x, S1, h1, hf⟩ := M.bind_some hf
  split at hf
  · rename_i n
    obtain ⟨h2, hf⟩ := M.chk_bind hf
    obtain ⟨rfl, rfl⟩ := M.pure_some hf
    refine ⟨c, T, fp, ρ, S, _, _, ok, h1, fun v H' F ok' e dn av r => ?_⟩
    cases dn with
    | int =>
      have z := itok_range (wk := wk) (K := X.K) (lo := 0) (hi := n)
      rw [Int.sub_zero] at z
      exact ⟨n, rfl, (rng62_of h2).1, (rng62_of h2).2, q _ H' [] ok' e z (fun _ z => nomatch z) (fun _ z => nomatch z) (fun _ z => nomatch z)⟩
  · exact (M.fail_some hf).elim
theorem iv_range2 {mb : Md} (hm : X.mg "range" = none) (ha : EV X G m e fe) (hb : EV X G mb b fb) (hg : Gl X "range" := by rfl) (hs : starEach [e, b] X.env = [(false, eval e X.env), (false, eval b X.env)] := by rfl) (hs2 : starEach [b] X.env = [(false, eval b X.env)] := by rfl) : IV X G wk tg (.Call (.Name "range" p) [e, b] [] pos) (wRange2 fe fb) := by
  refine PI.mono (pi_range2 hg hm (pa_cons ha (pa_cons hb pa_nil (by rw [hs2]; rfl)) (by rw [hs, hs2])) hs hs2) fun σ H R h => ?_
  obtain ⟨c, T, fp, ρ, S, ds, S', ok, hf, q⟩ := h
  obtain ⟨x, S1, h1, hf⟩ := M.bind_some hf
  obtain ⟨y, S2, h2, hf⟩ := M.bind_some hf
  split at hf
  · rename_i n k _
    obtain ⟨h3, hf⟩ := M.chk_bind hf
    obtain ⟨rfl, rfl⟩ := M.pure_some hf
    obtain ⟨h3, h4⟩ := and_true h3
    refine ⟨c, T, fp, ρ, S, _, _, ok, h1, fun v H' F ok' e dn av r => ?_⟩
    refine ⟨c, T, fp, ρ, S1, _, _, ok', h2, fun v2 H2 F2 ok2 e2 dn2 av2 r2 => ?_⟩
    cases dn with
    | int =>
      cases dn2 with
      | int => exact ⟨n, k, rfl, ⟨(rng62_of h3).1, (rng62_of h3).2, (rng62_of h4).1, (rng62_of h4).2⟩, q _ H2 [] ok2 (e.trans e2) itok_range (fun _ z => nomatch z) (fun _ z => nomatch z) (fun _ z => nomatch z)⟩
  · exact (M.fail_some hf).elim

/-! ### enumerate of a list, a tuple -/
theorem meets_enumT (l : Addr) (items : Array Value) (o : Obj) (ho : o.cls = .type "tuple") (hd : ∃ n, o.data = .seq items n) :
    Meets (Builtin.«enumerate.__new__» ⟨[.type "enumerate", .ref l], []⟩) (fun _ R s => s.heap.get? l = some o ∧
      R (.ok (.ret (.ref (s.heap.push { cls := .type "tuple_iterator", data := .fields #[.ref l, .int 0 0] }).objs.size)))
        { s with heap := (s.heap.push { cls := .type "tuple_iterator", data := .fields #[.ref l, .int 0 0] }).push { cls := .type "enumerate", data := .fields #[.none, .bool false, .ref s.heap.objs.size, rawInt 0, .none, .none] } }) :=
  .of_wp fun prog w A R s h => by
    obtain ⟨hp, g, d, tk, os⟩ := s
    obtain ⟨hl, h⟩ := h
    have hsub := sub_enumerate
    obtain ⟨n, hd⟩ := hd
    have hL : Heap.IsTuple (Shared.heap ⟨hp, g, d, tk, os⟩) l items := ⟨_, hl, ho, n, hd⟩
    wp_walk using AutoSeq1.wpAny_loadPart' hl
    refine wpAny_stack_any fun st => wpAny_pure ?_
    split
    · rename_i c _ _ _ _ _
      cases (c == Value.type "enumerate")
      · wp_walk using AutoSeq1.wpAny_loadPart' hl, wpAny_pyIter_tuple hL
        exact ⟨_, rfl, h⟩
      · wp_walk using AutoSeq1.wpAny_loadPart' hl, wpAny_pyIter_tuple hL
        exact ⟨_, rfl, h⟩
    · wp_walk using AutoSeq1.wpAny_loadPart' hl, wpAny_pyIter_tuple hL
      exact ⟨_, rfl, h⟩
theorem call_enumT {s : Shared} {P : Program} {w : World} {A : Around} {E : Value → Shared → Prop} {l : Addr} {items : Array Value} {Q : Value → Shared → Prop} (hL : s.heap.IsTuple l items)
    (h : ∀ h', IsEnum h' (s.heap.objs.size + 1) s.heap.objs.size 0 .none → h'.IsTupleIter s.heap.objs.size l 0 →
      (∀ b o, s.heap.get? b = some o → h'.get? b = some o) → Q (.ref (s.heap.objs.size + 1)) { s with heap := h' }) :
    wpAny (model P w) A (call (.type "enumerate") [.ref l]) Q E s := by
  obtain ⟨o, hl, hc, hd⟩ := hL
  refine callType_new F.called_enumerate (by decide) (F.typeCall_enumerate_1 _) (F.newCall_enumerate_1 _) (fun obj => F.args_object_init_2 obj _) F.entry_enumerate_new
    (meets_enumT l items o hc hd) ⟨hl, ?_⟩
  have hz : (s.heap.push { cls := .type "tuple_iterator", data := .fields #[.ref l, .int 0 0] }).objs.size = s.heap.objs.size + 1 := Heap.size_push ..
  show _ ∧ _
  rw [hz]
  have he : IsEnum ((s.heap.push { cls := .type "tuple_iterator", data := .fields #[.ref l, .int 0 0] }).push
      { cls := .type "enumerate", data := .fields #[.none, .bool false, .ref s.heap.objs.size, rawInt 0, .none, .none] }) (s.heap.objs.size + 1) s.heap.objs.size 0 .none := by
    have := Heap.get?_push_size (s.heap.push { cls := .type "tuple_iterator", data := .fields #[.ref l, .int 0 0] })
      (o := { cls := .type "enumerate", data := .fields #[.none, .bool false, .ref s.heap.objs.size, rawInt 0, .none, .none] }) rfl
    rw [hz] at this
    exact this
  exact ⟨⟨_, he, rfl⟩, h _ he ⟨_, Heap.get?_push_of_some _ (Heap.get?_push_size _ rfl), rfl, rfl⟩ fun b o x => Heap.get?_push_of_some _ (Heap.get?_push_of_some _ x)⟩
/-- the tuple at a, each item in a new pair -/
def Iet (K : PySem.W.Frag) (a : Addr) : It :=
  ⟨fun i H => ∃ (xs : List V) (x : V), SqT K H a xs ∧ xs[i]? = some x, fun i H v H' => ∃ T x, v = .ref T ∧ H T = none ∧ H' = upd H T (.tup [.int (i : Nat), x]) ∧ ∀ xs, SqT K H a xs → xs[i]? = some x, fun i H => ∃ xs : List V, SqT K H a xs ∧ xs.length = i⟩
theorem turn_enumT {P : Program} {w : World} {K : PySem.W.Frag} {elts : List Expr} {kk : Nat} {tpos : Pos} (a e it : Addr) :
    Turn P w K (.Tuple elts kk tpos) (Iet K a) [e, it] e (fun i h => (∃ old, IsEnum h e it ((i : Nat) : Int) old) ∧ h.IsTupleIter it a i ∧ e ≠ it ∧ a ≠ it ∧ e ≠ a) where
  mem := by simp
  obj := fun i h st b hb => by
    obtain ⟨⟨old, he⟩, ⟨o, ho, hc, hd⟩, _⟩ := st
    have e' : b = e ∨ b = it := by simpa using hb
    rcases e' with z | z
    · rw [z]; exact ⟨_, he, fun v q => nomatch q⟩
    · rw [z]; exact ⟨o, ho, fun v q => by rw [hd] at q; cases q⟩
  keep := fun i h h' st k => let ⟨⟨old, he⟩, hi, hne⟩ := st; ⟨⟨old, k e (by simp) _ he⟩, hi.at fun o q => k it (by simp) o q, hne⟩
  item := by
    intro X hP hw hK hc i pins s σ H E I hf st hg
    subst hP hw hK
    obtain ⟨⟨old, he⟩, hit, hne, hai, hea⟩ := st
    obtain ⟨xs, x, hq, hx⟩ := hg
    obtain ⟨its, rv, p, hz⟩ := I.tuple hq
    obtain ⟨u, hu, ru⟩ := rv.get hx
    have hel : e < s.heap.objs.size := Heap.lt_size he
    have hil : it < s.heap.objs.size := by obtain ⟨_, q, _⟩ := hit; exact Heap.lt_size q
    have hlt : i < its.length := (List.getElem?_eq_some_iff.mp hu).1
    refine wpAny_pyNext_enum_itemD (Draws.tuple (prog := X.prog) (w := X.w) (A := X.A.in1) (I.ok.hd hc) it a hai its.toArray) he ⟨hit, p⟩ (by simpa using hlt) hne (by simp [hne, hea]) fun y h' tk hy ho hit' hT hsz hk => ?_
    have hy' : its[i]? = some y := by simpa using hy
    rw [hu] at hy'
    cases hy'
    refine ⟨_, rfl, wpAny_letOwnedTupleGo_enum (s := { s with heap := h', toks := tk + 1 }) ho fun h'' he' sb => ?_⟩
    have hT2 : h''.get? s.heap.objs.size = some { cls := .type "tuple", data := .seq #[.int i tk, u] } := (sb.2 _ (Nat.ne_of_gt hel)).trans hT
    have new : ObjOk X.prog X.w (upd H s.heap.objs.size (.tup [.int (i : Nat), x])) h'' s.heap.objs.size (.tup [.int (i : Nat), x]) :=
      ⟨by show 2 ≤ sizeLine; decide, [.int i tk, u], .cons ⟨_, rfl⟩ (.cons ru .nil), ⟨_, hT2, rfl, _, rfl⟩⟩
    have I1 : Inv X pins σ (upd H s.heap.objs.size (.tup [.int (i : Nat), x])) { s with heap := h'', toks := tk + 1 } :=
      I.turnedNew (ch := [e, it]) (fun b ob hb q => (sb.2 b (fun z => hb (by simp [z]))).trans (hk b ob (fun z => hb (by simp [z])) (fun z => hb (by simp [z])) q)) hf (Nat.le_refl _) new
    refine ⟨.ref s.heap.objs.size, _, I1, rfl, ⟨_, x, rfl, I.hok.fresh (Nat.le_refl _), rfl, fun ys hy => by rw [I.tuple_inj hy hq]; exact hx⟩, ⟨⟨u, ?_⟩, hit'.1.at fun o q => (sb.2 it (Ne.symm hne)).trans q, hne, hai, hea⟩, fun b hb => ?_⟩
    · have e1 : ((i + 1 : Nat) : Int) = (i : Int) + 1 := by omega
      rw [e1]; exact he'
    · have hb' : b < s.heap.objs.size := by
        have e' : b = e ∨ b = it := by simpa using hb
        rcases e' with z | z
        · rw [z]; exact hel
        · rw [z]; exact hil
      rw [upd_ne (Nat.ne_of_lt hb')]
      exact (hf b hb).1
  done := by
    intro X hP hw hK hc i pins s σ H E I hf st hg
    subst hP hw hK
    obtain ⟨⟨old, he⟩, hit, hne, hai, hea⟩ := st
    obtain ⟨xs, hq, hx⟩ := hg
    obtain ⟨its, rv, p, hz⟩ := I.tuple hq
    obtain ⟨f0, f1, f2, f3, f4, f5⟩ := hf it (by simp)
    have hl := rv.length
    have hi : i = its.toArray.size := by simp; omega
    subst hi
    exact wpAny_pyNext_enum_endD (Draws.tuple (prog := X.prog) (w := X.w) (A := X.A.in1) (I.ok.hd hc) it a hai its.toArray) he ⟨hit, p⟩ fun h' eb => ⟨rfl, I.turned (t' := s.toks) (fun b o hb q => eb b o hb q) f0 f1 f3 f4 f5⟩
  self := fun A i s Q E st h => let ⟨⟨_, he⟩, _⟩ := st; wpAny_pyIter_enum he h
theorem enumD_len : ∀ (k : Int) (xs : List D), (enumD k xs).length = xs.length
  | _, [] => rfl
  | k, x :: xs => by simp [enumD, enumD_len (k + 1) xs]
theorem enumD_get : ∀ (k : Int) (xs : List D) (i : Nat), (enumD k xs)[i]? = (xs[i]?).map fun x => .tuple [.int (k + i), x]
  | _, [], _ => by simp [enumD]
  | k, x :: xs, 0 => by simp [enumD]
  | k, x :: xs, i + 1 => by
    simp only [enumD, List.getElem?_cons_succ, enumD_get (k + 1) xs i]
    congr 1
    funext y
    congr 3
    push_cast
    omega
theorem pair_ok {K : PySem.W.Frag} {H : Hp} {T : Addr} {v w : V} {x y : D} {F G : List Addr} (n : H T = none) (h1 : Den K H v x F) (h2 : Den K H w y G) : DenB K (upd H T (.tup [v, w])) true (.ref T) (.tuple [x, y]) (F ++ G) := by
  have z := DenL.cons h1 (DenL.one h2)
  exact .tp (.inl (.inl upd_same)) (z.grow (Ext.new n))
theorem itok_enum {K : PySem.W.Frag} {a : Addr} {ds : List D} {F : List Addr} : ItOk K true (Ite K a) [⟨.ref a, .list ds, F⟩] (enumD 0 ds) := by
  intro H h
  have h := h _ List.mem_cons_self
  cases h with
  | lst e l =>
    rename_i xs F
    have sq : SqL K H a xs := .inl (.inl e)
    refine ⟨fun i hi => ⟨xs, xs[i]'(by rw [l.length, ← enumD_len 0]; exact hi), sq, List.getElem?_eq_getElem _⟩, ⟨xs, sq, by rw [enumD_len]; exact Nat.le_of_eq l.length⟩, fun i d x H' hd hy => ?_⟩
    obtain ⟨t, y, rfl, n, rfl, hy⟩ := hy
    rw [enumD_get] at hd
    obtain ⟨z, hz, rfl⟩ := Option.map_eq_some_iff.mp hd
    obtain ⟨y', G, e1, e2, e3⟩ := l.get hz
    have := hy xs sq
    rw [this] at e1
    cases e1
    refine ⟨Ext.new n, G, ?_, fun z hz => ⟨_, List.mem_cons_self, List.mem_cons_of_mem _ (e3 z hz)⟩⟩
    have pp := pair_ok n (Den.int (K := K) (H := H) (i : Nat)) e2
    rw [Int.zero_add]
    exact pp
theorem itok_enumT {K : PySem.W.Frag} {a : Addr} {ds : List D} {F : List Addr} : ItOk K true (Iet K a) [⟨.ref a, .tuple ds, F⟩] (enumD 0 ds) := by
  intro H h
  have h := h _ List.mem_cons_self
  cases h with
  | tup e l =>
    rename_i xs
    have sq : SqT K H a xs := e.sq
    refine ⟨fun i hi => ⟨xs, xs[i]'(by rw [l.length, ← enumD_len 0]; exact hi), sq, List.getElem?_eq_getElem _⟩, ⟨xs, sq, by rw [enumD_len]; exact l.length⟩, fun i d x H' hd hy => ?_⟩
    obtain ⟨t, y, rfl, n, rfl, hy⟩ := hy
    rw [enumD_get] at hd
    obtain ⟨z, hz, rfl⟩ := Option.map_eq_some_iff.mp hd
    obtain ⟨y', G, e1, e2, e3⟩ := l.get hz
    have := hy xs sq
    rw [this] at e1
    cases e1
    refine ⟨Ext.new n, G, ?_, fun z hz => ⟨_, List.mem_cons_self, e3 z hz⟩⟩
    have pp := pair_ok n (Den.int (K := K) (H := H) (i : Nat)) e2
    rw [Int.zero_add]
    exact pp
theorem pi_enumA {ta : TA} {tpos : Pos} {elts : List Expr} {kk : Nat} (hg : Gl X "enumerate") (hm : X.mg "enumerate" = none) (ha : PA X [e] ta) (hs : starEach [e] X.env = [(false, eval e X.env)]) :
    PI X (.Tuple elts kk tpos) (.Call (.Name "enumerate" p) [e] [] pos) (fun σ H R => ta σ H fun vs H1 => ∃ a xs, vs = [.ref a] ∧ (SqL X.K H1 a xs ∧ R (Ite X.K a) H1 ∨ SqT X.K H1 a xs ∧ R (Iet X.K a) H1)) := by
  refine ⟨fun pins s σ H R I h => ?_⟩
  refine Call_ (ld_blt I hg hm boot_enumerate (PyProof.Rows.callWith_type1 (thn (ha.run pos pins s σ H _ I h) fun us s1 ⟨vs, H1, I1, r1, q1⟩ => ?_) hs rfl))
  obtain ⟨a, xs, rfl, q1⟩ := q1
  obtain ⟨u, rfl, ru⟩ := vals1 r1
  cases ru
  have fr : ∀ b ∈ [s1.heap.objs.size + 1, s1.heap.objs.size], FpOk X pins H1 b := fun b hb => by
    have e' : b = s1.heap.objs.size + 1 ∨ b = s1.heap.objs.size := by simpa using hb
    have hle : s1.heap.objs.size ≤ b := by rcases e' with z | z <;> omega
    exact I1.fpOk hle (I1.hok.fresh hle)
  rcases q1 with ⟨hq, q⟩ | ⟨hq, q⟩
  · obtain ⟨its, rv, p', hz⟩ := I1.list hq
    refine call_enumerate_list p'.isList fun h' he hit hsz hk => wpAny_pyIter_enum he ?_
    have I2 : Inv X pins σ H1 { s1 with heap := h' } := I1.kept (t' := s1.toks) hk
    exact ⟨s1.heap.objs.size + 1, [s1.heap.objs.size + 1, s1.heap.objs.size], _, _, H1, rfl, I2, turn_enum a (s1.heap.objs.size + 1) s1.heap.objs.size, ⟨⟨.none, he⟩, hit, Nat.succ_ne_self _⟩, fr, q⟩
  · obtain ⟨its, rv, p', hz⟩ := I1.tuple hq
    have hl : a < s1.heap.objs.size := by obtain ⟨o, e, _⟩ := p'; exact Heap.lt_size e
    refine call_enumT (show s1.heap.IsTuple a its.toArray from p') fun h' he hit hk => wpAny_pyIter_enum he ?_
    have I2 : Inv X pins σ H1 { s1 with heap := h' } := I1.kept (t' := s1.toks) hk
    exact ⟨s1.heap.objs.size + 1, [s1.heap.objs.size + 1, s1.heap.objs.size], _, _, H1, rfl, I2, turn_enumT a (s1.heap.objs.size + 1) s1.heap.objs.size, ⟨⟨.none, he⟩, hit, Nat.succ_ne_self _, Nat.ne_of_lt hl, Nat.ne_of_gt (Nat.lt_succ_of_lt hl)⟩, fr, q⟩
theorem iv_enum {tpos : Pos} {elts : List Expr} {kk : Nat} (hm : X.mg "enumerate" = none) (he : EV X G .val e fe) (hg : Gl X "enumerate" := by rfl) (hs : starEach [e] X.env = [(false, eval e X.env)] := by rfl) :
    IV X G true (.Tuple elts kk tpos) (.Call (.Name "enumerate" p) [e] [] pos) (wEnum fe) := by
  refine PI.mono (pi_enumA hg hm (pa_cons he pa_nil (by rw [hs]; rfl)) hs) fun σ H R h => ?_
  obtain ⟨c, T, fp, ρ, S, ds, S', ok, hf, q⟩ := h
  obtain ⟨x, S1, h1, hf⟩ := M.bind_some hf
  obtain ⟨xs, e1, hf⟩ := seq_bind hf
  obtain ⟨rfl, rfl⟩ := M.pure_some hf
  refine ⟨c, T, fp, ρ, S, _, _, ok, h1, fun v H' F ok' e dn av r => ?_⟩
  rcases seq_kindD e1 with rfl | rfl
  · cases dn with
    | lst e2 l =>
      rename_i a vs F
      refine ⟨a, vs, rfl, .inl ⟨.inl (.inl e2), q _ H' [⟨.ref a, .list xs, a :: F⟩] ok' e itok_enum ?_ ?_ ?_⟩⟩ <;> (intro t ht; obtain rfl := List.mem_singleton.mp ht)
      · exact .lst e2 l
      · exact av
      · exact r
  · cases dn with
    | tup e2 l =>
      rename_i a vs
      refine ⟨a, vs, rfl, .inr ⟨e2.sq, q _ H' [⟨.ref a, .tuple xs, F⟩] ok' e itok_enumT ?_ ?_ ?_⟩⟩ <;> (intro t ht; obtain rfl := List.mem_singleton.mp ht)
      · exact .tup e2 l
      · exact av
      · exact r
end
end DL

/-! DS8: targets, comprehensions. -/
namespace DL
open PySem PySem.Spec PyProof.Rows L2

theorem kill_some {i : Nat} {d : D} : ∀ {ks : List Nat} {ρ : Env}, (kill ks ρ)[i]? = some (some d) → ρ[i]? = some (some d) ∧ i ∉ ks
  | [], _, h => ⟨h, by simp⟩
  | k :: ks, ρ, h => by
    obtain ⟨h1, h2⟩ := kill_some (ks := ks) (ρ := ρ.set k none) h
    by_cases e : k = i
    · subst e
      by_cases hk : k < ρ.length
      · rw [List.getElem?_set_self hk] at h1; cases h1
      · rw [List.getElem?_eq_none (by simpa using hk)] at h1; cases h1
    · rw [List.getElem?_set_ne e] at h1
      exact ⟨h1, by simp only [List.mem_cons, not_or]; exact ⟨fun z => e z.symm, h2⟩⟩
theorem kill_len : ∀ (ks : List Nat) (ρ : Env), (kill ks ρ).length = ρ.length
  | [], _ => rfl
  | k :: ks, ρ => (kill_len ks (ρ.set k none)).trans (by simp)
theorem kill_out {i : Nat} : ∀ {ks : List Nat} {ρ : Env}, i ∉ ks → (kill ks ρ)[i]? = ρ[i]?
  | [], _, _ => rfl
  | k :: ks, ρ, h => by
    have h1 : i ≠ k := fun z => h (by simp [z])
    have h2 : i ∉ ks := fun z => h (by simp [z])
    show (kill ks (ρ.set k none))[i]? = _
    rw [kill_out h2, List.getElem?_set_ne (Ne.symm h1)]

section
variable {K : PySem.W.Frag} {G : Sg} {c c' : Cc} {T : List Tmp} {fp : Nat → List Addr} {ρ : Env} {S S' : Src} {σ σ' : St} {H H' : Hp} {m : Md} {F : List Addr} {v : V} {d : D} {i : Nat}
/-- one more fact of a name's place -/
def put (fp : Nat → List Addr) (i : Nat) (F : List Addr) : Nat → List Addr := fun j => if j = i then F else fp j
theorem put_same : put fp i F i = F := if_pos rfl
theorem put_ne {j : Nat} (h : j ≠ i) : put fp i F j = fp j := if_neg h
theorem set_some {α : Type} {l : List (Option α)} {j : Nat} {x y : α} (h : (l.set i (some x))[j]? = some (some y)) : (j = i ∧ y = x) ∨ (j ≠ i ∧ l[j]? = some (some y)) := by
  by_cases e : i = j
  · subst e
    by_cases hk : i < l.length
    · rw [List.getElem?_set_self hk] at h; cases h; exact .inl ⟨rfl, rfl⟩
    · rw [List.getElem?_eq_none (by simpa using hk)] at h; cases h
  · rw [List.getElem?_set_ne e] at h
    exact .inr ⟨fun z => e z.symm, h⟩
theorem set_len {α : Type} {l : List (Option α)} {i : Nat} {x : Option α} {y : α} (h : (l.set i x)[i]? = some (some y)) : i < l.length := by
  have := (List.getElem?_eq_some_iff.mp h).1
  simpa using this
theorem SrcOk.set (h : SrcOk G.sc c S σ H) (hsc : G.sc ≠ some i) : SrcOk G.sc c S (σ.set i (some v)) H := by
  unfold SrcOk at h ⊢
  split at h
  · trivial
  · rename_i j p q e1 e2
    refine ⟨?_, h.2⟩
    rw [List.getElem?_set_ne fun z => hsc (by rw [e1, z])]
    exact h.1
  · exact h.elim
theorem StOk.put (ok : StOk K G c T fp ρ S σ H) (hi : i ∉ G.mu) (hsc : G.sc ≠ some i) (dn : Den K H v d F) (av : ∀ a ∈ F, ¬ c.P a) (r : ResOk G fp ρ H .val F) : StOk K G c T (DL.put fp i F) (ρ.set i (some d)) S (σ.set i (some v)) H := by
  refine ⟨fun j e hj => ?_, ok.tmp, fun j e hj a ha => ?_, ok.tav, fun j k e f hj hjk h1 h2 a ha => ?_, fun j e hj h1 t ht => ?_, fun j e hj h1 => ?_, fun j e hj h1 => ?_, ok.ext, ok.hP, ok.pd, ok.src.set hsc, by simp [ok.len]⟩
  · rcases set_some hj with ⟨rfl, rfl⟩ | ⟨hne, hj'⟩
    · have hl := set_len hj
      rw [ok.len] at hl
      exact ⟨v, List.getElem?_set_self hl, by rw [put_same]; exact dn⟩
    · rw [put_ne hne, List.getElem?_set_ne (Ne.symm hne)]
      exact ok.den j e hj'
  · rcases set_some hj with ⟨rfl, rfl⟩ | ⟨hne, hj'⟩
    · rw [put_same] at ha
      exact av a ha
    · rw [put_ne hne] at ha
      exact ok.av j e hj' a ha
  · have nj : j ≠ i := fun z => hi (z ▸ hj)
    rcases set_some h1 with ⟨rfl, rfl⟩ | ⟨_, g1⟩
    · exact absurd rfl nj
    · rw [put_ne nj] at ha
      rcases set_some h2 with ⟨rfl, rfl⟩ | ⟨hne, g2⟩
      · rw [put_same]
        exact fun z => r j e hj g1 a z ha
      · rw [put_ne hne]
        exact ok.sep j k e f hj hjk g1 g2 a ha
  · have nj : j ≠ i := fun z => hi (z ▸ hj)
    rcases set_some h1 with ⟨rfl, rfl⟩ | ⟨_, g1⟩
    · exact absurd rfl nj
    · rw [put_ne nj]
      exact ok.tsep j e hj g1 t ht
  · have nj : j ≠ i := fun z => hi (z ▸ hj)
    rcases set_some h1 with ⟨rfl, rfl⟩ | ⟨_, g1⟩
    · exact absurd rfl nj
    · rw [put_ne nj]
      exact ok.nd j e hj g1
  · have nj : j ≠ i := fun z => hi (z ▸ hj)
    rcases set_some h1 with ⟨rfl, rfl⟩ | ⟨_, g1⟩
    · exact absurd rfl nj
    · rw [put_ne nj]
      exact ok.new j e hj g1
/-- a name whose list may change gets what is its own -/
theorem StOk.putM (ok : StOk K G c T fp ρ S σ H) (hsc : G.sc ≠ some i) (dn : Den K H v d F) (av : ∀ a ∈ F, ¬ c.P a) (nd : F.Nodup) (h0 : ∀ a ∈ F, c.H0 a = none) (hs : ∀ j e, j ≠ i → ρ[j]? = some (some e) → ∀ a ∈ F, a ∉ fp j) (ht : ∀ t ∈ T, ∀ a ∈ F, a ∉ t.F) :
    StOk K G c T (DL.put fp i F) (ρ.set i (some d)) S (σ.set i (some v)) H := by
  refine ⟨fun j e hj => ?_, ok.tmp, fun j e hj a ha => ?_, ok.tav, fun j k e f hj hjk h1 h2 a ha => ?_, fun j e hj h1 t htt a ha => ?_, fun j e hj h1 => ?_, fun j e hj h1 => ?_, ok.ext, ok.hP, ok.pd, ok.src.set hsc, by simp [ok.len]⟩
  · rcases set_some hj with ⟨rfl, rfl⟩ | ⟨hne, hj'⟩
    · have hl := set_len hj
      rw [ok.len] at hl
      exact ⟨v, List.getElem?_set_self hl, by rw [put_same]; exact dn⟩
    · rw [put_ne hne, List.getElem?_set_ne (Ne.symm hne)]
      exact ok.den j e hj'
  · rcases set_some hj with ⟨rfl, rfl⟩ | ⟨hne, hj'⟩
    · rw [put_same] at ha
      exact av a ha
    · rw [put_ne hne] at ha
      exact ok.av j e hj' a ha
  · rcases set_some h1 with ⟨rfl, rfl⟩ | ⟨nj, g1⟩
    · rw [put_same] at ha
      rcases set_some h2 with ⟨rfl, rfl⟩ | ⟨hne, g2⟩
      · exact absurd rfl hjk
      · rw [put_ne hne]
        exact hs k f hne g2 a ha
    · rw [put_ne nj] at ha
      rcases set_some h2 with ⟨rfl, rfl⟩ | ⟨hne, g2⟩
      · rw [put_same]
        exact fun z => hs j e nj g1 a z ha
      · rw [put_ne hne]
        exact ok.sep j k e f hj hjk g1 g2 a ha
  · rcases set_some h1 with ⟨rfl, rfl⟩ | ⟨nj, g1⟩
    · rw [put_same] at ha
      exact ht t htt a ha
    · rw [put_ne nj] at ha
      exact ok.tsep j e hj g1 t htt a ha
  · rcases set_some h1 with ⟨rfl, rfl⟩ | ⟨nj, g1⟩
    · rw [put_same]
      exact nd
    · rw [put_ne nj]
      exact ok.nd j e hj g1
  · rcases set_some h1 with ⟨rfl, rfl⟩ | ⟨nj, g1⟩
    · rw [put_same]
      exact h0
    · rw [put_ne nj]
      exact ok.new j e hj g1
/-- names forgotten -/
theorem StOk.kill {ks : List Nat} (ok : StOk K G c T fp ρ S σ H) : StOk K G c T fp (DL.kill ks ρ) S σ H :=
  ⟨fun j e h => ok.den j e (kill_some h).1, ok.tmp, fun j e h => ok.av j e (kill_some h).1, ok.tav, fun j k e f hj hjk h1 h2 => ok.sep j k e f hj hjk (kill_some h1).1 (kill_some h2).1,
    fun j e hj h => ok.tsep j e hj (kill_some h).1, fun j e hj h => ok.nd j e hj (kill_some h).1, fun j e hj h => ok.new j e hj (kill_some h).1, ok.ext, ok.hP, ok.pd, ok.src, by rw [kill_len]; exact ok.len⟩
theorem SrcOk.other (h : SrcOk G.sc c S σ H) (h' : SrcOk G.sc c' S' σ' H') (e : c'.src = c.src) : SrcOk G.sc c S' σ H' := by
  unfold SrcOk at h h' ⊢
  rw [e] at h'
  split at h
  · trivial
  · rename_i e1 e2
    rw [e1, e2] at h'
    exact ⟨h.1, h'.2⟩
  · exact h.elim
theorem StOk.wipe {ks : List Nat} (ok : StOk K G c T fp ρ S σ H) (hsc : ∀ i ∈ ks, G.sc ≠ some i) : StOk K G c T fp (DL.kill ks ρ) S (L2.wipe σ ks) H := by
  have k := ok.kill (ks := ks)
  refine ⟨fun j e h => ?_, k.tmp, k.av, k.tav, k.sep, k.tsep, k.nd, k.new, k.ext, k.hP, k.pd, ?_, by rw [wipe_length]; exact k.len⟩
  · rw [wipe_out (kill_some h).2]
    exact k.den j e h
  · have hs := ok.src
    unfold SrcOk at hs ⊢
    split at hs
    · trivial
    · rename_i j p q e1 e2
      refine ⟨?_, hs.2⟩
      rw [wipe_out fun z => hsc j z e1]
      exact hs.1
    · exact hs.elim
/-- a list that nothing knows yet -/
def Cc.and (c : Cc) (x : Addr) : Cc := ⟨c.src, c.H0, fun a => c.P a ∨ a = x⟩
theorem StOk.lay {x : Addr} (ok : StOk K G c T fp ρ S σ H) (n : H x = none) : StOk K G (c.and x) T fp ρ S σ (upd H x (.lst [])) := by
  have e : Ext [] H (upd H x (.lst [])) := Ext.new n
  have ok' := ok.grow e
  refine ⟨ok'.den, ok'.tmp, fun j e h a ha z => ?_, fun t ht a ha z => ?_, ok'.sep, ok'.tsep, ok'.nd, ok'.new, ok'.ext, fun a ha => .inl (ok'.hP a ha), fun a z => ?_, ok'.src, ok'.len⟩
  · rcases z with z | rfl
    · exact ok'.av j e h a ha z
    · obtain ⟨v', _, q⟩ := ok.den j _ h
      exact q.dom _ ha n
  · rcases z with z | rfl
    · exact ok'.tav t ht a ha z
    · exact (ok.tmp t ht).dom _ ha n
  · rcases z with z | rfl
    · exact ok'.pd a z
    · rw [upd_same]
      exact fun z => nomatch z
theorem StOk.poke {x : Addr} {acc acc' : List V} (ok : StOk K G c T fp ρ S σ H) (hD : c.P x) (hR : x ∉ c.R) (hl : H x = some (.lst acc)) (h0 : c.H0 x = none) : StOk K G c T fp ρ S σ (upd H x (.lst acc')) := by
  have nt : ∀ y u, H x ≠ some (.frz y u) := fun y u z => by rw [hl] at z; cases z
  refine ⟨fun j e h => ?_, fun t ht => (ok.tmp t ht).wr nt fun z => ok.tav t ht x z hD, ok.av, ok.tav, ok.sep, ok.tsep, ok.nd, ok.new, ⟨fun a o h n => ?_, fun a y u h => ?_, fun a h => upd_dom (ok.ext.dom a h), fun a z u h => (upd_fz (o := .lst acc') (by intro _ _ z; cases z) a z u h).elim .inl (ok.ext.fz a z u)⟩, ok.hP, fun a z => upd_dom (ok.pd a z), ?_, ok.len⟩
  · obtain ⟨v', e1, e2⟩ := ok.den j e h
    exact ⟨v', e1, e2.wr nt fun z => ok.av j e h x z hD⟩
  · rw [upd_ne fun z => by rw [z, h0] at h; cases h]
    exact ok.ext.keep a o h n
  · rw [upd_ne fun z => by rw [z, h0] at h; cases h]
    exact ok.ext.tup a y u h
  · have hs := ok.src
    unfold SrcOk at hs ⊢
    unfold Cc.R at hR
    split at hs
    · trivial
    · rename_i i p q e1 e2
      rw [e2] at hR
      have h1 : p ≠ x := fun z => hR (by simp [z])
      have h2 : q ≠ x := fun z => hR (by simp [z])
      refine ⟨hs.1, ?_, ?_⟩
      · rw [upd_ne h1]; exact hs.2.1
      · rw [upd_ne h2]; exact hs.2.2
    · exact hs.elim
theorem Ext.pokeN {R : List Addr} {x : Addr} {o : HO} {H0 : Hp} (e : Ext R H0 H) (n : H0 x = none) (nf : NoLk o := by intro _ _ z; cases z; first | exact ⟨_, rfl⟩ | done) : Ext R H0 (upd H x o) := by
  refine ⟨fun a u h k => ?_, fun a y u h => ?_, fun a h => upd_dom (e.dom a h), fun a z u h => (upd_fz nf a z u h).elim .inl (e.fz a z u)⟩
  · rw [upd_ne (ne_of_none h n)]
    exact e.keep a u h k
  · rw [upd_ne (ne_of_none h n)]
    exact e.tup a y u h
end
end DL

/-! DS9: targets, comprehensions. -/
namespace DL
open PySem PySem.Spec PyProof.Rows L2

theorem wipe_in {σ : St} {i : Nat} {x : Option V} : ∀ {ws : List Nat}, i ∈ ws → L2.wipe (σ.set i x) ws = L2.wipe σ ws
  | [], h => nomatch h
  | w :: ws, h => by
    unfold L2.wipe
    by_cases e : i ∈ ws
    · rw [wipe_in e]
    · have e2 : i = w := by
        rcases List.mem_cons.mp h with h | h
        · exact h
        · exact absurd h e
      subst e2
      have key : ∀ (ws : List Nat) (σ : St), i ∉ ws → L2.wipe (σ.set i x) ws = (L2.wipe σ ws).set i x := by
        intro ws
        induction ws with
        | nil => intro σ _; rfl
        | cons a r ih =>
          intro σ h
          unfold L2.wipe
          rw [ih σ fun z => h (by simp [z])]
          exact List.set_comm _ _ fun z => h (by simp [z])
      rw [key ws σ e, List.set_set]
/-- what a target leaves as it is -/
structure Kept (G : Sg) (vs : List Nat) (fp fp' : Nat → List Addr) (ρ ρ' : Env) (σ σ' : St) : Prop where
  mu : ∀ i ∈ G.mu, fp' i = fp i ∧ ρ'[i]? = ρ[i]?
  wp : ∀ ws, (∀ i ∈ vs, i ∈ ws) → L2.wipe σ' ws = L2.wipe σ ws
def tDG (K : PySem.W.Frag) (G : Sg) (wk : Bool) (vs : List Nat) (g : GF) : TG := fun v σ H Q => ∃ c T fp ρ S d ρ' S' F, StOk K G c T fp ρ S σ H ∧ DenB K H wk v d F ∧ (∀ a ∈ F, ¬ c.P a) ∧ ResOk G fp ρ H .val F ∧ g d ρ S = some (ρ', S') ∧
  ∀ σ' fp', StOk K G c T fp' ρ' S' σ' H → Kept G vs fp fp' ρ ρ' σ σ' → Q σ' H
def tDGs (K : PySem.W.Frag) (G : Sg) (vs : List Nat) (g : List GF) : TGs := fun v σ H Q => ∃ c T fp ρ S d ρ' S' F, StOk K G c T fp ρ S σ H ∧ DenL K H v d F ∧ (∀ a ∈ F, ¬ c.P a) ∧ ResOk G fp ρ H .val F ∧ gAll g d ρ S = some (ρ', S') ∧
  ∀ σ' fp', StOk K G c T fp' ρ' S' σ' H → Kept G vs fp fp' ρ ρ' σ σ' → Q σ' H
abbrev GV (X : Cx) (G : Sg) (wk : Bool) (vs : List Nat) (e : Expr) (g : GF) : Prop := PG X e (tDG X.K G wk vs g)
abbrev GVs (X : Cx) (G : Sg) (vs : List Nat) (es : List Expr) (gs : List GF) : Prop := PGs X es (tDGs X.K G vs gs)
theorem PG.mono {X : Cx} {e : Expr} {t t' : TG} (h : PG X e t) (m : ∀ v σ H Q, t' v σ H Q → t v σ H Q) : PG X e t' := ⟨fun pins s σ H v u Q I r q => h.run pins s σ H v u Q I r (m v σ H Q q)⟩
theorem PGs.mono {X : Cx} {e : List Expr} {t t' : TGs} (h : PGs X e t) (m : ∀ v σ H Q, t' v σ H Q → t v σ H Q) : PGs X e t' := ⟨fun pins s σ H v u Q I r q => h.run pins s σ H v u Q I r (m v σ H Q q)⟩

section
variable {X : Cx} {G : Sg} {pos : Pos}
theorem gv_name {i : Nat} {x : Str} (hN : X.N.Nodup) (hi : X.N[i]? = some x) (hx : Loc X.env.scope x) (hf : X.fn x = true ∨ X.env.scope.names.lookup x = some .local) (hmu : i ∉ G.mu) (hsc : G.sc ≠ some i) : GV X G false [i] (.Name x pos) (gName i) := by
  refine PG.mono (pg_name hN hi hx hf) fun v σ H Q h => ?_
  obtain ⟨c, T, fp, ρ, S, d, ρ', S', F, ok, dn, av, r, hf, q⟩ := h
  obtain ⟨rfl, rfl⟩ := M.pure_some hf
  refine q _ _ (ok.put hmu hsc dn.name av r) ⟨fun j hj => ?_, fun ws hw => wipe_in (hw i List.mem_cons_self)⟩
  have nj : j ≠ i := fun z => hmu (z ▸ hj)
  exact ⟨put_ne nj, List.getElem?_set_ne (Ne.symm nj)⟩
theorem gvs_nil : GVs X G [] [] [] := by
  refine PGs.mono pgs_nil fun v σ H Q h => ?_
  obtain ⟨c, T, fp, ρ, S, d, ρ', S', F, ok, dn, av, r, hf, q⟩ := h
  cases dn with
  | cons => exact (M.fail_some hf).elim
  | nil =>
    obtain ⟨rfl, rfl⟩ := M.pure_some hf
    exact ⟨rfl, q σ fp ok ⟨fun i _ => ⟨rfl, rfl⟩, fun ws _ => rfl⟩⟩
theorem ResOk.keptV {K : PySem.W.Frag} {fp fp' : Nat → List Addr} {ρ ρ' : Env} {σ σ' : St} {vs : List Nat} {H : Hp} {F : List Addr} (k : Kept G vs fp fp' ρ ρ' σ σ') (r : ResOk G fp ρ H .val F) : ResOk G fp' ρ' H .val F := fun i d hi hd a ha => by
  obtain ⟨e1, e2⟩ := k.mu i hi
  rw [e1]
  rw [e2] at hd
  exact r i d hi hd a ha
theorem gvs_cons {e : Expr} {es : List Expr} {g : GF} {gs : List GF} {v1 v2 : List Nat} (h1 : GV X G wk v1 e g) (h2 : GVs X G v2 es gs) (hs : (assignEach (e :: es) X.env).map (·.2) = assign e X.env :: (assignEach es X.env).map (·.2) := by rfl) : GVs X G (v1 ++ v2) (e :: es) (g :: gs) := by
  refine PGs.mono (pgs_cons h1 h2 hs) fun v σ H Q h => ?_
  obtain ⟨c, T, fp, ρ, S, d, ρ', S', F, ok, dn, av, r, hf, q⟩ := h
  cases dn with
  | nil => exact (M.fail_some hf).elim
  | cons da dl =>
    obtain ⟨ρ1, S1, hf1, hf2⟩ := M.bind_some hf
    refine ⟨_, _, rfl, c, T, fp, ρ, S, _, ρ1, S1, _, ok, .of da, fun a ha => av a (List.mem_append_left _ ha), fun i d hi hd a ha => r i d hi hd a (List.mem_append_left _ ha), hf1, fun σ1 fp1 ok1 k1 => ?_⟩
    refine ⟨c, T, fp1, ρ1, S1, _, ρ', S', _, ok1, dl, fun a ha => av a (List.mem_append_right _ ha), ?_, hf2, fun σ2 fp2 ok2 k2 => ?_⟩
    · exact ResOk.keptV (K := X.K) k1 fun i d hi hd a ha => r i d hi hd a (List.mem_append_right _ ha)
    · refine q σ2 fp2 ok2 ⟨fun i hi => ⟨(k2.mu i hi).1.trans (k1.mu i hi).1, (k2.mu i hi).2.trans (k1.mu i hi).2⟩, fun ws hw => ?_⟩
      rw [k2.wp ws fun i hi => hw i (List.mem_append_right _ hi), k1.wp ws fun i hi => hw i (List.mem_append_left _ hi)]
theorem gAll_len {gs : List GF} : ∀ {ds : List D} {ρ ρ' : Env} {S S' : Src}, gAll gs ds ρ S = some (ρ', S') → ds.length = gs.length := by
  induction gs with
  | nil =>
    intro ds ρ ρ' S S' h
    cases ds with
    | nil => rfl
    | cons => exact (M.fail_some h).elim
  | cons g gs ih =>
    intro ds ρ ρ' S S' h
    cases ds with
    | nil => exact (M.fail_some h).elim
    | cons d ds =>
      obtain ⟨ρ1, S1, h1, h2⟩ := M.bind_some h
      simp [ih h2]
theorem gv_tup {es : List Expr} {k : Nat} {gs : List GF} {vs : List Nat} (hc : X.calm = true) (h : GVs X G vs es gs) (hn : (assignEach es X.env).length = gs.length := by rfl) (hst : (assignEach es X.env).findIdx? (·.1) = none := by rfl) : GV X G true vs (.Tuple es k pos) (gTup gs) := by
  refine PG.mono (pg_tup hc h hn hst) fun v σ H Q h => ?_
  obtain ⟨c, T, fp, ρ, S, d, ρ', S', F, ok, dn, av, r, hf, q⟩ := h
  unfold gTup at hf
  split at hf
  · cases dn with
    | tp e l => exact ⟨_, _, rfl, e, l.length.trans (gAll_len hf), c, T, fp, ρ, S, _, ρ', S', F, ok, l, av, r, hf, q⟩
    | of dn => cases dn with
      | tup e l => exact ⟨_, _, rfl, e.sq, l.length.trans (gAll_len hf), c, T, fp, ρ, S, _, ρ', S', F, ok, l, av, r, hf, q⟩
  · exact (M.fail_some hf).elim
end

/-! ### comprehensions -/
theorem ResOk.kept {G : Sg} {fp fp' : Nat → List Addr} {ρ ρ' : Env} {σ σ' : St} {vs : List Nat} {H : Hp} {m : Md} {F : List Addr} (k : Kept G vs fp fp' ρ ρ' σ σ') (r : ResOk G fp' ρ' H m F) : ResOk G fp ρ H m F := by
  cases m with
  | bor => trivial
  | own => exact r
  | val =>
    intro i d hi hd a ha
    obtain ⟨e1, e2⟩ := k.mu i hi
    rw [← e1]
    rw [← e2] at hd
    exact r i d hi hd a ha
theorem compD_nil {g : GF} {t : TF} {e : EF} {ρ : Env} {S S' : Src} {ys : List D} (h : compD g t e ρ [] S = some (ys, S')) : ys = [] ∧ S = S' := by
  obtain ⟨rfl, rfl⟩ := M.pure_some h
  exact ⟨rfl, rfl⟩
theorem lc_loop {K : PySem.W.Frag} {G : Sg} {c : Cc} {T T' : List Tmp} {fp : Nat → List Addr} {ρ : Env} {S S' : Src} {σ : St} {H Hb : Hp} {m : Md} {J : It} {ds ys : List D} {g : GF} {t : TF} {e : EF} {x : Addr} {acc : List V} {da : List D} {Fa : List Addr} {vs gv : List Nat} {Qd : Hp → Prop}
    (hvs : ∀ i ∈ gv, i ∈ vs) (hw : L2.wipe σ vs = σ) (ok : StOk K G c (T' ++ T) fp ρ S σ H) (hD : c.P x) (hR : x ∉ c.R) (h0 : c.H0 x = none) (hP : ∀ a ∈ c.R, c.P a) (hb : Ext c.R Hb H) (hbx : Hb x = none) (hJ : ItOk K wk J T' ds) (hT : ∀ t ∈ T', (∀ a ∈ t.F, ¬ c.P a) ∧ ResOk G fp ρ Hb .val t.F)
    (hl : H x = some (.lst acc)) (l : DenL K H acc da Fa) (av : ∀ a ∈ Fa, ¬ c.P a) (r : ResOk G fp ρ Hb m Fa) (hf : compD g t e ρ ds S = some (ys, S')) (hz : da.length + ys.length ≤ sizeLine)
    (fin : ∀ H' acc' F', StOk K G c (T' ++ T) fp ρ S' σ H' → Ext c.R Hb H' → Ext (x :: c.R) H H' → H' x = some (.lst acc') → DenL K H' acc' (da ++ ys) F' → (∀ a ∈ F', ¬ c.P a) → ResOk G fp ρ Hb m F' → Qd H') :
    ∃ W : Nat → Nat → Hp → Prop, (∃ k, W 0 k H) ∧ ∀ i k H, W i k H → (J.stop i H ∧ Qd H) ∨ (J.go i H ∧ ∃ Nx : Hp → Prop, (∀ H', Nx H' → ∃ k', k' < k ∧ W (i + 1) k' H') ∧ ∀ y H', J.yld i H y H' → tDG K G wk gv g y σ H' fun σ2 H2 => L2.wipe σ2 vs = σ ∧ tDT K G t σ2 H2 fun b H3 =>
      if b = true then tD K G m e σ2 H3 fun y H4 => ∃ acc, H4 x = some (.lst acc) ∧ acc.length < sizeLine ∧ Nx (upd H4 x (.lst (acc ++ [y]))) else Nx H3) := by
  let Pv : Nat → Hp → Prop := fun i H' => ∃ S1 acc1 da1 F1 ys1, StOk K G c (T' ++ T) fp ρ S1 σ H' ∧ Ext c.R Hb H' ∧ Ext (x :: c.R) H H' ∧ H' x = some (.lst acc1) ∧ DenL K H' acc1 da1 F1 ∧ (∀ a ∈ F1, ¬ c.P a) ∧ ResOk G fp ρ Hb m F1 ∧ compD g t e ρ (ds.drop i) S1 = some (ys1, S') ∧ da1 ++ ys1 = da ++ ys
  refine ⟨fun i k H => k = ds.length - i ∧ i ≤ ds.length ∧ Pv i H, ⟨_, rfl, Nat.zero_le _, S, acc, da, Fa, ys, ok, hb, Ext.refl, hl, l, av, r, hf, rfl⟩, ?_⟩
  rintro i k H ⟨rfl, hi, S1, acc1, da1, F1, ys1, ok, hb, hs, hl, l, av, r, hf, hy⟩
  obtain ⟨jg, js, jy⟩ := hJ H fun t ht => ok.tmp t (List.mem_append_left _ ht)
  by_cases hlt : i < ds.length
  · refine .inr ⟨jg i hlt, Pv (i + 1), fun H' p => ⟨ds.length - (i + 1), by omega, rfl, hlt, p⟩, fun y H' hyl => ?_⟩
    have hd : ds[i]? = some ds[i] := List.getElem?_eq_getElem hlt
    obtain ⟨ex, Fy, dy, hFy⟩ := jy i _ y H' hd hyl
    rw [List.drop_eq_getElem_cons hlt] at hf
    obtain ⟨ρ1, S2, f1, hf⟩ := M.bind_some hf
    obtain ⟨b, S3, f2, hf⟩ := M.bind_some hf
    have ok1 := ok.grow ex
    refine ⟨c, T' ++ T, fp, ρ, S1, _, ρ1, S2, Fy, ok1, dy, fun a ha => ?_, fun j d hj hdj a ha => ?_, f1, fun σ2 fp2 ok2 k2 => ⟨(k2.wp vs hvs).trans hw, ?_⟩⟩
    · obtain ⟨t, ht, ha⟩ := hFy a ha
      exact (hT t ht).1 a ha
    · obtain ⟨t, ht, ha⟩ := hFy a ha
      exact (hT t ht).2 j d hj hdj a ha
    refine ⟨c, T' ++ T, fp2, ρ1, S2, b, S3, ok2, f2, fun H3 ok3 e3 => ?_⟩
    have back : ∀ {S' : Src} {H' : Hp} {fp' ρ' σ'}, StOk K G c (T' ++ T) fp' ρ' S' σ' H' → Ext c.R H H' → StOk K G c (T' ++ T) fp ρ S' σ H' := fun o ee => ok.step ee (ok.src.other o.src rfl)
    have eH3 : Ext c.R H H3 := (ex.mono fun _ z => nomatch z).trans e3
    cases b with
    | true =>
      rw [if_pos rfl] at hf
      refine iteT ?_
      obtain ⟨z, S4, f3, hf⟩ := M.bind_some hf
      obtain ⟨zs, S5, f4, hf⟩ := M.bind_some hf
      obtain ⟨rfl, rfl⟩ := M.pure_some hf
      refine ⟨c, T' ++ T, fp2, ρ1, S3, z, S4, ok3, f3, fun v H4 Fz ok4 e4 dz az rz => ?_⟩
      have eH4 : Ext c.R H H4 := eH3.trans e4
      have hl4 : H4 x = some (.lst acc1) := eH4.keep x _ hl hR
      have ok4' := back ok4 eH4
      have l4 : DenL K H4 acc1 da1 F1 := l.ext eH4 fun a ha z => av a ha (hP a z)
      have nt : ∀ y u, H4 x ≠ some (.frz y u) := fun y u z => by rw [hl4] at z; cases z
      refine ⟨acc1, hl4, ?_, ?_⟩
      · have e1 := congrArg List.length hy
        simp only [List.length_append, List.length_cons] at e1
        rw [l.length]
        omega
      · refine ⟨S4, _, da1 ++ [z], F1 ++ Fz, zs, ok4'.poke hD hR hl4 h0, (hb.trans eH4).pokeN hbx, (hs.trans (eH4.mono fun a z => List.mem_cons_of_mem _ z)).trans (Ext.poke List.mem_cons_self nt), upd_same, ?_, fun a ha => (List.mem_append.mp ha).elim (av a) (az a), ?_, f4, ?_⟩
        · exact (l4.wr nt fun z => av x z hD).append (DenL.one (dz.wr nt fun z => az x z hD))
        · refine ResOk.app (H1 := H) r ?_ (fun z hz => l.dom z hz) ?_
          · exact (ResOk.kept k2 rz).back (hb.trans eH3) hP az
          · exact (ResOk.kept k2 rz).back eH3 hP az
        · rw [List.append_assoc]
          exact hy
    | false =>
      rw [if_neg Bool.false_ne_true] at hf
      refine iteF ?_
      exact ⟨S3, acc1, da1, F1, ys1, back ok3 eH3, hb.trans eH3, hs.trans (eH3.mono fun a z => List.mem_cons_of_mem _ z), eH3.keep x _ hl hR, l.ext eH3 fun a ha z => av a ha (hP a z), av, r, hf, hy⟩
  · have e1 : i = ds.length := by omega
    subst e1
    rw [List.drop_length] at hf
    obtain ⟨rfl, rfl⟩ := compD_nil hf
    rw [List.append_nil] at hy
    subst hy
    exact .inl ⟨js, fin H acc1 F1 ok hb hs hl l av r⟩

theorem wipe_self {σ : St} {ws : List Nat} : L2.wipe (L2.wipe σ ws) ws = L2.wipe σ ws := by
  apply List.ext_getElem?
  intro i
  by_cases h : i ∈ ws
  · have h1 : ∀ (τ : St), τ.length = σ.length → (L2.wipe τ ws)[i]? = if i < σ.length then some none else none := by
      intro τ hl
      have hlen := wipe_length τ ws
      cases e : (L2.wipe τ ws)[i]? with
      | none =>
        have := List.getElem?_eq_none_iff.mp e
        rw [if_neg (by omega)]
      | some o =>
        have hlt := (List.getElem?_eq_some_iff.mp e).1
        rw [if_pos (by omega)]
        cases o with
        | none => rfl
        | some v => exact absurd h (wipe_some e).2
    rw [h1 _ (wipe_length σ ws), h1 σ rfl]
  · rw [wipe_out h]
theorem tDT_yes {K : PySem.W.Frag} {G : Sg} {σ : St} {H : Hp} {Q : Bool → Hp → Prop} (h : tDT K G tYes σ H Q) : L2.tYes σ H Q := by
  obtain ⟨c, T, fp, ρ, S, d, S', ok, hf, q⟩ := h
  obtain ⟨rfl, rfl⟩ := M.pure_some hf
  exact q H ok Ext.refl
theorem pts_yes {X : Cx} {G : Sg} : PTs X [] (tDT X.K G tYes) := ⟨fun pins s σ H Q I h => pts_nil.run pins s σ H Q I (tDT_yes h)⟩
theorem pts_if {X : Cx} {G : Sg} {e : Expr} {t : TF} (h : TV X G e t) : PTs X [e] (tDT X.K G t) := pts_one h
theorem lc_sem {K : PySem.W.Frag} {G : Sg} {m : Md} {w : LF} {g : GF} {t : TF} {e : EF} {vs gv : List Nat} (hvs : ∀ i ∈ gv, i ∈ vs) (hsc : ∀ i ∈ vs, G.sc ≠ some i) (hmu : ∀ i ∈ vs, i ∉ G.mu) {σ : St} {H : Hp} {Q : VK} (h : tD K G m (eComp vs w g t e) σ H Q) :
    tLc (tDI K G wk w) (tDG K G wk gv g) (tDT K G t) (tD K G m e) vs σ H Q := by
  obtain ⟨c, T, fp, ρ, S, d, S', ok, hf, q⟩ := h
  obtain ⟨ds, S1, f1, hf⟩ := M.bind_some hf
  obtain ⟨ys, S2, f2, hf⟩ := M.bind_some hf
  obtain ⟨hz, hf⟩ := M.chk_bind hf
  obtain ⟨rfl, rfl⟩ := M.pure_some hf
  refine ⟨c, T, fp, ρ, S, ds, S1, ok, f1, fun J H1 T' ok1 e1 hJ t1 t2 t3 x hx => ?_⟩
  have okp : StOk K G c (T' ++ T) fp (kill vs ρ) S1 (L2.wipe σ vs) H1 := (ok1.pushT t1 t2 t3).wipe hsc
  have okl := okp.lay hx
  have hR : x ∉ c.R := fun z => ok1.pd x (ok1.hP x z) hx
  have mueq : ∀ {m F}, ResOk G fp (kill vs ρ) H1 m F → ResOk G fp ρ H1 m F := fun {m F} r => by
    cases m with
    | bor => trivial
    | own => exact r
    | val => exact fun i d hi hd a ha => r i d hi (by rw [kill_out fun z => hmu i z hi]; exact hd) a ha
  refine lc_loop (c := c.and x) (Hb := H1) (acc := []) (da := []) (Fa := []) hvs wipe_self okl (.inr rfl) hR (e1.back0 ok1 hx |> fun z => ok.ext.nn z hR) (fun a ha => .inl (ok1.hP a ha)) (Ext.new hx) hx hJ (fun t ht => ⟨fun a ha z => ?_, fun i d hi hd a ha => t3 t ht i d hi (kill_some hd).1 a ha⟩) upd_same .nil (fun _ z => nomatch z) (ResOk.imm rfl) f2 (by simpa using fit_le hz) fun H' acc F' ok' e' _ hl dn av r => ?_
  · rcases z with z | rfl
    · exact t2 t ht a ha z
    · exact (t1 t ht).dom _ ha hx
  · rw [List.nil_append] at dn
    have eH : Ext c.R H H' := e1.trans e'
    refine q (.ref x) H' (x :: F') (ok.step eH (ok.src.other ok'.src rfl)) eH (.lst hl dn) (fun a ha z => ?_) ?_
    · rcases List.mem_cons.mp ha with rfl | ha
      · exact ok1.pd _ z hx
      · exact av a ha (.inl z)
    · have r1 : ResOk G fp ρ H1 m F' := mueq r
      have r2 : ResOk G fp ρ H m F' := r1.back e1 ok.hP fun a ha z => av a ha (.inl z)
      cases m with
      | bor => trivial
      | val =>
        intro i d hi hd z hz w
        rcases List.mem_cons.mp hz with rfl | hz
        · obtain ⟨v', _, dn'⟩ := ok1.den i d hd
          exact dn'.dom _ w hx
        · exact r2 i d hi hd z hz w
      | own =>
        refine ⟨List.nodup_cons.mpr ⟨fun z => av x z (.inr rfl), r2.1⟩, fun z hz => ?_⟩
        rcases List.mem_cons.mp hz with rfl | hz
        · exact e1.back0 ok1 hx
        · exact r2.2 z hz
section
variable {X : Cx} {G : Sg} {m : Md} {elt tg iter : Expr} {ifs : List Expr} {scope : Scope} {own : List (Str × Nat)} {gv : List Nat} {pos : Pos} {w : LF} {g : GF} {t : TF} {e : EF}
theorem ev_lc (hc : X.calm = true) (hN : X.N.Nodup) (hi : IV X G wk tg iter w) (ok : BlkOk X.N X.env.scope scope own) (hvs : ∀ i ∈ gv, i ∈ own.map (·.2)) (hsc : ∀ i ∈ own.map (·.2), G.sc ≠ some i) (hmu : ∀ i ∈ own.map (·.2), i ∉ G.mu)
    (hg : ∀ (s : Shared) (H : Hp) (C : Addr) (cl : List (Str × Addr)) (fp : List Addr), GV (X.blk s H scope (compEnvC scope cl C X.env) fp) G wk gv tg g) (ht : ∀ (s : Shared) (H : Hp) (C : Addr) (cl : List (Str × Addr)) (fp : List Addr), PTs (X.blk s H scope (compEnvC scope cl C X.env) fp) ifs (tDT X.K G t))
    (he : ∀ (s : Shared) (H : Hp) (C : Addr) (cl : List (Str × Addr)) (fp : List Addr), EV (X.blk s H scope (compEnvC scope cl C X.env) fp) G m elt e) (hs : ∀ x, foldedSetIterable iter X.env x = pure x := by intro _; rfl) :
    EV X G m (.ListComp elt [⟨tg, iter, ifs, 0⟩] scope pos) (eComp (own.map (·.2)) w g t e) :=
  PE.mono (pe_lc hc hN hi ok hg ht he hs) fun σ H Q h => lc_sem hvs hsc hmu h
end

theorem lc_loop2 {K : PySem.W.Frag} {G : Sg} {c : Cc} {T T' : List Tmp} {fp : Nat → List Addr} {ρ : Env} {S S' : Src} {σ : St} {H Hb : Hp} {m : Md} {J : It} {ds ys : List D} {g g1 : GF} {t t1 : TF} {w1 : LF} {e : EF} {x : Addr} {vs vs1 gv gv1 : List Nat} {Qd : Hp → Prop}
    (hvs : ∀ i ∈ gv, i ∈ vs) (hvs1 : ∀ i ∈ gv1, i ∈ vs1) (hsc : ∀ i ∈ vs1, G.sc ≠ some i) (hmu : ∀ i ∈ vs1, i ∉ G.mu) (hw : L2.wipe σ vs = σ) (ok : StOk K G c (T' ++ T) fp ρ S σ H) (hD : c.P x) (hR : x ∉ c.R) (h0 : c.H0 x = none) (hP : ∀ a ∈ c.R, c.P a) (hb : Ext c.R Hb H) (hbx : Hb x = none) (hJ : ItOk K wk J T' ds) (hT : ∀ t ∈ T', (∀ a ∈ t.F, ¬ c.P a) ∧ ResOk G fp ρ Hb .val t.F)
    (hl : H x = some (.lst [])) (hf : compD2 vs1 g t w1 g1 t1 e ρ ds S = some (ys, S')) (hz : ys.length ≤ sizeLine)
    (fin : ∀ H' acc' F', StOk K G c (T' ++ T) fp ρ S' σ H' → Ext c.R Hb H' → H' x = some (.lst acc') → DenL K H' acc' ys F' → (∀ a ∈ F', ¬ c.P a) → ResOk G fp ρ Hb m F' → Qd H') :
    ∃ W : Nat → Nat → Hp → Prop, (∃ k, W 0 k H) ∧ ∀ i k H, W i k H → (J.stop i H ∧ Qd H) ∨ (J.go i H ∧ ∃ Nx : Hp → Prop, (∀ H', Nx H' → ∃ k', k' < k ∧ W (i + 1) k' H') ∧ ∀ y H', J.yld i H y H' → tDG K G wk gv g y σ H' fun σ2 H2 => L2.wipe σ2 vs = σ ∧ tDT K G t σ2 H2 fun b H3 =>
      if b = true then tDI K G wk1 w1 σ2 H3 fun J1 H4 => ∃ W1 : Nat → Nat → Hp → Prop, (∃ m, W1 0 m H4) ∧ ∀ j k H, W1 j k H →
        (J1.stop j H ∧ Nx H) ∨ (J1.go j H ∧ ∃ Nx1 : Hp → Prop, (∀ H', Nx1 H' → ∃ k', k' < k ∧ W1 (j + 1) k' H') ∧ ∀ y H', J1.yld j H y H' → tDG K G wk1 gv1 g1 y (L2.wipe σ2 vs1) H' fun σ3 H5 => L2.wipe σ3 vs1 = L2.wipe σ2 vs1 ∧ tDT K G t1 σ3 H5 fun b H6 =>
          if b = true then tD K G m e σ3 H6 fun y H7 => ∃ acc, H7 x = some (.lst acc) ∧ acc.length < sizeLine ∧ Nx1 (upd H7 x (.lst (acc ++ [y]))) else Nx1 H6)
      else Nx H3) := by
  let Pv : Nat → Hp → Prop := fun i H' => ∃ S1 acc1 da1 F1 ys1, StOk K G c (T' ++ T) fp ρ S1 σ H' ∧ Ext c.R Hb H' ∧ H' x = some (.lst acc1) ∧ DenL K H' acc1 da1 F1 ∧ (∀ a ∈ F1, ¬ c.P a) ∧ ResOk G fp ρ Hb m F1 ∧ compD2 vs1 g t w1 g1 t1 e ρ (ds.drop i) S1 = some (ys1, S') ∧ da1 ++ ys1 = ys
  refine ⟨fun i k H => k = ds.length - i ∧ i ≤ ds.length ∧ Pv i H, ⟨_, rfl, Nat.zero_le _, S, [], [], [], ys, ok, hb, hl, .nil, fun _ z => (nomatch z), ResOk.imm rfl, hf, rfl⟩, ?_⟩
  rintro i k H ⟨rfl, hi, S1, acc1, da1, F1, ys1, ok, hb, hl, l, av, r, hf, hy⟩
  obtain ⟨jg, js, jy⟩ := hJ H fun t ht => ok.tmp t (List.mem_append_left _ ht)
  by_cases hlt : i < ds.length
  · refine .inr ⟨jg i hlt, Pv (i + 1), fun H' p => ⟨ds.length - (i + 1), by omega, rfl, hlt, p⟩, fun y H' hyl => ?_⟩
    have hd : ds[i]? = some ds[i] := List.getElem?_eq_getElem hlt
    obtain ⟨ex, Fy, dy, hFy⟩ := jy i _ y H' hd hyl
    rw [List.drop_eq_getElem_cons hlt] at hf
    obtain ⟨ρ1, S2, f1, hf⟩ := M.bind_some hf
    obtain ⟨b, S3, f2, hf⟩ := M.bind_some hf
    have ok1 := ok.grow ex
    refine ⟨c, T' ++ T, fp, ρ, S1, _, ρ1, S2, Fy, ok1, dy, fun a ha => ?_, fun j d hj hdj a ha => ?_, f1, fun σ2 fp2 ok2 k2 => ⟨(k2.wp vs hvs).trans hw, ?_⟩⟩
    · obtain ⟨t, ht, ha⟩ := hFy a ha
      exact (hT t ht).1 a ha
    · obtain ⟨t, ht, ha⟩ := hFy a ha
      exact (hT t ht).2 j d hj hdj a ha
    refine ⟨c, T' ++ T, fp2, ρ1, S2, b, S3, ok2, f2, fun H3 ok3 e3 => ?_⟩
    have back : ∀ {T2 : List Tmp} {S' : Src} {H' : Hp} {fp' ρ' σ'}, StOk K G c T2 fp' ρ' S' σ' H' → Ext c.R H H' → StOk K G c (T' ++ T) fp ρ S' σ H' := fun o ee => ok.step ee (ok.src.other o.src rfl)
    have eH3 : Ext c.R H H3 := (ex.mono fun _ z => nomatch z).trans e3
    cases b with
    | true =>
      rw [if_pos rfl] at hf
      refine iteT ?_
      obtain ⟨zs, S4, f3, hf⟩ := M.bind_some hf
      obtain ⟨us, S5, f4, hf⟩ := M.bind_some hf
      obtain ⟨rs, S6, f5, hf⟩ := M.bind_some hf
      obtain ⟨rfl, rfl⟩ := M.pure_some hf
      refine ⟨c, T' ++ T, fp2, ρ1, S3, zs, S4, ok3, f3, fun J1 H4 T1 ok4 e4 hJ1 t1 t2 t3 => ?_⟩
      have eH4 : Ext c.R H H4 := eH3.trans e4
      have hl4 : H4 x = some (.lst acc1) := eH4.keep x _ hl hR
      have l4 : DenL K H4 acc1 da1 F1 := l.ext eH4 fun a ha z => av a ha (hP a z)
      have okp : StOk K G c (T1 ++ (T' ++ T)) fp2 (kill vs1 ρ1) S4 (L2.wipe σ2 vs1) H4 := (ok4.pushT t1 t2 t3).wipe hsc
      have mueq : ∀ {m F}, ResOk G fp2 (kill vs1 ρ1) Hb m F → ResOk G fp ρ Hb m F := fun {m F} r => ResOk.kept k2 (by
        cases m with
        | bor => trivial
        | own => exact r
        | val => exact fun i d hi hd a ha => r i d hi (by rw [kill_out fun z => hmu i z hi]; exact hd) a ha)
      have mueq' : ∀ {m F}, ResOk G fp ρ Hb m F → ResOk G fp2 (kill vs1 ρ1) Hb m F := fun {m F} r => by
        cases m with
        | bor => trivial
        | own => exact r
        | val =>
          intro i d hi hd a ha
          obtain ⟨e1, e2⟩ := k2.mu i hi
          rw [e1]
          have hd' := (kill_some hd).1
          rw [e2] at hd'
          exact r i d hi hd' a ha
      refine lc_loop (c := c) (Hb := Hb) hvs1 wipe_self okp hD hR h0 hP (hb.trans eH4) hbx hJ1 (fun t ht => ⟨t2 t ht, fun i d hi hd a ha => t3 t ht i d hi (kill_some hd).1 a ha⟩) hl4 l4 av (mueq' r) f4 ?_ fun H' acc' F' ok' e' es' hl' dn' av' r' => ?_
      · have e1 := congrArg List.length hy
        simp only [List.length_append] at e1
        omega
      · -- from the inner loop back
        refine ⟨S5, acc', da1 ++ us, F', rs, ?_, e', hl', dn', av', mueq r', f5, by rw [List.append_assoc]; exact hy⟩
        refine ⟨fun j e h => ?_, fun t ht => ok'.tmp t (List.mem_append_right _ ht), ok.av, ok.tav, ok.sep, ok.tsep, ok.nd, ok.new, ok'.ext, ok'.hP, ok'.pd, ok.src.other ok'.src rfl, ok.len⟩
        obtain ⟨v', q1, q2⟩ := (back ok4 eH4).den j e h
        refine ⟨v', q1, q2.ext es' fun a ha z => ok.av j e h a ha ?_⟩
        rcases List.mem_cons.mp z with rfl | z
        · exact hD
        · exact hP a z
    | false =>
      rw [if_neg Bool.false_ne_true] at hf
      refine iteF ?_
      exact ⟨S3, acc1, da1, F1, ys1, back ok3 eH3, hb.trans eH3, eH3.keep x _ hl hR, l.ext eH3 fun a ha z => av a ha (hP a z), av, r, hf, hy⟩
  · have e1 : i = ds.length := by omega
    subst e1
    rw [List.drop_length] at hf
    obtain ⟨rfl, rfl⟩ := M.pure_some hf
    rw [List.append_nil] at hy
    subst hy
    exact .inl ⟨js, fin H acc1 F1 ok hb hl l av r⟩

theorem lc_sem2 {K : PySem.W.Frag} {G : Sg} {m : Md} {w w1 : LF} {g g1 : GF} {t t1 : TF} {e : EF} {vs vs1 gv gv1 : List Nat} (hvs : ∀ i ∈ gv, i ∈ vs) (hvs1 : ∀ i ∈ gv1, i ∈ vs1) (hv : ∀ i ∈ vs1, i ∈ vs) (hsc : ∀ i ∈ vs, G.sc ≠ some i) (hmu : ∀ i ∈ vs, i ∉ G.mu) {σ : St} {H : Hp} {Q : VK} (h : tD K G m (eComp2 vs vs1 w g t w1 g1 t1 e) σ H Q) :
    tLc2 (tDI K G wk w) (tDG K G wk gv g) (tDT K G t) (tDI K G wk1 w1) (tDG K G wk1 gv1 g1) (tDT K G t1) (tD K G m e) vs vs1 σ H Q := by
  obtain ⟨c, T, fp, ρ, S, d, S', ok, hf, q⟩ := h
  obtain ⟨ds, S1, f1, hf⟩ := M.bind_some hf
  obtain ⟨ys, S2, f2, hf⟩ := M.bind_some hf
  obtain ⟨hz, hf⟩ := M.chk_bind hf
  obtain ⟨rfl, rfl⟩ := M.pure_some hf
  refine ⟨c, T, fp, ρ, S, ds, S1, ok, f1, fun J H1 T' ok1 e1 hJ t1 t2 t3 x hx => ?_⟩
  have okp : StOk K G c (T' ++ T) fp (kill vs ρ) S1 (L2.wipe σ vs) H1 := (ok1.pushT t1 t2 t3).wipe hsc
  have okl := okp.lay hx
  have hR : x ∉ c.R := fun z => ok1.pd x (ok1.hP x z) hx
  have mueq : ∀ {m F}, ResOk G fp (kill vs ρ) H1 m F → ResOk G fp ρ H1 m F := fun {m F} r => by
    cases m with
    | bor => trivial
    | own => exact r
    | val => exact fun i d hi hd a ha => r i d hi (by rw [kill_out fun z => hmu i z hi]; exact hd) a ha
  refine lc_loop2 (c := c.and x) (Hb := H1) hvs hvs1 (fun i hi => hsc i (hv i hi)) (fun i hi => hmu i (hv i hi)) wipe_self okl (.inr rfl) hR (e1.back0 ok1 hx |> fun z => ok.ext.nn z hR) (fun a ha => .inl (ok1.hP a ha)) (Ext.new hx) hx hJ (fun t ht => ⟨fun a ha z => ?_, fun i d hi hd a ha => t3 t ht i d hi (kill_some hd).1 a ha⟩) upd_same f2 (fit_le hz) fun H' acc F' ok' e' hl dn av r => ?_
  · rcases z with z | rfl
    · exact t2 t ht a ha z
    · exact (t1 t ht).dom _ ha hx
  · have eH : Ext c.R H H' := e1.trans e'
    refine q (.ref x) H' (x :: F') (ok.step eH (ok.src.other ok'.src rfl)) eH (.lst hl dn) (fun a ha z => ?_) ?_
    · rcases List.mem_cons.mp ha with rfl | ha
      · exact ok1.pd _ z hx
      · exact av a ha (.inl z)
    · have r1 : ResOk G fp ρ H1 m F' := mueq r
      have r2 : ResOk G fp ρ H m F' := r1.back e1 ok.hP fun a ha z => av a ha (.inl z)
      cases m with
      | bor => trivial
      | val =>
        intro i d hi hd z hz w
        rcases List.mem_cons.mp hz with rfl | hz
        · obtain ⟨v', _, dn'⟩ := ok1.den i d hd
          exact dn'.dom _ w hx
        · exact r2 i d hi hd z hz w
      | own =>
        refine ⟨List.nodup_cons.mpr ⟨fun z => av x z (.inr rfl), r2.1⟩, fun z hz => ?_⟩
        rcases List.mem_cons.mp hz with rfl | hz
        · exact e1.back0 ok1 hx
        · exact r2.2 z hz
section
variable {X : Cx} {G : Sg} {m : Md} {elt tg iter tg1 iter1 : Expr} {ifs ifs1 : List Expr} {scope : Scope} {own : List (Str × Nat)} {gv gv1 vs1 : List Nat} {pos : Pos} {w w1 : LF} {g g1 : GF} {t t1 : TF} {e : EF}
theorem ev_lc2 (hc : X.calm = true) (hN : X.N.Nodup) (hi : IV X G wk tg iter w) (ok : BlkOk X.N X.env.scope scope own) (hv : ∀ i ∈ vs1, i ∈ own.map (·.2)) (hvs : ∀ i ∈ gv, i ∈ own.map (·.2)) (hvs1 : ∀ i ∈ gv1, i ∈ vs1) (hsc : ∀ i ∈ own.map (·.2), G.sc ≠ some i) (hmu : ∀ i ∈ own.map (·.2), i ∉ G.mu)
    (hg : ∀ (s : Shared) (H : Hp) (C : Addr) (cl : List (Str × Addr)) (fp : List Addr), GV (X.blk s H scope (compEnvC scope cl C X.env) fp) G wk gv tg g) (ht : ∀ (s : Shared) (H : Hp) (C : Addr) (cl : List (Str × Addr)) (fp : List Addr), PTs (X.blk s H scope (compEnvC scope cl C X.env) fp) ifs (tDT X.K G t))
    (hi1 : ∀ (s : Shared) (H : Hp) (C : Addr) (cl : List (Str × Addr)) (fp : List Addr), IV (X.blk s H scope (compEnvC scope cl C X.env) fp) G wk1 tg1 iter1 w1)
    (hg1 : ∀ (s : Shared) (H : Hp) (C : Addr) (cl : List (Str × Addr)) (fp : List Addr), GV (X.blk s H scope (compEnvC scope cl C X.env) fp) G wk1 gv1 tg1 g1) (ht1 : ∀ (s : Shared) (H : Hp) (C : Addr) (cl : List (Str × Addr)) (fp : List Addr), PTs (X.blk s H scope (compEnvC scope cl C X.env) fp) ifs1 (tDT X.K G t1))
    (he : ∀ (s : Shared) (H : Hp) (C : Addr) (cl : List (Str × Addr)) (fp : List Addr), EV (X.blk s H scope (compEnvC scope cl C X.env) fp) G m elt e) (hs : ∀ x, foldedSetIterable iter X.env x = pure x := by intro _; rfl) (hs1 : ∀ env x, foldedSetIterable iter1 env x = pure x := by intro _ _; rfl) :
    EV X G m (.ListComp elt [⟨tg, iter, ifs, 0⟩, ⟨tg1, iter1, ifs1, 0⟩] scope pos) (eComp2 (own.map (·.2)) vs1 w g t w1 g1 t1 e) :=
  PE.mono (pe_lc2 hc hN hi ok hv hg ht hi1 hg1 ht1 he hs hs1) fun σ H Q h => lc_sem2 hvs hvs1 hv hsc hmu h
end
end DL

/-! DS10: statements. -/
namespace DL
open PySem PySem.Spec PyProof.Rows L2

def SrcH (c : Cc) (S : Src) (H : Hp) : Prop := match c.src with
  | some (p, q) => SrcAt H p q S
  | none => True
theorem SrcOk.h {G : Sg} {c : Cc} {S : Src} {σ : St} {H : Hp} (h : SrcOk G.sc c S σ H) : SrcH c S H := by
  unfold SrcOk at h
  unfold SrcH
  split at h
  · rename_i e1 e2
    rw [e2]
    trivial
  · rename_i e1 e2
    rw [e2]
    exact h.2
  · exact h.elim
/-- what a return leaves -/
def RtOk (K : PySem.W.Frag) (ow : Bool) (c : Cc) (S : Src) (d : D) (D : Ends) : Prop := ∀ v H' F, Ext c.R c.H0 H' → SrcH c S H' → Den K H' v d F → (∀ a ∈ F, ¬ c.P a) → (ow = true → F.Nodup ∧ ∀ a ∈ F, c.H0 a = none) → D.rt v H'
def Fin (K : PySem.W.Frag) (ow : Bool) (Gn Gl : Sg) (c : Cc) (T : List Tmp) (S : Src) (D : Ends) : Out → Prop
  | .nx ρ => ∀ σ H fp, StOk K Gn c T fp ρ S σ H → D.nx σ H
  | .rt d => RtOk K ow c S d D
  | .bk ρ => ∀ σ H fp, StOk K Gl c T fp ρ S σ H → D.bk σ H
  | .ct ρ => ∀ σ H fp, StOk K Gl c T fp ρ S σ H → D.ct σ H
def tDS (K : PySem.W.Frag) (ow : Bool) (G Gn Gl : Sg) (f : SF) : TS := fun D σ H => ∃ c T fp ρ S o S', StOk K G c T fp ρ S σ H ∧ f ρ S = some (o, S') ∧ Fin K ow Gn Gl c T S' D o
abbrev SV (X : Cx) (ow : Bool) (G Gn Gl : Sg) (st : Stmt) (f : SF) : Prop := PS X st (tDS X.K ow G Gn Gl f)
abbrev SVs (X : Cx) (ow : Bool) (G Gn Gl : Sg) (st : List Stmt) (f : SF) : Prop := PSs X st (tDS X.K ow G Gn Gl f)
theorem PS.mono {X : Cx} {e : Stmt} {t t' : TS} (h : PS X e t) (m : ∀ D σ H, t' D σ H → t D σ H) : PS X e t' := ⟨fun pins s σ H D I q => h.run pins s σ H D I (m D σ H q)⟩
theorem PSs.mono {X : Cx} {e : List Stmt} {t t' : TS} (h : PSs X e t) (m : ∀ D σ H, t' D σ H → t D σ H) : PSs X e t' := ⟨fun pins s σ H D I q => h.run pins s σ H D I (m D σ H q)⟩

section
variable {X : Cx} {ow : Bool} {G G1 Gn Gl : Sg} {st : Stmt} {sts : List Stmt} {f f1 f2 : SF} {pos : Pos} {e : Expr} {fe : EF} {m : Md}
theorem svs_nil : SVs X ow G G Gl [] sNext := by
  refine PSs.mono pss_nil fun D σ H h => ?_
  obtain ⟨c, T, fp, ρ, S, o, S', ok, hf, q⟩ := h
  obtain ⟨rfl, rfl⟩ := M.pure_some hf
  exact q σ H fp ok
theorem sv_pass : SV X ow G G Gl (.Pass pos) sNext := by
  refine PS.mono ps_pass fun D σ H h => ?_
  obtain ⟨c, T, fp, ρ, S, o, S', ok, hf, q⟩ := h
  obtain ⟨rfl, rfl⟩ := M.pure_some hf
  exact q σ H fp ok
theorem svs_one (h : SV X ow G Gn Gl st f) : SVs X ow G Gn Gl [st] f := pss_one h
theorem svs_cons (h1 : SV X ow G G1 Gl st f1) (h2 : SVs X ow G1 Gn Gl sts f2) : SVs X ow G Gn Gl (st :: sts) (sSeq f1 f2) := by
  refine PSs.mono (pss_cons h1 h2) fun D σ H h => ?_
  obtain ⟨c, T, fp, ρ, S, o, S', ok, hf, q⟩ := h
  obtain ⟨o1, S1, e1, hf⟩ := M.bind_some hf
  refine ⟨c, T, fp, ρ, S, o1, S1, ok, e1, ?_⟩
  cases o1 with
  | nx ρ1 => exact fun σ1 H1 fp1 ok1 => ⟨c, T, fp1, ρ1, S1, o, S', ok1, hf, q⟩
  | rt d =>
    obtain ⟨rfl, rfl⟩ := M.pure_some hf
    exact q
  | bk ρ1 =>
    obtain ⟨rfl, rfl⟩ := M.pure_some hf
    exact q
  | ct ρ1 =>
    obtain ⟨rfl, rfl⟩ := M.pure_some hf
    exact q
theorem sv_break (hm : ∀ i ∈ Gl.mu, i ∈ G.mu) (hs : Gl.sc = G.sc) : SV X ow G Gn Gl (.Break pos) sBreak := by
  refine PS.mono ps_break fun D σ H h => ?_
  obtain ⟨c, T, fp, ρ, S, o, S', ok, hf, q⟩ := h
  obtain ⟨rfl, rfl⟩ := M.pure_some hf
  exact q σ H fp (ok.mono hm hs)
theorem sv_cont (hm : ∀ i ∈ Gl.mu, i ∈ G.mu) (hs : Gl.sc = G.sc) : SV X ow G Gn Gl (.Continue pos) sCont := by
  refine PS.mono ps_continue fun D σ H h => ?_
  obtain ⟨c, T, fp, ρ, S, o, S', ok, hf, q⟩ := h
  obtain ⟨rfl, rfl⟩ := M.pure_some hf
  exact q σ H fp (ok.mono hm hs)
/-- from here on fewer names change -/
theorem svs_less {mu mu' : List Nat} {sc : Option Nat} (h : SVs X ow ⟨mu', sc⟩ Gn Gl sts f) (hm : ∀ i ∈ mu', i ∈ mu := by decide) : SVs X ow ⟨mu, sc⟩ Gn Gl sts f := by
  refine PSs.mono h fun D σ H h => ?_
  obtain ⟨c, T, fp, ρ, S, o, S', ok, hf, q⟩ := h
  exact ⟨c, T, fp, ρ, S, o, S', ok.mono hm rfl, hf, q⟩
theorem StOk.killG {K : PySem.W.Frag} {G G' : Sg} {c : Cc} {T : List Tmp} {fp : Nat → List Addr} {ρ : Env} {S : Src} {σ : St} {H : Hp} {ks : List Nat} (ok : StOk K G c T fp ρ S σ H) (hm : ∀ i ∈ G'.mu, i ∈ G.mu ∨ i ∈ ks) (hs : G'.sc = G.sc) : StOk K G' c T fp (DL.kill ks ρ) S σ H := by
  have k := ok.kill (ks := ks)
  have ii : ∀ {i d}, i ∈ G'.mu → (DL.kill ks ρ)[i]? = some (some d) → i ∈ G.mu := fun {i d} hi hd => (hm i hi).elim id fun z => absurd z (kill_some hd).2
  exact ⟨k.den, k.tmp, k.av, k.tav, fun i j d e hi hij h1 h2 => k.sep i j d e (ii hi h1) hij h1 h2, fun i d hi h1 => k.tsep i d (ii hi h1) h1, fun i d hi h1 => k.nd i d (ii hi h1) h1, fun i d hi h1 => k.new i d (ii hi h1) h1, k.ext, k.hP, k.pd, by rw [hs]; exact k.src, k.len⟩
theorem svs_kill {Gn' Gl' : Sg} {ks : List Nat} (h : SVs X ow G Gn Gl sts f) (h1 : ∀ i ∈ Gn'.mu, i ∈ Gn.mu ∨ i ∈ ks := by decide) (h2 : ∀ i ∈ Gl'.mu, i ∈ Gl.mu ∨ i ∈ ks := by decide) (h3 : Gn'.sc = Gn.sc := by rfl) (h4 : Gl'.sc = Gl.sc := by rfl) : SVs X ow G Gn' Gl' sts (sKill ks f) := by
  refine PSs.mono h fun D σ H h => ?_
  obtain ⟨c, T, fp, ρ, S, o, S', ok, hf, q⟩ := h
  obtain ⟨o1, S1, e1, hf⟩ := M.bind_some hf
  obtain ⟨rfl, rfl⟩ := M.pure_some hf
  refine ⟨c, T, fp, ρ, S, o1, S1, ok, e1, ?_⟩
  cases o1 with
  | nx ρ1 => exact fun σ1 H1 fp1 ok1 => q σ1 H1 fp1 (ok1.killG h1 h3)
  | rt d => exact q
  | bk ρ1 => exact fun σ1 H1 fp1 ok1 => q σ1 H1 fp1 (ok1.killG h2 h4)
  | ct ρ1 => exact fun σ1 H1 fp1 ok1 => q σ1 H1 fp1 (ok1.killG h2 h4)
theorem sv_expr (he : EV X G m e fe) (hs : swapsWith e none pos.line X.env = pure false := by rfl) : SV X ow G G Gl (.Expr e pos) (sExpr fe) := by
  refine PS.mono (ps_expr he hs) fun D σ H h => ?_
  obtain ⟨c, T, fp, ρ, S, o, S', ok, hf, q⟩ := h
  obtain ⟨d, S1, e1, hf⟩ := M.bind_some hf
  obtain ⟨rfl, rfl⟩ := M.pure_some hf
  exact ⟨c, T, fp, ρ, S, d, S1, ok, e1, fun v H' F ok' e dn av r => q σ H' fp ok'⟩
theorem own_new {K : PySem.W.Frag} {c : Cc} {T : List Tmp} {fp : Nat → List Addr} {ρ : Env} {S : Src} {σ : St} {H : Hp} {F : List Addr} (ok : StOk K G c T fp ρ S σ H) (av : ∀ a ∈ F, ¬ c.P a) (h : ∀ a ∈ F, H a = none) : ∀ a ∈ F, c.H0 a = none := fun a ha => ok.ext.nn (h a ha) (ok.notR (av a ha))
theorem sv_ret (he : EV X G m e fe) (hm : ow = true → m = .own) : SV X ow G Gn Gl (.Return (some e) pos) (sRet fe) := by
  refine PS.mono (ps_ret he) fun D σ H h => ?_
  obtain ⟨c, T, fp, ρ, S, o, S', ok, hf, q⟩ := h
  obtain ⟨d, S1, e1, hf⟩ := M.bind_some hf
  obtain ⟨rfl, rfl⟩ := M.pure_some hf
  refine ⟨c, T, fp, ρ, S, d, S1, ok, e1, fun v H' F ok' e dn av r => q v H' F ok'.ext ok'.src.h dn av fun ho => ?_⟩
  obtain rfl := hm ho
  exact ⟨r.1, own_new ok av r.2⟩
/-- a changing list is given back -/
theorem sv_retM {i : Nat} {x : Str} {p : Pos} (hN : X.N[i]? = some x) (hv : Vis X.env.scope x) (hi : i ∈ G.mu) (hd : (x == ("__debug__" : Str)) = false := by decide) (hcd : (x == ("__classdict__" : Str)) = false := by decide) : SV X ow G Gn Gl (.Return (some (.Name x p)) pos) (sRet (eVar i)) := by
  refine PS.mono (ps_ret (pe_var hN hv hd hcd)) fun D σ H h => ?_
  obtain ⟨c, T, fp, ρ, S, o, S', ok, hf, q⟩ := h
  obtain ⟨d, S1, e1, hf⟩ := M.bind_some hf
  obtain ⟨rfl, rfl⟩ := M.pure_some hf
  obtain ⟨e, rfl⟩ := eVar_some e1
  obtain ⟨v, q1, q2⟩ := ok.den i d e
  exact ⟨v, q1, q v H (fp i) ok.ext ok.src.h q2 (ok.av i d e) fun _ => ⟨ok.nd i d hi e, ok.new i d hi e⟩⟩
theorem sv_retN : SV X ow G Gn Gl (.Return none pos) (sRet (eC .none)) := by
  refine PS.mono ps_retN fun D σ H h => ?_
  obtain ⟨c, T, fp, ρ, S, o, S', ok, hf, q⟩ := h
  obtain ⟨d, S1, e1, hf⟩ := M.bind_some hf
  obtain ⟨rfl, rfl⟩ := M.pure_some hf
  obtain ⟨rfl, rfl⟩ := M.pure_some e1
  exact q .non H [] ok.ext ok.src.h .non av0 fun _ => ⟨List.nodup_nil, fun _ z => nomatch z⟩
theorem sv_if {t : TF} {a b : List Stmt} {fa fb : SF} (ht : TV X G e t) (ha : SVs X ow G Gn Gl a fa) (hb : SVs X ow G Gn Gl b fb) : SV X ow G Gn Gl (.If e a b pos) (sIf t fa fb) := by
  refine PS.mono (ps_if ht ha hb) fun D σ H h => ?_
  obtain ⟨c, T, fp, ρ, S, o, S', ok, hf, q⟩ := h
  obtain ⟨x, S1, h1, hf⟩ := M.bind_some hf
  refine ⟨c, T, fp, ρ, S, x, S1, ok, h1, fun H1 ok1 e1 => ?_⟩
  cases x with
  | true =>
    rw [if_pos rfl] at hf
    exact iteT ⟨c, T, fp, ρ, S1, o, S', ok1, hf, q⟩
  | false =>
    rw [if_neg Bool.false_ne_true] at hf
    exact iteF ⟨c, T, fp, ρ, S1, o, S', ok1, hf, q⟩

/-! ### stores of names -/
theorem asg_sem {K : PySem.W.Frag} {g : GF} {vs : List Nat} {D : Ends} {σ : St} {H : Hp} (h : tDS K ow G G Gl (sAsg fe g) D σ H) : tAsg (tD K G .val fe) (tDG K G wk vs g) D σ H := by
  obtain ⟨c, T, fp, ρ, S, o, S', ok, hf, q⟩ := h
  obtain ⟨d, S1, h1, hf⟩ := M.bind_some hf
  obtain ⟨ρ1, S2, h2, hf⟩ := M.bind_some hf
  obtain ⟨rfl, rfl⟩ := M.pure_some hf
  refine ⟨c, T, fp, ρ, S, d, S1, ok, h1, fun v H1 F ok1 e1 dn av r => ?_⟩
  exact ⟨c, T, fp, ρ, S1, d, ρ1, S2, F, ok1, .of dn, av, r, h2, fun σ' fp' ok' _ => q σ' H1 fp' ok'⟩
theorem sv_asg {tg : Expr} {g : GF} {vs : List Nat} (he : EV X G .val e fe) (hg : GV X G wk vs tg g) (hs : swapsWithSole [tg] e pos.line X.env = pure false := by rfl) (hw : swappedStores [tg] e X.env = pure none := by rfl)
    (h1 : (assignEach [tg] X.env).map (·.2) = [assign tg X.env] := by rfl) : SV X ow G G Gl (.Assign [tg] e pos) (sAsg fe g) := PS.mono (ps_asg he hg hs hw h1) fun D σ H h => asg_sem h
/-- a local name, a value in general -/
theorem set_sem {K : PySem.W.Frag} {i : Nat} (hmu : i ∉ G.mu) (hsc : G.sc ≠ some i) {D : Ends} {σ : St} {H : Hp} (h : tDS K ow G G Gl (sAsg fe (gName i)) D σ H) : tAsg (tD K G .val fe) (L2.gName i) D σ H := by
  obtain ⟨c, T, fp, ρ, S, o, S', ok, hf, q⟩ := h
  obtain ⟨d, S1, h1, hf⟩ := M.bind_some hf
  obtain ⟨ρ1, S2, h2, hf⟩ := M.bind_some hf
  obtain ⟨rfl, rfl⟩ := M.pure_some hf
  obtain ⟨rfl, rfl⟩ := M.pure_some h2
  exact ⟨c, T, fp, ρ, S, d, S1, ok, h1, fun v H1 F ok1 e1 dn av r => q _ H1 _ (ok1.put hmu hsc dn av r)⟩
theorem setM_sem {K : PySem.W.Frag} {i : Nat} (hsc : G.sc ≠ some i) {D : Ends} {σ : St} {H : Hp} (h : tDS K ow G G Gl (sAsg fe (gName i)) D σ H) : tAsg (tD K G .own fe) (L2.gName i) D σ H := by
  obtain ⟨c, T, fp, ρ, S, o, S', ok, hf, q⟩ := h
  obtain ⟨d, S1, h1, hf⟩ := M.bind_some hf
  obtain ⟨ρ1, S2, h2, hf⟩ := M.bind_some hf
  obtain ⟨rfl, rfl⟩ := M.pure_some hf
  obtain ⟨rfl, rfl⟩ := M.pure_some h2
  refine ⟨c, T, fp, ρ, S, d, S1, ok, h1, fun v H1 F ok1 e1 dn av r => q _ H1 _ (ok1.putM hsc dn av r.1 (own_new ok av r.2) (fun j e hj he a ha z => ?_) fun t ht a ha z => ?_)⟩
  · obtain ⟨v', _, q2⟩ := ok.den j e he
    exact q2.dom a z (r.2 a ha)
  · exact (ok.tmp t ht).dom a z (r.2 a ha)
theorem sv_set {i : Nat} {x : Str} {p : Pos} (hN : X.N.Nodup) (hi : X.N[i]? = some x) (hx : Loc X.env.scope x) (hf : X.fn x = true ∨ X.env.scope.names.lookup x = some .local) (hmu : i ∉ G.mu) (hsc : G.sc ≠ some i) (he : EV X G .val e fe) (hs : swapsWith e (some (.Name x p)) pos.line X.env = pure false := by rfl) :
    SV X ow G G Gl (.Assign [.Name x p] e pos) (sAsg fe (gName i)) := PS.mono (ps_set hN hi hx he hs hf) fun D σ H h => set_sem hmu hsc h
theorem sv_setM {i : Nat} {x : Str} {p : Pos} (hN : X.N.Nodup) (hi : X.N[i]? = some x) (hx : Loc X.env.scope x) (hf : X.fn x = true ∨ X.env.scope.names.lookup x = some .local) (hsc : G.sc ≠ some i) (he : EV X G .own e fe) (hs : swapsWith e (some (.Name x p)) pos.line X.env = pure false := by rfl) :
    SV X ow G G Gl (.Assign [.Name x p] e pos) (sAsg fe (gName i)) := PS.mono (ps_set hN hi hx he hs hf) fun D σ H h => setM_sem hsc h

/-! ### several at once -/
theorem StOk.putAllV {K : PySem.W.Frag} {c : Cc} {T : List Tmp} {S : Src} {H : Hp} : ∀ {is : List Nat} {vs : List V} {ds : List D} {F : List Addr} {fp : Nat → List Addr} {ρ : Env} {σ : St}, StOk K G c T fp ρ S σ H → DenL K H vs ds F → (∀ i ∈ is, i ∉ G.mu ∧ G.sc ≠ some i) → (∀ a ∈ F, ¬ c.P a) → ResOk G fp ρ H .val F →
    ∃ fp', StOk K G c T fp' (setAll is ds ρ) S (setAll is vs σ) H
  | [], _, _, _, fp, _, _, ok, _, _, _, _ => ⟨fp, by simpa [setAll] using ok⟩
  | i :: is, _, _, _, fp, _, _, ok, .nil, _, _, _ => ⟨fp, by simpa [setAll] using ok⟩
  | i :: is, _, _, _, fp, ρ, _, ok, .cons (d := d) (F := F) h l, hi, av, r => by
    obtain ⟨h1, h2⟩ := hi i List.mem_cons_self
    have ok1 := ok.put h1 h2 h (fun a ha => av a (List.mem_append_left _ ha)) (fun j e hj he a ha => r j e hj he a (List.mem_append_left _ ha))
    obtain ⟨fp', ok2⟩ := StOk.putAllV (is := is) ok1 l (fun j hj => hi j (List.mem_cons_of_mem _ hj)) (fun a ha => av a (List.mem_append_right _ ha)) (fun j e hj he a ha z => by
      have nj : j ≠ i := fun z => h1 (z ▸ hj)
      rw [put_ne nj] at z
      rw [List.getElem?_set_ne (Ne.symm nj)] at he
      exact r j e hj he a (List.mem_append_right _ ha) z)
    exact ⟨fp', by simpa [setAll] using ok2⟩
theorem StOk.putAllO {K : PySem.W.Frag} {c : Cc} {T : List Tmp} {S : Src} {H : Hp} : ∀ {is : List Nat} {vs : List V} {ds : List D} {F : List Addr} {fp : Nat → List Addr} {ρ : Env} {σ : St}, StOk K G c T fp ρ S σ H → DenL K H vs ds F → (∀ i ∈ is, G.sc ≠ some i) → (∀ a ∈ F, ¬ c.P a) → F.Nodup → (∀ a ∈ F, c.H0 a = none) → (∀ j e, ρ[j]? = some (some e) → ∀ a ∈ F, a ∉ fp j) → (∀ t ∈ T, ∀ a ∈ F, a ∉ t.F) →
    ∃ fp', StOk K G c T fp' (setAll is ds ρ) S (setAll is vs σ) H
  | [], _, _, _, fp, _, _, ok, _, _, _, _, _, _, _ => ⟨fp, by simpa [setAll] using ok⟩
  | i :: is, _, _, _, fp, _, _, ok, .nil, _, _, _, _, _, _ => ⟨fp, by simpa [setAll] using ok⟩
  | i :: is, _, _, _, fp, ρ, _, ok, .cons (d := d) (F := F) (G := F2) h l, hi, av, nd, h0, hs, ht => by
    have h2 := hi i List.mem_cons_self
    obtain ⟨n1, n2, n3⟩ := List.nodup_append.mp nd
    have ok1 := ok.putM h2 h (fun a ha => av a (List.mem_append_left _ ha)) n1 (fun a ha => h0 a (List.mem_append_left _ ha)) (fun j e _ he a ha => hs j e he a (List.mem_append_left _ ha)) (fun t htt a ha => ht t htt a (List.mem_append_left _ ha))
    obtain ⟨fp', ok2⟩ := StOk.putAllO (is := is) ok1 l (fun j hj => hi j (List.mem_cons_of_mem _ hj)) (fun a ha => av a (List.mem_append_right _ ha)) n2 (fun a ha => h0 a (List.mem_append_right _ ha)) (fun j e he a ha z => by
      rcases set_some he with ⟨rfl, rfl⟩ | ⟨nj, g1⟩
      · rw [put_same] at z
        exact n3 a z a ha rfl
      · rw [put_ne nj] at z
        exact hs j e g1 a (List.mem_append_right _ ha) z) (fun t htt a ha => ht t htt a (List.mem_append_right _ ha))
    exact ⟨fp', by simpa [setAll] using ok2⟩
/-- values together, the names they go to -/
theorem par_core {K : PySem.W.Frag} {is : List Nat} {f : LF} {D : Ends} {σ : St} {H : Hp} (hm : (m = .val ∧ ∀ i ∈ is, i ∉ G.mu) ∨ m = .own) (hsc : ∀ i ∈ is, G.sc ≠ some i) (hz : is.length ≤ sizeLine) (h : tDS K ow G G Gl (sPar is f) D σ H) :
    tDA K G m f σ H fun vs H1 => vs.length = is.length ∧ vs.length ≤ sizeLine ∧ D.nx (setAll is vs σ) H1 ∧ ∀ p, H1 p = none → D.nx (setAll is vs σ) (upd H1 p (.tup vs)) := by
  obtain ⟨c, T, fp, ρ, S, o, S', ok, hf, q⟩ := h
  obtain ⟨ds, S1, h1, hf⟩ := M.bind_some hf
  obtain ⟨h2, hf⟩ := M.chk_bind hf
  obtain ⟨rfl, rfl⟩ := M.pure_some hf
  refine ⟨c, T, fp, ρ, S, ds, S1, ok, h1, fun vs H1 F ok1 e1 dn av r => ?_⟩
  have hl : vs.length = is.length := dn.length.trans (by simpa using h2)
  have fin : ∀ H2, Ext [] H1 H2 → D.nx (setAll is vs σ) H2 := fun H2 e2 => by
    have ok2 := ok1.grow e2
    have dn2 := dn.grow e2
    rcases hm with ⟨rfl, hm⟩ | rfl
    · obtain ⟨fp', ok3⟩ := ok2.putAllV (is := is) dn2 (fun i hi => ⟨hm i hi, hsc i hi⟩) av r
      exact q _ H2 fp' ok3
    · obtain ⟨fp', ok3⟩ := ok2.putAllO (is := is) dn2 hsc av r.1 (own_new ok av r.2) (fun j e he a ha z => by
        obtain ⟨v', _, q2⟩ := ok.den j e he
        exact q2.dom a z (r.2 a ha)) (fun t ht a ha z => (ok.tmp t ht).dom a z (r.2 a ha))
      exact q _ H2 fp' ok3
  exact ⟨hl, by rw [hl]; exact hz, fin H1 Ext.refl, fun p hp => fin _ (Ext.new hp)⟩
theorem tDA.mono {K : PySem.W.Frag} {f : LF} {σ : St} {H : Hp} {Q Q' : List V → Hp → Prop} (h : tDA K G m f σ H Q) (w : ∀ v H, Q v H → Q' v H) : tDA K G m f σ H Q' := by
  obtain ⟨c, T, fp, ρ, S, d, S', ok, hf, q⟩ := h
  exact ⟨c, T, fp, ρ, S, d, S', ok, hf, fun v H' F a b c d e => w _ _ (q v H' F a b c d e)⟩
theorem sv_par2 {i j : Nat} {x y : Str} {a b : Expr} {f : LF} {px py pt : Pos} {kt k2 pt2} (hc : X.calm = true) (hN : X.N.Nodup) (hi : X.N[i]? = some x) (hj : X.N[j]? = some y) (hij : i ≠ j)
    (hx : X.env.scope.names.lookup x = some .local) (hy : X.env.scope.names.lookup y = some .local) (hm : (m = .val ∧ ∀ n ∈ [i, j], n ∉ G.mu) ∨ m = .own) (hsc : ∀ n ∈ [i, j], G.sc ≠ some n) (ha : AV X G m [a, b] f)
    (hw : swappedStores [.Tuple [.Name x px, .Name y py] kt pt] (.Tuple [a, b] k2 pt2) X.env = pure (some [x, y]))
    (hs : swapsWithSole [.Tuple [.Name x px, .Name y py] kt pt] (.Tuple [a, b] k2 pt2) pos.line X.env = pure false := by rfl) :
    SV X ow G G Gl (.Assign [.Tuple [.Name x px, .Name y py] kt pt] (.Tuple [a, b] k2 pt2) pos) (sPar [i, j] f) := by
  refine PS.mono (ps_par hc hN hi hj hij hx hy ha hw hs) fun D σ H h => ?_
  refine (par_core hm hsc (by show 2 ≤ sizeLine; decide) h).mono fun vs H1 ⟨h1, h2, h3, h4⟩ => ?_
  match vs, h1 with
  | [v, w], _ => exact ⟨v, w, rfl, h3⟩
theorem sv_par3 {i j l : Nat} {x y z : Str} {a b c : Expr} {f : LF} {px py pz pt : Pos} {kt k2 pt2} (hc : X.calm = true) (hN : X.N.Nodup) (hi : X.N[i]? = some x) (hj : X.N[j]? = some y) (hl : X.N[l]? = some z) (hij : i ≠ j) (hil : i ≠ l) (hjl : j ≠ l)
    (hx : X.env.scope.names.lookup x = some .local) (hy : X.env.scope.names.lookup y = some .local) (hz : X.env.scope.names.lookup z = some .local) (hm : (m = .val ∧ ∀ n ∈ [i, j, l], n ∉ G.mu) ∨ m = .own) (hsc : ∀ n ∈ [i, j, l], G.sc ≠ some n) (ha : AV X G m [a, b, c] f)
    (hw : swappedStores [.Tuple [.Name x px, .Name y py, .Name z pz] kt pt] (.Tuple [a, b, c] k2 pt2) X.env = pure (some [x, y, z]))
    (hs : swapsWithSole [.Tuple [.Name x px, .Name y py, .Name z pz] kt pt] (.Tuple [a, b, c] k2 pt2) pos.line X.env = pure false := by rfl) :
    SV X ow G G Gl (.Assign [.Tuple [.Name x px, .Name y py, .Name z pz] kt pt] (.Tuple [a, b, c] k2 pt2) pos) (sPar [i, j, l] f) := by
  refine PS.mono (ps_par3 hc hN hi hj hl hij hil hjl hx hy hz ha hw hs) fun D σ H h => ?_
  refine (par_core hm hsc (by show 3 ≤ sizeLine; decide) h).mono fun vs H1 ⟨h1, h2, h3, h4⟩ => ?_
  match vs, h1 with
  | [u, v, w], _ => exact ⟨u, v, w, rfl, h3⟩
/-- four or more: a tuple is made and taken apart -/
def tGN : List Nat → TGs
  | [] => gNil
  | i :: is => gCons (L2.gName i) (tGN is)
theorem tGN_ok : ∀ {is : List Nat} {vs : List V} {σ : St} {H : Hp} {Q : St → Hp → Prop}, vs.length = is.length → Q (setAll is vs σ) H → tGN is vs σ H Q
  | [], [], σ, H, Q, _, q => ⟨rfl, by simpa [setAll] using q⟩
  | i :: is, [], _, _, _, h, _ => by cases h
  | [], v :: vs, _, _, _, h, _ => by cases h
  | i :: is, v :: vs, σ, H, Q, h, q => ⟨v, vs, rfl, tGN_ok (is := is) (by simpa using h) (by simpa [setAll] using q)⟩
theorem sv_parN {is : List Nat} {ts es : List Expr} {f : LF} {pt pt2 : Pos} {kt k2} (hc : X.calm = true) (hg : PGs X ts (tGN is)) (hm : (m = .val ∧ ∀ i ∈ is, i ∉ G.mu) ∨ m = .own) (hsc : ∀ i ∈ is, G.sc ≠ some i) (hz : is.length ≤ sizeLine) (ha : AV X G m es f)
    (hs : swapsWithSole [.Tuple ts kt pt] (.Tuple es k2 pt2) pos.line X.env = pure false := by rfl) (hw : swappedStores [.Tuple ts kt pt] (.Tuple es k2 pt2) X.env = pure none := by rfl)
    (h1 : (assignEach [.Tuple ts kt pt] X.env).map (·.2) = [assign (.Tuple ts kt pt) X.env] := by rfl) (hn : (assignEach ts X.env).length = is.length := by rfl) (hst : (assignEach ts X.env).findIdx? (·.1) = none := by rfl) :
    SV X ow G G Gl (.Assign [.Tuple ts kt pt] (.Tuple es k2 pt2) pos) (sPar is f) := by
  refine PS.mono (ps_asg (pe_tup ha) (pg_tup hc hg hn hst) hs hw h1) fun D σ H h => ?_
  refine (par_core hm hsc hz h).mono fun vs H1 ⟨h1, h2, h3, h4⟩ => ⟨h2, fun p hp => ⟨p, vs, rfl, .inl (.inl upd_same), h1, ?_⟩⟩
  exact tGN_ok h1 (h4 p hp)

/-! ### loops -/
theorem sv_for {w : LF} {g : GF} {b : SF} {vs : List Nat} {tg : Expr} {body : List Stmt} (hp : PassesOwn (model X.prog X.w) X.A X.env X.xe) (hc : X.calm = true) (hi : IV X G wk tg e w) (hg : GV X G wk vs tg g) (hb : SVs X ow G G G body b)
    (hs : ∀ x, foldedSetIterable e X.env x = pure x := by intro _; rfl) : SV X ow G G Gl (.For tg e body [] pos) (sFor w g b) := by
  refine PS.mono (ps_for hp hc hi hg hb hs) fun D σ H h => ?_
  obtain ⟨c, T, fp, ρ, S, o, S', ok, hf, q⟩ := h
  obtain ⟨ds, S1, h1, hf⟩ := M.bind_some hf
  refine ⟨c, T, fp, ρ, S, ds, S1, ok, h1, fun J H1 T' ok1 e1 hJ t1 t2 t3 => ?_⟩
  refine ⟨fun i m σ H => m = ds.length - i ∧ i ≤ ds.length ∧ ∃ fp ρ1 S1, StOk X.K G c (T' ++ T) fp ρ1 S1 σ H ∧ forD (turnD g b) (ds.drop i) ρ1 S1 = some (o, S'), ⟨_, rfl, Nat.zero_le _, fp, ρ, S1, ok1.pushT t1 t2 t3, hf⟩, ?_⟩
  rintro i m σ H ⟨rfl, hi, fp, ρ1, S1, ok1, hf⟩
  obtain ⟨jg, js, jy⟩ := hJ H fun t ht => ok1.tmp t (List.mem_append_left _ ht)
  by_cases hlt : i < ds.length
  · refine .inr ⟨jg i hlt, fun σ' H' => ∃ fp ρ1 S1, StOk X.K G c (T' ++ T) fp ρ1 S1 σ' H' ∧ forD (turnD g b) (ds.drop (i + 1)) ρ1 S1 = some (o, S'), fun σ' H' p => ⟨ds.length - (i + 1), by omega, rfl, hlt, p⟩, fun y H' hyl => ?_⟩
    have hd : ds[i]? = some ds[i] := List.getElem?_eq_getElem hlt
    obtain ⟨ex, Fy, dy, hFy⟩ := jy i _ y H' hd hyl
    rw [List.drop_eq_getElem_cons hlt] at hf
    obtain ⟨o1, S2, f1, hf⟩ := M.bind_some hf
    obtain ⟨ρ2, S3, f2, f1⟩ := M.bind_some f1
    have ok2 := ok1.grow ex
    refine ⟨c, T' ++ T, fp, ρ1, S1, _, ρ2, S3, Fy, ok2, dy, fun a ha => ?_, fun j d hj hdj a ha z => ?_, f2, fun σ2 fp2 ok3 _ => ?_⟩
    · obtain ⟨t, ht, ha⟩ := hFy a ha
      exact ok2.tav t (List.mem_append_left _ ht) a ha
    · obtain ⟨t, ht, ha⟩ := hFy a ha
      exact ok2.tsep j d hj hdj t (List.mem_append_left _ ht) a z ha
    · refine ⟨c, T' ++ T, fp2, ρ2, S3, o1, S2, ok3, f1, ?_⟩
      cases o1 with
      | nx ρ3 => exact fun σ4 H4 fp4 ok4 => ⟨fp4, ρ3, S2, ok4, hf⟩
      | ct ρ3 => exact fun σ4 H4 fp4 ok4 => ⟨fp4, ρ3, S2, ok4, hf⟩
      | bk ρ3 =>
        obtain ⟨rfl, rfl⟩ := M.pure_some hf
        exact fun σ4 H4 fp4 ok4 => q σ4 H4 fp4 ok4.popT
      | rt d =>
        obtain ⟨rfl, rfl⟩ := M.pure_some hf
        exact q
  · have e1 : i = ds.length := by omega
    subst e1
    rw [List.drop_length] at hf
    obtain ⟨rfl, rfl⟩ := M.pure_some hf
    exact .inl ⟨js, q σ H fp ok1.popT⟩
theorem sv_while {N : Nat} {t : TF} {b : SF} {body : List Stmt} (hp : PassesOwn (model X.prog X.w) X.A X.env X.xe) (ht : TV X G e t) (hb : SVs X ow G G G body b) : SV X ow G G Gl (.While e body [] pos) (sWhile N t b) := by
  refine PS.mono (ps_while hp ht hb) fun D σ H h => ?_
  obtain ⟨c, T, fp, ρ, S, o, S', ok, hf, q⟩ := h
  refine ⟨fun m σ H => ∃ fp ρ S, StOk X.K G c T fp ρ S σ H ∧ whileD t b m ρ S = some (o, S'), ⟨N, fp, ρ, S, ok, hf⟩, ?_⟩
  rintro m σ H ⟨fp, ρ, S, ok, hf⟩
  cases m with
  | zero => exact (M.fail_some hf).elim
  | succ m =>
    obtain ⟨x, S1, h1, hf⟩ := M.bind_some hf
    refine ⟨c, T, fp, ρ, S, x, S1, ok, h1, fun H1 ok1 e1 => ?_⟩
    cases x with
    | false =>
      rw [if_neg Bool.false_ne_true] at hf
      obtain ⟨rfl, rfl⟩ := M.pure_some hf
      exact iteF (q σ H1 fp ok1)
    | true =>
      rw [if_pos rfl] at hf
      obtain ⟨o1, S2, h2, hf⟩ := M.bind_some hf
      refine iteT ⟨fun σ' H' => ∃ fp ρ S, StOk X.K G c T fp ρ S σ' H' ∧ whileD t b m ρ S = some (o, S'), fun σ' H' p => ⟨m, Nat.lt_succ_self _, p⟩, c, T, fp, ρ, S1, o1, S2, ok1, h2, ?_⟩
      cases o1 with
      | nx ρ3 => exact fun σ4 H4 fp4 ok4 => ⟨fp4, ρ3, S2, ok4, hf⟩
      | ct ρ3 => exact fun σ4 H4 fp4 ok4 => ⟨fp4, ρ3, S2, ok4, hf⟩
      | bk ρ3 =>
        obtain ⟨rfl, rfl⟩ := M.pure_some hf
        exact fun σ4 H4 fp4 ok4 => q σ4 H4 fp4 ok4
      | rt d =>
        obtain ⟨rfl, rfl⟩ := M.pure_some hf
        exact q
/-- name = [..] on one line -/
theorem sv_setLc {i : Nat} {y : Str} {py : Pos} {elt tg iter : Expr} {ifs : List Expr} {scope : Scope} {own : List (Str × Nat)} {gv : List Nat} {pos2 : Pos} {w : LF} {g : GF} {t : TF} {fe : EF} (hc : X.calm = true) (hN : X.N.Nodup) (hy : X.N[i]? = some y) (hyl : X.env.scope.names.lookup y = some .local) (hm : (m = .val ∧ i ∉ G.mu) ∨ m = .own) (hsci : G.sc ≠ some i)
    (hsw : swapsWith (.ListComp elt [⟨tg, iter, ifs, 0⟩] scope pos2) (some (.Name y py)) pos.line X.env = pure true) (hi : IV X G wk tg iter w) (ok : BlkOk X.N X.env.scope scope own) (hvs : ∀ i ∈ gv, i ∈ own.map (·.2)) (hsc : ∀ i ∈ own.map (·.2), G.sc ≠ some i) (hmu : ∀ i ∈ own.map (·.2), i ∉ G.mu)
    (hg : ∀ (s : Shared) (H : Hp) (C : Addr) (cl : List (Str × Addr)) (fp : List Addr), GV (X.blk s H scope (compEnvC scope cl C X.env) fp) G wk gv tg g) (ht : ∀ (s : Shared) (H : Hp) (C : Addr) (cl : List (Str × Addr)) (fp : List Addr), PTs (X.blk s H scope (compEnvC scope cl C X.env) fp) ifs (tDT X.K G t))
    (he : ∀ (s : Shared) (H : Hp) (C : Addr) (cl : List (Str × Addr)) (fp : List Addr), EV (X.blk s H scope (compEnvC scope cl C X.env) fp) G m elt fe) (hs : ∀ x, foldedSetIterable iter X.env x = pure x := by intro _; rfl) :
    SV X ow G G Gl (.Assign [.Name y py] (.ListComp elt [⟨tg, iter, ifs, 0⟩] scope pos2) pos) (sAsg (eComp (own.map (·.2)) w g t fe) (gName i)) := by
  refine PS.mono (ps_setLc (g := tDG X.K G wk gv g) (tt := tDT X.K G t) (te := tD X.K G m fe) hc hN hy hyl hsw hi ok hg ht he hs) fun D σ H h => ?_
  rcases hm with ⟨rfl, hmi⟩ | rfl
  · exact lc_sem hvs hsc hmu (set_sem hmi hsci h)
  · exact lc_sem hvs hsc hmu (setM_sem hsci h)
end
end DL

/-! DS11: lists that change. -/
namespace DL
open PySem PySem.Spec PyProof.Rows L2

section
variable {K : PySem.W.Frag} {G : Sg} {c : Cc} {T : List Tmp} {fp : Nat → List Addr} {ρ : Env} {S S1 : Src} {σ : St} {H H1 : Hp} {F F' : List Addr} {d d' : D} {i : Nat} {l : Addr} {o : HO}
/-- what the name i holds is rewritten at l -/
theorem StOk.mut (ok1 : StOk K G c T fp ρ S1 σ H1) (e : Ext c.R H1 H) (ok : StOk K G c T fp ρ S σ H) (hi : i ∈ G.mu) (hd : ρ[i]? = some (some d)) (hl : l ∈ fp i) (nt : ∀ y u, H l ≠ some (.frz y u)) (hsc : G.sc ≠ some i)
    (dn : ∀ v, σ[i]? = some (some v) → Den K H v d (fp i) → Den K (upd H l o) v d' F') (nF : ∀ a ∈ F, H1 a = none) (aF : ∀ a ∈ F, ¬ c.P a) (hF : ∀ a ∈ F', a ∈ fp i ∨ a ∈ F) (nd : F'.Nodup) (nf : NoLk o := by intro _ _ z; cases z; first | exact ⟨_, rfl⟩ | done) : StOk K G c T (DL.put fp i F') (ρ.set i (some d')) S σ (upd H l o) := by
  have hlP : ¬ c.P l := ok.av i d hd l hl
  have l0 : c.H0 l = none := ok.new i d hi hd l hl
  refine ⟨fun j e h => ?_, fun t ht => (ok.tmp t ht).wr nt (ok.tsep i d hi hd t ht l hl), fun j e h a ha => ?_, ok.tav, fun j k e f hj hjk h1 h2 a ha => ?_, fun j e hj h1 t ht a ha => ?_, fun j e hj h1 => ?_, fun j e hj h1 => ?_, ok.ext.pokeN l0 nf, ok.hP, fun a z => upd_dom (ok.pd a z), ?_, by simp [ok.len]⟩
  · rcases set_some h with ⟨rfl, rfl⟩ | ⟨nj, g⟩
    · obtain ⟨v, q1, q2⟩ := ok.den _ _ hd
      exact ⟨v, q1, by rw [put_same]; exact dn v q1 q2⟩
    · obtain ⟨v, q1, q2⟩ := ok.den j e g
      exact ⟨v, q1, by rw [put_ne nj]; exact q2.wr nt (ok.sep i j d e hi (Ne.symm nj) hd g l hl)⟩
  · rcases set_some h with ⟨rfl, rfl⟩ | ⟨nj, g⟩
    · rw [put_same] at ha
      rcases hF a ha with ha | ha
      · exact ok.av _ _ hd a ha
      · exact aF a ha
    · rw [put_ne nj] at ha
      exact ok.av j e g a ha
  · rcases set_some h1 with ⟨rfl, rfl⟩ | ⟨nj, g1⟩
    · rw [put_same] at ha
      rcases set_some h2 with ⟨rfl, rfl⟩ | ⟨nk, g2⟩
      · exact absurd rfl hjk
      · rw [put_ne nk]
        rcases hF a ha with ha | ha
        · exact ok.sep _ k d f hi (Ne.symm nk) hd g2 a ha
        · intro z
          obtain ⟨v, _, q2⟩ := ok1.den k f g2
          exact q2.dom a z (nF a ha)
    · rw [put_ne nj] at ha
      rcases set_some h2 with ⟨rfl, rfl⟩ | ⟨nk, g2⟩
      · rw [put_same]
        intro z
        rcases hF a z with z | z
        · exact ok.sep j _ e d hj nj g1 hd a ha z
        · obtain ⟨v, _, q2⟩ := ok1.den j e g1
          exact q2.dom a ha (nF a z)
      · rw [put_ne nk]
        exact ok.sep j k e f hj hjk g1 g2 a ha
  · rcases set_some h1 with ⟨rfl, rfl⟩ | ⟨nj, g1⟩
    · rw [put_same] at ha
      rcases hF a ha with ha | ha
      · exact ok.tsep _ d hi hd t ht a ha
      · exact fun z => (ok1.tmp t ht).dom a z (nF a ha)
    · rw [put_ne nj] at ha
      exact ok.tsep j e hj g1 t ht a ha
  · rcases set_some h1 with ⟨rfl, rfl⟩ | ⟨nj, g1⟩
    · rw [put_same]
      exact nd
    · rw [put_ne nj]
      exact ok.nd j e hj g1
  · rcases set_some h1 with ⟨rfl, rfl⟩ | ⟨nj, g1⟩
    · rw [put_same]
      intro a ha
      rcases hF a ha with ha | ha
      · exact ok.new _ d hi hd a ha
      · exact own_new ok1 aF nF a ha
    · rw [put_ne nj]
      exact ok.new j e hj g1
  · have hs := ok.src
    unfold SrcOk at hs ⊢
    split at hs
    · trivial
    · rename_i j p q e1 e2
      have hp : p ∈ c.R := by unfold Cc.R; rw [e2]; simp
      have hq : q ∈ c.R := by unfold Cc.R; rw [e2]; simp
      refine ⟨hs.1, ?_, ?_⟩
      · have np : p ≠ l := fun z => hlP (by rw [← z]; exact ok.hP p hp)
        rw [upd_ne np]
        exact hs.2.1
      · have nq : q ≠ l := fun z => hlP (by rw [← z]; exact ok.hP q hq)
        rw [upd_ne nq]
        exact hs.2.2
    · exact hs.elim
theorem lst_inv {ds : List D} {v : V} (h : Den K H v (.list ds) F) : ∃ p xs E, v = .ref p ∧ F = p :: E ∧ H p = some (.lst xs) ∧ DenL K H xs ds E := by
  cases h with
  | lst e l => exact ⟨_, _, _, rfl, rfl, e, l⟩
theorem not_tup {xs : List V} (h : H l = some (.lst xs)) : ∀ y u, H l ≠ some (.frz y u) := fun y u z => by rw [h] at z; cases z
end

theorem sAppend_some {i : Nat} {fe : EF} {ρ : Env} {S S' : Src} {o : Out} (h : sAppend i fe ρ S = some (o, S')) : ∃ d xs, fe ρ S = some (d, S') ∧ ρ[i]? = some (some (.list xs)) ∧ xs.length < sizeLine ∧ o = .nx (ρ.set i (some (.list (xs ++ [d])))) := by
  obtain ⟨d, S1, h1, hf⟩ := M.bind_some h
  cases e : ρ[i]? with
  | none => simp only [e] at hf; exact (M.fail_some hf).elim
  | some r =>
    cases r with
    | none => simp only [e] at hf; exact (M.fail_some hf).elim
    | some x =>
      cases x with
      | list xs =>
        simp only [e] at hf
        obtain ⟨hz, hf⟩ := M.chk_bind hf
        obtain ⟨rfl, rfl⟩ := M.pure_some hf
        exact ⟨d, xs, h1, rfl, of_decide_eq_true hz, rfl⟩
      | none => simp only [e] at hf; exact (M.fail_some hf).elim
      | bool => simp only [e] at hf; exact (M.fail_some hf).elim
      | int => simp only [e] at hf; exact (M.fail_some hf).elim
      | str => simp only [e] at hf; exact (M.fail_some hf).elim
      | tuple => simp only [e] at hf; exact (M.fail_some hf).elim
      | dict => simp only [e] at hf; exact (M.fail_some hf).elim
theorem sExtend_some {i : Nat} {fe : EF} {ρ : Env} {S S' : Src} {o : Out} (h : sExtend i fe ρ S = some (o, S')) : ∃ xs ys, fe ρ S = some (.list ys, S') ∧ ρ[i]? = some (some (.list xs)) ∧ xs.length + ys.length ≤ sizeLine ∧ immAll ys = true ∧ o = .nx (ρ.set i (some (.list (xs ++ ys)))) := by
  obtain ⟨d, S1, h1, hf⟩ := M.bind_some h
  cases e : ρ[i]? with
  | none => simp only [e] at hf; exact (M.fail_some hf).elim
  | some r =>
    cases r with
    | none => simp only [e] at hf; exact (M.fail_some hf).elim
    | some x =>
      cases x with
      | list xs =>
        cases d with
        | list ys =>
          simp only [e] at hf
          obtain ⟨hz, hf⟩ := M.chk_bind hf
          obtain ⟨hz, hi⟩ := and_true hz
          obtain ⟨rfl, rfl⟩ := M.pure_some hf
          exact ⟨xs, ys, h1, rfl, fit_le hz, hi, rfl⟩
        | none => simp only [e] at hf; exact (M.fail_some hf).elim
        | bool => simp only [e] at hf; exact (M.fail_some hf).elim
        | int => simp only [e] at hf; exact (M.fail_some hf).elim
        | str => simp only [e] at hf; exact (M.fail_some hf).elim
        | tuple => simp only [e] at hf; exact (M.fail_some hf).elim
        | dict => simp only [e] at hf; exact (M.fail_some hf).elim
      | none => simp only [e] at hf; exact (M.fail_some hf).elim
      | bool => simp only [e] at hf; exact (M.fail_some hf).elim
      | int => simp only [e] at hf; exact (M.fail_some hf).elim
      | str => simp only [e] at hf; exact (M.fail_some hf).elim
      | tuple => simp only [e] at hf; exact (M.fail_some hf).elim
      | dict => simp only [e] at hf; exact (M.fail_some hf).elim
section
variable {X : Cx} {ow : Bool} {G Gl : Sg} {pos apos cpos p : Pos} {e e1 e2 : Expr} {fe f1 f2 : EF} {m m1 m2 : Md} {i : Nat} {x : Str}
/-- x.append(e) -/
theorem sv_append (hN : X.N[i]? = some x) (hv : Vis X.env.scope x) (hi : i ∈ G.mu) (hsc : G.sc ≠ some i) (he : EV X G .own e fe) (hd : (x == ("__debug__" : Str)) = false := by decide) (hcd : (x == ("__classdict__" : Str)) = false := by decide)
    (hs0 : swapsWith (.Call (.Attribute (.Name x p) "append" apos) [e] [] cpos) none pos.line X.env = pure false := by rfl)
    (hbase : attributeBase (.Name x p) "append" X.env (eval (.Name x p) X.env) = eval (.Name x p) X.env := by rfl)
    (hfew : ((backTo cpos (starEach [e] X.env)).all (fun x => !x.1) && (backToKw cpos (keywordEach [] X.env)).all (fun x => x.1.isSome)
      && decide (([e] : List Expr).length + ([] : List Keyword).length + (if ([] : List Keyword).isEmpty then 0 else 1) < 30)) = true := by rfl)
    (hline : (apos.endLine == cpos.line) = true := by rfl) (hs : starEach [e] X.env = (false, eval e X.env) :: starEach [] X.env := by rfl) (hplain : (backTo cpos (starEach [] X.env)).any (·.1) = false := by rfl) :
    SV X ow G G Gl (.Expr (.Call (.Attribute (.Name x p) "append" apos) [e] [] cpos) pos) (sAppend i fe) := by
  refine PS.mono (ps_expr (pe_bm PySem.F.plainAttrs_list PySem.F.slot_list_append PySem.F.type_list_append mt_append (pe_var hN hv hd hcd) (pa_cons he pa_nil hs) hbase hfew hline hs hplain) hs0) fun D σ H h => ?_
  obtain ⟨c, T, fp, ρ, S, o, S', ok, hf, q⟩ := h
  obtain ⟨d, xs, h1, hx, hz, rfl⟩ := sAppend_some hf
  · obtain ⟨v, q1, q2⟩ := ok.den i _ hx
    obtain ⟨a, vs, E, rfl, hE, ha, l⟩ := lst_inv q2
    refine ⟨.ref a, q1, .inl ⟨rfl, _, .inl (.inl ha)⟩, c, T, fp, ρ, S, d, S', ok, h1, fun y H1 F ok1 ex dn av r => ?_⟩
    have nP : a ∉ c.R := ok.notR (ok.av i _ hx a (by rw [hE]; exact List.mem_cons_self))
    have hnd := ok.nd i _ hi hx
    rw [hE] at hnd
    have hdom : ∀ z ∈ fp i, H z ≠ none := fun z hz => q2.dom z hz
    refine ⟨a, vs, y, rfl, rfl, ex.keep a _ ha nP, by rw [l.length]; exact hz, ?_⟩
    have hnot : a ∉ F := fun z => hdom a (by rw [hE]; exact List.mem_cons_self) (r.2 a z)
    refine q σ _ _ (ok.mut ex ok1 hi hx (by rw [hE]; exact List.mem_cons_self) (not_tup (ex.keep a _ ha nP)) hsc (F := F) (F' := a :: (E ++ F)) (fun v' w1 w2 => ?_) r.2 av (fun z hz => ?_) ?_)
    · rw [q1] at w1
      cases w1
      obtain ⟨a', vs', E', e0, hE', ha', l'⟩ := lst_inv w2
      cases e0
      rw [hE] at hE'
      cases hE'
      rw [ex.keep a _ ha nP] at ha'
      cases ha'
      have na : a ∉ E := (List.nodup_cons.mp hnd).1
      have nt := not_tup (ex.keep a _ ha nP)
      exact .lst upd_same ((l'.wr nt na).append (DenL.one (dn.wr nt hnot)))
    · rw [hE]
      rcases List.mem_cons.mp hz with rfl | hz
      · exact .inl List.mem_cons_self
      · exact (List.mem_append.mp hz).imp (List.mem_cons_of_mem _) id
    · refine List.nodup_cons.mpr ⟨fun z => ?_, List.nodup_append.mpr ⟨(List.nodup_cons.mp hnd).2, r.1, fun z hz w hw e => ?_⟩⟩
      · exact (List.mem_append.mp z).elim (List.nodup_cons.mp hnd).1 hnot
      · subst e
        exact hdom z (by rw [hE]; exact List.mem_cons_of_mem _ hz) (r.2 z hw)
/-- x.extend(e) -/
theorem sv_extend (hN : X.N[i]? = some x) (hv : Vis X.env.scope x) (hi : i ∈ G.mu) (hsc : G.sc ≠ some i) (he : EV X G m e fe) (hd : (x == ("__debug__" : Str)) = false := by decide) (hcd : (x == ("__classdict__" : Str)) = false := by decide)
    (hs0 : swapsWith (.Call (.Attribute (.Name x p) "extend" apos) [e] [] cpos) none pos.line X.env = pure false := by rfl)
    (hbase : attributeBase (.Name x p) "extend" X.env (eval (.Name x p) X.env) = eval (.Name x p) X.env := by rfl)
    (hfew : ((backTo cpos (starEach [e] X.env)).all (fun x => !x.1) && (backToKw cpos (keywordEach [] X.env)).all (fun x => x.1.isSome)
      && decide (([e] : List Expr).length + ([] : List Keyword).length + (if ([] : List Keyword).isEmpty then 0 else 1) < 30)) = true := by rfl)
    (hline : (apos.endLine == cpos.line) = true := by rfl) (hs : starEach [e] X.env = (false, eval e X.env) :: starEach [] X.env := by rfl) (hplain : (backTo cpos (starEach [] X.env)).any (·.1) = false := by rfl) :
    SV X ow G G Gl (.Expr (.Call (.Attribute (.Name x p) "extend" apos) [e] [] cpos) pos) (sExtend i fe) := by
  refine PS.mono (ps_expr (pe_bm PySem.F.plainAttrs_list PySem.F.slot_list_extend PySem.F.type_list_extend mt_extend (pe_var hN hv hd hcd) (pa_cons he pa_nil hs) hbase hfew hline hs hplain) hs0) fun D σ H h => ?_
  obtain ⟨c, T, fp, ρ, S, o, S', ok, hf, q⟩ := h
  obtain ⟨xs, ys, h1, hx, hz, hi2, rfl⟩ := sExtend_some hf
  · obtain ⟨v, q1, q2⟩ := ok.den i _ hx
    obtain ⟨a, vs, E, rfl, hE, ha, l⟩ := lst_inv q2
    refine ⟨.ref a, q1, .inl ⟨rfl, _, .inl (.inl ha)⟩, c, T, fp, ρ, S, _, S', ok, h1, fun y H1 F ok1 ex dn av r => ?_⟩
    have nP : a ∉ c.R := ok.notR (ok.av i _ hx a (by rw [hE]; exact List.mem_cons_self))
    have hnd := ok.nd i _ hi hx
    rw [hE] at hnd
    obtain ⟨b, ws, E2, rfl, hE2, hb, l2⟩ := lst_inv dn
    obtain rfl := l2.imm hi2
    refine ⟨a, b, vs, ws, rfl, rfl, ex.keep a _ ha nP, hb, by rw [l.length, l2.length]; exact hz, ?_⟩
    refine q σ _ _ (ok.mut ex ok1 hi hx (by rw [hE]; exact List.mem_cons_self) (not_tup (ex.keep a _ ha nP)) hsc (F := []) (F' := a :: E) (fun v' w1 w2 => ?_) (fun _ z => nomatch z) (fun _ z => nomatch z) (fun z hz => .inl (by rw [hE]; exact hz)) hnd)
    rw [q1] at w1
    cases w1
    obtain ⟨a', vs', E', e0, hE', ha', l'⟩ := lst_inv w2
    cases e0
    rw [hE] at hE'
    cases hE'
    rw [ex.keep a _ ha nP] at ha'
    cases ha'
    have na : a ∉ E := (List.nodup_cons.mp hnd).1
    have nt := not_tup (ex.keep a _ ha nP)
    have z := (l'.wr (o := .lst (vs ++ ws)) nt na).append (l2.wr (o := .lst (vs ++ ws)) nt fun z => nomatch z)
    rw [List.append_nil] at z
    exact .lst upd_same z
end
theorem slot_cases {ρ : Env} {i : Nat} : (∃ d, ρ[i]? = some (some d)) ∨ (ρ[i]? = none ∨ ρ[i]? = some none) := by
  cases e : ρ[i]? with
  | none => exact .inr (.inl rfl)
  | some r =>
    cases r with
    | none => exact .inr (.inr rfl)
    | some d => exact .inl ⟨d, rfl⟩
theorem sSetIx_some {x : Nat} {fi fe : EF} {ρ : Env} {S S' : Src} {o : Out} (h : sSetIx x fi fe ρ S = some (o, S')) : ∃ d S1 k xs j, fe ρ S = some (d, S1) ∧ fi ρ S1 = some (.int k, S') ∧ ρ[x]? = some (some (.list xs)) ∧ ixD xs.length k = some j ∧ o = .nx (ρ.set x (some (.list (xs.set j d)))) := by
  obtain ⟨d, S1, h1, hf⟩ := M.bind_some h
  obtain ⟨y, S2, h2, hf⟩ := M.bind_some hf
  clear h
  rcases slot_cases (ρ := ρ) (i := x) with ⟨e, he⟩ | he | he
  · simp only [he] at hf
    cases e with
    | list xs =>
      cases y with
      | int k =>
        simp only [putAt] at hf
        cases e2 : ixD xs.length k with
        | none => simp only [e2, Option.map_none] at hf; exact (M.fail_some hf).elim
        | some j =>
          simp only [e2, Option.map_some] at hf
          obtain ⟨rfl, rfl⟩ := M.pure_some hf
          exact ⟨d, S1, k, xs, j, h1, h2, he, e2, rfl⟩
      | _ => exact (M.fail_some hf).elim
    | _ => exact (M.fail_some hf).elim
  · simp only [he] at hf
    exact (M.fail_some hf).elim
  · simp only [he] at hf
    exact (M.fail_some hf).elim
theorem sSetIx2_some {x : Nat} {fi fj fe : EF} {ρ : Env} {S S' : Src} {o : Out} (h : sSetIx2 x fi fj fe ρ S = some (o, S')) : ∃ d S1 S2 k l xs ys i j, fe ρ S = some (d, S1) ∧ fi ρ S1 = some (.int k, S2) ∧ fj ρ S2 = some (.int l, S') ∧ ρ[x]? = some (some (.list xs)) ∧ ixD xs.length k = some i ∧ xs[i]? = some (.list ys) ∧ ixD ys.length l = some j ∧ o = .nx (ρ.set x (some (.list (xs.set i (.list (ys.set j d)))))) := by
  obtain ⟨d, S1, h1, hf⟩ := M.bind_some h
  obtain ⟨y, S2, h2, hf⟩ := M.bind_some hf
  obtain ⟨z, S3, h3, hf⟩ := M.bind_some hf
  clear h
  rcases slot_cases (ρ := ρ) (i := x) with ⟨e, he⟩ | he | he
  · simp only [he] at hf
    cases e with
    | list xs =>
      cases y with
      | int k =>
        cases z with
        | int l =>
          simp only [putAt] at hf
          cases e2 : ixD xs.length k with
          | none => simp only [e2, Option.bind_none] at hf; exact (M.fail_some hf).elim
          | some i =>
            simp only [e2, Option.bind_some, Option.map_some] at hf
            cases e3 : xs[i]? with
            | none => simp only [e3] at hf; exact (M.fail_some hf).elim
            | some w =>
              cases w with
              | list ys =>
                simp only [e3] at hf
                cases e4 : ixD ys.length l with
                | none => simp only [e4, Option.map_none] at hf; exact (M.fail_some hf).elim
                | some j =>
                  simp only [e4, Option.map_some] at hf
                  obtain ⟨rfl, rfl⟩ := M.pure_some hf
                  exact ⟨d, S1, S2, k, l, xs, ys, i, j, h1, h2, h3, he, e2, e3, e4, rfl⟩
              | _ => simp only [e3] at hf; exact (M.fail_some hf).elim
        | _ => exact (M.fail_some hf).elim
      | _ => exact (M.fail_some hf).elim
    | _ => exact (M.fail_some hf).elim
  · simp only [he] at hf
    exact (M.fail_some hf).elim
  · simp only [he] at hf
    exact (M.fail_some hf).elim
/-- one item's new footprint -/
theorem nodup_mid {A B G F : List Addr} (h : (A ++ G ++ B).Nodup) (hF : F.Nodup) (hA : ∀ a ∈ A, a ∉ F) (hB : ∀ a ∈ B, a ∉ F) : (A ++ F ++ B).Nodup := by
  obtain ⟨h1, h2, h3⟩ := List.nodup_append.mp h
  obtain ⟨h4, h5, h6⟩ := List.nodup_append.mp h1
  refine List.nodup_append.mpr ⟨List.nodup_append.mpr ⟨h4, hF, fun a ha b hb e => hA a ha (e ▸ hb)⟩, h2, fun a ha b hb e => ?_⟩
  rcases List.mem_append.mp ha with ha | ha
  · exact h3 a (List.mem_append_left _ ha) b hb e
  · subst e
    exact hB a hb ha
section
variable {X : Cx} {ow : Bool} {G Gl : Sg} {pos apos cpos p : Pos} {e e1 e2 : Expr} {fe f1 f2 : EF} {m m1 m2 : Md} {i : Nat} {x : Str}
theorem sv_setix (hN : X.N[i]? = some x) (hv : Vis X.env.scope x) (hi : i ∈ G.mu) (hsc : G.sc ≠ some i) (he : EV X G .own e fe) (h1 : EV X G m1 e1 f1) (hd : (x == ("__debug__" : Str)) = false := by decide) (hcd : (x == ("__classdict__" : Str)) = false := by decide)
    (ha : ∀ v, assign (.Subscript (.Name x p) e1 apos) X.env v = (do
      let ov ← holding [v] (eval (.Name x p) X.env)
      let iv ← holding [v, ov] (eval e1 X.env)
      standAt apos
      holding [v, ov, iv] (setItem ov iv v)
      release [v, ov, iv] []) := by intro _; rfl) (hs : swapsWithSole [.Subscript (.Name x p) e1 apos] e pos.line X.env = pure false := by rfl) (hw : swappedStores [.Subscript (.Name x p) e1 apos] e X.env = pure none := by rfl)
    (h2 : (assignEach [.Subscript (.Name x p) e1 apos] X.env).map (·.2) = [assign (.Subscript (.Name x p) e1 apos) X.env] := by rfl) : SV X ow G G Gl (.Assign [.Subscript (.Name x p) e1 apos] e pos) (sSetIx i f1 fe) := by
  refine PS.mono (ps_asg he (pg_sub (pe_var hN hv hd hcd) h1 set_list ha) hs hw h2) fun D σ H h => ?_
  obtain ⟨c, T, fp, ρ, S, o, S', ok, hf, q⟩ := h
  obtain ⟨d, S1, k, xs, j, g1, g2, hx, g3, rfl⟩ := sSetIx_some hf
  obtain ⟨v, q1, q2⟩ := ok.den i _ hx
  obtain ⟨a, vs, E, rfl, hE, ha, l⟩ := lst_inv q2
  refine ⟨c, T, fp, ρ, S, d, S1, ok, g1, fun y H1 F ok1 ex1 dn av r => ?_⟩
  refine ⟨.ref a, q1, c, T, fp, ρ, S1, _, S', ok1, g2, fun iv H2 F2 ok2 ex2 dn2 av2 r2 => ?_⟩
  cases dn2
  have ex := ex1.trans ex2
  have nP : a ∉ c.R := ok.notR (ok.av i _ hx a (by rw [hE]; exact List.mem_cons_self))
  have hnd := ok.nd i _ hi hx
  rw [hE] at hnd
  have hdom : ∀ z ∈ fp i, H z ≠ none := fun z hz => q2.dom z hz
  have ha2 := ex.keep a _ ha nP
  refine ⟨a, vs, k, j, rfl, rfl, ha2, by rw [l.length, ← ixD_eq]; exact g3, ?_⟩
  have hj : j < xs.length := by
    unfold ixD at g3
    split at g3
    · cases g3; omega
    · split at g3
      · cases g3; omega
      · cases g3
  have ok2' : StOk X.K G c T fp ρ S' σ H2 := ok2
  obtain ⟨v', q1', q2'⟩ := ok2'.den i _ hx
  rw [q1] at q1'
  cases q1'
  obtain ⟨a', vs', E', e0, hE', ha', l'⟩ := lst_inv q2'
  cases e0
  rw [hE] at hE'
  cases hE'
  rw [ha2] at ha'
  cases ha'
  obtain ⟨y0, G0, A, B, b1, b2, b3, b4⟩ := l'.at (List.getElem?_eq_getElem hj)
  have na : a ∉ E := (List.nodup_cons.mp hnd).1
  have nt := not_tup ha2
  have hnot : a ∉ F := fun z => hdom a (by rw [hE]; exact List.mem_cons_self) (r.2 a z)
  have dA : ∀ z ∈ A, z ∉ F := fun z hz w => hdom z (by rw [hE, b3]; simp [hz]) (r.2 z w)
  have dB : ∀ z ∈ B, z ∉ F := fun z hz w => hdom z (by rw [hE, b3]; simp [hz]) (r.2 z w)
  refine q σ _ _ (ok.mut ex ok2 hi hx (by rw [hE]; exact List.mem_cons_self) nt hsc (F := F) (F' := a :: (A ++ F ++ B)) (fun v' w1 w2 => ?_) r.2 av (fun z hz => ?_) ?_)
  · rw [q1] at w1
    cases w1
    refine .lst upd_same (b4 _ _ _ F (fun w e E2 hw hE2 => hw.wr nt fun z => ?_) ((dn.ext ex2 fun z hz => ok.notR (av z hz)).wr nt hnot))
    rcases hE2 a z with z | z
    · exact na (by rw [b3]; simp [z])
    · exact na (by rw [b3]; simp [z])
  · rw [hE, b3]
    rcases List.mem_cons.mp hz with rfl | hz
    · exact .inl List.mem_cons_self
    · rcases List.mem_append.mp hz with hz | hz
      · rcases List.mem_append.mp hz with hz | hz
        · exact .inl (by simp [hz])
        · exact .inr hz
      · exact .inl (by simp [hz])
  · refine List.nodup_cons.mpr ⟨fun z => ?_, nodup_mid (by rw [b3] at hnd; exact (List.nodup_cons.mp hnd).2) r.1 dA dB⟩
    rcases List.mem_append.mp z with z | z
    · rcases List.mem_append.mp z with z | z
      · exact na (by rw [b3]; simp [z])
      · exact hnot z
    · exact na (by rw [b3]; simp [z])
/-- x[i][j] = e -/
theorem sv_setix2 {pos2 : Pos} (hN : X.N[i]? = some x) (hv : Vis X.env.scope x) (hi : i ∈ G.mu) (hsc : G.sc ≠ some i) (he : EV X G .own e fe) (h1 : EV X G m1 e1 f1) (h2 : EV X G m2 e2 f2) (hp1 : PlainIx e1) (hd : (x == ("__debug__" : Str)) = false := by decide) (hcd : (x == ("__classdict__" : Str)) = false := by decide)
    (ha : ∀ v, assign (.Subscript (.Subscript (.Name x p) e1 pos2) e2 apos) X.env v = (do
      let ov ← holding [v] (eval (.Subscript (.Name x p) e1 pos2) X.env)
      let iv ← holding [v, ov] (eval e2 X.env)
      standAt apos
      holding [v, ov, iv] (setItem ov iv v)
      release [v, ov, iv] []) := by intro _; rfl) (hs : swapsWithSole [.Subscript (.Subscript (.Name x p) e1 pos2) e2 apos] e pos.line X.env = pure false := by rfl) (hw : swappedStores [.Subscript (.Subscript (.Name x p) e1 pos2) e2 apos] e X.env = pure none := by rfl)
    (h3 : (assignEach [.Subscript (.Subscript (.Name x p) e1 pos2) e2 apos] X.env).map (·.2) = [assign (.Subscript (.Subscript (.Name x p) e1 pos2) e2 apos) X.env] := by rfl) : SV X ow G G Gl (.Assign [.Subscript (.Subscript (.Name x p) e1 pos2) e2 apos] e pos) (sSetIx2 i f1 f2 fe) := by
  refine PS.mono (ps_asg he (pg_sub (pe_ix ix_list (pe_var hN hv hd hcd) h1 hp1) h2 set_list ha) hs hw h3) fun D σ H h => ?_
  obtain ⟨c, T, fp, ρ, S, o, S', ok, hf, q⟩ := h
  obtain ⟨d, S1, S2, k, l0, xs, ys, i0, j, g1, g2, g3, hx, g4, g5, g6, rfl⟩ := sSetIx2_some hf
  obtain ⟨v, q1, q2⟩ := ok.den i _ hx
  obtain ⟨a, vs, E, rfl, hE, ha, l⟩ := lst_inv q2
  refine ⟨c, T, fp, ρ, S, d, S1, ok, g1, fun y H1 F ok1 ex1 dn av r => ?_⟩
  refine ⟨.ref a, q1, c, T, fp, ρ, S1, _, S2, ok1, g2, fun iv H2 F2 ok2 ex2 dn2 av2 r2 => ?_⟩
  cases dn2
  have ex := ex1.trans ex2
  have nP : a ∉ c.R := ok.notR (ok.av i _ hx a (by rw [hE]; exact List.mem_cons_self))
  have hnd := ok.nd i _ hi hx
  rw [hE] at hnd
  have hdom : ∀ z ∈ fp i, H z ≠ none := fun z hz => q2.dom z hz
  have ha2 := ex.keep a _ ha nP
  obtain ⟨w0, G0, c1, c2, c3⟩ := l.get g5
  obtain ⟨b, us, E2, rfl, hE2, hb, l2⟩ := lst_inv c2
  refine ⟨a, vs, k, .ref b, rfl, rfl, .inl (.inl ha2), ?_, c, T, fp, ρ, S2, _, S', ok2, g3, fun jv H3 F3 ok3 ex3 dn3 av3 r3 => ?_⟩
  · unfold atI
    rw [l.length, ← ixD_eq, g4]
    exact c1
  cases dn3
  have ex' := ex.trans ex3
  have hbE : b ∈ E := c3 b (by rw [hE2]; exact List.mem_cons_self)
  have nPb : b ∉ c.R := ok.notR (ok.av i _ hx b (by rw [hE]; exact List.mem_cons_of_mem _ hbE))
  have hb3 := ex'.keep b _ hb nPb
  refine ⟨b, us, l0, j, rfl, rfl, hb3, by rw [l2.length, ← ixD_eq]; exact g6, ?_⟩
  have hj : j < ys.length := by
    unfold ixD at g6
    split at g6
    · cases g6; omega
    · split at g6
      · cases g6; omega
      · cases g6
  obtain ⟨v', q1', q2'⟩ := ok3.den i _ hx
  rw [q1] at q1'
  cases q1'
  obtain ⟨a', vs', E', e0, hE', ha', l'⟩ := lst_inv q2'
  cases e0
  rw [hE] at hE'
  cases hE'
  rw [ex3.keep a _ ha2 nP] at ha'
  cases ha'
  obtain ⟨y0, G0', A, B, b1, b2, b3, b4⟩ := l'.at g5
  rw [c1] at b1
  cases b1
  obtain ⟨b', us', E2', e0, hE2', hb', l2'⟩ := lst_inv b2
  cases e0
  rw [hb3] at hb'
  cases hb'
  obtain ⟨y1, G1, A1, B1, d1, d2, d3, d4⟩ := l2'.at (List.getElem?_eq_getElem hj)
  have na : a ∉ E := (List.nodup_cons.mp hnd).1
  have nE : E.Nodup := (List.nodup_cons.mp hnd).2
  have nab : a ≠ b := fun z => na (z ▸ hbE)
  have nt := not_tup hb3
  have fresh : ∀ z ∈ E, z ∉ F := fun z hz w => hdom z (by rw [hE]; exact List.mem_cons_of_mem _ hz) (r.2 z w)
  have hnot : a ∉ F := fun z => hdom a (by rw [hE]; exact List.mem_cons_self) (r.2 a z)
  have sub1 : ∀ z, z ∈ A ∨ z ∈ B ∨ z ∈ G0' → z ∈ E := fun z hz => by
    rw [b3]
    rcases hz with hz | hz | hz <;> simp [hz]
  have sub2 : ∀ z, z ∈ A1 ∨ z ∈ B1 → z ∈ E := fun z hz => sub1 z (.inr (.inr (by
    rw [hE2', d3]
    rcases hz with hz | hz <;> simp [hz])))
  have nmid : (A ++ G0' ++ B).Nodup := b3 ▸ nE
  have nG0 : G0'.Nodup := (List.nodup_append.mp (List.nodup_append.mp nmid).1).2.1
  have nbA : b ∉ A := fun z => (List.nodup_append.mp (List.nodup_append.mp nmid).1).2.2 b z b (by rw [hE2']; exact List.mem_cons_self) rfl
  have nbB : b ∉ B := fun z => (List.nodup_append.mp nmid).2.2 b (List.mem_append_right _ (by rw [hE2']; exact List.mem_cons_self)) b z rfl
  rw [hE2'] at nG0
  have nbE2 : b ∉ E2' := (List.nodup_cons.mp nG0).1
  have nb1 : b ∉ A1 ∧ b ∉ B1 := ⟨fun z => nbE2 (by rw [d3]; simp [z]), fun z => nbE2 (by rw [d3]; simp [z])⟩
  refine q σ _ _ (ok.mut ex' ok3 hi hx (l := b) (by rw [hE]; exact List.mem_cons_of_mem _ hbE) nt hsc (F := F) (F' := a :: (A ++ (b :: (A1 ++ F ++ B1)) ++ B)) (fun v' w1 w2 => ?_) r.2 av (fun z hz => ?_) ?_)
  · rw [q1] at w1
    cases w1
    have inner : Den X.K (upd H3 b (.lst (us.set j y))) (.ref b) (.list (ys.set j d)) (b :: (A1 ++ F ++ B1)) := by
      refine .lst upd_same (d4 _ _ _ F (fun w e E3 hw hE3 => hw.wr nt fun z => ?_) ((dn.ext (ex2.trans ex3) fun z hz => ok.notR (av z hz)).wr nt fun z => fresh b hbE z))
      rcases hE3 b z with z | z
      · exact nb1.1 z
      · exact nb1.2 z
    have outer := b4 (upd H3 b (.lst (us.set j y))) (.ref b) (.list (ys.set j d)) _ (fun w e E3 hw hE3 => hw.wr nt fun z => (hE3 b z).elim nbA nbB) inner
    have same : vs.set i0 (.ref b) = vs := by
      apply List.ext_getElem?
      intro n
      by_cases hn : i0 = n
      · subst hn
        rw [c1, List.getElem?_set_self (List.getElem?_eq_some_iff.mp c1).1]
      · rw [List.getElem?_set_ne hn]
    rw [same] at outer
    refine .lst ?_ outer
    rw [upd_ne nab]
    exact ex3.keep a _ ha2 nP
  · rw [hE]
    rcases List.mem_cons.mp hz with rfl | hz
    · exact .inl List.mem_cons_self
    · rcases List.mem_append.mp hz with hz | hz
      · rcases List.mem_append.mp hz with hz | hz
        · exact .inl (List.mem_cons_of_mem _ (sub1 z (.inl hz)))
        · rcases List.mem_cons.mp hz with rfl | hz
          · exact .inl (List.mem_cons_of_mem _ hbE)
          · rcases List.mem_append.mp hz with hz | hz
            · rcases List.mem_append.mp hz with hz | hz
              · exact .inl (List.mem_cons_of_mem _ (sub2 z (.inl hz)))
              · exact .inr hz
            · exact .inl (List.mem_cons_of_mem _ (sub2 z (.inr hz)))
      · exact .inl (List.mem_cons_of_mem _ (sub1 z (.inr (.inl hz))))
  · have n1 : (b :: (A1 ++ F ++ B1)).Nodup := by
      refine List.nodup_cons.mpr ⟨fun z => ?_, nodup_mid (by rw [d3] at nG0; exact (List.nodup_cons.mp nG0).2) r.1 (fun z hz => fresh z (sub2 z (.inl hz))) (fun z hz => fresh z (sub2 z (.inr hz)))⟩
      rcases List.mem_append.mp z with z | z
      · rcases List.mem_append.mp z with z | z
        · exact nb1.1 z
        · exact fresh b hbE z
      · exact nb1.2 z
    have inG : ∀ z, z ∈ b :: (A1 ++ F ++ B1) → z ∈ G0' ∨ z ∈ F := fun z hz => by
      rw [hE2', d3]
      rcases List.mem_cons.mp hz with rfl | hz
      · exact .inl List.mem_cons_self
      · rcases List.mem_append.mp hz with hz | hz
        · rcases List.mem_append.mp hz with hz | hz
          · exact .inl (by simp [hz])
          · exact .inr hz
        · exact .inl (by simp [hz])
    refine List.nodup_cons.mpr ⟨fun z => ?_, nodup_mid nmid n1 (fun z hz w => ?_) (fun z hz w => ?_)⟩
    · rcases List.mem_append.mp z with z | z
      · rcases List.mem_append.mp z with z | z
        · exact na (sub1 a (.inl z))
        · rcases inG a z with z | z
          · exact na (sub1 a (.inr (.inr z)))
          · exact hnot z
      · exact na (sub1 a (.inr (.inl z)))
    · rcases inG z w with w | w
      · exact (List.nodup_append.mp (List.nodup_append.mp nmid).1).2.2 z hz z w rfl
      · exact fresh z (sub1 z (.inl hz)) w
    · rcases inG z w with w | w
      · exact (List.nodup_append.mp nmid).2.2 z (List.mem_append_right _ w) z hz rfl
      · exact fresh z (sub1 z (.inr (.inl hz))) w
end
end DL

/-! DS12: defs, the law. -/
namespace DL
open PySem PySem.Spec PyProof.Rows L2

theorem fps {K : PySem.W.Frag} {H : Hp} : ∀ {vs : List V} {ds : List D} {F : List Addr}, DenL K H vs ds F → ∃ fp : Nat → List Addr, ∀ (i : Nat) (d : D), ds[i]? = some d → ∃ v, vs[i]? = some v ∧ Den K H v d (fp i) ∧ ∀ a ∈ fp i, a ∈ F
  | _, _, _, .nil => ⟨fun _ => [], fun i d h => by simp at h⟩
  | _, _, _, .cons (F := F) h l => by
    obtain ⟨fp, q⟩ := fps l
    refine ⟨fun i => match i with | 0 => F | i + 1 => fp i, fun i d e => ?_⟩
    cases i with
    | zero =>
      simp at e
      subst e
      exact ⟨_, rfl, h, fun a ha => List.mem_append_left _ ha⟩
    | succ i =>
      obtain ⟨v, e1, e2, e3⟩ := q i d (by simpa using e)
      exact ⟨v, by simpa using e1, e2, fun a ha => List.mem_append_right _ (e3 a ha)⟩
theorem slots_some {α : Type} {ds : List α} {k i : Nat} {d : α} (h : (ds.map some ++ List.replicate k none)[i]? = some (some d)) : ds[i]? = some d := by
  by_cases hi : i < ds.length
  · rw [List.getElem?_append_left (by simpa using hi), List.getElem?_map] at h
    obtain ⟨x, e1, e2⟩ := Option.map_eq_some_iff.mp h
    rw [e1]
    cases e2
    rfl
  · rw [List.getElem?_append_right (by simp; omega)] at h
    rw [List.getElem?_replicate] at h
    split at h <;> cases h
theorem slots_at {α : Type} {ds : List α} {k i : Nat} {d : α} (h : ds[i]? = some d) : (ds.map some ++ List.replicate k (none : Option α))[i]? = some (some d) := by
  have hi := (List.getElem?_eq_some_iff.mp h).1
  rw [List.getElem?_append_left (by simpa using hi), List.getElem?_map, h]
  rfl
theorem endD_some {o : Out} {S S' : Src} {r : D} (h : endD o S = some (r, S')) : S' = S ∧ ((∃ ρ, o = .nx ρ ∧ r = .none) ∨ o = .rt r) := by
  cases o with
  | nx ρ =>
    obtain ⟨rfl, rfl⟩ := M.pure_some h
    exact ⟨rfl, .inl ⟨ρ, rfl, rfl⟩⟩
  | rt d =>
    obtain ⟨rfl, rfl⟩ := M.pure_some h
    exact ⟨rfl, .inr rfl⟩
  | bk ρ => exact (M.fail_some (S := S) h).elim
  | ct ρ => exact (M.fail_some (S := S) h).elim

section
variable {P : Program} {w : World} {K : PySem.W.Frag} {mg : Str → Option Value} {base : Heap} {x qual : Str} {st : Stmt} {f : Addr} {fd : FuncData} {N ps : List Str} {k m n : Nat} {own : Bool} {b : SF} {mu mu' : List Nat}
theorem ok_D (F : Fun K x qual st f fd) (S : FnScope N ps (defScope st)) (hn : ps.length = n) (hN : N.length = m) (hnm : n ≤ m) (hmu : ∀ i ∈ mu, n ≤ i)
    (hb : ∀ (cdv : Value) (A : Around) (outer : List PySem.Env) (s : Shared) (H : Hp) (E : XK), Room k (A.deeper (envOfC qual (defScope st) s.heap.objs.size f cdv)) → SVs (cxOf CX0 P w K mg base N qual (defScope st) f cdv A outer s H E).nox own ⟨mu, none⟩ ⟨mu', none⟩ ⟨[], none⟩ (defBody st) b) :
    FnOk P w K mg base CX0 (k + 1) f fd ps (spD K n own (runDef n m b)) := by
  refine F.ok S (fun vs H Q E h => h.1.trans hn.symm) (fun cdv A outer s H vs Q E hr h => ⟨_, hb cdv A outer s H E hr, ?_⟩)
  obtain ⟨hl, PP, ds, Fs, S0, r, S', dn, av, pd, hf, q⟩ := h
  obtain ⟨h1, hf⟩ := M.chk_bind hf
  obtain ⟨o, S1, h2, hf⟩ := M.bind_some hf
  obtain ⟨rfl, hg⟩ := endD_some hf
  obtain ⟨fp, hfp⟩ := fps dn
  have hdl : ds.length = n := by simpa using h1
  refine ⟨⟨none, H, PP⟩, [], fp, _, S0, o, _, ⟨fun i d hd => ?_, fun _ z => (nomatch z), fun i d hd a ha => ?_, fun _ z => (nomatch z), fun i j d e hi hij h1 _ => ?_, fun i d hi h1 => ?_, fun i d hi h1 => ?_, fun i d hi h1 => ?_, Ext.refl, fun _ z => (nomatch z), pd, trivial, ?_⟩, h2, ?_⟩
  · obtain ⟨v, e1, e2, _⟩ := hfp i d (slots_some hd)
    exact ⟨v, slots_at e1, e2⟩
  · obtain ⟨v, e1, e2, e3⟩ := hfp i d (slots_some hd)
    exact av a (e3 a ha)
  · have := (List.getElem?_eq_some_iff.mp (slots_some h1)).1
    have := hmu i hi
    omega
  · have := (List.getElem?_eq_some_iff.mp (slots_some h1)).1
    have := hmu i hi
    omega
  · have := (List.getElem?_eq_some_iff.mp (slots_some h1)).1
    have := hmu i hi
    omega
  · have := (List.getElem?_eq_some_iff.mp (slots_some h1)).1
    have := hmu i hi
    omega
  · show _ = (L2.start N vs).length
    unfold L2.start
    simp only [List.length_append, List.length_map, List.length_replicate]
    omega
  · rcases hg with ⟨ρ, rfl, rfl⟩ | rfl
    · exact fun σ H' fp' ok' => q .non H' [] ok'.ext .non (fun _ z => nomatch z) fun _ => ⟨List.nodup_nil, fun _ z => nomatch z⟩
    · exact fun v H' F' e _ d2 a2 o2 => q v H' F' e d2 a2 o2
theorem ok_M (F : Fun K x qual st f fd) (S : FnScope N ps (defScope st)) (hn : ps.length = n + 1) (hN : N.length = m) (hnm : n + 1 ≤ m) (hmu : ∀ i ∈ mu, n + 1 ≤ i)
    (hb : ∀ (cdv : Value) (A : Around) (outer : List PySem.Env) (s : Shared) (H : Hp) (E : XK), Room k (A.deeper (envOfC qual (defScope st) s.heap.objs.size f cdv)) → SVs (cxOf CX0 P w K mg base N qual (defScope st) f cdv A outer s H E).nox own ⟨mu, some 0⟩ ⟨mu', some 0⟩ ⟨[], some 0⟩ (defBody st) b) :
    FnOk P w K mg base CX0 (k + 1) f fd ps (spM K n own (runDefS n m b)) := by
  refine F.ok S (fun vs H Q E h => h.1.trans hn.symm) (fun cdv A outer s H vs Q E hr h => ⟨_, hb cdv A outer s H E hr, ?_⟩)
  obtain ⟨hl, p, q0, us, PP, ds, Fs, S0, r, S', rfl, sa, pp, pq, dn, av, pd, hf, q⟩ := h
  obtain ⟨h1, hf⟩ := M.chk_bind hf
  obtain ⟨o, S1, h2, hf⟩ := M.bind_some hf
  obtain ⟨rfl, hg⟩ := endD_some hf
  obtain ⟨fp, hfp⟩ := fps dn
  have hdl : ds.length = n := by simpa using h1
  have sl : ∀ {i d}, (none :: ds.map some ++ List.replicate (m - 1 - n) none)[i]? = some (some d) → ∃ j, i = j + 1 ∧ ds[j]? = some d := fun {i d} h => by
    cases i with
    | zero => cases h
    | succ j => exact ⟨j, rfl, slots_some (by simpa using h)⟩
  refine ⟨⟨some (p, q0), H, PP⟩, [], fun i => fp (i - 1), _, S0, o, _, ⟨fun i d hd => ?_, fun _ z => (nomatch z), fun i d hd a ha => ?_, fun _ z => (nomatch z), fun i j d e hi hij h1 _ => ?_, fun i d hi h1 => ?_, fun i d hi h1 => ?_, fun i d hi h1 => ?_, Ext.refl, fun a ha => ?_, pd, ⟨rfl, sa⟩, ?_⟩, h2, ?_⟩
  · obtain ⟨j, rfl, e⟩ := sl hd
    obtain ⟨v, e1, e2, _⟩ := hfp j d e
    refine ⟨v, ?_, e2⟩
    have := slots_at (k := N.length - (us.length + 1)) e1
    show (L2.start N (.ref p :: us))[j + 1]? = _
    unfold L2.start
    simpa using this
  · obtain ⟨j, rfl, e⟩ := sl hd
    obtain ⟨v, e1, e2, e3⟩ := hfp j d e
    exact av a (e3 a ha)
  · obtain ⟨j, rfl, e⟩ := sl h1
    have := (List.getElem?_eq_some_iff.mp e).1
    have := hmu _ hi
    omega
  · obtain ⟨j, rfl, e⟩ := sl h1
    have := (List.getElem?_eq_some_iff.mp e).1
    have := hmu _ hi
    omega
  · obtain ⟨j, rfl, e⟩ := sl h1
    have := (List.getElem?_eq_some_iff.mp e).1
    have := hmu _ hi
    omega
  · obtain ⟨j, rfl, e⟩ := sl h1
    have := (List.getElem?_eq_some_iff.mp e).1
    have := hmu _ hi
    omega
  · have z : a = p ∨ a = q0 := by simpa [Cc.R] using ha
    rcases z with rfl | rfl
    · exact pp
    · exact pq
  · show _ = (L2.start N (.ref p :: us)).length
    unfold L2.start
    have : us.length = n := by simpa using hl
    simp only [List.length_append, List.length_map, List.length_replicate, List.length_cons]
    omega
  · rcases hg with ⟨ρ, rfl, rfl⟩ | rfl
    · exact fun σ H' fp' ok' => q .non H' [] ok'.ext ok'.src.h .non (fun _ z => nomatch z) fun _ => ⟨List.nodup_nil, fun _ z => nomatch z⟩
    · exact fun v H' F' e sh d2 a2 o2 => q v H' F' e sh d2 a2 o2
end
end DL

/-! DS13: the law at its caller. -/
namespace DL
open PySem PySem.Spec PyProof.Rows L2

/-- the law, run where it is called, on a list of at most n numbers, answers True -/
def At1 (P : Program) (w : World) (K : PySem.W.Frag) (mg : Str → Option Value) (base : Heap) (fa : Addr) (n : Nat) : Prop := ∀ (s : Shared) (H : Hp) (a : Addr) (ns : List Int), Env0 P w K mg base callerA [] s H → SqL K H a (ns.map V.int) → ns.length ≤ n →
  codeAny (model P w) callerA (.call (.ref fa) ⟨[.ref a], []⟩) (CR CX0 [] P w H s (fun v _ => v = .bl true) E0) s
section
variable {P : Program} {w : World} {K : PySem.W.Frag} {mg : Str → Option Value} {base : Heap}
theorem at1_of {x qual y : Str} {st : Stmt} {fa : Addr} {fd : FuncData} {N : List Str} {k n : Nat} (F : Fun K x qual st fa fd) (S : FnScope N [y] (defScope st)) (hk : Room (k + 1) callerA) (bd : Binds K fd [y] [])
    (body : ∀ (cdv : Value) (s : Shared) (H : Hp) (a : Addr) (ns : List Int), Room k (callerA.deeper (envOfC qual (defScope st) s.heap.objs.size fa cdv)) → SqL K H a (ns.map V.int) → ns.length ≤ n →
      ∃ t, PSs (cxOf CX0 P w K mg base N qual (defScope st) fa cdv callerA [] s H E0).nox (defBody st) t ∧ t { nx := fun _ _ => False, rt := fun v _ => v = .bl true } (L2.start N [.ref a]) H) : At1 P w K mg base fa n := by
  obtain ⟨oc, od, kV, doc, pm, an, cdv, ct, osl, rfl, lk, hcd⟩ := F.ex
  intro s H a ns e0 hS hl
  have kin : K.In s.heap := e0.mod.kin.keeps fun b o e => (e0.bs b o e).1
  have nolim : s.heap.NoLimit := e0.mod.nolimit.keeps fun b o e => (e0.bs b o e).1
  have kinds : ∀ z ∈ ([y].zip [Value.ref a]), (defScope st).names.lookup z.1 = some .local ∨ ((defScope st).names.lookup z.1 = some .cell ∧ ((cellsFrom (s.heap.objs.size + 1) (defScope st).names []).lookup z.1).isSome = true) := by
    rintro ⟨n', v'⟩ hz
    exact (S.par n' (List.of_mem_zip hz).1).imp id fun q => ⟨q, PySem.W.cellsFrom_some _ _ _ (.inl q)⟩
  have bnd := bd s [.ref a] kin rfl
  rw [List.append_nil] at bnd
  refine codeAny_call_function hk.depth (kin _ _ lk) rfl S.co S.gen rfl (PySem.W.codeRec_of kin hcd) (bnd _ _ _ _ ?_)
  refine wpAny_newFunctionEnv_cells S.kind kinds fun env he s1 q1 => ?_
  subst he
  refine ⟨nolim.keeps q1.toInCall.keep, codeAny_func ?_⟩
  obtain ⟨t, ht, tq⟩ := body cdv s H a ns (hk.deeper _) hS hl
  have start_ := inv_start (CX := CX0) (E := E0) S hk.hd e0 rfl (.cons rfl .nil : Vals [V.ref a] [Value.ref a]) q1
  refine wpAny_mono (ht.nox.run [] s1 _ H _ start_ tq) (fun fl s' hs => ?_) fun e s' hs => hs
  cases fl with
  | ret u =>
    obtain ⟨v, σ', H', J, rv, q⟩ := hs
    exact ⟨v, H', J.os, J.bare, J.base, J.hok, rv, q⟩
  | next =>
    obtain ⟨_, _, _, q⟩ := hs
    exact q.elim
  | brk =>
    obtain ⟨_, _, _, q⟩ := hs
    exact q.elim
  | cont =>
    obtain ⟨_, _, _, q⟩ := hs
    exact q.elim

/-- what a heap hides keeps its namespaces, where the hidden is a list -/
theorem hid_ns {h : Heap} {H : Hp} {a : Addr} {vs : List Value} (ha : h.get? a = some { cls := .type "list", data := .seq vs.toArray }) (only : ∀ b, H b ≠ none → b = a) {b : Addr} {m : Str → Option Value} (n : h.Ns b m) : (hidT h H).Ns b m := by
  obtain ⟨o, es, ep, e, d, r⟩ := n
  refine ⟨o, es, ep, hidT_get e ?_, d, r⟩
  cases q : H b with
  | none => rfl
  | some u =>
    have eb : b = a := only b (by rw [q]; exact fun z => nomatch z)
    rw [eb, ha] at e
    cases e
    have d' : Data.seq vs.toArray _ = Data.dict es ep := d
    cases d'
theorem at_top {mb : Str → Option Value} {fa a : Addr} {n : Nat} {s₁ : Shared} {vs : List Value} {ns : List Int} (kin : K.In s₁.heap) (g : s₁.heap.Ns mainGlobals mg) (hb : s₁.heap.Ns builtinsNs mb) (hbb : ∀ x : Str, x ≠ "__name__" → mb x = bootBuiltins x)
    (lim : s₁.heap.NoLimit) (gens : s₁.gens = #[]) (ha : s₁.heap.get? a = some { cls := .type "list", data := .seq vs.toArray }) (hi : IntsAre vs ns) (hl : ns.length ≤ n) (hz : n ≤ sizeLine) (F : ∀ b : Heap, K.In b → b.Ns mainGlobals mg → At1 P w K mg b fa n) :
    codeAny (model P w) callerA (.call (.ref fa) ⟨[.ref a], []⟩) (fun r s' => r = .ok (.ret (.bool true)) ∧ OldK s₁.heap s'.heap ∧ s'.os = s₁.os ∧ AllBare s'.gens) s₁ := by
  have rv := vals_ints hi
  have go : ∀ H : Hp, (∀ b, H b ≠ none → b = a) → (∀ b o, H b = some o → ∃ z xs, o = .frz z (.lst xs)) → (H a ≠ none → K.lookup a = none) → HOk P w H s₁.heap → SqL K H a (ns.map V.int) →
      codeAny (model P w) callerA (.call (.ref fa) ⟨[.ref a], []⟩) (fun r s' => r = .ok (.ret (.bool true)) ∧ OldK s₁.heap s'.heap ∧ s'.os = s₁.os ∧ AllBare s'.gens) s₁ := by
    intro H only frz nk hok hS
    have kb : K.In (hidT s₁.heap H) := fun b o e => hidT_get (kin b o e) (by
      cases q : H b with
      | none => rfl
      | some u =>
        have nb : H b ≠ none := by rw [q]; exact fun z => nomatch z
        have eb := only b nb
        subst eb
        rw [nk nb] at e
        cases e)
    have gb : (hidT s₁.heap H).Ns mainGlobals mg := hid_ns ha only g
    have md : Mod K mg (hidT s₁.heap H) := by
      refine ⟨kb, gb, ⟨mb, hid_ns ha only hb, hbb⟩, ?_⟩
      obtain ⟨mc, q1, q2⟩ := lim
      exact ⟨mc, hid_ns ha only q1, q2⟩
    have e0 : Env0 P w K mg (hidT s₁.heap H) callerA [] s₁ H := ⟨rfl, md, fun b o e => of_hidT e, Nat.le_of_eq (hidT_size _ _), trivial, fun b z => absurd (show b ∈ ([] : List Addr) from z) (by simp), hok, .of_eq gens⟩
    refine codeAny_mono (F _ kb gb s₁ H a ns e0 hS hl) fun r s' h => ?_
    match r, h with
    | .error e, h => exact (h : False).elim
    | .ok .next, h => exact (h : False).elim
    | .ok .brk, h => exact (h : False).elim
    | .ok .cont, h => exact (h : False).elim
    | .ok (.ret u), h =>
      obtain ⟨v, H', os, bare, un, hok', rel, q⟩ := h
      have q' : v = .bl true := q
      subst q'
      have eu : u = Value.bool true := rel
      subst eu
      refine ⟨rfl, OldK.of_keep fun b o e => ?_, os, bare⟩
      cases q : H b with
      | none => exact un.keep b o e q (fun z => absurd (show b ∈ ([] : List Addr) from z) (by simp)) (by simp)
      | some u =>
        obtain ⟨z, xs, rfl⟩ := frz b u q
        obtain ⟨e1, _⟩ := hok b _ q
        obtain ⟨e2, _⟩ := hok' b _ (un.frzs b z _ q)
        rw [e] at e1
        cases e1
        exact e2
  have hz1 : ns.length ≤ sizeLine := Nat.le_trans hl hz
  cases hk : K.lookup a with
  | none =>
    let H : Hp := fun b => if b = a then some (.frz { cls := .type "list", data := .seq vs.toArray } (.lst (ns.map V.int))) else none
    have Ha : H a = some (.frz { cls := .type "list", data := .seq vs.toArray } (.lst (ns.map V.int))) := if_pos rfl
    have Hn : ∀ b, b ≠ a → H b = none := fun b nb => if_neg nb
    have only : ∀ b, H b ≠ none → b = a := fun b nb => Classical.byContradiction fun z => nb (Hn b z)
    refine go H only (fun b o e => ?_) (fun _ => hk) (fun b o e => ?_) (.inl (.inr ⟨_, Ha⟩))
    · have eb := only b (by rw [e]; exact fun z => nomatch z)
      subst eb
      rw [Ha] at e
      cases e
      exact ⟨_, _, rfl⟩
    · have eb := only b (by rw [e]; exact fun z => nomatch z)
      subst eb
      rw [Ha] at e
      cases e
      exact ⟨ha, by rw [List.length_map]; exact hz1, vs, _, rv, ha⟩
  | some o =>
    have e := kin a o hk
    rw [ha] at e
    cases e
    refine go (fun _ => none) (fun b z => absurd rfl z) (fun b o e => nomatch e) (fun z => absurd rfl z) (fun b o e => nomatch e) (.inr ⟨_, vs.toArray, _, hk, rfl, rfl, rfl, ?_, by simpa using rv⟩)
    rw [List.size_toArray, hi.length]
    exact hz1
end
/-- the goal behind the head -/
theorem walk_own {l : PySem.W.OpenLaw} {n : Nat} {q : Program} {loose : List Str} {XP : (Str → Option Value) → Heap → Prop} {YP : World → Heap → Prop} {d : DefRec} {K : Params → PySem.W.Frag}
    (hn : l.most = some n) (hz : n ≤ sizeLine) (hdf : d.params.defaults = []) (hY : ∀ (w : World) (h : Heap), YP w h → (K w.params).In h)
    (F : ∀ (w : World) (mg : Str → Option Value) (fa : Addr) (h : Heap), (K w.params).In h → h.Ns mainGlobals mg → mg d.name = some (.ref fa) → ∀ b : Heap, (K w.params).In b → b.Ns mainGlobals mg → At1 l.prog w (K w.params) mg b fa n) :
    PySem.W.WalkO q loose XP YP l.row.toRowW d [] (fun f vs => PySem.call f vs) := by
  refine Att.attach_call hn hdf fun w s₀ s₁ mg mb fa o pm cd doc a vs ns G Y _ _ _ hmg hobj hints hlen gens => ?_
  exact at_top (hY w _ Y) G.T.g G.T.b G.T.builtins G.T.nolimit gens hobj hints hlen hz (F w mg fa _ (hY w _ Y) G.T.g hmg)

/-! ### the law's first statement makes the source -/
def spOpen (K : PySem.W.Frag) : Sp := fun vs H Q _ => ∃ a ns, vs = [.ref a] ∧ SqL K H a (ns.map V.int) ∧ ns.length ≤ 63 ∧ ∀ H' p q, Ext [] H H' → SrcAt H' p q (openS ns) → Q (.ref p) H'
section
variable {P : Program} {w : World} {K : PySem.W.Frag} {mg : Str → Option Value} {base : Heap}
theorem law_core {m : Nat} {b : SF} {mu mu' : List Nat} {ns : List Int} {σ : St} {H : Hp} {p q : Addr} (hm : σ.length = m) (h1 : σ[1]? = some (some (.ref p))) (sa : SrcAt H p q (openS ns)) (hr : runLaw m b ns = some (.bool true)) :
    tDS K false ⟨mu, some 1⟩ ⟨mu', some 1⟩ ⟨[], some 1⟩ b { nx := fun _ _ => False, rt := fun v _ => v = .bl true } σ H := by
  unfold runLaw at hr
  obtain ⟨⟨o, S1⟩, e1, e2⟩ := Option.bind_eq_some_iff.mp hr
  obtain ⟨⟨r, S2⟩, e3, e4⟩ := Option.map_eq_some_iff.mp e2
  have e4 : r = .bool true := e4
  subst e4
  obtain ⟨rfl, hg⟩ := endD_some e3
  have no : ∀ {i d}, (List.replicate m (none : Option D))[i]? ≠ some (some d) := fun {i d} z => by
    rw [List.getElem?_replicate] at z
    split at z <;> cases z
  refine ⟨⟨some (p, q), H, fun a => a = p ∨ a = q⟩, [], fun _ => [], _, openS ns, o, _, ⟨fun i d h => absurd h no, fun _ z => (nomatch z), fun i d h => absurd h no, fun _ z => (nomatch z), fun i j d e _ _ h => absurd h no, fun i d _ h => absurd h no, fun i d _ h => absurd h no, fun i d _ h => absurd h no, Ext.refl, fun a ha => ?_, fun a z => ?_, ⟨h1, sa⟩, by rw [List.length_replicate, hm]⟩, e1, ?_⟩
  · have z : a = p ∨ a = q := by simpa [Cc.R] using ha
    exact z
  · rcases z with rfl | rfl
    · rw [sa.1]; exact fun z => nomatch z
    · rw [sa.2]; exact fun z => nomatch z
  · rcases hg with ⟨ρ, _, z⟩ | rfl
    · cases z
    · exact fun v H' F _ _ dn _ _ => by
        cases dn
        rfl
end
end DL

/-! DS14: the draws' source. -/
namespace DL
open PySem PySem.Spec PyProof.Rows L2

def SK.name : SK → Str
  | .left => "left"
  | .mixed => "mixed"
  | .turn => "turn"
abbrev srcL (q : Addr) (S : Src) : List (Key × V) := [(.inr "cells", .ref q), (.inr "left", .int S.left), (.inr "mixed", .int S.mixed), (.inr "turn", .int S.turn)]
theorem src_get (q : Addr) (S : Src) (k : SK) : valV (srcL q S) (.inr k.name) = some (.int (k.get S)) := by
  cases k <;> rfl
theorem src_cells (q : Addr) (S : Src) : valV (srcL q S) (.inr "cells") = some (.ref q) := rfl
theorem src_put (q : Addr) (S : Src) (k : SK) (i : Int) : putK (srcL q S) (.inr k.name) (.int i) = srcL q (k.set i S) := by
  cases k <;> rfl
section
variable {X : Cx} {ow : Bool} {G Gb : Sg} {pos apos cpos p p2 p3 : Pos} {e : Expr} {fe : EF} {m : Md} {i : Nat} {x : Str} {k : SK} {j : Nat}
theorem src_at {c : Cc} {S : Src} {σ : St} {H : Hp} (h : SrcOk G.sc c S σ H) (hsc : G.sc = some i) : ∃ p q, c.src = some (p, q) ∧ σ[i]? = some (some (.ref p)) ∧ SrcAt H p q S ∧ c.R = [p, q] := by
  unfold SrcOk at h
  rw [hsc] at h
  cases e : c.src with
  | none => rw [e] at h; exact h.elim
  | some pq =>
    obtain ⟨p, q⟩ := pq
    rw [e] at h
    exact ⟨p, q, rfl, h.1, h.2, by unfold Cc.R; rw [e]⟩
theorem src_mk {c : Cc} {S S' : Src} {σ : St} {H H' : Hp} {p q : Addr} (h : SrcOk G.sc c S σ H) (e : c.src = some (p, q)) (a : SrcAt H' p q S') : SrcOk G.sc c S' σ H' := by
  unfold SrcOk at h ⊢
  rw [e] at h ⊢
  cases q : G.sc with
  | none => rw [q] at h; exact h.elim
  | some i => rw [q] at h; exact ⟨h.1, a⟩
/-- source['left'] .. -/
theorem ev_src (hu : X.A.units + 1 < cLine) (hsc : G.sc = some i) (hN : X.N[i]? = some x) (hv : Vis X.env.scope x) (hd : (x == ("__debug__" : Str)) = false := by decide) (hcd : (x == ("__classdict__" : Str)) = false := by decide) (hs : NoSl (.Constant (.str k.name) j p2) := by exact fun _ _ => rfl) :
    EV X G .own (.Subscript (.Name x p) (.Constant (.str k.name) j p2) pos) (eSrc k) := by
  refine PE.mono (pe_dget hu (pe_var hN hv hd hcd) pe_str hs) fun σ H Q h => ?_
  obtain ⟨c, T, fp, ρ, S, d, S', ok, hf, q⟩ := h
  cases hf
  obtain ⟨p0, q0, e0, e1, sa, eR⟩ := src_at ok.src hsc
  exact ⟨.ref p0, e1, p0, _, rfl, .inl ⟨_, _, .inl sa.1, rfl, (src_get q0 S k).symm⟩, q _ H [] ok Ext.refl (.int _) av0 (ResOk.imm rfl)⟩
theorem ev_srcLen (hu : X.A.units + 1 < cLine) (hm2 : X.mg "len" = none) (hsc : G.sc = some i) (hN : X.N[i]? = some x) (hv : Vis X.env.scope x) (hd : (x == ("__debug__" : Str)) = false := by decide) (hcd : (x == ("__classdict__" : Str)) = false := by decide) (hs : NoSl (.Constant (.str "cells") j p2) := by exact fun _ _ => rfl)
    (hg : Gl X "len" := by rfl) (he : starEach [.Subscript (.Name x p) (.Constant (.str "cells") j p2) pos] X.env = (false, eval (.Subscript (.Name x p) (.Constant (.str "cells") j p2) pos) X.env) :: starEach [] X.env := by rfl) (hpl : (backTo cpos (starEach [] X.env)).any (·.1) = false := by rfl) :
    EV X G .own (.Call (.Name "len" p3) [.Subscript (.Name x p) (.Constant (.str "cells") j p2) pos] [] cpos) eSrcLen := by
  refine PE.mono (pe_callB call_len_seq hg hm2 PySem.boot_len (pa_cons (pe_dget hu (pe_var hN hv hd hcd) pe_str hs) pa_nil he) (by decide) (by decide) he hpl) fun σ H Q h => ?_
  obtain ⟨c, T, fp, ρ, S, d, S', ok, hf, q⟩ := h
  cases hf
  obtain ⟨p0, q0, e0, e1, sa, eR⟩ := src_at ok.src hsc
  refine ⟨.ref p0, e1, p0, _, rfl, .inl ⟨_, _, .inl sa.1, rfl, (src_cells q0 S).symm⟩, q0, _, rfl, .inl (.inl (.inl sa.2)), ?_⟩
  rw [List.length_map, List.length_reverse]
  exact q _ H [] ok Ext.refl (.int _) av0 (ResOk.imm rfl)
theorem sv_src (hu : X.A.units + 1 < cLine) (hsc : G.sc = some i) (hN : X.N[i]? = some x) (hv : Vis X.env.scope x) (he : EV X G m e fe) (hs : swapsWith e (some (.Subscript (.Name x p) (.Constant (.str k.name) j p2) apos)) pos.line X.env = pure false := by rfl) (hd : (x == ("__debug__" : Str)) = false := by decide) (hcd : (x == ("__classdict__" : Str)) = false := by decide) :
    SV X ow G G Gb (.Assign [.Subscript (.Name x p) (.Constant (.str k.name) j p2) apos] e pos) (sSrc k fe) := by
  refine PS.mono (ps_dput hu (pe_var hN hv hd hcd) pe_str he hs) fun D σ H h => ?_
  obtain ⟨c, T, fp, ρ, S, o, S', ok, hf, q⟩ := h
  obtain ⟨d, S1, h1, hf⟩ := M.bind_some hf
  split at hf
  · rename_i n _
    cases hf
    refine ⟨c, T, fp, ρ, S, _, S1, ok, h1, fun v H1 F ok1 ex dn av r => ?_⟩
    cases dn
    obtain ⟨p0, q0, e0, e1, sa, eR⟩ := src_at ok1.src hsc
    have h4 : (4 : Nat) < sizeLine := by show 4 < sizeLine; decide
    refine ⟨.ref p0, e1, p0, _, rfl, .inl ⟨_, .inr k.name, sa.1, rfl, h4, rfl⟩, q σ _ fp (ok1.step (Ext.poke (by rw [eR]; simp) fun y u z => by rw [sa.1] at z; cases z) (src_mk ok1.src e0 ?_))⟩
    have npq : q0 ≠ p0 := fun z => by
      have h1 := sa.1
      rw [← z, sa.2] at h1
      cases h1
    refine ⟨?_, ?_⟩
    · rw [upd_same]
      show some (HO.dK (putK (srcL q0 S1) (.inr k.name) (.int _))) = _
      rw [src_put]
    · rw [upd_ne npq]
      cases k <;> exact sa.2
  · exact (M.fail_some hf).elim
theorem drain_step {l c : Int} {cs : List Int} (h : l < 2) : drain l (c :: cs) = drain c cs := if_pos h
/-- source['left'] = source['cells'].pop() -/
theorem sv_srcPop {p4 p5 p6 : Pos} {j2 : Nat} (hu : X.A.units + 1 < cLine) (hsc : G.sc = some i) (hN : X.N[i]? = some x) (hv : Vis X.env.scope x) (hd : (x == ("__debug__" : Str)) = false := by decide) (hcd : (x == ("__classdict__" : Str)) = false := by decide) (hs1 : NoSl (.Constant (.str "cells") j2 p4) := by exact fun _ _ => rfl)
    (hbase : attributeBase (.Subscript (.Name x p3) (.Constant (.str "cells") j2 p4) p5) "pop" X.env (eval (.Subscript (.Name x p3) (.Constant (.str "cells") j2 p4) p5) X.env) = eval (.Subscript (.Name x p3) (.Constant (.str "cells") j2 p4) p5) X.env := by rfl) (hline : (p6.endLine == cpos.line) = true := by rfl)
    (hs : swapsWith (.Call (.Attribute (.Subscript (.Name x p3) (.Constant (.str "cells") j2 p4) p5) "pop" p6) [] [] cpos) (some (.Subscript (.Name x p) (.Constant (.str "left") j p2) apos)) pos.line X.env = pure false := by rfl) :
    SV X ow G G Gb (.Assign [.Subscript (.Name x p) (.Constant (.str "left") j p2) apos] (.Call (.Attribute (.Subscript (.Name x p3) (.Constant (.str "cells") j2 p4) p5) "pop" p6) [] [] cpos) pos) sSrcPop := by
  refine PS.mono (ps_dput hu (pe_var hN hv hd hcd) pe_str (pe_bm0 PySem.F.plainAttrs_list PySem.F.slot_list_pop PySem.F.type_list_pop mt_pop (pe_dget hu (pe_var hN hv hd hcd) pe_str hs1) hbase hline) hs) fun D σ H h => ?_
  obtain ⟨c, T, fp, ρ, S, o, S', ok, hf, q⟩ := h
  obtain ⟨p0, q0, e0, e1, sa, eR⟩ := src_at ok.src hsc
  have npq : q0 ≠ p0 := fun z => by
    have h1 := sa.1
    rw [← z, sa.2] at h1
    cases h1
  unfold sSrcPop at hf
  cases ec : S.cells with
  | nil => rw [ec] at hf; cases hf
  | cons c1 cs =>
    rw [ec] at hf
    cases hf
    have hq : H q0 = some (.lst (cs.reverse.map V.int ++ [.int c1])) := by
      rw [sa.2, ec]
      simp
    have h4 : (4 : Nat) < sizeLine := by show 4 < sizeLine; decide
    have ntq : ∀ y u, H q0 ≠ some (.frz y u) := fun y u z => by rw [hq] at z; cases z
    have ex1 : Ext c.R H (upd H q0 (.lst (cs.reverse.map V.int))) := Ext.poke (by rw [eR]; simp) ntq
    have hp2 : (upd H q0 (.lst (cs.reverse.map V.int))) p0 = some (.dK (srcL q0 S)) := by
      rw [upd_ne (Ne.symm npq)]
      exact sa.1
    refine ⟨.ref p0, e1, p0, _, rfl, .inl ⟨_, _, .inl sa.1, rfl, (src_cells q0 S).symm⟩, .inl ⟨rfl, _, .inl (.inl hq)⟩, q0, _, .int c1, rfl, rfl, hq, by simp, ?_⟩
    rw [List.dropLast_concat]
    refine ⟨.ref p0, e1, p0, _, rfl, .inl ⟨_, .inr "left", hp2, rfl, h4, rfl⟩, q σ _ fp (ok.step (ex1.trans (Ext.poke (by rw [eR]; simp) fun y u z => by rw [hp2] at z; cases z)) (src_mk ok.src e0 ⟨?_, ?_⟩))⟩
    · rw [upd_same]
      rfl
    · rw [upd_ne npq, upd_same, List.map_reverse]
/-- cells = source['cells']; while source['left'] < 2 and len(cells) > 0: source['left'] = cells.pop() -/
theorem drain_lt {l : Int} {cs : List Int} (h : ¬ l < 2) : drain l cs = (l, cs) := by
  cases cs with
  | nil => rfl
  | cons c r => exact if_neg h
theorem srcAt_ne {H : Hp} {p q : Addr} {S : Src} (sa : SrcAt H p q S) : q ≠ p := fun z => by
  have h1 := sa.1
  rw [← z, sa.2] at h1
  cases h1
theorem StOk.hide {K : PySem.W.Frag} {c : Cc} {T : List Tmp} {fp : Nat → List Addr} {ρ : Env} {S : Src} {σ : St} {H : Hp} {v : V} (ok : StOk K G c T fp ρ S σ H) (hsc : G.sc ≠ some i) : StOk K G c T fp (ρ.set i none) S (σ.set i (some v)) H := by
  have k := ok.kill (ks := [i])
  have e : DL.kill [i] ρ = ρ.set i none := rfl
  rw [e] at k
  refine ⟨fun j d h => ?_, k.tmp, k.av, k.tav, k.sep, k.tsep, k.nd, k.new, k.ext, k.hP, k.pd, k.src.set hsc, by simp [ok.len]⟩
  have nj : i ≠ j := fun z => by
    subst z
    rw [← e] at h
    exact (kill_some h).2 (by simp)
  rw [List.getElem?_set_ne nj]
  exact k.den j d h
theorem svs_drain {y : Str} {i2 : Nat} {pa pb pc pd pe pf pg ph pi pj pk pl pm pn po pp : Pos} {j0 j1 j2 j3 j4 : Nat} {rest : List Stmt} {f : SF} {Gn : Sg} (hp : PassesOwn (model X.prog X.w) X.A X.env X.xe) (hu : X.A.units + 1 < cLine) (hmL : X.mg "len" = none) (hsc : G.sc = some i) (hi2 : i2 ∉ G.mu) (h12 : i ≠ i2) (hNN : X.N.Nodup)
    (hN : X.N[i]? = some x) (hv : Vis X.env.scope x) (hN2 : X.N[i2]? = some y) (hv2 : Vis X.env.scope y) (hl2 : Loc X.env.scope y) (hf2 : X.fn y = true ∨ X.env.scope.names.lookup y = some .local)
    (hd : (x == ("__debug__" : Str)) = false) (hcd : (x == ("__classdict__" : Str)) = false) (hd2 : (y == ("__debug__" : Str)) = false) (hcd2 : (y == ("__classdict__" : Str)) = false)
    (hs0 : swapsWith (.Subscript (.Name x pa) (.Constant (.str "cells") j0 pb) pc) (some (.Name y pd)) pe.line X.env = pure false)
    (hg : Gl X "len") (hstar : starEach [.Name y pj] X.env = (false, eval (.Name y pj) X.env) :: starEach [] X.env) (hplain : (backTo pk (starEach [] X.env)).any (·.1) = false)
    (hbase : attributeBase (.Name y pm) "pop" X.env (eval (.Name y pm) X.env) = eval (.Name y pm) X.env) (hline : (pn.endLine == po.line) = true)
    (hs3 : swapsWith (.Call (.Attribute (.Name y pm) "pop" pn) [] [] po) (some (.Subscript (.Name x pl) (.Constant (.str "left") j4 pp) pf)) pg.line X.env = pure false)
    (hn1 : ∀ b, behindInMarks .Lt (.Constant (.int 2) j2 b) = false) (hn2 : ∀ b, behindInMarks .Gt (.Constant (.int 0) j3 b) = false)
    {q1 q2 q3 q4 q5 q6 q7 q8 : Pos} (hns1 : NoSl (.Constant (.str "cells") j0 pb)) (hns2 : NoSl (.Constant (.str "left") j1 q2)) (hr : SVs X ow G Gn Gb rest f) :
    SVs X ow G Gn Gb (.Assign [.Name y pd] (.Subscript (.Name x pa) (.Constant (.str "cells") j0 pb) pc) pe ::
      .While (.BoolOp .And [.Compare (.Subscript (.Name x q1) (.Constant (.str "left") j1 q2) q3) [.Lt] [.Constant (.int 2) j2 q4] q5, .Compare (.Call (.Name "len" ph) [.Name y pj] [] pk) [.Gt] [.Constant (.int 0) j3 q6] q7] q8)
        [.Assign [.Subscript (.Name x pl) (.Constant (.str "left") j4 pp) pf] (.Call (.Attribute (.Name y pm) "pop" pn) [] [] po) pg] [] pi :: rest) (sSeq (sDrain i2) f) := by
  have w1 := ps_set (pos := pe) (pos' := pd) hNN hN2 hl2 (pe_dget (pos := pc) hu (pe_var (pos := pa) hN hv hd hcd) (pe_str (X := X) (j := j0) (pos := pb) (x := "cells")) hns1) hs0 hf2
  have tst := pw_and (pos := q8) (pt_cmpR (pos := q5) op_lt (pe_dget (pos := q3) hu (pe_var (pos := q1) hN hv hd hcd) (pe_str (X := X) (j := j1) (pos := q2) (x := "left")) hns2) (pe_int (X := X) (i := 2) (j := j2) (pos := q4)) (hn1 q4))
    (pw_and1 (pos := q8) (pt_cmpR (pos := q7) op_gt (pe_callB (pos := pk) (p := ph) call_len_seq hg hmL PySem.boot_len (pa_cons (pe_var (pos := pj) hN2 hv2 hd2 hcd2) pa_nil hstar) (by decide) (by decide) hstar hplain) (pe_int (X := X) (i := 0) (j := j3) (pos := q6)) (hn2 q6)))
  have bod := pss_one (ps_dput (pos := pg) (pos' := pf) hu (pe_var (pos := pl) hN hv hd hcd) (pe_str (X := X) (j := j4) (pos := pp) (x := "left")) (pe_bm0 (cpos := po) PySem.F.plainAttrs_list PySem.F.slot_list_pop PySem.F.type_list_pop mt_pop (pe_var (pos := pm) hN2 hv2 hd2 hcd2) hbase hline) hs3)
  refine PSs.mono (pss_cons w1 (pss_cons (ps_while (pos := pi) hp tst.pt bod) hr)) fun D σ H h => ?_
  obtain ⟨c, T, fp, ρ, S, o, S', ok, hf, q⟩ := h
  obtain ⟨o1, S1, f1, hf⟩ := M.bind_some hf
  unfold sDrain at f1
  by_cases hi : i2 < ρ.length
  case neg => rw [if_neg hi] at f1; cases f1
  rw [if_pos hi] at f1
  cases f1
  rw [ok.len] at hi
  obtain ⟨p0, q0, e0, e1, sa, eR⟩ := src_at ok.src hsc
  have ok2 : StOk X.K G c T fp (ρ.set i2 none) S (σ.set i2 (some (.ref q0))) H := ok.hide (by rw [hsc]; exact fun z => h12 (Option.some.inj z))
  refine ⟨.ref p0, e1, p0, .ref q0, rfl, .inl ⟨_, .inr "cells", .inl sa.1, rfl, (src_cells q0 S).symm⟩, ?_⟩
  have s2 : (σ.set i2 (some (V.ref q0)))[i2]? = some (some (.ref q0)) := List.getElem?_set_self hi
  show tWhile _ _ _ (σ.set i2 (some (.ref q0))) H
  refine ⟨fun m σ' H' => σ' = σ.set i2 (some (.ref q0)) ∧ ∃ S2, StOk X.K G c T fp (ρ.set i2 none) S2 σ' H' ∧ S2.drained = S.drained ∧ m = S2.cells.length, ⟨_, rfl, S, ok2, rfl, rfl⟩, ?_⟩
  rintro m σ' H' ⟨rfl, S2, ok3, hS, rfl⟩
  obtain ⟨p1, q1', e0', e1', sa', eR'⟩ := src_at ok3.src hsc
  rw [e0] at e0'
  cases e0'
  have fin : S2.drained = S2 → tDS X.K ow G Gn Gb f D (σ.set i2 (some (.ref q0))) H' := fun z => by
    rw [hS] at z
    refine ⟨c, T, fp, _, S2, o, S', ok3, ?_, q⟩
    rw [← z]
    exact hf
  refine ⟨.ref p0, e1', p0, _, rfl, .inl ⟨_, .inr "left", .inl sa'.1, rfl, (src_get q0 S2 .left).symm⟩, S2.left, 2, rfl, rfl, _, rfl, ?_⟩
  by_cases hl : S2.left < 2
  · rw [decide_eq_true hl]
    refine iteT ⟨.ref q0, s2, q0, _, rfl, .inl (.inl (.inl sa'.2)), _, 0, rfl, rfl, _, rfl, ?_⟩
    cases ec : S2.cells with
    | nil =>
      refine iteF (fin ?_)
      unfold Src.drained
      rw [ec]
      cases S2
      cases ec
      rfl
    | cons c1 cs =>
      have hq : H' q0 = some (.lst (cs.reverse.map V.int ++ [.int c1])) := by
        rw [sa'.2, ec]
        simp
      have hpos : decide ((0 : Int) < (((c1 :: cs).reverse.map V.int).length : Nat)) = true := decide_eq_true (by simp)
      rw [hpos]
      refine iteT ⟨fun σ' H' => σ' = σ.set i2 (some (.ref q0)) ∧ ∃ S2, StOk X.K G c T fp (ρ.set i2 none) S2 σ' H' ∧ S2.drained = S.drained ∧ cs.length = S2.cells.length, fun σ' H' z => ⟨cs.length, by simp, z⟩, ?_⟩
      have npq := srcAt_ne sa'
      have h4 : (4 : Nat) < sizeLine := by show 4 < sizeLine; decide
      have ntq : ∀ y u, H' q0 ≠ some (.frz y u) := fun y u z => by rw [hq] at z; cases z
      have ex1 : Ext c.R H' (upd H' q0 (.lst (cs.reverse.map V.int))) := Ext.poke (by rw [eR]; simp) ntq
      have hp2 : (upd H' q0 (.lst (cs.reverse.map V.int))) p0 = some (.dK (srcL q0 S2)) := by
        rw [upd_ne (Ne.symm npq)]
        exact sa'.1
      refine ⟨.ref q0, s2, .inl ⟨rfl, _, .inl (.inl hq)⟩, q0, _, .int c1, rfl, rfl, hq, by simp, ?_⟩
      rw [List.dropLast_concat]
      refine ⟨.ref p0, e1', p0, _, rfl, .inl ⟨_, .inr "left", hp2, rfl, h4, rfl⟩, rfl, ({ S2 with left := c1, cells := cs } : Src), ok3.step (ex1.trans (Ext.poke (by rw [eR]; simp) fun y u z => by rw [hp2] at z; cases z)) (src_mk ok3.src e0 ⟨?_, ?_⟩), ?_, rfl⟩
      · rw [upd_same]
        rfl
      · rw [upd_ne npq, upd_same, List.map_reverse]
      · rw [← hS]
        unfold Src.drained
        rw [ec]
        simp only [drain_step hl]
  · rw [decide_eq_false hl]
    refine iteF (iteF (fin ?_))
    unfold Src.drained
    rw [drain_lt hl]
end
end DL

/-! DS15: turned slices, ranges made lists, calls in short. -/
namespace DL
open PySem PySem.Spec PyProof.Rows L2

/-! ### x[::-1] -/
theorem places_rev (n : Nat) : Builtin.Slice.slicePlaces ((n : Int) - 1) (-1) (-1) = n := by
  unfold Builtin.Slice.slicePlaces
  rw [if_neg (by decide)]
  by_cases h : (n : Int) - 1 > -1
  · rw [if_pos h]
    have e : ((n : Int) - 1 - -1 - 1) / -(-1) + 1 = n := by
      rw [Int.neg_neg, Int.ediv_one]
      omega
    rw [e]
    rfl
  · rw [if_neg h]
    omega
theorem pick_rev (xs : Array Value) : ((List.range xs.size).filterMap fun (k : Nat) => xs[(((xs.size : Nat) : Int) - 1 + (k : Int) * -1).toNat]?).toArray = xs.toList.reverse.toArray := by
  congr 1
  have e : (fun (k : Nat) => xs[(((xs.size : Nat) : Int) - 1 + (k : Int) * -1).toNat]?) = fun k => xs[xs.size - 1 - k]? := by
    funext k
    congr 1
    omega
  rw [e]
  apply List.ext_getElem?
  intro i
  have key : ∀ n, n ≤ xs.size → ((List.range n).filterMap fun k => xs[xs.size - 1 - k]?) = (xs.toList.reverse).take n := by
    intro n
    induction n with
    | zero => intro _; simp
    | succ n ih =>
      intro hn
      rw [List.range_succ, List.filterMap_append, ih (by omega)]
      have hlt : xs.size - 1 - n < xs.size := by omega
      have hr : xs.toList.reverse[n]? = some xs[xs.size - 1 - n] := by
        rw [List.getElem?_reverse (by rw [Array.length_toList]; omega)]
        simp
      rw [List.take_add_one, hr]
      simp [hlt]
  rw [key xs.size (Nat.le_refl _), List.take_of_length_le (by simp)]
section
variable {prog : Program} {w : World} {A : Around} {E : Value → Shared → Prop} {s : Shared}
theorem applied_rev {sl : Addr} {vs : Value} {n : Nat} {Q : Int × Int × Nat → Shared → Prop} (hs : s.heap.IsSliceOf sl .none .none vs) (ps : IsPart vs (some (-1)))
    (h : Q ((n : Int) - 1, -1, n) s) : wpAny (model prog w) A (Builtin.Slice.sliceApplied (.ref sl) (pure (n : Int))) Q E s := by
  obtain ⟨os, hos, hcs, hds⟩ := id hs
  unfold Builtin.Slice.sliceApplied Builtin.Slice.sliceFields
  refine wpAny_bind (wpAny_bind (wpAny_field hos hds (x := .none) rfl (wpAny_bind (wpAny_field hos hds (x := .none) rfl (wpAny_bind (wpAny_field hos hds (x := vs) rfl (wpAny_pure ?_)))))))
  refine wpAny_bind (HT.slicePart_ ps ?_)
  show wpAny _ _ (if ((-1 : Int) == 0) = true then _ else _) _ _ s
  rw [if_neg (by decide)]
  refine wpAny_bind (HT.slicePart_ .none (wpAny_bind (HT.slicePart_ .none (wpAny_bind (wpAny_pure ?_)))))
  show wpAny _ _ (pure ((n : Int) - 1, (-1 : Int), Builtin.Slice.slicePlaces ((n : Int) - 1) (-1) (-1))) _ _ s
  rw [places_rev]
  exact wpAny_pure h
theorem getItem_tuple_rev {t sl : Addr} {items : Array Value} {vs : Value} {Q : Value → Shared → Prop} (ht : IsTup s.heap t items) (hs : s.heap.IsSliceOf sl .none .none vs) (ps : IsPart vs (some (-1)))
    (h : Q (.ref s.heap.objs.size) { s with heap := s.heap.push { cls := .type "tuple", data := .seq items.toList.reverse.toArray } })
    (hsz : items.size ≤ sizeLine) : wpAny (model prog w) A (getItem (.ref t) (.ref sl)) Q E s := by
  have hz : sizeOk (.seq items.toList.reverse.toArray) := by
    show items.toList.reverse.toArray.size ≤ sizeLine
    simpa using hsz
  obtain ⟨os, hos, hcs, hds⟩ := id hs
  have hTs : s.TypeIs (.ref sl) "slice" := ⟨os, hos, hcs⟩
  unfold getItem
  try with_reducible refine wpAny_holding ?_
  first | refine wpAny_bind (wpAny_pure ?_) | skip
  refine wpAny_bind (wpAny_sequenceKey ht.typeIs (by decide) ?_)
  refine wpAny_bind (wpAny_callSpecial?_slot (name := Str.ofString "__getitem__") ht.typeIs PyProof.Rows.slot_tuple_getitem
    (wpAny_call_entry PyProof.Rows.slot_tuple_getitem ht.typeIs entry_tuple_getitem ?_ (args_tuple_getitem _ _)))
  show wpAny _ _ (Builtin.Tuple.tupleItemsOf (.ref t) >>= _) _ _ s
  refine wpAny_bind (tupleItemsOf_ ht ?_)
  refine wpAny_bind (wpAny_typeOf hTs ?_)
  rw [if_pos (by decide)]
  refine wpAny_bind (applied_rev hs ps ?_)
  have hno : ¬ ((((items.size : Nat) : Int) - 1 == 0 && (-1 : Int) == 1 && items.size == items.size) = true) := by
    intro q
    rw [Bool.and_eq_true, Bool.and_eq_true] at q
    exact absurd q.1.2 (by decide)
  show wpAny _ _ (if (((items.size : Nat) : Int) - 1 == 0 && (-1 : Int) == 1 && items.size == items.size) = true then _ else _) _ _ s
  rw [if_neg hno, pick_rev]
  first
    | exact wpAny_bind (m := Builtin.Tuple.tupleExact _) (wpAny_newObj_type (wpAny_pure ⟨_, rfl, wpAny_pure h⟩) hz)
    | exact wpAny_bind (m := Builtin.Tuple.tupleExact _) (wpAny_newObj_type (wpAny_bind (wpAny_pure (wpAny_pure ⟨_, rfl, wpAny_pure h⟩))) hz)
    | exact wpAny_bind (wpAny_bind (m := Builtin.Tuple.tupleExact _) (wpAny_newObj_type (wpAny_pure (wpAny_pure ⟨_, rfl, wpAny_pure h⟩)) hz))
    | exact wpAny_bind (wpAny_bind (m := Builtin.Tuple.tupleExact _) (wpAny_newObj_type (wpAny_pure ⟨_, rfl, wpAny_pure h⟩) hz))
end
def tRevA (K : PySem.W.Frag) (te : TE) : TE := fun σ H Q => te σ H fun x H1 => ∃ a xs, x = .ref a ∧ (SqL K H1 a xs ∧ (∀ p, H1 p = none → Q (.ref p) (upd H1 p (.lst xs.reverse))) ∨ SqT K H1 a xs ∧ NewT H1 xs.reverse Q)
theorem pe_revA {X : Cx} {e : Expr} {te : TE} {k : Nat} {p1 p2 p3 pos : Pos} (he : PE X e te) : PE X (.Subscript e (.Slice none none (some (.UnaryOp .USub (.Constant (.int 1) k p1) p2)) p3) pos) (tRevA X.K te) := by
  refine ⟨fun pins s σ H Q I h => ?_⟩
  refine Subscript_ (thn (he.run pins s σ H _ I h) fun v s1 ⟨x, H1, I1, r1, q1⟩ => ?_)
  obtain ⟨a, xs, ex, q⟩ := q1
  subst ex
  cases r1
  have stp : PO X (some (.UnaryOp .USub (.Constant (.int 1) k p1) p2)) (tPart (tUn (rU fun i => .int (-i)) (tC (.int 1)))) := po_some (pe_un un_neg pe_int)
  refine wpAny_Slice (thn (po_none.run pins s1 σ H1 (fun o H2 => o = none ∧ H2 = H1) I1 ⟨rfl, rfl⟩) fun vl s2 ⟨l, H2, I2, pl, el, e2⟩ => ?_)
  subst el e2
  refine thn (po_none.run pins s2 σ H2 (fun o H3 => o = none ∧ H3 = H2) I2 ⟨rfl, rfl⟩) fun vu s3 ⟨u, H3, I3, pu, eu, e3⟩ => ?_
  subst eu e3
  refine thn (stp.run pins s3 σ H3 (fun o H4 => o = some (-1) ∧ H4 = H3) I3 ⟨1, rfl, -1, rfl, rfl, rfl⟩) fun vs s4 ⟨o, H4, I4, ps, eo, e4⟩ => ?_
  subst eo e4
  cases pl
  cases pu
  have I5 : Inv X pins σ H4 { s4 with heap := s4.heap.push { cls := .type "slice", data := .fields #[.none, .none, vs] } } := I4.kept (t' := s4.toks) fun b ob q => Heap.get?_push_of_some _ q
  show wpAny (model X.prog X.w) X.A (subscriptTail e (.Slice none none (some (.UnaryOp .USub (.Constant (.int 1) k p1) p2)) p3) (.ref a) (.ref s4.heap.objs.size)) (EP X pins σ Q) X.xe { s4 with heap := s4.heap.push { cls := .type "slice", data := .fields #[.none, .none, vs] } }
  rcases q with ⟨hx, q⟩ | ⟨hx, q⟩
  · obtain ⟨its, r, ht, hz⟩ := I5.list hx
    have hlen := r.length
    refine tail_any (ops := [.ref a, .ref s4.heap.objs.size]) ht.isList.typeIs (PySem.slot_list_getitem.lookup) ?_ (by with_unfolding_all rfl)
    refine wpAny_getItem_list_slice ht.isList (Heap.IsSliceOf.new _ .none .none vs) .none .none ps (by decide) ?_ (by rw [List.size_toArray]; omega)
    rw [PySem.W.krv_pick]
    refine ⟨.ref _, _, I5.laid (t' := s4.toks) (o := .lst xs.reverse) (fun b ob q => Heap.get?_push_of_some _ q) (Nat.le_refl _) ?_, rfl, q _ (I5.hok.fresh (Nat.le_refl _))⟩
    exact ⟨by rw [List.length_reverse]; exact hz, _, 0, r.reverse, Heap.get?_push_size _ rfl⟩
  · obtain ⟨its, r, ht, hz⟩ := I5.tuple hx
    have hlen := r.length
    refine tail_any (ops := [.ref a, .ref s4.heap.objs.size]) ht.typeIs (PyProof.Rows.slot_tuple_getitem.lookup) ?_ (by with_unfolding_all rfl)
    refine getItem_tuple_rev ht (Heap.IsSliceOf.new _ .none .none vs) ps ?_ (by rw [List.size_toArray]; omega)
    exact laidT I5 (by rw [List.length_reverse]; exact hz) r.reverse q
section
variable {X : Cx} {G : Sg} {m ma : Md} {a b : Expr} {fa fb : EF} {pos p pos2 : Pos}
theorem DenL.rev {K : PySem.W.Frag} {H : Hp} : ∀ {vs : List V} {ds : List D} {F : List Addr}, DenL K H vs ds F → ∃ F', DenL K H vs.reverse ds.reverse F' ∧ ∀ z ∈ F', z ∈ F
  | _, _, _, .nil => ⟨[], .nil, fun _ z => z⟩
  | _, _, _, .cons (F := F) h l => by
    obtain ⟨F', l', hF⟩ := DenL.rev l
    rw [List.reverse_cons, List.reverse_cons]
    exact ⟨F' ++ F, l'.append (DenL.one h), fun z hz => (List.mem_append.mp hz).elim (fun q => List.mem_append_right _ (hF z q)) (List.mem_append_left _)⟩
theorem ev_revG {own : Bool} {k : Nat} {p1 p2 p3 : Pos} (hm : if own = true then m = .own else ma = .val ∧ m = .val) (ha : EV X G ma a fa) : EV X G m (.Subscript a (.Slice none none (some (.UnaryOp .USub (.Constant (.int 1) k p1) p2)) p3) pos) (DL.e1 (revD own) fa) := by
  refine PE.mono (pe_revA ha) fun σ H Q h => ?_
  obtain ⟨c, T, fp, ρ, S, d, S', ok, hf, q⟩ := h
  obtain ⟨x, S1, h1, hf⟩ := M.bind_some hf
  refine ⟨c, T, fp, ρ, S, x, S1, ok, h1, fun v H1 Fx ok1 e dx ax rx => ?_⟩
  have fin : ∀ {F' : List Addr}, (∀ z ∈ F', z ∈ Fx) → (own = true → F' = []) → ResOk G fp ρ H m F' := by
    intro F' h1 h2
    cases own with
    | true => exact ResOk.imm (h2 rfl)
    | false =>
      obtain ⟨rfl, rfl⟩ := hm
      exact fun i d hi hd z hz => rx i d hi hd z (h1 z hz)
  have nil : ∀ {F F' : List Addr} {vs : List V} {xs : List D}, (!own || immAll xs) = true → DenL X.K H1 vs xs F → (∀ z ∈ F', z ∈ F) → own = true → F' = [] := by
    intro F F' vs xs h1 l hF ho
    subst ho
    obtain rfl := l.imm (by simpa using h1)
    exact List.eq_nil_iff_forall_not_mem.mpr fun z hz => nomatch hF z hz
  unfold revD at hf
  split at hf
  · obtain ⟨hc, hf⟩ := M.chk_bind hf
    obtain ⟨rfl, rfl⟩ := M.pure_some hf
    cases dx with
    | tup e1 l =>
      obtain ⟨F', l', hF⟩ := l.rev
      refine ⟨_, _, rfl, .inr ⟨e1.sq, fun p o n ho => ?_⟩⟩
      exact q _ _ F' (ok1.grow (Ext.new n)) (e.trans (Ext.new n)) (Den.newT n ho l') (fun z hz => ax z (hF z hz)) (fin hF (nil hc l hF))
  · obtain ⟨hc, hf⟩ := M.chk_bind hf
    obtain ⟨rfl, rfl⟩ := M.pure_some hf
    cases dx with
    | lst e1 l =>
      obtain ⟨F', l', hF⟩ := l.rev
      refine ⟨_, _, rfl, .inl ⟨.inl (.inl e1), fun p n => ?_⟩⟩
      refine q _ _ (p :: F') (ok1.grow (Ext.new n)) (e.trans (Ext.new n)) (Den.newL n l') (ok1.avc n fun z hz => ax z (List.mem_cons_of_mem _ (hF z hz))) ?_
      exact (fin (fun z hz => List.mem_cons_of_mem _ (hF z hz)) (nil hc l hF)).cons ok1 e l' n
  · exact (M.fail_some hf).elim
theorem ev_rev {k : Nat} {p1 p2 p3 : Pos} (ha : EV X G ma a fa) : EV X G .own (.Subscript a (.Slice none none (some (.UnaryOp .USub (.Constant (.int 1) k p1) p2)) p3) pos) (DL.e1 (revD true) fa) := ev_revG (own := true) rfl ha
theorem ev_revV {k : Nat} {p1 p2 p3 : Pos} (ha : EV X G .val a fa) : EV X G .val (.Subscript a (.Slice none none (some (.UnaryOp .USub (.Constant (.int 1) k p1) p2)) p3) pos) (DL.e1 (revD false) fa) := ev_revG (own := false) ⟨rfl, rfl⟩ ha

/-! ### list(range(..)), tuple(range(..)) -/
theorem rg_den {K : PySem.W.Frag} {H : Hp} (lo hi : Int) : DenL K H (rgV lo hi) (rngD lo hi) [] := by
  unfold rgV rngD
  generalize (List.range (hi - lo).toNat) = l
  induction l with
  | nil => exact .nil
  | cons x r ih => exact .cons (.int _) ih
theorem rg_ok {lo hi : Int} (h1 : rng62 lo = true) (h2 : rng62 hi = true) (h3 : fit (rngD lo hi).length = true) : RgOk lo hi := by
  have z := fit_le h3
  rw [rngD_len, sizeLine_eq] at z
  exact ⟨(rng62_of h1).1, (rng62_of h1).2, (rng62_of h2).1, (rng62_of h2).2, by omega⟩
theorem rg1_some {ρ : Env} {S S' : Src} {xs : List D} (h : wRange1 fa ρ S = some (xs, S')) : ∃ n, fa ρ S = some (.int n, S') ∧ rng62 n = true ∧ xs = rngD 0 n := by
  obtain ⟨x, S1, h1, hf⟩ := M.bind_some h
  cases x with
  | int n =>
    obtain ⟨h2, hf⟩ := M.chk_bind hf
    obtain ⟨rfl, rfl⟩ := M.pure_some hf
    exact ⟨n, h1, h2, rfl⟩
  | _ => exact (M.fail_some hf).elim
theorem rg2_some {ρ : Env} {S S' : Src} {xs : List D} (h : wRange2 fa fb ρ S = some (xs, S')) : ∃ n k S1, fa ρ S = some (.int n, S1) ∧ fb ρ S1 = some (.int k, S') ∧ rng62 n = true ∧ rng62 k = true ∧ xs = rngD n k := by
  obtain ⟨x, S1, h1, hf⟩ := M.bind_some h
  obtain ⟨y, S2, h2, hf⟩ := M.bind_some hf
  clear h
  cases x with
  | int n =>
    cases y with
    | int k =>
      obtain ⟨h3, hf⟩ := M.chk_bind hf
      obtain ⟨rfl, rfl⟩ := M.pure_some hf
      obtain ⟨h3, h4⟩ := and_true h3
      exact ⟨n, k, S1, h1, h2, h3, h4, rfl⟩
    | _ => exact (M.fail_some hf).elim
  | _ => exact (M.fail_some hf).elim
theorem ev_listRg1 (hc : X.calm = true) (hmL : X.mg "list" = none) (hmR : X.mg "range" = none) (ha : EV X G ma a fa) (hgL : Gl X "list" := by rfl) (hgR : Gl X "range" := by rfl) (na : starEach [a] X.env = (false, eval a X.env) :: starEach [] X.env := by rfl)
    (nb : starEach [.Call (.Name "range" p) [a] [] pos2] X.env = (false, eval (.Call (.Name "range" p) [a] [] pos2) X.env) :: starEach [] X.env := by rfl) {p3 : Pos} : EV X G .own (.Call (.Name "list" p3) [.Call (.Name "range" p) [a] [] pos2] [] pos) (eListOf (wRange1 fa)) := by
  refine PE.mono (pe_listRg hc hgL hmL (prg_1 hgR hmR ha na) nb) fun σ H Q h => ?_
  obtain ⟨c, T, fp, ρ, S, d, S', ok, hf, q⟩ := h
  obtain ⟨xs, S1, h1, hf⟩ := M.bind_some hf
  obtain ⟨hz, hf⟩ := M.chk_bind hf
  obtain ⟨rfl, rfl⟩ := M.pure_some hf
  obtain ⟨n, h2, h3, rfl⟩ := rg1_some h1
  refine ⟨c, T, fp, ρ, S, _, _, ok, h2, fun v H1 F ok1 e dn av r => ?_⟩
  cases dn
  refine ⟨n, rfl, rg_ok (by decide) h3 hz, fun p0 np => ?_⟩
  exact q _ _ [p0] (ok1.grow (Ext.new np)) (e.trans (Ext.new np)) (Den.newL np (rg_den _ _)) (ok1.av1 np) (ResOk.one (e.back0 ok1 np))
theorem ev_listRg2 {mb : Md} (hc : X.calm = true) (hmL : X.mg "list" = none) (hmR : X.mg "range" = none) (ha : EV X G ma a fa) (hb : EV X G mb b fb) (hgL : Gl X "list" := by rfl) (hgR : Gl X "range" := by rfl) (na : starEach [a, b] X.env = (false, eval a X.env) :: starEach [b] X.env := by rfl) (nb0 : starEach [b] X.env = (false, eval b X.env) :: starEach [] X.env := by rfl) (hp : (backTo pos2 (starEach [b] X.env)).any (·.1) = false := by rfl)
    (nb : starEach [.Call (.Name "range" p) [a, b] [] pos2] X.env = (false, eval (.Call (.Name "range" p) [a, b] [] pos2) X.env) :: starEach [] X.env := by rfl) {p3 : Pos} : EV X G .own (.Call (.Name "list" p3) [.Call (.Name "range" p) [a, b] [] pos2] [] pos) (eListOf (wRange2 fa fb)) := by
  refine PE.mono (pe_listRg hc hgL hmL (prg_2 hgR hmR ha hb na nb0 hp) nb) fun σ H Q h => ?_
  obtain ⟨c, T, fp, ρ, S, d, S', ok, hf, q⟩ := h
  obtain ⟨xs, S1, h1, hf⟩ := M.bind_some hf
  obtain ⟨hz, hf⟩ := M.chk_bind hf
  obtain ⟨rfl, rfl⟩ := M.pure_some hf
  obtain ⟨n, k, S2, h2, h3, h4, h5, rfl⟩ := rg2_some h1
  refine ⟨c, T, fp, ρ, S, _, _, ok, h2, fun v H1 F ok1 e dn av r => ?_⟩
  refine ⟨c, T, fp, ρ, S2, _, _, ok1, h3, fun v2 H2 F2 ok2 e2 dn2 av2 r2 => ?_⟩
  cases dn
  cases dn2
  refine ⟨n, k, rfl, rfl, rg_ok h4 h5 hz, fun p0 np => ?_⟩
  exact q _ _ [p0] (ok2.grow (Ext.new np)) ((e.trans e2).trans (Ext.new np)) (Den.newL np (rg_den _ _)) (ok2.av1 np) (ResOk.one ((e.trans e2).back0 ok2 np))
theorem ev_tupRg1 (hc : X.calm = true) (hmL : X.mg "tuple" = none) (hmR : X.mg "range" = none) (ha : EV X G ma a fa) (hgL : Gl X "tuple" := by rfl) (hgR : Gl X "range" := by rfl) (na : starEach [a] X.env = (false, eval a X.env) :: starEach [] X.env := by rfl)
    (nb : starEach [.Call (.Name "range" p) [a] [] pos2] X.env = (false, eval (.Call (.Name "range" p) [a] [] pos2) X.env) :: starEach [] X.env := by rfl) {p3 : Pos} : EV X G .own (.Call (.Name "tuple" p3) [.Call (.Name "range" p) [a] [] pos2] [] pos) (eTupOf (wRange1 fa)) := by
  refine PE.mono (pe_tupRgF hc hgL hmL (prg_1 hgR hmR ha na) nb) fun σ H Q h => ?_
  obtain ⟨c, T, fp, ρ, S, d, S', ok, hf, q⟩ := h
  obtain ⟨xs, S1, h1, hf⟩ := M.bind_some hf
  obtain ⟨hz, hf⟩ := M.chk_bind hf
  obtain ⟨rfl, rfl⟩ := M.pure_some hf
  obtain ⟨n, h2, h3, rfl⟩ := rg1_some h1
  refine ⟨c, T, fp, ρ, S, _, _, ok, h2, fun v H1 F ok1 e dn av r => ?_⟩
  cases dn
  refine ⟨n, rfl, rg_ok (by decide) h3 hz, fun p0 o np ho => ?_⟩
  exact q _ _ [] (ok1.grow (Ext.new np)) (e.trans (Ext.new np)) (Den.newT np ho (rg_den _ _)) av0 (ResOk.imm rfl)
end

/-! ### a def as it is called -/
structure Cal (P : Program) (w : World) (K : PySem.W.Frag) (mg : Str → Option Value) (base : Heap) (k : Nat) (x : Str) (sp : Sp) : Prop where
  ex : ∃ (f : Addr) (fd : FuncData) (ps : List Str), FnOk P w K mg base CX0 k f fd ps sp ∧ mg x = some (.ref f) ∧ PySem.W.keepIn K (.ref f) = true ∧ Binds K fd ps []
theorem Cal.mk' {P : Program} {w : World} {K : PySem.W.Frag} {mg : Str → Option Value} {base : Heap} {k : Nat} {x qual : Str} {st : Stmt} {sp : Sp} {f : Addr} {fd : FuncData} {ps : List Str} (F : Fun K x qual st f fd) (B : Binds K fd ps []) (m : mg x = some (.ref f)) (h : FnOk P w K mg base CX0 k f fd ps sp) : Cal P w K mg base k x sp := ⟨f, fd, ps, h, m, F.kp, B⟩
theorem Cal.up {P : Program} {w : World} {K : PySem.W.Frag} {mg : Str → Option Value} {base : Heap} {j k : Nat} {x : Str} {sp : Sp} (C : Cal P w K mg base j x sp) (h : j ≤ k) : Cal P w K mg base k x sp := by
  obtain ⟨f, fd, ps, F, r⟩ := C.ex
  exact ⟨f, fd, ps, F.mono h, r⟩
section
variable {X : Cx} {G : Sg} {m : Md} {a : Expr} {es : List Expr} {fs : LF} {pos p : Pos} {x : Str} {k n : Nat} {mf : List D → M D}
theorem runDef_len {q : Nat} {b : SF} {ds : List D} {S : Src} {r : D × Src} (h : runDef n q b ds S = some r) : ds.length = n := by
  obtain ⟨r1, r2⟩ := r
  obtain ⟨h1, _⟩ := M.chk_bind h
  simpa using h1
theorem runDefS_len {q : Nat} {b : SF} {ds : List D} {S : Src} {r : D × Src} (h : runDefS n q b ds S = some r) : ds.length = n := by
  obtain ⟨r1, r2⟩ := r
  obtain ⟨h1, _⟩ := M.chk_bind h
  simpa using h1
theorem ev_cal (C : Cal X.prog X.w X.K X.mg X.base k x (spD X.K n true mf)) (hr : Room k X.A) (hn : ∀ ds S r, mf ds S = some r → ds.length = n) (ha : AV X G .bor (a :: es) fs) (hg : Gl X x := by rfl) (hdb : (x == ("__debug__" : Str)) = false := by decide) (he : starEach (a :: es) X.env = (false, eval a X.env) :: starEach es X.env := by rfl) (hpl : (backTo pos (starEach es X.env)).any (·.1) = false := by rfl) : EV X G .own (.Call (.Name x p) (a :: es) [] pos) (eCall mf fs) := by
  obtain ⟨f, fd, ps, F, hm, hk, hb⟩ := C.ex
  exact ev_call F hr hg hm hk hb ha hn hdb he hpl
theorem ev_calB (C : Cal X.prog X.w X.K X.mg X.base k x (spD X.K n false mf)) (hr : Room k X.A) (hn : ∀ ds S r, mf ds S = some r → ds.length = n) (ha : AV X G .bor (a :: es) fs) (hg : Gl X x := by rfl) (hdb : (x == ("__debug__" : Str)) = false := by decide) (he : starEach (a :: es) X.env = (false, eval a X.env) :: starEach es X.env := by rfl) (hpl : (backTo pos (starEach es X.env)).any (·.1) = false := by rfl) : EV X G .bor (.Call (.Name x p) (a :: es) [] pos) (eCall mf fs) := by
  obtain ⟨f, fd, ps, F, hm, hk, hb⟩ := C.ex
  exact ev_callB F hr hg hm hk hb ha hn hdb he hpl
theorem ev_calM {i : Nat} {sx : Str} {ps1 : Pos} (C : Cal X.prog X.w X.K X.mg X.base k x (spM X.K n true mf)) (hr : Room k X.A) (hn : ∀ ds S r, mf ds S = some r → ds.length = n) (hsc : G.sc = some i) (hN : X.N[i]? = some sx) (hv : Vis X.env.scope sx) (ha : AV X G .bor es fs) (hg : Gl X x := by rfl) (hdb : (x == ("__debug__" : Str)) = false := by decide) (he : starEach (.Name sx ps1 :: es) X.env = (false, eval (.Name sx ps1) X.env) :: starEach es X.env := by rfl) (hpl : (backTo pos (starEach es X.env)).any (·.1) = false := by rfl)
    (hdb2 : (sx == ("__debug__" : Str)) = false := by decide) (hcd : (sx == ("__classdict__" : Str)) = false := by decide) : EV X G .own (.Call (.Name x p) (.Name sx ps1 :: es) [] pos) (eCallM mf fs) := by
  obtain ⟨f, fd, ps, F, hm, hk, hb⟩ := C.ex
  exact ev_callMG (own := true) rfl hsc hN hv F hr hg hm hk hb ha hn hdb he hpl hdb2 hcd
theorem ev_calMB {i : Nat} {sx : Str} {ps1 : Pos} (C : Cal X.prog X.w X.K X.mg X.base k x (spM X.K n false mf)) (hr : Room k X.A) (hn : ∀ ds S r, mf ds S = some r → ds.length = n) (hsc : G.sc = some i) (hN : X.N[i]? = some sx) (hv : Vis X.env.scope sx) (ha : AV X G .bor es fs) (hg : Gl X x := by rfl) (hdb : (x == ("__debug__" : Str)) = false := by decide) (he : starEach (.Name sx ps1 :: es) X.env = (false, eval (.Name sx ps1) X.env) :: starEach es X.env := by rfl) (hpl : (backTo pos (starEach es X.env)).any (·.1) = false := by rfl)
    (hdb2 : (sx == ("__debug__" : Str)) = false := by decide) (hcd : (sx == ("__classdict__" : Str)) = false := by decide) : EV X G .bor (.Call (.Name x p) (.Name sx ps1 :: es) [] pos) (eCallM mf fs) := by
  obtain ⟨f, fd, ps, F, hm, hk, hb⟩ := C.ex
  exact ev_callMG (own := false) rfl hsc hN hv F hr hg hm hk hb ha hn hdb he hpl hdb2 hcd
end
theorem hu1 {A : Around} {k : Nat} (hr : Room k A) : A.units + 1 < cLine := by have := hr.un; omega
theorem hu64 {A : Around} {k : Nat} (hr : Room k A) : A.units + 64 < cLine := by have := hr.un; omega
theorem hu128 {A : Around} {k : Nat} (hr : Room k A) : A.units + 128 < cLine := by have := hr.un; omega
end DL

/-! DS16: things taken out one by one, at random. -/
namespace DL
open PySem PySem.Spec PyProof.Rows L2

theorem eMix_some {i : Nat} {pick : List D → M D} {ρ : Env} {S S' : Src} {d : D} (h : eMix i pick ρ S = some (d, S')) : ∃ xs ys, ρ[i]? = some (some (.list xs)) ∧ immAll xs = true ∧ xs.length ≤ 16777216 ∧ mixD pick xs.length xs S = some (ys, S') ∧ d = .list ys := by
  unfold eMix at h
  rcases slot_cases (ρ := ρ) (i := i) with ⟨e, he⟩ | he | he
  · simp only [he] at h
    cases e with
    | list xs =>
      obtain ⟨h1, h⟩ := M.chk_bind h
      obtain ⟨h1, h2⟩ := and_true h1
      obtain ⟨ys, S1, h3, h⟩ := M.bind_some h
      obtain ⟨rfl, rfl⟩ := M.pure_some h
      exact ⟨xs, ys, he, h1, of_decide_eq_true h2, h3, rfl⟩
    | _ => exact (M.fail_some h).elim
  · simp only [he] at h
    exact (M.fail_some h).elim
  · simp only [he] at h
    exact (M.fail_some h).elim
theorem mixD_some {pick : List D → M D} {n : Nat} {xs ys : List D} {S S' : Src} (h : mixD pick (n + 1) xs S = some (ys, S')) : ∃ j p S1 zs, pick [.int xs.length] S = some (.int j, S1) ∧ ixD xs.length j = some p ∧ mixD pick n (xs.eraseIdx p) S1 = some (zs, S') ∧ ys = xs.getD p .none :: zs := by
  obtain ⟨x, S1, h1, hf⟩ := M.bind_some h
  cases x with
  | int j =>
    cases e : ixD xs.length j with
    | none => simp only [e] at hf; exact (M.fail_some hf).elim
    | some p =>
      simp only [e] at hf
      obtain ⟨zs, S2, h2, hf⟩ := M.bind_some hf
      obtain ⟨rfl, rfl⟩ := M.pure_some hf
      exact ⟨j, p, S1, zs, h1, e, h2, rfl⟩
  | _ => exact (M.fail_some hf).elim
theorem mixD_len {pick : List D → M D} : ∀ {n : Nat} {xs ys : List D} {S S' : Src}, mixD pick n xs S = some (ys, S') → ys.length = n
  | 0, _, _, _, _, h => by
    obtain ⟨rfl, _⟩ := M.pure_some h
    rfl
  | n + 1, _, _, _, _, h => by
    obtain ⟨j, p, S1, zs, _, _, h3, rfl⟩ := mixD_some h
    simp [mixD_len h3]
theorem ixD_lt {n p : Nat} {j : Int} (h : ixD n j = some p) : p < n := by
  unfold ixD at h
  split at h
  · cases h; omega
  · split at h
    · cases h; omega
    · cases h
theorem DenL.erase {K : PySem.W.Frag} {H : Hp} {vs : List V} {ds : List D} (p : Nat) (h : DenL K H vs ds []) : DenL K H (vs.eraseIdx p) (ds.eraseIdx p) [] := by
  have key : ∀ (F : List Addr) (p : Nat) (vs : List V) (ds : List D), DenL K H vs ds F → F = [] → DenL K H (vs.eraseIdx p) (ds.eraseIdx p) [] := by
    intro F p
    induction p generalizing F with
    | zero =>
      intro vs ds h e
      cases h with
      | nil => exact .nil
      | cons a b =>
        obtain ⟨rfl, rfl⟩ := List.append_eq_nil_iff.mp e
        simpa using b
    | succ p ih =>
      intro vs ds h e
      cases h with
      | nil => exact .nil
      | cons a b =>
        obtain ⟨rfl, rfl⟩ := List.append_eq_nil_iff.mp e
        exact .cons a (ih [] _ _ b rfl)
  exact key [] p vs ds h rfl
theorem DenL.get0 {K : PySem.W.Frag} {H : Hp} {vs : List V} {ds : List D} {p : Nat} (h : DenL K H vs ds []) (hp : p < ds.length) : ∃ v, vs[p]? = some v ∧ Den K H v (ds.getD p .none) [] := by
  obtain ⟨y, G, e1, e2, e3⟩ := h.get (List.getElem?_eq_getElem hp)
  have : G = [] := List.eq_nil_iff_forall_not_mem.mpr fun z hz => nomatch e3 z hz
  subst this
  refine ⟨y, e1, ?_⟩
  rw [List.getD_eq_getElem?_getD, List.getElem?_eq_getElem hp]
  exact e2
theorem wipe_set1 {σ : St} {il : Nat} {y : V} : L2.wipe ((L2.wipe σ [il]).set il (some y)) [il] = L2.wipe σ [il] := by
  show ((((σ.set il none).set il (some y))).set il none) = σ.set il none
  rw [List.set_set, List.set_set]
section
variable {K : PySem.W.Frag} {ow : Bool} {G Gn Gb : Sg} {i i0 il : Nat} {mf : List D → M D} {rl : List V → Hp → VK → Prop}
theorem mix_sem (hrl : ∀ (l : Addr) (vs : List V) (H : Hp) (Q : VK), H l = some (.lst vs) → Q (.int vs.length) H → rl [.ref l] H Q) (hi : i ∈ G.mu) (hsc : G.sc = some i0) (hil : il ≠ i) (hil0 : il ≠ i0) {D : Ends} {σ : St} {H : Hp} (h : tDS K ow G Gn Gb (sRet (eMix i mf)) D σ H) :
    tRet (tLc (iRng1 (tCons (tCB rl (tCons (tVar i) tNil)) tNil)) (L2.gName il) L2.tYes (tBM K "list" rPopAt (tVar i) (tCons (tCall (spM K 1 true mf) [] E0 (tCons (tVar i0) (tCons (tCB rl (tCons (tVar i) tNil)) tNil))) tNil)) [il]) D σ H := by
  obtain ⟨c, T, fp, ρ, S, o, S', ok, hf, q⟩ := h
  obtain ⟨d, S1, f1, hf⟩ := M.bind_some hf
  obtain ⟨rfl, rfl⟩ := M.pure_some hf
  obtain ⟨xs, ys, hx, him, hz, f2, rfl⟩ := eMix_some f1
  obtain ⟨v, q1, q2⟩ := ok.den i _ hx
  obtain ⟨l, vs, E, rfl, hE, hl, dl⟩ := lst_inv q2
  obtain rfl := dl.imm him
  obtain ⟨p, q0, e0, e1, sa, eR⟩ := src_at ok.src hsc
  have hlP : ¬ c.P l := ok.av i _ hx l (by rw [hE]; exact List.mem_cons_self)
  have l0 : c.H0 l = none := ok.new i _ hi hx l (by rw [hE]; exact List.mem_cons_self)
  have hlen := dl.length
  have nlR : l ∉ c.R := ok.notR hlP
  have s62 : (16777216 : Int) < 2 ^ 62 := by decide
  refine ⟨.ref l, q1, hrl l vs H _ hl ⟨(vs.length : Nat), rfl, by omega, by omega, fun x hx0 => ?_⟩⟩
  have nlx : x ≠ l := fun z => by rw [z, hl] at hx0; cases hx0
  have nxR : x ∉ c.R := fun z => ok.pd x (ok.hP x z) hx0
  have x0 : c.H0 x = none := ok.ext.nn hx0 nxR
  have sw : ∀ j : Nat, j ≠ il → ((L2.wipe σ [il]).set il (some (V.int 0)))[j]? = σ[j]? := fun j hj => by
    show ((σ.set il none).set il _)[j]? = _
    rw [List.getElem?_set_ne (Ne.symm hj), List.getElem?_set_ne (Ne.symm hj)]
  have sw' : ∀ (j : Nat) (y : V), j ≠ il → ((L2.wipe σ [il]).set il (some y))[j]? = σ[j]? := fun j y hj => by
    show ((σ.set il none).set il _)[j]? = _
    rw [List.getElem?_set_ne (Ne.symm hj), List.getElem?_set_ne (Ne.symm hj)]
  refine ⟨fun n m H' => m = vs.length - n ∧ n ≤ vs.length ∧ ∃ S2 us zs acc da, SrcAt H' p q0 S2 ∧ H' l = some (.lst us) ∧ DenL K H' us zs [] ∧ zs.length = vs.length - n ∧ H' x = some (.lst acc) ∧ DenL K H' acc da [] ∧ da.length = n ∧ Ext c.R c.H0 H' ∧ (∀ a, c.P a → H' a ≠ none) ∧ ∃ ws, mixD mf (vs.length - n) zs S2 = some (ws, S1) ∧ da ++ ws = ys, ⟨_, rfl, Nat.zero_le _, S, vs, xs, [], [], ?_, ?_, ?_, ?_, upd_same, .nil, rfl, ok.ext.pokeN x0, fun a z => upd_dom (ok.pd a z), ys, ?_, rfl⟩, ?_⟩
  · exact sa.ext (R := []) (Ext.new hx0) (by simp) (by simp)
  · rw [upd_ne (Ne.symm nlx)]
    exact hl
  · exact dl.ext (R := []) (Ext.new hx0) (by simp)
  · rw [← hlen]; rfl
  · rw [Nat.sub_zero, hlen]
    exact f2
  · rintro n m H' ⟨rfl, hn, S2, us, zs, acc, da, sa', hl', dz, lz, hx', dac, lda, ex, dom, ws, fm, hy⟩
    by_cases hlt : n < vs.length
    · refine .inr ⟨show n < ((vs.length : Nat) : Int).toNat by simpa using hlt, fun H'' => n + 1 ≤ vs.length ∧ ∃ S2 us zs acc da, SrcAt H'' p q0 S2 ∧ H'' l = some (.lst us) ∧ DenL K H'' us zs [] ∧ zs.length = vs.length - (n + 1) ∧ H'' x = some (.lst acc) ∧ DenL K H'' acc da [] ∧ da.length = n + 1 ∧ Ext c.R c.H0 H'' ∧ (∀ a, c.P a → H'' a ≠ none) ∧ ∃ ws, mixD mf (vs.length - (n + 1)) zs S2 = some (ws, S1) ∧ da ++ ws = ys, fun H'' z => ⟨vs.length - (n + 1), by omega, rfl, z⟩, fun y H2 hyl => ?_⟩
      obtain ⟨rfl, rfl⟩ := hyl
      refine ⟨wipe_set1, ?_⟩
      unfold L2.tYes
      simp only [if_true]
      have en : vs.length - n = (vs.length - (n + 1)) + 1 := by omega
      rw [en] at fm
      obtain ⟨j, p1, S3, ws', g1, g2, g3, rfl⟩ := mixD_some fm
      have hp1 := ixD_lt g2
      have hlu := dz.length
      refine ⟨.ref l, (sw' i _ (Ne.symm hil)).trans q1, .inl ⟨rfl, _, .inl (.inl hl')⟩, .ref p, (sw' i0 _ (Ne.symm hil0)).trans e1, .ref l, (sw' i _ (Ne.symm hil)).trans q1, hrl l us H2 _ hl' ?_⟩
      have npq := srcAt_ne sa'
      refine ⟨rfl, p, q0, [.int us.length], fun a => a = p ∨ a = q0, [.int us.length], [], S2, .int j, S3, rfl, sa', .inl rfl, .inr rfl, DenL.one (.int _), fun _ z => (nomatch z), fun a z => ?_, by rw [hlu]; exact g1, fun v3 H3 F3 ex3 sa3 dv3 _ _ => ?_⟩
      · rcases z with rfl | rfl
        · rw [sa'.1]; exact fun z => nomatch z
        · rw [sa'.2]; exact fun z => nomatch z
      have R2 : ∀ z ∈ [p, q0], z ∈ c.R := fun z hz => by rw [eR]; exact hz
      have hl3 : H3 l = some (.lst us) := ex3.keep l _ hl' fun z => nlR (R2 l z)
      have hx3 : H3 x = some (.lst acc) := ex3.keep x _ hx' fun z => nxR (R2 x z)
      have dz3 : DenL K H3 us zs [] := dz.ext ex3 fun _ z => nomatch z
      have da3 : DenL K H3 acc da [] := dac.ext ex3 fun _ z => nomatch z
      cases dv3
      obtain ⟨w, hw, dw⟩ := dz3.get0 hp1
      have g2' : seqIndex? j us.length = some p1 ∧ p1 < us.length ∧ -(us.length : Int) ≤ j ∧ j < us.length := ixN_seq (by rw [← ixD_eq, hlu]; exact g2)
      refine ⟨l, us, j, p1, w, rfl, rfl, hl3, by omega, by omega, g2'.1, hw, ?_⟩
      have ntl := not_tup hl3
      have hx4 : (upd H3 l (.lst (us.eraseIdx p1))) x = some (.lst acc) := by
        rw [upd_ne nlx]
        exact hx3
      have ntx := not_tup hx4
      have ex4 : Ext c.R c.H0 (upd (upd H3 l (.lst (us.eraseIdx p1))) x (.lst (acc ++ [w]))) := ((ex.trans (ex3.mono R2)).pokeN l0).pokeN x0
      have hne : p ≠ l ∧ q0 ≠ l ∧ p ≠ x ∧ q0 ≠ x := ⟨fun z => nlR (R2 l (by simp [z])), fun z => nlR (R2 l (by simp [z])), fun z => nxR (R2 x (by simp [z])), fun z => nxR (R2 x (by simp [z]))⟩
      refine ⟨acc, hx4, ?_, hlt, S3, us.eraseIdx p1, zs.eraseIdx p1, acc ++ [w], da ++ [zs.getD p1 .none], ⟨?_, ?_⟩, ?_, ?_, ?_, upd_same, ?_, ?_, ex4, fun a z => ?_, ws', g3, by rw [List.append_assoc]; exact hy⟩
      · rw [dac.length, lda, sizeLine_eq]
        omega
      · rw [upd_ne hne.2.2.1, upd_ne hne.1]; exact sa3.1
      · rw [upd_ne hne.2.2.2, upd_ne hne.2.1]; exact sa3.2
      · rw [upd_ne (Ne.symm nlx), upd_same]
      · exact ((dz3.erase p1).wr ntl fun z => nomatch z).wr ntx fun z => nomatch z
      · rw [List.length_eraseIdx_of_lt hp1, lz]; omega
      · exact ((da3.wr ntl fun z => nomatch z).append (DenL.one (dw.wr ntl fun z => nomatch z))).wr ntx fun z => nomatch z
      · rw [List.length_append, lda]; rfl
      · exact upd_dom (upd_dom (ex3.dom a (dom a z)))
    · have en : n = vs.length := by omega
      subst en
      rw [Nat.sub_self] at fm
      obtain ⟨rfl, rfl⟩ := M.pure_some fm
      rw [List.append_nil] at hy
      subst hy
      refine .inl ⟨by show ((vs.length : Nat) : Int).toNat ≤ vs.length; simp, ?_⟩
      refine q (.ref x) H' [x] ex ?_ (.lst hx' dac) (fun a ha z => ?_) fun _ => ⟨by simp, fun a ha => ?_⟩
      · unfold SrcH
        rw [e0]
        exact sa'
      · obtain rfl := List.mem_singleton.mp ha
        exact ok.pd a z hx0
      · obtain rfl := List.mem_singleton.mp ha
        exact x0
end
end DL

/-! DS17: short words for printed derivations. -/
namespace DL
open PySem PySem.Spec PyProof.Rows L2
section
variable {X : Cx} {G : Sg}
theorem v_ (i : Nat) {x : Str} {pos : Pos} (hN : X.N[i]? = some x := by rfl) (hv : Vis X.env.scope x := by first | exact Or.inl rfl | exact Or.inr (Or.inl rfl) | exact Or.inr (Or.inr rfl)) (hd : (x == ("__debug__" : Str)) = false := by decide)
    (hcd : (x == ("__classdict__" : Str)) = false := by decide) : EV X G .bor (.Name x pos) (eVar i) := ev_var hN hv hd hcd
theorem vV_ (i : Nat) {x : Str} {pos : Pos} (hN : X.N[i]? = some x := by rfl) (hv : Vis X.env.scope x := by first | exact Or.inl rfl | exact Or.inr (Or.inl rfl) | exact Or.inr (Or.inr rfl)) (hi : i ∉ G.mu := by decide) (hd : (x == ("__debug__" : Str)) = false := by decide)
    (hcd : (x == ("__classdict__" : Str)) = false := by decide) : EV X G .val (.Name x pos) (eVar i) := ev_varV hN hv hi hd hcd
end
end DL

/-! DS18: more rules. -/
namespace DL
open PySem PySem.Spec PyProof.Rows L2
section
variable {X : Cx} {ow : Bool} {G Gb : Sg} {m : Md} {pos : Pos}
/-- name = [.. for .. for ..] on one line -/
theorem sv_setLc2 {Gl : Sg} {i : Nat} {y : Str} {py : Pos} {elt tg iter tg1 iter1 : Expr} {ifs ifs1 : List Expr} {scope : Scope} {own : List (Str × Nat)} {vs1 gv gv1 : List Nat} {pos2 : Pos} {w w1 : LF} {g g1 : GF} {t t1 : TF} {fe : EF} (hc : X.calm = true) (hN : X.N.Nodup) (hy : X.N[i]? = some y) (hyl : X.env.scope.names.lookup y = some .local) (hm : (m = .val ∧ i ∉ G.mu) ∨ m = .own) (hsci : G.sc ≠ some i)
    (hsw : swapsWith (.ListComp elt [⟨tg, iter, ifs, 0⟩, ⟨tg1, iter1, ifs1, 0⟩] scope pos2) (some (.Name y py)) pos.line X.env = pure true) (hi : IV X G wk tg iter w) (ok : BlkOk X.N X.env.scope scope own) (hv : ∀ i ∈ vs1, i ∈ own.map (·.2)) (hvs : ∀ i ∈ gv, i ∈ own.map (·.2)) (hvs1 : ∀ i ∈ gv1, i ∈ vs1) (hsc : ∀ i ∈ own.map (·.2), G.sc ≠ some i) (hmu : ∀ i ∈ own.map (·.2), i ∉ G.mu)
    (hg : ∀ (s : Shared) (H : Hp) (C : Addr) (cl : List (Str × Addr)) (fp : List Addr), GV (X.blk s H scope (compEnvC scope cl C X.env) fp) G wk gv tg g) (ht : ∀ (s : Shared) (H : Hp) (C : Addr) (cl : List (Str × Addr)) (fp : List Addr), PTs (X.blk s H scope (compEnvC scope cl C X.env) fp) ifs (tDT X.K G t))
    (hi1 : ∀ (s : Shared) (H : Hp) (C : Addr) (cl : List (Str × Addr)) (fp : List Addr), IV (X.blk s H scope (compEnvC scope cl C X.env) fp) G wk1 tg1 iter1 w1)
    (hg1 : ∀ (s : Shared) (H : Hp) (C : Addr) (cl : List (Str × Addr)) (fp : List Addr), GV (X.blk s H scope (compEnvC scope cl C X.env) fp) G wk1 gv1 tg1 g1) (ht1 : ∀ (s : Shared) (H : Hp) (C : Addr) (cl : List (Str × Addr)) (fp : List Addr), PTs (X.blk s H scope (compEnvC scope cl C X.env) fp) ifs1 (tDT X.K G t1))
    (he : ∀ (s : Shared) (H : Hp) (C : Addr) (cl : List (Str × Addr)) (fp : List Addr), EV (X.blk s H scope (compEnvC scope cl C X.env) fp) G m elt fe) (hs : ∀ x, foldedSetIterable iter X.env x = pure x := by intro _; rfl) (hs1 : ∀ env x, foldedSetIterable iter1 env x = pure x := by intro _ _; rfl) :
    SV X ow G G Gl (.Assign [.Name y py] (.ListComp elt [⟨tg, iter, ifs, 0⟩, ⟨tg1, iter1, ifs1, 0⟩] scope pos2) pos) (sAsg (eComp2 (own.map (·.2)) vs1 w g t w1 g1 t1 fe) (gName i)) := by
  refine PS.mono (ps_setLc2 (g := tDG X.K G wk gv g) (tt := tDT X.K G t) (wi1 := tDI X.K G wk1 w1) (g1 := tDG X.K G wk1 gv1 g1) (tt1 := tDT X.K G t1) (te := tD X.K G m fe) hc hN hy hyl hsw hi ok hv hg ht hi1 hg1 ht1 he hs hs1) fun D σ H h => ?_
  rcases hm with ⟨rfl, hmi⟩ | rfl
  · exact lc_sem2 hvs hvs1 hv hsc hmu (set_sem hmi hsci h)
  · exact lc_sem2 hvs hvs1 hv hsc hmu (setM_sem hsci h)
theorem sqL_ext {K : PySem.W.Frag} {H H' : Hp} {a : Addr} {xs : List V} (h : SqL K H a xs) (e : Ext [] H H') : SqL K H' a xs := by
  rcases h with (h | ⟨z, h⟩) | h
  · exact .inl (.inl (e.keep _ _ h (by simp)))
  · exact .inl (.inr ⟨z, e.keep _ _ h (by simp)⟩)
  · exact .inr h
theorem ext_own {H0 H : Hp} {D : Addr} {o : HO} (e : Ext [] H0 H) (hn : H0 D = none) (nf : NoLk o := by intro _ _ z; cases z; first | exact ⟨_, rfl⟩ | done) : Ext [] H0 (upd H D o) := e.pokeN hn nf
end
end DL

/-! DS19: dicts. -/
namespace DL
open PySem PySem.Spec PyProof.Rows L2

/-! ### the dict's data -/
theorem keyK_kD (k : Key) : keyK (kD k) = some k := by cases k <;> rfl
theorem keyK_some {d : D} {k : Key} (h : keyK d = some k) : d = kD k := by
  cases d with
  | int i => cases h; rfl
  | str x => cases h; rfl
  | _ => cases h
abbrev encT (ks : List Int) : D := .tuple (ks.map .int)
theorem keysI_map : ∀ ks : List Int, keysI (ks.map .int) = some ks
  | [] => rfl
  | k :: ks => by simp only [List.map_cons, keysI, keysI_map ks, Option.map_some]
theorem keysI_some : ∀ {ds : List D} {ks : List Int}, keysI ds = some ks → ds = ks.map .int
  | [], ks, h => by cases h; rfl
  | d :: ds, ks, h => by
    cases d with
    | int i =>
      obtain ⟨ks', h3, rfl⟩ := Option.map_eq_some_iff.mp (show (keysI ds).map (i :: ·) = some ks from h)
      rw [List.map_cons, ← keysI_some h3]
    | _ => cases h
theorem keyT_some {d : D} {ks : List Int} (h : keyT d = some ks) : d = encT ks := by
  cases d with
  | tuple xs =>
    have := keysI_some (show keysI xs = some ks from h)
    rw [this]
  | _ => cases h
section
variable {K : PySem.W.Frag} {H : Hp}
theorem den_kV (k : Key) : Den K H (kV k) (kD k) [] := by
  cases k with
  | inl i => exact .int i
  | inr x => exact .str x
theorem den_kVs : ∀ ks : List Key, DenL K H (ks.map kV) (ks.map kD) []
  | [] => .nil
  | k :: ks => .cons (F := []) (den_kV k) (den_kVs ks)
theorem den_intL : ∀ ks : List Int, DenL K H (ks.map .int) (ks.map .int) []
  | [] => .nil
  | k :: ks => .cons (F := []) (.int k) (den_intL ks)
theorem den_key {v : V} {k : Key} {F : List Addr} (h : Den K H v (kD k) F) : v = kV k := by
  cases k with
  | inl i => cases h; rfl
  | inr x => cases h; rfl
theorem den_intV : ∀ {vs : List V} {ks : List Int} {F : List Addr}, DenL K H vs (ks.map .int) F → vs = ks.map .int
  | [], ks, _, h => by
    have := DenL.length h
    cases ks with
    | nil => rfl
    | cons => simp at this
  | v :: vs, ks, _, h => by
    cases ks with
    | nil => have := DenL.length h; simp at this
    | cons k ks =>
      generalize e : (k :: ks).map PyData.int = ds at h
      cases h with
      | cons h1 h2 =>
        simp only [List.map_cons, List.cons.injEq] at e
        obtain ⟨rfl, rfl⟩ := e
        rw [den_intV h2]
        cases h1
        rfl
/-- a dict's data: its pairs -/
theorem split_K {kvs : List (Key × V)} {ds : List (D × D)} (h : ds.map (·.1) = kvs.map (fun p => kD p.1)) : dictSplit (.dict ds) = some (false, ds) := by
  cases ds with
  | nil => rfl
  | cons p r =>
    obtain ⟨a, b⟩ := p
    cases kvs with
    | nil => cases h
    | cons q s =>
      obtain ⟨k, v⟩ := q
      simp only [List.map_cons, List.cons.injEq] at h
      obtain ⟨rfl, _⟩ := h
      cases k <;> rfl
theorem split_T {ds : List (D × D)} : dictSplit (.dict (tMark :: ds)) = some (true, ds) := rfl

/-- the entries as they stand in the model's heap -/
structure RawAt (s : Shared) (a : Addr) (es : Array DictEntry) (ep : Nat) (ps : List (V × V)) : Prop where
  sys : (a == sysModules) = false
  raw : DT.Raw s.heap a es ep
  size : es.size = ps.length
  z : ps.length ≤ sizeLine
  at' : ∀ (j : Nat) (e : DictEntry), es[j]? = some e → ∃ p : V × V, ps[j]? = some p ∧ RelV p.1 e.key ∧ RelV p.2 e.val
end
/-- the entries of a dict whose keys are tuples, side by side with their values -/
abbrev KTt (K : PySem.W.Frag) (H : Hp) : List (List Int × V) → List (List Int × Addr × Value) → Prop := Paired (fun p q => p.1 = q.1 ∧ TupAt K H q.2.1 (p.1.map .int) ∧ RelV p.2 q.2.2)
theorem items_ints {P : Program} {w : World} : ∀ {ks : List Int} {us : List Value}, Vals (ks.map .int) us → ItemsAre (intKind P w) ks us
  | [], _, .nil => .nil
  | k :: ks, _, .cons r t => by
    obtain ⟨u, rfl⟩ := r
    exact .cons (intKind_is _ _ _ _) (items_ints t)
section
variable {X : Cx} {pins : List (Addr × Obj)} {σ : St} {H : Hp} {s : Shared} {a : Addr} {ds : List (D × D)} {F : List Addr}
theorem key_int {ks : List Int} {b : Addr} (I : Inv X pins σ H s) (h : TupAt X.K H b (ks.map .int)) : (tupleKind (intKind X.prog X.w)).is s.heap ks b := by
  obtain ⟨its, r, ⟨o, h1, h2, n, h3⟩, _⟩ := I.tuple h.sq
  exact ⟨o, its.toArray, n, h1, h2, h3, by simpa using items_ints r⟩
theorem KTt.is {kvs : List (List Int × V)} {xs : List (List Int × Addr × Value)} (I : Inv X pins σ H s) (r : KTt X.K H kvs xs) : ∀ x ∈ xs, (tupleKind (intKind X.prog X.w)).is s.heap x.1 x.2.1 := by
  induction r with
  | nil => exact fun x hx => nomatch hx
  | @cons p q ps qs hq t ih =>
    intro x hx
    rcases List.mem_cons.mp hx with rfl | hx
    · exact key_int I (by rw [← hq.1]; exact hq.2.1)
    · exact ih x hx
theorem KTt.keys {K : PySem.W.Frag} {H : Hp} {kvs : List (List Int × V)} {xs : List (List Int × Addr × Value)} (r : KTt K H kvs xs) : kvs.map (·.1) = xs.map (·.1) := by
  induction r with
  | nil => rfl
  | cons h t ih => rw [List.map_cons, List.map_cons, h.1, ih]
theorem entT_eq (P : Program) (w : World) : entT = entryOfKey (tupleKind (intKind P w)) := rfl
theorem td_rd {kvs : List (List Int × V)} (I : Inv X pins σ H s) (h : TD X.K H a kvs) (nd : (kvs.map (·.1)).Nodup) : kvs.length ≤ sizeLine ∧ (a == sysModules) = false ∧ ∃ xs, KTt X.K H kvs xs ∧ s.heap.DictOfH (tupleKind (intKind X.prog X.w)) a xs := by
  obtain ⟨ob, xs, es, ep, h1, h2, h3, h4, h5, h6, h7⟩ := h
  obtain ⟨e, _⟩ := (show ObjOk X.prog X.w H s.heap a (.ext fun h => h.get? a = some ob) from Rd.ok h1 I.hok)
  exact ⟨h6, h5, xs, h7, ob, es, ep, e, h2, h3, by rw [h4]; rfl, KTt.is I h7, by rw [← KTt.keys h7]; exact nd⟩
theorem raw_den (I : Inv X pins σ H s) (h : Den X.K H (.ref a) (.dict ds) F) : ∃ t kvs es ep ps F', dictSplit (.dict ds) = some (t, kvs) ∧ RawAt s a es ep ps ∧ DenL X.K H (ps.map (·.1)) (kvs.map (·.1)) [] ∧ DenL X.K H (ps.map (·.2)) (kvs.map (·.2)) F' ∧ F = a :: F' := by
  cases h with
  | dctK h k l =>
    rename_i kvs F'
    obtain ⟨z, hd, vs, kv, dd⟩ := dk_rd I.hok h.1
    obtain ⟨es, ep, hr, hs, he⟩ := dd.raw
    have l1 : kvs.length = vs.length := Paired.length kv
    refine ⟨false, ds, es, ep, kvs.map (fun p => (kV p.1, p.2)), F', split_K k, ⟨hd, hr, ?_, ?_, fun j e hj => ?_⟩, ?_, ?_, rfl⟩
    · rw [hs, List.length_map, l1]
    · rw [List.length_map]; exact z
    · obtain ⟨hj1, hj2⟩ := Array.getElem?_eq_some_iff.mp hj
      have hv : j < vs.length := by omega
      obtain ⟨p, hp, e1, e2⟩ := DX.pget kv (List.getElem?_eq_getElem hv)
      obtain ⟨q1, q2⟩ := he j hj1 vs[j].1 vs[j].2 (List.getElem?_eq_getElem hv)
      refine ⟨(kV p.1, p.2), by rw [List.getElem?_map, hp]; rfl, ?_, ?_⟩
      · rw [e1, ← hj2]
        exact relV_key q1
      · rw [← hj2, q2]
        exact e2
    · rw [List.map_map, k]
      have : ((fun p : V × V => p.1) ∘ fun p : Key × V => (kV p.1, p.2)) = fun p : Key × V => kV p.1 := rfl
      rw [this]
      have e1 : (kvs.map fun p => kV p.1) = (kvs.map (·.1)).map kV := by rw [List.map_map]; rfl
      have e2 : (kvs.map fun p => kD p.1) = (kvs.map (·.1)).map kD := by rw [List.map_map]; rfl
      rw [e1, e2]
      exact den_kVs _
    · rw [List.map_map]
      exact l
  | dctT h k l =>
    rename_i kvs ds F'
    obtain ⟨z, hd, xs, kt, dd⟩ := td_rd I h.1 h.2
    obtain ⟨es, ep, hr, hs, he⟩ := dd.raw
    have l1 : kvs.length = xs.length := Paired.length kt
    have key : ∀ {kvs : List (List Int × V)} {xs : List (List Int × Addr × Value)}, KTt X.K H kvs xs → ∃ ps : List (V × V), ps.length = xs.length ∧ DenL X.K H (ps.map (·.1)) (kvs.map fun p => encT p.1) [] ∧ ps.map (·.2) = kvs.map (·.2) ∧ ∀ (j : Nat) (x : List Int × Addr × Value), xs[j]? = some x → ∃ p, ps[j]? = some p ∧ p.1 = .ref x.2.1 ∧ RelV p.2 x.2.2 := by
      intro kvs xs r
      induction r with
      | nil => exact ⟨[], rfl, .nil, rfl, fun j x h => by simp at h⟩
      | @cons p q ps qs h t ih =>
        obtain ⟨e1, e2, e3⟩ := h
        obtain ⟨ls, i1, i2, i3, i4⟩ := ih
        refine ⟨(.ref q.2.1, p.2) :: ls, by simp [i1], .cons (F := []) (.tup e2 (den_intL _)) i2, by simp [i3], fun j x hj => ?_⟩
        cases j with
        | zero =>
          cases hj
          exact ⟨_, rfl, rfl, e3⟩
        | succ j => exact i4 j x hj
    obtain ⟨ps, p1, p2, p3, p4⟩ := key kt
    refine ⟨true, ds, es, ep, ps, F', split_T, ⟨hd, hr, ?_, ?_, fun j e hj => ?_⟩, ?_, ?_, rfl⟩
    · rw [hs, p1]
    · rw [p1, ← l1]; exact z
    · obtain ⟨hj1, hj2⟩ := Array.getElem?_eq_some_iff.mp hj
      obtain ⟨y, hy, e1, e2, _⟩ := he j hj1
      obtain ⟨p, hp, e3, e4⟩ := p4 j y hy
      refine ⟨p, hp, ?_, ?_⟩
      · rw [e3, ← hj2, e1]
        rfl
      · rw [← hj2, e2]
        exact e4
    · rw [k]
      exact p2
    · rw [p3]
      exact l
end
end DL
namespace DL
open PySem PySem.Spec PyProof.Rows L2
section
variable {X : Cx} {pins : List (Addr × Obj)} {σ : St} {H : Hp} {s : Shared} {a : Addr} {ds : List D} {F : List Addr}
theorem denL_pt {K : PySem.W.Frag} {H : Hp} : ∀ {vs : List V} {ds : List D}, vs.length = ds.length → (∀ (j : Nat) v d, vs[j]? = some v → ds[j]? = some d → Den K H v d []) → DenL K H vs ds []
  | [], [], _, _ => .nil
  | [], _ :: _, h, _ => by simp at h
  | _ :: _, [], h, _ => by simp at h
  | v :: vs, d :: ds, h, q => .cons (F := []) (q 0 v d rfl rfl) (denL_pt (by simpa using h) fun j v d h1 h2 => q (j + 1) v d h1 h2)
theorem DenL.pt {K : PySem.W.Frag} {H : Hp} {vs : List V} {ds : List D} (h : DenL K H vs ds []) {j : Nat} {v : V} {d : D} (h1 : vs[j]? = some v) (h2 : ds[j]? = some d) : Den K H v d [] := by
  obtain ⟨y, G, q1, q2, q3⟩ := h.get h2
  rw [h1] at q1
  cases q1
  have : G = [] := by
    cases G with
    | nil => rfl
    | cons a r => exact absurd (q3 a (by simp)) (by simp)
  rwa [this] at q2
/-- tuples already laid are tracked -/
theorem takeT2 {h' : Heap} {tk : Nat} {P : Addr → List V → Prop} (I0 : Inv X pins σ H s) : ∀ (L : List Addr) (H1 : Hp), Inv X pins σ H1 { s with heap := h', toks := tk } → L.Nodup →
    (∀ a ∈ L, s.heap.objs.size ≤ a ∧ H1 a = none ∧ ∃ vs o, P a vs ∧ TO o ∧ ∀ H2, ObjOk X.prog X.w H2 h' a (.frz o (.tup vs))) →
    ∃ H2, Inv X pins σ H2 { s with heap := h', toks := tk } ∧ Ext [] H1 H2 ∧ ∀ a ∈ L, ∃ vs, P a vs ∧ TupAt X.K H2 a vs
  | [], H1, I1, _, _ => ⟨H1, I1, Ext.refl, fun _ h => nomatch h⟩
  | a :: L, H1, I1, hn, h => by
    obtain ⟨hb, hnone, vs, o, hP, to, ok⟩ := h a (List.mem_cons_self ..)
    have I2 : Inv X pins σ (upd H1 a (.frz o (.tup vs))) { s with heap := h', toks := tk } := I1.take (h' := h') (t' := tk) (fun b ob _ e => e) (I0.fpOk hb hnone) (ok _)
    rw [List.nodup_cons] at hn
    obtain ⟨H2, I3, g, q⟩ := takeT2 I0 L (upd H1 a (.frz o (.tup vs))) I2 hn.2 fun c hc => by
      obtain ⟨c1, c2, c3⟩ := h c (List.mem_cons_of_mem _ hc)
      exact ⟨c1, by rw [upd_ne (fun z => hn.1 (by rw [← z]; exact hc))]; exact c2, c3⟩
    refine ⟨H2, I3, (Ext.new hnone).trans g, fun c hc => ?_⟩
    rcases List.mem_cons.mp hc with rfl | hc
    · exact ⟨vs, hP, o, g.tup _ _ _ upd_same, to⟩
    · exact q c hc
theorem items_made {es : Array DictEntry} {ep : Nat} {ps : List (V × V)} {h' : Heap} {tk : Nat} {as : List Addr} (I : Inv X pins σ H s) (R : RawAt s a es ep ps) (hk : ∀ b o, s.heap.get? b = some o → h'.get? b = some o) (hG : DT.Made es s.heap.objs.size h' as) :
    ∃ H2, Inv X pins σ H2 { s with heap := h', toks := tk } ∧ Ext [] H H2 ∧ ∀ (j : Nat) b, as[j]? = some b → ∃ p, ps[j]? = some p ∧ TupAt X.K H2 b [p.1, p.2] := by
  have nd : as.Nodup := List.Pairwise.imp (fun h => Nat.ne_of_lt h) hG.rise
  obtain ⟨H2, I2, e, q⟩ := takeT2 (h' := h') (tk := tk) (P := fun b vs => ∃ (j : Nat) (p : V × V), as[j]? = some b ∧ ps[j]? = some p ∧ vs = [p.1, p.2]) I as H (I.kept hk) nd fun b hb => by
    obtain ⟨j, hj⟩ := List.mem_iff_getElem?.mp hb
    obtain ⟨en, he, hg⟩ := hG.pairs j b hj
    obtain ⟨p, hp, r1, r2⟩ := R.at' j en he
    have hbl : s.heap.objs.size ≤ b := Nat.le_of_lt (hG.above b hb)
    exact ⟨hbl, I.hok.fresh hbl, [p.1, p.2], _, ⟨j, p, hj, hp, rfl⟩, ⟨rfl, rfl⟩, fun H3 => ⟨hg, (by rw [sizeLine_eq]; show 2 ≤ 16777216; omega), [en.key, en.val], .cons r1 (.cons r2 .nil), ⟨_, hg, rfl, 0, rfl⟩⟩⟩
  refine ⟨H2, I2, e, fun j b hj => ?_⟩
  obtain ⟨vs, ⟨i, p, i1, i2, rfl⟩, hv⟩ := q b (List.mem_of_getElem? hj)
  have eij : i = j := (List.getElem?_inj (List.getElem?_eq_some_iff.mp i1).1 nd).mp (i1.trans hj.symm)
  subst eij
  exact ⟨p, i2, hv⟩
/-- sorted(..) over what can be collected -/
theorem sorted_gen {u : Value} {Q : VK} {P : List Value → Heap → Prop} (I : Inv X pins σ H s) (hc : X.calm = true) (hu : X.A.units + 128 < cLine)
    (C : ∀ (A : Around) (Q : List Value → Shared → Prop) (E : Value → Shared → Prop), A.handled = none → (∀ h' tk us, (∀ b o, s.heap.get? b = some o → h'.get? b = some o) → P us h' → Q us { s with heap := h', toks := tk }) → wpAny (model X.prog X.w) A (collect u) Q E s)
    (hP : ∀ h' tk us, (∀ b o, s.heap.get? b = some o → h'.get? b = some o) → P us h' → us.length ≤ sizeLine ∧ ∃ H2 vs, Inv X pins σ H2 { s with heap := h', toks := tk } ∧ Ext [] H H2 ∧ Vals vs us ∧ DenL X.K H2 vs ds [])
    (hi : immAll ds = true) (hs : sortable ds = true)
    (q : ∀ H2 p ys, Ext [] H H2 → H2 p = none → DenL X.K H2 ys (ds.mergeSort leD) [] → Q (.ref p) (upd H2 p (.lst ys))) : wpAny (model X.prog X.w) X.A (call (.builtin "sorted") [u]) (EP X pins σ Q) X.xe s := by
  refine Calls.call_function_entry kind_sorted plain_sorted entry_sorted (args_sorted1 _) ?_
  unfold Builtin.«sorted»
  refine wpAny_bind (m := checkCount "sorted" 1 1 _) (wpAny_pure ?_)
  refine wpAny_bind (C _ _ _ (I.ok.hd hc) fun h' tk us hk hp => ?_)
  obtain ⟨hl, H2, vs, I1, hE, rv, dn⟩ := hP h' tk us hk hp
  refine wpAny_bind (wpAny_newList ?_ hl)
  have hL : (h'.push (seqObj "list" us.toArray 0)).get? h'.objs.size = some (seqObj "list" us.toArray 0) := Heap.get?_push_size _ rfl
  have hgrow : ∀ b o, h'.get? b = some o → (h'.push (seqObj "list" us.toArray 0)).get? b = some o := fun b o e => Heap.get?_push_of_some _ e
  have ee := den_each rv dn
  have ed := dn.length
  have hlen : us.length = ds.length := by rw [← rv.length]; exact ed
  have er : PySem.W.EachIs (fun v b => ∃ as, Reads (h'.push (seqObj "list" us.toArray 0)) v (id b) as ∧ h'.objs.size ∉ as) us ds := by
    refine EachR.mono ee fun a b hb ⟨v, r1, d1⟩ => ?_
    obtain ⟨as, rd⟩ := Dp.reads I1 b v a (d1.dpN (imm_noDict b (immAll_mem hi b hb))) r1
    refine ⟨as, PyProof.Rows.Reads.keeps hgrow rd, fun z => ?_⟩
    rw [reads_imm rd (immAll_mem hi b hb)] at z
    cases z
  refine wpAny_bind (wpAny_holding (PySem.W.list_sort_data (enc := id) (R := fun u d => ∃ v, RelV v u ∧ Den X.K H2 v d []) hL ee er (by rw [List.map_id]; exact sortable_alike hs) (by rw [List.map_id]; exact sortable_sort hs) (by rw [← hlen]; exact hl) (fun b hb => ?_) fun out ol oe => ?_))
  · have := sortable_depth hs b hb
    show X.A.units + 1 + 1 + b.depth < cLine
    omega
  · have eq1 : (PySem.W.dataLe false id : D → D → Bool) = leD := by
      rw [PySem.W.dataLe_eq]
      rfl
    rw [eq1] at oe
    obtain ⟨ys, rv2, dn2⟩ := each_den oe
    obtain ⟨e', he'⟩ := PyProof.Rows.sortedHeap_at (vs := us) (out := out.toArray) hL
    refine wpAny_pure ⟨_, rfl, .ref h'.objs.size, upd H2 h'.objs.size (.lst ys), I1.laid (t' := tk) (fun b o e => ?_) (Nat.le_refl _) (show ObjOk X.prog X.w _ _ _ (.lst ys) from ⟨?_, out, e', rv2, he'⟩), rfl, q H2 _ ys hE (I1.hok.fresh (Nat.le_refl _)) dn2⟩
    · have hb : b < h'.objs.size := Heap.lt_size e
      rw [PyProof.Rows.sortedHeap_old (Nat.ne_of_lt hb) (by rw [size_push']; exact Nat.lt_succ_of_lt hb)]
      exact hgrow b o e
    · rw [rv2.length, ol, ← hlen]
      exact hl
/-- sorted(d.items()) -/
def rSortItems (X : Cx) : List V → Hp → VK → Prop := fun vs H Q => ∃ (p a : Addr) (ds : List (D × D)) (F : List Addr) (t : Bool) (kvs : List (D × D)), vs = [.ref p] ∧ H p = some (DX.itemsO p a) ∧ Den X.K H (.ref a) (.dict ds) F ∧ dictSplit (.dict ds) = some (t, kvs) ∧
  immAll (itemsD kvs) = true ∧ sortable (itemsD kvs) = true ∧ ∀ H2 l ys, Ext [] H H2 → H2 l = none → DenL X.K H2 ys ((itemsD kvs).mergeSort leD) [] → Q (.ref l) (upd H2 l (.lst ys))
theorem cr_sortItems (hc : X.calm = true) (hu : X.A.units + 128 < cLine) : CallR X (.builtin "sorted") (rSortItems X) := by
  intro pins s σ H xs us Q I r h
  obtain ⟨p, a, ds, F, t, kvs, rfl, hp, hd, hsp, hi, hs, q⟩ := h
  obtain rfl := Vals.ref1 r
  have view : s.heap.IsItemsView p a := (show ObjOk X.prog X.w H s.heap p (DX.itemsO p a) from I.hok p _ hp).1
  obtain ⟨t', kvs', es, ep, ps, F', e1, R, d1, d2, _⟩ := raw_den I hd
  rw [hsp] at e1
  cases e1
  have hv : immAll (kvs.map (·.2)) = true := immAll_of fun d hd => by
    obtain ⟨q, hq, rfl⟩ := List.mem_map.mp hd
    have := immAll_mem hi (.tuple [q.1, q.2]) (List.mem_map.mpr ⟨q, hq, rfl⟩)
    have h2 : imm q.1 = true ∧ imm q.2 = true := by simpa [imm, immAll] using this
    exact h2.2
  obtain rfl := d2.imm hv
  refine sorted_gen (ds := itemsD kvs) (P := fun us h' => ∃ as, us = as.map Value.ref ∧ as.length = es.size ∧ DT.Made es s.heap.objs.size h' as) I hc hu (fun A Q E hh k => ?_) (fun h' tk us hk hp => ?_) hi hs q
  · exact DT.collectI (es := es) (ep := ep) hh view R.raw (by rw [R.size]; exact R.z) fun h' tk as hk hlt hl hG => k h' tk _ hk ⟨as, rfl, hl, hG⟩
  · obtain ⟨as, rfl, hl, hG⟩ := hp
    obtain ⟨H2, I2, hE, ht⟩ := items_made (tk := tk) I R hk hG
    refine ⟨by rw [List.length_map, hl, R.size]; exact R.z, H2, as.map V.ref, I2, hE, vals_maps V.ref Value.ref as fun _ _ => rfl, denL_pt ?_ fun j v d h1 h2 => ?_⟩
    · have := d1.length
      simp only [List.length_map] at this
      simp only [itemsD, List.length_map]
      rw [hl, R.size]
      omega
    · rw [List.getElem?_map] at h1
      obtain ⟨b, hb, rfl⟩ := Option.map_eq_some_iff.mp h1
      obtain ⟨p, hp, hH⟩ := ht j b hb
      unfold itemsD at h2
      rw [List.getElem?_map] at h2
      obtain ⟨kv, hkv, rfl⟩ := Option.map_eq_some_iff.mp h2
      have q1 : Den X.K H p.1 kv.1 [] := d1.pt (by rw [List.getElem?_map, hp]; rfl) (by rw [List.getElem?_map, hkv]; rfl)
      have q2 : Den X.K H p.2 kv.2 [] := d2.pt (by rw [List.getElem?_map, hp]; rfl) (by rw [List.getElem?_map, hkv]; rfl)
      exact .tup hH (.cons (F := []) (q1.grow hE) (.cons (F := []) (q2.grow hE) .nil))
end
end DL

/-! DS20: dicts in expressions and statements. -/
namespace DL
open PySem PySem.Spec PyProof.Rows L2

/-! ### look, store -/
section
variable {κ : Type} [DecidableEq κ] {K : PySem.W.Frag} {H : Hp} {enc : κ → D} {same : D → Bool} {k : κ}
theorem look_den (hs : ∀ k', same (enc k') = decide (k' = k)) : ∀ {kvs : List (κ × V)} {ds : List (D × D)} {E : List Addr}, ds.map (·.1) = kvs.map (fun p => enc p.1) → DenL K H (kvs.map (·.2)) (ds.map (·.2)) E →
    (valV kvs k = none ∧ (ds.find? fun p => same p.1).map (·.2) = none) ∨ ∃ u d G, valV kvs k = some u ∧ (ds.find? fun p => same p.1).map (·.2) = some d ∧ Den K H u d G ∧ ∀ a ∈ G, a ∈ E
  | [], ds, E, h, _ => by
    have : ds = [] := List.map_eq_nil_iff.mp h
    subst this
    exact .inl ⟨rfl, rfl⟩
  | (k1, v1) :: r, [], E, h, _ => by simp at h
  | (k1, v1) :: r, (kd, d1) :: rd, E, h, l => by
    simp only [List.map_cons, List.cons.injEq] at h
    obtain ⟨rfl, h⟩ := h
    cases l with
    | cons l1 l2 =>
      by_cases e : k1 = k
      · refine .inr ⟨v1, d1, _, valV_pos e, ?_, l1, fun a ha => List.mem_append_left _ ha⟩
        rw [List.find?_cons_of_pos (by rw [hs]; exact decide_eq_true e)]
        rfl
      · have e2 : ¬ same (enc k1) = true := by rw [hs]; simpa using e
        have e3 : (((enc k1, d1) :: rd : List (D × D)).find? fun p => same p.1) = rd.find? fun p => same p.1 := List.find?_cons_of_neg (by exact e2)
        have e4 : valV ((k1, v1) :: r) k = valV r k := valV_neg e
        rw [e3, e4]
        rcases look_den hs h l2 with q | ⟨u, d, G, q1, q2, q3, q4⟩
        · exact .inl q
        · exact .inr ⟨u, d, G, q1, q2, q3, fun a ha => List.mem_append_right _ (q4 a ha)⟩
def stG (same : D → Bool) (k : D) (v : D) (ds : List (D × D)) : List (D × D) := if (ds.any fun p => same p.1) = true then ds.map (fun p => if same p.1 = true then (p.1, v) else p) else ds ++ [(k, v)]
theorem stG_pos {a b kd v : D} {ds : List (D × D)} (h : same a = true) (n : ∀ p ∈ ds, same p.1 = false) : stG same kd v ((a, b) :: ds) = (a, v) :: ds := by
  unfold stG
  rw [if_pos (by simp [h]), List.map_cons, if_pos h]
  congr 1
  have : ∀ p ∈ ds, (if same p.1 = true then (p.1, v) else p) = p := fun p hp => if_neg (by rw [n p hp]; simp)
  rw [List.map_congr_left this, List.map_id']
theorem stG_neg {a b kd v : D} {ds : List (D × D)} (h : same a = false) : stG same kd v ((a, b) :: ds) = (a, b) :: stG same kd v ds := by
  unfold stG
  by_cases e : (ds.any fun p => same p.1) = true
  · rw [if_pos (by rw [List.any_cons, e, Bool.or_true]), if_pos e, List.map_cons, if_neg (by rw [h]; simp)]
  · rw [if_neg (by rw [List.any_cons, h, Bool.false_or]; exact e), if_neg e]
    rfl
theorem putK_pos {v1 v : V} {r : List (κ × V)} (n : k ∉ r.map (·.1)) : putK ((k, v1) :: r) k v = (k, v) :: r := by
  unfold putK
  rw [if_pos (by simp), List.map_cons, if_pos rfl]
  congr 1
  have : ∀ p ∈ r, (if p.1 = k then (p.1, v) else p) = p := fun p hp => if_neg fun e => n (by rw [← e]; exact List.mem_map.mpr ⟨p, hp, rfl⟩)
  rw [List.map_congr_left this, List.map_id']
theorem putK_neg {k1 : κ} {v1 v : V} {r : List (κ × V)} (n : k1 ≠ k) : putK ((k1, v1) :: r) k v = (k1, v1) :: putK r k v := by
  unfold putK
  by_cases e : (r.any fun kv => decide (kv.1 = k)) = true
  · rw [if_pos (by rw [List.any_cons, e, Bool.or_true]), if_pos e, List.map_cons, if_neg n]
  · rw [if_neg (by rw [List.any_cons, decide_eq_false n, Bool.false_or]; exact e), if_neg e]
    rfl
theorem store_den (hs : ∀ k', same (enc k') = decide (k' = k)) {v : V} {d : D} {F : List Addr} (hv : Den K H v d F) : ∀ {kvs : List (κ × V)} {ds : List (D × D)} {E : List Addr}, (kvs.map (·.1)).Nodup → ds.map (·.1) = kvs.map (fun p => enc p.1) → DenL K H (kvs.map (·.2)) (ds.map (·.2)) E →
    ((putK kvs k v).map (·.1)).Nodup ∧ (stG same (enc k) d ds).map (·.1) = (putK kvs k v).map (fun p => enc p.1) ∧ ∃ F', DenL K H ((putK kvs k v).map (·.2)) ((stG same (enc k) d ds).map (·.2)) F' ∧ (∀ a ∈ F', a ∈ E ∨ a ∈ F) ∧ (E.Nodup → F.Nodup → (∀ a ∈ E, a ∉ F) → F'.Nodup)
  | [], ds, E, _, h, l => by
    have : ds = [] := List.map_eq_nil_iff.mp h
    subst this
    refine ⟨by simp [putK], rfl, F, ?_, fun a ha => .inr ha, fun _ hF _ => hF⟩
    have := DenL.one hv
    exact this
  | (k1, v1) :: r, [], E, _, h, _ => by simp at h
  | (k1, v1) :: r, (kd, d1) :: rd, E, nd, h, l => by
    simp only [List.map_cons, List.cons.injEq] at h
    obtain ⟨rfl, h⟩ := h
    rw [List.map_cons, List.nodup_cons] at nd
    cases l with
    | cons l1 l2 =>
      rename_i E1 E2
      by_cases e : k1 = k
      · subst e
        have hn : ∀ p ∈ rd, same p.1 = false := fun p hp => by
          have hm : p.1 ∈ rd.map (·.1) := List.mem_map.mpr ⟨p, hp, rfl⟩
          rw [h] at hm
          obtain ⟨q, hq, e⟩ := List.mem_map.mp hm
          rw [← e, hs]
          refine decide_eq_false fun z => nd.1 (List.mem_map.mpr ⟨q, hq, z⟩)
        rw [putK_pos nd.1, stG_pos (by rw [hs]; simp) hn]
        refine ⟨by rw [List.map_cons, List.nodup_cons]; exact nd, by simp [h], F ++ E2, .cons hv l2, fun a ha => ?_, fun hE hF hd => ?_⟩
        · rcases List.mem_append.mp ha with z | z
          · exact .inr z
          · exact .inl (List.mem_append_right _ z)
        · rw [List.nodup_append] at hE ⊢
          exact ⟨hF, hE.2.1, fun a ha b hb z => by subst z; exact hd a (List.mem_append_right _ hb) ha⟩
      · obtain ⟨i1, i2, F', i3, i4, i5⟩ := store_den hs hv nd.2 h l2
        rw [putK_neg e, stG_neg (by rw [hs]; exact decide_eq_false e)]
        refine ⟨?_, by simp [i2], E1 ++ F', .cons l1 i3, fun a ha => ?_, fun hE hF hd => ?_⟩
        · rw [List.map_cons, List.nodup_cons]
          refine ⟨fun z => ?_, i1⟩
          obtain ⟨p, hp, e1⟩ := List.mem_map.mp z
          unfold putK at hp
          by_cases e2 : (r.any fun kv => decide (kv.1 = k)) = true
          · rw [if_pos e2] at hp
            obtain ⟨q, hq, e3⟩ := List.mem_map.mp hp
            have : p.1 = q.1 := by rw [← e3]; split <;> rfl
            exact nd.1 (List.mem_map.mpr ⟨q, hq, by rw [← this]; exact e1⟩)
          · rw [if_neg e2] at hp
            rcases List.mem_append.mp hp with hp | hp
            · exact nd.1 (List.mem_map.mpr ⟨p, hp, e1⟩)
            · have := List.mem_singleton.mp hp
              rw [this] at e1
              exact e e1.symm
        · rcases List.mem_append.mp ha with z | z
          · exact .inl (List.mem_append_left _ z)
          · rcases i4 a z with z | z
            · exact .inl (List.mem_append_right _ z)
            · exact .inr z
        · rw [List.nodup_append] at hE ⊢
          refine ⟨hE.1, i5 hE.2.1 hF fun a ha => hd a (List.mem_append_right _ ha), fun a ha b hb z => ?_⟩
          subst z
          rcases i4 a hb with z | z
          · exact hE.2.2 a ha a z rfl
          · exact hd a (List.mem_append_left _ ha) z
end
theorem keyT_enc (ks : List Int) : keyT (encT ks) = some ks := keysI_map ks
theorem same_K (k k' : Key) : sameKey false (kD k) (kD k') = decide (k' = k) := by
  show decide (keyK (kD k') = keyK (kD k)) = _
  rw [keyK_kD, keyK_kD]
  by_cases h : k' = k
  · simp [h]
  · simp [h]
theorem same_T (k k' : List Int) : sameKey true (encT k) (encT k') = decide (k' = k) := by
  show decide (keyT (encT k') = keyT (encT k)) = _
  rw [keyT_enc, keyT_enc]
  by_cases h : k' = k
  · simp [h]
  · simp [h]
theorem store_eq (t : Bool) (kvs : List (D × D)) (k v : D) : storeD t kvs k v = stG (sameKey t k) k v kvs := rfl
section
variable {X : Cx} {K : PySem.W.Frag} {H : Hp}
theorem split_some {x : D} {p : Bool × List (D × D)} (h : dictSplit x = some p) : ∃ ds, x = .dict ds := by
  cases x with
  | dict ds => exact ⟨ds, rfl⟩
  | _ => cases h
/-! ### dicts whose keys are tuples -/
theorem KTt.at (k : List Int) {kvs : List (List Int × V)} {xs : List (List Int × Addr × Value)} (r : KTt K H kvs xs) : RelO (valV kvs k) ((atKey xs k).map (·.2)) := by
  induction r with
  | nil => trivial
  | @cons p q ps qs h t ih =>
    obtain ⟨kp, vp⟩ := p
    obtain ⟨kq, bq, uq⟩ := q
    obtain ⟨rfl, _, hv⟩ := h
    rcases Decidable.em (kp = k) with rfl | n
    · simpa [valV, atKey, RelO] using hv
    · simpa [valV, atKey, n] using ih
theorem KTt.over (k : List Int) {y : V} {u : Value} (ry : RelV y u) {kvs : List (List Int × V)} {xs : List (List Int × Addr × Value)} (r : KTt K H kvs xs) : KTt K H (kvs.map fun kv => if kv.1 = k then (kv.1, y) else kv) (xs.map (PySem.putAt k u)) := by
  induction r with
  | nil => exact .nil
  | @cons p q ps qs h t ih =>
    obtain ⟨kp, vp⟩ := p
    obtain ⟨kq, bq, uq⟩ := q
    obtain ⟨rfl, hb, hv⟩ := h
    refine .cons ?_ ih
    rcases Decidable.em (kp = k) with rfl | n
    · simpa [PySem.putAt] using And.intro hb ry
    · simpa [PySem.putAt, n] using And.intro hb hv
theorem KTt.stored (k : List Int) {b : Addr} {y : V} {u : Value} (hb : TupAt K H b (k.map .int)) (ry : RelV y u) {kvs : List (List Int × V)} {xs : List (List Int × Addr × Value)} (r : KTt K H kvs xs) : KTt K H (putK kvs k y) (storedH xs k b u) := by
  have e := (KTt.at k r).isSome_eq
  rw [← valV_any, Option.isSome_map] at e
  unfold putK storedH
  rw [e]
  split
  · exact KTt.over k ry r
  · exact Paired.snoc r ⟨rfl, hb, ry⟩
/-- what the dict at a holds at the key y -/
def Gets (K : PySem.W.Frag) (H : Hp) (a : Addr) (y : V) (r : Option V) : Prop :=
  DGet H a y r ∨ ∃ kvs k b, TD K H a kvs ∧ (kvs.map (·.1)).Nodup ∧ y = .ref b ∧ TupAt K H b (k.map .int) ∧ r = valV kvs k
/-- what follows a[y] = v -/
def Puts (K : PySem.W.Frag) (H : Hp) (a : Addr) (y v : V) (Q : Hp → Prop) : Prop :=
  (∃ H4, DPut H a y v H4 ∧ Q H4) ∨ ∃ kvs k b, TD K H a kvs ∧ (kvs.map (·.1)).Nodup ∧ (∀ o u, H a ≠ some (.frz o u)) ∧ y = .ref b ∧ TupAt K H b (k.map .int) ∧ kvs.length < sizeLine ∧
    ∀ ob : Obj, TD K (upd H a (.ext fun h => h.get? a = some ob)) a (putK kvs k v) → Q (upd H a (.ext fun h => h.get? a = some ob))
def IsDT (K : PySem.W.Frag) (H : Hp) (a : Addr) : Prop := IsD H a ∨ ∃ kvs, TD K H a kvs ∧ (kvs.map (·.1)).Nodup
end
section
variable {X : Cx} {pins : List (Addr × Obj)} {σ : St} {H : Hp} {s : Shared} {a : Addr} {y v d : V} {u r : Value} {o : Option V} {A : Around} {E : Value → Shared → Prop}
theorem Gets.isD (g : Gets X.K H a y o) : IsDT X.K H a := by
  rcases g with g | ⟨kvs, k, b, h, nd, _⟩
  · rcases g with ⟨kvs, k, e, _⟩ | ⟨kvs, k, b, e, _⟩
    · exact .inl (.inl ⟨_, e⟩)
    · exact .inl (.inr ⟨_, e⟩)
  · exact .inr ⟨_, h, nd⟩
theorem isDT_at (I : Inv X pins σ H s) (d : IsDT X.K H a) : s.TypeIs (.ref a) "dict" ∧ (∀ b, Value.ref a = .ref b → ∃ ob, s.heap.get? b = some ob ∧ ob.dict = none) ∧ (a == sysModules) = false := by
  rcases d with d | ⟨kvs, h, nd⟩
  · exact isD_at I d
  · obtain ⟨_, hd, xs, _, dd⟩ := td_rd I h nd
    exact ⟨dd.typeIs, fun b q => by cases q; obtain ⟨ob, _, _, h1, h2, _⟩ := dd; exact ⟨ob, h1, h2.2.1⟩, hd⟩
theorem g_getItem {Q : Value → Shared → Prop} (hu : A.units + 1 < cLine) (I : Inv X pins σ H s) (g : Gets X.K H a y (some v)) (ry : RelV y u) (h : ∀ w' s', Inv X pins σ H s' → RelV v w' → Q w' s') : wpAny (model X.prog X.w) A (getItem (.ref a) u) Q E s := by
  rcases g with g | ⟨kvs, k, b, ht, nd, rfl, hb, l⟩
  · exact d_getItem hu I g ry h
  · cases ry
    obtain ⟨_, _, xs, rel, dd⟩ := td_rd I ht nd
    have z := KTt.at k rel
    rw [← l] at z
    cases e : atKey xs k with
    | none => rw [e] at z; exact z.elim
    | some p =>
      rw [e] at z
      exact wpAny_getItem_heap (tupleKind_room_in1 hu) (key_int I hb) dd e (h _ _ (I.tok _) z)
theorem g_in {Q : Value → Shared → Prop} (hu : A.units + 1 < cLine) (I : Inv X pins σ H s) (g : Gets X.K H a y o) (ry : RelV y u) (h : ∀ s', Inv X pins σ H s' → Q (.bool o.isSome) s') : wpAny (model X.prog X.w) A (compareOp .In u (.ref a)) Q E s := by
  rcases g with g | ⟨kvs, k, b, ht, nd, rfl, hb, rfl⟩
  · exact d_in hu I g ry h
  · cases ry
    obtain ⟨_, hd, xs, rel, dd⟩ := td_rd I ht nd
    refine wpAny_in_heap (tupleKind_room_in1 hu) (key_int I hb) hd dd ?_
    have := h _ (I.tok (s.toks + (tupleKind (intKind X.prog X.w)).draws k))
    rwa [(KTt.at k rel).isSome_eq, Option.isSome_map] at this
theorem g_notIn {Q : Value → Shared → Prop} (hu : A.units + 1 < cLine) (I : Inv X pins σ H s) (g : Gets X.K H a y o) (ry : RelV y u) (h : ∀ s', Inv X pins σ H s' → Q (.bool (!o.isSome)) s') : wpAny (model X.prog X.w) A (compareOp .NotIn u (.ref a)) Q E s := by
  rcases g with g | ⟨kvs, k, b, ht, nd, rfl, hb, rfl⟩
  · exact d_notIn hu I g ry h
  · cases ry
    obtain ⟨_, hd, xs, rel, dd⟩ := td_rd I ht nd
    refine wpAny_notIn_heap (tupleKind_room_in1 hu) (key_int I hb) hd dd ?_
    have := h _ (I.tok (s.toks + (tupleKind (intKind X.prog X.w)).draws k))
    rwa [(KTt.at k rel).isSome_eq, Option.isSome_map] at this
theorem g_get2 {Q : Value → Shared → Prop} (hu : A.units + 1 < cLine) (I : Inv X pins σ H s) (g : Gets X.K H a y o) (ry : RelV y u) (rd : RelV d r) (h : ∀ w' s', Inv X pins σ H s' → RelV (o.getD d) w' → Q w' s') :
    wpAny (model X.prog X.w) A (call (.builtin "dict.get") [.ref a, u, r]) Q E s := by
  rcases g with g | ⟨kvs, k, b, ht, nd, rfl, hb, rfl⟩
  · exact d_get2 hu I g ry rd h
  · cases ry
    obtain ⟨_, hd, xs, rel, dd⟩ := td_rd I ht nd
    exact call_meetsIn PySem.F.slot_dict_get dd.typeIs PySem.F.entry_dict_get (PySem.F.args_dict_get_3 _ _ _) (meetsH_dict_get_default (tupleKind (intKind X.prog X.w)) a b hd r) ⟨tupleKind_room_in1 hu, k, xs, key_int I hb, dd, h _ _ (I.tok _) ((KTt.at k rel).getD rd)⟩
theorem g_setItem {P : Hp → Prop} {Q : Unit → Shared → Prop} (hu : A.units + 1 < cLine) (I : Inv X pins σ H s) (g : Puts X.K H a y v P) (ry : RelV y u) (rv : RelV v r) (h : ∀ H' s', Inv X pins σ H' s' → P H' → Q () s') : wpAny (model X.prog X.w) A (setItem (.ref a) u r) Q E s := by
  rcases g with ⟨H4, g, q⟩ | ⟨kvs, k, b, ht, nd, nf, rfl, hb, hl, q⟩
  · exact d_setItem hu I g ry rv fun s' I' => h _ _ I' q
  · cases ry
    obtain ⟨z, hd, xs, rel, dd⟩ := td_rd I ht nd
    have hm : Mut (H a) := by
      obtain ⟨ob, _, _, _, h1, _⟩ := ht
      rcases h1 with e | ⟨o, e⟩
      · rw [e]; trivial
      · exact absurd e (nf _ _)
    refine wpAny_setItem_heap (hsz := by rw [← Paired.length rel]; exact z) (tupleKind_room_in1 hu) (key_int I hb) dd fun h' dd' hs => ?_
    obtain ⟨ob, es, ep, hq, h2, h3, h4, _, h5⟩ := dd'
    have I2 := d_write (t' := s.toks + (tupleKind (intKind X.prog X.w)).draws k) (ob := .ext fun h => h.get? a = some ob) I hm hs ⟨ob, hq⟩ ⟨hq, ⟨ob, hq⟩, fun h1 h2 e k => k _ e⟩
    refine h _ _ I2 (q ob ⟨ob, storedH xs k b r, es, ep, .inl upd_same, h2, h3, h4, hd, by have := length_putK kvs k v; omega, ?_⟩)
    refine Paired.mapP (KTt.stored k hb rv rel) fun p q w => ⟨w.1, ?_, w.2.2⟩
    obtain ⟨o, e, t⟩ := w.2.1
    exact ⟨o, by rw [upd_ne fun z => nf _ _ (z ▸ e)]; exact e, t⟩
end
section
variable {X : Cx} {K : PySem.W.Frag} {H : Hp}
/-- what a dict gives at a key -/
theorem dget_den {v y : V} {x k : D} {F Fk : List Addr} {t : Bool} {kvs : List (D × D)} (hx : Den K H v x F) (hs : dictSplit x = some (t, kvs)) (hk : Den K H y k Fk) (ok : okKey t k = true) :
    ∃ a r, v = .ref a ∧ Gets K H a y r ∧ ((r = none ∧ lookD t kvs k = none) ∨ ∃ u d G, r = some u ∧ lookD t kvs k = some d ∧ Den K H u d G ∧ ∀ z ∈ G, z ∈ F) := by
  obtain ⟨ds, rfl⟩ := split_some hs
  cases hx with
  | dctK h e l =>
    rw [split_K e] at hs
    cases hs
    obtain ⟨k', hk'⟩ := Option.isSome_iff_exists.mp (show (keyK k).isSome = true from ok)
    obtain rfl := keyK_some hk'
    obtain rfl := den_key hk
    refine ⟨_, _, rfl, .inl (.inl ⟨_, k', h.1, rfl, rfl⟩), ?_⟩
    rcases look_den (same := sameKey false (kD k')) (same_K k') e l with q | ⟨u, d, G, q1, q2, q3, q4⟩
    · exact .inl q
    · exact .inr ⟨u, d, G, q1, q2, q3, fun z hz => List.mem_cons_of_mem _ (q4 z hz)⟩
  | dctT h e l =>
    cases hs
    obtain ⟨k', hk'⟩ := Option.isSome_iff_exists.mp (show (keyT k).isSome = true from ok)
    obtain rfl := keyT_some hk'
    cases hk with
    | tup hb l2 =>
      obtain rfl := den_intV l2
      refine ⟨_, _, rfl, .inr ⟨_, k', _, h.1, h.2, rfl, hb, rfl⟩, ?_⟩
      rcases look_den (enc := encT) (same := sameKey true (encT k')) (same_T k') e l with q | ⟨u, d, G, q1, q2, q3, q4⟩
      · exact .inl q
      · exact .inr ⟨u, d, G, q1, q2, q3, fun z hz => List.mem_cons_of_mem _ (q4 z hz)⟩
theorem isD_den {v : V} {x : D} {F : List Addr} {p : Bool × List (D × D)} (hx : Den K H v x F) (hs : dictSplit x = some p) : ∃ a, v = .ref a ∧ IsDT K H a := by
  obtain ⟨ds, rfl⟩ := split_some hs
  cases hx with
  | dctK h e l => exact ⟨_, rfl, .inl (.inl ⟨_, h.1⟩)⟩
  | dctT h e l => exact ⟨_, rfl, .inr ⟨_, h⟩⟩
/-- a store into a dict that isn't locked -/
theorem dput_den {a : Addr} {y v : V} {x k d : D} {E Fk F : List Addr} {t : Bool} {kvs : List (D × D)} (hx : Den K H (.ref a) x E) (hnf : ∀ o u, H a ≠ some (.frz o u)) (hs : dictSplit x = some (t, kvs)) (hk : Den K H y k Fk) (ok : okKey t k = true) (hl : kvs.length < sizeLine) (hv : Den K H v d F) (hE : E.Nodup) (haF : a ∉ F)
    (hd : ∀ z ∈ E, z ∉ F) (hF : F.Nodup) {Q : Hp → Prop} (q : ∀ o F', (∀ z u, o ≠ .frz z u) → Den K (upd H a o) (.ref a) (packD t (storeD t kvs k d)) F' → (∀ z ∈ F', z ∈ E ∨ z ∈ F) → F'.Nodup → Q (upd H a o)) : Puts K H a y v Q := by
  obtain ⟨ds, rfl⟩ := split_some hs
  cases hx with
  | dctK h e l =>
    rename_i kvH E'
    have ha : H a = some (.dK kvH) := by
      rcases h.1 with z | ⟨o, z⟩
      · exact z
      · exact absurd z (hnf _ _)
    rw [split_K e] at hs
    cases hs
    obtain ⟨k', hk'⟩ := Option.isSome_iff_exists.mp (show (keyK k).isSome = true from ok)
    obtain rfl := keyK_some hk'
    obtain rfl := den_key hk
    have hlen := congrArg List.length e
    simp only [List.length_map] at hlen
    obtain ⟨s1, s2, F', s3, s4, s5⟩ := store_den (same := sameKey false (kD k')) (same_K k') hv h.2 e l
    rw [List.nodup_cons] at hE
    have naF : a ∉ F' := fun z => (s4 a z).elim hE.1 haF
    have nt : ∀ y u, H a ≠ some (.frz y u) := fun y u z => by rw [ha] at z; cases z
    refine .inl ⟨_, .k ha (by omega), q (.dK (putK kvH k' v)) (a :: F') (fun _ _ z => nomatch z) (.dctK ⟨.inl upd_same, s1⟩ s2 (s3.wr nt naF)) (fun z hz => ?_) (List.nodup_cons.mpr ⟨naF, s5 hE.2 hF fun z hz => hd z (List.mem_cons_of_mem _ hz)⟩)⟩
    rcases List.mem_cons.mp hz with rfl | hz
    · exact .inl List.mem_cons_self
    · rcases s4 z hz with q | q
      · exact .inl (List.mem_cons_of_mem _ q)
      · exact .inr q
  | dctT h e l =>
    rename_i kvH ds E'
    cases hs
    obtain ⟨k', hk'⟩ := Option.isSome_iff_exists.mp (show (keyT k).isSome = true from ok)
    obtain rfl := keyT_some hk'
    cases hk with
    | tup hb l2 =>
      obtain rfl := den_intV l2
      have hlen := congrArg List.length e
      simp only [List.length_map] at hlen
      obtain ⟨s1, s2, F', s3, s4, s5⟩ := store_den (enc := encT) (same := sameKey true (encT k')) (same_T k') hv h.2 e l
      rw [List.nodup_cons] at hE
      have naF : a ∉ F' := fun z => (s4 a z).elim hE.1 haF
      refine .inr ⟨_, k', _, h.1, h.2, hnf, rfl, hb, by omega, fun ob ht => q (.ext fun h => h.get? a = some ob) (a :: F') (fun _ _ z => nomatch z) (.dctT ⟨ht, s1⟩ s2 (s3.wr hnf naF)) (fun z hz => ?_) (List.nodup_cons.mpr ⟨naF, s5 hE.2 hF fun z hz => hd z (List.mem_cons_of_mem _ hz)⟩)⟩
      rcases List.mem_cons.mp hz with rfl | hz
      · exact .inl List.mem_cons_self
      · rcases s4 z hz with q | q
        · exact .inl (List.mem_cons_of_mem _ q)
        · exact .inr q
end
end DL

/-! DS21: rules for dicts. -/
namespace DL
open PySem PySem.Spec PyProof.Rows L2
/-! ### dicts of either kind of keys: readings -/
def tGet (K : PySem.W.Frag) (td ty : TE) : TE := fun σ H Q => td σ H fun x H1 => ty σ H1 fun y H2 => ∃ a v, x = .ref a ∧ Gets K H2 a y (some v) ∧ Q v H2
def tIn (K : PySem.W.Frag) (no : Bool) (ty td : TE) : TE := fun σ H Q => ty σ H fun y H1 => td σ H1 fun x H2 => ∃ a o, x = .ref a ∧ Gets K H2 a y o ∧ Q (.bl (if no = true then !o.isSome else o.isSome)) H2
def tGetOr (K : PySem.W.Frag) (td ty tx : TE) : TE := fun σ H Q => td σ H fun x H1 => ∃ a, x = .ref a ∧ IsDT K H1 a ∧ ty σ H1 fun y H2 => tx σ H2 fun z H3 => ∃ o, Gets K H3 a y o ∧ Q (o.getD z) H3
def sPut (K : PySem.W.Frag) (td ty tv : TE) : TS := fun D σ H => tv σ H fun v H1 => td σ H1 fun x H2 => ty σ H2 fun y H3 => ∃ a, x = .ref a ∧ Puts K H3 a y v (D.nx σ)
def tNewT : TE := fun _ H Q => ∀ p (ob : Obj), H p = none → ob.ExactDict → ob.data = .dict #[] → (p == sysModules) = false → Q (.ref p) (upd H p (.ext fun h => h.get? p = some ob))
section
variable {X : Cx} {o i e f value : Expr} {pos pos' apos cpos : Pos} {td ty tv tx : TE}
theorem pe_newT : PE X (.Dict [] [] pos) tNewT := by
  refine ⟨fun pins s σ H Q I h => wpAny_Dict_empty ?_⟩
  have e : (s.heap.push { cls := .type "dict", data := .dict #[] }).get? s.heap.objs.size = some { cls := .type "dict", data := .dict #[] } := Heap.get?_push_size _ rfl
  have hp : (s.heap.objs.size == sysModules) = false := beq_eq_false_iff_ne.mpr (Ne.symm (Nat.ne_of_lt I.big))
  have I2 := I.laid (t' := s.toks) (o := .ext fun h => h.get? s.heap.objs.size = some { cls := .type "dict", data := .dict #[] }) (fun _ _ q => Heap.get?_push_of_some _ q) (Nat.le_refl _) ⟨e, ⟨_, e⟩, fun h1 h2 z k => k _ z⟩
  exact ⟨.ref s.heap.objs.size, _, I2, rfl, h _ _ (I.hok.fresh (Nat.le_refl _)) ⟨rfl, rfl, rfl⟩ rfl hp⟩
theorem pe_get (hu : X.A.units + 1 < cLine) (ho : PE X o td) (hi : PE X i ty) (hs : NoSl i) : PE X (.Subscript o i pos) (tGet X.K td ty) :=
  ⟨fun pins s σ H Q I h => subD_of PySem.F.slot_dict_getitem.lookup hs (thn (ho.run pins s σ H _ I h) fun u s1 ⟨_, H1, I1, rx, q1⟩ => thn (hi.run pins s1 σ H1 _ I1 q1) fun iv s2 ⟨y, H2, I2, ry, a, v, ex, g, q2⟩ => by
    cases ex
    cases rx
    exact ⟨(isDT_at I2 g.isD).1, g_getItem hu I2 g ry fun w' s3 I3 rw' => ⟨v, H2, I3, rw', q2⟩⟩)⟩
theorem pc_inT (hu : X.A.units + 1 < cLine) (hi : PE X i ty) (ho : PE X o td) : PC X .In i o (tIn X.K false ty td) :=
  ⟨fun pins s σ H Q I h => thn (hi.run pins s σ H _ I h) fun iv s1 ⟨y, H1, I1, ry, q1⟩ => thn (ho.run pins s1 σ H1 _ I1 q1) fun u s2 ⟨_, H2, I2, rx, a, ov, ex, g, q2⟩ => by
    cases ex
    cases rx
    exact g_in hu I2 g ry fun s3 I3 => ⟨.bl _, H2, I3, rfl, q2⟩⟩
theorem pc_notinT (hu : X.A.units + 1 < cLine) (hi : PE X i ty) (ho : PE X o td) : PC X .NotIn i o (tIn X.K true ty td) :=
  ⟨fun pins s σ H Q I h => thn (hi.run pins s σ H _ I h) fun iv s1 ⟨y, H1, I1, ry, q1⟩ => thn (ho.run pins s1 σ H1 _ I1 q1) fun u s2 ⟨_, H2, I2, rx, a, ov, ex, g, q2⟩ => by
    cases ex
    cases rx
    exact g_notIn hu I2 g ry fun s3 I3 => ⟨.bl _, H2, I3, rfl, q2⟩⟩
theorem ps_put (hu : X.A.units + 1 < cLine) (ho : PE X o td) (hi : PE X i ty) (hv : PE X value tv) (hs : swapsWith value (some (.Subscript o i pos')) pos.line X.env = pure false) : PS X (.Assign [.Subscript o i pos'] value pos) (sPut X.K td ty tv) :=
  ⟨fun pins s σ H D I h => wpAny_Assign_Subscript (thn (hv.run pins s σ H _ I h) fun r s1 ⟨v, H1, I1, rv, q1⟩ => thn (ho.run pins s1 σ H1 _ I1 q1) fun u s2 ⟨_, H2, I2, rx, q2⟩ => thn (hi.run pins s2 σ H2 _ I2 q2) fun iv s3 ⟨y, H3, I3, ry, a, ex, g⟩ => by
    cases ex
    cases rx
    exact g_setItem hu I3 g ry rv fun H4 s4 I4 q3 => ⟨σ, H4, I4, q3⟩) hs⟩
theorem pe_getOr (hu : X.A.units + 1 < cLine) (ho : PE X o td) (he : PE X e ty) (hf : PE X f tx) (m : M2 X o "get" apos e f cpos) : PE X (.Call (.Attribute o "get" apos) [e, f] [] cpos) (tGetOr X.K td ty tx) := by
  refine ⟨fun pins s σ H Q I h => wpAny_Call_method m.base m.few m.line PySem.F.plainAttrs_dict PySem.F.slot_dict_get PySem.F.type_dict_get (thn (ho.run pins s σ H _ I h) fun u s1 ⟨_, H1, I1, rx, a, ex, d, q1⟩ => ?_)⟩
  cases ex
  cases rx
  have t := isDT_at I1 d
  refine ⟨t.1, t.2.1, ?_⟩
  rw [m.trees]
  exact Calls.callWith_builtin rfl (Calls.evalArgs_plain (Calls.spliced_cons (thn (he.run pins s1 σ H1 _ I1 q1) fun iv s2 ⟨y, H2, I2, ry, q2⟩ => Calls.spliced_cons (thn (hf.run pins s2 σ H2 _ I2 q2) fun fv s3 ⟨z, H3, I3, rz, ov, g, q3⟩ =>
    Calls.spliced_nil (g_get2 hu I3 g ry rz fun w' s4 I4 rw' => ⟨_, H3, I4, rw', q3⟩)))))
end
theorem dict_noTup {K : PySem.W.Frag} {H : Hp} {a : Addr} {x : D} {E : List Addr} {p : Bool × List (D × D)} (h : Den K H (.ref a) x E) (e : dictSplit x = some p) (o : Obj) (xs : List V) : H a ≠ some (.frz o (.tup xs)) := by
  obtain ⟨ds, rfl⟩ := split_some e
  have no : ∀ {u : HO}, Rd H a u → (∀ ys, u ≠ .tup ys) → (∀ z w, u ≠ .frz z w) → H a ≠ some (.frz o (.tup xs)) := fun r n1 n2 z => by
    rcases r with r | ⟨_, r⟩ <;> rw [r] at z <;> cases z
    · exact n2 _ _ rfl
    · exact n1 _ rfl
  cases h with
  | dctK h k l => exact no h.1 (fun _ z => nomatch z) fun _ _ z => nomatch z
  | dctT h k l =>
    obtain ⟨ob, _, _, _, h1, _⟩ := h.1
    exact no h1 (fun _ z => nomatch z) fun _ _ z => nomatch z
section
variable {X : Cx} {ow : Bool} {G Gl : Sg} {m ma mb mz : Md} {a b z : Expr} {fa fb fz : EF} {pos p apos cpos ipos : Pos} {x : Str} {i : Nat}
/-- {}: its keys will be tuples; numbers or texts -/
theorem ev_dnewT : EV X G .own (.Dict [] [] pos) (eC (.dict [tMark])) := by
  refine PE.mono pe_newT fun σ H Q h => ?_
  obtain ⟨c, T, fp, ρ, S, d, S', ok, hf, q⟩ := h
  cases hf
  exact fun r ob hr h1 h2 h3 => q _ _ [r] (ok.grow (Ext.new hr)) (Ext.new hr) (.dctT (kvs := []) (ds := []) ⟨⟨ob, [], #[], 0, .inl upd_same, h1, h2, rfl, h3, Nat.zero_le _, .nil⟩, List.nodup_nil⟩ rfl .nil) (ok.av1 hr) (ResOk.one hr)
theorem ev_dnewK : EV X G .own (.Dict [] [] pos) (eC (.dict [])) := by
  refine PE.mono pe_dnewK fun σ H Q h => ?_
  obtain ⟨c, T, fp, ρ, S, d, S', ok, hf, q⟩ := h
  cases hf
  exact fun r hr => q _ _ [r] (ok.grow (Ext.new hr)) (Ext.new hr) (.dctK (kvs := []) (ds := []) ⟨.inl upd_same, List.nodup_nil⟩ rfl .nil) (ok.av1 hr) (ResOk.one hr)
theorem dget_some {x k d : D} {S S' : Src} (h : dgetD x k S = some (d, S')) : ∃ t kvs, dictSplit x = some (t, kvs) ∧ okKey t k = true ∧ lookD t kvs k = some d ∧ S' = S := by
  unfold dgetD at h
  cases e : dictSplit x with
  | none => simp only [e] at h; exact (M.fail_some h).elim
  | some pq =>
    obtain ⟨t, kvs⟩ := pq
    simp only [e] at h
    obtain ⟨h1, h⟩ := M.chk_bind h
    cases e2 : lookD t kvs k with
    | none => simp only [e2] at h; exact (M.fail_some h).elim
    | some v =>
      simp only [e2] at h
      obtain ⟨rfl, rfl⟩ := M.pure_some h
      exact ⟨t, kvs, rfl, h1, e2, rfl⟩
theorem dget2_some {x k y d : D} {S S' : Src} (h : dget2D x k y S = some (d, S')) : ∃ t kvs, dictSplit x = some (t, kvs) ∧ okKey t k = true ∧ d = (lookD t kvs k).getD y ∧ S' = S := by
  unfold dget2D at h
  cases e : dictSplit x with
  | none => simp only [e] at h; exact (M.fail_some h).elim
  | some pq =>
    obtain ⟨t, kvs⟩ := pq
    simp only [e] at h
    obtain ⟨h1, h⟩ := M.chk_bind h
    obtain ⟨rfl, rfl⟩ := M.pure_some h
    exact ⟨t, kvs, rfl, h1, rfl, rfl⟩
theorem din_some {n : Bool} {x k d : D} {S S' : Src} (h : dinD n k x S = some (d, S')) : ∃ t kvs, dictSplit x = some (t, kvs) ∧ okKey t k = true ∧ d = .bool (if n = true then !(lookD t kvs k).isSome else (lookD t kvs k).isSome) ∧ S' = S := by
  unfold dinD at h
  cases e : dictSplit x with
  | none => simp only [e] at h; exact (M.fail_some h).elim
  | some pq =>
    obtain ⟨t, kvs⟩ := pq
    simp only [e] at h
    obtain ⟨h1, h⟩ := M.chk_bind h
    obtain ⟨rfl, rfl⟩ := M.pure_some h
    exact ⟨t, kvs, rfl, h1, rfl, rfl⟩
/-- d[k] -/
theorem ev_dget (hu : X.A.units + 1 < cLine) (ha : EV X G ma a fa) (hb : EV X G mb b fb) (hm : m = .bor ∨ (m = .val ∧ ma = .val)) (hs : NoSl b := by exact fun _ _ => rfl) : EV X G m (.Subscript a b pos) (e2 dgetD fa fb) := by
  refine PE.mono (pe_get hu ha hb hs) (rd_2 (r := fun v w H Q => ∃ a u, v = .ref a ∧ Gets X.K H a w (some u) ∧ Q u H) fun c T fp ρ S S' σ H0 H x y d v w Fx Fy Q ok e dx dy ax ay rx ry hf q => ?_)
  obtain ⟨t, kvs, h1, h2, h3, rfl⟩ := dget_some hf
  obtain ⟨a, r, rfl, hg, hr⟩ := dget_den dx h1 dy h2
  rcases hr with ⟨_, z⟩ | ⟨u, d', F, rfl, e2, dn, hF⟩
  · rw [h3] at z; cases z
  · rw [h3] at e2
    cases e2
    refine ⟨a, u, rfl, hg, q u H F Ext.refl rfl dn (fun z hz => ax z (hF z hz)) ?_⟩
    rcases hm with rfl | ⟨rfl, rfl⟩
    · trivial
    · exact fun i' d' hi hd z hz => rx i' d' hi hd z (hF z hz)
/-- d.get(k, z), all borrowed, shared -/
theorem ev_dget2 (hu : X.A.units + 1 < cLine) (ha : EV X G ma a fa) (hb : EV X G mb b fb) (hz : EV X G mz z fz) (hm : m = .bor ∨ (m = .val ∧ ma = .val ∧ mz = .val)) (mm : M2 X a "get" apos b z cpos := by exact ⟨rfl, rfl, rfl, rfl⟩) : EV X G m (.Call (.Attribute a "get" apos) [b, z] [] cpos) (e3 dget2D fa fb fz) := by
  refine PE.mono (pe_getOr hu ha hb hz mm) fun σ H Q hh => ?_
  obtain ⟨c, T, fp, ρ, S, d, S', ok, hf, q⟩ := hh
  obtain ⟨x, S1, h1, hf⟩ := M.bind_some hf
  obtain ⟨k, S2, h2, hf⟩ := M.bind_some hf
  obtain ⟨y, S3, h3, hf⟩ := M.bind_some hf
  obtain ⟨t, kvs, h4, h5, rfl, rfl⟩ := dget2_some hf
  refine ⟨c, T, fp, ρ, S, x, S1, ok, h1, fun v H1 Fx ok1 ex1 dx ax rx => ?_⟩
  obtain ⟨a, rfl, hD⟩ := isD_den dx h4
  refine ⟨a, rfl, hD, ?_⟩
  refine ⟨c, T, fp, ρ, S1, k, S2, ok1, h2, fun w H2 Fk ok2 ex2 dk ak rk => ?_⟩
  refine ⟨c, T, fp, ρ, S2, y, S', ok2, h3, fun u H3 Fy ok3 ex3 dy ay ry => ?_⟩
  have nR : ∀ {F : List Addr}, (∀ a ∈ F, ¬ c.P a) → ∀ a ∈ F, a ∉ c.R := fun h a ha => ok.notR (h a ha)
  have dx3 := (dx.ext ex2 (nR ax)).ext ex3 (nR ax)
  have dk3 := dk.ext ex3 (nR ak)
  obtain ⟨a', r, e1, hg, hr⟩ := dget_den dx3 h4 dk3 h5
  cases e1
  have eH := (ex1.trans ex2).trans ex3
  rcases hr with ⟨rfl, z⟩ | ⟨u', d', F, rfl, q2, dn, hF⟩
  · refine ⟨none, hg, q u H3 Fy ok3 eH (by rw [z]; exact dy) ay ?_⟩
    rcases hm with rfl | ⟨rfl, rfl, rfl⟩
    · trivial
    · exact ry
  · refine ⟨some u', hg, q u' H3 F ok3 eH (by rw [q2]; exact dn) (fun z hz => ax z (hF z hz)) ?_⟩
    rcases hm with rfl | ⟨rfl, rfl, rfl⟩
    · trivial
    · exact fun i' d' hi hd z hz => rx i' d' hi hd z (hF z hz)
/-- k in d, k not in d -/
theorem cv_din (hu : X.A.units + 1 < cLine) (ha : EV X G ma a fa) (hb : EV X G mb b fb) (h1 : behindInMarks .In b = false := by rfl) : CV X G (.Compare a [.In] [b] pos) (e2 (dinD false) fa fb) := by
  have key : ∀ σ H Q, tD X.K G .own (e2 (dinD false) fa fb) σ H Q → tIn X.K false (tD X.K G ma fa) (tD X.K G mb fb) σ H Q := rd_2 (r := fun y x H Q => ∃ a o, x = .ref a ∧ Gets X.K H a y o ∧ Q (.bl (if false = true then !o.isSome else o.isSome)) H) fun c T fp ρ S S' σ H0 H x y d v w Fx Fy Q ok e dx dy ax ay rx ry hf q => by
    obtain ⟨t, kvs, h1, h2, rfl, rfl⟩ := din_some hf
    obtain ⟨a, r, rfl, hg, hr⟩ := dget_den dy h1 dx h2
    refine ⟨a, r, rfl, hg, ?_⟩
    rcases hr with ⟨rfl, z⟩ | ⟨u, d', F, rfl, e2, dn, hF⟩
    · exact q _ H [] Ext.refl rfl (by rw [z]; exact .bl _) av0 (ResOk.imm rfl)
    · exact q _ H [] Ext.refl rfl (by rw [e2]; exact .bl _) av0 (ResOk.imm rfl)
  exact ⟨PE.mono (pe_cmp (pc_inT hu ha hb) h1) key, PT.mono (pt_cmp (pc_inT hu ha hb) h1) (tv_of key)⟩
theorem cv_dnotin (hu : X.A.units + 1 < cLine) (ha : EV X G ma a fa) (hb : EV X G mb b fb) (h1 : behindInMarks .NotIn b = false := by rfl) : CV X G (.Compare a [.NotIn] [b] pos) (e2 (dinD true) fa fb) := by
  have key : ∀ σ H Q, tD X.K G .own (e2 (dinD true) fa fb) σ H Q → tIn X.K true (tD X.K G ma fa) (tD X.K G mb fb) σ H Q := rd_2 (r := fun y x H Q => ∃ a o, x = .ref a ∧ Gets X.K H a y o ∧ Q (.bl (if true = true then !o.isSome else o.isSome)) H) fun c T fp ρ S S' σ H0 H x y d v w Fx Fy Q ok e dx dy ax ay rx ry hf q => by
    obtain ⟨t, kvs, h1, h2, rfl, rfl⟩ := din_some hf
    obtain ⟨a, r, rfl, hg, hr⟩ := dget_den dy h1 dx h2
    refine ⟨a, r, rfl, hg, ?_⟩
    rcases hr with ⟨rfl, z⟩ | ⟨u, d', F, rfl, e2, dn, hF⟩
    · exact q _ H [] Ext.refl rfl (by rw [z]; exact .bl _) av0 (ResOk.imm rfl)
    · exact q _ H [] Ext.refl rfl (by rw [e2]; exact .bl _) av0 (ResOk.imm rfl)
  exact ⟨PE.mono (pe_cmp (pc_notinT hu ha hb) h1) key, PT.mono (pt_cmp (pc_notinT hu ha hb) h1) (tv_of key)⟩
theorem dput_some {fk fe : EF} {ρ : Env} {S S' : Src} {o : Out} (h : DL.sDPut i fk fe ρ S = some (o, S')) : ∃ v S1 k d t kvs, fe ρ S = some (v, S1) ∧ fk ρ S1 = some (k, S') ∧ ρ[i]? = some (some d) ∧ dictSplit d = some (t, kvs) ∧ okKey t k = true ∧ kvs.length < sizeLine ∧ o = .nx (ρ.set i (some (packD t (storeD t kvs k v)))) := by
  unfold DL.sDPut at h
  obtain ⟨v, S1, h1, h⟩ := M.bind_some h
  obtain ⟨k, S2, h2, h⟩ := M.bind_some h
  cases e : ρ[i]? with
  | none => simp only [e] at h; exact (M.fail_some h).elim
  | some o1 =>
    cases o1 with
    | none => simp only [e] at h; exact (M.fail_some h).elim
    | some d =>
      simp only [e] at h
      cases e2 : dictSplit d with
      | none => simp only [e2] at h; exact (M.fail_some h).elim
      | some pq =>
        obtain ⟨t, kvs⟩ := pq
        simp only [e2] at h
        obtain ⟨h3, h⟩ := M.chk_bind h
        obtain ⟨rfl, rfl⟩ := M.pure_some h
        obtain ⟨h4, h5⟩ := and_true h3
        exact ⟨v, S1, k, d, t, kvs, h1, h2, rfl, e2, h4, of_decide_eq_true h5, rfl⟩
/-- x[k] = e, x a dict of one's own -/
theorem sv_dput {e e1 : Expr} {fe f1 : EF} (hu : X.A.units + 1 < cLine) (hN : X.N[i]? = some x) (hv : Vis X.env.scope x) (hi : i ∈ G.mu) (hsc : G.sc ≠ some i) (he : EV X G .own e fe) (h1 : EV X G .bor e1 f1) (hs : swapsWith e (some (.Subscript (.Name x p) e1 apos)) pos.line X.env = pure false := by rfl)
    (hd : (x == ("__debug__" : Str)) = false := by decide) (hcd : (x == ("__classdict__" : Str)) = false := by decide) : SV X ow G G Gl (.Assign [.Subscript (.Name x p) e1 apos] e pos) (DL.sDPut i f1 fe) := by
  refine PS.mono (ps_put hu (pe_var hN hv hd hcd) h1 he hs) fun D σ H h => ?_
  obtain ⟨c, T, fp, ρ, S, o, S', ok, hf, q⟩ := h
  obtain ⟨d, S1, k, x0, t, kvs, g1, g2, hx, g3, g4, g5, rfl⟩ := dput_some hf
  refine ⟨c, T, fp, ρ, S, d, S1, ok, g1, fun y H1 F ok1 ex1 dn av r => ?_⟩
  obtain ⟨v, q1, q2⟩ := ok1.den i _ hx
  refine ⟨v, q1, c, T, fp, ρ, S1, k, S', ok1, g2, fun w H2 Fk ok2 ex2 dk ak rk => ?_⟩
  obtain ⟨v', q1', dx⟩ := ok2.den i _ hx
  rw [q1] at q1'
  cases q1'
  obtain ⟨a, rfl, _⟩ := isD_den dx g3
  have hE : fp i = a :: (fp i).tail := by
    obtain ⟨ds, rfl⟩ := split_some g3
    generalize fp i = E at dx
    cases dx with
    | dctK => rfl
    | dctT => rfl
  have haE : a ∈ fp i := by rw [hE]; exact List.mem_cons_self
  have hnd := ok2.nd i _ hi hx
  have nR : ∀ {F : List Addr}, (∀ a ∈ F, ¬ c.P a) → ∀ a ∈ F, a ∉ c.R := fun h a ha => ok.notR (h a ha)
  have dy : Den X.K H2 y d F := dn.ext ex2 (nR av)
  have hdom : ∀ z ∈ fp i, H z ≠ none := by
    obtain ⟨v0, _, d0⟩ := ok.den i _ hx
    exact fun z hz => d0.dom z hz
  have hnf : ∀ o u, H2 a ≠ some (.frz o u) := fun o u z => by
    rcases ok2.ext.fz a o u z with ⟨xs, rfl⟩ | this
    · exact dict_noTup dx g3 o xs z
    · rw [ok2.new i _ hi hx a haE] at this
      cases this
  refine ⟨a, rfl, dput_den dx hnf g3 dk g4 g5 dy hnd (fun z => hdom a haE (r.2 a z)) (fun z hz w => hdom z hz (r.2 z w)) r.1 fun o F' p2 p4 p5 p6 => q σ _ _ (ok.mut (ex1.trans ex2) ok2 hi hx haE hnf hsc (F := F) (F' := F') (fun v' w1 w2 => ?_) r.2 av p5 p6 fun z u e => absurd e (p2 z u))⟩
  rw [q1] at w1
  cases w1
  exact p4
end
end DL

/-! DS22: sorted dicts, isinstance, index. -/
namespace DL
open PySem PySem.Spec PyProof.Rows L2
section
variable {X : Cx} {ow : Bool} {G : Sg} {m ma mb mz : Md} {a b z : Expr} {fa fb fz : EF} {pos p apos cpos ipos : Pos} {x : Str} {i : Nat}
/-- d.items() as a view -/
def tDItems (K : PySem.W.Frag) (to : TE) : TE := fun σ H Q => to σ H fun x H1 => ∃ (a : Addr) (ds : List (D × D)) (F : List Addr), x = .ref a ∧ Den K H1 (.ref a) (.dict ds) F ∧ ∀ p, H1 p = none → Q (.ref p) (upd H1 p (DX.itemsO p a))
theorem pe_ditems {o : Expr} {to : TE} (ho : PE X o to) (hbase : attributeBase o "items" X.env (eval o X.env) = eval o X.env := by rfl) (hline : (apos.endLine == cpos.line) = true := by rfl) : PE X (.Call (.Attribute o "items" apos) [] [] cpos) (tDItems X.K to) := by
  refine ⟨fun pins s σ H Q I h => ?_⟩
  refine wpAny_Call_method0_late hbase hline (thn (ho.run pins s σ H _ I h) fun v s1 ⟨x, H1, I1, r1, a, ds, F, e1, dn, q1⟩ => ?_)
  subst e1
  cases r1
  obtain ⟨t, kvs, es, ep, ps, F', _, R, _, _, _⟩ := raw_den I1 dn
  have hD : IsDT X.K H1 a := by
    cases dn with
    | dctK h e l => exact .inl (.inl ⟨_, h.1⟩)
    | dctT h e l => exact .inr ⟨_, h⟩
  obtain ⟨h1, h2, h3⟩ := isDT_at I1 hD
  refine ⟨"dict", "dict.items", PySem.F.plainAttrs_dict, PySem.F.slot_dict_items, PySem.F.type_dict_items, h1, h2, Calls.callWith_builtin rfl (PySem.evalArgs_none ?_)⟩
  refine DT.callItems (es := es) (ep := ep) h3 R.raw ?_
  have hf : H1 s1.heap.objs.size = none := I1.hok.fresh (Nat.le_refl _)
  refine ⟨.ref s1.heap.objs.size, _, I1.laid (t' := s1.toks) (fun b o e => Heap.get?_push_of_some _ e) (Nat.le_refl _) (DX.itemsO_ok (Heap.get?_push_size _ rfl)), rfl, q1 _ hf⟩
theorem sorted_some {xs : List D} {d : D} {S S' : Src} (h : sortedD (.list xs) S = some (d, S')) : sortable xs = true ∧ immAll xs = true ∧ d = .list (xs.mergeSort leD) ∧ S' = S := by
  have h : (chk (sortable xs && immAll xs) >>= fun _ => pure (.list (xs.mergeSort leD)) : M D) S = some (d, S') := h
  obtain ⟨h1, h⟩ := M.chk_bind h
  obtain ⟨rfl, rfl⟩ := M.pure_some h
  obtain ⟨h2, h3⟩ := and_true h1
  exact ⟨h2, h3, rfl, rfl⟩
/-- sorted(d.items()) -/
theorem ev_sortItems {o : Expr} (hc : X.calm = true) (hu : X.A.units + 128 < cLine) (hm2 : X.mg "sorted" = none) (ha : EV X G ma o fa) (hg : Gl X "sorted" := by rfl) (hbase : attributeBase o "items" X.env (eval o X.env) = eval o X.env := by rfl) (hline : (apos.endLine == cpos.line) = true := by rfl)
    (he : starEach [.Call (.Attribute o "items" apos) [] [] cpos] X.env = (false, eval (.Call (.Attribute o "items" apos) [] [] cpos) X.env) :: starEach [] X.env := by rfl) (hpl : (backTo pos (starEach [] X.env)).any (·.1) = false := by rfl) :
    EV X G .own (.Call (.Name "sorted" p) [.Call (.Attribute o "items" apos) [] [] cpos] [] pos) (e1 sortItemsD fa) := by
  refine PE.mono (pe_callB (cr_sortItems hc hu) hg hm2 (by decide +kernel) (pa_cons (pe_ditems ha hbase hline) pa_nil he) (by decide) (by decide) he hpl) fun σ H Q hh => ?_
  obtain ⟨c, T, fp, ρ, S, d, S', ok, hf, q⟩ := hh
  obtain ⟨x, S1, h1, hf⟩ := M.bind_some hf
  refine ⟨c, T, fp, ρ, S, x, S1, ok, h1, fun v H1 F ok1 ex1 dn av r => ?_⟩
  unfold sortItemsD at hf
  cases es : dictSplit x with
  | none => simp only [es] at hf; exact (M.fail_some hf).elim
  | some pq =>
    obtain ⟨t, kvs⟩ := pq
    simp only [es] at hf
    obtain ⟨h2, h3, rfl, rfl⟩ := sorted_some hf
    obtain ⟨ds, rfl⟩ := split_some es
    obtain ⟨a, rfl, _⟩ := isD_den dn es
    refine ⟨a, ds, F, rfl, dn, fun w hw => ?_⟩
    have eW : Ext [] H1 (upd H1 w (DX.itemsO w a)) := Ext.new hw
    refine ⟨w, a, ds, F, t, kvs, rfl, upd_same, dn.grow eW, es, h3, h2, fun H2 l ys hE hl dl => ?_⟩
    have e2 : Ext [] H1 H2 := eW.trans hE
    have ok2 := ok1.grow e2
    have eH : Ext c.R H H2 := ex1.trans (e2.mono fun _ z => nomatch z)
    exact q _ _ [l] (ok2.grow (Ext.new hl)) (eH.trans (Ext.new hl)) (Den.newL hl dl) (ok2.av1 hl) (ResOk.one (eH.back0 ok2 hl))
/-- sorted(d): the keys -/
def rSortKeys (X : Cx) : List V → Hp → VK → Prop := fun vs H Q => ∃ (a : Addr) (ds : List (D × D)) (F : List Addr) (t : Bool) (kvs : List (D × D)), vs = [.ref a] ∧ Den X.K H (.ref a) (.dict ds) F ∧ dictSplit (.dict ds) = some (t, kvs) ∧
  immAll (kvs.map (·.1)) = true ∧ sortable (kvs.map (·.1)) = true ∧ ∀ H2 l ys, Ext [] H H2 → H2 l = none → DenL X.K H2 ys ((kvs.map (·.1)).mergeSort leD) [] → Q (.ref l) (upd H2 l (.lst ys))
theorem cr_sortKeys (hc : X.calm = true) (hu : X.A.units + 128 < cLine) : CallR X (.builtin "sorted") (rSortKeys X) := by
  intro pins s σ H xs us Q I r h
  obtain ⟨a, ds, F, t, kvs, rfl, hd, hsp, hi, hs, q⟩ := h
  obtain rfl := Vals.ref1 r
  obtain ⟨t', kvs', es, ep, ps, F', e1, R, d1, d2, _⟩ := raw_den I hd
  rw [hsp] at e1
  cases e1
  refine sorted_gen (ds := kvs.map (·.1)) (P := fun us h' => ItemsOf (fun i v => ∃ hi : i < es.size, v = es[i].key) us.toArray es.size) I hc hu (fun A Q E hh k => ?_) (fun h' tk us hk hp => ?_) hi hs q
  · refine PySem.W.kdu_collect (KdlSrc.rawDict (es := es) (ep := ep) R.sys) hh R.raw (by rw [R.size]; exact R.z) fun h' tk acc hk hacc => k h' tk _ hk (by simpa using hacc)
  · obtain ⟨h1, h2⟩ := hp
    have l1 : us.length = ps.length := by
      rw [← R.size, ← h1]
      simp
    have pt : ∀ (j : Nat) v, us[j]? = some v → ∃ p, ps[j]? = some p ∧ RelV p.1 v := fun j v hj => by
      obtain ⟨hi, rfl⟩ := h2 j v (by simpa using hj)
      obtain ⟨p, q1, q2, _⟩ := R.at' j es[j] (by simp [hi])
      exact ⟨p, q1, q2⟩
    refine ⟨by rw [l1]; exact R.z, H, ps.map (·.1), I.kept hk, Ext.refl, ?_, d1⟩
    have key : ∀ (us : List Value) (ps : List (V × V)), us.length = ps.length → (∀ (j : Nat) v, us[j]? = some v → ∃ p, ps[j]? = some p ∧ RelV p.1 v) → Vals (ps.map (·.1)) us := by
      intro us
      induction us with
      | nil => intro ps h _; cases ps with
        | nil => exact .nil
        | cons => simp at h
      | cons u us ih =>
        intro ps h g
        cases ps with
        | nil => simp at h
        | cons p ps =>
          obtain ⟨p', e1, e2⟩ := g 0 u rfl
          cases e1
          exact .cons e2 (ih ps (by simpa using h) fun j v hj => g (j + 1) v hj)
    exact key us ps l1 pt
theorem ev_sortKeys (hc : X.calm = true) (hu : X.A.units + 128 < cLine) (hm2 : X.mg "sorted" = none) (ha : EV X G ma a fa) (hg : Gl X "sorted" := by rfl)
    (he : starEach [a] X.env = (false, eval a X.env) :: starEach [] X.env := by rfl) (hpl : (backTo pos (starEach [] X.env)).any (·.1) = false := by rfl) : EV X G .own (.Call (.Name "sorted" p) [a] [] pos) (e1 sortKeysD fa) := by
  refine PE.mono (pe_callB (cr_sortKeys hc hu) hg hm2 (by decide +kernel) (pa_cons ha pa_nil he) (by decide) (by decide) he hpl) fun σ H Q hh => ?_
  obtain ⟨c, T, fp, ρ, S, d, S', ok, hf, q⟩ := hh
  obtain ⟨x, S1, h1, hf⟩ := M.bind_some hf
  refine ⟨c, T, fp, ρ, S, x, S1, ok, h1, fun v H1 F ok1 ex1 dn av r => ?_⟩
  unfold sortKeysD at hf
  cases es : dictSplit x with
  | none => simp only [es] at hf; exact (M.fail_some hf).elim
  | some pq =>
    obtain ⟨t, kvs⟩ := pq
    simp only [es] at hf
    obtain ⟨h2, h3, rfl, rfl⟩ := sorted_some hf
    obtain ⟨ds, rfl⟩ := split_some es
    obtain ⟨a, rfl, _⟩ := isD_den dn es
    refine ⟨a, ds, F, t, kvs, rfl, dn, es, h3, h2, fun H2 l ys e2 hl dl => ?_⟩
    have ok2 := ok1.grow e2
    have eH : Ext c.R H H2 := ex1.trans (e2.mono fun _ z => nomatch z)
    exact q _ _ [l] (ok2.grow (Ext.new hl)) (eH.trans (Ext.new hl)) (Den.newL hl dl) (ok2.av1 hl) (ResOk.one (eH.back0 ok2 hl))
end
end DL

/-! DS23: isinstance, index. -/
namespace DL
open PySem PySem.Spec PyProof.Rows L2
section
variable {X : Cx} {ow : Bool} {G : Sg} {m ma mb mz : Md} {a b z : Expr} {fa fb fz : EF} {pos p p2 apos cpos ipos : Pos} {x : Str} {i : Nat}
theorem pe_bty {T : String} (hg : Gl X x) (hm : X.mg x = none) (hv : bootBuiltins x = some (.type T)) (hn : x ≠ "__name__" := by decide) (hdb : (x == ("__debug__" : Str)) = false := by decide) : PE X (.Name x p) (tC (.ty T)) :=
  ⟨fun pins s σ H Q I h => ld_blt I hg hm hv ⟨.ty T, H, I, rfl, h⟩ hn hdb⟩
theorem isi_den {K : PySem.W.Frag} {H : Hp} {v : V} {d r : D} {F : List Addr} {T : PyT} {S S' : Src} (h : Den K H v d F) (e : isiD T d S = some (r, S')) : ∃ t b, TyX K H v (.type t) ∧ kitB t T.name = some b ∧ r = .bool b ∧ S' = S := by
  cases h with
  | non =>
    obtain ⟨rfl, rfl⟩ := M.pure_some e
    exact ⟨"NoneType", false, .base .non, by cases T <;> decide +kernel, rfl, rfl⟩
  | bl b =>
    obtain ⟨rfl, rfl⟩ := M.pure_some e
    exact ⟨"bool", _, .base (.bl b), by cases T <;> decide +kernel, rfl, rfl⟩
  | int i =>
    obtain ⟨rfl, rfl⟩ := M.pure_some e
    exact ⟨"int", _, .base (.int i), by cases T <;> decide +kernel, rfl, rfl⟩
  | str y =>
    obtain ⟨rfl, rfl⟩ := M.pure_some e
    exact ⟨"str", _, .base (.str y), by cases T <;> decide +kernel, rfl, rfl⟩
  | lst h l =>
    obtain ⟨rfl, rfl⟩ := M.pure_some e
    exact ⟨"list", _, .base (.lst h), by cases T <;> decide +kernel, rfl, rfl⟩
  | tup h l =>
    obtain ⟨rfl, rfl⟩ := M.pure_some e
    obtain ⟨o, h, _⟩ := h
    exact ⟨"tuple", _, .fTuple h, by cases T <;> decide +kernel, rfl, rfl⟩
  | dctK h k l =>
    simp only [isiD, split_K k] at e
    obtain ⟨rfl, rfl⟩ := M.pure_some e
    rcases h.1 with h | ⟨o, h⟩
    · exact ⟨"dict", _, .base (.dK h), by cases T <;> decide +kernel, rfl, rfl⟩
    · exact ⟨"dict", _, .fDict h, by cases T <;> decide +kernel, rfl, rfl⟩
  | dctT h k l =>
    simp only [isiD, split_T] at e
    exact (M.fail_some e).elim
theorem bty_name (T : PyT) : bootBuiltins (Str.ofString T.name) = some (.type T.name) := by cases T <;> decide +kernel
/-- isinstance(x, T) -/
theorem ev_isi (T : PyT) (hm2 : X.mg "isinstance" = none) (hmT : X.mg (Str.ofString T.name) = none) (ha : EV X G ma a fa) (hgT : Gl X (Str.ofString T.name)) (hg : Gl X "isinstance" := by rfl) (hn : (Str.ofString T.name) ≠ "__name__" := by decide) (hdb : ((Str.ofString T.name) == ("__debug__" : Str)) = false := by decide)
    (he : starEach [a, .Name (Str.ofString T.name) p2] X.env = (false, eval a X.env) :: starEach [.Name (Str.ofString T.name) p2] X.env := by rfl) (he2 : starEach [.Name (Str.ofString T.name) p2] X.env = (false, eval (.Name (Str.ofString T.name) p2) X.env) :: starEach [] X.env := by rfl)
    (hpl : (backTo pos (starEach [.Name (Str.ofString T.name) p2] X.env)).any (·.1) = false := by rfl) : EV X G .own (.Call (.Name "isinstance" p) [a, .Name (Str.ofString T.name) p2] [] pos) (e1 (isiD T) fa) := by
  refine PE.mono (pe_callB call_isi hg hm2 (by decide +kernel) (pa_cons ha (pa_cons (pe_bty hgT hmT (bty_name T) hn hdb) pa_nil he2) he) (by decide) (by decide) he hpl) (rd_1 (r := fun x H Q => rIsi X.K [x, .ty T.name] H Q) fun c T' fp ρ S S' σ H0 H x d v Fx Q ok e dx ax rx hf q => ?_)
  obtain ⟨t, b, h1, h2, rfl, rfl⟩ := isi_den dx hf
  exact ⟨v, .ty T.name, .type t, .type T.name, b, rfl, .ty _, h1, kit_ty h2, q _ H [] Ext.refl rfl (.bl _) av0 (ResOk.imm rfl)⟩
theorem find_some {d : D} : ∀ {ds : List D} {j : Nat}, findD d ds = some j → ∃ z, ds[j]? = some z ∧ PyData.eqv z d = true ∧ ∀ (m : Nat) (z' : D), m < j → ds[m]? = some z' → PyData.eqv z' d = false
  | [], _, h => nomatch h
  | y :: ys, j, h => by
    unfold findD at h
    by_cases e : PyData.eqv y d = true
    · rw [if_pos e] at h
      cases h
      exact ⟨y, rfl, e, fun m z' hm => absurd hm (by omega)⟩
    · rw [if_neg e] at h
      obtain ⟨k, hk, rfl⟩ := Option.map_eq_some_iff.mp h
      obtain ⟨z, h1, h2, h3⟩ := find_some hk
      refine ⟨z, h1, h2, fun m z' hm hz => ?_⟩
      cases m with
      | zero => cases hz; simpa using e
      | succ m => exact h3 m z' (by omega) hz
theorem index_some {x y d : D} {S S' : Src} (h : indexD x y S = some (d, S')) : ∃ ys j, seqOf x = some ys ∧ SeqAt.shaped x = true ∧ SeqAt.shaped y = true ∧ findD y ys = some j ∧ d = .int j ∧ S' = S := by
  unfold indexD at h
  cases e : seqOf x with
  | none => simp only [e] at h; exact (M.fail_some h).elim
  | some ys =>
    simp only [e] at h
    obtain ⟨h1, h⟩ := M.chk_bind h
    obtain ⟨h2, h3⟩ := and_true h1
    cases e2 : findD y ys with
    | none => simp only [e2] at h; exact (M.fail_some h).elim
    | some j =>
      simp only [e2] at h
      obtain ⟨rfl, rfl⟩ := M.pure_some h
      exact ⟨ys, j, rfl, h2, h3, e2, rfl, rfl⟩
/-- t.index(x), t a tuple without a dict of its own -/
def rIdxT (K : PySem.W.Frag) : V → List V → Hp → VK → Prop := fun x xs H Q => ∃ (a : Addr) (y : V) (d : D) (ys : List V) (ds : List D) (F : List Addr) (j : Nat) (z : D), x = .ref a ∧ xs = [y] ∧ TupAt K H a ys ∧ DenL K H ys ds F ∧ Dp K H y d ∧
  SeqAt.shaped (.tuple ds) = true ∧ SeqAt.shaped d = true ∧ ds[j]? = some z ∧ PyData.eqv z d = true ∧ (∀ (m : Nat) (z' : D), m < j → ds[m]? = some z' → PyData.eqv z' d = false) ∧ Q (.int j) H
theorem mt_idxT (hu : X.A.units + 65 < cLine) : MtR X "tuple.index" (rIdxT X.K) := by
  intro pins s σ H x xs v us Q I rx rxs h
  obtain ⟨a, y, d, ys, ds, F, j, z, rfl, rfl, ht, dn, hy, st, sd, hz, hj, hno, q⟩ := h
  cases rx
  obtain ⟨uy, rfl, ry⟩ : ∃ uy, us = [uy] ∧ RelV y uy := by
    cases rxs with
    | cons r t => cases t; exact ⟨_, rfl, r⟩
  obtain ⟨bs, r1⟩ := Dp.reads I d y uy hy ry
  have lay : PyData.canLayAll0 ds = true := SeqAt.canLay_of_shaped st
  obtain ⟨ob, ht, tc, td⟩ := ht
  obtain ⟨e1, _, its, rv, ⟨ob', e2, _, n, e3⟩⟩ := (show ObjOk X.prog X.w H s.heap a (.frz ob (.tup ys)) from I.hok a _ ht)
  rw [e1] at e2
  cases e2
  obtain ⟨cls, dd, data, sls⟩ := ob
  simp only at tc td e3
  subst tc td e3
  obtain ⟨as, r4⟩ := Dp.readsAll I ds ys its (dn.dpN (PyData.hasDictAll_of_canLayAll ds lay)) rv
  have hmap := SeqAt.readsAll_map ds its as lay r4
  have look : ∀ (m : Nat) (hm : m < its.toArray.size) (z' : D), ds[m]? = some z' → SeqAt.readOf s.heap its.toArray[m] = z' := fun m hm z' h => by
    have hml : m < its.length := by simpa using hm
    rw [← hmap, List.getElem?_map, List.getElem?_eq_getElem hml] at h
    simpa using h
  have hl : its.length = ds.length := by rw [← hmap, List.length_map]
  have hjd : j < ds.length := (List.getElem?_eq_some_iff.mp hz).1
  have hja : j < its.toArray.size := by simpa [hl] using hjd
  have eqs := SeqAt.items_eqAt (A := X.A) (vs := its.toArray) (show ReadsAll s.heap its.toArray.toList ds as by simpa using r4) r1 lay (SeqAt.canLay_of_shaped sd) (room_in_shaped sd hu)
  refine call_meets PySem.F.slot_tuple_index ⟨_, e1, rfl⟩ PySem.F.entry_tuple_index (PySem.F.args_tuple_index_2 _ _)
    (SeqAt.tuple_index2_found a its.toArray n none sls uy (fun i => ((its.toArray[i]?).map fun u => PyData.eqv (SeqAt.readOf s.heap u) d).getD false) j hja (Nat.zero_le _) hja ?_ fun m hm _ hmj => ?_) ⟨e1, fun i hi => ?_, .int j, H, I.tok _, ⟨_, rfl⟩, q⟩
  · show ((its.toArray[j]?).map _).getD false = true
    rw [Array.getElem?_eq_getElem hja, Option.map_some, Option.getD_some, look j hja z hz]
    exact hj
  · show ((its.toArray[m]?).map _).getD false = false
    have hmd : m < ds.length := by rw [← hl]; simpa using hm
    rw [Array.getElem?_eq_getElem hm, Option.map_some, Option.getD_some, look m hm _ (List.getElem?_eq_getElem hmd)]
    exact hno m _ hmj (List.getElem?_eq_getElem hmd)
  · rw [Array.getElem?_eq_getElem hi, Option.map_some, Option.getD_some]
    exact eqs _ (Array.getElem_mem hi)
def tIdx (K : PySem.W.Frag) (to : TE) (t : TA) : TE := fun σ H Q => to σ H fun x H1 => ∃ a, x = .ref a ∧ (((∃ xs, H1 a = some (.lst xs)) ∧ t σ H1 fun ys H2 => rIndexD K x ys H2 Q) ∨ ((∃ xs, TupAt K H1 a xs) ∧ t σ H1 fun ys H2 => rIdxT K x ys H2 Q))
theorem pe_idx {o e : Expr} {to : TE} {t : TA} (hu : X.A.units + 65 < cLine) (ho : PE X o to) (ha : PA X [e] t) (hbase : attributeBase o "index" X.env (eval o X.env) = eval o X.env := by rfl)
    (hfew : ((backTo cpos (starEach [e] X.env)).all (fun x => !x.1) && (backToKw cpos (keywordEach [] X.env)).all (fun x => x.1.isSome) && decide ([e].length + ([] : List Keyword).length + (if ([] : List Keyword).isEmpty then 0 else 1) < 30)) = true := by rfl)
    (hline : (apos.endLine == cpos.line) = true := by rfl) (hs : starEach [e] X.env = (false, eval e X.env) :: starEach [] X.env := by rfl) (hplain : (backTo cpos (starEach [] X.env)).any (·.1) = false := by rfl) : PE X (.Call (.Attribute o "index" apos) [e] [] cpos) (tIdx X.K to t) := by
  refine ⟨fun pins s σ H Q I h => wpAny_Call_method_late hbase hfew hline rfl (thn (ho.run pins s σ H _ I h) fun v s1 ⟨x, H1, I1, r1, a, ex, q1⟩ => ?_)⟩
  subst ex
  cases r1
  have fin : ∀ {id : String} {r : V → List V → Hp → VK → Prop}, MtR X id r → (t σ H1 fun ys H2 => r (.ref a) ys H2 Q) → wpAny (model X.prog X.w) X.A (callWith cpos (.builtin id) [.ref a] (backTo cpos (starEach [e] X.env)) []) (EP X pins σ Q) X.xe s1 := fun hm q => by
    have hA := ha.run cpos pins s1 σ H1 _ I1 q
    rw [hs] at hA ⊢
    exact Calls.callWith_builtin (by show (false || (backTo cpos (starEach [] X.env)).any (·.1)) = false; rw [hplain] <;> rfl) (Calls.evalArgs_plain (thn hA fun us s2 ⟨vs, H2, I2, r2, q2⟩ => hm pins s2 σ H2 (.ref a) vs _ us Q I2 rfl r2 q2))
  rcases q1 with ⟨⟨xs, hl⟩, q⟩ | ⟨⟨xs, o', ht, tc, td⟩, q⟩
  · obtain ⟨_, its, n, _, e1⟩ := (show ObjOk X.prog X.w H1 s1.heap a (.lst xs) from I1.hok a _ hl)
    exact ⟨"list", "list.index", PySem.F.plainAttrs_list, PySem.F.slot_list_index, PySem.F.type_list_index, ⟨_, e1, rfl⟩, fun b z => by cases z; exact ⟨_, e1, rfl⟩, fin (mt_indexD hu) q⟩
  · obtain ⟨e1, _⟩ := (show ObjOk X.prog X.w H1 s1.heap a (.frz o' (.tup xs)) from I1.hok a _ ht)
    exact ⟨"tuple", "tuple.index", PySem.F.plainAttrs_tuple, PySem.F.slot_tuple_index, PySem.F.type_tuple_index, ⟨_, e1, tc⟩, fun b z => by cases z; exact ⟨_, e1, td⟩, fin (mt_idxT hu) q⟩
/-- o.index(e) -/
theorem ev_index {o e : Expr} {fo fe : EF} (hu : X.A.units + 65 < cLine) (ho : EV X G ma o fo) (he : EV X G mb e fe) (hbase : attributeBase o "index" X.env (eval o X.env) = eval o X.env := by rfl)
    (hfew : ((backTo cpos (starEach [e] X.env)).all (fun x => !x.1) && (backToKw cpos (keywordEach [] X.env)).all (fun x => x.1.isSome) && decide ([e].length + ([] : List Keyword).length + (if ([] : List Keyword).isEmpty then 0 else 1) < 30)) = true := by rfl)
    (hline : (apos.endLine == cpos.line) = true := by rfl) (hs : starEach [e] X.env = (false, eval e X.env) :: starEach [] X.env := by rfl) (hplain : (backTo cpos (starEach [] X.env)).any (·.1) = false := by rfl) : EV X G .own (.Call (.Attribute o "index" apos) [e] [] cpos) (e2 indexD fo fe) := by
  refine PE.mono (pe_idx hu ho (pa_cons he pa_nil hs) hbase hfew hline hs hplain) fun σ H Q hh => ?_
  obtain ⟨c, T, fp, ρ, S, d, S', ok, hf, q⟩ := hh
  obtain ⟨x, S1, h1, hf⟩ := M.bind_some hf
  obtain ⟨y, S2, h2, hf⟩ := M.bind_some hf
  obtain ⟨ys, j, g1, g2, g3, g4, rfl, rfl⟩ := index_some hf
  obtain ⟨z, k1, k2, k3⟩ := find_some g4
  refine ⟨c, T, fp, ρ, S, x, S1, ok, h1, fun v H1 Fx ok1 ex1 dx ax rx => ?_⟩
  have nR : ∀ {F : List Addr}, (∀ a ∈ F, ¬ c.P a) → ∀ a ∈ F, a ∉ c.R := fun h a ha => ok.notR (h a ha)
  have dy' : ∀ {H2 w Fy}, Den X.K H2 w y Fy → Dp X.K H2 w y := fun dy => dy.dp (SeqAt.canLay_of_shaped g3)
  cases x with
  | list ds =>
    cases g1
    cases dx with
    | lst hl dl =>
      refine ⟨_, rfl, .inl ⟨⟨_, hl⟩, c, T, fp, ρ, S1, y, _, ok1, h2, fun w H2 Fy ok2 ex2 dy ay ry => ?_⟩⟩
      have dx2 := (Den.lst hl dl).ext ex2 (nR ax)
      exact ⟨_, w, y, _, j, z, rfl, rfl, dx2.dp (SeqAt.canLay_of_shaped g2), dy' dy, g2, g3, k1, k2, k3, q _ H2 [] ok2 (ex1.trans ex2) (.int _) av0 (ResOk.imm rfl)⟩
  | tuple ds =>
    cases g1
    cases dx with
    | tup ht dl =>
      refine ⟨_, rfl, .inr ⟨⟨_, ht⟩, c, T, fp, ρ, S1, y, _, ok1, h2, fun w H2 Fy ok2 ex2 dy ay ry => ?_⟩⟩
      exact ⟨_, w, y, _, _, _, j, z, rfl, rfl, ht.ext ex2, dl.ext ex2 (nR ax), dy' dy, g2, g3, k1, k2, k3, q _ H2 [] ok2 (ex1.trans ex2) (.int _) av0 (ResOk.imm rfl)⟩
  | _ => cases g1
end
theorem hu65 {A : Around} {k : Nat} (hr : Room k A) : A.units + 65 < cLine := by have := hr.un; omega
end DL

/-! DP: what terms evaluate to, in plain Lean. -/
namespace DL
open PySem

section runs
variable {α β : Type} {ρ : Env} {S : Src} {i : Nat}
theorem mbind (x : M α) (f : α → M β) (S : Src) : (x >>= f) S = (x S).bind fun p => f p.1 p.2 := rfl
theorem mpure (a : α) (S : Src) : (pure a : M α) S = some (a, S) := rfl
@[simp] theorem run_var : eVar i ρ S = (ρ[i]?).bind fun o => o.map fun d => (d, S) := by
  unfold eVar
  cases ρ[i]? with
  | none => rfl
  | some o => cases o <;> rfl
@[simp] theorem run_c {d : D} : eC d ρ S = some (d, S) := rfl
@[simp] theorem run_1 {op : D → M D} {f : EF} : e1 op f ρ S = (f ρ S).bind fun p => op p.1 p.2 := rfl
@[simp] theorem run_2 {op : D → D → M D} {f g : EF} : e2 op f g ρ S = (f ρ S).bind fun p => (g ρ p.2).bind fun q => op p.1 q.1 q.2 := rfl
@[simp] theorem run_3 {op : D → D → D → M D} {f g h : EF} : e3 op f g h ρ S = (f ρ S).bind fun p => (g ρ p.2).bind fun q => (h ρ q.2).bind fun r => op p.1 q.1 r.1 r.2 := rfl
theorem chk_run (b : Bool) (S : Src) : chk b S = if b = true then some ((), S) else none := by
  unfold chk
  split <;> rfl
@[simp] theorem run_imm {f : EF} : eImm f ρ S = (f ρ S).bind fun p => if imm p.1 = true then some (p.1, p.2) else none := by
  unfold eImm
  rw [mbind]
  congr 1
  funext p
  rw [mbind, chk_run]
  split <;> rfl
@[simp] theorem run_lnil : lNil ρ S = some ([], S) := rfl
@[simp] theorem run_lcons {f : EF} {g : LF} : lCons f g ρ S = (f ρ S).bind fun p => (g ρ p.2).bind fun q => some (p.1 :: q.1, q.2) := rfl
@[simp] theorem run_lstar {f : EF} {g : LF} : lStar f g ρ S = (f ρ S).bind fun p => (g ρ p.2).bind fun q => (seqOf p.1).bind fun ys => if immAll ys = true then some (ys ++ q.1, q.2) else none := by
  unfold lStar
  rw [mbind]
  congr 1
  funext p
  rw [mbind]
  congr 1
  funext q
  cases seqOf p.1 with
  | none => rfl
  | some ys =>
    show (chk _ >>= _) _ = _
    rw [mbind, chk_run]
    show _ = if _ then _ else _
    split <;> rfl
@[simp] theorem run_tup {f : LF} : eTup f ρ S = (f ρ S).bind fun p => if fit p.1.length = true then some (.tuple p.1, p.2) else none := by
  unfold eTup
  rw [mbind]
  congr 1
  funext p
  rw [mbind, chk_run]
  split <;> rfl
@[simp] theorem run_lst {f : LF} : eLst f ρ S = (f ρ S).bind fun p => if fit p.1.length = true then some (.list p.1, p.2) else none := by
  unfold eLst
  rw [mbind]
  congr 1
  funext p
  rw [mbind, chk_run]
  split <;> rfl
@[simp] theorem run_call {m : List D → M D} {f : LF} : eCall m f ρ S = (f ρ S).bind fun p => (m p.1 p.2).bind fun q => some (q.1, p.2) := by
  unfold eCall
  rw [mbind]
  congr 1
  funext p
  show Option.map _ _ = _
  cases m p.1 p.2 <;> rfl
@[simp] theorem run_callM {m : List D → M D} {f : LF} : eCallM m f ρ S = (f ρ S).bind fun p => m p.1 p.2 := rfl
@[simp] theorem run_if {c : TF} {f g : EF} : eIf c f g ρ S = (c ρ S).bind fun p => if p.1 = true then f ρ p.2 else g ρ p.2 := by
  unfold eIf
  rw [mbind]
  congr 1
  funext p
  split <;> rfl
@[simp] theorem run_eB {c : TF} : eB c ρ S = (c ρ S).bind fun p => some (.bool p.1, p.2) := rfl
def boolOf : D → Option Bool
  | .bool b => some b
  | _ => none
@[simp] theorem boolOf_bool (b : Bool) : boolOf (.bool b) = some b := rfl
@[simp] theorem run_tB {f : EF} : tB f ρ S = (f ρ S).bind fun p => (boolOf p.1).map fun b => (b, p.2) := by
  unfold tB
  rw [mbind]
  congr 1
  funext p
  cases p.1 <;> rfl
@[simp] theorem run_tNot {t : TF} : tNot t ρ S = (t ρ S).bind fun p => some (!p.1, p.2) := rfl
@[simp] theorem run_tAnd {t u : TF} : tAnd t u ρ S = (t ρ S).bind fun p => if p.1 = true then u ρ p.2 else some (false, p.2) := by
  unfold tAnd
  rw [mbind]
  congr 1
  funext p
  split <;> rfl
@[simp] theorem run_tOr {t u : TF} : tOr t u ρ S = (t ρ S).bind fun p => if p.1 = true then some (true, p.2) else u ρ p.2 := by
  unfold tOr
  rw [mbind]
  congr 1
  funext p
  split <;> rfl
@[simp] theorem run_tYes : tYes ρ S = some (true, S) := rfl
@[simp] theorem run_eAnd {f g : EF} : eAnd f g ρ S = (f ρ S).bind fun p => (boolOf p.1).bind fun b => if b = true then g ρ p.2 else some (.bool false, p.2) := by
  unfold eAnd
  rw [mbind]
  congr 1
  funext p
  cases p.1 with
  | bool b => cases b <;> rfl
  | _ => rfl
@[simp] theorem run_eOr {f g : EF} : eOr f g ρ S = (f ρ S).bind fun p => (boolOf p.1).bind fun b => if b = true then some (.bool true, p.2) else g ρ p.2 := by
  unfold eOr
  rw [mbind]
  congr 1
  funext p
  cases p.1 with
  | bool b => cases b <;> rfl
  | _ => rfl
@[simp] theorem run_not {b : Bool} : notD (.bool b) S = some (.bool (!b), S) := rfl
/-! operators -/
@[simp] theorem run_add {o : Bool} {a b : Int} : addD o (.int a) (.int b) S = some (.int (a + b), S) := rfl
@[simp] theorem run_addT {o : Bool} {a b : List D} : addD o (.tuple a) (.tuple b) S = if fit (a.length + b.length) = true ∧ (!o || (immAll a && immAll b)) = true then some (.tuple (a ++ b), S) else none := by
  unfold addD
  show (chk _ >>= _) _ = _
  rw [mbind, chk_run]
  by_cases h1 : fit (a.length + b.length) = true
  · rw [if_pos h1, Option.bind_some]
    show (chk _ >>= _) _ = _
    rw [mbind, chk_run]
    by_cases h2 : (!o || (immAll a && immAll b)) = true
    · rw [if_pos h2, if_pos ⟨h1, h2⟩]; rfl
    · rw [if_neg h2, if_neg (fun z => h2 z.2)]; rfl
  · rw [if_neg h1, if_neg (fun z => h1 z.1)]; rfl
@[simp] theorem run_addL {o : Bool} {a b : List D} : addD o (.list a) (.list b) S = if fit (a.length + b.length) = true ∧ (!o || (immAll a && immAll b)) = true then some (.list (a ++ b), S) else none := by
  unfold addD
  show (chk _ >>= _) _ = _
  rw [mbind, chk_run]
  by_cases h1 : fit (a.length + b.length) = true
  · rw [if_pos h1, Option.bind_some]
    show (chk _ >>= _) _ = _
    rw [mbind, chk_run]
    by_cases h2 : (!o || (immAll a && immAll b)) = true
    · rw [if_pos h2, if_pos ⟨h1, h2⟩]; rfl
    · rw [if_neg h2, if_neg (fun z => h2 z.2)]; rfl
  · rw [if_neg h1, if_neg (fun z => h1 z.1)]; rfl
@[simp] theorem run_sub {a b : Int} : subD (.int a) (.int b) S = some (.int (a - b), S) := rfl
theorem run_mul {a b : Int} (h : small64 a = true ∨ small64 b = true) : mulD (.int a) (.int b) S = some (.int (a * b), S) := by
  unfold mulD
  show (chk _ >>= _) _ = _
  rw [mbind, chk_run, if_pos (by simpa using h)]
  rfl
theorem run_fdiv {a b : Int} (h : b ≠ 0 ∧ b.natAbs < 1073741824) : fdivD (.int a) (.int b) S = some (.int (a.fdiv b), S) := by
  unfold fdivD
  show (chk _ >>= _) _ = _
  rw [mbind, chk_run, if_pos (by simpa using h)]
  rfl
theorem run_mod {a b : Int} (h : b ≠ 0) : modD (.int a) (.int b) S = some (.int (a.fmod b), S) := by
  unfold modD
  show (chk _ >>= _) _ = _
  rw [mbind, chk_run, if_pos (by simpa using h)]
  rfl
@[simp] theorem run_neg {a : Int} : negD (.int a) S = some (.int (-a), S) := rfl
@[simp] theorem run_int {a : Int} : intD (.int a) S = some (.int a, S) := rfl
@[simp] theorem run_intB {a : Bool} : intD (.bool a) S = some (.int (if a then 1 else 0), S) := rfl
@[simp] theorem run_max {a b : Int} : max2D (.int a) (.int b) S = some (.int (if b > a then b else a), S) := rfl
@[simp] theorem run_min {a b : Int} : min2D (.int a) (.int b) S = some (.int (if b < a then b else a), S) := rfl
@[simp] theorem run_cm {c : Cm} {a b : Int} : cmD c (.int a) (.int b) S = some (.bool (cmI c a b), S) := rfl
@[simp] theorem cm_lt {a b : Int} : cmI .lt a b = decide (a < b) := rfl
@[simp] theorem cm_le {a b : Int} : cmI .le a b = decide (a ≤ b) := rfl
@[simp] theorem cm_gt {a b : Int} : cmI .gt a b = decide (b < a) := rfl
@[simp] theorem cm_ge {a b : Int} : cmI .ge a b = decide (b ≤ a) := rfl
theorem run_eq {n : Bool} {x y : D} (hx : SeqAt.shaped x = true) (hy : SeqAt.shaped y = true) : eqD n x y S = some (.bool (if n = true then !PyData.eqv x y else PyData.eqv x y), S) := by
  unfold eqD
  rw [mbind, chk_run, if_pos (by rw [hx, hy]; rfl)]
  rfl
@[simp] theorem run_eqI {n : Bool} {a b : Int} : eqD n (.int a) (.int b) S = some (.bool (if n = true then !decide (a = b) else decide (a = b)), S) := by
  rw [run_eq (by rfl) (by rfl)]
  simp only [PyData.eqv]
  rfl
@[simp] theorem run_is {n : Bool} {x : D} : isD n x S = some (.bool (if n = true then !isNoneD x else isNoneD x), S) := rfl
@[simp] theorem run_isB {n c b : Bool} : isBD n c (.bool b) S = some (.bool (if n = true then !(b == c) else b == c), S) := rfl
@[simp] theorem isNone_none : isNoneD .none = true := rfl
@[simp] theorem isNone_tup {xs : List D} : isNoneD (.tuple xs) = false := rfl
@[simp] theorem isNone_int {a : Int} : isNoneD (.int a) = false := rfl
/-! items -/
@[simp] theorem seqOf_list {xs : List D} : seqOf (.list xs) = some xs := rfl
@[simp] theorem seqOf_tup {xs : List D} : seqOf (.tuple xs) = some xs := rfl
theorem ixD_nat {n k : Nat} (h : k < n) : ixD n (k : Int) = some k := by
  unfold ixD
  rw [if_pos (by omega), Int.toNat_natCast]
theorem ixD_last {n : Nat} (h : 0 < n) : ixD n (-1) = some (n - 1) := by
  unfold ixD
  rw [if_neg (by omega), if_pos (by omega)]
  congr 1
  omega
theorem run_idx {x d : D} {xs : List D} {i : Int} {k : Nat} (hx : seqOf x = some xs) (hk : ixD xs.length i = some k) (hd : xs[k]? = some d) : idxD x (.int i) S = some (d, S) := by
  show (match seqOf x with
    | some xs => match ((ixD xs.length i).bind fun j => xs[j]?) with
      | some d => pure d
      | none => fail
    | none => fail : M D) S = _
  simp only [hx, hk, Option.bind_some, hd]
  rfl
theorem run_idxT {d : D} {xs : List D} {k : Nat} (hd : xs[k]? = some d) : idxD (.tuple xs) (.int k) S = some (d, S) := run_idx rfl (ixD_nat (List.getElem?_eq_some_iff.mp hd).1) hd
theorem run_idxL {d : D} {xs : List D} {k : Nat} (hd : xs[k]? = some d) : idxD (.list xs) (.int k) S = some (d, S) := run_idx rfl (ixD_nat (List.getElem?_eq_some_iff.mp hd).1) hd
@[simp] theorem run_idxT0 {x : D} {xs : List D} : idxD (.tuple (x :: xs)) (.int 0) S = some (x, S) := run_idxT (k := 0) rfl
@[simp] theorem run_idxT1 {x y : D} {xs : List D} : idxD (.tuple (x :: y :: xs)) (.int 1) S = some (y, S) := run_idxT (k := 1) rfl
@[simp] theorem run_idxT2 {x y z : D} {xs : List D} : idxD (.tuple (x :: y :: z :: xs)) (.int 2) S = some (z, S) := run_idxT (k := 2) rfl
@[simp] theorem run_idxT3 {x y z u : D} {xs : List D} : idxD (.tuple (x :: y :: z :: u :: xs)) (.int 3) S = some (u, S) := run_idxT (k := 3) rfl
theorem run_lastL {d : D} {xs : List D} : idxD (.list (xs ++ [d])) (.int (-1)) S = some (d, S) := run_idx rfl (ixD_last (by simp)) (by simp)
theorem run_lastT {d : D} {xs : List D} : idxD (.tuple (xs ++ [d])) (.int (-1)) S = some (d, S) := run_idx rfl (ixD_last (by simp)) (by simp)
def intOf : D → Option Int
  | .int i => some i
  | _ => none
@[simp] theorem intOf_int {a : Int} : intOf (.int a) = some a := rfl
@[simp] theorem run_part0 : partD none ρ S = some (none, S) := rfl
@[simp] theorem run_part {f : EF} : partD (some f) ρ S = (f ρ S).bind fun p => (intOf p.1).map fun i => (some i, p.2) := by
  show (f ρ >>= _) S = _
  rw [mbind]
  congr 1
  funext p
  cases p.1 <;> rfl
@[simp] theorem run_eSlice {o : Bool} {f : EF} {lo hi : Option EF} : eSlice o f lo hi ρ S = (f ρ S).bind fun p => (partD lo ρ p.2).bind fun q => (partD hi ρ q.2).bind fun r => sliceD o q.1 r.1 p.1 r.2 := rfl
@[simp] theorem run_sliceT {o : Bool} {lo hi : Option Int} {xs : List D} : sliceD o lo hi (.tuple xs) S = if (!o || immAll xs) = true then some (.tuple (cutD xs lo hi), S) else none := by
  unfold sliceD
  show (chk _ >>= _) _ = _
  rw [mbind, chk_run]
  split <;> rfl
@[simp] theorem run_sliceL {o : Bool} {lo hi : Option Int} {xs : List D} : sliceD o lo hi (.list xs) S = if (!o || immAll xs) = true then some (.list (cutD xs lo hi), S) else none := by
  unfold sliceD
  show (chk _ >>= _) _ = _
  rw [mbind, chk_run]
  split <;> rfl
@[simp] theorem run_revT {o : Bool} {xs : List D} : revD o (.tuple xs) S = if (!o || immAll xs) = true then some (.tuple xs.reverse, S) else none := by
  unfold revD
  show (chk _ >>= _) _ = _
  rw [mbind, chk_run]
  split <;> rfl
@[simp] theorem run_revL {o : Bool} {xs : List D} : revD o (.list xs) S = if (!o || immAll xs) = true then some (.list xs.reverse, S) else none := by
  unfold revD
  show (chk _ >>= _) _ = _
  rw [mbind, chk_run]
  split <;> rfl
theorem cut_from {xs : List D} {k : Nat} : cutD xs (some (k : Int)) none = xs.drop k := by
  unfold cutD slD
  simp only [Int.natCast_nonneg, ↓reduceIte, Int.toNat_natCast]
  rw [List.take_of_length_le (by simp)]
  by_cases h : k ≤ xs.length
  · rw [Nat.min_eq_left h]
  · rw [Nat.min_eq_right (by omega), List.drop_of_length_le (Nat.le_refl _), List.drop_of_length_le (by omega)]
theorem cut_to {xs : List D} {k : Nat} : cutD xs none (some (k : Int)) = xs.take k := by
  unfold cutD slD
  simp only [Int.natCast_nonneg, ↓reduceIte, Int.toNat_natCast, List.drop_zero, Nat.sub_zero]
  by_cases h : k ≤ xs.length
  · rw [Nat.min_eq_left h]
  · rw [Nat.min_eq_right (by omega), List.take_of_length_le (Nat.le_refl _), List.take_of_length_le (by omega)]
theorem cut_mid {xs : List D} {j k : Nat} : cutD xs (some (j : Int)) (some (k : Int)) = (xs.drop j).take (k - j) := by
  unfold cutD slD
  simp only [Int.natCast_nonneg, ↓reduceIte, Int.toNat_natCast]
  by_cases h : j ≤ xs.length
  · rw [Nat.min_eq_left h]
    by_cases h2 : k ≤ xs.length
    · rw [Nat.min_eq_left h2]
    · rw [Nat.min_eq_right (by omega), List.take_of_length_le (by simp), List.take_of_length_le (by simp; omega)]
  · rw [Nat.min_eq_right (a := j) (by omega), List.drop_of_length_le (Nat.le_refl _), List.drop_of_length_le (by omega)]
    simp
/-! built-in functions -/
@[simp] theorem run_lenL {xs : List D} : lenD (.list xs) S = some (.int xs.length, S) := rfl
@[simp] theorem run_lenT {xs : List D} : lenD (.tuple xs) S = some (.int xs.length, S) := rfl
@[simp] theorem run_tuple {o : Bool} {x : D} : tupleD o x S = (seqOf x).bind fun xs => if (!o || immAll xs) = true then some (.tuple xs, S) else none := by
  unfold tupleD
  cases seqOf x with
  | none => rfl
  | some xs =>
    show (chk _ >>= _) _ = _
    rw [mbind, chk_run]
    show _ = if _ then _ else _
    split <;> rfl
@[simp] theorem run_list {o : Bool} {x : D} : listD o x S = (seqOf x).bind fun xs => if (!o || immAll xs) = true then some (.list xs, S) else none := by
  unfold listD
  cases seqOf x with
  | none => rfl
  | some xs =>
    show (chk _ >>= _) _ = _
    rw [mbind, chk_run]
    show _ = if _ then _ else _
    split <;> rfl
theorem intsOf_map (ns : List Int) : intsOf (ns.map .int) = some ns := by
  induction ns with
  | nil => rfl
  | cons n r ih => simp only [List.map_cons, intsOf, ih, Option.map_some]
theorem boolsOf_map (ns : List Bool) : boolsOf (ns.map .bool) = some ns := by
  induction ns with
  | nil => rfl
  | cons n r ih => simp only [List.map_cons, boolsOf, ih, Option.map_some]
theorem run_sum {x : D} {ns : List Int} (h : seqOf x = some (ns.map .int)) : sumD x S = some (.int ns.sum, S) := by
  unfold sumD
  rw [h, Option.bind_some, intsOf_map]
  rfl
theorem run_all {bs : List Bool} : allD (.list (bs.map .bool)) S = some (.bool (bs.all id), S) := by
  show (match boolsOf (bs.map .bool) with
    | some bs => pure (.bool (bs.all id))
    | none => fail : M D) S = _
  rw [boolsOf_map]
  rfl
theorem run_any {bs : List Bool} : anyD (.list (bs.map .bool)) S = some (.bool (bs.any id), S) := by
  show (match boolsOf (bs.map .bool) with
    | some bs => pure (.bool (bs.any id))
    | none => fail : M D) S = _
  rw [boolsOf_map]
  rfl
theorem run_sorted {x : D} {xs : List D} (h : seqOf x = some xs) (hs : sortable xs = true) (hi : immAll xs = true) : sortedD x S = some (.list (xs.mergeSort leD), S) := by
  unfold sortedD
  rw [h]
  show (chk _ >>= _) _ = _
  rw [mbind, chk_run, if_pos (by rw [hs, hi]; rfl)]
  rfl
theorem run_repr {x : D} (h1 : x.showable = true) (h2 : fit x.shown.length = true) (h3 : x.hasDict = false) (h4 : x.depth ≤ 64) : reprD x S = some (.str x.shown, S) := by
  unfold reprD
  rw [mbind, chk_run, if_pos (by rw [h1, h2, h3]; simpa using h4)]
  rfl
theorem run_best {F : D → List D → D} {x d : D} {ds : List D} (h : seqOf x = some (d :: ds)) (ha : alikes (d :: ds) = true) : bestD F x S = some (F d ds, S) := by
  unfold bestD
  rw [h]
  show (chk _ >>= _) _ = _
  rw [mbind, chk_run, if_pos ha]
  rfl
/-! what loops walk -/
@[simp] theorem run_wSeq {f : EF} : wSeq f ρ S = (f ρ S).bind fun p => (seqOf p.1).map fun xs => (xs, p.2) := by
  unfold wSeq
  rw [mbind]
  congr 1
  funext p
  cases seqOf p.1 <;> rfl
@[simp] theorem run_wRange1 {f : EF} : wRange1 f ρ S = (f ρ S).bind fun p => (intOf p.1).bind fun n => if rng62 n = true then some (rngD 0 n, p.2) else none := by
  unfold wRange1
  rw [mbind]
  congr 1
  funext p
  cases p.1 with
  | int n =>
    show (chk _ >>= _) _ = _
    rw [mbind, chk_run]
    show _ = if _ then _ else _
    split <;> rfl
  | _ => rfl
@[simp] theorem run_wRange2 {f g : EF} : wRange2 f g ρ S = (f ρ S).bind fun p => (g ρ p.2).bind fun q => (intOf p.1).bind fun a => (intOf q.1).bind fun b => if (rng62 a && rng62 b) = true then some (rngD a b, q.2) else none := by
  unfold wRange2
  rw [mbind]
  congr 1
  funext p
  rw [mbind]
  congr 1
  funext q
  cases p.1 with
  | int n =>
    cases q.1 with
    | int m =>
      show (chk _ >>= _) _ = _
      rw [mbind, chk_run]
      show _ = if _ then _ else _
      split <;> rfl
    | _ => rfl
  | _ => rfl
@[simp] theorem run_wEnum {f : EF} : wEnum f ρ S = (f ρ S).bind fun p => (seqOf p.1).map fun xs => (enumD 0 xs, p.2) := by
  unfold wEnum
  rw [mbind]
  congr 1
  funext p
  cases seqOf p.1 <;> rfl
@[simp] theorem run_listOf {w : LF} : eListOf w ρ S = (w ρ S).bind fun p => if fit p.1.length = true then some (.list p.1, p.2) else none := by
  unfold eListOf
  rw [mbind]
  congr 1
  funext p
  rw [mbind, chk_run]
  split <;> rfl
@[simp] theorem run_tupOf {w : LF} : eTupOf w ρ S = (w ρ S).bind fun p => if fit p.1.length = true then some (.tuple p.1, p.2) else none := by
  unfold eTupOf
  rw [mbind]
  congr 1
  funext p
  rw [mbind, chk_run]
  split <;> rfl
theorem rng_nat (n : Nat) : rngD 0 n = (List.range n).map fun (i : Nat) => (PyData.int i : D) := by
  unfold rngD
  simp
theorem rng_nat2 (a b : Nat) : rngD a b = (List.range' a (b - a)).map fun (i : Nat) => (PyData.int i : D) := by
  unfold rngD
  rw [List.range'_eq_map_range, List.map_map]
  have e : ((b : Int) - a).toNat = b - a := by omega
  rw [e]
  apply List.map_congr_left
  intro i _
  simp
theorem enum_map {γ : Type} (f : γ → D) (xs : List γ) (k : Nat) : enumD k (xs.map f) = (xs.zipIdx k).map fun p => PyData.tuple [.int p.2, f p.1] := by
  induction xs generalizing k with
  | nil => rfl
  | cons x r ih =>
    simp only [List.map_cons, enumD, List.zipIdx_cons]
    have := ih (k + 1)
    simp only [Int.natCast_add, Int.natCast_one] at this
    rw [this]
/-! targets, statements -/
@[simp] theorem run_gName {d : D} : gName i d ρ S = some (ρ.set i (some d), S) := rfl
@[simp] theorem run_gTup {gs : List GF} {xs : List D} : gTup gs (.tuple xs) ρ S = gAll gs xs ρ S := rfl
@[simp] theorem run_gAll0 : gAll [] [] ρ S = some (ρ, S) := rfl
@[simp] theorem run_gAll {g : GF} {gs : List GF} {d : D} {ds : List D} : gAll (g :: gs) (d :: ds) ρ S = (g d ρ S).bind fun p => gAll gs ds p.1 p.2 := rfl
@[simp] theorem run_next : sNext ρ S = some (.nx ρ, S) := rfl
def seqO (t : SF) : Out × Src → Option (Out × Src)
  | (.nx ρ', S) => t ρ' S
  | p => some p
@[simp] theorem seqO_nx {t : SF} : seqO t (.nx ρ, S) = t ρ S := rfl
@[simp] theorem seqO_rt {t : SF} {d : D} : seqO t (.rt d, S) = some (.rt d, S) := rfl
@[simp] theorem seqO_bk {t : SF} : seqO t (.bk ρ, S) = some (.bk ρ, S) := rfl
@[simp] theorem seqO_ct {t : SF} : seqO t (.ct ρ, S) = some (.ct ρ, S) := rfl
@[simp] theorem run_seq {s t : SF} : sSeq s t ρ S = (s ρ S).bind (seqO t) := by
  unfold sSeq
  rw [mbind]
  congr 1
  funext p
  obtain ⟨o, S1⟩ := p
  cases o <;> rfl
@[simp] theorem run_expr {f : EF} : sExpr f ρ S = (f ρ S).bind fun p => some (.nx ρ, p.2) := rfl
@[simp] theorem run_ret {f : EF} : sRet f ρ S = (f ρ S).bind fun p => some (.rt p.1, p.2) := rfl
@[simp] theorem run_break : sBreak ρ S = some (.bk ρ, S) := rfl
@[simp] theorem run_cont : sCont ρ S = some (.ct ρ, S) := rfl
@[simp] theorem run_sIf {c : TF} {s t : SF} : sIf c s t ρ S = (c ρ S).bind fun p => if p.1 = true then s ρ p.2 else t ρ p.2 := by
  unfold sIf
  rw [mbind]
  congr 1
  funext p
  split <;> rfl
@[simp] theorem run_asg {f : EF} {g : GF} : sAsg f g ρ S = (f ρ S).bind fun p => (g p.1 ρ p.2).bind fun q => some (.nx q.1, q.2) := rfl
@[simp] theorem run_par {is : List Nat} {f : LF} : sPar is f ρ S = (f ρ S).bind fun p => if (p.1.length == is.length) = true then some (.nx (setAll is p.1 ρ), p.2) else none := by
  unfold sPar
  rw [mbind]
  congr 1
  funext p
  rw [mbind, chk_run]
  split <;> rfl
@[simp] theorem setAll_cons {is : List Nat} {d : D} {ds : List D} : setAll (i :: is) (d :: ds) ρ = setAll is ds (ρ.set i (some d)) := rfl
@[simp] theorem setAll_nil {ds : List D} : setAll [] ds ρ = ρ := rfl
@[simp] theorem kill_nil : kill [] ρ = ρ := rfl
@[simp] theorem kill_cons {k : Nat} {ks : List Nat} : kill (k :: ks) ρ = kill ks (ρ.set k none) := rfl
@[simp] theorem run_turn {g : GF} {b : SF} {x : D} : turnD g b x ρ S = (g x ρ S).bind fun p => b p.1 p.2 := rfl
@[simp] theorem run_for {w : LF} {g : GF} {b : SF} : sFor w g b ρ S = (w ρ S).bind fun p => forD (turnD g b) p.1 ρ p.2 := rfl
@[simp] theorem run_while {N : Nat} {c : TF} {b : SF} : sWhile N c b ρ S = whileD c b N ρ S := rfl
def loopO (k : Env → Src → Option (Out × Src)) : Out × Src → Option (Out × Src)
  | (.nx ρ', S) => k ρ' S
  | (.ct ρ', S) => k ρ' S
  | (.bk ρ', S) => some (.nx ρ', S)
  | (.rt d, S) => some (.rt d, S)
@[simp] theorem loopO_nx {k : Env → Src → Option (Out × Src)} : loopO k (.nx ρ, S) = k ρ S := rfl
@[simp] theorem loopO_ct {k : Env → Src → Option (Out × Src)} : loopO k (.ct ρ, S) = k ρ S := rfl
@[simp] theorem loopO_bk {k : Env → Src → Option (Out × Src)} : loopO k (.bk ρ, S) = some (.nx ρ, S) := rfl
@[simp] theorem loopO_rt {k : Env → Src → Option (Out × Src)} {d : D} : loopO k (.rt d, S) = some (.rt d, S) := rfl
@[simp] theorem forD_nil {b : D → SF} : forD b [] ρ S = some (.nx ρ, S) := rfl
theorem forD_cons {b : D → SF} {x : D} {xs : List D} : forD b (x :: xs) ρ S = (b x ρ S).bind (loopO (forD b xs)) := by
  show (b x ρ >>= _) S = _
  rw [mbind]
  congr 1
  funext p
  obtain ⟨o, S1⟩ := p
  cases o <;> rfl
theorem whileD_succ {n : Nat} {c : TF} {b : SF} : whileD c b (n + 1) ρ S = (c ρ S).bind fun p => if p.1 = true then (b ρ p.2).bind (loopO (whileD c b n)) else some (.nx ρ, p.2) := by
  show (c ρ >>= _) S = _
  rw [mbind]
  congr 1
  funext p
  split
  · show (b ρ >>= _) p.2 = _
    rw [mbind]
    congr 1
    funext p
    obtain ⟨o, S1⟩ := p
    cases o <;> rfl
  · rfl
@[simp] theorem run_comp {vs : List Nat} {w : LF} {g : GF} {t : TF} {e : EF} : eComp vs w g t e ρ S = (w ρ S).bind fun p => (compD g t e (kill vs ρ) p.1 p.2).bind fun q => if fit q.1.length = true then some (.list q.1, q.2) else none := by
  unfold eComp
  rw [mbind]
  congr 1
  funext p
  rw [mbind]
  congr 1
  funext q
  rw [mbind, chk_run]
  split <;> rfl
@[simp] theorem run_comp2 {vs vs1 : List Nat} {w w1 : LF} {g g1 : GF} {t t1 : TF} {e : EF} : eComp2 vs vs1 w g t w1 g1 t1 e ρ S = (w ρ S).bind fun p => (compD2 vs1 g t w1 g1 t1 e (kill vs ρ) p.1 p.2).bind fun q => if fit q.1.length = true then some (.list q.1, q.2) else none := by
  unfold eComp2
  rw [mbind]
  congr 1
  funext p
  rw [mbind]
  congr 1
  funext q
  rw [mbind, chk_run]
  split <;> rfl
def listOf? : D → Option (List D)
  | .list xs => some xs
  | _ => none
theorem run_append {x : Nat} {fe : EF} {v : D} {S1 : Src} {xs : List D} (hv : fe ρ S = some (v, S1)) (hx : ρ[x]? = some (some (.list xs))) (hl : xs.length < sizeLine) : sAppend x fe ρ S = some (.nx (ρ.set x (some (.list (xs ++ [v])))), S1) := by
  unfold sAppend
  rw [mbind, hv, Option.bind_some]
  simp only [hx]
  rw [mbind, chk_run, if_pos (decide_eq_true hl)]
  rfl
theorem run_extend {x : Nat} {fe : EF} {ys : List D} {S1 : Src} {xs : List D} (hv : fe ρ S = some (.list ys, S1)) (hx : ρ[x]? = some (some (.list xs))) (hl : fit (xs.length + ys.length) = true) (hi : immAll ys = true) : sExtend x fe ρ S = some (.nx (ρ.set x (some (.list (xs ++ ys)))), S1) := by
  unfold sExtend
  rw [mbind, hv, Option.bind_some]
  simp only [hx]
  rw [mbind, chk_run, if_pos (by rw [hl, hi]; rfl)]
  rfl
theorem run_setIx {x : Nat} {fi fe : EF} {v : D} {S1 S2 : Src} {xs : List D} {i : Int} {k : Nat} (hv : fe ρ S = some (v, S1)) (hi : fi ρ S1 = some (.int i, S2)) (hx : ρ[x]? = some (some (.list xs))) (hk : ixD xs.length i = some k) :
    sSetIx x fi fe ρ S = some (.nx (ρ.set x (some (.list (xs.set k v)))), S2) := by
  unfold sSetIx
  rw [mbind, hv, Option.bind_some, mbind, hi, Option.bind_some]
  simp only [hx, putAt, hk, Option.map_some]
  rfl
theorem run_setIx2 {x : Nat} {fi fj fe : EF} {v : D} {S1 S2 S3 : Src} {xs ys : List D} {i j : Int} {k l : Nat} (hv : fe ρ S = some (v, S1)) (hi : fi ρ S1 = some (.int i, S2)) (hj : fj ρ S2 = some (.int j, S3)) (hx : ρ[x]? = some (some (.list xs))) (hk : ixD xs.length i = some k)
    (hy : xs[k]? = some (.list ys)) (hl : ixD ys.length j = some l) : sSetIx2 x fi fj fe ρ S = some (.nx (ρ.set x (some (.list (xs.set k (.list (ys.set l v)))))), S3) := by
  unfold sSetIx2
  rw [mbind, hv, Option.bind_some, mbind, hi, Option.bind_some, mbind, hj, Option.bind_some]
  simp only [hx, putAt, hk, Option.map_some, Option.bind_some, hy, hl]
  rfl
theorem run_def {n m : Nat} {b : SF} {ds : List D} (h : ds.length = n) : runDef n m b ds S = (b (ds.map some ++ List.replicate (m - n) none) S).bind fun p => endD p.1 p.2 := by
  unfold runDef
  rw [mbind, chk_run, if_pos (by simpa using h)]
  rfl
theorem run_defS {n m : Nat} {b : SF} {ds : List D} (h : ds.length = n) : runDefS n m b ds S = (b (none :: ds.map some ++ List.replicate (m - 1 - n) none) S).bind fun p => endD p.1 p.2 := by
  unfold runDefS
  rw [mbind, chk_run, if_pos (by simpa using h)]
  rfl
@[simp] theorem end_rt {d : D} : endD (.rt d) S = some (d, S) := rfl
@[simp] theorem end_nx : endD (.nx ρ) S = some (.none, S) := rfl
@[simp] theorem run_eSrc {k : SK} : eSrc k ρ S = some (.int (k.get S), S) := rfl
@[simp] theorem run_sSrc {k : SK} {f : EF} : sSrc k f ρ S = (f ρ S).bind fun p => (intOf p.1).map fun i => (.nx ρ, k.set i p.2) := by
  unfold sSrc
  rw [mbind]
  congr 1
  funext p
  cases p.1 <;> rfl
@[simp] theorem run_drain : sDrain i ρ S = if i < ρ.length then some (.nx (ρ.set i none), S.drained) else none := rfl
end runs

/-! ### loops -/
section loops
variable {α : Type} {b : D → SF}
theorem forD_inv (enc : α → D) (I : List α → Env → Src → Prop) (xs : List α) (hs : ∀ pre x suf ρ S, xs = pre ++ x :: suf → I pre ρ S → ∃ ρ' S', (b (enc x) ρ S = some (.nx ρ', S') ∨ b (enc x) ρ S = some (.ct ρ', S')) ∧ I (pre ++ [x]) ρ' S') :
    ∀ (pre suf : List α), xs = pre ++ suf → ∀ ρ S, I pre ρ S → ∃ ρ' S', forD b (suf.map enc) ρ S = some (.nx ρ', S') ∧ I xs ρ' S' := by
  intro pre suf
  induction suf generalizing pre with
  | nil => intro e ρ S h; refine ⟨ρ, S, rfl, ?_⟩; rw [e, List.append_nil]; exact h
  | cons x r ih =>
    intro e ρ S h
    obtain ⟨ρ1, S1, h1, h2⟩ := hs pre x r ρ S e h
    obtain ⟨ρ2, S2, h3, h4⟩ := ih (pre ++ [x]) (by rw [e, List.append_assoc]; rfl) ρ1 S1 h2
    refine ⟨ρ2, S2, ?_, h4⟩
    rw [List.map_cons, forD_cons]
    rcases h1 with h1 | h1 <;> rw [h1] <;> exact h3
/-- a loop that may return -/
theorem forD_ret (enc : α → D) (I : List α → Env → Src → Prop) (R : D → Src → Prop) (xs : List α) (hs : ∀ pre x suf ρ S, xs = pre ++ x :: suf → I pre ρ S → (∃ ρ' S', (b (enc x) ρ S = some (.nx ρ', S') ∨ b (enc x) ρ S = some (.ct ρ', S')) ∧ I (pre ++ [x]) ρ' S') ∨ ∃ d S', b (enc x) ρ S = some (.rt d, S') ∧ R d S') :
    ∀ (pre suf : List α), xs = pre ++ suf → ∀ ρ S, I pre ρ S → (∃ ρ' S', forD b (suf.map enc) ρ S = some (.nx ρ', S') ∧ I xs ρ' S') ∨ ∃ d S', forD b (suf.map enc) ρ S = some (.rt d, S') ∧ R d S' := by
  intro pre suf
  induction suf generalizing pre with
  | nil => intro e ρ S h; refine .inl ⟨ρ, S, rfl, ?_⟩; rw [e, List.append_nil]; exact h
  | cons x r ih =>
    intro e ρ S h
    rcases hs pre x r ρ S e h with ⟨ρ1, S1, h1, h2⟩ | ⟨d, S1, h1, h2⟩
    · have h5 : b (enc x) ρ S = some (.nx ρ1, S1) ∨ b (enc x) ρ S = some (.ct ρ1, S1) := h1
      rcases ih (pre ++ [x]) (by rw [e, List.append_assoc]; rfl) ρ1 S1 h2 with ⟨ρ2, S2, h3, h4⟩ | ⟨d, S2, h3, h4⟩
      · refine .inl ⟨ρ2, S2, ?_, h4⟩
        rw [List.map_cons, forD_cons]
        rcases h5 with h1 | h1 <;> rw [h1] <;> exact h3
      · refine .inr ⟨d, S2, ?_, h4⟩
        rw [List.map_cons, forD_cons]
        rcases h5 with h1 | h1 <;> rw [h1] <;> exact h3
    · refine .inr ⟨d, S1, ?_, h2⟩
      rw [List.map_cons, forD_cons, h1]
      rfl
variable {g g1 : GF} {t t1 : TF} {e : EF} {w : LF} {ρ : Env} {S : Src}
theorem compD_pure (enc F : α → D) (p : α → Bool) (xs : List α) (h : ∀ x ∈ xs, ∃ ρ', g (enc x) ρ S = some (ρ', S) ∧ t ρ' S = some (p x, S) ∧ (p x = true → e ρ' S = some (F x, S))) : compD g t e ρ (xs.map enc) S = some ((xs.filter p).map F, S) := by
  induction xs with
  | nil => rfl
  | cons x r ih =>
    obtain ⟨ρ', h1, h2, h3⟩ := h x (by simp)
    have ih := ih fun y hy => h y (by simp [hy])
    show (g (enc x) ρ >>= _) S = _
    rw [mbind, h1, Option.bind_some]
    show (t ρ' >>= _) S = _
    rw [mbind, h2, Option.bind_some]
    cases hp : p x with
    | false =>
      rw [List.filter_cons_of_neg (by simp [hp])]
      exact ih
    | true =>
      rw [List.filter_cons_of_pos hp]
      show (e ρ' >>= _) S = _
      rw [mbind, h3 hp, Option.bind_some]
      show (compD g t e ρ (r.map enc) >>= _) S = _
      rw [mbind, ih]
      rfl
theorem compD_all (enc F : α → D) (xs : List α) (h : ∀ x ∈ xs, ∃ ρ', g (enc x) ρ S = some (ρ', S) ∧ t ρ' S = some (true, S) ∧ e ρ' S = some (F x, S)) : compD g t e ρ (xs.map enc) S = some (xs.map F, S) := by
  rw [compD_pure enc F (fun _ => true) xs fun x hx => by obtain ⟨ρ', h1, h2, h3⟩ := h x hx; exact ⟨ρ', h1, h2, fun _ => h3⟩, List.filter_eq_self.mpr (by simp)]
theorem compD2_pure {vs1 : List Nat} (enc : α → D) (p : α → Bool) (Z : α → List D) (xs : List α) (h : ∀ x ∈ xs, ∃ ρ', g (enc x) ρ S = some (ρ', S) ∧ t ρ' S = some (p x, S) ∧ (p x = true → ∃ zs, w ρ' S = some (zs, S) ∧ compD g1 t1 e (kill vs1 ρ') zs S = some (Z x, S))) : compD2 vs1 g t w g1 t1 e ρ (xs.map enc) S = some ((xs.filter p).flatMap Z, S) := by
  induction xs with
  | nil => rfl
  | cons x r ih =>
    obtain ⟨ρ', h1, h2, h3⟩ := h x (by simp)
    have ih := ih fun y hy => h y (by simp [hy])
    show (g (enc x) ρ >>= _) S = _
    rw [mbind, h1, Option.bind_some]
    show (t ρ' >>= _) S = _
    rw [mbind, h2, Option.bind_some]
    cases hp : p x with
    | false =>
      rw [List.filter_cons_of_neg (by simp [hp])]
      exact ih
    | true =>
      obtain ⟨zs, h4, h5⟩ := h3 hp
      rw [List.filter_cons_of_pos hp]
      show (w ρ' >>= _) S = _
      rw [mbind, h4, Option.bind_some]
      show (compD g1 t1 e (kill vs1 ρ') zs >>= _) S = _
      rw [mbind, h5, Option.bind_some]
      show (compD2 vs1 g t w g1 t1 e ρ (r.map enc) >>= _) S = _
      rw [mbind, ih]
      rfl
end loops
/-! ### sizes -/
theorem fit_of {n : Nat} (h : n ≤ 16777216) : fit n = true := decide_eq_true h
end DL

/-! DQ: the draws; orders and tables as data. -/
namespace DL
open PySem

/-! ### imm -/
theorem immAll_iff {xs : List D} : immAll xs = true ↔ ∀ x ∈ xs, imm x = true := by
  induction xs with
  | nil => simp [immAll]
  | cons x r ih => simp [immAll, ih]
theorem immAll_map {α : Type} {f : α → D} {xs : List α} (h : ∀ x ∈ xs, imm (f x) = true) : immAll (xs.map f) = true := immAll_iff.mpr fun y hy => by
  obtain ⟨x, hx, rfl⟩ := List.mem_map.mp hy
  exact h x hx
theorem imm_tup {xs : List D} : imm (.tuple xs) = immAll xs := by simp only [imm]
@[simp] theorem imm_int {i : Int} : imm (.int i) = true := by simp only [imm]
@[simp] theorem imm_bool {i : Bool} : imm (.bool i) = true := by simp only [imm]
@[simp] theorem imm_str {i : Str} : imm (.str i) = true := by simp only [imm]
@[simp] theorem imm_none : imm .none = true := by simp only [imm]
@[simp] theorem immAll_nil : immAll [] = true := by simp only [immAll]
@[simp] theorem immAll_cons {x : D} {xs : List D} : immAll (x :: xs) = (imm x && immAll xs) := by simp only [immAll]
@[simp] theorem immAll_append {xs ys : List D} : immAll (xs ++ ys) = (immAll xs && immAll ys) := by
  induction xs with
  | nil => simp
  | cons x r ih => simp [ih, Bool.and_assoc]

/-! ### a row of natural numbers -/
abbrev nI (a : Nat) : D := .int (a : Int)
def nT (l : List Nat) : D := .tuple (l.map fun a => nI a)
theorem imm_nT (l : List Nat) : imm (nT l) = true := by
  unfold nT
  rw [imm_tup]
  exact immAll_map fun _ _ => imm_int
theorem immAll_nI (l : List Nat) : immAll (l.map fun a => nI a) = true := immAll_map fun _ _ => imm_int
@[simp] theorem seqOf_nT {l : List Nat} : seqOf (nT l) = some (l.map fun a => nI a) := rfl
@[simp] theorem run_len_nT {l : List Nat} {S : Src} : lenD (nT l) S = some (nI l.length, S) := by
  show some _ = _
  simp [nT]
theorem run_idx_nT {l : List Nat} {k a : Nat} {S : Src} (h : l[k]? = some a) : idxD (nT l) (.int k) S = some (nI a, S) := run_idxT (by rw [List.getElem?_map, h]; rfl)
theorem run_from_nT {l : List Nat} {k : Nat} {S : Src} : sliceD true (some (k : Int)) none (nT l) S = some (nT (l.drop k), S) := by
  unfold nT
  rw [run_sliceT, immAll_nI, cut_from, ← List.map_drop]
  rfl
theorem run_to_nT {l : List Nat} {k : Nat} {S : Src} : sliceD true none (some (k : Int)) (nT l) S = some (nT (l.take k), S) := by
  unfold nT
  rw [run_sliceT, immAll_nI, cut_to, ← List.map_take]
  rfl
theorem run_mid_nT {l : List Nat} {j k : Nat} {S : Src} : sliceD true (some (j : Int)) (some (k : Int)) (nT l) S = some (nT ((l.drop j).take (k - j)), S) := by
  unfold nT
  rw [run_sliceT, immAll_nI, cut_mid, ← List.map_drop, ← List.map_take]
  rfl
theorem run_rev_nT {l : List Nat} {S : Src} : revD true (nT l) S = some (nT l.reverse, S) := by
  unfold nT
  rw [run_revT, immAll_nI, ← List.map_reverse]
  rfl
theorem run_add_nT {o : Bool} {l m : List Nat} {S : Src} (h : l.length + m.length ≤ 16777216) : addD o (nT l) (nT m) S = some (nT (l ++ m), S) := by
  unfold nT
  rw [run_addT, if_pos, ← List.map_append]
  rw [immAll_nI, immAll_nI]
  exact ⟨fit_of (by simpa using h), by simp⟩
theorem enum_nT (l : List Nat) : enumD 0 (l.map fun a => nI a) = (l.zipIdx 0).map fun p => PyData.tuple [.int p.2, nI p.1] := enum_map (fun a => nI a) l 0

/-! ### tables -/
def trow (n : Nat) (f : Nat → Nat → Int) (a : Nat) : D := .tuple ((List.range n).map fun b => .int (f a b))
def tab (n : Nat) (f : Nat → Nat → Int) : D := .tuple ((List.range n).map fun a => trow n f a)
theorem run_tab {n a : Nat} {f : Nat → Nat → Int} {S : Src} (h : a < n) : idxD (tab n f) (.int a) S = some (trow n f a, S) := run_idxT (by simp [h])
theorem run_trow {n a b : Nat} {f : Nat → Nat → Int} {S : Src} (h : b < n) : idxD (trow n f a) (.int b) S = some (.int (f a b), S) := run_idxT (by simp [h])
@[simp] theorem run_len_tab {n : Nat} {f : Nat → Nat → Int} {S : Src} : lenD (tab n f) S = some (nI n, S) := by
  show some _ = _
  simp
theorem imm_trow {n a : Nat} {f : Nat → Nat → Int} : imm (trow n f a) = true := by
  unfold trow
  rw [imm_tup]
  exact immAll_map fun _ _ => imm_int
theorem imm_tab {n : Nat} {f : Nat → Nat → Int} : imm (tab n f) = true := by
  unfold tab
  rw [imm_tup]
  exact immAll_map fun _ _ => imm_trow
theorem run_of (x : D) (f : D → M D) (S : Src) : (some (x, S)).bind (fun p => f p.1 p.2) = f x S := rfl

/-! ### draws -/
/-- a number from 0 to n - 1 -/
def Picks (m : List D → M D) : Prop := ∀ (n : Nat) (S : Src), 1 ≤ n → n < 1073741824 → ∃ i : Nat, i < n ∧ ∃ S' : Src, m [.int n] S = some (.int i, S')
def pickA : SF := sSeq (sIf (tB (e2 (cmD .lt) (eVar 1) (eC (.int 2)))) (sRet (eC (.int 0))) (sNext)) (sSeq (sDrain 2) (sSeq (sAsg (eSrc .left) (gName 3)) (sSeq (sIf (tB (e2 (cmD .gt) (eVar 3) (eC (.int 1)))) (sSeq (sSrc .left (e2 fdivD (eVar 3) (eVar 1))) (sRet (e2 modD (e1 intD (eVar 3)) (eVar 1)))) (sNext)) (sSeq (sSrc .turn (e2 (addD true) (eSrc .turn) (eC (.int 1)))) (sSeq (sAsg (eSrc .turn) (gName 4)) (sSeq (sAsg (e2 modD (e1 intD (e2 (addD true) (eSrc .mixed) (e2 mulD (eVar 4) (eC (.int 104729))))) (eC (.int 998244353))) (gName 5)) (sSeq (sAsg (e2 modD (e1 intD (e2 (addD true) (e2 mulD (eVar 5) (eVar 5)) (e2 mulD (eVar 4) (eC (.int 17))))) (eC (.int 2147483647))) (gName 5)) (sRet (e2 modD (e1 intD (e2 fdivD (eVar 5) (eC (.int 16)))) (eVar 1))))))))))
theorem fmod_nat (i : Int) {n : Nat} (h : 1 ≤ n) : ∃ k : Nat, k < n ∧ i.fmod n = k := by
  have h1 := Int.fmod_nonneg_of_pos i (b := (n : Int)) (by omega)
  have h2 := Int.fmod_lt_of_pos i (b := (n : Int)) (by omega)
  exact ⟨(i.fmod n).toNat, by omega, by omega⟩
theorem picksA : Picks (runDefS 1 6 pickA) := by
  intro n S h1 h2
  rw [run_defS (by rfl)]
  show ∃ i : Nat, i < n ∧ ∃ S' : Src, (pickA [none, some (.int n), none, none, none, none] S).bind (fun p => endD p.1 p.2) = some (.int i, S')
  have hn : ((n : Int)) ≠ 0 ∧ (n : Int).natAbs < 1073741824 := ⟨by omega, by omega⟩
  unfold pickA
  by_cases h : n < 2
  · refine ⟨0, h1, S, ?_⟩
    have h3 : (n : Int) < 2 := by omega
    simp [h3]
  have h3 : ¬ (n : Int) < 2 := by omega
  by_cases hl : 1 < S.drained.left
  · obtain ⟨k, hk, e⟩ := fmod_nat S.drained.left h1
    refine ⟨k, hk, ?_⟩
    simp [h3, SK.get, hl, run_fdiv hn, run_mod hn.1, e]
  · obtain ⟨k, hk, e⟩ := fmod_nat ((Int.fmod ((Int.fmod (S.drained.mixed + (S.drained.turn + 1) * 104729) 998244353) * (Int.fmod (S.drained.mixed + (S.drained.turn + 1) * 104729) 998244353) + (S.drained.turn + 1) * 17) 2147483647).fdiv 16) h1
    refine ⟨k, hk, ?_⟩
    have s1 : small64 (Int.fmod (S.drained.mixed + (S.drained.turn + 1) * 104729) 998244353) = true := by
      have h1 := Int.fmod_nonneg_of_pos (S.drained.mixed + (S.drained.turn + 1) * 104729) (b := 998244353) (by omega)
      have h2 := Int.fmod_lt_of_pos (S.drained.mixed + (S.drained.turn + 1) * 104729) (b := 998244353) (by omega)
      exact decide_eq_true (by omega)
    have s2 : small64 104729 = true := by decide
    have s3 : small64 17 = true := by decide
    simp [h3, SK.get, SK.set, hl, run_fdiv (S := _) (a := _) (b := 16) (by decide), run_mod hn.1, run_mod (b := 998244353) (by decide), run_mod (b := 2147483647) (by decide), run_mul (.inr s2), run_mul (.inr s3), run_mul (.inl s1), e]
theorem cons_erase {α : Type} : ∀ (xs : List α) (i : Nat) (h : i < xs.length), (xs[i] :: xs.eraseIdx i).Perm xs
  | x :: r, 0, _ => by simp
  | x :: r, i + 1, h => by
    have hi : i < r.length := by simpa using h
    simp only [List.getElem_cons_succ, List.eraseIdx_cons_succ]
    exact (List.Perm.swap _ _ _).trans ((cons_erase r i hi).cons x)
/-- what the mixing gives is the same things in some order -/
theorem mix_perm {m : List D → M D} (hp : Picks m) : ∀ (k : Nat) (xs : List D) (S : Src), xs.length = k → k ≤ 16777216 → ∃ ys S', mixD m k xs S = some (ys, S') ∧ ys.Perm xs := by
  intro k
  induction k with
  | zero => intro xs S h _; exact ⟨[], S, rfl, by rw [List.length_eq_zero_iff.mp h]⟩
  | succ k ih =>
    intro xs S h hk
    obtain ⟨i, hi, S1, e1⟩ := hp xs.length S (by omega) (by omega)
    have hx : i < xs.length := hi
    obtain ⟨ys, S2, e2, p⟩ := ih (xs.eraseIdx i) S1 (by rw [List.length_eraseIdx, if_pos hx]; omega) (by omega)
    refine ⟨xs.getD i .none :: ys, S2, ?_, ?_⟩
    · show (m [.int xs.length] >>= _) S = _
      rw [mbind, e1, Option.bind_some]
      show (match ixD xs.length i with
        | some p => _
        | none => _ : M (List D)) S1 = _
      rw [ixD_nat hx]
      show (mixD m k (xs.eraseIdx i) >>= _) S1 = _
      rw [mbind, e2]
      rfl
    · have e3 : xs.getD i .none = xs[i] := by simp [hx]
      rw [e3]
      exact (p.cons _).trans (cons_erase xs i hx)
def anyOrderB (m : List D → M D) : SF := sSeq (sAsg (e1 (listD true) (eVar 1)) (gName 2)) (sRet (eMix 2 m))
theorem run_mixE {m : List D → M D} {ρ : Env} {S : Src} {i : Nat} {xs : List D} (hx : ρ[i]? = some (some (.list xs))) (h : immAll xs = true) (hl : xs.length ≤ 16777216) : eMix i m ρ S = (mixD m xs.length xs S).bind fun p => some (.list p.1, p.2) := by
  unfold eMix
  simp only [hx]
  rw [mbind, chk_run, if_pos (by rw [h]; simpa using hl)]
  rfl
theorem any_order {m : List D → M D} (hp : Picks m) {x : D} {xs : List D} {S : Src} (hx : seqOf x = some xs) (hi : immAll xs = true) (hl : xs.length ≤ 16777216) : ∃ ys S', runDefS 1 4 (anyOrderB m) [x] S = some (.list ys, S') ∧ ys.Perm xs := by
  obtain ⟨ys, S1, e, p⟩ := mix_perm hp xs.length xs S rfl hl
  refine ⟨ys, S1, ?_, p⟩
  rw [run_defS (by rfl)]
  show ((anyOrderB m) [none, some x, none, none] S).bind (fun p => endD p.1 p.2) = _
  unfold anyOrderB
  simp [hx, hi]
  rw [run_mixE (xs := xs) (by rfl) hi hl, e]
  rfl
theorem perm_map_inv {α β : Type} {f : α → β} : ∀ {xs : List α} {ys : List β}, ys.Perm (xs.map f) → ∃ zs : List α, zs.Perm xs ∧ ys = zs.map f := by
  intro xs ys p
  generalize e : xs.map f = l at p
  induction p generalizing xs with
  | nil => exact ⟨[], by rw [List.map_eq_nil_iff.mp e], rfl⟩
  | cons a p ih =>
    obtain ⟨x, r, rfl, h1, h2⟩ := List.map_eq_cons_iff.mp e
    obtain ⟨zs, h3, h4⟩ := ih h2
    exact ⟨x :: zs, h3.cons x, by rw [List.map_cons, h1, h4]⟩
  | swap a b l =>
    obtain ⟨x, r, rfl, h1, h2⟩ := List.map_eq_cons_iff.mp e
    obtain ⟨y, s, rfl, h3, h4⟩ := List.map_eq_cons_iff.mp h2
    exact ⟨y :: x :: s, List.Perm.swap .., by rw [List.map_cons, List.map_cons, h1, h3, h4]⟩
  | trans p1 p2 ih1 ih2 =>
    obtain ⟨zs, h1, h2⟩ := ih2 e
    obtain ⟨ws, h3, h4⟩ := ih1 h2.symm
    exact ⟨ws, h3.trans h1, h4⟩
def lawRowB (m : List D → M D) : SF := sRet (e1 (tupleD true) (eCallM m (lCons (eListOf (wRange1 (eVar 1))) (lNil))))
theorem rng62_nat {n : Nat} (h : n ≤ 16777216) : rng62 (n : Int) = true := by
  exact decide_eq_true (by omega)
theorem law_row {m : List D → M D} (hp : Picks m) {n : Nat} {S : Src} (hn : n ≤ 16777216) : ∃ o S', runDefS 1 2 (lawRowB (runDefS 1 4 (anyOrderB m))) [.int n] S = some (nT o, S') ∧ o.Perm (List.range n) := by
  obtain ⟨ys, S1, e, p⟩ := any_order (x := .list ((List.range n).map fun a => nI a)) (S := S) hp rfl (immAll_nI _) (by simpa using hn)
  obtain ⟨o, h1, rfl⟩ := perm_map_inv p
  refine ⟨o, S1, ?_, h1⟩
  rw [run_defS (by rfl)]
  show ((lawRowB _) [none, some (.int n)] S).bind (fun p => endD p.1 p.2) = _
  have w : eListOf (wRange1 (eVar 1)) [none, some (.int n)] S = some (.list ((List.range n).map fun a => nI a), S) := by
    have h1 := rng62_nat hn
    have h2 := fit_of hn
    rw [run_listOf, run_wRange1]
    simp only [run_var, List.getElem?_cons_succ, List.getElem?_cons_zero, Option.bind_some, Option.map_some, intOf_int, h1, ↓reduceIte, rng_nat, List.length_map, List.length_range, h2]
  unfold lawRowB
  rw [run_ret, run_1, run_callM, run_lcons, w]
  simp only [Option.bind_some, run_lnil, e, run_tuple, seqOf_list, immAll_nI, Bool.not_true, Bool.or_true, ↓reduceIte, end_rt]
  rfl
def lawOfB (m : List D → M D) : SF := sRet (eImm (e2 idxD (eVar 1) (eCallM m (lCons (e1 lenD (eVar 1)) (lNil)))))
theorem law_ofL {m : List D → M D} (hp : Picks m) {xs : List D} {S : Src} (h0 : xs ≠ []) (hl : xs.length ≤ 16777216) (hi : immAll xs = true) : ∃ (i : Nat) (x : D) (S' : Src), xs[i]? = some x ∧ runDefS 1 2 (lawOfB m) [.list xs] S = some (x, S') := by
  have h1 : 1 ≤ xs.length := by cases xs with
    | nil => exact absurd rfl h0
    | cons => simp
  obtain ⟨i, hi1, S1, e⟩ := hp xs.length S h1 (by omega)
  refine ⟨i, xs[i], S1, by simp [hi1], ?_⟩
  rw [run_defS (by rfl)]
  show ((lawOfB _) [none, some (.list xs)] S).bind (fun p => endD p.1 p.2) = _
  unfold lawOfB
  have e3 : ∀ S, idxD (.list xs) (.int i) S = some (xs[i], S) := fun S => run_idxL (by simp [hi1])
  have e4 : imm xs[i] = true := immAll_iff.mp hi _ (List.getElem_mem hi1)
  simp [e, e3, e4]
end DL

/-! DQ2: texts of data, the order of data. -/
namespace DL
open PySem

/-! ### repr -/
mutual
def tidy : D → Bool
  | .none | .bool _ => true
  | .int i => decide (i.natAbs < 1000000000000)
  | .list xs | .tuple xs => tidyAll xs
  | .str _ | .dict _ => false
def tidyAll : List D → Bool
  | [] => true
  | x :: xs => tidy x && tidyAll xs
end
mutual
def siz : D → Nat
  | .list xs | .tuple xs => sizAll xs + 1
  | .none | .bool _ | .int _ | .str _ | .dict _ => 1
def sizAll : List D → Nat
  | [] => 0
  | x :: xs => siz x + sizAll xs
end
theorem strOk_append (a b : Str) : PyData.strOk (a ++ b) = (PyData.strOk a && PyData.strOk b) := by
  show Array.all (a.cps ++ b.cps) _ = _
  rw [Array.all_append]
  rfl
theorem strOk_of (s : String) : PyData.strOk (Str.ofString s) = true := by
  rw [Str.ofString_eq_toList]
  show Array.all (s.toList.map Char.toNat).toArray _ = true
  rw [List.all_toArray, List.all_eq_true]
  intro x hx
  obtain ⟨c, _, rfl⟩ := List.mem_map.mp hx
  have h := c.valid
  have : c.toNat < 0x110000 := by
    rcases h with h | h
    · have : c.toNat < 0xd800 := h
      omega
    · exact h.2
  simpa using this
theorem strOk_textFrom : ∀ (ts : List Str) (k : Nat) (acc : Str), PyData.strOk acc = true → (∀ t ∈ ts, PyData.strOk t = true) → PyData.strOk (textFrom k acc ts) = true
  | [], _, _, h, _ => h
  | t :: ts, k, acc, h, ht => strOk_textFrom ts (k + 1) _ (by
      rw [strOk_append, strOk_append, h, ht t (by simp), strOk_of]
      rfl) fun x hx => ht x (by simp [hx])
theorem strOk_listText (ts : List Str) (h : ∀ t ∈ ts, PyData.strOk t = true) : PyData.strOk (listText ts) = true := by
  unfold listText
  rw [strOk_append, strOk_textFrom ts 0 _ (strOk_of "[") h, strOk_of]
  rfl
theorem strOk_join : ∀ (ts : List Str), (∀ t ∈ ts, PyData.strOk t = true) → PyData.strOk (Str.join ", " ts) = true
  | [], _ => by simp [Str.join, Str.empty, PyData.strOk]
  | [x], h => h x (by simp)
  | x :: y :: r, h => by
    show PyData.strOk (x ++ _ ++ Str.join _ (y :: r)) = true
    rw [strOk_append, strOk_append, h x (by simp), strOk_of, strOk_join (y :: r) fun t ht => h t (by simp [List.mem_cons.mp ht])]
    rfl
theorem strOk_tupleText (ts : List Str) (h : ∀ t ∈ ts, PyData.strOk t = true) : PyData.strOk (tupleText ts) = true := by
  unfold tupleText
  rw [strOk_append, strOk_append, strOk_of, strOk_join ts h, strOk_of]
  rfl
theorem len_listText (ts : List Str) : (listText ts).length ≤ 2 + piled ts := by
  cases ts with
  | nil =>
    show (("[" : Str) ++ ("]" : Str)).length ≤ _
    rw [strLen_append]
    have : (("[" : String) : Str).length = 1 := rfl
    have : (("]" : String) : Str).length = 1 := rfl
    omega
  | cons t r =>
    have h := textFrom_length_pos r 1 (("[" : Str) ++ (if (0 : Nat) > 0 then ", " else "" : String) ++ t) (Nat.succ_pos 0)
    have e : ((("[" : Str) ++ (if (0 : Nat) > 0 then ", " else "" : String) ++ t)).length = 1 + t.length := by
      rw [strLen_append, strLen_append]; rfl
    have hX : (listText (t :: r)).length = (textFrom 0 "[" (t :: r)).length + 1 := by
      show (textFrom 0 "[" (t :: r) ++ "]").length = _
      rw [strLen_append]; rfl
    have hY : (textFrom 0 "[" (t :: r)).length = (textFrom 1 (("[" : Str) ++ (if (0 : Nat) > 0 then ", " else "" : String) ++ t) r).length := rfl
    rw [hX, hY, h, e, piled_cons]
    omega
theorem len_tupleText (ts : List Str) : (tupleText ts).length ≤ 4 + piled ts := by
  unfold tupleText
  rw [strLen_append, strLen_append]
  have h1 : (("(" : String) : Str).length = 1 := rfl
  have h2 : ((if ts.length == 1 then ",)" else ")" : String) : Str).length ≤ 2 := by
    split
    · exact Nat.le_of_eq rfl
    · show (1 : Nat) ≤ 2
      omega
  by_cases h : ts = []
  · subst h
    have : (Str.join ", " []).length = 0 := rfl
    omega
  · have := join_length_add ts h
    omega
mutual
theorem tidy_shown : ∀ d : D, tidy d = true → d.showable = true ∧ d.hasDict = false ∧ PyData.strOk d.shown = true ∧ d.shown.length + 2 ≤ 16 * siz d
  | .none, _ => ⟨rfl, rfl, strOk_of _, by show ("None" : Str).length + 2 ≤ 16; decide⟩
  | .bool b, _ => ⟨rfl, rfl, by
      show PyData.strOk (if b then "True" else "False" : Str) = true
      cases b
      · exact strOk_of _
      · exact strOk_of _, by
      cases b
      · show ("False" : Str).length + 2 ≤ 16; decide
      · show ("True" : Str).length + 2 ≤ 16; decide⟩
  | .int i, h => by
    have h1 : i.natAbs < 1000000000000 := of_decide_eq_true (show decide _ = true from h)
    refine ⟨?_, rfl, strOk_of _, ?_⟩
    · show decide (i.natAbs.log2 < 1920) = true
      by_cases z : i.natAbs = 0
      · rw [z]; rfl
      · have : i.natAbs.log2 < 40 := (Nat.log2_lt z).mpr (Nat.lt_of_lt_of_le h1 (by decide))
        exact decide_eq_true (by omega)
    · show (Str.ofString (toString i)).length + 2 ≤ 16 * 1
      have h2 := int_text_length_le10 (a := i) (k := 12) (by omega) h1
      have h3 : (Str.ofString (toString i)).length = (toString i).length := ofString_length _
      omega
  | .list xs, h => by
    obtain ⟨h1, h2, h3, h4⟩ := tidy_shownAll xs h
    refine ⟨h1, h2, strOk_listText _ h3, ?_⟩
    have := len_listText (PyData.shownAll xs)
    show (listText (PyData.shownAll xs)).length + 2 ≤ 16 * (sizAll xs + 1)
    omega
  | .tuple xs, h => by
    obtain ⟨h1, h2, h3, h4⟩ := tidy_shownAll xs h
    refine ⟨h1, h2, strOk_tupleText _ h3, ?_⟩
    have := len_tupleText (PyData.shownAll xs)
    show (tupleText (PyData.shownAll xs)).length + 2 ≤ 16 * (sizAll xs + 1)
    omega
  | .str _, h => nomatch h
  | .dict _, h => nomatch h
theorem tidy_shownAll : ∀ xs : List D, tidyAll xs = true → PyData.showableAll xs = true ∧ PyData.hasDictAll xs = false ∧ (∀ t ∈ PyData.shownAll xs, PyData.strOk t = true) ∧ piled (PyData.shownAll xs) ≤ 16 * sizAll xs
  | [], _ => ⟨rfl, rfl, (fun _ h => nomatch h), Nat.le_refl _⟩
  | x :: xs, h => by
    have h : (tidy x && tidyAll xs) = true := h
    obtain ⟨hx, hxs⟩ := Bool.and_eq_true_iff.mp h
    obtain ⟨a1, a2, a3, a4⟩ := tidy_shown x hx
    obtain ⟨b1, b2, b3, b4⟩ := tidy_shownAll xs hxs
    refine ⟨?_, ?_, fun t ht => ?_, ?_⟩
    · show (PyData.showable x && PyData.showableAll xs) = true
      rw [a1, b1]; rfl
    · show (PyData.hasDict x || PyData.hasDictAll xs) = false
      rw [a2, b2]; rfl
    · have ht : t ∈ PyData.shown x :: PyData.shownAll xs := ht
      rcases List.mem_cons.mp ht with rfl | ht
      · exact a3
      · exact b3 t ht
    · show piled (PyData.shown x :: PyData.shownAll xs) ≤ 16 * (siz x + sizAll xs)
      rw [piled_cons]
      omega
end
theorem run_reprT {d : D} {S : Src} (h : tidy d = true) (hs : siz d ≤ 1000000) (hd : d.depth ≤ 64) : reprD d S = some (.str d.shown, S) := by
  obtain ⟨h1, h2, h3, h4⟩ := tidy_shown d h
  exact run_repr h1 (fit_of (by omega)) h2 hd
/-- two texts of one thing -/
theorem run_neStr {x : Str} {S : Src} (h : PyData.strOk x = true) : eqD true (.str x) (.str x) S = some (.bool false, S) := by
  have hs : SeqAt.shaped (.str x) = true := by
    unfold SeqAt.shaped
    have : PyData.canLay0 (.str x) = true := h
    rw [this]
    rfl
  rw [run_eq hs hs]
  have : PyData.eqv (.str x) (.str x) = true := by
    simp [PyData.eqv]
  rw [this]
  rfl
theorem run_neRepr {f g : EF} {ρ : Env} {S : Src} {d : D} (hf : f ρ S = some (d, S)) (hg : g ρ S = some (d, S)) (h : tidy d = true) (hs : siz d ≤ 1000000) (hd : d.depth ≤ 64) : e2 (eqD true) (e1 reprD f) (e1 reprD g) ρ S = some (.bool false, S) := by
  rw [run_2, run_1, hf, Option.bind_some, run_reprT h hs hd, Option.bind_some, run_1, hg, Option.bind_some, run_reprT h hs hd, Option.bind_some]
  exact run_neStr (tidy_shown d h).2.2.1
theorem tidyAll_iff {xs : List D} : tidyAll xs = true ↔ ∀ x ∈ xs, tidy x = true := by
  induction xs with
  | nil => simp [tidyAll]
  | cons x r ih => simp [tidyAll, ih]
theorem sizAll_le {xs : List D} {k : Nat} (h : ∀ x ∈ xs, siz x ≤ k) : sizAll xs ≤ xs.length * k := by
  induction xs with
  | nil => exact Nat.zero_le _
  | cons x r ih =>
    have h1 := h x (by simp)
    have h2 := ih fun y hy => h y (by simp [hy])
    show siz x + sizAll r ≤ (r.length + 1) * k
    rw [Nat.add_mul]
    omega
theorem depthAll_le {xs : List D} {k : Nat} (h : ∀ x ∈ xs, PyData.depth x ≤ k) : PyData.depthAll xs ≤ k := by
  induction xs with
  | nil => exact Nat.zero_le _
  | cons x r ih =>
    have h1 := h x (by simp)
    have h2 := ih fun y hy => h y (by simp [hy])
    show max (PyData.depth x) (PyData.depthAll r) ≤ k
    omega
@[simp] theorem tidy_int {i : Int} : tidy (.int i) = decide (i.natAbs < 1000000000000) := by simp only [tidy]
@[simp] theorem tidy_bool {b : Bool} : tidy (.bool b) = true := by simp only [tidy]
@[simp] theorem tidy_none : tidy .none = true := by simp only [tidy]
@[simp] theorem tidy_list {xs : List D} : tidy (.list xs) = tidyAll xs := by simp only [tidy]
@[simp] theorem tidy_tuple {xs : List D} : tidy (.tuple xs) = tidyAll xs := by simp only [tidy]
@[simp] theorem tidyAll_nil : tidyAll [] = true := by simp only [tidyAll]
@[simp] theorem tidyAll_cons {x : D} {xs : List D} : tidyAll (x :: xs) = (tidy x && tidyAll xs) := by simp only [tidyAll]
@[simp] theorem siz_int {i : Int} : siz (.int i) = 1 := by simp only [siz]
@[simp] theorem siz_bool {i : Bool} : siz (.bool i) = 1 := by simp only [siz]
@[simp] theorem siz_none : siz .none = 1 := by simp only [siz]
@[simp] theorem siz_list {xs : List D} : siz (.list xs) = sizAll xs + 1 := by simp only [siz]
@[simp] theorem siz_tuple {xs : List D} : siz (.tuple xs) = sizAll xs + 1 := by simp only [siz]
@[simp] theorem sizAll_nil : sizAll [] = 0 := by simp only [sizAll]
@[simp] theorem sizAll_cons {x : D} {xs : List D} : sizAll (x :: xs) = siz x + sizAll xs := by simp only [sizAll]
@[simp] theorem depth_int {i : Int} : PyData.depth (.int i) = 0 := by simp only [PyData.depth]
@[simp] theorem depth_bool {i : Bool} : PyData.depth (.bool i) = 0 := by simp only [PyData.depth]
@[simp] theorem depth_none : PyData.depth .none = 0 := by simp only [PyData.depth]
@[simp] theorem depth_list {xs : List D} : PyData.depth (.list xs) = PyData.depthAll xs + 1 := by simp only [PyData.depth]
@[simp] theorem depth_tuple {xs : List D} : PyData.depth (.tuple xs) = PyData.depthAll xs + 1 := by simp only [PyData.depth]
@[simp] theorem depthAll_nil : PyData.depthAll [] = 0 := by simp only [PyData.depthAll]
@[simp] theorem depthAll_cons {x : D} {xs : List D} : PyData.depthAll (x :: xs) = max (PyData.depth x) (PyData.depthAll xs) := by simp only [PyData.depthAll]
/-- numbers below a bound: all is fine -/
theorem nT_facts {l : List Nat} (h : ∀ a ∈ l, a < 1000000000) : tidy (nT l) = true ∧ siz (nT l) = l.length + 1 ∧ PyData.depth (nT l) ≤ 1 := by
  refine ⟨?_, ?_, ?_⟩
  · unfold nT
    rw [tidy_tuple, tidyAll_iff]
    intro x hx
    obtain ⟨a, ha, rfl⟩ := List.mem_map.mp hx
    have := h a ha
    rw [tidy_int]
    exact decide_eq_true (by omega)
  · unfold nT
    rw [siz_tuple]
    congr 1
    clear h
    induction l with
    | nil => rfl
    | cons a r ih => simp [ih]; omega
  · unfold nT
    rw [depth_tuple]
    have : PyData.depthAll (l.map fun a => nI a) ≤ 0 := depthAll_le fun x hx => by
      obtain ⟨a, _, rfl⟩ := List.mem_map.mp hx
      simp
    omega

/-! ### the order -/
theorem lt_int (x y : Int) : W.dataLt (.int x) (.int y) = decide (x < y) := W.dataLt_int x y
theorem lt_nil : W.dataLt (.tuple []) (.tuple []) = false := by
  rw [W.dataLt_tuple]
  exact PyProof.Rows.lex_irrefl _
theorem lt_cons (x y : Int) (xs ys : List D) : W.dataLt (.tuple (.int x :: xs)) (.tuple (.int y :: ys)) = if x = y then W.dataLt (.tuple xs) (.tuple ys) else decide (x < y) := by
  rw [W.dataLt_tuple, W.dataLt_cons (by simp [W.alike]), W.dataLt_tuple, lt_int]
  simp only [PyData.eqv, beq_iff_eq]
theorem minF_map {α : Type} (enc : α → D) (lt : α → α → Bool) : ∀ (xs : List α) (x : α), (x :: xs).Pairwise (fun a b => W.dataLt (enc b) (enc a) = lt b a) → minF (enc x) (xs.map enc) = enc (xs.foldl (fun a y => if lt y a = true then y else a) x)
  | [], _, _ => rfl
  | y :: r, x, h => by
    obtain ⟨h1, h2⟩ := List.pairwise_cons.mp h
    obtain ⟨h3, h4⟩ := List.pairwise_cons.mp h2
    have e : W.dataLt (enc y) (enc x) = lt y x := h1 y (by simp)
    show minF (if W.dataLt (enc y) (enc x) = true then enc y else enc x) (r.map enc) = enc (r.foldl _ (if lt y x = true then y else x))
    rw [e]
    by_cases z : lt y x = true
    · rw [if_pos z, if_pos z]
      exact minF_map enc lt r y h2
    · rw [if_neg z, if_neg z]
      exact minF_map enc lt r x (List.pairwise_cons.mpr ⟨fun b hb => h1 b (by simp [hb]), h4⟩)
theorem foldMin_mem {α : Type} (lt : α → α → Bool) : ∀ (xs : List α) (x : α), xs.foldl (fun a y => if lt y a = true then y else a) x ∈ x :: xs
  | [], x => by simp
  | y :: r, x => by
    rw [List.foldl_cons]
    have := foldMin_mem lt r (if lt y x = true then y else x)
    rcases List.mem_cons.mp this with h | h
    · rw [h]
      split <;> simp
    · exact List.mem_cons_of_mem _ (List.mem_cons_of_mem _ h)
/-- a measure that never grows along the order: the least one has the least -/
theorem foldMin_le {α : Type} (lt : α → α → Bool) (c : α → Nat) (h1 : ∀ a b, lt b a = true → c b ≤ c a) (h2 : ∀ a b, lt b a = false → c a ≤ c b) : ∀ (xs : List α) (x : α), ∀ y ∈ x :: xs, c (xs.foldl (fun a y => if lt y a = true then y else a) x) ≤ c y
  | [], x, y, hy => by
    rcases List.mem_cons.mp hy with rfl | h
    · exact Nat.le_refl _
    · cases h
  | z :: r, x, y, hy => by
    rw [List.foldl_cons]
    have ih := foldMin_le lt c h1 h2 r (if lt z x = true then z else x)
    have h0 := ih _ (List.mem_cons_self ..)
    rcases List.mem_cons.mp hy with rfl | h
    · refine Nat.le_trans h0 ?_
      by_cases q : lt z y = true
      · rw [if_pos q]; exact h1 _ _ q
      · rw [if_neg q]; exact Nat.le_refl _
    · rcases List.mem_cons.mp h with rfl | h
      · refine Nat.le_trans h0 ?_
        by_cases q : lt y x = true
        · rw [if_pos q]; exact Nat.le_refl _
        · rw [if_neg q]; exact h2 _ _ (by simpa using q)
      · exact ih y (List.mem_cons_of_mem _ h)
end DL
namespace DL
open PySem
mutual
theorem tidy_canLay : ∀ d : D, tidy d = true → PyData.canLay0 d = true
  | .none, _ => rfl
  | .bool _, _ => rfl
  | .int _, _ => rfl
  | .list xs, h => tidy_canLayAll xs h
  | .tuple xs, h => tidy_canLayAll xs h
  | .str _, h => nomatch h
  | .dict _, h => nomatch h
theorem tidy_canLayAll : ∀ xs : List D, tidyAll xs = true → PyData.canLayAll0 xs = true
  | [], _ => rfl
  | x :: xs, h => by
    have h : (tidy x && tidyAll xs) = true := h
    obtain ⟨h1, h2⟩ := Bool.and_eq_true_iff.mp h
    show (PyData.canLay0 x && PyData.canLayAll0 xs) = true
    rw [tidy_canLay x h1, tidy_canLayAll xs h2]
    rfl
end
theorem tidy_shaped {d : D} (h : tidy d = true) (hd : d.depth ≤ 64) : SeqAt.shaped d = true := by
  unfold SeqAt.shaped
  rw [tidy_canLay d h]
  simpa using hd
/-- xs != [] -/
theorem run_neNil {xs : List D} {S : Src} (h : tidyAll xs = true) (hd : PyData.depthAll xs ≤ 63) : eqD true (.list xs) (.list []) S = some (.bool (!xs.isEmpty), S) := by
  rw [run_eq (tidy_shaped (by rw [tidy_list]; exact h) (by rw [depth_list]; omega)) (tidy_shaped (by rw [tidy_list]; rfl) (by simp))]
  cases xs <;> simp [PyData.eqv, PyData.eqvAll]
theorem run_eqNil {xs : List D} {S : Src} (h : tidyAll xs = true) (hd : PyData.depthAll xs ≤ 63) : eqD false (.list xs) (.list []) S = some (.bool xs.isEmpty, S) := by
  rw [run_eq (tidy_shaped (by rw [tidy_list]; exact h) (by rw [depth_list]; omega)) (tidy_shaped (by rw [tidy_list]; rfl) (by simp))]
  cases xs <;> simp [PyData.eqv, PyData.eqvAll]
/-! loops over ranges, over numbered things -/
theorem range_split {n x : Nat} {pre suf : List Nat} (h : List.range n = pre ++ x :: suf) : pre = List.range x ∧ x < n := by
  have hl : pre.length < n := by
    have := congrArg List.length h
    simp at this
    omega
  have hx : x = pre.length := by
    have h1 : (List.range n)[pre.length]? = some x := by rw [h]; simp
    rw [List.getElem?_range hl] at h1
    exact (Option.some.inj h1).symm
  subst hx
  refine ⟨?_, hl⟩
  have : pre = (List.range n).take pre.length := by rw [h]; simp
  rw [List.take_range, Nat.min_eq_left (by omega)] at this
  exact this
theorem zipIdx_split {α : Type} {m : List α} {pre suf : List (α × Nat)} {b : α} {k : Nat} (h : m.zipIdx 0 = pre ++ (b, k) :: suf) : k = pre.length ∧ m[k]? = some b ∧ pre.map (·.1) = m.take k ∧ k < m.length := by
  have h1 : (m.zipIdx 0)[pre.length]? = some (b, k) := by rw [h]; simp
  rw [List.getElem?_zipIdx] at h1
  obtain ⟨a, h2, h3⟩ := Option.map_eq_some_iff.mp h1
  have h4 : a = b ∧ 0 + pre.length = k := by simpa using h3
  obtain ⟨rfl, h5⟩ := h4
  have hk : k = pre.length := by omega
  subst hk
  refine ⟨rfl, h2, ?_, (List.getElem?_eq_some_iff.mp h2).1⟩
  have h6 : m = (m.zipIdx 0).map (·.1) := by simp
  rw [h6, h]
  simp
theorem flatMap_len {α β : Type} {f : α → List β} {k : Nat} : ∀ {xs : List α}, (∀ x ∈ xs, (f x).length ≤ k) → (xs.flatMap f).length ≤ xs.length * k
  | [], _ => by simp
  | x :: r, h => by
    have h1 := h x (by simp)
    have h2 := flatMap_len (xs := r) fun y hy => h y (by simp [hy])
    rw [List.flatMap_cons, List.length_append, List.length_cons, Nat.add_mul]
    omega
theorem run_from1 {l : List Nat} {k : Nat} {S : Src} : sliceD true (some ((k : Int) + 1)) none (nT l) S = some (nT (l.drop (k + 1)), S) := run_from_nT (k := k + 1)
theorem sortable_map {α : Type} {enc : α → D} {xs : List α} (h1 : ∀ p q, W.alike (enc p) (enc q) = true) (h2 : ∀ p, isTupCons (enc p) = true) (h3 : ∀ p, PyData.depth (enc p) ≤ 64) : sortable (xs.map enc) = true := by
  unfold sortable
  have e1 : ((xs.map enc).all fun a => (xs.map enc).all fun b => W.alike a b) = true := by
    rw [List.all_eq_true]
    intro x hx
    rw [List.all_eq_true]
    intro y hy
    obtain ⟨p, _, rfl⟩ := List.mem_map.mp hx
    obtain ⟨q, _, rfl⟩ := List.mem_map.mp hy
    exact h1 p q
  have e2 : (xs.map enc).all isTupCons = true := by
    rw [List.all_eq_true]
    intro x hx
    obtain ⟨p, _, rfl⟩ := List.mem_map.mp hx
    exact h2 p
  have e3 : ((xs.map enc).all fun a => decide (a.depth ≤ 64)) = true := by
    rw [List.all_eq_true]
    intro x hx
    obtain ⟨p, _, rfl⟩ := List.mem_map.mp hx
    exact decide_eq_true (h3 p)
  rw [e1, e2, e3]
  rfl
theorem alikes_map {α : Type} {enc : α → D} {xs : List α} (h1 : ∀ p ∈ xs, ∀ q ∈ xs, W.alike (enc p) (enc q) = true) (h2 : ∀ p ∈ xs, isNoneD (enc p) = false) (h3 : ∀ p ∈ xs, PyData.depth (enc p) ≤ 64) (h4 : ∀ p ∈ xs, imm (enc p) = true) : alikes (xs.map enc) = true := by
  unfold alikes
  have e1 : ((xs.map enc).all fun a => (xs.map enc).all fun b => W.alike a b) = true := by
    rw [List.all_eq_true]
    intro x hx
    rw [List.all_eq_true]
    intro y hy
    obtain ⟨p, hp, rfl⟩ := List.mem_map.mp hx
    obtain ⟨q, hq, rfl⟩ := List.mem_map.mp hy
    exact h1 p hp q hq
  have e2 : ((xs.map enc).all fun a => !isNoneD a) = true := by
    rw [List.all_eq_true]
    intro x hx
    obtain ⟨p, hp, rfl⟩ := List.mem_map.mp hx
    rw [h2 p hp]; rfl
  have e3 : decide (PyData.depthAll (xs.map enc) ≤ 64) = true := decide_eq_true (depthAll_le fun x hx => by
    obtain ⟨p, hp, rfl⟩ := List.mem_map.mp hx
    exact h3 p hp)
  rw [e1, e2, e3, immAll_map h4]
  rfl
def bit (b : Bool) : Int := if b then 1 else 0
theorem bit_one (b : Bool) : decide (bit b = 1) = b := by cases b <;> rfl
theorem sum_bits {α : Type} (p : α → Bool) (xs : List α) : (xs.map fun b => bit (p b)).sum = (xs.countP p : Int) := by
  induction xs with
  | nil => rfl
  | cons x r ih =>
    rw [List.map_cons, List.sum_cons, ih, List.countP_cons]
    cases p x <;> simp [bit] <;> omega
theorem small_nat {n : Nat} (h : n < 18446744073709551616) : small64 (n : Int) = true := decide_eq_true (by omega)
end DL

/-! DQ3: rows of whole numbers, index, first greatest ones, votes as data. -/
namespace DL
open PySem
variable {S : Src}

/-! ### equal -/
theorem eqv_int (a b : Int) : PyData.eqv (.int a) (.int b) = decide (a = b) := by
  simp only [PyData.eqv]
  exact Bool.beq_eq_decide_eq a b
theorem eqv_ints : ∀ a b : List Int, PyData.eqvAll (a.map .int) (b.map .int) = decide (a = b)
  | [], [] => by simp [PyData.eqvAll]
  | [], y :: b => by simp [PyData.eqvAll]
  | x :: a, [] => by simp [PyData.eqvAll]
  | x :: a, y :: b => by
    have := eqv_ints a b
    have h := eqv_int x y
    simp only [List.map_cons, PyData.eqvAll, this, h]
    by_cases h1 : x = y <;> by_cases h2 : a = b <;> simp [h1, h2]
theorem nT_ints (l : List Nat) : nT l = .tuple (List.map PyData.int (List.map (fun a : Nat => (a : Int)) l)) := by simp [nT]
theorem eqv_nT (a b : List Nat) : PyData.eqv (nT a) (nT b) = decide (a = b) := by
  rw [nT_ints, nT_ints]
  simp only [PyData.eqv, eqv_ints]
  refine decide_eq_decide.mpr ⟨fun h => ?_, fun h => by rw [h]⟩
  exact (List.map_inj_right (f := fun a : Nat => (a : Int)) (fun {x y} e => Int.ofNat.inj e)).mp h
theorem lay_ints : ∀ cs : List Int, PyData.canLayAll0 (cs.map .int) = true
  | [] => by simp [PyData.canLayAll0]
  | c :: cs => by simp [PyData.canLayAll0, PyData.canLay0, lay_ints cs]
theorem depth_ints : ∀ cs : List Int, PyData.depthAll (cs.map .int) = 0
  | [] => by simp [PyData.depthAll]
  | c :: cs => by simp [depth_ints cs]
theorem shaped_ints (cs : List Int) : SeqAt.shaped (.tuple (cs.map .int)) = true := by
  show (PyData.canLay0 _ && decide (PyData.depth _ ≤ 64)) = true
  simp only [PyData.canLay0, lay_ints, PyData.depth, depth_ints, Bool.true_and]
  decide
theorem shaped_intsL (cs : List Int) : SeqAt.shaped (.list (cs.map .int)) = true := by
  show (PyData.canLay0 _ && decide (PyData.depth _ ≤ 64)) = true
  simp only [PyData.canLay0, lay_ints, PyData.depth, depth_ints, Bool.true_and]
  decide
theorem shaped_nT (l : List Nat) : SeqAt.shaped (nT l) = true := by rw [nT_ints]; exact shaped_ints _
theorem shaped_int (i : Int) : SeqAt.shaped (.int i) = true := by
  show (PyData.canLay0 _ && decide (PyData.depth _ ≤ 64)) = true
  simp [PyData.canLay0]
theorem run_eq_nT {n : Bool} (a b : List Nat) : eqD n (nT a) (nT b) S = some (.bool (if n = true then !decide (a = b) else decide (a = b)), S) := by
  rw [run_eq (shaped_nT a) (shaped_nT b), eqv_nT]

/-! ### index -/
theorem idx_ne {α : Type} [DecidableEq α] {x y : α} {xs : List α} (h : y ≠ x) : (y :: xs).idxOf x = xs.idxOf x + 1 := by
  rw [List.idxOf_cons, show (y == x) = false from beq_eq_false_iff_ne.mpr h]
  rfl
theorem idx_get {α : Type} [DecidableEq α] {x : α} : ∀ {cs : List α}, x ∈ cs → cs[cs.idxOf x]? = some x ∧ ∀ b, b < cs.idxOf x → cs[b]? ≠ some x
  | c :: cs, h => by
    by_cases e : c = x
    · subst e
      simp
    · have hx : x ∈ cs := by
        rcases List.mem_cons.mp h with z | z
        · exact absurd z.symm e
        · exact z
      obtain ⟨h1, h2⟩ := idx_get hx
      rw [idx_ne e]
      refine ⟨by simpa using h1, fun b hb => ?_⟩
      cases b with
      | zero => simpa using e
      | succ b => simpa using h2 b (by omega)
theorem find_ints (x : Int) : ∀ {cs : List Int}, x ∈ cs → findD (.int x) (cs.map .int) = some (cs.idxOf x)
  | c :: cs, h => by
    show (if PyData.eqv (.int c) (.int x) = true then some 0 else (findD (.int x) (cs.map .int)).map (· + 1)) = _
    rw [eqv_int]
    by_cases e : c = x
    · subst e; simp
    · have hx : x ∈ cs := by
        rcases List.mem_cons.mp h with z | z
        · exact absurd z.symm e
        · exact z
      rw [if_neg (by simpa using e), find_ints x hx, idx_ne e]
      rfl
theorem run_indexI {cs : List Int} {x : Int} (h : x ∈ cs) : indexD (.tuple (cs.map .int)) (.int x) S = some (nI (cs.idxOf x), S) := by
  unfold indexD
  simp only [seqOf_tup, find_ints x h]
  rw [mbind, chk_run, shaped_ints, shaped_int]
  rfl
theorem run_index_nT {l : List Nat} {a : Nat} (h : a ∈ l) : indexD (nT l) (nI a) S = some (nI (l.idxOf a), S) := by
  rw [nT_ints, run_indexI (List.mem_map.mpr ⟨a, h, rfl⟩)]
  have : ∀ l : List Nat, (List.map (fun a : Nat => (a : Int)) l).idxOf (a : Int) = l.idxOf a := by
    intro l
    clear h
    induction l with
    | nil => rfl
    | cons b r ih =>
      by_cases e : b = a
      · subst e; simp
      · rw [List.map_cons, idx_ne (by omega), idx_ne e, ih]
  rw [this]

/-! ### rows -/
def row (n : Nat) (f : Nat → Int) : List D := (List.range n).map fun a => .int (f a)
theorem row_ints (n : Nat) (f : Nat → Int) : row n f = ((List.range n).map f).map .int := by simp [row]
@[simp] theorem row_len {n : Nat} {f : Nat → Int} : (row n f).length = n := by simp [row]
theorem row_get {n a : Nat} {f : Nat → Int} (h : a < n) : (row n f)[a]? = some (.int (f a)) := by simp [row, h]
theorem row_congr {n : Nat} {f g : Nat → Int} (h : ∀ a, a < n → f a = g a) : row n f = row n g := by
  unfold row
  exact List.map_congr_left fun a ha => by rw [h a (List.mem_range.mp ha)]
theorem imm_row {n : Nat} {f : Nat → Int} : immAll (row n f) = true := immAll_map fun _ _ => imm_int
theorem row_set {n a : Nat} {f : Nat → Int} {v : Int} : (row n f).set a (.int v) = row n fun b => if b = a then v else f b := by
  refine List.ext_getElem? fun i => ?_
  rw [List.getElem?_set]
  by_cases h : a = i
  · subst h
    by_cases hn : a < n
    · rw [if_pos rfl, if_pos (by simpa using hn), row_get hn, if_pos rfl]
    · rw [if_pos rfl, if_neg (by simpa using hn)]
      simp [row, hn]
  · rw [if_neg h]
    by_cases hn : i < n
    · rw [row_get hn, row_get hn, if_neg (fun z => h z.symm)]
    · simp [row, hn]
theorem row_zero (n : Nat) : (List.replicate n [PyData.int 0]).flatten = row n fun _ => 0 := by
  induction n with
  | zero => rfl
  | succ n ih =>
    rw [List.replicate_succ', List.flatten_append, ih]
    simp [row, List.range_succ]
theorem run_idx_row {n a : Nat} {f : Nat → Int} (h : a < n) : idxD (.list (row n f)) (.int a) S = some (.int (f a), S) := run_idxL (row_get h)
theorem run_idx_rowT {n a : Nat} {f : Nat → Int} (h : a < n) : idxD (.tuple (row n f)) (.int a) S = some (.int (f a), S) := run_idxT (row_get h)
theorem run_zeros {n : Nat} (h : n ≤ 1000000) : mulD (.list [.int 0]) (.int n) S = some (.list (row n fun _ => 0), S) := by
  show (chk (decide ((n : Int).natAbs < 2 ^ 63) && fit (1 * (n : Int).toNat) && immAll [PyData.int 0]) >>= fun _ => pure (PyData.list (List.replicate (n : Int).toNat [PyData.int 0]).flatten) : M D) S = _
  have h1 : decide ((n : Int).natAbs < 2 ^ 63) = true := decide_eq_true (by omega)
  have h2 : fit (1 * (n : Int).toNat) = true := fit_of (by omega)
  rw [mbind, chk_run, h1, h2, Int.toNat_natCast, row_zero]
  simp [mpure]

/-! ### the first greatest one -/
theorem lay_alikes {cs : List Int} : alikes (cs.map .int) = true := alikes_map (fun _ _ _ _ => by simp [W.alike]) (fun _ _ => rfl) (fun _ _ => by simp) fun _ _ => imm_int
theorem maxF_ints : ∀ (cs : List Int) (x : Int), ∃ m, maxF (.int x) (cs.map .int) = .int m ∧ m ∈ x :: cs ∧ ∀ y ∈ x :: cs, y ≤ m
  | [], x => ⟨x, rfl, by simp, by simp⟩
  | c :: cs, x => by
    obtain ⟨m, h1, h2, h3⟩ := maxF_ints cs (if x < c then c else x)
    refine ⟨m, ?_, ?_, ?_⟩
    · rw [← h1]
      show maxF (if W.dataLt (.int x) (.int c) = true then .int c else .int x) _ = _
      rw [lt_int]
      by_cases z : x < c <;> simp [z]
    · by_cases z : x < c <;> simp [z] at h2 <;> rcases h2 with q | q <;> simp [q]
    · intro y hy
      have h0 := h3 (if x < c then c else x) (by simp)
      rcases List.mem_cons.mp hy with rfl | hy
      · by_cases z : y < c <;> simp [z] at h0 <;> omega
      · rcases List.mem_cons.mp hy with rfl | hy
        · by_cases z : x < y <;> simp [z] at h0 <;> omega
        · exact h3 y (by simp [hy])
structure First (n : Nat) (c : Nat → Int) (t : Nat) : Prop where
  lt : t < n
  most : ∀ b, b < n → c b ≤ c t
  fst : ∀ b, b < t → c b < c t
theorem First.uniq {n : Nat} {c : Nat → Int} {s t : Nat} (h : First n c s) (g : First n c t) : s = t := by
  rcases Nat.lt_trichotomy s t with z | z | z
  · have := g.fst s z
    have := h.most t g.lt
    omega
  · exact z
  · have := h.fst t z
    have := g.most s h.lt
    omega
theorem First.congr {n : Nat} {c d : Nat → Int} {t : Nat} (h : First n c t) (e : ∀ a, a < n → c a = d a) : First n d t :=
  ⟨h.lt, fun b hb => by rw [← e b hb, ← e t h.lt]; exact h.most b hb, fun b hb => by rw [← e b (Nat.lt_trans hb h.lt), ← e t h.lt]; exact h.fst b hb⟩
/-- counts.index(max(counts)) -/
theorem first_max {n : Nat} {c : Nat → Int} (hn : 1 ≤ n) : ∃ m t, First n c t ∧ (∀ S : Src, bestD maxF (.tuple (row n c)) S = some (.int m, S)) ∧ ∀ S : Src, indexD (.tuple (row n c)) (.int m) S = some (nI t, S) := by
  obtain ⟨k, rfl⟩ : ∃ k, n = k + 1 := ⟨n - 1, by omega⟩
  have e0 : (List.range (k + 1)).map c = c 0 :: ((List.range k).map (· + 1)).map c := by
    rw [List.range_succ_eq_map]
    simp [Function.comp_def]
  obtain ⟨m, h1, h2, h3⟩ := maxF_ints (((List.range k).map (· + 1)).map c) (c 0)
  rw [← e0] at h2 h3
  refine ⟨m, ((List.range (k + 1)).map c).idxOf m, ?_, fun S => ?_, fun S => by rw [row_ints]; exact run_indexI h2⟩
  · have hl : ((List.range (k + 1)).map c).idxOf m < k + 1 := by
      have := List.idxOf_lt_length_of_mem h2
      simpa using this
    have get : c (((List.range (k + 1)).map c).idxOf m) = m := by
      have := (idx_get h2).1
      rw [List.getElem?_map, List.getElem?_range hl] at this
      simpa using this
    refine ⟨hl, fun b hb => by rw [get]; exact h3 _ (List.mem_map.mpr ⟨b, List.mem_range.mpr hb, rfl⟩), fun b hb => ?_⟩
    rw [get]
    have hle := h3 (c b) (List.mem_map.mpr ⟨b, List.mem_range.mpr (by omega), rfl⟩)
    have hne : c b ≠ m := fun z => by
      refine (idx_get h2).2 b hb ?_
      rw [List.getElem?_map, List.getElem?_range (by omega), Option.map_some, z]
    omega
  · rw [row_ints, e0]
    rw [run_best (d := .int (c 0)) (ds := (((List.range k).map (· + 1)).map c).map .int) rfl, h1]
    rw [← List.map_cons]
    exact lay_alikes
/-- min([(0 - count, a) ..])[1] -/
theorem foldMin_least {α : Type} (lt : α → α → Bool) (h0 : ∀ a, lt a a = false) (h1 : ∀ a b, lt a b = true → lt b a = false) (h2 : ∀ a b c, lt a b = false → lt b c = false → lt a c = false) : ∀ (xs : List α) (x : α), ∀ y ∈ x :: xs, lt y (xs.foldl (fun a y => if lt y a = true then y else a) x) = false
  | [], x, y, hy => by rw [List.mem_singleton.mp hy]; exact h0 x
  | z :: r, x, y, hy => by
    rw [List.foldl_cons]
    have ih := foldMin_least lt h0 h1 h2 r (if lt z x = true then z else x)
    have i0 := ih _ (List.mem_cons_self ..)
    rcases List.mem_cons.mp hy with rfl | hy
    · by_cases q : lt z y = true
      · rw [if_pos q] at i0 ⊢
        exact h2 _ _ _ (h1 _ _ q) i0
      · rw [if_neg q] at i0 ⊢
        exact i0
    · rcases List.mem_cons.mp hy with rfl | hy
      · by_cases q : lt y x = true
        · rw [if_pos q] at i0 ⊢
          exact i0
        · rw [if_neg q] at i0 ⊢
          exact h2 _ _ _ (by simpa using q) i0
      · exact ih y (List.mem_cons_of_mem _ hy)
def ltN (c : Nat → Int) (a b : Nat) : Bool := if c a = c b then decide (a < b) else decide (c b < c a)
def negP (c : Nat → Int) (a : Nat) : D := .tuple [.int (0 - c a), nI a]
theorem first_min {n : Nat} {c : Nat → Int} (hn : 1 ≤ n) : ∃ t, First n c t ∧ ∀ S : Src, bestD minF (.list ((List.range n).map (negP c))) S = some (negP c t, S) := by
  obtain ⟨k, rfl⟩ : ∃ k, n = k + 1 := ⟨n - 1, by omega⟩
  have e0 : List.range (k + 1) = 0 :: (List.range k).map (· + 1) := List.range_succ_eq_map
  have hlt : ∀ a b, W.dataLt (negP c a) (negP c b) = ltN c a b := fun a b => by
    show W.dataLt (.tuple [.int (0 - c a), .int a]) (.tuple [.int (0 - c b), .int b]) = _
    rw [lt_cons, lt_cons, lt_nil]
    show _ = if c a = c b then decide (a < b) else decide (c b < c a)
    by_cases h : c a = c b
    · rw [if_pos (by omega), if_pos h]
      by_cases h2 : (a : Int) = b
      · rw [if_pos h2]; simp; omega
      · rw [if_neg h2]; simp
    · rw [if_neg (by omega), if_neg h]
      exact decide_eq_decide.mpr (by omega)
  have hm := foldMin_mem (ltN c) ((List.range k).map (· + 1)) 0
  have hle := foldMin_least (ltN c) (fun a => by simp [ltN]) (fun a b h => by simp only [ltN] at h ⊢; split at h <;> simp at h <;> (split <;> simp <;> omega)) (fun a b d h g => by
    simp only [ltN] at h g ⊢
    split at h <;> split at g <;> split <;> simp at h g ⊢ <;> omega) ((List.range k).map (· + 1)) 0
  rw [← e0] at hm hle
  generalize hf : ((List.range k).map (· + 1)).foldl (fun a y => if ltN c y a = true then y else a) 0 = f at hm hle
  refine ⟨f, ⟨List.mem_range.mp hm, fun b hb => ?_, fun b hb => ?_⟩, fun S => ?_⟩
  · have := hle b (List.mem_range.mpr hb)
    simp only [ltN] at this
    split at this
    · omega
    · simpa using this
  · have := hle b (List.mem_range.mpr (Nat.lt_trans hb (List.mem_range.mp hm)))
    simp only [ltN] at this
    split at this
    · simp at this; omega
    · simp at this; omega
  · rw [e0, List.map_cons, run_best (d := negP c 0) (ds := ((List.range k).map (· + 1)).map (negP c)) rfl]
    · rw [minF_map (negP c) (ltN c) _ _ (List.pairwise_iff_forall_sublist.mpr fun {a b} _ => hlt b a), hf]
    · rw [← List.map_cons]
      exact alikes_map (fun p _ q _ => by simp [negP, W.alike, W.alikeAll]) (fun _ _ => rfl) (fun p _ => by simp [negP]) fun p _ => by simp [negP, imm_tup]
end DL

/-! DP2: what a run leaves as it was; draws within a comprehension; numbers in order. -/
namespace DL
open PySem
/-- all but the slots L are as they were -/
structure Keep (L : List Nat) (ρ ρ' : Env) : Prop where
  len : ρ'.length = ρ.length
  same : ∀ i, i ∉ L → ρ'[i]? = ρ[i]?
theorem Keep.refl {L : List Nat} {ρ : Env} : Keep L ρ ρ := ⟨rfl, fun _ _ => rfl⟩
theorem Keep.trans {L : List Nat} {a b c : Env} (h : Keep L a b) (g : Keep L b c) : Keep L a c := ⟨g.len.trans h.len, fun i hi => (g.same i hi).trans (h.same i hi)⟩
theorem Keep.mono {L M : List Nat} {a b : Env} (h : Keep L a b) (s : ∀ i ∈ L, i ∈ M) : Keep M a b := ⟨h.len, fun i hi => h.same i fun z => hi (s i z)⟩
theorem Keep.set {L : List Nat} {a b : Env} {k : Nat} {v : Option D} (h : Keep L a b) (hk : k ∈ L) : Keep L a (b.set k v) := ⟨by rw [List.length_set]; exact h.len, fun i hi => by
  have : k ≠ i := fun z => hi (z ▸ hk)
  rw [List.getElem?_set_ne this]
  exact h.same i hi⟩
theorem Keep.get {L : List Nat} {a b : Env} {i : Nat} {v : Option D} (h : Keep L a b) (hi : i ∉ L) (e : a[i]? = some v) : b[i]? = some v := (h.same i hi).trans e
theorem set_here {ρ : Env} {k : Nat} {v : Option D} (h : k < ρ.length) : (ρ.set k v)[k]? = some v := by
  rw [List.getElem?_set_self h]
theorem set_there {ρ : Env} {k i : Nat} {v : Option D} (h : k ≠ i) : (ρ.set k v)[i]? = ρ[i]? := List.getElem?_set_ne h
/-- a comprehension that draws -/
theorem compD_some {α : Type} {g : GF} {t : TF} {e : EF} {ρ : Env} (enc : α → D) (P : D → Prop) : ∀ (xs : List α) (S : Src), (∀ x ∈ xs, ∀ S, ∃ ρ' S1 y S2, g (enc x) ρ S = some (ρ', S1) ∧ t ρ' S1 = some (true, S1) ∧ e ρ' S1 = some (y, S2) ∧ P y) → ∃ ys S', compD g t e ρ (xs.map enc) S = some (ys, S') ∧ ys.length = xs.length ∧ ∀ y ∈ ys, P y
  | [], S, _ => ⟨[], S, rfl, rfl, fun _ h => nomatch h⟩
  | x :: r, S, h => by
    obtain ⟨ρ', S1, y, S2, h1, h2, h3, h4⟩ := h x (by simp) S
    obtain ⟨ys, S', i1, i2, i3⟩ := compD_some enc P r S2 fun z hz => h z (by simp [hz])
    refine ⟨y :: ys, S', ?_, by simp [i2], fun z hz => ?_⟩
    · show (g (enc x) ρ >>= _) S = _
      rw [mbind, h1, Option.bind_some]
      show (t ρ' >>= _) S1 = _
      rw [mbind, h2, Option.bind_some]
      show (e ρ' >>= _) S1 = _
      rw [mbind, h3, Option.bind_some]
      show (compD g t e ρ (r.map enc) >>= _) S2 = _
      rw [mbind, i1]
      rfl
    · rcases List.mem_cons.mp hz with rfl | hz
      · exact h4
      · exact i3 z hz
theorem list_ints {P : Int → Prop} : ∀ {ys : List D}, (∀ y ∈ ys, ∃ i, y = .int i ∧ P i) → ∃ is : List Int, ys = is.map .int ∧ ∀ i ∈ is, P i
  | [], _ => ⟨[], rfl, fun _ h => nomatch h⟩
  | y :: ys, h => by
    obtain ⟨i, rfl, hi⟩ := h y (by simp)
    obtain ⟨is, rfl, hs⟩ := list_ints fun z hz => h z (List.mem_cons_of_mem _ hz)
    exact ⟨i :: is, rfl, fun j hj => (List.mem_cons.mp hj).elim (fun e => e ▸ hi) (hs j)⟩
theorem sortable_ints (is : List Int) : sortable (is.map .int) = true := by
  unfold sortable
  have e1 : ((is.map PyData.int).all fun a => (is.map PyData.int).all fun b => W.alike a b) = true := by simp [W.alike]
  have e2 : ((is.map PyData.int).all fun a => !isNoneD a && !isTup a) = true := by simp [isNoneD, isTup]
  have e3 : ((is.map PyData.int).all fun a => decide (a.depth ≤ 64)) = true := by simp
  rw [e1, e2, e3]
  simp
theorem sorted_ints (is : List Int) : ∃ js : List Int, js.Perm is ∧ js.Pairwise (· ≤ ·) ∧ ∀ S : Src, sortedD (.list (is.map .int)) S = some (.list (js.map .int), S) := by
  obtain ⟨js, h1, h2⟩ := perm_map_inv (List.mergeSort_perm (is.map PyData.int) leD)
  refine ⟨js, h1, ?_, fun S => by rw [run_sorted rfl (sortable_ints is) (immAll_map fun _ _ => imm_int), h2]⟩
  have hle : ∀ a b : Int, leD (.int a) (.int b) = decide (a ≤ b) := fun a b => by
    unfold leD
    rw [lt_int]
    by_cases h : b < a
    · rw [decide_eq_true h, decide_eq_false (by omega)]; rfl
    · rw [decide_eq_false h, decide_eq_true (by omega)]; rfl
  have key : ∀ l : List Int, ((l.map PyData.int).mergeSort leD).Pairwise fun a b => ∃ x y : Int, a = .int x ∧ b = .int y ∧ x ≤ y := by
    intro l
    have e : (l.map PyData.int).mergeSort leD = (l.mergeSort fun a b => decide (a ≤ b)).map .int := by
      refine (List.map_mergeSort ?_).symm
      intro a _ b _
      exact (hle a b).symm
    rw [e, List.pairwise_map]
    have := List.pairwise_mergeSort (le := fun a b : Int => decide (a ≤ b)) (fun a b c h g => decide_eq_true (by have := of_decide_eq_true h; have := of_decide_eq_true g; omega)) (fun a b => by simp only [Bool.or_eq_true, decide_eq_true_eq]; omega) l
    exact this.imp fun h => ⟨_, _, rfl, rfl, of_decide_eq_true h⟩
  have := key is
  rw [h2, List.pairwise_map] at this
  exact this.imp fun ⟨x, y, e1, e2, h⟩ => by cases e1; cases e2; exact h
end DL

/-! DV: votes as data: what is drawn, a vote more. -/
namespace DL
open PySem
abbrev Vs := List (List Nat × Nat)
def encV (p : List Nat × Nat) : D := .tuple [nT p.1, nI p.2]
def encVs (vs : Vs) : D := .tuple (vs.map encV)
/-- votes of the things below n -/
structure Vt (n : Nat) (vs : Vs) : Prop where
  perm : ∀ p ∈ vs, p.1.Perm (List.range n)
  ne : vs ≠ []
  len : vs.length ≤ 100000
variable {n : Nat} {vs : Vs} {S : Src}
theorem imm_encV (p : List Nat × Nat) : imm (encV p) = true := by simp [encV, imm_tup, imm_nT]
theorem imm_encVs : imm (encVs vs) = true := by
  unfold encVs
  rw [imm_tup]
  exact immAll_map fun p _ => imm_encV p
theorem Vt.first (h : Vt n vs) : ∃ p r, vs = p :: r ∧ p.1.length = n := by
  cases vs with
  | nil => exact absurd rfl h.ne
  | cons p r => exact ⟨p, r, rfl, by rw [(h.perm p (by simp)).length_eq, List.length_range]⟩
/-- a vote more -/
def here (vs : Vs) (o : List Nat) : Nat := ((vs.filter fun p => p.1 == o).map (·.2)).sum
def more (vs : Vs) (o : List Nat) (m : Nat) : Vs := (vs.filter fun p => !(p.1 == o)) ++ [(o, here vs o + m)]
theorem more_all {P : List Nat → Prop} {vs : Vs} {o : List Nat} {m : Nat} (h : ∀ p ∈ vs, P p.1) (ho : P o) : ∀ p ∈ more vs o m, P p.1 := fun p hp => by
  rcases List.mem_append.mp hp with z | z
  · exact h p (List.mem_filter.mp z).1
  · rw [List.mem_singleton.mp z]; exact ho
theorem more_len {vs : Vs} {o : List Nat} {m : Nat} : (more vs o m).length ≤ vs.length + 1 := by
  unfold more
  rw [List.length_append, List.length_singleton]
  exact Nat.succ_le_succ (List.length_filter_le _ _)
theorem more_ne {vs : Vs} {o : List Nat} {m : Nat} : more vs o m ≠ [] := by simp [more]

theorem alike_ints : ∀ a b : List Nat, W.alikeAll (a.map fun x => nI x) (b.map fun x => nI x) = true
  | [], [] => by simp [W.alikeAll]
  | [], _ :: _ => by simp [W.alikeAll]
  | _ :: _, [] => by simp [W.alikeAll]
  | x :: a, y :: b => by simp [W.alikeAll, W.alike, alike_ints a b]
theorem alike_nT (a b : List Nat) : W.alike (nT a) (nT b) = true := by
  unfold nT
  simp only [W.alike]
  exact alike_ints a b
theorem depth_nT (l : List Nat) : PyData.depth (nT l) ≤ 1 := by
  rw [nT_ints]
  simp only [PyData.depth, depth_ints]
  omega
theorem sortable_encV (vs : Vs) : sortable (vs.map encV) = true := sortable_map (fun p q => by simp [encV, W.alike, W.alikeAll, alike_nT]) (fun p => rfl) fun p => by
  have := depth_nT p.1
  simp [encV]
  omega
theorem sorted_encV (vs : Vs) : ∃ ws : Vs, ws.Perm vs ∧ ∀ S : Src, sortedD (.list (vs.map encV)) S = some (.list (ws.map encV), S) := by
  obtain ⟨ws, h1, h2⟩ := perm_map_inv (List.mergeSort_perm (vs.map encV) leD)
  exact ⟨ws, h1, fun S => by rw [run_sorted rfl (sortable_encV vs) (immAll_map fun p _ => imm_encV p), h2]⟩
def lawMoreB : SF := sSeq (sAsg (eComp [5] (wSeq (eVar 0)) (gName 5) (tB (e2 (eqD true) (e2 idxD (eVar 5) (eC (.int 0))) (eVar 1))) (eImm (eVar 5))) (gName 3)) (sSeq (sAsg (e1 sumD (eComp [6, 7] (wSeq (eVar 0)) (gTup [gName 6, gName 7]) (tB (e2 (eqD false) (eVar 6) (eVar 1))) (eImm (eVar 7)))) (gName 4)) (sRet (e1 (tupleD true) (e1 sortedD (e2 (addD true) (eVar 3) (eLst (lCons (eTup (lCons (eImm (eVar 1)) (lCons (e2 (addD true) (eVar 4) (eVar 2)) (lNil)))) (lNil))))))))
theorem run_more {o : List Nat} {m : Nat} (h : vs.length ≤ 100000) : ∃ ws : Vs, ws.Perm (more vs o m) ∧ ∀ S : Src, runDef 3 8 lawMoreB [encVs vs, nT o, nI m] S = some (encVs ws, S) := by
  obtain ⟨ws, h1, h2⟩ := sorted_encV (more vs o m)
  refine ⟨ws, h1, fun S => ?_⟩
  rw [run_def (by rfl)]
  show (lawMoreB [some (encVs vs), some (nT o), some (nI m), none, none, none, none, none] S).bind _ = _
  unfold lawMoreB
  have c1 : compD (gName 5) (tB (e2 (eqD true) (e2 idxD (eVar 5) (eC (.int 0))) (eVar 1))) (eImm (eVar 5)) [some (encVs vs), some (nT o), some (nI m), none, none, none, none, none] (vs.map encV) S = some ((vs.filter fun p => !(p.1 == o)).map encV, S) :=
    compD_pure encV encV (fun p => !(p.1 == o)) vs fun p hp => ⟨_, rfl, by simp [encV, run_eq_nT, Bool.beq_eq_decide_eq], fun _ => by simp [imm_encV]⟩
  have c2 : ∀ x : D, compD (gTup [gName 6, gName 7]) (tB (e2 (eqD false) (eVar 6) (eVar 1))) (eImm (eVar 7)) [some (encVs vs), some (nT o), some (nI m), some x, none, none, none, none] (vs.map encV) S = some ((vs.filter fun p => p.1 == o).map (fun p => nI p.2), S) := fun x =>
    compD_pure encV (fun p => nI p.2) (fun p => p.1 == o) vs fun p hp => ⟨[some (encVs vs), some (nT o), some (nI m), some x, none, none, some (nT p.1), some (nI p.2)], by simp [encV], by simp [run_eq_nT, Bool.beq_eq_decide_eq], fun _ => by simp⟩
  have f1 : fit ((vs.filter fun p => !(p.1 == o)).map encV).length = true := fit_of (by rw [List.length_map]; have := List.length_filter_le (fun p => !(p.1 == o)) vs; omega)
  have f2 : fit ((vs.filter fun p => p.1 == o).map fun p => nI p.2).length = true := fit_of (by rw [List.length_map]; have := List.length_filter_le (fun p => p.1 == o) vs; omega)
  have f3 : fit (((vs.filter fun p => !(p.1 == o)).map encV).length + [encV (o, here vs o + m)].length) = true := fit_of (by rw [List.length_map, List.length_singleton]; have := List.length_filter_le (fun p => !(p.1 == o)) vs; omega)
  have s1 : sumD (.list ((vs.filter fun p => p.1 == o).map fun p => nI p.2)) S = some (nI (here vs o), S) := by
    have e : ((vs.filter fun p => p.1 == o).map fun p => nI p.2) = ((vs.filter fun p => p.1 == o).map fun p => (p.2 : Int)).map .int := by rw [List.map_map]; rfl
    rw [e, run_sum rfl]
    have z : ∀ l : Vs, (l.map fun p => (p.2 : Int)).sum = (((l.map (·.2)).sum : Nat) : Int) := by
      intro l
      induction l with
      | nil => rfl
      | cons p r ih => rw [List.map_cons, List.sum_cons, ih, List.map_cons, List.sum_cons, Int.natCast_add]
    rw [z]
    rfl
  have q0 : seqOf (encVs vs) = some (vs.map encV) := rfl
  have i1 : immAll ((vs.filter fun p => !(p.1 == o)).map encV) = true := immAll_map fun p _ => imm_encV p
  have e3 : PyData.tuple [nT o, PyData.int ((here vs o : Int) + (m : Int))] = encV (o, here vs o + m) := by simp [encV]
  have i2 : immAll [encV (o, here vs o + m)] = true := by simp [imm_encV]
  have e4 : ((vs.filter fun p => !(p.1 == o)).map encV) ++ [encV (o, here vs o + m)] = (more vs o m).map encV := by simp [more]
  have f4 : fit ([nT o, PyData.int ((here vs o : Int) + (m : Int))] : List D).length = true := rfl
  have f5 : fit ([encV (o, here vs o + m)] : List D).length = true := rfl
  simp only [run_seq, run_asg, run_comp, run_wSeq, run_var, List.getElem?_cons_succ, List.getElem?_cons_zero, Option.bind_some, Option.map_some, q0, kill_cons, kill_nil, List.set_cons_succ, List.set_cons_zero, c1, f1, ↓reduceIte, run_gName, seqO_nx, run_1, c2, f2, s1, run_ret, run_2, run_lst, run_lcons, run_lnil, run_tup, run_imm, imm_nT, run_add, f4, e3, f5, run_addL, f3, i1, i2, Bool.and_self, Bool.not_true, Bool.false_or, and_self, e4, h2, run_tuple, seqOf_list, Bool.or_true]
  have i3 : immAll (ws.map encV) = true := immAll_map fun p _ => imm_encV p
  simp [i3, encVs]
def lawVotesB (m : List D → M D) : SF := sSeq (sAsg (e2 (addD true) (eC (.int 1)) (eCallM m (lCons (eVar 1) (lNil)))) (gName 3)) (sSeq (sPar [4, 5] (lCons (eC (.dict [tMark])) (lCons (eImm (e2 idxD (eLst (lCons (eC (.int 1)) (lCons (eC (.int 3)) (lCons (eC (.int 20)) (lNil))))) (eCallM m (lCons (eC (.int 3)) (lNil))))) (lNil)))) (sSeq (sAsg (eListOf (wRange1 (eVar 3))) (gName 6)) (sSeq (sFor (wRange1 (e2 (addD true) (eC (.int 1)) (eCallM m (lCons (eVar 2) (lNil))))) (gName 7) (sSeq (sIf (tAnd (tB (e2 (cmD .gt) (eCallM m (lCons (eC (.int 3)) (lNil))) (eC (.int 0)))) (tB (e2 (cmD .gt) (eVar 3) (eC (.int 1))))) (sSeq (sAsg (eCallM m (lCons (e2 subD (eVar 3) (eC (.int 1))) (lNil))) (gName 8)) (sAsg (e2 (addD true) (e2 (addD true) (eSlice true (eVar 6) none (some (eVar 8))) (eLst (lCons (eImm (e2 idxD (eVar 6) (e2 (addD true) (eVar 8) (eC (.int 1))))) (lCons (eImm (e2 idxD (eVar 6) (eVar 8))) (lNil))))) (eSlice true (eVar 6) (some (e2 (addD true) (eVar 8) (eC (.int 2)))) none)) (gName 6))) (sAsg (eCallM (runDefS 1 4 (anyOrderB m)) (lCons (eVar 6) (lNil))) (gName 6))) (DL.sDPut 4 (e1 (tupleD true) (eVar 6)) (e2 (addD true) (eC (.int 1)) (eCallM m (lCons (eVar 5) (lNil))))))) (sRet (e1 (tupleD true) (e1 sortItemsD (eVar 4)))))))
end DL

/-! DV2: votes that are drawn. -/
namespace DL
open PySem
variable {n : Nat} {vs : Vs} {S : Src}
def encKV (p : List Nat × Nat) : D × D := (nT p.1, nI p.2)
def encDV (vs : Vs) : D := .dict (tMark :: vs.map encKV)
theorem keyT_nT (o : List Nat) : keyT (nT o) = some (List.map (fun a : Nat => (a : Int)) o) := by rw [nT_ints]; exact keysI_map _
theorem same_nT (o q : List Nat) : sameKey true (nT o) (nT q) = (q == o) := by
  show decide (keyT (nT q) = keyT (nT o)) = _
  rw [keyT_nT, keyT_nT, Bool.beq_eq_decide_eq]
  refine decide_eq_decide.mpr ⟨fun h => ?_, fun h => by rw [h]⟩
  exact (List.map_inj_right (f := fun a : Nat => (a : Int)) (fun {x y} e => Int.ofNat.inj e)).mp (Option.some.inj h)
def putV (vs : Vs) (o : List Nat) (m : Nat) : Vs := if (vs.any fun p => p.1 == o) = true then vs.map (fun p => if (p.1 == o) = true then (p.1, m) else p) else vs ++ [(o, m)]
theorem store_V (vs : Vs) (o : List Nat) (m : Nat) : storeD true (vs.map encKV) (nT o) (nI m) = (putV vs o m).map encKV := by
  unfold storeD putV
  have e1 : ((vs.map encKV).any fun p => sameKey true (nT o) p.1) = vs.any fun p => p.1 == o := by
    rw [List.any_map]
    congr 1
    funext p
    exact same_nT o p.1
  rw [e1]
  split
  · rw [List.map_map, List.map_map]
    refine List.map_congr_left fun p _ => ?_
    show (if sameKey true (nT o) (nT p.1) = true then _ else _) = encKV (if (p.1 == o) = true then (p.1, m) else p)
    rw [same_nT]
    split <;> rfl
  · rw [List.map_append]; rfl
theorem putV_len {o : List Nat} {m : Nat} : (putV vs o m).length ≤ vs.length + 1 := by
  unfold putV
  split <;> simp
theorem putV_ne {o : List Nat} {m : Nat} : putV vs o m ≠ [] := by
  unfold putV
  split
  · rename_i h
    intro z
    rw [List.map_eq_nil_iff] at z
    simp [z] at h
  · simp
theorem putV_all {P : List Nat → Nat → Prop} {o : List Nat} {m : Nat} (h : ∀ p ∈ vs, P p.1 p.2) (ho : P o m) : ∀ p ∈ putV vs o m, P p.1 p.2 := by
  unfold putV
  intro p hp
  split at hp
  · obtain ⟨q, hq, rfl⟩ := List.mem_map.mp hp
    by_cases z : (q.1 == o) = true
    · rw [if_pos z]
      have : q.1 = o := by simpa using z
      rw [this]
      exact ho
    · rw [if_neg z]
      exact h q hq
  · rcases List.mem_append.mp hp with z | z
    · exact h p z
    · rw [List.mem_singleton.mp z]; exact ho
theorem run_dput {x : Nat} {fk fe : Env → M D} {ρ : Env} {S1 S2 : Src} {o : List Nat} {m : Nat} (h1 : fe ρ S = some (nI m, S1)) (h2 : fk ρ S1 = some (nT o, S2)) (h3 : ρ[x]? = some (some (encDV vs))) (h4 : vs.length ≤ 100000) : DL.sDPut x fk fe ρ S = some (.nx (ρ.set x (some (encDV (putV vs o m)))), S2) := by
  unfold DL.sDPut
  rw [mbind, h1, Option.bind_some, mbind, h2, Option.bind_some]
  simp only [h3]
  show (chk (okKey true (nT o) && decide ((vs.map encKV).length < sizeLine)) >>= fun _ => pure (.nx (ρ.set x (some (packD true (storeD true (vs.map encKV) (nT o) (nI m)))))) : M Out) S2 = _
  have h5 : okKey true (nT o) = true := by
    show (keyT (nT o)).isSome = true
    rw [keyT_nT]; rfl
  have h6 : decide ((vs.map encKV).length < sizeLine) = true := decide_eq_true (by rw [List.length_map, sizeLine_eq]; omega)
  rw [mbind, chk_run, h5, h6, store_V]
  rfl
theorem run_sortItems : ∃ ws : Vs, ws.Perm vs ∧ ∀ S : Src, sortItemsD (encDV vs) S = some (.list (ws.map encV), S) := by
  obtain ⟨ws, h1, h2⟩ := sorted_encV vs
  refine ⟨ws, h1, fun S => ?_⟩
  show sortedD (.list (itemsD (vs.map encKV))) S = _
  have e : itemsD (vs.map encKV) = vs.map encV := by
    unfold itemsD
    rw [List.map_map]
    rfl
  rw [e, h2]
theorem swap_perm {o : List Nat} {i : Nat} (h : i + 1 < o.length) : (o.take i ++ [o.getD (i + 1) 0, o.getD i 0] ++ o.drop (i + 2)).Perm o := by
  have e1 : o.drop i = o.getD i 0 :: o.drop (i + 1) := by
    rw [List.drop_eq_getElem_cons (by omega)]
    congr 1
    simp [show i < o.length by omega]
  have e2 : o.drop (i + 1) = o.getD (i + 1) 0 :: o.drop (i + 2) := by
    rw [List.drop_eq_getElem_cons h]
    congr 1
    simp [h]
  have e3 : o = o.take i ++ (o.getD i 0 :: o.getD (i + 1) 0 :: o.drop (i + 2)) := by
    rw [← e2, ← e1, List.take_append_drop]
  refine List.Perm.trans ?_ (List.Perm.of_eq e3.symm)
  rw [List.append_assoc]
  exact List.Perm.append_left _ (List.Perm.swap _ _ _)
/-- a turn: the order next to it, or any; and its vote -/
def votesT (m : List D → M D) : SF := (sSeq (sIf (tAnd (tB (e2 (cmD .gt) (eCallM m (lCons (eC (.int 3)) (lNil))) (eC (.int 0)))) (tB (e2 (cmD .gt) (eVar 3) (eC (.int 1))))) (sSeq (sAsg (eCallM m (lCons (e2 subD (eVar 3) (eC (.int 1))) (lNil))) (gName 8)) (sAsg (e2 (addD true) (e2 (addD true) (eSlice true (eVar 6) none (some (eVar 8))) (eLst (lCons (eImm (e2 idxD (eVar 6) (e2 (addD true) (eVar 8) (eC (.int 1))))) (lCons (eImm (e2 idxD (eVar 6) (eVar 8))) (lNil))))) (eSlice true (eVar 6) (some (e2 (addD true) (eVar 8) (eC (.int 2)))) none)) (gName 6))) (sAsg (eCallM (runDefS 1 4 (anyOrderB m)) (lCons (eVar 6) (lNil))) (gName 6))) (DL.sDPut 4 (e1 (tupleD true) (eVar 6)) (e2 (addD true) (eC (.int 1)) (eCallM m (lCons (eVar 5) (lNil))))))
theorem lawVotes_eq (m : List D → M D) : lawVotesB m = sSeq (sAsg (e2 (addD true) (eC (.int 1)) (eCallM m (lCons (eVar 1) (lNil)))) (gName 3)) (sSeq (sPar [4, 5] (lCons (eC (.dict [tMark])) (lCons (eImm (e2 idxD (eLst (lCons (eC (.int 1)) (lCons (eC (.int 3)) (lCons (eC (.int 20)) (lNil))))) (eCallM m (lCons (eC (.int 3)) (lNil))))) (lNil)))) (sSeq (sAsg (eListOf (wRange1 (eVar 3))) (gName 6)) (sSeq (sFor (wRange1 (e2 (addD true) (eC (.int 1)) (eCallM m (lCons (eVar 2) (lNil))))) (gName 7) (votesT m)) (sRet (e1 (tupleD true) (e1 sortItemsD (eVar 4))))))) := rfl
theorem run_votesT {m : List D → M D} (hp : Picks m) {a b c l : Option D} {mm : Nat} {o : List Nat} (hn : 1 ≤ n) (hn2 : n ≤ 1000) (ho : o.Perm (List.range n)) (hm : 1 ≤ mm) (hm2 : mm ≤ 20) (hl : vs.length ≤ 100000) (x8 : Option D) : ∃ o' k x8' S', o'.Perm (List.range n) ∧ k ≤ 20 ∧
    votesT m [none, a, b, some (nI n), some (encDV vs), some (nI mm), some (.list (o.map fun a => nI a)), l, x8] S = some (.nx [none, a, b, some (nI n), some (encDV (putV vs o' k)), some (nI mm), some (.list (o'.map fun a => nI a)), l, x8'], S') := by
  have hlen : o.length = n := by rw [ho.length_eq, List.length_range]
  obtain ⟨p1, hp1, S1, q1⟩ := hp 3 S (by omega) (by omega)
  have q1' : m [.int 3] S = some (.int p1, S1) := q1
  -- the order
  have A : ∃ (o' : List Nat) (x8' : Option D) (S2 : Src), o'.Perm (List.range n) ∧ (sIf (tAnd (tB (e2 (cmD .gt) (eCallM m (lCons (eC (.int 3)) (lNil))) (eC (.int 0)))) (tB (e2 (cmD .gt) (eVar 3) (eC (.int 1))))) (sSeq (sAsg (eCallM m (lCons (e2 subD (eVar 3) (eC (.int 1))) (lNil))) (gName 8)) (sAsg (e2 (addD true) (e2 (addD true) (eSlice true (eVar 6) none (some (eVar 8))) (eLst (lCons (eImm (e2 idxD (eVar 6) (e2 (addD true) (eVar 8) (eC (.int 1))))) (lCons (eImm (e2 idxD (eVar 6) (eVar 8))) (lNil))))) (eSlice true (eVar 6) (some (e2 (addD true) (eVar 8) (eC (.int 2)))) none)) (gName 6))) (sAsg (eCallM (runDefS 1 4 (anyOrderB m)) (lCons (eVar 6) (lNil))) (gName 6))) [none, a, b, some (nI n), some (encDV vs), some (nI mm), some (.list (o.map fun a => nI a)), l, x8] S = some (.nx [none, a, b, some (nI n), some (encDV vs), some (nI mm), some (.list (o'.map fun a => nI a)), l, x8'], S2) := by
    rw [run_sIf]
    have t1 : (tAnd (tB (e2 (cmD .gt) (eCallM m (lCons (eC (.int 3)) (lNil))) (eC (.int 0)))) (tB (e2 (cmD .gt) (eVar 3) (eC (.int 1))))) [none, a, b, some (nI n), some (encDV vs), some (nI mm), some (.list (o.map fun a => nI a)), l, x8] S = some (decide (0 < p1) && decide (1 < n), S1) := by
      by_cases z : 0 < p1
      · have z1 : (0 : Int) < p1 := by omega
        have z3 : decide ((1 : Int) < (n : Int)) = decide (1 < n) := decide_eq_decide.mpr (by omega)
        simp only [run_tAnd, run_tB, run_2, run_callM, run_lcons, run_lnil, run_c, Option.bind_some, q1', run_cm, cm_gt, boolOf_bool, Option.map_some, z1, decide_true, ↓reduceIte, run_var, List.getElem?_cons_succ, List.getElem?_cons_zero, z3, z, Bool.true_and]
      · have z1 : ¬ (0 : Int) < p1 := by omega
        simp [q1', z, z1]
    rw [t1, Option.bind_some]
    by_cases z : (decide (0 < p1) && decide (1 < n)) = true
    · simp only [z, if_true]
      have z2 : 1 < n := by
        rw [Bool.and_eq_true] at z
        exact of_decide_eq_true z.2
      obtain ⟨i, hi, S2, q2⟩ := hp (n - 1) S1 (by omega) (by omega)
      have e1 : ((n : Int) - 1) = ((n - 1 : Nat) : Int) := by omega
      have q2' : m [.int ((n : Int) - 1)] S1 = some (.int i, S2) := by rw [e1]; exact q2
      have i1 : i + 1 < o.length := by omega
      refine ⟨_, some (nI i), S2, (swap_perm i1).trans ho, ?_⟩
      have g1 : idxD (.list (o.map fun a => nI a)) (.int ((i : Int) + 1)) S2 = some (nI (o.getD (i + 1) 0), S2) := by
        have := run_idxL (S := S2) (k := i + 1) (xs := o.map fun a => nI a) (d := nI (o.getD (i + 1) 0)) (by simp [i1])
        exact this
      have g2 : idxD (.list (o.map fun a => nI a)) (.int i) S2 = some (nI (o.getD i 0), S2) := run_idxL (by simp [show i < o.length by omega])
      have s1 : sliceD true none (some (i : Int)) (.list (o.map fun a => nI a)) S2 = some (.list ((o.take i).map fun a => nI a), S2) := by rw [run_sliceL, immAll_nI, cut_to, ← List.map_take]; rfl
      have s2 : sliceD true (some ((i : Int) + 2)) none (.list (o.map fun a => nI a)) S2 = some (.list ((o.drop (i + 2)).map fun a => nI a), S2) := by
        have := cut_from (xs := o.map fun a => nI a) (k := i + 2)
        rw [run_sliceL, immAll_nI, show ((i : Int) + 2) = ((i + 2 : Nat) : Int) by omega, this, ← List.map_drop]; rfl
      have f0 : fit ([nI (o.getD (i + 1) 0), nI (o.getD i 0)] : List D).length = true := rfl
      have f1 : fit (((o.take i).map fun a => nI a).length + [nI (o.getD (i + 1) 0), nI (o.getD i 0)].length) = true := fit_of (by simp; omega)
      have f2 : fit (((o.take i).map (fun a => nI a) ++ [nI (o.getD (i + 1) 0), nI (o.getD i 0)]).length + ((o.drop (i + 2)).map fun a => nI a).length) = true := fit_of (by simp; omega)
      have j1 : immAll ((o.take i).map fun a => nI a) = true := immAll_nI _
      have j2 : immAll [nI (o.getD (i + 1) 0), nI (o.getD i 0)] = true := by simp
      have j3 : immAll ((o.take i).map (fun a => nI a) ++ [nI (o.getD (i + 1) 0), nI (o.getD i 0)]) = true := by rw [immAll_append, j1, j2]; rfl
      have j4 : immAll ((o.drop (i + 2)).map fun a => nI a) = true := immAll_nI _
      simp only [run_seq, run_asg, run_callM, run_lcons, run_lnil, run_2, run_var, List.getElem?_cons_succ, List.getElem?_cons_zero, Option.bind_some, Option.map_some, run_c, run_sub, q2', run_gName, List.set_cons_succ, List.set_cons_zero, seqO_nx, run_eSlice, run_part0, run_part, intOf_int, s1, run_lst, run_imm, run_add, g1, g2, imm_int, f0, ↓reduceIte, run_addL, f1, j1, j2, Bool.and_self, Bool.not_true, Bool.false_or, and_self, s2, f2, j3, j4]
      simp
    · simp only [z]
      obtain ⟨ys, S2, q2, p⟩ := any_order (x := .list (o.map fun a => nI a)) (S := S1) hp rfl (immAll_nI _) (by simp; omega)
      obtain ⟨o', h1, rfl⟩ := perm_map_inv p
      refine ⟨o', x8, S2, h1.trans ho, ?_⟩
      simp [q2]
  obtain ⟨o', x8', S2, ho', hA⟩ := A
  obtain ⟨k, hk, S3, q3⟩ := hp mm S2 hm (by omega)
  refine ⟨o', 1 + k, x8', S3, ho', by omega, ?_⟩
  unfold votesT
  rw [run_seq, hA, Option.bind_some, seqO_nx]
  have e2 : (e2 (addD true) (eC (.int 1)) (eCallM m (lCons (eVar 5) (lNil)))) [none, a, b, some (nI n), some (encDV vs), some (nI mm), some (.list (o'.map fun a => nI a)), l, x8'] S2 = some (nI (1 + k), S3) := by
    simp only [run_2, run_c, run_callM, run_lcons, run_lnil, run_var, List.getElem?_cons_succ, List.getElem?_cons_zero, Option.bind_some, Option.map_some, q3, run_add]
    simp
  have e3 : (e1 (tupleD true) (eVar 6)) [none, a, b, some (nI n), some (encDV vs), some (nI mm), some (.list (o'.map fun a => nI a)), l, x8'] S3 = some (nT o', S3) := by
    simp [immAll_nI, nT]
  rw [run_dput e2 e3 rfl hl]
  rfl
theorem run_votes {m : List D → M D} (hp : Picks m) {t k : Nat} (ht : 1 ≤ t) (ht2 : t ≤ 1000) (hk : 1 ≤ k) (hk2 : k ≤ 1000) : ∃ n vs S', 1 ≤ n ∧ n ≤ t ∧ Vt n vs ∧ vs.length ≤ k ∧ (∀ p ∈ vs, p.2 ≤ 20) ∧ runDefS 2 9 (lawVotesB m) [nI t, nI k] S = some (encVs vs, S') := by
  obtain ⟨i, hi, S1, q1⟩ := hp t S ht (by omega)
  obtain ⟨j, hj, S2, q2⟩ := hp 3 S1 (by omega) (by omega)
  obtain ⟨r, hr, S3, q3⟩ := hp k S2 hk (by omega)
  have q2' : m [.int 3] S1 = some (.int j, S2) := q2
  obtain ⟨mm, hm1, hm2, hmm⟩ : ∃ mm : Nat, 1 ≤ mm ∧ mm ≤ 20 ∧ ∀ S : Src, idxD (.list [.int 1, .int 3, .int 20]) (.int j) S = some (nI mm, S) := by
    rcases (by omega : j = 0 ∨ j = 1 ∨ j = 2) with rfl | rfl | rfl
    · exact ⟨1, by omega, by omega, fun S => run_idxL (k := 0) rfl⟩
    · exact ⟨3, by omega, by omega, fun S => run_idxL (k := 1) rfl⟩
    · exact ⟨20, by omega, by omega, fun S => run_idxL (k := 2) rfl⟩
  have key := forD_inv (b := turnD (gName 7) (votesT m)) (fun a : Nat => nI a)
    (fun pre ρ S' => ∃ (o : List Nat) (vs : Vs) (x7 x8 : Option D), o.Perm (List.range (i + 1)) ∧ (∀ p ∈ vs, p.1.Perm (List.range (i + 1)) ∧ p.2 ≤ 20) ∧ vs.length ≤ pre.length ∧ (pre ≠ [] → vs ≠ []) ∧ ρ = [none, some (nI t), some (nI k), some (nI (i + 1)), some (encDV vs), some (nI mm), some (.list (o.map fun a => nI a)), x7, x8]) (List.range (r + 1))
    (fun pre x suf ρ S' e h => by
      obtain ⟨o, vs, x7, x8, h1, h2, h3, h4, rfl⟩ := h
      have hpre : pre.length ≤ r := by
        have := congrArg List.length e
        simp at this
        omega
      obtain ⟨o', kk, x8', S'', g1, g2, g3⟩ := run_votesT (S := S') (vs := vs) hp (a := some (nI t)) (b := some (nI k)) (c := none) (l := some (nI x)) (n := i + 1) (o := o) (by omega) (by omega) h1 hm1 hm2 (by omega) x8
      refine ⟨_, S'', .inl ?_, o', putV vs o' kk, some (nI x), x8', g1, ?_, ?_, fun _ => putV_ne, rfl⟩
      · rw [run_turn, run_gName, Option.bind_some]
        exact g3
      · exact putV_all (P := fun a b => a.Perm (List.range (i + 1)) ∧ b ≤ 20) h2 ⟨g1, g2⟩
      · have := putV_len (vs := vs) (o := o') (m := kk)
        rw [List.length_append, List.length_singleton]
        omega) [] (List.range (r + 1)) rfl [none, some (nI t), some (nI k), some (nI (i + 1)), some (encDV []), some (nI mm), some (.list ((List.range (i + 1)).map fun a => nI a)), none, none] S3
    ⟨List.range (i + 1), [], none, none, List.Perm.refl _, (fun _ h => nomatch h), Nat.zero_le _, fun h => absurd rfl h, rfl⟩
  obtain ⟨ρ', S', g1, o, vs, x7, x8, g2, g3, g4, g5, rfl⟩ := key
  obtain ⟨ws, w1, w2⟩ := run_sortItems (vs := vs)
  have hvl : vs.length ≤ r + 1 := by simpa using g4
  refine ⟨i + 1, ws, S', by omega, by omega, ⟨fun p hp => (g3 p (w1.mem_iff.mp hp)).1, fun z => ?_, by rw [w1.length_eq]; omega⟩, by rw [w1.length_eq]; omega, fun p hp => (g3 p (w1.mem_iff.mp hp)).2, ?_⟩
  · subst z
    exact g5 (by simp) w1.nil_eq.symm
  · rw [run_defS (by rfl), lawVotes_eq]
    show ((sSeq _ _) [none, some (nI t), some (nI k), none, none, none, none, none, none] S).bind _ = _
    have e1 : ((1 : Int) + (i : Int)) = ((i + 1 : Nat) : Int) := by omega
    have e2 : ((1 : Int) + (r : Int)) = ((r + 1 : Nat) : Int) := by omega
    have f0 : fit (0 + 1 + 1 + 1) = true := rfl
    have f1 : fit ((List.range (i + 1)).map fun a => nI a).length = true := fit_of (by simp; omega)
    have r1 := rng62_nat (n := i + 1) (by omega)
    have r2 := rng62_nat (n := r + 1) (by omega)
    simp only [run_seq, run_asg, run_2, run_c, run_callM, run_lcons, run_lnil, run_var, List.getElem?_cons_succ, List.getElem?_cons_zero, Option.bind_some, Option.map_some, q1, run_add, e1, run_gName, List.set_cons_succ, List.set_cons_zero, seqO_nx, run_par, run_lst, List.length_cons, List.length_nil, f0, ↓reduceIte, run_imm, q2', hmm, imm_int, beq_self_eq_true, setAll_cons, setAll_nil, run_listOf, run_wRange1, intOf_int, r1, rng_nat, f1, run_for, q3, e2, r2]
    erw [g1]
    have i3 : immAll (ws.map encV) = true := immAll_map fun p _ => imm_encV p
    simp [w2, i3, encVs]
end DL

/-! printed by gen.py -/
namespace K75
open PySem PySem.Spec PyProof.Rows L2 DL
def topS (i : Nat) : Stmt := PySem.Challenge.pw_chosenbymany_k75_whole_places_do_not_pun.main.body.getD i (.Pass ⟨0, 0, 0, 0⟩)
structure Blt (mg : Str → Option Value) : Prop where
  abs : mg "abs" = none
  all : mg "all" = none
  bool : mg "bool" = none
  enumerate : mg "enumerate" = none
  int : mg "int" = none
  isinstance : mg "isinstance" = none
  len : mg "len" = none
  list : mg "list" = none
  max : mg "max" = none
  min : mg "min" = none
  range : mg "range" = none
  repr : mg "repr" = none
  sorted : mg "sorted" = none
  sum : mg "sum" = none
  tuple : mg "tuple" = none
section
variable {P : Program} {w : World} {K : PySem.W.Frag} {mg : Str → Option Value} {base : Heap}
/-! ### things_of -/
abbrev s_things_of : Stmt := topS 1
abbrev N_things_of : List Str := ["votes"]
theorem sc_things_of : FnScope N_things_of ["votes"] (defScope s_things_of) := ⟨rfl, rfl, rfl, by decide +kernel, rfl, by decide +kernel, by decide +kernel⟩
def b_things_of : SF := sRet (e1 lenD (e2 idxD (e2 idxD (eVar 0) (eC (.int 0))) (eC (.int 0))))
def d_things_of : List D → M D := runDef 1 1 b_things_of
theorem len_things_of : ∀ ds S r, d_things_of ds S = some r → ds.length = 1 := fun _ _ _ h => runDef_len h
theorem ok_things_of (B : Blt mg)  {f : Addr} {fd : FuncData} (F : Fun K "things_of" "things_of" s_things_of f fd) (m : mg "things_of" = some (.ref f)) : Cal P w K mg base 1 "things_of" (spD K 1 true d_things_of) := by
  refine Cal.mk' (ps := ["votes"]) F (F.binds fun _ _ _ _ _ _ us hl => match us, hl with | [_], _ => rfl) m (ok_D (N := N_things_of) (mu := []) (mu' := []) (k := 0) F sc_things_of rfl rfl (by decide) (by decide) fun cdv A outer s H E hr => ?_)
  exact svs_one (sv_ret (ev_len B.len (ev_idx (ev_idx (v_ 0) (EV.bor (ev_int)) (fun _ _ => rfl) (.inl rfl)) (EV.bor (ev_int)) (fun _ _ => rfl) (.inl rfl))) (fun _ => rfl))
/-! ### are_weights -/
abbrev s_are_weights : Stmt := topS 3
abbrev N_are_weights : List Str := ["n", "value", "w", "k"]
theorem sc_are_weights : FnScope N_are_weights ["n", "value"] (defScope s_are_weights) := ⟨rfl, rfl, rfl, by decide +kernel, rfl, by decide +kernel, by decide +kernel⟩
def b_are_weights : SF := sSeq (sIf (tOr (tNot (tB (e1 (isiD .tuple) (eVar 1)))) (tB (e2 (eqD true) (e1 lenD (eVar 1)) (eVar 0)))) (sRet (eC (.bool false))) (sNext)) (sSeq (sIf (tNot (tB (e1 allD (eComp [2] (wSeq (eVar 1)) (gName 2) (tYes) (eAnd (e1 (isiD .int) (eVar 2)) (e1 notD (e1 (isiD .bool) (eVar 2)))))))) (sRet (eC (.bool false))) (sNext)) (sRet (e1 allD (eComp [3] (wRange2 (eC (.int 1)) (eVar 0)) (gName 3) (tYes) (e2 (cmD .ge) (e2 idxD (eVar 1) (e2 subD (eVar 3) (eC (.int 1)))) (e2 idxD (eVar 1) (eVar 3)))))))
def d_are_weights : List D → M D := runDef 2 4 b_are_weights
theorem len_are_weights : ∀ ds S r, d_are_weights ds S = some r → ds.length = 2 := fun _ _ _ h => runDef_len h
theorem ok_are_weights (B : Blt mg)  {f : Addr} {fd : FuncData} (F : Fun K "are_weights" "are_weights" s_are_weights f fd) (m : mg "are_weights" = some (.ref f)) : Cal P w K mg base 1 "are_weights" (spD K 2 true d_are_weights) := by
  refine Cal.mk' (ps := ["n", "value"]) F (F.binds fun _ _ _ _ _ _ us hl => match us, hl with | [_, _], _ => rfl) m (ok_D (N := N_are_weights) (mu := []) (mu' := []) (k := 0) F sc_are_weights rfl rfl (by decide) (by decide) fun cdv A outer s H E hr => ?_)
  exact svs_cons (sv_if (tv_pw (tw_or (tv_not (tv_val (EV.bor (ev_isi .tuple B.isinstance B.tuple (v_ 1) (by rfl))))) (tw_or1 ((cv_ne (hu64 hr) (EV.bor (ev_len B.len (v_ 1))) (v_ 0)).tv))))
      (svs_one (sv_ret (ev_bool) (fun _ => rfl)))
      (svs_nil))
      (svs_cons (sv_if (tv_not (tv_val (EV.bor (ev_all rfl B.all (EV.bor (ev_lc (m := .own) (own := [("w", 2)]) rfl sc_are_weights.nd (iv_seq (EV.bv (v_ 1))) (blkOk_by (N := N_are_weights) (sc := defScope s_are_weights) (own := [("w", 2)]) (by decide +kernel)) (by decide) (by decide) (by decide) (fun _ _ _ _ _ => gv_name sc_are_weights.nd rfl (by first | exact .inl rfl | exact .inr rfl) (by first | exact .inl rfl | exact .inr rfl) (by decide) (by decide)) (fun _ _ _ _ _ => pts_yes) (fun _ _ _ _ _ => ev_and (ev_isi .int B.isinstance B.int (v_ 2) (by rfl)) (ev_one (ev_not (ev_isi .bool B.isinstance B.bool (v_ 2) (by rfl)))))))))))
      (svs_one (sv_ret (ev_bool) (fun _ => rfl)))
      (svs_nil))
      (svs_one (sv_ret (ev_all rfl B.all (EV.bor (ev_lc (m := .own) (own := [("k", 3)]) rfl sc_are_weights.nd (iv_range2 B.range (EV.bor (ev_int)) (v_ 0)) (blkOk_by (N := N_are_weights) (sc := defScope s_are_weights) (own := [("k", 3)]) (by decide +kernel)) (by decide) (by decide) (by decide) (fun _ _ _ _ _ => gv_name sc_are_weights.nd rfl (by first | exact .inl rfl | exact .inr rfl) (by first | exact .inl rfl | exact .inr rfl) (by decide) (by decide)) (fun _ _ _ _ _ => pts_yes) (fun _ _ _ _ _ => (cv_ge (ev_idx (v_ 1) (EV.bor (ev_sub (v_ 3) (EV.bor (ev_int)))) (fun _ _ => rfl) (.inl rfl)) (ev_idx (v_ 1) (v_ 3) (fun _ _ => rfl) (.inl rfl))).ev)))) (fun _ => rfl))))
/-! ### place_counts -/
abbrev s_place_counts : Stmt := topS 4
abbrev N_place_counts : List Str := ["votes", "weights", "found", "order", "many", "place", "a"]
theorem sc_place_counts : FnScope N_place_counts ["votes", "weights"] (defScope s_place_counts) := ⟨rfl, rfl, rfl, by decide +kernel, rfl, by decide +kernel, by decide +kernel⟩
def b_place_counts : SF := sSeq (sAsg (e2 mulD (eLst (lCons (eC (.int 0)) (lNil))) (eCall d_things_of (lCons (eVar 0) (lNil)))) (gName 2)) (sSeq (sFor (wSeq (eVar 0)) (gTup [gName 3, gName 4]) (sFor (wEnum (eVar 3)) (gTup [gName 5, gName 6]) (sSetIx 2 (eVar 6) (e2 (addD true) (e2 idxD (eVar 2) (eVar 6)) (e2 mulD (eVar 4) (e2 idxD (eVar 1) (eVar 5))))))) (sRet (e1 (tupleD true) (eVar 2))))
def d_place_counts : List D → M D := runDef 2 7 b_place_counts
theorem len_place_counts : ∀ ds S r, d_place_counts ds S = some r → ds.length = 2 := fun _ _ _ h => runDef_len h
theorem ok_place_counts (B : Blt mg) (C_things_of : Cal P w K mg base 1 "things_of" (spD K 1 true d_things_of)) {f : Addr} {fd : FuncData} (F : Fun K "place_counts" "place_counts" s_place_counts f fd) (m : mg "place_counts" = some (.ref f)) : Cal P w K mg base 2 "place_counts" (spD K 2 true d_place_counts) := by
  refine Cal.mk' (ps := ["votes", "weights"]) F (F.binds fun _ _ _ _ _ _ us hl => match us, hl with | [_, _], _ => rfl) m (ok_D (N := N_place_counts) (mu := [2]) (mu' := [2]) (k := 1) F sc_place_counts rfl rfl (by decide) (by decide) fun cdv A outer s H E hr => ?_)
  exact svs_cons (sv_setM sc_place_counts.nd rfl (by first | exact .inl rfl | exact .inr rfl) (by first | exact .inl rfl | exact .inr rfl) (by decide) (EV.pure (ev_mul (EV.bor (ev_lst (m := .own) (av_cons (ev_int) (av_nil)))) (EV.bor (ev_cal (C_things_of.up (by decide)) hr len_things_of (av_cons (v_ 0) (av_nil)))))))
      (svs_cons (sv_for PassesOwn.never rfl (iv_seq (vV_ 0)) (gv_tup rfl (gvs_cons (gv_name sc_place_counts.nd rfl (by first | exact .inl rfl | exact .inr rfl) (by first | exact .inl rfl | exact .inr rfl) (by decide) (by decide)) (gvs_cons (gv_name sc_place_counts.nd rfl (by first | exact .inl rfl | exact .inr rfl) (by first | exact .inl rfl | exact .inr rfl) (by decide) (by decide)) (gvs_nil))))
      (svs_one (sv_for PassesOwn.never rfl (iv_enum B.enumerate (vV_ 3)) (gv_tup rfl (gvs_cons (gv_name sc_place_counts.nd rfl (by first | exact .inl rfl | exact .inr rfl) (by first | exact .inl rfl | exact .inr rfl) (by decide) (by decide)) (gvs_cons (gv_name sc_place_counts.nd rfl (by first | exact .inl rfl | exact .inr rfl) (by first | exact .inl rfl | exact .inr rfl) (by decide) (by decide)) (gvs_nil))))
      (svs_one (sv_setix rfl (by first | exact .inl rfl | exact .inr (.inl rfl) | exact .inr (.inr rfl)) (by decide) (by decide) (EV.pure (ev_add (ev_idx (v_ 2) (v_ 6) (fun _ _ => rfl) (.inl rfl)) (EV.bor (ev_mul (v_ 4) (ev_idx (v_ 1) (v_ 5) (fun _ _ => rfl) (.inl rfl)))))) (EV.pure (v_ 6)))))))
      (svs_one (sv_ret (EV.pure (ev_tuple B.tuple (v_ 2))) (fun _ => rfl))))
/-! ### place_choice -/
abbrev s_place_choice : Stmt := topS 5
abbrev N_place_choice : List Str := ["votes", "weights", "counts"]
theorem sc_place_choice : FnScope N_place_choice ["votes", "weights"] (defScope s_place_choice) := ⟨rfl, rfl, rfl, by decide +kernel, rfl, by decide +kernel, by decide +kernel⟩
def b_place_choice : SF := sSeq (sAsg (eCall d_place_counts (lCons (eVar 0) (lCons (eVar 1) (lNil)))) (gName 2)) (sRet (e2 indexD (eVar 2) (e1 (bestD maxF) (eVar 2))))
def d_place_choice : List D → M D := runDef 2 3 b_place_choice
theorem len_place_choice : ∀ ds S r, d_place_choice ds S = some r → ds.length = 2 := fun _ _ _ h => runDef_len h
theorem ok_place_choice (B : Blt mg) (C_place_counts : Cal P w K mg base 2 "place_counts" (spD K 2 true d_place_counts)) {f : Addr} {fd : FuncData} (F : Fun K "place_choice" "place_choice" s_place_choice f fd) (m : mg "place_choice" = some (.ref f)) : Cal P w K mg base 3 "place_choice" (spD K 2 true d_place_choice) := by
  refine Cal.mk' (ps := ["votes", "weights"]) F (F.binds fun _ _ _ _ _ _ us hl => match us, hl with | [_, _], _ => rfl) m (ok_D (N := N_place_choice) (mu := []) (mu' := []) (k := 2) F sc_place_choice rfl rfl (by decide) (by decide) fun cdv A outer s H E hr => ?_)
  exact svs_cons (sv_set sc_place_choice.nd rfl (by first | exact .inl rfl | exact .inr rfl) (by first | exact .inl rfl | exact .inr rfl) (by decide) (by decide) (EV.weak (ev_cal (C_place_counts.up (by decide)) hr len_place_counts (av_cons (v_ 0) (av_cons (v_ 1) (av_nil))))))
      (svs_one (sv_ret (ev_index (hu65 hr) (v_ 2) (EV.bor (ev_maxL rfl (hu128 hr) B.max (v_ 2)))) (fun _ => rfl)))
/-! ### law_open_cells -/
abbrev s_law_open_cells : Stmt := topS 7
abbrev N_law_open_cells : List Str := ["script", "stirred", "cell", "cells"]
theorem sc_law_open_cells : FnScope N_law_open_cells ["script"] (defScope s_law_open_cells) := ⟨rfl, rfl, rfl, by decide +kernel, rfl, by decide +kernel, by decide +kernel⟩
theorem ok_law_open_cells (B : Blt mg) {f : Addr} {fd : FuncData} (F : Fun K "_law_open_cells" "_law_open_cells" s_law_open_cells f fd) (m : mg "_law_open_cells" = some (.ref f)) : Cal P w K mg base 1 "_law_open_cells" (spOpen K) := by
  refine Cal.mk' (ps := ["script"]) F (F.binds fun _ _ _ _ _ _ us hl => match us, hl with | [_], _ => rfl) m ?_
  refine F.ok (N := N_law_open_cells) (k := 0) sc_law_open_cells (fun vs H Q E h => ?_) (fun cdv A outer s H vs Q E hr h => ?_)
  · obtain ⟨a, ns, rfl, _⟩ := h
    rfl
  · obtain ⟨a, ns, rfl, hS, hlen, q⟩ := h
    refine ⟨_, pss_cons (ps_set (i := 1) sc_law_open_cells.nd rfl (.inl rfl) pe_int)
      (pss_cons (ps_for PassesOwn.never rfl (pi_list (pv 0)) (pg_name (i := 2) sc_law_open_cells.nd rfl (.inl rfl))
        (pss_one (ps_set (i := 1) sc_law_open_cells.nd rfl (.inl rfl) (pe_op op_modN (pe_callTy call_int1 (by rfl) B.int (by decide +kernel) (pa_cons (pe_op op_add (pe_op op_add (pe_op op_mul (pv 1) pe_int) (pe_op op_mul (pv 2) pe_int)) pe_int) pa_nil)) pe_int))))
      (pss_cons (ps_setLc (i := 3) (own := [("cell", 2)]) rfl sc_law_open_cells.nd rfl rfl (sw_true rfl rfl rfl rfl) (pi_list (pv 0)) (blkOk_by (N := N_law_open_cells) (sc := defScope s_law_open_cells) (by decide +kernel))
        (fun _ _ _ _ _ => pg_name (i := 2) sc_law_open_cells.nd rfl (.inl rfl) (.inr rfl)) (fun _ _ _ _ _ => pts_nil) (fun _ _ _ _ _ => pe_callB call_abs (by rfl) B.abs (by decide +kernel) (pa_cons (pv 2) pa_nil)))
      (pss_one (ps_ret (pe_disp (pps_cons pe_str (pe_revL (pv 3)) (pps_cons pe_str pe_int (pps_cons pe_str (pv 1) (pps_cons pe_str pe_int pps_nil)))) rfl rfl (by decide) (by decide)))))), ?_⟩
    refine ⟨.ref a, rfl, a, rfl, ⟨_, hS⟩, ?_⟩
    have len1 : (ns.map V.int).length = ns.length := List.length_map ..
    refine for_list (xs := ns.map V.int) (fun i σ H' => H' = H ∧ ∃ y, σ = [some (.ref a), some (.int ((ns.take i).foldl (fun s c => Int.fmod (s * 69069 + c * 31 + 5) 2147483629) 11)), y, none]) ⟨rfl, none, rfl⟩ (fun i σ H' _ p => by obtain ⟨rfl, _⟩ := p; exact hS) (fun i x σ H' hx p => ?_) fun σ H' p => ?_
    · obtain ⟨rfl, y, rfl⟩ := p
      rw [List.getElem?_map] at hx
      obtain ⟨n, hn, rfl⟩ := Option.map_eq_some_iff.mp hx
      refine ⟨_, rfl, _, _, rfl, rfl, .inr (by decide), _, rfl, _, _, rfl, rfl, .inr (by decide), _, _, rfl, rfl, _, _, rfl, rfl, .inl ⟨_, rfl, _, _, rfl, rfl, (show (2147483629 : Int) ≠ 0 by decide), ?_⟩⟩
      refine ⟨rfl, some (.int n), ?_⟩
      rw [List.take_add_one, hn, Option.toList_some, List.foldl_append]
      rfl
    · obtain ⟨rfl, y, rfl⟩ := p
      rw [len1, List.take_of_length_le (Nat.le_refl _)]
      refine ⟨.ref a, rfl, a, rfl, ⟨_, hS⟩, fun D hD => ?_⟩
      have nDa : ∀ H2 : Hp, Ext [] H' H2 → H2 D = none → True := fun _ _ _ => trivial
      refine lc_list (xs := ns.map V.int) (fun i H2 => Ext [] H' H2 ∧ H2 D = some (.lst (((ns.take i).map fun n => if n < 0 then -n else n).map V.int))) ⟨Ext.new hD, upd_same⟩ (fun i H2 _ p => ?_) (fun i x H2 hx p => ?_) fun H2 p => ?_
      · exact sqL_ext hS p.1
      · rw [List.getElem?_map] at hx
        obtain ⟨n, hn, rfl⟩ := Option.map_eq_some_iff.mp hx
        have hi : i < ns.length := (List.getElem?_eq_some_iff.mp hn).1
        refine And.intro rfl ?_
        simp only [L2.tYes, ↓reduceIte]
        refine ⟨_, rfl, n, rfl, _, p.2, ?_, ext_own p.1 hD, ?_⟩
        · have : 63 < sizeLine := by show 63 < sizeLine; decide
          simp only [List.length_map, List.length_take]
          omega
        · rw [upd_same, List.take_add_one, hn]
          simp
      · rw [len1, List.take_of_length_le (Nat.le_refl _)] at p
        show ∀ p, H2 p = none → _
        intro p0 hp0
        have e1 := p.1
        refine ⟨_, rfl, D, (ns.map fun n => if n < 0 then -n else n).map V.int, rfl, .inl (.inl ?_), fun p1 hp1 => ?_⟩
        · rw [upd_ne fun z => by rw [← z, p.2] at hp0; cases hp0]
          exact p.2
        have n10 : p1 ≠ p0 := fun z => by rw [z, upd_same] at hp1; cases hp1
        refine ⟨_, rfl, ?_, [(.inr "cells", .ref p1), (.inr "left", .int 1), (.inr "mixed", _), (.inr "turn", .int 0)], rfl, by simp, q _ p0 p1 ?_ ⟨?_, ?_⟩⟩
        · rw [upd_ne (Ne.symm n10), upd_same]
        · have h0 : H' p0 = none := e1.nn hp0 (by simp)
          have h1 : H' p1 = none := e1.nn (by rw [upd_ne n10] at hp1; exact hp1) (by simp)
          exact ext_own (ext_own (ext_own e1 h0) h1) h0
        · rw [upd_same]
          rfl
        · rw [upd_ne n10, upd_same, List.map_reverse]
          rfl

/-! ### law_pick -/
abbrev s_law_pick : Stmt := topS 8
abbrev N_law_pick : List Str := ["source", "most", "cells", "others", "lap", "stirred"]
theorem sc_law_pick : FnScope N_law_pick ["source", "most"] (defScope s_law_pick) := ⟨rfl, rfl, rfl, by decide +kernel, rfl, by decide +kernel, by decide +kernel⟩
def b_law_pick : SF := sSeq (sIf (tB (e2 (cmD .lt) (eVar 1) (eC (.int 2)))) (sRet (eC (.int 0))) (sNext)) (sSeq (sDrain 2) (sSeq (sAsg (eSrc .left) (gName 3)) (sSeq (sIf (tB (e2 (cmD .gt) (eVar 3) (eC (.int 1)))) (sSeq (sSrc .left (e2 fdivD (eVar 3) (eVar 1))) (sRet (e2 modD (e1 intD (eVar 3)) (eVar 1)))) (sNext)) (sSeq (sSrc .turn (e2 (addD true) (eSrc .turn) (eC (.int 1)))) (sSeq (sAsg (eSrc .turn) (gName 4)) (sSeq (sAsg (e2 modD (e1 intD (e2 (addD true) (eSrc .mixed) (e2 mulD (eVar 4) (eC (.int 104729))))) (eC (.int 998244353))) (gName 5)) (sSeq (sAsg (e2 modD (e1 intD (e2 (addD true) (e2 mulD (eVar 5) (eVar 5)) (e2 mulD (eVar 4) (eC (.int 17))))) (eC (.int 2147483647))) (gName 5)) (sRet (e2 modD (e1 intD (e2 fdivD (eVar 5) (eC (.int 16)))) (eVar 1))))))))))
def d_law_pick : List D → M D := runDefS 1 6 b_law_pick
theorem len_law_pick : ∀ ds S r, d_law_pick ds S = some r → ds.length = 1 := fun _ _ _ h => runDefS_len h
theorem ok_law_pick (B : Blt mg)  {f : Addr} {fd : FuncData} (F : Fun K "_law_pick" "_law_pick" s_law_pick f fd) (m : mg "_law_pick" = some (.ref f)) : Cal P w K mg base 1 "_law_pick" (spM K 1 true d_law_pick) := by
  refine Cal.mk' (ps := ["source", "most"]) F (F.binds fun _ _ _ _ _ _ us hl => match us, hl with | [_, _], _ => rfl) m (ok_M (N := N_law_pick) (mu := []) (mu' := []) (k := 0) F sc_law_pick rfl rfl (by decide) (by decide) fun cdv A outer s H E hr => ?_)
  exact svs_cons (sv_if ((cv_lt (v_ 1) (EV.bor (ev_int))).tv)
      (svs_one (sv_ret (ev_int) (fun _ => rfl)))
      (svs_nil))
      (svs_drain (i := 0) (i2 := 2) PassesOwn.never (hu1 hr) B.len rfl (by decide) (by decide) sc_law_pick.nd rfl (by first | exact .inl rfl | exact .inr (.inl rfl) | exact .inr (.inr rfl)) rfl (by first | exact .inl rfl | exact .inr (.inl rfl) | exact .inr (.inr rfl)) (by first | exact .inl rfl | exact .inr rfl) (by first | exact .inl rfl | exact .inr rfl) (by decide) (by decide) (by decide) (by decide) rfl (by rfl) rfl rfl rfl rfl rfl (fun _ => rfl) (fun _ => rfl) (fun _ _ => rfl) (fun _ _ => rfl) (svs_cons (sv_set sc_law_pick.nd rfl (by first | exact .inl rfl | exact .inr rfl) (by first | exact .inl rfl | exact .inr rfl) (by decide) (by decide) (EV.weak (ev_src (k := .left) (hu1 hr) rfl rfl (by first | exact .inl rfl | exact .inr (.inl rfl) | exact .inr (.inr rfl)))))
      (svs_cons (sv_if ((cv_gt (v_ 3) (EV.bor (ev_int))).tv)
      (svs_cons (sv_src (k := .left) (hu1 hr) rfl rfl (by first | exact .inl rfl | exact .inr (.inl rfl) | exact .inr (.inr rfl)) (EV.bor (ev_fdiv (v_ 3) (v_ 1))))
      (svs_one (sv_ret (ev_mod (EV.bor (ev_intOf B.int (v_ 3))) (v_ 1)) (fun _ => rfl))))
      (svs_nil))
      (svs_cons (sv_src (k := .turn) (hu1 hr) rfl rfl (by first | exact .inl rfl | exact .inr (.inl rfl) | exact .inr (.inr rfl)) (EV.bor (ev_add (EV.bor (ev_src (k := .turn) (hu1 hr) rfl rfl (by first | exact .inl rfl | exact .inr (.inl rfl) | exact .inr (.inr rfl)))) (EV.bor (ev_int)))))
      (svs_cons (sv_set sc_law_pick.nd rfl (by first | exact .inl rfl | exact .inr rfl) (by first | exact .inl rfl | exact .inr rfl) (by decide) (by decide) (EV.weak (ev_src (k := .turn) (hu1 hr) rfl rfl (by first | exact .inl rfl | exact .inr (.inl rfl) | exact .inr (.inr rfl)))))
      (svs_cons (sv_set sc_law_pick.nd rfl (by first | exact .inl rfl | exact .inr rfl) (by first | exact .inl rfl | exact .inr rfl) (by decide) (by decide) (EV.weak (ev_mod (EV.bor (ev_intOf B.int (EV.bor (ev_add (EV.bor (ev_src (k := .mixed) (hu1 hr) rfl rfl (by first | exact .inl rfl | exact .inr (.inl rfl) | exact .inr (.inr rfl)))) (EV.bor (ev_mul (v_ 4) (EV.bor (ev_int)))))))) (EV.bor (ev_int)))))
      (svs_cons (sv_set sc_law_pick.nd rfl (by first | exact .inl rfl | exact .inr rfl) (by first | exact .inl rfl | exact .inr rfl) (by decide) (by decide) (EV.weak (ev_mod (EV.bor (ev_intOf B.int (EV.bor (ev_add (EV.bor (ev_mul (v_ 5) (v_ 5))) (EV.bor (ev_mul (v_ 4) (EV.bor (ev_int)))))))) (EV.bor (ev_int)))))
      (svs_one (sv_ret (ev_mod (EV.bor (ev_intOf B.int (EV.bor (ev_fdiv (v_ 5) (EV.bor (ev_int)))))) (v_ 1)) (fun _ => rfl))))))))))
/-! ### law_any_order -/
abbrev s_law_any_order : Stmt := topS 9
abbrev N_law_any_order : List Str := ["source", "things", "others", "lap"]
theorem sc_law_any_order : FnScope N_law_any_order ["source", "things"] (defScope s_law_any_order) := ⟨rfl, rfl, rfl, by decide +kernel, rfl, by decide +kernel, by decide +kernel⟩
def b_law_any_order : SF := sSeq (sAsg (e1 (listD true) (eVar 1)) (gName 2)) (sRet (eMix 2 d_law_pick))
def d_law_any_order : List D → M D := runDefS 1 4 b_law_any_order
theorem len_law_any_order : ∀ ds S r, d_law_any_order ds S = some r → ds.length = 1 := fun _ _ _ h => runDefS_len h
theorem ok_law_any_order (B : Blt mg) (C_law_pick : Cal P w K mg base 1 "_law_pick" (spM K 1 true d_law_pick)) {f : Addr} {fd : FuncData} (F : Fun K "_law_any_order" "_law_any_order" s_law_any_order f fd) (m : mg "_law_any_order" = some (.ref f)) : Cal P w K mg base 2 "_law_any_order" (spM K 1 true d_law_any_order) := by
  refine Cal.mk' (ps := ["source", "things"]) F (F.binds fun _ _ _ _ _ _ us hl => match us, hl with | [_, _], _ => rfl) m (ok_M (N := N_law_any_order) (mu := [2]) (mu' := [2]) (k := 1) F sc_law_any_order rfl rfl (by decide) (by decide) fun cdv A outer s H E hr => ?_)
  exact svs_cons (sv_setM sc_law_any_order.nd rfl (by first | exact .inl rfl | exact .inr rfl) (by first | exact .inl rfl | exact .inr rfl) (by decide) (EV.pure (ev_list B.list (v_ 1))))
      (svs_one ((by obtain ⟨fq, fdq, psq, Fq, mq, kq, bq⟩ := (C_law_pick.up (k := 1) (by decide)).ex; exact PS.mono (ps_ret (pe_lc (own := [("lap", 3)]) rfl sc_law_any_order.nd (pi_range1 (by rfl) B.range (pa_cons (pe_callB call_len_seq (by rfl) B.len PySem.boot_len (pa_cons (pe_var (i := 2) rfl (by first | exact .inl rfl | exact .inr (.inl rfl) | exact .inr (.inr rfl))) pa_nil)) pa_nil)) (blkOk_by (N := N_law_any_order) (sc := defScope s_law_any_order) (own := [("lap", 3)]) (by decide +kernel))   (fun _ _ _ _ _ => pg_name (i := 3) sc_law_any_order.nd rfl (by first | exact .inl rfl | exact .inr rfl) (by first | exact .inl rfl | exact .inr rfl)) (fun _ _ _ _ _ => pts_nil)    (fun _ _ _ _ _ => pe_bm PySem.F.plainAttrs_list PySem.F.slot_list_pop PySem.F.type_list_pop mt_popAt (pe_var (i := 2) rfl (by first | exact .inl rfl | exact .inr (.inl rfl) | exact .inr (.inr rfl)))    (pa_cons (pe_call Fq hr (by rfl) mq kq bq .nil pass0 (pa_cons (pe_var (i := 0) rfl (by first | exact .inl rfl | exact .inr (.inl rfl) | exact .inr (.inr rfl))) (pa_cons (pe_callB call_len_seq (by rfl) B.len PySem.boot_len (pa_cons (pe_var (i := 2) rfl (by first | exact .inl rfl | exact .inr (.inl rfl) | exact .inr (.inr rfl))) pa_nil)) pa_nil))) pa_nil))))    fun D σ H h => mix_sem (fun l vs H Q hl q => ⟨l, vs, rfl, .inl (.inl (.inl hl)), q⟩) (by decide) rfl (by decide) (by decide) h)))
/-! ### law_votes -/
abbrev s_law_votes : Stmt := topS 10
abbrev N_law_votes : List Str := ["source", "things", "most", "n", "known", "many", "order", "k", "i"]
theorem sc_law_votes : FnScope N_law_votes ["source", "things", "most"] (defScope s_law_votes) := ⟨rfl, rfl, rfl, by decide +kernel, rfl, by decide +kernel, by decide +kernel⟩
def b_law_votes : SF := sSeq (sAsg (e2 (addD true) (eC (.int 1)) (eCallM d_law_pick (lCons (eVar 1) (lNil)))) (gName 3)) (sSeq (sPar [4, 5] (lCons (eC (.dict [tMark])) (lCons (eImm (e2 idxD (eLst (lCons (eC (.int 1)) (lCons (eC (.int 3)) (lCons (eC (.int 20)) (lNil))))) (eCallM d_law_pick (lCons (eC (.int 3)) (lNil))))) (lNil)))) (sSeq (sAsg (eListOf (wRange1 (eVar 3))) (gName 6)) (sSeq (sFor (wRange1 (e2 (addD true) (eC (.int 1)) (eCallM d_law_pick (lCons (eVar 2) (lNil))))) (gName 7) (sSeq (sIf (tAnd (tB (e2 (cmD .gt) (eCallM d_law_pick (lCons (eC (.int 3)) (lNil))) (eC (.int 0)))) (tB (e2 (cmD .gt) (eVar 3) (eC (.int 1))))) (sSeq (sAsg (eCallM d_law_pick (lCons (e2 subD (eVar 3) (eC (.int 1))) (lNil))) (gName 8)) (sAsg (e2 (addD true) (e2 (addD true) (eSlice true (eVar 6) none (some (eVar 8))) (eLst (lCons (eImm (e2 idxD (eVar 6) (e2 (addD true) (eVar 8) (eC (.int 1))))) (lCons (eImm (e2 idxD (eVar 6) (eVar 8))) (lNil))))) (eSlice true (eVar 6) (some (e2 (addD true) (eVar 8) (eC (.int 2)))) none)) (gName 6))) (sAsg (eCallM d_law_any_order (lCons (eVar 6) (lNil))) (gName 6))) (DL.sDPut 4 (e1 (tupleD true) (eVar 6)) (e2 (addD true) (eC (.int 1)) (eCallM d_law_pick (lCons (eVar 5) (lNil))))))) (sRet (e1 (tupleD true) (e1 sortItemsD (eVar 4)))))))
def d_law_votes : List D → M D := runDefS 2 9 b_law_votes
theorem len_law_votes : ∀ ds S r, d_law_votes ds S = some r → ds.length = 2 := fun _ _ _ h => runDefS_len h
theorem ok_law_votes (B : Blt mg) (C_law_pick : Cal P w K mg base 1 "_law_pick" (spM K 1 true d_law_pick)) (C_law_any_order : Cal P w K mg base 2 "_law_any_order" (spM K 1 true d_law_any_order)) {f : Addr} {fd : FuncData} (F : Fun K "_law_votes" "_law_votes" s_law_votes f fd) (m : mg "_law_votes" = some (.ref f)) : Cal P w K mg base 3 "_law_votes" (spM K 2 true d_law_votes) := by
  refine Cal.mk' (ps := ["source", "things", "most"]) F (F.binds fun _ _ _ _ _ _ us hl => match us, hl with | [_, _, _], _ => rfl) m (ok_M (N := N_law_votes) (mu := [4]) (mu' := [4]) (k := 2) F sc_law_votes rfl rfl (by decide) (by decide) fun cdv A outer s H E hr => ?_)
  exact svs_cons (sv_set sc_law_votes.nd rfl (by first | exact .inl rfl | exact .inr rfl) (by first | exact .inl rfl | exact .inr rfl) (by decide) (by decide) (EV.weak (EV.pure (ev_add (EV.bor (ev_int)) (EV.bor (ev_calM (C_law_pick.up (by decide)) hr len_law_pick rfl rfl (by first | exact .inl rfl | exact .inr (.inl rfl) | exact .inr (.inr rfl)) (av_cons (v_ 1) (av_nil))))))))
      (svs_cons (sv_par2 rfl sc_law_votes.nd rfl rfl (by decide) rfl rfl (.inr rfl) (by decide) (av_cons (EV.pure (ev_dnewT)) (av_cons (EV.pure (ev_imm (m := .own) (ev_idx (EV.bor (ev_lst (m := .own) (av_cons (ev_int) (av_cons (ev_int) (av_cons (ev_int) (av_nil)))))) (EV.bor (ev_calM (C_law_pick.up (by decide)) hr len_law_pick rfl rfl (by first | exact .inl rfl | exact .inr (.inl rfl) | exact .inr (.inr rfl)) (av_cons (EV.bor (ev_int)) (av_nil)))) (fun _ _ => rfl) (.inl rfl)))) (av_nil))) rfl)
      (svs_cons (sv_set sc_law_votes.nd rfl (by first | exact .inl rfl | exact .inr rfl) (by first | exact .inl rfl | exact .inr rfl) (by decide) (by decide) (EV.weak (EV.pure (ev_listRg1 rfl B.list B.range (v_ 3)))))
      (svs_cons (sv_for PassesOwn.never rfl (iv_range1 B.range (EV.pure (EV.bor (ev_add (EV.bor (ev_int)) (EV.bor (ev_calM (C_law_pick.up (by decide)) hr len_law_pick rfl rfl (by first | exact .inl rfl | exact .inr (.inl rfl) | exact .inr (.inr rfl)) (av_cons (v_ 2) (av_nil)))))))) (gv_name sc_law_votes.nd rfl (by first | exact .inl rfl | exact .inr rfl) (by first | exact .inl rfl | exact .inr rfl) (by decide) (by decide))
      (svs_cons (sv_if (TV.pure (tv_pw (tw_and ((cv_gt (EV.bor (ev_calM (C_law_pick.up (by decide)) hr len_law_pick rfl rfl (by first | exact .inl rfl | exact .inr (.inl rfl) | exact .inr (.inr rfl)) (av_cons (EV.bor (ev_int)) (av_nil)))) (EV.bor (ev_int))).tv) (tw_and1 ((cv_gt (v_ 3) (EV.bor (ev_int))).tv)))))
      (svs_cons (sv_set sc_law_votes.nd rfl (by first | exact .inl rfl | exact .inr rfl) (by first | exact .inl rfl | exact .inr rfl) (by decide) (by decide) (EV.weak (EV.pure (ev_calM (C_law_pick.up (by decide)) hr len_law_pick rfl rfl (by first | exact .inl rfl | exact .inr (.inl rfl) | exact .inr (.inr rfl)) (av_cons (EV.bor (ev_sub (v_ 3) (EV.bor (ev_int)))) (av_nil))))))
      (svs_one (sv_set sc_law_votes.nd rfl (by first | exact .inl rfl | exact .inr rfl) (by first | exact .inl rfl | exact .inr rfl) (by decide) (by decide) (EV.weak (EV.pure (ev_add (EV.bor (ev_add (EV.bor (ev_slice (v_ 6) ov_none (ov_some (v_ 8)))) (EV.bor (ev_lst (m := .own) (av_cons (ev_imm (m := .own) (ev_idx (v_ 6) (EV.bor (ev_add (v_ 8) (EV.bor (ev_int)))) (fun _ _ => rfl) (.inl rfl))) (av_cons (ev_imm (m := .own) (ev_idx (v_ 6) (v_ 8) (fun _ _ => rfl) (.inl rfl))) (av_nil))))))) (EV.bor (ev_slice (v_ 6) (ov_some (EV.bor (ev_add (v_ 8) (EV.bor (ev_int))))) ov_none))))))))
      (svs_one (sv_set sc_law_votes.nd rfl (by first | exact .inl rfl | exact .inr rfl) (by first | exact .inl rfl | exact .inr rfl) (by decide) (by decide) (EV.weak (EV.pure (ev_calM (C_law_any_order.up (by decide)) hr len_law_any_order rfl rfl (by first | exact .inl rfl | exact .inr (.inl rfl) | exact .inr (.inr rfl)) (av_cons (v_ 6) (av_nil))))))))
      (svs_one (sv_dput (hu1 hr) rfl (by first | exact .inl rfl | exact .inr (.inl rfl) | exact .inr (.inr rfl)) (by decide) (by decide) (EV.pure (ev_add (EV.bor (ev_int)) (EV.bor (ev_calM (C_law_pick.up (by decide)) hr len_law_pick rfl rfl (by first | exact .inl rfl | exact .inr (.inl rfl) | exact .inr (.inr rfl)) (av_cons (v_ 5) (av_nil)))))) (EV.pure (EV.bor (ev_tuple B.tuple (v_ 6))))))))
      (svs_one (sv_ret (EV.pure (ev_tuple B.tuple (EV.bor (ev_sortItems rfl (hu128 hr) B.sorted (v_ 4))))) (fun _ => rfl))))))
/-! ### law_more -/
abbrev s_law_more : Stmt := topS 11
abbrev N_law_more : List Str := ["votes", "order", "many", "rest", "here", "pair", "one", "old"]
theorem sc_law_more : FnScope N_law_more ["votes", "order", "many"] (defScope s_law_more) := ⟨rfl, rfl, rfl, by decide +kernel, rfl, by decide +kernel, by decide +kernel⟩
def b_law_more : SF := sSeq (sAsg (eComp [5] (wSeq (eVar 0)) (gName 5) (tB (e2 (eqD true) (e2 idxD (eVar 5) (eC (.int 0))) (eVar 1))) (eImm (eVar 5))) (gName 3)) (sSeq (sAsg (e1 sumD (eComp [6, 7] (wSeq (eVar 0)) (gTup [gName 6, gName 7]) (tB (e2 (eqD false) (eVar 6) (eVar 1))) (eImm (eVar 7)))) (gName 4)) (sRet (e1 (tupleD true) (e1 sortedD (e2 (addD true) (eVar 3) (eLst (lCons (eTup (lCons (eImm (eVar 1)) (lCons (e2 (addD true) (eVar 4) (eVar 2)) (lNil)))) (lNil))))))))
def d_law_more : List D → M D := runDef 3 8 b_law_more
theorem len_law_more : ∀ ds S r, d_law_more ds S = some r → ds.length = 3 := fun _ _ _ h => runDef_len h
theorem ok_law_more (B : Blt mg)  {f : Addr} {fd : FuncData} (F : Fun K "_law_more" "_law_more" s_law_more f fd) (m : mg "_law_more" = some (.ref f)) : Cal P w K mg base 1 "_law_more" (spD K 3 true d_law_more) := by
  refine Cal.mk' (ps := ["votes", "order", "many"]) F (F.binds fun _ _ _ _ _ _ us hl => match us, hl with | [_, _, _], _ => rfl) m (ok_D (N := N_law_more) (mu := []) (mu' := []) (k := 0) F sc_law_more rfl rfl (by decide) (by decide) fun cdv A outer s H E hr => ?_)
  exact svs_cons (sv_setLc  (m := .own) (own := [("pair", 5)]) rfl sc_law_more.nd rfl rfl (.inr rfl) (by decide) (sw_true rfl rfl rfl rfl) (iv_seq (EV.bv (v_ 0))) (blkOk_by (N := N_law_more) (sc := defScope s_law_more) (own := [("pair", 5)]) (by decide +kernel)) (by decide) (by decide) (by decide) (fun _ _ _ _ _ => gv_name sc_law_more.nd rfl (by first | exact .inl rfl | exact .inr rfl) (by first | exact .inl rfl | exact .inr rfl) (by decide) (by decide)) (fun _ _ _ _ _ => pts_if ((cv_ne (hu64 hr) (ev_idx (v_ 5) (EV.bor (ev_int)) (fun _ _ => rfl) (.inl rfl)) (v_ 1)).tv)) (fun _ _ _ _ _ => ev_imm (m := .own) (v_ 5)))
      (svs_cons (sv_set sc_law_more.nd rfl (by first | exact .inl rfl | exact .inr rfl) (by first | exact .inl rfl | exact .inr rfl) (by decide) (by decide) (EV.weak (ev_sum rfl B.sum (EV.bor (ev_lc (m := .own) (own := [("one", 6), ("old", 7)]) rfl sc_law_more.nd (iv_seq (EV.bv (v_ 0))) (blkOk_by (N := N_law_more) (sc := defScope s_law_more) (own := [("one", 6), ("old", 7)]) (by decide +kernel)) (by decide) (by decide) (by decide) (fun _ _ _ _ _ => gv_tup rfl (gvs_cons (gv_name sc_law_more.nd rfl (by first | exact .inl rfl | exact .inr rfl) (by first | exact .inl rfl | exact .inr rfl) (by decide) (by decide)) (gvs_cons (gv_name sc_law_more.nd rfl (by first | exact .inl rfl | exact .inr rfl) (by first | exact .inl rfl | exact .inr rfl) (by decide) (by decide)) (gvs_nil)))) (fun _ _ _ _ _ => pts_if ((cv_eq (hu64 hr) (v_ 6) (v_ 1)).tv)) (fun _ _ _ _ _ => ev_imm (m := .own) (v_ 7)))))))
      (svs_one (sv_ret (ev_tuple B.tuple (EV.bor (ev_sorted rfl (hu128 hr) B.sorted (EV.bor (ev_add (v_ 3) (EV.bor (ev_lst (m := .own) (av_cons (ev_tup (m := .own) (av_cons (ev_imm (m := .own) (v_ 1)) (av_cons (ev_add (v_ 4) (v_ 2)) (av_nil)))) (av_nil))))))))) (fun _ => rfl))))
/-! ### law -/
abbrev s_law : Stmt := topS 12
abbrev N_law : List Str := ["script", "source", "lap", "votes", "n", "shown", "weights", "counts", "order", "many", "a", "told", "turn", "late", "other", "both", "odd", "value", "due", "i", "count", "w", "k"]
theorem sc_law : FnScope N_law ["script"] (defScope s_law) := ⟨rfl, rfl, rfl, by decide +kernel, rfl, by decide +kernel, by decide +kernel⟩
def b_law : SF := sSeq (sFor (wRange1 (eC (.int 6))) (gName 2) (sSeq (sAsg (eCallM d_law_votes (lCons (e2 idxD (eLst (lCons (eC (.int 1)) (lCons (eC (.int 3)) (lCons (eC (.int 4)) (lCons (eC (.int 5)) (lCons (eC (.int 6)) (lCons (eC (.int 8)) (lNil)))))))) (eVar 2)) (lCons (e2 idxD (eLst (lCons (eC (.int 2)) (lCons (eC (.int 4)) (lCons (eC (.int 8)) (lCons (eC (.int 12)) (lCons (eC (.int 20)) (lCons (eC (.int 30)) (lNil)))))))) (eVar 2)) (lNil)))) (gName 3)) (sSeq (sPar [4, 5] (lCons (e1 lenD (e2 idxD (e2 idxD (eVar 3) (eC (.int 0))) (eC (.int 0)))) (lCons (e1 reprD (eVar 3)) (lNil)))) (sSeq (sAsg (e1 (tupleD true) (e1 (revD true) (e1 sortedD (eComp [19] (wRange1 (eVar 4)) (gName 19) (tYes) (e2 subD (eCallM d_law_pick (lCons (e2 idxD (eLst (lCons (eC (.int 2)) (lCons (eC (.int 5)) (lCons (eC (.int 40)) (lNil))))) (eCallM d_law_pick (lCons (eC (.int 3)) (lNil)))) (lNil))) (eC (.int 1))))))) (gName 6)) (sSeq (sAsg (e2 mulD (eLst (lCons (eC (.int 0)) (lNil))) (eVar 4)) (gName 7)) (sSeq (sFor (wSeq (eVar 3)) (gTup [gName 8, gName 9]) (sFor (wRange1 (eVar 4)) (gName 10) (sSetIx 7 (eVar 10) (e2 (addD true) (e2 idxD (eVar 7) (eVar 10)) (e2 mulD (eVar 9) (e2 idxD (eVar 6) (e2 indexD (eVar 8) (eVar 10)))))))) (sSeq (sAsg (eImm (e2 idxD (e1 (bestD minF) (eComp [10, 20] (wEnum (eVar 7)) (gTup [gName 10, gName 20]) (tYes) (eTup (lCons (e2 subD (eC (.int 0)) (eVar 20)) (lCons (eImm (eVar 10)) (lNil)))))) (eC (.int 1)))) (gName 11)) (sSeq (sIf (tB (e2 (eqD true) (e1 reprD (eLst (lCons (eCall d_place_counts (lCons (eVar 3) (lCons (eVar 6) (lNil)))) (lCons (eCall d_place_choice (lCons (eVar 3) (lCons (eVar 6) (lNil)))) (lNil))))) (e1 reprD (eLst (lCons (e1 (tupleD true) (eVar 7)) (lCons (eImm (eVar 11)) (lNil))))))) (sRet (eC (.bool false))) (sNext)) (sSeq (sFor (wRange1 (eC (.int 6))) (gName 12) (sSeq (sPar [8, 9] (lCons (e1 (tupleD true) (eCallM d_law_any_order (lCons (eListOf (wRange1 (eVar 4))) (lNil)))) (lCons (e2 (addD true) (eC (.int 1)) (eCallM d_law_pick (lCons (eC (.int 20)) (lNil)))) (lNil)))) (sSeq (sAsg (eCall d_place_choice (lCons (eCall d_law_more (lCons (eVar 3) (lCons (eVar 8) (lCons (eVar 9) (lNil))))) (lCons (eVar 6) (lNil)))) (gName 13)) (sIf (tB (e2 (cmD .gt) (e2 indexD (eVar 8) (eVar 13)) (e2 indexD (eVar 8) (eVar 11)))) (sRet (eC (.bool false))) (sNext))))) (sSeq (sAsg (eVar 3) (gName 14)) (sSeq (sFor (wRange1 (eC (.int 3))) (gName 12) (sAsg (eCall d_law_more (lCons (eVar 14) (lCons (e1 (tupleD true) (eCallM d_law_any_order (lCons (eListOf (wRange1 (eVar 4))) (lNil)))) (lCons (e2 (addD true) (eC (.int 1)) (eCallM d_law_pick (lCons (eC (.int 9)) (lNil)))) (lNil))))) (gName 14))) (sSeq (sAsg (eVar 3) (gName 15)) (sSeq (sFor (wSeq (eVar 14)) (gTup [gName 8, gName 9]) (sAsg (eCall d_law_more (lCons (eVar 15) (lCons (eVar 8) (lCons (eVar 9) (lNil))))) (gName 15))) (sSeq (sIf (tAnd (tB (e2 (eqD false) (eCall d_place_choice (lCons (eVar 14) (lCons (eVar 6) (lNil)))) (eVar 11))) (tB (e2 (eqD true) (eCall d_place_choice (lCons (eVar 15) (lCons (eVar 6) (lNil)))) (eVar 11)))) (sRet (eC (.bool false))) (sNext)) (sSeq (sAsg (eLst (lCons (eC .none) (lCons (eTup (lNil)) (lCons (eC (.int 0)) (lCons (e2 mulD (eTup (lCons (eC (.int 0)) (lNil))) (e2 (addD true) (eVar 4) (eC (.int 1)))) (lCons (e2 mulD (eLst (lCons (eC (.int 0)) (lNil))) (eVar 4)) (lCons (e2 mulD (eTup (lCons (eC (.bool true)) (lNil))) (eVar 4)) (lCons (eC (.str "0")) (lCons (e2 mulD (eTup (lCons (eC .none) (lNil))) (eVar 4)) (lCons (e2 (addD true) (e2 mulD (eTup (lCons (eC (.int 0)) (lNil))) (e2 subD (eVar 4) (eC (.int 1)))) (eTup (lCons (eC (.int 1)) (lNil)))) (lCons (e2 mulD (eTup (lCons (eC (.int 1)) (lNil))) (eVar 4)) (lNil)))))))))))) (gName 16)) (sSeq (sFor (wSeq (eTup (lCons (eVar 6) (lCons (e1 (listD true) (eVar 6)) (lCons (e1 (revD true) (eVar 6)) (lCons (eSlice true (eVar 6) (some (eC (.int 1))) none) (lCons (e2 idxD (eVar 16) (eCallM d_law_pick (lCons (eC (.int 10)) (lNil)))) (lNil)))))))) (gName 17) (sSeq (sAsg (eAnd (e1 (isiD .tuple) (eVar 17)) (e2 (eqD false) (e1 lenD (eVar 17)) (eVar 4))) (gName 18)) (sSeq (sAsg (eAnd (eImm (eVar 18)) (e2 (eqD false) (eComp [21] (wSeq (eVar 17)) (gName 21) (tOr (tNot (tB (e1 (isiD .int) (eVar 21)))) (tB (e1 (isiD .bool) (eVar 21)))) (eImm (eVar 21))) (eLst (lNil)))) (gName 18)) (sSeq (sAsg (eAnd (eImm (eVar 18)) (e2 (eqD false) (eComp [22] (wRange2 (eC (.int 1)) (eVar 4)) (gName 22) (tB (e2 (cmD .lt) (e2 idxD (eVar 17) (e2 subD (eVar 22) (eC (.int 1)))) (e2 idxD (eVar 17) (eVar 22)))) (eImm (eVar 22))) (eLst (lNil)))) (gName 18)) (sIf (tB (e2 (eqD true) (e1 reprD (eCall d_are_weights (lCons (eVar 4) (lCons (eVar 17) (lNil))))) (e1 reprD (eVar 18)))) (sRet (eC (.bool false))) (sNext)))))) (sIf (tB (e2 (eqD true) (e1 reprD (eVar 3)) (eVar 5))) (sRet (eC (.bool false))) (sNext)))))))))))))))))) (sRet (eC (.bool true)))
theorem ok_law (hrun : ∀ ns : List Int, ns.length ≤ 63 → runLaw 23 b_law ns = some (.bool true)) (B : Blt mg) (C_law_open_cells : Cal P w K mg base 1 "_law_open_cells" (spOpen K)) (C_law_votes : Cal P w K mg base 3 "_law_votes" (spM K 2 true d_law_votes)) (C_place_choice : Cal P w K mg base 3 "place_choice" (spD K 2 true d_place_choice)) (C_law_more : Cal P w K mg base 1 "_law_more" (spD K 3 true d_law_more)) (C_law_pick : Cal P w K mg base 1 "_law_pick" (spM K 1 true d_law_pick)) (C_place_counts : Cal P w K mg base 2 "place_counts" (spD K 2 true d_place_counts)) (C_law_any_order : Cal P w K mg base 2 "_law_any_order" (spM K 1 true d_law_any_order)) (C_are_weights : Cal P w K mg base 1 "are_weights" (spD K 2 true d_are_weights)) {fa : Addr} {fd : FuncData} (F : Fun K "law" "law" s_law fa fd) : At1 P w K mg base fa 63 := by
  have hk : Room 4 callerA := ⟨rfl, by decide, by decide⟩
  refine at1_of (N := N_law) (k := 3) F sc_law hk (F.binds fun _ _ _ _ _ _ us hl => match us, hl with | [_], _ => rfl) fun cdv s H a ns hr hS hl => ?_
  obtain ⟨fo, fdo, pso, Fo, mo, ko, bo⟩ := (C_law_open_cells.up (k := 3) (by decide)).ex
  refine ⟨_, pss_cons (ps_set (i := 1) sc_law.nd rfl (by first | exact .inl rfl | exact .inr rfl) (pe_call Fo hr (by rfl) mo ko bo .nil pass0 (pa_cons (pe_var (i := 0) rfl (by first | exact .inl rfl | exact .inr (.inl rfl) | exact .inr (.inr rfl))) pa_nil)))
   (show SVs _ false ⟨[7], some 1⟩ ⟨[7], some 1⟩ ⟨[], some 1⟩ _ b_law from svs_cons (sv_for PassesOwn.never rfl (iv_range1 B.range (EV.pure (EV.bor (ev_int)))) (gv_name sc_law.nd rfl (by first | exact .inl rfl | exact .inr rfl) (by first | exact .inl rfl | exact .inr rfl) (by decide) (by decide))
    (svs_cons (sv_set sc_law.nd rfl (by first | exact .inl rfl | exact .inr rfl) (by first | exact .inl rfl | exact .inr rfl) (by decide) (by decide) (EV.weak (EV.pure (ev_calM (C_law_votes.up (by decide)) hr len_law_votes rfl rfl (by first | exact .inl rfl | exact .inr (.inl rfl) | exact .inr (.inr rfl)) (av_cons (ev_idx (EV.bor (ev_lst (m := .own) (av_cons (ev_int) (av_cons (ev_int) (av_cons (ev_int) (av_cons (ev_int) (av_cons (ev_int) (av_cons (ev_int) (av_nil))))))))) (v_ 2) (fun _ _ => rfl) (.inl rfl)) (av_cons (ev_idx (EV.bor (ev_lst (m := .own) (av_cons (ev_int) (av_cons (ev_int) (av_cons (ev_int) (av_cons (ev_int) (av_cons (ev_int) (av_cons (ev_int) (av_nil))))))))) (v_ 2) (fun _ _ => rfl) (.inl rfl)) (av_nil)))))))
    (svs_cons (sv_par2 rfl sc_law.nd rfl rfl (by decide) rfl rfl (.inr rfl) (by decide) (av_cons (EV.pure (ev_len B.len (ev_idx (ev_idx (v_ 3) (EV.bor (ev_int)) (fun _ _ => rfl) (.inl rfl)) (EV.bor (ev_int)) (fun _ _ => rfl) (.inl rfl)))) (av_cons (EV.pure (ev_repr rfl (hu128 hr) B.repr (v_ 3))) (av_nil))) rfl)
    (svs_cons (sv_set sc_law.nd rfl (by first | exact .inl rfl | exact .inr rfl) (by first | exact .inl rfl | exact .inr rfl) (by decide) (by decide) (EV.weak (EV.pure (ev_tuple B.tuple (EV.bor (ev_rev (EV.bor (ev_sorted rfl (hu128 hr) B.sorted (EV.bor (ev_lc (m := .own) (own := [("i", 19)]) rfl sc_law.nd (iv_range1 B.range (v_ 4)) (blkOk_by (N := N_law) (sc := defScope s_law) (own := [("i", 19)]) (by decide +kernel)) (by decide) (by decide) (by decide) (fun _ _ _ _ _ => gv_name sc_law.nd rfl (by first | exact .inl rfl | exact .inr rfl) (by first | exact .inl rfl | exact .inr rfl) (by decide) (by decide)) (fun _ _ _ _ _ => pts_yes) (fun _ _ _ _ _ => ev_sub (EV.bor (ev_calM (C_law_pick.up (by decide)) hr len_law_pick rfl rfl (by first | exact .inl rfl | exact .inr (.inl rfl) | exact .inr (.inr rfl)) (av_cons (ev_idx (EV.bor (ev_lst (m := .own) (av_cons (ev_int) (av_cons (ev_int) (av_cons (ev_int) (av_nil)))))) (EV.bor (ev_calM (C_law_pick.up (by decide)) hr len_law_pick rfl rfl (by first | exact .inl rfl | exact .inr (.inl rfl) | exact .inr (.inr rfl)) (av_cons (EV.bor (ev_int)) (av_nil)))) (fun _ _ => rfl) (.inl rfl)) (av_nil)))) (EV.bor (ev_int)))))))))))))
    (svs_cons (sv_setM sc_law.nd rfl (by first | exact .inl rfl | exact .inr rfl) (by first | exact .inl rfl | exact .inr rfl) (by decide) (EV.pure (ev_mul (EV.bor (ev_lst (m := .own) (av_cons (ev_int) (av_nil)))) (v_ 4))))
    (svs_cons (sv_for PassesOwn.never rfl (iv_seq (vV_ 3)) (gv_tup rfl (gvs_cons (gv_name sc_law.nd rfl (by first | exact .inl rfl | exact .inr rfl) (by first | exact .inl rfl | exact .inr rfl) (by decide) (by decide)) (gvs_cons (gv_name sc_law.nd rfl (by first | exact .inl rfl | exact .inr rfl) (by first | exact .inl rfl | exact .inr rfl) (by decide) (by decide)) (gvs_nil))))
    (svs_one (sv_for PassesOwn.never rfl (iv_range1 B.range (EV.pure (v_ 4))) (gv_name sc_law.nd rfl (by first | exact .inl rfl | exact .inr rfl) (by first | exact .inl rfl | exact .inr rfl) (by decide) (by decide))
    (svs_one (sv_setix rfl (by first | exact .inl rfl | exact .inr (.inl rfl) | exact .inr (.inr rfl)) (by decide) (by decide) (EV.pure (ev_add (ev_idx (v_ 7) (v_ 10) (fun _ _ => rfl) (.inl rfl)) (EV.bor (ev_mul (v_ 9) (ev_idx (v_ 6) (EV.bor (ev_index (hu65 hr) (v_ 8) (v_ 10))) (fun _ _ => rfl) (.inl rfl)))))) (EV.pure (v_ 10)))))))
    (svs_cons (sv_set sc_law.nd rfl (by first | exact .inl rfl | exact .inr rfl) (by first | exact .inl rfl | exact .inr rfl) (by decide) (by decide) (EV.weak (EV.pure (ev_imm (m := .own) (ev_idx (EV.bor (ev_minL rfl (hu128 hr) B.min (EV.bor (ev_lc (m := .own) (own := [("a", 10), ("count", 20)]) rfl sc_law.nd (iv_enum B.enumerate (EV.bv (v_ 7))) (blkOk_by (N := N_law) (sc := defScope s_law) (own := [("a", 10), ("count", 20)]) (by decide +kernel)) (by decide) (by decide) (by decide) (fun _ _ _ _ _ => gv_tup rfl (gvs_cons (gv_name sc_law.nd rfl (by first | exact .inl rfl | exact .inr rfl) (by first | exact .inl rfl | exact .inr rfl) (by decide) (by decide)) (gvs_cons (gv_name sc_law.nd rfl (by first | exact .inl rfl | exact .inr rfl) (by first | exact .inl rfl | exact .inr rfl) (by decide) (by decide)) (gvs_nil)))) (fun _ _ _ _ _ => pts_yes) (fun _ _ _ _ _ => ev_tup (m := .own) (av_cons (ev_sub (EV.bor (ev_int)) (v_ 20)) (av_cons (ev_imm (m := .own) (v_ 10)) (av_nil)))))))) (EV.bor (ev_int)) (fun _ _ => rfl) (.inl rfl))))))
    (svs_cons (sv_if (TV.pure ((cv_ne (hu64 hr) (EV.bor (ev_repr rfl (hu128 hr) B.repr (EV.bor (ev_lst (m := .own) (av_cons (ev_cal (C_place_counts.up (by decide)) hr len_place_counts (av_cons (v_ 3) (av_cons (v_ 6) (av_nil)))) (av_cons (ev_cal (C_place_choice.up (by decide)) hr len_place_choice (av_cons (v_ 3) (av_cons (v_ 6) (av_nil)))) (av_nil))))))) (EV.bor (ev_repr rfl (hu128 hr) B.repr (EV.bor (ev_lst (m := .own) (av_cons (ev_tuple B.tuple (v_ 7)) (av_cons (ev_imm (m := .own) (v_ 11)) (av_nil)))))))).tv))
    (svs_one (sv_ret (EV.pure (EV.bor (ev_bool))) (fun h => nomatch h)))
    (svs_nil))
    (svs_cons (sv_for PassesOwn.never rfl (iv_range1 B.range (EV.pure (EV.bor (ev_int)))) (gv_name sc_law.nd rfl (by first | exact .inl rfl | exact .inr rfl) (by first | exact .inl rfl | exact .inr rfl) (by decide) (by decide))
    (svs_cons (sv_par2 rfl sc_law.nd rfl rfl (by decide) rfl rfl (.inr rfl) (by decide) (av_cons (EV.pure (ev_tuple B.tuple (EV.bor (ev_calM (C_law_any_order.up (by decide)) hr len_law_any_order rfl rfl (by first | exact .inl rfl | exact .inr (.inl rfl) | exact .inr (.inr rfl)) (av_cons (EV.bor (ev_listRg1 rfl B.list B.range (v_ 4))) (av_nil)))))) (av_cons (EV.pure (ev_add (EV.bor (ev_int)) (EV.bor (ev_calM (C_law_pick.up (by decide)) hr len_law_pick rfl rfl (by first | exact .inl rfl | exact .inr (.inl rfl) | exact .inr (.inr rfl)) (av_cons (EV.bor (ev_int)) (av_nil)))))) (av_nil))) rfl)
    (svs_cons (sv_set sc_law.nd rfl (by first | exact .inl rfl | exact .inr rfl) (by first | exact .inl rfl | exact .inr rfl) (by decide) (by decide) (EV.weak (EV.pure (ev_cal (C_place_choice.up (by decide)) hr len_place_choice (av_cons (EV.bor (ev_cal (C_law_more.up (by decide)) hr len_law_more (av_cons (v_ 3) (av_cons (v_ 8) (av_cons (v_ 9) (av_nil)))))) (av_cons (v_ 6) (av_nil)))))))
    (svs_one (sv_if (TV.pure ((cv_gt (EV.bor (ev_index (hu65 hr) (v_ 8) (v_ 13))) (EV.bor (ev_index (hu65 hr) (v_ 8) (v_ 11)))).tv))
    (svs_one (sv_ret (EV.pure (EV.bor (ev_bool))) (fun h => nomatch h)))
    (svs_nil))))))
    (svs_cons (sv_set sc_law.nd rfl (by first | exact .inl rfl | exact .inr rfl) (by first | exact .inl rfl | exact .inr rfl) (by decide) (by decide) (vV_ 3))
    (svs_cons (sv_for PassesOwn.never rfl (iv_range1 B.range (EV.pure (EV.bor (ev_int)))) (gv_name sc_law.nd rfl (by first | exact .inl rfl | exact .inr rfl) (by first | exact .inl rfl | exact .inr rfl) (by decide) (by decide))
    (svs_one (sv_set sc_law.nd rfl (by first | exact .inl rfl | exact .inr rfl) (by first | exact .inl rfl | exact .inr rfl) (by decide) (by decide) (EV.weak (EV.pure (ev_cal (C_law_more.up (by decide)) hr len_law_more (av_cons (v_ 14) (av_cons (EV.bor (ev_tuple B.tuple (EV.bor (ev_calM (C_law_any_order.up (by decide)) hr len_law_any_order rfl rfl (by first | exact .inl rfl | exact .inr (.inl rfl) | exact .inr (.inr rfl)) (av_cons (EV.bor (ev_listRg1 rfl B.list B.range (v_ 4))) (av_nil)))))) (av_cons (EV.bor (ev_add (EV.bor (ev_int)) (EV.bor (ev_calM (C_law_pick.up (by decide)) hr len_law_pick rfl rfl (by first | exact .inl rfl | exact .inr (.inl rfl) | exact .inr (.inr rfl)) (av_cons (EV.bor (ev_int)) (av_nil)))))) (av_nil))))))))))
    (svs_cons (sv_set sc_law.nd rfl (by first | exact .inl rfl | exact .inr rfl) (by first | exact .inl rfl | exact .inr rfl) (by decide) (by decide) (vV_ 3))
    (svs_cons (sv_for PassesOwn.never rfl (iv_seq (vV_ 14)) (gv_tup rfl (gvs_cons (gv_name sc_law.nd rfl (by first | exact .inl rfl | exact .inr rfl) (by first | exact .inl rfl | exact .inr rfl) (by decide) (by decide)) (gvs_cons (gv_name sc_law.nd rfl (by first | exact .inl rfl | exact .inr rfl) (by first | exact .inl rfl | exact .inr rfl) (by decide) (by decide)) (gvs_nil))))
    (svs_one (sv_set sc_law.nd rfl (by first | exact .inl rfl | exact .inr rfl) (by first | exact .inl rfl | exact .inr rfl) (by decide) (by decide) (EV.weak (EV.pure (ev_cal (C_law_more.up (by decide)) hr len_law_more (av_cons (v_ 15) (av_cons (v_ 8) (av_cons (v_ 9) (av_nil))))))))))
    (svs_cons (sv_if (TV.pure (tv_pw (tw_and ((cv_eq (hu64 hr) (EV.bor (ev_cal (C_place_choice.up (by decide)) hr len_place_choice (av_cons (v_ 14) (av_cons (v_ 6) (av_nil))))) (v_ 11)).tv) (tw_and1 ((cv_ne (hu64 hr) (EV.bor (ev_cal (C_place_choice.up (by decide)) hr len_place_choice (av_cons (v_ 15) (av_cons (v_ 6) (av_nil))))) (v_ 11)).tv)))))
    (svs_one (sv_ret (EV.pure (EV.bor (ev_bool))) (fun h => nomatch h)))
    (svs_nil))
    (svs_cons (sv_set sc_law.nd rfl (by first | exact .inl rfl | exact .inr rfl) (by first | exact .inl rfl | exact .inr rfl) (by decide) (by decide) (EV.weak (EV.pure (ev_lst (m := .own) (av_cons (ev_none) (av_cons (ev_tup (m := .own) (av_nil)) (av_cons (ev_int) (av_cons (ev_mul (EV.bor (ev_tup (m := .own) (av_cons (ev_int) (av_nil)))) (EV.bor (ev_add (v_ 4) (EV.bor (ev_int))))) (av_cons (ev_mul (EV.bor (ev_lst (m := .own) (av_cons (ev_int) (av_nil)))) (v_ 4)) (av_cons (ev_mul (EV.bor (ev_tup (m := .own) (av_cons (ev_bool) (av_nil)))) (v_ 4)) (av_cons (ev_str) (av_cons (ev_mul (EV.bor (ev_tup (m := .own) (av_cons (ev_none) (av_nil)))) (v_ 4)) (av_cons (ev_add (EV.bor (ev_mul (EV.bor (ev_tup (m := .own) (av_cons (ev_int) (av_nil)))) (EV.bor (ev_sub (v_ 4) (EV.bor (ev_int)))))) (EV.bor (ev_tup (m := .own) (av_cons (ev_int) (av_nil))))) (av_cons (ev_mul (EV.bor (ev_tup (m := .own) (av_cons (ev_int) (av_nil)))) (v_ 4)) (av_nil)))))))))))))))
    (svs_cons (sv_for PassesOwn.never rfl (iv_seq (ev_tup (m := .val) (av_cons (vV_ 6) (av_cons (EV.weak (EV.pure (ev_list B.list (v_ 6)))) (av_cons (EV.weak (EV.pure (ev_rev (v_ 6)))) (av_cons (EV.weak (EV.pure (ev_slice (v_ 6) (ov_some (EV.bor (ev_int))) ov_none))) (av_cons (ev_idx (vV_ 16) (EV.pure (EV.bor (ev_calM (C_law_pick.up (by decide)) hr len_law_pick rfl rfl (by first | exact .inl rfl | exact .inr (.inl rfl) | exact .inr (.inr rfl)) (av_cons (EV.bor (ev_int)) (av_nil))))) (fun _ _ => rfl) (.inr ⟨rfl, rfl⟩)) (av_nil)))))))) (gv_name sc_law.nd rfl (by first | exact .inl rfl | exact .inr rfl) (by first | exact .inl rfl | exact .inr rfl) (by decide) (by decide))
    (svs_cons (sv_set sc_law.nd rfl (by first | exact .inl rfl | exact .inr rfl) (by first | exact .inl rfl | exact .inr rfl) (by decide) (by decide) (EV.weak (EV.pure (ev_and (ev_isi .tuple B.isinstance B.tuple (v_ 17) (by rfl)) (ev_one ((cv_eq (hu64 hr) (EV.bor (ev_len B.len (v_ 17))) (v_ 4)).ev))))))
    (svs_cons (sv_set sc_law.nd rfl (by first | exact .inl rfl | exact .inr rfl) (by first | exact .inl rfl | exact .inr rfl) (by decide) (by decide) (EV.weak (EV.pure (ev_and (ev_imm (m := .own) (v_ 18)) (ev_one ((cv_eq (hu64 hr) (EV.bor (ev_lc (m := .own) (own := [("w", 21)]) rfl sc_law.nd (iv_seq (EV.bv (v_ 17))) (blkOk_by (N := N_law) (sc := defScope s_law) (own := [("w", 21)]) (by decide +kernel)) (by decide) (by decide) (by decide) (fun _ _ _ _ _ => gv_name sc_law.nd rfl (by first | exact .inl rfl | exact .inr rfl) (by first | exact .inl rfl | exact .inr rfl) (by decide) (by decide)) (fun _ _ _ _ _ => pts_if (tv_pw (tw_or (tv_not (tv_val (EV.bor (ev_isi .int B.isinstance B.int (v_ 21) (by rfl))))) (tw_or1 (tv_val (EV.bor (ev_isi .bool B.isinstance B.bool (v_ 21) (by rfl)))))))) (fun _ _ _ _ _ => ev_imm (m := .own) (v_ 21)))) (EV.bor (ev_lst (m := .own) (av_nil)))).ev))))))
    (svs_cons (sv_set sc_law.nd rfl (by first | exact .inl rfl | exact .inr rfl) (by first | exact .inl rfl | exact .inr rfl) (by decide) (by decide) (EV.weak (EV.pure (ev_and (ev_imm (m := .own) (v_ 18)) (ev_one ((cv_eq (hu64 hr) (EV.bor (ev_lc (m := .own) (own := [("k", 22)]) rfl sc_law.nd (iv_range2 B.range (EV.bor (ev_int)) (v_ 4)) (blkOk_by (N := N_law) (sc := defScope s_law) (own := [("k", 22)]) (by decide +kernel)) (by decide) (by decide) (by decide) (fun _ _ _ _ _ => gv_name sc_law.nd rfl (by first | exact .inl rfl | exact .inr rfl) (by first | exact .inl rfl | exact .inr rfl) (by decide) (by decide)) (fun _ _ _ _ _ => pts_if ((cv_lt (ev_idx (v_ 17) (EV.bor (ev_sub (v_ 22) (EV.bor (ev_int)))) (fun _ _ => rfl) (.inl rfl)) (ev_idx (v_ 17) (v_ 22) (fun _ _ => rfl) (.inl rfl))).tv)) (fun _ _ _ _ _ => ev_imm (m := .own) (v_ 22)))) (EV.bor (ev_lst (m := .own) (av_nil)))).ev))))))
    (svs_one (sv_if (TV.pure ((cv_ne (hu64 hr) (EV.bor (ev_repr rfl (hu128 hr) B.repr (EV.bor (ev_cal (C_are_weights.up (by decide)) hr len_are_weights (av_cons (v_ 4) (av_cons (v_ 17) (av_nil))))))) (EV.bor (ev_repr rfl (hu128 hr) B.repr (v_ 18)))).tv))
    (svs_one (sv_ret (EV.pure (EV.bor (ev_bool))) (fun h => nomatch h)))
    (svs_nil)))))))
    (svs_one (sv_if (TV.pure ((cv_ne (hu64 hr) (EV.bor (ev_repr rfl (hu128 hr) B.repr (v_ 3))) (v_ 5)).tv))
    (svs_one (sv_ret (EV.pure (EV.bor (ev_bool))) (fun h => nomatch h)))
    (svs_nil)))))))))))))))))))
    (svs_one (sv_ret (EV.pure (EV.bor (ev_bool))) (fun h => nomatch h)))), ?_⟩
  refine ⟨.ref a, rfl, a, ns, rfl, hS, hl, fun H' p q ex sa => ?_⟩
  exact law_core rfl rfl sa (hrun ns hl)
end
end K75

/-! P75a: votes by places, in plain words. -/
namespace K75
open PySem DL
/-- what a thing gets by places -/
def at' (w : List Int) (k : Nat) : Int := w.getD k 0
def cnt (w : List Int) (vs : Vs) (a : Nat) : Int := (vs.map fun p => (p.2 : Int) * at' w (p.1.idxOf a)).sum
theorem cnt_perm {w : List Int} {vs ws : Vs} (h : vs.Perm ws) (a : Nat) : cnt w vs a = cnt w ws a := by
  unfold cnt
  generalize (fun p : List Nat × Nat => (p.2 : Int) * at' w (p.1.idxOf a)) = f
  induction h with
  | nil => rfl
  | cons x p ih => rw [List.map_cons, List.map_cons, List.sum_cons, List.sum_cons, ih]
  | swap x y l => simp only [List.map_cons, List.sum_cons]; omega
  | trans p q i j => rw [i, j]
theorem cnt_append {w : List Int} {vs ws : Vs} {a : Nat} : cnt w (vs ++ ws) a = cnt w vs a + cnt w ws a := by
  simp [cnt]
theorem cnt_cons {w : List Int} {p : List Nat × Nat} {vs : Vs} {a : Nat} : cnt w (p :: vs) a = (p.2 : Int) * at' w (p.1.idxOf a) + cnt w vs a := by
  simp [cnt]
theorem cnt_more {w : List Int} {vs : Vs} {o : List Nat} {m a : Nat} : cnt w (more vs o m) a = cnt w vs a + (m : Int) * at' w (o.idxOf a) := by
  have key : cnt w (vs.filter fun p => !(p.1 == o)) a + (here vs o : Int) * at' w (o.idxOf a) = cnt w vs a := by
    induction vs with
    | nil => simp [cnt, here]
    | cons p r ih =>
      by_cases h : p.1 = o
      · have e1 : (p :: r).filter (fun p => !(p.1 == o)) = r.filter fun p => !(p.1 == o) := List.filter_cons_of_neg (by simp [h])
        have e2 : here (p :: r) o = p.2 + here r o := by
          unfold here
          rw [List.filter_cons_of_pos (by simp [h])]
          simp
        rw [e1, e2, cnt_cons, ← ih, ← h, Int.natCast_add, Int.add_mul]
        omega
      · have e1 : (p :: r).filter (fun p => !(p.1 == o)) = p :: r.filter fun p => !(p.1 == o) := List.filter_cons_of_pos (by simp [h])
        have e2 : here (p :: r) o = here r o := by
          unfold here
          rw [List.filter_cons_of_neg (by simp [h])]
        rw [e1, e2, cnt_cons, cnt_cons, ← ih]
        omega
  unfold more
  rw [cnt_append, cnt_cons, ← key]
  simp only [cnt, List.map_nil, List.sum_nil, Int.natCast_add, Int.add_mul]
  omega
def Falls (w : List Int) : Prop := ∀ j k, j ≤ k → k < w.length → at' w k ≤ at' w j
/-- nobody is punished -/
theorem no_punish {n : Nat} {w : List Int} (hw : Falls w) (hl : w.length = n) {c : Nat → Int} {o : List Nat} (ho : o.Perm (List.range n)) {m s t : Nat} (ht : First n c t) (hs : First n (fun a => c a + (m : Int) * at' w (o.idxOf a)) s) : o.idxOf s ≤ o.idxOf t := by
  rcases Nat.lt_or_ge (o.idxOf t) (o.idxOf s) with z | z
  · exfalso
    have h1 : o.idxOf s < w.length := by
      rw [hl, ← List.length_range (n := n), ← ho.length_eq]
      exact List.idxOf_lt_length_of_mem (ho.mem_iff.mpr (List.mem_range.mpr hs.lt))
    have h2 := hw _ _ (Nat.le_of_lt z) h1
    have h3 : (m : Int) * at' w (o.idxOf s) ≤ (m : Int) * at' w (o.idxOf t) := Int.mul_le_mul_of_nonneg_left h2 (by omega)
    have h4 := hs.most t ht.lt
    have h5 := ht.most s hs.lt
    rcases Nat.lt_trichotomy s t with q | q | q
    · have := ht.fst s q
      omega
    · subst q; omega
    · have := hs.fst t q
      omega
  · exact z
theorem first_join {n : Nat} {c d : Nat → Int} {t : Nat} (h : First n c t) (g : First n d t) : First n (fun a => c a + d a) t :=
  ⟨h.lt, fun b hb => by have := h.most b hb; have := g.most b hb; omega, fun b hb => by have := h.fst b hb; have := g.fst b hb; omega⟩
end K75

/-! P75b: what the defs of k75 answer. -/
namespace K75
open PySem DL
def wT (w : List Int) : D := .tuple (w.map .int)
variable {n : Nat} {vs : Vs} {w : List Int} {S : Src}
theorem run_things (h : Vt n vs) : d_things_of [encVs vs] S = some (nI n, S) := by
  obtain ⟨p, r, rfl, hl⟩ := h.first
  unfold d_things_of
  rw [run_def (by rfl)]
  show ((b_things_of) [some (encVs (p :: r))] S).bind _ = _
  unfold b_things_of encVs
  simp [encV, hl]
def innB : D → SF := turnD (gTup [gName 5, gName 6]) (sSetIx 2 (eVar 6) (e2 (addD true) (e2 idxD (eVar 2) (eVar 6)) (e2 mulD (eVar 4) (e2 idxD (eVar 1) (eVar 5)))))
theorem at_get {k : Nat} (h : k < w.length) : idxD (wT w) (.int k) S = some (.int (at' w k), S) := run_idxT (by simp [at', h])
theorem small_w {k : Nat} (hw : ∀ x ∈ w, x.natAbs < 1000) (h : k < w.length) : small64 (at' w k) = true := decide_eq_true (by
  have := hw _ (List.getElem_mem h)
  have e : at' w k = w[k] := by simp [at', h]
  rw [e]
  omega)
/-- one vote's places -/
theorem run_inner {o : List Nat} {m : Nat} (ho : o.Perm (List.range n)) (hl : w.length = n) (hw : ∀ x ∈ w, x.natAbs < 1000) {v5 v6 : Option D} {f : Nat → Int} :
    ∃ v5' v6', forD innB (enumD 0 (o.map fun a => nI a)) [some (encVs vs), some (wT w), some (.list (row n f)), some (nT o), some (nI m), v5, v6] S = some (.nx [some (encVs vs), some (wT w), some (.list (row n fun a => f a + (m : Int) * at' w (o.idxOf a))), some (nT o), some (nI m), v5', v6'], S) := by
  have hn : o.length = n := by rw [ho.length_eq, List.length_range]
  have nd : o.Nodup := ho.nodup_iff.mpr List.nodup_range
  rw [enum_nT]
  obtain ⟨ρ', S', h1, rfl, v5', v6', rfl⟩ := forD_inv (b := innB) (fun p : Nat × Nat => PyData.tuple [.int p.2, nI p.1])
    (fun pre ρ S' => S = S' ∧ ∃ v5 v6, ρ = [some (encVs vs), some (wT w), some (.list (row n fun a => if a ∈ pre.map (·.1) then f a + (m : Int) * at' w (o.idxOf a) else f a)), some (nT o), some (nI m), v5, v6]) (o.zipIdx 0)
    (fun pre p suf ρ S' e h => by
      obtain ⟨rfl, v5, v6, rfl⟩ := h
      obtain ⟨a, i⟩ := p
      obtain ⟨h1, h2, h3, h4⟩ := zipIdx_split e
      have ha : a < n := List.mem_range.mp (ho.mem_iff.mp (List.mem_of_getElem? h2))
      have hi : i < w.length := by omega
      have ix : o.idxOf a = i := by
        have := List.getElem?_eq_some_iff.mp h2
        obtain ⟨z, rfl⟩ := this
        exact nd.idxOf_getElem i z
      have na : a ∉ pre.map (·.1) := fun z => by
        rw [h3] at z
        obtain ⟨j, hj⟩ := List.mem_iff_getElem?.mp z
        rw [List.getElem?_take] at hj
        split at hj
        · have := (List.getElem?_inj (by omega : j < o.length) nd).mp (hj.trans h2.symm)
          omega
        · cases hj
      refine ⟨_, S, .inl ?_, rfl, some (nI i), some (nI a), rfl⟩
      unfold innB
      rw [run_turn]
      simp only [run_gTup, run_gAll, run_gName, Option.bind_some, run_gAll0, List.set_cons_succ, List.set_cons_zero]
      rw [run_setIx (v := .int ((f a) + (m : Int) * at' w i)) (S1 := S) (S2 := S) (i := a) (k := a) ?_ rfl rfl (ixD_nat (by simpa using ha)), row_set]
      · simp only [List.set_cons_succ, List.set_cons_zero]
        have e1 : (row n fun b => if b = a then f a + (m : Int) * at' w i else if b ∈ pre.map (·.1) then f b + (m : Int) * at' w (o.idxOf b) else f b) = row n fun b => if b ∈ (pre ++ [(a, i)]).map (·.1) then f b + (m : Int) * at' w (o.idxOf b) else f b := row_congr fun b hb => by
          by_cases q : b = a
          · subst q
            rw [if_pos rfl, if_pos (by simp), ix]
          · rw [if_neg q]
            by_cases q2 : b ∈ pre.map (·.1)
            · rw [if_pos q2, if_pos (by rw [List.map_append]; exact List.mem_append_left _ q2)]
            · rw [if_neg q2, if_neg (by rw [List.map_append]; exact fun z => (List.mem_append.mp z).elim q2 (by simpa using q))]
        rw [e1]
      · simp only [run_2, run_var, List.getElem?_cons_succ, List.getElem?_cons_zero, Option.bind_some, Option.map_some, run_idx_row ha, if_neg na, at_get hi, run_mul (.inr (small_w hw hi)), run_add]) [] (o.zipIdx 0) rfl [some (encVs vs), some (wT w), some (.list (row n f)), some (nT o), some (nI m), v5, v6] S ⟨rfl, v5, v6, by simp⟩
  refine ⟨v5', v6', ?_⟩
  rw [h1]
  have e2 : (row n fun a => if a ∈ (o.zipIdx 0).map (·.1) then f a + (m : Int) * at' w (o.idxOf a) else f a) = row n fun a => f a + (m : Int) * at' w (o.idxOf a) := row_congr fun a ha => by
    rw [if_pos]
    have : (o.zipIdx 0).map (·.1) = o := by simp
    rw [this]
    exact ho.mem_iff.mpr (List.mem_range.mpr ha)
  rw [e2]
theorem run_counts (h : Vt n vs) (h8 : n ≤ 100) (hl : w.length = n) (hw : ∀ x ∈ w, x.natAbs < 1000) : d_place_counts [encVs vs, wT w] S = some (.tuple (row n (cnt w vs)), S) := by
  unfold d_place_counts
  rw [run_def (by rfl)]
  show ((b_place_counts) [some (encVs vs), some (wT w), none, none, none, none, none] S).bind _ = _
  unfold b_place_counts
  have h0 : fit ([PyData.int 0] : List D).length = true := rfl
  obtain ⟨ρ', S', h1, rfl, v3, v4, v5, v6, rfl⟩ := forD_inv (b := turnD (gTup [gName 3, gName 4]) (sFor (wEnum (eVar 3)) (gTup [gName 5, gName 6]) (sSetIx 2 (eVar 6) (e2 (addD true) (e2 idxD (eVar 2) (eVar 6)) (e2 mulD (eVar 4) (e2 idxD (eVar 1) (eVar 5))))))) encV
    (fun pre ρ S' => S = S' ∧ ∃ v3 v4 v5 v6, ρ = [some (encVs vs), some (wT w), some (.list (row n (cnt w pre))), v3, v4, v5, v6]) vs
    (fun pre p suf ρ S' e h' => by
      obtain ⟨rfl, v3, v4, v5, v6, rfl⟩ := h'
      obtain ⟨o, m⟩ := p
      obtain ⟨v5', v6', h2⟩ := run_inner (vs := vs) (m := m) (S := S) (v5 := v5) (v6 := v6) (f := cnt w pre) (h.perm (o, m) (by rw [e]; simp)) hl hw
      refine ⟨_, S, .inl ?_, rfl, some (nT o), some (nI m), v5', v6', rfl⟩
      rw [run_turn]
      simp only [encV, run_gTup, run_gAll, run_gName, Option.bind_some, run_gAll0, List.set_cons_succ, List.set_cons_zero, run_for, run_wEnum, run_var, List.getElem?_cons_succ, List.getElem?_cons_zero, Option.map_some, seqOf_nT]
      refine h2.trans ?_
      have e1 : (row n fun a => cnt w pre a + (m : Int) * at' w (o.idxOf a)) = row n (cnt w (pre ++ [(o, m)])) := row_congr fun a _ => by
        rw [cnt_append, cnt_cons]
        simp [cnt]
      rw [e1]) [] vs rfl [some (encVs vs), some (wT w), some (.list (row n fun _ => 0)), none, none, none, none] S ⟨rfl, none, none, none, none, by rfl⟩
  simp only [run_seq, run_asg, run_2, run_lst, run_lcons, run_lnil, run_c, run_call, Option.bind_some, h0, ↓reduceIte, run_var, List.getElem?_cons_succ, List.getElem?_cons_zero, Option.map_some, run_things h, run_zeros (show n ≤ 1000000 by omega), run_gName, List.set_cons_succ, List.set_cons_zero, seqO_nx, run_for, run_wSeq]
  rw [show seqOf (encVs vs) = some (vs.map encV) from rfl]
  simp only [Option.map_some, Option.bind_some]
  rw [h1]
  simp [run_tuple, imm_row]
/-- the choice: the first one that has most -/
theorem run_choice (h : Vt n vs) (h1 : 1 ≤ n) (h8 : n ≤ 100) (hl : w.length = n) (hw : ∀ x ∈ w, x.natAbs < 1000) : ∃ t, First n (cnt w vs) t ∧ ∀ S : Src, d_place_choice [encVs vs, wT w] S = some (nI t, S) := by
  obtain ⟨m, t, h2, h3, h4⟩ := first_max (c := cnt w vs) h1
  refine ⟨t, h2, fun S => ?_⟩
  unfold d_place_choice
  rw [run_def (by rfl)]
  show ((b_place_choice) [some (encVs vs), some (wT w), none] S).bind _ = _
  unfold b_place_choice
  simp only [run_seq, run_asg, run_call, run_lcons, run_lnil, Option.bind_some, run_var, List.getElem?_cons_succ, List.getElem?_cons_zero, Option.map_some, run_counts h h8 hl hw, run_gName, List.set_cons_succ, List.set_cons_zero, seqO_nx, run_ret, run_2, run_1, h3, h4, end_rt]
end K75

/-! P75c: what are weights. -/
namespace K75
open PySem DL
def isIntD : D → Bool
  | .int _ => true
  | _ => false
def At (x : D) : Prop := x = .none ∨ (∃ b, x = .bool b) ∨ ∃ i, x = .int i
inductive Val : D → Prop
  | no {d : D} : (∀ S, isiD .tuple d S = some (.bool false, S)) → Val d
  | yes {xs : List D} : (∀ x ∈ xs, At x) → xs.length ≤ 1000 → Val (.tuple xs)
def intAt (xs : List D) (k : Nat) : Int := match xs[k]? with
  | some (.int i) => i
  | _ => 0
def okW (n : Nat) : D → Bool
  | .tuple xs => xs.length == n && (xs.all isIntD && (List.range' 1 (n - 1)).all fun k => decide (intAt xs k ≤ intAt xs (k - 1)))
  | _ => false
theorem okW_no {n : Nat} {d : D} (h : ∀ S, isiD .tuple d S = some (.bool false, S)) : okW n d = false := by
  cases d with
  | tuple xs => exact absurd (h ⟨[], 0, 0, 0⟩) (by intro z; cases z)
  | _ => rfl
theorem okW_tup {n : Nat} {xs : List D} : okW n (.tuple xs) = (xs.length == n && (xs.all isIntD && (List.range' 1 (n - 1)).all fun k => decide (intAt xs k ≤ intAt xs (k - 1)))) := rfl
variable {n : Nat} {S : Src}
theorem isi_tup (xs : List D) : isiD .tuple (.tuple xs) S = some (.bool true, S) := rfl
theorem isi_int {x : D} (h : At x) : ∃ a b : Bool, (∀ S, isiD .int x S = some (.bool a, S)) ∧ (∀ S, isiD .bool x S = some (.bool b, S)) ∧ (a && !b) = isIntD x := by
  rcases h with rfl | ⟨b, rfl⟩ | ⟨i, rfl⟩
  · exact ⟨false, false, fun _ => rfl, fun _ => rfl, rfl⟩
  · exact ⟨true, true, fun _ => rfl, fun _ => rfl, rfl⟩
  · exact ⟨true, false, fun _ => rfl, fun _ => rfl, rfl⟩
theorem imm_At {x : D} (h : At x) : imm x = true := by
  rcases h with rfl | ⟨b, rfl⟩ | ⟨i, rfl⟩ <;> simp
theorem int_get {xs : List D} (h : xs.all isIntD = true) {k : Nat} (hk : k < xs.length) : idxD (.tuple xs) (.int k) S = some (.int (intAt xs k), S) := by
  have h1 := List.all_eq_true.mp h _ (List.getElem_mem hk)
  have h2 : xs[k]? = some (xs[k]) := by simp [hk]
  have h3 : xs[k] = .int (intAt xs k) := by
    unfold intAt
    rw [h2]
    cases e : xs[k] with
    | int i => rfl
    | _ => rw [e] at h1; cases h1
  exact run_idxT (by rw [h2, h3])
theorem range_1n (n : Nat) : rngD 1 (n : Int) = (List.range' 1 (n - 1)).map fun i => nI i := by
  have := rng_nat2 1 n
  exact this
theorem run_areW {v : D} (hv : Val v) (hn : 1 ≤ n) (hn2 : n ≤ 100) : d_are_weights [nI n, v] S = some (.bool (okW n v), S) := by
  unfold d_are_weights
  rw [run_def (by rfl)]
  show ((b_are_weights) [some (nI n), some v, none, none] S).bind _ = _
  unfold b_are_weights
  cases hv with
  | no h =>
    rw [okW_no h]
    simp [h]
  | @yes xs h hl =>
    by_cases e : xs.length = n
    · have ee1 : decide ((xs.length : Int) = (n : Int)) = true := decide_eq_true (by omega)
      have c1 : compD (gName 2) tYes (eAnd (e1 (isiD .int) (eVar 2)) (e1 notD (e1 (isiD .bool) (eVar 2)))) [some (nI n), some (.tuple xs), none, none] xs S = some ((xs.map isIntD).map .bool, S) := by
        have := compD_all (g := gName 2) (t := tYes) (e := eAnd (e1 (isiD .int) (eVar 2)) (e1 notD (e1 (isiD .bool) (eVar 2)))) (ρ := [some (nI n), some (.tuple xs), none, none]) (S := S) (fun x : D => x) (fun x => PyData.bool (isIntD x)) xs fun x hx => by
          obtain ⟨a, b, h1, h2, h3⟩ := isi_int (h x hx)
          refine ⟨[some (nI n), some (.tuple xs), some x, none], rfl, rfl, ?_⟩
          rw [← h3]
          cases a <;> cases b <;> simp [h1, h2]
        rw [List.map_id'] at this
        rw [this, List.map_map]
        rfl
      have f1 : fit ((xs.map isIntD).map PyData.bool).length = true := fit_of (by simp; omega)
      have r1 : rng62 (1 : Int) = true := by decide
      have r2 := rng62_nat (n := n) (by omega)
      have start : ∀ k : SF, (sSeq (sIf (tOr (tNot (tB (e1 (isiD .tuple) (eVar 1)))) (tB (e2 (eqD true) (e1 lenD (eVar 1)) (eVar 0)))) (sRet (eC (.bool false))) (sNext)) (sSeq (sIf (tNot (tB (e1 allD (eComp [2] (wSeq (eVar 1)) (gName 2) (tYes) (eAnd (e1 (isiD .int) (eVar 2)) (e1 notD (e1 (isiD .bool) (eVar 2)))))))) (sRet (eC (.bool false))) (sNext)) k)) [some (nI n), some (.tuple xs), none, none] S = if xs.all isIntD = true then k [some (nI n), some (.tuple xs), none, none] S else some (.rt (.bool false), S) := by
        intro k
        simp only [run_seq, run_sIf, run_tOr, run_tNot, run_tB, run_1, run_2, run_var, List.getElem?_cons_succ, List.getElem?_cons_zero, Option.bind_some, Option.map_some, isi_tup, boolOf_bool, Bool.not_true, Bool.false_eq_true, ↓reduceIte, run_lenT, run_eqI, ee1, run_next, seqO_nx, run_comp, run_wSeq, seqOf_tup, kill_cons, kill_nil, List.set_cons_succ, List.set_cons_zero, c1, f1, run_all]
        have : (xs.map isIntD).all id = xs.all isIntD := by rw [List.all_map]; rfl
        rw [this]
        cases xs.all isIntD <;> simp
      rw [start]
      rw [okW_tup]
      rw [show (xs.length == n) = true by simpa using e]
      cases hall : xs.all isIntD with
      | false => simp
      | true =>
        have c2 : compD (gName 3) tYes (e2 (cmD .ge) (e2 idxD (eVar 1) (e2 subD (eVar 3) (eC (.int 1)))) (e2 idxD (eVar 1) (eVar 3))) [some (nI n), some (.tuple xs), none, none] ((List.range' 1 (n - 1)).map fun i => nI i) S = some ((List.range' 1 (n - 1)).map (fun k => PyData.bool (decide (intAt xs k ≤ intAt xs (k - 1)))), S) :=
          compD_all (fun i : Nat => nI i) _ _ fun k hk => by
            have hk' : 1 ≤ k ∧ k < n := by
              rw [List.mem_range'] at hk
              obtain ⟨i, h1, rfl⟩ := hk
              omega
            refine ⟨[some (nI n), some (.tuple xs), none, some (nI k)], rfl, rfl, ?_⟩
            have ee3 : ((k : Int) - 1) = ((k - 1 : Nat) : Int) := by omega
            simp only [run_2, run_var, List.getElem?_cons_succ, List.getElem?_cons_zero, Option.bind_some, Option.map_some, run_c, run_sub, ee3, int_get hall (show k - 1 < xs.length by omega), int_get hall (show k < xs.length by omega), run_cm, cm_ge]
        have f2 : fit ((List.range' 1 (n - 1)).map (fun k => PyData.bool (decide (intAt xs k ≤ intAt xs (k - 1))))).length = true := fit_of (by simp; omega)
        have e4 : (List.range' 1 (n - 1)).map (fun k => PyData.bool (decide (intAt xs k ≤ intAt xs (k - 1)))) = ((List.range' 1 (n - 1)).map fun k => decide (intAt xs k ≤ intAt xs (k - 1))).map .bool := by rw [List.map_map]; rfl
        rw [e4] at c2 f2
        simp only [↓reduceIte, run_ret, run_1, run_comp, run_wRange2, run_c, run_var, List.getElem?_cons_succ, List.getElem?_cons_zero, Option.bind_some, Option.map_some, intOf_int, r1, r2, Bool.and_self, range_1n, kill_cons, kill_nil, List.set_cons_succ, List.set_cons_zero, c2, f2, run_all, end_rt, List.all_map, Bool.true_and]
        rfl
    · have ee1 : decide ((xs.length : Int) = (n : Int)) = false := decide_eq_false (by omega)
      rw [okW_tup]
      rw [show (xs.length == n) = false by simpa using e]
      simp [isi_tup, ee1]
/-! ### the same, told otherwise -/
def W18a : SF := (sAsg (eAnd (e1 (isiD .tuple) (eVar 17)) (e2 (eqD false) (e1 lenD (eVar 17)) (eVar 4))) (gName 18))
def W18b : SF := (sAsg (eAnd (eImm (eVar 18)) (e2 (eqD false) (eComp [21] (wSeq (eVar 17)) (gName 21) (tOr (tNot (tB (e1 (isiD .int) (eVar 21)))) (tB (e1 (isiD .bool) (eVar 21)))) (eImm (eVar 21))) (eLst (lNil)))) (gName 18))
def W18c : SF := (sAsg (eAnd (eImm (eVar 18)) (e2 (eqD false) (eComp [22] (wRange2 (eC (.int 1)) (eVar 4)) (gName 22) (tB (e2 (cmD .lt) (e2 idxD (eVar 17) (e2 subD (eVar 22) (eC (.int 1)))) (e2 idxD (eVar 17) (eVar 22)))) (eImm (eVar 22))) (eLst (lNil)))) (gName 18))
def W18d : SF := (sIf (tB (e2 (eqD true) (e1 reprD (eCall d_are_weights (lCons (eVar 4) (lCons (eVar 17) (lNil))))) (e1 reprD (eVar 18)))) (sRet (eC (.bool false))) (sNext))
theorem run_due {v : D} (hv : Val v) (hn : 1 ≤ n) (hn2 : n ≤ 100) {ρ : DL.Env} (hl : ρ.length = 23) (h4 : ρ[4]? = some (some (nI n))) (h17 : ρ[17]? = some (some v)) : sSeq W18a (sSeq W18b (sSeq W18c W18d)) ρ S = some (.nx (ρ.set 18 (some (.bool (okW n v)))), S) := by
  -- the three steps
  have fin : ∀ {ρ' : DL.Env} (b : Bool), ρ'.length = 23 → ρ'[4]? = some (some (nI n)) → ρ'[17]? = some (some v) → ρ'[18]? = some (some (.bool b)) → b = okW n v → W18d ρ' S = some (.nx ρ', S) := by
    intro ρ' b g1 g2 g3 g4 g5
    have key := run_neRepr (S := S) (ρ := ρ') (f := eCall d_are_weights (lCons (eVar 4) (lCons (eVar 17) (lNil)))) (g := eVar 18) (d := .bool b)
      (by simp only [run_call, run_lcons, run_lnil, run_var, g2, g3, Option.bind_some, Option.map_some, run_areW hv hn hn2, g5]) (by simp only [run_var, g4, Option.bind_some, Option.map_some]) (by simp) (by simp) (by simp)
    unfold W18d
    simp only [run_sIf, run_tB, key, Option.bind_some, boolOf_bool, Option.map_some, Bool.false_eq_true, ↓reduceIte, run_next]
  have z1 : (18 : Nat) ≠ 4 := by decide
  have z2 : (18 : Nat) ≠ 17 := by decide
  have skip : ∀ {ρ' : DL.Env}, ρ'.length = 23 → ρ'[4]? = some (some (nI n)) → ρ'[17]? = some (some v) → ρ'[18]? = some (some (.bool false)) → okW n v = false → sSeq W18b (sSeq W18c W18d) ρ' S = some (.nx ((ρ'.set 18 (some (.bool false))).set 18 (some (.bool false))), S) := by
    intro ρ' g1 g2 g3 g4 g5
    have hb : ∀ ρ'' : DL.Env, ρ''[18]? = some (some (.bool false)) → W18b ρ'' S = some (.nx (ρ''.set 18 (some (.bool false))), S) := fun ρ'' q => by
      unfold W18b
      simp only [run_asg, run_eAnd, run_imm, run_var, q, Option.bind_some, Option.map_some, imm_bool, ↓reduceIte, boolOf_bool, Bool.false_eq_true, run_gName]
    have hc : ∀ ρ'' : DL.Env, ρ''[18]? = some (some (.bool false)) → W18c ρ'' S = some (.nx (ρ''.set 18 (some (.bool false))), S) := fun ρ'' q => by
      unfold W18c
      simp only [run_asg, run_eAnd, run_imm, run_var, q, Option.bind_some, Option.map_some, imm_bool, ↓reduceIte, boolOf_bool, Bool.false_eq_true, run_gName]
    rw [run_seq, hb ρ' g4, Option.bind_some, seqO_nx, run_seq, hc _ (set_here (by omega)), Option.bind_some, seqO_nx]
    exact fin false (by simp [g1]) (by rw [set_there z1, set_there z1]; exact g2) (by rw [set_there z2, set_there z2]; exact g3) (set_here (by simp [g1])) g5.symm
  have l1 : (ρ.set 18 (some (PyData.bool false))).length = 23 := by simp [hl]
  cases hv with
  | no h =>
    have ha : W18a ρ S = some (.nx (ρ.set 18 (some (.bool false))), S) := by
      unfold W18a
      simp only [run_asg, run_eAnd, run_1, run_var, h17, Option.bind_some, Option.map_some, h, boolOf_bool, Bool.false_eq_true, ↓reduceIte, run_gName]
    rw [run_seq, ha, Option.bind_some, seqO_nx, skip l1 (by rw [set_there z1]; exact h4) (by rw [set_there z2]; exact h17) (set_here (by omega)) (okW_no h), okW_no h]
    simp [List.set_set]
  | @yes xs h hx =>
    have ha : W18a ρ S = some (.nx (ρ.set 18 (some (.bool (xs.length == n)))), S) := by
      unfold W18a
      have ee1 : decide ((xs.length : Int) = (n : Int)) = (xs.length == n) := by rw [Bool.beq_eq_decide_eq]; exact decide_eq_decide.mpr (by omega)
      simp only [run_asg, run_eAnd, run_1, run_2, run_var, h17, h4, Option.bind_some, Option.map_some, isi_tup, boolOf_bool, ↓reduceIte, run_gName, run_lenT, run_eqI, ee1, Bool.false_eq_true]
    rw [run_seq, ha, Option.bind_some, seqO_nx]
    by_cases e : xs.length = n
    · have ee1 : (xs.length == n) = true := by simpa using e
      rw [ee1]
      have c1 : ∀ ρ'' : DL.Env, ρ''.length = 23 → compD (gName 21) (tOr (tNot (tB (e1 (isiD .int) (eVar 21)))) (tB (e1 (isiD .bool) (eVar 21)))) (eImm (eVar 21)) ρ'' xs S = some (xs.filter fun x => !isIntD x, S) := fun ρ'' q => by
        have := compD_pure (g := gName 21) (t := tOr (tNot (tB (e1 (isiD .int) (eVar 21)))) (tB (e1 (isiD .bool) (eVar 21)))) (e := eImm (eVar 21)) (ρ := ρ'') (S := S) (fun x : D => x) (fun x : D => x) (fun x => !isIntD x) xs fun x hx => by
          obtain ⟨a, b, h1, h2, h3⟩ := isi_int (h x hx)
          have hg : (ρ''.set 21 (some x))[21]? = some (some x) := set_here (by omega)
          refine ⟨ρ''.set 21 (some x), rfl, ?_, fun _ => ?_⟩
          · rw [← h3]
            cases a <;> cases b <;> simp only [run_tOr, run_tNot, run_tB, run_1, run_var, hg, Option.bind_some, Option.map_some, h1, h2, boolOf_bool, Bool.not_true, Bool.not_false, ↓reduceIte, Bool.false_eq_true, Bool.and_false, Bool.and_true, Bool.false_and, Bool.true_and]
          · simp only [run_imm, run_var, hg, Option.bind_some, Option.map_some, imm_At (h x hx), ↓reduceIte]
        simpa using this
      have f1 : fit (xs.filter fun x => !isIntD x).length = true := fit_of (by have := List.length_filter_le (fun x => !isIntD x) xs; omega)
      have n1 : eqD false (.list (xs.filter fun x => !isIntD x)) (.list []) S = some (.bool (xs.all isIntD), S) := by
        have hb : ∀ x ∈ xs.filter (fun x => !isIntD x), x = .none ∨ ∃ b, x = .bool b := fun x hx => by
          obtain ⟨q1, q2⟩ := List.mem_filter.mp hx
          rcases h x q1 with z | z | ⟨i, rfl⟩
          · exact .inl z
          · exact .inr z
          · cases q2
        rw [run_eqNil (tidyAll_iff.mpr fun x hx => by rcases hb x hx with rfl | ⟨b, rfl⟩ <;> simp) (Nat.le_trans (depthAll_le (k := 0) fun x hx => by rcases hb x hx with rfl | ⟨b, rfl⟩ <;> simp) (by omega))]
        congr 3
        cases hq : xs.all isIntD with
        | true =>
          have : xs.filter (fun x => !isIntD x) = [] := List.filter_eq_nil_iff.mpr fun x hx => by rw [List.all_eq_true.mp hq x hx]; simp
          rw [this]; rfl
        | false =>
          obtain ⟨x, q1, q2⟩ := List.all_eq_false.mp hq
          have : x ∈ xs.filter (fun x => !isIntD x) := List.mem_filter.mpr ⟨q1, by simpa using q2⟩
          cases hf : xs.filter (fun x => !isIntD x) with
          | nil => rw [hf] at this; cases this
          | cons => rfl
      have f0 : fit ([] : List D).length = true := rfl
      have lk : ∀ {ρ'' : DL.Env} {k : Nat} {v : Option D}, ρ''.length = 23 → (ρ''.set k v).length = 23 := fun q => by rw [List.length_set]; exact q
      have hb : ∀ ρ'' : DL.Env, ρ''.length = 23 → ρ''[17]? = some (some (.tuple xs)) → ρ''[18]? = some (some (.bool true)) → W18b ρ'' S = some (.nx (ρ''.set 18 (some (.bool (xs.all isIntD)))), S) := fun ρ'' q0 q1 q => by
        unfold W18b
        simp only [run_asg, run_eAnd, run_imm, run_var, q, q1, Option.bind_some, Option.map_some, imm_bool, ↓reduceIte, boolOf_bool, run_2, run_comp, run_wSeq, seqOf_tup, kill_cons, kill_nil, c1 _ (lk q0), f1, run_lst, run_lnil, f0, n1, run_gName]
      rw [run_seq, hb _ (lk hl) (by rw [set_there z2]; exact h17) (set_here (by omega)), Option.bind_some, seqO_nx]
      have l2 : (((ρ.set 18 (some (.bool true))).set 18 (some (.bool (xs.all isIntD)))) : DL.Env).length = 23 := lk (lk hl)
      cases hall : xs.all isIntD with
      | false =>
        have hf : okW n (.tuple xs) = false := by rw [okW_tup, hall]; simp
        have hc : ∀ ρ'' : DL.Env, ρ''[18]? = some (some (.bool false)) → W18c ρ'' S = some (.nx (ρ''.set 18 (some (.bool false))), S) := fun ρ'' q => by
          unfold W18c
          simp only [run_asg, run_eAnd, run_imm, run_var, q, Option.bind_some, Option.map_some, imm_bool, ↓reduceIte, boolOf_bool, Bool.false_eq_true, run_gName]
        rw [hall] at l2
        rw [run_seq, hc _ (set_here (by simp [hl])), Option.bind_some, seqO_nx, fin false (lk l2) (by simp only [set_there z1]; exact h4) (by simp only [set_there z2]; exact h17) (set_here (by omega)) hf.symm, hf]
        simp [List.set_set]
      | true =>
        have r1 : rng62 (1 : Int) = true := by decide
        have r2 := rng62_nat (n := n) (by omega)
        have c2 : ∀ ρ'' : DL.Env, ρ''.length = 23 → ρ''[17]? = some (some (.tuple xs)) → compD (gName 22) (tB (e2 (cmD .lt) (e2 idxD (eVar 17) (e2 subD (eVar 22) (eC (.int 1)))) (e2 idxD (eVar 17) (eVar 22)))) (eImm (eVar 22)) ρ'' ((List.range' 1 (n - 1)).map fun i => nI i) S = some (((List.range' 1 (n - 1)).filter fun k => decide (intAt xs (k - 1) < intAt xs k)).map (fun i => nI i), S) := fun ρ'' q q1 =>
          compD_pure (fun i : Nat => nI i) (fun i : Nat => nI i) _ _ fun k hk => by
            have hk' : 1 ≤ k ∧ k < n := by
              rw [List.mem_range'] at hk
              obtain ⟨i, h1, rfl⟩ := hk
              omega
            have hg : (ρ''.set 22 (some (nI k)))[22]? = some (some (nI k)) := set_here (by omega)
            have hg2 : (ρ''.set 22 (some (nI k)))[17]? = some (some (.tuple xs)) := by rw [set_there (by decide)]; exact q1
            refine ⟨ρ''.set 22 (some (nI k)), rfl, ?_, fun _ => ?_⟩
            · have ee3 : ((k : Int) - 1) = ((k - 1 : Nat) : Int) := by omega
              simp only [run_tB, run_2, run_var, hg, hg2, Option.bind_some, Option.map_some, run_c, run_sub, ee3, int_get hall (show k - 1 < xs.length by omega), int_get hall (show k < xs.length by omega), run_cm, cm_lt, boolOf_bool]
            · simp only [run_imm, run_var, hg, Option.bind_some, Option.map_some, imm_int, ↓reduceIte]
        have hle : ((List.range' 1 (n - 1)).filter fun k => decide (intAt xs (k - 1) < intAt xs k)).length ≤ n := by
          have := List.length_filter_le (fun k => decide (intAt xs (k - 1) < intAt xs k)) (List.range' 1 (n - 1))
          rw [List.length_range'] at this
          omega
        have f2 : fit (((List.range' 1 (n - 1)).filter fun k => decide (intAt xs (k - 1) < intAt xs k)).map fun i => nI i).length = true := fit_of (by rw [List.length_map]; omega)
        have n2 : eqD false (.list (((List.range' 1 (n - 1)).filter fun k => decide (intAt xs (k - 1) < intAt xs k)).map fun i => nI i)) (.list []) S = some (.bool (okW n (.tuple xs)), S) := by
          rw [run_eqNil (tidyAll_iff.mpr fun x hx => by
            obtain ⟨k, hk, rfl⟩ := List.mem_map.mp hx
            have := (List.mem_filter.mp hk).1
            rw [List.mem_range'] at this
            obtain ⟨i, h1, rfl⟩ := this
            rw [tidy_int]
            exact decide_eq_true (by omega)) (Nat.le_trans (depthAll_le (k := 0) fun x hx => by obtain ⟨k, hk, rfl⟩ := List.mem_map.mp hx; simp) (by omega))]
          congr 3
          rw [okW_tup]
          rw [ee1, hall, Bool.true_and, Bool.true_and]
          generalize List.range' 1 (n - 1) = l
          induction l with
          | nil => rfl
          | cons k r ih =>
            rw [List.all_cons]
            by_cases z : intAt xs (k - 1) < intAt xs k
            · rw [List.filter_cons_of_pos (by simpa using z), decide_eq_false (by omega)]; rfl
            · rw [List.filter_cons_of_neg (by simpa using z), decide_eq_true (by omega), Bool.true_and]; exact ih
        have hc : ∀ ρ'' : DL.Env, ρ''.length = 23 → ρ''[4]? = some (some (nI n)) → ρ''[17]? = some (some (.tuple xs)) → ρ''[18]? = some (some (.bool true)) → W18c ρ'' S = some (.nx (ρ''.set 18 (some (.bool (okW n (.tuple xs))))), S) := fun ρ'' q0 q4 q1 q => by
          unfold W18c
          have q1' : (ρ''.set 22 none)[17]? = some (some (.tuple xs)) := by rw [set_there (by decide)]; exact q1
          simp only [run_asg, run_eAnd, run_imm, run_var, q, q4, Option.bind_some, Option.map_some, imm_bool, ↓reduceIte, boolOf_bool, run_2, run_comp, run_wRange2, run_c, intOf_int, r1, r2, Bool.and_self, range_1n, kill_cons, kill_nil, c2 _ (lk q0) q1', f2, run_lst, run_lnil, f0, n2, run_gName]
        rw [hall] at l2
        rw [run_seq, hc _ l2 (by simp only [set_there z1]; exact h4) (by simp only [set_there z2]; exact h17) (set_here (by simp [hl])), Option.bind_some, seqO_nx, fin (okW n (.tuple xs)) (lk l2) (by simp only [set_there z1]; exact h4) (by simp only [set_there z2]; exact h17) (set_here (by omega)) rfl]
        simp [List.set_set]
    · have ee1 : (xs.length == n) = false := by simpa using e
      have hf : okW n (.tuple xs) = false := by rw [okW_tup, ee1]; rfl
      rw [ee1, skip l1 (by rw [set_there z1]; exact h4) (by rw [set_there z2]; exact h17) (set_here (by omega)) hf, hf]
      simp [List.set_set]
end K75

/-! P75d: the law's steps. -/
namespace K75
open PySem DL
theorem picks : Picks d_law_pick := picksA
variable {n : Nat} {vs : Vs} {w : List Int} {S : Src} {ρ : DL.Env}
theorem at_eq {w : List Int} {k : Nat} (h : k < w.length) : at' w k = w[k] := by simp [at', h]
/-- the law's weights -/
structure Wt (n : Nat) (w : List Int) : Prop where
  len : w.length = n
  small : ∀ x ∈ w, x.natAbs < 1000
  falls : Falls w
def W1 : SF := (sAsg (eCallM d_law_votes (lCons (e2 idxD (eLst (lCons (eC (.int 1)) (lCons (eC (.int 3)) (lCons (eC (.int 4)) (lCons (eC (.int 5)) (lCons (eC (.int 6)) (lCons (eC (.int 8)) (lNil)))))))) (eVar 2)) (lCons (e2 idxD (eLst (lCons (eC (.int 2)) (lCons (eC (.int 4)) (lCons (eC (.int 8)) (lCons (eC (.int 12)) (lCons (eC (.int 20)) (lCons (eC (.int 30)) (lNil)))))))) (eVar 2)) (lNil)))) (gName 3))
theorem W1_run {k : Nat} (hk : k < 6) (h2 : ρ[2]? = some (some (nI k))) : ∃ n vs S', 1 ≤ n ∧ n ≤ 8 ∧ Vt n vs ∧ vs.length ≤ 30 ∧ (∀ p ∈ vs, p.2 ≤ 20) ∧ W1 ρ S = some (.nx (ρ.set 3 (some (encVs vs))), S') := by
  obtain ⟨a, ha1, ha2, ha⟩ : ∃ a : Nat, 1 ≤ a ∧ a ≤ 8 ∧ ∀ S : Src, idxD (.list [.int 1, .int 3, .int 4, .int 5, .int 6, .int 8]) (nI k) S = some (nI a, S) := by
    rcases (by omega : k = 0 ∨ k = 1 ∨ k = 2 ∨ k = 3 ∨ k = 4 ∨ k = 5) with rfl | rfl | rfl | rfl | rfl | rfl
    · exact ⟨1, by omega, by omega, fun S => run_idxL (k := 0) rfl⟩
    · exact ⟨3, by omega, by omega, fun S => run_idxL (k := 1) rfl⟩
    · exact ⟨4, by omega, by omega, fun S => run_idxL (k := 2) rfl⟩
    · exact ⟨5, by omega, by omega, fun S => run_idxL (k := 3) rfl⟩
    · exact ⟨6, by omega, by omega, fun S => run_idxL (k := 4) rfl⟩
    · exact ⟨8, by omega, by omega, fun S => run_idxL (k := 5) rfl⟩
  obtain ⟨b, hb1, hb2, hb⟩ : ∃ a : Nat, 1 ≤ a ∧ a ≤ 30 ∧ ∀ S : Src, idxD (.list [.int 2, .int 4, .int 8, .int 12, .int 20, .int 30]) (nI k) S = some (nI a, S) := by
    rcases (by omega : k = 0 ∨ k = 1 ∨ k = 2 ∨ k = 3 ∨ k = 4 ∨ k = 5) with rfl | rfl | rfl | rfl | rfl | rfl
    · exact ⟨2, by omega, by omega, fun S => run_idxL (k := 0) rfl⟩
    · exact ⟨4, by omega, by omega, fun S => run_idxL (k := 1) rfl⟩
    · exact ⟨8, by omega, by omega, fun S => run_idxL (k := 2) rfl⟩
    · exact ⟨12, by omega, by omega, fun S => run_idxL (k := 3) rfl⟩
    · exact ⟨20, by omega, by omega, fun S => run_idxL (k := 4) rfl⟩
    · exact ⟨30, by omega, by omega, fun S => run_idxL (k := 5) rfl⟩
  obtain ⟨n, vs, S', g1, g2, g3, g4, g5, g6⟩ := run_votes (m := d_law_pick) (S := S) picks ha1 (by omega) hb1 (by omega)
  refine ⟨n, vs, S', g1, by omega, g3, by omega, g5, ?_⟩
  have g6' : d_law_votes [nI a, nI b] S = some (encVs vs, S') := g6
  have f0 : fit (0 + 1 + 1 + 1 + 1 + 1 + 1) = true := rfl
  unfold W1
  simp only [run_asg, run_callM, run_lcons, run_lnil, run_2, run_lst, run_c, Option.bind_some, List.length_cons, List.length_nil, f0, ↓reduceIte, run_var, h2, Option.map_some, ha, hb, g6', run_gName]
theorem facts_encVs (h : Vt n vs) (hn : n ≤ 8) (hl : vs.length ≤ 30) (hm : ∀ p ∈ vs, p.2 ≤ 20) : tidy (encVs vs) = true ∧ siz (encVs vs) ≤ 1000 ∧ PyData.depth (encVs vs) ≤ 3 := by
  have one : ∀ x ∈ vs.map encV, tidy x = true ∧ siz x ≤ 11 ∧ PyData.depth x ≤ 2 := fun x hx => by
    obtain ⟨p, hp, rfl⟩ := List.mem_map.mp hx
    have hp1 := h.perm p hp
    obtain ⟨f1, f2, f3⟩ := nT_facts (l := p.1) (fun a ha => by have := List.mem_range.mp (hp1.mem_iff.mp ha); omega)
    have := hp1.length_eq
    rw [List.length_range] at this
    have := hm p hp
    refine ⟨?_, ?_, ?_⟩
    · simp only [encV, tidy_tuple, tidyAll_cons, f1, tidy_int, tidyAll_nil, Bool.true_and, Bool.and_true]
      exact decide_eq_true (by omega)
    · simp only [encV, siz_tuple, sizAll_cons, f2, siz_int, sizAll_nil]
      omega
    · simp only [encV, depth_tuple, depthAll_cons, depth_int, depthAll_nil]
      omega
  unfold encVs
  refine ⟨?_, ?_, ?_⟩
  · rw [tidy_tuple]; exact tidyAll_iff.mpr fun x hx => (one x hx).1
  · rw [siz_tuple]
    have := sizAll_le fun x hx => (one x hx).2.1
    rw [List.length_map] at this
    have : vs.length * 11 ≤ 30 * 11 := Nat.mul_le_mul_right _ hl
    omega
  · rw [depth_tuple]
    have := depthAll_le fun x hx => (one x hx).2.2
    omega
def W2 : SF := (sPar [4, 5] (lCons (e1 lenD (e2 idxD (e2 idxD (eVar 3) (eC (.int 0))) (eC (.int 0)))) (lCons (e1 reprD (eVar 3)) (lNil))))
theorem W2_run (h : Vt n vs) (hn : n ≤ 8) (hl : vs.length ≤ 30) (hm : ∀ p ∈ vs, p.2 ≤ 20) (h3 : ρ[3]? = some (some (encVs vs))) : W2 ρ S = some (.nx ((ρ.set 4 (some (nI n))).set 5 (some (.str (encVs vs).shown))), S) := by
  obtain ⟨f1, f2, f3⟩ := facts_encVs h hn hl hm
  have r := run_reprT (S := S) f1 (by omega) (by omega)
  obtain ⟨p, r', rfl, hp⟩ := h.first
  have g : idxD (encVs (p :: r')) (.int 0) S = some (encV p, S) := run_idxT0
  have g2 : idxD (encV p) (.int 0) S = some (nT p.1, S) := run_idxT0
  unfold W2
  simp only [run_par, run_lcons, run_lnil, run_1, run_2, run_c, run_var, h3, Option.bind_some, Option.map_some, g, g2, run_len_nT, hp, r, List.length_cons, List.length_nil, beq_self_eq_true, ↓reduceIte, setAll_cons, setAll_nil]
def W3 : SF := (sAsg (e1 (tupleD true) (e1 (revD true) (e1 sortedD (eComp [19] (wRange1 (eVar 4)) (gName 19) (tYes) (e2 subD (eCallM d_law_pick (lCons (e2 idxD (eLst (lCons (eC (.int 2)) (lCons (eC (.int 5)) (lCons (eC (.int 40)) (lNil))))) (eCallM d_law_pick (lCons (eC (.int 3)) (lNil)))) (lNil))) (eC (.int 1))))))) (gName 6))
theorem W3_run (hn : n ≤ 8) (h4 : ρ[4]? = some (some (nI n))) : ∃ w S', Wt n w ∧ W3 ρ S = some (.nx (ρ.set 6 (some (wT w))), S') := by
  obtain ⟨ys, S', g1, g2, g3⟩ := compD_some (g := gName 19) (t := tYes) (e := (e2 subD (eCallM d_law_pick (lCons (e2 idxD (eLst (lCons (eC (.int 2)) (lCons (eC (.int 5)) (lCons (eC (.int 40)) (lNil))))) (eCallM d_law_pick (lCons (eC (.int 3)) (lNil)))) (lNil))) (eC (.int 1)))) (ρ := kill [19] ρ) (fun a : Nat => nI a) (fun y => ∃ i : Int, y = .int i ∧ i.natAbs < 1000) (List.range n) S (fun x _ S => by
    obtain ⟨j, hj, S2, q2⟩ := picks 3 S (by omega) (by omega)
    have q2' : d_law_pick [.int 3] S = some (.int j, S2) := q2
    obtain ⟨m, hm1, hm2, hmm⟩ : ∃ mm : Nat, 1 ≤ mm ∧ mm ≤ 40 ∧ ∀ S : Src, idxD (.list [.int 2, .int 5, .int 40]) (.int j) S = some (nI mm, S) := by
      rcases (by omega : j = 0 ∨ j = 1 ∨ j = 2) with rfl | rfl | rfl
      · exact ⟨2, by omega, by omega, fun S => run_idxL (k := 0) rfl⟩
      · exact ⟨5, by omega, by omega, fun S => run_idxL (k := 1) rfl⟩
      · exact ⟨40, by omega, by omega, fun S => run_idxL (k := 2) rfl⟩
    obtain ⟨i, hi, S3, q3⟩ := picks m S2 hm1 (by omega)
    have f0 : fit (0 + 1 + 1 + 1) = true := rfl
    refine ⟨_, S, .int ((i : Int) - 1), S3, rfl, rfl, ?_, _, rfl, by omega⟩
    simp only [run_2, run_callM, run_lcons, run_lnil, run_lst, run_c, Option.bind_some, List.length_cons, List.length_nil, f0, ↓reduceIte, q2', hmm, q3, run_sub])
  obtain ⟨is, rfl, hs⟩ := list_ints g3
  obtain ⟨js, j1, j2, j3⟩ := sorted_ints is
  have hlen : is.length = n := by simpa using g2
  refine ⟨js.reverse, S', ⟨by rw [List.length_reverse, j1.length_eq, hlen], fun x hx => hs x (j1.mem_iff.mp (List.mem_reverse.mp hx)), ?_⟩, ?_⟩
  · have p : js.reverse.Pairwise fun a b => b ≤ a := List.pairwise_reverse.mpr j2
    intro j k hjk hk
    rcases Nat.lt_or_ge j k with z | z
    · have := List.pairwise_iff_getElem.mp p j k (by omega) hk z
      rw [at_eq hk, at_eq (show j < js.reverse.length by omega)]
      exact this
    · have : j = k := by omega
      subst this
      exact Int.le_refl _
  · have f1 : fit (is.map PyData.int).length = true := fit_of (by rw [List.length_map]; omega)
    have r1 := rng62_nat (n := n) (by omega)
    have i1 : immAll (js.map PyData.int) = true := immAll_map fun _ _ => imm_int
    have i2 : immAll (js.map PyData.int).reverse = true := by rw [← List.map_reverse]; exact immAll_map fun _ _ => imm_int
    unfold W3
    simp only [run_asg, run_1, run_comp, run_wRange1, run_var, h4, Option.bind_some, Option.map_some, intOf_int, r1, ↓reduceIte, rng_nat, g1, f1, j3, run_revL, i1, Bool.not_true, Bool.false_or, run_tuple, seqOf_list, i2, Bool.or_true, run_gName]
    rw [wT, List.map_reverse]
def W4 : SF := (sAsg (e2 mulD (eLst (lCons (eC (.int 0)) (lNil))) (eVar 4)) (gName 7))
theorem W4_run (hn : n ≤ 8) (h4 : ρ[4]? = some (some (nI n))) : W4 ρ S = some (.nx (ρ.set 7 (some (.list (row n fun _ => 0)))), S) := by
  have f0 : fit (0 + 1) = true := rfl
  unfold W4
  simp only [run_asg, run_2, run_lst, run_lcons, run_lnil, run_c, Option.bind_some, List.length_cons, List.length_nil, f0, ↓reduceIte, run_var, h4, Option.map_some, run_zeros (show n ≤ 1000000 by omega), run_gName]
def W5i : SF := (sSetIx 7 (eVar 10) (e2 (addD true) (e2 idxD (eVar 7) (eVar 10)) (e2 mulD (eVar 9) (e2 idxD (eVar 6) (e2 indexD (eVar 8) (eVar 10))))))
theorem W5i_run {o : List Nat} {m : Nat} (hw : Wt n w) (hn : n ≤ 8) (ho : o.Perm (List.range n)) (hl : ρ.length = 23) (h6 : ρ[6]? = some (some (wT w))) (h8 : ρ[8]? = some (some (nT o))) (h9 : ρ[9]? = some (some (nI m))) {f : Nat → Int} (h7 : ρ[7]? = some (some (.list (row n f)))) : ∃ ρ', forD (turnD (gName 10) W5i) ((List.range n).map fun a => nI a) ρ S = some (.nx ρ', S) ∧ Keep [7, 10] ρ ρ' ∧ ρ'[7]? = some (some (.list (row n fun a => f a + (m : Int) * at' w (o.idxOf a)))) := by
  obtain ⟨ρ', S', g1, rfl, g2, g3⟩ := forD_inv (b := turnD (gName 10) W5i) (fun a : Nat => nI a)
    (fun pre ρ' S' => S = S' ∧ Keep [7, 10] ρ ρ' ∧ ρ'[7]? = some (some (.list (row n fun a => if a < pre.length then f a + (m : Int) * at' w (o.idxOf a) else f a)))) (List.range n)
    (fun pre a suf ρ1 S' e h => by
      obtain ⟨rfl, k1, k2⟩ := h
      obtain ⟨rfl, ha⟩ := range_split e
      have len1 : ρ1.length = 23 := k1.len.trans hl
      have ho' : a ∈ o := ho.mem_iff.mpr (List.mem_range.mpr ha)
      have hx : o.idxOf a < w.length := by
        rw [hw.len]
        have := List.idxOf_lt_length_of_mem ho'
        rwa [ho.length_eq, List.length_range] at this
      have a10 : (ρ1.set 10 (some (nI a)))[10]? = some (some (nI a)) := set_here (by omega)
      have a7 : (ρ1.set 10 (some (nI a)))[7]? = _ := (set_there (by decide)).trans k2
      have a6 : (ρ1.set 10 (some (nI a)))[6]? = some (some (wT w)) := (set_there (by decide)).trans (k1.get (by decide) h6)
      have a8 : (ρ1.set 10 (some (nI a)))[8]? = some (some (nT o)) := (set_there (by decide)).trans (k1.get (by decide) h8)
      have a9 : (ρ1.set 10 (some (nI a)))[9]? = some (some (nI m)) := (set_there (by decide)).trans (k1.get (by decide) h9)
      refine ⟨(ρ1.set 10 (some (nI a))).set 7 (some (.list ((row n fun b => if b < (List.range a).length then f b + (m : Int) * at' w (o.idxOf b) else f b).set a (.int (f a + (m : Int) * at' w (o.idxOf a)))))), S, .inl ?_, rfl, (k1.set (by decide)).set (by decide), ?_⟩
      · rw [run_turn, run_gName, Option.bind_some]
        unfold W5i
        rw [run_setIx (v := .int (f a + (m : Int) * at' w (o.idxOf a))) (S1 := S) (S2 := S) (i := a) (k := a) ?_ ?_ a7 (ixD_nat (by simpa using ha))]
        · simp only [run_2, run_var, a7, a10, a6, a8, a9, Option.bind_some, Option.map_some, run_idx_row ha, List.length_range, Nat.lt_irrefl, if_false, run_index_nT ho', at_get hx, run_mul (.inr (small_w hw.small hx)), run_add]
        · simp only [run_var, a10, Option.bind_some, Option.map_some]
      · rw [set_here (by simp [len1]), row_set]
        have q : (row n fun b => if b = a then f a + (m : Int) * at' w (o.idxOf a) else if b < (List.range a).length then f b + (m : Int) * at' w (o.idxOf b) else f b) = row n fun b => if b < (List.range a ++ [a]).length then f b + (m : Int) * at' w (o.idxOf b) else f b := row_congr fun b _ => by
          simp only [List.length_append, List.length_range, List.length_singleton]
          by_cases z : b = a
          · subst z; rw [if_pos rfl, if_pos (by omega)]
          · rw [if_neg z]
            by_cases z2 : b < a
            · rw [if_pos z2, if_pos (by omega)]
            · rw [if_neg z2, if_neg (by omega)]
        rw [q]) [] (List.range n) rfl ρ S ⟨rfl, Keep.refl, by simpa using h7⟩
  refine ⟨ρ', g1, g2, g3.trans ?_⟩
  have q : (row n fun a => if a < (List.range n).length then f a + (m : Int) * at' w (o.idxOf a) else f a) = row n fun a => f a + (m : Int) * at' w (o.idxOf a) := row_congr fun a ha => if_pos (by simpa using ha)
  rw [q]
def W5 : SF := (sFor (wSeq (eVar 3)) (gTup [gName 8, gName 9]) (sFor (wRange1 (eVar 4)) (gName 10) W5i))
theorem W5_run (h : Vt n vs) (hw : Wt n w) (hn : n ≤ 8) (hl : ρ.length = 23) (h3 : ρ[3]? = some (some (encVs vs))) (h4 : ρ[4]? = some (some (nI n))) (h6 : ρ[6]? = some (some (wT w))) (h7 : ρ[7]? = some (some (.list (row n fun _ => 0)))) : ∃ ρ', W5 ρ S = some (.nx ρ', S) ∧ Keep [7, 8, 9, 10] ρ ρ' ∧ ρ'[7]? = some (some (.list (row n (cnt w vs)))) := by
  obtain ⟨ρ', S', g1, rfl, g2, g3⟩ := forD_inv (b := turnD (gTup [gName 8, gName 9]) (sFor (wRange1 (eVar 4)) (gName 10) W5i)) encV
    (fun pre ρ' S' => S = S' ∧ Keep [7, 8, 9, 10] ρ ρ' ∧ ρ'[7]? = some (some (.list (row n (cnt w pre))))) vs
    (fun pre p suf ρ1 S' e h' => by
      obtain ⟨rfl, k1, k2⟩ := h'
      obtain ⟨o, m⟩ := p
      have len1 : ρ1.length = 23 := k1.len.trans hl
      have len2 : ((ρ1.set 8 (some (nT o))).set 9 (some (nI m))).length = 23 := by simp [len1]
      obtain ⟨ρ2, q1, q2, q3⟩ := W5i_run (S := S) (m := m) (o := o) (ρ := (ρ1.set 8 (some (nT o))).set 9 (some (nI m))) hw hn (h.perm (o, m) (by rw [e]; simp)) len2
        (by rw [set_there (by decide), set_there (by decide)]; exact k1.get (by decide) h6) (by rw [set_there (by decide), set_here (by omega)]) (set_here (by simp [len1])) (f := cnt w pre) (by rw [set_there (by decide), set_there (by decide)]; exact k2)
      have r1 := rng62_nat (n := n) (by omega)
      have a4 : ((ρ1.set 8 (some (nT o))).set 9 (some (nI m)))[4]? = some (some (nI n)) := by rw [set_there (by decide), set_there (by decide)]; exact k1.get (by decide) h4
      refine ⟨ρ2, S, .inl ?_, rfl, ((k1.set (by decide)).set (by decide)).trans (q2.mono (by decide)), ?_⟩
      · rw [run_turn]
        simp only [encV, run_gTup, run_gAll, run_gName, Option.bind_some, run_gAll0, run_for, run_wRange1, run_var, a4, Option.map_some, intOf_int, r1, ↓reduceIte, rng_nat, q1]
      · rw [q3]
        have ee : (row n fun a => cnt w pre a + (m : Int) * at' w (o.idxOf a)) = row n (cnt w (pre ++ [(o, m)])) := row_congr fun a _ => by
          rw [cnt_append, cnt_cons]
          simp [cnt]
        rw [ee]) [] vs rfl ρ S ⟨rfl, Keep.refl, h7⟩
  refine ⟨ρ', ?_, g2, g3⟩
  unfold W5
  simp only [run_for, run_wSeq, run_var, h3, Option.bind_some, Option.map_some]
  rw [show seqOf (encVs vs) = some (vs.map encV) from rfl]
  simp only [Option.bind_some, Option.map_some]
  exact g1
def W6 : SF := (sAsg (eImm (e2 idxD (e1 (bestD minF) (eComp [10, 20] (wEnum (eVar 7)) (gTup [gName 10, gName 20]) (tYes) (eTup (lCons (e2 subD (eC (.int 0)) (eVar 20)) (lCons (eImm (eVar 10)) (lNil)))))) (eC (.int 1)))) (gName 11))
theorem enum_row (n : Nat) (c : Nat → Int) : enumD 0 (row n c) = (List.range n).map fun a => PyData.tuple [nI a, .int (c a)] := by
  refine (show enumD 0 (row n c) = _ from enum_map (fun a => PyData.int (c a)) (List.range n) 0).trans ?_
  refine List.ext_getElem? fun i => ?_
  rw [List.getElem?_map, List.getElem?_map, List.getElem?_zipIdx]
  by_cases h : i < n
  · simp [h]
  · simp [h]
theorem W6_run {c : Nat → Int} (h1 : 1 ≤ n) (hn : n ≤ 8) (hl : ρ.length = 23) (h7 : ρ[7]? = some (some (.list (row n c)))) : ∃ t, First n c t ∧ W6 ρ S = some (.nx (ρ.set 11 (some (nI t))), S) := by
  obtain ⟨t, t1, t2⟩ := first_min (c := c) h1
  refine ⟨t, t1, ?_⟩
  have c1 : compD (gTup [gName 10, gName 20]) tYes (eTup (lCons (e2 subD (eC (.int 0)) (eVar 20)) (lCons (eImm (eVar 10)) (lNil)))) (kill [10, 20] ρ) ((List.range n).map fun a => PyData.tuple [nI a, .int (c a)]) S = some ((List.range n).map (negP c), S) :=
    compD_all _ _ _ fun a _ => by
      have hk : (kill [10, 20] ρ).length = 23 := by simp [hl]
      refine ⟨((kill [10, 20] ρ).set 10 (some (nI a))).set 20 (some (.int (c a))), by simp only [run_gTup, run_gAll, run_gName, Option.bind_some, run_gAll0], rfl, ?_⟩
      have f0 : fit (0 + 1 + 1) = true := rfl
      have a20 : (((kill [10, 20] ρ).set 10 (some (nI a))).set 20 (some (.int (c a))))[20]? = some (some (.int (c a))) := set_here (by rw [List.length_set, hk]; decide)
      have a10 : (((kill [10, 20] ρ).set 10 (some (nI a))).set 20 (some (.int (c a))))[10]? = some (some (nI a)) := by rw [set_there (by decide), set_here (by rw [hk]; decide)]
      simp only [run_tup, run_lcons, run_lnil, run_2, run_c, run_var, a20, a10, Option.bind_some, Option.map_some, run_sub, run_imm, imm_int, ↓reduceIte, List.length_cons, List.length_nil, f0]
      rfl
  have f1 : fit ((List.range n).map (negP c)).length = true := fit_of (by simp; omega)
  have f2 : idxD (negP c t) (.int 1) S = some (nI t, S) := run_idxT1
  unfold W6
  simp only [run_asg, run_imm, run_2, run_1, run_comp, run_wEnum, run_var, h7, Option.bind_some, Option.map_some, seqOf_list, enum_row, c1, f1, ↓reduceIte, t2, run_c, f2, imm_int, run_gName]
def W7 : SF := (sIf (tB (e2 (eqD true) (e1 reprD (eLst (lCons (eCall d_place_counts (lCons (eVar 3) (lCons (eVar 6) (lNil)))) (lCons (eCall d_place_choice (lCons (eVar 3) (lCons (eVar 6) (lNil)))) (lNil))))) (e1 reprD (eLst (lCons (e1 (tupleD true) (eVar 7)) (lCons (eImm (eVar 11)) (lNil))))))) (sRet (eC (.bool false))) (sNext))
theorem cnt_small (hw : Wt n w) : ∀ {vs : Vs}, (∀ p ∈ vs, p.2 ≤ 20) → ∀ a, (cnt w vs a).natAbs ≤ vs.length * 20000
  | [], _, a => by simp [cnt]
  | p :: r, h, a => by
    have ih := cnt_small hw (vs := r) (fun q hq => h q (by simp [hq])) a
    have hp := h p (by simp)
    have hs : (at' w (p.1.idxOf a)).natAbs ≤ 1000 := by
      by_cases z : p.1.idxOf a < w.length
      · have := hw.small _ (List.getElem_mem z)
        rw [at_eq z]
        omega
      · simp [at', z]
    have hm : ((p.2 : Int) * at' w (p.1.idxOf a)).natAbs ≤ 20 * 1000 := by
      rw [Int.natAbs_mul]
      exact Nat.mul_le_mul (by omega) hs
    rw [cnt_cons, List.length_cons, Nat.add_mul]
    omega
theorem W7_run {t : Nat} (h : Vt n vs) (hw : Wt n w) (h1 : 1 ≤ n) (hn : n ≤ 8) (hl : vs.length ≤ 30) (hm : ∀ p ∈ vs, p.2 ≤ 20) (ht : First n (cnt w vs) t) (h3 : ρ[3]? = some (some (encVs vs))) (h6 : ρ[6]? = some (some (wT w))) (h7 : ρ[7]? = some (some (.list (row n (cnt w vs))))) (h11 : ρ[11]? = some (some (nI t))) : W7 ρ S = some (.nx ρ, S) := by
  obtain ⟨t', t1, t2⟩ := run_choice h h1 (by omega) hw.len hw.small
  have := ht.uniq t1
  subst this
  have f0 : fit (0 + 1 + 1) = true := rfl
  have bound : ∀ a, (cnt w vs a).natAbs < 1000000000000 := fun a => by
    have := cnt_small hw hm a
    have : vs.length * 20000 ≤ 30 * 20000 := Nat.mul_le_mul_right _ hl
    omega
  have one : ∀ x ∈ row n (cnt w vs), tidy x = true ∧ siz x ≤ 1 ∧ PyData.depth x ≤ 0 := fun x hx => by
    obtain ⟨a, _, rfl⟩ := List.mem_map.mp hx
    exact ⟨by rw [tidy_int]; exact decide_eq_true (bound a), by simp, by simp⟩
  have z1 := sizAll_le fun x hx => (one x hx).2.1
  have z2 := depthAll_le fun x hx => (one x hx).2.2
  rw [row_len] at z1
  have htl := ht.lt
  have key := run_neRepr (S := S) (ρ := ρ) (f := eLst (lCons (eCall d_place_counts (lCons (eVar 3) (lCons (eVar 6) (lNil)))) (lCons (eCall d_place_choice (lCons (eVar 3) (lCons (eVar 6) (lNil)))) (lNil)))) (g := eLst (lCons (e1 (tupleD true) (eVar 7)) (lCons (eImm (eVar 11)) (lNil)))) (d := .list [.tuple (row n (cnt w vs)), nI t])
    (by simp only [run_lst, run_lcons, run_lnil, run_call, run_var, h3, h6, Option.bind_some, Option.map_some, run_counts h (show n ≤ 100 by omega) hw.len hw.small, t2, List.length_cons, List.length_nil, f0, ↓reduceIte])
    (by simp only [run_lst, run_lcons, run_lnil, run_1, run_var, h7, h11, Option.bind_some, Option.map_some, run_tuple, seqOf_list, imm_row, Bool.not_true, Bool.or_true, ↓reduceIte, run_imm, imm_int, List.length_cons, List.length_nil, f0])
    (by
      simp only [tidy_list, tidyAll_cons, tidy_tuple, tidyAll_nil, Bool.and_true, tidy_int]
      rw [tidyAll_iff.mpr fun x hx => (one x hx).1, Bool.true_and]
      exact decide_eq_true (by omega))
    (by simp only [siz_list, sizAll_cons, siz_tuple, sizAll_nil, siz_int]; omega) (by simp only [depth_list, depthAll_cons, depth_tuple, depthAll_nil, depth_int]; omega)
  unfold W7
  simp only [run_sIf, run_tB, key, Option.bind_some, boolOf_bool, Option.map_some, Bool.false_eq_true, ↓reduceIte, run_next]
end K75

/-! P75e: the law is true. -/
namespace K75
open PySem DL
variable {n : Nat} {vs : Vs} {w : List Int} {S : Src} {ρ : DL.Env}
def drawO : EF := (e1 (tupleD true) (eCallM d_law_any_order (lCons (eListOf (wRange1 (eVar 4))) (lNil))))
theorem draw_order (hn : n ≤ 8) (h4 : ρ[4]? = some (some (nI n))) : ∃ (o : List Nat) (S' : Src), o.Perm (List.range n) ∧ drawO ρ S = some (nT o, S') := by
  obtain ⟨ys, S1, e, p⟩ := any_order (x := .list ((List.range n).map fun a => nI a)) (S := S) picks rfl (immAll_nI _) (by simp; omega)
  obtain ⟨o, h1, rfl⟩ := perm_map_inv p
  have e' : d_law_any_order [.list ((List.range n).map fun a => nI a)] S = some (.list (o.map fun a => nI a), S1) := e
  refine ⟨o, S1, h1, ?_⟩
  have r1 := rng62_nat (n := n) (by omega)
  have f1 : fit ((List.range n).map fun a => nI a).length = true := fit_of (by simp; omega)
  unfold drawO
  simp only [run_1, run_callM, run_lcons, run_lnil, run_listOf, run_wRange1, run_var, h4, Option.bind_some, Option.map_some, intOf_int, r1, ↓reduceIte, rng_nat, f1, e', run_tuple, seqOf_list, immAll_nI, Bool.or_true]
  rfl
theorem more_Vt {o : List Nat} {m : Nat} {ws : Vs} (h : Vt n vs) (ho : o.Perm (List.range n)) (hl : vs.length < 100000) (p : ws.Perm (more vs o m)) : Vt n ws ∧ ws.length ≤ vs.length + 1 := by
  have hlen := more_len (vs := vs) (o := o) (m := m)
  rw [← p.length_eq] at hlen
  refine ⟨⟨fun q hq => more_all (P := fun o => o.Perm (List.range n)) h.perm ho q (p.mem_iff.mp hq), fun z => ?_, by omega⟩, hlen⟩
  subst z
  exact more_ne p.nil_eq.symm
theorem cnt_of_more {o : List Nat} {m : Nat} {ws : Vs} (p : ws.Perm (more vs o m)) (a : Nat) : cnt w ws a = cnt w vs a + (m : Int) * at' w (o.idxOf a) := by
  rw [cnt_perm p, cnt_more]
theorem run_lmore {o : List Nat} {m : Nat} (hl : vs.length ≤ 100000) : ∃ ws : Vs, ws.Perm (more vs o m) ∧ ∀ S : Src, d_law_more [encVs vs, nT o, nI m] S = some (encVs ws, S) := run_more hl
def W8b : SF := (sSeq (sPar [8, 9] (lCons drawO (lCons (e2 (addD true) (eC (.int 1)) (eCallM d_law_pick (lCons (eC (.int 20)) (lNil)))) (lNil)))) (sSeq (sAsg (eCall d_place_choice (lCons (eCall d_law_more (lCons (eVar 3) (lCons (eVar 8) (lCons (eVar 9) (lNil))))) (lCons (eVar 6) (lNil)))) (gName 13)) (sIf (tB (e2 (cmD .gt) (e2 indexD (eVar 8) (eVar 13)) (e2 indexD (eVar 8) (eVar 11)))) (sRet (eC (.bool false))) (sNext))))
theorem W8b_run {t : Nat} (h : Vt n vs) (hvl : vs.length ≤ 30) (hw : Wt n w) (h1 : 1 ≤ n) (hn : n ≤ 8) (ht : First n (cnt w vs) t) (hl : ρ.length = 23) (h3 : ρ[3]? = some (some (encVs vs))) (h4 : ρ[4]? = some (some (nI n))) (h6 : ρ[6]? = some (some (wT w))) (h11 : ρ[11]? = some (some (nI t))) : ∃ ρ' S', W8b ρ S = some (.nx ρ', S') ∧ Keep [8, 9, 13] ρ ρ' := by
  obtain ⟨o, S1, ho, r1⟩ := draw_order (S := S) hn h4
  obtain ⟨k, hk, S2, r2⟩ := picks 20 S1 (by omega) (by omega)
  have r2' : d_law_pick [.int 20] S1 = some (.int k, S2) := r2
  obtain ⟨ws, p1, p2⟩ := run_lmore (vs := vs) (o := o) (m := k + 1) (by omega)
  obtain ⟨hv, hvl2⟩ := more_Vt h ho (by omega) p1
  obtain ⟨s, s1, s2⟩ := run_choice hv h1 (by omega) hw.len hw.small
  have hle := no_punish hw.falls hw.len ho ht (s1.congr fun a _ => cnt_of_more p1 a)
  have es : o.idxOf s ≤ o.idxOf t := hle
  have ee : ((1 : Int) + (k : Int)) = ((k + 1 : Nat) : Int) := by omega
  refine ⟨((ρ.set 8 (some (nT o))).set 9 (some (nI (k + 1)))).set 13 (some (nI s)), S2, ?_, ((Keep.refl.set (by decide)).set (by decide)).set (by decide)⟩
  have b3 : ((ρ.set 8 (some (nT o))).set 9 (some (nI (k + 1))))[3]? = some (some (encVs vs)) := by rw [set_there (by decide), set_there (by decide)]; exact h3
  have b8 : ((ρ.set 8 (some (nT o))).set 9 (some (nI (k + 1))))[8]? = some (some (nT o)) := by rw [set_there (by decide), set_here (by omega)]
  have b9 : ((ρ.set 8 (some (nT o))).set 9 (some (nI (k + 1))))[9]? = some (some (nI (k + 1))) := set_here (by simp [hl])
  have b6 : ((ρ.set 8 (some (nT o))).set 9 (some (nI (k + 1))))[6]? = some (some (wT w)) := by rw [set_there (by decide), set_there (by decide)]; exact h6
  have c8 : (((ρ.set 8 (some (nT o))).set 9 (some (nI (k + 1)))).set 13 (some (nI s)))[8]? = some (some (nT o)) := (set_there (by decide)).trans b8
  have c13 : (((ρ.set 8 (some (nT o))).set 9 (some (nI (k + 1)))).set 13 (some (nI s)))[13]? = some (some (nI s)) := set_here (by simp [hl])
  have c11 : (((ρ.set 8 (some (nT o))).set 9 (some (nI (k + 1)))).set 13 (some (nI s)))[11]? = some (some (nI t)) := by rw [set_there (by decide), set_there (by decide), set_there (by decide)]; exact h11
  have m1 : s ∈ o := ho.mem_iff.mpr (List.mem_range.mpr s1.lt)
  have m2 : t ∈ o := ho.mem_iff.mpr (List.mem_range.mpr ht.lt)
  have g0 : decide (((o.idxOf t : Nat) : Int) < ((o.idxOf s : Nat) : Int)) = false := decide_eq_false (by omega)
  unfold W8b
  simp only [run_seq, run_par, run_lcons, run_lnil, r1, Option.bind_some, run_2, run_c, run_callM, r2', run_add, ee, List.length_cons, List.length_nil, beq_self_eq_true, ↓reduceIte, setAll_cons, setAll_nil, seqO_nx, run_asg, run_call, run_var, b3, b8, b9, b6, Option.map_some, p2, s2, run_gName, run_sIf, run_tB, c8, c13, c11, run_index_nT m1, run_index_nT m2, run_cm, cm_gt, g0, boolOf_bool, Bool.false_eq_true, run_next]
def W8 : SF := (sFor (wRange1 (eC (.int 6))) (gName 12) W8b)
theorem rng_c (k : Nat) (hk : k ≤ 1000) : rng62 (k : Int) = true := rng62_nat (by omega)
theorem W8_run {t : Nat} (h : Vt n vs) (hvl : vs.length ≤ 30) (hw : Wt n w) (h1 : 1 ≤ n) (hn : n ≤ 8) (ht : First n (cnt w vs) t) (hl : ρ.length = 23) (h3 : ρ[3]? = some (some (encVs vs))) (h4 : ρ[4]? = some (some (nI n))) (h6 : ρ[6]? = some (some (wT w))) (h11 : ρ[11]? = some (some (nI t))) : ∃ ρ' S', W8 ρ S = some (.nx ρ', S') ∧ Keep [8, 9, 12, 13] ρ ρ' := by
  obtain ⟨ρ', S', g1, g2⟩ := forD_inv (b := turnD (gName 12) W8b) (fun a : Nat => nI a) (fun pre ρ' S' => Keep [8, 9, 12, 13] ρ ρ') (List.range 6)
    (fun pre a suf ρ1 S' e k1 => by
      obtain ⟨ρ2, S2, q1, q2⟩ := W8b_run (S := S') (ρ := ρ1.set 12 (some (nI a))) h hvl hw h1 hn ht (by simp [k1.len, hl]) ((set_there (by decide)).trans (k1.get (by decide) h3)) ((set_there (by decide)).trans (k1.get (by decide) h4)) ((set_there (by decide)).trans (k1.get (by decide) h6)) ((set_there (by decide)).trans (k1.get (by decide) h11))
      exact ⟨ρ2, S2, .inl (by rw [run_turn, run_gName, Option.bind_some]; exact q1), (k1.set (by decide)).trans (q2.mono (by decide))⟩) [] (List.range 6) rfl ρ S Keep.refl
  refine ⟨ρ', S', ?_, g2⟩
  have r1 : rng62 6 = true := rng_c 6 (by omega)
  have r2 : rngD 0 6 = (List.range 6).map fun a => nI a := rng_nat 6
  unfold W8
  simp only [run_for, run_wRange1, run_c, Option.bind_some, intOf_int, r1, ↓reduceIte, r2]
  exact g1
def W10b : SF := (sAsg (eCall d_law_more (lCons (eVar 14) (lCons drawO (lCons (e2 (addD true) (eC (.int 1)) (eCallM d_law_pick (lCons (eC (.int 9)) (lNil)))) (lNil))))) (gName 14))
def W10 : SF := (sFor (wRange1 (eC (.int 3))) (gName 12) W10b)
theorem W10_run (h : Vt n vs) (hvl : vs.length ≤ 30) (hn : n ≤ 8) (hl : ρ.length = 23) (h4 : ρ[4]? = some (some (nI n))) (h14 : ρ[14]? = some (some (encVs vs))) : ∃ ρ' S' ws, W10 ρ S = some (.nx ρ', S') ∧ Keep [12, 14] ρ ρ' ∧ ρ'[14]? = some (some (encVs ws)) ∧ Vt n ws ∧ ws.length ≤ 33 := by
  obtain ⟨ρ', S', g1, g2, ws, g3, g4, g5⟩ := forD_inv (b := turnD (gName 12) W10b) (fun a : Nat => nI a) (fun pre ρ' S' => Keep [12, 14] ρ ρ' ∧ ∃ ws, ρ'[14]? = some (some (encVs ws)) ∧ Vt n ws ∧ ws.length ≤ 30 + pre.length) (List.range 3)
    (fun pre a suf ρ1 S' e hh => by
      obtain ⟨k1, ws, k2, k3, k4⟩ := hh
      have hp : pre.length ≤ 3 := by
        have := congrArg List.length e
        simp at this
        omega
      have b4 : (ρ1.set 12 (some (nI a)))[4]? = some (some (nI n)) := (set_there (by decide)).trans (k1.get (by decide) h4)
      have b14 : (ρ1.set 12 (some (nI a)))[14]? = some (some (encVs ws)) := (set_there (by decide)).trans k2
      obtain ⟨o, S1, ho, r1⟩ := draw_order (S := S') hn b4
      obtain ⟨k, hk, S2, r2⟩ := picks 9 S1 (by omega) (by omega)
      have r2' : d_law_pick [.int 9] S1 = some (.int k, S2) := r2
      obtain ⟨us, p1, p2⟩ := run_lmore (vs := ws) (o := o) (m := k + 1) (by omega)
      obtain ⟨hv, hvl2⟩ := more_Vt k3 ho (by omega) p1
      have ee : ((1 : Int) + (k : Int)) = ((k + 1 : Nat) : Int) := by omega
      refine ⟨(ρ1.set 12 (some (nI a))).set 14 (some (encVs us)), S2, .inl ?_, (k1.set (by decide)).set (by decide), us, set_here (by simp [k1.len, hl]), hv, by rw [List.length_append, List.length_singleton]; omega⟩
      rw [run_turn, run_gName, Option.bind_some]
      unfold W10b
      simp only [run_asg, run_call, run_lcons, run_lnil, run_var, b14, Option.bind_some, Option.map_some, r1, run_2, run_c, run_callM, r2', run_add, ee, p2, run_gName]) [] (List.range 3) rfl ρ S ⟨Keep.refl, vs, h14, h, by simpa using hvl⟩
  refine ⟨ρ', S', ws, ?_, g2, g3, g4, by simpa using g5⟩
  have r1 : rng62 3 = true := rng_c 3 (by omega)
  have r2 : rngD 0 3 = (List.range 3).map fun a => nI a := rng_nat 3
  unfold W10
  simp only [run_for, run_wRange1, run_c, Option.bind_some, intOf_int, r1, ↓reduceIte, r2]
  exact g1
def W12b : SF := (sAsg (eCall d_law_more (lCons (eVar 15) (lCons (eVar 8) (lCons (eVar 9) (lNil))))) (gName 15))
def W12 : SF := (sFor (wSeq (eVar 14)) (gTup [gName 8, gName 9]) W12b)
theorem W12_run {ws : Vs} (h : Vt n vs) (hvl : vs.length ≤ 30) (g : Vt n ws) (gvl : ws.length ≤ 33) (hl : ρ.length = 23) (h14 : ρ[14]? = some (some (encVs ws))) (h15 : ρ[15]? = some (some (encVs vs))) : ∃ ρ' us, W12 ρ S = some (.nx ρ', S) ∧ Keep [8, 9, 15] ρ ρ' ∧ ρ'[15]? = some (some (encVs us)) ∧ Vt n us ∧ ∀ w a, cnt w us a = cnt w vs a + cnt w ws a := by
  obtain ⟨ρ', S', g1, rfl, g2, us, g3, g4, g5, g6⟩ := forD_inv (b := turnD (gTup [gName 8, gName 9]) W12b) encV (fun pre ρ' S' => S = S' ∧ Keep [8, 9, 15] ρ ρ' ∧ ∃ us, ρ'[15]? = some (some (encVs us)) ∧ Vt n us ∧ us.length ≤ 30 + pre.length ∧ ∀ w a, cnt w us a = cnt w vs a + cnt w pre a) ws
    (fun pre p suf ρ1 S' e hh => by
      obtain ⟨rfl, k1, us, k2, k3, k4, k5⟩ := hh
      obtain ⟨o, m⟩ := p
      have hp : pre.length ≤ 33 := by
        have := congrArg List.length e
        simp at this
        omega
      have ho := g.perm (o, m) (by rw [e]; simp)
      have b15 : ((ρ1.set 8 (some (nT o))).set 9 (some (nI m)))[15]? = some (some (encVs us)) := by rw [set_there (by decide), set_there (by decide)]; exact k2
      have b8 : ((ρ1.set 8 (some (nT o))).set 9 (some (nI m)))[8]? = some (some (nT o)) := by rw [set_there (by decide), set_here (by rw [k1.len, hl]; decide)]
      have b9 : ((ρ1.set 8 (some (nT o))).set 9 (some (nI m)))[9]? = some (some (nI m)) := set_here (by simp [k1.len, hl])
      obtain ⟨xs, p1, p2⟩ := run_lmore (vs := us) (o := o) (m := m) (by omega)
      obtain ⟨hv, hvl2⟩ := more_Vt k3 ho (by omega) p1
      refine ⟨((ρ1.set 8 (some (nT o))).set 9 (some (nI m))).set 15 (some (encVs xs)), S, .inl ?_, rfl, ((k1.set (by decide)).set (by decide)).set (by decide), xs, set_here (by simp [k1.len, hl]), hv, by rw [List.length_append, List.length_singleton]; omega, fun w a => ?_⟩
      · rw [run_turn]
        unfold W12b
        simp only [encV, run_gTup, run_gAll, run_gName, Option.bind_some, run_gAll0, run_asg, run_call, run_lcons, run_lnil, run_var, b15, b8, b9, Option.map_some, p2]
      · rw [cnt_of_more p1, k5, cnt_append, cnt_cons]
        simp [cnt]
        omega) [] ws rfl ρ S ⟨rfl, Keep.refl, vs, h15, h, by simpa using hvl, fun w a => by simp [cnt]⟩
  refine ⟨ρ', us, ?_, g2, g3, g4, g6⟩
  unfold W12
  simp only [run_for, run_wSeq, run_var, h14, Option.bind_some, Option.map_some]
  rw [show seqOf (encVs ws) = some (ws.map encV) from rfl]
  simp only [Option.bind_some, Option.map_some]
  exact g1
def W13 : SF := (sIf (tAnd (tB (e2 (eqD false) (eCall d_place_choice (lCons (eVar 14) (lCons (eVar 6) (lNil)))) (eVar 11))) (tB (e2 (eqD true) (eCall d_place_choice (lCons (eVar 15) (lCons (eVar 6) (lNil)))) (eVar 11)))) (sRet (eC (.bool false))) (sNext))
theorem W13_run {t : Nat} {ws us : Vs} (hw : Wt n w) (h1 : 1 ≤ n) (hn : n ≤ 8) (ht : First n (cnt w vs) t) (g : Vt n ws) (f : Vt n us) (hc : ∀ a, cnt w us a = cnt w vs a + cnt w ws a) (h6 : ρ[6]? = some (some (wT w))) (h11 : ρ[11]? = some (some (nI t))) (h14 : ρ[14]? = some (some (encVs ws))) (h15 : ρ[15]? = some (some (encVs us))) : W13 ρ S = some (.nx ρ, S) := by
  obtain ⟨s, s1, s2⟩ := run_choice g h1 (by omega) hw.len hw.small
  obtain ⟨r, r1, r2⟩ := run_choice f h1 (by omega) hw.len hw.small
  unfold W13
  by_cases z : s = t
  · subst z
    have := r1.uniq ((first_join ht s1).congr fun a _ => (hc a).symm)
    subst this
    simp only [run_sIf, run_tAnd, run_tB, run_2, run_call, run_lcons, run_lnil, run_var, h14, h15, h6, h11, Option.bind_some, Option.map_some, s2, r2, run_eqI, decide_true, Bool.false_eq_true, ↓reduceIte, boolOf_bool, Bool.not_true, run_next]
  · have z2 : decide ((s : Int) = (t : Int)) = false := decide_eq_false (by omega)
    simp only [run_sIf, run_tAnd, run_tB, run_2, run_call, run_lcons, run_lnil, run_var, h14, h6, h11, Option.bind_some, Option.map_some, s2, run_eqI, z2, Bool.false_eq_true, ↓reduceIte, boolOf_bool, run_next]
def W14 : SF := (sAsg (eLst (lCons (eC .none) (lCons (eTup (lNil)) (lCons (eC (.int 0)) (lCons (e2 mulD (eTup (lCons (eC (.int 0)) (lNil))) (e2 (addD true) (eVar 4) (eC (.int 1)))) (lCons (e2 mulD (eLst (lCons (eC (.int 0)) (lNil))) (eVar 4)) (lCons (e2 mulD (eTup (lCons (eC (.bool true)) (lNil))) (eVar 4)) (lCons (eC (.str "0")) (lCons (e2 mulD (eTup (lCons (eC .none) (lNil))) (eVar 4)) (lCons (e2 (addD true) (e2 mulD (eTup (lCons (eC (.int 0)) (lNil))) (e2 subD (eVar 4) (eC (.int 1)))) (eTup (lCons (eC (.int 1)) (lNil)))) (lCons (e2 mulD (eTup (lCons (eC (.int 1)) (lNil))) (eVar 4)) (lNil)))))))))))) (gName 16))
theorem rep_flat (x : D) : ∀ k : Nat, (List.replicate k [x]).flatten = List.replicate k x
  | 0 => rfl
  | k + 1 => by rw [List.replicate_succ, List.flatten_cons, rep_flat x k]; rfl
theorem run_mulT {x : D} {k : Nat} (hk : k ≤ 1000) (hx : imm x = true) : mulD (.tuple [x]) (.int k) S = some (.tuple (List.replicate k x), S) := by
  show (chk (decide (0 ≤ (k : Int) ∧ (k : Int) ≤ 1000) && decide ([x].length ≤ 1000) && ![x].isEmpty && immAll [x]) >>= fun _ => pure (PyData.tuple (List.replicate (k : Int).toNat [x]).flatten) : M D) S = _
  have d1 : decide (0 ≤ (k : Int) ∧ (k : Int) ≤ 1000) = true := decide_eq_true (by omega)
  have d2 : decide ([x].length ≤ 1000) = true := decide_eq_true (by simp)
  rw [mbind, chk_run, d1, d2, Int.toNat_natCast, rep_flat]
  simp [hx, mpure]
theorem W14_run (h1 : 1 ≤ n) (hn : n ≤ 8) (h4 : ρ[4]? = some (some (nI n))) : ∃ ys : List D, ys.length = 10 ∧ (∀ y ∈ ys, Val y) ∧ W14 ρ S = some (.nx (ρ.set 16 (some (.list ys))), S) := by
  have tv : ∀ (x : D) (k : Nat), At x → k ≤ 1000 → Val (.tuple (List.replicate k x)) := fun x k hx hk => .yes (fun y hy => by rw [(List.mem_replicate.mp hy).2]; exact hx) (by simpa using hk)
  have f1 : fit (0 + 1) = true := rfl
  have f00 : fit 0 = true := rfl
  have f10 : fit (0 + 1 + 1 + 1 + 1 + 1 + 1 + 1 + 1 + 1 + 1) = true := rfl
  have e1' : ((n : Int) + 1) = ((n + 1 : Nat) : Int) := by omega
  have e2' : ((n : Int) - 1) = ((n - 1 : Nat) : Int) := by omega
  have i0 : imm (.int 0) = true := by simp
  have i1 : imm (.int 1) = true := by simp
  have it : imm (.bool true) = true := by simp
  have f2 : fit ((List.replicate (n - 1) (PyData.int 0)).length + [PyData.int 1].length) = true := fit_of (by simp; omega)
  have j1 : immAll (List.replicate (n - 1) (PyData.int 0)) = true := immAll_iff.mpr fun x hx => by rw [(List.mem_replicate.mp hx).2]; simp
  have j2 : immAll [PyData.int 1] = true := by simp
  refine ⟨[.none, .tuple [], .int 0, .tuple (List.replicate (n + 1) (.int 0)), .list (row n fun _ => 0), .tuple (List.replicate n (.bool true)), .str "0", .tuple (List.replicate n .none), .tuple (List.replicate (n - 1) (.int 0) ++ [.int 1]), .tuple (List.replicate n (.int 1))], rfl, ?_, ?_⟩
  · intro y hy
    simp only [List.mem_cons, List.not_mem_nil, or_false] at hy
    rcases hy with rfl | rfl | rfl | rfl | rfl | rfl | rfl | rfl | rfl | rfl
    · exact .no fun _ => rfl
    · exact .yes (fun _ h => nomatch h) (by simp)
    · exact .no fun _ => rfl
    · exact tv _ _ (.inr (.inr ⟨_, rfl⟩)) (by omega)
    · exact .no fun _ => rfl
    · exact tv _ _ (.inr (.inl ⟨_, rfl⟩)) (by omega)
    · exact .no fun _ => rfl
    · exact tv _ _ (.inl rfl) (by omega)
    · refine .yes (fun y hy => ?_) (by simp; omega)
      rcases List.mem_append.mp hy with z | z
      · rw [(List.mem_replicate.mp z).2]; exact .inr (.inr ⟨_, rfl⟩)
      · rw [List.mem_singleton.mp z]; exact .inr (.inr ⟨_, rfl⟩)
    · exact tv _ _ (.inr (.inr ⟨_, rfl⟩)) (by omega)
  · unfold W14
    have m1 : mulD (.tuple [.int 0]) (.int ((n : Int) + 1)) S = some (.tuple (List.replicate (n + 1) (.int 0)), S) := by rw [e1']; exact run_mulT (by omega) i0
    have m2 : mulD (.list [.int 0]) (.int n) S = _ := run_zeros (S := S) (show n ≤ 1000000 by omega)
    have m3 : mulD (.tuple [.bool true]) (.int n) S = _ := run_mulT (S := S) (show n ≤ 1000 by omega) it
    have m4 : mulD (.tuple [.none]) (.int n) S = _ := run_mulT (S := S) (show n ≤ 1000 by omega) imm_none
    have m5 : mulD (.tuple [.int 0]) (.int ((n : Int) - 1)) S = some (.tuple (List.replicate (n - 1) (.int 0)), S) := by rw [e2']; exact run_mulT (by omega) i0
    have m6 : mulD (.tuple [.int 1]) (.int n) S = _ := run_mulT (S := S) (show n ≤ 1000 by omega) i1
    have a1 : addD true (.tuple (List.replicate (n - 1) (.int 0))) (.tuple [.int 1]) S = some (.tuple (List.replicate (n - 1) (.int 0) ++ [.int 1]), S) := by
      rw [run_addT, f2, j1, j2]; rfl
    simp only [run_asg, run_lst, run_tup, run_lcons, run_lnil, run_c, run_2, run_var, h4, Option.bind_some, Option.map_some, run_add, run_sub, List.length_cons, List.length_nil, f1, f00, f10, ↓reduceIte, m1, m2, m3, m4, m5, m6, a1, run_gName]
def W15 : SF := (sFor (wSeq (eTup (lCons (eVar 6) (lCons (e1 (listD true) (eVar 6)) (lCons (e1 (revD true) (eVar 6)) (lCons (eSlice true (eVar 6) (some (eC (.int 1))) none) (lCons (e2 idxD (eVar 16) (eCallM d_law_pick (lCons (eC (.int 10)) (lNil)))) (lNil)))))))) (gName 17) (sSeq W18a (sSeq W18b (sSeq W18c W18d))))
theorem W15_run {ys : List D} (hw : Wt n w) (h1 : 1 ≤ n) (hn : n ≤ 8) (hl : ρ.length = 23) (h4 : ρ[4]? = some (some (nI n))) (h6 : ρ[6]? = some (some (wT w))) (hy : ys.length = 10) (hv : ∀ y ∈ ys, Val y) (h16 : ρ[16]? = some (some (.list ys))) : ∃ ρ' S', W15 ρ S = some (.nx ρ', S') ∧ Keep [17, 18] ρ ρ' := by
  obtain ⟨i, hi, S1, r1⟩ := picks 10 S (by omega) (by omega)
  have r1' : d_law_pick [.int 10] S = some (.int i, S1) := r1
  have hi2 : i < ys.length := by omega
  have g1 : idxD (.list ys) (.int i) S1 = some (ys[i], S1) := run_idxL (by simp [hi2])
  have iw : immAll (w.map PyData.int) = true := immAll_map fun _ _ => imm_int
  have vi : ∀ is : List Int, is.length ≤ 1000 → Val (.tuple (is.map .int)) := fun is h => .yes (fun x hx => by obtain ⟨k, _, rfl⟩ := List.mem_map.mp hx; exact .inr (.inr ⟨_, rfl⟩)) (by simpa using h)
  have c1 : cutD (w.map PyData.int) (some 1) none = (w.drop 1).map .int := by
    have := cut_from (xs := w.map PyData.int) (k := 1)
    exact this.trans List.map_drop.symm
  have hwl := hw.len
  obtain ⟨ρ', S', q1, q2⟩ := forD_inv (b := turnD (gName 17) (sSeq W18a (sSeq W18b (sSeq W18c W18d)))) (fun x : D => x) (fun pre ρ' S' => Keep [17, 18] ρ ρ') [wT w, .list (w.map .int), .tuple (w.map PyData.int).reverse, .tuple ((w.drop 1).map .int), ys[i]]
    (fun pre v suf ρ1 S' e k1 => by
      have hvv : Val v := by
        have hm : v ∈ [wT w, .list (w.map .int), .tuple (w.map PyData.int).reverse, .tuple ((w.drop 1).map .int), ys[i]] := by rw [e]; simp
        simp only [List.mem_cons, List.not_mem_nil, or_false] at hm
        rcases hm with rfl | rfl | rfl | rfl | rfl
        · exact vi w (by omega)
        · exact .no fun _ => rfl
        · rw [← List.map_reverse]; exact vi w.reverse (by rw [List.length_reverse]; omega)
        · exact vi (w.drop 1) (by rw [List.length_drop]; omega)
        · exact hv _ (List.getElem_mem hi2)
      have := run_due (S := S') (ρ := ρ1.set 17 (some v)) hvv h1 (by omega) (by simp [k1.len, hl]) ((set_there (by decide)).trans (k1.get (by decide) h4)) (set_here (by rw [k1.len, hl]; decide))
      exact ⟨_, S', .inl (by rw [run_turn, run_gName, Option.bind_some]; exact this), (k1.set (by decide)).set (by decide)⟩) [] _ rfl ρ S1 Keep.refl
  refine ⟨ρ', S', ?_, q2⟩
  have f5 : fit (0 + 1 + 1 + 1 + 1 + 1) = true := rfl
  unfold W15
  simp only [run_for, run_wSeq, run_tup, run_lcons, run_lnil, run_var, h6, h16, Option.bind_some, Option.map_some, run_1, run_2, wT, run_list, seqOf_tup, iw, Bool.not_true, Bool.or_true, ↓reduceIte, run_revT, run_eSlice, run_part, run_part0, run_c, intOf_int, run_sliceT, c1, run_callM, r1', g1, List.length_cons, List.length_nil, f5]
  rw [List.map_id'] at q1
  exact q1
def W16 : SF := (sIf (tB (e2 (eqD true) (e1 reprD (eVar 3)) (eVar 5))) (sRet (eC (.bool false))) (sNext))
theorem W16_run (h : Vt n vs) (hn : n ≤ 8) (hl : vs.length ≤ 30) (hm : ∀ p ∈ vs, p.2 ≤ 20) (h3 : ρ[3]? = some (some (encVs vs))) (h5 : ρ[5]? = some (some (.str (encVs vs).shown))) : W16 ρ S = some (.nx ρ, S) := by
  obtain ⟨f1, f2, f3⟩ := facts_encVs h hn hl hm
  have r := run_reprT (S := S) f1 (by omega) (by omega)
  have q := run_neStr (S := S) (tidy_shown _ f1).2.2.1
  unfold W16
  simp only [run_sIf, run_tB, run_2, run_1, run_var, h3, h5, Option.bind_some, Option.map_some, r, q, boolOf_bool, Bool.false_eq_true, ↓reduceIte, run_next]
def LL : SF := sSeq W1 (sSeq W2 (sSeq W3 (sSeq W4 (sSeq W5 (sSeq W6 (sSeq W7 (sSeq W8 (sSeq (sAsg (eVar 3) (gName 14)) (sSeq W10 (sSeq (sAsg (eVar 3) (gName 15)) (sSeq W12 (sSeq W13 (sSeq W14 (sSeq W15 W16))))))))))))))
theorem law_is : b_law = sSeq (sFor (wRange1 (eC (.int 6))) (gName 2) LL) (sRet (eC (.bool true))) := rfl
theorem LL_run {k : Nat} (hk : k < 6) (hl : ρ.length = 23) (h2 : ρ[2]? = some (some (nI k))) : ∃ ρ' S', LL ρ S = some (.nx ρ', S') ∧ ρ'.length = 23 := by
  obtain ⟨n, vs, S1, n1, n8, hv, vl, vm, r1⟩ := W1_run (S := S) hk h2
  have l1 : (ρ.set 3 (some (encVs vs))).length = 23 := by simp [hl]
  have r2 := W2_run (S := S1) hv n8 vl vm (set_here (ρ := ρ) (k := 3) (v := some (encVs vs)) (by omega))
  generalize e2' : ((ρ.set 3 (some (encVs vs))).set 4 (some (nI n))).set 5 (some (.str (encVs vs).shown)) = ρ2 at r2
  have l2 : ρ2.length = 23 := by rw [← e2']; simp [hl]
  have a3 : ρ2[3]? = some (some (encVs vs)) := by rw [← e2', set_there (by decide), set_there (by decide), set_here (by omega)]
  have a4 : ρ2[4]? = some (some (nI n)) := by rw [← e2', set_there (by decide), set_here (by omega)]
  have a5 : ρ2[5]? = some (some (.str (encVs vs).shown)) := by rw [← e2', set_here (by simp [hl])]
  obtain ⟨w, S3, hw, r3⟩ := W3_run (S := S1) n8 a4
  have k3 : Keep [6] ρ2 (ρ2.set 6 (some (wT w))) := Keep.refl.set (by decide)
  have r4 := W4_run (S := S3) n8 (k3.get (by decide) a4)
  generalize e4' : (ρ2.set 6 (some (wT w))).set 7 (some (.list (row n fun _ => 0))) = ρ4 at r4
  have k4 : Keep [6, 7] ρ2 ρ4 := by rw [← e4']; exact (Keep.refl.set (by decide)).set (by decide)
  have l4 : ρ4.length = 23 := k4.len.trans l2
  have a6 : ρ4[6]? = some (some (wT w)) := by rw [← e4', set_there (by decide), set_here (by omega)]
  have a7 : ρ4[7]? = some (some (.list (row n fun _ => 0))) := by rw [← e4', set_here (by simp [l2])]
  obtain ⟨ρ5, r5, k5, b7⟩ := W5_run (S := S3) hv hw n8 l4 (k4.get (by decide) a3) (k4.get (by decide) a4) a6 a7
  obtain ⟨t, ht, r6⟩ := W6_run (S := S3) n1 n8 (k5.len.trans l4) b7
  generalize e6' : ρ5.set 11 (some (nI t)) = ρ6 at r6
  have k6 : Keep [11] ρ5 ρ6 := by rw [← e6']; exact Keep.refl.set (by decide)
  have l6 : ρ6.length = 23 := k6.len.trans (k5.len.trans l4)
  have c3 := k6.get (by decide) (k5.get (by decide) (k4.get (by decide) a3))
  have c4 := k6.get (by decide) (k5.get (by decide) (k4.get (by decide) a4))
  have c5 := k6.get (by decide) (k5.get (by decide) (k4.get (by decide) a5))
  have c6 := k6.get (by decide) (k5.get (by decide) a6)
  have c7 := k6.get (by decide) b7
  have c11 : ρ6[11]? = some (some (nI t)) := by rw [← e6', set_here (by rw [k5.len, l4]; decide)]
  have r7 := W7_run (S := S3) hv hw n1 n8 vl vm ht c3 c6 c7 c11
  obtain ⟨ρ8, S8, r8, k8⟩ := W8_run (S := S3) hv vl hw n1 n8 ht l6 c3 c4 c6 c11
  have l8 : ρ8.length = 23 := k8.len.trans l6
  have k9 : Keep [14] ρ8 (ρ8.set 14 (some (encVs vs))) := Keep.refl.set (by decide)
  have d3 := k8.get (by decide) c3
  obtain ⟨ρ10, S10, ws, r10, k10, d14, hws, wl⟩ := W10_run (S := S8) (ρ := ρ8.set 14 (some (encVs vs))) hv vl n8 (k9.len.trans l8) (k9.get (by decide) (k8.get (by decide) c4)) (set_here (by omega))
  have l10 : ρ10.length = 23 := k10.len.trans (k9.len.trans l8)
  have d3' := k10.get (by decide) (k9.get (by decide) d3)
  have k11 : Keep [15] ρ10 (ρ10.set 15 (some (encVs vs))) := Keep.refl.set (by decide)
  obtain ⟨ρ12, us, r12, k12, d15, hus, hc⟩ := W12_run (S := S10) (ρ := ρ10.set 15 (some (encVs vs))) hv vl hws wl (k11.len.trans l10) (k11.get (by decide) d14) (set_here (by omega))
  have l12 : ρ12.length = 23 := k12.len.trans (k11.len.trans l10)
  have go : ∀ {i : Nat} {v : Option D}, i ∉ [8, 9, 12, 13] → i ∉ [14] → i ∉ [12, 14] → i ∉ [15] → i ∉ [8, 9, 15] → ρ6[i]? = some v → ρ12[i]? = some v := fun h1 h2 h3 h4 h5 e => k12.get h5 (k11.get h4 (k10.get h3 (k9.get h2 (k8.get h1 e))))
  have r13 := W13_run (S := S10) (ρ := ρ12) hw n1 n8 ht hws hus (hc w) (go (by decide) (by decide) (by decide) (by decide) (by decide) c6) (go (by decide) (by decide) (by decide) (by decide) (by decide) c11) (k12.get (by decide) (k11.get (by decide) d14)) d15
  obtain ⟨ys, y10, yv, r14⟩ := W14_run (S := S10) (ρ := ρ12) n1 n8 (go (by decide) (by decide) (by decide) (by decide) (by decide) c4)
  have k14 : Keep [16] ρ12 (ρ12.set 16 (some (.list ys))) := Keep.refl.set (by decide)
  obtain ⟨ρ15, S15, r15, k15⟩ := W15_run (S := S10) (ρ := ρ12.set 16 (some (.list ys))) hw n1 n8 (k14.len.trans l12) (k14.get (by decide) (go (by decide) (by decide) (by decide) (by decide) (by decide) c4)) (k14.get (by decide) (go (by decide) (by decide) (by decide) (by decide) (by decide) c6)) y10 yv (set_here (by omega))
  have r16 := W16_run (S := S15) (ρ := ρ15) hv n8 vl vm (k15.get (by decide) (k14.get (by decide) (go (by decide) (by decide) (by decide) (by decide) (by decide) c3))) (k15.get (by decide) (k14.get (by decide) (go (by decide) (by decide) (by decide) (by decide) (by decide) c5)))
  refine ⟨ρ15, S15, ?_, k15.len.trans (k14.len.trans l12)⟩
  have s9 : sAsg (eVar 3) (gName 14) ρ8 S8 = some (.nx (ρ8.set 14 (some (encVs vs))), S8) := by simp only [run_asg, run_var, d3, Option.bind_some, Option.map_some, run_gName]
  have s11 : sAsg (eVar 3) (gName 15) ρ10 S10 = some (.nx (ρ10.set 15 (some (encVs vs))), S10) := by simp only [run_asg, run_var, d3', Option.bind_some, Option.map_some, run_gName]
  unfold LL
  rw [run_seq, r1, Option.bind_some, seqO_nx, run_seq, r2, Option.bind_some, seqO_nx, run_seq, r3, Option.bind_some, seqO_nx, run_seq, r4, Option.bind_some, seqO_nx, run_seq, r5, Option.bind_some, seqO_nx, run_seq, r6, Option.bind_some, seqO_nx, run_seq, r7, Option.bind_some, seqO_nx, run_seq, r8, Option.bind_some, seqO_nx, run_seq, s9, Option.bind_some, seqO_nx, run_seq, r10, Option.bind_some, seqO_nx, run_seq, s11, Option.bind_some, seqO_nx, run_seq, r12, Option.bind_some, seqO_nx, run_seq, r13, Option.bind_some, seqO_nx, run_seq, r14, Option.bind_some, seqO_nx, run_seq, r15, Option.bind_some, seqO_nx, r16]
theorem law_true (ns : List Int) (_ : ns.length ≤ 63) : runLaw 23 b_law ns = some (.bool true) := by
  unfold runLaw
  rw [law_is, run_seq, run_for]
  have hr : rng62 6 = true := rng_c 6 (by omega)
  have er : rngD 0 6 = (List.range 6).map fun i => nI i := rng_nat 6
  simp only [run_wRange1, run_c, Option.bind_some, intOf_int, hr, ↓reduceIte, er]
  obtain ⟨ρ', S', h1, _⟩ := forD_inv (b := turnD (gName 2) LL) (fun a : Nat => nI a) (fun pre ρ S' => ρ.length = 23) (List.range 6)
    (fun pre k suf ρ S' e h => by
      obtain ⟨rfl, hk⟩ := range_split e
      obtain ⟨ρ', S3, r, l⟩ := LL_run (S := S') (ρ := ρ.set 2 (some (nI k))) hk (by simpa using h) (set_here (by omega))
      exact ⟨ρ', S3, .inl (by rw [run_turn, run_gName, Option.bind_some]; exact r), l⟩) [] (List.range 6) rfl (List.replicate 23 none) (openS ns) (by simp)
  rw [h1, Option.bind_some, seqO_nx, run_ret]
  rfl
end K75

namespace K75
open PySem PySem.Spec PyProof.Rows L2 DL
theorem all_mk (hrun : ∀ ns : List Int, ns.length ≤ 63 → runLaw 23 b_law ns = some (.bool true)) {P : Program} {w : World} {K : PySem.W.Frag} {h : Heap} {mg : Str → Option Value} {fa f1 f2 f3 f4 f5 f6 f7 f8 f9 f10 : Addr} (X : K.In h) (G : h.Ns mainGlobals mg) (hfa : mg "law" = some (.ref fa))
    {od1 an1 od2 an2 od3 an3 od4 an4 od5 an5 od6 an6 od7 an7 od8 an8 od9 an9 od10 an10 : Option Addr} {sl1 sl2 sl3 sl4 sl5 sl6 sl7 sl8 sl9 sl10 : Array (Option Value)} {oc1 kV1 dc1 pm1 cd1 ct1 oc2 kV2 dc2 pm2 cd2 ct2 oc3 kV3 dc3 pm3 cd3 ct3 oc4 kV4 dc4 pm4 cd4 ct4 oc5 kV5 dc5 pm5 cd5 ct5 oc6 kV6 dc6 pm6 cd6 ct6 oc7 kV7 dc7 pm7 cd7 ct7 oc8 kV8 dc8 pm8 cd8 ct8 oc9 kV9 dc9 pm9 cd9 ct9 oc10 kV10 dc10 pm10 cd10 ct10 : Value}
    (a1 : PySem.W.nsIn K mainGlobals "things_of" = some (some (.ref f1))) (l1 : K.lookup f1 = some ⟨oc1, od1, .func (PySem.W.fnOf "things_of" "things_of" (defArgs s_things_of) (defBody s_things_of) (defScope s_things_of) .none kV1 dc1 pm1 an1 cd1 ct1), sl1⟩) (c1 : PySem.W.codeIn K cd1 "things_of" = true) (k1 : PySem.W.keepIn K (.ref f1) = true)
    (a2 : PySem.W.nsIn K mainGlobals "are_weights" = some (some (.ref f2))) (l2 : K.lookup f2 = some ⟨oc2, od2, .func (PySem.W.fnOf "are_weights" "are_weights" (defArgs s_are_weights) (defBody s_are_weights) (defScope s_are_weights) .none kV2 dc2 pm2 an2 cd2 ct2), sl2⟩) (c2 : PySem.W.codeIn K cd2 "are_weights" = true) (k2 : PySem.W.keepIn K (.ref f2) = true)
    (a3 : PySem.W.nsIn K mainGlobals "place_counts" = some (some (.ref f3))) (l3 : K.lookup f3 = some ⟨oc3, od3, .func (PySem.W.fnOf "place_counts" "place_counts" (defArgs s_place_counts) (defBody s_place_counts) (defScope s_place_counts) .none kV3 dc3 pm3 an3 cd3 ct3), sl3⟩) (c3 : PySem.W.codeIn K cd3 "place_counts" = true) (k3 : PySem.W.keepIn K (.ref f3) = true)
    (a4 : PySem.W.nsIn K mainGlobals "place_choice" = some (some (.ref f4))) (l4 : K.lookup f4 = some ⟨oc4, od4, .func (PySem.W.fnOf "place_choice" "place_choice" (defArgs s_place_choice) (defBody s_place_choice) (defScope s_place_choice) .none kV4 dc4 pm4 an4 cd4 ct4), sl4⟩) (c4 : PySem.W.codeIn K cd4 "place_choice" = true) (k4 : PySem.W.keepIn K (.ref f4) = true)
    (a5 : PySem.W.nsIn K mainGlobals "_law_open_cells" = some (some (.ref f5))) (l5 : K.lookup f5 = some ⟨oc5, od5, .func (PySem.W.fnOf "_law_open_cells" "_law_open_cells" (defArgs s_law_open_cells) (defBody s_law_open_cells) (defScope s_law_open_cells) .none kV5 dc5 pm5 an5 cd5 ct5), sl5⟩) (c5 : PySem.W.codeIn K cd5 "_law_open_cells" = true) (k5 : PySem.W.keepIn K (.ref f5) = true)
    (a6 : PySem.W.nsIn K mainGlobals "_law_pick" = some (some (.ref f6))) (l6 : K.lookup f6 = some ⟨oc6, od6, .func (PySem.W.fnOf "_law_pick" "_law_pick" (defArgs s_law_pick) (defBody s_law_pick) (defScope s_law_pick) .none kV6 dc6 pm6 an6 cd6 ct6), sl6⟩) (c6 : PySem.W.codeIn K cd6 "_law_pick" = true) (k6 : PySem.W.keepIn K (.ref f6) = true)
    (a7 : PySem.W.nsIn K mainGlobals "_law_any_order" = some (some (.ref f7))) (l7 : K.lookup f7 = some ⟨oc7, od7, .func (PySem.W.fnOf "_law_any_order" "_law_any_order" (defArgs s_law_any_order) (defBody s_law_any_order) (defScope s_law_any_order) .none kV7 dc7 pm7 an7 cd7 ct7), sl7⟩) (c7 : PySem.W.codeIn K cd7 "_law_any_order" = true) (k7 : PySem.W.keepIn K (.ref f7) = true)
    (a8 : PySem.W.nsIn K mainGlobals "_law_votes" = some (some (.ref f8))) (l8 : K.lookup f8 = some ⟨oc8, od8, .func (PySem.W.fnOf "_law_votes" "_law_votes" (defArgs s_law_votes) (defBody s_law_votes) (defScope s_law_votes) .none kV8 dc8 pm8 an8 cd8 ct8), sl8⟩) (c8 : PySem.W.codeIn K cd8 "_law_votes" = true) (k8 : PySem.W.keepIn K (.ref f8) = true)
    (a9 : PySem.W.nsIn K mainGlobals "_law_more" = some (some (.ref f9))) (l9 : K.lookup f9 = some ⟨oc9, od9, .func (PySem.W.fnOf "_law_more" "_law_more" (defArgs s_law_more) (defBody s_law_more) (defScope s_law_more) .none kV9 dc9 pm9 an9 cd9 ct9), sl9⟩) (c9 : PySem.W.codeIn K cd9 "_law_more" = true) (k9 : PySem.W.keepIn K (.ref f9) = true)
    (a10 : PySem.W.nsIn K mainGlobals "law" = some (some (.ref f10))) (l10 : K.lookup f10 = some ⟨oc10, od10, .func (PySem.W.fnOf "law" "law" (defArgs s_law) (defBody s_law) (defScope s_law) .none kV10 dc10 pm10 an10 cd10 ct10), sl10⟩) (c10 : PySem.W.codeIn K cd10 "law" = true) (k10 : PySem.W.keepIn K (.ref f10) = true)
    (z1 : PySem.W.nsIn K mainGlobals "abs" = some none) (z2 : PySem.W.nsIn K mainGlobals "all" = some none) (z3 : PySem.W.nsIn K mainGlobals "bool" = some none) (z4 : PySem.W.nsIn K mainGlobals "enumerate" = some none) (z5 : PySem.W.nsIn K mainGlobals "int" = some none) (z6 : PySem.W.nsIn K mainGlobals "isinstance" = some none) (z7 : PySem.W.nsIn K mainGlobals "len" = some none) (z8 : PySem.W.nsIn K mainGlobals "list" = some none) (z9 : PySem.W.nsIn K mainGlobals "max" = some none) (z10 : PySem.W.nsIn K mainGlobals "min" = some none) (z11 : PySem.W.nsIn K mainGlobals "range" = some none) (z12 : PySem.W.nsIn K mainGlobals "repr" = some none) (z13 : PySem.W.nsIn K mainGlobals "sorted" = some none) (z14 : PySem.W.nsIn K mainGlobals "sum" = some none) (z15 : PySem.W.nsIn K mainGlobals "tuple" = some none) :
    ∀ base : Heap, K.In base → base.Ns mainGlobals mg → At1 P w K mg base fa 63 := by
  intro base _ _
  have e := hfa.symm.trans (PySem.W.mg_of X G a10)
  cases e
  have B : Blt mg := ⟨PySem.W.mg_none_of X G z1, PySem.W.mg_none_of X G z2, PySem.W.mg_none_of X G z3, PySem.W.mg_none_of X G z4, PySem.W.mg_none_of X G z5, PySem.W.mg_none_of X G z6, PySem.W.mg_none_of X G z7, PySem.W.mg_none_of X G z8, PySem.W.mg_none_of X G z9, PySem.W.mg_none_of X G z10, PySem.W.mg_none_of X G z11, PySem.W.mg_none_of X G z12, PySem.W.mg_none_of X G z13, PySem.W.mg_none_of X G z14, PySem.W.mg_none_of X G z15⟩
  have C_things_of := ok_things_of (P := P) (w := w) (base := base) B  (fun_mk (st := s_things_of) l1 c1 k1) (PySem.W.mg_of X G a1)
  have C_are_weights := ok_are_weights (P := P) (w := w) (base := base) B  (fun_mk (st := s_are_weights) l2 c2 k2) (PySem.W.mg_of X G a2)
  have C_law_open_cells := ok_law_open_cells (P := P) (w := w) (base := base) B  (fun_mk (st := s_law_open_cells) l5 c5 k5) (PySem.W.mg_of X G a5)
  have C_law_pick := ok_law_pick (P := P) (w := w) (base := base) B  (fun_mk (st := s_law_pick) l6 c6 k6) (PySem.W.mg_of X G a6)
  have C_law_more := ok_law_more (P := P) (w := w) (base := base) B  (fun_mk (st := s_law_more) l9 c9 k9) (PySem.W.mg_of X G a9)
  have C_place_counts := ok_place_counts (P := P) (w := w) (base := base) B C_things_of (fun_mk (st := s_place_counts) l3 c3 k3) (PySem.W.mg_of X G a3)
  have C_law_any_order := ok_law_any_order (P := P) (w := w) (base := base) B C_law_pick (fun_mk (st := s_law_any_order) l7 c7 k7) (PySem.W.mg_of X G a7)
  have C_place_choice := ok_place_choice (P := P) (w := w) (base := base) B C_place_counts (fun_mk (st := s_place_choice) l4 c4 k4) (PySem.W.mg_of X G a4)
  have C_law_votes := ok_law_votes (P := P) (w := w) (base := base) B C_law_pick C_law_any_order (fun_mk (st := s_law_votes) l8 c8 k8) (PySem.W.mg_of X G a8)
  exact ok_law hrun B C_law_open_cells C_law_votes C_place_choice C_law_more C_law_pick C_place_counts C_law_any_order C_are_weights (fun_mk (st := s_law) l10 c10 k10)
end K75
open PySem PySem.W PyProof.Rows
set_option maxHeartbeats 0 in
theorem PySem.Challenge.cw_chosenbymany_k75_whole_places_do_not_pun_holds : PySem.Challenge.rw_chosenbymany_k75_whole_places_do_not_pun.Holds := by
  w_on; o_law; k_head; (case hw => w_witness2)
  k_fill
  refine DL.walk_own (l := PySem.Challenge.rw_chosenbymany_k75_whole_places_do_not_pun) (n := 63) rfl (by decide) rfl (fun w h Y => PySem.W.kIn_of Y) ?F
  case F =>
    intro w mg fa h KX G hmg
    refine' K75.all_mk K75.law_true KX G hmg ?a1 ?l1 ?c1 ?k1 ?a2 ?l2 ?c2 ?k2 ?a3 ?l3 ?c3 ?k3 ?a4 ?l4 ?c4 ?k4 ?a5 ?l5 ?c5 ?k5 ?a6 ?l6 ?c6 ?k6 ?a7 ?l7 ?c7 ?k7 ?a8 ?l8 ?c8 ?k8 ?a9 ?l9 ?c9 ?k9 ?a10 ?l10 ?c10 ?k10 ?z1 ?z2 ?z3 ?z4 ?z5 ?z6 ?z7 ?z8 ?z9 ?z10 ?z11 ?z12 ?z13 ?z14 ?z15
    (case a1 => k_is); (case l1 => k_is); (case c1 => k_is); (case k1 => k_is); (case a2 => k_is); (case l2 => k_is); (case c2 => k_is); (case k2 => k_is); (case a3 => k_is); (case l3 => k_is); (case c3 => k_is); (case k3 => k_is); (case a4 => k_is); (case l4 => k_is); (case c4 => k_is); (case k4 => k_is); (case a5 => k_is); (case l5 => k_is); (case c5 => k_is); (case k5 => k_is); (case a6 => k_is); (case l6 => k_is); (case c6 => k_is); (case k6 => k_is); (case a7 => k_is); (case l7 => k_is); (case c7 => k_is); (case k7 => k_is); (case a8 => k_is); (case l8 => k_is); (case c8 => k_is); (case k8 => k_is); (case a9 => k_is); (case l9 => k_is); (case c9 => k_is); (case k9 => k_is); (case a10 => k_is); (case l10 => k_is); (case c10 => k_is); (case k10 => k_is); (case z1 => k_is); (case z2 => k_is); (case z3 => k_is); (case z4 => k_is); (case z5 => k_is); (case z6 => k_is); (case z7 => k_is); (case z8 => k_is); (case z9 => k_is); (case z10 => k_is); (case z11 => k_is); (case z12 => k_is); (case z13 => k_is); (case z14 => k_is); (case z15 => k_is)
