import PyProof.Rows.All
import Wide.All
import OpenK.AllK
import Wide.FinOn
import HandS.ForMost
import PySem.Challenge.RW_chosenbymany_k91_whole_turned_beats_and
import HandS.Conv
import HandS.Flow
import HandS.IsInst
import HandS.More
import HandS.Star
import HandS.Style
import HandS.TupAny
import HandS.TupLen
import HandS.TupMul
import HandS.Zip
import KE.DataMinMax
import KE.GoesMore
import KE.KRevSl
import KE.SortData
import PyProof.EnumMake
import PyProof.ReprLen
import PyProof.Rows.SumAny
import PyProof.TupleOfSeq
import PyProof.WalksMore
set_option Elab.async false
set_option linter.all false
set_option maxRecDepth 100000
set_option maxHeartbeats 4000000
/-! DSem: what the written Python does, as functions over plain data. Env: the names by slots. M: with the drawn numbers' source. -/
namespace DL
open PySem

abbrev D := PyData
/-- the draws' source: cells (the next one first), the present one, the mixed number, the turn -/
structure Src where
  cells : List Int
  left : Int
  mixed : Int
  turn : Int
abbrev M := StateT Src Option
abbrev Env := List (Option D)
/-- what a block ends with -/
inductive Out where
  | nx (ρ : Env)
  | rt (d : D)
  | bk (ρ : Env)
  | ct (ρ : Env)
def fail {α : Type} : M α := fun _ => none
def chk (b : Bool) : M Unit := if b = true then pure () else fail

-- within it nothing changes
mutual
def imm : D → Bool
  | .none | .bool _ | .int _ | .str _ => true
  | .tuple xs => immAll xs
  | .list _ | .dict _ => false
def immAll : List D → Bool
  | [] => true
  | x :: xs => imm x && immAll xs
end
/-- its items are so -/
def itm : D → Bool
  | .list xs => immAll xs
  | .dict kvs => immAll (kvs.map (·.1)) && immAll (kvs.map (·.2))
  | d => imm d
def fit (n : Nat) : Bool := decide (n ≤ sizeLine)

def seqOf : D → Option (List D)
  | .list xs => some xs
  | .tuple xs => some xs
  | _ => none

/-! ### expressions -/
abbrev EF := Env → M D
abbrev TF := Env → M Bool
abbrev LF := Env → M (List D)
def eVar (i : Nat) : EF := fun ρ => match ρ[i]? with
  | some (some d) => pure d
  | _ => fail
def eC (d : D) : EF := fun _ => pure d
/-- only what does not change -/
def eImm (f : EF) : EF := fun ρ => do
  let d ← f ρ
  chk (imm d)
  pure d
def eItm (f : EF) : EF := fun ρ => do
  let d ← f ρ
  chk (itm d)
  pure d
def e1 (op : D → M D) (f : EF) : EF := fun ρ => do op (← f ρ)
def e2 (op : D → D → M D) (f g : EF) : EF := fun ρ => do
  let x ← f ρ
  let y ← g ρ
  op x y
def e3 (op : D → D → D → M D) (f g h : EF) : EF := fun ρ => do
  let x ← f ρ
  let y ← g ρ
  let z ← h ρ
  op x y z
def lNil : LF := fun _ => pure []
def lCons (f : EF) (g : LF) : LF := fun ρ => do
  let x ← f ρ
  let xs ← g ρ
  pure (x :: xs)
/-- *e in a display -/
def lStar (f : EF) (g : LF) : LF := fun ρ => do
  let x ← f ρ
  let xs ← g ρ
  match seqOf x with
  | some ys => do
    chk (immAll ys)
    pure (ys ++ xs)
  | none => fail
def eTup (f : LF) : EF := fun ρ => do
  let xs ← f ρ
  chk (fit xs.length)
  pure (.tuple xs)
def eLst (f : LF) : EF := fun ρ => do
  let xs ← f ρ
  chk (fit xs.length)
  pure (.list xs)
/-- a call of one's own def -/
def noSrc {α : Type} (x : M α) : M α := fun S => (x S).map fun p => (p.1, S)
def eCall (m : List D → M D) (f : LF) : EF := fun ρ => do noSrc (m (← f ρ))
/-- .. that draws -/
def eCallM (m : List D → M D) (f : LF) : EF := fun ρ => do m (← f ρ)
def eIf (c : TF) (f g : EF) : EF := fun ρ => do if (← c ρ) = true then f ρ else g ρ
/-- a bool that a test gives -/
def eB (t : TF) : EF := fun ρ => do pure (.bool (← t ρ))

/-! ### tests -/
def tB (f : EF) : TF := fun ρ => do
  match ← f ρ with
  | .bool b => pure b
  | _ => fail
def tNot (t : TF) : TF := fun ρ => do pure (!(← t ρ))
def tAnd (t u : TF) : TF := fun ρ => do if (← t ρ) = true then u ρ else pure false
def tOr (t u : TF) : TF := fun ρ => do if (← t ρ) = true then pure true else u ρ

/-- x and y, x or y as bools -/
def eAnd (f g : EF) : EF := fun ρ => do
  match ← f ρ with
  | .bool true => g ρ
  | .bool false => pure (.bool false)
  | _ => fail
def eOr (f g : EF) : EF := fun ρ => do
  match ← f ρ with
  | .bool true => pure (.bool true)
  | .bool false => g ρ
  | _ => fail
def notD : D → M D
  | .bool b => pure (.bool (!b))
  | _ => fail

/-! ### operators -/
def addD (own : Bool) : D → D → M D
  | .int a, .int b => pure (.int (a + b))
  | .tuple a, .tuple b => do
    chk (fit (a.length + b.length))
    chk (!own || (immAll a && immAll b))
    pure (.tuple (a ++ b))
  | .list a, .list b => do
    chk (fit (a.length + b.length))
    chk (!own || (immAll a && immAll b))
    pure (.list (a ++ b))
  | _, _ => fail
def subD : D → D → M D
  | .int a, .int b => pure (.int (a - b))
  | _, _ => fail
def small64 (a : Int) : Bool := decide (a.natAbs < 2 ^ 64)
def mulD : D → D → M D
  | .int a, .int b => do
    chk (small64 a || small64 b)
    pure (.int (a * b))
  | .list a, .int k => do
    chk (decide (k.natAbs < 2 ^ 63) && fit (a.length * k.toNat) && immAll a)
    pure (.list (List.replicate k.toNat a).flatten)
  | .tuple a, .int k => do
    chk (decide (2 ≤ k ∧ k ≤ 1000) && decide (a.length ≤ 1000) && !a.isEmpty && immAll a)
    pure (.tuple (List.replicate k.toNat a).flatten)
  | _, _ => fail
def fdivD : D → D → M D
  | .int a, .int b => do
    chk (decide (b ≠ 0 ∧ b.natAbs < 1073741824))
    pure (.int (a.fdiv b))
  | _, _ => fail
def modD : D → D → M D
  | .int a, .int b => do
    chk (decide (b ≠ 0))
    pure (.int (a.fmod b))
  | _, _ => fail
def negD : D → M D
  | .int a => pure (.int (-a))
  | _ => fail
def absD : D → M D
  | .int i => pure (.int (if i < 0 then -i else i))
  | _ => fail
def max2D : D → D → M D
  | .int i, .int j => pure (.int (if j > i then j else i))
  | _, _ => fail
def min2D : D → D → M D
  | .int i, .int j => pure (.int (if j < i then j else i))
  | _, _ => fail
def intD : D → M D
  | .int i => pure (.int i)
  | .bool b => pure (.int (if b then 1 else 0))
  | _ => fail

/-! ### comparisons: the answer a bool -/
def eqD (neg : Bool) (x y : D) : M D := do
  chk (SeqAt.shaped x && SeqAt.shaped y)
  pure (.bool (if neg = true then !PyData.eqv x y else PyData.eqv x y))
inductive Cm where
  | lt | le | gt | ge
def cmI (c : Cm) (a b : Int) : Bool := match c with
  | .lt => decide (a < b)
  | .le => decide (a ≤ b)
  | .gt => decide (b < a)
  | .ge => decide (b ≤ a)
def cmD (c : Cm) : D → D → M D
  | .int a, .int b => pure (.bool (cmI c a b))
  | _, _ => fail
def inD (neg : Bool) (x y : D) : M D := match seqOf y with
  | some ys => do
    chk (SeqAt.shaped x && SeqAt.shaped y)
    pure (.bool (if neg = true then !ys.any (fun z => PyData.eqv z x) else ys.any (fun z => PyData.eqv z x)))
  | none => fail
/-- x is None, x is True, x is False -/
def isNoneD : D → Bool
  | .none => true
  | _ => false
def isD (neg : Bool) (x : D) : M D := pure (.bool (if neg = true then !isNoneD x else isNoneD x))
def isBD (neg : Bool) (c : Bool) : D → M D
  | .bool b => pure (.bool (if neg = true then !(b == c) else b == c))
  | _ => fail

/-- a < b < c -/
def eChain (o1 o2 : D → D → M D) (f g h : EF) : EF := fun ρ => do
  let x ← f ρ
  let y ← g ρ
  match ← o1 x y with
  | .bool true => do
    let z ← h ρ
    o2 y z
  | .bool false => pure (.bool false)
  | _ => fail

/-! ### items, slices -/
def ixD (n : Nat) (i : Int) : Option Nat := if 0 ≤ i ∧ i < (n : Int) then some i.toNat else if i < 0 ∧ 0 ≤ i + (n : Int) then some (i + n).toNat else none
def idxD : D → D → M D
  | x, .int i => match seqOf x with
    | some xs => match (ixD xs.length i).bind fun j => xs[j]? with
      | some d => pure d
      | none => fail
    | none => fail
  | _, _ => fail
/-- where a slice begins, ends -/
def slD (n d : Nat) : Option Int → Nat
  | none => d
  | some i => if 0 ≤ i then min i.toNat n else (i + n).toNat
def cutD (xs : List D) (lo hi : Option Int) : List D := (xs.drop (slD xs.length 0 lo)).take (slD xs.length xs.length hi - slD xs.length 0 lo)
def partD : Option EF → Env → M (Option Int)
  | none, _ => pure none
  | some f, ρ => do
    match ← f ρ with
    | .int i => pure (some i)
    | _ => fail
def sliceD (own : Bool) (lo hi : Option Int) : D → M D
  | .tuple xs => do
    chk (!own || immAll xs)
    pure (.tuple (cutD xs lo hi))
  | .list xs => do
    chk (!own || immAll xs)
    pure (.list (cutD xs lo hi))
  | _ => fail
def eSlice (own : Bool) (f : EF) (lo hi : Option EF) : EF := fun ρ => do
  let x ← f ρ
  let a ← partD lo ρ
  let b ← partD hi ρ
  sliceD own a b x
/-- x[::-1] -/
def revD (own : Bool) : D → M D
  | .tuple xs => do
    chk (!own || immAll xs)
    pure (.tuple xs.reverse)
  | .list xs => do
    chk (!own || immAll xs)
    pure (.list xs.reverse)
  | _ => fail

/-! ### built-in functions -/
def lenD : D → M D
  | .list xs => pure (.int xs.length)
  | .tuple xs => pure (.int xs.length)
  | .dict xs => pure (.int xs.length)
  | _ => fail
def tupleD (own : Bool) (x : D) : M D := match seqOf x with
  | some xs => do
    chk (!own || immAll xs)
    pure (.tuple xs)
  | none => fail
def listD (own : Bool) (x : D) : M D := match seqOf x with
  | some xs => do
    chk (!own || immAll xs)
    pure (.list xs)
  | none => fail
def intsOf : List D → Option (List Int)
  | [] => some []
  | .int i :: r => (intsOf r).map (i :: ·)
  | _ :: _ => none
def boolsOf : List D → Option (List Bool)
  | [] => some []
  | .bool i :: r => (boolsOf r).map (i :: ·)
  | _ :: _ => none
def sumD (x : D) : M D := match (seqOf x).bind intsOf with
  | some ns => pure (.int ns.sum)
  | none => fail
def allD : D → M D
  | .list xs => match boolsOf xs with
    | some bs => pure (.bool (bs.all id))
    | none => fail
  | _ => fail
def anyD : D → M D
  | .list xs => match boolsOf xs with
    | some bs => pure (.bool (bs.any id))
    | none => fail
  | _ => fail
def isTupCons : D → Bool
  | .tuple (_ :: _) => true
  | _ => false
def isTup : D → Bool
  | .tuple _ => true
  | _ => false
/-- they can be put in order: all places alike -/
def sortable (xs : List D) : Bool := (xs.all fun a => xs.all fun b => W.alike a b) && (xs.all isTupCons || xs.all fun a => !isNoneD a && !isTup a) && xs.all fun a => decide (a.depth ≤ 64)
def leD (a b : D) : Bool := !W.dataLt b a
def sortedD (x : D) : M D := match seqOf x with
  | some xs => do
    chk (sortable xs && immAll xs)
    pure (.list (xs.mergeSort leD))
  | none => fail
def reprD (x : D) : M D := do
  chk (x.showable && fit x.shown.length && !x.hasDict && decide (x.depth ≤ 64))
  pure (.str x.shown)
/-- one element at least, all can be compared -/
def alikes (xs : List D) : Bool := (xs.all fun a => xs.all fun b => W.alike a b) && (xs.all fun a => !isNoneD a) && decide (PyData.depthAll xs ≤ 64) && immAll xs
def minF (x : D) (xs : List D) : D := xs.foldl (fun a y => if W.dataLt y a then y else a) x
def maxF (x : D) (xs : List D) : D := xs.foldl (fun a y => if W.dataLt a y then y else a) x
def bestD (F : D → List D → D) (x : D) : M D := match seqOf x with
  | some (d :: ds) => do
    chk (alikes (d :: ds))
    pure (F d ds)
  | _ => fail
/-- range(lo, hi) -/
def rngD (lo hi : Int) : List D := (List.range (hi - lo).toNat).map fun i => .int (lo + (i : Nat))
def rng62 (i : Int) : Bool := decide (i.natAbs < 2 ^ 62)

/-! ### what a loop walks -/
def wSeq (f : EF) : LF := fun ρ => do
  match seqOf (← f ρ) with
  | some xs => pure xs
  | none => fail
def wRange1 (f : EF) : LF := fun ρ => do
  match ← f ρ with
  | .int n => do
    chk (rng62 n)
    pure (rngD 0 n)
  | _ => fail
def wRange2 (f g : EF) : LF := fun ρ => do
  let x ← f ρ
  let y ← g ρ
  match x, y with
  | .int a, .int b => do
    chk (rng62 a && rng62 b)
    pure (rngD a b)
  | _, _ => fail
def enumD (k : Int) : List D → List D
  | [] => []
  | x :: xs => .tuple [.int k, x] :: enumD (k + 1) xs
def wEnum (f : EF) : LF := fun ρ => do
  match seqOf (← f ρ) with
  | some xs => pure (enumD 0 xs)
  | none => fail
def zipD : List D → List D → List D
  | x :: xs, y :: ys => .tuple [x, y] :: zipD xs ys
  | _, _ => []
def wZip (f g : EF) : LF := fun ρ => do
  let x ← f ρ
  let y ← g ρ
  match seqOf x, seqOf y with
  | some xs, some ys => pure (zipD xs ys)
  | _, _ => fail
/-- list(range(..)), tuple(range(..)) -/
def eListOf (w : LF) : EF := fun ρ => do
  let xs ← w ρ
  chk (fit xs.length)
  pure (.list xs)
def eTupOf (w : LF) : EF := fun ρ => do
  let xs ← w ρ
  chk (fit xs.length)
  pure (.tuple xs)

/-! ### targets -/
abbrev GF := D → Env → M Env
def gName (i : Nat) : GF := fun d ρ => pure (ρ.set i (some d))
def gAll : List GF → List D → Env → M Env
  | [], [], ρ => pure ρ
  | g :: gs, d :: ds, ρ => do gAll gs ds (← g d ρ)
  | _, _, _ => fail
def gTup (gs : List GF) : GF := fun d ρ => match d with
  | .tuple xs => gAll gs xs ρ
  | _ => fail

/-! ### comprehensions -/
def compD (g : GF) (t : TF) (e : EF) (ρ : Env) : List D → M (List D)
  | [] => pure []
  | x :: xs => do
    let ρ' ← g x ρ
    if (← t ρ') = true then do
      let y ← e ρ'
      let ys ← compD g t e ρ xs
      pure (y :: ys)
    else compD g t e ρ xs
def tYes : TF := fun _ => pure true
/-- forget slots -/
def kill (ks : List Nat) (ρ : Env) : Env := ks.foldl (fun ρ k => ρ.set k none) ρ
def eComp (vs : List Nat) (w : LF) (g : GF) (t : TF) (e : EF) : EF := fun ρ => do
  let xs ← w ρ
  let ys ← compD g t e (kill vs ρ) xs
  chk (fit ys.length)
  pure (.list ys)
/-- two fors -/
def compD2 (vs1 : List Nat) (g : GF) (t : TF) (w : LF) (g1 : GF) (t1 : TF) (e : EF) (ρ : Env) : List D → M (List D)
  | [] => pure []
  | x :: xs => do
    let ρ' ← g x ρ
    if (← t ρ') = true then do
      let zs ← w ρ'
      let ys ← compD g1 t1 e (kill vs1 ρ') zs
      let r ← compD2 vs1 g t w g1 t1 e ρ xs
      pure (ys ++ r)
    else compD2 vs1 g t w g1 t1 e ρ xs
def eComp2 (vs vs1 : List Nat) (w : LF) (g : GF) (t : TF) (w1 : LF) (g1 : GF) (t1 : TF) (e : EF) : EF := fun ρ => do
  let xs ← w ρ
  let ys ← compD2 vs1 g t w1 g1 t1 e (kill vs ρ) xs
  chk (fit ys.length)
  pure (.list ys)

/-! ### statements -/
abbrev SF := Env → M Out
def sNext : SF := fun ρ => pure (.nx ρ)
def sSeq (s t : SF) : SF := fun ρ => do
  match ← s ρ with
  | .nx ρ' => t ρ'
  | o => pure o
def sExpr (f : EF) : SF := fun ρ => do
  let _ ← f ρ
  pure (.nx ρ)
def sRet (f : EF) : SF := fun ρ => do pure (.rt (← f ρ))
def sBreak : SF := fun ρ => pure (.bk ρ)
def sCont : SF := fun ρ => pure (.ct ρ)
def sIf (c : TF) (s t : SF) : SF := fun ρ => do if (← c ρ) = true then s ρ else t ρ
def sFail : SF := fun _ => fail
def sAsg (f : EF) (g : GF) : SF := fun ρ => do
  let d ← f ρ
  pure (.nx (← g d ρ))
def setAll {α : Type} : List Nat → List α → List (Option α) → List (Option α)
  | i :: is, d :: ds, ρ => setAll is ds (ρ.set i (some d))
  | _, _, ρ => ρ
/-- a, b = x, y -/
def sPar (is : List Nat) (f : LF) : SF := fun ρ => do
  let ds ← f ρ
  chk (ds.length == is.length)
  pure (.nx (setAll is ds ρ))
def killO (ks : List Nat) : Out → Out
  | .nx ρ => .nx (kill ks ρ)
  | .rt d => .rt d
  | .bk ρ => .bk (kill ks ρ)
  | .ct ρ => .ct (kill ks ρ)
def sKill (ks : List Nat) (s : SF) : SF := fun ρ => do pure (killO ks (← s ρ))
def forD (body : D → SF) : List D → SF
  | [], ρ => pure (.nx ρ)
  | x :: xs, ρ => do
    match ← body x ρ with
    | .nx ρ' => forD body xs ρ'
    | .ct ρ' => forD body xs ρ'
    | .bk ρ' => pure (.nx ρ')
    | .rt d => pure (.rt d)
def turnD (g : GF) (b : SF) : D → SF := fun x ρ => do b (← g x ρ)
def sFor (w : LF) (g : GF) (b : SF) : SF := fun ρ => do
  let xs ← w ρ
  forD (turnD g b) xs ρ
def whileD (c : TF) (b : SF) : Nat → SF
  | 0, _ => fail
  | n + 1, ρ => do
    if (← c ρ) = true then do
      match ← b ρ with
      | .nx ρ' => whileD c b n ρ'
      | .ct ρ' => whileD c b n ρ'
      | .bk ρ' => pure (.nx ρ')
      | .rt d => pure (.rt d)
    else pure (.nx ρ)
def sWhile (N : Nat) (c : TF) (b : SF) : SF := fun ρ => whileD c b N ρ

/-! stores into lists that a name holds -/
def putAt (xs : List D) (i : Int) (v : D) : Option (List D) := (ixD xs.length i).map fun j => xs.set j v
/-- x[i] = e (e first) -/
def sSetIx (x : Nat) (fi fe : EF) : SF := fun ρ => do
  let v ← fe ρ
  let i ← fi ρ
  match ρ[x]?, i with
  | some (some (.list xs)), .int k => match putAt xs k v with
    | some xs' => pure (.nx (ρ.set x (some (.list xs'))))
    | none => fail
  | _, _ => fail
/-- x[i][j] = e -/
def sSetIx2 (x : Nat) (fi fj fe : EF) : SF := fun ρ => do
  let v ← fe ρ
  let i ← fi ρ
  let j ← fj ρ
  match ρ[x]?, i, j with
  | some (some (.list xs)), .int k, .int l => match (ixD xs.length k).bind fun p => xs[p]? with
    | some (.list ys) => match putAt ys l v with
      | some ys' => match putAt xs k (.list ys') with
        | some xs' => pure (.nx (ρ.set x (some (.list xs'))))
        | none => fail
      | none => fail
    | _ => fail
  | _, _, _ => fail
/-- x.append(e) -/
def sAppend (x : Nat) (fe : EF) : SF := fun ρ => do
  let v ← fe ρ
  match ρ[x]? with
  | some (some (.list xs)) => do
    chk (decide (xs.length < sizeLine))
    pure (.nx (ρ.set x (some (.list (xs ++ [v])))))
  | _ => fail
/-- x.extend(e), e a list -/
def sExtend (x : Nat) (fe : EF) : SF := fun ρ => do
  let v ← fe ρ
  match ρ[x]?, v with
  | some (some (.list xs)), .list ys => do
    chk (fit (xs.length + ys.length) && immAll ys)
    pure (.nx (ρ.set x (some (.list (xs ++ ys)))))
  | _, _ => fail

/-- a def: its parameters, its slots, its body; None behind its end -/
def endD : Out → M D
  | .nx _ => pure .none
  | .rt d => pure d
  | _ => fail
def runDef (n m : Nat) (b : SF) (ds : List D) : M D := do
  chk (ds.length == n)
  endD (← b (ds.map some ++ List.replicate (m - n) none))
/-- .. whose first parameter is the draws' source -/
def runDefS (n m : Nat) (b : SF) (ds : List D) : M D := do
  chk (ds.length == n)
  endD (← b (none :: ds.map some ++ List.replicate (m - 1 - n) none))
/-- the source at the start -/
def openS (ns : List Int) : Src := ⟨ns.map fun i => if i < 0 then -i else i, 1, ns.foldl (fun s c => Int.fmod (s * 69069 + c * 31 + 5) 2147483629) 11, 0⟩
/-- the law: its first statement makes the source -/
def runLaw (m : Nat) (b : SF) (ns : List Int) : Option D := (b (List.replicate m none) (openS ns)).bind fun p => (endD p.1 p.2).map (·.1)
/-! ### the draws' source -/
inductive SK where
  | left | mixed | turn
def SK.get (k : SK) (S : Src) : Int := match k with
  | .left => S.left
  | .mixed => S.mixed
  | .turn => S.turn
def SK.set (k : SK) (i : Int) (S : Src) : Src := match k with
  | .left => { S with left := i }
  | .mixed => { S with mixed := i }
  | .turn => { S with turn := i }
def eSrc (k : SK) : EF := fun _ S => some (.int (k.get S), S)
def sSrc (k : SK) (f : EF) : SF := fun ρ => do
  match ← f ρ with
  | .int i => fun S => some (.nx ρ, k.set i S)
  | _ => fail
/-- len(source['cells']) -/
def eSrcLen : EF := fun _ S => some (.int S.cells.length, S)
/-- source['left'] = source['cells'].pop() -/
def sSrcPop : SF := fun ρ S => match S.cells with
  | c :: cs => some (.nx ρ, { S with left := c, cells := cs })
  | [] => none
def drain : Int → List Int → Int × List Int
  | l, [] => (l, [])
  | l, c :: cs => if l < 2 then drain c cs else (l, c :: cs)
def Src.drained (S : Src) : Src := { S with left := (drain S.left S.cells).1, cells := (drain S.left S.cells).2 }
/-- cells = source['cells'], at i; while source['left'] < 2 and len(cells) > 0: source['left'] = cells.pop() -/
def sDrain (i : Nat) : SF := fun ρ S => if i < ρ.length then some (.nx (ρ.set i none), S.drained) else none
/-- [others.pop(pick(source, len(others))) for lap in range(len(others))] -/
def mixD (pick : List D → M D) : Nat → List D → M (List D)
  | 0, _ => pure []
  | n + 1, xs => do
    match ← pick [.int xs.length] with
    | .int j => match ixD xs.length j with
      | some p => do
        let ys ← mixD pick n (xs.eraseIdx p)
        pure (xs.getD p .none :: ys)
      | none => fail
    | _ => fail
def eMix (i : Nat) (pick : List D → M D) : EF := fun ρ => do
  match ρ[i]? with
  | some (some (.list xs)) => do
    chk (immAll xs && decide (xs.length ≤ 16777216))
    let ys ← mixD pick xs.length xs
    pure (.list ys)
  | _ => fail
end DL

/-! DS1: data as they lie in the abstract heap; the relation of slots and names; judgements. -/
namespace DL
open PySem PySem.Spec PyProof.Rows L2

abbrev St := L2.St
def kD : Key → D
  | .inl i => .int i
  | .inr x => .str x
/-- a tuple at a, tracked or of the module's -/
def TupAt (K : PySem.W.Frag) (H : Hp) (a : Addr) (xs : List V) : Prop :=
  H a = some (.tup xs) ∨ ∃ (o : Obj) (its : Array Value) (n : Nat), K.lookup a = some o ∧ o.cls = .type "tuple" ∧ o.data = .seq its n ∧ its.size ≤ sizeLine ∧ Vals xs its.toList
theorem TupAt.sq {K : PySem.W.Frag} {H : Hp} {a : Addr} {xs : List V} (h : TupAt K H a xs) : SqT K H a xs := by
  rcases h with h | h
  · exact .inl (.inl h)
  · exact .inr h
mutual
inductive Den (K : PySem.W.Frag) (H : Hp) : V → D → List Addr → Prop
  | non : Den K H .non .none []
  | bl (b : Bool) : Den K H (.bl b) (.bool b) []
  | int (i : Int) : Den K H (.int i) (.int i) []
  | str (x : Str) : Den K H (.str x) (.str x) []
  | lst {a : Addr} {xs : List V} {ds : List D} {F : List Addr} : H a = some (.lst xs) → DenL K H xs ds F → Den K H (.ref a) (.list ds) (a :: F)
  | tup {a : Addr} {xs : List V} {ds : List D} {F : List Addr} : TupAt K H a xs → DenL K H xs ds F → Den K H (.ref a) (.tuple ds) F
  | dctK {a : Addr} {kvs : List (Key × V)} {ds : List (D × D)} {F : List Addr} : H a = some (.dK kvs) → ds.map (·.1) = kvs.map (fun p => kD p.1) → DenL K H (kvs.map (·.2)) (ds.map (·.2)) F → Den K H (.ref a) (.dict ds) (a :: F)
  | dctT {a : Addr} {kvs : List (List Key × V)} {ds : List (D × D)} {F : List Addr} : H a = some (.dT kvs) → ds.map (·.1) = kvs.map (fun p => .tuple (p.1.map kD)) → DenL K H (kvs.map (·.2)) (ds.map (·.2)) F → Den K H (.ref a) (.dict ds) (a :: F)
inductive DenL (K : PySem.W.Frag) (H : Hp) : List V → List D → List Addr → Prop
  | nil : DenL K H [] [] []
  | cons {v : V} {vs : List V} {d : D} {ds : List D} {F G : List Addr} : Den K H v d F → DenL K H vs ds G → DenL K H (v :: vs) (d :: ds) (F ++ G)
end

/-- what stood stands, but for R; tuples stand -/
structure Ext (R : List Addr) (H H' : Hp) : Prop where
  keep : ∀ a o, H a = some o → a ∉ R → H' a = some o
  tup : ∀ a xs, H a = some (.tup xs) → H' a = some (.tup xs)
  dom : ∀ a, H a ≠ none → H' a ≠ none
theorem upd_dom {H : Hp} {p a : Addr} {o : HO} (h : H a ≠ none) : upd H p o a ≠ none := by
  by_cases e : a = p
  · subst e
    rw [upd_same]
    exact fun z => nomatch z
  · rw [upd_ne e]
    exact h
theorem Ext.refl {R : List Addr} {H : Hp} : Ext R H H := ⟨fun _ _ h _ => h, fun _ _ h => h, fun _ h => h⟩
theorem Ext.trans {R : List Addr} {H H1 H2 : Hp} (a : Ext R H H1) (b : Ext R H1 H2) : Ext R H H2 := ⟨fun x o h n => b.keep x o (a.keep x o h n) n, fun x o h => b.tup x o (a.tup x o h), fun x h => b.dom x (a.dom x h)⟩
theorem Ext.new {R : List Addr} {H : Hp} {p : Addr} {o : HO} (h : H p = none) : Ext R H (upd H p o) :=
  ⟨fun a u e _ => by rw [upd_ne (ne_of_none e h)]; exact e, fun a u e => by rw [upd_ne (ne_of_none e h)]; exact e, fun _ => upd_dom⟩
/-- a store at an address within R that holds no tuple -/
theorem Ext.poke {R : List Addr} {H : Hp} {p : Addr} {o : HO} (hp : p ∈ R) (ht : ∀ xs, H p ≠ some (.tup xs)) : Ext R H (upd H p o) :=
  ⟨fun a u e n => by
    have hne : a ≠ p := fun z => n (z ▸ hp)
    rw [upd_ne hne]
    exact e, fun a xs e => by
    have hne : a ≠ p := fun z => ht xs (z ▸ e)
    rw [upd_ne hne]
    exact e, fun _ => upd_dom⟩
theorem Ext.mono {R R' : List Addr} {H H' : Hp} (h : Ext R H H') (s : ∀ a ∈ R, a ∈ R') : Ext R' H H' := ⟨fun a o e n => h.keep a o e fun z => n (s a z), h.tup, h.dom⟩
theorem Ext.nn {R : List Addr} {H H' : Hp} (h : Ext R H H') {a : Addr} (e : H' a = Option.none) (n : a ∉ R) : H a = Option.none := by
  cases q : H a with
  | none => rfl
  | some o =>
    have z := h.keep a o q n
    rw [e] at z
    cases z

section
variable {K : PySem.W.Frag} {H H' : Hp}
theorem TupAt.ext {R : List Addr} {a : Addr} {xs : List V} (h : TupAt K H a xs) (e : Ext R H H') : TupAt K H' a xs := by
  rcases h with h | h
  · exact .inl (e.tup _ _ h)
  · exact .inr h
mutual
theorem Den.ext {R : List Addr} (e : Ext R H H') : ∀ {v : V} {d : D} {F : List Addr}, Den K H v d F → (∀ a ∈ F, a ∉ R) → Den K H' v d F
  | _, _, _, .non, _ => .non
  | _, _, _, .bl b, _ => .bl b
  | _, _, _, .int i, _ => .int i
  | _, _, _, .str x, _ => .str x
  | _, _, _, .lst h l, n => .lst (e.keep _ _ h (n _ List.mem_cons_self)) (DenL.ext e l fun a z => n a (List.mem_cons_of_mem _ z))
  | _, _, _, .tup h l, n => .tup (h.ext e) (DenL.ext e l n)
  | _, _, _, .dctK h k l, n => .dctK (e.keep _ _ h (n _ List.mem_cons_self)) k (DenL.ext e l fun a z => n a (List.mem_cons_of_mem _ z))
  | _, _, _, .dctT h k l, n => .dctT (e.keep _ _ h (n _ List.mem_cons_self)) k (DenL.ext e l fun a z => n a (List.mem_cons_of_mem _ z))
theorem DenL.ext {R : List Addr} (e : Ext R H H') : ∀ {v : List V} {d : List D} {F : List Addr}, DenL K H v d F → (∀ a ∈ F, a ∉ R) → DenL K H' v d F
  | _, _, _, .nil, _ => .nil
  | _, _, _, .cons h l, n => .cons (Den.ext e h fun a z => n a (List.mem_append_left _ z)) (DenL.ext e l fun a z => n a (List.mem_append_right _ z))
end
-- a store at an address that is not within
mutual
theorem Den.wr {p : Addr} {o : HO} (hp : ∀ xs, H p ≠ some (.tup xs)) : ∀ {v : V} {d : D} {F : List Addr}, Den K H v d F → p ∉ F → Den K (upd H p o) v d F
  | _, _, _, .non, _ => .non
  | _, _, _, .bl b, _ => .bl b
  | _, _, _, .int i, _ => .int i
  | _, _, _, .str x, _ => .str x
  | _, _, _, .lst h l, n => .lst (by rw [upd_ne fun z => n (by rw [z]; exact List.mem_cons_self)]; exact h) (DenL.wr hp l fun z => n (List.mem_cons_of_mem _ z))
  | _, _, _, .tup h l, n => .tup (by
      rcases h with h | h
      · exact .inl (by rw [upd_ne fun z => hp _ (z ▸ h)]; exact h)
      · exact .inr h) (DenL.wr hp l n)
  | _, _, _, .dctK h k l, n => .dctK (by rw [upd_ne fun z => n (by rw [z]; exact List.mem_cons_self)]; exact h) k (DenL.wr hp l fun z => n (List.mem_cons_of_mem _ z))
  | _, _, _, .dctT h k l, n => .dctT (by rw [upd_ne fun z => n (by rw [z]; exact List.mem_cons_self)]; exact h) k (DenL.wr hp l fun z => n (List.mem_cons_of_mem _ z))
theorem DenL.wr {p : Addr} {o : HO} (hp : ∀ xs, H p ≠ some (.tup xs)) : ∀ {v : List V} {d : List D} {F : List Addr}, DenL K H v d F → p ∉ F → DenL K (upd H p o) v d F
  | _, _, _, .nil, _ => .nil
  | _, _, _, .cons h l, n => .cons (Den.wr hp h fun z => n (List.mem_append_left _ z)) (DenL.wr hp l fun z => n (List.mem_append_right _ z))
end
mutual
/-- what is within stands in the heap -/
theorem Den.dom : ∀ {v : V} {d : D} {F : List Addr}, Den K H v d F → ∀ a ∈ F, H a ≠ none
  | _, _, _, .non, _, z => nomatch z
  | _, _, _, .bl b, _, z => nomatch z
  | _, _, _, .int i, _, z => nomatch z
  | _, _, _, .str x, _, z => nomatch z
  | _, _, _, .lst h l, a, z => by
    rcases List.mem_cons.mp z with rfl | z
    · rw [h]; exact fun q => nomatch q
    · exact DenL.dom l a z
  | _, _, _, .tup h l, a, z => DenL.dom l a z
  | _, _, _, .dctK h k l, a, z => by
    rcases List.mem_cons.mp z with rfl | z
    · rw [h]; exact fun q => nomatch q
    · exact DenL.dom l a z
  | _, _, _, .dctT h k l, a, z => by
    rcases List.mem_cons.mp z with rfl | z
    · rw [h]; exact fun q => nomatch q
    · exact DenL.dom l a z
theorem DenL.dom : ∀ {v : List V} {d : List D} {F : List Addr}, DenL K H v d F → ∀ a ∈ F, H a ≠ none
  | _, _, _, .nil, _, z => nomatch z
  | _, _, _, .cons h l, a, z => by
    rcases List.mem_append.mp z with z | z
    · exact Den.dom h a z
    · exact DenL.dom l a z
end
mutual
theorem Den.imm : ∀ {v : V} {d : D} {F : List Addr}, Den K H v d F → imm d = true → F = []
  | _, _, _, .non, _ => rfl
  | _, _, _, .bl b, _ => rfl
  | _, _, _, .int i, _ => rfl
  | _, _, _, .str x, _ => rfl
  | _, _, _, .lst h l, z => by simp [DL.imm] at z
  | _, _, _, .tup h l, z => DenL.imm l (by simpa [DL.imm] using z)
  | _, _, _, .dctK h k l, z => by simp [DL.imm] at z
  | _, _, _, .dctT h k l, z => by simp [DL.imm] at z
theorem DenL.imm : ∀ {v : List V} {d : List D} {F : List Addr}, DenL K H v d F → immAll d = true → F = []
  | _, _, _, .nil, _ => rfl
  | _, _, _, .cons (d := d) (ds := ds) h l, z => by
    have z' : DL.imm d = true ∧ immAll ds = true := by simpa [immAll] using z
    rw [Den.imm h z'.1, DenL.imm l z'.2]
    rfl
end
mutual
theorem Den.dpN : ∀ {v : V} {d : D} {F : List Addr}, Den K H v d F → d.hasDict = false → Dp K H v d
  | _, _, _, .non, _ => .non
  | _, _, _, .bl b, _ => .bl b
  | _, _, _, .int i, _ => .int i
  | _, _, _, .str x, _ => .str x
  | _, _, _, .lst h l, z => .lst (.inl (.inl h)) (DenL.dpN l (by simpa [PyData.hasDict] using z))
  | _, _, _, .tup h l, z => .tup h.sq (DenL.dpN l (by simpa [PyData.hasDict] using z))
  | _, _, _, .dctK h k l, z => by simp [PyData.hasDict] at z
  | _, _, _, .dctT h k l, z => by simp [PyData.hasDict] at z
theorem DenL.dpN : ∀ {v : List V} {d : List D} {F : List Addr}, DenL K H v d F → PyData.hasDictAll d = false → DpAll K H v d
  | _, _, _, .nil, _ => .nil
  | _, _, _, .cons (d := d) (ds := ds) h l, z => by
    have z' : d.hasDict = false ∧ PyData.hasDictAll ds = false := by simpa [PyData.hasDictAll] using z
    exact .cons (Den.dpN h z'.1) (DenL.dpN l z'.2)
end
theorem Den.dp {v : V} {d : D} {F : List Addr} (h : Den K H v d F) (z : d.canLay0 = true) : Dp K H v d := h.dpN (PyData.hasDict_of_canLay d z)
mutual
theorem imm_noDict : ∀ d : D, imm d = true → d.hasDict = false
  | .none, _ => by simp [PyData.hasDict]
  | .bool _, _ => by simp [PyData.hasDict]
  | .int _, _ => by simp [PyData.hasDict]
  | .str _, _ => by simp [PyData.hasDict]
  | .tuple xs, h => by
    simp only [PyData.hasDict]
    exact immAll_noDict xs (by simpa [imm] using h)
  | .list _, h => by simp [imm] at h
  | .dict _, h => by simp [imm] at h
theorem immAll_noDict : ∀ ds : List D, immAll ds = true → PyData.hasDictAll ds = false
  | [], _ => by simp [PyData.hasDictAll]
  | d :: ds, h => by
    have h' : imm d = true ∧ immAll ds = true := by simpa [immAll] using h
    simp [PyData.hasDictAll, imm_noDict d h'.1, immAll_noDict ds h'.2]
end
theorem DenL.length : ∀ {v : List V} {d : List D} {F : List Addr}, DenL K H v d F → v.length = d.length
  | _, _, _, .nil => rfl
  | _, _, _, .cons h l => by simp [DenL.length l]
theorem DenL.get : ∀ {v : List V} {d : List D} {F : List Addr} {i : Nat} {x : D}, DenL K H v d F → d[i]? = some x → ∃ y G, v[i]? = some y ∧ Den K H y x G ∧ ∀ a ∈ G, a ∈ F
  | _, _, _, _, _, .nil, e => by simp at e
  | _, _, _, 0, _, .cons h l, e => by
    simp at e
    subst e
    exact ⟨_, _, rfl, h, fun a z => List.mem_append_left _ z⟩
  | _, _, _, i + 1, _, .cons h l, e => by
    obtain ⟨y, G, e1, e2, e3⟩ := DenL.get (i := i) l (by simpa using e)
    exact ⟨y, G, by simpa using e1, e2, fun a z => List.mem_append_right _ (e3 a z)⟩
theorem DenL.append : ∀ {v w : List V} {d e : List D} {F G : List Addr}, DenL K H v d F → DenL K H w e G → DenL K H (v ++ w) (d ++ e) (F ++ G)
  | _, _, _, _, _, _, .nil, l => l
  | _, _, _, _, _, _, .cons h l, m => by
    rw [List.append_assoc]
    exact .cons h (DenL.append l m)
theorem DenL.one {v : V} {d : D} {F : List Addr} (h : Den K H v d F) : DenL K H [v] [d] F := by
  have z := DenL.cons h .nil
  rwa [List.append_nil] at z
theorem DenL.inj_imm : ∀ {v : List V} {d : List D} {F : List Addr} {i : Nat} {y : V}, DenL K H v d F → v[i]? = some y → ∃ x G, d[i]? = some x ∧ Den K H y x G ∧ ∀ a ∈ G, a ∈ F
  | _, _, _, _, _, .nil, e => by simp at e
  | _, _, _, 0, _, .cons h l, e => by
    simp at e
    subst e
    exact ⟨_, _, rfl, h, fun a z => List.mem_append_left _ z⟩
  | _, _, _, i + 1, _, .cons h l, e => by
    obtain ⟨y, G, e1, e2, e3⟩ := DenL.inj_imm (i := i) l (by simpa using e)
    exact ⟨y, G, by simpa using e1, e2, fun a z => List.mem_append_right _ (e3 a z)⟩
/-- the place of one item -/
theorem DenL.at : ∀ {v : List V} {d : List D} {F : List Addr} {i : Nat} {x : D}, DenL K H v d F → d[i]? = some x → ∃ y G A B, v[i]? = some y ∧ Den K H y x G ∧ F = A ++ G ++ B ∧
    ∀ (H' : Hp) (y' : V) (x' : D) (G' : List Addr), (∀ w e E, Den K H w e E → (∀ a ∈ E, a ∈ A ∨ a ∈ B) → Den K H' w e E) → Den K H' y' x' G' → DenL K H' (v.set i y') (d.set i x') (A ++ G' ++ B)
  | _, _, _, _, _, .nil, e => by simp at e
  | _, _, _, 0, _, .cons (F := F) (G := G) h l, e => by
    simp at e
    subst e
    refine ⟨_, F, [], G, rfl, h, by simp, fun H' y' x' G' st q => ?_⟩
    simp only [List.set_cons_zero, List.nil_append]
    refine .cons q ?_
    have all : ∀ {v : List V} {d : List D} {E : List Addr}, DenL K H v d E → (∀ a ∈ E, a ∈ G) → DenL K H' v d E := by
      intro v d E
      intro m
      induction m using DenL.rec (motive_1 := fun _ _ _ _ => True) with
      | non => trivial
      | bl => trivial
      | int => trivial
      | str => trivial
      | lst => trivial
      | tup => trivial
      | dctK => trivial
      | dctT => trivial
      | nil => exact fun _ => .nil
      | cons hh ll _ ih => exact fun hs => .cons (st _ _ _ hh fun a z => .inr (hs a (List.mem_append_left _ z))) (ih fun a z => hs a (List.mem_append_right _ z))
    exact all l fun a z => z
  | _, _, _, i + 1, _, .cons (F := F) (G := G) h l, e => by
    obtain ⟨y, G1, A, B, e1, e2, e3, e4⟩ := DenL.at (i := i) l (by simpa using e)
    refine ⟨y, G1, F ++ A, B, by simpa using e1, e2, by rw [e3]; simp [List.append_assoc], fun H' y' x' G' st q => ?_⟩
    simp only [List.set_cons_succ]
    rw [show F ++ A ++ G' ++ B = F ++ (A ++ G' ++ B) by simp [List.append_assoc]]
    exact .cons (st _ _ _ h fun a z => .inl (List.mem_append_left _ z)) (e4 H' y' x' G' (fun w e E hh hs => st w e E hh fun a z => (hs a z).elim (fun q => .inl (List.mem_append_right _ q)) .inr) q)
end
end DL

/-! DS2: the state's relation; judgements of expressions; the first rules. -/
namespace DL
open PySem PySem.Spec PyProof.Rows L2

/-- the source as it lies: its dict at p, its cells at q -/
def SrcAt (H : Hp) (p q : Addr) (S : Src) : Prop :=
  H p = some (.dK [(.inr "cells", .ref q), (.inr "left", .int S.left), (.inr "mixed", .int S.mixed), (.inr "turn", .int S.turn)]) ∧ H q = some (.lst ((S.cells.reverse).map V.int))
theorem SrcAt.ext {R : List Addr} {H H' : Hp} {p q : Addr} {S : Src} (h : SrcAt H p q S) (e : Ext R H H') (hp : p ∉ R) (hq : q ∉ R) : SrcAt H' p q S := ⟨e.keep _ _ h.1 hp, e.keep _ _ h.2 hq⟩

/-- what a def's run keeps in mind: the source's place, the heap at its entry, addresses that are not to be met -/
structure Cc where
  src : Option (Addr × Addr)
  H0 : Hp
  P : Addr → Prop
def Cc.R (c : Cc) : List Addr := match c.src with
  | some (p, q) => [p, q]
  | none => []
/-- a value that is held, not by a name -/
structure Tmp where
  v : V
  d : D
  F : List Addr
/-- what is written of a def: the names whose lists it changes, the source's name -/
structure Sg where
  mu : List Nat
  sc : Option Nat
def SrcOk (sc : Option Nat) (c : Cc) (S : Src) (σ : St) (H : Hp) : Prop := match sc, c.src with
  | none, none => True
  | some i, some (p, q) => σ[i]? = some (some (.ref p)) ∧ SrcAt H p q S
  | _, _ => False
structure StOk (K : PySem.W.Frag) (G : Sg) (c : Cc) (T : List Tmp) (fp : Nat → List Addr) (ρ : Env) (S : Src) (σ : St) (H : Hp) : Prop where
  den : ∀ i d, ρ[i]? = some (some d) → ∃ v, σ[i]? = some (some v) ∧ Den K H v d (fp i)
  tmp : ∀ t ∈ T, Den K H t.v t.d t.F
  av : ∀ i d, ρ[i]? = some (some d) → ∀ a ∈ fp i, ¬ c.P a
  tav : ∀ t ∈ T, ∀ a ∈ t.F, ¬ c.P a
  sep : ∀ i j d e, i ∈ G.mu → i ≠ j → ρ[i]? = some (some d) → ρ[j]? = some (some e) → ∀ a ∈ fp i, a ∉ fp j
  tsep : ∀ i d, i ∈ G.mu → ρ[i]? = some (some d) → ∀ t ∈ T, ∀ a ∈ fp i, a ∉ t.F
  nd : ∀ i d, i ∈ G.mu → ρ[i]? = some (some d) → (fp i).Nodup
  new : ∀ i d, i ∈ G.mu → ρ[i]? = some (some d) → ∀ a ∈ fp i, c.H0 a = none
  ext : Ext c.R c.H0 H
  hP : ∀ a ∈ c.R, c.P a
  pd : ∀ a, c.P a → H a ≠ none
  src : SrcOk G.sc c S σ H
  len : ρ.length = σ.length

inductive Md where
  | bor | val | own
/-- what is known of what a value holds: nothing; no changing name has it; it is new -/
def ResOk (G : Sg) (fp : Nat → List Addr) (ρ : Env) (H : Hp) (m : Md) (F : List Addr) : Prop := match m with
  | .bor => True
  | .val => ∀ i d, i ∈ G.mu → ρ[i]? = some (some d) → ∀ a ∈ F, a ∉ fp i
  | .own => F.Nodup ∧ ∀ a ∈ F, H a = none

section
variable {K : PySem.W.Frag} {G : Sg} {c : Cc} {T : List Tmp} {fp : Nat → List Addr} {ρ : Env} {S S' : Src} {σ : St} {H H' : Hp} {m : Md} {F : List Addr}
theorem StOk.notR (h : StOk K G c T fp ρ S σ H) {a : Addr} (n : ¬ c.P a) : a ∉ c.R := fun z => n (h.hP a z)
theorem StOk.step (h : StOk K G c T fp ρ S σ H) (e : Ext c.R H H') (s : SrcOk G.sc c S' σ H') : StOk K G c T fp ρ S' σ H' :=
  ⟨fun i d z => let ⟨v, q1, q2⟩ := h.den i d z; ⟨v, q1, q2.ext e fun a q => h.notR (h.av i d z a q)⟩, fun t z => (h.tmp t z).ext e fun a q => h.notR (h.tav t z a q), h.av, h.tav, h.sep, h.tsep, h.nd, h.new, h.ext.trans e, h.hP, fun a z => e.dom a (h.pd a z), s, h.len⟩
theorem SrcOk.ext (h : SrcOk G.sc c S σ H) (e : Ext [] H H') : SrcOk G.sc c S σ H' := by
  unfold SrcOk at h ⊢
  split at h
  · trivial
  · exact ⟨h.1, h.2.ext e (by simp) (by simp)⟩
  · exact h.elim
theorem StOk.grow (h : StOk K G c T fp ρ S σ H) (e : Ext [] H H') : StOk K G c T fp ρ S σ H' := h.step (e.mono fun _ z => nomatch z) (h.src.ext e)
theorem StOk.new_av (h : StOk K G c T fp ρ S σ H) {p : Addr} (n : H p = none) : ¬ c.P p := fun z => h.pd p z n
theorem ResOk.val (h : StOk K G c T fp ρ S σ H) (r : ResOk G fp ρ H m F) (hm : m ≠ .bor) : ResOk G fp ρ H .val F := by
  cases m with
  | bor => exact absurd rfl hm
  | val => exact r
  | own =>
    intro i d hi hd a ha z
    obtain ⟨v, _, q⟩ := h.den i d hd
    exact q.dom a z (r.2 a ha)
theorem ResOk.imm (e : F = []) : ResOk G fp ρ H m F := by
  subst e
  cases m with
  | bor => trivial
  | val => exact fun _ _ _ _ _ z => nomatch z
  | own => exact ⟨List.nodup_nil, fun _ z => nomatch z⟩
/-- seen from an earlier heap -/
theorem ResOk.back {R : List Addr} {P : Addr → Prop} (r : ResOk G fp ρ H' m F) (e : Ext R H H') (hP : ∀ a ∈ R, P a) (n : ∀ a ∈ F, ¬ P a) : ResOk G fp ρ H m F := by
  cases m with
  | bor => trivial
  | val => exact r
  | own => exact ⟨r.1, fun a z => e.nn (r.2 a z) fun q => n a z (hP a q)⟩
end

/-! ### judgements -/
def tD (K : PySem.W.Frag) (G : Sg) (m : Md) (f : EF) : TE := fun σ H Q => ∃ c T fp ρ S d S', StOk K G c T fp ρ S σ H ∧ f ρ S = some (d, S') ∧
  ∀ v H' F, StOk K G c T fp ρ S' σ H' → Ext c.R H H' → Den K H' v d F → (∀ a ∈ F, ¬ c.P a) → ResOk G fp ρ H m F → Q v H'
def tDT (K : PySem.W.Frag) (G : Sg) (f : TF) : TT := fun σ H Q => ∃ c T fp ρ S d S', StOk K G c T fp ρ S σ H ∧ f ρ S = some (d, S') ∧
  ∀ H', StOk K G c T fp ρ S' σ H' → Ext c.R H H' → Q d H'
def tDA (K : PySem.W.Frag) (G : Sg) (m : Md) (f : LF) : TA := fun σ H Q => ∃ c T fp ρ S d S', StOk K G c T fp ρ S σ H ∧ f ρ S = some (d, S') ∧
  ∀ v H' F, StOk K G c T fp ρ S' σ H' → Ext c.R H H' → DenL K H' v d F → (∀ a ∈ F, ¬ c.P a) → ResOk G fp ρ H m F → Q v H'
abbrev EV (X : Cx) (G : Sg) (m : Md) (e : Expr) (f : EF) : Prop := PE X e (tD X.K G m f)
abbrev TV (X : Cx) (G : Sg) (e : Expr) (f : TF) : Prop := PT X e (tDT X.K G f)
abbrev TW (X : Cx) (G : Sg) (e : Expr) (f : TF) : Prop := PW X e (tDT X.K G f)
abbrev AV (X : Cx) (G : Sg) (m : Md) (es : List Expr) (f : LF) : Prop := PA X es (tDA X.K G m f)

theorem PE.mono {X : Cx} {e : Expr} {t t' : TE} (h : PE X e t) (m : ∀ σ H Q, t' σ H Q → t σ H Q) : PE X e t' := ⟨fun pins s σ H Q I q => h.run pins s σ H Q I (m σ H Q q)⟩
theorem PT.mono {X : Cx} {e : Expr} {t t' : TT} (h : PT X e t) (m : ∀ σ H Q, t' σ H Q → t σ H Q) : PT X e t' := ⟨fun pins s σ H Q I q => h.run pins s σ H Q I (m σ H Q q)⟩
theorem PW.mono {X : Cx} {e : Expr} {t t' : TT} (h : PW X e t) (m : ∀ σ H Q, t' σ H Q → t σ H Q) : PW X e t' := ⟨fun wh pins s σ H Q I q => h.run wh pins s σ H Q I (m σ H Q q)⟩
theorem PA.mono {X : Cx} {e : List Expr} {t t' : TA} (h : PA X e t) (m : ∀ σ H Q, t' σ H Q → t σ H Q) : PA X e t' := ⟨fun pos pins s σ H Q I q => h.run pos pins s σ H Q I (m σ H Q q)⟩

/-! ### the monad -/
theorem M.bind_some {α β : Type} {x : M α} {f : α → M β} {S S' : Src} {b : β} (h : (x >>= f) S = some (b, S')) : ∃ a S1, x S = some (a, S1) ∧ f a S1 = some (b, S') := by
  have h' : (x S).bind (fun p => f p.1 p.2) = some (b, S') := h
  cases e : x S with
  | none => rw [e] at h'; cases h'
  | some p =>
    obtain ⟨a, S1⟩ := p
    rw [e] at h'
    exact ⟨a, S1, rfl, h'⟩
theorem M.pure_some {α : Type} {a b : α} {S S' : Src} (h : (pure a : M α) S = some (b, S')) : a = b ∧ S = S' := by
  have h' : some (a, S) = some (b, S') := h
  cases h'
  exact ⟨rfl, rfl⟩
theorem M.chk_some {b : Bool} {S S' : Src} {u : Unit} (h : chk b S = some (u, S')) : b = true ∧ S = S' := by
  unfold chk at h
  by_cases e : b = true
  · rw [if_pos e] at h
    exact ⟨e, (M.pure_some h).2⟩
  · rw [if_neg e] at h
    cases h
theorem M.fail_some {α : Type} {S S' : Src} {u : α} (h : (fail : M α) S = some (u, S')) : False := by cases h

theorem eVar_some {i : Nat} {ρ : Env} {S S' : Src} {d : D} (h : eVar i ρ S = some (d, S')) : ρ[i]? = some (some d) ∧ S = S' := by
  unfold eVar at h
  cases e : ρ[i]? with
  | none => rw [e] at h; exact (M.fail_some h).elim
  | some o =>
    cases o with
    | none => rw [e] at h; exact (M.fail_some h).elim
    | some d' =>
      rw [e] at h
      obtain ⟨rfl, rfl⟩ := M.pure_some h
      exact ⟨rfl, rfl⟩

section
variable {X : Cx} {G : Sg} {m ma mb : Md} {a b : Expr} {fa fb : EF} {pos : Pos}

/-! ### names, constants -/
theorem ev_var {i : Nat} {x : Str} (hN : X.N[i]? = some x) (hv : Vis X.env.scope x) (hd : (x == ("__debug__" : Str)) = false := by decide) (hcd : (x == ("__classdict__" : Str)) = false := by decide) : EV X G .bor (.Name x pos) (eVar i) := by
  refine PE.mono (pe_var hN hv hd hcd) fun σ H Q h => ?_
  obtain ⟨c, T, fp, ρ, S, d, S', ok, hf, q⟩ := h
  obtain ⟨e, rfl⟩ := eVar_some hf
  obtain ⟨v, e1, e2⟩ := ok.den i d e
  exact ⟨v, e1, q v H (fp i) ok Ext.refl e2 (ok.av i d e) trivial⟩
/-- a name whose list does not change -/
theorem ev_varV {i : Nat} {x : Str} (hN : X.N[i]? = some x) (hv : Vis X.env.scope x) (hi : i ∉ G.mu) (hd : (x == ("__debug__" : Str)) = false := by decide) (hcd : (x == ("__classdict__" : Str)) = false := by decide) : EV X G .val (.Name x pos) (eVar i) := by
  refine PE.mono (pe_var hN hv hd hcd) fun σ H Q h => ?_
  obtain ⟨c, T, fp, ρ, S, d, S', ok, hf, q⟩ := h
  obtain ⟨e, rfl⟩ := eVar_some hf
  obtain ⟨v, e1, e2⟩ := ok.den i d e
  refine ⟨v, e1, q v H (fp i) ok Ext.refl e2 (ok.av i d e) fun j d2 hj hd2 a ha z => ?_⟩
  exact ok.sep j i d2 d hj (fun w => hi (w ▸ hj)) hd2 e a z ha
theorem ev_C {e : Expr} {v : V} {d : D} (h : PE X e (tC v)) (hd : ∀ H, Den X.K H v d []) : EV X G .own e (eC d) := by
  refine PE.mono h fun σ H Q hh => ?_
  obtain ⟨c, T, fp, ρ, S, d', S', ok, hf, q⟩ := hh
  obtain ⟨rfl, rfl⟩ := M.pure_some hf
  exact q v H [] ok Ext.refl (hd H) (fun _ z => nomatch z) (ResOk.imm rfl)
theorem ev_int {i : Int} {j} : EV X G .own (.Constant (.int i) j pos) (eC (.int i)) := ev_C pe_int fun _ => .int i
theorem ev_bool {i : Bool} {j} : EV X G .own (.Constant (.bool i) j pos) (eC (.bool i)) := ev_C pe_bl fun _ => .bl i
theorem ev_none {j} : EV X G .own (.Constant .none j pos) (eC .none) := ev_C pe_non fun _ => .non
theorem ev_str {i : Str} {j} : EV X G .own (.Constant (.str i) j pos) (eC (.str i)) := ev_C pe_str fun _ => .str i
/-- a module's constant -/
theorem ev_glob {x : Str} {u : Value} {v : V} {d : D} (hg : Gl X x) (hm : X.mg x = some u) (r : RelV v u) (hd : ∀ H, Den X.K H v d []) (hdb : (x == ("__debug__" : Str)) = false := by decide) : EV X G .own (.Name x pos) (eC d) := ev_C (pe_glob hg hm r hdb) hd

/-! ### modes -/
theorem EV.weak (h : EV X G .own a fa) : EV X G .val a fa := by
  refine PE.mono h fun σ H Q hh => ?_
  obtain ⟨c, T, fp, ρ, S, d, S', ok, hf, q⟩ := hh
  exact ⟨c, T, fp, ρ, S, d, S', ok, hf, fun v H' F ok' e den av r => q v H' F ok' e den av (r.val ok (by simp))⟩
theorem EV.bor (h : EV X G m a fa) : EV X G .bor a fa := by
  refine PE.mono h fun σ H Q hh => ?_
  obtain ⟨c, T, fp, ρ, S, d, S', ok, hf, q⟩ := hh
  exact ⟨c, T, fp, ρ, S, d, S', ok, hf, fun v H' F ok' e den av r => q v H' F ok' e den av trivial⟩
theorem ev_imm (h : EV X G .bor a fa) : EV X G m a (eImm fa) := by
  refine PE.mono h fun σ H Q hh => ?_
  obtain ⟨c, T, fp, ρ, S, d, S', ok, hf, q⟩ := hh
  obtain ⟨d1, S1, h1, hf⟩ := M.bind_some hf
  obtain ⟨_, S2, h2, hf⟩ := M.bind_some hf
  obtain ⟨hi, rfl⟩ := M.chk_some h2
  obtain ⟨rfl, rfl⟩ := M.pure_some hf
  exact ⟨c, T, fp, ρ, S, d1, _, ok, h1, fun v H' F ok' e den av r => q v H' F ok' e den av (ResOk.imm (den.imm hi))⟩

/-! ### one, two operands -/
theorem tD.two {K : PySem.W.Frag} {c : Cc} {T : List Tmp} {fp : Nat → List Addr} {ρ : Env} {S S2 : Src} {σ : St} {H : Hp} {x y : D} {R : V → V → Hp → Prop} {S1 : Src}
    (ok : StOk K G c T fp ρ S σ H) (h1 : fa ρ S = some (x, S1)) (h2 : fb ρ S1 = some (y, S2))
    (h : ∀ v w H' Fx Fy, StOk K G c T fp ρ S2 σ H' → Ext c.R H H' → Den K H' v x Fx → Den K H' w y Fy → (∀ a ∈ Fx, ¬ c.P a) → (∀ a ∈ Fy, ¬ c.P a) → ResOk G fp ρ H ma Fx → ResOk G fp ρ H mb Fy → R v w H') :
    tD K G ma fa σ H fun v H1 => tD K G mb fb σ H1 fun w H2 => R v w H2 := by
  refine ⟨c, T, fp, ρ, S, x, S1, ok, h1, fun v H1 Fx ok1 e1 d1 av1 r1 => ?_⟩
  refine ⟨c, T, fp, ρ, S1, y, S2, ok1, h2, fun w H2 Fy ok2 e2 d2 av2 r2 => ?_⟩
  exact h v w H2 Fx Fy ok2 (e1.trans e2) (d1.ext e2 fun a z => ok.notR (av1 a z)) d2 av1 av2 r1 (r2.back e1 ok.hP av2)
/-- a rule by values, of two operands -/
theorem rd_2 {K : PySem.W.Frag} {r : R2} {op : D → D → M D}
    (hr : ∀ (c : Cc) (T : List Tmp) (fp : Nat → List Addr) (ρ : Env) (S S' : Src) (σ : St) (H0 H : Hp) (x y d : D) (v w : V) (Fx Fy : List Addr) (Q : VK), StOk K G c T fp ρ S σ H → Ext c.R H0 H → Den K H v x Fx → Den K H w y Fy → (∀ a ∈ Fx, ¬ c.P a) → (∀ a ∈ Fy, ¬ c.P a) →
      ResOk G fp ρ H0 ma Fx → ResOk G fp ρ H0 mb Fy → op x y S = some (d, S') →
      (∀ v H' F, Ext [] H H' → S' = S → Den K H' v d F → (∀ a ∈ F, ¬ c.P a) → ResOk G fp ρ H0 m F → Q v H') → r v w H Q) : ∀ σ H Q, tD K G m (e2 op fa fb) σ H Q → tOp r (tD K G ma fa) (tD K G mb fb) σ H Q := by
  intro σ H Q hh
  obtain ⟨c, T, fp, ρ, S, d, S', ok, hf, q⟩ := hh
  obtain ⟨x, S1, h1, hf⟩ := M.bind_some hf
  obtain ⟨y, S2, h2, hf⟩ := M.bind_some hf
  refine tD.two ok h1 h2 fun v w H' Fx Fy ok' e dx dy ax ay rx ry => ?_
  refine hr c T fp ρ S2 S' σ H H' x y d v w Fx Fy Q ok' e dx dy ax ay rx ry hf fun v' H'' F e2 es den av res => ?_
  subst es
  exact q v' H'' F (ok'.grow e2) (e.trans (e2.mono fun _ z => nomatch z)) den av res
theorem ev_2 {e : Expr} {r : R2} {op : D → D → M D} (h : PE X e (tOp r (tD X.K G ma fa) (tD X.K G mb fb)))
    (hr : ∀ (c : Cc) (T : List Tmp) (fp : Nat → List Addr) (ρ : Env) (S S' : Src) (σ : St) (H0 H : Hp) (x y d : D) (v w : V) (Fx Fy : List Addr) (Q : VK), StOk X.K G c T fp ρ S σ H → Ext c.R H0 H → Den X.K H v x Fx → Den X.K H w y Fy → (∀ a ∈ Fx, ¬ c.P a) → (∀ a ∈ Fy, ¬ c.P a) →
      ResOk G fp ρ H0 ma Fx → ResOk G fp ρ H0 mb Fy → op x y S = some (d, S') →
      (∀ v H' F, Ext [] H H' → S' = S → Den X.K H' v d F → (∀ a ∈ F, ¬ c.P a) → ResOk G fp ρ H0 m F → Q v H') → r v w H Q) : EV X G m e (e2 op fa fb) := PE.mono h (rd_2 hr)
theorem rd_1 {K : PySem.W.Frag} {r : V → Hp → VK → Prop} {op : D → M D}
    (hr : ∀ (c : Cc) (T : List Tmp) (fp : Nat → List Addr) (ρ : Env) (S S' : Src) (σ : St) (H0 H : Hp) (x d : D) (v : V) (Fx : List Addr) (Q : VK), StOk K G c T fp ρ S σ H → Ext c.R H0 H → Den K H v x Fx → (∀ a ∈ Fx, ¬ c.P a) →
      ResOk G fp ρ H0 ma Fx → op x S = some (d, S') →
      (∀ v H' F, Ext [] H H' → S' = S → Den K H' v d F → (∀ a ∈ F, ¬ c.P a) → ResOk G fp ρ H0 m F → Q v H') → r v H Q) : ∀ σ H Q, tD K G m (DL.e1 op fa) σ H Q → tD K G ma fa σ H fun x H1 => r x H1 Q := by
  intro σ H Q hh
  obtain ⟨c, T, fp, ρ, S, d, S', ok, hf, q⟩ := hh
  obtain ⟨x, S1, h1, hf⟩ := M.bind_some hf
  refine ⟨c, T, fp, ρ, S, x, S1, ok, h1, fun v H' Fx ok' e dx ax rx => ?_⟩
  refine hr c T fp ρ S1 S' σ H H' x d v Fx Q ok' e dx ax rx hf fun v' H'' F e2 es den av res => ?_
  subst es
  exact q v' H'' F (ok'.grow e2) (e.trans (e2.mono fun _ z => nomatch z)) den av res
theorem ev_1 {e : Expr} {r : V → Hp → VK → Prop} {op : D → M D} (h : PE X e (fun σ H Q => tD X.K G ma fa σ H fun x H1 => r x H1 Q))
    (hr : ∀ (c : Cc) (T : List Tmp) (fp : Nat → List Addr) (ρ : Env) (S S' : Src) (σ : St) (H0 H : Hp) (x d : D) (v : V) (Fx : List Addr) (Q : VK), StOk X.K G c T fp ρ S σ H → Ext c.R H0 H → Den X.K H v x Fx → (∀ a ∈ Fx, ¬ c.P a) →
      ResOk G fp ρ H0 ma Fx → op x S = some (d, S') →
      (∀ v H' F, Ext [] H H' → S' = S → Den X.K H' v d F → (∀ a ∈ F, ¬ c.P a) → ResOk G fp ρ H0 m F → Q v H') → r v H Q) : EV X G m e (DL.e1 op fa) := PE.mono h (rd_1 hr)
theorem tB_some {f : EF} {ρ : Env} {S S' : Src} {b : Bool} (h : tB f ρ S = some (b, S')) : f ρ S = some (.bool b, S') := by
  obtain ⟨d, S1, h1, hf⟩ := M.bind_some h
  split at hf
  · obtain ⟨rfl, rfl⟩ := M.pure_some hf
    exact h1
  · exact (M.fail_some hf).elim
/-- a bool's expression as a test -/
theorem tv_of {K : PySem.W.Frag} {t : TE} {f : EF} (hr : ∀ σ H Q, tD K G m f σ H Q → t σ H Q) : ∀ σ H Q, tDT K G (tB f) σ H Q → t σ H fun x H1 => ∃ k, x = .bl k ∧ Q k H1 := by
  intro σ H Q hh
  obtain ⟨c, T, fp, ρ, S, d, S', ok, hf, q⟩ := hh
  refine hr σ H _ ⟨c, T, fp, ρ, S, _, S', ok, tB_some hf, fun v H' F ok' e dn av r => ?_⟩
  cases dn
  exact ⟨_, rfl, q H' ok' e⟩
theorem tv_val (h : EV X G m a fa) (he : ∀ whole, isTrue a X.env whole = (do let v ← whole; standAt a.pos; holding [v] (truthy v)) := by intro _; rfl) : TV X G a (tB fa) := PT.mono (pt_val h he) (tv_of fun _ _ _ z => z)
/-- a comparison, as a value and as a test -/
structure CV (X : Cx) (G : Sg) (e : Expr) (f : EF) : Prop where
  ev : EV X G .own e f
  tv : TV X G e (tB f)
theorem cv_2 {cop : CmpOp} {r : R2} {op : D → D → M D} (ho : OpR X (compareOp cop) r) (hn : behindInMarks cop b = false) (ha : EV X G ma a fa) (hb : EV X G mb b fb)
    (hr : ∀ (c : Cc) (T : List Tmp) (fp : Nat → List Addr) (ρ : Env) (S S' : Src) (σ : St) (H0 H : Hp) (x y d : D) (v w : V) (Fx Fy : List Addr) (Q : VK), StOk X.K G c T fp ρ S σ H → Ext c.R H0 H → Den X.K H v x Fx → Den X.K H w y Fy → (∀ a ∈ Fx, ¬ c.P a) → (∀ a ∈ Fy, ¬ c.P a) →
      ResOk G fp ρ H0 ma Fx → ResOk G fp ρ H0 mb Fy → op x y S = some (d, S') →
      (∀ v H' F, Ext [] H H' → S' = S → Den X.K H' v d F → (∀ a ∈ F, ¬ c.P a) → ResOk G fp ρ H0 .own F → Q v H') → r v w H Q) : CV X G (.Compare a [cop] [b] pos) (e2 op fa fb) :=
  ⟨PE.mono (pe_cmpR ho ha hb hn) (rd_2 hr), PT.mono (pt_cmpR ho ha hb hn) (tv_of (rd_2 hr))⟩
/-- the right side is written -/
theorem cv_1 {cop : CmpOp} {r : R2} {op : D → M D} {vb : V} (ho : OpR X (compareOp cop) r) (hn : behindInMarks cop b = false) (ha : EV X G ma a fa) (hb : PE X b (tC vb))
    (hr : ∀ (c : Cc) (T : List Tmp) (fp : Nat → List Addr) (ρ : Env) (S S' : Src) (σ : St) (H0 H : Hp) (x d : D) (v : V) (Fx : List Addr) (Q : VK), StOk X.K G c T fp ρ S σ H → Ext c.R H0 H → Den X.K H v x Fx → (∀ a ∈ Fx, ¬ c.P a) →
      ResOk G fp ρ H0 ma Fx → op x S = some (d, S') →
      (∀ v H' F, Ext [] H H' → S' = S → Den X.K H' v d F → (∀ a ∈ F, ¬ c.P a) → ResOk G fp ρ H0 .own F → Q v H') → r v vb H Q) : CV X G (.Compare a [cop] [b] pos) (DL.e1 op fa) :=
  ⟨PE.mono (pe_cmpR ho ha hb hn) (rd_1 hr), PT.mono (pt_cmpR ho ha hb hn) (tv_of (rd_1 (r := fun x H Q => r x vb H Q) hr))⟩
end
end DL

/-! DS3: operators, comparisons, items, slices, built-in functions. -/
namespace DL
open PySem PySem.Spec PyProof.Rows L2

theorem M.chk_bind {α : Type} {b : Bool} {f : M α} {S S' : Src} {u : α} (h : (do chk b; f) S = some (u, S')) : b = true ∧ f S = some (u, S') := by
  obtain ⟨_, S1, h1, h2⟩ := M.bind_some h
  obtain ⟨e, rfl⟩ := M.chk_some h1
  exact ⟨e, h2⟩
theorem fit_le {n : Nat} (h : fit n = true) : n ≤ sizeLine := of_decide_eq_true h
theorem and_true {a b : Bool} (h : (a && b) = true) : a = true ∧ b = true := Bool.and_eq_true_iff.mp h

section
variable {K : PySem.W.Frag} {G : Sg} {c : Cc} {T : List Tmp} {fp : Nat → List Addr} {ρ : Env} {S S' : Src} {σ : St} {H0 H H' : Hp} {m : Md} {F : List Addr}
theorem DenL.grow {vs : List V} {ds : List D} (h : DenL K H vs ds F) (e : Ext [] H H') : DenL K H' vs ds F := h.ext e fun _ _ z => nomatch z
theorem Den.grow {v : V} {d : D} (h : Den K H v d F) (e : Ext [] H H') : Den K H' v d F := h.ext e fun _ _ z => nomatch z
theorem Ext.back0 (e : Ext c.R H0 H) (ok : StOk K G c T fp ρ S σ H) {p : Addr} (n : H p = Option.none) : H0 p = Option.none := e.nn n fun z => ok.new_av n (ok.hP p z)
/-- a new list of items that are held somewhere -/
theorem Den.newL {p : Addr} {vs : List V} {ds : List D} (n : H p = none) (h : DenL K H vs ds F) : Den K (upd H p (.lst vs)) (.ref p) (.list ds) (p :: F) := .lst upd_same (h.grow (Ext.new n))
theorem Den.newT {p : Addr} {vs : List V} {ds : List D} (n : H p = none) (h : DenL K H vs ds F) : Den K (upd H p (.tup vs)) (.ref p) (.tuple ds) F := .tup (.inl upd_same) (h.grow (Ext.new n))
/-- a new list of what does not change is new -/
theorem ResOk.one {p : Addr} (n : H p = none) : ResOk G fp ρ H .own [p] := ⟨by simp, fun a z => by
  have e : a = p := by simpa using z
  rw [e]
  exact n⟩
theorem StOk.av1 (ok : StOk K G c T fp ρ S σ H) {p : Addr} (n : H p = none) : ∀ a ∈ [p], ¬ c.P a := fun a z => by
  have e : a = p := by simpa using z
  rw [e]
  exact ok.new_av n
theorem StOk.avc (ok : StOk K G c T fp ρ S σ H) {p : Addr} (n : H p = none) (h : ∀ a ∈ F, ¬ c.P a) : ∀ a ∈ p :: F, ¬ c.P a := fun a z => by
  rcases List.mem_cons.mp z with e | z
  · rw [e]
    exact ok.new_av n
  · exact h a z
theorem av0 : ∀ a ∈ ([] : List Addr), ¬ c.P a := fun _ z => nomatch z
theorem DenL.immV (h : DenL K H (vs : List V) ds F) (e : immAll ds = true) : DenL K H vs ds [] := by
  have z := h.imm e
  subst z
  exact h
end

theorem ixD_eq (n : Nat) (i : Int) : ixD n i = ixN n i := by
  unfold ixD ixN
  by_cases h : 0 ≤ i
  · rw [if_pos h]
    by_cases h2 : i < (n : Int)
    · rw [if_pos ⟨h, h2⟩, if_pos h2]
    · rw [if_neg (fun z => h2 z.2), if_neg h2, if_neg (fun z => by omega)]
  · rw [if_neg h, if_neg (fun z => h z.1)]
    by_cases h2 : -(n : Int) ≤ i
    · rw [if_pos h2, if_pos (by omega)]
    · rw [if_neg h2, if_neg (by omega)]
theorem slD_eq (n d : Nat) (o : Option Int) : slD n d o = HT.sIx n d o := by
  cases o with
  | none => rfl
  | some v =>
    show (if 0 ≤ v then min v.toNat n else (v + n).toNat) = if v < 0 then (v + (n : Int)).toNat else min v.toNat n
    by_cases h : 0 ≤ v
    · rw [if_pos h, if_neg (by omega)]
    · rw [if_neg h, if_pos (by omega)]

section
variable {X : Cx} {G : Sg} {m ma mb : Md} {a b : Expr} {fa fb : EF} {pos : Pos}

/-! ### arithmetic -/
theorem ev_add (ha : EV X G .bor a fa) (hb : EV X G .bor b fb) : EV X G .own (.BinOp a .Add b pos) (e2 (addD true) fa fb) := by
  refine ev_2 (pe_op ((op_add.or op_cat).or op_catA) ha hb) fun c T fp ρ S S' σ H0 H x y d v w Fx Fy Q ok e dx dy ax ay rx ry hf q => ?_
  unfold addD at hf
  split at hf
  · obtain ⟨rfl, rfl⟩ := M.pure_some hf
    cases dx; cases dy
    exact .inl (.inl ⟨_, _, rfl, rfl, q _ H [] Ext.refl rfl (.int _) av0 (ResOk.imm rfl)⟩)
  · obtain ⟨h1, hf⟩ := M.chk_bind hf
    obtain ⟨h2, hf⟩ := M.chk_bind hf
    obtain ⟨rfl, rfl⟩ := M.pure_some hf
    simp only [Bool.not_true, Bool.false_or] at h2
    cases dx with
    | tup e1 l1 =>
      cases dy with
      | tup e2 l2 =>
        obtain rfl := l1.imm (and_true h2).1
        obtain rfl := l2.imm (and_true h2).2
        have le1 := l1.length
        have le2 := l2.length
        refine .inr ⟨_, _, _, _, rfl, rfl, e1.sq, e2.sq, by rw [le1, le2]; exact fit_le h1, fun z => ?_, fun z1 z2 => ?_, fun z1 z2 p n => ?_⟩
        · subst z
          cases l1
          exact q _ H [] Ext.refl rfl (.tup e2 l2) av0 (ResOk.imm rfl)
        · subst z2
          cases l2
          rw [List.append_nil] at q
          exact q _ H [] Ext.refl rfl (.tup e1 l1) av0 (ResOk.imm rfl)
        · exact q _ _ [] (Ext.new n) rfl (Den.newT n (l1.append l2)) av0 (ResOk.imm rfl)
  · obtain ⟨h1, hf⟩ := M.chk_bind hf
    obtain ⟨h2, hf⟩ := M.chk_bind hf
    obtain ⟨rfl, rfl⟩ := M.pure_some hf
    simp only [Bool.not_true, Bool.false_or] at h2
    cases dx with
    | lst e1 l1 =>
      cases dy with
      | lst e2 l2 =>
        obtain rfl := l1.imm (and_true h2).1
        obtain rfl := l2.imm (and_true h2).2
        refine .inl (.inr ⟨_, _, _, _, rfl, rfl, e1, e2, by rw [l1.length, l2.length]; exact fit_le h1, fun p n => ?_⟩)
        exact q _ _ [p] (Ext.new n) rfl (Den.newL n (l1.append l2)) (ok.av1 n) (ResOk.one (e.back0 ok n))
  · exact (M.fail_some hf).elim
/-- of lists whose items may change: nothing is known to be new -/
theorem ev_addV (ha : EV X G .val a fa) (hb : EV X G .val b fb) : EV X G .val (.BinOp a .Add b pos) (e2 (addD false) fa fb) := by
  refine ev_2 (pe_op ((op_add.or op_cat).or op_catA) ha hb) fun c T fp ρ S S' σ H0 H x y d v w Fx Fy Q ok e dx dy ax ay rx ry hf q => ?_
  have ap : ∀ {A B : List Addr}, (∀ z ∈ A, ¬ c.P z) → (∀ z ∈ B, ¬ c.P z) → ∀ z ∈ A ++ B, ¬ c.P z := fun h1 h2 z hz => (List.mem_append.mp hz).elim (h1 z) (h2 z)
  have rs : ∀ {A B : List Addr}, ResOk G fp ρ H0 .val A → ResOk G fp ρ H0 .val B → ResOk G fp ρ H0 .val (A ++ B) := fun h1 h2 i d hi hd z hz => (List.mem_append.mp hz).elim (h1 i d hi hd z) (h2 i d hi hd z)
  unfold addD at hf
  split at hf
  · obtain ⟨rfl, rfl⟩ := M.pure_some hf
    cases dx; cases dy
    exact .inl (.inl ⟨_, _, rfl, rfl, q _ H [] Ext.refl rfl (.int _) av0 (ResOk.imm rfl)⟩)
  · obtain ⟨h1, hf⟩ := M.chk_bind hf
    obtain ⟨h2, hf⟩ := M.chk_bind hf
    obtain ⟨rfl, rfl⟩ := M.pure_some hf
    cases dx with
    | tup e1 l1 =>
      cases dy with
      | tup e2 l2 =>
        have le1 := l1.length
        have le2 := l2.length
        refine .inr ⟨_, _, _, _, rfl, rfl, e1.sq, e2.sq, by rw [le1, le2]; exact fit_le h1, fun z => ?_, fun z1 z2 => ?_, fun z1 z2 p n => ?_⟩
        · subst z
          cases l1
          exact q _ H _ Ext.refl rfl (.tup e2 l2) ay ry
        · subst z2
          cases l2
          rw [List.append_nil] at q
          exact q _ H _ Ext.refl rfl (.tup e1 l1) ax rx
        · exact q _ _ _ (Ext.new n) rfl (Den.newT n (l1.append l2)) (ap ax ay) (rs rx ry)
  · obtain ⟨h1, hf⟩ := M.chk_bind hf
    obtain ⟨h2, hf⟩ := M.chk_bind hf
    obtain ⟨rfl, rfl⟩ := M.pure_some hf
    cases dx with
    | lst e1 l1 =>
      cases dy with
      | lst e2 l2 =>
        refine .inl (.inr ⟨_, _, _, _, rfl, rfl, e1, e2, by rw [l1.length, l2.length]; exact fit_le h1, fun p n => ?_⟩)
        have i1 : ResOk G fp ρ H0 .val [p] := fun i d hi hd z hz w => by
          have ez : z = p := by simpa using hz
          subst ez
          obtain ⟨v', _, dn⟩ := ok.den i d hd
          exact dn.dom z w n
        refine q _ _ _ (Ext.new n) rfl (Den.newL n (l1.append l2)) (ok.avc n (ap (fun z hz => ax z (List.mem_cons_of_mem _ hz)) (fun z hz => ay z (List.mem_cons_of_mem _ hz)))) ?_
        exact rs (A := [p]) i1 (rs (fun i d hi hd z hz => rx i d hi hd z (List.mem_cons_of_mem _ hz)) (fun i d hi hd z hz => ry i d hi hd z (List.mem_cons_of_mem _ hz)))
  · exact (M.fail_some hf).elim
theorem ev_sub (ha : EV X G ma a fa) (hb : EV X G mb b fb) : EV X G .own (.BinOp a .Sub b pos) (e2 subD fa fb) := by
  refine ev_2 (pe_op op_sub ha hb) fun c T fp ρ S S' σ H0 H x y d v w Fx Fy Q ok e dx dy ax ay rx ry hf q => ?_
  unfold subD at hf
  split at hf
  · obtain ⟨rfl, rfl⟩ := M.pure_some hf
    cases dx; cases dy
    exact ⟨_, _, rfl, rfl, q _ H [] Ext.refl rfl (.int _) av0 (ResOk.imm rfl)⟩
  · exact (M.fail_some hf).elim
theorem rep_imm {K : PySem.W.Frag} {H : Hp} {vs : List V} {ds : List D} (h : DenL K H vs ds []) (k : Nat) : DenL K H (List.replicate k vs).flatten (List.replicate k ds).flatten [] := by
  induction k with
  | zero => exact .nil
  | succ n ih => exact h.append ih
theorem of_small {a : Int} (h : small64 a = true) : -(2 ^ 64) < a ∧ a < 2 ^ 64 := by
  have h' : a.natAbs < 2 ^ 64 := of_decide_eq_true h
  omega
theorem of_63 {k : Int} (h : k.natAbs < 2 ^ 63) : -(2 ^ 63) ≤ k ∧ k < 2 ^ 63 := by omega
theorem ev_mul (ha : EV X G ma a fa) (hb : EV X G mb b fb) : EV X G .own (.BinOp a .Mult b pos) (e2 mulD fa fb) := by
  refine ev_2 (pe_op ((op_mul.or op_rep).or op_repT) ha hb) fun c T fp ρ S S' σ H0 H x y d v w Fx Fy Q ok e dx dy ax ay rx ry hf q => ?_
  unfold mulD at hf
  split at hf
  · obtain ⟨h1, hf⟩ := M.chk_bind hf
    obtain ⟨rfl, rfl⟩ := M.pure_some hf
    cases dx; cases dy
    refine .inl (.inl ⟨_, _, rfl, rfl, ?_, q _ H [] Ext.refl rfl (.int _) av0 (ResOk.imm rfl)⟩)
    rcases Bool.or_eq_true_iff.mp h1 with z | z
    · exact .inl (of_small z)
    · exact .inr (of_small z)
  · obtain ⟨h1, hf⟩ := M.chk_bind hf
    obtain ⟨rfl, rfl⟩ := M.pure_some hf
    obtain ⟨h1, h3⟩ := and_true h1
    obtain ⟨h1, h2⟩ := and_true h1
    have h1 := of_decide_eq_true h1
    cases dx with
    | lst e1 l1 =>
      cases dy
      obtain rfl := l1.imm h3
      refine .inl (.inr ⟨_, _, _, rfl, rfl, e1, (of_63 h1).1, (of_63 h1).2, by rw [l1.length]; exact fit_le h2, fun p n => ?_⟩)
      exact q _ _ [p] (Ext.new n) rfl (Den.newL n (rep_imm l1 _)) (ok.av1 n) (ResOk.one (e.back0 ok n))
  · obtain ⟨h1, hf⟩ := M.chk_bind hf
    obtain ⟨rfl, rfl⟩ := M.pure_some hf
    obtain ⟨h1, h4⟩ := and_true h1
    obtain ⟨h1, h3⟩ := and_true h1
    obtain ⟨h1, h2⟩ := and_true h1
    have h1 := of_decide_eq_true h1
    have h2 := of_decide_eq_true h2
    cases dx with
    | tup e1 l1 =>
      cases dy
      obtain rfl := l1.imm h4
      have le := l1.length
      refine .inr ⟨_, _, _, rfl, rfl, e1.sq, fun z => ?_, h1.1, h1.2, by rw [le]; exact h2, fun p n => ?_⟩
      · subst z
        cases l1
        cases h3
      · exact q _ _ [] (Ext.new n) rfl (Den.newT n (rep_imm l1 _)) av0 (ResOk.imm rfl)
  · exact (M.fail_some hf).elim
theorem ev_fdiv (ha : EV X G ma a fa) (hb : EV X G mb b fb) : EV X G .own (.BinOp a .FloorDiv b pos) (e2 fdivD fa fb) := by
  refine ev_2 (pe_op op_fdivN ha hb) fun c T fp ρ S S' σ H0 H x y d v w Fx Fy Q ok e dx dy ax ay rx ry hf q => ?_
  unfold fdivD at hf
  split at hf
  · obtain ⟨h1, hf⟩ := M.chk_bind hf
    obtain ⟨rfl, rfl⟩ := M.pure_some hf
    cases dx; cases dy
    have h1 := of_decide_eq_true h1
    exact ⟨_, _, rfl, rfl, h1, q _ H [] Ext.refl rfl (.int _) av0 (ResOk.imm rfl)⟩
  · exact (M.fail_some hf).elim
theorem ev_mod (ha : EV X G ma a fa) (hb : EV X G mb b fb) : EV X G .own (.BinOp a .Mod b pos) (e2 modD fa fb) := by
  refine ev_2 (pe_op op_modN ha hb) fun c T fp ρ S S' σ H0 H x y d v w Fx Fy Q ok e dx dy ax ay rx ry hf q => ?_
  unfold modD at hf
  split at hf
  · obtain ⟨h1, hf⟩ := M.chk_bind hf
    obtain ⟨rfl, rfl⟩ := M.pure_some hf
    cases dx; cases dy
    exact ⟨_, _, rfl, rfl, of_decide_eq_true h1, q _ H [] Ext.refl rfl (.int _) av0 (ResOk.imm rfl)⟩
  · exact (M.fail_some hf).elim
theorem ev_neg (ha : EV X G ma a fa) : EV X G .own (.UnaryOp .USub a pos) (DL.e1 negD fa) := by
  refine ev_1 (pe_un un_neg ha) fun c T fp ρ S S' σ H0 H x d v Fx Q ok e dx ax rx hf q => ?_
  unfold negD at hf
  split at hf
  · obtain ⟨rfl, rfl⟩ := M.pure_some hf
    cases dx
    exact ⟨_, rfl, q _ H [] Ext.refl rfl (.int _) av0 (ResOk.imm rfl)⟩
  · exact (M.fail_some hf).elim

/-! ### comparisons -/
theorem cv_eq (hu : X.A.units + 64 < cLine) (ha : EV X G ma a fa) (hb : EV X G mb b fb) : CV X G (.Compare a [.Eq] [b] pos) (e2 (eqD false) fa fb) := by
  refine cv_2 (op_eqD hu) (nomark _) ha hb fun c T fp ρ S S' σ H0 H x y d v w Fx Fy Q ok e dx dy ax ay rx ry hf q => ?_
  unfold eqD at hf
  obtain ⟨h1, hf⟩ := M.chk_bind hf
  obtain ⟨rfl, rfl⟩ := M.pure_some hf
  obtain ⟨h1, h2⟩ := and_true h1
  exact ⟨x, y, dx.dp (SeqAt.canLay_of_shaped h1), dy.dp (SeqAt.canLay_of_shaped h2), h1, h2, q _ H [] Ext.refl rfl (.bl _) av0 (ResOk.imm rfl)⟩
theorem cv_ne (hu : X.A.units + 64 < cLine) (ha : EV X G ma a fa) (hb : EV X G mb b fb) : CV X G (.Compare a [.NotEq] [b] pos) (e2 (eqD true) fa fb) := by
  refine cv_2 (op_neD hu) (nomark _) ha hb fun c T fp ρ S S' σ H0 H x y d v w Fx Fy Q ok e dx dy ax ay rx ry hf q => ?_
  unfold eqD at hf
  obtain ⟨h1, hf⟩ := M.chk_bind hf
  obtain ⟨rfl, rfl⟩ := M.pure_some hf
  obtain ⟨h1, h2⟩ := and_true h1
  exact ⟨x, y, dx.dp (SeqAt.canLay_of_shaped h1), dy.dp (SeqAt.canLay_of_shaped h2), h1, h2, q _ H [] Ext.refl rfl (.bl _) av0 (ResOk.imm rfl)⟩
theorem cv_cmI {op : CmpOp} {cm : Cm} (ho : OpR X (compareOp op) (rI0 fun i j => .bl (cmI cm i j))) (hn : behindInMarks op b = false) (ha : EV X G ma a fa) (hb : EV X G mb b fb) : CV X G (.Compare a [op] [b] pos) (e2 (cmD cm) fa fb) := by
  refine cv_2 ho hn ha hb fun c T fp ρ S S' σ H0 H x y d v w Fx Fy Q ok e dx dy ax ay rx ry hf q => ?_
  unfold cmD at hf
  split at hf
  · obtain ⟨rfl, rfl⟩ := M.pure_some hf
    cases dx; cases dy
    exact ⟨_, _, rfl, rfl, q _ H [] Ext.refl rfl (.bl _) av0 (ResOk.imm rfl)⟩
  · exact (M.fail_some hf).elim
theorem cv_lt (ha : EV X G ma a fa) (hb : EV X G mb b fb) : CV X G (.Compare a [.Lt] [b] pos) (e2 (cmD .lt) fa fb) := cv_cmI op_lt (nomark _) ha hb
theorem cv_le (ha : EV X G ma a fa) (hb : EV X G mb b fb) : CV X G (.Compare a [.LtE] [b] pos) (e2 (cmD .le) fa fb) := cv_cmI op_le (nomark _) ha hb
theorem cv_gt (ha : EV X G ma a fa) (hb : EV X G mb b fb) : CV X G (.Compare a [.Gt] [b] pos) (e2 (cmD .gt) fa fb) := cv_cmI op_gt (nomark _) ha hb
theorem cv_ge (ha : EV X G ma a fa) (hb : EV X G mb b fb) : CV X G (.Compare a [.GtE] [b] pos) (e2 (cmD .ge) fa fb) := cv_cmI op_ge (nomark _) ha hb
theorem isN_eq {K : PySem.W.Frag} {H : Hp} {v : V} {d : D} {F : List Addr} (h : Den K H v d F) : decide (v = .non) = isNoneD d := by
  cases h <;> first | rfl | (exact decide_eq_false (fun z => nomatch z))
theorem cv_is {j p2} (ha : EV X G ma a fa) : CV X G (.Compare a [.Is] [.Constant .none j p2] pos) (DL.e1 (isD false) fa) := by
  refine cv_1 op_isN (nomark _) ha pe_non fun c T fp ρ S S' σ H0 H x d v Fx Q ok e dx ax rx hf q => ?_
  obtain ⟨rfl, rfl⟩ := M.pure_some hf
  refine ⟨rfl, ?_⟩
  rw [isN_eq dx]
  exact q _ H [] Ext.refl rfl (.bl _) av0 (ResOk.imm rfl)
theorem cv_isnot {j p2} (ha : EV X G ma a fa) : CV X G (.Compare a [.IsNot] [.Constant .none j p2] pos) (DL.e1 (isD true) fa) := by
  refine cv_1 op_notN (nomark _) ha pe_non fun c T fp ρ S S' σ H0 H x d v Fx Q ok e dx ax rx hf q => ?_
  obtain ⟨rfl, rfl⟩ := M.pure_some hf
  refine ⟨rfl, ?_⟩
  rw [isN_eq dx]
  exact q _ H [] Ext.refl rfl (.bl _) av0 (ResOk.imm rfl)
theorem cv_isB {j p2} {k : Bool} (ha : EV X G ma a fa) : CV X G (.Compare a [.Is] [.Constant (.bool k) j p2] pos) (DL.e1 (isBD false k) fa) := by
  refine cv_1 op_isBl (nomark _) ha pe_bl fun c T fp ρ S S' σ H0 H x d v Fx Q ok e dx ax rx hf q => ?_
  unfold isBD at hf
  split at hf
  · obtain ⟨rfl, rfl⟩ := M.pure_some hf
    cases dx
    refine ⟨_, _, rfl, rfl, ?_⟩
    rw [← Bool.beq_eq_decide_eq]
    exact q _ H [] Ext.refl rfl (.bl _) av0 (ResOk.imm rfl)
  · exact (M.fail_some hf).elim
theorem cv_isnotB {j p2} {k : Bool} (ha : EV X G ma a fa) : CV X G (.Compare a [.IsNot] [.Constant (.bool k) j p2] pos) (DL.e1 (isBD true k) fa) := by
  refine cv_1 op_notBl (nomark _) ha pe_bl fun c T fp ρ S S' σ H0 H x d v Fx Q ok e dx ax rx hf q => ?_
  unfold isBD at hf
  split at hf
  · obtain ⟨rfl, rfl⟩ := M.pure_some hf
    cases dx
    refine ⟨_, _, rfl, rfl, ?_⟩
    rw [← Bool.beq_eq_decide_eq]
    exact q _ H [] Ext.refl rfl (.bl _) av0 (ResOk.imm rfl)
  · exact (M.fail_some hf).elim

/-! ### items, slices -/
theorem seq_cases {K : PySem.W.Frag} {H : Hp} {v : V} {d : D} {F : List Addr} {ds : List D} (h : Den K H v d F) (e : seqOf d = some ds) : ∃ p xs G, v = .ref p ∧ (SqL K H p xs ∨ SqT K H p xs) ∧ DenL K H xs ds G ∧ ∀ z ∈ G, z ∈ F := by
  cases h with
  | lst e1 l =>
    cases e
    exact ⟨_, _, _, rfl, .inl (.inl (.inl e1)), l, fun z q => List.mem_cons_of_mem _ q⟩
  | tup e1 l =>
    cases e
    exact ⟨_, _, _, rfl, .inr e1.sq, l, fun z q => q⟩
  | non => cases e
  | bl => cases e
  | int => cases e
  | str => cases e
  | dctK => cases e
  | dctT => cases e
theorem idxD_some {x y d : D} {S S' : Src} (h : idxD x y S = some (d, S')) : ∃ i xs j, y = .int i ∧ seqOf x = some xs ∧ ixD xs.length i = some j ∧ xs[j]? = some d ∧ S' = S := by
  unfold idxD at h
  split at h
  · rename_i i
    cases e : seqOf x with
    | none => rw [e] at h; exact (M.fail_some h).elim
    | some xs =>
      rw [e] at h
      cases q : ixD xs.length i with
      | none => simp only [q, Option.bind_none] at h; exact (M.fail_some h).elim
      | some j =>
        cases e' : xs[j]? with
        | none => simp only [q, e', Option.bind_some] at h; exact (M.fail_some h).elim
        | some d' =>
          simp only [q, e', Option.bind_some] at h
          obtain ⟨rfl, rfl⟩ := M.pure_some h
          exact ⟨i, xs, j, rfl, rfl, q, e', rfl⟩
  · exact (M.fail_some h).elim
theorem ev_idx (ha : EV X G ma a fa) (hb : EV X G mb b fb) (hs : PlainIx b) (hm : m = .bor ∨ (m = .val ∧ ma = .val)) : EV X G m (.Subscript a b pos) (e2 idxD fa fb) := by
  refine ev_2 (pe_ix (ix_list.or ix_tup) ha hb hs) fun c T fp ρ S S' σ H0 H x y d v w Fx Fy Q ok e dx dy ax ay rx ry hf q => ?_
  obtain ⟨i, xs, j, rfl, h1, h2, h3, rfl⟩ := idxD_some hf
  cases dy
  obtain ⟨p, vs, Gs, rfl, sq, l, hG⟩ := seq_cases dx h1
  obtain ⟨y, F, e1, e2, e3⟩ := l.get h3
  have at_ : atI vs i = some y := by
    unfold atI
    rw [l.length, ← ixD_eq, h2]
    exact e1
  have qq := q y H F Ext.refl rfl e2 (fun z hz => ax z (hG z (e3 z hz))) (by
    rcases hm with rfl | ⟨rfl, rfl⟩
    · trivial
    · exact fun i' d' hi hd z hz => rx i' d' hi hd z (hG z (e3 z hz)))
  rcases sq with sq | sq
  · exact .inl ⟨p, vs, i, y, rfl, rfl, sq, at_, qq⟩
  · exact .inr ⟨p, vs, i, y, rfl, rfl, sq, at_, qq⟩
/-- an optional part of a slice -/
abbrev OV (X : Cx) (G : Sg) (o : Option Expr) (f : Option EF) : Prop := PO X o (fun σ H Q => ∃ c T fp ρ S d S', StOk X.K G c T fp ρ S σ H ∧ partD f ρ S = some (d, S') ∧ ∀ H', StOk X.K G c T fp ρ S' σ H' → Ext c.R H H' → Q d H')
theorem ov_none : OV X G none none := by
  refine ⟨fun pins s σ H Q I h => po_none.run pins s σ H Q I ?_⟩
  obtain ⟨c, T, fp, ρ, S, d, S', ok, hf, q⟩ := h
  obtain ⟨rfl, rfl⟩ := M.pure_some hf
  exact q H ok Ext.refl
theorem ov_some (ha : EV X G ma a fa) : OV X G (some a) (some fa) := by
  refine ⟨fun pins s σ H Q I h => (po_some ha).run pins s σ H Q I ?_⟩
  obtain ⟨c, T, fp, ρ, S, d, S', ok, hf, q⟩ := h
  obtain ⟨x, S1, h1, hf⟩ := M.bind_some hf
  split at hf
  · obtain ⟨rfl, rfl⟩ := M.pure_some hf
    refine ⟨c, T, fp, ρ, S, _, _, ok, h1, fun v H' F ok' e dn av r => ?_⟩
    cases dn
    exact ⟨_, rfl, q H' ok' e⟩
  · exact (M.fail_some hf).elim
theorem DenL.cut {K : PySem.W.Frag} {H : Hp} : ∀ {vs : List V} {ds : List D} {F : List Addr} (n k : Nat), DenL K H vs ds F → ∃ F', DenL K H ((vs.drop n).take k) ((ds.drop n).take k) F' ∧ ∀ z ∈ F', z ∈ F
  | _, _, _, n, 0, _ => ⟨[], by simpa using DenL.nil, fun _ z => nomatch z⟩
  | _, _, _, n, k + 1, .nil => ⟨[], by simpa using DenL.nil, fun _ z => nomatch z⟩
  | _, _, _, 0, k + 1, .cons h l => by
    obtain ⟨F', h1, h2⟩ := DenL.cut 0 k l
    refine ⟨_, .cons h (by simpa using h1), fun z q => ?_⟩
    rcases List.mem_append.mp q with q | q
    · exact List.mem_append_left _ q
    · exact List.mem_append_right _ (h2 z q)
  | _, _, _, n + 1, k + 1, .cons h l => by
    obtain ⟨F', h1, h2⟩ := DenL.cut n (k + 1) l
    exact ⟨F', by simpa using h1, fun z q => List.mem_append_right _ (h2 z q)⟩
theorem slice_core {K : PySem.W.Frag} {c : Cc} {T : List Tmp} {fp : Nat → List Addr} {ρ : Env} {S S2 : Src} {σ : St} {H0 H : Hp} {own : Bool} {x d : D} {v : V} {Fx : List Addr} {lo hi : Option Int} {Q : VK} (ok : StOk K G c T fp ρ S σ H) (e : Ext c.R H0 H) (dx : Den K H v x Fx) (ax : ∀ a ∈ Fx, ¬ c.P a) (rx : ResOk G fp ρ H0 ma Fx)
    (hm : if own = true then m = .own else ma = .val ∧ m = .val) (hf : sliceD own lo hi x S = some (d, S2)) (q : ∀ v H' F, Ext [] H H' → S2 = S → Den K H' v d F → (∀ a ∈ F, ¬ c.P a) → ResOk G fp ρ H0 m F → Q v H') : rSlL K v lo hi H Q ∨ rSlA K v lo hi H Q := by
  unfold sliceD at hf
  have key : ∀ {xs : List D} {F : List Addr}, (!own || immAll xs) = true → (∀ vs, DenL K H vs xs F → (∀ z ∈ F, z ∈ Fx) → ∃ F', DenL K H ((vs.drop (slD xs.length 0 lo)).take (slD xs.length xs.length hi - slD xs.length 0 lo)) (cutD xs lo hi) F' ∧ (∀ z ∈ F', z ∈ Fx) ∧ (own = true → F' = [])) := by
    intro xs F h1 vs l hF
    obtain ⟨F', l', hF'⟩ := l.cut (slD xs.length 0 lo) (slD xs.length xs.length hi - slD xs.length 0 lo)
    refine ⟨F', l', fun z hz => hF z (hF' z hz), fun ho => ?_⟩
    subst ho
    obtain rfl := l.imm (by simpa using h1)
    exact List.eq_nil_iff_forall_not_mem.mpr fun z hz => nomatch hF' z hz
  have fin : ∀ {F' : List Addr}, (∀ z ∈ F', z ∈ Fx) → (own = true → F' = []) → ResOk G fp ρ H0 m F' := by
    intro F' h1 h2
    cases own with
    | true =>
      exact ResOk.imm (h2 rfl)
    | false =>
      obtain ⟨rfl, rfl⟩ := hm
      exact fun i d hi hd z hz => rx i d hi hd z (h1 z hz)
  split at hf
  · obtain ⟨h1, hf⟩ := M.chk_bind hf
    obtain ⟨rfl, rfl⟩ := M.pure_some hf
    cases dx with
    | tup e1 l1 =>
      obtain ⟨F', l', hF', hi'⟩ := key h1 _ l1 fun z hz => hz
      have le := l1.length
      refine .inr ⟨_, _, rfl, e1.sq, fun hw => ?_, fun hw p n => ?_⟩
      · have l' := l'
        rw [← le, slD_eq, slD_eq, hw.1, hw.2, List.drop_zero, List.take_of_length_le (by omega)] at l'
        exact q _ H F' Ext.refl rfl (.tup e1 l') (fun z hz => ax z (hF' z hz)) (fin hF' hi')
      · have l2 := l'
        rw [← le, slD_eq, slD_eq] at l2
        exact q _ _ F' (Ext.new n) rfl (Den.newT n l2) (fun z hz => ax z (hF' z hz)) (fin hF' hi')
  · obtain ⟨h1, hf⟩ := M.chk_bind hf
    obtain ⟨rfl, rfl⟩ := M.pure_some hf
    cases dx with
    | lst e1 l1 =>
      obtain ⟨F', l', hF', hi'⟩ := key h1 _ l1 fun z hz => List.mem_cons_of_mem _ hz
      have le := l1.length
      refine .inl ⟨_, _, rfl, .inl (.inl e1), fun p n => ?_⟩
      have l2 := l'
      rw [← le, slD_eq, slD_eq] at l2
      refine q _ _ (p :: F') (Ext.new n) rfl (Den.newL n l2) (ok.avc n fun z hz => ax z (hF' z hz)) ?_
      cases own with
      | true =>
        have hm' : m = .own := hm
        subst hm'
        rw [hi' rfl]
        exact ResOk.one (e.back0 ok n)
      | false =>
        obtain ⟨rfl, rfl⟩ := hm
        intro i d hi hd z hz w
        rcases List.mem_cons.mp hz with rfl | hz
        · obtain ⟨v', _, dn⟩ := ok.den i d hd
          exact dn.dom _ w n
        · exact rx i d hi hd z (hF' z hz) w
  · exact (M.fail_some hf).elim
theorem ev_sliceG {own : Bool} {lo hi : Option Expr} {fl fh : Option EF} {p2 : Pos} (hm : if own = true then m = .own else ma = .val ∧ m = .val) (ha : EV X G ma a fa) (hl : OV X G lo fl) (hh : OV X G hi fh) : EV X G m (.Subscript a (.Slice lo hi none p2) pos) (eSlice own fa fl fh) := by
  refine PE.mono (pe_slice (sl_list.or sl_tupA) ha hl hh) fun σ H Q h => ?_
  obtain ⟨c, T, fp, ρ, S, d, S', ok, hf, q⟩ := h
  obtain ⟨x, S1, h1, hf⟩ := M.bind_some hf
  obtain ⟨l, S2, h2, hf⟩ := M.bind_some hf
  obtain ⟨u, S3, h3, hf⟩ := M.bind_some hf
  refine ⟨c, T, fp, ρ, S, x, S1, ok, h1, fun v H1 Fx ok1 e1 dx ax rx => ?_⟩
  refine ⟨c, T, fp, ρ, S1, l, S2, ok1, h2, fun H2 ok2 e2 => ?_⟩
  refine ⟨c, T, fp, ρ, S2, u, S3, ok2, h3, fun H3 ok3 e3 => ?_⟩
  have e := (e1.trans e2).trans e3
  exact slice_core (m := m) ok3 e (dx.ext (e2.trans e3) fun z hz => ok.notR (ax z hz)) ax rx hm hf fun v' H' F ex es den av res => q v' H' F (by rw [es]; exact ok3.grow ex) (e.trans (ex.mono fun _ z => nomatch z)) den av res
theorem ev_slice {lo hi : Option Expr} {fl fh : Option EF} {p2 : Pos} (ha : EV X G ma a fa) (hl : OV X G lo fl) (hh : OV X G hi fh) : EV X G .own (.Subscript a (.Slice lo hi none p2) pos) (eSlice true fa fl fh) := ev_sliceG (own := true) rfl ha hl hh
theorem ev_sliceV {lo hi : Option Expr} {fl fh : Option EF} {p2 : Pos} (ha : EV X G .val a fa) (hl : OV X G lo fl) (hh : OV X G hi fh) : EV X G .val (.Subscript a (.Slice lo hi none p2) pos) (eSlice false fa fl fh) := ev_sliceG (own := false) ⟨rfl, rfl⟩ ha hl hh
end
end DL

/-! DS4: tests, displays, calls. -/
namespace DL
open PySem PySem.Spec PyProof.Rows L2

section
variable {X : Cx} {G : Sg} {m ma mb : Md} {a b c' : Expr} {fa fb fc : EF} {ta tb : TF} {pos : Pos} {es : List Expr} {fs : LF}

/-! ### tests -/
theorem tv_pw (h : TW X G a ta) : TV X G a ta := h.pt
theorem tv_not (h : TV X G a ta) : TV X G (.UnaryOp .Not a pos) (tNot ta) := by
  refine PT.mono (pt_not h) fun σ H Q hh => ?_
  obtain ⟨c, T, fp, ρ, S, d, S', ok, hf, q⟩ := hh
  obtain ⟨x, S1, h1, hf⟩ := M.bind_some hf
  obtain ⟨rfl, rfl⟩ := M.pure_some hf
  exact ⟨c, T, fp, ρ, S, x, _, ok, h1, q⟩
theorem tw_and1 (h : TV X G a ta) : TW X G (.BoolOp .And [a] pos) ta := pw_and1 h
theorem tw_or1 (h : TV X G a ta) : TW X G (.BoolOp .Or [a] pos) ta := pw_or1 h
theorem tw_and {rest : List Expr} (h : TV X G a ta) (h2 : TW X G (.BoolOp .And (b :: rest) pos) tb) : TW X G (.BoolOp .And (a :: b :: rest) pos) (tAnd ta tb) := by
  refine PW.mono (pw_and h h2) fun σ H Q hh => ?_
  obtain ⟨c, T, fp, ρ, S, d, S', ok, hf, q⟩ := hh
  obtain ⟨x, S1, h1, hf⟩ := M.bind_some hf
  refine ⟨c, T, fp, ρ, S, x, S1, ok, h1, fun H1 ok1 e1 => ?_⟩
  by_cases hx : x = true
  · rw [if_pos hx] at hf ⊢
    exact ⟨c, T, fp, ρ, S1, d, S', ok1, hf, fun H2 ok2 e2 => q H2 ok2 (e1.trans e2)⟩
  · rw [if_neg hx] at hf ⊢
    obtain ⟨rfl, rfl⟩ := M.pure_some hf
    exact q H1 ok1 e1
theorem tw_or {rest : List Expr} (h : TV X G a ta) (h2 : TW X G (.BoolOp .Or (b :: rest) pos) tb) : TW X G (.BoolOp .Or (a :: b :: rest) pos) (tOr ta tb) := by
  refine PW.mono (pw_or h h2) fun σ H Q hh => ?_
  obtain ⟨c, T, fp, ρ, S, d, S', ok, hf, q⟩ := hh
  obtain ⟨x, S1, h1, hf⟩ := M.bind_some hf
  refine ⟨c, T, fp, ρ, S, x, S1, ok, h1, fun H1 ok1 e1 => ?_⟩
  by_cases hx : x = true
  · rw [if_pos hx] at hf ⊢
    obtain ⟨rfl, rfl⟩ := M.pure_some hf
    exact q H1 ok1 e1
  · rw [if_neg hx] at hf ⊢
    exact ⟨c, T, fp, ρ, S1, d, S', ok1, hf, fun H2 ok2 e2 => q H2 ok2 (e1.trans e2)⟩
/-- as values -/
theorem ev_one {op} (h : EV X G m a fa) : EV X G m (.BoolOp op [a] pos) fa := pe_one h
theorem ev_and {rest : List Expr} (h : EV X G ma a fa) (h2 : EV X G m (.BoolOp .And (b :: rest) pos) fb) : EV X G m (.BoolOp .And (a :: b :: rest) pos) (eAnd fa fb) := by
  refine PE.mono (pe_and h h2) fun σ H Q hh => ?_
  obtain ⟨c, T, fp, ρ, S, d, S', ok, hf, q⟩ := hh
  obtain ⟨x, S1, h1, hf⟩ := M.bind_some hf
  refine ⟨c, T, fp, ρ, S, x, S1, ok, h1, fun v H1 F ok1 e1 dn av r => ?_⟩
  split at hf
  · cases dn
    exact ⟨_, rfl, iteT ⟨c, T, fp, ρ, S1, d, S', ok1, hf, fun v2 H2 F2 ok2 e2 d2 av2 r2 => q v2 H2 F2 ok2 (e1.trans e2) d2 av2 (r2.back e1 ok.hP av2)⟩⟩
  · cases dn
    obtain ⟨rfl, rfl⟩ := M.pure_some hf
    exact ⟨_, rfl, iteF (q _ H1 [] ok1 e1 (.bl _) av0 (ResOk.imm rfl))⟩
  · exact (M.fail_some hf).elim
theorem ev_or {rest : List Expr} (h : EV X G ma a fa) (h2 : EV X G m (.BoolOp .Or (b :: rest) pos) fb) : EV X G m (.BoolOp .Or (a :: b :: rest) pos) (eOr fa fb) := by
  refine PE.mono (pe_or h h2) fun σ H Q hh => ?_
  obtain ⟨c, T, fp, ρ, S, d, S', ok, hf, q⟩ := hh
  obtain ⟨x, S1, h1, hf⟩ := M.bind_some hf
  refine ⟨c, T, fp, ρ, S, x, S1, ok, h1, fun v H1 F ok1 e1 dn av r => ?_⟩
  split at hf
  · cases dn
    obtain ⟨rfl, rfl⟩ := M.pure_some hf
    exact ⟨_, rfl, iteT (q _ H1 [] ok1 e1 (.bl _) av0 (ResOk.imm rfl))⟩
  · cases dn
    exact ⟨_, rfl, iteF ⟨c, T, fp, ρ, S1, d, S', ok1, hf, fun v2 H2 F2 ok2 e2 d2 av2 r2 => q v2 H2 F2 ok2 (e1.trans e2) d2 av2 (r2.back e1 ok.hP av2)⟩⟩
  · exact (M.fail_some hf).elim
theorem ev_not (h : EV X G ma a fa) : EV X G .own (.UnaryOp .Not a pos) (DL.e1 notD fa) := by
  refine ev_1 (r := fun x H Q => ∃ c, x = .bl c ∧ Q (.bl (!c)) H) (pe_not h) fun c T fp ρ S S' σ H0 H x d v Fx Q ok e dx ax rx hf q => ?_
  unfold notD at hf
  split at hf
  · obtain ⟨rfl, rfl⟩ := M.pure_some hf
    cases dx
    exact ⟨_, rfl, q _ H [] Ext.refl rfl (.bl _) av0 (ResOk.imm rfl)⟩
  · exact (M.fail_some hf).elim
theorem ev_if {t : TF} {cnd : Expr} (ht : TV X G cnd t) (ha : EV X G m a fa) (hb : EV X G m b fb) : EV X G m (.IfExp cnd a b pos) (eIf t fa fb) := by
  refine PE.mono (pe_ifExp ht ha hb) fun σ H Q hh => ?_
  obtain ⟨c, T, fp, ρ, S, d, S', ok, hf, q⟩ := hh
  obtain ⟨x, S1, h1, hf⟩ := M.bind_some hf
  refine ⟨c, T, fp, ρ, S, x, S1, ok, h1, fun H1 ok1 e1 => ?_⟩
  by_cases hx : x = true
  · rw [if_pos hx] at hf ⊢
    exact ⟨c, T, fp, ρ, S1, d, S', ok1, hf, fun v2 H2 F2 ok2 e2 d2 av2 r2 => q v2 H2 F2 ok2 (e1.trans e2) d2 av2 (r2.back e1 ok.hP av2)⟩
  · rw [if_neg hx] at hf ⊢
    exact ⟨c, T, fp, ρ, S1, d, S', ok1, hf, fun v2 H2 F2 ok2 e2 d2 av2 r2 => q v2 H2 F2 ok2 (e1.trans e2) d2 av2 (r2.back e1 ok.hP av2)⟩
/-- a < b < c -/
theorem cv_chain {op op' : CmpOp} {r r' : R2} {o1 o2 : D → D → M D} {mc : Md} (ho : OpR X (compareOp op) r) (ho' : OpR X (compareOp op') r') (ha : EV X G ma a fa) (hb : EV X G mb b fb) (hc : EV X G mc c' fc)
    (hr : ∀ (c : Cc) (T : List Tmp) (fp : Nat → List Addr) (ρ : Env) (S S' : Src) (σ : St) (H0 H : Hp) (x y d : D) (v w : V) (Fx Fy : List Addr) (Q : VK), StOk X.K G c T fp ρ S σ H → Ext c.R H0 H → Den X.K H v x Fx → Den X.K H w y Fy → (∀ a ∈ Fx, ¬ c.P a) → (∀ a ∈ Fy, ¬ c.P a) →
      ResOk G fp ρ H0 ma Fx → ResOk G fp ρ H0 mb Fy → o1 x y S = some (d, S') →
      (∀ v H' F, Ext [] H H' → S' = S → Den X.K H' v d F → (∀ a ∈ F, ¬ c.P a) → ResOk G fp ρ H0 .own F → Q v H') → r v w H Q)
    (hr' : ∀ (c : Cc) (T : List Tmp) (fp : Nat → List Addr) (ρ : Env) (S S' : Src) (σ : St) (H0 H : Hp) (x y d : D) (v w : V) (Fx Fy : List Addr) (Q : VK), StOk X.K G c T fp ρ S σ H → Ext c.R H0 H → Den X.K H v x Fx → Den X.K H w y Fy → (∀ a ∈ Fx, ¬ c.P a) → (∀ a ∈ Fy, ¬ c.P a) →
      ResOk G fp ρ H0 .bor Fx → ResOk G fp ρ H0 mc Fy → o2 x y S = some (d, S') →
      (∀ v H' F, Ext [] H H' → S' = S → Den X.K H' v d F → (∀ a ∈ F, ¬ c.P a) → ResOk G fp ρ H0 .own F → Q v H') → r' v w H Q) (hm : lastMarks [op, op'] [b, c'] = false := by with_unfolding_all rfl) : CV X G (.Compare a [op, op'] [b, c'] pos) (eChain o1 o2 fa fb fc) := by
  have key : ∀ σ H Q, tD X.K G .own (eChain o1 o2 fa fb fc) σ H Q → tChain r r' (tD X.K G ma fa) (tD X.K G mb fb) (tD X.K G mc fc) σ H Q := by
    intro σ H Q hh
    obtain ⟨c, T, fp, ρ, S, d, S', ok, hf, q⟩ := hh
    obtain ⟨x, S1, h1, hf⟩ := M.bind_some hf
    obtain ⟨y, S2, h2, hf⟩ := M.bind_some hf
    obtain ⟨z, S3, h3, hf3⟩ := M.bind_some hf
    clear hf
    refine tD.two ok h1 h2 fun v w H' Fx Fy ok' e dx dy ax ay rx ry => ?_
    refine hr c T fp ρ S2 S3 σ H H' x y z v w Fx Fy _ ok' e dx dy ax ay rx ry h3 fun v' H'' F e2 es dn av res => ?_
    subst es
    have ok2 := ok'.grow e2
    have e3 : Ext c.R H H'' := e.trans (e2.mono fun _ z => nomatch z)
    split at hf3
    · cases dn
      obtain ⟨u, S4, h4, hf4⟩ := M.bind_some hf3
      clear hf3
      refine ⟨_, rfl, iteT ⟨c, T, fp, ρ, _, u, S4, ok2, h4, fun w3 H3 F3 ok3 e4 d3 a3 r3 => ?_⟩⟩
      have e5 : Ext c.R H' H3 := (e2.mono fun _ z => nomatch z).trans e4
      refine hr' c T fp ρ S4 S' σ H'' H3 y u d w w3 Fy F3 Q ok3 e4 (dy.ext e5 fun z hz => ok.notR (ay z hz)) d3 ay a3 trivial r3 hf4 fun v4 H4 F4 e6 es4 d4 a4 r4 => ?_
      subst es4
      exact q v4 H4 F4 (ok3.grow e6) ((e3.trans e4).trans (e6.mono fun _ z => nomatch z)) d4 a4 (r4.back e3 ok.hP a4)
    · cases dn
      obtain ⟨rfl, rfl⟩ := M.pure_some hf3
      exact ⟨_, rfl, iteF (q _ H'' [] ok2 e3 (.bl _) av0 (ResOk.imm rfl))⟩
    · exact (M.fail_some hf3).elim
  exact ⟨PE.mono (pe_chain ho ho' ha hb hc hm) key, PT.mono (pt_chain ho ho' ha hb hc hm) (tv_of key)⟩

/-! ### lists of expressions, displays -/
theorem av_nil : AV X G m [] lNil := by
  refine PA.mono pa_nil fun σ H Q hh => ?_
  obtain ⟨c, T, fp, ρ, S, d, S', ok, hf, q⟩ := hh
  obtain ⟨rfl, rfl⟩ := M.pure_some hf
  exact q [] H [] ok Ext.refl .nil av0 (ResOk.imm rfl)
theorem ResOk.app {fp : Nat → List Addr} {ρ : Env} {H H1 : Hp} {A B : List Addr} (h1 : ResOk G fp ρ H m A) (h2 : ResOk G fp ρ H m B) (hd : ∀ z ∈ A, H1 z ≠ none) (h3 : ResOk G fp ρ H1 m B) : ResOk G fp ρ H m (A ++ B) := by
  cases m with
  | bor => trivial
  | val => exact fun i d hi he z hz => (List.mem_append.mp hz).elim (h1 i d hi he z) (h2 i d hi he z)
  | own =>
    refine ⟨List.nodup_append.mpr ⟨h1.1, h2.1, fun z hz w hw e => ?_⟩, fun z hz => (List.mem_append.mp hz).elim (h1.2 z) (h2.2 z)⟩
    subst e
    exact hd z hz (h3.2 z hw)
theorem av_cons (ha : EV X G m a fa) (hr : AV X G m es fs) (hs : starEach (a :: es) X.env = (false, eval a X.env) :: starEach es X.env := by rfl) : AV X G m (a :: es) (lCons fa fs) := by
  refine PA.mono (pa_cons ha hr hs) fun σ H Q hh => ?_
  obtain ⟨c, T, fp, ρ, S, d, S', ok, hf, q⟩ := hh
  obtain ⟨x, S1, h1, hf⟩ := M.bind_some hf
  obtain ⟨xs, S2, h2, hf⟩ := M.bind_some hf
  obtain ⟨rfl, rfl⟩ := M.pure_some hf
  refine ⟨c, T, fp, ρ, S, x, S1, ok, h1, fun v H1 F1 ok1 e1 d1 a1 r1 => ?_⟩
  refine ⟨c, T, fp, ρ, S1, xs, _, ok1, h2, fun vs H2 F2 ok2 e2 d2 a2 r2 => ?_⟩
  refine q _ H2 _ ok2 (e1.trans e2) (.cons (d1.ext e2 fun z hz => ok.notR (a1 z hz)) d2) (fun z hz => (List.mem_append.mp hz).elim (a1 z) (a2 z)) ?_
  exact ResOk.app r1 (r2.back e1 ok.hP a2) (fun z hz => d1.dom z hz) r2
theorem av_star {p : Pos} (ha : EV X G ma a fa) (hr : AV X G m es fs) (hs : starEach (.Starred a p :: es) X.env = (true, eval a X.env) :: starEach es X.env := by rfl) : AV X G m (.Starred a p :: es) (lStar fa fs) := by
  refine PA.mono (StX.pa_star ha hr hs) fun σ H Q hh => ?_
  obtain ⟨c, T, fp, ρ, S, d, S', ok, hf, q⟩ := hh
  obtain ⟨x, S1, h1, hf⟩ := M.bind_some hf
  obtain ⟨xs, S2, h2, hf⟩ := M.bind_some hf
  refine ⟨c, T, fp, ρ, S, x, S1, ok, h1, fun v H1 F1 ok1 e1 d1 a1 r1 => ?_⟩
  cases e : seqOf x with
  | none => rw [e] at hf; exact (M.fail_some hf).elim
  | some ys =>
    rw [e] at hf
    obtain ⟨hi, hf⟩ := M.chk_bind hf
    obtain ⟨rfl, rfl⟩ := M.pure_some hf
    obtain ⟨p, vs, Gs, rfl, sq, l, hG⟩ := seq_cases d1 e
    obtain rfl := l.imm hi
    refine ⟨p, vs, rfl, sq.symm, c, T, fp, ρ, S1, xs, _, ok1, h2, fun ws H2 F2 ok2 e2 d2 a2 r2 => ?_⟩
    have l2 := (l.ext e2 fun _ z => nomatch z).append d2
    exact q _ H2 _ ok2 (e1.trans e2) l2 a2 (r2.back e1 ok.hP a2)
theorem ev_tup {k : Nat} (h : AV X G m es fs) : EV X G m (.Tuple es k pos) (eTup fs) := by
  refine PE.mono (pe_tup h) fun σ H Q hh => ?_
  obtain ⟨c, T, fp, ρ, S, d, S', ok, hf, q⟩ := hh
  obtain ⟨xs, S1, h1, hf⟩ := M.bind_some hf
  obtain ⟨hl, hf⟩ := M.chk_bind hf
  obtain ⟨rfl, rfl⟩ := M.pure_some hf
  refine ⟨c, T, fp, ρ, S, xs, _, ok, h1, fun vs H1 F ok1 e1 d1 a1 r1 => ⟨by rw [d1.length]; exact fit_le hl, fun p n => ?_⟩⟩
  exact q _ _ F (ok1.grow (Ext.new n)) (e1.trans (Ext.new n)) (Den.newT n d1) a1 r1
theorem ResOk.cons {K : PySem.W.Frag} {c : Cc} {T : List Tmp} {fp : Nat → List Addr} {ρ : Env} {S : Src} {σ : St} {H H1 : Hp} {vs : List V} {ds : List D} {A : List Addr} {p : Addr} (ok1 : StOk K G c T fp ρ S σ H1) (e1 : Ext c.R H H1) (h : ResOk G fp ρ H m A) (l : DenL K H1 vs ds A) (n : H1 p = none) : ResOk G fp ρ H m (p :: A) := by
  cases m with
  | bor => trivial
  | val =>
    intro i d hi hd z hz w
    rcases List.mem_cons.mp hz with rfl | hz
    · obtain ⟨v', _, dn⟩ := ok1.den i d hd
      exact dn.dom _ w n
    · exact h i d hi hd z hz w
  | own =>
    refine ⟨List.nodup_cons.mpr ⟨fun z => l.dom p z n, h.1⟩, fun z hz => ?_⟩
    rcases List.mem_cons.mp hz with rfl | hz
    · exact e1.back0 ok1 n
    · exact h.2 z hz
theorem ev_lst (h : AV X G m es fs) : EV X G m (.List es pos) (eLst fs) := by
  refine PE.mono (pe_lst h) fun σ H Q hh => ?_
  obtain ⟨c, T, fp, ρ, S, d, S', ok, hf, q⟩ := hh
  obtain ⟨xs, S1, h1, hf⟩ := M.bind_some hf
  obtain ⟨hl, hf⟩ := M.chk_bind hf
  obtain ⟨rfl, rfl⟩ := M.pure_some hf
  refine ⟨c, T, fp, ρ, S, xs, _, ok, h1, fun vs H1 F ok1 e1 d1 a1 r1 => ⟨by rw [d1.length]; exact fit_le hl, fun p n => ?_⟩⟩
  exact q _ _ _ (ok1.grow (Ext.new n)) (e1.trans (Ext.new n)) (Den.newL n d1) (ok1.avc n a1) (r1.cons ok1 e1 d1 n)
end

/-! ### calls of one's own defs -/
/-- the promise of a def that changes nothing of its caller's -/
def spD (K : PySem.W.Frag) (n : Nat) (own : Bool) (mf : List D → M D) : Sp := fun vs H Q _ => vs.length = n ∧ ∃ (P : Addr → Prop) (ds : List D) (F : List Addr) (S : Src) (r : D) (S' : Src), DenL K H vs ds F ∧ (∀ a ∈ F, ¬ P a) ∧ (∀ a, P a → H a ≠ none) ∧ mf ds S = some (r, S') ∧
  ∀ v H' F', Ext [] H H' → Den K H' v r F' → (∀ a ∈ F', ¬ P a) → (own = true → F'.Nodup ∧ ∀ a ∈ F', H a = none) → Q v H'
/-- .. of one that draws: the source is its first argument -/
def spM (K : PySem.W.Frag) (n : Nat) (own : Bool) (mf : List D → M D) : Sp := fun ws H Q _ => ws.length = n + 1 ∧ ∃ (p q : Addr) (vs : List V) (P : Addr → Prop) (ds : List D) (F : List Addr) (S : Src) (r : D) (S' : Src), ws = .ref p :: vs ∧ SrcAt H p q S ∧ P p ∧ P q ∧ DenL K H vs ds F ∧ (∀ a ∈ F, ¬ P a) ∧ (∀ a, P a → H a ≠ none) ∧ mf ds S = some (r, S') ∧
  ∀ v H' F', Ext [p, q] H H' → SrcAt H' p q S' → Den K H' v r F' → (∀ a ∈ F', ¬ P a) → (own = true → F'.Nodup ∧ ∀ a ∈ F', H a = none) → Q v H'
theorem noSrc_some {α : Type} {x : M α} {S S' : Src} {a : α} (h : noSrc x S = some (a, S')) : S' = S ∧ ∃ S1, x S = some (a, S1) := by
  unfold noSrc at h
  cases e : x S with
  | none => rw [e] at h; cases h
  | some p =>
    rw [e] at h
    cases h
    exact ⟨rfl, p.2, rfl⟩

section
variable {X : Cx} {G : Sg} {m : Md} {a : Expr} {pos p : Pos} {es : List Expr} {fs : LF} {k : Nat} {f : Addr} {fd : FuncData} {ps : List Str} {n : Nat} {mf : List D → M D} {x : Str} {own : Bool}
theorem call_core (hm : if own = true then m = .own else m = .bor) {σ : St} {H : Hp} {Q : VK} (h : tD X.K G m (eCall mf fs) σ H Q) (hl : ∀ vs ds F H, DenL X.K H vs ds F → (∃ S r, mf ds S = some r) → vs.length = n) :
    (tDA X.K G .bor fs) σ H fun vs H1 => spD X.K n own mf (vs ++ []) H1 Q E0 := by
  obtain ⟨c, T, fp, ρ, S, d, S', ok, hf, q⟩ := h
  obtain ⟨ds, S1, h1, hf⟩ := M.bind_some hf
  obtain ⟨rfl, S2, h2⟩ := noSrc_some hf
  refine ⟨c, T, fp, ρ, S, ds, _, ok, h1, fun vs H1 F ok1 e1 dn av r => ?_⟩
  show spD X.K n own mf (vs ++ []) H1 Q E0
  rw [List.append_nil]
  refine ⟨hl vs ds F H1 dn ⟨_, _, h2⟩, c.P, ds, F, _, d, S2, dn, av, fun z hz w => ok1.new_av w hz, h2, fun v H' F' e2 d2 a2 o2 => ?_⟩
  refine q v H' F' (ok1.grow e2) (e1.trans (e2.mono fun _ z => nomatch z)) d2 a2 ?_
  cases own with
  | true =>
    have hm' : m = .own := hm
    subst hm'
    exact ResOk.back (R := c.R) (P := c.P) (H' := H1) (m := .own) (o2 rfl) e1 ok.hP a2
  | false =>
    have hm' : m = .bor := hm
    subst hm'
    trivial
theorem ev_callG {own : Bool} (hm : if own = true then m = .own else m = .bor) (F : FnOk X.prog X.w X.K X.mg X.base CX0 k f fd ps (spD X.K n own mf)) (hr : Room k X.A) (hg : Gl X x) (hm2 : X.mg x = some (.ref f)) (hk : PySem.W.keepIn X.K (.ref f) = true) (hb : Binds X.K fd ps []) (ha : AV X G .bor (a :: es) fs)
    (hn : ∀ ds S r, mf ds S = some r → ds.length = n) (hdb : (x == ("__debug__" : Str)) = false := by decide) (he : starEach (a :: es) X.env = (false, eval a X.env) :: starEach es X.env := by rfl) (hpl : (backTo pos (starEach es X.env)).any (·.1) = false := by rfl) : EV X G m (.Call (.Name x p) (a :: es) [] pos) (eCall mf fs) :=
  PE.mono (pe_call F hr hg hm2 hk hb .nil pass0 ha hdb he hpl) fun σ H Q h => call_core hm h fun vs ds F H l ⟨S, r, e⟩ => l.length.trans (hn ds S r e)
theorem ev_call (F : FnOk X.prog X.w X.K X.mg X.base CX0 k f fd ps (spD X.K n true mf)) (hr : Room k X.A) (hg : Gl X x) (hm2 : X.mg x = some (.ref f)) (hk : PySem.W.keepIn X.K (.ref f) = true) (hb : Binds X.K fd ps []) (ha : AV X G .bor (a :: es) fs)
    (hn : ∀ ds S r, mf ds S = some r → ds.length = n) (hdb : (x == ("__debug__" : Str)) = false := by decide) (he : starEach (a :: es) X.env = (false, eval a X.env) :: starEach es X.env := by rfl) (hpl : (backTo pos (starEach es X.env)).any (·.1) = false := by rfl) : EV X G .own (.Call (.Name x p) (a :: es) [] pos) (eCall mf fs) := ev_callG (own := true) rfl F hr hg hm2 hk hb ha hn hdb he hpl
theorem ev_callB (F : FnOk X.prog X.w X.K X.mg X.base CX0 k f fd ps (spD X.K n false mf)) (hr : Room k X.A) (hg : Gl X x) (hm2 : X.mg x = some (.ref f)) (hk : PySem.W.keepIn X.K (.ref f) = true) (hb : Binds X.K fd ps []) (ha : AV X G .bor (a :: es) fs)
    (hn : ∀ ds S r, mf ds S = some r → ds.length = n) (hdb : (x == ("__debug__" : Str)) = false := by decide) (he : starEach (a :: es) X.env = (false, eval a X.env) :: starEach es X.env := by rfl) (hpl : (backTo pos (starEach es X.env)).any (·.1) = false := by rfl) : EV X G .bor (.Call (.Name x p) (a :: es) [] pos) (eCall mf fs) := ev_callG (own := false) rfl F hr hg hm2 hk hb ha hn hdb he hpl
/-- a call that draws -/
theorem ev_callMG {i : Nat} {sx : Str} {ps1 : Pos} {own : Bool} (hm : if own = true then m = .own else m = .bor) (hsc : G.sc = some i) (hN : X.N[i]? = some sx) (hv : Vis X.env.scope sx) (F : FnOk X.prog X.w X.K X.mg X.base CX0 k f fd ps (spM X.K n own mf)) (hr : Room k X.A) (hg : Gl X x) (hm2 : X.mg x = some (.ref f)) (hk : PySem.W.keepIn X.K (.ref f) = true) (hb : Binds X.K fd ps []) (ha : AV X G .bor es fs)
    (hn : ∀ ds S r, mf ds S = some r → ds.length = n) (hdb : (x == ("__debug__" : Str)) = false := by decide) (he : starEach (.Name sx ps1 :: es) X.env = (false, eval (.Name sx ps1) X.env) :: starEach es X.env := by rfl) (hpl : (backTo pos (starEach es X.env)).any (·.1) = false := by rfl)
    (hdb2 : (sx == ("__debug__" : Str)) = false := by decide) (hcd : (sx == ("__classdict__" : Str)) = false := by decide) : EV X G m (.Call (.Name x p) (.Name sx ps1 :: es) [] pos) (eCallM mf fs) := by
  refine PE.mono (pe_call F hr hg hm2 hk hb .nil pass0 (pa_cons (pe_var hN hv hdb2 hcd) ha he) hdb he hpl) fun σ H Q h => ?_
  obtain ⟨c, T, fp, ρ, S, d, S', ok, hf, q⟩ := h
  obtain ⟨ds, S1, h1, hf⟩ := M.bind_some hf
  have sOk := ok.src
  unfold SrcOk at sOk
  rw [hsc] at sOk
  cases e : c.src with
  | none =>
    rw [e] at sOk
    exact sOk.elim
  | some pq =>
    obtain ⟨p0, q0⟩ := pq
    rw [e] at sOk
    obtain ⟨s1, _⟩ := sOk
    refine ⟨.ref p0, s1, c, T, fp, ρ, S, ds, S1, ok, h1, fun vs H1 Fa ok1 e1 dn av r => ?_⟩
    have sOk1 := ok1.src
    unfold SrcOk at sOk1
    rw [hsc, e] at sOk1
    have hR : c.R = [p0, q0] := by
      unfold Cc.R
      rw [e]
    show spM X.K n own mf ((.ref p0 :: vs) ++ []) H1 Q E0
    rw [List.append_nil]
    refine ⟨by rw [List.length_cons, dn.length, hn ds S1 _ hf], p0, q0, vs, c.P, ds, Fa, S1, d, S', rfl, sOk1.2, ok.hP _ (by rw [hR]; simp), ok.hP _ (by rw [hR]; simp), dn, av, fun z hz w => ok1.new_av w hz, hf, fun v H' F' e2 sa d2 a2 o2 => ?_⟩
    rw [← hR] at e2
    refine q v H' F' (ok1.step e2 ?_) (e1.trans e2) d2 a2 ?_
    · unfold SrcOk
      rw [hsc, e]
      exact ⟨s1, sa⟩
    · cases own with
      | true =>
        have hm' : m = .own := hm
        subst hm'
        exact ResOk.back (R := c.R) (P := c.P) (H' := H1) (m := .own) (o2 rfl) e1 ok.hP a2
      | false =>
        have hm' : m = .bor := hm
        subst hm'
        trivial
end
end DL

/-! DS5: built-in functions. -/
namespace DL
open PySem PySem.Spec PyProof.Rows L2

/-! ### sorted -/
theorem each_den {K : PySem.W.Frag} {H : Hp} : ∀ {us : List Value} {ds : List D}, PySem.W.EachIs (fun u d => ∃ v, RelV v u ∧ Den K H v d []) us ds → ∃ vs, Vals vs us ∧ DenL K H vs ds []
  | _, _, .nil => ⟨[], .nil, .nil⟩
  | _, _, .cons ⟨v, r, d⟩ t => by
    obtain ⟨vs, h1, h2⟩ := each_den t
    exact ⟨v :: vs, .cons r h1, .cons d h2⟩
theorem den_each {K : PySem.W.Frag} {H : Hp} : ∀ {vs : List V} {us : List Value} {ds : List D}, Vals vs us → DenL K H vs ds [] → PySem.W.EachIs (fun u d => ∃ v, RelV v u ∧ Den K H v d []) us ds
  | _, _, _, .nil, l => by
    cases l
    exact .nil
  | v :: vs, _, d :: ds, .cons r t, l => by
    have l2 : ∃ A B, A ++ B = [] ∧ Den K H v d A ∧ DenL K H vs ds B := by
      generalize e : ([] : List Addr) = E at l
      cases l with
      | cons h1 h2 => exact ⟨_, _, rfl, h1, h2⟩
    obtain ⟨A, B, e, h1, h2⟩ := l2
    obtain ⟨rfl, rfl⟩ := List.append_eq_nil_iff.mp e
    exact .cons ⟨v, r, h1⟩ (den_each t h2)
  | v :: vs, _, [], .cons r t, l => by
    exact absurd (DenL.length l) (by simp)
theorem EachR.mono {α β : Type} {R R' : α → β → Prop} : ∀ {as : List α} {bs : List β}, PySem.W.EachIs R as bs → (∀ a b, b ∈ bs → R a b → R' a b) → PySem.W.EachIs R' as bs
  | _, _, .nil, _ => .nil
  | _, _, .cons h t, f => .cons (f _ _ List.mem_cons_self h) (EachR.mono t fun a b z => f a b (List.mem_cons_of_mem _ z))
theorem immAll_mem : ∀ {ds : List D}, immAll ds = true → ∀ d ∈ ds, imm d = true
  | [], _, _, z => nomatch z
  | d :: ds, h, x, z => by
    have h' : imm d = true ∧ immAll ds = true := by simpa [immAll] using h
    rcases List.mem_cons.mp z with rfl | z
    · exact h'.1
    · exact immAll_mem h'.2 x z
theorem immAll_of : ∀ {ds : List D}, (∀ d ∈ ds, imm d = true) → immAll ds = true
  | [], _ => rfl
  | d :: ds, h => by
    simp only [immAll, h d List.mem_cons_self, immAll_of fun x z => h x (List.mem_cons_of_mem _ z), Bool.and_self]
theorem sortable_alike {ds : List D} (h : sortable ds = true) : PySem.W.AllAlike ds := by
  unfold sortable at h
  obtain ⟨h, _⟩ := and_true h
  obtain ⟨h, _⟩ := and_true h
  exact fun d hd d' hd' => List.all_eq_true.mp (List.all_eq_true.mp h d hd) d' hd'
theorem sortable_sort {ds : List D} (h : sortable ds = true) : PySem.W.Sortable ds := by
  unfold sortable at h
  obtain ⟨h, _⟩ := and_true h
  obtain ⟨_, h⟩ := and_true h
  rcases Bool.or_eq_true_iff.mp h with h | h
  · refine .inl fun d hd => ?_
    have z := List.all_eq_true.mp h d hd
    unfold isTupCons at z
    split at z
    · exact ⟨_, _, rfl⟩
    · cases z
  · refine .inr fun d hd => ?_
    have z := List.all_eq_true.mp h d hd
    obtain ⟨z1, z2⟩ := and_true z
    refine ⟨fun e => ?_, fun xs e => ?_⟩
    · subst e
      cases z1
    · subst e
      cases z2
theorem sortable_depth {ds : List D} (h : sortable ds = true) : ∀ d ∈ ds, d.depth ≤ 64 := by
  unfold sortable at h
  obtain ⟨_, h⟩ := and_true h
  exact fun d hd => of_decide_eq_true (List.all_eq_true.mp h d hd)
theorem mem_sort {ds : List D} {d : D} (h : d ∈ ds.mergeSort leD) : d ∈ ds := by
  exact (List.mergeSort_perm ds leD).mem_iff.mp h
mutual
theorem reads_imm {h : Heap} : ∀ {u : Value} {d : D} {as : List Addr}, Reads h u d as → imm d = true → as = []
  | _, _, _, .none, _ => rfl
  | _, _, _, .bool _, _ => rfl
  | _, _, _, .int _ _, _ => rfl
  | _, _, _, .str _ _, _ => rfl
  | _, _, _, .list _ _ _ _, z => by simp [imm] at z
  | _, _, _, .tuple _ _ _ r, z => readsAll_imm r (by simpa [imm] using z)
  | _, _, _, .dict _ _ _ _ _, z => by simp [imm] at z
theorem readsAll_imm {h : Heap} : ∀ {us : List Value} {ds : List D} {as : List Addr}, ReadsAll h us ds as → immAll ds = true → as = []
  | _, _, _, .nil, _ => rfl
  | _, _, _, .cons (d := d) (ds := ds) a b, z => by
    have z' : imm d = true ∧ immAll ds = true := by simpa [immAll] using z
    rw [reads_imm a z'.1, readsAll_imm b z'.2]
    rfl
end
section
variable {X : Cx} {pins : List (Addr × Obj)} {σ : St} {H : Hp} {s : Shared}
/-- iter and collect: what a list, a tuple gives -/
def Collects (X : Cx) (u : Value) (us : List Value) (s : Shared) : Prop := ∀ (A : Around) (Q : List Value → Shared → Prop) (E : Value → Shared → Prop), A.handled = none →
  (∀ h' tk, (∀ b o, s.heap.get? b = some o → h'.get? b = some o) → Q us { s with heap := h', toks := tk }) → wpAny (model X.prog X.w) A (collect u) Q E s
theorem collects_seq {p : Addr} {xs : List V} (I : Inv X pins σ H s) (h : SqL X.K H p xs ∨ SqT X.K H p xs) : ∃ us, Vals xs us ∧ us.length ≤ sizeLine ∧ Collects X (.ref p) us s := by
  rcases h with h | h
  · obtain ⟨its, rv, ⟨o, n, ho, hc, _, hd⟩, hz⟩ := I.list h
    have hl := rv.length
    refine ⟨its, rv, by omega, fun A Q E _ q => ?_⟩
    exact wpAny_collect_seq p (.inl rfl) ho hc hd (fun h' k => q h' s.toks k) (by rw [List.size_toArray]; omega)
  · obtain ⟨its, rv, ⟨o, ho, hc, n, hd⟩, hz⟩ := I.tuple h
    have hl := rv.length
    refine ⟨its, rv, by omega, fun A Q E _ q => ?_⟩
    exact wpAny_collect_seq p (.inr rfl) ho hc hd (fun h' k => q h' s.toks k) (by rw [List.size_toArray]; omega)
theorem sorted_run {u : Value} {us : List Value} {vs : List V} {ds : List D} {Q : VK} (I : Inv X pins σ H s) (hc : X.calm = true) (hu : X.A.units + 128 < cLine) (hl : us.length ≤ sizeLine) (C : Collects X u us s) (rv : Vals vs us) (dn : DenL X.K H vs ds []) (hi : immAll ds = true) (hs : sortable ds = true)
    (q : ∀ p ys, H p = none → DenL X.K H ys (ds.mergeSort leD) [] → Q (.ref p) (upd H p (.lst ys))) : wpAny (model X.prog X.w) X.A (call (.builtin "sorted") [u]) (EP X pins σ Q) X.xe s := by
  refine Calls.call_function_entry kind_sorted plain_sorted entry_sorted (args_sorted1 _) ?_
  unfold Builtin.«sorted»
  refine wpAny_bind (m := checkCount "sorted" 1 1 _) (wpAny_pure ?_)
  refine wpAny_bind (C _ _ _ (I.ok.hd hc) fun h' tk hk => ?_)
  have I1 : Inv X pins σ H { s with heap := h', toks := tk } := I.kept hk
  refine wpAny_bind (wpAny_newList ?_ hl)
  have hL : (h'.push (seqObj "list" us.toArray 0)).get? h'.objs.size = some (seqObj "list" us.toArray 0) := Heap.get?_push_size _ rfl
  have hgrow : ∀ b o, h'.get? b = some o → (h'.push (seqObj "list" us.toArray 0)).get? b = some o := fun b o e => Heap.get?_push_of_some _ e
  have ee := den_each rv dn
  have ed := dn.length
  have hlen : us.length = ds.length := by rw [← rv.length]; exact ed
  have er : PySem.W.EachIs (fun v b => ∃ as, Reads (h'.push (seqObj "list" us.toArray 0)) v (id b) as ∧ h'.objs.size ∉ as) us ds := by
    refine EachR.mono ee fun a b hb ⟨v, r1, d1⟩ => ?_
    obtain ⟨as, rd⟩ := Dp.reads I1 b v a (d1.dpN (imm_noDict b (immAll_mem hi b hb))) r1
    refine ⟨as, PyProof.Rows.Reads.keeps hgrow rd, fun z => ?_⟩
    rw [reads_imm rd (immAll_mem hi b hb)] at z
    cases z
  refine wpAny_bind (wpAny_holding (PySem.W.list_sort_data (enc := id) (R := fun u d => ∃ v, RelV v u ∧ Den X.K H v d []) hL ee er (by rw [List.map_id]; exact sortable_alike hs) (by rw [List.map_id]; exact sortable_sort hs) (by rw [← hlen]; exact hl) (fun b hb => ?_) fun out ol oe => ?_))
  · have := sortable_depth hs b hb
    show X.A.units + 1 + 1 + b.depth < cLine
    omega
  · have eq1 : (PySem.W.dataLe false id : D → D → Bool) = leD := by
      rw [PySem.W.dataLe_eq]
      rfl
    rw [eq1] at oe
    obtain ⟨ys, rv2, dn2⟩ := each_den oe
    obtain ⟨e', he'⟩ := PyProof.Rows.sortedHeap_at (vs := us) (out := out.toArray) hL
    refine wpAny_pure ⟨_, rfl, .ref h'.objs.size, upd H h'.objs.size (.lst ys), I1.laid (t' := tk) (fun b o e => ?_) (Nat.le_refl _) (show ObjOk X.prog X.w _ _ _ (.lst ys) from ⟨?_, out, e', rv2, he'⟩), rfl, q _ ys (I1.hok.fresh (Nat.le_refl _)) dn2⟩
    · have hb : b < h'.objs.size := Heap.lt_size e
      rw [PyProof.Rows.sortedHeap_old (Nat.ne_of_lt hb) (by rw [size_push']; exact Nat.lt_succ_of_lt hb)]
      exact hgrow b o e
    · rw [rv2.length, ol, ← hlen]
      exact hl
end
end DL

/-! DS6: calls of built-in functions as expressions. -/
namespace DL
open PySem PySem.Spec PyProof.Rows L2

section
variable {X : Cx} {G : Sg} {m ma mb : Md} {a b : Expr} {fa fb : EF} {pos p : Pos} {x : Str}

/-- a built-in function of one argument -/
theorem ev_blt1 {id : String} {r : List V → Hp → VK → Prop} {op : D → M D} (hc : CallR X (.builtin id) r) (hg : Gl X x) (hm2 : X.mg x = none) (hv : bootBuiltins x = some (.builtin id)) (ha : EV X G ma a fa)
    (hr : ∀ (c : Cc) (T : List Tmp) (fp : Nat → List Addr) (ρ : Env) (S S' : Src) (σ : St) (H0 H : Hp) (x d : D) (v : V) (Fx : List Addr) (Q : VK), StOk X.K G c T fp ρ S σ H → Ext c.R H0 H → Den X.K H v x Fx → (∀ a ∈ Fx, ¬ c.P a) →
      ResOk G fp ρ H0 ma Fx → op x S = some (d, S') →
      (∀ v H' F, Ext [] H H' → S' = S → Den X.K H' v d F → (∀ a ∈ F, ¬ c.P a) → ResOk G fp ρ H0 m F → Q v H') → r [v] H Q) (hn : x ≠ "__name__" := by decide) (hdb : (x == ("__debug__" : Str)) = false := by decide)
    (he : starEach [a] X.env = (false, eval a X.env) :: starEach [] X.env := by rfl) (hpl : (backTo pos (starEach [] X.env)).any (·.1) = false := by rfl) : EV X G m (.Call (.Name x p) [a] [] pos) (DL.e1 op fa) :=
  PE.mono (pe_callB hc hg hm2 hv (pa_cons ha pa_nil he) hn hdb he hpl) (rd_1 (r := fun x H Q => r [x] H Q) hr)
theorem ev_ty1 {id : String} {r : List V → Hp → VK → Prop} {op : D → M D} (hc : CallR X (.type id) r) (hg : Gl X x) (hm2 : X.mg x = none) (hv : bootBuiltins x = some (.type id)) (ha : EV X G ma a fa)
    (hr : ∀ (c : Cc) (T : List Tmp) (fp : Nat → List Addr) (ρ : Env) (S S' : Src) (σ : St) (H0 H : Hp) (x d : D) (v : V) (Fx : List Addr) (Q : VK), StOk X.K G c T fp ρ S σ H → Ext c.R H0 H → Den X.K H v x Fx → (∀ a ∈ Fx, ¬ c.P a) →
      ResOk G fp ρ H0 ma Fx → op x S = some (d, S') →
      (∀ v H' F, Ext [] H H' → S' = S → Den X.K H' v d F → (∀ a ∈ F, ¬ c.P a) → ResOk G fp ρ H0 m F → Q v H') → r [v] H Q) (hn : x ≠ "__name__" := by decide) (hdb : (x == ("__debug__" : Str)) = false := by decide)
    (he : starEach [a] X.env = (false, eval a X.env) :: starEach [] X.env := by rfl) (hpl : (backTo pos (starEach [] X.env)).any (·.1) = false := by rfl) : EV X G m (.Call (.Name x p) [a] [] pos) (DL.e1 op fa) :=
  PE.mono (pe_callTy hc hg hm2 hv (pa_cons ha pa_nil he) hn hdb he hpl) (rd_1 (r := fun x H Q => r [x] H Q) hr)
/-- of two arguments -/
theorem ev_blt2 {id : String} {r : List V → Hp → VK → Prop} {op : D → D → M D} (hc : CallR X (.builtin id) r) (hg : Gl X x) (hm2 : X.mg x = none) (hv : bootBuiltins x = some (.builtin id)) (ha : EV X G ma a fa) (hb : EV X G mb b fb)
    (hr : ∀ (c : Cc) (T : List Tmp) (fp : Nat → List Addr) (ρ : Env) (S S' : Src) (σ : St) (H0 H : Hp) (x y d : D) (v w : V) (Fx Fy : List Addr) (Q : VK), StOk X.K G c T fp ρ S σ H → Ext c.R H0 H → Den X.K H v x Fx → Den X.K H w y Fy → (∀ a ∈ Fx, ¬ c.P a) → (∀ a ∈ Fy, ¬ c.P a) →
      ResOk G fp ρ H0 ma Fx → ResOk G fp ρ H0 mb Fy → op x y S = some (d, S') →
      (∀ v H' F, Ext [] H H' → S' = S → Den X.K H' v d F → (∀ a ∈ F, ¬ c.P a) → ResOk G fp ρ H0 m F → Q v H') → r [v, w] H Q) (hn : x ≠ "__name__" := by decide) (hdb : (x == ("__debug__" : Str)) = false := by decide)
    (he : starEach [a, b] X.env = (false, eval a X.env) :: starEach [b] X.env := by rfl) (he2 : starEach [b] X.env = (false, eval b X.env) :: starEach [] X.env := by rfl) (hpl : (backTo pos (starEach [b] X.env)).any (·.1) = false := by rfl) : EV X G m (.Call (.Name x p) [a, b] [] pos) (e2 op fa fb) :=
  PE.mono (pe_callB hc hg hm2 hv (pa_cons ha (pa_cons hb pa_nil he2) he) hn hdb he hpl) (rd_2 (r := fun x y H Q => r [x, y] H Q) hr)

theorem ev_len (hm2 : X.mg "len" = none) (ha : EV X G ma a fa) (hg : Gl X "len" := by rfl) (he : starEach [a] X.env = (false, eval a X.env) :: starEach [] X.env := by rfl) (hpl : (backTo pos (starEach [] X.env)).any (·.1) = false := by rfl) : EV X G .own (.Call (.Name "len" p) [a] [] pos) (DL.e1 lenD fa) := by
  refine ev_blt1 ((call_len_seq.or call_lenD).or call_len_dT) hg hm2 PySem.boot_len ha (fun c T fp ρ S S' σ H0 H x d v Fx Q ok e dx ax rx hf q => ?_) (by decide) (by decide) he hpl
  unfold lenD at hf
  split at hf
  · obtain ⟨rfl, rfl⟩ := M.pure_some hf
    cases dx with
    | lst e1 l =>
      refine .inl (.inl ⟨_, _, rfl, .inl (.inl (.inl e1)), ?_⟩)
      rw [l.length]
      exact q _ H [] Ext.refl rfl (.int _) av0 (ResOk.imm rfl)
  · obtain ⟨rfl, rfl⟩ := M.pure_some hf
    cases dx with
    | tup e1 l =>
      refine .inl (.inl ⟨_, _, rfl, .inr e1.sq, ?_⟩)
      rw [l.length]
      exact q _ H [] Ext.refl rfl (.int _) av0 (ResOk.imm rfl)
  · obtain ⟨rfl, rfl⟩ := M.pure_some hf
    cases dx with
    | dctK e1 k l =>
      refine .inl (.inr ⟨_, _, rfl, e1, ?_⟩)
      have hl := congrArg List.length k
      simp only [List.length_map] at hl
      rw [← hl]
      exact q _ H [] Ext.refl rfl (.int _) av0 (ResOk.imm rfl)
    | dctT e1 k l =>
      refine .inr ⟨_, _, rfl, e1, ?_⟩
      have hl := congrArg List.length k
      simp only [List.length_map] at hl
      rw [← hl]
      exact q _ H [] Ext.refl rfl (.int _) av0 (ResOk.imm rfl)
  · exact (M.fail_some hf).elim
theorem seq_bind {α : Type} {x : D} {f : List D → M α} {S S' : Src} {u : α} (h : (match seqOf x with
  | some xs => f xs
  | none => fail : M α) S = some (u, S')) : ∃ xs, seqOf x = some xs ∧ f xs S = some (u, S') := by
  cases e : seqOf x with
  | none => rw [e] at h; exact (M.fail_some h).elim
  | some xs =>
    rw [e] at h
    exact ⟨xs, rfl, h⟩
theorem seq_kind {K : PySem.W.Frag} {H : Hp} {v : V} {d : D} {F : List Addr} {ds : List D} (h : Den K H v d F) (e : seqOf d = some ds) : (∃ a vs F', v = .ref a ∧ H a = some (.lst vs) ∧ DenL K H vs ds F' ∧ F = a :: F') ∨ ∃ a vs, v = .ref a ∧ TupAt K H a vs ∧ DenL K H vs ds F := by
  cases h with
  | lst e1 l =>
    cases e
    exact .inl ⟨_, _, _, rfl, e1, l, rfl⟩
  | tup e1 l =>
    cases e
    exact .inr ⟨_, _, rfl, e1, l⟩
  | non => cases e
  | bl => cases e
  | int => cases e
  | str => cases e
  | dctK => cases e
  | dctT => cases e
theorem ev_tupleG {own : Bool} (hm : if own = true then m = .own else ma = .val ∧ m = .val) (hm2 : X.mg "tuple" = none) (ha : EV X G ma a fa) (hg : Gl X "tuple" := by rfl) (he : starEach [a] X.env = (false, eval a X.env) :: starEach [] X.env := by rfl) (hpl : (backTo pos (starEach [] X.env)).any (·.1) = false := by rfl) : EV X G m (.Call (.Name "tuple" p) [a] [] pos) (DL.e1 (tupleD own) fa) := by
  refine ev_ty1 call_tuple_of hg hm2 (by decide +kernel) ha (fun c T fp ρ S S' σ H0 H x d v Fx Q ok e dx ax rx hf q => ?_) (by decide) (by decide) he hpl
  obtain ⟨xs, e1, hf⟩ := seq_bind hf
  obtain ⟨h1, hf⟩ := M.chk_bind hf
  obtain ⟨rfl, rfl⟩ := M.pure_some hf
  rcases seq_kind dx e1 with ⟨a, vs, F, rfl, e2, l, rfl⟩ | ⟨a, vs, rfl, e2, l⟩
  · refine ⟨_, _, rfl, .inl ⟨.inl (.inl e2), fun p n => ?_⟩⟩
    refine q _ _ _ (Ext.new n) rfl (Den.newT n l) (fun z hz => ax z (List.mem_cons_of_mem _ hz)) ?_
    cases own with
    | true => exact ResOk.imm (l.imm (by simpa using h1))
    | false =>
      obtain ⟨rfl, rfl⟩ := hm
      exact fun i d hi hd z hz => rx i d hi hd z (List.mem_cons_of_mem _ hz)
  · refine ⟨_, _, rfl, .inr ⟨e2.sq, ?_⟩⟩
    refine q _ _ _ Ext.refl rfl (.tup e2 l) ax ?_
    cases own with
    | true => exact ResOk.imm (l.imm (by simpa using h1))
    | false =>
      obtain ⟨rfl, rfl⟩ := hm
      exact rx
theorem ev_tuple (hm2 : X.mg "tuple" = none) (ha : EV X G ma a fa) (hg : Gl X "tuple" := by rfl) (he : starEach [a] X.env = (false, eval a X.env) :: starEach [] X.env := by rfl) (hpl : (backTo pos (starEach [] X.env)).any (·.1) = false := by rfl) : EV X G .own (.Call (.Name "tuple" p) [a] [] pos) (DL.e1 (tupleD true) fa) := ev_tupleG (own := true) rfl hm2 ha hg he hpl
theorem ev_tupleV (hm2 : X.mg "tuple" = none) (ha : EV X G .val a fa) (hg : Gl X "tuple" := by rfl) (he : starEach [a] X.env = (false, eval a X.env) :: starEach [] X.env := by rfl) (hpl : (backTo pos (starEach [] X.env)).any (·.1) = false := by rfl) : EV X G .val (.Call (.Name "tuple" p) [a] [] pos) (DL.e1 (tupleD false) fa) := ev_tupleG (own := false) ⟨rfl, rfl⟩ hm2 ha hg he hpl
theorem ev_listG {own : Bool} (hm : if own = true then m = .own else ma = .val ∧ m = .val) (hm2 : X.mg "list" = none) (ha : EV X G ma a fa) (hg : Gl X "list" := by rfl) (he : starEach [a] X.env = (false, eval a X.env) :: starEach [] X.env := by rfl) (hpl : (backTo pos (starEach [] X.env)).any (·.1) = false := by rfl) : EV X G m (.Call (.Name "list" p) [a] [] pos) (DL.e1 (listD own) fa) := by
  refine ev_ty1 call_list_of hg hm2 (by decide +kernel) ha (fun c T fp ρ S S' σ H0 H x d v Fx Q ok e dx ax rx hf q => ?_) (by decide) (by decide) he hpl
  obtain ⟨xs, e1, hf⟩ := seq_bind hf
  obtain ⟨h1, hf⟩ := M.chk_bind hf
  obtain ⟨rfl, rfl⟩ := M.pure_some hf
  obtain ⟨p, vs, F, rfl, sq, l, hF⟩ := seq_cases dx e1
  refine ⟨_, _, rfl, sq, fun p n => ?_⟩
  refine q _ _ _ (Ext.new n) rfl (Den.newL n l) (ok.avc n fun z hz => ax z (hF z hz)) ?_
  have r2 : ResOk G fp ρ H0 m F := by
    cases own with
    | true => exact ResOk.imm (l.imm (by simpa using h1))
    | false =>
      obtain ⟨rfl, rfl⟩ := hm
      exact fun i d hi hd z hz => rx i d hi hd z (hF z hz)
  exact r2.cons ok e l n
theorem ev_list (hm2 : X.mg "list" = none) (ha : EV X G ma a fa) (hg : Gl X "list" := by rfl) (he : starEach [a] X.env = (false, eval a X.env) :: starEach [] X.env := by rfl) (hpl : (backTo pos (starEach [] X.env)).any (·.1) = false := by rfl) : EV X G .own (.Call (.Name "list" p) [a] [] pos) (DL.e1 (listD true) fa) := ev_listG (own := true) rfl hm2 ha hg he hpl
theorem ev_listV (hm2 : X.mg "list" = none) (ha : EV X G .val a fa) (hg : Gl X "list" := by rfl) (he : starEach [a] X.env = (false, eval a X.env) :: starEach [] X.env := by rfl) (hpl : (backTo pos (starEach [] X.env)).any (·.1) = false := by rfl) : EV X G .val (.Call (.Name "list" p) [a] [] pos) (DL.e1 (listD false) fa) := ev_listG (own := false) ⟨rfl, rfl⟩ hm2 ha hg he hpl

/-! ### numbers -/
theorem ev_abs (hm2 : X.mg "abs" = none) (ha : EV X G ma a fa) (hg : Gl X "abs" := by rfl) (he : starEach [a] X.env = (false, eval a X.env) :: starEach [] X.env := by rfl) (hpl : (backTo pos (starEach [] X.env)).any (·.1) = false := by rfl) : EV X G .own (.Call (.Name "abs" p) [a] [] pos) (DL.e1 absD fa) := by
  refine ev_blt1 call_abs hg hm2 (by decide +kernel) ha (fun c T fp ρ S S' σ H0 H x d v Fx Q ok e dx ax rx hf q => ?_) (by decide) (by decide) he hpl
  unfold absD at hf
  split at hf
  · obtain ⟨rfl, rfl⟩ := M.pure_some hf
    cases dx
    exact ⟨_, rfl, q _ H [] Ext.refl rfl (.int _) av0 (ResOk.imm rfl)⟩
  · exact (M.fail_some hf).elim
theorem ev_intOf (hm2 : X.mg "int" = none) (ha : EV X G ma a fa) (hg : Gl X "int" := by rfl) (he : starEach [a] X.env = (false, eval a X.env) :: starEach [] X.env := by rfl) (hpl : (backTo pos (starEach [] X.env)).any (·.1) = false := by rfl) : EV X G .own (.Call (.Name "int" p) [a] [] pos) (DL.e1 intD fa) := by
  refine ev_ty1 call_int1 hg hm2 (by decide +kernel) ha (fun c T fp ρ S S' σ H0 H x d v Fx Q ok e dx ax rx hf q => ?_) (by decide) (by decide) he hpl
  unfold intD at hf
  split at hf
  · obtain ⟨rfl, rfl⟩ := M.pure_some hf
    cases dx
    exact .inl ⟨_, rfl, q _ H [] Ext.refl rfl (.int _) av0 (ResOk.imm rfl)⟩
  · obtain ⟨rfl, rfl⟩ := M.pure_some hf
    cases dx
    exact .inr ⟨_, rfl, q _ H [] Ext.refl rfl (.int _) av0 (ResOk.imm rfl)⟩
  · exact (M.fail_some hf).elim
theorem ev_max2 (hcm : X.calm = true) (hm2 : X.mg "max" = none) (ha : EV X G ma a fa) (hb : EV X G mb b fb) (hg : Gl X "max" := by rfl) (he : starEach [a, b] X.env = (false, eval a X.env) :: starEach [b] X.env := by rfl) (he2 : starEach [b] X.env = (false, eval b X.env) :: starEach [] X.env := by rfl) (hpl : (backTo pos (starEach [b] X.env)).any (·.1) = false := by rfl) : EV X G .own (.Call (.Name "max" p) [a, b] [] pos) (e2 max2D fa fb) := by
  refine ev_blt2 (call_max2 hcm) hg hm2 (by decide +kernel) ha hb (fun c T fp ρ S S' σ H0 H x y d v w Fx Fy Q ok e dx dy ax ay rx ry hf q => ?_) (by decide) (by decide) he he2 hpl
  unfold max2D at hf
  split at hf
  · obtain ⟨rfl, rfl⟩ := M.pure_some hf
    cases dx; cases dy
    exact ⟨_, _, rfl, q _ H [] Ext.refl rfl (.int _) av0 (ResOk.imm rfl)⟩
  · exact (M.fail_some hf).elim
theorem ev_min2 (hcm : X.calm = true) (hm2 : X.mg "min" = none) (ha : EV X G ma a fa) (hb : EV X G mb b fb) (hg : Gl X "min" := by rfl) (he : starEach [a, b] X.env = (false, eval a X.env) :: starEach [b] X.env := by rfl) (he2 : starEach [b] X.env = (false, eval b X.env) :: starEach [] X.env := by rfl) (hpl : (backTo pos (starEach [b] X.env)).any (·.1) = false := by rfl) : EV X G .own (.Call (.Name "min" p) [a, b] [] pos) (e2 min2D fa fb) := by
  refine ev_blt2 (call_min2 hcm) hg hm2 (by decide +kernel) ha hb (fun c T fp ρ S S' σ H0 H x y d v w Fx Fy Q ok e dx dy ax ay rx ry hf q => ?_) (by decide) (by decide) he he2 hpl
  unfold min2D at hf
  split at hf
  · obtain ⟨rfl, rfl⟩ := M.pure_some hf
    cases dx; cases dy
    exact ⟨_, _, rfl, q _ H [] Ext.refl rfl (.int _) av0 (ResOk.imm rfl)⟩
  · exact (M.fail_some hf).elim

/-! ### sums, all, any -/
theorem den_ints {K : PySem.W.Frag} {H : Hp} : ∀ {vs : List V} {ds : List D} {F : List Addr} {ns : List Int}, DenL K H vs ds F → intsOf ds = some ns → vs = ns.map V.int
  | _, _, _, _, .nil, e => by cases e; rfl
  | _, _, _, _, .cons (d := d) h l, e => by
    cases h <;> first | cases e | skip
    rename_i i
    obtain ⟨ms, e1, e2⟩ := Option.map_eq_some_iff.mp (show (intsOf _).map (i :: ·) = some _ from e)
    subst e2
    rw [den_ints l e1]
    rfl
theorem den_bools {K : PySem.W.Frag} {H : Hp} : ∀ {vs : List V} {ds : List D} {F : List Addr} {ns : List Bool}, DenL K H vs ds F → boolsOf ds = some ns → vs = ns.map V.bl
  | _, _, _, _, .nil, e => by cases e; rfl
  | _, _, _, _, .cons (d := d) h l, e => by
    cases h <;> first | cases e | skip
    rename_i i
    obtain ⟨ms, e1, e2⟩ := Option.map_eq_some_iff.mp (show (boolsOf _).map (i :: ·) = some _ from e)
    subst e2
    rw [den_bools l e1]
    rfl
theorem preSum_list (ns : List Int) : ∀ j, preSum (fun i => ns.getD i 0) j = (ns.take j).sum
  | 0 => by simp [preSum]
  | j + 1 => by
    rw [preSum, preSum_list ns j]
    by_cases h : j < ns.length
    · rw [List.take_add_one, List.getElem?_eq_getElem h, List.sum_append]
      simp [h]
    · rw [List.take_of_length_le (by omega), List.take_of_length_le (by omega)]
      simp [List.getD_eq_getElem?_getD, List.getElem?_eq_none (Nat.le_of_not_lt h)]
/-- sum of a tuple of ints -/
def rSumT (K : PySem.W.Frag) : List V → Hp → VK → Prop := fun vs H Q => ∃ (a : Addr) (ns : List Int), vs = [V.ref a] ∧ SqT K H a (ns.map V.int) ∧ Q (.int ns.sum) H
theorem cr_sumT (hc : X.calm = true) : CallR X (.builtin "sum") (rSumT X.K) := by
  intro pins s σ H vs us Q I r h
  obtain ⟨a, ns, rfl, hs, q⟩ := h
  obtain ⟨its, rv, ht, _⟩ := I.tuple hs
  have hi := rv.ints
  have ht2 : s.heap.IsTuple a its.toArray := ht
  have hne : a ≠ s.heap.objs.size := Nat.ne_of_lt ht.lt
  rw [Vals.ref1 r]
  refine call_sum_walkG (wpAny_pyIter_tuple ht2 ?_)
  refine ⟨_, _, _, _, _, _, fun i => ns.getD i 0, rfl, Walks.tuple (A := X.A.in1) (I.ok.hd hc) s.heap.objs.size a hne its.toArray, ⟨⟨_, Heap.get?_push_size _ rfl, rfl, rfl⟩, ?_⟩, fun b hb => ?_, fun i v hv => ?_, fun h' tk t' hk => ?_⟩
  · obtain ⟨o, e1, e2⟩ := ht2
    exact ⟨o, Heap.get?_push_of_some _ e1, e2⟩
  · rw [Heap.size_push]
    have e : b = s.heap.objs.size ∨ b = a := by simpa using hb
    rcases e with e | e
    · rw [e]; exact Nat.lt_succ_self _
    · rw [e]; exact Nat.lt_succ_of_lt ht.lt
  · have hv' : its[i]? = some v := by simpa using hv
    have hl := rv.length
    obtain ⟨y, hy⟩ : ∃ y, (ns.map V.int)[i]? = some y := by
      have : i < its.length := (List.getElem?_eq_some_iff.mp hv').1
      exact ⟨_, List.getElem?_eq_getElem (by omega)⟩
    obtain ⟨u, e1, e2⟩ := rv.get hy
    rw [hv'] at e1
    cases e1
    rw [List.getElem?_map] at hy
    obtain ⟨k, e3, rfl⟩ := Option.map_eq_some_iff.mp hy
    obtain ⟨t, rfl⟩ := e2
    refine ⟨t, ?_⟩
    show Value.int k t = Value.int (ns.getD i 0) t
    rw [List.getD_eq_getElem?_getD, e3]
    rfl
  · have hl := rv.length
    rw [List.length_map] at hl
    refine ⟨.int _, H, I.kept fun b o eo => hk b o (fun hm => ?_) (Heap.get?_push_of_some _ eo), ⟨t', ?_⟩, q⟩
    · have e : b = s.heap.objs.size := by simpa using hm
      exact absurd (e ▸ Heap.lt_size eo) (Nat.lt_irrefl _)
    · rw [preSum_list, List.size_toArray, ← hl, List.take_of_length_le (Nat.le_refl _)]
theorem ev_sum (hcm : X.calm = true) (hm2 : X.mg "sum" = none) (ha : EV X G ma a fa) (hg : Gl X "sum" := by rfl) (he : starEach [a] X.env = (false, eval a X.env) :: starEach [] X.env := by rfl) (hpl : (backTo pos (starEach [] X.env)).any (·.1) = false := by rfl) : EV X G .own (.Call (.Name "sum" p) [a] [] pos) (DL.e1 sumD fa) := by
  refine ev_blt1 ((cr_sum hcm).or (cr_sumT hcm)) hg hm2 (by decide +kernel) ha (fun c T fp ρ S S' σ H0 H x d v Fx Q ok e dx ax rx hf q => ?_) (by decide) (by decide) he hpl
  unfold sumD at hf
  obtain ⟨ns, e1⟩ : ∃ ns, (seqOf x).bind intsOf = some ns := by
    cases e1 : (seqOf x).bind intsOf with
    | none => rw [e1] at hf; exact (M.fail_some hf).elim
    | some ns => exact ⟨ns, rfl⟩
  rw [e1] at hf
  obtain ⟨rfl, rfl⟩ := M.pure_some hf
  obtain ⟨xs, e2, e3⟩ := Option.bind_eq_some_iff.mp e1
  obtain ⟨p, vs, F, rfl, sq, l, hF⟩ := seq_cases dx e2
  rw [den_ints l e3] at sq
  have qq := q _ H [] Ext.refl rfl (.int _) av0 (ResOk.imm rfl)
  rcases sq with sq | sq
  · exact .inl ⟨p, ns, rfl, sq, qq⟩
  · exact .inr ⟨p, ns, rfl, sq, qq⟩
def seqL : D → Option (List D)
  | .list xs => some xs
  | _ => none
theorem ev_all (hcm : X.calm = true) (hm2 : X.mg "all" = none) (ha : EV X G ma a fa) (hg : Gl X "all" := by rfl) (he : starEach [a] X.env = (false, eval a X.env) :: starEach [] X.env := by rfl) (hpl : (backTo pos (starEach [] X.env)).any (·.1) = false := by rfl) : EV X G .own (.Call (.Name "all" p) [a] [] pos) (DL.e1 allD fa) := by
  refine ev_blt1 (cr_all hcm) hg hm2 (by decide +kernel) ha (fun c T fp ρ S S' σ H0 H x d v Fx Q ok e dx ax rx hf q => ?_) (by decide) (by decide) he hpl
  unfold allD at hf
  split at hf
  · rename_i xs
    obtain ⟨ns, e1⟩ : ∃ ns, boolsOf xs = some ns := by
      cases e1 : boolsOf xs with
      | none => rw [e1] at hf; exact (M.fail_some hf).elim
      | some ns => exact ⟨ns, rfl⟩
    rw [e1] at hf
    obtain ⟨rfl, rfl⟩ := M.pure_some hf
    cases dx with
    | lst e2 l => exact ⟨_, ns, rfl, by rw [← den_bools l e1]; exact .inl (.inl e2), q _ H [] Ext.refl rfl (.bl _) av0 (ResOk.imm rfl)⟩
  · exact (M.fail_some hf).elim
theorem ev_any (hcm : X.calm = true) (hm2 : X.mg "any" = none) (ha : EV X G ma a fa) (hg : Gl X "any" := by rfl) (he : starEach [a] X.env = (false, eval a X.env) :: starEach [] X.env := by rfl) (hpl : (backTo pos (starEach [] X.env)).any (·.1) = false := by rfl) : EV X G .own (.Call (.Name "any" p) [a] [] pos) (DL.e1 anyD fa) := by
  refine ev_blt1 (cr_any hcm) hg hm2 (by decide +kernel) ha (fun c T fp ρ S S' σ H0 H x d v Fx Q ok e dx ax rx hf q => ?_) (by decide) (by decide) he hpl
  unfold anyD at hf
  split at hf
  · rename_i xs
    obtain ⟨ns, e1⟩ : ∃ ns, boolsOf xs = some ns := by
      cases e1 : boolsOf xs with
      | none => rw [e1] at hf; exact (M.fail_some hf).elim
      | some ns => exact ⟨ns, rfl⟩
    rw [e1] at hf
    obtain ⟨rfl, rfl⟩ := M.pure_some hf
    cases dx with
    | lst e2 l => exact ⟨_, ns, rfl, by rw [← den_bools l e1]; exact .inl (.inl e2), q _ H [] Ext.refl rfl (.bl _) av0 (ResOk.imm rfl)⟩
  · exact (M.fail_some hf).elim

/-! ### sorted, repr -/
def rSortD (X : Cx) : List V → Hp → VK → Prop := fun vs H Q => ∃ (a : Addr) (xs : List V) (ds : List D), vs = [.ref a] ∧ (SqL X.K H a xs ∨ SqT X.K H a xs) ∧ DenL X.K H xs ds [] ∧ immAll ds = true ∧ sortable ds = true ∧
  ∀ p ys, H p = none → DenL X.K H ys (ds.mergeSort leD) [] → Q (.ref p) (upd H p (.lst ys))
theorem cr_sortD (hc : X.calm = true) (hu : X.A.units + 128 < cLine) : CallR X (.builtin "sorted") (rSortD X) := by
  intro pins s σ H vs us Q I r h
  obtain ⟨a, xs, ds, rfl, hs, dn, hi, hso, q⟩ := h
  obtain ⟨ws, rv, hl, C⟩ := collects_seq I hs
  rw [Vals.ref1 r]
  exact sorted_run I hc hu hl C rv dn hi hso q
theorem ev_sorted (hcm : X.calm = true) (hu : X.A.units + 128 < cLine) (hm2 : X.mg "sorted" = none) (ha : EV X G ma a fa) (hg : Gl X "sorted" := by rfl) (he : starEach [a] X.env = (false, eval a X.env) :: starEach [] X.env := by rfl) (hpl : (backTo pos (starEach [] X.env)).any (·.1) = false := by rfl) : EV X G .own (.Call (.Name "sorted" p) [a] [] pos) (DL.e1 sortedD fa) := by
  refine ev_blt1 (cr_sortD hcm hu) hg hm2 (by decide +kernel) ha (fun c T fp ρ S S' σ H0 H x d v Fx Q ok e dx ax rx hf q => ?_) (by decide) (by decide) he hpl
  obtain ⟨xs, e1, hf⟩ := seq_bind hf
  obtain ⟨h1, hf⟩ := M.chk_bind hf
  obtain ⟨rfl, rfl⟩ := M.pure_some hf
  obtain ⟨h1, h2⟩ := and_true h1
  obtain ⟨p, vs, F, rfl, sq, l, hF⟩ := seq_cases dx e1
  obtain rfl := l.imm h2
  refine ⟨p, vs, xs, rfl, sq, l, h2, h1, fun p ys n l2 => ?_⟩
  exact q _ _ [p] (Ext.new n) rfl (Den.newL n l2) (ok.av1 n) (ResOk.one (e.back0 ok n))
def rReprD (X : Cx) : List V → Hp → VK → Prop := fun vs H Q => ∃ (v : V) (d : D) (F : List Addr), vs = [v] ∧ Den X.K H v d F ∧ d.hasDict = false ∧ d.showable = true ∧ d.shown.length ≤ sizeLine ∧ d.depth ≤ 64 ∧ Q (.str d.shown) H
theorem cr_reprD (hG : X.A.guards = some []) (hu : X.A.units + 128 < cLine) : CallR X (.builtin "repr") (rReprD X) := by
  intro pins s σ H vs us Q I r h
  obtain ⟨v, d, F, rfl, dn, hd, hs, hl, hdp, q⟩ := h
  obtain ⟨u, rfl, ru⟩ := vals1 r
  obtain ⟨as, rd⟩ := Dp.reads I d v u (dn.dpN hd) ru
  by_cases hr : ∃ a, u = .ref a
  · obtain ⟨a, rfl⟩ := hr
    refine repr_of_reads' rd hs (fun z => ?_) hG (by omega) (fun _ _ e => e) (fun h' t tk hk => ⟨.str _, H, I.kept hk, ⟨t, rfl⟩, q⟩) hl
    rw [hd] at z
    cases z
  · cases dn with
    | non =>
      cases ru
      exact PySem.P.repr_of_none ⟨.str _, H, I.tok _, ⟨_, rfl⟩, q⟩
    | bl b =>
      cases ru
      exact PySem.P.repr_of_bool ⟨.str _, H, I.tok _, ⟨_, rfl⟩, q⟩
    | int i =>
      obtain ⟨t, rfl⟩ := ru
      exact PySem.P.repr_of_int (by simpa [PyData.showable] using hs) ⟨.str _, H, I.tok _, ⟨_, rfl⟩, q⟩
    | str x =>
      obtain ⟨t, rfl⟩ := ru
      exact PySem.P.repr_of_str ⟨.str _, H, I.tok _, ⟨_, rfl⟩, q⟩ (by simpa [PyData.shown] using hl)
    | lst => cases ru; exact absurd ⟨_, rfl⟩ hr
    | tup => cases ru; exact absurd ⟨_, rfl⟩ hr
    | dctK => cases ru; exact absurd ⟨_, rfl⟩ hr
    | dctT => cases ru; exact absurd ⟨_, rfl⟩ hr
theorem ev_repr (hG : X.A.guards = some []) (hu : X.A.units + 128 < cLine) (hm2 : X.mg "repr" = none) (ha : EV X G ma a fa) (hg : Gl X "repr" := by rfl) (he : starEach [a] X.env = (false, eval a X.env) :: starEach [] X.env := by rfl) (hpl : (backTo pos (starEach [] X.env)).any (·.1) = false := by rfl) : EV X G .own (.Call (.Name "repr" p) [a] [] pos) (DL.e1 reprD fa) := by
  refine ev_blt1 (cr_reprD hG hu) hg hm2 (by decide +kernel) ha (fun c T fp ρ S S' σ H0 H x d v Fx Q ok e dx ax rx hf q => ?_) (by decide) (by decide) he hpl
  obtain ⟨h1, hf⟩ := M.chk_bind hf
  obtain ⟨rfl, rfl⟩ := M.pure_some hf
  obtain ⟨h1, h4⟩ := and_true h1
  obtain ⟨h1, h3⟩ := and_true h1
  obtain ⟨h1, h2⟩ := and_true h1
  exact ⟨v, x, Fx, rfl, dx, by simpa using h3, h1, fit_le h2, of_decide_eq_true h4, q _ H [] Ext.refl rfl (.str _) av0 (ResOk.imm rfl)⟩
/-! ### the least, the greatest of a list, a tuple -/
def rMinD (X : Cx) (F : D → List D → D) : List V → Hp → VK → Prop := fun vs H Q => ∃ (a : Addr) (xs : List V) (d : D) (ds : List D), vs = [.ref a] ∧ (SqL X.K H a xs ∨ SqT X.K H a xs) ∧ DenL X.K H xs (d :: ds) [] ∧ immAll (d :: ds) = true ∧ W.AlikeAll (d :: ds) ∧ PyData.depthAll (d :: ds) ≤ 64 ∧
  ∀ v, Den X.K H v (F d ds) [] → Q v H
theorem den_reads {pins : List (Addr × Obj)} {σ : St} {H : Hp} {s : Shared} (I : Inv X pins σ H s) : ∀ {vs : List V} {us : List Value} {ds : List D}, Vals vs us → DenL X.K H vs ds [] → immAll ds = true → ∃ as, ReadsAll s.heap us ds as
  | _, _, _, .nil, l, _ => by
    cases l
    exact ⟨[], .nil⟩
  | v :: vs, _, d :: ds, .cons r t, l, hi => by
    have l2 : ∃ A B, A ++ B = [] ∧ Den X.K H v d A ∧ DenL X.K H vs ds B := by
      generalize e : ([] : List Addr) = E at l
      cases l with
      | cons h1 h2 => exact ⟨_, _, rfl, h1, h2⟩
    obtain ⟨A, B, e, h1, h2⟩ := l2
    obtain ⟨rfl, rfl⟩ := List.append_eq_nil_iff.mp e
    have z : imm d = true ∧ immAll ds = true := by simpa [immAll] using hi
    obtain ⟨as, ra⟩ := Dp.reads I d v _ (h1.dpN (imm_noDict d z.1)) r
    obtain ⟨bs, rb⟩ := den_reads I t h2 z.2
    exact ⟨_, .cons ra rb⟩
  | v :: vs, _, [], .cons r t, l, _ => by
    exact absurd (DenL.length l) (by simp)
theorem den_at {K : PySem.W.Frag} {H : Hp} {vs : List V} {us : List Value} {ds : List D} {i : Nat} {u : Value} (r : Vals vs us) (l : DenL K H vs ds []) (e : us[i]? = some u) : ∃ v d, ds[i]? = some d ∧ RelV v u ∧ Den K H v d [] := by
  have hlt := (List.getElem?_eq_some_iff.mp e).1
  have hv : i < vs.length := by rw [r.length]; exact hlt
  obtain ⟨u', e1, r1⟩ := r.get (List.getElem?_eq_getElem hv)
  rw [e] at e1
  cases e1
  obtain ⟨d, G, e2, dn, hG⟩ := l.inj_imm (List.getElem?_eq_getElem hv)
  have : G = [] := List.eq_nil_iff_forall_not_mem.mpr fun z hz => nomatch hG z hz
  subst this
  exact ⟨_, d, e2, r1, dn⟩
theorem cr_minD (hc : X.calm = true) (hu : X.A.units + 128 < cLine) : CallR X (.builtin "min") (rMinD X minF) := by
  intro pins s σ H vs us Q I r h
  obtain ⟨a, xs, d, ds, rfl, hs, dn, hi, ha, hd, q⟩ := h
  rw [Vals.ref1 r]
  rcases hs with hs | hs
  · obtain ⟨its, rv, ht, _⟩ := I.list hs
    obtain ⟨as, rr⟩ := den_reads I rv dn hi
    refine PySem.W.min_list_data (I.ok.hd hc) ht.isList (by simpa using rr) ha (by omega) fun i v h' tk bs hv hr hk => ?_
    have I1 : Inv X pins σ H { s with heap := h', toks := tk } := I.kept hk
    obtain ⟨w, e, he, rw', dw⟩ := den_at rv dn (by simpa using hv)
    obtain ⟨cs, re⟩ := Dp.reads I1 e w v (dw.dpN (imm_noDict e (immAll_mem hi e (List.mem_of_getElem? he)))) rw'
    have hee := (Reads.unique re _ _ hr).1
    subst hee
    exact ⟨w, H, I1, rw', q w dw⟩
  · obtain ⟨its, rv, ht, _⟩ := I.tuple hs
    obtain ⟨as, rr⟩ := den_reads I rv dn hi
    refine PySem.W.min_tuple_data (I.ok.hd hc) (show s.heap.IsTuple a its.toArray from ht) (by simpa using rr) ha (by omega) fun i v h' tk bs hv hr hk => ?_
    have I1 : Inv X pins σ H { s with heap := h', toks := tk } := I.kept hk
    obtain ⟨w, e, he, rw', dw⟩ := den_at rv dn (by simpa using hv)
    obtain ⟨cs, re⟩ := Dp.reads I1 e w v (dw.dpN (imm_noDict e (immAll_mem hi e (List.mem_of_getElem? he)))) rw'
    have hee := (Reads.unique re _ _ hr).1
    subst hee
    exact ⟨w, H, I1, rw', q w dw⟩
theorem cr_maxD (hc : X.calm = true) (hu : X.A.units + 128 < cLine) : CallR X (.builtin "max") (rMinD X maxF) := by
  intro pins s σ H vs us Q I r h
  obtain ⟨a, xs, d, ds, rfl, hs, dn, hi, ha, hd, q⟩ := h
  rw [Vals.ref1 r]
  rcases hs with hs | hs
  · obtain ⟨its, rv, ht, _⟩ := I.list hs
    obtain ⟨as, rr⟩ := den_reads I rv dn hi
    refine PySem.W.max_list_data (I.ok.hd hc) ht.isList (by simpa using rr) ha (by omega) fun i v h' tk bs hv hr hk => ?_
    have I1 : Inv X pins σ H { s with heap := h', toks := tk } := I.kept hk
    obtain ⟨w, e, he, rw', dw⟩ := den_at rv dn (by simpa using hv)
    obtain ⟨cs, re⟩ := Dp.reads I1 e w v (dw.dpN (imm_noDict e (immAll_mem hi e (List.mem_of_getElem? he)))) rw'
    have hee := (Reads.unique re _ _ hr).1
    subst hee
    exact ⟨w, H, I1, rw', q w dw⟩
  · obtain ⟨its, rv, ht, _⟩ := I.tuple hs
    obtain ⟨as, rr⟩ := den_reads I rv dn hi
    refine PySem.W.max_tuple_data (I.ok.hd hc) (show s.heap.IsTuple a its.toArray from ht) (by simpa using rr) ha (by omega) fun i v h' tk bs hv hr hk => ?_
    have I1 : Inv X pins σ H { s with heap := h', toks := tk } := I.kept hk
    obtain ⟨w, e, he, rw', dw⟩ := den_at rv dn (by simpa using hv)
    obtain ⟨cs, re⟩ := Dp.reads I1 e w v (dw.dpN (imm_noDict e (immAll_mem hi e (List.mem_of_getElem? he)))) rw'
    have hee := (Reads.unique re _ _ hr).1
    subst hee
    exact ⟨w, H, I1, rw', q w dw⟩
theorem bestD_some {F : D → List D → D} {x r : D} {S S' : Src} (h : bestD F x S = some (r, S')) : ∃ d ds, seqOf x = some (d :: ds) ∧ alikes (d :: ds) = true ∧ r = F d ds ∧ S' = S := by
  unfold bestD at h
  cases e : seqOf x with
  | none => rw [e] at h; exact (M.fail_some h).elim
  | some xs =>
    cases xs with
    | nil => rw [e] at h; exact (M.fail_some h).elim
    | cons d ds =>
      rw [e] at h
      obtain ⟨h1, h2⟩ := M.chk_bind h
      obtain ⟨rfl, rfl⟩ := M.pure_some h2
      exact ⟨d, ds, rfl, h1, rfl, rfl⟩
theorem alikes_all {xs : List D} (h : alikes xs = true) : W.AlikeAll xs ∧ PyData.depthAll xs ≤ 64 ∧ immAll xs = true := by
  unfold alikes at h
  obtain ⟨h, h4⟩ := and_true h
  obtain ⟨h, h3⟩ := and_true h
  obtain ⟨h1, h2⟩ := and_true h
  refine ⟨⟨fun x hx y hy => List.all_eq_true.mp (List.all_eq_true.mp h1 x hx) y hy, fun x hx e => ?_⟩, of_decide_eq_true h3, h4⟩
  have := List.all_eq_true.mp h2 x hx
  subst e
  cases this
theorem ev_minL (hcm : X.calm = true) (hu : X.A.units + 128 < cLine) (hm2 : X.mg "min" = none) (ha : EV X G ma a fa) (hg : Gl X "min" := by rfl) (he : starEach [a] X.env = (false, eval a X.env) :: starEach [] X.env := by rfl) (hpl : (backTo pos (starEach [] X.env)).any (·.1) = false := by rfl) : EV X G .own (.Call (.Name "min" p) [a] [] pos) (DL.e1 (bestD minF) fa) := by
  refine ev_blt1 (cr_minD hcm hu) hg hm2 (by decide +kernel) ha (fun c T fp ρ S S' σ H0 H x d v Fx Q ok e dx ax rx hf q => ?_) (by decide) (by decide) he hpl
  obtain ⟨y, ys, e1, e2, rfl, rfl⟩ := bestD_some hf
  obtain ⟨h1, h2, h3⟩ := alikes_all e2
  obtain ⟨p, vs, F, rfl, sq, l, hF⟩ := seq_cases dx e1
  obtain rfl := l.imm h3
  exact ⟨p, vs, y, ys, rfl, sq, l, h3, h1, h2, fun v dv => q v H [] Ext.refl rfl dv av0 (ResOk.imm rfl)⟩
theorem ev_maxL (hcm : X.calm = true) (hu : X.A.units + 128 < cLine) (hm2 : X.mg "max" = none) (ha : EV X G ma a fa) (hg : Gl X "max" := by rfl) (he : starEach [a] X.env = (false, eval a X.env) :: starEach [] X.env := by rfl) (hpl : (backTo pos (starEach [] X.env)).any (·.1) = false := by rfl) : EV X G .own (.Call (.Name "max" p) [a] [] pos) (DL.e1 (bestD maxF) fa) := by
  refine ev_blt1 (cr_maxD hcm hu) hg hm2 (by decide +kernel) ha (fun c T fp ρ S S' σ H0 H x d v Fx Q ok e dx ax rx hf q => ?_) (by decide) (by decide) he hpl
  obtain ⟨y, ys, e1, e2, rfl, rfl⟩ := bestD_some hf
  obtain ⟨h1, h2, h3⟩ := alikes_all e2
  obtain ⟨p, vs, F, rfl, sq, l, hF⟩ := seq_cases dx e1
  obtain rfl := l.imm h3
  exact ⟨p, vs, y, ys, rfl, sq, l, h3, h1, h2, fun v dv => q v H [] Ext.refl rfl dv av0 (ResOk.imm rfl)⟩
end
end DL

/-! DS7: frames; what loops walk. -/
namespace DL
open PySem PySem.Spec PyProof.Rows L2

section
variable {K : PySem.W.Frag} {G G' : Sg} {c : Cc} {T : List Tmp} {fp : Nat → List Addr} {ρ : Env} {S S' : Src} {σ : St} {H H' : Hp}
theorem StOk.mono (h : StOk K G c T fp ρ S σ H) (hm : ∀ i ∈ G'.mu, i ∈ G.mu) (hs : G'.sc = G.sc) : StOk K G' c T fp ρ S σ H :=
  ⟨h.den, h.tmp, h.av, h.tav, fun i j d e hi => h.sep i j d e (hm i hi), fun i d hi => h.tsep i d (hm i hi), fun i d hi => h.nd i d (hm i hi), fun i d hi => h.new i d (hm i hi), h.ext, h.hP, h.pd, by rw [hs]; exact h.src, h.len⟩
theorem StOk.pushT {T' : List Tmp} (h : StOk K G c T fp ρ S σ H) (h1 : ∀ t ∈ T', Den K H t.v t.d t.F) (h2 : ∀ t ∈ T', ∀ a ∈ t.F, ¬ c.P a) (h3 : ∀ t ∈ T', ResOk G fp ρ H .val t.F) : StOk K G c (T' ++ T) fp ρ S σ H :=
  ⟨h.den, fun t z => (List.mem_append.mp z).elim (h1 t) (h.tmp t), h.av, fun t z => (List.mem_append.mp z).elim (h2 t) (h.tav t), h.sep,
    fun i d hi hd t z a ha w => (List.mem_append.mp z).elim (fun z => h3 t z i d hi hd a w ha) (fun z => h.tsep i d hi hd t z a ha w), h.nd, h.new, h.ext, h.hP, h.pd, h.src, h.len⟩
theorem StOk.popT {T' : List Tmp} (h : StOk K G c (T' ++ T) fp ρ S σ H) : StOk K G c T fp ρ S σ H :=
  ⟨h.den, fun t z => h.tmp t (List.mem_append_right _ z), h.av, fun t z => h.tav t (List.mem_append_right _ z), h.sep, fun i d hi hd t z => h.tsep i d hi hd t (List.mem_append_right _ z), h.nd, h.new, h.ext, h.hP, h.pd, h.src, h.len⟩
end

section
variable {X : Cx} {mu : List Nat} {sc : Option Nat} {m : Md} {a : Expr} {fa : EF} {ta : TF}
/-- what does not hang on the changing names -/
theorem EV.pure (h : EV X ⟨[], sc⟩ m a fa) (hm : m ≠ .val := by decide) : EV X ⟨mu, sc⟩ m a fa := by
  refine PE.mono h fun σ H Q hh => ?_
  obtain ⟨c, T, fp, ρ, S, d, S', ok, hf, q⟩ := hh
  refine ⟨c, T, fp, ρ, S, d, S', ok.mono (fun _ z => nomatch z) rfl, hf, fun v H' F ok' e den av r => q v H' F (ok.step e ok'.src) e den av ?_⟩
  cases m with
  | bor => trivial
  | val => exact absurd rfl hm
  | own => exact r
theorem TV.pure (h : TV X ⟨[], sc⟩ a ta) : TV X ⟨mu, sc⟩ a ta := by
  refine PT.mono h fun σ H Q hh => ?_
  obtain ⟨c, T, fp, ρ, S, d, S', ok, hf, q⟩ := hh
  exact ⟨c, T, fp, ρ, S, d, S', ok.mono (fun _ z => nomatch z) rfl, hf, fun H' ok' e => q H' (ok.step e ok'.src) e⟩
theorem EV.bv (h : EV X ⟨[], sc⟩ .bor a fa) : EV X ⟨[], sc⟩ .val a fa := by
  refine PE.mono h fun σ H Q hh => ?_
  obtain ⟨c, T, fp, ρ, S, d, S', ok, hf, q⟩ := hh
  exact ⟨c, T, fp, ρ, S, d, S', ok, hf, fun v H' F ok' e den av r => q v H' F ok' e den av fun _ _ z => nomatch z⟩
end

instance : DecidableEq Md := fun a b => match a, b with
  | .bor, .bor => .isTrue rfl
  | .val, .val => .isTrue rfl
  | .own, .own => .isTrue rfl
  | .bor, .val => .isFalse fun h => nomatch h
  | .bor, .own => .isFalse fun h => nomatch h
  | .val, .bor => .isFalse fun h => nomatch h
  | .val, .own => .isFalse fun h => nomatch h
  | .own, .bor => .isFalse fun h => nomatch h
  | .own, .val => .isFalse fun h => nomatch h

/-! ### what is walked -/
def ItOk (K : PySem.W.Frag) (J : It) (T' : List Tmp) (ds : List D) : Prop := ∀ H, (∀ t ∈ T', Den K H t.v t.d t.F) →
  (∀ i, i < ds.length → J.go i H) ∧ J.stop ds.length H ∧ ∀ i d x H', ds[i]? = some d → J.yld i H x H' → Ext [] H H' ∧ ∃ F, Den K H' x d F ∧ ∀ a ∈ F, ∃ t ∈ T', a ∈ t.F
def tDI (K : PySem.W.Frag) (G : Sg) (w : LF) : TI := fun σ H R => ∃ c T fp ρ S ds S', StOk K G c T fp ρ S σ H ∧ w ρ S = some (ds, S') ∧
  ∀ J H' T', StOk K G c T fp ρ S' σ H' → Ext c.R H H' → ItOk K J T' ds → (∀ t ∈ T', Den K H' t.v t.d t.F) → (∀ t ∈ T', ∀ a ∈ t.F, ¬ c.P a) → (∀ t ∈ T', ResOk G fp ρ H' .val t.F) → R J H'
abbrev IV (X : Cx) (G : Sg) (tg e : Expr) (w : LF) : Prop := PI X tg e (tDI X.K G w)
theorem PI.mono {X : Cx} {tg e : Expr} {t t' : TI} (h : PI X tg e t) (m : ∀ σ H Q, t' σ H Q → t σ H Q) : PI X tg e t' := ⟨fun pins s σ H Q I q => h.run pins s σ H Q I (m σ H Q q)⟩

theorem itok_list {K : PySem.W.Frag} {a : Addr} {ds : List D} {F : List Addr} : ItOk K (Itl K a) [⟨.ref a, .list ds, F⟩] ds := by
  intro H h
  have h := h _ List.mem_cons_self
  cases h with
  | lst e l =>
    rename_i xs F
    have sq : SqL K H a xs := .inl (.inl e)
    refine ⟨fun i hi => ⟨xs, xs[i]'(by rw [l.length]; exact hi), sq, List.getElem?_eq_getElem _⟩, ⟨xs, sq, Nat.le_of_eq l.length⟩, fun i d x H' hd hy => ?_⟩
    obtain ⟨rfl, hy⟩ := hy
    obtain ⟨y, G, e1, e2, e3⟩ := l.get hd
    have := hy xs sq
    rw [this] at e1
    cases e1
    exact ⟨Ext.refl, G, e2, fun z hz => ⟨_, List.mem_cons_self, List.mem_cons_of_mem _ (e3 z hz)⟩⟩
theorem itok_tup {K : PySem.W.Frag} {a : Addr} {ds : List D} {F : List Addr} : ItOk K (Itt K a) [⟨.ref a, .tuple ds, F⟩] ds := by
  intro H h
  have h := h _ List.mem_cons_self
  cases h with
  | tup e l =>
    rename_i xs
    have sq : SqT K H a xs := e.sq
    refine ⟨fun i hi => ⟨xs, xs[i]'(by rw [l.length]; exact hi), sq, List.getElem?_eq_getElem _⟩, ⟨xs, sq, Nat.le_of_eq l.length⟩, fun i d x H' hd hy => ?_⟩
    obtain ⟨rfl, hy⟩ := hy
    obtain ⟨y, G, e1, e2, e3⟩ := l.get hd
    have := hy xs sq
    rw [this] at e1
    cases e1
    exact ⟨Ext.refl, G, e2, fun z hz => ⟨_, List.mem_cons_self, e3 z hz⟩⟩
theorem rngD_get {lo hi : Int} {i : Nat} (h : i < (hi - lo).toNat) : (rngD lo hi)[i]? = some (.int (lo + (i : Nat))) := by
  unfold rngD
  rw [List.getElem?_map, List.getElem?_range h]
  rfl
theorem rngD_len (lo hi : Int) : (rngD lo hi).length = (hi - lo).toNat := by simp [rngD]
theorem itok_range {K : PySem.W.Frag} {lo hi : Int} : ItOk K (Itr lo (hi - lo).toNat) [] (rngD lo hi) := by
  intro H h
  refine ⟨fun i hi => by rw [rngD_len] at hi; exact hi, Nat.le_of_eq (rngD_len _ _).symm, fun i d x H' hd hy => ?_⟩
  obtain ⟨rfl, rfl⟩ := hy
  have hi := (List.getElem?_eq_some_iff.mp hd).1
  rw [rngD_len] at hi
  rw [rngD_get hi] at hd
  cases hd
  exact ⟨Ext.refl, [], .int _, fun _ z => nomatch z⟩

section
variable {X : Cx} {G : Sg} {m : Md} {e b tg : Expr} {fe fb : EF} {pos p : Pos}
theorem seq_kindD {x : D} {xs : List D} (h : seqOf x = some xs) : x = .list xs ∨ x = .tuple xs := by
  cases x with
  | list ys => exact .inl (congrArg _ (Option.some.inj h))
  | tuple ys => exact .inr (congrArg _ (Option.some.inj h))
  | none => cases h
  | bool => cases h
  | int => cases h
  | str => cases h
  | dict => cases h
theorem iv_seq (he : EV X G .val e fe) : IV X G tg e (wSeq fe) := by
  refine ⟨fun pins s σ H R I h => ?_⟩
  obtain ⟨c, T, fp, ρ, S, ds, S', ok, hf, q⟩ := h
  obtain ⟨x, S1, h1, hf⟩ := M.bind_some hf
  obtain ⟨xs, e1, hf⟩ := seq_bind hf
  obtain ⟨rfl, rfl⟩ := M.pure_some hf
  refine thn (he.run pins s σ H (fun v H' => ∃ a, v = .ref a ∧ ((∃ vs, SqL X.K H' a vs) ∧ R (Itl X.K a) H' ∨ (∃ vs, SqT X.K H' a vs) ∧ R (Itt X.K a) H')) I ⟨c, T, fp, ρ, S, x, _, ok, h1, fun v H' F ok' e dn av r => ?_⟩) fun v s1 ⟨x, H1, I1, r1, q1⟩ => ?_
  · rcases seq_kindD e1 with rfl | rfl
    · cases dn with
      | lst e2 l =>
        rename_i a vs F
        refine ⟨a, rfl, .inl ⟨⟨vs, .inl (.inl e2)⟩, q _ H' [⟨.ref a, .list xs, a :: F⟩] ok' e itok_list ?_ ?_ ?_⟩⟩ <;> (intro t ht; obtain rfl := List.mem_singleton.mp ht)
        · exact .lst e2 l
        · exact av
        · exact r
    · cases dn with
      | tup e2 l =>
        rename_i a vs
        refine ⟨a, rfl, .inr ⟨⟨vs, e2.sq⟩, q _ H' [⟨.ref a, .tuple xs, F⟩] ok' e itok_tup ?_ ?_ ?_⟩⟩ <;> (intro t ht; obtain rfl := List.mem_singleton.mp ht)
        · exact .tup e2 l
        · exact av
        · exact r
  · obtain ⟨a, e, qq⟩ := q1
    subst e
    cases r1
    have fr : ∀ z ∈ [s1.heap.objs.size], FpOk X pins H1 z := fun z hz => by
      obtain rfl := List.mem_singleton.mp hz
      exact I1.fpOk (Nat.le_refl _) (I1.hok.fresh (Nat.le_refl _))
    rcases qq with ⟨⟨vs, sq⟩, qq⟩ | ⟨⟨vs, sq⟩, qq⟩
    · obtain ⟨its, rv, pl, _⟩ := I1.list sq
      exact wpAny_pyIter_list pl.isList ⟨_, _, _, _, H1, rfl, I1.kept (t' := s1.toks) fun b o e => Heap.get?_push_of_some _ e, turn_list a _, ⟨_, Heap.get?_push_size _ rfl, rfl, rfl⟩, fr, qq⟩
    · obtain ⟨its, rv, pl, _⟩ := I1.tuple sq
      exact wpAny_pyIter_tuple (show s1.heap.IsTuple a its.toArray from pl) ⟨_, _, _, _, H1, rfl, I1.kept (t' := s1.toks) fun b o e => Heap.get?_push_of_some _ e, turn_tuple a _, ⟨_, Heap.get?_push_size _ rfl, rfl, rfl⟩, fr, qq⟩
theorem rng62_of {i : Int} (h : rng62 i = true) : -(2 ^ 62) ≤ i ∧ i < 2 ^ 62 := by
  have h' : i.natAbs < 2 ^ 62 := of_decide_eq_true h
  omega
theorem iv_range1 (hm : X.mg "range" = none) (ha : EV X G m e fe) (hg : Gl X "range" := by rfl) (hs : starEach [e] X.env = [(false, eval e X.env)] := by rfl) : IV X G tg (.Call (.Name "range" p) [e] [] pos) (wRange1 fe) := by
  refine PI.mono (pi_range1 hg hm (pa_cons ha pa_nil (by rw [hs]; rfl)) hs) fun σ H R h => ?_
  obtain ⟨c, T, fp, ρ, S, ds, S', ok, hf, q⟩ := h
  obtain ⟨x, S1, h1, hf⟩ := M.bind_some hf
  split at hf
  · rename_i n
    obtain ⟨h2, hf⟩ := M.chk_bind hf
    obtain ⟨rfl, rfl⟩ := M.pure_some hf
    refine ⟨c, T, fp, ρ, S, _, _, ok, h1, fun v H' F ok' e dn av r => ?_⟩
    cases dn with
    | int =>
      have z := itok_range (K := X.K) (lo := 0) (hi := n)
      rw [Int.sub_zero] at z
      exact ⟨n, rfl, (rng62_of h2).1, (rng62_of h2).2, q _ H' [] ok' e z (fun _ z => nomatch z) (fun _ z => nomatch z) (fun _ z => nomatch z)⟩
  · exact (M.fail_some hf).elim
theorem iv_range2 {mb : Md} (hm : X.mg "range" = none) (ha : EV X G m e fe) (hb : EV X G mb b fb) (hg : Gl X "range" := by rfl) (hs : starEach [e, b] X.env = [(false, eval e X.env), (false, eval b X.env)] := by rfl) (hs2 : starEach [b] X.env = [(false, eval b X.env)] := by rfl) : IV X G tg (.Call (.Name "range" p) [e, b] [] pos) (wRange2 fe fb) := by
  refine PI.mono (pi_range2 hg hm (pa_cons ha (pa_cons hb pa_nil (by rw [hs2]; rfl)) (by rw [hs, hs2])) hs hs2) fun σ H R h => ?_
  obtain ⟨c, T, fp, ρ, S, ds, S', ok, hf, q⟩ := h
  obtain ⟨x, S1, h1, hf⟩ := M.bind_some hf
  obtain ⟨y, S2, h2, hf⟩ := M.bind_some hf
  split at hf
  · rename_i n k _
    obtain ⟨h3, hf⟩ := M.chk_bind hf
    obtain ⟨rfl, rfl⟩ := M.pure_some hf
    obtain ⟨h3, h4⟩ := and_true h3
    refine ⟨c, T, fp, ρ, S, _, _, ok, h1, fun v H' F ok' e dn av r => ?_⟩
    refine ⟨c, T, fp, ρ, S1, _, _, ok', h2, fun v2 H2 F2 ok2 e2 dn2 av2 r2 => ?_⟩
    cases dn with
    | int =>
      cases dn2 with
      | int => exact ⟨n, k, rfl, ⟨(rng62_of h3).1, (rng62_of h3).2, (rng62_of h4).1, (rng62_of h4).2⟩, q _ H2 [] ok2 (e.trans e2) itok_range (fun _ z => nomatch z) (fun _ z => nomatch z) (fun _ z => nomatch z)⟩
  · exact (M.fail_some hf).elim

/-! ### enumerate of a list, a tuple -/
theorem meets_enumT (l : Addr) (items : Array Value) (o : Obj) (ho : o.cls = .type "tuple") (hd : ∃ n, o.data = .seq items n) :
    Meets (Builtin.«enumerate.__new__» ⟨[.type "enumerate", .ref l], []⟩) (fun _ R s => s.heap.get? l = some o ∧
      R (.ok (.ret (.ref (s.heap.push { cls := .type "tuple_iterator", data := .fields #[.ref l, .int 0 0] }).objs.size)))
        { s with heap := (s.heap.push { cls := .type "tuple_iterator", data := .fields #[.ref l, .int 0 0] }).push { cls := .type "enumerate", data := .fields #[.none, .bool false, .ref s.heap.objs.size, rawInt 0, .none, .none] } }) :=
  .of_wp fun prog w A R s h => by
    obtain ⟨hp, g, d, tk, os⟩ := s
    obtain ⟨hl, h⟩ := h
    have hsub := sub_enumerate
    obtain ⟨n, hd⟩ := hd
    have hL : Heap.IsTuple (Shared.heap ⟨hp, g, d, tk, os⟩) l items := ⟨_, hl, ho, n, hd⟩
    wp_walk using AutoSeq1.wpAny_loadPart' hl
    refine wpAny_stack_any fun st => wpAny_pure ?_
    split
    · rename_i c _ _ _ _ _
      cases (c == Value.type "enumerate")
      · wp_walk using AutoSeq1.wpAny_loadPart' hl, wpAny_pyIter_tuple hL
        exact ⟨_, rfl, h⟩
      · wp_walk using AutoSeq1.wpAny_loadPart' hl, wpAny_pyIter_tuple hL
        exact ⟨_, rfl, h⟩
    · wp_walk using AutoSeq1.wpAny_loadPart' hl, wpAny_pyIter_tuple hL
      exact ⟨_, rfl, h⟩
theorem call_enumT {s : Shared} {P : Program} {w : World} {A : Around} {E : Value → Shared → Prop} {l : Addr} {items : Array Value} {Q : Value → Shared → Prop} (hL : s.heap.IsTuple l items)
    (h : ∀ h', IsEnum h' (s.heap.objs.size + 1) s.heap.objs.size 0 .none → h'.IsTupleIter s.heap.objs.size l 0 →
      (∀ b o, s.heap.get? b = some o → h'.get? b = some o) → Q (.ref (s.heap.objs.size + 1)) { s with heap := h' }) :
    wpAny (model P w) A (call (.type "enumerate") [.ref l]) Q E s := by
  obtain ⟨o, hl, hc, hd⟩ := hL
  refine callType_new F.called_enumerate (by decide) (F.typeCall_enumerate_1 _) (F.newCall_enumerate_1 _) (fun obj => F.args_object_init_2 obj _) F.entry_enumerate_new
    (meets_enumT l items o hc hd) ⟨hl, ?_⟩
  have hz : (s.heap.push { cls := .type "tuple_iterator", data := .fields #[.ref l, .int 0 0] }).objs.size = s.heap.objs.size + 1 := Heap.size_push ..
  show _ ∧ _
  rw [hz]
  have he : IsEnum ((s.heap.push { cls := .type "tuple_iterator", data := .fields #[.ref l, .int 0 0] }).push
      { cls := .type "enumerate", data := .fields #[.none, .bool false, .ref s.heap.objs.size, rawInt 0, .none, .none] }) (s.heap.objs.size + 1) s.heap.objs.size 0 .none := by
    have := Heap.get?_push_size (s.heap.push { cls := .type "tuple_iterator", data := .fields #[.ref l, .int 0 0] })
      (o := { cls := .type "enumerate", data := .fields #[.none, .bool false, .ref s.heap.objs.size, rawInt 0, .none, .none] }) rfl
    rw [hz] at this
    exact this
  exact ⟨⟨_, he, rfl⟩, h _ he ⟨_, Heap.get?_push_of_some _ (Heap.get?_push_size _ rfl), rfl, rfl⟩ fun b o x => Heap.get?_push_of_some _ (Heap.get?_push_of_some _ x)⟩
/-- the tuple at a, each item in a new pair -/
def Iet (K : PySem.W.Frag) (a : Addr) : It :=
  ⟨fun i H => ∃ (xs : List V) (x : V), SqT K H a xs ∧ xs[i]? = some x, fun i H v H' => ∃ T x, v = .ref T ∧ H T = none ∧ H' = upd H T (.tup [.int (i : Nat), x]) ∧ ∀ xs, SqT K H a xs → xs[i]? = some x, fun i H => ∃ xs : List V, SqT K H a xs ∧ xs.length = i⟩
theorem turn_enumT {P : Program} {w : World} {K : PySem.W.Frag} {elts : List Expr} {kk : Nat} {tpos : Pos} (a e it : Addr) :
    Turn P w K (.Tuple elts kk tpos) (Iet K a) [e, it] e (fun i h => (∃ old, IsEnum h e it ((i : Nat) : Int) old) ∧ h.IsTupleIter it a i ∧ e ≠ it ∧ a ≠ it ∧ e ≠ a) where
  mem := by simp
  obj := fun i h st b hb => by
    obtain ⟨⟨old, he⟩, ⟨o, ho, hc, hd⟩, _⟩ := st
    have e' : b = e ∨ b = it := by simpa using hb
    rcases e' with z | z
    · rw [z]; exact ⟨_, he, fun v q => nomatch q⟩
    · rw [z]; exact ⟨o, ho, fun v q => by rw [hd] at q; cases q⟩
  keep := fun i h h' st k => let ⟨⟨old, he⟩, hi, hne⟩ := st; ⟨⟨old, k e (by simp) _ he⟩, hi.at fun o q => k it (by simp) o q, hne⟩
  item := by
    intro X hP hw hK hc i pins s σ H E I hf st hg
    subst hP hw hK
    obtain ⟨⟨old, he⟩, hit, hne, hai, hea⟩ := st
    obtain ⟨xs, x, hq, hx⟩ := hg
    obtain ⟨its, rv, p, hz⟩ := I.tuple hq
    obtain ⟨u, hu, ru⟩ := rv.get hx
    have hel : e < s.heap.objs.size := Heap.lt_size he
    have hil : it < s.heap.objs.size := by obtain ⟨_, q, _⟩ := hit; exact Heap.lt_size q
    have hlt : i < its.length := (List.getElem?_eq_some_iff.mp hu).1
    refine wpAny_pyNext_enum_itemD (Draws.tuple (prog := X.prog) (w := X.w) (A := X.A.in1) (I.ok.hd hc) it a hai its.toArray) he ⟨hit, p⟩ (by simpa using hlt) hne (by simp [hne, hea]) fun y h' tk hy ho hit' hT hsz hk => ?_
    have hy' : its[i]? = some y := by simpa using hy
    rw [hu] at hy'
    cases hy'
    refine ⟨_, rfl, wpAny_letOwnedTupleGo_enum (s := { s with heap := h', toks := tk + 1 }) ho fun h'' he' sb => ?_⟩
    have hT2 : h''.get? s.heap.objs.size = some { cls := .type "tuple", data := .seq #[.int i tk, u] } := (sb.2 _ (Nat.ne_of_gt hel)).trans hT
    have new : ObjOk X.prog X.w (upd H s.heap.objs.size (.tup [.int (i : Nat), x])) h'' s.heap.objs.size (.tup [.int (i : Nat), x]) :=
      ⟨by show 2 ≤ sizeLine; decide, [.int i tk, u], .cons ⟨_, rfl⟩ (.cons ru .nil), ⟨_, hT2, rfl, _, rfl⟩⟩
    have I1 : Inv X pins σ (upd H s.heap.objs.size (.tup [.int (i : Nat), x])) { s with heap := h'', toks := tk + 1 } :=
      I.turnedNew (ch := [e, it]) (fun b ob hb q => (sb.2 b (fun z => hb (by simp [z]))).trans (hk b ob (fun z => hb (by simp [z])) (fun z => hb (by simp [z])) q)) hf (Nat.le_refl _) new
    refine ⟨.ref s.heap.objs.size, _, I1, rfl, ⟨_, x, rfl, I.hok.fresh (Nat.le_refl _), rfl, fun ys hy => by rw [I.tuple_inj hy hq]; exact hx⟩, ⟨⟨u, ?_⟩, hit'.1.at fun o q => (sb.2 it (Ne.symm hne)).trans q, hne, hai, hea⟩, fun b hb => ?_⟩
    · have e1 : ((i + 1 : Nat) : Int) = (i : Int) + 1 := by omega
      rw [e1]; exact he'
    · have hb' : b < s.heap.objs.size := by
        have e' : b = e ∨ b = it := by simpa using hb
        rcases e' with z | z
        · rw [z]; exact hel
        · rw [z]; exact hil
      rw [upd_ne (Nat.ne_of_lt hb')]
      exact (hf b hb).1
  done := by
    intro X hP hw hK hc i pins s σ H E I hf st hg
    subst hP hw hK
    obtain ⟨⟨old, he⟩, hit, hne, hai, hea⟩ := st
    obtain ⟨xs, hq, hx⟩ := hg
    obtain ⟨its, rv, p, hz⟩ := I.tuple hq
    obtain ⟨f0, f1, f2, f3, f4, f5⟩ := hf it (by simp)
    have hl := rv.length
    have hi : i = its.toArray.size := by simp; omega
    subst hi
    exact wpAny_pyNext_enum_endD (Draws.tuple (prog := X.prog) (w := X.w) (A := X.A.in1) (I.ok.hd hc) it a hai its.toArray) he ⟨hit, p⟩ fun h' eb => ⟨rfl, I.turned (t' := s.toks) (fun b o hb q => eb b o hb q) f0 f1 f3 f4 f5⟩
  self := fun A i s Q E st h => let ⟨⟨_, he⟩, _⟩ := st; wpAny_pyIter_enum he h
theorem enumD_len : ∀ (k : Int) (xs : List D), (enumD k xs).length = xs.length
  | _, [] => rfl
  | k, x :: xs => by simp [enumD, enumD_len (k + 1) xs]
theorem enumD_get : ∀ (k : Int) (xs : List D) (i : Nat), (enumD k xs)[i]? = (xs[i]?).map fun x => .tuple [.int (k + i), x]
  | _, [], _ => by simp [enumD]
  | k, x :: xs, 0 => by simp [enumD]
  | k, x :: xs, i + 1 => by
    simp only [enumD, List.getElem?_cons_succ, enumD_get (k + 1) xs i]
    congr 1
    funext y
    congr 3
    push_cast
    omega
theorem pair_ok {K : PySem.W.Frag} {H : Hp} {T : Addr} {v w : V} {x y : D} {F G : List Addr} (n : H T = none) (h1 : Den K H v x F) (h2 : Den K H w y G) : Den K (upd H T (.tup [v, w])) (.ref T) (.tuple [x, y]) (F ++ G) := by
  have z := DenL.cons h1 (DenL.one h2)
  exact Den.newT n z
theorem itok_enum {K : PySem.W.Frag} {a : Addr} {ds : List D} {F : List Addr} : ItOk K (Ite K a) [⟨.ref a, .list ds, F⟩] (enumD 0 ds) := by
  intro H h
  have h := h _ List.mem_cons_self
  cases h with
  | lst e l =>
    rename_i xs F
    have sq : SqL K H a xs := .inl (.inl e)
    refine ⟨fun i hi => ⟨xs, xs[i]'(by rw [l.length, ← enumD_len 0]; exact hi), sq, List.getElem?_eq_getElem _⟩, ⟨xs, sq, by rw [enumD_len]; exact Nat.le_of_eq l.length⟩, fun i d x H' hd hy => ?_⟩
    obtain ⟨t, y, rfl, n, rfl, hy⟩ := hy
    rw [enumD_get] at hd
    obtain ⟨z, hz, rfl⟩ := Option.map_eq_some_iff.mp hd
    obtain ⟨y', G, e1, e2, e3⟩ := l.get hz
    have := hy xs sq
    rw [this] at e1
    cases e1
    refine ⟨Ext.new n, G, ?_, fun z hz => ⟨_, List.mem_cons_self, List.mem_cons_of_mem _ (e3 z hz)⟩⟩
    have pp := pair_ok n (Den.int (K := K) (H := H) (i : Nat)) e2
    rw [Int.zero_add]
    exact pp
theorem itok_enumT {K : PySem.W.Frag} {a : Addr} {ds : List D} {F : List Addr} : ItOk K (Iet K a) [⟨.ref a, .tuple ds, F⟩] (enumD 0 ds) := by
  intro H h
  have h := h _ List.mem_cons_self
  cases h with
  | tup e l =>
    rename_i xs
    have sq : SqT K H a xs := e.sq
    refine ⟨fun i hi => ⟨xs, xs[i]'(by rw [l.length, ← enumD_len 0]; exact hi), sq, List.getElem?_eq_getElem _⟩, ⟨xs, sq, by rw [enumD_len]; exact l.length⟩, fun i d x H' hd hy => ?_⟩
    obtain ⟨t, y, rfl, n, rfl, hy⟩ := hy
    rw [enumD_get] at hd
    obtain ⟨z, hz, rfl⟩ := Option.map_eq_some_iff.mp hd
    obtain ⟨y', G, e1, e2, e3⟩ := l.get hz
    have := hy xs sq
    rw [this] at e1
    cases e1
    refine ⟨Ext.new n, G, ?_, fun z hz => ⟨_, List.mem_cons_self, e3 z hz⟩⟩
    have pp := pair_ok n (Den.int (K := K) (H := H) (i : Nat)) e2
    rw [Int.zero_add]
    exact pp
theorem pi_enumA {ta : TA} {tpos : Pos} {elts : List Expr} {kk : Nat} (hg : Gl X "enumerate") (hm : X.mg "enumerate" = none) (ha : PA X [e] ta) (hs : starEach [e] X.env = [(false, eval e X.env)]) :
    PI X (.Tuple elts kk tpos) (.Call (.Name "enumerate" p) [e] [] pos) (fun σ H R => ta σ H fun vs H1 => ∃ a xs, vs = [.ref a] ∧ (SqL X.K H1 a xs ∧ R (Ite X.K a) H1 ∨ SqT X.K H1 a xs ∧ R (Iet X.K a) H1)) := by
  refine ⟨fun pins s σ H R I h => ?_⟩
  refine Call_ (ld_blt I hg hm boot_enumerate (PyProof.Rows.callWith_type1 (thn (ha.run pos pins s σ H _ I h) fun us s1 ⟨vs, H1, I1, r1, q1⟩ => ?_) hs rfl))
  obtain ⟨a, xs, rfl, q1⟩ := q1
  obtain ⟨u, rfl, ru⟩ := vals1 r1
  cases ru
  have fr : ∀ b ∈ [s1.heap.objs.size + 1, s1.heap.objs.size], FpOk X pins H1 b := fun b hb => by
    have e' : b = s1.heap.objs.size + 1 ∨ b = s1.heap.objs.size := by simpa using hb
    have hle : s1.heap.objs.size ≤ b := by rcases e' with z | z <;> omega
    exact I1.fpOk hle (I1.hok.fresh hle)
  rcases q1 with ⟨hq, q⟩ | ⟨hq, q⟩
  · obtain ⟨its, rv, p', hz⟩ := I1.list hq
    refine call_enumerate_list p'.isList fun h' he hit hsz hk => wpAny_pyIter_enum he ?_
    have I2 : Inv X pins σ H1 { s1 with heap := h' } := I1.kept (t' := s1.toks) hk
    exact ⟨s1.heap.objs.size + 1, [s1.heap.objs.size + 1, s1.heap.objs.size], _, _, H1, rfl, I2, turn_enum a (s1.heap.objs.size + 1) s1.heap.objs.size, ⟨⟨.none, he⟩, hit, Nat.succ_ne_self _⟩, fr, q⟩
  · obtain ⟨its, rv, p', hz⟩ := I1.tuple hq
    have hl : a < s1.heap.objs.size := by obtain ⟨o, e, _⟩ := p'; exact Heap.lt_size e
    refine call_enumT (show s1.heap.IsTuple a its.toArray from p') fun h' he hit hk => wpAny_pyIter_enum he ?_
    have I2 : Inv X pins σ H1 { s1 with heap := h' } := I1.kept (t' := s1.toks) hk
    exact ⟨s1.heap.objs.size + 1, [s1.heap.objs.size + 1, s1.heap.objs.size], _, _, H1, rfl, I2, turn_enumT a (s1.heap.objs.size + 1) s1.heap.objs.size, ⟨⟨.none, he⟩, hit, Nat.succ_ne_self _, Nat.ne_of_lt hl, Nat.ne_of_gt (Nat.lt_succ_of_lt hl)⟩, fr, q⟩
theorem iv_enum {tpos : Pos} {elts : List Expr} {kk : Nat} (hm : X.mg "enumerate" = none) (he : EV X G .val e fe) (hg : Gl X "enumerate" := by rfl) (hs : starEach [e] X.env = [(false, eval e X.env)] := by rfl) :
    IV X G (.Tuple elts kk tpos) (.Call (.Name "enumerate" p) [e] [] pos) (wEnum fe) := by
  refine PI.mono (pi_enumA hg hm (pa_cons he pa_nil (by rw [hs]; rfl)) hs) fun σ H R h => ?_
  obtain ⟨c, T, fp, ρ, S, ds, S', ok, hf, q⟩ := h
  obtain ⟨x, S1, h1, hf⟩ := M.bind_some hf
  obtain ⟨xs, e1, hf⟩ := seq_bind hf
  obtain ⟨rfl, rfl⟩ := M.pure_some hf
  refine ⟨c, T, fp, ρ, S, _, _, ok, h1, fun v H' F ok' e dn av r => ?_⟩
  rcases seq_kindD e1 with rfl | rfl
  · cases dn with
    | lst e2 l =>
      rename_i a vs F
      refine ⟨a, vs, rfl, .inl ⟨.inl (.inl e2), q _ H' [⟨.ref a, .list xs, a :: F⟩] ok' e itok_enum ?_ ?_ ?_⟩⟩ <;> (intro t ht; obtain rfl := List.mem_singleton.mp ht)
      · exact .lst e2 l
      · exact av
      · exact r
  · cases dn with
    | tup e2 l =>
      rename_i a vs
      refine ⟨a, vs, rfl, .inr ⟨e2.sq, q _ H' [⟨.ref a, .tuple xs, F⟩] ok' e itok_enumT ?_ ?_ ?_⟩⟩ <;> (intro t ht; obtain rfl := List.mem_singleton.mp ht)
      · exact .tup e2 l
      · exact av
      · exact r
end
end DL

/-! DS8: targets, comprehensions. -/
namespace DL
open PySem PySem.Spec PyProof.Rows L2

theorem kill_some {i : Nat} {d : D} : ∀ {ks : List Nat} {ρ : Env}, (kill ks ρ)[i]? = some (some d) → ρ[i]? = some (some d) ∧ i ∉ ks
  | [], _, h => ⟨h, by simp⟩
  | k :: ks, ρ, h => by
    obtain ⟨h1, h2⟩ := kill_some (ks := ks) (ρ := ρ.set k none) h
    by_cases e : k = i
    · subst e
      by_cases hk : k < ρ.length
      · rw [List.getElem?_set_self hk] at h1; cases h1
      · rw [List.getElem?_eq_none (by simpa using hk)] at h1; cases h1
    · rw [List.getElem?_set_ne e] at h1
      exact ⟨h1, by simp only [List.mem_cons, not_or]; exact ⟨fun z => e z.symm, h2⟩⟩
theorem kill_len : ∀ (ks : List Nat) (ρ : Env), (kill ks ρ).length = ρ.length
  | [], _ => rfl
  | k :: ks, ρ => (kill_len ks (ρ.set k none)).trans (by simp)
theorem kill_out {i : Nat} : ∀ {ks : List Nat} {ρ : Env}, i ∉ ks → (kill ks ρ)[i]? = ρ[i]?
  | [], _, _ => rfl
  | k :: ks, ρ, h => by
    have h1 : i ≠ k := fun z => h (by simp [z])
    have h2 : i ∉ ks := fun z => h (by simp [z])
    show (kill ks (ρ.set k none))[i]? = _
    rw [kill_out h2, List.getElem?_set_ne (Ne.symm h1)]

section
variable {K : PySem.W.Frag} {G : Sg} {c c' : Cc} {T : List Tmp} {fp : Nat → List Addr} {ρ : Env} {S S' : Src} {σ σ' : St} {H H' : Hp} {m : Md} {F : List Addr} {v : V} {d : D} {i : Nat}
/-- one more fact of a name's place -/
def put (fp : Nat → List Addr) (i : Nat) (F : List Addr) : Nat → List Addr := fun j => if j = i then F else fp j
theorem put_same : put fp i F i = F := if_pos rfl
theorem put_ne {j : Nat} (h : j ≠ i) : put fp i F j = fp j := if_neg h
theorem set_some {α : Type} {l : List (Option α)} {j : Nat} {x y : α} (h : (l.set i (some x))[j]? = some (some y)) : (j = i ∧ y = x) ∨ (j ≠ i ∧ l[j]? = some (some y)) := by
  by_cases e : i = j
  · subst e
    by_cases hk : i < l.length
    · rw [List.getElem?_set_self hk] at h; cases h; exact .inl ⟨rfl, rfl⟩
    · rw [List.getElem?_eq_none (by simpa using hk)] at h; cases h
  · rw [List.getElem?_set_ne e] at h
    exact .inr ⟨fun z => e z.symm, h⟩
theorem set_len {α : Type} {l : List (Option α)} {i : Nat} {x : Option α} {y : α} (h : (l.set i x)[i]? = some (some y)) : i < l.length := by
  have := (List.getElem?_eq_some_iff.mp h).1
  simpa using this
theorem SrcOk.set (h : SrcOk G.sc c S σ H) (hsc : G.sc ≠ some i) : SrcOk G.sc c S (σ.set i (some v)) H := by
  unfold SrcOk at h ⊢
  split at h
  · trivial
  · rename_i j p q e1 e2
    refine ⟨?_, h.2⟩
    rw [List.getElem?_set_ne fun z => hsc (by rw [e1, z])]
    exact h.1
  · exact h.elim
theorem StOk.put (ok : StOk K G c T fp ρ S σ H) (hi : i ∉ G.mu) (hsc : G.sc ≠ some i) (dn : Den K H v d F) (av : ∀ a ∈ F, ¬ c.P a) (r : ResOk G fp ρ H .val F) : StOk K G c T (DL.put fp i F) (ρ.set i (some d)) S (σ.set i (some v)) H := by
  refine ⟨fun j e hj => ?_, ok.tmp, fun j e hj a ha => ?_, ok.tav, fun j k e f hj hjk h1 h2 a ha => ?_, fun j e hj h1 t ht => ?_, fun j e hj h1 => ?_, fun j e hj h1 => ?_, ok.ext, ok.hP, ok.pd, ok.src.set hsc, by simp [ok.len]⟩
  · rcases set_some hj with ⟨rfl, rfl⟩ | ⟨hne, hj'⟩
    · have hl := set_len hj
      rw [ok.len] at hl
      exact ⟨v, List.getElem?_set_self hl, by rw [put_same]; exact dn⟩
    · rw [put_ne hne, List.getElem?_set_ne (Ne.symm hne)]
      exact ok.den j e hj'
  · rcases set_some hj with ⟨rfl, rfl⟩ | ⟨hne, hj'⟩
    · rw [put_same] at ha
      exact av a ha
    · rw [put_ne hne] at ha
      exact ok.av j e hj' a ha
  · have nj : j ≠ i := fun z => hi (z ▸ hj)
    rcases set_some h1 with ⟨rfl, rfl⟩ | ⟨_, g1⟩
    · exact absurd rfl nj
    · rw [put_ne nj] at ha
      rcases set_some h2 with ⟨rfl, rfl⟩ | ⟨hne, g2⟩
      · rw [put_same]
        exact fun z => r j e hj g1 a z ha
      · rw [put_ne hne]
        exact ok.sep j k e f hj hjk g1 g2 a ha
  · have nj : j ≠ i := fun z => hi (z ▸ hj)
    rcases set_some h1 with ⟨rfl, rfl⟩ | ⟨_, g1⟩
    · exact absurd rfl nj
    · rw [put_ne nj]
      exact ok.tsep j e hj g1 t ht
  · have nj : j ≠ i := fun z => hi (z ▸ hj)
    rcases set_some h1 with ⟨rfl, rfl⟩ | ⟨_, g1⟩
    · exact absurd rfl nj
    · rw [put_ne nj]
      exact ok.nd j e hj g1
  · have nj : j ≠ i := fun z => hi (z ▸ hj)
    rcases set_some h1 with ⟨rfl, rfl⟩ | ⟨_, g1⟩
    · exact absurd rfl nj
    · rw [put_ne nj]
      exact ok.new j e hj g1
/-- a name whose list may change gets what is its own -/
theorem StOk.putM (ok : StOk K G c T fp ρ S σ H) (hsc : G.sc ≠ some i) (dn : Den K H v d F) (av : ∀ a ∈ F, ¬ c.P a) (nd : F.Nodup) (h0 : ∀ a ∈ F, c.H0 a = none) (hs : ∀ j e, j ≠ i → ρ[j]? = some (some e) → ∀ a ∈ F, a ∉ fp j) (ht : ∀ t ∈ T, ∀ a ∈ F, a ∉ t.F) :
    StOk K G c T (DL.put fp i F) (ρ.set i (some d)) S (σ.set i (some v)) H := by
  refine ⟨fun j e hj => ?_, ok.tmp, fun j e hj a ha => ?_, ok.tav, fun j k e f hj hjk h1 h2 a ha => ?_, fun j e hj h1 t htt a ha => ?_, fun j e hj h1 => ?_, fun j e hj h1 => ?_, ok.ext, ok.hP, ok.pd, ok.src.set hsc, by simp [ok.len]⟩
  · rcases set_some hj with ⟨rfl, rfl⟩ | ⟨hne, hj'⟩
    · have hl := set_len hj
      rw [ok.len] at hl
      exact ⟨v, List.getElem?_set_self hl, by rw [put_same]; exact dn⟩
    · rw [put_ne hne, List.getElem?_set_ne (Ne.symm hne)]
      exact ok.den j e hj'
  · rcases set_some hj with ⟨rfl, rfl⟩ | ⟨hne, hj'⟩
    · rw [put_same] at ha
      exact av a ha
    · rw [put_ne hne] at ha
      exact ok.av j e hj' a ha
  · rcases set_some h1 with ⟨rfl, rfl⟩ | ⟨nj, g1⟩
    · rw [put_same] at ha
      rcases set_some h2 with ⟨rfl, rfl⟩ | ⟨hne, g2⟩
      · exact absurd rfl hjk
      · rw [put_ne hne]
        exact hs k f hne g2 a ha
    · rw [put_ne nj] at ha
      rcases set_some h2 with ⟨rfl, rfl⟩ | ⟨hne, g2⟩
      · rw [put_same]
        exact fun z => hs j e nj g1 a z ha
      · rw [put_ne hne]
        exact ok.sep j k e f hj hjk g1 g2 a ha
  · rcases set_some h1 with ⟨rfl, rfl⟩ | ⟨nj, g1⟩
    · rw [put_same] at ha
      exact ht t htt a ha
    · rw [put_ne nj] at ha
      exact ok.tsep j e hj g1 t htt a ha
  · rcases set_some h1 with ⟨rfl, rfl⟩ | ⟨nj, g1⟩
    · rw [put_same]
      exact nd
    · rw [put_ne nj]
      exact ok.nd j e hj g1
  · rcases set_some h1 with ⟨rfl, rfl⟩ | ⟨nj, g1⟩
    · rw [put_same]
      exact h0
    · rw [put_ne nj]
      exact ok.new j e hj g1
/-- names forgotten -/
theorem StOk.kill {ks : List Nat} (ok : StOk K G c T fp ρ S σ H) : StOk K G c T fp (DL.kill ks ρ) S σ H :=
  ⟨fun j e h => ok.den j e (kill_some h).1, ok.tmp, fun j e h => ok.av j e (kill_some h).1, ok.tav, fun j k e f hj hjk h1 h2 => ok.sep j k e f hj hjk (kill_some h1).1 (kill_some h2).1,
    fun j e hj h => ok.tsep j e hj (kill_some h).1, fun j e hj h => ok.nd j e hj (kill_some h).1, fun j e hj h => ok.new j e hj (kill_some h).1, ok.ext, ok.hP, ok.pd, ok.src, by rw [kill_len]; exact ok.len⟩
theorem SrcOk.other (h : SrcOk G.sc c S σ H) (h' : SrcOk G.sc c' S' σ' H') (e : c'.src = c.src) : SrcOk G.sc c S' σ H' := by
  unfold SrcOk at h h' ⊢
  rw [e] at h'
  split at h
  · trivial
  · rename_i e1 e2
    rw [e1, e2] at h'
    exact ⟨h.1, h'.2⟩
  · exact h.elim
theorem StOk.wipe {ks : List Nat} (ok : StOk K G c T fp ρ S σ H) (hsc : ∀ i ∈ ks, G.sc ≠ some i) : StOk K G c T fp (DL.kill ks ρ) S (L2.wipe σ ks) H := by
  have k := ok.kill (ks := ks)
  refine ⟨fun j e h => ?_, k.tmp, k.av, k.tav, k.sep, k.tsep, k.nd, k.new, k.ext, k.hP, k.pd, ?_, by rw [wipe_length]; exact k.len⟩
  · rw [wipe_out (kill_some h).2]
    exact k.den j e h
  · have hs := ok.src
    unfold SrcOk at hs ⊢
    split at hs
    · trivial
    · rename_i j p q e1 e2
      refine ⟨?_, hs.2⟩
      rw [wipe_out fun z => hsc j z e1]
      exact hs.1
    · exact hs.elim
/-- a list that nothing knows yet -/
def Cc.and (c : Cc) (x : Addr) : Cc := ⟨c.src, c.H0, fun a => c.P a ∨ a = x⟩
theorem StOk.lay {x : Addr} (ok : StOk K G c T fp ρ S σ H) (n : H x = none) : StOk K G (c.and x) T fp ρ S σ (upd H x (.lst [])) := by
  have e : Ext [] H (upd H x (.lst [])) := Ext.new n
  have ok' := ok.grow e
  refine ⟨ok'.den, ok'.tmp, fun j e h a ha z => ?_, fun t ht a ha z => ?_, ok'.sep, ok'.tsep, ok'.nd, ok'.new, ok'.ext, fun a ha => .inl (ok'.hP a ha), fun a z => ?_, ok'.src, ok'.len⟩
  · rcases z with z | rfl
    · exact ok'.av j e h a ha z
    · obtain ⟨v', _, q⟩ := ok.den j _ h
      exact q.dom _ ha n
  · rcases z with z | rfl
    · exact ok'.tav t ht a ha z
    · exact (ok.tmp t ht).dom _ ha n
  · rcases z with z | rfl
    · exact ok'.pd a z
    · rw [upd_same]
      exact fun z => nomatch z
theorem StOk.poke {x : Addr} {acc acc' : List V} (ok : StOk K G c T fp ρ S σ H) (hD : c.P x) (hR : x ∉ c.R) (hl : H x = some (.lst acc)) (h0 : c.H0 x = none) : StOk K G c T fp ρ S σ (upd H x (.lst acc')) := by
  have nt : ∀ xs, H x ≠ some (.tup xs) := fun xs z => by rw [hl] at z; cases z
  refine ⟨fun j e h => ?_, fun t ht => (ok.tmp t ht).wr nt fun z => ok.tav t ht x z hD, ok.av, ok.tav, ok.sep, ok.tsep, ok.nd, ok.new, ⟨fun a o h n => ?_, fun a xs h => ?_, fun a h => upd_dom (ok.ext.dom a h)⟩, ok.hP, fun a z => upd_dom (ok.pd a z), ?_, ok.len⟩
  · obtain ⟨v', e1, e2⟩ := ok.den j e h
    exact ⟨v', e1, e2.wr nt fun z => ok.av j e h x z hD⟩
  · rw [upd_ne fun z => by rw [z, h0] at h; cases h]
    exact ok.ext.keep a o h n
  · rw [upd_ne fun z => by rw [z, h0] at h; cases h]
    exact ok.ext.tup a xs h
  · have hs := ok.src
    unfold SrcOk at hs ⊢
    unfold Cc.R at hR
    split at hs
    · trivial
    · rename_i i p q e1 e2
      rw [e2] at hR
      have h1 : p ≠ x := fun z => hR (by simp [z])
      have h2 : q ≠ x := fun z => hR (by simp [z])
      refine ⟨hs.1, ?_, ?_⟩
      · rw [upd_ne h1]; exact hs.2.1
      · rw [upd_ne h2]; exact hs.2.2
    · exact hs.elim
theorem Ext.pokeN {R : List Addr} {x : Addr} {o : HO} {H0 : Hp} (e : Ext R H0 H) (n : H0 x = none) : Ext R H0 (upd H x o) := by
  refine ⟨fun a u h k => ?_, fun a xs h => ?_, fun a h => upd_dom (e.dom a h)⟩
  · rw [upd_ne (ne_of_none h n)]
    exact e.keep a u h k
  · rw [upd_ne (ne_of_none h n)]
    exact e.tup a xs h
end
end DL

/-! DS9: targets, comprehensions. -/
namespace DL
open PySem PySem.Spec PyProof.Rows L2

theorem wipe_in {σ : St} {i : Nat} {x : Option V} : ∀ {ws : List Nat}, i ∈ ws → L2.wipe (σ.set i x) ws = L2.wipe σ ws
  | [], h => nomatch h
  | w :: ws, h => by
    unfold L2.wipe
    by_cases e : i ∈ ws
    · rw [wipe_in e]
    · have e2 : i = w := by
        rcases List.mem_cons.mp h with h | h
        · exact h
        · exact absurd h e
      subst e2
      have key : ∀ (ws : List Nat) (σ : St), i ∉ ws → L2.wipe (σ.set i x) ws = (L2.wipe σ ws).set i x := by
        intro ws
        induction ws with
        | nil => intro σ _; rfl
        | cons a r ih =>
          intro σ h
          unfold L2.wipe
          rw [ih σ fun z => h (by simp [z])]
          exact List.set_comm _ _ fun z => h (by simp [z])
      rw [key ws σ e, List.set_set]
/-- what a target leaves as it is -/
structure Kept (G : Sg) (vs : List Nat) (fp fp' : Nat → List Addr) (ρ ρ' : Env) (σ σ' : St) : Prop where
  mu : ∀ i ∈ G.mu, fp' i = fp i ∧ ρ'[i]? = ρ[i]?
  wp : ∀ ws, (∀ i ∈ vs, i ∈ ws) → L2.wipe σ' ws = L2.wipe σ ws
def tDG (K : PySem.W.Frag) (G : Sg) (vs : List Nat) (g : GF) : TG := fun v σ H Q => ∃ c T fp ρ S d ρ' S' F, StOk K G c T fp ρ S σ H ∧ Den K H v d F ∧ (∀ a ∈ F, ¬ c.P a) ∧ ResOk G fp ρ H .val F ∧ g d ρ S = some (ρ', S') ∧
  ∀ σ' fp', StOk K G c T fp' ρ' S' σ' H → Kept G vs fp fp' ρ ρ' σ σ' → Q σ' H
def tDGs (K : PySem.W.Frag) (G : Sg) (vs : List Nat) (g : List GF) : TGs := fun v σ H Q => ∃ c T fp ρ S d ρ' S' F, StOk K G c T fp ρ S σ H ∧ DenL K H v d F ∧ (∀ a ∈ F, ¬ c.P a) ∧ ResOk G fp ρ H .val F ∧ gAll g d ρ S = some (ρ', S') ∧
  ∀ σ' fp', StOk K G c T fp' ρ' S' σ' H → Kept G vs fp fp' ρ ρ' σ σ' → Q σ' H
abbrev GV (X : Cx) (G : Sg) (vs : List Nat) (e : Expr) (g : GF) : Prop := PG X e (tDG X.K G vs g)
abbrev GVs (X : Cx) (G : Sg) (vs : List Nat) (es : List Expr) (gs : List GF) : Prop := PGs X es (tDGs X.K G vs gs)
theorem PG.mono {X : Cx} {e : Expr} {t t' : TG} (h : PG X e t) (m : ∀ v σ H Q, t' v σ H Q → t v σ H Q) : PG X e t' := ⟨fun pins s σ H v u Q I r q => h.run pins s σ H v u Q I r (m v σ H Q q)⟩
theorem PGs.mono {X : Cx} {e : List Expr} {t t' : TGs} (h : PGs X e t) (m : ∀ v σ H Q, t' v σ H Q → t v σ H Q) : PGs X e t' := ⟨fun pins s σ H v u Q I r q => h.run pins s σ H v u Q I r (m v σ H Q q)⟩

section
variable {X : Cx} {G : Sg} {pos : Pos}
theorem gv_name {i : Nat} {x : Str} (hN : X.N.Nodup) (hi : X.N[i]? = some x) (hx : Loc X.env.scope x) (hf : X.fn x = true ∨ X.env.scope.names.lookup x = some .local) (hmu : i ∉ G.mu) (hsc : G.sc ≠ some i) : GV X G [i] (.Name x pos) (gName i) := by
  refine PG.mono (pg_name hN hi hx hf) fun v σ H Q h => ?_
  obtain ⟨c, T, fp, ρ, S, d, ρ', S', F, ok, dn, av, r, hf, q⟩ := h
  obtain ⟨rfl, rfl⟩ := M.pure_some hf
  refine q _ _ (ok.put hmu hsc dn av r) ⟨fun j hj => ?_, fun ws hw => wipe_in (hw i List.mem_cons_self)⟩
  have nj : j ≠ i := fun z => hmu (z ▸ hj)
  exact ⟨put_ne nj, List.getElem?_set_ne (Ne.symm nj)⟩
theorem gvs_nil : GVs X G [] [] [] := by
  refine PGs.mono pgs_nil fun v σ H Q h => ?_
  obtain ⟨c, T, fp, ρ, S, d, ρ', S', F, ok, dn, av, r, hf, q⟩ := h
  cases dn with
  | cons => exact (M.fail_some hf).elim
  | nil =>
    obtain ⟨rfl, rfl⟩ := M.pure_some hf
    exact ⟨rfl, q σ fp ok ⟨fun i _ => ⟨rfl, rfl⟩, fun ws _ => rfl⟩⟩
theorem ResOk.keptV {K : PySem.W.Frag} {fp fp' : Nat → List Addr} {ρ ρ' : Env} {σ σ' : St} {vs : List Nat} {H : Hp} {F : List Addr} (k : Kept G vs fp fp' ρ ρ' σ σ') (r : ResOk G fp ρ H .val F) : ResOk G fp' ρ' H .val F := fun i d hi hd a ha => by
  obtain ⟨e1, e2⟩ := k.mu i hi
  rw [e1]
  rw [e2] at hd
  exact r i d hi hd a ha
theorem gvs_cons {e : Expr} {es : List Expr} {g : GF} {gs : List GF} {v1 v2 : List Nat} (h1 : GV X G v1 e g) (h2 : GVs X G v2 es gs) (hs : (assignEach (e :: es) X.env).map (·.2) = assign e X.env :: (assignEach es X.env).map (·.2) := by rfl) : GVs X G (v1 ++ v2) (e :: es) (g :: gs) := by
  refine PGs.mono (pgs_cons h1 h2 hs) fun v σ H Q h => ?_
  obtain ⟨c, T, fp, ρ, S, d, ρ', S', F, ok, dn, av, r, hf, q⟩ := h
  cases dn with
  | nil => exact (M.fail_some hf).elim
  | cons da dl =>
    obtain ⟨ρ1, S1, hf1, hf2⟩ := M.bind_some hf
    refine ⟨_, _, rfl, c, T, fp, ρ, S, _, ρ1, S1, _, ok, da, fun a ha => av a (List.mem_append_left _ ha), fun i d hi hd a ha => r i d hi hd a (List.mem_append_left _ ha), hf1, fun σ1 fp1 ok1 k1 => ?_⟩
    refine ⟨c, T, fp1, ρ1, S1, _, ρ', S', _, ok1, dl, fun a ha => av a (List.mem_append_right _ ha), ?_, hf2, fun σ2 fp2 ok2 k2 => ?_⟩
    · exact ResOk.keptV (K := X.K) k1 fun i d hi hd a ha => r i d hi hd a (List.mem_append_right _ ha)
    · refine q σ2 fp2 ok2 ⟨fun i hi => ⟨(k2.mu i hi).1.trans (k1.mu i hi).1, (k2.mu i hi).2.trans (k1.mu i hi).2⟩, fun ws hw => ?_⟩
      rw [k2.wp ws fun i hi => hw i (List.mem_append_right _ hi), k1.wp ws fun i hi => hw i (List.mem_append_left _ hi)]
theorem gAll_len {gs : List GF} : ∀ {ds : List D} {ρ ρ' : Env} {S S' : Src}, gAll gs ds ρ S = some (ρ', S') → ds.length = gs.length := by
  induction gs with
  | nil =>
    intro ds ρ ρ' S S' h
    cases ds with
    | nil => rfl
    | cons => exact (M.fail_some h).elim
  | cons g gs ih =>
    intro ds ρ ρ' S S' h
    cases ds with
    | nil => exact (M.fail_some h).elim
    | cons d ds =>
      obtain ⟨ρ1, S1, h1, h2⟩ := M.bind_some h
      simp [ih h2]
theorem gv_tup {es : List Expr} {k : Nat} {gs : List GF} {vs : List Nat} (hc : X.calm = true) (h : GVs X G vs es gs) (hn : (assignEach es X.env).length = gs.length := by rfl) (hst : (assignEach es X.env).findIdx? (·.1) = none := by rfl) : GV X G vs (.Tuple es k pos) (gTup gs) := by
  refine PG.mono (pg_tup hc h hn hst) fun v σ H Q h => ?_
  obtain ⟨c, T, fp, ρ, S, d, ρ', S', F, ok, dn, av, r, hf, q⟩ := h
  unfold gTup at hf
  split at hf
  · cases dn with
    | tup e l => exact ⟨_, _, rfl, e.sq, l.length.trans (gAll_len hf), c, T, fp, ρ, S, _, ρ', S', F, ok, l, av, r, hf, q⟩
  · exact (M.fail_some hf).elim
end

/-! ### comprehensions -/
theorem ResOk.kept {G : Sg} {fp fp' : Nat → List Addr} {ρ ρ' : Env} {σ σ' : St} {vs : List Nat} {H : Hp} {m : Md} {F : List Addr} (k : Kept G vs fp fp' ρ ρ' σ σ') (r : ResOk G fp' ρ' H m F) : ResOk G fp ρ H m F := by
  cases m with
  | bor => trivial
  | own => exact r
  | val =>
    intro i d hi hd a ha
    obtain ⟨e1, e2⟩ := k.mu i hi
    rw [← e1]
    rw [← e2] at hd
    exact r i d hi hd a ha
theorem compD_nil {g : GF} {t : TF} {e : EF} {ρ : Env} {S S' : Src} {ys : List D} (h : compD g t e ρ [] S = some (ys, S')) : ys = [] ∧ S = S' := by
  obtain ⟨rfl, rfl⟩ := M.pure_some h
  exact ⟨rfl, rfl⟩
theorem lc_loop {K : PySem.W.Frag} {G : Sg} {c : Cc} {T T' : List Tmp} {fp : Nat → List Addr} {ρ : Env} {S S' : Src} {σ : St} {H Hb : Hp} {m : Md} {J : It} {ds ys : List D} {g : GF} {t : TF} {e : EF} {x : Addr} {acc : List V} {da : List D} {Fa : List Addr} {vs gv : List Nat} {Qd : Hp → Prop}
    (hvs : ∀ i ∈ gv, i ∈ vs) (hw : L2.wipe σ vs = σ) (ok : StOk K G c (T' ++ T) fp ρ S σ H) (hD : c.P x) (hR : x ∉ c.R) (h0 : c.H0 x = none) (hP : ∀ a ∈ c.R, c.P a) (hb : Ext c.R Hb H) (hbx : Hb x = none) (hJ : ItOk K J T' ds) (hT : ∀ t ∈ T', (∀ a ∈ t.F, ¬ c.P a) ∧ ResOk G fp ρ Hb .val t.F)
    (hl : H x = some (.lst acc)) (l : DenL K H acc da Fa) (av : ∀ a ∈ Fa, ¬ c.P a) (r : ResOk G fp ρ Hb m Fa) (hf : compD g t e ρ ds S = some (ys, S')) (hz : da.length + ys.length ≤ sizeLine)
    (fin : ∀ H' acc' F', StOk K G c (T' ++ T) fp ρ S' σ H' → Ext c.R Hb H' → Ext (x :: c.R) H H' → H' x = some (.lst acc') → DenL K H' acc' (da ++ ys) F' → (∀ a ∈ F', ¬ c.P a) → ResOk G fp ρ Hb m F' → Qd H') :
    ∃ W : Nat → Nat → Hp → Prop, (∃ k, W 0 k H) ∧ ∀ i k H, W i k H → (J.stop i H ∧ Qd H) ∨ (J.go i H ∧ ∃ Nx : Hp → Prop, (∀ H', Nx H' → ∃ k', k' < k ∧ W (i + 1) k' H') ∧ ∀ y H', J.yld i H y H' → tDG K G gv g y σ H' fun σ2 H2 => L2.wipe σ2 vs = σ ∧ tDT K G t σ2 H2 fun b H3 =>
      if b = true then tD K G m e σ2 H3 fun y H4 => ∃ acc, H4 x = some (.lst acc) ∧ acc.length < sizeLine ∧ Nx (upd H4 x (.lst (acc ++ [y]))) else Nx H3) := by
  let Pv : Nat → Hp → Prop := fun i H' => ∃ S1 acc1 da1 F1 ys1, StOk K G c (T' ++ T) fp ρ S1 σ H' ∧ Ext c.R Hb H' ∧ Ext (x :: c.R) H H' ∧ H' x = some (.lst acc1) ∧ DenL K H' acc1 da1 F1 ∧ (∀ a ∈ F1, ¬ c.P a) ∧ ResOk G fp ρ Hb m F1 ∧ compD g t e ρ (ds.drop i) S1 = some (ys1, S') ∧ da1 ++ ys1 = da ++ ys
  refine ⟨fun i k H => k = ds.length - i ∧ i ≤ ds.length ∧ Pv i H, ⟨_, rfl, Nat.zero_le _, S, acc, da, Fa, ys, ok, hb, Ext.refl, hl, l, av, r, hf, rfl⟩, ?_⟩
  rintro i k H ⟨rfl, hi, S1, acc1, da1, F1, ys1, ok, hb, hs, hl, l, av, r, hf, hy⟩
  obtain ⟨jg, js, jy⟩ := hJ H fun t ht => ok.tmp t (List.mem_append_left _ ht)
  by_cases hlt : i < ds.length
  · refine .inr ⟨jg i hlt, Pv (i + 1), fun H' p => ⟨ds.length - (i + 1), by omega, rfl, hlt, p⟩, fun y H' hyl => ?_⟩
    have hd : ds[i]? = some ds[i] := List.getElem?_eq_getElem hlt
    obtain ⟨ex, Fy, dy, hFy⟩ := jy i _ y H' hd hyl
    rw [List.drop_eq_getElem_cons hlt] at hf
    obtain ⟨ρ1, S2, f1, hf⟩ := M.bind_some hf
    obtain ⟨b, S3, f2, hf⟩ := M.bind_some hf
    have ok1 := ok.grow ex
    refine ⟨c, T' ++ T, fp, ρ, S1, _, ρ1, S2, Fy, ok1, dy, fun a ha => ?_, fun j d hj hdj a ha => ?_, f1, fun σ2 fp2 ok2 k2 => ⟨(k2.wp vs hvs).trans hw, ?_⟩⟩
    · obtain ⟨t, ht, ha⟩ := hFy a ha
      exact (hT t ht).1 a ha
    · obtain ⟨t, ht, ha⟩ := hFy a ha
      exact (hT t ht).2 j d hj hdj a ha
    refine ⟨c, T' ++ T, fp2, ρ1, S2, b, S3, ok2, f2, fun H3 ok3 e3 => ?_⟩
    have back : ∀ {S' : Src} {H' : Hp} {fp' ρ' σ'}, StOk K G c (T' ++ T) fp' ρ' S' σ' H' → Ext c.R H H' → StOk K G c (T' ++ T) fp ρ S' σ H' := fun o ee => ok.step ee (ok.src.other o.src rfl)
    have eH3 : Ext c.R H H3 := (ex.mono fun _ z => nomatch z).trans e3
    cases b with
    | true =>
      rw [if_pos rfl] at hf
      refine iteT ?_
      obtain ⟨z, S4, f3, hf⟩ := M.bind_some hf
      obtain ⟨zs, S5, f4, hf⟩ := M.bind_some hf
      obtain ⟨rfl, rfl⟩ := M.pure_some hf
      refine ⟨c, T' ++ T, fp2, ρ1, S3, z, S4, ok3, f3, fun v H4 Fz ok4 e4 dz az rz => ?_⟩
      have eH4 : Ext c.R H H4 := eH3.trans e4
      have hl4 : H4 x = some (.lst acc1) := eH4.keep x _ hl hR
      have ok4' := back ok4 eH4
      have l4 : DenL K H4 acc1 da1 F1 := l.ext eH4 fun a ha z => av a ha (hP a z)
      have nt : ∀ xs, H4 x ≠ some (.tup xs) := fun xs z => by rw [hl4] at z; cases z
      refine ⟨acc1, hl4, ?_, ?_⟩
      · have e1 := congrArg List.length hy
        simp only [List.length_append, List.length_cons] at e1
        rw [l.length]
        omega
      · refine ⟨S4, _, da1 ++ [z], F1 ++ Fz, zs, ok4'.poke hD hR hl4 h0, (hb.trans eH4).pokeN hbx, (hs.trans (eH4.mono fun a z => List.mem_cons_of_mem _ z)).trans (Ext.poke List.mem_cons_self nt), upd_same, ?_, fun a ha => (List.mem_append.mp ha).elim (av a) (az a), ?_, f4, ?_⟩
        · exact (l4.wr nt fun z => av x z hD).append (DenL.one (dz.wr nt fun z => az x z hD))
        · refine ResOk.app (H1 := H) r ?_ (fun z hz => l.dom z hz) ?_
          · exact (ResOk.kept k2 rz).back (hb.trans eH3) hP az
          · exact (ResOk.kept k2 rz).back eH3 hP az
        · rw [List.append_assoc]
          exact hy
    | false =>
      rw [if_neg Bool.false_ne_true] at hf
      refine iteF ?_
      exact ⟨S3, acc1, da1, F1, ys1, back ok3 eH3, hb.trans eH3, hs.trans (eH3.mono fun a z => List.mem_cons_of_mem _ z), eH3.keep x _ hl hR, l.ext eH3 fun a ha z => av a ha (hP a z), av, r, hf, hy⟩
  · have e1 : i = ds.length := by omega
    subst e1
    rw [List.drop_length] at hf
    obtain ⟨rfl, rfl⟩ := compD_nil hf
    rw [List.append_nil] at hy
    subst hy
    exact .inl ⟨js, fin H acc1 F1 ok hb hs hl l av r⟩

theorem wipe_self {σ : St} {ws : List Nat} : L2.wipe (L2.wipe σ ws) ws = L2.wipe σ ws := by
  apply List.ext_getElem?
  intro i
  by_cases h : i ∈ ws
  · have h1 : ∀ (τ : St), τ.length = σ.length → (L2.wipe τ ws)[i]? = if i < σ.length then some none else none := by
      intro τ hl
      have hlen := wipe_length τ ws
      cases e : (L2.wipe τ ws)[i]? with
      | none =>
        have := List.getElem?_eq_none_iff.mp e
        rw [if_neg (by omega)]
      | some o =>
        have hlt := (List.getElem?_eq_some_iff.mp e).1
        rw [if_pos (by omega)]
        cases o with
        | none => rfl
        | some v => exact absurd h (wipe_some e).2
    rw [h1 _ (wipe_length σ ws), h1 σ rfl]
  · rw [wipe_out h]
theorem tDT_yes {K : PySem.W.Frag} {G : Sg} {σ : St} {H : Hp} {Q : Bool → Hp → Prop} (h : tDT K G tYes σ H Q) : L2.tYes σ H Q := by
  obtain ⟨c, T, fp, ρ, S, d, S', ok, hf, q⟩ := h
  obtain ⟨rfl, rfl⟩ := M.pure_some hf
  exact q H ok Ext.refl
theorem pts_yes {X : Cx} {G : Sg} : PTs X [] (tDT X.K G tYes) := ⟨fun pins s σ H Q I h => pts_nil.run pins s σ H Q I (tDT_yes h)⟩
theorem pts_if {X : Cx} {G : Sg} {e : Expr} {t : TF} (h : TV X G e t) : PTs X [e] (tDT X.K G t) := pts_one h
theorem lc_sem {K : PySem.W.Frag} {G : Sg} {m : Md} {w : LF} {g : GF} {t : TF} {e : EF} {vs gv : List Nat} (hvs : ∀ i ∈ gv, i ∈ vs) (hsc : ∀ i ∈ vs, G.sc ≠ some i) (hmu : ∀ i ∈ vs, i ∉ G.mu) {σ : St} {H : Hp} {Q : VK} (h : tD K G m (eComp vs w g t e) σ H Q) :
    tLc (tDI K G w) (tDG K G gv g) (tDT K G t) (tD K G m e) vs σ H Q := by
  obtain ⟨c, T, fp, ρ, S, d, S', ok, hf, q⟩ := h
  obtain ⟨ds, S1, f1, hf⟩ := M.bind_some hf
  obtain ⟨ys, S2, f2, hf⟩ := M.bind_some hf
  obtain ⟨hz, hf⟩ := M.chk_bind hf
  obtain ⟨rfl, rfl⟩ := M.pure_some hf
  refine ⟨c, T, fp, ρ, S, ds, S1, ok, f1, fun J H1 T' ok1 e1 hJ t1 t2 t3 x hx => ?_⟩
  have okp : StOk K G c (T' ++ T) fp (kill vs ρ) S1 (L2.wipe σ vs) H1 := (ok1.pushT t1 t2 t3).wipe hsc
  have okl := okp.lay hx
  have hR : x ∉ c.R := fun z => ok1.pd x (ok1.hP x z) hx
  have mueq : ∀ {m F}, ResOk G fp (kill vs ρ) H1 m F → ResOk G fp ρ H1 m F := fun {m F} r => by
    cases m with
    | bor => trivial
    | own => exact r
    | val => exact fun i d hi hd a ha => r i d hi (by rw [kill_out fun z => hmu i z hi]; exact hd) a ha
  refine lc_loop (c := c.and x) (Hb := H1) (acc := []) (da := []) (Fa := []) hvs wipe_self okl (.inr rfl) hR (e1.back0 ok1 hx |> fun z => ok.ext.nn z hR) (fun a ha => .inl (ok1.hP a ha)) (Ext.new hx) hx hJ (fun t ht => ⟨fun a ha z => ?_, fun i d hi hd a ha => t3 t ht i d hi (kill_some hd).1 a ha⟩) upd_same .nil (fun _ z => nomatch z) (ResOk.imm rfl) f2 (by simpa using fit_le hz) fun H' acc F' ok' e' _ hl dn av r => ?_
  · rcases z with z | rfl
    · exact t2 t ht a ha z
    · exact (t1 t ht).dom _ ha hx
  · rw [List.nil_append] at dn
    have eH : Ext c.R H H' := e1.trans e'
    refine q (.ref x) H' (x :: F') (ok.step eH (ok.src.other ok'.src rfl)) eH (.lst hl dn) (fun a ha z => ?_) ?_
    · rcases List.mem_cons.mp ha with rfl | ha
      · exact ok1.pd _ z hx
      · exact av a ha (.inl z)
    · have r1 : ResOk G fp ρ H1 m F' := mueq r
      have r2 : ResOk G fp ρ H m F' := r1.back e1 ok.hP fun a ha z => av a ha (.inl z)
      cases m with
      | bor => trivial
      | val =>
        intro i d hi hd z hz w
        rcases List.mem_cons.mp hz with rfl | hz
        · obtain ⟨v', _, dn'⟩ := ok1.den i d hd
          exact dn'.dom _ w hx
        · exact r2 i d hi hd z hz w
      | own =>
        refine ⟨List.nodup_cons.mpr ⟨fun z => av x z (.inr rfl), r2.1⟩, fun z hz => ?_⟩
        rcases List.mem_cons.mp hz with rfl | hz
        · exact e1.back0 ok1 hx
        · exact r2.2 z hz
section
variable {X : Cx} {G : Sg} {m : Md} {elt tg iter : Expr} {ifs : List Expr} {scope : Scope} {own : List (Str × Nat)} {gv : List Nat} {pos : Pos} {w : LF} {g : GF} {t : TF} {e : EF}
theorem ev_lc (hc : X.calm = true) (hN : X.N.Nodup) (hi : IV X G tg iter w) (ok : BlkOk X.N X.env.scope scope own) (hvs : ∀ i ∈ gv, i ∈ own.map (·.2)) (hsc : ∀ i ∈ own.map (·.2), G.sc ≠ some i) (hmu : ∀ i ∈ own.map (·.2), i ∉ G.mu)
    (hg : ∀ (s : Shared) (H : Hp) (C : Addr) (cl : List (Str × Addr)) (fp : List Addr), GV (X.blk s H scope (compEnvC scope cl C X.env) fp) G gv tg g) (ht : ∀ (s : Shared) (H : Hp) (C : Addr) (cl : List (Str × Addr)) (fp : List Addr), PTs (X.blk s H scope (compEnvC scope cl C X.env) fp) ifs (tDT X.K G t))
    (he : ∀ (s : Shared) (H : Hp) (C : Addr) (cl : List (Str × Addr)) (fp : List Addr), EV (X.blk s H scope (compEnvC scope cl C X.env) fp) G m elt e) (hs : ∀ x, foldedSetIterable iter X.env x = pure x := by intro _; rfl) :
    EV X G m (.ListComp elt [⟨tg, iter, ifs, 0⟩] scope pos) (eComp (own.map (·.2)) w g t e) :=
  PE.mono (pe_lc hc hN hi ok hg ht he hs) fun σ H Q h => lc_sem hvs hsc hmu h
end

theorem lc_loop2 {K : PySem.W.Frag} {G : Sg} {c : Cc} {T T' : List Tmp} {fp : Nat → List Addr} {ρ : Env} {S S' : Src} {σ : St} {H Hb : Hp} {m : Md} {J : It} {ds ys : List D} {g g1 : GF} {t t1 : TF} {w1 : LF} {e : EF} {x : Addr} {vs vs1 gv gv1 : List Nat} {Qd : Hp → Prop}
    (hvs : ∀ i ∈ gv, i ∈ vs) (hvs1 : ∀ i ∈ gv1, i ∈ vs1) (hsc : ∀ i ∈ vs1, G.sc ≠ some i) (hmu : ∀ i ∈ vs1, i ∉ G.mu) (hw : L2.wipe σ vs = σ) (ok : StOk K G c (T' ++ T) fp ρ S σ H) (hD : c.P x) (hR : x ∉ c.R) (h0 : c.H0 x = none) (hP : ∀ a ∈ c.R, c.P a) (hb : Ext c.R Hb H) (hbx : Hb x = none) (hJ : ItOk K J T' ds) (hT : ∀ t ∈ T', (∀ a ∈ t.F, ¬ c.P a) ∧ ResOk G fp ρ Hb .val t.F)
    (hl : H x = some (.lst [])) (hf : compD2 vs1 g t w1 g1 t1 e ρ ds S = some (ys, S')) (hz : ys.length ≤ sizeLine)
    (fin : ∀ H' acc' F', StOk K G c (T' ++ T) fp ρ S' σ H' → Ext c.R Hb H' → H' x = some (.lst acc') → DenL K H' acc' ys F' → (∀ a ∈ F', ¬ c.P a) → ResOk G fp ρ Hb m F' → Qd H') :
    ∃ W : Nat → Nat → Hp → Prop, (∃ k, W 0 k H) ∧ ∀ i k H, W i k H → (J.stop i H ∧ Qd H) ∨ (J.go i H ∧ ∃ Nx : Hp → Prop, (∀ H', Nx H' → ∃ k', k' < k ∧ W (i + 1) k' H') ∧ ∀ y H', J.yld i H y H' → tDG K G gv g y σ H' fun σ2 H2 => L2.wipe σ2 vs = σ ∧ tDT K G t σ2 H2 fun b H3 =>
      if b = true then tDI K G w1 σ2 H3 fun J1 H4 => ∃ W1 : Nat → Nat → Hp → Prop, (∃ m, W1 0 m H4) ∧ ∀ j k H, W1 j k H →
        (J1.stop j H ∧ Nx H) ∨ (J1.go j H ∧ ∃ Nx1 : Hp → Prop, (∀ H', Nx1 H' → ∃ k', k' < k ∧ W1 (j + 1) k' H') ∧ ∀ y H', J1.yld j H y H' → tDG K G gv1 g1 y (L2.wipe σ2 vs1) H' fun σ3 H5 => L2.wipe σ3 vs1 = L2.wipe σ2 vs1 ∧ tDT K G t1 σ3 H5 fun b H6 =>
          if b = true then tD K G m e σ3 H6 fun y H7 => ∃ acc, H7 x = some (.lst acc) ∧ acc.length < sizeLine ∧ Nx1 (upd H7 x (.lst (acc ++ [y]))) else Nx1 H6)
      else Nx H3) := by
  let Pv : Nat → Hp → Prop := fun i H' => ∃ S1 acc1 da1 F1 ys1, StOk K G c (T' ++ T) fp ρ S1 σ H' ∧ Ext c.R Hb H' ∧ H' x = some (.lst acc1) ∧ DenL K H' acc1 da1 F1 ∧ (∀ a ∈ F1, ¬ c.P a) ∧ ResOk G fp ρ Hb m F1 ∧ compD2 vs1 g t w1 g1 t1 e ρ (ds.drop i) S1 = some (ys1, S') ∧ da1 ++ ys1 = ys
  refine ⟨fun i k H => k = ds.length - i ∧ i ≤ ds.length ∧ Pv i H, ⟨_, rfl, Nat.zero_le _, S, [], [], [], ys, ok, hb, hl, .nil, fun _ z => (nomatch z), ResOk.imm rfl, hf, rfl⟩, ?_⟩
  rintro i k H ⟨rfl, hi, S1, acc1, da1, F1, ys1, ok, hb, hl, l, av, r, hf, hy⟩
  obtain ⟨jg, js, jy⟩ := hJ H fun t ht => ok.tmp t (List.mem_append_left _ ht)
  by_cases hlt : i < ds.length
  · refine .inr ⟨jg i hlt, Pv (i + 1), fun H' p => ⟨ds.length - (i + 1), by omega, rfl, hlt, p⟩, fun y H' hyl => ?_⟩
    have hd : ds[i]? = some ds[i] := List.getElem?_eq_getElem hlt
    obtain ⟨ex, Fy, dy, hFy⟩ := jy i _ y H' hd hyl
    rw [List.drop_eq_getElem_cons hlt] at hf
    obtain ⟨ρ1, S2, f1, hf⟩ := M.bind_some hf
    obtain ⟨b, S3, f2, hf⟩ := M.bind_some hf
    have ok1 := ok.grow ex
    refine ⟨c, T' ++ T, fp, ρ, S1, _, ρ1, S2, Fy, ok1, dy, fun a ha => ?_, fun j d hj hdj a ha => ?_, f1, fun σ2 fp2 ok2 k2 => ⟨(k2.wp vs hvs).trans hw, ?_⟩⟩
    · obtain ⟨t, ht, ha⟩ := hFy a ha
      exact (hT t ht).1 a ha
    · obtain ⟨t, ht, ha⟩ := hFy a ha
      exact (hT t ht).2 j d hj hdj a ha
    refine ⟨c, T' ++ T, fp2, ρ1, S2, b, S3, ok2, f2, fun H3 ok3 e3 => ?_⟩
    have back : ∀ {T2 : List Tmp} {S' : Src} {H' : Hp} {fp' ρ' σ'}, StOk K G c T2 fp' ρ' S' σ' H' → Ext c.R H H' → StOk K G c (T' ++ T) fp ρ S' σ H' := fun o ee => ok.step ee (ok.src.other o.src rfl)
    have eH3 : Ext c.R H H3 := (ex.mono fun _ z => nomatch z).trans e3
    cases b with
    | true =>
      rw [if_pos rfl] at hf
      refine iteT ?_
      obtain ⟨zs, S4, f3, hf⟩ := M.bind_some hf
      obtain ⟨us, S5, f4, hf⟩ := M.bind_some hf
      obtain ⟨rs, S6, f5, hf⟩ := M.bind_some hf
      obtain ⟨rfl, rfl⟩ := M.pure_some hf
      refine ⟨c, T' ++ T, fp2, ρ1, S3, zs, S4, ok3, f3, fun J1 H4 T1 ok4 e4 hJ1 t1 t2 t3 => ?_⟩
      have eH4 : Ext c.R H H4 := eH3.trans e4
      have hl4 : H4 x = some (.lst acc1) := eH4.keep x _ hl hR
      have l4 : DenL K H4 acc1 da1 F1 := l.ext eH4 fun a ha z => av a ha (hP a z)
      have okp : StOk K G c (T1 ++ (T' ++ T)) fp2 (kill vs1 ρ1) S4 (L2.wipe σ2 vs1) H4 := (ok4.pushT t1 t2 t3).wipe hsc
      have mueq : ∀ {m F}, ResOk G fp2 (kill vs1 ρ1) Hb m F → ResOk G fp ρ Hb m F := fun {m F} r => ResOk.kept k2 (by
        cases m with
        | bor => trivial
        | own => exact r
        | val => exact fun i d hi hd a ha => r i d hi (by rw [kill_out fun z => hmu i z hi]; exact hd) a ha)
      have mueq' : ∀ {m F}, ResOk G fp ρ Hb m F → ResOk G fp2 (kill vs1 ρ1) Hb m F := fun {m F} r => by
        cases m with
        | bor => trivial
        | own => exact r
        | val =>
          intro i d hi hd a ha
          obtain ⟨e1, e2⟩ := k2.mu i hi
          rw [e1]
          have hd' := (kill_some hd).1
          rw [e2] at hd'
          exact r i d hi hd' a ha
      refine lc_loop (c := c) (Hb := Hb) hvs1 wipe_self okp hD hR h0 hP (hb.trans eH4) hbx hJ1 (fun t ht => ⟨t2 t ht, fun i d hi hd a ha => t3 t ht i d hi (kill_some hd).1 a ha⟩) hl4 l4 av (mueq' r) f4 ?_ fun H' acc' F' ok' e' es' hl' dn' av' r' => ?_
      · have e1 := congrArg List.length hy
        simp only [List.length_append] at e1
        omega
      · -- from the inner loop back
        refine ⟨S5, acc', da1 ++ us, F', rs, ?_, e', hl', dn', av', mueq r', f5, by rw [List.append_assoc]; exact hy⟩
        refine ⟨fun j e h => ?_, fun t ht => ok'.tmp t (List.mem_append_right _ ht), ok.av, ok.tav, ok.sep, ok.tsep, ok.nd, ok.new, ok'.ext, ok'.hP, ok'.pd, ok.src.other ok'.src rfl, ok.len⟩
        obtain ⟨v', q1, q2⟩ := (back ok4 eH4).den j e h
        refine ⟨v', q1, q2.ext es' fun a ha z => ok.av j e h a ha ?_⟩
        rcases List.mem_cons.mp z with rfl | z
        · exact hD
        · exact hP a z
    | false =>
      rw [if_neg Bool.false_ne_true] at hf
      refine iteF ?_
      exact ⟨S3, acc1, da1, F1, ys1, back ok3 eH3, hb.trans eH3, eH3.keep x _ hl hR, l.ext eH3 fun a ha z => av a ha (hP a z), av, r, hf, hy⟩
  · have e1 : i = ds.length := by omega
    subst e1
    rw [List.drop_length] at hf
    obtain ⟨rfl, rfl⟩ := M.pure_some hf
    rw [List.append_nil] at hy
    subst hy
    exact .inl ⟨js, fin H acc1 F1 ok hb hl l av r⟩

theorem lc_sem2 {K : PySem.W.Frag} {G : Sg} {m : Md} {w w1 : LF} {g g1 : GF} {t t1 : TF} {e : EF} {vs vs1 gv gv1 : List Nat} (hvs : ∀ i ∈ gv, i ∈ vs) (hvs1 : ∀ i ∈ gv1, i ∈ vs1) (hv : ∀ i ∈ vs1, i ∈ vs) (hsc : ∀ i ∈ vs, G.sc ≠ some i) (hmu : ∀ i ∈ vs, i ∉ G.mu) {σ : St} {H : Hp} {Q : VK} (h : tD K G m (eComp2 vs vs1 w g t w1 g1 t1 e) σ H Q) :
    tLc2 (tDI K G w) (tDG K G gv g) (tDT K G t) (tDI K G w1) (tDG K G gv1 g1) (tDT K G t1) (tD K G m e) vs vs1 σ H Q := by
  obtain ⟨c, T, fp, ρ, S, d, S', ok, hf, q⟩ := h
  obtain ⟨ds, S1, f1, hf⟩ := M.bind_some hf
  obtain ⟨ys, S2, f2, hf⟩ := M.bind_some hf
  obtain ⟨hz, hf⟩ := M.chk_bind hf
  obtain ⟨rfl, rfl⟩ := M.pure_some hf
  refine ⟨c, T, fp, ρ, S, ds, S1, ok, f1, fun J H1 T' ok1 e1 hJ t1 t2 t3 x hx => ?_⟩
  have okp : StOk K G c (T' ++ T) fp (kill vs ρ) S1 (L2.wipe σ vs) H1 := (ok1.pushT t1 t2 t3).wipe hsc
  have okl := okp.lay hx
  have hR : x ∉ c.R := fun z => ok1.pd x (ok1.hP x z) hx
  have mueq : ∀ {m F}, ResOk G fp (kill vs ρ) H1 m F → ResOk G fp ρ H1 m F := fun {m F} r => by
    cases m with
    | bor => trivial
    | own => exact r
    | val => exact fun i d hi hd a ha => r i d hi (by rw [kill_out fun z => hmu i z hi]; exact hd) a ha
  refine lc_loop2 (c := c.and x) (Hb := H1) hvs hvs1 (fun i hi => hsc i (hv i hi)) (fun i hi => hmu i (hv i hi)) wipe_self okl (.inr rfl) hR (e1.back0 ok1 hx |> fun z => ok.ext.nn z hR) (fun a ha => .inl (ok1.hP a ha)) (Ext.new hx) hx hJ (fun t ht => ⟨fun a ha z => ?_, fun i d hi hd a ha => t3 t ht i d hi (kill_some hd).1 a ha⟩) upd_same f2 (fit_le hz) fun H' acc F' ok' e' hl dn av r => ?_
  · rcases z with z | rfl
    · exact t2 t ht a ha z
    · exact (t1 t ht).dom _ ha hx
  · have eH : Ext c.R H H' := e1.trans e'
    refine q (.ref x) H' (x :: F') (ok.step eH (ok.src.other ok'.src rfl)) eH (.lst hl dn) (fun a ha z => ?_) ?_
    · rcases List.mem_cons.mp ha with rfl | ha
      · exact ok1.pd _ z hx
      · exact av a ha (.inl z)
    · have r1 : ResOk G fp ρ H1 m F' := mueq r
      have r2 : ResOk G fp ρ H m F' := r1.back e1 ok.hP fun a ha z => av a ha (.inl z)
      cases m with
      | bor => trivial
      | val =>
        intro i d hi hd z hz w
        rcases List.mem_cons.mp hz with rfl | hz
        · obtain ⟨v', _, dn'⟩ := ok1.den i d hd
          exact dn'.dom _ w hx
        · exact r2 i d hi hd z hz w
      | own =>
        refine ⟨List.nodup_cons.mpr ⟨fun z => av x z (.inr rfl), r2.1⟩, fun z hz => ?_⟩
        rcases List.mem_cons.mp hz with rfl | hz
        · exact e1.back0 ok1 hx
        · exact r2.2 z hz
section
variable {X : Cx} {G : Sg} {m : Md} {elt tg iter tg1 iter1 : Expr} {ifs ifs1 : List Expr} {scope : Scope} {own : List (Str × Nat)} {gv gv1 vs1 : List Nat} {pos : Pos} {w w1 : LF} {g g1 : GF} {t t1 : TF} {e : EF}
theorem ev_lc2 (hc : X.calm = true) (hN : X.N.Nodup) (hi : IV X G tg iter w) (ok : BlkOk X.N X.env.scope scope own) (hv : ∀ i ∈ vs1, i ∈ own.map (·.2)) (hvs : ∀ i ∈ gv, i ∈ own.map (·.2)) (hvs1 : ∀ i ∈ gv1, i ∈ vs1) (hsc : ∀ i ∈ own.map (·.2), G.sc ≠ some i) (hmu : ∀ i ∈ own.map (·.2), i ∉ G.mu)
    (hg : ∀ (s : Shared) (H : Hp) (C : Addr) (cl : List (Str × Addr)) (fp : List Addr), GV (X.blk s H scope (compEnvC scope cl C X.env) fp) G gv tg g) (ht : ∀ (s : Shared) (H : Hp) (C : Addr) (cl : List (Str × Addr)) (fp : List Addr), PTs (X.blk s H scope (compEnvC scope cl C X.env) fp) ifs (tDT X.K G t))
    (hi1 : ∀ (s : Shared) (H : Hp) (C : Addr) (cl : List (Str × Addr)) (fp : List Addr), IV (X.blk s H scope (compEnvC scope cl C X.env) fp) G tg1 iter1 w1)
    (hg1 : ∀ (s : Shared) (H : Hp) (C : Addr) (cl : List (Str × Addr)) (fp : List Addr), GV (X.blk s H scope (compEnvC scope cl C X.env) fp) G gv1 tg1 g1) (ht1 : ∀ (s : Shared) (H : Hp) (C : Addr) (cl : List (Str × Addr)) (fp : List Addr), PTs (X.blk s H scope (compEnvC scope cl C X.env) fp) ifs1 (tDT X.K G t1))
    (he : ∀ (s : Shared) (H : Hp) (C : Addr) (cl : List (Str × Addr)) (fp : List Addr), EV (X.blk s H scope (compEnvC scope cl C X.env) fp) G m elt e) (hs : ∀ x, foldedSetIterable iter X.env x = pure x := by intro _; rfl) (hs1 : ∀ env x, foldedSetIterable iter1 env x = pure x := by intro _ _; rfl) :
    EV X G m (.ListComp elt [⟨tg, iter, ifs, 0⟩, ⟨tg1, iter1, ifs1, 0⟩] scope pos) (eComp2 (own.map (·.2)) vs1 w g t w1 g1 t1 e) :=
  PE.mono (pe_lc2 hc hN hi ok hv hg ht hi1 hg1 ht1 he hs hs1) fun σ H Q h => lc_sem2 hvs hvs1 hv hsc hmu h
end
end DL

/-! DS10: statements. -/
namespace DL
open PySem PySem.Spec PyProof.Rows L2

def SrcH (c : Cc) (S : Src) (H : Hp) : Prop := match c.src with
  | some (p, q) => SrcAt H p q S
  | none => True
theorem SrcOk.h {G : Sg} {c : Cc} {S : Src} {σ : St} {H : Hp} (h : SrcOk G.sc c S σ H) : SrcH c S H := by
  unfold SrcOk at h
  unfold SrcH
  split at h
  · rename_i e1 e2
    rw [e2]
    trivial
  · rename_i e1 e2
    rw [e2]
    exact h.2
  · exact h.elim
/-- what a return leaves -/
def RtOk (K : PySem.W.Frag) (ow : Bool) (c : Cc) (S : Src) (d : D) (D : Ends) : Prop := ∀ v H' F, Ext c.R c.H0 H' → SrcH c S H' → Den K H' v d F → (∀ a ∈ F, ¬ c.P a) → (ow = true → F.Nodup ∧ ∀ a ∈ F, c.H0 a = none) → D.rt v H'
def Fin (K : PySem.W.Frag) (ow : Bool) (Gn Gl : Sg) (c : Cc) (T : List Tmp) (S : Src) (D : Ends) : Out → Prop
  | .nx ρ => ∀ σ H fp, StOk K Gn c T fp ρ S σ H → D.nx σ H
  | .rt d => RtOk K ow c S d D
  | .bk ρ => ∀ σ H fp, StOk K Gl c T fp ρ S σ H → D.bk σ H
  | .ct ρ => ∀ σ H fp, StOk K Gl c T fp ρ S σ H → D.ct σ H
def tDS (K : PySem.W.Frag) (ow : Bool) (G Gn Gl : Sg) (f : SF) : TS := fun D σ H => ∃ c T fp ρ S o S', StOk K G c T fp ρ S σ H ∧ f ρ S = some (o, S') ∧ Fin K ow Gn Gl c T S' D o
abbrev SV (X : Cx) (ow : Bool) (G Gn Gl : Sg) (st : Stmt) (f : SF) : Prop := PS X st (tDS X.K ow G Gn Gl f)
abbrev SVs (X : Cx) (ow : Bool) (G Gn Gl : Sg) (st : List Stmt) (f : SF) : Prop := PSs X st (tDS X.K ow G Gn Gl f)
theorem PS.mono {X : Cx} {e : Stmt} {t t' : TS} (h : PS X e t) (m : ∀ D σ H, t' D σ H → t D σ H) : PS X e t' := ⟨fun pins s σ H D I q => h.run pins s σ H D I (m D σ H q)⟩
theorem PSs.mono {X : Cx} {e : List Stmt} {t t' : TS} (h : PSs X e t) (m : ∀ D σ H, t' D σ H → t D σ H) : PSs X e t' := ⟨fun pins s σ H D I q => h.run pins s σ H D I (m D σ H q)⟩

section
variable {X : Cx} {ow : Bool} {G G1 Gn Gl : Sg} {st : Stmt} {sts : List Stmt} {f f1 f2 : SF} {pos : Pos} {e : Expr} {fe : EF} {m : Md}
theorem svs_nil : SVs X ow G G Gl [] sNext := by
  refine PSs.mono pss_nil fun D σ H h => ?_
  obtain ⟨c, T, fp, ρ, S, o, S', ok, hf, q⟩ := h
  obtain ⟨rfl, rfl⟩ := M.pure_some hf
  exact q σ H fp ok
theorem sv_pass : SV X ow G G Gl (.Pass pos) sNext := by
  refine PS.mono ps_pass fun D σ H h => ?_
  obtain ⟨c, T, fp, ρ, S, o, S', ok, hf, q⟩ := h
  obtain ⟨rfl, rfl⟩ := M.pure_some hf
  exact q σ H fp ok
theorem svs_one (h : SV X ow G Gn Gl st f) : SVs X ow G Gn Gl [st] f := pss_one h
theorem svs_cons (h1 : SV X ow G G1 Gl st f1) (h2 : SVs X ow G1 Gn Gl sts f2) : SVs X ow G Gn Gl (st :: sts) (sSeq f1 f2) := by
  refine PSs.mono (pss_cons h1 h2) fun D σ H h => ?_
  obtain ⟨c, T, fp, ρ, S, o, S', ok, hf, q⟩ := h
  obtain ⟨o1, S1, e1, hf⟩ := M.bind_some hf
  refine ⟨c, T, fp, ρ, S, o1, S1, ok, e1, ?_⟩
  cases o1 with
  | nx ρ1 => exact fun σ1 H1 fp1 ok1 => ⟨c, T, fp1, ρ1, S1, o, S', ok1, hf, q⟩
  | rt d =>
    obtain ⟨rfl, rfl⟩ := M.pure_some hf
    exact q
  | bk ρ1 =>
    obtain ⟨rfl, rfl⟩ := M.pure_some hf
    exact q
  | ct ρ1 =>
    obtain ⟨rfl, rfl⟩ := M.pure_some hf
    exact q
theorem sv_break (hm : ∀ i ∈ Gl.mu, i ∈ G.mu) (hs : Gl.sc = G.sc) : SV X ow G Gn Gl (.Break pos) sBreak := by
  refine PS.mono ps_break fun D σ H h => ?_
  obtain ⟨c, T, fp, ρ, S, o, S', ok, hf, q⟩ := h
  obtain ⟨rfl, rfl⟩ := M.pure_some hf
  exact q σ H fp (ok.mono hm hs)
theorem sv_cont (hm : ∀ i ∈ Gl.mu, i ∈ G.mu) (hs : Gl.sc = G.sc) : SV X ow G Gn Gl (.Continue pos) sCont := by
  refine PS.mono ps_continue fun D σ H h => ?_
  obtain ⟨c, T, fp, ρ, S, o, S', ok, hf, q⟩ := h
  obtain ⟨rfl, rfl⟩ := M.pure_some hf
  exact q σ H fp (ok.mono hm hs)
/-- from here on fewer names change -/
theorem svs_less {mu mu' : List Nat} {sc : Option Nat} (h : SVs X ow ⟨mu', sc⟩ Gn Gl sts f) (hm : ∀ i ∈ mu', i ∈ mu := by decide) : SVs X ow ⟨mu, sc⟩ Gn Gl sts f := by
  refine PSs.mono h fun D σ H h => ?_
  obtain ⟨c, T, fp, ρ, S, o, S', ok, hf, q⟩ := h
  exact ⟨c, T, fp, ρ, S, o, S', ok.mono hm rfl, hf, q⟩
theorem StOk.killG {K : PySem.W.Frag} {G G' : Sg} {c : Cc} {T : List Tmp} {fp : Nat → List Addr} {ρ : Env} {S : Src} {σ : St} {H : Hp} {ks : List Nat} (ok : StOk K G c T fp ρ S σ H) (hm : ∀ i ∈ G'.mu, i ∈ G.mu ∨ i ∈ ks) (hs : G'.sc = G.sc) : StOk K G' c T fp (DL.kill ks ρ) S σ H := by
  have k := ok.kill (ks := ks)
  have ii : ∀ {i d}, i ∈ G'.mu → (DL.kill ks ρ)[i]? = some (some d) → i ∈ G.mu := fun {i d} hi hd => (hm i hi).elim id fun z => absurd z (kill_some hd).2
  exact ⟨k.den, k.tmp, k.av, k.tav, fun i j d e hi hij h1 h2 => k.sep i j d e (ii hi h1) hij h1 h2, fun i d hi h1 => k.tsep i d (ii hi h1) h1, fun i d hi h1 => k.nd i d (ii hi h1) h1, fun i d hi h1 => k.new i d (ii hi h1) h1, k.ext, k.hP, k.pd, by rw [hs]; exact k.src, k.len⟩
theorem svs_kill {Gn' Gl' : Sg} {ks : List Nat} (h : SVs X ow G Gn Gl sts f) (h1 : ∀ i ∈ Gn'.mu, i ∈ Gn.mu ∨ i ∈ ks := by decide) (h2 : ∀ i ∈ Gl'.mu, i ∈ Gl.mu ∨ i ∈ ks := by decide) (h3 : Gn'.sc = Gn.sc := by rfl) (h4 : Gl'.sc = Gl.sc := by rfl) : SVs X ow G Gn' Gl' sts (sKill ks f) := by
  refine PSs.mono h fun D σ H h => ?_
  obtain ⟨c, T, fp, ρ, S, o, S', ok, hf, q⟩ := h
  obtain ⟨o1, S1, e1, hf⟩ := M.bind_some hf
  obtain ⟨rfl, rfl⟩ := M.pure_some hf
  refine ⟨c, T, fp, ρ, S, o1, S1, ok, e1, ?_⟩
  cases o1 with
  | nx ρ1 => exact fun σ1 H1 fp1 ok1 => q σ1 H1 fp1 (ok1.killG h1 h3)
  | rt d => exact q
  | bk ρ1 => exact fun σ1 H1 fp1 ok1 => q σ1 H1 fp1 (ok1.killG h2 h4)
  | ct ρ1 => exact fun σ1 H1 fp1 ok1 => q σ1 H1 fp1 (ok1.killG h2 h4)
theorem sv_expr (he : EV X G m e fe) (hs : swapsWith e none pos.line X.env = pure false := by rfl) : SV X ow G G Gl (.Expr e pos) (sExpr fe) := by
  refine PS.mono (ps_expr he hs) fun D σ H h => ?_
  obtain ⟨c, T, fp, ρ, S, o, S', ok, hf, q⟩ := h
  obtain ⟨d, S1, e1, hf⟩ := M.bind_some hf
  obtain ⟨rfl, rfl⟩ := M.pure_some hf
  exact ⟨c, T, fp, ρ, S, d, S1, ok, e1, fun v H' F ok' e dn av r => q σ H' fp ok'⟩
theorem own_new {K : PySem.W.Frag} {c : Cc} {T : List Tmp} {fp : Nat → List Addr} {ρ : Env} {S : Src} {σ : St} {H : Hp} {F : List Addr} (ok : StOk K G c T fp ρ S σ H) (av : ∀ a ∈ F, ¬ c.P a) (h : ∀ a ∈ F, H a = none) : ∀ a ∈ F, c.H0 a = none := fun a ha => ok.ext.nn (h a ha) (ok.notR (av a ha))
theorem sv_ret (he : EV X G m e fe) (hm : ow = true → m = .own) : SV X ow G Gn Gl (.Return (some e) pos) (sRet fe) := by
  refine PS.mono (ps_ret he) fun D σ H h => ?_
  obtain ⟨c, T, fp, ρ, S, o, S', ok, hf, q⟩ := h
  obtain ⟨d, S1, e1, hf⟩ := M.bind_some hf
  obtain ⟨rfl, rfl⟩ := M.pure_some hf
  refine ⟨c, T, fp, ρ, S, d, S1, ok, e1, fun v H' F ok' e dn av r => q v H' F ok'.ext ok'.src.h dn av fun ho => ?_⟩
  obtain rfl := hm ho
  exact ⟨r.1, own_new ok av r.2⟩
/-- a changing list is given back -/
theorem sv_retM {i : Nat} {x : Str} {p : Pos} (hN : X.N[i]? = some x) (hv : Vis X.env.scope x) (hi : i ∈ G.mu) (hd : (x == ("__debug__" : Str)) = false := by decide) (hcd : (x == ("__classdict__" : Str)) = false := by decide) : SV X ow G Gn Gl (.Return (some (.Name x p)) pos) (sRet (eVar i)) := by
  refine PS.mono (ps_ret (pe_var hN hv hd hcd)) fun D σ H h => ?_
  obtain ⟨c, T, fp, ρ, S, o, S', ok, hf, q⟩ := h
  obtain ⟨d, S1, e1, hf⟩ := M.bind_some hf
  obtain ⟨rfl, rfl⟩ := M.pure_some hf
  obtain ⟨e, rfl⟩ := eVar_some e1
  obtain ⟨v, q1, q2⟩ := ok.den i d e
  exact ⟨v, q1, q v H (fp i) ok.ext ok.src.h q2 (ok.av i d e) fun _ => ⟨ok.nd i d hi e, ok.new i d hi e⟩⟩
theorem sv_retN : SV X ow G Gn Gl (.Return none pos) (sRet (eC .none)) := by
  refine PS.mono ps_retN fun D σ H h => ?_
  obtain ⟨c, T, fp, ρ, S, o, S', ok, hf, q⟩ := h
  obtain ⟨d, S1, e1, hf⟩ := M.bind_some hf
  obtain ⟨rfl, rfl⟩ := M.pure_some hf
  obtain ⟨rfl, rfl⟩ := M.pure_some e1
  exact q .non H [] ok.ext ok.src.h .non av0 fun _ => ⟨List.nodup_nil, fun _ z => nomatch z⟩
theorem sv_if {t : TF} {a b : List Stmt} {fa fb : SF} (ht : TV X G e t) (ha : SVs X ow G Gn Gl a fa) (hb : SVs X ow G Gn Gl b fb) : SV X ow G Gn Gl (.If e a b pos) (sIf t fa fb) := by
  refine PS.mono (ps_if ht ha hb) fun D σ H h => ?_
  obtain ⟨c, T, fp, ρ, S, o, S', ok, hf, q⟩ := h
  obtain ⟨x, S1, h1, hf⟩ := M.bind_some hf
  refine ⟨c, T, fp, ρ, S, x, S1, ok, h1, fun H1 ok1 e1 => ?_⟩
  cases x with
  | true =>
    rw [if_pos rfl] at hf
    exact iteT ⟨c, T, fp, ρ, S1, o, S', ok1, hf, q⟩
  | false =>
    rw [if_neg Bool.false_ne_true] at hf
    exact iteF ⟨c, T, fp, ρ, S1, o, S', ok1, hf, q⟩

/-! ### stores of names -/
theorem asg_sem {K : PySem.W.Frag} {g : GF} {vs : List Nat} {D : Ends} {σ : St} {H : Hp} (h : tDS K ow G G Gl (sAsg fe g) D σ H) : tAsg (tD K G .val fe) (tDG K G vs g) D σ H := by
  obtain ⟨c, T, fp, ρ, S, o, S', ok, hf, q⟩ := h
  obtain ⟨d, S1, h1, hf⟩ := M.bind_some hf
  obtain ⟨ρ1, S2, h2, hf⟩ := M.bind_some hf
  obtain ⟨rfl, rfl⟩ := M.pure_some hf
  refine ⟨c, T, fp, ρ, S, d, S1, ok, h1, fun v H1 F ok1 e1 dn av r => ?_⟩
  exact ⟨c, T, fp, ρ, S1, d, ρ1, S2, F, ok1, dn, av, r, h2, fun σ' fp' ok' _ => q σ' H1 fp' ok'⟩
theorem sv_asg {tg : Expr} {g : GF} {vs : List Nat} (he : EV X G .val e fe) (hg : GV X G vs tg g) (hs : swapsWithSole [tg] e pos.line X.env = pure false := by rfl) (hw : swappedStores [tg] e X.env = pure none := by rfl)
    (h1 : (assignEach [tg] X.env).map (·.2) = [assign tg X.env] := by rfl) : SV X ow G G Gl (.Assign [tg] e pos) (sAsg fe g) := PS.mono (ps_asg he hg hs hw h1) fun D σ H h => asg_sem h
/-- a local name, a value in general -/
theorem set_sem {K : PySem.W.Frag} {i : Nat} (hmu : i ∉ G.mu) (hsc : G.sc ≠ some i) {D : Ends} {σ : St} {H : Hp} (h : tDS K ow G G Gl (sAsg fe (gName i)) D σ H) : tAsg (tD K G .val fe) (L2.gName i) D σ H := by
  obtain ⟨c, T, fp, ρ, S, o, S', ok, hf, q⟩ := h
  obtain ⟨d, S1, h1, hf⟩ := M.bind_some hf
  obtain ⟨ρ1, S2, h2, hf⟩ := M.bind_some hf
  obtain ⟨rfl, rfl⟩ := M.pure_some hf
  obtain ⟨rfl, rfl⟩ := M.pure_some h2
  exact ⟨c, T, fp, ρ, S, d, S1, ok, h1, fun v H1 F ok1 e1 dn av r => q _ H1 _ (ok1.put hmu hsc dn av r)⟩
theorem setM_sem {K : PySem.W.Frag} {i : Nat} (hsc : G.sc ≠ some i) {D : Ends} {σ : St} {H : Hp} (h : tDS K ow G G Gl (sAsg fe (gName i)) D σ H) : tAsg (tD K G .own fe) (L2.gName i) D σ H := by
  obtain ⟨c, T, fp, ρ, S, o, S', ok, hf, q⟩ := h
  obtain ⟨d, S1, h1, hf⟩ := M.bind_some hf
  obtain ⟨ρ1, S2, h2, hf⟩ := M.bind_some hf
  obtain ⟨rfl, rfl⟩ := M.pure_some hf
  obtain ⟨rfl, rfl⟩ := M.pure_some h2
  refine ⟨c, T, fp, ρ, S, d, S1, ok, h1, fun v H1 F ok1 e1 dn av r => q _ H1 _ (ok1.putM hsc dn av r.1 (own_new ok av r.2) (fun j e hj he a ha z => ?_) fun t ht a ha z => ?_)⟩
  · obtain ⟨v', _, q2⟩ := ok.den j e he
    exact q2.dom a z (r.2 a ha)
  · exact (ok.tmp t ht).dom a z (r.2 a ha)
theorem sv_set {i : Nat} {x : Str} {p : Pos} (hN : X.N.Nodup) (hi : X.N[i]? = some x) (hx : Loc X.env.scope x) (hf : X.fn x = true ∨ X.env.scope.names.lookup x = some .local) (hmu : i ∉ G.mu) (hsc : G.sc ≠ some i) (he : EV X G .val e fe) (hs : swapsWith e (some (.Name x p)) pos.line X.env = pure false := by rfl) :
    SV X ow G G Gl (.Assign [.Name x p] e pos) (sAsg fe (gName i)) := PS.mono (ps_set hN hi hx he hs hf) fun D σ H h => set_sem hmu hsc h
theorem sv_setM {i : Nat} {x : Str} {p : Pos} (hN : X.N.Nodup) (hi : X.N[i]? = some x) (hx : Loc X.env.scope x) (hf : X.fn x = true ∨ X.env.scope.names.lookup x = some .local) (hsc : G.sc ≠ some i) (he : EV X G .own e fe) (hs : swapsWith e (some (.Name x p)) pos.line X.env = pure false := by rfl) :
    SV X ow G G Gl (.Assign [.Name x p] e pos) (sAsg fe (gName i)) := PS.mono (ps_set hN hi hx he hs hf) fun D σ H h => setM_sem hsc h

/-! ### several at once -/
theorem StOk.putAllV {K : PySem.W.Frag} {c : Cc} {T : List Tmp} {S : Src} {H : Hp} : ∀ {is : List Nat} {vs : List V} {ds : List D} {F : List Addr} {fp : Nat → List Addr} {ρ : Env} {σ : St}, StOk K G c T fp ρ S σ H → DenL K H vs ds F → (∀ i ∈ is, i ∉ G.mu ∧ G.sc ≠ some i) → (∀ a ∈ F, ¬ c.P a) → ResOk G fp ρ H .val F →
    ∃ fp', StOk K G c T fp' (setAll is ds ρ) S (setAll is vs σ) H
  | [], _, _, _, fp, _, _, ok, _, _, _, _ => ⟨fp, by simpa [setAll] using ok⟩
  | i :: is, _, _, _, fp, _, _, ok, .nil, _, _, _ => ⟨fp, by simpa [setAll] using ok⟩
  | i :: is, _, _, _, fp, ρ, _, ok, .cons (d := d) (F := F) h l, hi, av, r => by
    obtain ⟨h1, h2⟩ := hi i List.mem_cons_self
    have ok1 := ok.put h1 h2 h (fun a ha => av a (List.mem_append_left _ ha)) (fun j e hj he a ha => r j e hj he a (List.mem_append_left _ ha))
    obtain ⟨fp', ok2⟩ := StOk.putAllV (is := is) ok1 l (fun j hj => hi j (List.mem_cons_of_mem _ hj)) (fun a ha => av a (List.mem_append_right _ ha)) (fun j e hj he a ha z => by
      have nj : j ≠ i := fun z => h1 (z ▸ hj)
      rw [put_ne nj] at z
      rw [List.getElem?_set_ne (Ne.symm nj)] at he
      exact r j e hj he a (List.mem_append_right _ ha) z)
    exact ⟨fp', by simpa [setAll] using ok2⟩
theorem StOk.putAllO {K : PySem.W.Frag} {c : Cc} {T : List Tmp} {S : Src} {H : Hp} : ∀ {is : List Nat} {vs : List V} {ds : List D} {F : List Addr} {fp : Nat → List Addr} {ρ : Env} {σ : St}, StOk K G c T fp ρ S σ H → DenL K H vs ds F → (∀ i ∈ is, G.sc ≠ some i) → (∀ a ∈ F, ¬ c.P a) → F.Nodup → (∀ a ∈ F, c.H0 a = none) → (∀ j e, ρ[j]? = some (some e) → ∀ a ∈ F, a ∉ fp j) → (∀ t ∈ T, ∀ a ∈ F, a ∉ t.F) →
    ∃ fp', StOk K G c T fp' (setAll is ds ρ) S (setAll is vs σ) H
  | [], _, _, _, fp, _, _, ok, _, _, _, _, _, _, _ => ⟨fp, by simpa [setAll] using ok⟩
  | i :: is, _, _, _, fp, _, _, ok, .nil, _, _, _, _, _, _ => ⟨fp, by simpa [setAll] using ok⟩
  | i :: is, _, _, _, fp, ρ, _, ok, .cons (d := d) (F := F) (G := F2) h l, hi, av, nd, h0, hs, ht => by
    have h2 := hi i List.mem_cons_self
    obtain ⟨n1, n2, n3⟩ := List.nodup_append.mp nd
    have ok1 := ok.putM h2 h (fun a ha => av a (List.mem_append_left _ ha)) n1 (fun a ha => h0 a (List.mem_append_left _ ha)) (fun j e _ he a ha => hs j e he a (List.mem_append_left _ ha)) (fun t htt a ha => ht t htt a (List.mem_append_left _ ha))
    obtain ⟨fp', ok2⟩ := StOk.putAllO (is := is) ok1 l (fun j hj => hi j (List.mem_cons_of_mem _ hj)) (fun a ha => av a (List.mem_append_right _ ha)) n2 (fun a ha => h0 a (List.mem_append_right _ ha)) (fun j e he a ha z => by
      rcases set_some he with ⟨rfl, rfl⟩ | ⟨nj, g1⟩
      · rw [put_same] at z
        exact n3 a z a ha rfl
      · rw [put_ne nj] at z
        exact hs j e g1 a (List.mem_append_right _ ha) z) (fun t htt a ha => ht t htt a (List.mem_append_right _ ha))
    exact ⟨fp', by simpa [setAll] using ok2⟩
/-- values together, the names they go to -/
theorem par_core {K : PySem.W.Frag} {is : List Nat} {f : LF} {D : Ends} {σ : St} {H : Hp} (hm : (m = .val ∧ ∀ i ∈ is, i ∉ G.mu) ∨ m = .own) (hsc : ∀ i ∈ is, G.sc ≠ some i) (hz : is.length ≤ sizeLine) (h : tDS K ow G G Gl (sPar is f) D σ H) :
    tDA K G m f σ H fun vs H1 => vs.length = is.length ∧ vs.length ≤ sizeLine ∧ D.nx (setAll is vs σ) H1 ∧ ∀ p, H1 p = none → D.nx (setAll is vs σ) (upd H1 p (.tup vs)) := by
  obtain ⟨c, T, fp, ρ, S, o, S', ok, hf, q⟩ := h
  obtain ⟨ds, S1, h1, hf⟩ := M.bind_some hf
  obtain ⟨h2, hf⟩ := M.chk_bind hf
  obtain ⟨rfl, rfl⟩ := M.pure_some hf
  refine ⟨c, T, fp, ρ, S, ds, S1, ok, h1, fun vs H1 F ok1 e1 dn av r => ?_⟩
  have hl : vs.length = is.length := dn.length.trans (by simpa using h2)
  have fin : ∀ H2, Ext [] H1 H2 → D.nx (setAll is vs σ) H2 := fun H2 e2 => by
    have ok2 := ok1.grow e2
    have dn2 := dn.grow e2
    rcases hm with ⟨rfl, hm⟩ | rfl
    · obtain ⟨fp', ok3⟩ := ok2.putAllV (is := is) dn2 (fun i hi => ⟨hm i hi, hsc i hi⟩) av r
      exact q _ H2 fp' ok3
    · obtain ⟨fp', ok3⟩ := ok2.putAllO (is := is) dn2 hsc av r.1 (own_new ok av r.2) (fun j e he a ha z => by
        obtain ⟨v', _, q2⟩ := ok.den j e he
        exact q2.dom a z (r.2 a ha)) (fun t ht a ha z => (ok.tmp t ht).dom a z (r.2 a ha))
      exact q _ H2 fp' ok3
  exact ⟨hl, by rw [hl]; exact hz, fin H1 Ext.refl, fun p hp => fin _ (Ext.new hp)⟩
theorem tDA.mono {K : PySem.W.Frag} {f : LF} {σ : St} {H : Hp} {Q Q' : List V → Hp → Prop} (h : tDA K G m f σ H Q) (w : ∀ v H, Q v H → Q' v H) : tDA K G m f σ H Q' := by
  obtain ⟨c, T, fp, ρ, S, d, S', ok, hf, q⟩ := h
  exact ⟨c, T, fp, ρ, S, d, S', ok, hf, fun v H' F a b c d e => w _ _ (q v H' F a b c d e)⟩
theorem sv_par2 {i j : Nat} {x y : Str} {a b : Expr} {f : LF} {px py pt : Pos} {kt k2 pt2} (hc : X.calm = true) (hN : X.N.Nodup) (hi : X.N[i]? = some x) (hj : X.N[j]? = some y) (hij : i ≠ j)
    (hx : X.env.scope.names.lookup x = some .local) (hy : X.env.scope.names.lookup y = some .local) (hm : (m = .val ∧ ∀ n ∈ [i, j], n ∉ G.mu) ∨ m = .own) (hsc : ∀ n ∈ [i, j], G.sc ≠ some n) (ha : AV X G m [a, b] f)
    (hw : swappedStores [.Tuple [.Name x px, .Name y py] kt pt] (.Tuple [a, b] k2 pt2) X.env = pure (some [x, y]))
    (hs : swapsWithSole [.Tuple [.Name x px, .Name y py] kt pt] (.Tuple [a, b] k2 pt2) pos.line X.env = pure false := by rfl) :
    SV X ow G G Gl (.Assign [.Tuple [.Name x px, .Name y py] kt pt] (.Tuple [a, b] k2 pt2) pos) (sPar [i, j] f) := by
  refine PS.mono (ps_par hc hN hi hj hij hx hy ha hw hs) fun D σ H h => ?_
  refine (par_core hm hsc (by show 2 ≤ sizeLine; decide) h).mono fun vs H1 ⟨h1, h2, h3, h4⟩ => ?_
  match vs, h1 with
  | [v, w], _ => exact ⟨v, w, rfl, h3⟩
theorem sv_par3 {i j l : Nat} {x y z : Str} {a b c : Expr} {f : LF} {px py pz pt : Pos} {kt k2 pt2} (hc : X.calm = true) (hN : X.N.Nodup) (hi : X.N[i]? = some x) (hj : X.N[j]? = some y) (hl : X.N[l]? = some z) (hij : i ≠ j) (hil : i ≠ l) (hjl : j ≠ l)
    (hx : X.env.scope.names.lookup x = some .local) (hy : X.env.scope.names.lookup y = some .local) (hz : X.env.scope.names.lookup z = some .local) (hm : (m = .val ∧ ∀ n ∈ [i, j, l], n ∉ G.mu) ∨ m = .own) (hsc : ∀ n ∈ [i, j, l], G.sc ≠ some n) (ha : AV X G m [a, b, c] f)
    (hw : swappedStores [.Tuple [.Name x px, .Name y py, .Name z pz] kt pt] (.Tuple [a, b, c] k2 pt2) X.env = pure (some [x, y, z]))
    (hs : swapsWithSole [.Tuple [.Name x px, .Name y py, .Name z pz] kt pt] (.Tuple [a, b, c] k2 pt2) pos.line X.env = pure false := by rfl) :
    SV X ow G G Gl (.Assign [.Tuple [.Name x px, .Name y py, .Name z pz] kt pt] (.Tuple [a, b, c] k2 pt2) pos) (sPar [i, j, l] f) := by
  refine PS.mono (ps_par3 hc hN hi hj hl hij hil hjl hx hy hz ha hw hs) fun D σ H h => ?_
  refine (par_core hm hsc (by show 3 ≤ sizeLine; decide) h).mono fun vs H1 ⟨h1, h2, h3, h4⟩ => ?_
  match vs, h1 with
  | [u, v, w], _ => exact ⟨u, v, w, rfl, h3⟩
/-- four or more: a tuple is made and taken apart -/
def tGN : List Nat → TGs
  | [] => gNil
  | i :: is => gCons (L2.gName i) (tGN is)
theorem tGN_ok : ∀ {is : List Nat} {vs : List V} {σ : St} {H : Hp} {Q : St → Hp → Prop}, vs.length = is.length → Q (setAll is vs σ) H → tGN is vs σ H Q
  | [], [], σ, H, Q, _, q => ⟨rfl, by simpa [setAll] using q⟩
  | i :: is, [], _, _, _, h, _ => by cases h
  | [], v :: vs, _, _, _, h, _ => by cases h
  | i :: is, v :: vs, σ, H, Q, h, q => ⟨v, vs, rfl, tGN_ok (is := is) (by simpa using h) (by simpa [setAll] using q)⟩
theorem sv_parN {is : List Nat} {ts es : List Expr} {f : LF} {pt pt2 : Pos} {kt k2} (hc : X.calm = true) (hg : PGs X ts (tGN is)) (hm : (m = .val ∧ ∀ i ∈ is, i ∉ G.mu) ∨ m = .own) (hsc : ∀ i ∈ is, G.sc ≠ some i) (hz : is.length ≤ sizeLine) (ha : AV X G m es f)
    (hs : swapsWithSole [.Tuple ts kt pt] (.Tuple es k2 pt2) pos.line X.env = pure false := by rfl) (hw : swappedStores [.Tuple ts kt pt] (.Tuple es k2 pt2) X.env = pure none := by rfl)
    (h1 : (assignEach [.Tuple ts kt pt] X.env).map (·.2) = [assign (.Tuple ts kt pt) X.env] := by rfl) (hn : (assignEach ts X.env).length = is.length := by rfl) (hst : (assignEach ts X.env).findIdx? (·.1) = none := by rfl) :
    SV X ow G G Gl (.Assign [.Tuple ts kt pt] (.Tuple es k2 pt2) pos) (sPar is f) := by
  refine PS.mono (ps_asg (pe_tup ha) (pg_tup hc hg hn hst) hs hw h1) fun D σ H h => ?_
  refine (par_core hm hsc hz h).mono fun vs H1 ⟨h1, h2, h3, h4⟩ => ⟨h2, fun p hp => ⟨p, vs, rfl, .inl (.inl upd_same), h1, ?_⟩⟩
  exact tGN_ok h1 (h4 p hp)

/-! ### loops -/
theorem sv_for {w : LF} {g : GF} {b : SF} {vs : List Nat} {tg : Expr} {body : List Stmt} (hp : PassesOwn (model X.prog X.w) X.A X.env X.xe) (hc : X.calm = true) (hi : IV X G tg e w) (hg : GV X G vs tg g) (hb : SVs X ow G G G body b)
    (hs : ∀ x, foldedSetIterable e X.env x = pure x := by intro _; rfl) : SV X ow G G Gl (.For tg e body [] pos) (sFor w g b) := by
  refine PS.mono (ps_for hp hc hi hg hb hs) fun D σ H h => ?_
  obtain ⟨c, T, fp, ρ, S, o, S', ok, hf, q⟩ := h
  obtain ⟨ds, S1, h1, hf⟩ := M.bind_some hf
  refine ⟨c, T, fp, ρ, S, ds, S1, ok, h1, fun J H1 T' ok1 e1 hJ t1 t2 t3 => ?_⟩
  refine ⟨fun i m σ H => m = ds.length - i ∧ i ≤ ds.length ∧ ∃ fp ρ1 S1, StOk X.K G c (T' ++ T) fp ρ1 S1 σ H ∧ forD (turnD g b) (ds.drop i) ρ1 S1 = some (o, S'), ⟨_, rfl, Nat.zero_le _, fp, ρ, S1, ok1.pushT t1 t2 t3, hf⟩, ?_⟩
  rintro i m σ H ⟨rfl, hi, fp, ρ1, S1, ok1, hf⟩
  obtain ⟨jg, js, jy⟩ := hJ H fun t ht => ok1.tmp t (List.mem_append_left _ ht)
  by_cases hlt : i < ds.length
  · refine .inr ⟨jg i hlt, fun σ' H' => ∃ fp ρ1 S1, StOk X.K G c (T' ++ T) fp ρ1 S1 σ' H' ∧ forD (turnD g b) (ds.drop (i + 1)) ρ1 S1 = some (o, S'), fun σ' H' p => ⟨ds.length - (i + 1), by omega, rfl, hlt, p⟩, fun y H' hyl => ?_⟩
    have hd : ds[i]? = some ds[i] := List.getElem?_eq_getElem hlt
    obtain ⟨ex, Fy, dy, hFy⟩ := jy i _ y H' hd hyl
    rw [List.drop_eq_getElem_cons hlt] at hf
    obtain ⟨o1, S2, f1, hf⟩ := M.bind_some hf
    obtain ⟨ρ2, S3, f2, f1⟩ := M.bind_some f1
    have ok2 := ok1.grow ex
    refine ⟨c, T' ++ T, fp, ρ1, S1, _, ρ2, S3, Fy, ok2, dy, fun a ha => ?_, fun j d hj hdj a ha z => ?_, f2, fun σ2 fp2 ok3 _ => ?_⟩
    · obtain ⟨t, ht, ha⟩ := hFy a ha
      exact ok2.tav t (List.mem_append_left _ ht) a ha
    · obtain ⟨t, ht, ha⟩ := hFy a ha
      exact ok2.tsep j d hj hdj t (List.mem_append_left _ ht) a z ha
    · refine ⟨c, T' ++ T, fp2, ρ2, S3, o1, S2, ok3, f1, ?_⟩
      cases o1 with
      | nx ρ3 => exact fun σ4 H4 fp4 ok4 => ⟨fp4, ρ3, S2, ok4, hf⟩
      | ct ρ3 => exact fun σ4 H4 fp4 ok4 => ⟨fp4, ρ3, S2, ok4, hf⟩
      | bk ρ3 =>
        obtain ⟨rfl, rfl⟩ := M.pure_some hf
        exact fun σ4 H4 fp4 ok4 => q σ4 H4 fp4 ok4.popT
      | rt d =>
        obtain ⟨rfl, rfl⟩ := M.pure_some hf
        exact q
  · have e1 : i = ds.length := by omega
    subst e1
    rw [List.drop_length] at hf
    obtain ⟨rfl, rfl⟩ := M.pure_some hf
    exact .inl ⟨js, q σ H fp ok1.popT⟩
theorem sv_while {N : Nat} {t : TF} {b : SF} {body : List Stmt} (hp : PassesOwn (model X.prog X.w) X.A X.env X.xe) (ht : TV X G e t) (hb : SVs X ow G G G body b) : SV X ow G G Gl (.While e body [] pos) (sWhile N t b) := by
  refine PS.mono (ps_while hp ht hb) fun D σ H h => ?_
  obtain ⟨c, T, fp, ρ, S, o, S', ok, hf, q⟩ := h
  refine ⟨fun m σ H => ∃ fp ρ S, StOk X.K G c T fp ρ S σ H ∧ whileD t b m ρ S = some (o, S'), ⟨N, fp, ρ, S, ok, hf⟩, ?_⟩
  rintro m σ H ⟨fp, ρ, S, ok, hf⟩
  cases m with
  | zero => exact (M.fail_some hf).elim
  | succ m =>
    obtain ⟨x, S1, h1, hf⟩ := M.bind_some hf
    refine ⟨c, T, fp, ρ, S, x, S1, ok, h1, fun H1 ok1 e1 => ?_⟩
    cases x with
    | false =>
      rw [if_neg Bool.false_ne_true] at hf
      obtain ⟨rfl, rfl⟩ := M.pure_some hf
      exact iteF (q σ H1 fp ok1)
    | true =>
      rw [if_pos rfl] at hf
      obtain ⟨o1, S2, h2, hf⟩ := M.bind_some hf
      refine iteT ⟨fun σ' H' => ∃ fp ρ S, StOk X.K G c T fp ρ S σ' H' ∧ whileD t b m ρ S = some (o, S'), fun σ' H' p => ⟨m, Nat.lt_succ_self _, p⟩, c, T, fp, ρ, S1, o1, S2, ok1, h2, ?_⟩
      cases o1 with
      | nx ρ3 => exact fun σ4 H4 fp4 ok4 => ⟨fp4, ρ3, S2, ok4, hf⟩
      | ct ρ3 => exact fun σ4 H4 fp4 ok4 => ⟨fp4, ρ3, S2, ok4, hf⟩
      | bk ρ3 =>
        obtain ⟨rfl, rfl⟩ := M.pure_some hf
        exact fun σ4 H4 fp4 ok4 => q σ4 H4 fp4 ok4
      | rt d =>
        obtain ⟨rfl, rfl⟩ := M.pure_some hf
        exact q
/-- name = [..] on one line -/
theorem sv_setLc {i : Nat} {y : Str} {py : Pos} {elt tg iter : Expr} {ifs : List Expr} {scope : Scope} {own : List (Str × Nat)} {gv : List Nat} {pos2 : Pos} {w : LF} {g : GF} {t : TF} {fe : EF} (hc : X.calm = true) (hN : X.N.Nodup) (hy : X.N[i]? = some y) (hyl : X.env.scope.names.lookup y = some .local) (hm : (m = .val ∧ i ∉ G.mu) ∨ m = .own) (hsci : G.sc ≠ some i)
    (hsw : swapsWith (.ListComp elt [⟨tg, iter, ifs, 0⟩] scope pos2) (some (.Name y py)) pos.line X.env = pure true) (hi : IV X G tg iter w) (ok : BlkOk X.N X.env.scope scope own) (hvs : ∀ i ∈ gv, i ∈ own.map (·.2)) (hsc : ∀ i ∈ own.map (·.2), G.sc ≠ some i) (hmu : ∀ i ∈ own.map (·.2), i ∉ G.mu)
    (hg : ∀ (s : Shared) (H : Hp) (C : Addr) (cl : List (Str × Addr)) (fp : List Addr), GV (X.blk s H scope (compEnvC scope cl C X.env) fp) G gv tg g) (ht : ∀ (s : Shared) (H : Hp) (C : Addr) (cl : List (Str × Addr)) (fp : List Addr), PTs (X.blk s H scope (compEnvC scope cl C X.env) fp) ifs (tDT X.K G t))
    (he : ∀ (s : Shared) (H : Hp) (C : Addr) (cl : List (Str × Addr)) (fp : List Addr), EV (X.blk s H scope (compEnvC scope cl C X.env) fp) G m elt fe) (hs : ∀ x, foldedSetIterable iter X.env x = pure x := by intro _; rfl) :
    SV X ow G G Gl (.Assign [.Name y py] (.ListComp elt [⟨tg, iter, ifs, 0⟩] scope pos2) pos) (sAsg (eComp (own.map (·.2)) w g t fe) (gName i)) := by
  refine PS.mono (ps_setLc (g := tDG X.K G gv g) (tt := tDT X.K G t) (te := tD X.K G m fe) hc hN hy hyl hsw hi ok hg ht he hs) fun D σ H h => ?_
  rcases hm with ⟨rfl, hmi⟩ | rfl
  · exact lc_sem hvs hsc hmu (set_sem hmi hsci h)
  · exact lc_sem hvs hsc hmu (setM_sem hsci h)
end
end DL

/-! DS11: lists that change. -/
namespace DL
open PySem PySem.Spec PyProof.Rows L2

section
variable {K : PySem.W.Frag} {G : Sg} {c : Cc} {T : List Tmp} {fp : Nat → List Addr} {ρ : Env} {S S1 : Src} {σ : St} {H H1 : Hp} {F F' : List Addr} {d d' : D} {i : Nat} {l : Addr} {o : HO}
/-- what the name i holds is rewritten at l -/
theorem StOk.mut (ok1 : StOk K G c T fp ρ S1 σ H1) (e : Ext c.R H1 H) (ok : StOk K G c T fp ρ S σ H) (hi : i ∈ G.mu) (hd : ρ[i]? = some (some d)) (hl : l ∈ fp i) (nt : ∀ xs, H l ≠ some (.tup xs)) (hsc : G.sc ≠ some i)
    (dn : ∀ v, σ[i]? = some (some v) → Den K H v d (fp i) → Den K (upd H l o) v d' F') (nF : ∀ a ∈ F, H1 a = none) (aF : ∀ a ∈ F, ¬ c.P a) (hF : ∀ a ∈ F', a ∈ fp i ∨ a ∈ F) (nd : F'.Nodup) : StOk K G c T (DL.put fp i F') (ρ.set i (some d')) S σ (upd H l o) := by
  have hlP : ¬ c.P l := ok.av i d hd l hl
  have l0 : c.H0 l = none := ok.new i d hi hd l hl
  refine ⟨fun j e h => ?_, fun t ht => (ok.tmp t ht).wr nt (ok.tsep i d hi hd t ht l hl), fun j e h a ha => ?_, ok.tav, fun j k e f hj hjk h1 h2 a ha => ?_, fun j e hj h1 t ht a ha => ?_, fun j e hj h1 => ?_, fun j e hj h1 => ?_, ok.ext.pokeN l0, ok.hP, fun a z => upd_dom (ok.pd a z), ?_, by simp [ok.len]⟩
  · rcases set_some h with ⟨rfl, rfl⟩ | ⟨nj, g⟩
    · obtain ⟨v, q1, q2⟩ := ok.den _ _ hd
      exact ⟨v, q1, by rw [put_same]; exact dn v q1 q2⟩
    · obtain ⟨v, q1, q2⟩ := ok.den j e g
      exact ⟨v, q1, by rw [put_ne nj]; exact q2.wr nt (ok.sep i j d e hi (Ne.symm nj) hd g l hl)⟩
  · rcases set_some h with ⟨rfl, rfl⟩ | ⟨nj, g⟩
    · rw [put_same] at ha
      rcases hF a ha with ha | ha
      · exact ok.av _ _ hd a ha
      · exact aF a ha
    · rw [put_ne nj] at ha
      exact ok.av j e g a ha
  · rcases set_some h1 with ⟨rfl, rfl⟩ | ⟨nj, g1⟩
    · rw [put_same] at ha
      rcases set_some h2 with ⟨rfl, rfl⟩ | ⟨nk, g2⟩
      · exact absurd rfl hjk
      · rw [put_ne nk]
        rcases hF a ha with ha | ha
        · exact ok.sep _ k d f hi (Ne.symm nk) hd g2 a ha
        · intro z
          obtain ⟨v, _, q2⟩ := ok1.den k f g2
          exact q2.dom a z (nF a ha)
    · rw [put_ne nj] at ha
      rcases set_some h2 with ⟨rfl, rfl⟩ | ⟨nk, g2⟩
      · rw [put_same]
        intro z
        rcases hF a z with z | z
        · exact ok.sep j _ e d hj nj g1 hd a ha z
        · obtain ⟨v, _, q2⟩ := ok1.den j e g1
          exact q2.dom a ha (nF a z)
      · rw [put_ne nk]
        exact ok.sep j k e f hj hjk g1 g2 a ha
  · rcases set_some h1 with ⟨rfl, rfl⟩ | ⟨nj, g1⟩
    · rw [put_same] at ha
      rcases hF a ha with ha | ha
      · exact ok.tsep _ d hi hd t ht a ha
      · exact fun z => (ok1.tmp t ht).dom a z (nF a ha)
    · rw [put_ne nj] at ha
      exact ok.tsep j e hj g1 t ht a ha
  · rcases set_some h1 with ⟨rfl, rfl⟩ | ⟨nj, g1⟩
    · rw [put_same]
      exact nd
    · rw [put_ne nj]
      exact ok.nd j e hj g1
  · rcases set_some h1 with ⟨rfl, rfl⟩ | ⟨nj, g1⟩
    · rw [put_same]
      intro a ha
      rcases hF a ha with ha | ha
      · exact ok.new _ d hi hd a ha
      · exact own_new ok1 aF nF a ha
    · rw [put_ne nj]
      exact ok.new j e hj g1
  · have hs := ok.src
    unfold SrcOk at hs ⊢
    split at hs
    · trivial
    · rename_i j p q e1 e2
      have hp : p ∈ c.R := by unfold Cc.R; rw [e2]; simp
      have hq : q ∈ c.R := by unfold Cc.R; rw [e2]; simp
      refine ⟨hs.1, ?_, ?_⟩
      · have np : p ≠ l := fun z => hlP (by rw [← z]; exact ok.hP p hp)
        rw [upd_ne np]
        exact hs.2.1
      · have nq : q ≠ l := fun z => hlP (by rw [← z]; exact ok.hP q hq)
        rw [upd_ne nq]
        exact hs.2.2
    · exact hs.elim
theorem lst_inv {ds : List D} {v : V} (h : Den K H v (.list ds) F) : ∃ p xs E, v = .ref p ∧ F = p :: E ∧ H p = some (.lst xs) ∧ DenL K H xs ds E := by
  cases h with
  | lst e l => exact ⟨_, _, _, rfl, rfl, e, l⟩
theorem not_tup {xs : List V} (h : H l = some (.lst xs)) : ∀ ys, H l ≠ some (.tup ys) := fun ys z => by rw [h] at z; cases z
end

theorem sAppend_some {i : Nat} {fe : EF} {ρ : Env} {S S' : Src} {o : Out} (h : sAppend i fe ρ S = some (o, S')) : ∃ d xs, fe ρ S = some (d, S') ∧ ρ[i]? = some (some (.list xs)) ∧ xs.length < sizeLine ∧ o = .nx (ρ.set i (some (.list (xs ++ [d])))) := by
  obtain ⟨d, S1, h1, hf⟩ := M.bind_some h
  cases e : ρ[i]? with
  | none => simp only [e] at hf; exact (M.fail_some hf).elim
  | some r =>
    cases r with
    | none => simp only [e] at hf; exact (M.fail_some hf).elim
    | some x =>
      cases x with
      | list xs =>
        simp only [e] at hf
        obtain ⟨hz, hf⟩ := M.chk_bind hf
        obtain ⟨rfl, rfl⟩ := M.pure_some hf
        exact ⟨d, xs, h1, rfl, of_decide_eq_true hz, rfl⟩
      | none => simp only [e] at hf; exact (M.fail_some hf).elim
      | bool => simp only [e] at hf; exact (M.fail_some hf).elim
      | int => simp only [e] at hf; exact (M.fail_some hf).elim
      | str => simp only [e] at hf; exact (M.fail_some hf).elim
      | tuple => simp only [e] at hf; exact (M.fail_some hf).elim
      | dict => simp only [e] at hf; exact (M.fail_some hf).elim
theorem sExtend_some {i : Nat} {fe : EF} {ρ : Env} {S S' : Src} {o : Out} (h : sExtend i fe ρ S = some (o, S')) : ∃ xs ys, fe ρ S = some (.list ys, S') ∧ ρ[i]? = some (some (.list xs)) ∧ xs.length + ys.length ≤ sizeLine ∧ immAll ys = true ∧ o = .nx (ρ.set i (some (.list (xs ++ ys)))) := by
  obtain ⟨d, S1, h1, hf⟩ := M.bind_some h
  cases e : ρ[i]? with
  | none => simp only [e] at hf; exact (M.fail_some hf).elim
  | some r =>
    cases r with
    | none => simp only [e] at hf; exact (M.fail_some hf).elim
    | some x =>
      cases x with
      | list xs =>
        cases d with
        | list ys =>
          simp only [e] at hf
          obtain ⟨hz, hf⟩ := M.chk_bind hf
          obtain ⟨hz, hi⟩ := and_true hz
          obtain ⟨rfl, rfl⟩ := M.pure_some hf
          exact ⟨xs, ys, h1, rfl, fit_le hz, hi, rfl⟩
        | none => simp only [e] at hf; exact (M.fail_some hf).elim
        | bool => simp only [e] at hf; exact (M.fail_some hf).elim
        | int => simp only [e] at hf; exact (M.fail_some hf).elim
        | str => simp only [e] at hf; exact (M.fail_some hf).elim
        | tuple => simp only [e] at hf; exact (M.fail_some hf).elim
        | dict => simp only [e] at hf; exact (M.fail_some hf).elim
      | none => simp only [e] at hf; exact (M.fail_some hf).elim
      | bool => simp only [e] at hf; exact (M.fail_some hf).elim
      | int => simp only [e] at hf; exact (M.fail_some hf).elim
      | str => simp only [e] at hf; exact (M.fail_some hf).elim
      | tuple => simp only [e] at hf; exact (M.fail_some hf).elim
      | dict => simp only [e] at hf; exact (M.fail_some hf).elim
section
variable {X : Cx} {ow : Bool} {G Gl : Sg} {pos apos cpos p : Pos} {e e1 e2 : Expr} {fe f1 f2 : EF} {m m1 m2 : Md} {i : Nat} {x : Str}
/-- x.append(e) -/
theorem sv_append (hN : X.N[i]? = some x) (hv : Vis X.env.scope x) (hi : i ∈ G.mu) (hsc : G.sc ≠ some i) (he : EV X G .own e fe) (hd : (x == ("__debug__" : Str)) = false := by decide) (hcd : (x == ("__classdict__" : Str)) = false := by decide)
    (hs0 : swapsWith (.Call (.Attribute (.Name x p) "append" apos) [e] [] cpos) none pos.line X.env = pure false := by rfl)
    (hbase : attributeBase (.Name x p) "append" X.env (eval (.Name x p) X.env) = eval (.Name x p) X.env := by rfl)
    (hfew : ((backTo cpos (starEach [e] X.env)).all (fun x => !x.1) && (backToKw cpos (keywordEach [] X.env)).all (fun x => x.1.isSome)
      && decide (([e] : List Expr).length + ([] : List Keyword).length + (if ([] : List Keyword).isEmpty then 0 else 1) < 30)) = true := by rfl)
    (hline : (apos.endLine == cpos.line) = true := by rfl) (hs : starEach [e] X.env = (false, eval e X.env) :: starEach [] X.env := by rfl) (hplain : (backTo cpos (starEach [] X.env)).any (·.1) = false := by rfl) :
    SV X ow G G Gl (.Expr (.Call (.Attribute (.Name x p) "append" apos) [e] [] cpos) pos) (sAppend i fe) := by
  refine PS.mono (ps_expr (pe_bm PySem.F.plainAttrs_list PySem.F.slot_list_append PySem.F.type_list_append mt_append (pe_var hN hv hd hcd) (pa_cons he pa_nil hs) hbase hfew hline hs hplain) hs0) fun D σ H h => ?_
  obtain ⟨c, T, fp, ρ, S, o, S', ok, hf, q⟩ := h
  obtain ⟨d, xs, h1, hx, hz, rfl⟩ := sAppend_some hf
  · obtain ⟨v, q1, q2⟩ := ok.den i _ hx
    obtain ⟨a, vs, E, rfl, hE, ha, l⟩ := lst_inv q2
    refine ⟨.ref a, q1, .inl ⟨rfl, _, .inl (.inl ha)⟩, c, T, fp, ρ, S, d, S', ok, h1, fun y H1 F ok1 ex dn av r => ?_⟩
    have nP : a ∉ c.R := ok.notR (ok.av i _ hx a (by rw [hE]; exact List.mem_cons_self))
    have hnd := ok.nd i _ hi hx
    rw [hE] at hnd
    have hdom : ∀ z ∈ fp i, H z ≠ none := fun z hz => q2.dom z hz
    refine ⟨a, vs, y, rfl, rfl, ex.keep a _ ha nP, by rw [l.length]; exact hz, ?_⟩
    have hnot : a ∉ F := fun z => hdom a (by rw [hE]; exact List.mem_cons_self) (r.2 a z)
    refine q σ _ _ (ok.mut ex ok1 hi hx (by rw [hE]; exact List.mem_cons_self) (not_tup (ex.keep a _ ha nP)) hsc (F := F) (F' := a :: (E ++ F)) (fun v' w1 w2 => ?_) r.2 av (fun z hz => ?_) ?_)
    · rw [q1] at w1
      cases w1
      obtain ⟨a', vs', E', e0, hE', ha', l'⟩ := lst_inv w2
      cases e0
      rw [hE] at hE'
      cases hE'
      rw [ex.keep a _ ha nP] at ha'
      cases ha'
      have na : a ∉ E := (List.nodup_cons.mp hnd).1
      have nt := not_tup (ex.keep a _ ha nP)
      exact .lst upd_same ((l'.wr nt na).append (DenL.one (dn.wr nt hnot)))
    · rw [hE]
      rcases List.mem_cons.mp hz with rfl | hz
      · exact .inl List.mem_cons_self
      · exact (List.mem_append.mp hz).imp (List.mem_cons_of_mem _) id
    · refine List.nodup_cons.mpr ⟨fun z => ?_, List.nodup_append.mpr ⟨(List.nodup_cons.mp hnd).2, r.1, fun z hz w hw e => ?_⟩⟩
      · exact (List.mem_append.mp z).elim (List.nodup_cons.mp hnd).1 hnot
      · subst e
        exact hdom z (by rw [hE]; exact List.mem_cons_of_mem _ hz) (r.2 z hw)
/-- x.extend(e) -/
theorem sv_extend (hN : X.N[i]? = some x) (hv : Vis X.env.scope x) (hi : i ∈ G.mu) (hsc : G.sc ≠ some i) (he : EV X G m e fe) (hd : (x == ("__debug__" : Str)) = false := by decide) (hcd : (x == ("__classdict__" : Str)) = false := by decide)
    (hs0 : swapsWith (.Call (.Attribute (.Name x p) "extend" apos) [e] [] cpos) none pos.line X.env = pure false := by rfl)
    (hbase : attributeBase (.Name x p) "extend" X.env (eval (.Name x p) X.env) = eval (.Name x p) X.env := by rfl)
    (hfew : ((backTo cpos (starEach [e] X.env)).all (fun x => !x.1) && (backToKw cpos (keywordEach [] X.env)).all (fun x => x.1.isSome)
      && decide (([e] : List Expr).length + ([] : List Keyword).length + (if ([] : List Keyword).isEmpty then 0 else 1) < 30)) = true := by rfl)
    (hline : (apos.endLine == cpos.line) = true := by rfl) (hs : starEach [e] X.env = (false, eval e X.env) :: starEach [] X.env := by rfl) (hplain : (backTo cpos (starEach [] X.env)).any (·.1) = false := by rfl) :
    SV X ow G G Gl (.Expr (.Call (.Attribute (.Name x p) "extend" apos) [e] [] cpos) pos) (sExtend i fe) := by
  refine PS.mono (ps_expr (pe_bm PySem.F.plainAttrs_list PySem.F.slot_list_extend PySem.F.type_list_extend mt_extend (pe_var hN hv hd hcd) (pa_cons he pa_nil hs) hbase hfew hline hs hplain) hs0) fun D σ H h => ?_
  obtain ⟨c, T, fp, ρ, S, o, S', ok, hf, q⟩ := h
  obtain ⟨xs, ys, h1, hx, hz, hi2, rfl⟩ := sExtend_some hf
  · obtain ⟨v, q1, q2⟩ := ok.den i _ hx
    obtain ⟨a, vs, E, rfl, hE, ha, l⟩ := lst_inv q2
    refine ⟨.ref a, q1, .inl ⟨rfl, _, .inl (.inl ha)⟩, c, T, fp, ρ, S, _, S', ok, h1, fun y H1 F ok1 ex dn av r => ?_⟩
    have nP : a ∉ c.R := ok.notR (ok.av i _ hx a (by rw [hE]; exact List.mem_cons_self))
    have hnd := ok.nd i _ hi hx
    rw [hE] at hnd
    obtain ⟨b, ws, E2, rfl, hE2, hb, l2⟩ := lst_inv dn
    obtain rfl := l2.imm hi2
    refine ⟨a, b, vs, ws, rfl, rfl, ex.keep a _ ha nP, hb, by rw [l.length, l2.length]; exact hz, ?_⟩
    refine q σ _ _ (ok.mut ex ok1 hi hx (by rw [hE]; exact List.mem_cons_self) (not_tup (ex.keep a _ ha nP)) hsc (F := []) (F' := a :: E) (fun v' w1 w2 => ?_) (fun _ z => nomatch z) (fun _ z => nomatch z) (fun z hz => .inl (by rw [hE]; exact hz)) hnd)
    rw [q1] at w1
    cases w1
    obtain ⟨a', vs', E', e0, hE', ha', l'⟩ := lst_inv w2
    cases e0
    rw [hE] at hE'
    cases hE'
    rw [ex.keep a _ ha nP] at ha'
    cases ha'
    have na : a ∉ E := (List.nodup_cons.mp hnd).1
    have nt := not_tup (ex.keep a _ ha nP)
    have z := (l'.wr (o := .lst (vs ++ ws)) nt na).append (l2.wr (o := .lst (vs ++ ws)) nt fun z => nomatch z)
    rw [List.append_nil] at z
    exact .lst upd_same z
end
theorem slot_cases {ρ : Env} {i : Nat} : (∃ d, ρ[i]? = some (some d)) ∨ (ρ[i]? = none ∨ ρ[i]? = some none) := by
  cases e : ρ[i]? with
  | none => exact .inr (.inl rfl)
  | some r =>
    cases r with
    | none => exact .inr (.inr rfl)
    | some d => exact .inl ⟨d, rfl⟩
theorem sSetIx_some {x : Nat} {fi fe : EF} {ρ : Env} {S S' : Src} {o : Out} (h : sSetIx x fi fe ρ S = some (o, S')) : ∃ d S1 k xs j, fe ρ S = some (d, S1) ∧ fi ρ S1 = some (.int k, S') ∧ ρ[x]? = some (some (.list xs)) ∧ ixD xs.length k = some j ∧ o = .nx (ρ.set x (some (.list (xs.set j d)))) := by
  obtain ⟨d, S1, h1, hf⟩ := M.bind_some h
  obtain ⟨y, S2, h2, hf⟩ := M.bind_some hf
  clear h
  rcases slot_cases (ρ := ρ) (i := x) with ⟨e, he⟩ | he | he
  · simp only [he] at hf
    cases e with
    | list xs =>
      cases y with
      | int k =>
        simp only [putAt] at hf
        cases e2 : ixD xs.length k with
        | none => simp only [e2, Option.map_none] at hf; exact (M.fail_some hf).elim
        | some j =>
          simp only [e2, Option.map_some] at hf
          obtain ⟨rfl, rfl⟩ := M.pure_some hf
          exact ⟨d, S1, k, xs, j, h1, h2, he, e2, rfl⟩
      | _ => exact (M.fail_some hf).elim
    | _ => exact (M.fail_some hf).elim
  · simp only [he] at hf
    exact (M.fail_some hf).elim
  · simp only [he] at hf
    exact (M.fail_some hf).elim
theorem sSetIx2_some {x : Nat} {fi fj fe : EF} {ρ : Env} {S S' : Src} {o : Out} (h : sSetIx2 x fi fj fe ρ S = some (o, S')) : ∃ d S1 S2 k l xs ys i j, fe ρ S = some (d, S1) ∧ fi ρ S1 = some (.int k, S2) ∧ fj ρ S2 = some (.int l, S') ∧ ρ[x]? = some (some (.list xs)) ∧ ixD xs.length k = some i ∧ xs[i]? = some (.list ys) ∧ ixD ys.length l = some j ∧ o = .nx (ρ.set x (some (.list (xs.set i (.list (ys.set j d)))))) := by
  obtain ⟨d, S1, h1, hf⟩ := M.bind_some h
  obtain ⟨y, S2, h2, hf⟩ := M.bind_some hf
  obtain ⟨z, S3, h3, hf⟩ := M.bind_some hf
  clear h
  rcases slot_cases (ρ := ρ) (i := x) with ⟨e, he⟩ | he | he
  · simp only [he] at hf
    cases e with
    | list xs =>
      cases y with
      | int k =>
        cases z with
        | int l =>
          simp only [putAt] at hf
          cases e2 : ixD xs.length k with
          | none => simp only [e2, Option.bind_none] at hf; exact (M.fail_some hf).elim
          | some i =>
            simp only [e2, Option.bind_some, Option.map_some] at hf
            cases e3 : xs[i]? with
            | none => simp only [e3] at hf; exact (M.fail_some hf).elim
            | some w =>
              cases w with
              | list ys =>
                simp only [e3] at hf
                cases e4 : ixD ys.length l with
                | none => simp only [e4, Option.map_none] at hf; exact (M.fail_some hf).elim
                | some j =>
                  simp only [e4, Option.map_some] at hf
                  obtain ⟨rfl, rfl⟩ := M.pure_some hf
                  exact ⟨d, S1, S2, k, l, xs, ys, i, j, h1, h2, h3, he, e2, e3, e4, rfl⟩
              | _ => simp only [e3] at hf; exact (M.fail_some hf).elim
        | _ => exact (M.fail_some hf).elim
      | _ => exact (M.fail_some hf).elim
    | _ => exact (M.fail_some hf).elim
  · simp only [he] at hf
    exact (M.fail_some hf).elim
  · simp only [he] at hf
    exact (M.fail_some hf).elim
/-- one item's new footprint -/
theorem nodup_mid {A B G F : List Addr} (h : (A ++ G ++ B).Nodup) (hF : F.Nodup) (hA : ∀ a ∈ A, a ∉ F) (hB : ∀ a ∈ B, a ∉ F) : (A ++ F ++ B).Nodup := by
  obtain ⟨h1, h2, h3⟩ := List.nodup_append.mp h
  obtain ⟨h4, h5, h6⟩ := List.nodup_append.mp h1
  refine List.nodup_append.mpr ⟨List.nodup_append.mpr ⟨h4, hF, fun a ha b hb e => hA a ha (e ▸ hb)⟩, h2, fun a ha b hb e => ?_⟩
  rcases List.mem_append.mp ha with ha | ha
  · exact h3 a (List.mem_append_left _ ha) b hb e
  · subst e
    exact hB a hb ha
section
variable {X : Cx} {ow : Bool} {G Gl : Sg} {pos apos cpos p : Pos} {e e1 e2 : Expr} {fe f1 f2 : EF} {m m1 m2 : Md} {i : Nat} {x : Str}
theorem sv_setix (hN : X.N[i]? = some x) (hv : Vis X.env.scope x) (hi : i ∈ G.mu) (hsc : G.sc ≠ some i) (he : EV X G .own e fe) (h1 : EV X G m1 e1 f1) (hd : (x == ("__debug__" : Str)) = false := by decide) (hcd : (x == ("__classdict__" : Str)) = false := by decide)
    (ha : ∀ v, assign (.Subscript (.Name x p) e1 apos) X.env v = (do
      let ov ← holding [v] (eval (.Name x p) X.env)
      let iv ← holding [v, ov] (eval e1 X.env)
      standAt apos
      holding [v, ov, iv] (setItem ov iv v)
      release [v, ov, iv] []) := by intro _; rfl) (hs : swapsWithSole [.Subscript (.Name x p) e1 apos] e pos.line X.env = pure false := by rfl) (hw : swappedStores [.Subscript (.Name x p) e1 apos] e X.env = pure none := by rfl)
    (h2 : (assignEach [.Subscript (.Name x p) e1 apos] X.env).map (·.2) = [assign (.Subscript (.Name x p) e1 apos) X.env] := by rfl) : SV X ow G G Gl (.Assign [.Subscript (.Name x p) e1 apos] e pos) (sSetIx i f1 fe) := by
  refine PS.mono (ps_asg he (pg_sub (pe_var hN hv hd hcd) h1 set_list ha) hs hw h2) fun D σ H h => ?_
  obtain ⟨c, T, fp, ρ, S, o, S', ok, hf, q⟩ := h
  obtain ⟨d, S1, k, xs, j, g1, g2, hx, g3, rfl⟩ := sSetIx_some hf
  obtain ⟨v, q1, q2⟩ := ok.den i _ hx
  obtain ⟨a, vs, E, rfl, hE, ha, l⟩ := lst_inv q2
  refine ⟨c, T, fp, ρ, S, d, S1, ok, g1, fun y H1 F ok1 ex1 dn av r => ?_⟩
  refine ⟨.ref a, q1, c, T, fp, ρ, S1, _, S', ok1, g2, fun iv H2 F2 ok2 ex2 dn2 av2 r2 => ?_⟩
  cases dn2
  have ex := ex1.trans ex2
  have nP : a ∉ c.R := ok.notR (ok.av i _ hx a (by rw [hE]; exact List.mem_cons_self))
  have hnd := ok.nd i _ hi hx
  rw [hE] at hnd
  have hdom : ∀ z ∈ fp i, H z ≠ none := fun z hz => q2.dom z hz
  have ha2 := ex.keep a _ ha nP
  refine ⟨a, vs, k, j, rfl, rfl, ha2, by rw [l.length, ← ixD_eq]; exact g3, ?_⟩
  have hj : j < xs.length := by
    unfold ixD at g3
    split at g3
    · cases g3; omega
    · split at g3
      · cases g3; omega
      · cases g3
  have ok2' : StOk X.K G c T fp ρ S' σ H2 := ok2
  obtain ⟨v', q1', q2'⟩ := ok2'.den i _ hx
  rw [q1] at q1'
  cases q1'
  obtain ⟨a', vs', E', e0, hE', ha', l'⟩ := lst_inv q2'
  cases e0
  rw [hE] at hE'
  cases hE'
  rw [ha2] at ha'
  cases ha'
  obtain ⟨y0, G0, A, B, b1, b2, b3, b4⟩ := l'.at (List.getElem?_eq_getElem hj)
  have na : a ∉ E := (List.nodup_cons.mp hnd).1
  have nt := not_tup ha2
  have hnot : a ∉ F := fun z => hdom a (by rw [hE]; exact List.mem_cons_self) (r.2 a z)
  have dA : ∀ z ∈ A, z ∉ F := fun z hz w => hdom z (by rw [hE, b3]; simp [hz]) (r.2 z w)
  have dB : ∀ z ∈ B, z ∉ F := fun z hz w => hdom z (by rw [hE, b3]; simp [hz]) (r.2 z w)
  refine q σ _ _ (ok.mut ex ok2 hi hx (by rw [hE]; exact List.mem_cons_self) nt hsc (F := F) (F' := a :: (A ++ F ++ B)) (fun v' w1 w2 => ?_) r.2 av (fun z hz => ?_) ?_)
  · rw [q1] at w1
    cases w1
    refine .lst upd_same (b4 _ _ _ F (fun w e E2 hw hE2 => hw.wr nt fun z => ?_) ((dn.ext ex2 fun z hz => ok.notR (av z hz)).wr nt hnot))
    rcases hE2 a z with z | z
    · exact na (by rw [b3]; simp [z])
    · exact na (by rw [b3]; simp [z])
  · rw [hE, b3]
    rcases List.mem_cons.mp hz with rfl | hz
    · exact .inl List.mem_cons_self
    · rcases List.mem_append.mp hz with hz | hz
      · rcases List.mem_append.mp hz with hz | hz
        · exact .inl (by simp [hz])
        · exact .inr hz
      · exact .inl (by simp [hz])
  · refine List.nodup_cons.mpr ⟨fun z => ?_, nodup_mid (by rw [b3] at hnd; exact (List.nodup_cons.mp hnd).2) r.1 dA dB⟩
    rcases List.mem_append.mp z with z | z
    · rcases List.mem_append.mp z with z | z
      · exact na (by rw [b3]; simp [z])
      · exact hnot z
    · exact na (by rw [b3]; simp [z])
/-- x[i][j] = e -/
theorem sv_setix2 {pos2 : Pos} (hN : X.N[i]? = some x) (hv : Vis X.env.scope x) (hi : i ∈ G.mu) (hsc : G.sc ≠ some i) (he : EV X G .own e fe) (h1 : EV X G m1 e1 f1) (h2 : EV X G m2 e2 f2) (hp1 : PlainIx e1) (hd : (x == ("__debug__" : Str)) = false := by decide) (hcd : (x == ("__classdict__" : Str)) = false := by decide)
    (ha : ∀ v, assign (.Subscript (.Subscript (.Name x p) e1 pos2) e2 apos) X.env v = (do
      let ov ← holding [v] (eval (.Subscript (.Name x p) e1 pos2) X.env)
      let iv ← holding [v, ov] (eval e2 X.env)
      standAt apos
      holding [v, ov, iv] (setItem ov iv v)
      release [v, ov, iv] []) := by intro _; rfl) (hs : swapsWithSole [.Subscript (.Subscript (.Name x p) e1 pos2) e2 apos] e pos.line X.env = pure false := by rfl) (hw : swappedStores [.Subscript (.Subscript (.Name x p) e1 pos2) e2 apos] e X.env = pure none := by rfl)
    (h3 : (assignEach [.Subscript (.Subscript (.Name x p) e1 pos2) e2 apos] X.env).map (·.2) = [assign (.Subscript (.Subscript (.Name x p) e1 pos2) e2 apos) X.env] := by rfl) : SV X ow G G Gl (.Assign [.Subscript (.Subscript (.Name x p) e1 pos2) e2 apos] e pos) (sSetIx2 i f1 f2 fe) := by
  refine PS.mono (ps_asg he (pg_sub (pe_ix ix_list (pe_var hN hv hd hcd) h1 hp1) h2 set_list ha) hs hw h3) fun D σ H h => ?_
  obtain ⟨c, T, fp, ρ, S, o, S', ok, hf, q⟩ := h
  obtain ⟨d, S1, S2, k, l0, xs, ys, i0, j, g1, g2, g3, hx, g4, g5, g6, rfl⟩ := sSetIx2_some hf
  obtain ⟨v, q1, q2⟩ := ok.den i _ hx
  obtain ⟨a, vs, E, rfl, hE, ha, l⟩ := lst_inv q2
  refine ⟨c, T, fp, ρ, S, d, S1, ok, g1, fun y H1 F ok1 ex1 dn av r => ?_⟩
  refine ⟨.ref a, q1, c, T, fp, ρ, S1, _, S2, ok1, g2, fun iv H2 F2 ok2 ex2 dn2 av2 r2 => ?_⟩
  cases dn2
  have ex := ex1.trans ex2
  have nP : a ∉ c.R := ok.notR (ok.av i _ hx a (by rw [hE]; exact List.mem_cons_self))
  have hnd := ok.nd i _ hi hx
  rw [hE] at hnd
  have hdom : ∀ z ∈ fp i, H z ≠ none := fun z hz => q2.dom z hz
  have ha2 := ex.keep a _ ha nP
  obtain ⟨w0, G0, c1, c2, c3⟩ := l.get g5
  obtain ⟨b, us, E2, rfl, hE2, hb, l2⟩ := lst_inv c2
  refine ⟨a, vs, k, .ref b, rfl, rfl, .inl (.inl ha2), ?_, c, T, fp, ρ, S2, _, S', ok2, g3, fun jv H3 F3 ok3 ex3 dn3 av3 r3 => ?_⟩
  · unfold atI
    rw [l.length, ← ixD_eq, g4]
    exact c1
  cases dn3
  have ex' := ex.trans ex3
  have hbE : b ∈ E := c3 b (by rw [hE2]; exact List.mem_cons_self)
  have nPb : b ∉ c.R := ok.notR (ok.av i _ hx b (by rw [hE]; exact List.mem_cons_of_mem _ hbE))
  have hb3 := ex'.keep b _ hb nPb
  refine ⟨b, us, l0, j, rfl, rfl, hb3, by rw [l2.length, ← ixD_eq]; exact g6, ?_⟩
  have hj : j < ys.length := by
    unfold ixD at g6
    split at g6
    · cases g6; omega
    · split at g6
      · cases g6; omega
      · cases g6
  obtain ⟨v', q1', q2'⟩ := ok3.den i _ hx
  rw [q1] at q1'
  cases q1'
  obtain ⟨a', vs', E', e0, hE', ha', l'⟩ := lst_inv q2'
  cases e0
  rw [hE] at hE'
  cases hE'
  rw [ex3.keep a _ ha2 nP] at ha'
  cases ha'
  obtain ⟨y0, G0', A, B, b1, b2, b3, b4⟩ := l'.at g5
  rw [c1] at b1
  cases b1
  obtain ⟨b', us', E2', e0, hE2', hb', l2'⟩ := lst_inv b2
  cases e0
  rw [hb3] at hb'
  cases hb'
  obtain ⟨y1, G1, A1, B1, d1, d2, d3, d4⟩ := l2'.at (List.getElem?_eq_getElem hj)
  have na : a ∉ E := (List.nodup_cons.mp hnd).1
  have nE : E.Nodup := (List.nodup_cons.mp hnd).2
  have nab : a ≠ b := fun z => na (z ▸ hbE)
  have nt := not_tup hb3
  have fresh : ∀ z ∈ E, z ∉ F := fun z hz w => hdom z (by rw [hE]; exact List.mem_cons_of_mem _ hz) (r.2 z w)
  have hnot : a ∉ F := fun z => hdom a (by rw [hE]; exact List.mem_cons_self) (r.2 a z)
  have sub1 : ∀ z, z ∈ A ∨ z ∈ B ∨ z ∈ G0' → z ∈ E := fun z hz => by
    rw [b3]
    rcases hz with hz | hz | hz <;> simp [hz]
  have sub2 : ∀ z, z ∈ A1 ∨ z ∈ B1 → z ∈ E := fun z hz => sub1 z (.inr (.inr (by
    rw [hE2', d3]
    rcases hz with hz | hz <;> simp [hz])))
  have nmid : (A ++ G0' ++ B).Nodup := b3 ▸ nE
  have nG0 : G0'.Nodup := (List.nodup_append.mp (List.nodup_append.mp nmid).1).2.1
  have nbA : b ∉ A := fun z => (List.nodup_append.mp (List.nodup_append.mp nmid).1).2.2 b z b (by rw [hE2']; exact List.mem_cons_self) rfl
  have nbB : b ∉ B := fun z => (List.nodup_append.mp nmid).2.2 b (List.mem_append_right _ (by rw [hE2']; exact List.mem_cons_self)) b z rfl
  rw [hE2'] at nG0
  have nbE2 : b ∉ E2' := (List.nodup_cons.mp nG0).1
  have nb1 : b ∉ A1 ∧ b ∉ B1 := ⟨fun z => nbE2 (by rw [d3]; simp [z]), fun z => nbE2 (by rw [d3]; simp [z])⟩
  refine q σ _ _ (ok.mut ex' ok3 hi hx (l := b) (by rw [hE]; exact List.mem_cons_of_mem _ hbE) nt hsc (F := F) (F' := a :: (A ++ (b :: (A1 ++ F ++ B1)) ++ B)) (fun v' w1 w2 => ?_) r.2 av (fun z hz => ?_) ?_)
  · rw [q1] at w1
    cases w1
    have inner : Den X.K (upd H3 b (.lst (us.set j y))) (.ref b) (.list (ys.set j d)) (b :: (A1 ++ F ++ B1)) := by
      refine .lst upd_same (d4 _ _ _ F (fun w e E3 hw hE3 => hw.wr nt fun z => ?_) ((dn.ext (ex2.trans ex3) fun z hz => ok.notR (av z hz)).wr nt fun z => fresh b hbE z))
      rcases hE3 b z with z | z
      · exact nb1.1 z
      · exact nb1.2 z
    have outer := b4 (upd H3 b (.lst (us.set j y))) (.ref b) (.list (ys.set j d)) _ (fun w e E3 hw hE3 => hw.wr nt fun z => (hE3 b z).elim nbA nbB) inner
    have same : vs.set i0 (.ref b) = vs := by
      apply List.ext_getElem?
      intro n
      by_cases hn : i0 = n
      · subst hn
        rw [c1, List.getElem?_set_self (List.getElem?_eq_some_iff.mp c1).1]
      · rw [List.getElem?_set_ne hn]
    rw [same] at outer
    refine .lst ?_ outer
    rw [upd_ne nab]
    exact ex3.keep a _ ha2 nP
  · rw [hE]
    rcases List.mem_cons.mp hz with rfl | hz
    · exact .inl List.mem_cons_self
    · rcases List.mem_append.mp hz with hz | hz
      · rcases List.mem_append.mp hz with hz | hz
        · exact .inl (List.mem_cons_of_mem _ (sub1 z (.inl hz)))
        · rcases List.mem_cons.mp hz with rfl | hz
          · exact .inl (List.mem_cons_of_mem _ hbE)
          · rcases List.mem_append.mp hz with hz | hz
            · rcases List.mem_append.mp hz with hz | hz
              · exact .inl (List.mem_cons_of_mem _ (sub2 z (.inl hz)))
              · exact .inr hz
            · exact .inl (List.mem_cons_of_mem _ (sub2 z (.inr hz)))
      · exact .inl (List.mem_cons_of_mem _ (sub1 z (.inr (.inl hz))))
  · have n1 : (b :: (A1 ++ F ++ B1)).Nodup := by
      refine List.nodup_cons.mpr ⟨fun z => ?_, nodup_mid (by rw [d3] at nG0; exact (List.nodup_cons.mp nG0).2) r.1 (fun z hz => fresh z (sub2 z (.inl hz))) (fun z hz => fresh z (sub2 z (.inr hz)))⟩
      rcases List.mem_append.mp z with z | z
      · rcases List.mem_append.mp z with z | z
        · exact nb1.1 z
        · exact fresh b hbE z
      · exact nb1.2 z
    have inG : ∀ z, z ∈ b :: (A1 ++ F ++ B1) → z ∈ G0' ∨ z ∈ F := fun z hz => by
      rw [hE2', d3]
      rcases List.mem_cons.mp hz with rfl | hz
      · exact .inl List.mem_cons_self
      · rcases List.mem_append.mp hz with hz | hz
        · rcases List.mem_append.mp hz with hz | hz
          · exact .inl (by simp [hz])
          · exact .inr hz
        · exact .inl (by simp [hz])
    refine List.nodup_cons.mpr ⟨fun z => ?_, nodup_mid nmid n1 (fun z hz w => ?_) (fun z hz w => ?_)⟩
    · rcases List.mem_append.mp z with z | z
      · rcases List.mem_append.mp z with z | z
        · exact na (sub1 a (.inl z))
        · rcases inG a z with z | z
          · exact na (sub1 a (.inr (.inr z)))
          · exact hnot z
      · exact na (sub1 a (.inr (.inl z)))
    · rcases inG z w with w | w
      · exact (List.nodup_append.mp (List.nodup_append.mp nmid).1).2.2 z hz z w rfl
      · exact fresh z (sub1 z (.inl hz)) w
    · rcases inG z w with w | w
      · exact (List.nodup_append.mp nmid).2.2 z (List.mem_append_right _ w) z hz rfl
      · exact fresh z (sub1 z (.inr (.inl hz))) w
end
end DL

/-! DS12: defs, the law. -/
namespace DL
open PySem PySem.Spec PyProof.Rows L2

theorem fps {K : PySem.W.Frag} {H : Hp} : ∀ {vs : List V} {ds : List D} {F : List Addr}, DenL K H vs ds F → ∃ fp : Nat → List Addr, ∀ (i : Nat) (d : D), ds[i]? = some d → ∃ v, vs[i]? = some v ∧ Den K H v d (fp i) ∧ ∀ a ∈ fp i, a ∈ F
  | _, _, _, .nil => ⟨fun _ => [], fun i d h => by simp at h⟩
  | _, _, _, .cons (F := F) h l => by
    obtain ⟨fp, q⟩ := fps l
    refine ⟨fun i => match i with | 0 => F | i + 1 => fp i, fun i d e => ?_⟩
    cases i with
    | zero =>
      simp at e
      subst e
      exact ⟨_, rfl, h, fun a ha => List.mem_append_left _ ha⟩
    | succ i =>
      obtain ⟨v, e1, e2, e3⟩ := q i d (by simpa using e)
      exact ⟨v, by simpa using e1, e2, fun a ha => List.mem_append_right _ (e3 a ha)⟩
theorem slots_some {α : Type} {ds : List α} {k i : Nat} {d : α} (h : (ds.map some ++ List.replicate k none)[i]? = some (some d)) : ds[i]? = some d := by
  by_cases hi : i < ds.length
  · rw [List.getElem?_append_left (by simpa using hi), List.getElem?_map] at h
    obtain ⟨x, e1, e2⟩ := Option.map_eq_some_iff.mp h
    rw [e1]
    cases e2
    rfl
  · rw [List.getElem?_append_right (by simp; omega)] at h
    rw [List.getElem?_replicate] at h
    split at h <;> cases h
theorem slots_at {α : Type} {ds : List α} {k i : Nat} {d : α} (h : ds[i]? = some d) : (ds.map some ++ List.replicate k (none : Option α))[i]? = some (some d) := by
  have hi := (List.getElem?_eq_some_iff.mp h).1
  rw [List.getElem?_append_left (by simpa using hi), List.getElem?_map, h]
  rfl
theorem endD_some {o : Out} {S S' : Src} {r : D} (h : endD o S = some (r, S')) : S' = S ∧ ((∃ ρ, o = .nx ρ ∧ r = .none) ∨ o = .rt r) := by
  cases o with
  | nx ρ =>
    obtain ⟨rfl, rfl⟩ := M.pure_some h
    exact ⟨rfl, .inl ⟨ρ, rfl, rfl⟩⟩
  | rt d =>
    obtain ⟨rfl, rfl⟩ := M.pure_some h
    exact ⟨rfl, .inr rfl⟩
  | bk ρ => exact (M.fail_some (S := S) h).elim
  | ct ρ => exact (M.fail_some (S := S) h).elim

section
variable {P : Program} {w : World} {K : PySem.W.Frag} {mg : Str → Option Value} {base : Heap} {x qual : Str} {st : Stmt} {f : Addr} {fd : FuncData} {N ps : List Str} {k m n : Nat} {own : Bool} {b : SF} {mu mu' : List Nat}
theorem ok_D (F : Fun K x qual st f fd) (S : FnScope N ps (defScope st)) (hn : ps.length = n) (hN : N.length = m) (hnm : n ≤ m) (hmu : ∀ i ∈ mu, n ≤ i)
    (hb : ∀ (cdv : Value) (A : Around) (outer : List PySem.Env) (s : Shared) (H : Hp) (E : XK), Room k (A.deeper (envOfC qual (defScope st) s.heap.objs.size f cdv)) → SVs (cxOf CX0 P w K mg base N qual (defScope st) f cdv A outer s H E).nox own ⟨mu, none⟩ ⟨mu', none⟩ ⟨[], none⟩ (defBody st) b) :
    FnOk P w K mg base CX0 (k + 1) f fd ps (spD K n own (runDef n m b)) := by
  refine F.ok S (fun vs H Q E h => h.1.trans hn.symm) (fun cdv A outer s H vs Q E hr h => ⟨_, hb cdv A outer s H E hr, ?_⟩)
  obtain ⟨hl, PP, ds, Fs, S0, r, S', dn, av, pd, hf, q⟩ := h
  obtain ⟨h1, hf⟩ := M.chk_bind hf
  obtain ⟨o, S1, h2, hf⟩ := M.bind_some hf
  obtain ⟨rfl, hg⟩ := endD_some hf
  obtain ⟨fp, hfp⟩ := fps dn
  have hdl : ds.length = n := by simpa using h1
  refine ⟨⟨none, H, PP⟩, [], fp, _, S0, o, _, ⟨fun i d hd => ?_, fun _ z => (nomatch z), fun i d hd a ha => ?_, fun _ z => (nomatch z), fun i j d e hi hij h1 _ => ?_, fun i d hi h1 => ?_, fun i d hi h1 => ?_, fun i d hi h1 => ?_, Ext.refl, fun _ z => (nomatch z), pd, trivial, ?_⟩, h2, ?_⟩
  · obtain ⟨v, e1, e2, _⟩ := hfp i d (slots_some hd)
    exact ⟨v, slots_at e1, e2⟩
  · obtain ⟨v, e1, e2, e3⟩ := hfp i d (slots_some hd)
    exact av a (e3 a ha)
  · have := (List.getElem?_eq_some_iff.mp (slots_some h1)).1
    have := hmu i hi
    omega
  · have := (List.getElem?_eq_some_iff.mp (slots_some h1)).1
    have := hmu i hi
    omega
  · have := (List.getElem?_eq_some_iff.mp (slots_some h1)).1
    have := hmu i hi
    omega
  · have := (List.getElem?_eq_some_iff.mp (slots_some h1)).1
    have := hmu i hi
    omega
  · show _ = (L2.start N vs).length
    unfold L2.start
    simp only [List.length_append, List.length_map, List.length_replicate]
    omega
  · rcases hg with ⟨ρ, rfl, rfl⟩ | rfl
    · exact fun σ H' fp' ok' => q .non H' [] ok'.ext .non (fun _ z => nomatch z) fun _ => ⟨List.nodup_nil, fun _ z => nomatch z⟩
    · exact fun v H' F' e _ d2 a2 o2 => q v H' F' e d2 a2 o2
theorem ok_M (F : Fun K x qual st f fd) (S : FnScope N ps (defScope st)) (hn : ps.length = n + 1) (hN : N.length = m) (hnm : n + 1 ≤ m) (hmu : ∀ i ∈ mu, n + 1 ≤ i)
    (hb : ∀ (cdv : Value) (A : Around) (outer : List PySem.Env) (s : Shared) (H : Hp) (E : XK), Room k (A.deeper (envOfC qual (defScope st) s.heap.objs.size f cdv)) → SVs (cxOf CX0 P w K mg base N qual (defScope st) f cdv A outer s H E).nox own ⟨mu, some 0⟩ ⟨mu', some 0⟩ ⟨[], some 0⟩ (defBody st) b) :
    FnOk P w K mg base CX0 (k + 1) f fd ps (spM K n own (runDefS n m b)) := by
  refine F.ok S (fun vs H Q E h => h.1.trans hn.symm) (fun cdv A outer s H vs Q E hr h => ⟨_, hb cdv A outer s H E hr, ?_⟩)
  obtain ⟨hl, p, q0, us, PP, ds, Fs, S0, r, S', rfl, sa, pp, pq, dn, av, pd, hf, q⟩ := h
  obtain ⟨h1, hf⟩ := M.chk_bind hf
  obtain ⟨o, S1, h2, hf⟩ := M.bind_some hf
  obtain ⟨rfl, hg⟩ := endD_some hf
  obtain ⟨fp, hfp⟩ := fps dn
  have hdl : ds.length = n := by simpa using h1
  have sl : ∀ {i d}, (none :: ds.map some ++ List.replicate (m - 1 - n) none)[i]? = some (some d) → ∃ j, i = j + 1 ∧ ds[j]? = some d := fun {i d} h => by
    cases i with
    | zero => cases h
    | succ j => exact ⟨j, rfl, slots_some (by simpa using h)⟩
  refine ⟨⟨some (p, q0), H, PP⟩, [], fun i => fp (i - 1), _, S0, o, _, ⟨fun i d hd => ?_, fun _ z => (nomatch z), fun i d hd a ha => ?_, fun _ z => (nomatch z), fun i j d e hi hij h1 _ => ?_, fun i d hi h1 => ?_, fun i d hi h1 => ?_, fun i d hi h1 => ?_, Ext.refl, fun a ha => ?_, pd, ⟨rfl, sa⟩, ?_⟩, h2, ?_⟩
  · obtain ⟨j, rfl, e⟩ := sl hd
    obtain ⟨v, e1, e2, _⟩ := hfp j d e
    refine ⟨v, ?_, e2⟩
    have := slots_at (k := N.length - (us.length + 1)) e1
    show (L2.start N (.ref p :: us))[j + 1]? = _
    unfold L2.start
    simpa using this
  · obtain ⟨j, rfl, e⟩ := sl hd
    obtain ⟨v, e1, e2, e3⟩ := hfp j d e
    exact av a (e3 a ha)
  · obtain ⟨j, rfl, e⟩ := sl h1
    have := (List.getElem?_eq_some_iff.mp e).1
    have := hmu _ hi
    omega
  · obtain ⟨j, rfl, e⟩ := sl h1
    have := (List.getElem?_eq_some_iff.mp e).1
    have := hmu _ hi
    omega
  · obtain ⟨j, rfl, e⟩ := sl h1
    have := (List.getElem?_eq_some_iff.mp e).1
    have := hmu _ hi
    omega
  · obtain ⟨j, rfl, e⟩ := sl h1
    have := (List.getElem?_eq_some_iff.mp e).1
    have := hmu _ hi
    omega
  · have z : a = p ∨ a = q0 := by simpa [Cc.R] using ha
    rcases z with rfl | rfl
    · exact pp
    · exact pq
  · show _ = (L2.start N (.ref p :: us)).length
    unfold L2.start
    have : us.length = n := by simpa using hl
    simp only [List.length_append, List.length_map, List.length_replicate, List.length_cons]
    omega
  · rcases hg with ⟨ρ, rfl, rfl⟩ | rfl
    · exact fun σ H' fp' ok' => q .non H' [] ok'.ext ok'.src.h .non (fun _ z => nomatch z) fun _ => ⟨List.nodup_nil, fun _ z => nomatch z⟩
    · exact fun v H' F' e sh d2 a2 o2 => q v H' F' e sh d2 a2 o2
end
end DL

/-! DS13: the law at its caller. -/
namespace DL
open PySem PySem.Spec PyProof.Rows L2

/-- the law, run where it is called, on a list of at most n numbers, answers True -/
def At1 (P : Program) (w : World) (K : PySem.W.Frag) (mg : Str → Option Value) (base : Heap) (fa : Addr) (n : Nat) : Prop := ∀ (s : Shared) (H : Hp) (a : Addr) (ns : List Int), Env0 P w K mg base callerA [] s H → SqL K H a (ns.map V.int) → ns.length ≤ n →
  codeAny (model P w) callerA (.call (.ref fa) ⟨[.ref a], []⟩) (CR CX0 [] P w H s (fun v _ => v = .bl true) E0) s
section
variable {P : Program} {w : World} {K : PySem.W.Frag} {mg : Str → Option Value} {base : Heap}
theorem at1_of {x qual y : Str} {st : Stmt} {fa : Addr} {fd : FuncData} {N : List Str} {k n : Nat} (F : Fun K x qual st fa fd) (S : FnScope N [y] (defScope st)) (hk : Room (k + 1) callerA) (bd : Binds K fd [y] [])
    (body : ∀ (cdv : Value) (s : Shared) (H : Hp) (a : Addr) (ns : List Int), Room k (callerA.deeper (envOfC qual (defScope st) s.heap.objs.size fa cdv)) → SqL K H a (ns.map V.int) → ns.length ≤ n →
      ∃ t, PSs (cxOf CX0 P w K mg base N qual (defScope st) fa cdv callerA [] s H E0).nox (defBody st) t ∧ t { nx := fun _ _ => False, rt := fun v _ => v = .bl true } (L2.start N [.ref a]) H) : At1 P w K mg base fa n := by
  obtain ⟨oc, od, kV, doc, pm, an, cdv, ct, osl, rfl, lk, hcd⟩ := F.ex
  intro s H a ns e0 hS hl
  have kin : K.In s.heap := e0.mod.kin.keeps fun b o e => (e0.bs b o e).1
  have nolim : s.heap.NoLimit := e0.mod.nolimit.keeps fun b o e => (e0.bs b o e).1
  have kinds : ∀ z ∈ ([y].zip [Value.ref a]), (defScope st).names.lookup z.1 = some .local ∨ ((defScope st).names.lookup z.1 = some .cell ∧ ((cellsFrom (s.heap.objs.size + 1) (defScope st).names []).lookup z.1).isSome = true) := by
    rintro ⟨n', v'⟩ hz
    exact (S.par n' (List.of_mem_zip hz).1).imp id fun q => ⟨q, PySem.W.cellsFrom_some _ _ _ (.inl q)⟩
  have bnd := bd s [.ref a] kin rfl
  rw [List.append_nil] at bnd
  refine codeAny_call_function hk.depth (kin _ _ lk) rfl S.co S.gen rfl (PySem.W.codeRec_of kin hcd) (bnd _ _ _ _ ?_)
  refine wpAny_newFunctionEnv_cells S.kind kinds fun env he s1 q1 => ?_
  subst he
  refine ⟨nolim.keeps q1.toInCall.keep, codeAny_func ?_⟩
  obtain ⟨t, ht, tq⟩ := body cdv s H a ns (hk.deeper _) hS hl
  have start_ := inv_start (CX := CX0) (E := E0) S hk.hd e0 rfl (.cons rfl .nil : Vals [V.ref a] [Value.ref a]) q1
  refine wpAny_mono (ht.nox.run [] s1 _ H _ start_ tq) (fun fl s' hs => ?_) fun e s' hs => hs
  cases fl with
  | ret u =>
    obtain ⟨v, σ', H', J, rv, q⟩ := hs
    exact ⟨v, H', J.os, J.bare, J.base, J.hok, rv, q⟩
  | next =>
    obtain ⟨_, _, _, q⟩ := hs
    exact q.elim
  | brk =>
    obtain ⟨_, _, _, q⟩ := hs
    exact q.elim
  | cont =>
    obtain ⟨_, _, _, q⟩ := hs
    exact q.elim

/-- what a heap hides keeps its namespaces, where the hidden is a list -/
theorem hid_ns {h : Heap} {H : Hp} {a : Addr} {vs : List Value} (ha : h.get? a = some { cls := .type "list", data := .seq vs.toArray }) (only : ∀ b, H b ≠ none → b = a) {b : Addr} {m : Str → Option Value} (n : h.Ns b m) : (hidT h H).Ns b m := by
  obtain ⟨o, es, ep, e, d, r⟩ := n
  refine ⟨o, es, ep, hidT_get e ?_, d, r⟩
  cases q : H b with
  | none => rfl
  | some u =>
    have eb : b = a := only b (by rw [q]; exact fun z => nomatch z)
    rw [eb, ha] at e
    cases e
    have d' : Data.seq vs.toArray _ = Data.dict es ep := d
    cases d'
theorem at_top {mb : Str → Option Value} {fa a : Addr} {n : Nat} {s₁ : Shared} {vs : List Value} {ns : List Int} (kin : K.In s₁.heap) (g : s₁.heap.Ns mainGlobals mg) (hb : s₁.heap.Ns builtinsNs mb) (hbb : ∀ x : Str, x ≠ "__name__" → mb x = bootBuiltins x)
    (lim : s₁.heap.NoLimit) (gens : s₁.gens = #[]) (ha : s₁.heap.get? a = some { cls := .type "list", data := .seq vs.toArray }) (hi : IntsAre vs ns) (hl : ns.length ≤ n) (hz : n ≤ sizeLine) (F : ∀ b : Heap, K.In b → b.Ns mainGlobals mg → At1 P w K mg b fa n) :
    codeAny (model P w) callerA (.call (.ref fa) ⟨[.ref a], []⟩) (fun r s' => r = .ok (.ret (.bool true)) ∧ OldK s₁.heap s'.heap ∧ s'.os = s₁.os ∧ AllBare s'.gens) s₁ := by
  have rv := vals_ints hi
  have go : ∀ H : Hp, (∀ b, H b ≠ none → b = a) → (∀ b o, H b = some o → ∃ z xs, o = .frz z (.lst xs)) → (H a ≠ none → K.lookup a = none) → HOk P w H s₁.heap → SqL K H a (ns.map V.int) →
      codeAny (model P w) callerA (.call (.ref fa) ⟨[.ref a], []⟩) (fun r s' => r = .ok (.ret (.bool true)) ∧ OldK s₁.heap s'.heap ∧ s'.os = s₁.os ∧ AllBare s'.gens) s₁ := by
    intro H only frz nk hok hS
    have kb : K.In (hidT s₁.heap H) := fun b o e => hidT_get (kin b o e) (by
      cases q : H b with
      | none => rfl
      | some u =>
        have nb : H b ≠ none := by rw [q]; exact fun z => nomatch z
        have eb := only b nb
        subst eb
        rw [nk nb] at e
        cases e)
    have gb : (hidT s₁.heap H).Ns mainGlobals mg := hid_ns ha only g
    have md : Mod K mg (hidT s₁.heap H) := by
      refine ⟨kb, gb, ⟨mb, hid_ns ha only hb, hbb⟩, ?_⟩
      obtain ⟨mc, q1, q2⟩ := lim
      exact ⟨mc, hid_ns ha only q1, q2⟩
    have e0 : Env0 P w K mg (hidT s₁.heap H) callerA [] s₁ H := ⟨rfl, md, fun b o e => of_hidT e, Nat.le_of_eq (hidT_size _ _), trivial, fun b z => absurd (show b ∈ ([] : List Addr) from z) (by simp), hok, .of_eq gens⟩
    refine codeAny_mono (F _ kb gb s₁ H a ns e0 hS hl) fun r s' h => ?_
    match r, h with
    | .error e, h => exact (h : False).elim
    | .ok .next, h => exact (h : False).elim
    | .ok .brk, h => exact (h : False).elim
    | .ok .cont, h => exact (h : False).elim
    | .ok (.ret u), h =>
      obtain ⟨v, H', os, bare, un, hok', rel, q⟩ := h
      have q' : v = .bl true := q
      subst q'
      have eu : u = Value.bool true := rel
      subst eu
      refine ⟨rfl, OldK.of_keep fun b o e => ?_, os, bare⟩
      cases q : H b with
      | none => exact un.keep b o e q (fun z => absurd (show b ∈ ([] : List Addr) from z) (by simp)) (by simp)
      | some u =>
        obtain ⟨z, xs, rfl⟩ := frz b u q
        obtain ⟨e1, _⟩ := hok b _ q
        obtain ⟨e2, _⟩ := hok' b _ (un.frzs b z _ q)
        rw [e] at e1
        cases e1
        exact e2
  have hz1 : ns.length ≤ sizeLine := Nat.le_trans hl hz
  cases hk : K.lookup a with
  | none =>
    let H : Hp := fun b => if b = a then some (.frz { cls := .type "list", data := .seq vs.toArray } (.lst (ns.map V.int))) else none
    have Ha : H a = some (.frz { cls := .type "list", data := .seq vs.toArray } (.lst (ns.map V.int))) := if_pos rfl
    have Hn : ∀ b, b ≠ a → H b = none := fun b nb => if_neg nb
    have only : ∀ b, H b ≠ none → b = a := fun b nb => Classical.byContradiction fun z => nb (Hn b z)
    refine go H only (fun b o e => ?_) (fun _ => hk) (fun b o e => ?_) (.inl (.inr ⟨_, Ha⟩))
    · have eb := only b (by rw [e]; exact fun z => nomatch z)
      subst eb
      rw [Ha] at e
      cases e
      exact ⟨_, _, rfl⟩
    · have eb := only b (by rw [e]; exact fun z => nomatch z)
      subst eb
      rw [Ha] at e
      cases e
      exact ⟨ha, by rw [List.length_map]; exact hz1, vs, _, rv, ha⟩
  | some o =>
    have e := kin a o hk
    rw [ha] at e
    cases e
    refine go (fun _ => none) (fun b z => absurd rfl z) (fun b o e => nomatch e) (fun z => absurd rfl z) (fun b o e => nomatch e) (.inr ⟨_, vs.toArray, _, hk, rfl, rfl, rfl, ?_, by simpa using rv⟩)
    rw [List.size_toArray, hi.length]
    exact hz1
end
/-- the goal behind the head -/
theorem walk_own {l : PySem.W.OpenLaw} {n : Nat} {q : Program} {loose : List Str} {XP : (Str → Option Value) → Heap → Prop} {YP : World → Heap → Prop} {d : DefRec} {K : Params → PySem.W.Frag}
    (hn : l.most = some n) (hz : n ≤ sizeLine) (hdf : d.params.defaults = []) (hY : ∀ (w : World) (h : Heap), YP w h → (K w.params).In h)
    (F : ∀ (w : World) (mg : Str → Option Value) (fa : Addr) (h : Heap), (K w.params).In h → h.Ns mainGlobals mg → mg d.name = some (.ref fa) → ∀ b : Heap, (K w.params).In b → b.Ns mainGlobals mg → At1 l.prog w (K w.params) mg b fa n) :
    PySem.W.WalkO q loose XP YP l.row.toRowW d [] (fun f vs => PySem.call f vs) := by
  refine Att.attach_call hn hdf fun w s₀ s₁ mg mb fa o pm cd doc a vs ns G Y _ _ _ hmg hobj hints hlen gens => ?_
  exact at_top (hY w _ Y) G.T.g G.T.b G.T.builtins G.T.nolimit gens hobj hints hlen hz (F w mg fa _ (hY w _ Y) G.T.g hmg)

/-! ### the law's first statement makes the source -/
def spOpen (K : PySem.W.Frag) : Sp := fun vs H Q _ => ∃ a ns, vs = [.ref a] ∧ SqL K H a (ns.map V.int) ∧ ns.length ≤ 63 ∧ ∀ H' p q, Ext [] H H' → SrcAt H' p q (openS ns) → Q (.ref p) H'
section
variable {P : Program} {w : World} {K : PySem.W.Frag} {mg : Str → Option Value} {base : Heap}
theorem law_core {m : Nat} {b : SF} {mu mu' : List Nat} {ns : List Int} {σ : St} {H : Hp} {p q : Addr} (hm : σ.length = m) (h1 : σ[1]? = some (some (.ref p))) (sa : SrcAt H p q (openS ns)) (hr : runLaw m b ns = some (.bool true)) :
    tDS K false ⟨mu, some 1⟩ ⟨mu', some 1⟩ ⟨[], some 1⟩ b { nx := fun _ _ => False, rt := fun v _ => v = .bl true } σ H := by
  unfold runLaw at hr
  obtain ⟨⟨o, S1⟩, e1, e2⟩ := Option.bind_eq_some_iff.mp hr
  obtain ⟨⟨r, S2⟩, e3, e4⟩ := Option.map_eq_some_iff.mp e2
  have e4 : r = .bool true := e4
  subst e4
  obtain ⟨rfl, hg⟩ := endD_some e3
  have no : ∀ {i d}, (List.replicate m (none : Option D))[i]? ≠ some (some d) := fun {i d} z => by
    rw [List.getElem?_replicate] at z
    split at z <;> cases z
  refine ⟨⟨some (p, q), H, fun a => a = p ∨ a = q⟩, [], fun _ => [], _, openS ns, o, _, ⟨fun i d h => absurd h no, fun _ z => (nomatch z), fun i d h => absurd h no, fun _ z => (nomatch z), fun i j d e _ _ h => absurd h no, fun i d _ h => absurd h no, fun i d _ h => absurd h no, fun i d _ h => absurd h no, Ext.refl, fun a ha => ?_, fun a z => ?_, ⟨h1, sa⟩, by rw [List.length_replicate, hm]⟩, e1, ?_⟩
  · have z : a = p ∨ a = q := by simpa [Cc.R] using ha
    exact z
  · rcases z with rfl | rfl
    · rw [sa.1]; exact fun z => nomatch z
    · rw [sa.2]; exact fun z => nomatch z
  · rcases hg with ⟨ρ, _, z⟩ | rfl
    · cases z
    · exact fun v H' F _ _ dn _ _ => by
        cases dn
        rfl
end
end DL

/-! DS14: the draws' source. -/
namespace DL
open PySem PySem.Spec PyProof.Rows L2

def SK.name : SK → Str
  | .left => "left"
  | .mixed => "mixed"
  | .turn => "turn"
abbrev srcL (q : Addr) (S : Src) : List (Key × V) := [(.inr "cells", .ref q), (.inr "left", .int S.left), (.inr "mixed", .int S.mixed), (.inr "turn", .int S.turn)]
theorem src_get (q : Addr) (S : Src) (k : SK) : valV (srcL q S) (.inr k.name) = some (.int (k.get S)) := by
  cases k <;> rfl
theorem src_cells (q : Addr) (S : Src) : valV (srcL q S) (.inr "cells") = some (.ref q) := rfl
theorem src_put (q : Addr) (S : Src) (k : SK) (i : Int) : putK (srcL q S) (.inr k.name) (.int i) = srcL q (k.set i S) := by
  cases k <;> rfl
section
variable {X : Cx} {ow : Bool} {G Gb : Sg} {pos apos cpos p p2 p3 : Pos} {e : Expr} {fe : EF} {m : Md} {i : Nat} {x : Str} {k : SK} {j : Nat}
theorem src_at {c : Cc} {S : Src} {σ : St} {H : Hp} (h : SrcOk G.sc c S σ H) (hsc : G.sc = some i) : ∃ p q, c.src = some (p, q) ∧ σ[i]? = some (some (.ref p)) ∧ SrcAt H p q S ∧ c.R = [p, q] := by
  unfold SrcOk at h
  rw [hsc] at h
  cases e : c.src with
  | none => rw [e] at h; exact h.elim
  | some pq =>
    obtain ⟨p, q⟩ := pq
    rw [e] at h
    exact ⟨p, q, rfl, h.1, h.2, by unfold Cc.R; rw [e]⟩
theorem src_mk {c : Cc} {S S' : Src} {σ : St} {H H' : Hp} {p q : Addr} (h : SrcOk G.sc c S σ H) (e : c.src = some (p, q)) (a : SrcAt H' p q S') : SrcOk G.sc c S' σ H' := by
  unfold SrcOk at h ⊢
  rw [e] at h ⊢
  cases q : G.sc with
  | none => rw [q] at h; exact h.elim
  | some i => rw [q] at h; exact ⟨h.1, a⟩
/-- source['left'] .. -/
theorem ev_src (hu : X.A.units + 1 < cLine) (hsc : G.sc = some i) (hN : X.N[i]? = some x) (hv : Vis X.env.scope x) (hd : (x == ("__debug__" : Str)) = false := by decide) (hcd : (x == ("__classdict__" : Str)) = false := by decide) (hs : NoSl (.Constant (.str k.name) j p2) := by exact fun _ _ => rfl) :
    EV X G .own (.Subscript (.Name x p) (.Constant (.str k.name) j p2) pos) (eSrc k) := by
  refine PE.mono (pe_dget hu (pe_var hN hv hd hcd) pe_str hs) fun σ H Q h => ?_
  obtain ⟨c, T, fp, ρ, S, d, S', ok, hf, q⟩ := h
  cases hf
  obtain ⟨p0, q0, e0, e1, sa, eR⟩ := src_at ok.src hsc
  exact ⟨.ref p0, e1, p0, _, rfl, .inl ⟨_, _, .inl sa.1, rfl, (src_get q0 S k).symm⟩, q _ H [] ok Ext.refl (.int _) av0 (ResOk.imm rfl)⟩
theorem ev_srcLen (hu : X.A.units + 1 < cLine) (hm2 : X.mg "len" = none) (hsc : G.sc = some i) (hN : X.N[i]? = some x) (hv : Vis X.env.scope x) (hd : (x == ("__debug__" : Str)) = false := by decide) (hcd : (x == ("__classdict__" : Str)) = false := by decide) (hs : NoSl (.Constant (.str "cells") j p2) := by exact fun _ _ => rfl)
    (hg : Gl X "len" := by rfl) (he : starEach [.Subscript (.Name x p) (.Constant (.str "cells") j p2) pos] X.env = (false, eval (.Subscript (.Name x p) (.Constant (.str "cells") j p2) pos) X.env) :: starEach [] X.env := by rfl) (hpl : (backTo cpos (starEach [] X.env)).any (·.1) = false := by rfl) :
    EV X G .own (.Call (.Name "len" p3) [.Subscript (.Name x p) (.Constant (.str "cells") j p2) pos] [] cpos) eSrcLen := by
  refine PE.mono (pe_callB call_len_seq hg hm2 PySem.boot_len (pa_cons (pe_dget hu (pe_var hN hv hd hcd) pe_str hs) pa_nil he) (by decide) (by decide) he hpl) fun σ H Q h => ?_
  obtain ⟨c, T, fp, ρ, S, d, S', ok, hf, q⟩ := h
  cases hf
  obtain ⟨p0, q0, e0, e1, sa, eR⟩ := src_at ok.src hsc
  refine ⟨.ref p0, e1, p0, _, rfl, .inl ⟨_, _, .inl sa.1, rfl, (src_cells q0 S).symm⟩, q0, _, rfl, .inl (.inl (.inl sa.2)), ?_⟩
  rw [List.length_map, List.length_reverse]
  exact q _ H [] ok Ext.refl (.int _) av0 (ResOk.imm rfl)
theorem sv_src (hu : X.A.units + 1 < cLine) (hsc : G.sc = some i) (hN : X.N[i]? = some x) (hv : Vis X.env.scope x) (he : EV X G m e fe) (hs : swapsWith e (some (.Subscript (.Name x p) (.Constant (.str k.name) j p2) apos)) pos.line X.env = pure false := by rfl) (hd : (x == ("__debug__" : Str)) = false := by decide) (hcd : (x == ("__classdict__" : Str)) = false := by decide) :
    SV X ow G G Gb (.Assign [.Subscript (.Name x p) (.Constant (.str k.name) j p2) apos] e pos) (sSrc k fe) := by
  refine PS.mono (ps_dput hu (pe_var hN hv hd hcd) pe_str he hs) fun D σ H h => ?_
  obtain ⟨c, T, fp, ρ, S, o, S', ok, hf, q⟩ := h
  obtain ⟨d, S1, h1, hf⟩ := M.bind_some hf
  split at hf
  · rename_i n _
    cases hf
    refine ⟨c, T, fp, ρ, S, _, S1, ok, h1, fun v H1 F ok1 ex dn av r => ?_⟩
    cases dn
    obtain ⟨p0, q0, e0, e1, sa, eR⟩ := src_at ok1.src hsc
    have h4 : (4 : Nat) < sizeLine := by show 4 < sizeLine; decide
    refine ⟨.ref p0, e1, p0, _, rfl, .inl ⟨_, .inr k.name, sa.1, rfl, h4, rfl⟩, q σ _ fp (ok1.step (Ext.poke (by rw [eR]; simp) fun xs z => by rw [sa.1] at z; cases z) (src_mk ok1.src e0 ?_))⟩
    have npq : q0 ≠ p0 := fun z => by
      have h1 := sa.1
      rw [← z, sa.2] at h1
      cases h1
    refine ⟨?_, ?_⟩
    · rw [upd_same]
      show some (HO.dK (putK (srcL q0 S1) (.inr k.name) (.int _))) = _
      rw [src_put]
    · rw [upd_ne npq]
      cases k <;> exact sa.2
  · exact (M.fail_some hf).elim
theorem drain_step {l c : Int} {cs : List Int} (h : l < 2) : drain l (c :: cs) = drain c cs := if_pos h
/-- source['left'] = source['cells'].pop() -/
theorem sv_srcPop {p4 p5 p6 : Pos} {j2 : Nat} (hu : X.A.units + 1 < cLine) (hsc : G.sc = some i) (hN : X.N[i]? = some x) (hv : Vis X.env.scope x) (hd : (x == ("__debug__" : Str)) = false := by decide) (hcd : (x == ("__classdict__" : Str)) = false := by decide) (hs1 : NoSl (.Constant (.str "cells") j2 p4) := by exact fun _ _ => rfl)
    (hbase : attributeBase (.Subscript (.Name x p3) (.Constant (.str "cells") j2 p4) p5) "pop" X.env (eval (.Subscript (.Name x p3) (.Constant (.str "cells") j2 p4) p5) X.env) = eval (.Subscript (.Name x p3) (.Constant (.str "cells") j2 p4) p5) X.env := by rfl) (hline : (p6.endLine == cpos.line) = true := by rfl)
    (hs : swapsWith (.Call (.Attribute (.Subscript (.Name x p3) (.Constant (.str "cells") j2 p4) p5) "pop" p6) [] [] cpos) (some (.Subscript (.Name x p) (.Constant (.str "left") j p2) apos)) pos.line X.env = pure false := by rfl) :
    SV X ow G G Gb (.Assign [.Subscript (.Name x p) (.Constant (.str "left") j p2) apos] (.Call (.Attribute (.Subscript (.Name x p3) (.Constant (.str "cells") j2 p4) p5) "pop" p6) [] [] cpos) pos) sSrcPop := by
  refine PS.mono (ps_dput hu (pe_var hN hv hd hcd) pe_str (pe_bm0 PySem.F.plainAttrs_list PySem.F.slot_list_pop PySem.F.type_list_pop mt_pop (pe_dget hu (pe_var hN hv hd hcd) pe_str hs1) hbase hline) hs) fun D σ H h => ?_
  obtain ⟨c, T, fp, ρ, S, o, S', ok, hf, q⟩ := h
  obtain ⟨p0, q0, e0, e1, sa, eR⟩ := src_at ok.src hsc
  have npq : q0 ≠ p0 := fun z => by
    have h1 := sa.1
    rw [← z, sa.2] at h1
    cases h1
  unfold sSrcPop at hf
  cases ec : S.cells with
  | nil => rw [ec] at hf; cases hf
  | cons c1 cs =>
    rw [ec] at hf
    cases hf
    have hq : H q0 = some (.lst (cs.reverse.map V.int ++ [.int c1])) := by
      rw [sa.2, ec]
      simp
    have h4 : (4 : Nat) < sizeLine := by show 4 < sizeLine; decide
    have ntq : ∀ xs, H q0 ≠ some (.tup xs) := fun xs z => by rw [hq] at z; cases z
    have ex1 : Ext c.R H (upd H q0 (.lst (cs.reverse.map V.int))) := Ext.poke (by rw [eR]; simp) ntq
    have hp2 : (upd H q0 (.lst (cs.reverse.map V.int))) p0 = some (.dK (srcL q0 S)) := by
      rw [upd_ne (Ne.symm npq)]
      exact sa.1
    refine ⟨.ref p0, e1, p0, _, rfl, .inl ⟨_, _, .inl sa.1, rfl, (src_cells q0 S).symm⟩, .inl ⟨rfl, _, .inl (.inl hq)⟩, q0, _, .int c1, rfl, rfl, hq, by simp, ?_⟩
    rw [List.dropLast_concat]
    refine ⟨.ref p0, e1, p0, _, rfl, .inl ⟨_, .inr "left", hp2, rfl, h4, rfl⟩, q σ _ fp (ok.step (ex1.trans (Ext.poke (by rw [eR]; simp) fun xs z => by rw [hp2] at z; cases z)) (src_mk ok.src e0 ⟨?_, ?_⟩))⟩
    · rw [upd_same]
      rfl
    · rw [upd_ne npq, upd_same, List.map_reverse]
/-- cells = source['cells']; while source['left'] < 2 and len(cells) > 0: source['left'] = cells.pop() -/
theorem drain_lt {l : Int} {cs : List Int} (h : ¬ l < 2) : drain l cs = (l, cs) := by
  cases cs with
  | nil => rfl
  | cons c r => exact if_neg h
theorem srcAt_ne {H : Hp} {p q : Addr} {S : Src} (sa : SrcAt H p q S) : q ≠ p := fun z => by
  have h1 := sa.1
  rw [← z, sa.2] at h1
  cases h1
theorem StOk.hide {K : PySem.W.Frag} {c : Cc} {T : List Tmp} {fp : Nat → List Addr} {ρ : Env} {S : Src} {σ : St} {H : Hp} {v : V} (ok : StOk K G c T fp ρ S σ H) (hsc : G.sc ≠ some i) : StOk K G c T fp (ρ.set i none) S (σ.set i (some v)) H := by
  have k := ok.kill (ks := [i])
  have e : DL.kill [i] ρ = ρ.set i none := rfl
  rw [e] at k
  refine ⟨fun j d h => ?_, k.tmp, k.av, k.tav, k.sep, k.tsep, k.nd, k.new, k.ext, k.hP, k.pd, k.src.set hsc, by simp [ok.len]⟩
  have nj : i ≠ j := fun z => by
    subst z
    rw [← e] at h
    exact (kill_some h).2 (by simp)
  rw [List.getElem?_set_ne nj]
  exact k.den j d h
theorem svs_drain {y : Str} {i2 : Nat} {pa pb pc pd pe pf pg ph pi pj pk pl pm pn po pp : Pos} {j0 j1 j2 j3 j4 : Nat} {rest : List Stmt} {f : SF} {Gn : Sg} (hp : PassesOwn (model X.prog X.w) X.A X.env X.xe) (hu : X.A.units + 1 < cLine) (hmL : X.mg "len" = none) (hsc : G.sc = some i) (hi2 : i2 ∉ G.mu) (h12 : i ≠ i2) (hNN : X.N.Nodup)
    (hN : X.N[i]? = some x) (hv : Vis X.env.scope x) (hN2 : X.N[i2]? = some y) (hv2 : Vis X.env.scope y) (hl2 : Loc X.env.scope y) (hf2 : X.fn y = true ∨ X.env.scope.names.lookup y = some .local)
    (hd : (x == ("__debug__" : Str)) = false) (hcd : (x == ("__classdict__" : Str)) = false) (hd2 : (y == ("__debug__" : Str)) = false) (hcd2 : (y == ("__classdict__" : Str)) = false)
    (hs0 : swapsWith (.Subscript (.Name x pa) (.Constant (.str "cells") j0 pb) pc) (some (.Name y pd)) pe.line X.env = pure false)
    (hg : Gl X "len") (hstar : starEach [.Name y pj] X.env = (false, eval (.Name y pj) X.env) :: starEach [] X.env) (hplain : (backTo pk (starEach [] X.env)).any (·.1) = false)
    (hbase : attributeBase (.Name y pm) "pop" X.env (eval (.Name y pm) X.env) = eval (.Name y pm) X.env) (hline : (pn.endLine == po.line) = true)
    (hs3 : swapsWith (.Call (.Attribute (.Name y pm) "pop" pn) [] [] po) (some (.Subscript (.Name x pl) (.Constant (.str "left") j4 pp) pf)) pg.line X.env = pure false)
    (hn1 : ∀ b, behindInMarks .Lt (.Constant (.int 2) j2 b) = false) (hn2 : ∀ b, behindInMarks .Gt (.Constant (.int 0) j3 b) = false)
    {q1 q2 q3 q4 q5 q6 q7 q8 : Pos} (hns1 : NoSl (.Constant (.str "cells") j0 pb)) (hns2 : NoSl (.Constant (.str "left") j1 q2)) (hr : SVs X ow G Gn Gb rest f) :
    SVs X ow G Gn Gb (.Assign [.Name y pd] (.Subscript (.Name x pa) (.Constant (.str "cells") j0 pb) pc) pe ::
      .While (.BoolOp .And [.Compare (.Subscript (.Name x q1) (.Constant (.str "left") j1 q2) q3) [.Lt] [.Constant (.int 2) j2 q4] q5, .Compare (.Call (.Name "len" ph) [.Name y pj] [] pk) [.Gt] [.Constant (.int 0) j3 q6] q7] q8)
        [.Assign [.Subscript (.Name x pl) (.Constant (.str "left") j4 pp) pf] (.Call (.Attribute (.Name y pm) "pop" pn) [] [] po) pg] [] pi :: rest) (sSeq (sDrain i2) f) := by
  have w1 := ps_set (pos := pe) (pos' := pd) hNN hN2 hl2 (pe_dget (pos := pc) hu (pe_var (pos := pa) hN hv hd hcd) (pe_str (X := X) (j := j0) (pos := pb) (x := "cells")) hns1) hs0 hf2
  have tst := pw_and (pos := q8) (pt_cmpR (pos := q5) op_lt (pe_dget (pos := q3) hu (pe_var (pos := q1) hN hv hd hcd) (pe_str (X := X) (j := j1) (pos := q2) (x := "left")) hns2) (pe_int (X := X) (i := 2) (j := j2) (pos := q4)) (hn1 q4))
    (pw_and1 (pos := q8) (pt_cmpR (pos := q7) op_gt (pe_callB (pos := pk) (p := ph) call_len_seq hg hmL PySem.boot_len (pa_cons (pe_var (pos := pj) hN2 hv2 hd2 hcd2) pa_nil hstar) (by decide) (by decide) hstar hplain) (pe_int (X := X) (i := 0) (j := j3) (pos := q6)) (hn2 q6)))
  have bod := pss_one (ps_dput (pos := pg) (pos' := pf) hu (pe_var (pos := pl) hN hv hd hcd) (pe_str (X := X) (j := j4) (pos := pp) (x := "left")) (pe_bm0 (cpos := po) PySem.F.plainAttrs_list PySem.F.slot_list_pop PySem.F.type_list_pop mt_pop (pe_var (pos := pm) hN2 hv2 hd2 hcd2) hbase hline) hs3)
  refine PSs.mono (pss_cons w1 (pss_cons (ps_while (pos := pi) hp tst.pt bod) hr)) fun D σ H h => ?_
  obtain ⟨c, T, fp, ρ, S, o, S', ok, hf, q⟩ := h
  obtain ⟨o1, S1, f1, hf⟩ := M.bind_some hf
  unfold sDrain at f1
  by_cases hi : i2 < ρ.length
  case neg => rw [if_neg hi] at f1; cases f1
  rw [if_pos hi] at f1
  cases f1
  rw [ok.len] at hi
  obtain ⟨p0, q0, e0, e1, sa, eR⟩ := src_at ok.src hsc
  have ok2 : StOk X.K G c T fp (ρ.set i2 none) S (σ.set i2 (some (.ref q0))) H := ok.hide (by rw [hsc]; exact fun z => h12 (Option.some.inj z))
  refine ⟨.ref p0, e1, p0, .ref q0, rfl, .inl ⟨_, .inr "cells", .inl sa.1, rfl, (src_cells q0 S).symm⟩, ?_⟩
  have s2 : (σ.set i2 (some (V.ref q0)))[i2]? = some (some (.ref q0)) := List.getElem?_set_self hi
  show tWhile _ _ _ (σ.set i2 (some (.ref q0))) H
  refine ⟨fun m σ' H' => σ' = σ.set i2 (some (.ref q0)) ∧ ∃ S2, StOk X.K G c T fp (ρ.set i2 none) S2 σ' H' ∧ S2.drained = S.drained ∧ m = S2.cells.length, ⟨_, rfl, S, ok2, rfl, rfl⟩, ?_⟩
  rintro m σ' H' ⟨rfl, S2, ok3, hS, rfl⟩
  obtain ⟨p1, q1', e0', e1', sa', eR'⟩ := src_at ok3.src hsc
  rw [e0] at e0'
  cases e0'
  have fin : S2.drained = S2 → tDS X.K ow G Gn Gb f D (σ.set i2 (some (.ref q0))) H' := fun z => by
    rw [hS] at z
    refine ⟨c, T, fp, _, S2, o, S', ok3, ?_, q⟩
    rw [← z]
    exact hf
  refine ⟨.ref p0, e1', p0, _, rfl, .inl ⟨_, .inr "left", .inl sa'.1, rfl, (src_get q0 S2 .left).symm⟩, S2.left, 2, rfl, rfl, _, rfl, ?_⟩
  by_cases hl : S2.left < 2
  · rw [decide_eq_true hl]
    refine iteT ⟨.ref q0, s2, q0, _, rfl, .inl (.inl (.inl sa'.2)), _, 0, rfl, rfl, _, rfl, ?_⟩
    cases ec : S2.cells with
    | nil =>
      refine iteF (fin ?_)
      unfold Src.drained
      rw [ec]
      cases S2
      cases ec
      rfl
    | cons c1 cs =>
      have hq : H' q0 = some (.lst (cs.reverse.map V.int ++ [.int c1])) := by
        rw [sa'.2, ec]
        simp
      have hpos : decide ((0 : Int) < (((c1 :: cs).reverse.map V.int).length : Nat)) = true := decide_eq_true (by simp)
      rw [hpos]
      refine iteT ⟨fun σ' H' => σ' = σ.set i2 (some (.ref q0)) ∧ ∃ S2, StOk X.K G c T fp (ρ.set i2 none) S2 σ' H' ∧ S2.drained = S.drained ∧ cs.length = S2.cells.length, fun σ' H' z => ⟨cs.length, by simp, z⟩, ?_⟩
      have npq := srcAt_ne sa'
      have h4 : (4 : Nat) < sizeLine := by show 4 < sizeLine; decide
      have ntq : ∀ xs, H' q0 ≠ some (.tup xs) := fun xs z => by rw [hq] at z; cases z
      have ex1 : Ext c.R H' (upd H' q0 (.lst (cs.reverse.map V.int))) := Ext.poke (by rw [eR]; simp) ntq
      have hp2 : (upd H' q0 (.lst (cs.reverse.map V.int))) p0 = some (.dK (srcL q0 S2)) := by
        rw [upd_ne (Ne.symm npq)]
        exact sa'.1
      refine ⟨.ref q0, s2, .inl ⟨rfl, _, .inl (.inl hq)⟩, q0, _, .int c1, rfl, rfl, hq, by simp, ?_⟩
      rw [List.dropLast_concat]
      refine ⟨.ref p0, e1', p0, _, rfl, .inl ⟨_, .inr "left", hp2, rfl, h4, rfl⟩, rfl, ({ S2 with left := c1, cells := cs } : Src), ok3.step (ex1.trans (Ext.poke (by rw [eR]; simp) fun xs z => by rw [hp2] at z; cases z)) (src_mk ok3.src e0 ⟨?_, ?_⟩), ?_, rfl⟩
      · rw [upd_same]
        rfl
      · rw [upd_ne npq, upd_same, List.map_reverse]
      · rw [← hS]
        unfold Src.drained
        rw [ec]
        simp only [drain_step hl]
  · rw [decide_eq_false hl]
    refine iteF (iteF (fin ?_))
    unfold Src.drained
    rw [drain_lt hl]
end
end DL

/-! DS15: turned slices, ranges made lists, calls in short. -/
namespace DL
open PySem PySem.Spec PyProof.Rows L2

/-! ### x[::-1] -/
theorem places_rev (n : Nat) : Builtin.Slice.slicePlaces ((n : Int) - 1) (-1) (-1) = n := by
  unfold Builtin.Slice.slicePlaces
  rw [if_neg (by decide)]
  by_cases h : (n : Int) - 1 > -1
  · rw [if_pos h]
    have e : ((n : Int) - 1 - -1 - 1) / -(-1) + 1 = n := by
      rw [Int.neg_neg, Int.ediv_one]
      omega
    rw [e]
    rfl
  · rw [if_neg h]
    omega
theorem pick_rev (xs : Array Value) : ((List.range xs.size).filterMap fun (k : Nat) => xs[(((xs.size : Nat) : Int) - 1 + (k : Int) * -1).toNat]?).toArray = xs.toList.reverse.toArray := by
  congr 1
  have e : (fun (k : Nat) => xs[(((xs.size : Nat) : Int) - 1 + (k : Int) * -1).toNat]?) = fun k => xs[xs.size - 1 - k]? := by
    funext k
    congr 1
    omega
  rw [e]
  apply List.ext_getElem?
  intro i
  have key : ∀ n, n ≤ xs.size → ((List.range n).filterMap fun k => xs[xs.size - 1 - k]?) = (xs.toList.reverse).take n := by
    intro n
    induction n with
    | zero => intro _; simp
    | succ n ih =>
      intro hn
      rw [List.range_succ, List.filterMap_append, ih (by omega)]
      have hlt : xs.size - 1 - n < xs.size := by omega
      have hr : xs.toList.reverse[n]? = some xs[xs.size - 1 - n] := by
        rw [List.getElem?_reverse (by rw [Array.length_toList]; omega)]
        simp
      rw [List.take_add_one, hr]
      simp [hlt]
  rw [key xs.size (Nat.le_refl _), List.take_of_length_le (by simp)]
section
variable {prog : Program} {w : World} {A : Around} {E : Value → Shared → Prop} {s : Shared}
theorem applied_rev {sl : Addr} {vs : Value} {n : Nat} {Q : Int × Int × Nat → Shared → Prop} (hs : s.heap.IsSliceOf sl .none .none vs) (ps : IsPart vs (some (-1)))
    (h : Q ((n : Int) - 1, -1, n) s) : wpAny (model prog w) A (Builtin.Slice.sliceApplied (.ref sl) (pure (n : Int))) Q E s := by
  obtain ⟨os, hos, hcs, hds⟩ := id hs
  unfold Builtin.Slice.sliceApplied Builtin.Slice.sliceFields
  refine wpAny_bind (wpAny_bind (wpAny_field hos hds (x := .none) rfl (wpAny_bind (wpAny_field hos hds (x := .none) rfl (wpAny_bind (wpAny_field hos hds (x := vs) rfl (wpAny_pure ?_)))))))
  refine wpAny_bind (HT.slicePart_ ps ?_)
  show wpAny _ _ (if ((-1 : Int) == 0) = true then _ else _) _ _ s
  rw [if_neg (by decide)]
  refine wpAny_bind (HT.slicePart_ .none (wpAny_bind (HT.slicePart_ .none (wpAny_bind (wpAny_pure ?_)))))
  show wpAny _ _ (pure ((n : Int) - 1, (-1 : Int), Builtin.Slice.slicePlaces ((n : Int) - 1) (-1) (-1))) _ _ s
  rw [places_rev]
  exact wpAny_pure h
theorem getItem_tuple_rev {t sl : Addr} {items : Array Value} {vs : Value} {Q : Value → Shared → Prop} (ht : IsTup s.heap t items) (hs : s.heap.IsSliceOf sl .none .none vs) (ps : IsPart vs (some (-1)))
    (h : Q (.ref s.heap.objs.size) { s with heap := s.heap.push { cls := .type "tuple", data := .seq items.toList.reverse.toArray } })
    (hsz : items.size ≤ sizeLine) : wpAny (model prog w) A (getItem (.ref t) (.ref sl)) Q E s := by
  have hz : sizeOk (.seq items.toList.reverse.toArray) := by
    show items.toList.reverse.toArray.size ≤ sizeLine
    simpa using hsz
  obtain ⟨os, hos, hcs, hds⟩ := id hs
  have hTs : s.TypeIs (.ref sl) "slice" := ⟨os, hos, hcs⟩
  unfold getItem
  try with_reducible refine wpAny_holding ?_
  first | refine wpAny_bind (wpAny_pure ?_) | skip
  refine wpAny_bind (wpAny_sequenceKey ht.typeIs (by decide) ?_)
  refine wpAny_bind (wpAny_callSpecial?_slot (name := Str.ofString "__getitem__") ht.typeIs PyProof.Rows.slot_tuple_getitem
    (wpAny_call_entry PyProof.Rows.slot_tuple_getitem ht.typeIs entry_tuple_getitem ?_ (args_tuple_getitem _ _)))
  show wpAny _ _ (Builtin.Tuple.tupleItemsOf (.ref t) >>= _) _ _ s
  refine wpAny_bind (tupleItemsOf_ ht ?_)
  refine wpAny_bind (wpAny_typeOf hTs ?_)
  rw [if_pos (by decide)]
  refine wpAny_bind (applied_rev hs ps ?_)
  have hno : ¬ ((((items.size : Nat) : Int) - 1 == 0 && (-1 : Int) == 1 && items.size == items.size) = true) := by
    intro q
    rw [Bool.and_eq_true, Bool.and_eq_true] at q
    exact absurd q.1.2 (by decide)
  show wpAny _ _ (if (((items.size : Nat) : Int) - 1 == 0 && (-1 : Int) == 1 && items.size == items.size) = true then _ else _) _ _ s
  rw [if_neg hno, pick_rev]
  first
    | exact wpAny_bind (m := Builtin.Tuple.tupleExact _) (wpAny_newObj_type (wpAny_pure ⟨_, rfl, wpAny_pure h⟩) hz)
    | exact wpAny_bind (m := Builtin.Tuple.tupleExact _) (wpAny_newObj_type (wpAny_bind (wpAny_pure (wpAny_pure ⟨_, rfl, wpAny_pure h⟩))) hz)
    | exact wpAny_bind (wpAny_bind (m := Builtin.Tuple.tupleExact _) (wpAny_newObj_type (wpAny_pure (wpAny_pure ⟨_, rfl, wpAny_pure h⟩)) hz))
    | exact wpAny_bind (wpAny_bind (m := Builtin.Tuple.tupleExact _) (wpAny_newObj_type (wpAny_pure ⟨_, rfl, wpAny_pure h⟩) hz))
end
def tRevA (K : PySem.W.Frag) (te : TE) : TE := fun σ H Q => te σ H fun x H1 => ∃ a xs, x = .ref a ∧ (SqL K H1 a xs ∧ (∀ p, H1 p = none → Q (.ref p) (upd H1 p (.lst xs.reverse))) ∨ SqT K H1 a xs ∧ ∀ p, H1 p = none → Q (.ref p) (upd H1 p (.tup xs.reverse)))
theorem pe_revA {X : Cx} {e : Expr} {te : TE} {k : Nat} {p1 p2 p3 pos : Pos} (he : PE X e te) : PE X (.Subscript e (.Slice none none (some (.UnaryOp .USub (.Constant (.int 1) k p1) p2)) p3) pos) (tRevA X.K te) := by
  refine ⟨fun pins s σ H Q I h => ?_⟩
  refine Subscript_ (thn (he.run pins s σ H _ I h) fun v s1 ⟨x, H1, I1, r1, q1⟩ => ?_)
  obtain ⟨a, xs, ex, q⟩ := q1
  subst ex
  cases r1
  have stp : PO X (some (.UnaryOp .USub (.Constant (.int 1) k p1) p2)) (tPart (tUn (rU fun i => .int (-i)) (tC (.int 1)))) := po_some (pe_un un_neg pe_int)
  refine wpAny_Slice (thn (po_none.run pins s1 σ H1 (fun o H2 => o = none ∧ H2 = H1) I1 ⟨rfl, rfl⟩) fun vl s2 ⟨l, H2, I2, pl, el, e2⟩ => ?_)
  subst el e2
  refine thn (po_none.run pins s2 σ H2 (fun o H3 => o = none ∧ H3 = H2) I2 ⟨rfl, rfl⟩) fun vu s3 ⟨u, H3, I3, pu, eu, e3⟩ => ?_
  subst eu e3
  refine thn (stp.run pins s3 σ H3 (fun o H4 => o = some (-1) ∧ H4 = H3) I3 ⟨1, rfl, -1, rfl, rfl, rfl⟩) fun vs s4 ⟨o, H4, I4, ps, eo, e4⟩ => ?_
  subst eo e4
  cases pl
  cases pu
  have I5 : Inv X pins σ H4 { s4 with heap := s4.heap.push { cls := .type "slice", data := .fields #[.none, .none, vs] } } := I4.kept (t' := s4.toks) fun b ob q => Heap.get?_push_of_some _ q
  show wpAny (model X.prog X.w) X.A (subscriptTail e (.Slice none none (some (.UnaryOp .USub (.Constant (.int 1) k p1) p2)) p3) (.ref a) (.ref s4.heap.objs.size)) (EP X pins σ Q) X.xe { s4 with heap := s4.heap.push { cls := .type "slice", data := .fields #[.none, .none, vs] } }
  rcases q with ⟨hx, q⟩ | ⟨hx, q⟩
  · obtain ⟨its, r, ht, hz⟩ := I5.list hx
    have hlen := r.length
    refine tail_any (ops := [.ref a, .ref s4.heap.objs.size]) ht.isList.typeIs (PySem.slot_list_getitem.lookup) ?_ (by with_unfolding_all rfl)
    refine wpAny_getItem_list_slice ht.isList (Heap.IsSliceOf.new _ .none .none vs) .none .none ps (by decide) ?_ (by rw [List.size_toArray]; omega)
    rw [PySem.W.krv_pick]
    refine ⟨.ref _, _, I5.laid (t' := s4.toks) (o := .lst xs.reverse) (fun b ob q => Heap.get?_push_of_some _ q) (Nat.le_refl _) ?_, rfl, q _ (I5.hok.fresh (Nat.le_refl _))⟩
    exact ⟨by rw [List.length_reverse]; exact hz, _, 0, r.reverse, Heap.get?_push_size _ rfl⟩
  · obtain ⟨its, r, ht, hz⟩ := I5.tuple hx
    have hlen := r.length
    refine tail_any (ops := [.ref a, .ref s4.heap.objs.size]) ht.typeIs (PyProof.Rows.slot_tuple_getitem.lookup) ?_ (by with_unfolding_all rfl)
    refine getItem_tuple_rev ht (Heap.IsSliceOf.new _ .none .none vs) ps ?_ (by rw [List.size_toArray]; omega)
    refine ⟨.ref _, _, I5.laid (t' := s4.toks) (o := .tup xs.reverse) (fun b ob q => Heap.get?_push_of_some _ q) (Nat.le_refl _) ?_, rfl, q _ (I5.hok.fresh (Nat.le_refl _))⟩
    exact ⟨by rw [List.length_reverse]; exact hz, _, r.reverse, ⟨_, Heap.get?_push_size _ rfl, rfl, _, rfl⟩⟩
section
variable {X : Cx} {G : Sg} {m ma : Md} {a b : Expr} {fa fb : EF} {pos p pos2 : Pos}
theorem DenL.rev {K : PySem.W.Frag} {H : Hp} : ∀ {vs : List V} {ds : List D} {F : List Addr}, DenL K H vs ds F → ∃ F', DenL K H vs.reverse ds.reverse F' ∧ ∀ z ∈ F', z ∈ F
  | _, _, _, .nil => ⟨[], .nil, fun _ z => z⟩
  | _, _, _, .cons (F := F) h l => by
    obtain ⟨F', l', hF⟩ := DenL.rev l
    rw [List.reverse_cons, List.reverse_cons]
    exact ⟨F' ++ F, l'.append (DenL.one h), fun z hz => (List.mem_append.mp hz).elim (fun q => List.mem_append_right _ (hF z q)) (List.mem_append_left _)⟩
theorem ev_revG {own : Bool} {k : Nat} {p1 p2 p3 : Pos} (hm : if own = true then m = .own else ma = .val ∧ m = .val) (ha : EV X G ma a fa) : EV X G m (.Subscript a (.Slice none none (some (.UnaryOp .USub (.Constant (.int 1) k p1) p2)) p3) pos) (DL.e1 (revD own) fa) := by
  refine PE.mono (pe_revA ha) fun σ H Q h => ?_
  obtain ⟨c, T, fp, ρ, S, d, S', ok, hf, q⟩ := h
  obtain ⟨x, S1, h1, hf⟩ := M.bind_some hf
  refine ⟨c, T, fp, ρ, S, x, S1, ok, h1, fun v H1 Fx ok1 e dx ax rx => ?_⟩
  have fin : ∀ {F' : List Addr}, (∀ z ∈ F', z ∈ Fx) → (own = true → F' = []) → ResOk G fp ρ H m F' := by
    intro F' h1 h2
    cases own with
    | true => exact ResOk.imm (h2 rfl)
    | false =>
      obtain ⟨rfl, rfl⟩ := hm
      exact fun i d hi hd z hz => rx i d hi hd z (h1 z hz)
  have nil : ∀ {F F' : List Addr} {vs : List V} {xs : List D}, (!own || immAll xs) = true → DenL X.K H1 vs xs F → (∀ z ∈ F', z ∈ F) → own = true → F' = [] := by
    intro F F' vs xs h1 l hF ho
    subst ho
    obtain rfl := l.imm (by simpa using h1)
    exact List.eq_nil_iff_forall_not_mem.mpr fun z hz => nomatch hF z hz
  unfold revD at hf
  split at hf
  · obtain ⟨hc, hf⟩ := M.chk_bind hf
    obtain ⟨rfl, rfl⟩ := M.pure_some hf
    cases dx with
    | tup e1 l =>
      obtain ⟨F', l', hF⟩ := l.rev
      refine ⟨_, _, rfl, .inr ⟨e1.sq, fun p n => ?_⟩⟩
      exact q _ _ F' (ok1.grow (Ext.new n)) (e.trans (Ext.new n)) (Den.newT n l') (fun z hz => ax z (hF z hz)) (fin hF (nil hc l hF))
  · obtain ⟨hc, hf⟩ := M.chk_bind hf
    obtain ⟨rfl, rfl⟩ := M.pure_some hf
    cases dx with
    | lst e1 l =>
      obtain ⟨F', l', hF⟩ := l.rev
      refine ⟨_, _, rfl, .inl ⟨.inl (.inl e1), fun p n => ?_⟩⟩
      refine q _ _ (p :: F') (ok1.grow (Ext.new n)) (e.trans (Ext.new n)) (Den.newL n l') (ok1.avc n fun z hz => ax z (List.mem_cons_of_mem _ (hF z hz))) ?_
      exact (fin (fun z hz => List.mem_cons_of_mem _ (hF z hz)) (nil hc l hF)).cons ok1 e l' n
  · exact (M.fail_some hf).elim
theorem ev_rev {k : Nat} {p1 p2 p3 : Pos} (ha : EV X G ma a fa) : EV X G .own (.Subscript a (.Slice none none (some (.UnaryOp .USub (.Constant (.int 1) k p1) p2)) p3) pos) (DL.e1 (revD true) fa) := ev_revG (own := true) rfl ha
theorem ev_revV {k : Nat} {p1 p2 p3 : Pos} (ha : EV X G .val a fa) : EV X G .val (.Subscript a (.Slice none none (some (.UnaryOp .USub (.Constant (.int 1) k p1) p2)) p3) pos) (DL.e1 (revD false) fa) := ev_revG (own := false) ⟨rfl, rfl⟩ ha

/-! ### list(range(..)), tuple(range(..)) -/
theorem rg_den {K : PySem.W.Frag} {H : Hp} (lo hi : Int) : DenL K H (rgV lo hi) (rngD lo hi) [] := by
  unfold rgV rngD
  generalize (List.range (hi - lo).toNat) = l
  induction l with
  | nil => exact .nil
  | cons x r ih => exact .cons (.int _) ih
theorem rg_ok {lo hi : Int} (h1 : rng62 lo = true) (h2 : rng62 hi = true) (h3 : fit (rngD lo hi).length = true) : RgOk lo hi := by
  have z := fit_le h3
  rw [rngD_len, sizeLine_eq] at z
  exact ⟨(rng62_of h1).1, (rng62_of h1).2, (rng62_of h2).1, (rng62_of h2).2, by omega⟩
theorem rg1_some {ρ : Env} {S S' : Src} {xs : List D} (h : wRange1 fa ρ S = some (xs, S')) : ∃ n, fa ρ S = some (.int n, S') ∧ rng62 n = true ∧ xs = rngD 0 n := by
  obtain ⟨x, S1, h1, hf⟩ := M.bind_some h
  cases x with
  | int n =>
    obtain ⟨h2, hf⟩ := M.chk_bind hf
    obtain ⟨rfl, rfl⟩ := M.pure_some hf
    exact ⟨n, h1, h2, rfl⟩
  | _ => exact (M.fail_some hf).elim
theorem rg2_some {ρ : Env} {S S' : Src} {xs : List D} (h : wRange2 fa fb ρ S = some (xs, S')) : ∃ n k S1, fa ρ S = some (.int n, S1) ∧ fb ρ S1 = some (.int k, S') ∧ rng62 n = true ∧ rng62 k = true ∧ xs = rngD n k := by
  obtain ⟨x, S1, h1, hf⟩ := M.bind_some h
  obtain ⟨y, S2, h2, hf⟩ := M.bind_some hf
  clear h
  cases x with
  | int n =>
    cases y with
    | int k =>
      obtain ⟨h3, hf⟩ := M.chk_bind hf
      obtain ⟨rfl, rfl⟩ := M.pure_some hf
      obtain ⟨h3, h4⟩ := and_true h3
      exact ⟨n, k, S1, h1, h2, h3, h4, rfl⟩
    | _ => exact (M.fail_some hf).elim
  | _ => exact (M.fail_some hf).elim
theorem ev_listRg1 (hc : X.calm = true) (hmL : X.mg "list" = none) (hmR : X.mg "range" = none) (ha : EV X G ma a fa) (hgL : Gl X "list" := by rfl) (hgR : Gl X "range" := by rfl) (na : starEach [a] X.env = (false, eval a X.env) :: starEach [] X.env := by rfl)
    (nb : starEach [.Call (.Name "range" p) [a] [] pos2] X.env = (false, eval (.Call (.Name "range" p) [a] [] pos2) X.env) :: starEach [] X.env := by rfl) {p3 : Pos} : EV X G .own (.Call (.Name "list" p3) [.Call (.Name "range" p) [a] [] pos2] [] pos) (eListOf (wRange1 fa)) := by
  refine PE.mono (pe_listRg hc hgL hmL (prg_1 hgR hmR ha na) nb) fun σ H Q h => ?_
  obtain ⟨c, T, fp, ρ, S, d, S', ok, hf, q⟩ := h
  obtain ⟨xs, S1, h1, hf⟩ := M.bind_some hf
  obtain ⟨hz, hf⟩ := M.chk_bind hf
  obtain ⟨rfl, rfl⟩ := M.pure_some hf
  obtain ⟨n, h2, h3, rfl⟩ := rg1_some h1
  refine ⟨c, T, fp, ρ, S, _, _, ok, h2, fun v H1 F ok1 e dn av r => ?_⟩
  cases dn
  refine ⟨n, rfl, rg_ok (by decide) h3 hz, fun p0 np => ?_⟩
  exact q _ _ [p0] (ok1.grow (Ext.new np)) (e.trans (Ext.new np)) (Den.newL np (rg_den _ _)) (ok1.av1 np) (ResOk.one (e.back0 ok1 np))
theorem ev_listRg2 {mb : Md} (hc : X.calm = true) (hmL : X.mg "list" = none) (hmR : X.mg "range" = none) (ha : EV X G ma a fa) (hb : EV X G mb b fb) (hgL : Gl X "list" := by rfl) (hgR : Gl X "range" := by rfl) (na : starEach [a, b] X.env = (false, eval a X.env) :: starEach [b] X.env := by rfl) (nb0 : starEach [b] X.env = (false, eval b X.env) :: starEach [] X.env := by rfl) (hp : (backTo pos2 (starEach [b] X.env)).any (·.1) = false := by rfl)
    (nb : starEach [.Call (.Name "range" p) [a, b] [] pos2] X.env = (false, eval (.Call (.Name "range" p) [a, b] [] pos2) X.env) :: starEach [] X.env := by rfl) {p3 : Pos} : EV X G .own (.Call (.Name "list" p3) [.Call (.Name "range" p) [a, b] [] pos2] [] pos) (eListOf (wRange2 fa fb)) := by
  refine PE.mono (pe_listRg hc hgL hmL (prg_2 hgR hmR ha hb na nb0 hp) nb) fun σ H Q h => ?_
  obtain ⟨c, T, fp, ρ, S, d, S', ok, hf, q⟩ := h
  obtain ⟨xs, S1, h1, hf⟩ := M.bind_some hf
  obtain ⟨hz, hf⟩ := M.chk_bind hf
  obtain ⟨rfl, rfl⟩ := M.pure_some hf
  obtain ⟨n, k, S2, h2, h3, h4, h5, rfl⟩ := rg2_some h1
  refine ⟨c, T, fp, ρ, S, _, _, ok, h2, fun v H1 F ok1 e dn av r => ?_⟩
  refine ⟨c, T, fp, ρ, S2, _, _, ok1, h3, fun v2 H2 F2 ok2 e2 dn2 av2 r2 => ?_⟩
  cases dn
  cases dn2
  refine ⟨n, k, rfl, rfl, rg_ok h4 h5 hz, fun p0 np => ?_⟩
  exact q _ _ [p0] (ok2.grow (Ext.new np)) ((e.trans e2).trans (Ext.new np)) (Den.newL np (rg_den _ _)) (ok2.av1 np) (ResOk.one ((e.trans e2).back0 ok2 np))
theorem ev_tupRg1 (hc : X.calm = true) (hmL : X.mg "tuple" = none) (hmR : X.mg "range" = none) (ha : EV X G ma a fa) (hgL : Gl X "tuple" := by rfl) (hgR : Gl X "range" := by rfl) (na : starEach [a] X.env = (false, eval a X.env) :: starEach [] X.env := by rfl)
    (nb : starEach [.Call (.Name "range" p) [a] [] pos2] X.env = (false, eval (.Call (.Name "range" p) [a] [] pos2) X.env) :: starEach [] X.env := by rfl) {p3 : Pos} : EV X G .own (.Call (.Name "tuple" p3) [.Call (.Name "range" p) [a] [] pos2] [] pos) (eTupOf (wRange1 fa)) := by
  refine PE.mono (pe_tupRg hc hgL hmL (prg_1 hgR hmR ha na) nb) fun σ H Q h => ?_
  obtain ⟨c, T, fp, ρ, S, d, S', ok, hf, q⟩ := h
  obtain ⟨xs, S1, h1, hf⟩ := M.bind_some hf
  obtain ⟨hz, hf⟩ := M.chk_bind hf
  obtain ⟨rfl, rfl⟩ := M.pure_some hf
  obtain ⟨n, h2, h3, rfl⟩ := rg1_some h1
  refine ⟨c, T, fp, ρ, S, _, _, ok, h2, fun v H1 F ok1 e dn av r => ?_⟩
  cases dn
  refine ⟨n, rfl, rg_ok (by decide) h3 hz, fun p0 np => ?_⟩
  exact q _ _ [] (ok1.grow (Ext.new np)) (e.trans (Ext.new np)) (Den.newT np (rg_den _ _)) av0 (ResOk.imm rfl)
end

/-! ### a def as it is called -/
structure Cal (P : Program) (w : World) (K : PySem.W.Frag) (mg : Str → Option Value) (base : Heap) (k : Nat) (x : Str) (sp : Sp) : Prop where
  ex : ∃ (f : Addr) (fd : FuncData) (ps : List Str), FnOk P w K mg base CX0 k f fd ps sp ∧ mg x = some (.ref f) ∧ PySem.W.keepIn K (.ref f) = true ∧ Binds K fd ps []
theorem Cal.mk' {P : Program} {w : World} {K : PySem.W.Frag} {mg : Str → Option Value} {base : Heap} {k : Nat} {x qual : Str} {st : Stmt} {sp : Sp} {f : Addr} {fd : FuncData} {ps : List Str} (F : Fun K x qual st f fd) (B : Binds K fd ps []) (m : mg x = some (.ref f)) (h : FnOk P w K mg base CX0 k f fd ps sp) : Cal P w K mg base k x sp := ⟨f, fd, ps, h, m, F.kp, B⟩
theorem Cal.up {P : Program} {w : World} {K : PySem.W.Frag} {mg : Str → Option Value} {base : Heap} {j k : Nat} {x : Str} {sp : Sp} (C : Cal P w K mg base j x sp) (h : j ≤ k) : Cal P w K mg base k x sp := by
  obtain ⟨f, fd, ps, F, r⟩ := C.ex
  exact ⟨f, fd, ps, F.mono h, r⟩
section
variable {X : Cx} {G : Sg} {m : Md} {a : Expr} {es : List Expr} {fs : LF} {pos p : Pos} {x : Str} {k n : Nat} {mf : List D → M D}
theorem runDef_len {q : Nat} {b : SF} {ds : List D} {S : Src} {r : D × Src} (h : runDef n q b ds S = some r) : ds.length = n := by
  obtain ⟨r1, r2⟩ := r
  obtain ⟨h1, _⟩ := M.chk_bind h
  simpa using h1
theorem runDefS_len {q : Nat} {b : SF} {ds : List D} {S : Src} {r : D × Src} (h : runDefS n q b ds S = some r) : ds.length = n := by
  obtain ⟨r1, r2⟩ := r
  obtain ⟨h1, _⟩ := M.chk_bind h
  simpa using h1
theorem ev_cal (C : Cal X.prog X.w X.K X.mg X.base k x (spD X.K n true mf)) (hr : Room k X.A) (hn : ∀ ds S r, mf ds S = some r → ds.length = n) (ha : AV X G .bor (a :: es) fs) (hg : Gl X x := by rfl) (hdb : (x == ("__debug__" : Str)) = false := by decide) (he : starEach (a :: es) X.env = (false, eval a X.env) :: starEach es X.env := by rfl) (hpl : (backTo pos (starEach es X.env)).any (·.1) = false := by rfl) : EV X G .own (.Call (.Name x p) (a :: es) [] pos) (eCall mf fs) := by
  obtain ⟨f, fd, ps, F, hm, hk, hb⟩ := C.ex
  exact ev_call F hr hg hm hk hb ha hn hdb he hpl
theorem ev_calB (C : Cal X.prog X.w X.K X.mg X.base k x (spD X.K n false mf)) (hr : Room k X.A) (hn : ∀ ds S r, mf ds S = some r → ds.length = n) (ha : AV X G .bor (a :: es) fs) (hg : Gl X x := by rfl) (hdb : (x == ("__debug__" : Str)) = false := by decide) (he : starEach (a :: es) X.env = (false, eval a X.env) :: starEach es X.env := by rfl) (hpl : (backTo pos (starEach es X.env)).any (·.1) = false := by rfl) : EV X G .bor (.Call (.Name x p) (a :: es) [] pos) (eCall mf fs) := by
  obtain ⟨f, fd, ps, F, hm, hk, hb⟩ := C.ex
  exact ev_callB F hr hg hm hk hb ha hn hdb he hpl
theorem ev_calM {i : Nat} {sx : Str} {ps1 : Pos} (C : Cal X.prog X.w X.K X.mg X.base k x (spM X.K n true mf)) (hr : Room k X.A) (hn : ∀ ds S r, mf ds S = some r → ds.length = n) (hsc : G.sc = some i) (hN : X.N[i]? = some sx) (hv : Vis X.env.scope sx) (ha : AV X G .bor es fs) (hg : Gl X x := by rfl) (hdb : (x == ("__debug__" : Str)) = false := by decide) (he : starEach (.Name sx ps1 :: es) X.env = (false, eval (.Name sx ps1) X.env) :: starEach es X.env := by rfl) (hpl : (backTo pos (starEach es X.env)).any (·.1) = false := by rfl)
    (hdb2 : (sx == ("__debug__" : Str)) = false := by decide) (hcd : (sx == ("__classdict__" : Str)) = false := by decide) : EV X G .own (.Call (.Name x p) (.Name sx ps1 :: es) [] pos) (eCallM mf fs) := by
  obtain ⟨f, fd, ps, F, hm, hk, hb⟩ := C.ex
  exact ev_callMG (own := true) rfl hsc hN hv F hr hg hm hk hb ha hn hdb he hpl hdb2 hcd
theorem ev_calMB {i : Nat} {sx : Str} {ps1 : Pos} (C : Cal X.prog X.w X.K X.mg X.base k x (spM X.K n false mf)) (hr : Room k X.A) (hn : ∀ ds S r, mf ds S = some r → ds.length = n) (hsc : G.sc = some i) (hN : X.N[i]? = some sx) (hv : Vis X.env.scope sx) (ha : AV X G .bor es fs) (hg : Gl X x := by rfl) (hdb : (x == ("__debug__" : Str)) = false := by decide) (he : starEach (.Name sx ps1 :: es) X.env = (false, eval (.Name sx ps1) X.env) :: starEach es X.env := by rfl) (hpl : (backTo pos (starEach es X.env)).any (·.1) = false := by rfl)
    (hdb2 : (sx == ("__debug__" : Str)) = false := by decide) (hcd : (sx == ("__classdict__" : Str)) = false := by decide) : EV X G .bor (.Call (.Name x p) (.Name sx ps1 :: es) [] pos) (eCallM mf fs) := by
  obtain ⟨f, fd, ps, F, hm, hk, hb⟩ := C.ex
  exact ev_callMG (own := false) rfl hsc hN hv F hr hg hm hk hb ha hn hdb he hpl hdb2 hcd
end
theorem hu1 {A : Around} {k : Nat} (hr : Room k A) : A.units + 1 < cLine := by have := hr.un; omega
theorem hu64 {A : Around} {k : Nat} (hr : Room k A) : A.units + 64 < cLine := by have := hr.un; omega
theorem hu128 {A : Around} {k : Nat} (hr : Room k A) : A.units + 128 < cLine := by have := hr.un; omega
end DL

/-! DS16: things taken out one by one, at random. -/
namespace DL
open PySem PySem.Spec PyProof.Rows L2

theorem eMix_some {i : Nat} {pick : List D → M D} {ρ : Env} {S S' : Src} {d : D} (h : eMix i pick ρ S = some (d, S')) : ∃ xs ys, ρ[i]? = some (some (.list xs)) ∧ immAll xs = true ∧ xs.length ≤ 16777216 ∧ mixD pick xs.length xs S = some (ys, S') ∧ d = .list ys := by
  unfold eMix at h
  rcases slot_cases (ρ := ρ) (i := i) with ⟨e, he⟩ | he | he
  · simp only [he] at h
    cases e with
    | list xs =>
      obtain ⟨h1, h⟩ := M.chk_bind h
      obtain ⟨h1, h2⟩ := and_true h1
      obtain ⟨ys, S1, h3, h⟩ := M.bind_some h
      obtain ⟨rfl, rfl⟩ := M.pure_some h
      exact ⟨xs, ys, he, h1, of_decide_eq_true h2, h3, rfl⟩
    | _ => exact (M.fail_some h).elim
  · simp only [he] at h
    exact (M.fail_some h).elim
  · simp only [he] at h
    exact (M.fail_some h).elim
theorem mixD_some {pick : List D → M D} {n : Nat} {xs ys : List D} {S S' : Src} (h : mixD pick (n + 1) xs S = some (ys, S')) : ∃ j p S1 zs, pick [.int xs.length] S = some (.int j, S1) ∧ ixD xs.length j = some p ∧ mixD pick n (xs.eraseIdx p) S1 = some (zs, S') ∧ ys = xs.getD p .none :: zs := by
  obtain ⟨x, S1, h1, hf⟩ := M.bind_some h
  cases x with
  | int j =>
    cases e : ixD xs.length j with
    | none => simp only [e] at hf; exact (M.fail_some hf).elim
    | some p =>
      simp only [e] at hf
      obtain ⟨zs, S2, h2, hf⟩ := M.bind_some hf
      obtain ⟨rfl, rfl⟩ := M.pure_some hf
      exact ⟨j, p, S1, zs, h1, e, h2, rfl⟩
  | _ => exact (M.fail_some hf).elim
theorem mixD_len {pick : List D → M D} : ∀ {n : Nat} {xs ys : List D} {S S' : Src}, mixD pick n xs S = some (ys, S') → ys.length = n
  | 0, _, _, _, _, h => by
    obtain ⟨rfl, _⟩ := M.pure_some h
    rfl
  | n + 1, _, _, _, _, h => by
    obtain ⟨j, p, S1, zs, _, _, h3, rfl⟩ := mixD_some h
    simp [mixD_len h3]
theorem ixD_lt {n p : Nat} {j : Int} (h : ixD n j = some p) : p < n := by
  unfold ixD at h
  split at h
  · cases h; omega
  · split at h
    · cases h; omega
    · cases h
theorem DenL.erase {K : PySem.W.Frag} {H : Hp} {vs : List V} {ds : List D} (p : Nat) (h : DenL K H vs ds []) : DenL K H (vs.eraseIdx p) (ds.eraseIdx p) [] := by
  have key : ∀ (F : List Addr) (p : Nat) (vs : List V) (ds : List D), DenL K H vs ds F → F = [] → DenL K H (vs.eraseIdx p) (ds.eraseIdx p) [] := by
    intro F p
    induction p generalizing F with
    | zero =>
      intro vs ds h e
      cases h with
      | nil => exact .nil
      | cons a b =>
        obtain ⟨rfl, rfl⟩ := List.append_eq_nil_iff.mp e
        simpa using b
    | succ p ih =>
      intro vs ds h e
      cases h with
      | nil => exact .nil
      | cons a b =>
        obtain ⟨rfl, rfl⟩ := List.append_eq_nil_iff.mp e
        exact .cons a (ih [] _ _ b rfl)
  exact key [] p vs ds h rfl
theorem DenL.get0 {K : PySem.W.Frag} {H : Hp} {vs : List V} {ds : List D} {p : Nat} (h : DenL K H vs ds []) (hp : p < ds.length) : ∃ v, vs[p]? = some v ∧ Den K H v (ds.getD p .none) [] := by
  obtain ⟨y, G, e1, e2, e3⟩ := h.get (List.getElem?_eq_getElem hp)
  have : G = [] := List.eq_nil_iff_forall_not_mem.mpr fun z hz => nomatch e3 z hz
  subst this
  refine ⟨y, e1, ?_⟩
  rw [List.getD_eq_getElem?_getD, List.getElem?_eq_getElem hp]
  exact e2
theorem wipe_set1 {σ : St} {il : Nat} {y : V} : L2.wipe ((L2.wipe σ [il]).set il (some y)) [il] = L2.wipe σ [il] := by
  show ((((σ.set il none).set il (some y))).set il none) = σ.set il none
  rw [List.set_set, List.set_set]
section
variable {K : PySem.W.Frag} {ow : Bool} {G Gn Gb : Sg} {i i0 il : Nat} {mf : List D → M D} {rl : List V → Hp → VK → Prop}
theorem mix_sem (hrl : ∀ (l : Addr) (vs : List V) (H : Hp) (Q : VK), H l = some (.lst vs) → Q (.int vs.length) H → rl [.ref l] H Q) (hi : i ∈ G.mu) (hsc : G.sc = some i0) (hil : il ≠ i) (hil0 : il ≠ i0) {D : Ends} {σ : St} {H : Hp} (h : tDS K ow G Gn Gb (sRet (eMix i mf)) D σ H) :
    tRet (tLc (iRng1 (tCons (tCB rl (tCons (tVar i) tNil)) tNil)) (L2.gName il) L2.tYes (tBM K "list" rPopAt (tVar i) (tCons (tCall (spM K 1 true mf) [] E0 (tCons (tVar i0) (tCons (tCB rl (tCons (tVar i) tNil)) tNil))) tNil)) [il]) D σ H := by
  obtain ⟨c, T, fp, ρ, S, o, S', ok, hf, q⟩ := h
  obtain ⟨d, S1, f1, hf⟩ := M.bind_some hf
  obtain ⟨rfl, rfl⟩ := M.pure_some hf
  obtain ⟨xs, ys, hx, him, hz, f2, rfl⟩ := eMix_some f1
  obtain ⟨v, q1, q2⟩ := ok.den i _ hx
  obtain ⟨l, vs, E, rfl, hE, hl, dl⟩ := lst_inv q2
  obtain rfl := dl.imm him
  obtain ⟨p, q0, e0, e1, sa, eR⟩ := src_at ok.src hsc
  have hlP : ¬ c.P l := ok.av i _ hx l (by rw [hE]; exact List.mem_cons_self)
  have l0 : c.H0 l = none := ok.new i _ hi hx l (by rw [hE]; exact List.mem_cons_self)
  have hlen := dl.length
  have nlR : l ∉ c.R := ok.notR hlP
  have s62 : (16777216 : Int) < 2 ^ 62 := by decide
  refine ⟨.ref l, q1, hrl l vs H _ hl ⟨(vs.length : Nat), rfl, by omega, by omega, fun x hx0 => ?_⟩⟩
  have nlx : x ≠ l := fun z => by rw [z, hl] at hx0; cases hx0
  have nxR : x ∉ c.R := fun z => ok.pd x (ok.hP x z) hx0
  have x0 : c.H0 x = none := ok.ext.nn hx0 nxR
  have sw : ∀ j : Nat, j ≠ il → ((L2.wipe σ [il]).set il (some (V.int 0)))[j]? = σ[j]? := fun j hj => by
    show ((σ.set il none).set il _)[j]? = _
    rw [List.getElem?_set_ne (Ne.symm hj), List.getElem?_set_ne (Ne.symm hj)]
  have sw' : ∀ (j : Nat) (y : V), j ≠ il → ((L2.wipe σ [il]).set il (some y))[j]? = σ[j]? := fun j y hj => by
    show ((σ.set il none).set il _)[j]? = _
    rw [List.getElem?_set_ne (Ne.symm hj), List.getElem?_set_ne (Ne.symm hj)]
  refine ⟨fun n m H' => m = vs.length - n ∧ n ≤ vs.length ∧ ∃ S2 us zs acc da, SrcAt H' p q0 S2 ∧ H' l = some (.lst us) ∧ DenL K H' us zs [] ∧ zs.length = vs.length - n ∧ H' x = some (.lst acc) ∧ DenL K H' acc da [] ∧ da.length = n ∧ Ext c.R c.H0 H' ∧ (∀ a, c.P a → H' a ≠ none) ∧ ∃ ws, mixD mf (vs.length - n) zs S2 = some (ws, S1) ∧ da ++ ws = ys, ⟨_, rfl, Nat.zero_le _, S, vs, xs, [], [], ?_, ?_, ?_, ?_, upd_same, .nil, rfl, ok.ext.pokeN x0, fun a z => upd_dom (ok.pd a z), ys, ?_, rfl⟩, ?_⟩
  · exact sa.ext (R := []) (Ext.new hx0) (by simp) (by simp)
  · rw [upd_ne (Ne.symm nlx)]
    exact hl
  · exact dl.ext (R := []) (Ext.new hx0) (by simp)
  · rw [← hlen]; rfl
  · rw [Nat.sub_zero, hlen]
    exact f2
  · rintro n m H' ⟨rfl, hn, S2, us, zs, acc, da, sa', hl', dz, lz, hx', dac, lda, ex, dom, ws, fm, hy⟩
    by_cases hlt : n < vs.length
    · refine .inr ⟨show n < ((vs.length : Nat) : Int).toNat by simpa using hlt, fun H'' => n + 1 ≤ vs.length ∧ ∃ S2 us zs acc da, SrcAt H'' p q0 S2 ∧ H'' l = some (.lst us) ∧ DenL K H'' us zs [] ∧ zs.length = vs.length - (n + 1) ∧ H'' x = some (.lst acc) ∧ DenL K H'' acc da [] ∧ da.length = n + 1 ∧ Ext c.R c.H0 H'' ∧ (∀ a, c.P a → H'' a ≠ none) ∧ ∃ ws, mixD mf (vs.length - (n + 1)) zs S2 = some (ws, S1) ∧ da ++ ws = ys, fun H'' z => ⟨vs.length - (n + 1), by omega, rfl, z⟩, fun y H2 hyl => ?_⟩
      obtain ⟨rfl, rfl⟩ := hyl
      refine ⟨wipe_set1, ?_⟩
      unfold L2.tYes
      simp only [if_true]
      have en : vs.length - n = (vs.length - (n + 1)) + 1 := by omega
      rw [en] at fm
      obtain ⟨j, p1, S3, ws', g1, g2, g3, rfl⟩ := mixD_some fm
      have hp1 := ixD_lt g2
      have hlu := dz.length
      refine ⟨.ref l, (sw' i _ (Ne.symm hil)).trans q1, .inl ⟨rfl, _, .inl (.inl hl')⟩, .ref p, (sw' i0 _ (Ne.symm hil0)).trans e1, .ref l, (sw' i _ (Ne.symm hil)).trans q1, hrl l us H2 _ hl' ?_⟩
      have npq := srcAt_ne sa'
      refine ⟨rfl, p, q0, [.int us.length], fun a => a = p ∨ a = q0, [.int us.length], [], S2, .int j, S3, rfl, sa', .inl rfl, .inr rfl, DenL.one (.int _), fun _ z => (nomatch z), fun a z => ?_, by rw [hlu]; exact g1, fun v3 H3 F3 ex3 sa3 dv3 _ _ => ?_⟩
      · rcases z with rfl | rfl
        · rw [sa'.1]; exact fun z => nomatch z
        · rw [sa'.2]; exact fun z => nomatch z
      have R2 : ∀ z ∈ [p, q0], z ∈ c.R := fun z hz => by rw [eR]; exact hz
      have hl3 : H3 l = some (.lst us) := ex3.keep l _ hl' fun z => nlR (R2 l z)
      have hx3 : H3 x = some (.lst acc) := ex3.keep x _ hx' fun z => nxR (R2 x z)
      have dz3 : DenL K H3 us zs [] := dz.ext ex3 fun _ z => nomatch z
      have da3 : DenL K H3 acc da [] := dac.ext ex3 fun _ z => nomatch z
      cases dv3
      obtain ⟨w, hw, dw⟩ := dz3.get0 hp1
      have g2' : seqIndex? j us.length = some p1 ∧ p1 < us.length ∧ -(us.length : Int) ≤ j ∧ j < us.length := ixN_seq (by rw [← ixD_eq, hlu]; exact g2)
      refine ⟨l, us, j, p1, w, rfl, rfl, hl3, by omega, by omega, g2'.1, hw, ?_⟩
      have ntl := not_tup hl3
      have hx4 : (upd H3 l (.lst (us.eraseIdx p1))) x = some (.lst acc) := by
        rw [upd_ne nlx]
        exact hx3
      have ntx := not_tup hx4
      have ex4 : Ext c.R c.H0 (upd (upd H3 l (.lst (us.eraseIdx p1))) x (.lst (acc ++ [w]))) := ((ex.trans (ex3.mono R2)).pokeN l0).pokeN x0
      have hne : p ≠ l ∧ q0 ≠ l ∧ p ≠ x ∧ q0 ≠ x := ⟨fun z => nlR (R2 l (by simp [z])), fun z => nlR (R2 l (by simp [z])), fun z => nxR (R2 x (by simp [z])), fun z => nxR (R2 x (by simp [z]))⟩
      refine ⟨acc, hx4, ?_, hlt, S3, us.eraseIdx p1, zs.eraseIdx p1, acc ++ [w], da ++ [zs.getD p1 .none], ⟨?_, ?_⟩, ?_, ?_, ?_, upd_same, ?_, ?_, ex4, fun a z => ?_, ws', g3, by rw [List.append_assoc]; exact hy⟩
      · rw [dac.length, lda, sizeLine_eq]
        omega
      · rw [upd_ne hne.2.2.1, upd_ne hne.1]; exact sa3.1
      · rw [upd_ne hne.2.2.2, upd_ne hne.2.1]; exact sa3.2
      · rw [upd_ne (Ne.symm nlx), upd_same]
      · exact ((dz3.erase p1).wr ntl fun z => nomatch z).wr ntx fun z => nomatch z
      · rw [List.length_eraseIdx_of_lt hp1, lz]; omega
      · exact ((da3.wr ntl fun z => nomatch z).append (DenL.one (dw.wr ntl fun z => nomatch z))).wr ntx fun z => nomatch z
      · rw [List.length_append, lda]; rfl
      · exact upd_dom (upd_dom (ex3.dom a (dom a z)))
    · have en : n = vs.length := by omega
      subst en
      rw [Nat.sub_self] at fm
      obtain ⟨rfl, rfl⟩ := M.pure_some fm
      rw [List.append_nil] at hy
      subst hy
      refine .inl ⟨by show ((vs.length : Nat) : Int).toNat ≤ vs.length; simp, ?_⟩
      refine q (.ref x) H' [x] ex ?_ (.lst hx' dac) (fun a ha z => ?_) fun _ => ⟨by simp, fun a ha => ?_⟩
      · unfold SrcH
        rw [e0]
        exact sa'
      · obtain rfl := List.mem_singleton.mp ha
        exact ok.pd a z hx0
      · obtain rfl := List.mem_singleton.mp ha
        exact x0
end
end DL

/-! DS17: short words for printed derivations. -/
namespace DL
open PySem PySem.Spec PyProof.Rows L2
section
variable {X : Cx} {G : Sg}
theorem v_ (i : Nat) {x : Str} {pos : Pos} (hN : X.N[i]? = some x := by rfl) (hv : Vis X.env.scope x := by first | exact Or.inl rfl | exact Or.inr (Or.inl rfl) | exact Or.inr (Or.inr rfl)) (hd : (x == ("__debug__" : Str)) = false := by decide)
    (hcd : (x == ("__classdict__" : Str)) = false := by decide) : EV X G .bor (.Name x pos) (eVar i) := ev_var hN hv hd hcd
theorem vV_ (i : Nat) {x : Str} {pos : Pos} (hN : X.N[i]? = some x := by rfl) (hv : Vis X.env.scope x := by first | exact Or.inl rfl | exact Or.inr (Or.inl rfl) | exact Or.inr (Or.inr rfl)) (hi : i ∉ G.mu := by decide) (hd : (x == ("__debug__" : Str)) = false := by decide)
    (hcd : (x == ("__classdict__" : Str)) = false := by decide) : EV X G .val (.Name x pos) (eVar i) := ev_varV hN hv hi hd hcd
end
end DL

/-! DS18: more rules. -/
namespace DL
open PySem PySem.Spec PyProof.Rows L2
section
variable {X : Cx} {ow : Bool} {G Gb : Sg} {m : Md} {pos : Pos}
/-- name = [.. for .. for ..] on one line -/
theorem sv_setLc2 {Gl : Sg} {i : Nat} {y : Str} {py : Pos} {elt tg iter tg1 iter1 : Expr} {ifs ifs1 : List Expr} {scope : Scope} {own : List (Str × Nat)} {vs1 gv gv1 : List Nat} {pos2 : Pos} {w w1 : LF} {g g1 : GF} {t t1 : TF} {fe : EF} (hc : X.calm = true) (hN : X.N.Nodup) (hy : X.N[i]? = some y) (hyl : X.env.scope.names.lookup y = some .local) (hm : (m = .val ∧ i ∉ G.mu) ∨ m = .own) (hsci : G.sc ≠ some i)
    (hsw : swapsWith (.ListComp elt [⟨tg, iter, ifs, 0⟩, ⟨tg1, iter1, ifs1, 0⟩] scope pos2) (some (.Name y py)) pos.line X.env = pure true) (hi : IV X G tg iter w) (ok : BlkOk X.N X.env.scope scope own) (hv : ∀ i ∈ vs1, i ∈ own.map (·.2)) (hvs : ∀ i ∈ gv, i ∈ own.map (·.2)) (hvs1 : ∀ i ∈ gv1, i ∈ vs1) (hsc : ∀ i ∈ own.map (·.2), G.sc ≠ some i) (hmu : ∀ i ∈ own.map (·.2), i ∉ G.mu)
    (hg : ∀ (s : Shared) (H : Hp) (C : Addr) (cl : List (Str × Addr)) (fp : List Addr), GV (X.blk s H scope (compEnvC scope cl C X.env) fp) G gv tg g) (ht : ∀ (s : Shared) (H : Hp) (C : Addr) (cl : List (Str × Addr)) (fp : List Addr), PTs (X.blk s H scope (compEnvC scope cl C X.env) fp) ifs (tDT X.K G t))
    (hi1 : ∀ (s : Shared) (H : Hp) (C : Addr) (cl : List (Str × Addr)) (fp : List Addr), IV (X.blk s H scope (compEnvC scope cl C X.env) fp) G tg1 iter1 w1)
    (hg1 : ∀ (s : Shared) (H : Hp) (C : Addr) (cl : List (Str × Addr)) (fp : List Addr), GV (X.blk s H scope (compEnvC scope cl C X.env) fp) G gv1 tg1 g1) (ht1 : ∀ (s : Shared) (H : Hp) (C : Addr) (cl : List (Str × Addr)) (fp : List Addr), PTs (X.blk s H scope (compEnvC scope cl C X.env) fp) ifs1 (tDT X.K G t1))
    (he : ∀ (s : Shared) (H : Hp) (C : Addr) (cl : List (Str × Addr)) (fp : List Addr), EV (X.blk s H scope (compEnvC scope cl C X.env) fp) G m elt fe) (hs : ∀ x, foldedSetIterable iter X.env x = pure x := by intro _; rfl) (hs1 : ∀ env x, foldedSetIterable iter1 env x = pure x := by intro _ _; rfl) :
    SV X ow G G Gl (.Assign [.Name y py] (.ListComp elt [⟨tg, iter, ifs, 0⟩, ⟨tg1, iter1, ifs1, 0⟩] scope pos2) pos) (sAsg (eComp2 (own.map (·.2)) vs1 w g t w1 g1 t1 fe) (gName i)) := by
  refine PS.mono (ps_setLc2 (g := tDG X.K G gv g) (tt := tDT X.K G t) (wi1 := tDI X.K G w1) (g1 := tDG X.K G gv1 g1) (tt1 := tDT X.K G t1) (te := tD X.K G m fe) hc hN hy hyl hsw hi ok hv hg ht hi1 hg1 ht1 he hs hs1) fun D σ H h => ?_
  rcases hm with ⟨rfl, hmi⟩ | rfl
  · exact lc_sem2 hvs hvs1 hv hsc hmu (set_sem hmi hsci h)
  · exact lc_sem2 hvs hvs1 hv hsc hmu (setM_sem hsci h)
theorem sqL_ext {K : PySem.W.Frag} {H H' : Hp} {a : Addr} {xs : List V} (h : SqL K H a xs) (e : Ext [] H H') : SqL K H' a xs := by
  rcases h with (h | ⟨z, h⟩) | h
  · exact .inl (.inl (e.keep _ _ h (by simp)))
  · exact .inl (.inr ⟨z, e.keep _ _ h (by simp)⟩)
  · exact .inr h
theorem ext_own {H0 H : Hp} {D : Addr} {o : HO} (e : Ext [] H0 H) (hn : H0 D = none) : Ext [] H0 (upd H D o) := by
  refine ⟨fun a u h n => ?_, fun a xs h => ?_, fun a h => upd_dom (e.dom a h)⟩
  · rw [upd_ne fun z => by rw [z, hn] at h; cases h]
    exact e.keep a u h n
  · rw [upd_ne fun z => by rw [z, hn] at h; cases h]
    exact e.tup a xs h
end
end DL

/-! DP: what terms evaluate to, in plain Lean. -/
namespace DL
open PySem

section runs
variable {α β : Type} {ρ : Env} {S : Src} {i : Nat}
theorem mbind (x : M α) (f : α → M β) (S : Src) : (x >>= f) S = (x S).bind fun p => f p.1 p.2 := rfl
theorem mpure (a : α) (S : Src) : (pure a : M α) S = some (a, S) := rfl
@[simp] theorem run_var : eVar i ρ S = (ρ[i]?).bind fun o => o.map fun d => (d, S) := by
  unfold eVar
  cases ρ[i]? with
  | none => rfl
  | some o => cases o <;> rfl
@[simp] theorem run_c {d : D} : eC d ρ S = some (d, S) := rfl
@[simp] theorem run_1 {op : D → M D} {f : EF} : e1 op f ρ S = (f ρ S).bind fun p => op p.1 p.2 := rfl
@[simp] theorem run_2 {op : D → D → M D} {f g : EF} : e2 op f g ρ S = (f ρ S).bind fun p => (g ρ p.2).bind fun q => op p.1 q.1 q.2 := rfl
@[simp] theorem run_3 {op : D → D → D → M D} {f g h : EF} : e3 op f g h ρ S = (f ρ S).bind fun p => (g ρ p.2).bind fun q => (h ρ q.2).bind fun r => op p.1 q.1 r.1 r.2 := rfl
theorem chk_run (b : Bool) (S : Src) : chk b S = if b = true then some ((), S) else none := by
  unfold chk
  split <;> rfl
@[simp] theorem run_imm {f : EF} : eImm f ρ S = (f ρ S).bind fun p => if imm p.1 = true then some (p.1, p.2) else none := by
  unfold eImm
  rw [mbind]
  congr 1
  funext p
  rw [mbind, chk_run]
  split <;> rfl
@[simp] theorem run_lnil : lNil ρ S = some ([], S) := rfl
@[simp] theorem run_lcons {f : EF} {g : LF} : lCons f g ρ S = (f ρ S).bind fun p => (g ρ p.2).bind fun q => some (p.1 :: q.1, q.2) := rfl
@[simp] theorem run_lstar {f : EF} {g : LF} : lStar f g ρ S = (f ρ S).bind fun p => (g ρ p.2).bind fun q => (seqOf p.1).bind fun ys => if immAll ys = true then some (ys ++ q.1, q.2) else none := by
  unfold lStar
  rw [mbind]
  congr 1
  funext p
  rw [mbind]
  congr 1
  funext q
  cases seqOf p.1 with
  | none => rfl
  | some ys =>
    show (chk _ >>= _) _ = _
    rw [mbind, chk_run]
    show _ = if _ then _ else _
    split <;> rfl
@[simp] theorem run_tup {f : LF} : eTup f ρ S = (f ρ S).bind fun p => if fit p.1.length = true then some (.tuple p.1, p.2) else none := by
  unfold eTup
  rw [mbind]
  congr 1
  funext p
  rw [mbind, chk_run]
  split <;> rfl
@[simp] theorem run_lst {f : LF} : eLst f ρ S = (f ρ S).bind fun p => if fit p.1.length = true then some (.list p.1, p.2) else none := by
  unfold eLst
  rw [mbind]
  congr 1
  funext p
  rw [mbind, chk_run]
  split <;> rfl
@[simp] theorem run_call {m : List D → M D} {f : LF} : eCall m f ρ S = (f ρ S).bind fun p => (m p.1 p.2).bind fun q => some (q.1, p.2) := by
  unfold eCall
  rw [mbind]
  congr 1
  funext p
  show Option.map _ _ = _
  cases m p.1 p.2 <;> rfl
@[simp] theorem run_callM {m : List D → M D} {f : LF} : eCallM m f ρ S = (f ρ S).bind fun p => m p.1 p.2 := rfl
@[simp] theorem run_if {c : TF} {f g : EF} : eIf c f g ρ S = (c ρ S).bind fun p => if p.1 = true then f ρ p.2 else g ρ p.2 := by
  unfold eIf
  rw [mbind]
  congr 1
  funext p
  split <;> rfl
@[simp] theorem run_eB {c : TF} : eB c ρ S = (c ρ S).bind fun p => some (.bool p.1, p.2) := rfl
def boolOf : D → Option Bool
  | .bool b => some b
  | _ => none
@[simp] theorem boolOf_bool (b : Bool) : boolOf (.bool b) = some b := rfl
@[simp] theorem run_tB {f : EF} : tB f ρ S = (f ρ S).bind fun p => (boolOf p.1).map fun b => (b, p.2) := by
  unfold tB
  rw [mbind]
  congr 1
  funext p
  cases p.1 <;> rfl
@[simp] theorem run_tNot {t : TF} : tNot t ρ S = (t ρ S).bind fun p => some (!p.1, p.2) := rfl
@[simp] theorem run_tAnd {t u : TF} : tAnd t u ρ S = (t ρ S).bind fun p => if p.1 = true then u ρ p.2 else some (false, p.2) := by
  unfold tAnd
  rw [mbind]
  congr 1
  funext p
  split <;> rfl
@[simp] theorem run_tOr {t u : TF} : tOr t u ρ S = (t ρ S).bind fun p => if p.1 = true then some (true, p.2) else u ρ p.2 := by
  unfold tOr
  rw [mbind]
  congr 1
  funext p
  split <;> rfl
@[simp] theorem run_tYes : tYes ρ S = some (true, S) := rfl
@[simp] theorem run_eAnd {f g : EF} : eAnd f g ρ S = (f ρ S).bind fun p => (boolOf p.1).bind fun b => if b = true then g ρ p.2 else some (.bool false, p.2) := by
  unfold eAnd
  rw [mbind]
  congr 1
  funext p
  cases p.1 with
  | bool b => cases b <;> rfl
  | _ => rfl
@[simp] theorem run_eOr {f g : EF} : eOr f g ρ S = (f ρ S).bind fun p => (boolOf p.1).bind fun b => if b = true then some (.bool true, p.2) else g ρ p.2 := by
  unfold eOr
  rw [mbind]
  congr 1
  funext p
  cases p.1 with
  | bool b => cases b <;> rfl
  | _ => rfl
@[simp] theorem run_not {b : Bool} : notD (.bool b) S = some (.bool (!b), S) := rfl
/-! operators -/
@[simp] theorem run_add {o : Bool} {a b : Int} : addD o (.int a) (.int b) S = some (.int (a + b), S) := rfl
@[simp] theorem run_addT {o : Bool} {a b : List D} : addD o (.tuple a) (.tuple b) S = if fit (a.length + b.length) = true ∧ (!o || (immAll a && immAll b)) = true then some (.tuple (a ++ b), S) else none := by
  unfold addD
  show (chk _ >>= _) _ = _
  rw [mbind, chk_run]
  by_cases h1 : fit (a.length + b.length) = true
  · rw [if_pos h1, Option.bind_some]
    show (chk _ >>= _) _ = _
    rw [mbind, chk_run]
    by_cases h2 : (!o || (immAll a && immAll b)) = true
    · rw [if_pos h2, if_pos ⟨h1, h2⟩]; rfl
    · rw [if_neg h2, if_neg (fun z => h2 z.2)]; rfl
  · rw [if_neg h1, if_neg (fun z => h1 z.1)]; rfl
@[simp] theorem run_addL {o : Bool} {a b : List D} : addD o (.list a) (.list b) S = if fit (a.length + b.length) = true ∧ (!o || (immAll a && immAll b)) = true then some (.list (a ++ b), S) else none := by
  unfold addD
  show (chk _ >>= _) _ = _
  rw [mbind, chk_run]
  by_cases h1 : fit (a.length + b.length) = true
  · rw [if_pos h1, Option.bind_some]
    show (chk _ >>= _) _ = _
    rw [mbind, chk_run]
    by_cases h2 : (!o || (immAll a && immAll b)) = true
    · rw [if_pos h2, if_pos ⟨h1, h2⟩]; rfl
    · rw [if_neg h2, if_neg (fun z => h2 z.2)]; rfl
  · rw [if_neg h1, if_neg (fun z => h1 z.1)]; rfl
@[simp] theorem run_sub {a b : Int} : subD (.int a) (.int b) S = some (.int (a - b), S) := rfl
theorem run_mul {a b : Int} (h : small64 a = true ∨ small64 b = true) : mulD (.int a) (.int b) S = some (.int (a * b), S) := by
  unfold mulD
  show (chk _ >>= _) _ = _
  rw [mbind, chk_run, if_pos (by simpa using h)]
  rfl
theorem run_fdiv {a b : Int} (h : b ≠ 0 ∧ b.natAbs < 1073741824) : fdivD (.int a) (.int b) S = some (.int (a.fdiv b), S) := by
  unfold fdivD
  show (chk _ >>= _) _ = _
  rw [mbind, chk_run, if_pos (by simpa using h)]
  rfl
theorem run_mod {a b : Int} (h : b ≠ 0) : modD (.int a) (.int b) S = some (.int (a.fmod b), S) := by
  unfold modD
  show (chk _ >>= _) _ = _
  rw [mbind, chk_run, if_pos (by simpa using h)]
  rfl
@[simp] theorem run_neg {a : Int} : negD (.int a) S = some (.int (-a), S) := rfl
@[simp] theorem run_int {a : Int} : intD (.int a) S = some (.int a, S) := rfl
@[simp] theorem run_intB {a : Bool} : intD (.bool a) S = some (.int (if a then 1 else 0), S) := rfl
@[simp] theorem run_max {a b : Int} : max2D (.int a) (.int b) S = some (.int (if b > a then b else a), S) := rfl
@[simp] theorem run_min {a b : Int} : min2D (.int a) (.int b) S = some (.int (if b < a then b else a), S) := rfl
@[simp] theorem run_cm {c : Cm} {a b : Int} : cmD c (.int a) (.int b) S = some (.bool (cmI c a b), S) := rfl
@[simp] theorem cm_lt {a b : Int} : cmI .lt a b = decide (a < b) := rfl
@[simp] theorem cm_le {a b : Int} : cmI .le a b = decide (a ≤ b) := rfl
@[simp] theorem cm_gt {a b : Int} : cmI .gt a b = decide (b < a) := rfl
@[simp] theorem cm_ge {a b : Int} : cmI .ge a b = decide (b ≤ a) := rfl
theorem run_eq {n : Bool} {x y : D} (hx : SeqAt.shaped x = true) (hy : SeqAt.shaped y = true) : eqD n x y S = some (.bool (if n = true then !PyData.eqv x y else PyData.eqv x y), S) := by
  unfold eqD
  rw [mbind, chk_run, if_pos (by rw [hx, hy]; rfl)]
  rfl
@[simp] theorem run_eqI {n : Bool} {a b : Int} : eqD n (.int a) (.int b) S = some (.bool (if n = true then !decide (a = b) else decide (a = b)), S) := by
  rw [run_eq (by rfl) (by rfl)]
  simp only [PyData.eqv]
  rfl
@[simp] theorem run_is {n : Bool} {x : D} : isD n x S = some (.bool (if n = true then !isNoneD x else isNoneD x), S) := rfl
@[simp] theorem run_isB {n c b : Bool} : isBD n c (.bool b) S = some (.bool (if n = true then !(b == c) else b == c), S) := rfl
@[simp] theorem isNone_none : isNoneD .none = true := rfl
@[simp] theorem isNone_tup {xs : List D} : isNoneD (.tuple xs) = false := rfl
@[simp] theorem isNone_int {a : Int} : isNoneD (.int a) = false := rfl
/-! items -/
@[simp] theorem seqOf_list {xs : List D} : seqOf (.list xs) = some xs := rfl
@[simp] theorem seqOf_tup {xs : List D} : seqOf (.tuple xs) = some xs := rfl
theorem ixD_nat {n k : Nat} (h : k < n) : ixD n (k : Int) = some k := by
  unfold ixD
  rw [if_pos (by omega), Int.toNat_natCast]
theorem ixD_last {n : Nat} (h : 0 < n) : ixD n (-1) = some (n - 1) := by
  unfold ixD
  rw [if_neg (by omega), if_pos (by omega)]
  congr 1
  omega
theorem run_idx {x d : D} {xs : List D} {i : Int} {k : Nat} (hx : seqOf x = some xs) (hk : ixD xs.length i = some k) (hd : xs[k]? = some d) : idxD x (.int i) S = some (d, S) := by
  show (match seqOf x with
    | some xs => match ((ixD xs.length i).bind fun j => xs[j]?) with
      | some d => pure d
      | none => fail
    | none => fail : M D) S = _
  simp only [hx, hk, Option.bind_some, hd]
  rfl
theorem run_idxT {d : D} {xs : List D} {k : Nat} (hd : xs[k]? = some d) : idxD (.tuple xs) (.int k) S = some (d, S) := run_idx rfl (ixD_nat (List.getElem?_eq_some_iff.mp hd).1) hd
theorem run_idxL {d : D} {xs : List D} {k : Nat} (hd : xs[k]? = some d) : idxD (.list xs) (.int k) S = some (d, S) := run_idx rfl (ixD_nat (List.getElem?_eq_some_iff.mp hd).1) hd
@[simp] theorem run_idxT0 {x : D} {xs : List D} : idxD (.tuple (x :: xs)) (.int 0) S = some (x, S) := run_idxT (k := 0) rfl
@[simp] theorem run_idxT1 {x y : D} {xs : List D} : idxD (.tuple (x :: y :: xs)) (.int 1) S = some (y, S) := run_idxT (k := 1) rfl
@[simp] theorem run_idxT2 {x y z : D} {xs : List D} : idxD (.tuple (x :: y :: z :: xs)) (.int 2) S = some (z, S) := run_idxT (k := 2) rfl
@[simp] theorem run_idxT3 {x y z u : D} {xs : List D} : idxD (.tuple (x :: y :: z :: u :: xs)) (.int 3) S = some (u, S) := run_idxT (k := 3) rfl
theorem run_lastL {d : D} {xs : List D} : idxD (.list (xs ++ [d])) (.int (-1)) S = some (d, S) := run_idx rfl (ixD_last (by simp)) (by simp)
theorem run_lastT {d : D} {xs : List D} : idxD (.tuple (xs ++ [d])) (.int (-1)) S = some (d, S) := run_idx rfl (ixD_last (by simp)) (by simp)
def intOf : D → Option Int
  | .int i => some i
  | _ => none
@[simp] theorem intOf_int {a : Int} : intOf (.int a) = some a := rfl
@[simp] theorem run_part0 : partD none ρ S = some (none, S) := rfl
@[simp] theorem run_part {f : EF} : partD (some f) ρ S = (f ρ S).bind fun p => (intOf p.1).map fun i => (some i, p.2) := by
  show (f ρ >>= _) S = _
  rw [mbind]
  congr 1
  funext p
  cases p.1 <;> rfl
@[simp] theorem run_eSlice {o : Bool} {f : EF} {lo hi : Option EF} : eSlice o f lo hi ρ S = (f ρ S).bind fun p => (partD lo ρ p.2).bind fun q => (partD hi ρ q.2).bind fun r => sliceD o q.1 r.1 p.1 r.2 := rfl
@[simp] theorem run_sliceT {o : Bool} {lo hi : Option Int} {xs : List D} : sliceD o lo hi (.tuple xs) S = if (!o || immAll xs) = true then some (.tuple (cutD xs lo hi), S) else none := by
  unfold sliceD
  show (chk _ >>= _) _ = _
  rw [mbind, chk_run]
  split <;> rfl
@[simp] theorem run_sliceL {o : Bool} {lo hi : Option Int} {xs : List D} : sliceD o lo hi (.list xs) S = if (!o || immAll xs) = true then some (.list (cutD xs lo hi), S) else none := by
  unfold sliceD
  show (chk _ >>= _) _ = _
  rw [mbind, chk_run]
  split <;> rfl
@[simp] theorem run_revT {o : Bool} {xs : List D} : revD o (.tuple xs) S = if (!o || immAll xs) = true then some (.tuple xs.reverse, S) else none := by
  unfold revD
  show (chk _ >>= _) _ = _
  rw [mbind, chk_run]
  split <;> rfl
@[simp] theorem run_revL {o : Bool} {xs : List D} : revD o (.list xs) S = if (!o || immAll xs) = true then some (.list xs.reverse, S) else none := by
  unfold revD
  show (chk _ >>= _) _ = _
  rw [mbind, chk_run]
  split <;> rfl
theorem cut_from {xs : List D} {k : Nat} : cutD xs (some (k : Int)) none = xs.drop k := by
  unfold cutD slD
  simp only [Int.natCast_nonneg, ↓reduceIte, Int.toNat_natCast]
  rw [List.take_of_length_le (by simp)]
  by_cases h : k ≤ xs.length
  · rw [Nat.min_eq_left h]
  · rw [Nat.min_eq_right (by omega), List.drop_of_length_le (Nat.le_refl _), List.drop_of_length_le (by omega)]
theorem cut_to {xs : List D} {k : Nat} : cutD xs none (some (k : Int)) = xs.take k := by
  unfold cutD slD
  simp only [Int.natCast_nonneg, ↓reduceIte, Int.toNat_natCast, List.drop_zero, Nat.sub_zero]
  by_cases h : k ≤ xs.length
  · rw [Nat.min_eq_left h]
  · rw [Nat.min_eq_right (by omega), List.take_of_length_le (Nat.le_refl _), List.take_of_length_le (by omega)]
theorem cut_mid {xs : List D} {j k : Nat} : cutD xs (some (j : Int)) (some (k : Int)) = (xs.drop j).take (k - j) := by
  unfold cutD slD
  simp only [Int.natCast_nonneg, ↓reduceIte, Int.toNat_natCast]
  by_cases h : j ≤ xs.length
  · rw [Nat.min_eq_left h]
    by_cases h2 : k ≤ xs.length
    · rw [Nat.min_eq_left h2]
    · rw [Nat.min_eq_right (by omega), List.take_of_length_le (by simp), List.take_of_length_le (by simp; omega)]
  · rw [Nat.min_eq_right (a := j) (by omega), List.drop_of_length_le (Nat.le_refl _), List.drop_of_length_le (by omega)]
    simp
/-! built-in functions -/
@[simp] theorem run_lenL {xs : List D} : lenD (.list xs) S = some (.int xs.length, S) := rfl
@[simp] theorem run_lenT {xs : List D} : lenD (.tuple xs) S = some (.int xs.length, S) := rfl
@[simp] theorem run_tuple {o : Bool} {x : D} : tupleD o x S = (seqOf x).bind fun xs => if (!o || immAll xs) = true then some (.tuple xs, S) else none := by
  unfold tupleD
  cases seqOf x with
  | none => rfl
  | some xs =>
    show (chk _ >>= _) _ = _
    rw [mbind, chk_run]
    show _ = if _ then _ else _
    split <;> rfl
@[simp] theorem run_list {o : Bool} {x : D} : listD o x S = (seqOf x).bind fun xs => if (!o || immAll xs) = true then some (.list xs, S) else none := by
  unfold listD
  cases seqOf x with
  | none => rfl
  | some xs =>
    show (chk _ >>= _) _ = _
    rw [mbind, chk_run]
    show _ = if _ then _ else _
    split <;> rfl
theorem intsOf_map (ns : List Int) : intsOf (ns.map .int) = some ns := by
  induction ns with
  | nil => rfl
  | cons n r ih => simp only [List.map_cons, intsOf, ih, Option.map_some]
theorem boolsOf_map (ns : List Bool) : boolsOf (ns.map .bool) = some ns := by
  induction ns with
  | nil => rfl
  | cons n r ih => simp only [List.map_cons, boolsOf, ih, Option.map_some]
theorem run_sum {x : D} {ns : List Int} (h : seqOf x = some (ns.map .int)) : sumD x S = some (.int ns.sum, S) := by
  unfold sumD
  rw [h, Option.bind_some, intsOf_map]
  rfl
theorem run_all {bs : List Bool} : allD (.list (bs.map .bool)) S = some (.bool (bs.all id), S) := by
  show (match boolsOf (bs.map .bool) with
    | some bs => pure (.bool (bs.all id))
    | none => fail : M D) S = _
  rw [boolsOf_map]
  rfl
theorem run_any {bs : List Bool} : anyD (.list (bs.map .bool)) S = some (.bool (bs.any id), S) := by
  show (match boolsOf (bs.map .bool) with
    | some bs => pure (.bool (bs.any id))
    | none => fail : M D) S = _
  rw [boolsOf_map]
  rfl
theorem run_sorted {x : D} {xs : List D} (h : seqOf x = some xs) (hs : sortable xs = true) (hi : immAll xs = true) : sortedD x S = some (.list (xs.mergeSort leD), S) := by
  unfold sortedD
  rw [h]
  show (chk _ >>= _) _ = _
  rw [mbind, chk_run, if_pos (by rw [hs, hi]; rfl)]
  rfl
theorem run_repr {x : D} (h1 : x.showable = true) (h2 : fit x.shown.length = true) (h3 : x.hasDict = false) (h4 : x.depth ≤ 64) : reprD x S = some (.str x.shown, S) := by
  unfold reprD
  rw [mbind, chk_run, if_pos (by rw [h1, h2, h3]; simpa using h4)]
  rfl
theorem run_best {F : D → List D → D} {x d : D} {ds : List D} (h : seqOf x = some (d :: ds)) (ha : alikes (d :: ds) = true) : bestD F x S = some (F d ds, S) := by
  unfold bestD
  rw [h]
  show (chk _ >>= _) _ = _
  rw [mbind, chk_run, if_pos ha]
  rfl
/-! what loops walk -/
@[simp] theorem run_wSeq {f : EF} : wSeq f ρ S = (f ρ S).bind fun p => (seqOf p.1).map fun xs => (xs, p.2) := by
  unfold wSeq
  rw [mbind]
  congr 1
  funext p
  cases seqOf p.1 <;> rfl
@[simp] theorem run_wRange1 {f : EF} : wRange1 f ρ S = (f ρ S).bind fun p => (intOf p.1).bind fun n => if rng62 n = true then some (rngD 0 n, p.2) else none := by
  unfold wRange1
  rw [mbind]
  congr 1
  funext p
  cases p.1 with
  | int n =>
    show (chk _ >>= _) _ = _
    rw [mbind, chk_run]
    show _ = if _ then _ else _
    split <;> rfl
  | _ => rfl
@[simp] theorem run_wRange2 {f g : EF} : wRange2 f g ρ S = (f ρ S).bind fun p => (g ρ p.2).bind fun q => (intOf p.1).bind fun a => (intOf q.1).bind fun b => if (rng62 a && rng62 b) = true then some (rngD a b, q.2) else none := by
  unfold wRange2
  rw [mbind]
  congr 1
  funext p
  rw [mbind]
  congr 1
  funext q
  cases p.1 with
  | int n =>
    cases q.1 with
    | int m =>
      show (chk _ >>= _) _ = _
      rw [mbind, chk_run]
      show _ = if _ then _ else _
      split <;> rfl
    | _ => rfl
  | _ => rfl
@[simp] theorem run_wEnum {f : EF} : wEnum f ρ S = (f ρ S).bind fun p => (seqOf p.1).map fun xs => (enumD 0 xs, p.2) := by
  unfold wEnum
  rw [mbind]
  congr 1
  funext p
  cases seqOf p.1 <;> rfl
@[simp] theorem run_listOf {w : LF} : eListOf w ρ S = (w ρ S).bind fun p => if fit p.1.length = true then some (.list p.1, p.2) else none := by
  unfold eListOf
  rw [mbind]
  congr 1
  funext p
  rw [mbind, chk_run]
  split <;> rfl
@[simp] theorem run_tupOf {w : LF} : eTupOf w ρ S = (w ρ S).bind fun p => if fit p.1.length = true then some (.tuple p.1, p.2) else none := by
  unfold eTupOf
  rw [mbind]
  congr 1
  funext p
  rw [mbind, chk_run]
  split <;> rfl
theorem rng_nat (n : Nat) : rngD 0 n = (List.range n).map fun (i : Nat) => (PyData.int i : D) := by
  unfold rngD
  simp
theorem rng_nat2 (a b : Nat) : rngD a b = (List.range' a (b - a)).map fun (i : Nat) => (PyData.int i : D) := by
  unfold rngD
  rw [List.range'_eq_map_range, List.map_map]
  have e : ((b : Int) - a).toNat = b - a := by omega
  rw [e]
  apply List.map_congr_left
  intro i _
  simp
theorem enum_map {γ : Type} (f : γ → D) (xs : List γ) (k : Nat) : enumD k (xs.map f) = (xs.zipIdx k).map fun p => PyData.tuple [.int p.2, f p.1] := by
  induction xs generalizing k with
  | nil => rfl
  | cons x r ih =>
    simp only [List.map_cons, enumD, List.zipIdx_cons]
    have := ih (k + 1)
    simp only [Int.natCast_add, Int.natCast_one] at this
    rw [this]
/-! targets, statements -/
@[simp] theorem run_gName {d : D} : gName i d ρ S = some (ρ.set i (some d), S) := rfl
@[simp] theorem run_gTup {gs : List GF} {xs : List D} : gTup gs (.tuple xs) ρ S = gAll gs xs ρ S := rfl
@[simp] theorem run_gAll0 : gAll [] [] ρ S = some (ρ, S) := rfl
@[simp] theorem run_gAll {g : GF} {gs : List GF} {d : D} {ds : List D} : gAll (g :: gs) (d :: ds) ρ S = (g d ρ S).bind fun p => gAll gs ds p.1 p.2 := rfl
@[simp] theorem run_next : sNext ρ S = some (.nx ρ, S) := rfl
def seqO (t : SF) : Out × Src → Option (Out × Src)
  | (.nx ρ', S) => t ρ' S
  | p => some p
@[simp] theorem seqO_nx {t : SF} : seqO t (.nx ρ, S) = t ρ S := rfl
@[simp] theorem seqO_rt {t : SF} {d : D} : seqO t (.rt d, S) = some (.rt d, S) := rfl
@[simp] theorem seqO_bk {t : SF} : seqO t (.bk ρ, S) = some (.bk ρ, S) := rfl
@[simp] theorem seqO_ct {t : SF} : seqO t (.ct ρ, S) = some (.ct ρ, S) := rfl
@[simp] theorem run_seq {s t : SF} : sSeq s t ρ S = (s ρ S).bind (seqO t) := by
  unfold sSeq
  rw [mbind]
  congr 1
  funext p
  obtain ⟨o, S1⟩ := p
  cases o <;> rfl
@[simp] theorem run_expr {f : EF} : sExpr f ρ S = (f ρ S).bind fun p => some (.nx ρ, p.2) := rfl
@[simp] theorem run_ret {f : EF} : sRet f ρ S = (f ρ S).bind fun p => some (.rt p.1, p.2) := rfl
@[simp] theorem run_break : sBreak ρ S = some (.bk ρ, S) := rfl
@[simp] theorem run_cont : sCont ρ S = some (.ct ρ, S) := rfl
@[simp] theorem run_sIf {c : TF} {s t : SF} : sIf c s t ρ S = (c ρ S).bind fun p => if p.1 = true then s ρ p.2 else t ρ p.2 := by
  unfold sIf
  rw [mbind]
  congr 1
  funext p
  split <;> rfl
@[simp] theorem run_asg {f : EF} {g : GF} : sAsg f g ρ S = (f ρ S).bind fun p => (g p.1 ρ p.2).bind fun q => some (.nx q.1, q.2) := rfl
@[simp] theorem run_par {is : List Nat} {f : LF} : sPar is f ρ S = (f ρ S).bind fun p => if (p.1.length == is.length) = true then some (.nx (setAll is p.1 ρ), p.2) else none := by
  unfold sPar
  rw [mbind]
  congr 1
  funext p
  rw [mbind, chk_run]
  split <;> rfl
@[simp] theorem setAll_cons {is : List Nat} {d : D} {ds : List D} : setAll (i :: is) (d :: ds) ρ = setAll is ds (ρ.set i (some d)) := rfl
@[simp] theorem setAll_nil {ds : List D} : setAll [] ds ρ = ρ := rfl
@[simp] theorem kill_nil : kill [] ρ = ρ := rfl
@[simp] theorem kill_cons {k : Nat} {ks : List Nat} : kill (k :: ks) ρ = kill ks (ρ.set k none) := rfl
@[simp] theorem run_turn {g : GF} {b : SF} {x : D} : turnD g b x ρ S = (g x ρ S).bind fun p => b p.1 p.2 := rfl
@[simp] theorem run_for {w : LF} {g : GF} {b : SF} : sFor w g b ρ S = (w ρ S).bind fun p => forD (turnD g b) p.1 ρ p.2 := rfl
@[simp] theorem run_while {N : Nat} {c : TF} {b : SF} : sWhile N c b ρ S = whileD c b N ρ S := rfl
def loopO (k : Env → Src → Option (Out × Src)) : Out × Src → Option (Out × Src)
  | (.nx ρ', S) => k ρ' S
  | (.ct ρ', S) => k ρ' S
  | (.bk ρ', S) => some (.nx ρ', S)
  | (.rt d, S) => some (.rt d, S)
@[simp] theorem loopO_nx {k : Env → Src → Option (Out × Src)} : loopO k (.nx ρ, S) = k ρ S := rfl
@[simp] theorem loopO_ct {k : Env → Src → Option (Out × Src)} : loopO k (.ct ρ, S) = k ρ S := rfl
@[simp] theorem loopO_bk {k : Env → Src → Option (Out × Src)} : loopO k (.bk ρ, S) = some (.nx ρ, S) := rfl
@[simp] theorem loopO_rt {k : Env → Src → Option (Out × Src)} {d : D} : loopO k (.rt d, S) = some (.rt d, S) := rfl
@[simp] theorem forD_nil {b : D → SF} : forD b [] ρ S = some (.nx ρ, S) := rfl
theorem forD_cons {b : D → SF} {x : D} {xs : List D} : forD b (x :: xs) ρ S = (b x ρ S).bind (loopO (forD b xs)) := by
  show (b x ρ >>= _) S = _
  rw [mbind]
  congr 1
  funext p
  obtain ⟨o, S1⟩ := p
  cases o <;> rfl
theorem whileD_succ {n : Nat} {c : TF} {b : SF} : whileD c b (n + 1) ρ S = (c ρ S).bind fun p => if p.1 = true then (b ρ p.2).bind (loopO (whileD c b n)) else some (.nx ρ, p.2) := by
  show (c ρ >>= _) S = _
  rw [mbind]
  congr 1
  funext p
  split
  · show (b ρ >>= _) p.2 = _
    rw [mbind]
    congr 1
    funext p
    obtain ⟨o, S1⟩ := p
    cases o <;> rfl
  · rfl
@[simp] theorem run_comp {vs : List Nat} {w : LF} {g : GF} {t : TF} {e : EF} : eComp vs w g t e ρ S = (w ρ S).bind fun p => (compD g t e (kill vs ρ) p.1 p.2).bind fun q => if fit q.1.length = true then some (.list q.1, q.2) else none := by
  unfold eComp
  rw [mbind]
  congr 1
  funext p
  rw [mbind]
  congr 1
  funext q
  rw [mbind, chk_run]
  split <;> rfl
@[simp] theorem run_comp2 {vs vs1 : List Nat} {w w1 : LF} {g g1 : GF} {t t1 : TF} {e : EF} : eComp2 vs vs1 w g t w1 g1 t1 e ρ S = (w ρ S).bind fun p => (compD2 vs1 g t w1 g1 t1 e (kill vs ρ) p.1 p.2).bind fun q => if fit q.1.length = true then some (.list q.1, q.2) else none := by
  unfold eComp2
  rw [mbind]
  congr 1
  funext p
  rw [mbind]
  congr 1
  funext q
  rw [mbind, chk_run]
  split <;> rfl
def listOf? : D → Option (List D)
  | .list xs => some xs
  | _ => none
theorem run_append {x : Nat} {fe : EF} {v : D} {S1 : Src} {xs : List D} (hv : fe ρ S = some (v, S1)) (hx : ρ[x]? = some (some (.list xs))) (hl : xs.length < sizeLine) : sAppend x fe ρ S = some (.nx (ρ.set x (some (.list (xs ++ [v])))), S1) := by
  unfold sAppend
  rw [mbind, hv, Option.bind_some]
  simp only [hx]
  rw [mbind, chk_run, if_pos (decide_eq_true hl)]
  rfl
theorem run_extend {x : Nat} {fe : EF} {ys : List D} {S1 : Src} {xs : List D} (hv : fe ρ S = some (.list ys, S1)) (hx : ρ[x]? = some (some (.list xs))) (hl : fit (xs.length + ys.length) = true) (hi : immAll ys = true) : sExtend x fe ρ S = some (.nx (ρ.set x (some (.list (xs ++ ys)))), S1) := by
  unfold sExtend
  rw [mbind, hv, Option.bind_some]
  simp only [hx]
  rw [mbind, chk_run, if_pos (by rw [hl, hi]; rfl)]
  rfl
theorem run_setIx {x : Nat} {fi fe : EF} {v : D} {S1 S2 : Src} {xs : List D} {i : Int} {k : Nat} (hv : fe ρ S = some (v, S1)) (hi : fi ρ S1 = some (.int i, S2)) (hx : ρ[x]? = some (some (.list xs))) (hk : ixD xs.length i = some k) :
    sSetIx x fi fe ρ S = some (.nx (ρ.set x (some (.list (xs.set k v)))), S2) := by
  unfold sSetIx
  rw [mbind, hv, Option.bind_some, mbind, hi, Option.bind_some]
  simp only [hx, putAt, hk, Option.map_some]
  rfl
theorem run_setIx2 {x : Nat} {fi fj fe : EF} {v : D} {S1 S2 S3 : Src} {xs ys : List D} {i j : Int} {k l : Nat} (hv : fe ρ S = some (v, S1)) (hi : fi ρ S1 = some (.int i, S2)) (hj : fj ρ S2 = some (.int j, S3)) (hx : ρ[x]? = some (some (.list xs))) (hk : ixD xs.length i = some k)
    (hy : xs[k]? = some (.list ys)) (hl : ixD ys.length j = some l) : sSetIx2 x fi fj fe ρ S = some (.nx (ρ.set x (some (.list (xs.set k (.list (ys.set l v)))))), S3) := by
  unfold sSetIx2
  rw [mbind, hv, Option.bind_some, mbind, hi, Option.bind_some, mbind, hj, Option.bind_some]
  simp only [hx, putAt, hk, Option.map_some, Option.bind_some, hy, hl]
  rfl
theorem run_def {n m : Nat} {b : SF} {ds : List D} (h : ds.length = n) : runDef n m b ds S = (b (ds.map some ++ List.replicate (m - n) none) S).bind fun p => endD p.1 p.2 := by
  unfold runDef
  rw [mbind, chk_run, if_pos (by simpa using h)]
  rfl
theorem run_defS {n m : Nat} {b : SF} {ds : List D} (h : ds.length = n) : runDefS n m b ds S = (b (none :: ds.map some ++ List.replicate (m - 1 - n) none) S).bind fun p => endD p.1 p.2 := by
  unfold runDefS
  rw [mbind, chk_run, if_pos (by simpa using h)]
  rfl
@[simp] theorem end_rt {d : D} : endD (.rt d) S = some (d, S) := rfl
@[simp] theorem end_nx : endD (.nx ρ) S = some (.none, S) := rfl
@[simp] theorem run_eSrc {k : SK} : eSrc k ρ S = some (.int (k.get S), S) := rfl
@[simp] theorem run_sSrc {k : SK} {f : EF} : sSrc k f ρ S = (f ρ S).bind fun p => (intOf p.1).map fun i => (.nx ρ, k.set i p.2) := by
  unfold sSrc
  rw [mbind]
  congr 1
  funext p
  cases p.1 <;> rfl
@[simp] theorem run_drain : sDrain i ρ S = if i < ρ.length then some (.nx (ρ.set i none), S.drained) else none := rfl
end runs

/-! ### loops -/
section loops
variable {α : Type} {b : D → SF}
theorem forD_inv (enc : α → D) (I : List α → Env → Src → Prop) (xs : List α) (hs : ∀ pre x suf ρ S, xs = pre ++ x :: suf → I pre ρ S → ∃ ρ' S', (b (enc x) ρ S = some (.nx ρ', S') ∨ b (enc x) ρ S = some (.ct ρ', S')) ∧ I (pre ++ [x]) ρ' S') :
    ∀ (pre suf : List α), xs = pre ++ suf → ∀ ρ S, I pre ρ S → ∃ ρ' S', forD b (suf.map enc) ρ S = some (.nx ρ', S') ∧ I xs ρ' S' := by
  intro pre suf
  induction suf generalizing pre with
  | nil => intro e ρ S h; refine ⟨ρ, S, rfl, ?_⟩; rw [e, List.append_nil]; exact h
  | cons x r ih =>
    intro e ρ S h
    obtain ⟨ρ1, S1, h1, h2⟩ := hs pre x r ρ S e h
    obtain ⟨ρ2, S2, h3, h4⟩ := ih (pre ++ [x]) (by rw [e, List.append_assoc]; rfl) ρ1 S1 h2
    refine ⟨ρ2, S2, ?_, h4⟩
    rw [List.map_cons, forD_cons]
    rcases h1 with h1 | h1 <;> rw [h1] <;> exact h3
/-- a loop that may return -/
theorem forD_ret (enc : α → D) (I : List α → Env → Src → Prop) (R : D → Src → Prop) (xs : List α) (hs : ∀ pre x suf ρ S, xs = pre ++ x :: suf → I pre ρ S → (∃ ρ' S', (b (enc x) ρ S = some (.nx ρ', S') ∨ b (enc x) ρ S = some (.ct ρ', S')) ∧ I (pre ++ [x]) ρ' S') ∨ ∃ d S', b (enc x) ρ S = some (.rt d, S') ∧ R d S') :
    ∀ (pre suf : List α), xs = pre ++ suf → ∀ ρ S, I pre ρ S → (∃ ρ' S', forD b (suf.map enc) ρ S = some (.nx ρ', S') ∧ I xs ρ' S') ∨ ∃ d S', forD b (suf.map enc) ρ S = some (.rt d, S') ∧ R d S' := by
  intro pre suf
  induction suf generalizing pre with
  | nil => intro e ρ S h; refine .inl ⟨ρ, S, rfl, ?_⟩; rw [e, List.append_nil]; exact h
  | cons x r ih =>
    intro e ρ S h
    rcases hs pre x r ρ S e h with ⟨ρ1, S1, h1, h2⟩ | ⟨d, S1, h1, h2⟩
    · have h5 : b (enc x) ρ S = some (.nx ρ1, S1) ∨ b (enc x) ρ S = some (.ct ρ1, S1) := h1
      rcases ih (pre ++ [x]) (by rw [e, List.append_assoc]; rfl) ρ1 S1 h2 with ⟨ρ2, S2, h3, h4⟩ | ⟨d, S2, h3, h4⟩
      · refine .inl ⟨ρ2, S2, ?_, h4⟩
        rw [List.map_cons, forD_cons]
        rcases h5 with h1 | h1 <;> rw [h1] <;> exact h3
      · refine .inr ⟨d, S2, ?_, h4⟩
        rw [List.map_cons, forD_cons]
        rcases h5 with h1 | h1 <;> rw [h1] <;> exact h3
    · refine .inr ⟨d, S1, ?_, h2⟩
      rw [List.map_cons, forD_cons, h1]
      rfl
variable {g g1 : GF} {t t1 : TF} {e : EF} {w : LF} {ρ : Env} {S : Src}
theorem compD_pure (enc F : α → D) (p : α → Bool) (xs : List α) (h : ∀ x ∈ xs, ∃ ρ', g (enc x) ρ S = some (ρ', S) ∧ t ρ' S = some (p x, S) ∧ (p x = true → e ρ' S = some (F x, S))) : compD g t e ρ (xs.map enc) S = some ((xs.filter p).map F, S) := by
  induction xs with
  | nil => rfl
  | cons x r ih =>
    obtain ⟨ρ', h1, h2, h3⟩ := h x (by simp)
    have ih := ih fun y hy => h y (by simp [hy])
    show (g (enc x) ρ >>= _) S = _
    rw [mbind, h1, Option.bind_some]
    show (t ρ' >>= _) S = _
    rw [mbind, h2, Option.bind_some]
    cases hp : p x with
    | false =>
      rw [List.filter_cons_of_neg (by simp [hp])]
      exact ih
    | true =>
      rw [List.filter_cons_of_pos hp]
      show (e ρ' >>= _) S = _
      rw [mbind, h3 hp, Option.bind_some]
      show (compD g t e ρ (r.map enc) >>= _) S = _
      rw [mbind, ih]
      rfl
theorem compD_all (enc F : α → D) (xs : List α) (h : ∀ x ∈ xs, ∃ ρ', g (enc x) ρ S = some (ρ', S) ∧ t ρ' S = some (true, S) ∧ e ρ' S = some (F x, S)) : compD g t e ρ (xs.map enc) S = some (xs.map F, S) := by
  rw [compD_pure enc F (fun _ => true) xs fun x hx => by obtain ⟨ρ', h1, h2, h3⟩ := h x hx; exact ⟨ρ', h1, h2, fun _ => h3⟩, List.filter_eq_self.mpr (by simp)]
theorem compD2_pure {vs1 : List Nat} (enc : α → D) (p : α → Bool) (Z : α → List D) (xs : List α) (h : ∀ x ∈ xs, ∃ ρ', g (enc x) ρ S = some (ρ', S) ∧ t ρ' S = some (p x, S) ∧ (p x = true → ∃ zs, w ρ' S = some (zs, S) ∧ compD g1 t1 e (kill vs1 ρ') zs S = some (Z x, S))) : compD2 vs1 g t w g1 t1 e ρ (xs.map enc) S = some ((xs.filter p).flatMap Z, S) := by
  induction xs with
  | nil => rfl
  | cons x r ih =>
    obtain ⟨ρ', h1, h2, h3⟩ := h x (by simp)
    have ih := ih fun y hy => h y (by simp [hy])
    show (g (enc x) ρ >>= _) S = _
    rw [mbind, h1, Option.bind_some]
    show (t ρ' >>= _) S = _
    rw [mbind, h2, Option.bind_some]
    cases hp : p x with
    | false =>
      rw [List.filter_cons_of_neg (by simp [hp])]
      exact ih
    | true =>
      obtain ⟨zs, h4, h5⟩ := h3 hp
      rw [List.filter_cons_of_pos hp]
      show (w ρ' >>= _) S = _
      rw [mbind, h4, Option.bind_some]
      show (compD g1 t1 e (kill vs1 ρ') zs >>= _) S = _
      rw [mbind, h5, Option.bind_some]
      show (compD2 vs1 g t w g1 t1 e ρ (r.map enc) >>= _) S = _
      rw [mbind, ih]
      rfl
end loops
/-! ### sizes -/
theorem fit_of {n : Nat} (h : n ≤ 16777216) : fit n = true := decide_eq_true h
end DL

/-! DQ: the draws; orders and tables as data. -/
namespace DL
open PySem

/-! ### imm -/
theorem immAll_iff {xs : List D} : immAll xs = true ↔ ∀ x ∈ xs, imm x = true := by
  induction xs with
  | nil => simp [immAll]
  | cons x r ih => simp [immAll, ih]
theorem immAll_map {α : Type} {f : α → D} {xs : List α} (h : ∀ x ∈ xs, imm (f x) = true) : immAll (xs.map f) = true := immAll_iff.mpr fun y hy => by
  obtain ⟨x, hx, rfl⟩ := List.mem_map.mp hy
  exact h x hx
theorem imm_tup {xs : List D} : imm (.tuple xs) = immAll xs := by simp only [imm]
@[simp] theorem imm_int {i : Int} : imm (.int i) = true := by simp only [imm]
@[simp] theorem imm_bool {i : Bool} : imm (.bool i) = true := by simp only [imm]
@[simp] theorem imm_str {i : Str} : imm (.str i) = true := by simp only [imm]
@[simp] theorem imm_none : imm .none = true := by simp only [imm]
@[simp] theorem immAll_nil : immAll [] = true := by simp only [immAll]
@[simp] theorem immAll_cons {x : D} {xs : List D} : immAll (x :: xs) = (imm x && immAll xs) := by simp only [immAll]
@[simp] theorem immAll_append {xs ys : List D} : immAll (xs ++ ys) = (immAll xs && immAll ys) := by
  induction xs with
  | nil => simp
  | cons x r ih => simp [ih, Bool.and_assoc]

/-! ### a row of natural numbers -/
abbrev nI (a : Nat) : D := .int (a : Int)
def nT (l : List Nat) : D := .tuple (l.map fun a => nI a)
theorem imm_nT (l : List Nat) : imm (nT l) = true := by
  unfold nT
  rw [imm_tup]
  exact immAll_map fun _ _ => imm_int
theorem immAll_nI (l : List Nat) : immAll (l.map fun a => nI a) = true := immAll_map fun _ _ => imm_int
@[simp] theorem seqOf_nT {l : List Nat} : seqOf (nT l) = some (l.map fun a => nI a) := rfl
@[simp] theorem run_len_nT {l : List Nat} {S : Src} : lenD (nT l) S = some (nI l.length, S) := by
  show some _ = _
  simp [nT]
theorem run_idx_nT {l : List Nat} {k a : Nat} {S : Src} (h : l[k]? = some a) : idxD (nT l) (.int k) S = some (nI a, S) := run_idxT (by rw [List.getElem?_map, h]; rfl)
theorem run_from_nT {l : List Nat} {k : Nat} {S : Src} : sliceD true (some (k : Int)) none (nT l) S = some (nT (l.drop k), S) := by
  unfold nT
  rw [run_sliceT, immAll_nI, cut_from, ← List.map_drop]
  rfl
theorem run_to_nT {l : List Nat} {k : Nat} {S : Src} : sliceD true none (some (k : Int)) (nT l) S = some (nT (l.take k), S) := by
  unfold nT
  rw [run_sliceT, immAll_nI, cut_to, ← List.map_take]
  rfl
theorem run_mid_nT {l : List Nat} {j k : Nat} {S : Src} : sliceD true (some (j : Int)) (some (k : Int)) (nT l) S = some (nT ((l.drop j).take (k - j)), S) := by
  unfold nT
  rw [run_sliceT, immAll_nI, cut_mid, ← List.map_drop, ← List.map_take]
  rfl
theorem run_rev_nT {l : List Nat} {S : Src} : revD true (nT l) S = some (nT l.reverse, S) := by
  unfold nT
  rw [run_revT, immAll_nI, ← List.map_reverse]
  rfl
theorem run_add_nT {o : Bool} {l m : List Nat} {S : Src} (h : l.length + m.length ≤ 16777216) : addD o (nT l) (nT m) S = some (nT (l ++ m), S) := by
  unfold nT
  rw [run_addT, if_pos, ← List.map_append]
  rw [immAll_nI, immAll_nI]
  exact ⟨fit_of (by simpa using h), by simp⟩
theorem enum_nT (l : List Nat) : enumD 0 (l.map fun a => nI a) = (l.zipIdx 0).map fun p => PyData.tuple [.int p.2, nI p.1] := enum_map (fun a => nI a) l 0

/-! ### tables -/
def trow (n : Nat) (f : Nat → Nat → Int) (a : Nat) : D := .tuple ((List.range n).map fun b => .int (f a b))
def tab (n : Nat) (f : Nat → Nat → Int) : D := .tuple ((List.range n).map fun a => trow n f a)
theorem run_tab {n a : Nat} {f : Nat → Nat → Int} {S : Src} (h : a < n) : idxD (tab n f) (.int a) S = some (trow n f a, S) := run_idxT (by simp [h])
theorem run_trow {n a b : Nat} {f : Nat → Nat → Int} {S : Src} (h : b < n) : idxD (trow n f a) (.int b) S = some (.int (f a b), S) := run_idxT (by simp [h])
@[simp] theorem run_len_tab {n : Nat} {f : Nat → Nat → Int} {S : Src} : lenD (tab n f) S = some (nI n, S) := by
  show some _ = _
  simp
theorem imm_trow {n a : Nat} {f : Nat → Nat → Int} : imm (trow n f a) = true := by
  unfold trow
  rw [imm_tup]
  exact immAll_map fun _ _ => imm_int
theorem imm_tab {n : Nat} {f : Nat → Nat → Int} : imm (tab n f) = true := by
  unfold tab
  rw [imm_tup]
  exact immAll_map fun _ _ => imm_trow
theorem run_of (x : D) (f : D → M D) (S : Src) : (some (x, S)).bind (fun p => f p.1 p.2) = f x S := rfl

/-! ### draws -/
/-- a number from 0 to n - 1 -/
def Picks (m : List D → M D) : Prop := ∀ (n : Nat) (S : Src), 1 ≤ n → n < 1073741824 → ∃ i : Nat, i < n ∧ ∃ S' : Src, m [.int n] S = some (.int i, S')
def pickA : SF := sSeq (sIf (tB (e2 (cmD .lt) (eVar 1) (eC (.int 2)))) (sRet (eC (.int 0))) (sNext)) (sSeq (sDrain 2) (sSeq (sAsg (eSrc .left) (gName 3)) (sSeq (sIf (tB (e2 (cmD .gt) (eVar 3) (eC (.int 1)))) (sSeq (sSrc .left (e2 fdivD (eVar 3) (eVar 1))) (sRet (e2 modD (e1 intD (eVar 3)) (eVar 1)))) (sNext)) (sSeq (sSrc .turn (e2 (addD true) (eSrc .turn) (eC (.int 1)))) (sSeq (sAsg (eSrc .turn) (gName 4)) (sSeq (sAsg (e2 modD (e1 intD (e2 (addD true) (eSrc .mixed) (e2 mulD (eVar 4) (eC (.int 104729))))) (eC (.int 998244353))) (gName 5)) (sSeq (sAsg (e2 modD (e1 intD (e2 (addD true) (e2 mulD (eVar 5) (eVar 5)) (e2 mulD (eVar 4) (eC (.int 17))))) (eC (.int 2147483647))) (gName 5)) (sRet (e2 modD (e1 intD (e2 fdivD (eVar 5) (eC (.int 16)))) (eVar 1))))))))))
theorem fmod_nat (i : Int) {n : Nat} (h : 1 ≤ n) : ∃ k : Nat, k < n ∧ i.fmod n = k := by
  have h1 := Int.fmod_nonneg_of_pos i (b := (n : Int)) (by omega)
  have h2 := Int.fmod_lt_of_pos i (b := (n : Int)) (by omega)
  exact ⟨(i.fmod n).toNat, by omega, by omega⟩
theorem picksA : Picks (runDefS 1 6 pickA) := by
  intro n S h1 h2
  rw [run_defS (by rfl)]
  show ∃ i : Nat, i < n ∧ ∃ S' : Src, (pickA [none, some (.int n), none, none, none, none] S).bind (fun p => endD p.1 p.2) = some (.int i, S')
  have hn : ((n : Int)) ≠ 0 ∧ (n : Int).natAbs < 1073741824 := ⟨by omega, by omega⟩
  unfold pickA
  by_cases h : n < 2
  · refine ⟨0, h1, S, ?_⟩
    have h3 : (n : Int) < 2 := by omega
    simp [h3]
  have h3 : ¬ (n : Int) < 2 := by omega
  by_cases hl : 1 < S.drained.left
  · obtain ⟨k, hk, e⟩ := fmod_nat S.drained.left h1
    refine ⟨k, hk, ?_⟩
    simp [h3, SK.get, hl, run_fdiv hn, run_mod hn.1, e]
  · obtain ⟨k, hk, e⟩ := fmod_nat ((Int.fmod ((Int.fmod (S.drained.mixed + (S.drained.turn + 1) * 104729) 998244353) * (Int.fmod (S.drained.mixed + (S.drained.turn + 1) * 104729) 998244353) + (S.drained.turn + 1) * 17) 2147483647).fdiv 16) h1
    refine ⟨k, hk, ?_⟩
    have s1 : small64 (Int.fmod (S.drained.mixed + (S.drained.turn + 1) * 104729) 998244353) = true := by
      have h1 := Int.fmod_nonneg_of_pos (S.drained.mixed + (S.drained.turn + 1) * 104729) (b := 998244353) (by omega)
      have h2 := Int.fmod_lt_of_pos (S.drained.mixed + (S.drained.turn + 1) * 104729) (b := 998244353) (by omega)
      exact decide_eq_true (by omega)
    have s2 : small64 104729 = true := by decide
    have s3 : small64 17 = true := by decide
    simp [h3, SK.get, SK.set, hl, run_fdiv (S := _) (a := _) (b := 16) (by decide), run_mod hn.1, run_mod (b := 998244353) (by decide), run_mod (b := 2147483647) (by decide), run_mul (.inr s2), run_mul (.inr s3), run_mul (.inl s1), e]
theorem cons_erase {α : Type} : ∀ (xs : List α) (i : Nat) (h : i < xs.length), (xs[i] :: xs.eraseIdx i).Perm xs
  | x :: r, 0, _ => by simp
  | x :: r, i + 1, h => by
    have hi : i < r.length := by simpa using h
    simp only [List.getElem_cons_succ, List.eraseIdx_cons_succ]
    exact (List.Perm.swap _ _ _).trans ((cons_erase r i hi).cons x)
/-- what the mixing gives is the same things in some order -/
theorem mix_perm {m : List D → M D} (hp : Picks m) : ∀ (k : Nat) (xs : List D) (S : Src), xs.length = k → k ≤ 16777216 → ∃ ys S', mixD m k xs S = some (ys, S') ∧ ys.Perm xs := by
  intro k
  induction k with
  | zero => intro xs S h _; exact ⟨[], S, rfl, by rw [List.length_eq_zero_iff.mp h]⟩
  | succ k ih =>
    intro xs S h hk
    obtain ⟨i, hi, S1, e1⟩ := hp xs.length S (by omega) (by omega)
    have hx : i < xs.length := hi
    obtain ⟨ys, S2, e2, p⟩ := ih (xs.eraseIdx i) S1 (by rw [List.length_eraseIdx, if_pos hx]; omega) (by omega)
    refine ⟨xs.getD i .none :: ys, S2, ?_, ?_⟩
    · show (m [.int xs.length] >>= _) S = _
      rw [mbind, e1, Option.bind_some]
      show (match ixD xs.length i with
        | some p => _
        | none => _ : M (List D)) S1 = _
      rw [ixD_nat hx]
      show (mixD m k (xs.eraseIdx i) >>= _) S1 = _
      rw [mbind, e2]
      rfl
    · have e3 : xs.getD i .none = xs[i] := by simp [hx]
      rw [e3]
      exact (p.cons _).trans (cons_erase xs i hx)
def anyOrderB (m : List D → M D) : SF := sSeq (sAsg (e1 (listD true) (eVar 1)) (gName 2)) (sRet (eMix 2 m))
theorem run_mixE {m : List D → M D} {ρ : Env} {S : Src} {i : Nat} {xs : List D} (hx : ρ[i]? = some (some (.list xs))) (h : immAll xs = true) (hl : xs.length ≤ 16777216) : eMix i m ρ S = (mixD m xs.length xs S).bind fun p => some (.list p.1, p.2) := by
  unfold eMix
  simp only [hx]
  rw [mbind, chk_run, if_pos (by rw [h]; simpa using hl)]
  rfl
theorem any_order {m : List D → M D} (hp : Picks m) {x : D} {xs : List D} {S : Src} (hx : seqOf x = some xs) (hi : immAll xs = true) (hl : xs.length ≤ 16777216) : ∃ ys S', runDefS 1 4 (anyOrderB m) [x] S = some (.list ys, S') ∧ ys.Perm xs := by
  obtain ⟨ys, S1, e, p⟩ := mix_perm hp xs.length xs S rfl hl
  refine ⟨ys, S1, ?_, p⟩
  rw [run_defS (by rfl)]
  show ((anyOrderB m) [none, some x, none, none] S).bind (fun p => endD p.1 p.2) = _
  unfold anyOrderB
  simp [hx, hi]
  rw [run_mixE (xs := xs) (by rfl) hi hl, e]
  rfl
theorem perm_map_inv {α β : Type} {f : α → β} : ∀ {xs : List α} {ys : List β}, ys.Perm (xs.map f) → ∃ zs : List α, zs.Perm xs ∧ ys = zs.map f := by
  intro xs ys p
  generalize e : xs.map f = l at p
  induction p generalizing xs with
  | nil => exact ⟨[], by rw [List.map_eq_nil_iff.mp e], rfl⟩
  | cons a p ih =>
    obtain ⟨x, r, rfl, h1, h2⟩ := List.map_eq_cons_iff.mp e
    obtain ⟨zs, h3, h4⟩ := ih h2
    exact ⟨x :: zs, h3.cons x, by rw [List.map_cons, h1, h4]⟩
  | swap a b l =>
    obtain ⟨x, r, rfl, h1, h2⟩ := List.map_eq_cons_iff.mp e
    obtain ⟨y, s, rfl, h3, h4⟩ := List.map_eq_cons_iff.mp h2
    exact ⟨y :: x :: s, List.Perm.swap .., by rw [List.map_cons, List.map_cons, h1, h3, h4]⟩
  | trans p1 p2 ih1 ih2 =>
    obtain ⟨zs, h1, h2⟩ := ih2 e
    obtain ⟨ws, h3, h4⟩ := ih1 h2.symm
    exact ⟨ws, h3.trans h1, h4⟩
def lawRowB (m : List D → M D) : SF := sRet (e1 (tupleD true) (eCallM m (lCons (eListOf (wRange1 (eVar 1))) (lNil))))
theorem rng62_nat {n : Nat} (h : n ≤ 16777216) : rng62 (n : Int) = true := by
  exact decide_eq_true (by omega)
theorem law_row {m : List D → M D} (hp : Picks m) {n : Nat} {S : Src} (hn : n ≤ 16777216) : ∃ o S', runDefS 1 2 (lawRowB (runDefS 1 4 (anyOrderB m))) [.int n] S = some (nT o, S') ∧ o.Perm (List.range n) := by
  obtain ⟨ys, S1, e, p⟩ := any_order (x := .list ((List.range n).map fun a => nI a)) (S := S) hp rfl (immAll_nI _) (by simpa using hn)
  obtain ⟨o, h1, rfl⟩ := perm_map_inv p
  refine ⟨o, S1, ?_, h1⟩
  rw [run_defS (by rfl)]
  show ((lawRowB _) [none, some (.int n)] S).bind (fun p => endD p.1 p.2) = _
  have w : eListOf (wRange1 (eVar 1)) [none, some (.int n)] S = some (.list ((List.range n).map fun a => nI a), S) := by
    have h1 := rng62_nat hn
    have h2 := fit_of hn
    rw [run_listOf, run_wRange1]
    simp only [run_var, List.getElem?_cons_succ, List.getElem?_cons_zero, Option.bind_some, Option.map_some, intOf_int, h1, ↓reduceIte, rng_nat, List.length_map, List.length_range, h2]
  unfold lawRowB
  rw [run_ret, run_1, run_callM, run_lcons, w]
  simp only [Option.bind_some, run_lnil, e, run_tuple, seqOf_list, immAll_nI, Bool.not_true, Bool.or_true, ↓reduceIte, end_rt]
  rfl
def lawOfB (m : List D → M D) : SF := sRet (eImm (e2 idxD (eVar 1) (eCallM m (lCons (e1 lenD (eVar 1)) (lNil)))))
theorem law_ofL {m : List D → M D} (hp : Picks m) {xs : List D} {S : Src} (h0 : xs ≠ []) (hl : xs.length ≤ 16777216) (hi : immAll xs = true) : ∃ (i : Nat) (x : D) (S' : Src), xs[i]? = some x ∧ runDefS 1 2 (lawOfB m) [.list xs] S = some (x, S') := by
  have h1 : 1 ≤ xs.length := by cases xs with
    | nil => exact absurd rfl h0
    | cons => simp
  obtain ⟨i, hi1, S1, e⟩ := hp xs.length S h1 (by omega)
  refine ⟨i, xs[i], S1, by simp [hi1], ?_⟩
  rw [run_defS (by rfl)]
  show ((lawOfB _) [none, some (.list xs)] S).bind (fun p => endD p.1 p.2) = _
  unfold lawOfB
  have e3 : ∀ S, idxD (.list xs) (.int i) S = some (xs[i], S) := fun S => run_idxL (by simp [hi1])
  have e4 : imm xs[i] = true := immAll_iff.mp hi _ (List.getElem_mem hi1)
  simp [e, e3, e4]
end DL

/-! DQ2: texts of data, the order of data. -/
namespace DL
open PySem

/-! ### repr -/
mutual
def tidy : D → Bool
  | .none | .bool _ => true
  | .int i => decide (i.natAbs < 1000000000000)
  | .list xs | .tuple xs => tidyAll xs
  | .str _ | .dict _ => false
def tidyAll : List D → Bool
  | [] => true
  | x :: xs => tidy x && tidyAll xs
end
mutual
def siz : D → Nat
  | .list xs | .tuple xs => sizAll xs + 1
  | .none | .bool _ | .int _ | .str _ | .dict _ => 1
def sizAll : List D → Nat
  | [] => 0
  | x :: xs => siz x + sizAll xs
end
theorem strOk_append (a b : Str) : PyData.strOk (a ++ b) = (PyData.strOk a && PyData.strOk b) := by
  show Array.all (a.cps ++ b.cps) _ = _
  rw [Array.all_append]
  rfl
theorem strOk_of (s : String) : PyData.strOk (Str.ofString s) = true := by
  rw [Str.ofString_eq_toList]
  show Array.all (s.toList.map Char.toNat).toArray _ = true
  rw [List.all_toArray, List.all_eq_true]
  intro x hx
  obtain ⟨c, _, rfl⟩ := List.mem_map.mp hx
  have h := c.valid
  have : c.toNat < 0x110000 := by
    rcases h with h | h
    · have : c.toNat < 0xd800 := h
      omega
    · exact h.2
  simpa using this
theorem strOk_textFrom : ∀ (ts : List Str) (k : Nat) (acc : Str), PyData.strOk acc = true → (∀ t ∈ ts, PyData.strOk t = true) → PyData.strOk (textFrom k acc ts) = true
  | [], _, _, h, _ => h
  | t :: ts, k, acc, h, ht => strOk_textFrom ts (k + 1) _ (by
      rw [strOk_append, strOk_append, h, ht t (by simp), strOk_of]
      rfl) fun x hx => ht x (by simp [hx])
theorem strOk_listText (ts : List Str) (h : ∀ t ∈ ts, PyData.strOk t = true) : PyData.strOk (listText ts) = true := by
  unfold listText
  rw [strOk_append, strOk_textFrom ts 0 _ (strOk_of "[") h, strOk_of]
  rfl
theorem strOk_join : ∀ (ts : List Str), (∀ t ∈ ts, PyData.strOk t = true) → PyData.strOk (Str.join ", " ts) = true
  | [], _ => by simp [Str.join, Str.empty, PyData.strOk]
  | [x], h => h x (by simp)
  | x :: y :: r, h => by
    show PyData.strOk (x ++ _ ++ Str.join _ (y :: r)) = true
    rw [strOk_append, strOk_append, h x (by simp), strOk_of, strOk_join (y :: r) fun t ht => h t (by simp [List.mem_cons.mp ht])]
    rfl
theorem strOk_tupleText (ts : List Str) (h : ∀ t ∈ ts, PyData.strOk t = true) : PyData.strOk (tupleText ts) = true := by
  unfold tupleText
  rw [strOk_append, strOk_append, strOk_of, strOk_join ts h, strOk_of]
  rfl
theorem len_listText (ts : List Str) : (listText ts).length ≤ 2 + piled ts := by
  cases ts with
  | nil =>
    show (("[" : Str) ++ ("]" : Str)).length ≤ _
    rw [strLen_append]
    have : (("[" : String) : Str).length = 1 := rfl
    have : (("]" : String) : Str).length = 1 := rfl
    omega
  | cons t r =>
    have h := textFrom_length_pos r 1 (("[" : Str) ++ (if (0 : Nat) > 0 then ", " else "" : String) ++ t) (Nat.succ_pos 0)
    have e : ((("[" : Str) ++ (if (0 : Nat) > 0 then ", " else "" : String) ++ t)).length = 1 + t.length := by
      rw [strLen_append, strLen_append]; rfl
    have hX : (listText (t :: r)).length = (textFrom 0 "[" (t :: r)).length + 1 := by
      show (textFrom 0 "[" (t :: r) ++ "]").length = _
      rw [strLen_append]; rfl
    have hY : (textFrom 0 "[" (t :: r)).length = (textFrom 1 (("[" : Str) ++ (if (0 : Nat) > 0 then ", " else "" : String) ++ t) r).length := rfl
    rw [hX, hY, h, e, piled_cons]
    omega
theorem len_tupleText (ts : List Str) : (tupleText ts).length ≤ 4 + piled ts := by
  unfold tupleText
  rw [strLen_append, strLen_append]
  have h1 : (("(" : String) : Str).length = 1 := rfl
  have h2 : ((if ts.length == 1 then ",)" else ")" : String) : Str).length ≤ 2 := by
    split
    · exact Nat.le_of_eq rfl
    · show (1 : Nat) ≤ 2
      omega
  by_cases h : ts = []
  · subst h
    have : (Str.join ", " []).length = 0 := rfl
    omega
  · have := join_length_add ts h
    omega
mutual
theorem tidy_shown : ∀ d : D, tidy d = true → d.showable = true ∧ d.hasDict = false ∧ PyData.strOk d.shown = true ∧ d.shown.length + 2 ≤ 16 * siz d
  | .none, _ => ⟨rfl, rfl, strOk_of _, by show ("None" : Str).length + 2 ≤ 16; decide⟩
  | .bool b, _ => ⟨rfl, rfl, by
      show PyData.strOk (if b then "True" else "False" : Str) = true
      cases b
      · exact strOk_of _
      · exact strOk_of _, by
      cases b
      · show ("False" : Str).length + 2 ≤ 16; decide
      · show ("True" : Str).length + 2 ≤ 16; decide⟩
  | .int i, h => by
    have h1 : i.natAbs < 1000000000000 := of_decide_eq_true (show decide _ = true from h)
    refine ⟨?_, rfl, strOk_of _, ?_⟩
    · show decide (i.natAbs.log2 < 1920) = true
      by_cases z : i.natAbs = 0
      · rw [z]; rfl
      · have : i.natAbs.log2 < 40 := (Nat.log2_lt z).mpr (Nat.lt_of_lt_of_le h1 (by decide))
        exact decide_eq_true (by omega)
    · show (Str.ofString (toString i)).length + 2 ≤ 16 * 1
      have h2 := int_text_length_le10 (a := i) (k := 12) (by omega) h1
      have h3 : (Str.ofString (toString i)).length = (toString i).length := ofString_length _
      omega
  | .list xs, h => by
    obtain ⟨h1, h2, h3, h4⟩ := tidy_shownAll xs h
    refine ⟨h1, h2, strOk_listText _ h3, ?_⟩
    have := len_listText (PyData.shownAll xs)
    show (listText (PyData.shownAll xs)).length + 2 ≤ 16 * (sizAll xs + 1)
    omega
  | .tuple xs, h => by
    obtain ⟨h1, h2, h3, h4⟩ := tidy_shownAll xs h
    refine ⟨h1, h2, strOk_tupleText _ h3, ?_⟩
    have := len_tupleText (PyData.shownAll xs)
    show (tupleText (PyData.shownAll xs)).length + 2 ≤ 16 * (sizAll xs + 1)
    omega
  | .str _, h => nomatch h
  | .dict _, h => nomatch h
theorem tidy_shownAll : ∀ xs : List D, tidyAll xs = true → PyData.showableAll xs = true ∧ PyData.hasDictAll xs = false ∧ (∀ t ∈ PyData.shownAll xs, PyData.strOk t = true) ∧ piled (PyData.shownAll xs) ≤ 16 * sizAll xs
  | [], _ => ⟨rfl, rfl, (fun _ h => nomatch h), Nat.le_refl _⟩
  | x :: xs, h => by
    have h : (tidy x && tidyAll xs) = true := h
    obtain ⟨hx, hxs⟩ := Bool.and_eq_true_iff.mp h
    obtain ⟨a1, a2, a3, a4⟩ := tidy_shown x hx
    obtain ⟨b1, b2, b3, b4⟩ := tidy_shownAll xs hxs
    refine ⟨?_, ?_, fun t ht => ?_, ?_⟩
    · show (PyData.showable x && PyData.showableAll xs) = true
      rw [a1, b1]; rfl
    · show (PyData.hasDict x || PyData.hasDictAll xs) = false
      rw [a2, b2]; rfl
    · have ht : t ∈ PyData.shown x :: PyData.shownAll xs := ht
      rcases List.mem_cons.mp ht with rfl | ht
      · exact a3
      · exact b3 t ht
    · show piled (PyData.shown x :: PyData.shownAll xs) ≤ 16 * (siz x + sizAll xs)
      rw [piled_cons]
      omega
end
theorem run_reprT {d : D} {S : Src} (h : tidy d = true) (hs : siz d ≤ 1000000) (hd : d.depth ≤ 64) : reprD d S = some (.str d.shown, S) := by
  obtain ⟨h1, h2, h3, h4⟩ := tidy_shown d h
  exact run_repr h1 (fit_of (by omega)) h2 hd
/-- two texts of one thing -/
theorem run_neStr {x : Str} {S : Src} (h : PyData.strOk x = true) : eqD true (.str x) (.str x) S = some (.bool false, S) := by
  have hs : SeqAt.shaped (.str x) = true := by
    unfold SeqAt.shaped
    have : PyData.canLay0 (.str x) = true := h
    rw [this]
    rfl
  rw [run_eq hs hs]
  have : PyData.eqv (.str x) (.str x) = true := by
    simp [PyData.eqv]
  rw [this]
  rfl
theorem run_neRepr {f g : EF} {ρ : Env} {S : Src} {d : D} (hf : f ρ S = some (d, S)) (hg : g ρ S = some (d, S)) (h : tidy d = true) (hs : siz d ≤ 1000000) (hd : d.depth ≤ 64) : e2 (eqD true) (e1 reprD f) (e1 reprD g) ρ S = some (.bool false, S) := by
  rw [run_2, run_1, hf, Option.bind_some, run_reprT h hs hd, Option.bind_some, run_1, hg, Option.bind_some, run_reprT h hs hd, Option.bind_some]
  exact run_neStr (tidy_shown d h).2.2.1
theorem tidyAll_iff {xs : List D} : tidyAll xs = true ↔ ∀ x ∈ xs, tidy x = true := by
  induction xs with
  | nil => simp [tidyAll]
  | cons x r ih => simp [tidyAll, ih]
theorem sizAll_le {xs : List D} {k : Nat} (h : ∀ x ∈ xs, siz x ≤ k) : sizAll xs ≤ xs.length * k := by
  induction xs with
  | nil => exact Nat.zero_le _
  | cons x r ih =>
    have h1 := h x (by simp)
    have h2 := ih fun y hy => h y (by simp [hy])
    show siz x + sizAll r ≤ (r.length + 1) * k
    rw [Nat.add_mul]
    omega
theorem depthAll_le {xs : List D} {k : Nat} (h : ∀ x ∈ xs, PyData.depth x ≤ k) : PyData.depthAll xs ≤ k := by
  induction xs with
  | nil => exact Nat.zero_le _
  | cons x r ih =>
    have h1 := h x (by simp)
    have h2 := ih fun y hy => h y (by simp [hy])
    show max (PyData.depth x) (PyData.depthAll r) ≤ k
    omega
@[simp] theorem tidy_int {i : Int} : tidy (.int i) = decide (i.natAbs < 1000000000000) := by simp only [tidy]
@[simp] theorem tidy_bool {b : Bool} : tidy (.bool b) = true := by simp only [tidy]
@[simp] theorem tidy_none : tidy .none = true := by simp only [tidy]
@[simp] theorem tidy_list {xs : List D} : tidy (.list xs) = tidyAll xs := by simp only [tidy]
@[simp] theorem tidy_tuple {xs : List D} : tidy (.tuple xs) = tidyAll xs := by simp only [tidy]
@[simp] theorem tidyAll_nil : tidyAll [] = true := by simp only [tidyAll]
@[simp] theorem tidyAll_cons {x : D} {xs : List D} : tidyAll (x :: xs) = (tidy x && tidyAll xs) := by simp only [tidyAll]
@[simp] theorem siz_int {i : Int} : siz (.int i) = 1 := by simp only [siz]
@[simp] theorem siz_bool {i : Bool} : siz (.bool i) = 1 := by simp only [siz]
@[simp] theorem siz_none : siz .none = 1 := by simp only [siz]
@[simp] theorem siz_list {xs : List D} : siz (.list xs) = sizAll xs + 1 := by simp only [siz]
@[simp] theorem siz_tuple {xs : List D} : siz (.tuple xs) = sizAll xs + 1 := by simp only [siz]
@[simp] theorem sizAll_nil : sizAll [] = 0 := by simp only [sizAll]
@[simp] theorem sizAll_cons {x : D} {xs : List D} : sizAll (x :: xs) = siz x + sizAll xs := by simp only [sizAll]
@[simp] theorem depth_int {i : Int} : PyData.depth (.int i) = 0 := by simp only [PyData.depth]
@[simp] theorem depth_bool {i : Bool} : PyData.depth (.bool i) = 0 := by simp only [PyData.depth]
@[simp] theorem depth_none : PyData.depth .none = 0 := by simp only [PyData.depth]
@[simp] theorem depth_list {xs : List D} : PyData.depth (.list xs) = PyData.depthAll xs + 1 := by simp only [PyData.depth]
@[simp] theorem depth_tuple {xs : List D} : PyData.depth (.tuple xs) = PyData.depthAll xs + 1 := by simp only [PyData.depth]
@[simp] theorem depthAll_nil : PyData.depthAll [] = 0 := by simp only [PyData.depthAll]
@[simp] theorem depthAll_cons {x : D} {xs : List D} : PyData.depthAll (x :: xs) = max (PyData.depth x) (PyData.depthAll xs) := by simp only [PyData.depthAll]
/-- numbers below a bound: all is fine -/
theorem nT_facts {l : List Nat} (h : ∀ a ∈ l, a < 1000000000) : tidy (nT l) = true ∧ siz (nT l) = l.length + 1 ∧ PyData.depth (nT l) ≤ 1 := by
  refine ⟨?_, ?_, ?_⟩
  · unfold nT
    rw [tidy_tuple, tidyAll_iff]
    intro x hx
    obtain ⟨a, ha, rfl⟩ := List.mem_map.mp hx
    have := h a ha
    rw [tidy_int]
    exact decide_eq_true (by omega)
  · unfold nT
    rw [siz_tuple]
    congr 1
    clear h
    induction l with
    | nil => rfl
    | cons a r ih => simp [ih]; omega
  · unfold nT
    rw [depth_tuple]
    have : PyData.depthAll (l.map fun a => nI a) ≤ 0 := depthAll_le fun x hx => by
      obtain ⟨a, _, rfl⟩ := List.mem_map.mp hx
      simp
    omega

/-! ### the order -/
theorem lt_int (x y : Int) : W.dataLt (.int x) (.int y) = decide (x < y) := W.dataLt_int x y
theorem lt_nil : W.dataLt (.tuple []) (.tuple []) = false := by
  rw [W.dataLt_tuple]
  exact PyProof.Rows.lex_irrefl _
theorem lt_cons (x y : Int) (xs ys : List D) : W.dataLt (.tuple (.int x :: xs)) (.tuple (.int y :: ys)) = if x = y then W.dataLt (.tuple xs) (.tuple ys) else decide (x < y) := by
  rw [W.dataLt_tuple, W.dataLt_cons (by simp [W.alike]), W.dataLt_tuple, lt_int]
  simp only [PyData.eqv, beq_iff_eq]
theorem minF_map {α : Type} (enc : α → D) (lt : α → α → Bool) : ∀ (xs : List α) (x : α), (x :: xs).Pairwise (fun a b => W.dataLt (enc b) (enc a) = lt b a) → minF (enc x) (xs.map enc) = enc (xs.foldl (fun a y => if lt y a = true then y else a) x)
  | [], _, _ => rfl
  | y :: r, x, h => by
    obtain ⟨h1, h2⟩ := List.pairwise_cons.mp h
    obtain ⟨h3, h4⟩ := List.pairwise_cons.mp h2
    have e : W.dataLt (enc y) (enc x) = lt y x := h1 y (by simp)
    show minF (if W.dataLt (enc y) (enc x) = true then enc y else enc x) (r.map enc) = enc (r.foldl _ (if lt y x = true then y else x))
    rw [e]
    by_cases z : lt y x = true
    · rw [if_pos z, if_pos z]
      exact minF_map enc lt r y h2
    · rw [if_neg z, if_neg z]
      exact minF_map enc lt r x (List.pairwise_cons.mpr ⟨fun b hb => h1 b (by simp [hb]), h4⟩)
theorem foldMin_mem {α : Type} (lt : α → α → Bool) : ∀ (xs : List α) (x : α), xs.foldl (fun a y => if lt y a = true then y else a) x ∈ x :: xs
  | [], x => by simp
  | y :: r, x => by
    rw [List.foldl_cons]
    have := foldMin_mem lt r (if lt y x = true then y else x)
    rcases List.mem_cons.mp this with h | h
    · rw [h]
      split <;> simp
    · exact List.mem_cons_of_mem _ (List.mem_cons_of_mem _ h)
/-- a measure that never grows along the order: the least one has the least -/
theorem foldMin_le {α : Type} (lt : α → α → Bool) (c : α → Nat) (h1 : ∀ a b, lt b a = true → c b ≤ c a) (h2 : ∀ a b, lt b a = false → c a ≤ c b) : ∀ (xs : List α) (x : α), ∀ y ∈ x :: xs, c (xs.foldl (fun a y => if lt y a = true then y else a) x) ≤ c y
  | [], x, y, hy => by
    rcases List.mem_cons.mp hy with rfl | h
    · exact Nat.le_refl _
    · cases h
  | z :: r, x, y, hy => by
    rw [List.foldl_cons]
    have ih := foldMin_le lt c h1 h2 r (if lt z x = true then z else x)
    have h0 := ih _ (List.mem_cons_self ..)
    rcases List.mem_cons.mp hy with rfl | h
    · refine Nat.le_trans h0 ?_
      by_cases q : lt z y = true
      · rw [if_pos q]; exact h1 _ _ q
      · rw [if_neg q]; exact Nat.le_refl _
    · rcases List.mem_cons.mp h with rfl | h
      · refine Nat.le_trans h0 ?_
        by_cases q : lt y x = true
        · rw [if_pos q]; exact Nat.le_refl _
        · rw [if_neg q]; exact h2 _ _ (by simpa using q)
      · exact ih y (List.mem_cons_of_mem _ h)
end DL
namespace DL
open PySem
mutual
theorem tidy_canLay : ∀ d : D, tidy d = true → PyData.canLay0 d = true
  | .none, _ => rfl
  | .bool _, _ => rfl
  | .int _, _ => rfl
  | .list xs, h => tidy_canLayAll xs h
  | .tuple xs, h => tidy_canLayAll xs h
  | .str _, h => nomatch h
  | .dict _, h => nomatch h
theorem tidy_canLayAll : ∀ xs : List D, tidyAll xs = true → PyData.canLayAll0 xs = true
  | [], _ => rfl
  | x :: xs, h => by
    have h : (tidy x && tidyAll xs) = true := h
    obtain ⟨h1, h2⟩ := Bool.and_eq_true_iff.mp h
    show (PyData.canLay0 x && PyData.canLayAll0 xs) = true
    rw [tidy_canLay x h1, tidy_canLayAll xs h2]
    rfl
end
theorem tidy_shaped {d : D} (h : tidy d = true) (hd : d.depth ≤ 64) : SeqAt.shaped d = true := by
  unfold SeqAt.shaped
  rw [tidy_canLay d h]
  simpa using hd
/-- xs != [] -/
theorem run_neNil {xs : List D} {S : Src} (h : tidyAll xs = true) (hd : PyData.depthAll xs ≤ 63) : eqD true (.list xs) (.list []) S = some (.bool (!xs.isEmpty), S) := by
  rw [run_eq (tidy_shaped (by rw [tidy_list]; exact h) (by rw [depth_list]; omega)) (tidy_shaped (by rw [tidy_list]; rfl) (by simp))]
  cases xs <;> simp [PyData.eqv, PyData.eqvAll]
theorem run_eqNil {xs : List D} {S : Src} (h : tidyAll xs = true) (hd : PyData.depthAll xs ≤ 63) : eqD false (.list xs) (.list []) S = some (.bool xs.isEmpty, S) := by
  rw [run_eq (tidy_shaped (by rw [tidy_list]; exact h) (by rw [depth_list]; omega)) (tidy_shaped (by rw [tidy_list]; rfl) (by simp))]
  cases xs <;> simp [PyData.eqv, PyData.eqvAll]
/-! loops over ranges, over numbered things -/
theorem range_split {n x : Nat} {pre suf : List Nat} (h : List.range n = pre ++ x :: suf) : pre = List.range x ∧ x < n := by
  have hl : pre.length < n := by
    have := congrArg List.length h
    simp at this
    omega
  have hx : x = pre.length := by
    have h1 : (List.range n)[pre.length]? = some x := by rw [h]; simp
    rw [List.getElem?_range hl] at h1
    exact (Option.some.inj h1).symm
  subst hx
  refine ⟨?_, hl⟩
  have : pre = (List.range n).take pre.length := by rw [h]; simp
  rw [List.take_range, Nat.min_eq_left (by omega)] at this
  exact this
theorem zipIdx_split {α : Type} {m : List α} {pre suf : List (α × Nat)} {b : α} {k : Nat} (h : m.zipIdx 0 = pre ++ (b, k) :: suf) : k = pre.length ∧ m[k]? = some b ∧ pre.map (·.1) = m.take k ∧ k < m.length := by
  have h1 : (m.zipIdx 0)[pre.length]? = some (b, k) := by rw [h]; simp
  rw [List.getElem?_zipIdx] at h1
  obtain ⟨a, h2, h3⟩ := Option.map_eq_some_iff.mp h1
  have h4 : a = b ∧ 0 + pre.length = k := by simpa using h3
  obtain ⟨rfl, h5⟩ := h4
  have hk : k = pre.length := by omega
  subst hk
  refine ⟨rfl, h2, ?_, (List.getElem?_eq_some_iff.mp h2).1⟩
  have h6 : m = (m.zipIdx 0).map (·.1) := by simp
  rw [h6, h]
  simp
theorem flatMap_len {α β : Type} {f : α → List β} {k : Nat} : ∀ {xs : List α}, (∀ x ∈ xs, (f x).length ≤ k) → (xs.flatMap f).length ≤ xs.length * k
  | [], _ => by simp
  | x :: r, h => by
    have h1 := h x (by simp)
    have h2 := flatMap_len (xs := r) fun y hy => h y (by simp [hy])
    rw [List.flatMap_cons, List.length_append, List.length_cons, Nat.add_mul]
    omega
theorem run_from1 {l : List Nat} {k : Nat} {S : Src} : sliceD true (some ((k : Int) + 1)) none (nT l) S = some (nT (l.drop (k + 1)), S) := run_from_nT (k := k + 1)
theorem sortable_map {α : Type} {enc : α → D} {xs : List α} (h1 : ∀ p q, W.alike (enc p) (enc q) = true) (h2 : ∀ p, isTupCons (enc p) = true) (h3 : ∀ p, PyData.depth (enc p) ≤ 64) : sortable (xs.map enc) = true := by
  unfold sortable
  have e1 : ((xs.map enc).all fun a => (xs.map enc).all fun b => W.alike a b) = true := by
    rw [List.all_eq_true]
    intro x hx
    rw [List.all_eq_true]
    intro y hy
    obtain ⟨p, _, rfl⟩ := List.mem_map.mp hx
    obtain ⟨q, _, rfl⟩ := List.mem_map.mp hy
    exact h1 p q
  have e2 : (xs.map enc).all isTupCons = true := by
    rw [List.all_eq_true]
    intro x hx
    obtain ⟨p, _, rfl⟩ := List.mem_map.mp hx
    exact h2 p
  have e3 : ((xs.map enc).all fun a => decide (a.depth ≤ 64)) = true := by
    rw [List.all_eq_true]
    intro x hx
    obtain ⟨p, _, rfl⟩ := List.mem_map.mp hx
    exact decide_eq_true (h3 p)
  rw [e1, e2, e3]
  rfl
theorem alikes_map {α : Type} {enc : α → D} {xs : List α} (h1 : ∀ p ∈ xs, ∀ q ∈ xs, W.alike (enc p) (enc q) = true) (h2 : ∀ p ∈ xs, isNoneD (enc p) = false) (h3 : ∀ p ∈ xs, PyData.depth (enc p) ≤ 64) (h4 : ∀ p ∈ xs, imm (enc p) = true) : alikes (xs.map enc) = true := by
  unfold alikes
  have e1 : ((xs.map enc).all fun a => (xs.map enc).all fun b => W.alike a b) = true := by
    rw [List.all_eq_true]
    intro x hx
    rw [List.all_eq_true]
    intro y hy
    obtain ⟨p, hp, rfl⟩ := List.mem_map.mp hx
    obtain ⟨q, hq, rfl⟩ := List.mem_map.mp hy
    exact h1 p hp q hq
  have e2 : ((xs.map enc).all fun a => !isNoneD a) = true := by
    rw [List.all_eq_true]
    intro x hx
    obtain ⟨p, hp, rfl⟩ := List.mem_map.mp hx
    rw [h2 p hp]; rfl
  have e3 : decide (PyData.depthAll (xs.map enc) ≤ 64) = true := decide_eq_true (depthAll_le fun x hx => by
    obtain ⟨p, hp, rfl⟩ := List.mem_map.mp hx
    exact h3 p hp)
  rw [e1, e2, e3, immAll_map h4]
  rfl
def bit (b : Bool) : Int := if b then 1 else 0
theorem bit_one (b : Bool) : decide (bit b = 1) = b := by cases b <;> rfl
theorem sum_bits {α : Type} (p : α → Bool) (xs : List α) : (xs.map fun b => bit (p b)).sum = (xs.countP p : Int) := by
  induction xs with
  | nil => rfl
  | cons x r ih =>
    rw [List.map_cons, List.sum_cons, ih, List.countP_cons]
    cases p x <;> simp [bit] <;> omega
theorem small_nat {n : Nat} (h : n < 18446744073709551616) : small64 (n : Int) = true := decide_eq_true (by omega)
end DL

/-! printed by gen.py -/
namespace K91
open PySem PySem.Spec PyProof.Rows L2 DL
def topS (i : Nat) : Stmt := PySem.Challenge.pw_chosenbymany_k91_whole_turned_beats_and.main.body.getD i (.Pass ⟨0, 0, 0, 0⟩)
structure Blt (mg : Str → Option Value) : Prop where
  abs : mg "abs" = none
  all : mg "all" = none
  enumerate : mg "enumerate" = none
  int : mg "int" = none
  len : mg "len" = none
  list : mg "list" = none
  min : mg "min" = none
  range : mg "range" = none
  repr : mg "repr" = none
  sorted : mg "sorted" = none
  sum : mg "sum" = none
  tuple : mg "tuple" = none
section
variable {P : Program} {w : World} {K : PySem.W.Frag} {mg : Str → Option Value} {base : Heap}
/-! ### turned_beats -/
abbrev s_turned_beats : Stmt := topS 1
abbrev N_turned_beats : List Str := ["beats", "order", "found", "i", "a", "b"]
theorem sc_turned_beats : FnScope N_turned_beats ["beats", "order"] (defScope s_turned_beats) := ⟨rfl, rfl, rfl, by decide +kernel, rfl, by decide +kernel, by decide +kernel⟩
def b_turned_beats : SF := sSeq (sAsg (eLst (lNil)) (gName 2)) (sSeq (sFor (wEnum (eVar 1)) (gTup [gName 3, gName 4]) (sExtend 2 (eComp [5] (wSeq (eSlice true (eVar 1) (some (e2 (addD true) (eVar 3) (eC (.int 1)))) none)) (gName 5) (tB (e2 (eqD false) (e2 idxD (e2 idxD (eVar 0) (eVar 5)) (eVar 4)) (eC (.int 1)))) (eTup (lCons (eImm (eVar 5)) (lCons (eImm (eVar 4)) (lNil))))))) (sRet (e1 (tupleD true) (e1 sortedD (eVar 2)))))
def d_turned_beats : List D → M D := runDef 2 6 b_turned_beats
theorem len_turned_beats : ∀ ds S r, d_turned_beats ds S = some r → ds.length = 2 := fun _ _ _ h => runDef_len h
theorem ok_turned_beats (B : Blt mg)  {f : Addr} {fd : FuncData} (F : Fun K "turned_beats" "turned_beats" s_turned_beats f fd) (m : mg "turned_beats" = some (.ref f)) : Cal P w K mg base 1 "turned_beats" (spD K 2 true d_turned_beats) := by
  refine Cal.mk' (ps := ["beats", "order"]) F (F.binds fun _ _ _ _ _ _ us hl => match us, hl with | [_, _], _ => rfl) m (ok_D (N := N_turned_beats) (mu := [2]) (mu' := [2]) (k := 0) F sc_turned_beats rfl rfl (by decide) (by decide) fun cdv A outer s H E hr => ?_)
  exact svs_cons (sv_setM sc_turned_beats.nd rfl (by first | exact .inl rfl | exact .inr rfl) (by first | exact .inl rfl | exact .inr rfl) (by decide) (EV.pure (ev_lst (m := .own) (av_nil))))
      (svs_cons (sv_for PassesOwn.never rfl (iv_enum B.enumerate (vV_ 1)) (gv_tup rfl (gvs_cons (gv_name sc_turned_beats.nd rfl (by first | exact .inl rfl | exact .inr rfl) (by first | exact .inl rfl | exact .inr rfl) (by decide) (by decide)) (gvs_cons (gv_name sc_turned_beats.nd rfl (by first | exact .inl rfl | exact .inr rfl) (by first | exact .inl rfl | exact .inr rfl) (by decide) (by decide)) (gvs_nil))))
      (svs_one (sv_extend rfl (by first | exact .inl rfl | exact .inr (.inl rfl) | exact .inr (.inr rfl)) (by decide) (by decide) (EV.pure (EV.bor (ev_lc (m := .own) (own := [("b", 5)]) rfl sc_turned_beats.nd (iv_seq (EV.weak (ev_slice (v_ 1) (ov_some (EV.bor (ev_add (v_ 3) (EV.bor (ev_int))))) ov_none))) (blkOk_by (N := N_turned_beats) (sc := defScope s_turned_beats) (own := [("b", 5)]) (by decide +kernel)) (by decide) (by decide) (by decide) (fun _ _ _ _ _ => gv_name sc_turned_beats.nd rfl (by first | exact .inl rfl | exact .inr rfl) (by first | exact .inl rfl | exact .inr rfl) (by decide) (by decide)) (fun _ _ _ _ _ => pts_if ((cv_eq (hu64 hr) (ev_idx (ev_idx (v_ 0) (v_ 5) (fun _ _ => rfl) (.inl rfl)) (v_ 4) (fun _ _ => rfl) (.inl rfl)) (EV.bor (ev_int))).tv)) (fun _ _ _ _ _ => ev_tup (m := .own) (av_cons (ev_imm (v_ 5)) (av_cons (ev_imm (v_ 4)) (av_nil))))))))))
      (svs_one (sv_ret (EV.pure (ev_tuple B.tuple (EV.bor (ev_sorted rfl (hu128 hr) B.sorted (v_ 2))))) (fun _ => rfl))))
/-! ### count_turned -/
abbrev s_count_turned : Stmt := topS 2
abbrev N_count_turned : List Str := ["beats", "order"]
theorem sc_count_turned : FnScope N_count_turned ["beats", "order"] (defScope s_count_turned) := ⟨rfl, rfl, rfl, by decide +kernel, rfl, by decide +kernel, by decide +kernel⟩
def b_count_turned : SF := sRet (e1 lenD (eCall d_turned_beats (lCons (eVar 0) (lCons (eVar 1) (lNil)))))
def d_count_turned : List D → M D := runDef 2 2 b_count_turned
theorem len_count_turned : ∀ ds S r, d_count_turned ds S = some r → ds.length = 2 := fun _ _ _ h => runDef_len h
theorem ok_count_turned (B : Blt mg) (C_turned_beats : Cal P w K mg base 1 "turned_beats" (spD K 2 true d_turned_beats)) {f : Addr} {fd : FuncData} (F : Fun K "count_turned" "count_turned" s_count_turned f fd) (m : mg "count_turned" = some (.ref f)) : Cal P w K mg base 2 "count_turned" (spD K 2 true d_count_turned) := by
  refine Cal.mk' (ps := ["beats", "order"]) F (F.binds fun _ _ _ _ _ _ us hl => match us, hl with | [_, _], _ => rfl) m (ok_D (N := N_count_turned) (mu := []) (mu' := []) (k := 1) F sc_count_turned rfl rfl (by decide) (by decide) fun cdv A outer s H E hr => ?_)
  exact svs_one (sv_ret (ev_len B.len (EV.bor (ev_cal (C_turned_beats.up (by decide)) hr len_turned_beats (av_cons (v_ 0) (av_cons (v_ 1) (av_nil)))))) (fun _ => rfl))
/-! ### turns_bound -/
abbrev s_turns_bound : Stmt := topS 3
abbrev N_turns_bound : List Str := ["n"]
theorem sc_turns_bound : FnScope N_turns_bound ["n"] (defScope s_turns_bound) := ⟨rfl, rfl, rfl, by decide +kernel, rfl, by decide +kernel, by decide +kernel⟩
def b_turns_bound : SF := sRet (e2 fdivD (e2 mulD (e2 subD (eVar 0) (eC (.int 1))) (e2 subD (eVar 0) (eC (.int 1)))) (eC (.int 4)))
def d_turns_bound : List D → M D := runDef 1 1 b_turns_bound
theorem len_turns_bound : ∀ ds S r, d_turns_bound ds S = some r → ds.length = 1 := fun _ _ _ h => runDef_len h
theorem ok_turns_bound (B : Blt mg)  {f : Addr} {fd : FuncData} (F : Fun K "turns_bound" "turns_bound" s_turns_bound f fd) (m : mg "turns_bound" = some (.ref f)) : Cal P w K mg base 1 "turns_bound" (spD K 1 true d_turns_bound) := by
  refine Cal.mk' (ps := ["n"]) F (F.binds fun _ _ _ _ _ _ us hl => match us, hl with | [_], _ => rfl) m (ok_D (N := N_turns_bound) (mu := []) (mu' := []) (k := 0) F sc_turns_bound rfl rfl (by decide) (by decide) fun cdv A outer s H E hr => ?_)
  exact svs_one (sv_ret (ev_fdiv (EV.bor (ev_mul (EV.bor (ev_sub (v_ 0) (EV.bor (ev_int)))) (EV.bor (ev_sub (v_ 0) (EV.bor (ev_int)))))) (EV.bor (ev_int))) (fun _ => rfl))
/-! ### built_order -/
abbrev s_built_order : Stmt := topS 4
abbrev N_built_order : List Str := ["beats", "order", "a", "b"]
theorem sc_built_order : FnScope N_built_order ["beats"] (defScope s_built_order) := ⟨rfl, rfl, rfl, by decide +kernel, rfl, by decide +kernel, by decide +kernel⟩
def b_built_order : SF := sSeq (sAsg (eTup (lNil)) (gName 1)) (sSeq (sFor (wRange1 (e1 lenD (eVar 0))) (gName 2) (sAsg (eIf (tB (e2 (cmD .ge) (e2 mulD (eC (.int 2)) (e1 sumD (eComp [3] (wSeq (eVar 1)) (gName 3) (tYes) (eImm (e2 idxD (e2 idxD (eVar 0) (eVar 2)) (eVar 3)))))) (e1 lenD (eVar 1)))) (eTup (lCons (eImm (eVar 2)) (lStar (eVar 1) (lNil)))) (eTup (lStar (eVar 1) (lCons (eImm (eVar 2)) (lNil))))) (gName 1))) (sRet (eImm (eVar 1))))
def d_built_order : List D → M D := runDef 1 4 b_built_order
theorem len_built_order : ∀ ds S r, d_built_order ds S = some r → ds.length = 1 := fun _ _ _ h => runDef_len h
theorem ok_built_order (B : Blt mg)  {f : Addr} {fd : FuncData} (F : Fun K "built_order" "built_order" s_built_order f fd) (m : mg "built_order" = some (.ref f)) : Cal P w K mg base 1 "built_order" (spD K 1 true d_built_order) := by
  refine Cal.mk' (ps := ["beats"]) F (F.binds fun _ _ _ _ _ _ us hl => match us, hl with | [_], _ => rfl) m (ok_D (N := N_built_order) (mu := []) (mu' := []) (k := 0) F sc_built_order rfl rfl (by decide) (by decide) fun cdv A outer s H E hr => ?_)
  exact svs_cons (sv_set sc_built_order.nd rfl (by first | exact .inl rfl | exact .inr rfl) (by first | exact .inl rfl | exact .inr rfl) (by decide) (by decide) (EV.weak (ev_tup (m := .own) (av_nil))))
      (svs_cons (sv_for PassesOwn.never rfl (iv_range1 B.range (EV.bor (ev_len B.len (v_ 0)))) (gv_name sc_built_order.nd rfl (by first | exact .inl rfl | exact .inr rfl) (by first | exact .inl rfl | exact .inr rfl) (by decide) (by decide))
      (svs_one (sv_set sc_built_order.nd rfl (by first | exact .inl rfl | exact .inr rfl) (by first | exact .inl rfl | exact .inr rfl) (by decide) (by decide) (EV.weak (ev_if ((cv_ge (EV.bor (ev_mul (EV.bor (ev_int)) (EV.bor (ev_sum rfl B.sum (EV.bor (ev_lc (m := .own) (own := [("b", 3)]) rfl sc_built_order.nd (iv_seq (EV.bv (v_ 1))) (blkOk_by (N := N_built_order) (sc := defScope s_built_order) (own := [("b", 3)]) (by decide +kernel)) (by decide) (by decide) (by decide) (fun _ _ _ _ _ => gv_name sc_built_order.nd rfl (by first | exact .inl rfl | exact .inr rfl) (by first | exact .inl rfl | exact .inr rfl) (by decide) (by decide)) (fun _ _ _ _ _ => pts_yes) (fun _ _ _ _ _ => ev_imm (ev_idx (ev_idx (v_ 0) (v_ 2) (fun _ _ => rfl) (.inl rfl)) (v_ 3) (fun _ _ => rfl) (.inl rfl))))))))) (EV.bor (ev_len B.len (v_ 1)))).tv) (ev_tup (m := .own) (av_cons (ev_imm (v_ 2)) (av_star (v_ 1) (av_nil)))) (ev_tup (m := .own) (av_star (v_ 1) (av_cons (ev_imm (v_ 2)) (av_nil)))))))))
      (svs_one (sv_ret (ev_imm (v_ 1)) (fun _ => rfl))))
/-! ### is_half_from -/
abbrev s_is_half_from : Stmt := topS 5
abbrev N_is_half_from : List Str := ["beats", "order", "i", "won", "k", "b"]
theorem sc_is_half_from : FnScope N_is_half_from ["beats", "order", "i"] (defScope s_is_half_from) := ⟨rfl, rfl, rfl, by decide +kernel, rfl, by decide +kernel, by decide +kernel⟩
def b_is_half_from : SF := sSeq (sAsg (eC (.int 0)) (gName 3)) (sSeq (sFor (wEnum (eSlice true (eVar 1) (some (e2 (addD true) (eVar 2) (eC (.int 1)))) none)) (gTup [gName 4, gName 5]) (sSeq (sAsg (e2 (addD true) (eVar 3) (e2 idxD (e2 idxD (eVar 0) (e2 idxD (eVar 1) (eVar 2))) (eVar 5))) (gName 3)) (sIf (tB (e2 (cmD .lt) (e2 mulD (eC (.int 2)) (eVar 3)) (e2 (addD true) (eVar 4) (eC (.int 1))))) (sRet (eC (.bool false))) (sNext)))) (sRet (eC (.bool true))))
def d_is_half_from : List D → M D := runDef 3 6 b_is_half_from
theorem len_is_half_from : ∀ ds S r, d_is_half_from ds S = some r → ds.length = 3 := fun _ _ _ h => runDef_len h
theorem ok_is_half_from (B : Blt mg)  {f : Addr} {fd : FuncData} (F : Fun K "is_half_from" "is_half_from" s_is_half_from f fd) (m : mg "is_half_from" = some (.ref f)) : Cal P w K mg base 1 "is_half_from" (spD K 3 true d_is_half_from) := by
  refine Cal.mk' (ps := ["beats", "order", "i"]) F (F.binds fun _ _ _ _ _ _ us hl => match us, hl with | [_, _, _], _ => rfl) m (ok_D (N := N_is_half_from) (mu := []) (mu' := []) (k := 0) F sc_is_half_from rfl rfl (by decide) (by decide) fun cdv A outer s H E hr => ?_)
  exact svs_cons (sv_set sc_is_half_from.nd rfl (by first | exact .inl rfl | exact .inr rfl) (by first | exact .inl rfl | exact .inr rfl) (by decide) (by decide) (EV.weak (ev_int)))
      (svs_cons (sv_for PassesOwn.never rfl (iv_enum B.enumerate (EV.weak (ev_slice (v_ 1) (ov_some (EV.bor (ev_add (v_ 2) (EV.bor (ev_int))))) ov_none))) (gv_tup rfl (gvs_cons (gv_name sc_is_half_from.nd rfl (by first | exact .inl rfl | exact .inr rfl) (by first | exact .inl rfl | exact .inr rfl) (by decide) (by decide)) (gvs_cons (gv_name sc_is_half_from.nd rfl (by first | exact .inl rfl | exact .inr rfl) (by first | exact .inl rfl | exact .inr rfl) (by decide) (by decide)) (gvs_nil))))
      (svs_cons (sv_set sc_is_half_from.nd rfl (by first | exact .inl rfl | exact .inr rfl) (by first | exact .inl rfl | exact .inr rfl) (by decide) (by decide) (EV.weak (ev_add (v_ 3) (ev_idx (ev_idx (v_ 0) (ev_idx (v_ 1) (v_ 2) (fun _ _ => rfl) (.inl rfl)) (fun _ _ => rfl) (.inl rfl)) (v_ 5) (fun _ _ => rfl) (.inl rfl)))))
      (svs_one (sv_if ((cv_lt (EV.bor (ev_mul (EV.bor (ev_int)) (v_ 3))) (EV.bor (ev_add (v_ 4) (EV.bor (ev_int))))).tv)
      (svs_one (sv_ret (ev_bool) (fun _ => rfl)))
      (svs_nil)))))
      (svs_one (sv_ret (ev_bool) (fun _ => rfl))))
/-! ### is_half_to -/
abbrev s_is_half_to : Stmt := topS 6
abbrev N_is_half_to : List Str := ["beats", "order", "i", "lost", "k", "b"]
theorem sc_is_half_to : FnScope N_is_half_to ["beats", "order", "i"] (defScope s_is_half_to) := ⟨rfl, rfl, rfl, by decide +kernel, rfl, by decide +kernel, by decide +kernel⟩
def b_is_half_to : SF := sSeq (sAsg (eC (.int 0)) (gName 3)) (sSeq (sFor (wEnum (e1 (revD true) (eSlice true (eVar 1) none (some (eVar 2))))) (gTup [gName 4, gName 5]) (sSeq (sAsg (e2 (addD true) (eVar 3) (e2 idxD (e2 idxD (eVar 0) (eVar 5)) (e2 idxD (eVar 1) (eVar 2)))) (gName 3)) (sIf (tB (e2 (cmD .lt) (e2 mulD (eC (.int 2)) (eVar 3)) (e2 (addD true) (eVar 4) (eC (.int 1))))) (sRet (eC (.bool false))) (sNext)))) (sRet (eC (.bool true))))
def d_is_half_to : List D → M D := runDef 3 6 b_is_half_to
theorem len_is_half_to : ∀ ds S r, d_is_half_to ds S = some r → ds.length = 3 := fun _ _ _ h => runDef_len h
theorem ok_is_half_to (B : Blt mg)  {f : Addr} {fd : FuncData} (F : Fun K "is_half_to" "is_half_to" s_is_half_to f fd) (m : mg "is_half_to" = some (.ref f)) : Cal P w K mg base 1 "is_half_to" (spD K 3 true d_is_half_to) := by
  refine Cal.mk' (ps := ["beats", "order", "i"]) F (F.binds fun _ _ _ _ _ _ us hl => match us, hl with | [_, _, _], _ => rfl) m (ok_D (N := N_is_half_to) (mu := []) (mu' := []) (k := 0) F sc_is_half_to rfl rfl (by decide) (by decide) fun cdv A outer s H E hr => ?_)
  exact svs_cons (sv_set sc_is_half_to.nd rfl (by first | exact .inl rfl | exact .inr rfl) (by first | exact .inl rfl | exact .inr rfl) (by decide) (by decide) (EV.weak (ev_int)))
      (svs_cons (sv_for PassesOwn.never rfl (iv_enum B.enumerate (EV.weak (ev_rev (EV.bor (ev_slice (v_ 1) ov_none (ov_some (v_ 2))))))) (gv_tup rfl (gvs_cons (gv_name sc_is_half_to.nd rfl (by first | exact .inl rfl | exact .inr rfl) (by first | exact .inl rfl | exact .inr rfl) (by decide) (by decide)) (gvs_cons (gv_name sc_is_half_to.nd rfl (by first | exact .inl rfl | exact .inr rfl) (by first | exact .inl rfl | exact .inr rfl) (by decide) (by decide)) (gvs_nil))))
      (svs_cons (sv_set sc_is_half_to.nd rfl (by first | exact .inl rfl | exact .inr rfl) (by first | exact .inl rfl | exact .inr rfl) (by decide) (by decide) (EV.weak (ev_add (v_ 3) (ev_idx (ev_idx (v_ 0) (v_ 5) (fun _ _ => rfl) (.inl rfl)) (ev_idx (v_ 1) (v_ 2) (fun _ _ => rfl) (.inl rfl)) (fun _ _ => rfl) (.inl rfl)))))
      (svs_one (sv_if ((cv_lt (EV.bor (ev_mul (EV.bor (ev_int)) (v_ 3))) (EV.bor (ev_add (v_ 4) (EV.bor (ev_int))))).tv)
      (svs_one (sv_ret (ev_bool) (fun _ => rfl)))
      (svs_nil)))))
      (svs_one (sv_ret (ev_bool) (fun _ => rfl))))
/-! ### has_half_ahead -/
abbrev s_has_half_ahead : Stmt := topS 7
abbrev N_has_half_ahead : List Str := ["beats", "order", "i"]
theorem sc_has_half_ahead : FnScope N_has_half_ahead ["beats", "order"] (defScope s_has_half_ahead) := ⟨rfl, rfl, rfl, by decide +kernel, rfl, by decide +kernel, by decide +kernel⟩
def b_has_half_ahead : SF := sRet (e1 allD (eComp [2] (wRange1 (e1 lenD (eVar 1))) (gName 2) (tYes) (eAnd (eCall d_is_half_from (lCons (eVar 0) (lCons (eVar 1) (lCons (eVar 2) (lNil))))) (eCall d_is_half_to (lCons (eVar 0) (lCons (eVar 1) (lCons (eVar 2) (lNil))))))))
def d_has_half_ahead : List D → M D := runDef 2 3 b_has_half_ahead
theorem len_has_half_ahead : ∀ ds S r, d_has_half_ahead ds S = some r → ds.length = 2 := fun _ _ _ h => runDef_len h
theorem ok_has_half_ahead (B : Blt mg) (C_is_half_from : Cal P w K mg base 1 "is_half_from" (spD K 3 true d_is_half_from)) (C_is_half_to : Cal P w K mg base 1 "is_half_to" (spD K 3 true d_is_half_to)) {f : Addr} {fd : FuncData} (F : Fun K "has_half_ahead" "has_half_ahead" s_has_half_ahead f fd) (m : mg "has_half_ahead" = some (.ref f)) : Cal P w K mg base 2 "has_half_ahead" (spD K 2 true d_has_half_ahead) := by
  refine Cal.mk' (ps := ["beats", "order"]) F (F.binds fun _ _ _ _ _ _ us hl => match us, hl with | [_, _], _ => rfl) m (ok_D (N := N_has_half_ahead) (mu := []) (mu' := []) (k := 1) F sc_has_half_ahead rfl rfl (by decide) (by decide) fun cdv A outer s H E hr => ?_)
  exact svs_one (sv_ret (ev_all rfl B.all (EV.bor (ev_lc (m := .own) (own := [("i", 2)]) rfl sc_has_half_ahead.nd (iv_range1 B.range (EV.bor (ev_len B.len (v_ 1)))) (blkOk_by (N := N_has_half_ahead) (sc := defScope s_has_half_ahead) (own := [("i", 2)]) (by decide +kernel)) (by decide) (by decide) (by decide) (fun _ _ _ _ _ => gv_name sc_has_half_ahead.nd rfl (by first | exact .inl rfl | exact .inr rfl) (by first | exact .inl rfl | exact .inr rfl) (by decide) (by decide)) (fun _ _ _ _ _ => pts_yes) (fun _ _ _ _ _ => ev_and (ev_cal (C_is_half_from.up (by decide)) hr len_is_half_from (av_cons (v_ 0) (av_cons (v_ 1) (av_cons (v_ 2) (av_nil))))) (ev_one (ev_cal (C_is_half_to.up (by decide)) hr len_is_half_to (av_cons (v_ 0) (av_cons (v_ 1) (av_cons (v_ 2) (av_nil)))))))))) (fun _ => rfl))
/-! ### moved_thing -/
abbrev s_moved_thing : Stmt := topS 9
abbrev N_moved_thing : List Str := ["order", "i", "j", "rest"]
theorem sc_moved_thing : FnScope N_moved_thing ["order", "i", "j"] (defScope s_moved_thing) := ⟨rfl, rfl, rfl, by decide +kernel, rfl, by decide +kernel, by decide +kernel⟩
def b_moved_thing : SF := sSeq (sAsg (e2 (addD true) (eSlice true (eVar 0) none (some (eVar 1))) (eSlice true (eVar 0) (some (e2 (addD true) (eVar 1) (eC (.int 1)))) none)) (gName 3)) (sRet (eTup (lStar (eSlice true (eVar 3) none (some (eVar 2))) (lCons (eImm (e2 idxD (eVar 0) (eVar 1))) (lStar (eSlice true (eVar 3) (some (eVar 2)) none) (lNil))))))
def d_moved_thing : List D → M D := runDef 3 4 b_moved_thing
theorem len_moved_thing : ∀ ds S r, d_moved_thing ds S = some r → ds.length = 3 := fun _ _ _ h => runDef_len h
theorem ok_moved_thing (B : Blt mg)  {f : Addr} {fd : FuncData} (F : Fun K "moved_thing" "moved_thing" s_moved_thing f fd) (m : mg "moved_thing" = some (.ref f)) : Cal P w K mg base 1 "moved_thing" (spD K 3 true d_moved_thing) := by
  refine Cal.mk' (ps := ["order", "i", "j"]) F (F.binds fun _ _ _ _ _ _ us hl => match us, hl with | [_, _, _], _ => rfl) m (ok_D (N := N_moved_thing) (mu := []) (mu' := []) (k := 0) F sc_moved_thing rfl rfl (by decide) (by decide) fun cdv A outer s H E hr => ?_)
  exact svs_cons (sv_set sc_moved_thing.nd rfl (by first | exact .inl rfl | exact .inr rfl) (by first | exact .inl rfl | exact .inr rfl) (by decide) (by decide) (EV.weak (ev_add (EV.bor (ev_slice (v_ 0) ov_none (ov_some (v_ 1)))) (EV.bor (ev_slice (v_ 0) (ov_some (EV.bor (ev_add (v_ 1) (EV.bor (ev_int))))) ov_none)))))
      (svs_one (sv_ret (ev_tup (m := .own) (av_star (EV.bor (ev_slice (v_ 3) ov_none (ov_some (v_ 2)))) (av_cons (ev_imm (ev_idx (v_ 0) (v_ 1) (fun _ _ => rfl) (.inl rfl))) (av_star (EV.bor (ev_slice (v_ 3) (ov_some (v_ 2)) ov_none)) (av_nil))))) (fun _ => rfl)))
/-! ### best_move -/
abbrev s_best_move : Stmt := topS 10
abbrev N_best_move : List Str := ["beats", "order", "n", "some", "i", "j"]
theorem sc_best_move : FnScope N_best_move ["beats", "order"] (defScope s_best_move) := ⟨rfl, rfl, rfl, by decide +kernel, rfl, by decide +kernel, by decide +kernel⟩
def b_best_move : SF := sSeq (sAsg (e1 lenD (eVar 1)) (gName 2)) (sSeq (sAsg (eComp2 [4, 5] [5] (wRange1 (eVar 2)) (gName 4) (tYes) (wRange1 (eVar 2)) (gName 5) (tB (e2 (eqD true) (eVar 4) (eVar 5))) (eTup (lCons (eCall d_count_turned (lCons (eVar 0) (lCons (eCall d_moved_thing (lCons (eVar 1) (lCons (eVar 4) (lCons (eVar 5) (lNil))))) (lNil)))) (lCons (eImm (eVar 4)) (lCons (eImm (eVar 5)) (lNil)))))) (gName 3)) (sRet (eIf (tB (e2 (eqD true) (eVar 3) (eLst (lNil)))) (e1 (bestD minF) (eVar 3)) (eC .none))))
def d_best_move : List D → M D := runDef 2 6 b_best_move
theorem len_best_move : ∀ ds S r, d_best_move ds S = some r → ds.length = 2 := fun _ _ _ h => runDef_len h
theorem ok_best_move (B : Blt mg) (C_count_turned : Cal P w K mg base 2 "count_turned" (spD K 2 true d_count_turned)) (C_moved_thing : Cal P w K mg base 1 "moved_thing" (spD K 3 true d_moved_thing)) {f : Addr} {fd : FuncData} (F : Fun K "best_move" "best_move" s_best_move f fd) (m : mg "best_move" = some (.ref f)) : Cal P w K mg base 3 "best_move" (spD K 2 true d_best_move) := by
  refine Cal.mk' (ps := ["beats", "order"]) F (F.binds fun _ _ _ _ _ _ us hl => match us, hl with | [_, _], _ => rfl) m (ok_D (N := N_best_move) (mu := []) (mu' := []) (k := 2) F sc_best_move rfl rfl (by decide) (by decide) fun cdv A outer s H E hr => ?_)
  exact svs_cons (sv_set sc_best_move.nd rfl (by first | exact .inl rfl | exact .inr rfl) (by first | exact .inl rfl | exact .inr rfl) (by decide) (by decide) (EV.weak (ev_len B.len (v_ 1))))
      (svs_cons (sv_setLc2  (m := .own) (own := [("i", 4), ("j", 5)]) rfl sc_best_move.nd rfl rfl (.inr rfl) (by decide) (sw_true rfl rfl rfl rfl) (iv_range1 B.range (v_ 2)) (blkOk_by (N := N_best_move) (sc := defScope s_best_move) (own := [("i", 4), ("j", 5)]) (by decide +kernel)) (by decide) (by decide) (by decide) (by decide) (by decide) (fun _ _ _ _ _ => gv_name sc_best_move.nd rfl (by first | exact .inl rfl | exact .inr rfl) (by first | exact .inl rfl | exact .inr rfl) (by decide) (by decide)) (fun _ _ _ _ _ => pts_yes) (fun _ _ _ _ _ => iv_range1 B.range (v_ 2)) (fun _ _ _ _ _ => gv_name sc_best_move.nd rfl (by first | exact .inl rfl | exact .inr rfl) (by first | exact .inl rfl | exact .inr rfl) (by decide) (by decide)) (fun _ _ _ _ _ => pts_if ((cv_ne (hu64 hr) (v_ 4) (v_ 5)).tv)) (fun _ _ _ _ _ => ev_tup (m := .own) (av_cons (ev_cal (C_count_turned.up (by decide)) hr len_count_turned (av_cons (v_ 0) (av_cons (EV.bor (ev_cal (C_moved_thing.up (by decide)) hr len_moved_thing (av_cons (v_ 1) (av_cons (v_ 4) (av_cons (v_ 5) (av_nil)))))) (av_nil)))) (av_cons (ev_imm (v_ 4)) (av_cons (ev_imm (v_ 5)) (av_nil))))))
      (svs_one (sv_ret (ev_if ((cv_ne (hu64 hr) (v_ 3) (EV.bor (ev_lst (m := .own) (av_nil)))).tv) (ev_minL rfl (hu128 hr) B.min (v_ 3)) (ev_none)) (fun _ => rfl))))
/-! ### is_still_order -/
abbrev s_is_still_order : Stmt := topS 11
abbrev N_is_still_order : List Str := ["beats", "order", "best"]
theorem sc_is_still_order : FnScope N_is_still_order ["beats", "order"] (defScope s_is_still_order) := ⟨rfl, rfl, rfl, by decide +kernel, rfl, by decide +kernel, by decide +kernel⟩
def b_is_still_order : SF := sSeq (sAsg (eCall d_best_move (lCons (eVar 0) (lCons (eVar 1) (lNil)))) (gName 2)) (sRet (eOr (e1 (isD false) (eVar 2)) (e2 (cmD .ge) (e2 idxD (eVar 2) (eC (.int 0))) (eCall d_count_turned (lCons (eVar 0) (lCons (eVar 1) (lNil)))))))
def d_is_still_order : List D → M D := runDef 2 3 b_is_still_order
theorem len_is_still_order : ∀ ds S r, d_is_still_order ds S = some r → ds.length = 2 := fun _ _ _ h => runDef_len h
theorem ok_is_still_order (B : Blt mg) (C_best_move : Cal P w K mg base 3 "best_move" (spD K 2 true d_best_move)) (C_count_turned : Cal P w K mg base 2 "count_turned" (spD K 2 true d_count_turned)) {f : Addr} {fd : FuncData} (F : Fun K "is_still_order" "is_still_order" s_is_still_order f fd) (m : mg "is_still_order" = some (.ref f)) : Cal P w K mg base 4 "is_still_order" (spD K 2 true d_is_still_order) := by
  refine Cal.mk' (ps := ["beats", "order"]) F (F.binds fun _ _ _ _ _ _ us hl => match us, hl with | [_, _], _ => rfl) m (ok_D (N := N_is_still_order) (mu := []) (mu' := []) (k := 3) F sc_is_still_order rfl rfl (by decide) (by decide) fun cdv A outer s H E hr => ?_)
  exact svs_cons (sv_set sc_is_still_order.nd rfl (by first | exact .inl rfl | exact .inr rfl) (by first | exact .inl rfl | exact .inr rfl) (by decide) (by decide) (EV.weak (ev_cal (C_best_move.up (by decide)) hr len_best_move (av_cons (v_ 0) (av_cons (v_ 1) (av_nil))))))
      (svs_one (sv_ret (ev_or ((cv_is (v_ 2)).ev) (ev_one ((cv_ge (ev_idx (v_ 2) (EV.bor (ev_int)) (fun _ _ => rfl) (.inl rfl)) (EV.bor (ev_cal (C_count_turned.up (by decide)) hr len_count_turned (av_cons (v_ 0) (av_cons (v_ 1) (av_nil)))))).ev))) (fun _ => rfl)))
/-! ### orders_by_moves -/
abbrev s_orders_by_moves : Stmt := topS 12
abbrev N_orders_by_moves : List Str := ["beats", "order", "found", "turned", "i", "j"]
theorem sc_orders_by_moves : FnScope N_orders_by_moves ["beats", "order"] (defScope s_orders_by_moves) := ⟨rfl, rfl, rfl, by decide +kernel, rfl, by decide +kernel, by decide +kernel⟩
def b_orders_by_moves : SF := sSeq (sAsg (eLst (lCons (eImm (eVar 1)) (lNil))) (gName 2)) (sSeq (sWhile 1000000 (tNot (tB (eCall d_is_still_order (lCons (eVar 0) (lCons (e2 idxD (eVar 2) (e1 negD (eC (.int 1)))) (lNil)))))) (sSeq (sAsg (eCall d_best_move (lCons (eVar 0) (lCons (e2 idxD (eVar 2) (e1 negD (eC (.int 1)))) (lNil)))) (gTup [gName 3, gName 4, gName 5])) (sAppend 2 (eCall d_moved_thing (lCons (e2 idxD (eVar 2) (e1 negD (eC (.int 1)))) (lCons (eVar 4) (lCons (eVar 5) (lNil)))))))) (sRet (e1 (tupleD true) (eVar 2))))
def d_orders_by_moves : List D → M D := runDef 2 6 b_orders_by_moves
theorem len_orders_by_moves : ∀ ds S r, d_orders_by_moves ds S = some r → ds.length = 2 := fun _ _ _ h => runDef_len h
theorem ok_orders_by_moves (B : Blt mg) (C_is_still_order : Cal P w K mg base 4 "is_still_order" (spD K 2 true d_is_still_order)) (C_best_move : Cal P w K mg base 3 "best_move" (spD K 2 true d_best_move)) (C_moved_thing : Cal P w K mg base 1 "moved_thing" (spD K 3 true d_moved_thing)) {f : Addr} {fd : FuncData} (F : Fun K "orders_by_moves" "orders_by_moves" s_orders_by_moves f fd) (m : mg "orders_by_moves" = some (.ref f)) : Cal P w K mg base 5 "orders_by_moves" (spD K 2 true d_orders_by_moves) := by
  refine Cal.mk' (ps := ["beats", "order"]) F (F.binds fun _ _ _ _ _ _ us hl => match us, hl with | [_, _], _ => rfl) m (ok_D (N := N_orders_by_moves) (mu := [2]) (mu' := [2]) (k := 4) F sc_orders_by_moves rfl rfl (by decide) (by decide) fun cdv A outer s H E hr => ?_)
  exact svs_cons (sv_setM sc_orders_by_moves.nd rfl (by first | exact .inl rfl | exact .inr rfl) (by first | exact .inl rfl | exact .inr rfl) (by decide) (EV.pure (ev_lst (m := .own) (av_cons (ev_imm (v_ 1)) (av_nil)))))
      (svs_cons (sv_while PassesOwn.never (TV.pure (tv_not (tv_val (EV.bor (ev_cal (C_is_still_order.up (by decide)) hr len_is_still_order (av_cons (v_ 0) (av_cons (ev_idx (v_ 2) (EV.bor (ev_neg (EV.bor (ev_int)))) (fun _ _ => rfl) (.inl rfl)) (av_nil))))))))
      (svs_cons (sv_asg (EV.weak (EV.pure (ev_cal (C_best_move.up (by decide)) hr len_best_move (av_cons (v_ 0) (av_cons (ev_idx (v_ 2) (EV.bor (ev_neg (EV.bor (ev_int)))) (fun _ _ => rfl) (.inl rfl)) (av_nil)))))) (gv_tup rfl (gvs_cons (gv_name sc_orders_by_moves.nd rfl (by first | exact .inl rfl | exact .inr rfl) (by first | exact .inl rfl | exact .inr rfl) (by decide) (by decide)) (gvs_cons (gv_name sc_orders_by_moves.nd rfl (by first | exact .inl rfl | exact .inr rfl) (by first | exact .inl rfl | exact .inr rfl) (by decide) (by decide)) (gvs_cons (gv_name sc_orders_by_moves.nd rfl (by first | exact .inl rfl | exact .inr rfl) (by first | exact .inl rfl | exact .inr rfl) (by decide) (by decide)) (gvs_nil))))))
      (svs_one (sv_append rfl (by first | exact .inl rfl | exact .inr (.inl rfl) | exact .inr (.inr rfl)) (by decide) (by decide) (EV.pure (ev_cal (C_moved_thing.up (by decide)) hr len_moved_thing (av_cons (ev_idx (v_ 2) (EV.bor (ev_neg (EV.bor (ev_int)))) (fun _ _ => rfl) (.inl rfl)) (av_cons (v_ 4) (av_cons (v_ 5) (av_nil))))))))))
      (svs_one (sv_ret (EV.pure (ev_tuple B.tuple (v_ 2))) (fun _ => rfl))))
/-! ### still_order -/
abbrev s_still_order : Stmt := topS 13
abbrev N_still_order : List Str := ["beats", "order"]
theorem sc_still_order : FnScope N_still_order ["beats", "order"] (defScope s_still_order) := ⟨rfl, rfl, rfl, by decide +kernel, rfl, by decide +kernel, by decide +kernel⟩
def b_still_order : SF := sRet (eImm (e2 idxD (eCall d_orders_by_moves (lCons (eVar 0) (lCons (eVar 1) (lNil)))) (e1 negD (eC (.int 1)))))
def d_still_order : List D → M D := runDef 2 2 b_still_order
theorem len_still_order : ∀ ds S r, d_still_order ds S = some r → ds.length = 2 := fun _ _ _ h => runDef_len h
theorem ok_still_order (B : Blt mg) (C_orders_by_moves : Cal P w K mg base 5 "orders_by_moves" (spD K 2 true d_orders_by_moves)) {f : Addr} {fd : FuncData} (F : Fun K "still_order" "still_order" s_still_order f fd) (m : mg "still_order" = some (.ref f)) : Cal P w K mg base 6 "still_order" (spD K 2 true d_still_order) := by
  refine Cal.mk' (ps := ["beats", "order"]) F (F.binds fun _ _ _ _ _ _ us hl => match us, hl with | [_, _], _ => rfl) m (ok_D (N := N_still_order) (mu := []) (mu' := []) (k := 5) F sc_still_order rfl rfl (by decide) (by decide) fun cdv A outer s H E hr => ?_)
  exact svs_one (sv_ret (ev_imm (ev_idx (EV.bor (ev_cal (C_orders_by_moves.up (by decide)) hr len_orders_by_moves (av_cons (v_ 0) (av_cons (v_ 1) (av_nil))))) (EV.bor (ev_neg (EV.bor (ev_int)))) (fun _ _ => rfl) (.inl rfl))) (fun _ => rfl))
/-! ### law_open_cells -/
abbrev s_law_open_cells : Stmt := topS 15
abbrev N_law_open_cells : List Str := ["script", "stirred", "cell", "cells"]
theorem sc_law_open_cells : FnScope N_law_open_cells ["script"] (defScope s_law_open_cells) := ⟨rfl, rfl, rfl, by decide +kernel, rfl, by decide +kernel, by decide +kernel⟩
theorem ok_law_open_cells (B : Blt mg) {f : Addr} {fd : FuncData} (F : Fun K "_law_open_cells" "_law_open_cells" s_law_open_cells f fd) (m : mg "_law_open_cells" = some (.ref f)) : Cal P w K mg base 1 "_law_open_cells" (spOpen K) := by
  refine Cal.mk' (ps := ["script"]) F (F.binds fun _ _ _ _ _ _ us hl => match us, hl with | [_], _ => rfl) m ?_
  refine F.ok (N := N_law_open_cells) (k := 0) sc_law_open_cells (fun vs H Q E h => ?_) (fun cdv A outer s H vs Q E hr h => ?_)
  · obtain ⟨a, ns, rfl, _⟩ := h
    rfl
  · obtain ⟨a, ns, rfl, hS, hlen, q⟩ := h
    refine ⟨_, pss_cons (ps_set (i := 1) sc_law_open_cells.nd rfl (.inl rfl) pe_int)
      (pss_cons (ps_for PassesOwn.never rfl (pi_list (pv 0)) (pg_name (i := 2) sc_law_open_cells.nd rfl (.inl rfl))
        (pss_one (ps_set (i := 1) sc_law_open_cells.nd rfl (.inl rfl) (pe_op op_modN (pe_callTy call_int1 (by rfl) B.int (by decide +kernel) (pa_cons (pe_op op_add (pe_op op_add (pe_op op_mul (pv 1) pe_int) (pe_op op_mul (pv 2) pe_int)) pe_int) pa_nil)) pe_int))))
      (pss_cons (ps_setLc (i := 3) (own := [("cell", 2)]) rfl sc_law_open_cells.nd rfl rfl (sw_true rfl rfl rfl rfl) (pi_list (pv 0)) (blkOk_by (N := N_law_open_cells) (sc := defScope s_law_open_cells) (by decide +kernel))
        (fun _ _ _ _ _ => pg_name (i := 2) sc_law_open_cells.nd rfl (.inl rfl) (.inr rfl)) (fun _ _ _ _ _ => pts_nil) (fun _ _ _ _ _ => pe_callB call_abs (by rfl) B.abs (by decide +kernel) (pa_cons (pv 2) pa_nil)))
      (pss_one (ps_ret (pe_disp (pps_cons pe_str (pe_revL (pv 3)) (pps_cons pe_str pe_int (pps_cons pe_str (pv 1) (pps_cons pe_str pe_int pps_nil)))) rfl rfl (by decide) (by decide)))))), ?_⟩
    refine ⟨.ref a, rfl, a, rfl, ⟨_, hS⟩, ?_⟩
    have len1 : (ns.map V.int).length = ns.length := List.length_map ..
    refine for_list (xs := ns.map V.int) (fun i σ H' => H' = H ∧ ∃ y, σ = [some (.ref a), some (.int ((ns.take i).foldl (fun s c => Int.fmod (s * 69069 + c * 31 + 5) 2147483629) 11)), y, none]) ⟨rfl, none, rfl⟩ (fun i σ H' _ p => by obtain ⟨rfl, _⟩ := p; exact hS) (fun i x σ H' hx p => ?_) fun σ H' p => ?_
    · obtain ⟨rfl, y, rfl⟩ := p
      rw [List.getElem?_map] at hx
      obtain ⟨n, hn, rfl⟩ := Option.map_eq_some_iff.mp hx
      refine ⟨_, rfl, _, _, rfl, rfl, .inr (by decide), _, rfl, _, _, rfl, rfl, .inr (by decide), _, _, rfl, rfl, _, _, rfl, rfl, .inl ⟨_, rfl, _, _, rfl, rfl, (show (2147483629 : Int) ≠ 0 by decide), ?_⟩⟩
      refine ⟨rfl, some (.int n), ?_⟩
      rw [List.take_add_one, hn, Option.toList_some, List.foldl_append]
      rfl
    · obtain ⟨rfl, y, rfl⟩ := p
      rw [len1, List.take_of_length_le (Nat.le_refl _)]
      refine ⟨.ref a, rfl, a, rfl, ⟨_, hS⟩, fun D hD => ?_⟩
      have nDa : ∀ H2 : Hp, Ext [] H' H2 → H2 D = none → True := fun _ _ _ => trivial
      refine lc_list (xs := ns.map V.int) (fun i H2 => Ext [] H' H2 ∧ H2 D = some (.lst (((ns.take i).map fun n => if n < 0 then -n else n).map V.int))) ⟨Ext.new hD, upd_same⟩ (fun i H2 _ p => ?_) (fun i x H2 hx p => ?_) fun H2 p => ?_
      · exact sqL_ext hS p.1
      · rw [List.getElem?_map] at hx
        obtain ⟨n, hn, rfl⟩ := Option.map_eq_some_iff.mp hx
        have hi : i < ns.length := (List.getElem?_eq_some_iff.mp hn).1
        refine And.intro rfl ?_
        simp only [L2.tYes, ↓reduceIte]
        refine ⟨_, rfl, n, rfl, _, p.2, ?_, ext_own p.1 hD, ?_⟩
        · have : 63 < sizeLine := by show 63 < sizeLine; decide
          simp only [List.length_map, List.length_take]
          omega
        · rw [upd_same, List.take_add_one, hn]
          simp
      · rw [len1, List.take_of_length_le (Nat.le_refl _)] at p
        show ∀ p, H2 p = none → _
        intro p0 hp0
        have e1 := p.1
        refine ⟨_, rfl, D, (ns.map fun n => if n < 0 then -n else n).map V.int, rfl, .inl (.inl ?_), fun p1 hp1 => ?_⟩
        · rw [upd_ne fun z => by rw [← z, p.2] at hp0; cases hp0]
          exact p.2
        have n10 : p1 ≠ p0 := fun z => by rw [z, upd_same] at hp1; cases hp1
        refine ⟨_, rfl, ?_, [(.inr "cells", .ref p1), (.inr "left", .int 1), (.inr "mixed", _), (.inr "turn", .int 0)], rfl, by simp, q _ p0 p1 ?_ ⟨?_, ?_⟩⟩
        · rw [upd_ne (Ne.symm n10), upd_same]
        · have h0 : H' p0 = none := e1.nn hp0 (by simp)
          have h1 : H' p1 = none := e1.nn (by rw [upd_ne n10] at hp1; exact hp1) (by simp)
          exact ext_own (ext_own (ext_own e1 h0) h1) h0
        · rw [upd_same]
          rfl
        · rw [upd_ne n10, upd_same, List.map_reverse]
          rfl

/-! ### law_pick -/
abbrev s_law_pick : Stmt := topS 16
abbrev N_law_pick : List Str := ["source", "most", "cells", "others", "lap", "stirred"]
theorem sc_law_pick : FnScope N_law_pick ["source", "most"] (defScope s_law_pick) := ⟨rfl, rfl, rfl, by decide +kernel, rfl, by decide +kernel, by decide +kernel⟩
def b_law_pick : SF := sSeq (sIf (tB (e2 (cmD .lt) (eVar 1) (eC (.int 2)))) (sRet (eC (.int 0))) (sNext)) (sSeq (sDrain 2) (sSeq (sAsg (eSrc .left) (gName 3)) (sSeq (sIf (tB (e2 (cmD .gt) (eVar 3) (eC (.int 1)))) (sSeq (sSrc .left (e2 fdivD (eVar 3) (eVar 1))) (sRet (e2 modD (e1 intD (eVar 3)) (eVar 1)))) (sNext)) (sSeq (sSrc .turn (e2 (addD true) (eSrc .turn) (eC (.int 1)))) (sSeq (sAsg (eSrc .turn) (gName 4)) (sSeq (sAsg (e2 modD (e1 intD (e2 (addD true) (eSrc .mixed) (e2 mulD (eVar 4) (eC (.int 104729))))) (eC (.int 998244353))) (gName 5)) (sSeq (sAsg (e2 modD (e1 intD (e2 (addD true) (e2 mulD (eVar 5) (eVar 5)) (e2 mulD (eVar 4) (eC (.int 17))))) (eC (.int 2147483647))) (gName 5)) (sRet (e2 modD (e1 intD (e2 fdivD (eVar 5) (eC (.int 16)))) (eVar 1))))))))))
def d_law_pick : List D → M D := runDefS 1 6 b_law_pick
theorem len_law_pick : ∀ ds S r, d_law_pick ds S = some r → ds.length = 1 := fun _ _ _ h => runDefS_len h
theorem ok_law_pick (B : Blt mg)  {f : Addr} {fd : FuncData} (F : Fun K "_law_pick" "_law_pick" s_law_pick f fd) (m : mg "_law_pick" = some (.ref f)) : Cal P w K mg base 1 "_law_pick" (spM K 1 true d_law_pick) := by
  refine Cal.mk' (ps := ["source", "most"]) F (F.binds fun _ _ _ _ _ _ us hl => match us, hl with | [_, _], _ => rfl) m (ok_M (N := N_law_pick) (mu := []) (mu' := []) (k := 0) F sc_law_pick rfl rfl (by decide) (by decide) fun cdv A outer s H E hr => ?_)
  exact svs_cons (sv_if ((cv_lt (v_ 1) (EV.bor (ev_int))).tv)
      (svs_one (sv_ret (ev_int) (fun _ => rfl)))
      (svs_nil))
      (svs_drain (i := 0) (i2 := 2) PassesOwn.never (hu1 hr) B.len rfl (by decide) (by decide) sc_law_pick.nd rfl (by first | exact .inl rfl | exact .inr (.inl rfl) | exact .inr (.inr rfl)) rfl (by first | exact .inl rfl | exact .inr (.inl rfl) | exact .inr (.inr rfl)) (by first | exact .inl rfl | exact .inr rfl) (by first | exact .inl rfl | exact .inr rfl) (by decide) (by decide) (by decide) (by decide) rfl (by rfl) rfl rfl rfl rfl rfl (fun _ => rfl) (fun _ => rfl) (fun _ _ => rfl) (fun _ _ => rfl) (svs_cons (sv_set sc_law_pick.nd rfl (by first | exact .inl rfl | exact .inr rfl) (by first | exact .inl rfl | exact .inr rfl) (by decide) (by decide) (EV.weak (ev_src (k := .left) (hu1 hr) rfl rfl (by first | exact .inl rfl | exact .inr (.inl rfl) | exact .inr (.inr rfl)))))
      (svs_cons (sv_if ((cv_gt (v_ 3) (EV.bor (ev_int))).tv)
      (svs_cons (sv_src (k := .left) (hu1 hr) rfl rfl (by first | exact .inl rfl | exact .inr (.inl rfl) | exact .inr (.inr rfl)) (EV.bor (ev_fdiv (v_ 3) (v_ 1))))
      (svs_one (sv_ret (ev_mod (EV.bor (ev_intOf B.int (v_ 3))) (v_ 1)) (fun _ => rfl))))
      (svs_nil))
      (svs_cons (sv_src (k := .turn) (hu1 hr) rfl rfl (by first | exact .inl rfl | exact .inr (.inl rfl) | exact .inr (.inr rfl)) (EV.bor (ev_add (EV.bor (ev_src (k := .turn) (hu1 hr) rfl rfl (by first | exact .inl rfl | exact .inr (.inl rfl) | exact .inr (.inr rfl)))) (EV.bor (ev_int)))))
      (svs_cons (sv_set sc_law_pick.nd rfl (by first | exact .inl rfl | exact .inr rfl) (by first | exact .inl rfl | exact .inr rfl) (by decide) (by decide) (EV.weak (ev_src (k := .turn) (hu1 hr) rfl rfl (by first | exact .inl rfl | exact .inr (.inl rfl) | exact .inr (.inr rfl)))))
      (svs_cons (sv_set sc_law_pick.nd rfl (by first | exact .inl rfl | exact .inr rfl) (by first | exact .inl rfl | exact .inr rfl) (by decide) (by decide) (EV.weak (ev_mod (EV.bor (ev_intOf B.int (EV.bor (ev_add (EV.bor (ev_src (k := .mixed) (hu1 hr) rfl rfl (by first | exact .inl rfl | exact .inr (.inl rfl) | exact .inr (.inr rfl)))) (EV.bor (ev_mul (v_ 4) (EV.bor (ev_int)))))))) (EV.bor (ev_int)))))
      (svs_cons (sv_set sc_law_pick.nd rfl (by first | exact .inl rfl | exact .inr rfl) (by first | exact .inl rfl | exact .inr rfl) (by decide) (by decide) (EV.weak (ev_mod (EV.bor (ev_intOf B.int (EV.bor (ev_add (EV.bor (ev_mul (v_ 5) (v_ 5))) (EV.bor (ev_mul (v_ 4) (EV.bor (ev_int)))))))) (EV.bor (ev_int)))))
      (svs_one (sv_ret (ev_mod (EV.bor (ev_intOf B.int (EV.bor (ev_fdiv (v_ 5) (EV.bor (ev_int)))))) (v_ 1)) (fun _ => rfl))))))))))
/-! ### law_any_order -/
abbrev s_law_any_order : Stmt := topS 17
abbrev N_law_any_order : List Str := ["source", "things", "others", "lap"]
theorem sc_law_any_order : FnScope N_law_any_order ["source", "things"] (defScope s_law_any_order) := ⟨rfl, rfl, rfl, by decide +kernel, rfl, by decide +kernel, by decide +kernel⟩
def b_law_any_order : SF := sSeq (sAsg (e1 (listD true) (eVar 1)) (gName 2)) (sRet (eMix 2 d_law_pick))
def d_law_any_order : List D → M D := runDefS 1 4 b_law_any_order
theorem len_law_any_order : ∀ ds S r, d_law_any_order ds S = some r → ds.length = 1 := fun _ _ _ h => runDefS_len h
theorem ok_law_any_order (B : Blt mg) (C_law_pick : Cal P w K mg base 1 "_law_pick" (spM K 1 true d_law_pick)) {f : Addr} {fd : FuncData} (F : Fun K "_law_any_order" "_law_any_order" s_law_any_order f fd) (m : mg "_law_any_order" = some (.ref f)) : Cal P w K mg base 2 "_law_any_order" (spM K 1 true d_law_any_order) := by
  refine Cal.mk' (ps := ["source", "things"]) F (F.binds fun _ _ _ _ _ _ us hl => match us, hl with | [_, _], _ => rfl) m (ok_M (N := N_law_any_order) (mu := [2]) (mu' := [2]) (k := 1) F sc_law_any_order rfl rfl (by decide) (by decide) fun cdv A outer s H E hr => ?_)
  exact svs_cons (sv_setM sc_law_any_order.nd rfl (by first | exact .inl rfl | exact .inr rfl) (by first | exact .inl rfl | exact .inr rfl) (by decide) (EV.pure (ev_list B.list (v_ 1))))
      (svs_one ((by obtain ⟨fq, fdq, psq, Fq, mq, kq, bq⟩ := (C_law_pick.up (k := 1) (by decide)).ex; exact PS.mono (ps_ret (pe_lc (own := [("lap", 3)]) rfl sc_law_any_order.nd (pi_range1 (by rfl) B.range (pa_cons (pe_callB call_len_seq (by rfl) B.len PySem.boot_len (pa_cons (pe_var (i := 2) rfl (by first | exact .inl rfl | exact .inr (.inl rfl) | exact .inr (.inr rfl))) pa_nil)) pa_nil)) (blkOk_by (N := N_law_any_order) (sc := defScope s_law_any_order) (own := [("lap", 3)]) (by decide +kernel))   (fun _ _ _ _ _ => pg_name (i := 3) sc_law_any_order.nd rfl (by first | exact .inl rfl | exact .inr rfl) (by first | exact .inl rfl | exact .inr rfl)) (fun _ _ _ _ _ => pts_nil)    (fun _ _ _ _ _ => pe_bm PySem.F.plainAttrs_list PySem.F.slot_list_pop PySem.F.type_list_pop mt_popAt (pe_var (i := 2) rfl (by first | exact .inl rfl | exact .inr (.inl rfl) | exact .inr (.inr rfl)))    (pa_cons (pe_call Fq hr (by rfl) mq kq bq .nil pass0 (pa_cons (pe_var (i := 0) rfl (by first | exact .inl rfl | exact .inr (.inl rfl) | exact .inr (.inr rfl))) (pa_cons (pe_callB call_len_seq (by rfl) B.len PySem.boot_len (pa_cons (pe_var (i := 2) rfl (by first | exact .inl rfl | exact .inr (.inl rfl) | exact .inr (.inr rfl))) pa_nil)) pa_nil))) pa_nil))))    fun D σ H h => mix_sem (fun l vs H Q hl q => ⟨l, vs, rfl, .inl (.inl (.inl hl)), q⟩) (by decide) rfl (by decide) (by decide) h)))
/-! ### law_of -/
abbrev s_law_of : Stmt := topS 18
abbrev N_law_of : List Str := ["source", "some"]
theorem sc_law_of : FnScope N_law_of ["source", "some"] (defScope s_law_of) := ⟨rfl, rfl, rfl, by decide +kernel, rfl, by decide +kernel, by decide +kernel⟩
def b_law_of : SF := sRet (eImm (e2 idxD (eVar 1) (eCallM d_law_pick (lCons (e1 lenD (eVar 1)) (lNil)))))
def d_law_of : List D → M D := runDefS 1 2 b_law_of
theorem len_law_of : ∀ ds S r, d_law_of ds S = some r → ds.length = 1 := fun _ _ _ h => runDefS_len h
theorem ok_law_of (B : Blt mg) (C_law_pick : Cal P w K mg base 1 "_law_pick" (spM K 1 true d_law_pick)) {f : Addr} {fd : FuncData} (F : Fun K "_law_of" "_law_of" s_law_of f fd) (m : mg "_law_of" = some (.ref f)) : Cal P w K mg base 2 "_law_of" (spM K 1 true d_law_of) := by
  refine Cal.mk' (ps := ["source", "some"]) F (F.binds fun _ _ _ _ _ _ us hl => match us, hl with | [_, _], _ => rfl) m (ok_M (N := N_law_of) (mu := []) (mu' := []) (k := 1) F sc_law_of rfl rfl (by decide) (by decide) fun cdv A outer s H E hr => ?_)
  exact svs_one (sv_ret (ev_imm (ev_idx (v_ 1) (EV.bor (ev_calM (C_law_pick.up (by decide)) hr len_law_pick rfl rfl (by first | exact .inl rfl | exact .inr (.inl rfl) | exact .inr (.inr rfl)) (av_cons (EV.bor (ev_len B.len (v_ 1))) (av_nil)))) (fun _ _ => rfl) (.inl rfl))) (fun _ => rfl))
/-! ### law_row -/
abbrev s_law_row : Stmt := topS 19
abbrev N_law_row : List Str := ["source", "n"]
theorem sc_law_row : FnScope N_law_row ["source", "n"] (defScope s_law_row) := ⟨rfl, rfl, rfl, by decide +kernel, rfl, by decide +kernel, by decide +kernel⟩
def b_law_row : SF := sRet (e1 (tupleD true) (eCallM d_law_any_order (lCons (eListOf (wRange1 (eVar 1))) (lNil))))
def d_law_row : List D → M D := runDefS 1 2 b_law_row
theorem len_law_row : ∀ ds S r, d_law_row ds S = some r → ds.length = 1 := fun _ _ _ h => runDefS_len h
theorem ok_law_row (B : Blt mg) (C_law_any_order : Cal P w K mg base 2 "_law_any_order" (spM K 1 true d_law_any_order)) {f : Addr} {fd : FuncData} (F : Fun K "_law_row" "_law_row" s_law_row f fd) (m : mg "_law_row" = some (.ref f)) : Cal P w K mg base 3 "_law_row" (spM K 1 true d_law_row) := by
  refine Cal.mk' (ps := ["source", "n"]) F (F.binds fun _ _ _ _ _ _ us hl => match us, hl with | [_, _], _ => rfl) m (ok_M (N := N_law_row) (mu := []) (mu' := []) (k := 2) F sc_law_row rfl rfl (by decide) (by decide) fun cdv A outer s H E hr => ?_)
  exact svs_one (sv_ret (ev_tuple B.tuple (EV.bor (ev_calM (C_law_any_order.up (by decide)) hr len_law_any_order rfl rfl (by first | exact .inl rfl | exact .inr (.inl rfl) | exact .inr (.inr rfl)) (av_cons (EV.bor (ev_listRg1 rfl B.list B.range (v_ 1))) (av_nil))))) (fun _ => rfl))
/-! ### law_rows -/
abbrev s_law_rows : Stmt := topS 20
abbrev N_law_rows : List Str := ["table", "row"]
theorem sc_law_rows : FnScope N_law_rows ["table"] (defScope s_law_rows) := ⟨rfl, rfl, rfl, by decide +kernel, rfl, by decide +kernel, by decide +kernel⟩
def b_law_rows : SF := sRet (e1 (tupleD true) (eComp [1] (wSeq (eVar 0)) (gName 1) (tYes) (e1 (tupleD true) (eVar 1))))
def d_law_rows : List D → M D := runDef 1 2 b_law_rows
theorem len_law_rows : ∀ ds S r, d_law_rows ds S = some r → ds.length = 1 := fun _ _ _ h => runDef_len h
theorem ok_law_rows (B : Blt mg)  {f : Addr} {fd : FuncData} (F : Fun K "_law_rows" "_law_rows" s_law_rows f fd) (m : mg "_law_rows" = some (.ref f)) : Cal P w K mg base 1 "_law_rows" (spD K 1 true d_law_rows) := by
  refine Cal.mk' (ps := ["table"]) F (F.binds fun _ _ _ _ _ _ us hl => match us, hl with | [_], _ => rfl) m (ok_D (N := N_law_rows) (mu := []) (mu' := []) (k := 0) F sc_law_rows rfl rfl (by decide) (by decide) fun cdv A outer s H E hr => ?_)
  exact svs_one (sv_ret (ev_tuple B.tuple (EV.bor (ev_lc (m := .own) (own := [("row", 1)]) rfl sc_law_rows.nd (iv_seq (EV.bv (v_ 0))) (blkOk_by (N := N_law_rows) (sc := defScope s_law_rows) (own := [("row", 1)]) (by decide +kernel)) (by decide) (by decide) (by decide) (fun _ _ _ _ _ => gv_name sc_law_rows.nd rfl (by first | exact .inl rfl | exact .inr rfl) (by first | exact .inl rfl | exact .inr rfl) (by decide) (by decide)) (fun _ _ _ _ _ => pts_yes) (fun _ _ _ _ _ => ev_tuple B.tuple (v_ 1))))) (fun _ => rfl))
/-! ### law_beats -/
abbrev s_law_beats : Stmt := topS 21
abbrev N_law_beats : List Str := ["source", "n", "order", "way", "rows", "i", "j", "first", "a", "b"]
theorem sc_law_beats : FnScope N_law_beats ["source", "n"] (defScope s_law_beats) := ⟨rfl, rfl, rfl, by decide +kernel, rfl, by decide +kernel, by decide +kernel⟩
def b_law_beats : SF := sSeq (sPar [2, 3, 4] (lCons (eCallM d_law_row (lCons (eVar 1) (lNil))) (lCons (eCallM d_law_pick (lCons (eC (.int 3)) (lNil))) (lCons (eComp [8] (wRange1 (eVar 1)) (gName 8) (tYes) (e2 mulD (eLst (lCons (eC (.int 0)) (lNil))) (eVar 1))) (lNil))))) (sSeq (sFor (wRange1 (eVar 1)) (gName 5) (sFor (wRange2 (e2 (addD true) (eVar 5) (eC (.int 1))) (eVar 1)) (gName 6) (sSeq (sAsg (eIf (tB (e2 (eqD false) (eVar 3) (eC (.int 0)))) (e2 (eqD false) (eCallM d_law_pick (lCons (eC (.int 2)) (lNil))) (eC (.int 0))) (e2 (cmD .gt) (eCallM d_law_pick (lCons (eC (.int 5)) (lNil))) (eC (.int 0)))) (gName 7)) (sSeq (sAsg (eIf (tB (e2 (eqD false) (eVar 3) (eC (.int 2)))) (e2 (cmD .lt) (e2 mulD (eC (.int 2)) (e2 subD (eVar 6) (eVar 5))) (eVar 1)) (eVar 7)) (gName 7)) (sSeq (sAsg (eIf (tB (eVar 7)) (eTup (lCons (eImm (e2 idxD (eVar 2) (eVar 5))) (lCons (eImm (e2 idxD (eVar 2) (eVar 6))) (lNil)))) (eTup (lCons (eImm (e2 idxD (eVar 2) (eVar 6))) (lCons (eImm (e2 idxD (eVar 2) (eVar 5))) (lNil))))) (gTup [gName 8, gName 9])) (sSetIx2 4 (eVar 8) (eVar 9) (eC (.int 1)))))))) (sRet (eCall d_law_rows (lCons (eVar 4) (lNil)))))
def d_law_beats : List D → M D := runDefS 1 10 b_law_beats
theorem len_law_beats : ∀ ds S r, d_law_beats ds S = some r → ds.length = 1 := fun _ _ _ h => runDefS_len h
theorem ok_law_beats (B : Blt mg) (C_law_rows : Cal P w K mg base 1 "_law_rows" (spD K 1 true d_law_rows)) (C_law_row : Cal P w K mg base 3 "_law_row" (spM K 1 true d_law_row)) (C_law_pick : Cal P w K mg base 1 "_law_pick" (spM K 1 true d_law_pick)) {f : Addr} {fd : FuncData} (F : Fun K "_law_beats" "_law_beats" s_law_beats f fd) (m : mg "_law_beats" = some (.ref f)) : Cal P w K mg base 4 "_law_beats" (spM K 1 true d_law_beats) := by
  refine Cal.mk' (ps := ["source", "n"]) F (F.binds fun _ _ _ _ _ _ us hl => match us, hl with | [_, _], _ => rfl) m (ok_M (N := N_law_beats) (mu := [4]) (mu' := [4]) (k := 3) F sc_law_beats rfl rfl (by decide) (by decide) fun cdv A outer s H E hr => ?_)
  exact svs_cons (sv_par3 rfl sc_law_beats.nd rfl rfl rfl (by decide) (by decide) (by decide) rfl rfl rfl (.inr rfl) (by decide) (av_cons (EV.pure (ev_calM (C_law_row.up (by decide)) hr len_law_row rfl rfl (by first | exact .inl rfl | exact .inr (.inl rfl) | exact .inr (.inr rfl)) (av_cons (v_ 1) (av_nil)))) (av_cons (EV.pure (ev_calM (C_law_pick.up (by decide)) hr len_law_pick rfl rfl (by first | exact .inl rfl | exact .inr (.inl rfl) | exact .inr (.inr rfl)) (av_cons (EV.bor (ev_int)) (av_nil)))) (av_cons (EV.pure (ev_lc (m := .own) (own := [("a", 8)]) rfl sc_law_beats.nd (iv_range1 B.range (v_ 1)) (blkOk_by (N := N_law_beats) (sc := defScope s_law_beats) (own := [("a", 8)]) (by decide +kernel)) (by decide) (by decide) (by decide) (fun _ _ _ _ _ => gv_name sc_law_beats.nd rfl (by first | exact .inl rfl | exact .inr rfl) (by first | exact .inl rfl | exact .inr rfl) (by decide) (by decide)) (fun _ _ _ _ _ => pts_yes) (fun _ _ _ _ _ => ev_mul (EV.bor (ev_lst (m := .own) (av_cons (ev_int) (av_nil)))) (v_ 1)))) (av_nil)))) rfl)
      (svs_cons (sv_for PassesOwn.never rfl (iv_range1 B.range (EV.pure (v_ 1))) (gv_name sc_law_beats.nd rfl (by first | exact .inl rfl | exact .inr rfl) (by first | exact .inl rfl | exact .inr rfl) (by decide) (by decide))
      (svs_one (sv_for PassesOwn.never rfl (iv_range2 B.range (EV.pure (EV.bor (ev_add (v_ 5) (EV.bor (ev_int))))) (EV.pure (v_ 1))) (gv_name sc_law_beats.nd rfl (by first | exact .inl rfl | exact .inr rfl) (by first | exact .inl rfl | exact .inr rfl) (by decide) (by decide))
      (svs_cons (sv_set sc_law_beats.nd rfl (by first | exact .inl rfl | exact .inr rfl) (by first | exact .inl rfl | exact .inr rfl) (by decide) (by decide) (EV.weak (EV.pure (ev_if ((cv_eq (hu64 hr) (v_ 3) (EV.bor (ev_int))).tv) ((cv_eq (hu64 hr) (EV.bor (ev_calM (C_law_pick.up (by decide)) hr len_law_pick rfl rfl (by first | exact .inl rfl | exact .inr (.inl rfl) | exact .inr (.inr rfl)) (av_cons (EV.bor (ev_int)) (av_nil)))) (EV.bor (ev_int))).ev) ((cv_gt (EV.bor (ev_calM (C_law_pick.up (by decide)) hr len_law_pick rfl rfl (by first | exact .inl rfl | exact .inr (.inl rfl) | exact .inr (.inr rfl)) (av_cons (EV.bor (ev_int)) (av_nil)))) (EV.bor (ev_int))).ev)))))
      (svs_cons (sv_set sc_law_beats.nd rfl (by first | exact .inl rfl | exact .inr rfl) (by first | exact .inl rfl | exact .inr rfl) (by decide) (by decide) (ev_if (TV.pure ((cv_eq (hu64 hr) (v_ 3) (EV.bor (ev_int))).tv)) (EV.weak (EV.pure ((cv_lt (EV.bor (ev_mul (EV.bor (ev_int)) (EV.bor (ev_sub (v_ 6) (v_ 5))))) (v_ 1)).ev))) (vV_ 7)))
      (svs_cons (sv_asg (EV.weak (EV.pure (ev_if (tv_val (v_ 7)) (ev_tup (m := .own) (av_cons (ev_imm (ev_idx (v_ 2) (v_ 5) (fun _ _ => rfl) (.inl rfl))) (av_cons (ev_imm (ev_idx (v_ 2) (v_ 6) (fun _ _ => rfl) (.inl rfl))) (av_nil)))) (ev_tup (m := .own) (av_cons (ev_imm (ev_idx (v_ 2) (v_ 6) (fun _ _ => rfl) (.inl rfl))) (av_cons (ev_imm (ev_idx (v_ 2) (v_ 5) (fun _ _ => rfl) (.inl rfl))) (av_nil))))))) (gv_tup rfl (gvs_cons (gv_name sc_law_beats.nd rfl (by first | exact .inl rfl | exact .inr rfl) (by first | exact .inl rfl | exact .inr rfl) (by decide) (by decide)) (gvs_cons (gv_name sc_law_beats.nd rfl (by first | exact .inl rfl | exact .inr rfl) (by first | exact .inl rfl | exact .inr rfl) (by decide) (by decide)) (gvs_nil)))))
      (svs_one (sv_setix2 rfl (by first | exact .inl rfl | exact .inr (.inl rfl) | exact .inr (.inr rfl)) (by decide) (by decide) (EV.pure (ev_int)) (EV.pure (v_ 8)) (EV.pure (v_ 9)) (fun _ _ => rfl)))))))))
      (svs_one (sv_ret (EV.pure (ev_cal (C_law_rows.up (by decide)) hr len_law_rows (av_cons (v_ 4) (av_nil)))) (fun _ => rfl))))
/-! ### law_turned -/
abbrev s_law_turned : Stmt := topS 22
abbrev N_law_turned : List Str := ["beats", "order", "found", "i", "a", "b"]
theorem sc_law_turned : FnScope N_law_turned ["beats", "order"] (defScope s_law_turned) := ⟨rfl, rfl, rfl, by decide +kernel, rfl, by decide +kernel, by decide +kernel⟩
def b_law_turned : SF := sSeq (sAsg (eLst (lNil)) (gName 2)) (sSeq (sFor (wEnum (eVar 1)) (gTup [gName 3, gName 4]) (sAsg (e2 (addD true) (eVar 2) (eComp [5] (wSeq (eSlice true (eVar 1) (some (e2 (addD true) (eVar 3) (eC (.int 1)))) none)) (gName 5) (tB (e2 (eqD false) (e2 idxD (e2 idxD (eVar 0) (eVar 5)) (eVar 4)) (eC (.int 1)))) (eTup (lCons (eImm (eVar 5)) (lCons (eImm (eVar 4)) (lNil)))))) (gName 2))) (sRet (e1 sortedD (eVar 2))))
def d_law_turned : List D → M D := runDef 2 6 b_law_turned
theorem len_law_turned : ∀ ds S r, d_law_turned ds S = some r → ds.length = 2 := fun _ _ _ h => runDef_len h
theorem ok_law_turned (B : Blt mg)  {f : Addr} {fd : FuncData} (F : Fun K "_law_turned" "_law_turned" s_law_turned f fd) (m : mg "_law_turned" = some (.ref f)) : Cal P w K mg base 1 "_law_turned" (spD K 2 true d_law_turned) := by
  refine Cal.mk' (ps := ["beats", "order"]) F (F.binds fun _ _ _ _ _ _ us hl => match us, hl with | [_, _], _ => rfl) m (ok_D (N := N_law_turned) (mu := []) (mu' := []) (k := 0) F sc_law_turned rfl rfl (by decide) (by decide) fun cdv A outer s H E hr => ?_)
  exact svs_cons (sv_set sc_law_turned.nd rfl (by first | exact .inl rfl | exact .inr rfl) (by first | exact .inl rfl | exact .inr rfl) (by decide) (by decide) (EV.weak (ev_lst (m := .own) (av_nil))))
      (svs_cons (sv_for PassesOwn.never rfl (iv_enum B.enumerate (EV.bv (v_ 1))) (gv_tup rfl (gvs_cons (gv_name sc_law_turned.nd rfl (by first | exact .inl rfl | exact .inr rfl) (by first | exact .inl rfl | exact .inr rfl) (by decide) (by decide)) (gvs_cons (gv_name sc_law_turned.nd rfl (by first | exact .inl rfl | exact .inr rfl) (by first | exact .inl rfl | exact .inr rfl) (by decide) (by decide)) (gvs_nil))))
      (svs_one (sv_set sc_law_turned.nd rfl (by first | exact .inl rfl | exact .inr rfl) (by first | exact .inl rfl | exact .inr rfl) (by decide) (by decide) (EV.weak (ev_add (v_ 2) (EV.bor (ev_lc (m := .own) (own := [("b", 5)]) rfl sc_law_turned.nd (iv_seq (EV.weak (ev_slice (v_ 1) (ov_some (EV.bor (ev_add (v_ 3) (EV.bor (ev_int))))) ov_none))) (blkOk_by (N := N_law_turned) (sc := defScope s_law_turned) (own := [("b", 5)]) (by decide +kernel)) (by decide) (by decide) (by decide) (fun _ _ _ _ _ => gv_name sc_law_turned.nd rfl (by first | exact .inl rfl | exact .inr rfl) (by first | exact .inl rfl | exact .inr rfl) (by decide) (by decide)) (fun _ _ _ _ _ => pts_if ((cv_eq (hu64 hr) (ev_idx (ev_idx (v_ 0) (v_ 5) (fun _ _ => rfl) (.inl rfl)) (v_ 4) (fun _ _ => rfl) (.inl rfl)) (EV.bor (ev_int))).tv)) (fun _ _ _ _ _ => ev_tup (m := .own) (av_cons (ev_imm (v_ 5)) (av_cons (ev_imm (v_ 4)) (av_nil)))))))))))
      (svs_one (sv_ret (ev_sorted rfl (hu128 hr) B.sorted (v_ 2)) (fun _ => rfl))))
/-! ### law_halves -/
abbrev s_law_halves : Stmt := topS 23
abbrev N_law_halves : List Str := ["beats", "order", "i", "a", "k", "b"]
theorem sc_law_halves : FnScope N_law_halves ["beats", "order"] (defScope s_law_halves) := ⟨rfl, rfl, rfl, by decide +kernel, rfl, by decide +kernel, by decide +kernel⟩
def b_law_halves : SF := sSeq (sFor (wEnum (eVar 1)) (gTup [gName 2, gName 3]) (sSeq (sFor (wRange2 (eC (.int 1)) (e2 subD (e1 lenD (eVar 1)) (eVar 2))) (gName 4) (sIf (tB (e2 (cmD .lt) (e2 mulD (eC (.int 2)) (e1 sumD (eComp [5] (wSeq (eSlice true (eVar 1) (some (e2 (addD true) (eVar 2) (eC (.int 1)))) (some (e2 (addD true) (e2 (addD true) (eVar 2) (eC (.int 1))) (eVar 4))))) (gName 5) (tYes) (eImm (e2 idxD (e2 idxD (eVar 0) (eVar 3)) (eVar 5)))))) (eVar 4))) (sRet (eC (.bool false))) (sNext))) (sFor (wRange2 (eC (.int 1)) (e2 (addD true) (eVar 2) (eC (.int 1)))) (gName 4) (sIf (tB (e2 (cmD .lt) (e2 mulD (eC (.int 2)) (e1 sumD (eComp [5] (wSeq (eSlice true (eVar 1) (some (e2 subD (eVar 2) (eVar 4))) (some (eVar 2)))) (gName 5) (tYes) (eImm (e2 idxD (e2 idxD (eVar 0) (eVar 5)) (eVar 3)))))) (eVar 4))) (sRet (eC (.bool false))) (sNext))))) (sRet (eC (.bool true)))
def d_law_halves : List D → M D := runDef 2 6 b_law_halves
theorem len_law_halves : ∀ ds S r, d_law_halves ds S = some r → ds.length = 2 := fun _ _ _ h => runDef_len h
theorem ok_law_halves (B : Blt mg)  {f : Addr} {fd : FuncData} (F : Fun K "_law_halves" "_law_halves" s_law_halves f fd) (m : mg "_law_halves" = some (.ref f)) : Cal P w K mg base 1 "_law_halves" (spD K 2 true d_law_halves) := by
  refine Cal.mk' (ps := ["beats", "order"]) F (F.binds fun _ _ _ _ _ _ us hl => match us, hl with | [_, _], _ => rfl) m (ok_D (N := N_law_halves) (mu := []) (mu' := []) (k := 0) F sc_law_halves rfl rfl (by decide) (by decide) fun cdv A outer s H E hr => ?_)
  exact svs_cons (sv_for PassesOwn.never rfl (iv_enum B.enumerate (EV.bv (v_ 1))) (gv_tup rfl (gvs_cons (gv_name sc_law_halves.nd rfl (by first | exact .inl rfl | exact .inr rfl) (by first | exact .inl rfl | exact .inr rfl) (by decide) (by decide)) (gvs_cons (gv_name sc_law_halves.nd rfl (by first | exact .inl rfl | exact .inr rfl) (by first | exact .inl rfl | exact .inr rfl) (by decide) (by decide)) (gvs_nil))))
      (svs_cons (sv_for PassesOwn.never rfl (iv_range2 B.range (EV.bor (ev_int)) (EV.bor (ev_sub (EV.bor (ev_len B.len (v_ 1))) (v_ 2)))) (gv_name sc_law_halves.nd rfl (by first | exact .inl rfl | exact .inr rfl) (by first | exact .inl rfl | exact .inr rfl) (by decide) (by decide))
      (svs_one (sv_if ((cv_lt (EV.bor (ev_mul (EV.bor (ev_int)) (EV.bor (ev_sum rfl B.sum (EV.bor (ev_lc (m := .own) (own := [("b", 5)]) rfl sc_law_halves.nd (iv_seq (EV.weak (ev_slice (v_ 1) (ov_some (EV.bor (ev_add (v_ 2) (EV.bor (ev_int))))) (ov_some (EV.bor (ev_add (EV.bor (ev_add (v_ 2) (EV.bor (ev_int)))) (v_ 4))))))) (blkOk_by (N := N_law_halves) (sc := defScope s_law_halves) (own := [("b", 5)]) (by decide +kernel)) (by decide) (by decide) (by decide) (fun _ _ _ _ _ => gv_name sc_law_halves.nd rfl (by first | exact .inl rfl | exact .inr rfl) (by first | exact .inl rfl | exact .inr rfl) (by decide) (by decide)) (fun _ _ _ _ _ => pts_yes) (fun _ _ _ _ _ => ev_imm (ev_idx (ev_idx (v_ 0) (v_ 3) (fun _ _ => rfl) (.inl rfl)) (v_ 5) (fun _ _ => rfl) (.inl rfl))))))))) (v_ 4)).tv)
      (svs_one (sv_ret (ev_bool) (fun _ => rfl)))
      (svs_nil))))
      (svs_one (sv_for PassesOwn.never rfl (iv_range2 B.range (EV.bor (ev_int)) (EV.bor (ev_add (v_ 2) (EV.bor (ev_int))))) (gv_name sc_law_halves.nd rfl (by first | exact .inl rfl | exact .inr rfl) (by first | exact .inl rfl | exact .inr rfl) (by decide) (by decide))
      (svs_one (sv_if ((cv_lt (EV.bor (ev_mul (EV.bor (ev_int)) (EV.bor (ev_sum rfl B.sum (EV.bor (ev_lc (m := .own) (own := [("b", 5)]) rfl sc_law_halves.nd (iv_seq (EV.weak (ev_slice (v_ 1) (ov_some (EV.bor (ev_sub (v_ 2) (v_ 4)))) (ov_some (v_ 2))))) (blkOk_by (N := N_law_halves) (sc := defScope s_law_halves) (own := [("b", 5)]) (by decide +kernel)) (by decide) (by decide) (by decide) (fun _ _ _ _ _ => gv_name sc_law_halves.nd rfl (by first | exact .inl rfl | exact .inr rfl) (by first | exact .inl rfl | exact .inr rfl) (by decide) (by decide)) (fun _ _ _ _ _ => pts_yes) (fun _ _ _ _ _ => ev_imm (ev_idx (ev_idx (v_ 0) (v_ 5) (fun _ _ => rfl) (.inl rfl)) (v_ 3) (fun _ _ => rfl) (.inl rfl))))))))) (v_ 4)).tv)
      (svs_one (sv_ret (ev_bool) (fun _ => rfl)))
      (svs_nil)))))))
      (svs_one (sv_ret (ev_bool) (fun _ => rfl)))
/-! ### law_moves -/
abbrev s_law_moves : Stmt := topS 24
abbrev N_law_moves : List Str := ["order", "found", "i", "rest", "j"]
theorem sc_law_moves : FnScope N_law_moves ["order"] (defScope s_law_moves) := ⟨rfl, rfl, rfl, by decide +kernel, rfl, by decide +kernel, by decide +kernel⟩
def b_law_moves : SF := sSeq (sAsg (eLst (lNil)) (gName 1)) (sSeq (sFor (wRange1 (e1 lenD (eVar 0))) (gName 2) (sSeq (sAsg (e2 (addD true) (eSlice true (eVar 0) none (some (eVar 2))) (eSlice true (eVar 0) (some (e2 (addD true) (eVar 2) (eC (.int 1)))) none)) (gName 3)) (sAsg (e2 (addD true) (eVar 1) (eComp [4] (wRange1 (e1 lenD (eVar 0))) (gName 4) (tB (e2 (eqD true) (eVar 4) (eVar 2))) (eTup (lCons (e2 (addD true) (e2 (addD true) (eSlice true (eVar 3) none (some (eVar 4))) (eSlice true (eVar 0) (some (eVar 2)) (some (e2 (addD true) (eVar 2) (eC (.int 1)))))) (eSlice true (eVar 3) (some (eVar 4)) none)) (lCons (eImm (eVar 2)) (lCons (eImm (eVar 4)) (lNil))))))) (gName 1)))) (sRet (eVar 1)))
def d_law_moves : List D → M D := runDef 1 5 b_law_moves
theorem len_law_moves : ∀ ds S r, d_law_moves ds S = some r → ds.length = 1 := fun _ _ _ h => runDef_len h
theorem ok_law_moves (B : Blt mg)  {f : Addr} {fd : FuncData} (F : Fun K "_law_moves" "_law_moves" s_law_moves f fd) (m : mg "_law_moves" = some (.ref f)) : Cal P w K mg base 1 "_law_moves" (spD K 1 true d_law_moves) := by
  refine Cal.mk' (ps := ["order"]) F (F.binds fun _ _ _ _ _ _ us hl => match us, hl with | [_], _ => rfl) m (ok_D (N := N_law_moves) (mu := [1]) (mu' := [1]) (k := 0) F sc_law_moves rfl rfl (by decide) (by decide) fun cdv A outer s H E hr => ?_)
  exact svs_cons (sv_setM sc_law_moves.nd rfl (by first | exact .inl rfl | exact .inr rfl) (by first | exact .inl rfl | exact .inr rfl) (by decide) (EV.pure (ev_lst (m := .own) (av_nil))))
      (svs_cons (sv_for PassesOwn.never rfl (iv_range1 B.range (EV.pure (EV.bor (ev_len B.len (v_ 0))))) (gv_name sc_law_moves.nd rfl (by first | exact .inl rfl | exact .inr rfl) (by first | exact .inl rfl | exact .inr rfl) (by decide) (by decide))
      (svs_cons (sv_set sc_law_moves.nd rfl (by first | exact .inl rfl | exact .inr rfl) (by first | exact .inl rfl | exact .inr rfl) (by decide) (by decide) (EV.weak (EV.pure (ev_add (EV.bor (ev_slice (v_ 0) ov_none (ov_some (v_ 2)))) (EV.bor (ev_slice (v_ 0) (ov_some (EV.bor (ev_add (v_ 2) (EV.bor (ev_int))))) ov_none))))))
      (svs_one (sv_setM sc_law_moves.nd rfl (by first | exact .inl rfl | exact .inr rfl) (by first | exact .inl rfl | exact .inr rfl) (by decide) (EV.pure (ev_add (v_ 1) (EV.bor (ev_lc (m := .own) (own := [("j", 4)]) rfl sc_law_moves.nd (iv_range1 B.range (EV.bor (ev_len B.len (v_ 0)))) (blkOk_by (N := N_law_moves) (sc := defScope s_law_moves) (own := [("j", 4)]) (by decide +kernel)) (by decide) (by decide) (by decide) (fun _ _ _ _ _ => gv_name sc_law_moves.nd rfl (by first | exact .inl rfl | exact .inr rfl) (by first | exact .inl rfl | exact .inr rfl) (by decide) (by decide)) (fun _ _ _ _ _ => pts_if ((cv_ne (hu64 hr) (v_ 4) (v_ 2)).tv)) (fun _ _ _ _ _ => ev_tup (m := .own) (av_cons (ev_add (EV.bor (ev_add (EV.bor (ev_slice (v_ 3) ov_none (ov_some (v_ 4)))) (EV.bor (ev_slice (v_ 0) (ov_some (v_ 2)) (ov_some (EV.bor (ev_add (v_ 2) (EV.bor (ev_int))))))))) (EV.bor (ev_slice (v_ 3) (ov_some (v_ 4)) ov_none))) (av_cons (ev_imm (v_ 2)) (av_cons (ev_imm (v_ 4)) (av_nil)))))))))))))
      (svs_one (sv_retM rfl (by first | exact .inl rfl | exact .inr (.inl rfl) | exact .inr (.inr rfl)) (by decide))))
/-! ### law -/
abbrev s_law : Stmt := topS 25
abbrev N_law : List Str := ["script", "source", "lap", "n", "beats", "order", "turned", "built", "a", "won", "bound", "moves", "still", "halves", "late", "i", "j", "rows", "is_done", "some", "b"]
theorem sc_law : FnScope N_law ["script"] (defScope s_law) := ⟨rfl, rfl, rfl, by decide +kernel, rfl, by decide +kernel, by decide +kernel⟩
def b_law : SF := sSeq (sFor (wRange1 (eC (.int 5))) (gName 2) (sSeq (sAsg (e2 (addD true) (eC (.int 1)) (eCallM d_law_pick (lCons (e2 idxD (eLst (lCons (eC (.int 3)) (lCons (eC (.int 5)) (lCons (eC (.int 7)) (lCons (eC (.int 8)) (lCons (eC (.int 12)) (lNil))))))) (eVar 2)) (lNil)))) (gName 3)) (sSeq (sPar [4, 5] (lCons (eCallM d_law_beats (lCons (eVar 3) (lNil))) (lCons (eCallM d_law_row (lCons (eVar 3) (lNil))) (lNil)))) (sSeq (sAsg (eCall d_law_turned (lCons (eVar 4) (lCons (eVar 5) (lNil)))) (gName 6)) (sSeq (sIf (tB (e2 (eqD true) (e1 reprD (eLst (lCons (eCall d_turned_beats (lCons (eVar 4) (lCons (eVar 5) (lNil)))) (lCons (eCall d_count_turned (lCons (eVar 4) (lCons (eVar 5) (lNil)))) (lNil))))) (e1 reprD (eLst (lCons (e1 (tupleD true) (eVar 6)) (lCons (e1 lenD (eVar 6)) (lNil))))))) (sRet (eC (.bool false))) (sNext)) (sSeq (sAsg (eTup (lNil)) (gName 7)) (sSeq (sFor (wRange1 (eVar 3)) (gName 8) (sSeq (sAsg (e1 sumD (eComp [20] (wSeq (eVar 7)) (gName 20) (tYes) (eImm (e2 idxD (e2 idxD (eVar 4) (eVar 8)) (eVar 20))))) (gName 9)) (sAsg (eIf (tB (e2 (cmD .ge) (e2 mulD (eC (.int 2)) (eVar 9)) (e1 lenD (eVar 7)))) (e2 (addD true) (eTup (lCons (eImm (eVar 8)) (lNil))) (eVar 7)) (e2 (addD true) (eVar 7) (eTup (lCons (eImm (eVar 8)) (lNil))))) (gName 7)))) (sSeq (sAsg (e2 fdivD (e2 mulD (e2 subD (eVar 3) (eC (.int 1))) (e2 subD (eVar 3) (eC (.int 1)))) (eC (.int 4))) (gName 10)) (sSeq (sIf (tB (e2 (eqD true) (e1 reprD (eLst (lCons (eCall d_built_order (lCons (eVar 4) (lNil))) (lCons (eCall d_turns_bound (lCons (eVar 3) (lNil))) (lNil))))) (e1 reprD (eLst (lCons (eImm (eVar 7)) (lCons (eImm (eVar 10)) (lNil))))))) (sRet (eC (.bool false))) (sNext)) (sSeq (sIf (tB (e2 (cmD .gt) (e1 lenD (eCall d_law_turned (lCons (eVar 4) (lCons (eVar 7) (lNil))))) (eVar 10))) (sRet (eC (.bool false))) (sNext)) (sSeq (sAsg (eCall d_law_moves (lCons (eVar 5) (lNil))) (gName 11)) (sSeq (sAsg (e2 (eqD false) (eComp [14, 15, 16] (wSeq (eVar 11)) (gTup [gName 14, gName 15, gName 16]) (tB (e2 (cmD .lt) (e1 lenD (eCall d_law_turned (lCons (eVar 4) (lCons (eVar 14) (lNil))))) (e1 lenD (eVar 6)))) (eImm (eVar 14))) (eLst (lNil))) (gName 12)) (sSeq (sAsg (eCall d_law_halves (lCons (eVar 4) (lCons (eVar 5) (lNil)))) (gName 13)) (sSeq (sIf (tB (e2 (eqD true) (e1 reprD (eLst (lCons (eCall d_has_half_ahead (lCons (eVar 4) (lCons (eVar 5) (lNil)))) (lCons (eCall d_is_still_order (lCons (eVar 4) (lCons (eVar 5) (lNil)))) (lNil))))) (e1 reprD (eLst (lCons (eImm (eVar 12)) (lCons (eImm (eVar 12)) (lNil))))))) (sRet (eC (.bool false))) (sNext)) (sSeq (sIf (tB (e2 (eqD true) (eVar 13) (eVar 12))) (sRet (eC (.bool false))) (sNext)) (sSeq (sIf (tB (e2 (eqD true) (eVar 11) (eLst (lNil)))) (sSeq (sAsg (eCallM d_law_of (lCons (eVar 11) (lNil))) (gTup [gName 14, gName 15, gName 16])) (sIf (tB (e2 (eqD true) (e1 reprD (eCall d_moved_thing (lCons (eVar 5) (lCons (eVar 15) (lCons (eVar 16) (lNil)))))) (e1 reprD (eVar 14)))) (sRet (eC (.bool false))) (sNext))) (sNext)) (sIf (tB (e2 (cmD .lt) (eVar 3) (eC (.int 9)))) (sSeq (sPar [17, 18] (lCons (eLst (lCons (eImm (eVar 5)) (lNil))) (lCons (e2 (eqD false) (eVar 3) (eC (.int 1))) (lNil)))) (sSeq (sWhile 1000000 (tNot (tB (eVar 18))) (sSeq (sAsg (eComp [14, 15, 16] (wSeq (eCall d_law_moves (lCons (e2 idxD (eVar 17) (e1 negD (eC (.int 1)))) (lNil)))) (gTup [gName 14, gName 15, gName 16]) (tYes) (eTup (lCons (e1 lenD (eCall d_law_turned (lCons (eVar 4) (lCons (eVar 14) (lNil))))) (lCons (eImm (eVar 15)) (lCons (eImm (eVar 16)) (lCons (eImm (eVar 14)) (lNil))))))) (gName 19)) (sSeq (sAsg (e2 (cmD .ge) (e2 idxD (e1 (bestD minF) (eVar 19)) (eC (.int 0))) (e1 lenD (eCall d_law_turned (lCons (eVar 4) (lCons (e2 idxD (eVar 17) (e1 negD (eC (.int 1)))) (lNil)))))) (gName 18)) (sAsg (eIf (tB (eVar 18)) (eVar 17) (e2 (addD true) (eVar 17) (eLst (lCons (eImm (e2 idxD (e1 (bestD minF) (eVar 19)) (eC (.int 3)))) (lNil))))) (gName 17))))) (sSeq (sIf (tOr (tB (e2 (eqD true) (e1 reprD (eCall d_orders_by_moves (lCons (eVar 4) (lCons (eVar 5) (lNil))))) (e1 reprD (e1 (tupleD true) (eVar 17))))) (tB (e2 (eqD true) (eCall d_still_order (lCons (eVar 4) (lCons (eVar 5) (lNil)))) (e2 idxD (eVar 17) (e1 negD (eC (.int 1))))))) (sRet (eC (.bool false))) (sNext)) (sIf (tB (e1 (isBD true true) (eCall d_is_still_order (lCons (eVar 4) (lCons (e2 idxD (eVar 17) (e1 negD (eC (.int 1)))) (lNil)))))) (sRet (eC (.bool false))) (sNext))))) (sNext)))))))))))))))))) (sRet (e2 (eqD false) (eCall d_built_order (lCons (eTup (lCons (eTup (lCons (eC (.int 0)) (lCons (eC (.int 1)) (lCons (eC (.int 0)) (lNil))))) (lCons (eTup (lCons (eC (.int 0)) (lCons (eC (.int 0)) (lCons (eC (.int 1)) (lNil))))) (lCons (eTup (lCons (eC (.int 1)) (lCons (eC (.int 0)) (lCons (eC (.int 0)) (lNil))))) (lNil))))) (lNil))) (eTup (lCons (eC (.int 2)) (lCons (eC (.int 0)) (lCons (eC (.int 1)) (lNil)))))))
theorem ok_law (hrun : ∀ ns : List Int, ns.length ≤ 63 → runLaw 21 b_law ns = some (.bool true)) (B : Blt mg) (C_law_open_cells : Cal P w K mg base 1 "_law_open_cells" (spOpen K)) (C_law_turned : Cal P w K mg base 1 "_law_turned" (spD K 2 true d_law_turned)) (C_law_moves : Cal P w K mg base 1 "_law_moves" (spD K 1 true d_law_moves)) (C_law_halves : Cal P w K mg base 1 "_law_halves" (spD K 2 true d_law_halves)) (C_built_order : Cal P w K mg base 1 "built_order" (spD K 1 true d_built_order)) (C_law_pick : Cal P w K mg base 1 "_law_pick" (spM K 1 true d_law_pick)) (C_law_beats : Cal P w K mg base 4 "_law_beats" (spM K 1 true d_law_beats)) (C_law_row : Cal P w K mg base 3 "_law_row" (spM K 1 true d_law_row)) (C_law_of : Cal P w K mg base 2 "_law_of" (spM K 1 true d_law_of)) (C_is_still_order : Cal P w K mg base 4 "is_still_order" (spD K 2 true d_is_still_order)) (C_turned_beats : Cal P w K mg base 1 "turned_beats" (spD K 2 true d_turned_beats)) (C_count_turned : Cal P w K mg base 2 "count_turned" (spD K 2 true d_count_turned)) (C_turns_bound : Cal P w K mg base 1 "turns_bound" (spD K 1 true d_turns_bound)) (C_has_half_ahead : Cal P w K mg base 2 "has_half_ahead" (spD K 2 true d_has_half_ahead)) (C_moved_thing : Cal P w K mg base 1 "moved_thing" (spD K 3 true d_moved_thing)) (C_still_order : Cal P w K mg base 6 "still_order" (spD K 2 true d_still_order)) (C_orders_by_moves : Cal P w K mg base 5 "orders_by_moves" (spD K 2 true d_orders_by_moves)) {fa : Addr} {fd : FuncData} (F : Fun K "law" "law" s_law fa fd) : At1 P w K mg base fa 63 := by
  have hk : Room 7 callerA := ⟨rfl, by decide, by decide⟩
  refine at1_of (N := N_law) (k := 6) F sc_law hk (F.binds fun _ _ _ _ _ _ us hl => match us, hl with | [_], _ => rfl) fun cdv s H a ns hr hS hl => ?_
  obtain ⟨fo, fdo, pso, Fo, mo, ko, bo⟩ := (C_law_open_cells.up (k := 6) (by decide)).ex
  refine ⟨_, pss_cons (ps_set (i := 1) sc_law.nd rfl (by first | exact .inl rfl | exact .inr rfl) (pe_call Fo hr (by rfl) mo ko bo .nil pass0 (pa_cons (pe_var (i := 0) rfl (by first | exact .inl rfl | exact .inr (.inl rfl) | exact .inr (.inr rfl))) pa_nil)))
   (show SVs _ false ⟨[], some 1⟩ ⟨[], some 1⟩ ⟨[], some 1⟩ _ b_law from svs_cons (sv_for PassesOwn.never rfl (iv_range1 B.range (EV.bor (ev_int))) (gv_name sc_law.nd rfl (by first | exact .inl rfl | exact .inr rfl) (by first | exact .inl rfl | exact .inr rfl) (by decide) (by decide))
    (svs_cons (sv_set sc_law.nd rfl (by first | exact .inl rfl | exact .inr rfl) (by first | exact .inl rfl | exact .inr rfl) (by decide) (by decide) (EV.weak (ev_add (EV.bor (ev_int)) (EV.bor (ev_calM (C_law_pick.up (by decide)) hr len_law_pick rfl rfl (by first | exact .inl rfl | exact .inr (.inl rfl) | exact .inr (.inr rfl)) (av_cons (ev_idx (EV.bor (ev_lst (m := .own) (av_cons (ev_int) (av_cons (ev_int) (av_cons (ev_int) (av_cons (ev_int) (av_cons (ev_int) (av_nil)))))))) (v_ 2) (fun _ _ => rfl) (.inl rfl)) (av_nil)))))))
    (svs_cons (sv_parN (is := [4, 5]) rfl (pgs_cons (pg_name sc_law.nd rfl (by first | exact .inl rfl | exact .inr rfl) (by first | exact .inl rfl | exact .inr rfl)) (pgs_cons (pg_name sc_law.nd rfl (by first | exact .inl rfl | exact .inr rfl) (by first | exact .inl rfl | exact .inr rfl)) (pgs_nil))) (.inr rfl) (by decide) (by decide) (av_cons (ev_calM (C_law_beats.up (by decide)) hr len_law_beats rfl rfl (by first | exact .inl rfl | exact .inr (.inl rfl) | exact .inr (.inr rfl)) (av_cons (v_ 3) (av_nil))) (av_cons (ev_calM (C_law_row.up (by decide)) hr len_law_row rfl rfl (by first | exact .inl rfl | exact .inr (.inl rfl) | exact .inr (.inr rfl)) (av_cons (v_ 3) (av_nil))) (av_nil))))
    (svs_cons (sv_set sc_law.nd rfl (by first | exact .inl rfl | exact .inr rfl) (by first | exact .inl rfl | exact .inr rfl) (by decide) (by decide) (EV.weak (ev_cal (C_law_turned.up (by decide)) hr len_law_turned (av_cons (v_ 4) (av_cons (v_ 5) (av_nil))))))
    (svs_cons (sv_if ((cv_ne (hu64 hr) (EV.bor (ev_repr rfl (hu128 hr) B.repr (EV.bor (ev_lst (m := .own) (av_cons (ev_cal (C_turned_beats.up (by decide)) hr len_turned_beats (av_cons (v_ 4) (av_cons (v_ 5) (av_nil)))) (av_cons (ev_cal (C_count_turned.up (by decide)) hr len_count_turned (av_cons (v_ 4) (av_cons (v_ 5) (av_nil)))) (av_nil))))))) (EV.bor (ev_repr rfl (hu128 hr) B.repr (EV.bor (ev_lst (m := .own) (av_cons (ev_tuple B.tuple (v_ 6)) (av_cons (ev_len B.len (v_ 6)) (av_nil)))))))).tv)
    (svs_one (sv_ret (EV.bor (ev_bool)) (fun h => nomatch h)))
    (svs_nil))
    (svs_cons (sv_set sc_law.nd rfl (by first | exact .inl rfl | exact .inr rfl) (by first | exact .inl rfl | exact .inr rfl) (by decide) (by decide) (EV.weak (ev_tup (m := .own) (av_nil))))
    (svs_cons (sv_for PassesOwn.never rfl (iv_range1 B.range (v_ 3)) (gv_name sc_law.nd rfl (by first | exact .inl rfl | exact .inr rfl) (by first | exact .inl rfl | exact .inr rfl) (by decide) (by decide))
    (svs_cons (sv_set sc_law.nd rfl (by first | exact .inl rfl | exact .inr rfl) (by first | exact .inl rfl | exact .inr rfl) (by decide) (by decide) (EV.weak (ev_sum rfl B.sum (EV.bor (ev_lc (m := .own) (own := [("b", 20)]) rfl sc_law.nd (iv_seq (EV.bv (v_ 7))) (blkOk_by (N := N_law) (sc := defScope s_law) (own := [("b", 20)]) (by decide +kernel)) (by decide) (by decide) (by decide) (fun _ _ _ _ _ => gv_name sc_law.nd rfl (by first | exact .inl rfl | exact .inr rfl) (by first | exact .inl rfl | exact .inr rfl) (by decide) (by decide)) (fun _ _ _ _ _ => pts_yes) (fun _ _ _ _ _ => ev_imm (ev_idx (ev_idx (v_ 4) (v_ 8) (fun _ _ => rfl) (.inl rfl)) (v_ 20) (fun _ _ => rfl) (.inl rfl))))))))
    (svs_one (sv_set sc_law.nd rfl (by first | exact .inl rfl | exact .inr rfl) (by first | exact .inl rfl | exact .inr rfl) (by decide) (by decide) (EV.weak (ev_if ((cv_ge (EV.bor (ev_mul (EV.bor (ev_int)) (v_ 9))) (EV.bor (ev_len B.len (v_ 7)))).tv) (ev_add (EV.bor (ev_tup (m := .own) (av_cons (ev_imm (v_ 8)) (av_nil)))) (v_ 7)) (ev_add (v_ 7) (EV.bor (ev_tup (m := .own) (av_cons (ev_imm (v_ 8)) (av_nil)))))))))))
    (svs_cons (sv_set sc_law.nd rfl (by first | exact .inl rfl | exact .inr rfl) (by first | exact .inl rfl | exact .inr rfl) (by decide) (by decide) (EV.weak (ev_fdiv (EV.bor (ev_mul (EV.bor (ev_sub (v_ 3) (EV.bor (ev_int)))) (EV.bor (ev_sub (v_ 3) (EV.bor (ev_int)))))) (EV.bor (ev_int)))))
    (svs_cons (sv_if ((cv_ne (hu64 hr) (EV.bor (ev_repr rfl (hu128 hr) B.repr (EV.bor (ev_lst (m := .own) (av_cons (ev_cal (C_built_order.up (by decide)) hr len_built_order (av_cons (v_ 4) (av_nil))) (av_cons (ev_cal (C_turns_bound.up (by decide)) hr len_turns_bound (av_cons (v_ 3) (av_nil))) (av_nil))))))) (EV.bor (ev_repr rfl (hu128 hr) B.repr (EV.bor (ev_lst (m := .own) (av_cons (ev_imm (v_ 7)) (av_cons (ev_imm (v_ 10)) (av_nil)))))))).tv)
    (svs_one (sv_ret (EV.bor (ev_bool)) (fun h => nomatch h)))
    (svs_nil))
    (svs_cons (sv_if ((cv_gt (EV.bor (ev_len B.len (EV.bor (ev_cal (C_law_turned.up (by decide)) hr len_law_turned (av_cons (v_ 4) (av_cons (v_ 7) (av_nil))))))) (v_ 10)).tv)
    (svs_one (sv_ret (EV.bor (ev_bool)) (fun h => nomatch h)))
    (svs_nil))
    (svs_cons (sv_set sc_law.nd rfl (by first | exact .inl rfl | exact .inr rfl) (by first | exact .inl rfl | exact .inr rfl) (by decide) (by decide) (EV.weak (ev_cal (C_law_moves.up (by decide)) hr len_law_moves (av_cons (v_ 5) (av_nil)))))
    (svs_cons (sv_set sc_law.nd rfl (by first | exact .inl rfl | exact .inr rfl) (by first | exact .inl rfl | exact .inr rfl) (by decide) (by decide) (EV.weak ((cv_eq (hu64 hr) (EV.bor (ev_lc (m := .own) (own := [("late", 14), ("i", 15), ("j", 16)]) rfl sc_law.nd (iv_seq (EV.bv (v_ 11))) (blkOk_by (N := N_law) (sc := defScope s_law) (own := [("late", 14), ("i", 15), ("j", 16)]) (by decide +kernel)) (by decide) (by decide) (by decide) (fun _ _ _ _ _ => gv_tup rfl (gvs_cons (gv_name sc_law.nd rfl (by first | exact .inl rfl | exact .inr rfl) (by first | exact .inl rfl | exact .inr rfl) (by decide) (by decide)) (gvs_cons (gv_name sc_law.nd rfl (by first | exact .inl rfl | exact .inr rfl) (by first | exact .inl rfl | exact .inr rfl) (by decide) (by decide)) (gvs_cons (gv_name sc_law.nd rfl (by first | exact .inl rfl | exact .inr rfl) (by first | exact .inl rfl | exact .inr rfl) (by decide) (by decide)) (gvs_nil))))) (fun _ _ _ _ _ => pts_if ((cv_lt (EV.bor (ev_len B.len (EV.bor (ev_cal (C_law_turned.up (by decide)) hr len_law_turned (av_cons (v_ 4) (av_cons (v_ 14) (av_nil))))))) (EV.bor (ev_len B.len (v_ 6)))).tv)) (fun _ _ _ _ _ => ev_imm (v_ 14)))) (EV.bor (ev_lst (m := .own) (av_nil)))).ev)))
    (svs_cons (sv_set sc_law.nd rfl (by first | exact .inl rfl | exact .inr rfl) (by first | exact .inl rfl | exact .inr rfl) (by decide) (by decide) (EV.weak (ev_cal (C_law_halves.up (by decide)) hr len_law_halves (av_cons (v_ 4) (av_cons (v_ 5) (av_nil))))))
    (svs_cons (sv_if ((cv_ne (hu64 hr) (EV.bor (ev_repr rfl (hu128 hr) B.repr (EV.bor (ev_lst (m := .own) (av_cons (ev_cal (C_has_half_ahead.up (by decide)) hr len_has_half_ahead (av_cons (v_ 4) (av_cons (v_ 5) (av_nil)))) (av_cons (ev_cal (C_is_still_order.up (by decide)) hr len_is_still_order (av_cons (v_ 4) (av_cons (v_ 5) (av_nil)))) (av_nil))))))) (EV.bor (ev_repr rfl (hu128 hr) B.repr (EV.bor (ev_lst (m := .own) (av_cons (ev_imm (v_ 12)) (av_cons (ev_imm (v_ 12)) (av_nil)))))))).tv)
    (svs_one (sv_ret (EV.bor (ev_bool)) (fun h => nomatch h)))
    (svs_nil))
    (svs_cons (sv_if ((cv_ne (hu64 hr) (v_ 13) (v_ 12)).tv)
    (svs_one (sv_ret (EV.bor (ev_bool)) (fun h => nomatch h)))
    (svs_nil))
    (svs_cons (sv_if ((cv_ne (hu64 hr) (v_ 11) (EV.bor (ev_lst (m := .own) (av_nil)))).tv)
    (svs_cons (sv_asg (EV.weak (ev_calM (C_law_of.up (by decide)) hr len_law_of rfl rfl (by first | exact .inl rfl | exact .inr (.inl rfl) | exact .inr (.inr rfl)) (av_cons (v_ 11) (av_nil)))) (gv_tup rfl (gvs_cons (gv_name sc_law.nd rfl (by first | exact .inl rfl | exact .inr rfl) (by first | exact .inl rfl | exact .inr rfl) (by decide) (by decide)) (gvs_cons (gv_name sc_law.nd rfl (by first | exact .inl rfl | exact .inr rfl) (by first | exact .inl rfl | exact .inr rfl) (by decide) (by decide)) (gvs_cons (gv_name sc_law.nd rfl (by first | exact .inl rfl | exact .inr rfl) (by first | exact .inl rfl | exact .inr rfl) (by decide) (by decide)) (gvs_nil))))))
    (svs_one (sv_if ((cv_ne (hu64 hr) (EV.bor (ev_repr rfl (hu128 hr) B.repr (EV.bor (ev_cal (C_moved_thing.up (by decide)) hr len_moved_thing (av_cons (v_ 5) (av_cons (v_ 15) (av_cons (v_ 16) (av_nil)))))))) (EV.bor (ev_repr rfl (hu128 hr) B.repr (v_ 14)))).tv)
    (svs_one (sv_ret (EV.bor (ev_bool)) (fun h => nomatch h)))
    (svs_nil))))
    (svs_nil))
    (svs_one (sv_if ((cv_lt (v_ 3) (EV.bor (ev_int))).tv)
    (svs_cons (sv_par2 rfl sc_law.nd rfl rfl (by decide) rfl rfl (.inr rfl) (by decide) (av_cons (ev_lst (m := .own) (av_cons (ev_imm (v_ 5)) (av_nil))) (av_cons ((cv_eq (hu64 hr) (v_ 3) (EV.bor (ev_int))).ev) (av_nil))) rfl)
    (svs_cons (sv_while PassesOwn.never (tv_not (tv_val (v_ 18)))
    (svs_cons (sv_setLc  (m := .own) (own := [("late", 14), ("i", 15), ("j", 16)]) rfl sc_law.nd rfl rfl (.inr rfl) (by decide) (sw_true rfl rfl rfl rfl) (iv_seq (EV.weak (ev_cal (C_law_moves.up (by decide)) hr len_law_moves (av_cons (ev_idx (v_ 17) (EV.bor (ev_neg (EV.bor (ev_int)))) (fun _ _ => rfl) (.inl rfl)) (av_nil))))) (blkOk_by (N := N_law) (sc := defScope s_law) (own := [("late", 14), ("i", 15), ("j", 16)]) (by decide +kernel)) (by decide) (by decide) (by decide) (fun _ _ _ _ _ => gv_tup rfl (gvs_cons (gv_name sc_law.nd rfl (by first | exact .inl rfl | exact .inr rfl) (by first | exact .inl rfl | exact .inr rfl) (by decide) (by decide)) (gvs_cons (gv_name sc_law.nd rfl (by first | exact .inl rfl | exact .inr rfl) (by first | exact .inl rfl | exact .inr rfl) (by decide) (by decide)) (gvs_cons (gv_name sc_law.nd rfl (by first | exact .inl rfl | exact .inr rfl) (by first | exact .inl rfl | exact .inr rfl) (by decide) (by decide)) (gvs_nil))))) (fun _ _ _ _ _ => pts_yes) (fun _ _ _ _ _ => ev_tup (m := .own) (av_cons (ev_len B.len (EV.bor (ev_cal (C_law_turned.up (by decide)) hr len_law_turned (av_cons (v_ 4) (av_cons (v_ 14) (av_nil)))))) (av_cons (ev_imm (v_ 15)) (av_cons (ev_imm (v_ 16)) (av_cons (ev_imm (v_ 14)) (av_nil)))))))
    (svs_cons (sv_set sc_law.nd rfl (by first | exact .inl rfl | exact .inr rfl) (by first | exact .inl rfl | exact .inr rfl) (by decide) (by decide) (EV.weak ((cv_ge (ev_idx (EV.bor (ev_minL rfl (hu128 hr) B.min (v_ 19))) (EV.bor (ev_int)) (fun _ _ => rfl) (.inl rfl)) (EV.bor (ev_len B.len (EV.bor (ev_cal (C_law_turned.up (by decide)) hr len_law_turned (av_cons (v_ 4) (av_cons (ev_idx (v_ 17) (EV.bor (ev_neg (EV.bor (ev_int)))) (fun _ _ => rfl) (.inl rfl)) (av_nil)))))))).ev)))
    (svs_one (sv_set sc_law.nd rfl (by first | exact .inl rfl | exact .inr rfl) (by first | exact .inl rfl | exact .inr rfl) (by decide) (by decide) (EV.bv (ev_if (tv_val (v_ 18)) (v_ 17) (EV.bor (ev_add (v_ 17) (EV.bor (ev_lst (m := .own) (av_cons (ev_imm (ev_idx (EV.bor (ev_minL rfl (hu128 hr) B.min (v_ 19))) (EV.bor (ev_int)) (fun _ _ => rfl) (.inl rfl))) (av_nil)))))))))))))
    (svs_cons (sv_if (tv_pw (tw_or ((cv_ne (hu64 hr) (EV.bor (ev_repr rfl (hu128 hr) B.repr (EV.bor (ev_cal (C_orders_by_moves.up (by decide)) hr len_orders_by_moves (av_cons (v_ 4) (av_cons (v_ 5) (av_nil))))))) (EV.bor (ev_repr rfl (hu128 hr) B.repr (EV.bor (ev_tuple B.tuple (v_ 17)))))).tv) (tw_or1 ((cv_ne (hu64 hr) (EV.bor (ev_cal (C_still_order.up (by decide)) hr len_still_order (av_cons (v_ 4) (av_cons (v_ 5) (av_nil))))) (ev_idx (v_ 17) (EV.bor (ev_neg (EV.bor (ev_int)))) (fun _ _ => rfl) (.inl rfl))).tv))))
    (svs_one (sv_ret (EV.bor (ev_bool)) (fun h => nomatch h)))
    (svs_nil))
    (svs_one (sv_if ((cv_isnotB (EV.bor (ev_cal (C_is_still_order.up (by decide)) hr len_is_still_order (av_cons (v_ 4) (av_cons (ev_idx (v_ 17) (EV.bor (ev_neg (EV.bor (ev_int)))) (fun _ _ => rfl) (.inl rfl)) (av_nil)))))).tv)
    (svs_one (sv_ret (EV.bor (ev_bool)) (fun h => nomatch h)))
    (svs_nil))))))
    (svs_nil)))))))))))))))))))
    (svs_one (sv_ret (EV.bor ((cv_eq (hu64 hr) (EV.bor (ev_cal (C_built_order.up (by decide)) hr len_built_order (av_cons (EV.bor (ev_tup (m := .own) (av_cons (ev_tup (m := .own) (av_cons (ev_int) (av_cons (ev_int) (av_cons (ev_int) (av_nil))))) (av_cons (ev_tup (m := .own) (av_cons (ev_int) (av_cons (ev_int) (av_cons (ev_int) (av_nil))))) (av_cons (ev_tup (m := .own) (av_cons (ev_int) (av_cons (ev_int) (av_cons (ev_int) (av_nil))))) (av_nil)))))) (av_nil)))) (EV.bor (ev_tup (m := .own) (av_cons (ev_int) (av_cons (ev_int) (av_cons (ev_int) (av_nil))))))).ev)) (fun h => nomatch h)))), ?_⟩
  refine ⟨.ref a, rfl, a, ns, rfl, hS, hl, fun H' p q ex sa => ?_⟩
  exact law_core rfl rfl sa (hrun ns hl)
end
end K91

/-! P91a: plain facts on beats and orders. -/
namespace K91
/-- whole beats -/
structure Tour (n : Nat) (T : Nat → Nat → Bool) : Prop where
  irr : ∀ a, a < n → T a a = false
  one : ∀ a b, a < n → b < n → a ≠ b → T a b = !T b a
def tl (T : Nat → Nat → Bool) : List Nat → List (Nat × Nat)
  | [] => []
  | a :: r => (r.filter fun b => T b a).map (fun b => (b, a)) ++ tl T r
def ct (T : Nat → Nat → Bool) : List Nat → Nat
  | [] => 0
  | a :: r => r.countP (fun b => T b a) + ct T r
theorem tl_len (T : Nat → Nat → Bool) (l : List Nat) : (tl T l).length = ct T l := by
  induction l with
  | nil => rfl
  | cons a r ih => simp [tl, ct, ih, List.countP_eq_length_filter]
/-- as the loops make it -/
def part (T : Nat → Nat → Bool) (l : List Nat) (p : Nat × Nat) : List (Nat × Nat) := ((l.drop (p.2 + 1)).filter fun b => T b p.1).map fun b => (b, p.1)
theorem tl_parts (T : Nat → Nat → Bool) (l : List Nat) : (l.zipIdx 0).flatMap (part T l) = tl T l := by
  have h : ∀ (l m : List Nat) (k : Nat), m = l.drop k → (m.zipIdx k).flatMap (part T l) = tl T m := by
    intro l m
    induction m with
    | nil => intros; rfl
    | cons a r ih =>
      intro k e
      have e2 : r = l.drop (k + 1) := by
        rw [← List.drop_drop, ← e]
        rfl
      rw [List.zipIdx_cons, List.flatMap_cons, ih (k + 1) e2, tl]
      congr 1
      unfold part
      rw [← e2]
  exact h l l 0 rfl
theorem ct_cons (T : Nat → Nat → Bool) (a : Nat) (r : List Nat) : ct T (a :: r) = r.countP (fun b => T b a) + ct T r := rfl
def cross (T : Nat → Nat → Bool) (l m : List Nat) : Nat := (l.map fun a => m.countP fun b => T b a).sum
theorem ct_append (T : Nat → Nat → Bool) (l m : List Nat) : ct T (l ++ m) = ct T l + ct T m + cross T l m := by
  induction l with
  | nil => simp [ct, cross]
  | cons a r ih =>
    simp only [List.cons_append, ct_cons, ih, List.countP_append, cross, List.map_cons, List.sum_cons]
    omega
theorem cross_perm {T : Nat → Nat → Bool} {l l' m m' : List Nat} (h1 : l.Perm l') (h2 : m.Perm m') : cross T l m = cross T l' m' := by
  unfold cross
  have e : (fun a => m.countP fun b => T b a) = fun a => m'.countP fun b => T b a := by
    funext a
    exact h2.countP_eq _
  rw [e]
  exact (h1.map _).sum_nat
theorem ct_snoc (T : Nat → Nat → Bool) (l : List Nat) (a : Nat) : ct T (l ++ [a]) = ct T l + l.countP (fun b => T a b) := by
  induction l with
  | nil => simp [ct]
  | cons x r ih =>
    simp only [List.cons_append, ct_cons, ih, List.countP_append, List.countP_cons, List.countP_nil]
    omega
/-- turning a middle part -/
theorem ct_mid {T : Nat → Nat → Bool} {A M M' C : List Nat} (h : M.Perm M') : ct T (A ++ M ++ C) + ct T M' = ct T (A ++ M' ++ C) + ct T M := by
  simp only [ct_append, cross_perm (List.Perm.refl A) h, cross_perm (h.append_left A) (List.Perm.refl C)]
  omega
theorem count_beats {n : Nat} {T : Nat → Nat → Bool} (ht : Tour n T) {x : Nat} (hx : x < n) : ∀ {B : List Nat}, (∀ b ∈ B, b < n ∧ b ≠ x) → B.countP (fun b => T b x) + B.countP (fun b => T x b) = B.length := by
  intro B
  induction B with
  | nil => intro _; rfl
  | cons b r ih =>
    intro h
    have ih := ih fun y hy => h y (by simp [hy])
    obtain ⟨h1, h2⟩ := h b (by simp)
    have h3 := ht.one b x h1 hx h2
    simp only [List.countP_cons, List.length_cons, h3]
    cases T x b <;> simp <;> omega
theorem move_later {n : Nat} {T : Nat → Nat → Bool} (ht : Tour n T) {A B C : List Nat} {x : Nat} (hx : x < n) (hB : ∀ b ∈ B, b < n ∧ b ≠ x) : ct T (A ++ B ++ [x] ++ C) + B.length = ct T (A ++ [x] ++ B ++ C) + 2 * B.countP (fun b => T x b) := by
  have h1 := ct_mid (T := T) (A := A) (M := B ++ [x]) (M' := [x] ++ B) (C := C) List.perm_append_comm
  have h2 : ct T (B ++ [x]) = _ := ct_snoc T B x
  have h3 : ct T ([x] ++ B) = _ := ct_cons T x B
  have h4 := count_beats ht hx hB
  simp only [← List.append_assoc] at h1
  omega
/-- the thing at i, taken out and put in at j -/
def mv (l : List Nat) (i j : Nat) : List Nat := (l.take i ++ l.drop (i + 1)).take j ++ (l.drop i).take 1 ++ (l.take i ++ l.drop (i + 1)).drop j
theorem mv_later {A B C : List Nat} {x i j : Nat} (hA : A.length = i) (hB : A.length + B.length = j) : mv (A ++ [x] ++ B ++ C) i j = A ++ B ++ [x] ++ C := by
  subst hA
  subst hB
  unfold mv
  have e1 : (A ++ [x] ++ B ++ C).take A.length = A := by simp
  have e2 : (A ++ [x] ++ B ++ C).drop (A.length + 1) = B ++ C := by
    rw [show A ++ [x] ++ B ++ C = (A ++ [x]) ++ (B ++ C) by simp, show A.length + 1 = (A ++ [x]).length by simp, List.drop_left]
  have e3 : (A ++ [x] ++ B ++ C).drop A.length = x :: (B ++ C) := by
    rw [show A ++ [x] ++ B ++ C = A ++ (x :: (B ++ C)) by simp, List.drop_left]
  rw [e1, e2, e3]
  have e4 : (A ++ (B ++ C)).take (A.length + B.length) = A ++ B := by
    rw [← List.append_assoc, show A.length + B.length = (A ++ B).length by simp, List.take_left]
  have e5 : (A ++ (B ++ C)).drop (A.length + B.length) = C := by
    rw [← List.append_assoc, show A.length + B.length = (A ++ B).length by simp, List.drop_left]
  rw [e4, e5]
  rfl
theorem mv_sooner {A B C : List Nat} {x i j : Nat} (hA : A.length = j) (hB : A.length + B.length = i) : mv (A ++ B ++ [x] ++ C) i j = A ++ [x] ++ B ++ C := by
  subst hA
  subst hB
  unfold mv
  have e0 : A.length + B.length = (A ++ B).length := by simp
  have e1 : (A ++ B ++ [x] ++ C).take (A.length + B.length) = A ++ B := by
    rw [List.append_assoc, e0, List.take_left]
  have e2 : (A ++ B ++ [x] ++ C).drop (A.length + B.length + 1) = C := by
    rw [show A.length + B.length + 1 = (A ++ B ++ [x]).length by simp; omega, List.drop_left]
  have e3 : (A ++ B ++ [x] ++ C).drop (A.length + B.length) = x :: C := by
    rw [show A ++ B ++ [x] ++ C = (A ++ B) ++ (x :: C) by simp, e0, List.drop_left]
  rw [e1, e2, e3]
  have e4 : (A ++ B ++ C).take A.length = A := by simp
  have e5 : (A ++ B ++ C).drop A.length = B ++ C := by
    rw [List.append_assoc, List.drop_left]
  rw [e4, e5]
  simp
theorem split3 {l : List Nat} {i j : Nat} (h : i < j) (hj : j < l.length) : ∃ A B C x, l = A ++ [x] ++ B ++ C ∧ A.length = i ∧ A.length + B.length = j ∧ l[i]? = some x ∧ B = (l.drop (i + 1)).take (j - i) := by
  have hi : i < l.length := by omega
  refine ⟨l.take i, (l.drop (i + 1)).take (j - i), l.drop (j + 1), l[i], ?_, ?_, ?_, by simp [hi], rfl⟩
  · have h1 : l.drop (j + 1) = (l.drop (i + 1)).drop (j - i) := by
      rw [List.drop_drop]
      congr 1
      omega
    rw [h1, List.append_assoc, List.take_append_drop]
    rw [List.append_assoc, List.singleton_append, List.getElem_cons_drop, List.take_append_drop]
  · simp; omega
  · simp; omega
theorem split3' {l : List Nat} {i j : Nat} (h : j < i) (hi : i < l.length) : ∃ A B C x, l = A ++ B ++ [x] ++ C ∧ A.length = j ∧ A.length + B.length = i ∧ l[i]? = some x ∧ B = (l.drop j).take (i - j) := by
  refine ⟨l.take j, (l.drop j).take (i - j), l.drop (i + 1), l[i], ?_, ?_, ?_, by simp [hi], rfl⟩
  · have h1 : (l.drop j).drop (i - j) = l.drop i := by
      rw [List.drop_drop]
      congr 1
      omega
    rw [List.append_assoc, List.singleton_append, List.getElem_cons_drop, List.append_assoc, ← h1, List.take_append_drop, List.take_append_drop]
  · simp; omega
  · simp; omega
theorem mv_perm {l : List Nat} {i j : Nat} (hi : i < l.length) : (mv l i j).Perm l := by
  unfold mv
  have e : (l.drop i).take 1 = [l[i]] := by
    rw [← List.getElem_cons_drop hi]
    rfl
  rw [e]
  have h1 : ((l.take i ++ l.drop (i + 1)).take j ++ [l[i]] ++ (l.take i ++ l.drop (i + 1)).drop j).Perm (l[i] :: (l.take i ++ l.drop (i + 1))) := by
    rw [List.append_assoc, List.singleton_append]
    refine List.perm_middle.trans ?_
    rw [List.take_append_drop]
  refine h1.trans (List.perm_middle.symm.trans ?_)
  rw [List.getElem_cons_drop, List.take_append_drop]
/-- no move lessens the turned ones -/
def Still (T : Nat → Nat → Bool) (l : List Nat) : Prop := ∀ i j, i < l.length → j < l.length → i ≠ j → ct T l ≤ ct T (mv l i j)
def Half (T : Nat → Nat → Bool) (l : List Nat) : Prop := ∀ i x, l[i]? = some x → (∀ k, 1 ≤ k → i + k < l.length → k ≤ 2 * ((l.drop (i + 1)).take k).countP (fun b => T x b)) ∧ (∀ k, 1 ≤ k → k ≤ i → k ≤ 2 * ((l.drop (i - k)).take k).countP (fun b => T b x))
theorem still_half {n : Nat} {T : Nat → Nat → Bool} (ht : Tour n T) {l : List Nat} (hn : ∀ a ∈ l, a < n) (nd : l.Nodup) : Half T l ↔ Still T l := by
  have later : ∀ i j x, i < j → j < l.length → l[i]? = some x → (ct T l ≤ ct T (mv l i j) ↔ j - i ≤ 2 * ((l.drop (i + 1)).take (j - i)).countP (fun b => T x b)) := by
    intro i j x h hj hx
    obtain ⟨A, B, C, y, e, h1, h2, h3, h4⟩ := split3 h hj
    rw [hx] at h3
    cases h3
    have hl : B.length = j - i := by omega
    have hxn : x < n := hn x (by rw [e]; simp)
    have hB : ∀ b ∈ B, b < n ∧ b ≠ x := fun b hb => ⟨hn b (by rw [e]; simp [hb]), fun z => by
      subst z
      rw [e] at nd
      simp only [List.append_assoc, List.singleton_append] at nd
      have := (List.nodup_append.mp nd).2.1
      simp [hb] at this⟩
    have h5 := move_later (A := A) (C := C) ht hxn hB
    rw [← h4]
    rw [e, mv_later h1 h2]
    omega
  have sooner : ∀ i j x, j < i → i < l.length → l[i]? = some x → (ct T l ≤ ct T (mv l i j) ↔ i - j ≤ 2 * ((l.drop j).take (i - j)).countP (fun b => T b x)) := by
    intro i j x h hi hx
    obtain ⟨A, B, C, y, e, h1, h2, h3, h4⟩ := split3' h hi
    rw [hx] at h3
    cases h3
    have hl : B.length = i - j := by omega
    have hxn : x < n := hn x (by rw [e]; simp)
    have hB : ∀ b ∈ B, b < n ∧ b ≠ x := fun b hb => ⟨hn b (by rw [e]; simp [hb]), fun z => by
      subst z
      rw [e] at nd
      simp only [List.append_assoc, List.singleton_append] at nd
      have := (List.nodup_append.mp (List.nodup_append.mp nd).2.1).2.2 b hb b (by simp)
      exact this rfl⟩
    have h5 := move_later (A := A) (C := C) ht hxn hB
    have h6 := count_beats ht hxn hB
    rw [← h4]
    rw [e, mv_sooner h1 h2]
    omega
  constructor
  · intro h i j hi hj hne
    obtain ⟨h1, h2⟩ := h i l[i] (by simp [hi])
    rcases Nat.lt_or_gt_of_ne hne with z | z
    · exact (later i j l[i] z hj (by simp [hi])).mpr (h1 (j - i) (by omega) (by omega))
    · refine (sooner i j l[i] z hi (by simp [hi])).mpr ?_
      have := h2 (i - j) (by omega) (by omega)
      rwa [show i - (i - j) = j by omega] at this
  · intro h i x hx
    have hi : i < l.length := (List.getElem?_eq_some_iff.mp hx).1
    refine ⟨fun k h1 h2 => ?_, fun k h1 h2 => ?_⟩
    · have := (later i (i + k) x (by omega) (by omega) hx).mp (h i (i + k) hi (by omega) (by omega))
      rwa [show i + k - i = k by omega] at this
    · have := (sooner i (i - k) x (by omega) hi hx).mp (h i (i - k) hi (by omega) (by omega))
      rwa [show i - (i - k) = k by omega] at this
/-! the built order -/
def bstep (T : Nat → Nat → Bool) (o : List Nat) (a : Nat) : List Nat := if o.length ≤ 2 * o.countP (fun b => T a b) then a :: o else o ++ [a]
def built (T : Nat → Nat → Bool) (n : Nat) : List Nat := (List.range n).foldl (bstep T) []
theorem built_succ (T : Nat → Nat → Bool) (n : Nat) : built T (n + 1) = bstep T (built T n) n := by
  unfold built
  rw [List.range_succ, List.foldl_append]
  rfl
theorem built_perm (T : Nat → Nat → Bool) (n : Nat) : (built T n).Perm (List.range n) := by
  induction n with
  | zero => exact List.Perm.refl _
  | succ n ih =>
    rw [built_succ, List.range_succ]
    unfold bstep
    split
    · exact (ih.cons n).trans (List.perm_append_singleton n _).symm
    · exact ih.append_right [n]
theorem built_len (T : Nat → Nat → Bool) (n : Nat) : (built T n).length = n := by rw [(built_perm T n).length_eq, List.length_range]
theorem sq_step (m : Nat) : m * m / 4 + (m + 1) / 2 = (m + 1) * (m + 1) / 4 := by
  have e : (m + 1) * (m + 1) = m * m + 2 * m + 1 := by rw [Nat.add_mul, Nat.mul_add]; omega
  rw [e]
  rcases Nat.mod_two_eq_zero_or_one m with h | h
  · obtain ⟨k, rfl⟩ : ∃ k, m = 2 * k := ⟨m / 2, by omega⟩
    have : 2 * k * (2 * k) = 4 * (k * k) := by rw [Nat.mul_mul_mul_comm]
    omega
  · obtain ⟨k, rfl⟩ : ∃ k, m = 2 * k + 1 := ⟨m / 2, by omega⟩
    have : (2 * k + 1) * (2 * k + 1) = 4 * (k * k) + 4 * k + 1 := by
      rw [Nat.add_mul, Nat.mul_add, Nat.mul_mul_mul_comm]; omega
    omega
theorem built_bound {N : Nat} {T : Nat → Nat → Bool} (ht : Tour N T) : ∀ n, n + 1 ≤ N → ct T (built T (n + 1)) ≤ n * n / 4 := by
  intro n
  induction n with
  | zero => intro _; simp [built_succ, built, bstep, ct]
  | succ n ih =>
    intro h
    have ih := ih (by omega)
    have hb : ∀ b ∈ built T (n + 1), b < N ∧ b ≠ n + 1 := fun b hb => by
      have := List.mem_range.mp ((built_perm T (n + 1)).mem_iff.mp hb)
      omega
    have h2 := count_beats ht (x := n + 1) (by omega) hb
    have hl := built_len T (n + 1)
    have hs := sq_step n
    rw [built_succ]
    unfold bstep
    split
    · rw [ct_cons]
      omega
    · rw [ct_snoc]
      omega
/-! moves -/
def pairs (n : Nat) : List (Nat × Nat) := (List.range n).flatMap fun i => ((List.range n).filter fun j => decide (i ≠ j)).map fun j => (i, j)
theorem mem_pairs {n i j : Nat} : (i, j) ∈ pairs n ↔ i < n ∧ j < n ∧ i ≠ j := by
  unfold pairs
  simp only [List.mem_flatMap, List.mem_range, List.mem_map, List.mem_filter, decide_eq_true_eq, Prod.mk.injEq]
  constructor
  · rintro ⟨a, h1, b, ⟨h2, h3⟩, rfl, rfl⟩
    exact ⟨h1, h2, h3⟩
  · rintro ⟨h1, h2, h3⟩
    exact ⟨i, h1, j, ⟨h2, h3⟩, rfl, rfl⟩
theorem pairs_nodup (n : Nat) : (pairs n).Nodup := by
  unfold pairs
  refine List.pairwise_flatMap.mpr ⟨fun i _ => ?_, ?_⟩
  · exact List.Pairwise.map _ (fun a b h z => h (Prod.mk.inj z).2) ((List.nodup_range).filter _)
  · refine (List.nodup_range).imp fun {a b} h => ?_
    intro x hx y hy z
    subst z
    obtain ⟨_, _, rfl⟩ := List.mem_map.mp hx
    obtain ⟨_, _, z⟩ := List.mem_map.mp hy
    exact h (Prod.mk.inj z).1.symm
end K91

/-! P91b: what the defs of k91 answer. -/
namespace K91
open PySem DL
abbrev encB (n : Nat) (T : Nat → Nat → Bool) : D := tab n fun a b => bit (T a b)
def encP (p : Nat × Nat) : D := .tuple [nI p.1, nI p.2]
theorem imm_encP (p : Nat × Nat) : imm (encP p) = true := by simp [encP, imm_tup]
/-- an order of things below n -/
structure Od (n : Nat) (l : List Nat) : Prop where
  lt : ∀ a ∈ l, a < n
  len : l.length ≤ 100
variable {n : Nat} {T : Nat → Nat → Bool} {l : List Nat} {S : Src}
theorem run_beat {a b : Nat} (ha : a < n) (hb : b < n) {ρ : DL.Env} {i j : Nat} (h0 : eVar 0 ρ S = some (encB n T, S)) (h1 : eVar i ρ S = some (nI a, S)) (h2 : eVar j ρ S = some (nI b, S)) : e2 idxD (e2 idxD (eVar 0) (eVar i)) (eVar j) ρ S = some (.int (bit (T a b)), S) := by
  rw [run_2, run_2, h0, Option.bind_some, h1, Option.bind_some, run_tab ha, Option.bind_some, h2, Option.bind_some, run_trow hb]
def partE : EF := eComp [5] (wSeq (eSlice true (eVar 1) (some (e2 (addD true) (eVar 3) (eC (.int 1)))) none)) (gName 5) (tB (e2 (eqD false) (e2 idxD (e2 idxD (eVar 0) (eVar 5)) (eVar 4)) (eC (.int 1)))) (eTup (lCons (eImm (eVar 5)) (lCons (eImm (eVar 4)) (lNil))))
theorem part_len (p : Nat × Nat) : (part T l p).length ≤ l.length := by
  unfold part
  rw [List.length_map]
  exact Nat.le_trans (List.length_filter_le _ _) (by simp)
theorem run_part' (ho : Od n l) {i a : Nat} (ha : a < n) {F x : Option D} : partE [some (encB n T), some (nT l), F, some (nI i), some (nI a), x] S = some (.list ((part T l (a, i)).map encP), S) := by
  have hc : compD (gName 5) (tB (e2 (eqD false) (e2 idxD (e2 idxD (eVar 0) (eVar 5)) (eVar 4)) (eC (.int 1)))) (eTup (lCons (eImm (eVar 5)) (lCons (eImm (eVar 4)) (lNil)))) [some (encB n T), some (nT l), F, some (nI i), some (nI a), none] ((l.drop (i + 1)).map fun b => nI b) S = some (((l.drop (i + 1)).filter fun b => T b a).map fun b => encP (b, a), S) :=
    compD_pure (fun b => nI b) (fun b => encP (b, a)) (fun b => T b a) _ fun b hb => by
      have hbn : b < n := ho.lt b (List.mem_of_mem_drop hb)
      refine ⟨[some (encB n T), some (nT l), F, some (nI i), some (nI a), some (nI b)], rfl, ?_, fun _ => ?_⟩
      · simp [run_tab hbn, run_trow ha, bit_one]
      · simp [encP, fit]
        decide
  have hf : fit (part T l (a, i)).length = true := fit_of (by have := part_len (T := T) (l := l) (a, i); have := ho.len; omega)
  unfold partE
  simp only [run_comp, run_wSeq, run_eSlice, run_var, run_part, run_part0, run_2, run_c, List.getElem?_cons_succ, List.getElem?_cons_zero, Option.bind_some, Option.map_some, run_add, intOf_int, run_from1, seqOf_nT, kill_cons, kill_nil, List.set_cons_succ, List.set_cons_zero, hc]
  have e : ((l.drop (i + 1)).filter fun b => T b a).map (fun b => encP (b, a)) = (part T l (a, i)).map encP := by
    unfold part
    rw [List.map_map]
    rfl
  rw [e, List.length_map, if_pos hf]
def srt (T : Nat → Nat → Bool) (l : List Nat) : List D := ((tl T l).map encP).mergeSort leD
theorem srt_len : (srt T l).length = ct T l := by
  unfold srt
  rw [List.length_mergeSort, List.length_map, tl_len]
theorem srt_mem {x : D} (h : x ∈ srt T l) : ∃ p ∈ tl T l, x = encP p := by
  unfold srt at h
  rw [List.mem_mergeSort] at h
  obtain ⟨p, hp, rfl⟩ := List.mem_map.mp h
  exact ⟨p, hp, rfl⟩
theorem imm_srt : immAll (srt T l) = true := immAll_iff.mpr fun x hx => by
  obtain ⟨p, _, rfl⟩ := srt_mem hx
  exact imm_encP p
theorem sortable_tl (xs : List (Nat × Nat)) : sortable (xs.map encP) = true := sortable_map (fun p q => by simp [encP, W.alike, W.alikeAll]) (fun p => rfl) fun p => by simp [encP]
theorem run_sortP {xs : List (Nat × Nat)} : sortedD (.list (xs.map encP)) S = some (.list ((xs.map encP).mergeSort leD), S) := run_sorted rfl (sortable_tl xs) (immAll_map fun p _ => imm_encP p)
theorem flat_len (ho : Od n l) {pre : List (Nat × Nat)} (hp : pre.length ≤ l.length) : (pre.flatMap (part T l)).length ≤ 10000 := by
  have h1 := flatMap_len (f := part T l) (k := l.length) (xs := pre) fun p _ => part_len p
  have h2 : pre.length * l.length ≤ 100 * 100 := Nat.mul_le_mul (by have := ho.len; omega) ho.len
  omega
theorem zip_pre {α : Type} {m : List α} {pre suf : List (α × Nat)} {p : α × Nat} (h : m.zipIdx 0 = pre ++ p :: suf) : pre.length < m.length := by
  have := congrArg List.length h
  simp at this
  omega
theorem run_turned (ho : Od n l) : d_turned_beats [encB n T, nT l] S = some (.tuple (srt T l), S) := by
  obtain ⟨ρ', S', h1, rfl, x, y, z, rfl⟩ := forD_inv (b := turnD (gTup [gName 3, gName 4]) (sExtend 2 partE)) (fun p : Nat × Nat => PyData.tuple [.int p.2, nI p.1])
    (fun pre ρ S' => S = S' ∧ ∃ x y z, ρ = [some (encB n T), some (nT l), some (.list ((pre.flatMap (part T l)).map encP)), x, y, z]) (l.zipIdx 0)
    (fun pre p suf ρ S' e h => by
      obtain ⟨rfl, x, y, z, rfl⟩ := h
      obtain ⟨a, i⟩ := p
      obtain ⟨h1, h2, h3, h4⟩ := zipIdx_split e
      have ha : a < n := ho.lt a (List.mem_of_getElem? h2)
      refine ⟨_, S, .inl ?_, rfl, some (nI i), some (nI a), z, rfl⟩
      rw [run_turn]
      simp only [run_gTup, run_gAll, run_gName, Option.bind_some, run_gAll0, List.set_cons_succ, List.set_cons_zero]
      rw [run_extend (run_part' ho ha) (by rfl) (fit_of ?_) (immAll_map fun p _ => imm_encP p)]
      · simp
      · have := flat_len (T := T) ho (pre := pre) (by omega)
        have := part_len (T := T) (l := l) (a, i)
        have := ho.len
        simp only [List.length_map]
        omega) [] (l.zipIdx 0) rfl [some (encB n T), some (nT l), some (.list []), none, none, none] S ⟨rfl, none, none, none, rfl⟩
  unfold d_turned_beats
  rw [run_def (by rfl)]
  show ((b_turned_beats) [some (encB n T), some (nT l), none, none, none, none] S).bind _ = _
  unfold b_turned_beats
  have h0 : fit ([] : List D).length = true := rfl
  simp only [run_seq, run_asg, run_lst, run_lnil, Option.bind_some, h0, ↓reduceIte, run_gName, List.set_cons_succ, List.set_cons_zero, seqO_nx, run_for, run_wEnum, run_var, List.getElem?_cons_succ, List.getElem?_cons_zero, Option.map_some, seqOf_nT, enum_nT]
  rw [show (eComp [5] (wSeq (eSlice true (eVar 1) (some (e2 (addD true) (eVar 3) (eC (.int 1)))) none)) (gName 5) (tB (e2 (eqD false) (e2 idxD (e2 idxD (eVar 0) (eVar 5)) (eVar 4)) (eC (.int 1)))) (eTup (lCons (eImm (eVar 5)) (lCons (eImm (eVar 4)) (lNil))))) = partE from rfl, h1]
  simp only [Option.bind_some, seqO_nx, run_ret, run_1, run_var, List.getElem?_cons_succ, List.getElem?_cons_zero, Option.map_some, run_sortP, run_tuple, seqOf_list, tl_parts]
  have := imm_srt (T := T) (l := l)
  unfold srt at this
  simp [this, srt]
theorem run_count (ho : Od n l) : d_count_turned [encB n T, nT l] S = some (nI (ct T l), S) := by
  unfold d_count_turned
  rw [run_def (by rfl)]
  show ((b_count_turned) [some (encB n T), some (nT l)] S).bind _ = _
  unfold b_count_turned
  simp [run_turned ho, srt_len]
theorem run_lturned (ho : Od n l) : d_law_turned [encB n T, nT l] S = some (.list (srt T l), S) := by
  obtain ⟨ρ', S', h1, rfl, x, y, z, rfl⟩ := forD_inv (b := turnD (gTup [gName 3, gName 4]) (sAsg (e2 (addD true) (eVar 2) partE) (gName 2))) (fun p : Nat × Nat => PyData.tuple [.int p.2, nI p.1])
    (fun pre ρ S' => S = S' ∧ ∃ x y z, ρ = [some (encB n T), some (nT l), some (.list ((pre.flatMap (part T l)).map encP)), x, y, z]) (l.zipIdx 0)
    (fun pre p suf ρ S' e h => by
      obtain ⟨rfl, x, y, z, rfl⟩ := h
      obtain ⟨a, i⟩ := p
      obtain ⟨h1, h2, h3, h4⟩ := zipIdx_split e
      have ha : a < n := ho.lt a (List.mem_of_getElem? h2)
      refine ⟨_, S, .inl ?_, rfl, some (nI i), some (nI a), z, rfl⟩
      rw [run_turn]
      simp only [run_gTup, run_gAll, run_gName, Option.bind_some, run_gAll0, List.set_cons_succ, List.set_cons_zero, run_asg, run_2, run_var, List.getElem?_cons_succ, List.getElem?_cons_zero, Option.map_some, run_part' ho ha, run_addL]
      rw [if_pos]
      · simp
      · have := flat_len (T := T) ho (pre := pre) (by omega)
        have := part_len (T := T) (l := l) (a, i)
        have := ho.len
        have h5 : immAll ((pre.flatMap (part T l)).map encP) = true := immAll_map fun p _ => imm_encP p
        have h6 : immAll ((part T l (a, i)).map encP) = true := immAll_map fun p _ => imm_encP p
        rw [h5, h6]
        exact ⟨fit_of (by simp only [List.length_map]; omega), rfl⟩) [] (l.zipIdx 0) rfl [some (encB n T), some (nT l), some (.list []), none, none, none] S ⟨rfl, none, none, none, rfl⟩
  unfold d_law_turned
  rw [run_def (by rfl)]
  show ((b_law_turned) [some (encB n T), some (nT l), none, none, none, none] S).bind _ = _
  unfold b_law_turned
  have h0 : fit ([] : List D).length = true := rfl
  simp only [run_seq, run_asg, run_lst, run_lnil, Option.bind_some, h0, ↓reduceIte, run_gName, List.set_cons_succ, List.set_cons_zero, seqO_nx, run_for, run_wEnum, run_var, List.getElem?_cons_succ, List.getElem?_cons_zero, Option.map_some, seqOf_nT, enum_nT]
  rw [show (eComp [5] (wSeq (eSlice true (eVar 1) (some (e2 (addD true) (eVar 3) (eC (.int 1)))) none)) (gName 5) (tB (e2 (eqD false) (e2 idxD (e2 idxD (eVar 0) (eVar 5)) (eVar 4)) (eC (.int 1)))) (eTup (lCons (eImm (eVar 5)) (lCons (eImm (eVar 4)) (lNil))))) = partE from rfl, h1]
  simp only [Option.bind_some, seqO_nx, run_ret, run_1, run_var, List.getElem?_cons_succ, List.getElem?_cons_zero, Option.map_some, run_sortP, tl_parts]
  rfl
end K91

/-! P91c: built orders, halves, moves. -/
namespace K91
open PySem DL
variable {n : Nat} {T : Nat → Nat → Bool} {l : List Nat} {S : Src}
theorem bits_int {α : Type} (p : α → Bool) (xs : List α) : (xs.map fun b => PyData.int (bit (p b))) = (xs.map fun b => bit (p b)).map .int := by
  rw [List.map_map]
  rfl
theorem run_sumBits {α : Type} (p : α → Bool) (xs : List α) : sumD (.list (xs.map fun b => PyData.int (bit (p b)))) S = some (nI (xs.countP p), S) := by
  rw [run_sum (ns := xs.map fun b => bit (p b)) (by rw [seqOf_list, bits_int]), sum_bits]
theorem small2 : small64 2 = true := by decide
theorem fit1 (h : l.length ≤ 1000) : fit (l.length + 1) = true := fit_of (by omega)
theorem built_lt {x : Nat} (hx : x ≤ n) : ∀ a ∈ built T x, a < n := fun a ha => by
  have := List.mem_range.mp ((built_perm T x).mem_iff.mp ha)
  omega
theorem run_built (hn : n ≤ 100) : d_built_order [encB n T] S = some (nT (built T n), S) := by
  obtain ⟨ρ', S', h1, rfl, x, y, rfl⟩ := forD_inv (b := turnD (gName 2) (sAsg (eIf (tB (e2 (cmD .ge) (e2 mulD (eC (.int 2)) (e1 sumD (eComp [3] (wSeq (eVar 1)) (gName 3) (tYes) (eImm (e2 idxD (e2 idxD (eVar 0) (eVar 2)) (eVar 3)))))) (e1 lenD (eVar 1)))) (eTup (lCons (eImm (eVar 2)) (lStar (eVar 1) (lNil)))) (eTup (lStar (eVar 1) (lCons (eImm (eVar 2)) (lNil))))) (gName 1))) (fun a : Nat => nI a)
    (fun pre ρ S' => S = S' ∧ ∃ x y, ρ = [some (encB n T), some (nT (pre.foldl (bstep T) [])), x, y]) (List.range n)
    (fun pre a suf ρ S' e h => by
      obtain ⟨rfl, x, y, rfl⟩ := h
      obtain ⟨rfl, ha⟩ := range_split e
      refine ⟨_, S, .inl ?_, rfl, some (nI a), y, rfl⟩
      rw [List.foldl_append]
      show _ = some (Out.nx [_, some (nT (bstep T (built T a) a)), _, _], S)
      have hb := built_lt (T := T) (n := n) (x := a) (by omega)
      have hl := built_len T a
      have hc : compD (gName 3) (tYes) (eImm (e2 idxD (e2 idxD (eVar 0) (eVar 2)) (eVar 3))) [some (encB n T), some (nT (built T a)), some (nI a), none] ((built T a).map fun b => nI b) S = some ((built T a).map fun b => PyData.int (bit (T a b)), S) :=
        compD_all (fun b => nI b) (fun b => PyData.int (bit (T a b))) _ fun b hm => ⟨[some (encB n T), some (nT (built T a)), some (nI a), some (nI b)], rfl, rfl, by simp [run_tab ha, run_trow (hb b hm)]⟩
      have hf : fit ((built T a).map fun b => PyData.int (bit (T a b))).length = true := fit_of (by simp; omega)
      have hfold : List.foldl (bstep T) [] (List.range a) = built T a := rfl
      rw [run_turn]
      simp only [hfold, run_gName, Option.bind_some, List.set_cons_succ, List.set_cons_zero, run_asg, run_if, run_tB, run_2, run_c, run_1, run_comp, run_wSeq, run_var, List.getElem?_cons_succ, List.getElem?_cons_zero, Option.map_some, seqOf_nT, kill_cons, kill_nil, hc, hf, ↓reduceIte, run_sumBits, run_mul (.inl small2), run_len_nT, run_cm, boolOf_bool, cm_ge]
      unfold bstep
      have h2 : ((built T a).length : Int) ≤ 2 * ((built T a).countP (fun b => T a b) : Nat) ↔ (built T a).length ≤ 2 * (built T a).countP (fun b => T a b) := by omega
      by_cases hw : (built T a).length ≤ 2 * (built T a).countP (fun b => T a b)
      · rw [if_pos (decide_eq_true (h2.mpr hw)), if_pos hw]
        simp [immAll_nI, fit1 (l := built T a) (by omega), nT, fit_of (n := (built T a).length + 1) (by omega)]
      · rw [if_neg (fun z => hw (h2.mp (of_decide_eq_true z))), if_neg hw]
        simp [immAll_nI, fit1 (l := built T a) (by omega), nT, fit_of (n := (built T a).length + 1) (by omega)]) [] (List.range n) rfl [some (encB n T), some (nT []), none, none] S ⟨rfl, none, none, rfl⟩
  unfold d_built_order
  rw [run_def (by rfl)]
  show ((b_built_order) [some (encB n T), none, none, none] S).bind _ = _
  unfold b_built_order
  have h0 : fit ([] : List D).length = true := rfl
  have h3 := rng62_nat (n := n) (by omega)
  simp only [run_seq, run_asg, run_tup, run_lnil, Option.bind_some, h0, ↓reduceIte, run_gName, List.set_cons_succ, List.set_cons_zero, seqO_nx, run_for, run_wRange1, run_1, run_var, List.getElem?_cons_succ, List.getElem?_cons_zero, Option.map_some, run_len_tab, intOf_int, h3, rng_nat]
  rw [show (PyData.tuple [] : D) = nT [] from rfl, h1]
  simp only [Option.bind_some, seqO_nx, run_ret, run_imm, run_var, List.getElem?_cons_succ, List.getElem?_cons_zero, Option.map_some, imm_nT, ↓reduceIte, end_rt]
  rfl
theorem run_bound {m : Nat} (h : m ≤ 1000) : d_turns_bound [nI (m + 1)] S = some (nI (m * m / 4), S) := by
  unfold d_turns_bound
  rw [run_def (by rfl)]
  show ((b_turns_bound) [some (nI (m + 1))] S).bind _ = _
  unfold b_turns_bound
  have e : ((m + 1 : Nat) : Int) - 1 = m := by omega
  have e2 : ((m : Int) * m).fdiv 4 = ((m * m / 4 : Nat) : Int) := by
    rw [Int.fdiv_eq_ediv_of_nonneg _ (by omega)]
    simp
  simp only [run_ret, run_2, run_var, run_c, List.getElem?_cons_zero, Option.bind_some, Option.map_some, run_sub, e, run_mul (.inl (small_nat (n := m) (by omega))), run_fdiv (b := 4) ⟨by decide, by decide⟩, e2, end_rt]
/-- every beginning of m has half at least -/
def HalfL (p : Nat → Bool) (m : List Nat) : Prop := ∀ k, 1 ≤ k → k ≤ m.length → k ≤ 2 * (m.take k).countP p
theorem snoc_half {p : Nat → Bool} {m : List Nat} {j : Nat} (hj : j ≤ m.length) (h : ∀ k, 1 ≤ k → k ≤ j → k ≤ 2 * (m.take k).countP p) (h2 : j + 1 ≤ 2 * (m.take (j + 1)).countP p) : ∀ k, 1 ≤ k → k ≤ j + 1 → k ≤ 2 * (m.take k).countP p := fun k h3 h4 => by
  rcases Nat.lt_or_ge j k with z | z
  · have : k = j + 1 := by omega
    subst this
    exact h2
  · exact h k h3 z
theorem countP_snoc {α : Type} {p : α → Bool} {xs : List α} {x : α} : ((xs ++ [x]).countP p : Int) = (xs.countP p : Int) + bit (p x) := by
  rw [List.countP_append, List.countP_cons, List.countP_nil]
  cases p x <;> simp [bit]
theorem run_from (ho : Od n l) {i x : Nat} (hx : l[i]? = some x) : ∃ b : Bool, d_is_half_from [encB n T, nT l, nI i] S = some (.bool b, S) ∧ (b = true ↔ HalfL (fun b => T x b) (l.drop (i + 1))) := by
  have hxn : x < n := ho.lt x (List.mem_of_getElem? hx)
  have key := forD_ret (b := turnD (gTup [gName 4, gName 5]) (sSeq (sAsg (e2 (addD true) (eVar 3) (e2 idxD (e2 idxD (eVar 0) (e2 idxD (eVar 1) (eVar 2))) (eVar 5))) (gName 3)) (sIf (tB (e2 (cmD .lt) (e2 mulD (eC (.int 2)) (eVar 3)) (e2 (addD true) (eVar 4) (eC (.int 1))))) (sRet (eC (.bool false))) (sNext)))) (fun p : Nat × Nat => PyData.tuple [.int p.2, nI p.1])
    (fun pre ρ S' => S = S' ∧ (∀ k, 1 ≤ k → k ≤ pre.length → k ≤ 2 * ((l.drop (i + 1)).take k).countP fun b => T x b) ∧ ∃ y z, ρ = [some (encB n T), some (nT l), some (nI i), some (nI ((pre.map (·.1)).countP fun b => T x b)), y, z])
    (fun d S' => S = S' ∧ d = .bool false ∧ ¬ HalfL (fun b => T x b) (l.drop (i + 1))) ((l.drop (i + 1)).zipIdx 0)
    (fun pre p suf ρ S' e h => by
      obtain ⟨rfl, hh, y, z, rfl⟩ := h
      obtain ⟨b, k⟩ := p
      obtain ⟨h1, h2, h3, h4⟩ := zipIdx_split e
      have hb : b < n := ho.lt b (List.mem_of_mem_drop (List.mem_of_getElem? h2))
      have e1 : (nI ((pre.map (·.1)).countP fun b => T x b) : D) = .int ((pre.map (·.1)).countP fun b => T x b) := rfl
      have e2 : (((pre.map (·.1)).countP fun b => T x b : Nat) : Int) + bit (T x b) = ((((pre ++ [(b, k)]).map (·.1)).countP fun b => T x b : Nat) : Int) := by
        rw [List.map_append, List.map_cons, List.map_nil, countP_snoc]
      have e3 : (pre ++ [(b, k)]).map (·.1) = (l.drop (i + 1)).take (k + 1) := by
        rw [List.map_append, h3, List.take_add_one, h2]
        rfl
      rw [run_turn]
      simp only [run_gTup, run_gAll, run_gAll0, run_gName, Option.bind_some, List.set_cons_succ, List.set_cons_zero, run_seq, run_asg, run_2, run_var, List.getElem?_cons_succ, List.getElem?_cons_zero, Option.map_some, run_idx_nT hx, run_tab hxn, run_trow hb, run_add, e2, seqO_nx, run_sIf, run_tB, run_c, run_mul (.inl small2), run_cm, boolOf_bool, cm_lt]
      by_cases hc : 2 * ((((pre ++ [(b, k)]).map (·.1)).countP fun b => T x b : Nat) : Int) < (k : Int) + 1
      · refine .inr ⟨_, S, by rw [if_pos (decide_eq_true hc)]; rfl, rfl, rfl, fun hH => ?_⟩
        have := hH (k + 1) (by omega) (by omega)
        rw [← e3] at this
        omega
      · refine .inl ⟨_, S, .inl (by rw [if_neg (fun q => hc (of_decide_eq_true q))]; rfl), rfl, ?_, _, _, rfl⟩
        rw [List.length_append, ← h1]
        refine snoc_half (by omega) (by rw [h1]; exact hh) ?_
        rw [← e3]
        omega) [] ((l.drop (i + 1)).zipIdx 0) rfl [some (encB n T), some (nT l), some (nI i), some (.int 0), none, none] S ⟨rfl, fun k h1 h2 => by simp at h2; omega, none, none, rfl⟩
  have start : d_is_half_from [encB n T, nT l, nI i] S = ((forD (turnD (gTup [gName 4, gName 5]) (sSeq (sAsg (e2 (addD true) (eVar 3) (e2 idxD (e2 idxD (eVar 0) (e2 idxD (eVar 1) (eVar 2))) (eVar 5))) (gName 3)) (sIf (tB (e2 (cmD .lt) (e2 mulD (eC (.int 2)) (eVar 3)) (e2 (addD true) (eVar 4) (eC (.int 1))))) (sRet (eC (.bool false))) (sNext)))) (((l.drop (i + 1)).zipIdx 0).map fun p : Nat × Nat => PyData.tuple [.int p.2, nI p.1]) [some (encB n T), some (nT l), some (nI i), some (.int 0), none, none] S).bind (seqO (sRet (eC (.bool true))))).bind fun p => endD p.1 p.2 := by
    unfold d_is_half_from
    rw [run_def (by rfl)]
    show ((b_is_half_from) [some (encB n T), some (nT l), some (nI i), none, none, none] S).bind _ = _
    unfold b_is_half_from
    simp only [run_seq, run_asg, run_c, run_gName, Option.bind_some, List.set_cons_succ, List.set_cons_zero, seqO_nx, run_for, run_wEnum, run_eSlice, run_var, run_part, run_part0, run_2, List.getElem?_cons_succ, List.getElem?_cons_zero, Option.map_some, run_add, intOf_int, run_from1, seqOf_nT, enum_nT]
  rw [start]
  rcases key with ⟨ρ', S', h1, rfl, h2, y, z, rfl⟩ | ⟨d, S', h1, rfl, rfl, h2⟩
  · refine ⟨true, ?_, fun _ k h3 h4 => h2 k h3 (by simpa using h4), fun _ => rfl⟩
    rw [h1]
    rfl
  · refine ⟨false, ?_, fun z => absurd z (by simp), fun z => absurd z h2⟩
    rw [h1]
    rfl
theorem run_to (ho : Od n l) {i x : Nat} (hx : l[i]? = some x) : ∃ b : Bool, d_is_half_to [encB n T, nT l, nI i] S = some (.bool b, S) ∧ (b = true ↔ HalfL (fun b => T b x) (l.take i).reverse) := by
  have hxn : x < n := ho.lt x (List.mem_of_getElem? hx)
  have key := forD_ret (b := turnD (gTup [gName 4, gName 5]) (sSeq (sAsg (e2 (addD true) (eVar 3) (e2 idxD (e2 idxD (eVar 0) (eVar 5)) (e2 idxD (eVar 1) (eVar 2)))) (gName 3)) (sIf (tB (e2 (cmD .lt) (e2 mulD (eC (.int 2)) (eVar 3)) (e2 (addD true) (eVar 4) (eC (.int 1))))) (sRet (eC (.bool false))) (sNext)))) (fun p : Nat × Nat => PyData.tuple [.int p.2, nI p.1])
    (fun pre ρ S' => S = S' ∧ (∀ k, 1 ≤ k → k ≤ pre.length → k ≤ 2 * ((l.take i).reverse.take k).countP fun b => T b x) ∧ ∃ y z, ρ = [some (encB n T), some (nT l), some (nI i), some (nI ((pre.map (·.1)).countP fun b => T b x)), y, z])
    (fun d S' => S = S' ∧ d = .bool false ∧ ¬ HalfL (fun b => T b x) (l.take i).reverse) ((l.take i).reverse.zipIdx 0)
    (fun pre p suf ρ S' e h => by
      obtain ⟨rfl, hh, y, z, rfl⟩ := h
      obtain ⟨b, k⟩ := p
      obtain ⟨h1, h2, h3, h4⟩ := zipIdx_split e
      have hb : b < n := ho.lt b (List.mem_of_mem_take (List.mem_reverse.mp (List.mem_of_getElem? h2)))
      have e2 : (((pre.map (·.1)).countP fun b => T b x : Nat) : Int) + bit (T b x) = ((((pre ++ [(b, k)]).map (·.1)).countP fun b => T b x : Nat) : Int) := by
        rw [List.map_append, List.map_cons, List.map_nil, countP_snoc]
      have e3 : (pre ++ [(b, k)]).map (·.1) = (l.take i).reverse.take (k + 1) := by
        rw [List.map_append, h3, List.take_add_one, h2]
        rfl
      rw [run_turn]
      simp only [run_gTup, run_gAll, run_gAll0, run_gName, Option.bind_some, List.set_cons_succ, List.set_cons_zero, run_seq, run_asg, run_2, run_var, List.getElem?_cons_succ, List.getElem?_cons_zero, Option.map_some, run_idx_nT hx, run_tab hb, run_trow hxn, run_add, e2, seqO_nx, run_sIf, run_tB, run_c, run_mul (.inl small2), run_cm, boolOf_bool, cm_lt]
      by_cases hc : 2 * ((((pre ++ [(b, k)]).map (·.1)).countP fun b => T b x : Nat) : Int) < (k : Int) + 1
      · refine .inr ⟨_, S, by rw [if_pos (decide_eq_true hc)]; rfl, rfl, rfl, fun hH => ?_⟩
        have := hH (k + 1) (by omega) (by omega)
        rw [← e3] at this
        omega
      · refine .inl ⟨_, S, .inl (by rw [if_neg (fun q => hc (of_decide_eq_true q))]; rfl), rfl, ?_, _, _, rfl⟩
        rw [List.length_append, ← h1]
        refine snoc_half (by omega) (by rw [h1]; exact hh) ?_
        rw [← e3]
        omega) [] ((l.take i).reverse.zipIdx 0) rfl [some (encB n T), some (nT l), some (nI i), some (.int 0), none, none] S ⟨rfl, fun k h1 h2 => by simp at h2; omega, none, none, rfl⟩
  have start : d_is_half_to [encB n T, nT l, nI i] S = ((forD (turnD (gTup [gName 4, gName 5]) (sSeq (sAsg (e2 (addD true) (eVar 3) (e2 idxD (e2 idxD (eVar 0) (eVar 5)) (e2 idxD (eVar 1) (eVar 2)))) (gName 3)) (sIf (tB (e2 (cmD .lt) (e2 mulD (eC (.int 2)) (eVar 3)) (e2 (addD true) (eVar 4) (eC (.int 1))))) (sRet (eC (.bool false))) (sNext)))) (((l.take i).reverse.zipIdx 0).map fun p : Nat × Nat => PyData.tuple [.int p.2, nI p.1]) [some (encB n T), some (nT l), some (nI i), some (.int 0), none, none] S).bind (seqO (sRet (eC (.bool true))))).bind fun p => endD p.1 p.2 := by
    unfold d_is_half_to
    rw [run_def (by rfl)]
    show ((b_is_half_to) [some (encB n T), some (nT l), some (nI i), none, none, none] S).bind _ = _
    unfold b_is_half_to
    simp only [run_seq, run_asg, run_c, run_gName, Option.bind_some, List.set_cons_succ, List.set_cons_zero, seqO_nx, run_for, run_wEnum, run_eSlice, run_var, run_part, run_part0, run_1, List.getElem?_cons_succ, List.getElem?_cons_zero, Option.map_some, intOf_int, run_to_nT, run_rev_nT, seqOf_nT, enum_nT]
  rw [start]
  rcases key with ⟨ρ', S', h1, rfl, h2, y, z, rfl⟩ | ⟨d, S', h1, rfl, rfl, h2⟩
  · refine ⟨true, ?_, fun _ k h3 h4 => h2 k h3 (by simpa using h4), fun _ => rfl⟩
    rw [h1]
    rfl
  · refine ⟨false, ?_, fun z => absurd z (by simp), fun z => absurd z h2⟩
    rw [h1]
    rfl
theorem rev_take {i k : Nat} (hi : i ≤ l.length) (hk : k ≤ i) : ((l.take i).reverse.take k).Perm ((l.drop (i - k)).take k) := by
  have e : (l.take i).reverse.take k = ((l.drop (i - k)).take k).reverse := by
    rw [List.take_reverse, List.length_take, Nat.min_eq_left hi, List.drop_take, show i - (i - k) = k by omega]
  rw [e]
  exact List.reverse_perm _
theorem half_iff {i x : Nat} (hx : l[i]? = some x) : (HalfL (fun b => T x b) (l.drop (i + 1)) ∧ HalfL (fun b => T b x) (l.take i).reverse) ↔ ((∀ k, 1 ≤ k → i + k < l.length → k ≤ 2 * ((l.drop (i + 1)).take k).countP (fun b => T x b)) ∧ (∀ k, 1 ≤ k → k ≤ i → k ≤ 2 * ((l.drop (i - k)).take k).countP (fun b => T b x))) := by
  have hi : i < l.length := (List.getElem?_eq_some_iff.mp hx).1
  have h1 : (l.drop (i + 1)).length = l.length - (i + 1) := List.length_drop ..
  have h2 : (l.take i).reverse.length = i := by simp; omega
  constructor
  · rintro ⟨a, b⟩
    refine ⟨fun k h3 h4 => a k h3 (by omega), fun k h3 h4 => ?_⟩
    have := b k h3 (by omega)
    rwa [(rev_take (l := l) (i := i) (k := k) (by omega) h4).countP_eq] at this
  · rintro ⟨a, b⟩
    refine ⟨fun k h3 h4 => a k h3 (by omega), fun k h3 h4 => ?_⟩
    have := b k h3 (by omega)
    rwa [(rev_take (l := l) (i := i) (k := k) (by omega) (by omega)).countP_eq]
theorem run_half (ho : Od n l) : ∃ b : Bool, d_has_half_ahead [encB n T, nT l] S = some (.bool b, S) ∧ (b = true ↔ Half T l) := by
  have ex : ∀ i : Nat, ∃ b : Bool, ∀ x, l[i]? = some x → (eAnd (eCall d_is_half_from (lCons (eVar 0) (lCons (eVar 1) (lCons (eVar 2) (lNil))))) (eCall d_is_half_to (lCons (eVar 0) (lCons (eVar 1) (lCons (eVar 2) (lNil)))))) [some (encB n T), some (nT l), some (nI i)] S = some (.bool b, S) ∧ (b = true ↔ HalfL (fun b => T x b) (l.drop (i + 1)) ∧ HalfL (fun b => T b x) (l.take i).reverse) := by
    intro i
    cases hx : l[i]? with
    | none => exact ⟨true, fun x z => nomatch z⟩
    | some x =>
      obtain ⟨b1, h1, h2⟩ := run_from (T := T) (S := S) ho hx
      obtain ⟨b2, h3, h4⟩ := run_to (T := T) (S := S) ho hx
      refine ⟨b1 && b2, fun y z => ?_⟩
      cases z
      rw [← h2, ← h4, Bool.and_eq_true]
      refine ⟨?_, Iff.rfl⟩
      simp only [run_eAnd, run_call, run_lcons, run_lnil, run_var, List.getElem?_cons_succ, List.getElem?_cons_zero, Option.bind_some, Option.map_some, h1, h3, boolOf_bool]
      cases b1 <;> rfl
  obtain ⟨F, hF⟩ := Classical.axiomOfChoice ex
  have hc : compD (gName 2) (tYes) (eAnd (eCall d_is_half_from (lCons (eVar 0) (lCons (eVar 1) (lCons (eVar 2) (lNil))))) (eCall d_is_half_to (lCons (eVar 0) (lCons (eVar 1) (lCons (eVar 2) (lNil)))))) [some (encB n T), some (nT l), none] ((List.range l.length).map fun i => nI i) S = some ((List.range l.length).map fun i => PyData.bool (F i), S) :=
    compD_all (fun i => nI i) (fun i => PyData.bool (F i)) _ fun i hi => ⟨[some (encB n T), some (nT l), some (nI i)], rfl, rfl, (hF i (l[i]'(List.mem_range.mp hi)) (List.getElem?_eq_getElem _)).1⟩
  refine ⟨(List.range l.length).all F, ?_, ?_⟩
  · unfold d_has_half_ahead
    rw [run_def (by rfl)]
    show ((b_has_half_ahead) [some (encB n T), some (nT l), none] S).bind _ = _
    unfold b_has_half_ahead
    have h3 := rng62_nat (n := l.length) (by have := ho.len; omega)
    have hf : fit ((List.range l.length).map fun i => PyData.bool (F i)).length = true := fit_of (by have := ho.len; simp; omega)
    simp only [run_ret, run_1, run_comp, run_wRange1, run_var, List.getElem?_cons_succ, List.getElem?_cons_zero, Option.bind_some, Option.map_some, run_len_nT, intOf_int, h3, ↓reduceIte, rng_nat, kill_cons, kill_nil, List.set_cons_succ, List.set_cons_zero, hc, hf]
    have e : ((List.range l.length).map fun i => PyData.bool (F i)) = ((List.range l.length).map F).map .bool := by rw [List.map_map]; rfl
    rw [e, run_all]
    simp only [Option.bind_some, end_rt, List.all_map]
    rfl
  · rw [List.all_eq_true]
    unfold Half
    constructor
    · intro h i x hx
      exact (half_iff hx).mp ((hF i x hx).2.mp (h i (List.mem_range.mpr (List.getElem?_eq_some_iff.mp hx).1)))
    · intro h i hi
      have hi := List.mem_range.mp hi
      have hx : l[i]? = some l[i] := by simp
      exact (hF i _ hx).2.mpr ((half_iff hx).mpr (h i _ hx))
end K91

/-! P91d: moves. -/
namespace K91
open PySem DL
variable {n : Nat} {T : Nat → Nat → Bool} {l : List Nat} {S : Src}
theorem run_mid1 {i : Nat} : sliceD true (some (i : Int)) (some ((i : Int) + 1)) (nT l) S = some (nT ((l.drop i).take 1), S) := by
  have := run_mid_nT (l := l) (j := i) (k := i + 1) (S := S)
  rw [show i + 1 - i = 1 by omega] at this
  exact this
theorem drop1 {i x : Nat} (hx : l[i]? = some x) : (l.drop i).take 1 = [x] := by
  obtain ⟨h, rfl⟩ := List.getElem?_eq_some_iff.mp hx
  rw [← List.getElem_cons_drop h]
  rfl
theorem len_rest {i : Nat} : (l.take i).length + (l.drop (i + 1)).length ≤ l.length := by simp; omega
theorem run_moved (hl : l.length ≤ 100) {i j x : Nat} (hx : l[i]? = some x) : d_moved_thing [nT l, nI i, nI j] S = some (nT (mv l i j), S) := by
  unfold d_moved_thing
  rw [run_def (by rfl)]
  show ((b_moved_thing) [some (nT l), some (nI i), some (nI j), none] S).bind _ = _
  unfold b_moved_thing
  have h1 := len_rest (l := l) (i := i)
  have hf : ∀ (a b : List Nat), a.length + b.length ≤ 200 → fit ((a.map fun a => nI a) ++ (nI x :: ((b.map fun b => nI b) ++ []))).length = true := fun a b h => fit_of (by simp; omega)
  have h2 : ((l.take i ++ l.drop (i + 1)).take j).length + ((l.take i ++ l.drop (i + 1)).drop j).length ≤ 200 := by simp; omega
  simp only [run_seq, run_asg, run_2, run_eSlice, run_var, run_part, run_part0, run_c, List.getElem?_cons_succ, List.getElem?_cons_zero, Option.bind_some, Option.map_some, intOf_int, run_to_nT, run_add, run_from1, run_add_nT (o := true) (l := l.take i) (m := l.drop (i + 1)) (S := S) (by omega), run_gName, List.set_cons_succ, List.set_cons_zero, seqO_nx, run_ret, run_tup, run_lstar, run_lcons, run_lnil, run_from_nT, seqOf_nT, immAll_nI, ↓reduceIte, run_imm, run_idx_nT hx, imm_int, hf _ _ h2, end_rt]
  unfold mv
  rw [drop1 hx]
  simp [nT]
def enc3 (p : Nat × Nat × Nat) : D := .tuple [nI p.1, nI p.2.1, nI p.2.2]
def tri (T : Nat → Nat → Bool) (l : List Nat) : List (Nat × Nat × Nat) := (pairs l.length).map fun p => (ct T (mv l p.1 p.2), p.1, p.2)
def lt3 (p q : Nat × Nat × Nat) : Bool := if p.1 = q.1 then (if p.2.1 = q.2.1 then decide (p.2.2 < q.2.2) else decide (p.2.1 < q.2.1)) else decide (p.1 < q.1)
def min3 (x : Nat × Nat × Nat) (xs : List (Nat × Nat × Nat)) : Nat × Nat × Nat := xs.foldl (fun a y => if lt3 y a = true then y else a) x
def best (T : Nat → Nat → Bool) (l : List Nat) : Option (Nat × Nat × Nat) := match tri T l with
  | [] => none
  | x :: xs => some (min3 x xs)
theorem int_lt (a b : Nat) : decide ((a : Int) < b) = decide (a < b) := by
  by_cases h : a < b
  · rw [decide_eq_true h, decide_eq_true (by omega)]
  · rw [decide_eq_false h, decide_eq_false (by omega)]
theorem lt_enc3 (p q : Nat × Nat × Nat) : W.dataLt (enc3 p) (enc3 q) = lt3 p q := by
  obtain ⟨a, b, c⟩ := p
  obtain ⟨x, y, z⟩ := q
  unfold enc3 lt3
  simp only [lt_cons, lt_nil, Int.natCast_inj, int_lt]
  by_cases h1 : a = x
  · by_cases h2 : b = y
    · by_cases h3 : c = z
      · subst h3; simp [h1, h2]
      · simp [h1, h2, h3]
    · simp [h1, h2]
  · simp [h1]
theorem mv_od (ho : Od n l) {i j : Nat} (hi : i < l.length) : Od n (mv l i j) := ⟨fun a ha => ho.lt a ((mv_perm hi).mem_iff.mp ha), by rw [(mv_perm hi).length_eq]; exact ho.len⟩
theorem pairs_len (m : Nat) : (pairs m).length ≤ m * m := by
  unfold pairs
  have := flatMap_len (f := fun i => ((List.range m).filter fun j => decide (i ≠ j)).map fun j => (i, j)) (k := m) (xs := List.range m) fun i _ => by
    rw [List.length_map]
    exact Nat.le_trans (List.length_filter_le _ _) (by simp)
  rwa [List.length_range] at this
theorem tri_len (hl : l.length ≤ 100) : (tri T l).length ≤ 10000 := by
  unfold tri
  rw [List.length_map]
  have := pairs_len l.length
  have : l.length * l.length ≤ 100 * 100 := Nat.mul_le_mul hl hl
  omega
theorem ct_le (l : List Nat) : ct T l ≤ l.length * l.length := by
  induction l with
  | nil => exact Nat.le_refl _
  | cons a r ih =>
    rw [ct_cons, List.length_cons, Nat.add_mul, Nat.mul_add]
    have : r.countP (fun b => T b a) ≤ r.length := List.countP_le_length
    omega
theorem tidy_enc3 {p : Nat × Nat × Nat} (h : p.1 ≤ 10000 ∧ p.2.1 ≤ 100 ∧ p.2.2 ≤ 100) : tidy (enc3 p) = true := by
  unfold enc3
  rw [tidy_tuple, tidyAll_iff]
  intro x hx
  simp only [List.mem_cons, List.not_mem_nil, or_false] at hx
  rcases hx with rfl | rfl | rfl <;> rw [tidy_int] <;> exact decide_eq_true (by omega)
theorem tri_mem {p : Nat × Nat × Nat} (h : p ∈ tri T l) : p.2.1 < l.length ∧ p.2.2 < l.length ∧ p.2.1 ≠ p.2.2 ∧ p.1 = ct T (mv l p.2.1 p.2.2) := by
  unfold tri at h
  obtain ⟨⟨i, j⟩, h1, rfl⟩ := List.mem_map.mp h
  obtain ⟨h2, h3, h4⟩ := mem_pairs.mp h1
  exact ⟨h2, h3, h4, rfl⟩
theorem tri_small (hl : l.length ≤ 100) {p : Nat × Nat × Nat} (h : p ∈ tri T l) : p.1 ≤ 10000 ∧ p.2.1 ≤ 100 ∧ p.2.2 ≤ 100 := by
  obtain ⟨h1, h2, h3, h4⟩ := tri_mem h
  have h5 := ct_le (T := T) (mv l p.2.1 p.2.2)
  rw [(mv_perm h1).length_eq] at h5
  have : l.length * l.length ≤ 100 * 100 := Nat.mul_le_mul hl hl
  exact ⟨by omega, by omega, by omega⟩
theorem depth_enc3 (p : Nat × Nat × Nat) : PyData.depth (enc3 p) ≤ 1 := by simp [enc3]
theorem imm_enc3 (p : Nat × Nat × Nat) : imm (enc3 p) = true := by simp [enc3, imm_tup]
theorem alike_enc3 (p q : Nat × Nat × Nat) : W.alike (enc3 p) (enc3 q) = true := by simp [enc3, W.alike, W.alikeAll]
def encO : Option (Nat × Nat × Nat) → D
  | none => .none
  | some p => enc3 p
theorem run_bestL {x : Nat × Nat × Nat} {xs : List (Nat × Nat × Nat)} : bestD minF (.list ((x :: xs).map enc3)) S = some (enc3 (min3 x xs), S) := by
  rw [List.map_cons]
  rw [run_best (d := enc3 x) (ds := xs.map enc3) rfl]
  · rw [minF_map enc3 lt3 xs x]
    · rfl
    · exact List.pairwise_of_forall fun a b => lt_enc3 b a
  · exact alikes_map (xs := x :: xs) (enc := enc3) (fun p _ q _ => alike_enc3 p q) (fun p _ => rfl) (fun p _ => Nat.le_trans (depth_enc3 p) (by omega)) fun p _ => imm_enc3 p
theorem run_bestMove (ho : Od n l) : d_best_move [encB n T, nT l] S = some (encO (best T l), S) := by
  have hl := ho.len
  unfold d_best_move
  rw [run_def (by rfl)]
  show ((b_best_move) [some (encB n T), some (nT l), none, none, none, none] S).bind _ = _
  unfold b_best_move
  have h3 := rng62_nat (n := l.length) (by omega)
  have inner : ∀ i, i < l.length → compD (gName 5) (tB (e2 (eqD true) (eVar 4) (eVar 5))) (eTup (lCons (eCall d_count_turned (lCons (eVar 0) (lCons (eCall d_moved_thing (lCons (eVar 1) (lCons (eVar 4) (lCons (eVar 5) (lNil))))) (lNil)))) (lCons (eImm (eVar 4)) (lCons (eImm (eVar 5)) (lNil))))) [some (encB n T), some (nT l), some (nI l.length), none, some (nI i), none] ((List.range l.length).map fun i => nI i) S
      = some (((List.range l.length).filter fun j => decide (i ≠ j)).map fun j => enc3 (ct T (mv l i j), i, j), S) := fun i hi =>
    compD_pure (fun j => nI j) (fun j => enc3 (ct T (mv l i j), i, j)) (fun j => decide (i ≠ j)) _ fun j hj => by
      refine ⟨[some (encB n T), some (nT l), some (nI l.length), none, some (nI i), some (nI j)], rfl, ?_, fun _ => ?_⟩
      · have : (!decide ((i : Int) = j)) = decide (i ≠ j) := by
          by_cases h : i = j
          · simp [h]
          · have : ¬ (i : Int) = j := by omega
            simp [h, this]
        simp only [run_tB, run_2, run_var, List.getElem?_cons_succ, List.getElem?_cons_zero, Option.bind_some, Option.map_some, run_eqI, ↓reduceIte, this, boolOf_bool]
      · have hf : fit 3 = true := by decide
        simp only [run_tup, run_lcons, run_lnil, run_call, run_var, List.getElem?_cons_succ, List.getElem?_cons_zero, Option.bind_some, Option.map_some, run_moved (x := l[i]) hl (List.getElem?_eq_getElem hi), run_count (mv_od ho hi), run_imm, imm_int, ↓reduceIte, List.length_cons, List.length_nil, hf]
        rfl
  have hc := compD2_pure (g := gName 4) (t := tYes) (w := wRange1 (eVar 2)) (vs1 := [5]) (g1 := gName 5) (t1 := tB (e2 (eqD true) (eVar 4) (eVar 5))) (e := eTup (lCons (eCall d_count_turned (lCons (eVar 0) (lCons (eCall d_moved_thing (lCons (eVar 1) (lCons (eVar 4) (lCons (eVar 5) (lNil))))) (lNil)))) (lCons (eImm (eVar 4)) (lCons (eImm (eVar 5)) (lNil)))))
    (ρ := [some (encB n T), some (nT l), some (nI l.length), none, none, none]) (S := S) (fun i => nI i) (fun _ => true) (fun i => ((List.range l.length).filter fun j => decide (i ≠ j)).map fun j => enc3 (ct T (mv l i j), i, j)) (List.range l.length) fun i hi =>
      ⟨[some (encB n T), some (nT l), some (nI l.length), none, some (nI i), none], rfl, rfl, fun _ => ⟨(List.range l.length).map fun i => nI i, by simp only [run_wRange1, run_var, List.getElem?_cons_succ, List.getElem?_cons_zero, Option.bind_some, Option.map_some, intOf_int, h3, ↓reduceIte, rng_nat], inner i (List.mem_range.mp hi)⟩⟩
  have e : ((List.range l.length).filter fun _ => true).flatMap (fun i => ((List.range l.length).filter fun j => decide (i ≠ j)).map fun j => enc3 (ct T (mv l i j), i, j)) = (tri T l).map enc3 := by
    rw [List.filter_eq_self.mpr (by simp)]
    unfold tri pairs
    simp only [List.map_flatMap, List.map_map]
    rfl
  rw [e] at hc
  have hf : fit ((tri T l).map enc3).length = true := fit_of (by have := tri_len (T := T) hl; simp; omega)
  have ht : tidyAll ((tri T l).map enc3) = true := tidyAll_iff.mpr fun x hx => by
    obtain ⟨p, hp, rfl⟩ := List.mem_map.mp hx
    exact tidy_enc3 (tri_small hl hp)
  have hd : PyData.depthAll ((tri T l).map enc3) ≤ 63 := depthAll_le fun x hx => by
    obtain ⟨p, hp, rfl⟩ := List.mem_map.mp hx
    exact Nat.le_trans (depth_enc3 p) (by omega)
  have h0 : fit ([] : List D).length = true := rfl
  simp only [run_seq, run_asg, run_1, run_var, List.getElem?_cons_succ, List.getElem?_cons_zero, Option.bind_some, Option.map_some, run_len_nT, run_gName, List.set_cons_succ, List.set_cons_zero, seqO_nx, run_comp2, run_wRange1, intOf_int, h3, ↓reduceIte, rng_nat, kill_cons, kill_nil, hc, hf, run_ret, run_if, run_tB, run_2, run_lst, run_lnil, h0, run_neNil ht hd, boolOf_bool, run_c]
  unfold best
  cases et : tri T l with
  | nil => rfl
  | cons x xs =>
    simp only [List.map_cons, List.isEmpty_cons, Bool.not_false, ↓reduceIte]
    have := run_bestL (x := x) (xs := xs) (S := S)
    rw [List.map_cons] at this
    rw [this]
    rfl
theorem min3_le {x : Nat × Nat × Nat} {xs : List (Nat × Nat × Nat)} : ∀ y ∈ x :: xs, (min3 x xs).1 ≤ y.1 := foldMin_le lt3 (·.1) (fun a b h => by
    unfold lt3 at h
    split at h
    · omega
    · have := of_decide_eq_true h; omega) (fun a b h => by
    unfold lt3 at h
    split at h
    · omega
    · have := of_decide_eq_false h; omega) xs x
theorem best_some {p : Nat × Nat × Nat} (h : best T l = some p) : p ∈ tri T l ∧ ∀ q ∈ tri T l, p.1 ≤ q.1 := by
  unfold best at h
  cases et : tri T l with
  | nil => rw [et] at h; cases h
  | cons x xs =>
    rw [et] at h
    cases h
    exact ⟨foldMin_mem lt3 xs x, min3_le⟩
theorem mem_tri {i j : Nat} (hi : i < l.length) (hj : j < l.length) (hne : i ≠ j) : (ct T (mv l i j), i, j) ∈ tri T l := List.mem_map.mpr ⟨(i, j), mem_pairs.mpr ⟨hi, hj, hne⟩, rfl⟩
theorem best_none (h : best T l = none) : tri T l = [] := by
  unfold best at h
  cases et : tri T l with
  | nil => rfl
  | cons x xs => rw [et] at h; cases h
def stillB (T : Nat → Nat → Bool) (l : List Nat) : Bool := match best T l with
  | none => true
  | some p => decide (ct T l ≤ p.1)
theorem stillB_iff : stillB T l = true ↔ Still T l := by
  unfold stillB Still
  cases eb : best T l with
  | none =>
    refine ⟨fun _ i j hi hj hne => ?_, fun _ => rfl⟩
    have := mem_tri (T := T) hi hj hne
    rw [best_none eb] at this
    cases this
  | some p =>
    obtain ⟨h1, h2⟩ := best_some eb
    obtain ⟨h3, h4, h5, h6⟩ := tri_mem h1
    simp only [decide_eq_true_eq]
    constructor
    · intro h i j hi hj hne
      have := h2 _ (mem_tri (T := T) hi hj hne)
      omega
    · intro h
      have := h _ _ h3 h4 h5
      omega
theorem run_still (ho : Od n l) : d_is_still_order [encB n T, nT l] S = some (.bool (stillB T l), S) := by
  unfold d_is_still_order
  rw [run_def (by rfl)]
  show ((b_is_still_order) [some (encB n T), some (nT l), none] S).bind _ = _
  unfold b_is_still_order
  simp only [run_seq, run_asg, run_call, run_lcons, run_lnil, run_var, List.getElem?_cons_succ, List.getElem?_cons_zero, Option.bind_some, Option.map_some, run_bestMove ho, run_gName, List.set_cons_succ, List.set_cons_zero, seqO_nx, run_ret, run_eOr, run_1, run_is, boolOf_bool]
  unfold stillB
  cases best T l with
  | none => rfl
  | some p =>
    have e : decide (((ct T l : Nat) : Int) ≤ (p.1 : Int)) = decide (ct T l ≤ p.1) := by
      by_cases h : ct T l ≤ p.1
      · rw [decide_eq_true h, decide_eq_true (by omega)]
      · rw [decide_eq_false h, decide_eq_false (by omega)]
    simp [encO, enc3, run_count ho, e]
/-- the orders by moves -/
def nextO (T : Nat → Nat → Bool) (l : List Nat) : List Nat := match best T l with
  | none => l
  | some p => mv l p.2.1 p.2.2
def obm (T : Nat → Nat → Bool) : Nat → List Nat → List (List Nat)
  | 0, l => [l]
  | k + 1, l => if stillB T l = true then [l] else l :: obm T k (nextO T l)
theorem next_of (h : ¬ stillB T l = true) : ∃ p, best T l = some p ∧ nextO T l = mv l p.2.1 p.2.2 ∧ p.2.1 < l.length ∧ ct T (nextO T l) = p.1 ∧ p.1 < ct T l := by
  unfold stillB at h
  cases eb : best T l with
  | none => rw [eb] at h; exact absurd rfl h
  | some p =>
    rw [eb] at h
    obtain ⟨h1, h2⟩ := best_some eb
    obtain ⟨h3, h4, h5, h6⟩ := tri_mem h1
    have e : nextO T l = mv l p.2.1 p.2.2 := by unfold nextO; rw [eb]
    have h7 : ¬ ct T l ≤ p.1 := fun z => h (decide_eq_true z)
    exact ⟨p, rfl, e, h3, by rw [e, h6], by omega⟩
theorem obm_last : ∀ (k : Nat) (l : List Nat), ct T l ≤ k → ∃ pre z, obm T k l = pre ++ [z] ∧ stillB T z = true
  | 0, l, h => by
    refine ⟨[], l, rfl, ?_⟩
    apply Classical.byContradiction
    intro z
    obtain ⟨p, _, _, _, _, h5⟩ := next_of z
    omega
  | k + 1, l, h => by
    unfold obm
    by_cases z : stillB T l = true
    · rw [if_pos z]
      exact ⟨[], l, rfl, z⟩
    · rw [if_neg z]
      obtain ⟨p, h1, h2, h3, h4, h5⟩ := next_of z
      obtain ⟨pre, y, e1, e2⟩ := obm_last k (nextO T l) (by omega)
      exact ⟨l :: pre, y, by rw [e1]; rfl, e2⟩
theorem obm_len : ∀ (k : Nat) (l : List Nat), (obm T k l).length ≤ k + 1
  | 0, l => by simp [obm]
  | k + 1, l => by
    unfold obm
    split
    · simp
    · have := obm_len k (nextO T l)
      simp
      omega
theorem obm_od : ∀ (k : Nat) (l : List Nat), Od n l → ∀ z ∈ obm T k l, Od n z ∧ z.length = l.length
  | 0, l, ho, z, hz => by
    have := List.mem_singleton.mp hz
    subst this
    exact ⟨ho, rfl⟩
  | k + 1, l, ho, z, hz => by
    unfold obm at hz
    by_cases q : stillB T l = true
    · rw [if_pos q] at hz
      have := List.mem_singleton.mp hz
      subst this
      exact ⟨ho, rfl⟩
    · rw [if_neg q] at hz
      obtain ⟨p, h1, h2, h3, h4, h5⟩ := next_of q
      rcases List.mem_cons.mp hz with rfl | hz
      · exact ⟨ho, rfl⟩
      · obtain ⟨h6, h7⟩ := obm_od k (nextO T l) (by rw [h2]; exact mv_od ho h3) z hz
        exact ⟨h6, by rw [h7, h2, (mv_perm h3).length_eq]⟩
/-- the orders' own loop -/
theorem while_obm {nB : D} (hB : nB = encB n T) : ∀ (k : Nat) (l : List Nat) (acc : List (List Nat)) (N : Nat) (x3 x4 x5 : Option D) (o : D), Od n l → ct T l ≤ k → k < N → acc.length + k + 1 ≤ 100000 → ∃ y3 y4 y5,
    whileD (tNot (tB (eCall d_is_still_order (lCons (eVar 0) (lCons (e2 idxD (eVar 2) (e1 negD (eC (.int 1)))) (lNil)))))) (sSeq (sAsg (eCall d_best_move (lCons (eVar 0) (lCons (e2 idxD (eVar 2) (e1 negD (eC (.int 1)))) (lNil)))) (gTup [gName 3, gName 4, gName 5])) (sAppend 2 (eCall d_moved_thing (lCons (e2 idxD (eVar 2) (e1 negD (eC (.int 1)))) (lCons (eVar 4) (lCons (eVar 5) (lNil))))))) N [some nB, some o, some (.list ((acc ++ [l]).map nT)), x3, x4, x5] S
      = some (.nx [some nB, some o, some (.list ((acc ++ obm T k l).map nT)), y3, y4, y5], S) := by
  subst hB
  intro k
  induction k with
  | zero =>
    intro l acc N x3 x4 x5 o ho hk hN hs
    obtain ⟨N, rfl⟩ : ∃ M, N = M + 1 := ⟨N - 1, by omega⟩
    have z : stillB T l = true := by
      apply Classical.byContradiction
      intro z
      obtain ⟨p, _, _, _, _, h5⟩ := next_of z
      omega
    refine ⟨x3, x4, x5, ?_⟩
    have eL : ∀ S, idxD (.list ((acc ++ [l]).map nT)) (.int (-1)) S = some (nT l, S) := fun S => by rw [List.map_append, List.map_singleton]; exact run_lastL
    rw [whileD_succ]
    simp only [run_tNot, run_tB, run_call, run_lcons, run_lnil, run_var, List.getElem?_cons_succ, List.getElem?_cons_zero, Option.bind_some, Option.map_some, run_2, run_1, run_c, run_neg, eL, run_still ho, z, boolOf_bool]
    rfl
  | succ k ih =>
    intro l acc N x3 x4 x5 o ho hk hN hs
    obtain ⟨N, rfl⟩ : ∃ M, N = M + 1 := ⟨N - 1, by omega⟩
    unfold obm
    by_cases z : stillB T l = true
    · refine ⟨x3, x4, x5, ?_⟩
      rw [if_pos z]
      have eL : ∀ S, idxD (.list ((acc ++ [l]).map nT)) (.int (-1)) S = some (nT l, S) := fun S => by rw [List.map_append, List.map_singleton]; exact run_lastL
      rw [whileD_succ]
      simp only [run_tNot, run_tB, run_call, run_lcons, run_lnil, run_var, List.getElem?_cons_succ, List.getElem?_cons_zero, Option.bind_some, Option.map_some, run_2, run_1, run_c, run_neg, eL, run_still ho, z, boolOf_bool]
      rfl
    · rw [if_neg z]
      obtain ⟨p, h1, h2, h3, h4, h5⟩ := next_of z
      have ho' : Od n (nextO T l) := by rw [h2]; exact mv_od ho h3
      obtain ⟨y3, y4, y5, ih⟩ := ih (nextO T l) (acc ++ [l]) N (some (nI p.1)) (some (nI p.2.1)) (some (nI p.2.2)) o ho' (by omega) (by omega) (by simp; omega)
      refine ⟨y3, y4, y5, ?_⟩
      rw [whileD_succ]
      have z' : stillB T l = false := by simpa using z
      have eL : ∀ S, idxD (.list ((acc ++ [l]).map nT)) (.int (-1)) S = some (nT l, S) := fun S => by rw [List.map_append, List.map_singleton]; exact run_lastL
      have hap : ∀ ρ : DL.Env, ρ[2]? = some (some (.list ((acc ++ [l]).map nT))) → ρ[4]? = some (some (nI p.2.1)) → ρ[5]? = some (some (nI p.2.2)) → sAppend 2 (eCall d_moved_thing (lCons (e2 idxD (eVar 2) (e1 negD (eC (.int 1)))) (lCons (eVar 4) (lCons (eVar 5) (lNil))))) ρ S = some (.nx (ρ.set 2 (some (.list ((acc ++ [l]).map nT ++ [nT (nextO T l)])))), S) := fun ρ h6 h7 h8 => by
        refine run_append ?_ h6 ?_
        · simp only [run_call, run_lcons, run_lnil, run_var, run_2, run_1, run_c, run_neg, h6, h7, h8, Option.bind_some, Option.map_some, eL, run_moved (x := l[p.2.1]) ho.len (List.getElem?_eq_getElem h3), h2]
        · have : 100000 < sizeLine := by decide
          simp
          omega
      simp only [run_tNot, run_tB, run_call, run_lcons, run_lnil, run_var, List.getElem?_cons_succ, List.getElem?_cons_zero, Option.bind_some, Option.map_some, run_2, run_1, run_c, run_neg, eL, run_still ho, z', boolOf_bool, Bool.not_false, ↓reduceIte, run_seq, run_asg, run_bestMove ho, h1, encO, enc3, run_gTup, run_gAll, run_gAll0, run_gName, List.set_cons_succ, List.set_cons_zero, seqO_nx]
      rw [hap _ rfl rfl rfl]
      simp only [Option.bind_some, loopO_nx, List.set_cons_succ, List.set_cons_zero]
      have e : (acc ++ [l]).map nT ++ [nT (nextO T l)] = ((acc ++ [l]) ++ [nextO T l]).map nT := by simp
      rw [e, ih]
      simp
theorem run_obm (ho : Od n l) {k : Nat} (hk : ct T l ≤ k) (hk2 : k ≤ 10000) : d_orders_by_moves [encB n T, nT l] S = some (.tuple ((obm T k l).map nT), S) := by
  unfold d_orders_by_moves
  rw [run_def (by rfl)]
  show ((b_orders_by_moves) [some (encB n T), some (nT l), none, none, none, none] S).bind _ = _
  unfold b_orders_by_moves
  obtain ⟨y3, y4, y5, hw⟩ := while_obm (n := n) (T := T) (S := S) rfl k l [] 1000000 none none none (nT l) ho hk (by omega) (by simp; omega)
  have hf : fit [nT l].length = true := rfl
  have hi : immAll ((obm T k l).map nT) = true := immAll_map fun z _ => imm_nT z
  rw [List.nil_append, List.nil_append, List.map_singleton] at hw
  simp only [run_seq, run_asg, run_lst, run_lcons, run_lnil, run_imm, run_var, List.getElem?_cons_succ, List.getElem?_cons_zero, Option.bind_some, Option.map_some, imm_nT, ↓reduceIte, hf, run_gName, List.set_cons_succ, List.set_cons_zero, seqO_nx, run_while, hw, run_ret, run_1, run_tuple, seqOf_list, hi, Bool.or_true, Bool.not_true, end_rt]
theorem run_stillOrder (ho : Od n l) {k : Nat} (hk : ct T l ≤ k) (hk2 : k ≤ 10000) {pre : List (List Nat)} {z : List Nat} (e : obm T k l = pre ++ [z]) : d_still_order [encB n T, nT l] S = some (nT z, S) := by
  unfold d_still_order
  rw [run_def (by rfl)]
  show ((b_still_order) [some (encB n T), some (nT l)] S).bind _ = _
  unfold b_still_order
  have h1 := run_obm (S := S) ho hk hk2
  rw [e, List.map_append, List.map_singleton] at h1
  simp only [run_ret, run_imm, run_2, run_1, run_call, run_lcons, run_lnil, run_var, List.getElem?_cons_succ, List.getElem?_cons_zero, Option.bind_some, Option.map_some, h1, run_c, run_neg, run_lastT, imm_nT, ↓reduceIte, end_rt]
end K91

/-! P91e: the law's own defs: drawn beats, halves, moves. -/
namespace K91
open PySem DL
variable {n : Nat} {T : Nat → Nat → Bool} {l : List Nat} {S : Src}
theorem picks : Picks d_law_pick := picksA
theorem run_row (hn : n ≤ 100) : ∃ o S', d_law_row [.int n] S = some (nT o, S') ∧ o.Perm (List.range n) := law_row (m := d_law_pick) picks (by omega)
def trowL (n : Nat) (f : Nat → Nat → Int) (a : Nat) : D := .list ((List.range n).map fun b => .int (f a b))
def tabL (n : Nat) (f : Nat → Nat → Int) : D := .list ((List.range n).map fun a => trowL n f a)
theorem run_rows (hn : n ≤ 100) {f : Nat → Nat → Int} : d_law_rows [tabL n f] S = some (tab n f, S) := by
  unfold d_law_rows
  rw [run_def (by rfl)]
  show ((b_law_rows) [some (tabL n f), none] S).bind _ = _
  unfold b_law_rows
  have hc : compD (gName 1) (tYes) (e1 (tupleD true) (eVar 1)) [some (tabL n f), none] ((List.range n).map fun a => trowL n f a) S = some ((List.range n).map fun a => trow n f a, S) :=
    compD_all (fun a => trowL n f a) (fun a => trow n f a) _ fun a _ => ⟨[some (tabL n f), some (trowL n f a)], rfl, rfl, by
      have : immAll ((List.range n).map fun b => PyData.int (f a b)) = true := immAll_map fun _ _ => imm_int
      simp [trowL, trow, this]⟩
  have hf : fit ((List.range n).map fun a => trow n f a).length = true := fit_of (by simp; omega)
  have hi : immAll ((List.range n).map fun a => trow n f a) = true := immAll_map fun _ _ => imm_trow
  have hs : seqOf (tabL n f) = some ((List.range n).map fun a => trowL n f a) := rfl
  simp only [run_ret, run_1, run_comp, run_wSeq, run_var, List.getElem?_cons_succ, List.getElem?_cons_zero, Option.bind_some, Option.map_some, hs, kill_cons, kill_nil, List.set_cons_succ, List.set_cons_zero, hc, hf, ↓reduceIte, run_tuple, seqOf_list, hi, Bool.or_true, Bool.not_true, end_rt]
  rfl
def updF (f : Nat → Nat → Int) (a b : Nat) : Nat → Nat → Int := fun x y => if x = a ∧ y = b then 1 else f x y
theorem set_map {α : Type} {f g : Nat → α} {n a : Nat} (h : ∀ x, x ≠ a → g x = f x) (ha : a < n) : ((List.range n).map f).set a (g a) = (List.range n).map g := by
  apply List.ext_getElem?
  intro i
  by_cases hi : i < n
  · by_cases e : a = i
    · subst e
      rw [List.getElem?_set_self (by simpa using ha)]
      simp [hi]
    · rw [List.getElem?_set_ne e]
      simp [hi, h i (Ne.symm e)]
  · rw [List.getElem?_eq_none (by simp; omega), List.getElem?_eq_none (by simp; omega)]
theorem set_tabL {f : Nat → Nat → Int} {a b : Nat} (ha : a < n) (hb : b < n) : PyData.list (((List.range n).map fun a => trowL n f a).set a (.list (((List.range n).map fun b => PyData.int (f a b)).set b (.int 1)))) = tabL n (updF f a b) := by
  unfold tabL
  congr 1
  have e : PyData.list (((List.range n).map fun b => PyData.int (f a b)).set b (.int 1)) = trowL n (updF f a b) a := by
    unfold trowL
    congr 1
    have := set_map (f := fun y => PyData.int (f a y)) (g := fun y => PyData.int (updF f a b a y)) (n := n) (a := b) (fun y hy => by simp [updF, hy]) hb
    rw [← this]
    simp [updF]
  rw [e]
  exact set_map (f := fun x => trowL n f x) (g := fun x => trowL n (updF f a b) x) (fun x hx => by simp [trowL, updF, hx]) ha
theorem run_zero (hn : n ≤ 100) : mulD (.list [.int 0]) (.int n) S = some (trowL n (fun _ _ => 0) 0, S) := by
  show (chk _ >>= _) S = _
  have hx : (decide ((n : Int).natAbs < 2 ^ 63) && fit (([PyData.int 0] : List D).length * (n : Int).toNat) && immAll [PyData.int 0]) = true := by
    have h1 : decide ((n : Int).natAbs < 2 ^ 63) = true := decide_eq_true (by omega)
    have h2 : fit (([PyData.int 0] : List D).length * (n : Int).toNat) = true := fit_of (by simp; omega)
    rw [h1, h2]
    rfl
  rw [mbind, chk_run, if_pos hx]
  show some (PyData.list _, S) = _
  unfold trowL
  congr 3
  have : (n : Int).toNat = n := by simp
  rw [this]
  clear hx this hn
  induction n with
  | zero => rfl
  | succ n ih => rw [List.replicate_succ, List.flatten_cons, ih, List.range_succ_eq_map, List.map_cons, List.map_map]; rfl
/-- the drawn order by places -/
structure Pm (n : Nat) (o : List Nat) : Prop where
  p : o.Perm (List.range n)
def wh (o : List Nat) (x : Nat) : Nat := o.getD x 0
theorem Pm.len {o : List Nat} (h : Pm n o) : o.length = n := by rw [h.p.length_eq, List.length_range]
theorem Pm.get {o : List Nat} (h : Pm n o) {x : Nat} (hx : x < n) : o[x]? = some (wh o x) := by
  have := h.len
  unfold wh
  simp [List.getD, show x < o.length by omega]
theorem Pm.lt {o : List Nat} (h : Pm n o) {x : Nat} (hx : x < n) : wh o x < n := List.mem_range.mp (h.p.mem_iff.mp (List.mem_of_getElem? (h.get hx)))
theorem Pm.nodup {o : List Nat} (h : Pm n o) : o.Nodup := h.p.nodup_iff.mpr List.nodup_range
theorem Pm.inj {o : List Nat} (h : Pm n o) {x y : Nat} (hx : x < n) (hy : y < n) (e : wh o x = wh o y) : x = y := by
  have h1 := h.get hx
  have h2 := h.get hy
  rw [e, ← h2] at h1
  exact (List.getElem?_inj (by rw [h.len]; exact hx) h.nodup).mp h1
theorem Pm.sur {o : List Nat} (h : Pm n o) {a : Nat} (ha : a < n) : ∃ x, x < n ∧ wh o x = a := by
  have hm := h.p.mem_iff.mpr (List.mem_range.mpr ha)
  obtain ⟨x, hx⟩ := List.getElem?_of_mem hm
  have hl := (List.getElem?_eq_some_iff.mp hx).1
  rw [h.len] at hl
  have := h.get hl
  rw [this] at hx
  exact ⟨x, hl, Option.some.inj hx⟩
def stepB : SF := (sSeq (sAsg (eIf (tB (e2 (eqD false) (eVar 3) (eC (.int 0)))) (e2 (eqD false) (eCallM d_law_pick (lCons (eC (.int 2)) (lNil))) (eC (.int 0))) (e2 (cmD .gt) (eCallM d_law_pick (lCons (eC (.int 5)) (lNil))) (eC (.int 0)))) (gName 7)) (sSeq (sAsg (eIf (tB (e2 (eqD false) (eVar 3) (eC (.int 2)))) (e2 (cmD .lt) (e2 mulD (eC (.int 2)) (e2 subD (eVar 6) (eVar 5))) (eVar 1)) (eVar 7)) (gName 7)) (sSeq (sAsg (eIf (tB (eVar 7)) (eTup (lCons (eImm (e2 idxD (eVar 2) (eVar 5))) (lCons (eImm (e2 idxD (eVar 2) (eVar 6))) (lNil)))) (eTup (lCons (eImm (e2 idxD (eVar 2) (eVar 6))) (lCons (eImm (e2 idxD (eVar 2) (eVar 5))) (lNil))))) (gTup [gName 8, gName 9])) (sSetIx2 4 (eVar 8) (eVar 9) (eC (.int 1))))))
theorem step_run {o : List Nat} (h : Pm n o) {i j : Nat} (hi : i < n) (hj : j < n) {way : Int} {f : Nat → Nat → Int} (x7 x8 x9 : Option D) (S : Src) : ∃ (c : Bool) (y7 y8 y9 : Option D) (S' : Src),
    stepB [none, some (nI n), some (nT o), some (.int way), some (tabL n f), some (nI i), some (nI j), x7, x8, x9] S = some (.nx [none, some (nI n), some (nT o), some (.int way), some (tabL n (if c = true then updF f (wh o i) (wh o j) else updF f (wh o j) (wh o i))), some (nI i), some (nI j), y7, y8, y9], S') := by
  obtain ⟨c1, S1, hc1⟩ : ∃ (c : Bool) (S1 : Src), (eIf (tB (e2 (eqD false) (eVar 3) (eC (.int 0)))) (e2 (eqD false) (eCallM d_law_pick (lCons (eC (.int 2)) (lNil))) (eC (.int 0))) (e2 (cmD .gt) (eCallM d_law_pick (lCons (eC (.int 5)) (lNil))) (eC (.int 0)))) [none, some (nI n), some (nT o), some (.int way), some (tabL n f), some (nI i), some (nI j), x7, x8, x9] S = some (.bool c, S1) := by
    obtain ⟨k, _, S2, e2⟩ := picks 2 S (by omega) (by omega)
    obtain ⟨k', _, S3, e3⟩ := picks 5 S (by omega) (by omega)
    have e2 : d_law_pick [.int 2] S = some (.int k, S2) := e2
    have e3 : d_law_pick [.int 5] S = some (.int k', S3) := e3
    simp only [run_if, run_tB, run_2, run_var, List.getElem?_cons_succ, List.getElem?_cons_zero, Option.bind_some, Option.map_some, run_c, run_eqI, boolOf_bool, run_callM, run_lcons, run_lnil, e2, e3, run_cm, Bool.false_eq_true, ↓reduceIte]
    split
    · exact ⟨_, _, rfl⟩
    · exact ⟨_, _, rfl⟩
  obtain ⟨c2, hc2⟩ : ∃ c : Bool, (eIf (tB (e2 (eqD false) (eVar 3) (eC (.int 2)))) (e2 (cmD .lt) (e2 mulD (eC (.int 2)) (e2 subD (eVar 6) (eVar 5))) (eVar 1)) (eVar 7)) [none, some (nI n), some (nT o), some (.int way), some (tabL n f), some (nI i), some (nI j), some (.bool c1), x8, x9] S1 = some (.bool c, S1) := by
    simp only [run_if, run_tB, run_2, run_var, List.getElem?_cons_succ, List.getElem?_cons_zero, Option.bind_some, Option.map_some, run_c, run_eqI, boolOf_bool, run_sub, run_mul (.inl small2), run_cm, Bool.false_eq_true, ↓reduceIte]
    split
    · exact ⟨_, rfl⟩
    · exact ⟨_, rfl⟩
  have hf : fit 2 = true := by decide
  have hti : seqOf (tabL n f) = some ((List.range n).map fun a => trowL n f a) := rfl
  have set : ∀ (a b : Nat), a < n → b < n → ∀ ρ : DL.Env, ρ[4]? = some (some (tabL n f)) → ρ[8]? = some (some (nI a)) → ρ[9]? = some (some (nI b)) → sSetIx2 4 (eVar 8) (eVar 9) (eC (.int 1)) ρ S1 = some (.nx (ρ.set 4 (some (tabL n (updF f a b)))), S1) := fun a b ha hb ρ h4 h8 h9 => by
    rw [run_setIx2 (v := .int 1) (S1 := S1) (S2 := S1) (S3 := S1) (xs := (List.range n).map fun a => trowL n f a) (ys := (List.range n).map fun b => PyData.int (f a b)) (i := a) (j := b) (k := a) (l := b) rfl (by rw [run_var, h8]; rfl) (by rw [run_var, h9]; rfl) h4 (ixD_nat (by simpa using ha)) (by simp [ha]; rfl) (ixD_nat (by simpa using hb)), set_tabL ha hb]
  unfold stepB
  rw [run_seq, run_asg, hc1]
  simp only [Option.bind_some, run_gName, List.set_cons_succ, List.set_cons_zero, seqO_nx]
  rw [run_seq, run_asg, hc2]
  simp only [Option.bind_some, run_gName, List.set_cons_succ, List.set_cons_zero, seqO_nx]
  cases c2 with
  | true =>
    refine ⟨true, some (.bool true), some (nI (wh o i)), some (nI (wh o j)), S1, ?_⟩
    simp only [run_seq, run_asg, run_if, run_tB, run_2, run_var, List.getElem?_cons_succ, List.getElem?_cons_zero, Option.bind_some, Option.map_some, boolOf_bool, ↓reduceIte, run_tup, run_lcons, run_lnil, run_imm, run_idx_nT (h.get hi), run_idx_nT (h.get hj), imm_int, List.length_cons, List.length_nil, hf, run_gTup, run_gAll, run_gAll0, run_gName, List.set_cons_succ, List.set_cons_zero, seqO_nx]
    rw [set _ _ (h.lt hi) (h.lt hj) _ rfl rfl rfl]
    rfl
  | false =>
    refine ⟨false, some (.bool false), some (nI (wh o j)), some (nI (wh o i)), S1, ?_⟩
    simp only [run_seq, run_asg, run_if, run_tB, run_2, run_var, List.getElem?_cons_succ, List.getElem?_cons_zero, Option.bind_some, Option.map_some, boolOf_bool, Bool.false_eq_true, ↓reduceIte, run_tup, run_lcons, run_lnil, run_imm, run_idx_nT (h.get hi), run_idx_nT (h.get hj), imm_int, List.length_cons, List.length_nil, hf, run_gTup, run_gAll, run_gAll0, run_gName, List.set_cons_succ, List.set_cons_zero, seqO_nx]
    rw [set _ _ (h.lt hj) (h.lt hi) _ rfl rfl rfl]
    rfl
/-- what is set when the pairs before (i, j) are done -/
structure Done (n : Nat) (o : List Nat) (f : Nat → Nat → Int) (i j : Nat) : Prop where
  irr : ∀ a, a < n → f a a = 0
  did : ∀ x y, x < y → y < n → (x < i ∨ (x = i ∧ y < j)) → (f (wh o x) (wh o y) = 1 ∧ f (wh o y) (wh o x) = 0) ∨ (f (wh o x) (wh o y) = 0 ∧ f (wh o y) (wh o x) = 1)
  not : ∀ x y, x < y → y < n → ¬ (x < i ∨ (x = i ∧ y < j)) → f (wh o x) (wh o y) = 0 ∧ f (wh o y) (wh o x) = 0
theorem Done.step {o : List Nat} (h : Pm n o) {f : Nat → Nat → Int} {i j : Nat} (hij : i < j) (hj : j < n) (d : Done n o f i j) (c : Bool) : Done n o (if c = true then updF f (wh o i) (wh o j) else updF f (wh o j) (wh o i)) i (j + 1) := by
  have key : ∀ a b x y, a < n → b < n → x < n → y < n → updF f (wh o a) (wh o b) (wh o x) (wh o y) = if x = a ∧ y = b then 1 else f (wh o x) (wh o y) := by
    intro a b x y ha hb hx hy
    unfold updF
    by_cases e : x = a ∧ y = b
    · rw [if_pos e, if_pos ⟨by rw [e.1], by rw [e.2]⟩]
    · rw [if_neg e, if_neg fun z => e ⟨h.inj hx ha z.1, h.inj hy hb z.2⟩]
  have hi : i < n := by omega
  refine ⟨fun a ha => ?_, fun x y hxy hy hd => ?_, fun x y hxy hy hd => ?_⟩
  · obtain ⟨x, hx, rfl⟩ := h.sur ha
    cases c
    · rw [if_neg (by simp), key j i x x hj hi hx hx, if_neg (by omega)]
      exact d.irr _ (h.lt hx)
    · rw [if_pos rfl, key i j x x hi hj hx hx, if_neg (by omega)]
      exact d.irr _ (h.lt hx)
  · have hx : x < n := by omega
    by_cases e : x = i ∧ y = j
    · obtain ⟨rfl, rfl⟩ := e
      have z := d.not x y hxy hy (by omega)
      cases c
      · rw [if_neg (by simp), key y x x y hj hi hx hy, key y x y x hj hi hy hx, if_neg (by omega), if_pos ⟨rfl, rfl⟩]
        exact .inr ⟨z.1, rfl⟩
      · rw [if_pos rfl, key x y x y hi hj hx hy, key x y y x hi hj hy hx, if_pos ⟨rfl, rfl⟩, if_neg (by omega)]
        exact .inl ⟨rfl, z.2⟩
    · have z := d.did x y hxy hy (by omega)
      cases c
      · rw [if_neg (by simp), key j i x y hj hi hx hy, key j i y x hj hi hy hx, if_neg (by omega), if_neg (by omega)]
        exact z
      · rw [if_pos rfl, key i j x y hi hj hx hy, key i j y x hi hj hy hx, if_neg (by omega), if_neg (by omega)]
        exact z
  · have hx : x < n := by omega
    have z := d.not x y hxy hy (by omega)
    cases c
    · rw [if_neg (by simp), key j i x y hj hi hx hy, key j i y x hj hi hy hx, if_neg (by omega), if_neg (by omega)]
      exact z
    · rw [if_pos rfl, key i j x y hi hj hx hy, key i j y x hi hj hy hx, if_neg (by omega), if_neg (by omega)]
      exact z
theorem Done.next {o : List Nat} {f : Nat → Nat → Int} {i j : Nat} (hj : n ≤ j) (d : Done n o f i j) : Done n o f (i + 1) (i + 2) := ⟨d.irr, fun x y h1 h2 h3 => d.did x y h1 h2 (by omega), fun x y h1 h2 h3 => d.not x y h1 h2 (by omega)⟩
theorem range'_split {a m x : Nat} {pre suf : List Nat} (h : List.range' a m = pre ++ x :: suf) : x = a + pre.length ∧ pre.length < m := by
  have hl : pre.length < m := by
    have := congrArg List.length h
    simp at this
    omega
  have h1 : (List.range' a m)[pre.length]? = some x := by rw [h]; simp
  rw [List.getElem?_range' hl] at h1
  have := Option.some.inj h1
  exact ⟨by omega, hl⟩
theorem run_beats (hn : n ≤ 100) (S : Src) : ∃ (T : Nat → Nat → Bool) (S' : Src), Tour n T ∧ d_law_beats [nI n] S = some (encB n T, S') := by
  obtain ⟨o, S1, e1, hp⟩ := run_row (S := S) hn
  have h : Pm n o := ⟨hp⟩
  obtain ⟨way, _, S2, ep⟩ := picks 3 S1 (by omega) (by omega)
  have ep : d_law_pick [.int 3] S1 = some (.int way, S2) := ep
  have hr := rng62_nat (n := n) (by omega)
  have hz : compD (gName 8) (tYes) (e2 mulD (eLst (lCons (eC (.int 0)) (lNil))) (eVar 1)) [none, some (nI n), none, none, none, none, none, none, none, none] ((List.range n).map fun i => nI i) S2 = some ((List.range n).map fun _ => trowL n (fun _ _ => 0) 0, S2) :=
    compD_all (fun i => nI i) (fun _ => trowL n (fun _ _ => 0) 0) _ fun i _ => ⟨[none, some (nI n), none, none, none, none, none, none, some (nI i), none], rfl, rfl, by
      have hf : fit 1 = true := by decide
      simp only [run_2, run_lst, run_lcons, run_lnil, run_c, Option.bind_some, List.length_cons, List.length_nil, hf, ↓reduceIte, run_var, List.getElem?_cons_succ, List.getElem?_cons_zero, Option.map_some, run_zero hn]⟩
  -- the inner loop
  have inner : ∀ i, i < n → ∀ (f : Nat → Nat → Int) (x6 x7 x8 x9 : Option D) (S : Src), Done n o f i (i + 1) → ∃ (g : Nat → Nat → Int) (y6 y7 y8 y9 : Option D) (S' : Src), Done n o g (i + 1) (i + 2) ∧
      (sFor (wRange2 (e2 (addD true) (eVar 5) (eC (.int 1))) (eVar 1)) (gName 6) stepB) [none, some (nI n), some (nT o), some (.int way), some (tabL n f), some (nI i), x6, x7, x8, x9] S = some (.nx [none, some (nI n), some (nT o), some (.int way), some (tabL n g), some (nI i), y6, y7, y8, y9], S') := by
    intro i hi f x6 x7 x8 x9 S d
    obtain ⟨ρ', S', h1, g, y6, y7, y8, y9, rfl, hd⟩ := forD_inv (b := turnD (gName 6) stepB) (fun j : Nat => nI j)
      (fun pre ρ S' => ∃ (g : Nat → Nat → Int) (y6 y7 y8 y9 : Option D), ρ = [none, some (nI n), some (nT o), some (.int way), some (tabL n g), some (nI i), y6, y7, y8, y9] ∧ Done n o g i (i + 1 + pre.length)) (List.range' (i + 1) (n - (i + 1)))
      (fun pre j suf ρ S' e hh => by
        obtain ⟨g, y6, y7, y8, y9, rfl, hd⟩ := hh
        obtain ⟨rfl, hl⟩ := range'_split e
        obtain ⟨c, z7, z8, z9, S3, hs⟩ := step_run (n := n) h hi (show i + 1 + pre.length < n by omega) (way := way) (f := g) y7 y8 y9 S'
        refine ⟨_, S3, .inl ?_, if c = true then updF g (wh o i) (wh o (i + 1 + pre.length)) else updF g (wh o (i + 1 + pre.length)) (wh o i), some (nI (i + 1 + pre.length)), z7, z8, z9, rfl, ?_⟩
        · rw [run_turn, run_gName]
          exact hs
        · rw [List.length_append]
          exact Done.step h (by omega) (by omega) hd c) [] (List.range' (i + 1) (n - (i + 1))) rfl [none, some (nI n), some (nT o), some (.int way), some (tabL n f), some (nI i), x6, x7, x8, x9] S ⟨f, x6, x7, x8, x9, rfl, d⟩
    rw [List.length_range'] at hd
    refine ⟨g, y6, y7, y8, y9, S', hd.next (by omega), ?_⟩
    have hr1 := rng62_nat (n := i + 1) (by omega)
    have er := rng_nat2 (i + 1) n
    have hr1' : rng62 ((i : Int) + 1) = true := hr1
    have er' : rngD ((i : Int) + 1) n = (List.range' (i + 1) (n - (i + 1))).map fun i => nI i := er
    simp only [run_for, run_wRange2, run_2, run_var, List.getElem?_cons_succ, List.getElem?_cons_zero, Option.bind_some, Option.map_some, run_c, run_add, intOf_int, hr1', hr, Bool.and_self, ↓reduceIte, er', h1]
  obtain ⟨ρ', S', h1, g, y5, y6, y7, y8, y9, rfl, hd⟩ := forD_inv (b := turnD (gName 5) (sFor (wRange2 (e2 (addD true) (eVar 5) (eC (.int 1))) (eVar 1)) (gName 6) stepB)) (fun j : Nat => nI j)
    (fun pre ρ S' => ∃ (g : Nat → Nat → Int) (y5 y6 y7 y8 y9 : Option D), ρ = [none, some (nI n), some (nT o), some (.int way), some (tabL n g), y5, y6, y7, y8, y9] ∧ Done n o g pre.length (pre.length + 1)) (List.range n)
    (fun pre i suf ρ S' e hh => by
      obtain ⟨g, y5, y6, y7, y8, y9, rfl, hd⟩ := hh
      obtain ⟨rfl, hi⟩ := range_split e
      rw [List.length_range] at hd
      obtain ⟨f, z6, z7, z8, z9, S3, d3, e3⟩ := inner i hi g y6 y7 y8 y9 S' hd
      refine ⟨_, S3, .inl ?_, f, some (nI i), z6, z7, z8, z9, rfl, by rw [List.length_append, List.length_range]; exact d3⟩
      rw [run_turn, run_gName]
      exact e3) [] (List.range n) rfl [none, some (nI n), some (nT o), some (.int way), some (tabL n fun _ _ => 0), none, none, none, none, none] S2
      ⟨fun _ _ => 0, none, none, none, none, none, rfl, fun _ _ => rfl, fun x y _ _ z => absurd z (by simp; omega), fun _ _ _ _ _ => ⟨rfl, rfl⟩⟩
  rw [List.length_range] at hd
  have hv : ∀ a b, a < n → b < n → a ≠ b → (g a b = 1 ∧ g b a = 0) ∨ (g a b = 0 ∧ g b a = 1) := by
    intro a b ha hb hne
    obtain ⟨x, hx, rfl⟩ := h.sur ha
    obtain ⟨y, hy, rfl⟩ := h.sur hb
    rcases Nat.lt_trichotomy x y with z | z | z
    · exact hd.did x y z hy (.inl hx)
    · exact absurd (by rw [z]) hne
    · rcases hd.did y x z hx (.inl hy) with q | q
      · exact .inr ⟨q.2, q.1⟩
      · exact .inl ⟨q.2, q.1⟩
  have hbit : ∀ a b, a < n → b < n → g a b = bit (decide (g a b = 1)) := by
    intro a b ha hb
    by_cases e : a = b
    · subst e
      rw [hd.irr a ha]
      rfl
    · rcases hv a b ha hb e with q | q <;> rw [q.1] <;> rfl
  refine ⟨fun a b => decide (g a b = 1), S', ⟨fun a ha => by rw [hd.irr a ha]; rfl, fun a b ha hb hne => ?_⟩, ?_⟩
  · rcases hv a b ha hb hne with q | q <;> rw [q.1, q.2] <;> rfl
  · have et : tab n g = encB n (fun a b => decide (g a b = 1)) := by
      unfold tab
      congr 1
      apply List.map_congr_left
      intro a ha
      unfold trow
      congr 1
      apply List.map_congr_left
      intro b hb
      exact congrArg PyData.int (hbit a b (List.mem_range.mp ha) (List.mem_range.mp hb))
    rw [← et]
    unfold d_law_beats
    rw [run_defS (by rfl)]
    show ((b_law_beats) [none, some (nI n), none, none, none, none, none, none, none, none] S).bind _ = _
    unfold b_law_beats
    have hf : fit ((List.range n).map fun _ => trowL n (fun _ _ => 0) 0).length = true := fit_of (by simp; omega)
    have e1' : d_law_row [nI n] S = some (nT o, S1) := e1
    have e0 : PyData.list ((List.range n).map fun _ => trowL n (fun _ _ => 0) 0) = tabL n (fun _ _ => 0) := rfl
    have h3 : ((3 : Nat) == 3) = true := rfl
    simp only [run_seq, run_par, run_lcons, run_lnil, run_callM, run_var, List.getElem?_cons_succ, List.getElem?_cons_zero, Option.bind_some, Option.map_some, e1', run_c, ep, run_comp, run_wRange1, intOf_int, hr, ↓reduceIte, rng_nat, kill_cons, kill_nil, List.set_cons_succ, List.set_cons_zero, hz, hf, List.length_cons, List.length_nil, h3, e0, setAll_cons, setAll_nil, seqO_nx]
    rw [show (sFor (wRange1 (eVar 1)) (gName 5) (sFor (wRange2 (e2 (addD true) (eVar 5) (eC (.int 1))) (eVar 1)) (gName 6) (sSeq (sAsg (eIf (tB (e2 (eqD false) (eVar 3) (eC (.int 0)))) (e2 (eqD false) (eCallM d_law_pick (lCons (eC (.int 2)) (lNil))) (eC (.int 0))) (e2 (cmD .gt) (eCallM d_law_pick (lCons (eC (.int 5)) (lNil))) (eC (.int 0)))) (gName 7)) (sSeq (sAsg (eIf (tB (e2 (eqD false) (eVar 3) (eC (.int 2)))) (e2 (cmD .lt) (e2 mulD (eC (.int 2)) (e2 subD (eVar 6) (eVar 5))) (eVar 1)) (eVar 7)) (gName 7)) (sSeq (sAsg (eIf (tB (eVar 7)) (eTup (lCons (eImm (e2 idxD (eVar 2) (eVar 5))) (lCons (eImm (e2 idxD (eVar 2) (eVar 6))) (lNil)))) (eTup (lCons (eImm (e2 idxD (eVar 2) (eVar 6))) (lCons (eImm (e2 idxD (eVar 2) (eVar 5))) (lNil))))) (gTup [gName 8, gName 9])) (sSetIx2 4 (eVar 8) (eVar 9) (eC (.int 1)))))))) = sFor (wRange1 (eVar 1)) (gName 5) (sFor (wRange2 (e2 (addD true) (eVar 5) (eC (.int 1))) (eVar 1)) (gName 6) stepB) from rfl]
    rw [run_for]
    simp only [run_wRange1, run_var, List.getElem?_cons_succ, List.getElem?_cons_zero, Option.bind_some, Option.map_some, intOf_int, hr, ↓reduceIte, rng_nat]
    rw [h1]
    simp only [Option.bind_some, seqO_nx, run_ret, run_call, run_lcons, run_lnil, run_var, List.getElem?_cons_succ, List.getElem?_cons_zero, Option.map_some, run_rows hn, end_rt]
end K91

/-! P91f: the law's halves, moves. -/
namespace K91
open PySem DL
variable {n : Nat} {T : Nat → Nat → Bool} {l : List Nat} {S : Src}
/-- a loop that returns False at the first that is not so -/
theorem loop_all {α σ : Type} {b : D → SF} (enc : α → D) (ρ0 : σ → DL.Env) (p : α → Bool) : ∀ (ks : List α), (∀ k ∈ ks, ∀ x S, (p k = true → ∃ y, b (enc k) (ρ0 x) S = some (.nx (ρ0 y), S)) ∧ (p k = false → b (enc k) (ρ0 x) S = some (.rt (.bool false), S))) →
    ∀ x S, (ks.all p = true → ∃ y, forD b (ks.map enc) (ρ0 x) S = some (.nx (ρ0 y), S)) ∧ (ks.all p = false → forD b (ks.map enc) (ρ0 x) S = some (.rt (.bool false), S))
  | [], _, x, S => ⟨fun _ => ⟨x, rfl⟩, fun h => nomatch h⟩
  | k :: ks, h, x, S => by
    obtain ⟨h1, h2⟩ := h k (by simp) x S
    have ih := loop_all enc ρ0 p ks fun k hk => h k (by simp [hk])
    rw [List.map_cons, forD_cons, List.all_cons]
    cases hp : p k with
    | true =>
      obtain ⟨y, h1⟩ := h1 hp
      rw [h1]
      exact ih y S
    | false =>
      rw [h2 hp]
      exact ⟨fun z => absurd z (by simp), fun _ => rfl⟩
def hp1 (T : Nat → Nat → Bool) (l : List Nat) (i x k : Nat) : Bool := decide (k ≤ 2 * ((l.drop (i + 1)).take k).countP fun b => T x b)
def hp2 (T : Nat → Nat → Bool) (l : List Nat) (i x k : Nat) : Bool := decide (k ≤ 2 * ((l.drop (i - k)).take k).countP fun b => T b x)
def halfB (T : Nat → Nat → Bool) (l : List Nat) : Bool := (l.zipIdx 0).all fun p => (List.range' 1 (l.length - p.2 - 1)).all (hp1 T l p.2 p.1) && (List.range' 1 p.2).all (hp2 T l p.2 p.1)
theorem halfB_iff : halfB T l = true ↔ Half T l := by
  unfold halfB Half
  rw [List.all_eq_true]
  constructor
  · intro h i x hx
    have hm : (x, i) ∈ l.zipIdx 0 := List.mem_iff_getElem?.mpr ⟨i, by rw [List.getElem?_zipIdx, hx]; simp⟩
    obtain ⟨h1, h2⟩ := Bool.and_eq_true_iff.mp (h _ hm)
    rw [List.all_eq_true] at h1 h2
    refine ⟨fun k h3 h4 => of_decide_eq_true (h1 k ?_), fun k h3 h4 => of_decide_eq_true (h2 k ?_)⟩
    · rw [List.mem_range'_1]
      omega
    · rw [List.mem_range'_1]
      omega
  · rintro h ⟨x, i⟩ hm
    obtain ⟨j, hj⟩ := List.mem_iff_getElem?.mp hm
    rw [List.getElem?_zipIdx] at hj
    obtain ⟨a, ha, e⟩ := Option.map_eq_some_iff.mp hj
    have e' : a = x ∧ 0 + j = i := by simpa using e
    obtain ⟨rfl, e3⟩ := e'
    have hx : l[i]? = some a := by rw [← e3, Nat.zero_add]; exact ha
    have hi := (List.getElem?_eq_some_iff.mp hx).1
    obtain ⟨h1, h2⟩ := h i a hx
    rw [Bool.and_eq_true, List.all_eq_true, List.all_eq_true]
    refine ⟨fun k hk => decide_eq_true (h1 k ?_ ?_), fun k hk => decide_eq_true (h2 k ?_ ?_)⟩ <;> rw [List.mem_range'_1] at hk <;> omega
theorem sum_comp {ρ : Option D → DL.Env} {m : List Nat} {q : Nat → Bool} {w : LF} {g : GF} {e : EF} {vs : List Nat} {x : Option D} (hw : w (ρ x) S = some (m.map fun b => nI b, S)) (hk : kill vs (ρ x) = ρ none) (hl : m.length ≤ 1000)
    (he : ∀ b ∈ m, g (nI b) (ρ none) S = some (ρ (some (nI b)), S) ∧ e (ρ (some (nI b))) S = some (.int (bit (q b)), S)) : e1 sumD (eComp vs w g tYes e) (ρ x) S = some (nI (m.countP q), S) := by
  have hc : compD g tYes e (ρ none) (m.map fun b => nI b) S = some (m.map fun b => PyData.int (bit (q b)), S) := compD_all (fun b => nI b) (fun b => PyData.int (bit (q b))) _ fun b hb => ⟨ρ (some (nI b)), (he b hb).1, rfl, (he b hb).2⟩
  have hf : fit (m.map fun b => PyData.int (bit (q b))).length = true := fit_of (by simp; omega)
  simp only [run_1, run_comp, hw, Option.bind_some, hk, hc, hf, ↓reduceIte, run_sumBits]
theorem run_mid2 {a b : Nat} {x y : Int} (hx : x = a) (hy : y = b) : sliceD true (some x) (some y) (nT l) S = some (nT ((l.drop a).take (b - a)), S) := by
  subst hx hy
  exact run_mid_nT
def halfs1 : SF := (sFor (wRange2 (eC (.int 1)) (e2 subD (e1 lenD (eVar 1)) (eVar 2))) (gName 4) (sIf (tB (e2 (cmD .lt) (e2 mulD (eC (.int 2)) (e1 sumD (eComp [5] (wSeq (eSlice true (eVar 1) (some (e2 (addD true) (eVar 2) (eC (.int 1)))) (some (e2 (addD true) (e2 (addD true) (eVar 2) (eC (.int 1))) (eVar 4))))) (gName 5) (tYes) (eImm (e2 idxD (e2 idxD (eVar 0) (eVar 3)) (eVar 5)))))) (eVar 4))) (sRet (eC (.bool false))) (sNext)))
def halfs2 : SF := (sFor (wRange2 (eC (.int 1)) (e2 (addD true) (eVar 2) (eC (.int 1)))) (gName 4) (sIf (tB (e2 (cmD .lt) (e2 mulD (eC (.int 2)) (e1 sumD (eComp [5] (wSeq (eSlice true (eVar 1) (some (e2 subD (eVar 2) (eVar 4))) (some (eVar 2)))) (gName 5) (tYes) (eImm (e2 idxD (e2 idxD (eVar 0) (eVar 5)) (eVar 3)))))) (eVar 4))) (sRet (eC (.bool false))) (sNext)))
theorem int_lt' {a : Int} {b : Nat} {c : Nat} (h : a = c) : decide (a < (b : Int)) = decide (c < b) := by
  subst h
  exact int_lt c b
theorem halfs1_run (ho : Od n l) {i a : Nat} (hi : l[i]? = some a) (x : Option D) : ((List.range' 1 (l.length - i - 1)).all (hp1 T l i a) = true → ∃ y, halfs1 [some (encB n T), some (nT l), some (nI i), some (nI a), x, none] S = some (.nx [some (encB n T), some (nT l), some (nI i), some (nI a), y, none], S)) ∧
    ((List.range' 1 (l.length - i - 1)).all (hp1 T l i a) = false → halfs1 [some (encB n T), some (nT l), some (nI i), some (nI a), x, none] S = some (.rt (.bool false), S)) := by
  have hl := ho.len
  have ha : a < n := ho.lt a (List.mem_of_getElem? hi)
  have hil := (List.getElem?_eq_some_iff.mp hi).1
  have key := loop_all (b := turnD (gName 4) (sIf (tB (e2 (cmD .lt) (e2 mulD (eC (.int 2)) (e1 sumD (eComp [5] (wSeq (eSlice true (eVar 1) (some (e2 (addD true) (eVar 2) (eC (.int 1)))) (some (e2 (addD true) (e2 (addD true) (eVar 2) (eC (.int 1))) (eVar 4))))) (gName 5) (tYes) (eImm (e2 idxD (e2 idxD (eVar 0) (eVar 3)) (eVar 5)))))) (eVar 4))) (sRet (eC (.bool false))) (sNext))) (fun k : Nat => nI k) (fun x : Option D => [some (encB n T), some (nT l), some (nI i), some (nI a), x, none]) (hp1 T l i a) (List.range' 1 (l.length - i - 1)) (fun k hk x S => by
    rw [List.mem_range'_1] at hk
    have hs := sum_comp (S := S) (ρ := fun z => [some (encB n T), some (nT l), some (nI i), some (nI a), some (nI k), z]) (m := (l.drop (i + 1)).take k) (q := fun b => T a b) (w := wSeq (eSlice true (eVar 1) (some (e2 (addD true) (eVar 2) (eC (.int 1)))) (some (e2 (addD true) (e2 (addD true) (eVar 2) (eC (.int 1))) (eVar 4))))) (g := gName 5) (e := eImm (e2 idxD (e2 idxD (eVar 0) (eVar 3)) (eVar 5))) (vs := [5]) (x := none)
      (by
        have := run_mid2 (l := l) (S := S) (a := i + 1) (b := i + 1 + k) (x := (i : Int) + 1) (y := (i : Int) + 1 + k) (by omega) (by omega)
        rw [show i + 1 + k - (i + 1) = k by omega] at this
        simp only [run_wSeq, run_eSlice, run_var, run_part, run_2, run_c, List.getElem?_cons_succ, List.getElem?_cons_zero, Option.bind_some, Option.map_some, run_add, intOf_int, this, seqOf_nT]) rfl (by simp; omega)
      (fun b hb => ⟨rfl, by
        have hb : b < n := ho.lt b (List.mem_of_mem_drop (List.mem_of_mem_take hb))
        simp only [run_imm, run_2, run_var, List.getElem?_cons_succ, List.getElem?_cons_zero, Option.bind_some, Option.map_some, run_tab ha, run_trow hb, imm_int, ↓reduceIte]⟩)
    have h2 : (2 : Int) * (((l.drop (i + 1)).take k).countP fun b => T a b : Nat) = ((2 * ((l.drop (i + 1)).take k).countP fun b => T a b : Nat) : Int) := by omega
    have hr : turnD (gName 4) (sIf (tB (e2 (cmD .lt) (e2 mulD (eC (.int 2)) (e1 sumD (eComp [5] (wSeq (eSlice true (eVar 1) (some (e2 (addD true) (eVar 2) (eC (.int 1)))) (some (e2 (addD true) (e2 (addD true) (eVar 2) (eC (.int 1))) (eVar 4))))) (gName 5) (tYes) (eImm (e2 idxD (e2 idxD (eVar 0) (eVar 3)) (eVar 5)))))) (eVar 4))) (sRet (eC (.bool false))) (sNext)) (nI k) [some (encB n T), some (nT l), some (nI i), some (nI a), x, none] S = if decide (2 * (((l.drop (i + 1)).take k).countP fun b => T a b) < k) = true then some (.rt (.bool false), S) else some (.nx [some (encB n T), some (nT l), some (nI i), some (nI a), some (nI k), none], S) := by
      rw [run_turn]
      simp only [run_gName, Option.bind_some, List.set_cons_succ, List.set_cons_zero, run_sIf, run_tB, run_2, run_c, hs, run_mul (.inl small2), run_var, List.getElem?_cons_succ, List.getElem?_cons_zero, Option.map_some, run_cm, boolOf_bool, cm_lt, int_lt' h2, run_ret, run_next]
    rw [hr]
    unfold hp1
    refine ⟨fun h => ⟨some (nI k), ?_⟩, fun h => ?_⟩
    · have := of_decide_eq_true h
      rw [if_neg]
      rw [decide_eq_true_eq]
      omega
    · have := of_decide_eq_false h
      rw [if_pos]
      rw [decide_eq_true_eq]
      omega) x S
  have er := rng_nat2 1 (l.length - i)
  have eq2 : ((l.length : Nat) : Int) - (i : Int) = ((l.length - i : Nat) : Int) := by omega
  have h1 := rng62_nat (n := l.length - i) (by omega)
  have h3 : rng62 1 = true := by decide
  have er' : rngD 1 ((l.length - i : Nat) : Int) = (List.range' 1 (l.length - i - 1)).map fun i => nI i := er
  have e3 : halfs1 [some (encB n T), some (nT l), some (nI i), some (nI a), x, none] S = forD (turnD (gName 4) (sIf (tB (e2 (cmD .lt) (e2 mulD (eC (.int 2)) (e1 sumD (eComp [5] (wSeq (eSlice true (eVar 1) (some (e2 (addD true) (eVar 2) (eC (.int 1)))) (some (e2 (addD true) (e2 (addD true) (eVar 2) (eC (.int 1))) (eVar 4))))) (gName 5) (tYes) (eImm (e2 idxD (e2 idxD (eVar 0) (eVar 3)) (eVar 5)))))) (eVar 4))) (sRet (eC (.bool false))) (sNext))) ((List.range' 1 (l.length - i - 1)).map fun i => nI i) [some (encB n T), some (nT l), some (nI i), some (nI a), x, none] S := by
    unfold halfs1
    simp only [run_for, run_wRange2, run_c, run_2, run_1, run_var, List.getElem?_cons_succ, List.getElem?_cons_zero, Option.bind_some, Option.map_some, run_len_nT, run_sub, intOf_int, eq2, h1, h3, Bool.and_self, ↓reduceIte, er']
  rw [e3]
  exact key
theorem halfs2_run (ho : Od n l) {i a : Nat} (hi : l[i]? = some a) (x : Option D) : ((List.range' 1 i).all (hp2 T l i a) = true → ∃ y, halfs2 [some (encB n T), some (nT l), some (nI i), some (nI a), x, none] S = some (.nx [some (encB n T), some (nT l), some (nI i), some (nI a), y, none], S)) ∧
    ((List.range' 1 i).all (hp2 T l i a) = false → halfs2 [some (encB n T), some (nT l), some (nI i), some (nI a), x, none] S = some (.rt (.bool false), S)) := by
  have hl := ho.len
  have ha : a < n := ho.lt a (List.mem_of_getElem? hi)
  have hil := (List.getElem?_eq_some_iff.mp hi).1
  have key := loop_all (b := turnD (gName 4) (sIf (tB (e2 (cmD .lt) (e2 mulD (eC (.int 2)) (e1 sumD (eComp [5] (wSeq (eSlice true (eVar 1) (some (e2 subD (eVar 2) (eVar 4))) (some (eVar 2)))) (gName 5) (tYes) (eImm (e2 idxD (e2 idxD (eVar 0) (eVar 5)) (eVar 3)))))) (eVar 4))) (sRet (eC (.bool false))) (sNext))) (fun k : Nat => nI k) (fun x : Option D => [some (encB n T), some (nT l), some (nI i), some (nI a), x, none]) (hp2 T l i a) (List.range' 1 i) (fun k hk x S => by
    rw [List.mem_range'_1] at hk
    have hs := sum_comp (S := S) (ρ := fun z => [some (encB n T), some (nT l), some (nI i), some (nI a), some (nI k), z]) (m := (l.drop (i - k)).take k) (q := fun b => T b a) (w := wSeq (eSlice true (eVar 1) (some (e2 subD (eVar 2) (eVar 4))) (some (eVar 2)))) (g := gName 5) (e := eImm (e2 idxD (e2 idxD (eVar 0) (eVar 5)) (eVar 3))) (vs := [5]) (x := none)
      (by
        have := run_mid2 (l := l) (S := S) (a := i - k) (b := i) (x := (i : Int) - k) (y := (i : Int)) (by omega) (by omega)
        rw [show i - (i - k) = k by omega] at this
        simp only [run_wSeq, run_eSlice, run_var, run_part, run_2, run_c, List.getElem?_cons_succ, List.getElem?_cons_zero, Option.bind_some, Option.map_some, run_sub, intOf_int, this, seqOf_nT]) rfl (by simp; omega)
      (fun b hb => ⟨rfl, by
        have hb : b < n := ho.lt b (List.mem_of_mem_drop (List.mem_of_mem_take hb))
        simp only [run_imm, run_2, run_var, List.getElem?_cons_succ, List.getElem?_cons_zero, Option.bind_some, Option.map_some, run_tab hb, run_trow ha, imm_int, ↓reduceIte]⟩)
    have h2 : (2 : Int) * (((l.drop (i - k)).take k).countP fun b => T b a : Nat) = ((2 * ((l.drop (i - k)).take k).countP fun b => T b a : Nat) : Int) := by omega
    have hr : turnD (gName 4) (sIf (tB (e2 (cmD .lt) (e2 mulD (eC (.int 2)) (e1 sumD (eComp [5] (wSeq (eSlice true (eVar 1) (some (e2 subD (eVar 2) (eVar 4))) (some (eVar 2)))) (gName 5) (tYes) (eImm (e2 idxD (e2 idxD (eVar 0) (eVar 5)) (eVar 3)))))) (eVar 4))) (sRet (eC (.bool false))) (sNext)) (nI k) [some (encB n T), some (nT l), some (nI i), some (nI a), x, none] S = if decide (2 * (((l.drop (i - k)).take k).countP fun b => T b a) < k) = true then some (.rt (.bool false), S) else some (.nx [some (encB n T), some (nT l), some (nI i), some (nI a), some (nI k), none], S) := by
      rw [run_turn]
      simp only [run_gName, Option.bind_some, List.set_cons_succ, List.set_cons_zero, run_sIf, run_tB, run_2, run_c, hs, run_mul (.inl small2), run_var, List.getElem?_cons_succ, List.getElem?_cons_zero, Option.map_some, run_cm, boolOf_bool, cm_lt, int_lt' h2, run_ret, run_next]
    rw [hr]
    unfold hp2
    refine ⟨fun h => ⟨some (nI k), ?_⟩, fun h => ?_⟩
    · have := of_decide_eq_true h
      rw [if_neg]
      rw [decide_eq_true_eq]
      omega
    · have := of_decide_eq_false h
      rw [if_pos]
      rw [decide_eq_true_eq]
      omega) x S
  have er := rng_nat2 1 (i + 1)
  rw [show i + 1 - 1 = i by omega] at er
  have h1 := rng62_nat (n := i + 1) (by omega)
  have h1' : rng62 ((i : Int) + 1) = true := h1
  have h3 : rng62 1 = true := by decide
  have er' : rngD 1 ((i : Int) + 1) = (List.range' 1 i).map fun i => nI i := er
  have e3 : halfs2 [some (encB n T), some (nT l), some (nI i), some (nI a), x, none] S = forD (turnD (gName 4) (sIf (tB (e2 (cmD .lt) (e2 mulD (eC (.int 2)) (e1 sumD (eComp [5] (wSeq (eSlice true (eVar 1) (some (e2 subD (eVar 2) (eVar 4))) (some (eVar 2)))) (gName 5) (tYes) (eImm (e2 idxD (e2 idxD (eVar 0) (eVar 5)) (eVar 3)))))) (eVar 4))) (sRet (eC (.bool false))) (sNext))) ((List.range' 1 i).map fun i => nI i) [some (encB n T), some (nT l), some (nI i), some (nI a), x, none] S := by
    unfold halfs2
    simp only [run_for, run_wRange2, run_c, run_2, run_var, List.getElem?_cons_succ, List.getElem?_cons_zero, Option.bind_some, Option.map_some, run_add, intOf_int, h1', h3, Bool.and_self, ↓reduceIte, er']
  rw [e3]
  exact key
theorem run_halves (ho : Od n l) : d_law_halves [encB n T, nT l] S = some (.bool (halfB T l), S) := by
  have key := loop_all (b := turnD (gTup [gName 2, gName 3]) (sSeq halfs1 halfs2)) (fun p : Nat × Nat => PyData.tuple [.int p.2, nI p.1]) (fun x : Option D × Option D × Option D => [some (encB n T), some (nT l), x.1, x.2.1, x.2.2, none]) (fun p => (List.range' 1 (l.length - p.2 - 1)).all (hp1 T l p.2 p.1) && (List.range' 1 p.2).all (hp2 T l p.2 p.1)) (l.zipIdx 0) (fun p hp x S => by
    obtain ⟨a, i⟩ := p
    obtain ⟨j, hj⟩ := List.mem_iff_getElem?.mp hp
    rw [List.getElem?_zipIdx] at hj
    obtain ⟨a', ha, e⟩ := Option.map_eq_some_iff.mp hj
    have e' : a' = a ∧ 0 + j = i := by simpa using e
    obtain ⟨rfl, e3⟩ := e'
    have hi : l[i]? = some a' := by rw [← e3, Nat.zero_add]; exact ha
    rw [run_turn]
    simp only [run_gTup, run_gAll, run_gAll0, run_gName, Option.bind_some, List.set_cons_succ, List.set_cons_zero, run_seq]
    obtain ⟨a1, a2⟩ := halfs1_run (T := T) (S := S) ho hi x.2.2
    cases hb : (List.range' 1 (l.length - i - 1)).all (hp1 T l i a') with
    | false =>
      refine ⟨fun z => absurd z (by simp), fun _ => ?_⟩
      have := a2 hb
      rw [show [some (encB n T), some (nT l), some (PyData.int i), some (nI a'), x.2.2, none] = [some (encB n T), some (nT l), some (nI i), some (nI a'), x.2.2, none] from rfl, this]
      rfl
    | true =>
      obtain ⟨y, hy⟩ := a1 hb
      obtain ⟨b1, b2⟩ := halfs2_run (T := T) (S := S) ho hi y
      rw [show [some (encB n T), some (nT l), some (PyData.int i), some (nI a'), x.2.2, none] = [some (encB n T), some (nT l), some (nI i), some (nI a'), x.2.2, none] from rfl, hy]
      simp only [Option.bind_some, seqO_nx, Bool.true_and]
      refine ⟨fun z => ?_, fun z => b2 z⟩
      obtain ⟨y2, hy2⟩ := b1 z
      exact ⟨(some (nI i), some (nI a'), y2), hy2⟩) (none, none, none) S
  unfold d_law_halves
  rw [run_def (by rfl)]
  show ((b_law_halves) [some (encB n T), some (nT l), none, none, none, none] S).bind _ = _
  rw [show b_law_halves = sSeq (sFor (wEnum (eVar 1)) (gTup [gName 2, gName 3]) (sSeq halfs1 halfs2)) (sRet (eC (.bool true))) from rfl]
  simp only [run_seq, run_for, run_wEnum, run_var, List.getElem?_cons_succ, List.getElem?_cons_zero, Option.bind_some, Option.map_some, seqOf_nT, enum_nT]
  obtain ⟨k1, k2⟩ := key
  cases hb : (l.zipIdx 0).all fun p => (List.range' 1 (l.length - p.2 - 1)).all (hp1 T l p.2 p.1) && (List.range' 1 p.2).all (hp2 T l p.2 p.1) with
  | true =>
    obtain ⟨y, hy⟩ := k1 hb
    have hB : halfB T l = true := hb
    rw [hB]
    rw [hy]
    rfl
  | false =>
    have hB : halfB T l = false := hb
    rw [hB]
    rw [k2 hb]
    rfl
/-! moves -/
def encM (l : List Nat) (p : Nat × Nat) : D := .tuple [nT (mv l p.1 p.2), nI p.1, nI p.2]
def movesD (l : List Nat) : List D := (pairs l.length).map (encM l)
theorem imm_encM (p : Nat × Nat) : imm (encM l p) = true := by simp [encM, imm_tup, imm_nT]
theorem imm_moves : immAll (movesD l) = true := immAll_map fun p _ => imm_encM p
theorem moves_len (hl : l.length ≤ 100) : (movesD l).length ≤ 10000 := by
  unfold movesD
  rw [List.length_map]
  have := pairs_len l.length
  have : l.length * l.length ≤ 100 * 100 := Nat.mul_le_mul hl hl
  omega
theorem run_moves (hl : l.length ≤ 100) : d_law_moves [nT l] S = some (.list (movesD l), S) := by
  have hr := rng62_nat (n := l.length) (by omega)
  have hsub : ∀ k, k ≤ l.length → ((List.range k).flatMap fun i => ((List.range l.length).filter fun j => decide (i ≠ j)).map fun j => encM l (i, j)).length ≤ 10000 := fun k hk => by
    have := flatMap_len (f := fun i => ((List.range l.length).filter fun j => decide (i ≠ j)).map fun j => encM l (i, j)) (k := l.length) (xs := List.range k) fun i _ => by
      rw [List.length_map]
      exact Nat.le_trans (List.length_filter_le _ _) (by simp)
    rw [List.length_range] at this
    have : k * l.length ≤ 100 * 100 := Nat.mul_le_mul (by omega) hl
    omega
  have himm : ∀ is : List Nat, immAll (is.flatMap fun i => ((List.range l.length).filter fun j => decide (i ≠ j)).map fun j => encM l (i, j)) = true := fun is => immAll_iff.mpr fun x hx => by
    obtain ⟨i, _, hx⟩ := List.mem_flatMap.mp hx
    obtain ⟨j, _, rfl⟩ := List.mem_map.mp hx
    exact imm_encM _
  obtain ⟨ρ', S', h1, rfl, y2, y3, rfl⟩ := forD_inv (b := turnD (gName 2) (sSeq (sAsg (e2 (addD true) (eSlice true (eVar 0) none (some (eVar 2))) (eSlice true (eVar 0) (some (e2 (addD true) (eVar 2) (eC (.int 1)))) none)) (gName 3)) (sAsg (e2 (addD true) (eVar 1) (eComp [4] (wRange1 (e1 lenD (eVar 0))) (gName 4) (tB (e2 (eqD true) (eVar 4) (eVar 2))) (eTup (lCons (e2 (addD true) (e2 (addD true) (eSlice true (eVar 3) none (some (eVar 4))) (eSlice true (eVar 0) (some (eVar 2)) (some (e2 (addD true) (eVar 2) (eC (.int 1)))))) (eSlice true (eVar 3) (some (eVar 4)) none)) (lCons (eImm (eVar 2)) (lCons (eImm (eVar 4)) (lNil))))))) (gName 1)))) (fun i : Nat => nI i)
    (fun pre ρ S' => S = S' ∧ ∃ y2 y3, ρ = [some (nT l), some (.list (pre.flatMap fun i => ((List.range l.length).filter fun j => decide (i ≠ j)).map fun j => encM l (i, j))), y2, y3, none]) (List.range l.length)
    (fun pre i suf ρ S' e hh => by
      obtain ⟨rfl, y2, y3, rfl⟩ := hh
      obtain ⟨rfl, hi⟩ := range_split e
      have h1 := len_rest (l := l) (i := i)
      have hc : compD (gName 4) (tB (e2 (eqD true) (eVar 4) (eVar 2))) (eTup (lCons (e2 (addD true) (e2 (addD true) (eSlice true (eVar 3) none (some (eVar 4))) (eSlice true (eVar 0) (some (eVar 2)) (some (e2 (addD true) (eVar 2) (eC (.int 1)))))) (eSlice true (eVar 3) (some (eVar 4)) none)) (lCons (eImm (eVar 2)) (lCons (eImm (eVar 4)) (lNil))))) [some (nT l), some (.list ((List.range i).flatMap fun i => ((List.range l.length).filter fun j => decide (i ≠ j)).map fun j => encM l (i, j))), some (nI i), some (nT (l.take i ++ l.drop (i + 1))), none] ((List.range l.length).map fun j => nI j) S
          = some (((List.range l.length).filter fun j => decide (i ≠ j)).map fun j => encM l (i, j), S) :=
        compD_pure (fun j => nI j) (fun j => encM l (i, j)) (fun j => decide (i ≠ j)) _ fun j hj => by
          refine ⟨[some (nT l), some (.list ((List.range i).flatMap fun i => ((List.range l.length).filter fun j => decide (i ≠ j)).map fun j => encM l (i, j))), some (nI i), some (nT (l.take i ++ l.drop (i + 1))), some (nI j)], rfl, ?_, fun _ => ?_⟩
          · have : (!decide ((j : Int) = i)) = decide (i ≠ j) := by
              by_cases h : i = j
              · simp [h]
              · have : ¬ (j : Int) = i := by omega
                simp [h, this]
            simp only [run_tB, run_2, run_var, List.getElem?_cons_succ, List.getElem?_cons_zero, Option.bind_some, Option.map_some, run_eqI, ↓reduceIte, this, boolOf_bool]
          · have hf : fit 3 = true := by decide
            have q1 : ((l.take i ++ l.drop (i + 1)).take j).length + ((l.drop i).take 1).length ≤ 16777216 := by simp; omega
            have q2 : ((l.take i ++ l.drop (i + 1)).take j ++ (l.drop i).take 1).length + ((l.take i ++ l.drop (i + 1)).drop j).length ≤ 16777216 := by simp; omega
            simp only [run_tup, run_lcons, run_lnil, run_2, run_eSlice, run_var, run_part, run_part0, run_c, List.getElem?_cons_succ, List.getElem?_cons_zero, Option.bind_some, Option.map_some, intOf_int, run_to_nT, run_add, run_mid1, run_add_nT (o := true) q1, run_from_nT, run_add_nT (o := true) q2, run_imm, imm_int, ↓reduceIte, List.length_cons, List.length_nil, hf]
            rfl
      have hf : fit (((List.range l.length).filter fun j => decide (i ≠ j)).map fun j => encM l (i, j)).length = true := fit_of (by
        rw [List.length_map]
        have := List.length_filter_le (fun j => decide (i ≠ j)) (List.range l.length)
        rw [List.length_range] at this
        omega)
      have hlen := hsub i (by omega)
      have hlen2 := hsub (i + 1) (by omega)
      have hi1 := himm (List.range i)
      have hi2 : immAll (((List.range l.length).filter fun j => decide (i ≠ j)).map fun j => encM l (i, j)) = true := immAll_map fun j _ => imm_encM _
      refine ⟨_, S, .inl ?_, rfl, some (nI i), some (nT (l.take i ++ l.drop (i + 1))), rfl⟩
      rw [run_turn]
      simp only [run_gName, Option.bind_some, List.set_cons_succ, List.set_cons_zero, run_seq, run_asg, run_2, run_eSlice, run_var, run_part, run_part0, run_c, List.getElem?_cons_succ, List.getElem?_cons_zero, Option.map_some, intOf_int, run_to_nT, run_add, run_from1, run_add_nT (o := true) (l := l.take i) (m := l.drop (i + 1)) (S := S) (by omega), seqO_nx, run_comp, run_wRange1, run_1, run_len_nT, hr, ↓reduceIte, rng_nat, kill_cons, kill_nil, hc, hf, run_addL]
      rw [if_pos]
      · simp
      · rw [hi1, hi2]
        refine ⟨fit_of ?_, rfl⟩
        rw [List.range_succ, List.flatMap_append, List.length_append] at hlen2
        simp only [List.flatMap_cons, List.flatMap_nil, List.append_nil] at hlen2
        omega) [] (List.range l.length) rfl [some (nT l), some (.list []), none, none, none] S ⟨rfl, none, none, rfl⟩
  unfold d_law_moves
  rw [run_def (by rfl)]
  show ((b_law_moves) [some (nT l), none, none, none, none] S).bind _ = _
  unfold b_law_moves
  have h0 : fit ([] : List D).length = true := rfl
  simp only [run_seq, run_asg, run_lst, run_lnil, Option.bind_some, h0, ↓reduceIte, run_gName, List.set_cons_succ, List.set_cons_zero, seqO_nx, run_for, run_wRange1, run_1, run_var, List.getElem?_cons_succ, List.getElem?_cons_zero, Option.map_some, run_len_nT, intOf_int, hr, rng_nat, h1, run_ret, end_rt]
  congr 2
  unfold movesD pairs
  rw [List.map_flatMap]
  simp only [List.map_map]
  rfl
end K91

/-! P91g: the law. -/
namespace K91
open PySem DL
variable {n : Nat} {T : Nat → Nat → Bool} {l : List Nat} {S : Src}
theorem run_eqB {m a b : Bool} : eqD m (.bool a) (.bool b) S = some (.bool (if m = true then !(a == b) else (a == b)), S) := by
  rw [run_eq (by rfl) (by rfl)]
  simp only [PyData.eqv]
theorem eqv_nIs : ∀ l : List Nat, PyData.eqvAll (l.map fun a => nI a) (l.map fun a => nI a) = true
  | [] => rfl
  | a :: r => by
    rw [List.map_cons, PyData.eqvAll, eqv_nIs r]
    simp [PyData.eqv]
theorem run_neT (h : ∀ a ∈ l, a < 1000000000) : eqD true (nT l) (nT l) S = some (.bool false, S) := by
  obtain ⟨h1, h2, h3⟩ := nT_facts h
  rw [run_eq (tidy_shaped h1 (by omega)) (tidy_shaped h1 (by omega))]
  have : PyData.eqv (nT l) (nT l) = true := by
    unfold nT
    rw [PyData.eqv]
    exact eqv_nIs l
  rw [this]
  rfl
theorem od_small (ho : Od n l) (hn : n ≤ 100) : ∀ a ∈ l, a < 1000000000 := fun a ha => by
  have := ho.lt a ha
  omega
theorem tl_mem {p : Nat × Nat} : ∀ {l : List Nat}, p ∈ tl T l → p.1 ∈ l ∧ p.2 ∈ l
  | [], h => nomatch h
  | a :: r, h => by
    rcases List.mem_append.mp h with h | h
    · obtain ⟨b, hb, rfl⟩ := List.mem_map.mp h
      exact ⟨List.mem_cons_of_mem _ (List.mem_filter.mp hb).1, List.mem_cons_self ..⟩
    · obtain ⟨h1, h2⟩ := tl_mem h
      exact ⟨List.mem_cons_of_mem _ h1, List.mem_cons_of_mem _ h2⟩
theorem srt_facts (ho : Od n l) (hn : n ≤ 100) : tidyAll (srt T l) = true ∧ sizAll (srt T l) ≤ 30000 ∧ PyData.depthAll (srt T l) ≤ 1 := by
  have hx : ∀ x ∈ srt T l, tidy x = true ∧ siz x ≤ 3 ∧ PyData.depth x ≤ 1 := fun x hx => by
    obtain ⟨p, hp, rfl⟩ := srt_mem hx
    obtain ⟨h1, h2⟩ := tl_mem hp
    have h3 := ho.lt _ h1
    have h4 := ho.lt _ h2
    refine ⟨?_, ?_, ?_⟩
    · unfold encP
      rw [tidy_tuple, tidyAll_cons, tidyAll_cons, tidyAll_nil, tidy_int, tidy_int]
      have q1 : decide ((p.1 : Int).natAbs < 1000000000000) = true := decide_eq_true (by omega)
      have q2 : decide ((p.2 : Int).natAbs < 1000000000000) = true := decide_eq_true (by omega)
      rw [q1, q2]
      rfl
    · simp [encP]
    · simp [encP]
  refine ⟨tidyAll_iff.mpr fun x h => (hx x h).1, ?_, depthAll_le fun x h => (hx x h).2.2⟩
  have h1 := sizAll_le fun x h => (hx x h).2.1
  rw [srt_len] at h1
  have h2 := ct_le (T := T) l
  have h3 : l.length * l.length ≤ 100 * 100 := Nat.mul_le_mul ho.len ho.len
  omega
abbrev E21 (x2 x3 x4 x5 x6 x7 x8 x9 x10 x11 x12 x13 x14 x15 x16 x17 x18 x19 x20 : Option D) : DL.Env := [none, none, x2, x3, x4, x5, x6, x7, x8, x9, x10, x11, x12, x13, x14, x15, x16, x17, x18, x19, x20]
section steps
variable {x2 x3 x4 x5 x6 x7 x8 x9 x10 x11 x12 x13 x14 x15 x16 x17 x18 x19 x20 : Option D}
/-- n -/
def L1 : SF := (sAsg (e2 (addD true) (eC (.int 1)) (eCallM d_law_pick (lCons (e2 idxD (eLst (lCons (eC (.int 3)) (lCons (eC (.int 5)) (lCons (eC (.int 7)) (lCons (eC (.int 8)) (lCons (eC (.int 12)) (lNil))))))) (eVar 2)) (lNil)))) (gName 3))
theorem L1_run {k : Nat} (hk : k < 5) : ∃ i S', i < 12 ∧ L1 (E21 (some (nI k)) x3 x4 x5 x6 x7 x8 x9 x10 x11 x12 x13 x14 x15 x16 x17 x18 x19 x20) S = some (.nx (E21 (some (nI k)) (some (nI (i + 1))) x4 x5 x6 x7 x8 x9 x10 x11 x12 x13 x14 x15 x16 x17 x18 x19 x20), S') := by
  have hm : ∃ m : Nat, 1 ≤ m ∧ m ≤ 12 ∧ idxD (.list [.int 3, .int 5, .int 7, .int 8, .int 12]) (.int k) S = some (.int m, S) := by
    have : k = 0 ∨ k = 1 ∨ k = 2 ∨ k = 3 ∨ k = 4 := by omega
    rcases this with rfl | rfl | rfl | rfl | rfl
    · exact ⟨3, by omega, by omega, run_idxL rfl⟩
    · exact ⟨5, by omega, by omega, run_idxL rfl⟩
    · exact ⟨7, by omega, by omega, run_idxL rfl⟩
    · exact ⟨8, by omega, by omega, run_idxL rfl⟩
    · exact ⟨12, by omega, by omega, run_idxL rfl⟩
  obtain ⟨m, h1, h2, hm⟩ := hm
  obtain ⟨i, hi, S', hp⟩ := picks m S h1 (by omega)
  refine ⟨i, S', by omega, ?_⟩
  have hf : fit 5 = true := by decide
  have e : (1 : Int) + i = ((i + 1 : Nat) : Int) := by omega
  unfold L1
  simp only [run_asg, run_2, run_c, run_callM, run_lcons, run_lnil, run_lst, Option.bind_some, List.length_cons, List.length_nil, hf, ↓reduceIte, run_var, List.getElem?_cons_succ, List.getElem?_cons_zero, Option.map_some, hm, hp, run_add, e, run_gName, List.set_cons_succ, List.set_cons_zero]
def L2 : SF := (sPar [4, 5] (lCons (eCallM d_law_beats (lCons (eVar 3) (lNil))) (lCons (eCallM d_law_row (lCons (eVar 3) (lNil))) (lNil))))
theorem L2_run (hn : n ≤ 100) : ∃ (T : Nat → Nat → Bool) (o : List Nat) (S' : Src), Tour n T ∧ o.Perm (List.range n) ∧ L2 (E21 x2 (some (nI n)) x4 x5 x6 x7 x8 x9 x10 x11 x12 x13 x14 x15 x16 x17 x18 x19 x20) S = some (.nx (E21 x2 (some (nI n)) (some (encB n T)) (some (nT o)) x6 x7 x8 x9 x10 x11 x12 x13 x14 x15 x16 x17 x18 x19 x20), S') := by
  obtain ⟨T, S1, ht, h1⟩ := run_beats hn S
  obtain ⟨o, S2, h2, h3⟩ := run_row (n := n) (S := S1) hn
  refine ⟨T, o, S2, ht, h3, ?_⟩
  have h2' : d_law_row [nI n] S1 = some (nT o, S2) := h2
  unfold L2
  simp only [run_par, run_lcons, run_lnil, run_callM, run_var, List.getElem?_cons_succ, List.getElem?_cons_zero, Option.bind_some, Option.map_some, h1, h2', List.length_cons, List.length_nil, setAll_cons, setAll_nil, List.set_cons_succ, List.set_cons_zero]
  rfl
def L3 : SF := (sAsg (eCall d_law_turned (lCons (eVar 4) (lCons (eVar 5) (lNil)))) (gName 6))
theorem L3_run (ho : Od n l) : L3 (E21 x2 x3 (some (encB n T)) (some (nT l)) x6 x7 x8 x9 x10 x11 x12 x13 x14 x15 x16 x17 x18 x19 x20) S = some (.nx (E21 x2 x3 (some (encB n T)) (some (nT l)) (some (.list (srt T l))) x7 x8 x9 x10 x11 x12 x13 x14 x15 x16 x17 x18 x19 x20), S) := by
  unfold L3
  simp only [run_asg, run_call, run_lcons, run_lnil, run_var, List.getElem?_cons_succ, List.getElem?_cons_zero, Option.bind_some, Option.map_some, run_lturned ho, run_gName, List.set_cons_succ, List.set_cons_zero]
def L4 : SF := (sIf (tB (e2 (eqD true) (e1 reprD (eLst (lCons (eCall d_turned_beats (lCons (eVar 4) (lCons (eVar 5) (lNil)))) (lCons (eCall d_count_turned (lCons (eVar 4) (lCons (eVar 5) (lNil)))) (lNil))))) (e1 reprD (eLst (lCons (e1 (tupleD true) (eVar 6)) (lCons (e1 lenD (eVar 6)) (lNil))))))) (sRet (eC (.bool false))) (sNext))
theorem tidy_nI {a : Nat} (h : a < 1000000) : tidy (nI a) = true := by
  rw [tidy_int]
  exact decide_eq_true (by omega)
theorem L4_run (ho : Od n l) (hn : n ≤ 100) {ρ : DL.Env} (h4 : ρ[4]? = some (some (encB n T))) (h5 : ρ[5]? = some (some (nT l))) (h6 : ρ[6]? = some (some (.list (srt T l)))) : L4 ρ S = some (.nx ρ, S) := by
  obtain ⟨f1, f2, f3⟩ := srt_facts (T := T) ho hn
  have hc : ct T l < 1000000 := by
    have h2 := ct_le (T := T) l
    have h3 : l.length * l.length ≤ 100 * 100 := Nat.mul_le_mul ho.len ho.len
    omega
  have hf : fit 2 = true := by decide
  have key := run_neRepr (S := S) (ρ := ρ) (f := eLst (lCons (eCall d_turned_beats (lCons (eVar 4) (lCons (eVar 5) (lNil)))) (lCons (eCall d_count_turned (lCons (eVar 4) (lCons (eVar 5) (lNil)))) (lNil)))) (g := eLst (lCons (e1 (tupleD true) (eVar 6)) (lCons (e1 lenD (eVar 6)) (lNil)))) (d := .list [.tuple (srt T l), nI (ct T l)])
    (by simp only [run_lst, run_lcons, run_lnil, run_call, run_var, h4, h5, Option.bind_some, Option.map_some, run_turned ho, run_count ho, List.length_cons, List.length_nil, hf, ↓reduceIte])
    (by simp only [run_lst, run_lcons, run_lnil, run_1, run_var, h6, Option.bind_some, Option.map_some, run_tuple, seqOf_list, imm_srt, Bool.not_true, Bool.or_true, run_lenL, srt_len, List.length_cons, List.length_nil, hf, ↓reduceIte])
    (by rw [tidy_list, tidyAll_cons, tidyAll_cons, tidyAll_nil, tidy_tuple, f1, tidy_nI hc]; rfl)
    (by simp only [siz_list, sizAll_cons, siz_tuple, siz_int, sizAll_nil]; omega)
    (by simp only [depth_list, depthAll_cons, depth_tuple, depth_int, depthAll_nil]; omega)
  unfold L4
  simp only [run_sIf, run_tB, key, Option.bind_some, boolOf_bool, Option.map_some, Bool.false_eq_true, ↓reduceIte, run_next]
def L5 : SF := (sFor (wRange1 (eVar 3)) (gName 8) (sSeq (sAsg (e1 sumD (eComp [20] (wSeq (eVar 7)) (gName 20) (tYes) (eImm (e2 idxD (e2 idxD (eVar 4) (eVar 8)) (eVar 20))))) (gName 9)) (sAsg (eIf (tB (e2 (cmD .ge) (e2 mulD (eC (.int 2)) (eVar 9)) (e1 lenD (eVar 7)))) (e2 (addD true) (eTup (lCons (eImm (eVar 8)) (lNil))) (eVar 7)) (e2 (addD true) (eVar 7) (eTup (lCons (eImm (eVar 8)) (lNil))))) (gName 7))))
theorem L5_run (hn : n ≤ 100) : ∃ y8 y9 y20, L5 (E21 x2 (some (nI n)) (some (encB n T)) x5 x6 (some (nT [])) x8 x9 x10 x11 x12 x13 x14 x15 x16 x17 x18 x19 x20) S = some (.nx (E21 x2 (some (nI n)) (some (encB n T)) x5 x6 (some (nT (built T n))) y8 y9 x10 x11 x12 x13 x14 x15 x16 x17 x18 x19 y20), S) := by
  obtain ⟨ρ', S', h1, rfl, y8, y9, y20, rfl⟩ := forD_inv (b := turnD (gName 8) (sSeq (sAsg (e1 sumD (eComp [20] (wSeq (eVar 7)) (gName 20) (tYes) (eImm (e2 idxD (e2 idxD (eVar 4) (eVar 8)) (eVar 20))))) (gName 9)) (sAsg (eIf (tB (e2 (cmD .ge) (e2 mulD (eC (.int 2)) (eVar 9)) (e1 lenD (eVar 7)))) (e2 (addD true) (eTup (lCons (eImm (eVar 8)) (lNil))) (eVar 7)) (e2 (addD true) (eVar 7) (eTup (lCons (eImm (eVar 8)) (lNil))))) (gName 7)))) (fun a : Nat => nI a)
    (fun pre ρ S' => S = S' ∧ ∃ y8 y9 y20, ρ = E21 x2 (some (nI n)) (some (encB n T)) x5 x6 (some (nT (built T pre.length))) y8 y9 x10 x11 x12 x13 x14 x15 x16 x17 x18 x19 y20) (List.range n)
    (fun pre a suf ρ S' e h => by
      obtain ⟨rfl, y8, y9, y20, rfl⟩ := h
      obtain ⟨rfl, ha⟩ := range_split e
      rw [List.length_range, List.length_append, List.length_range]
      refine ⟨_, S, .inl ?_, rfl, some (nI a), some (nI ((built T a).countP fun b => T a b)), y20, rfl⟩
      show _ = some (Out.nx (E21 x2 (some (nI n)) (some (encB n T)) x5 x6 (some (nT (built T (a + 1)))) _ _ x10 x11 x12 x13 x14 x15 x16 x17 x18 x19 _), S)
      rw [built_succ]
      have hb := built_lt (T := T) (n := n) (x := a) (by omega)
      have hl := built_len T a
      have hs := sum_comp (S := S) (ρ := fun z => E21 x2 (some (nI n)) (some (encB n T)) x5 x6 (some (nT (built T a))) (some (nI a)) y9 x10 x11 x12 x13 x14 x15 x16 x17 x18 x19 z) (m := built T a) (q := fun b => T a b) (w := wSeq (eVar 7)) (g := gName 20) (e := eImm (e2 idxD (e2 idxD (eVar 4) (eVar 8)) (eVar 20))) (vs := [20]) (x := y20)
        (by simp only [run_wSeq, run_var, List.getElem?_cons_succ, List.getElem?_cons_zero, Option.bind_some, Option.map_some, seqOf_nT]) rfl (by omega)
        (fun b hm => ⟨rfl, by simp only [run_imm, run_2, run_var, List.getElem?_cons_succ, List.getElem?_cons_zero, Option.bind_some, Option.map_some, run_tab ha, run_trow (hb b hm), imm_int, ↓reduceIte]⟩)
      rw [run_turn, run_gName, Option.bind_some]
      rw [run_seq, run_asg]
      rw [show (E21 x2 (some (nI n)) (some (encB n T)) x5 x6 (some (nT (built T a))) y8 y9 x10 x11 x12 x13 x14 x15 x16 x17 x18 x19 y20).set 8 (some (nI a)) = E21 x2 (some (nI n)) (some (encB n T)) x5 x6 (some (nT (built T a))) (some (nI a)) y9 x10 x11 x12 x13 x14 x15 x16 x17 x18 x19 y20 from rfl, hs]
      have hf : fit 1 = true := by decide
      have h2 : (2 : Int) * ((built T a).countP (fun b => T a b) : Nat) = ((2 * (built T a).countP (fun b => T a b) : Nat) : Int) := by omega
      have h3 : decide (((built T a).length : Int) ≤ ((2 * (built T a).countP (fun b => T a b) : Nat) : Int)) = decide ((built T a).length ≤ 2 * (built T a).countP (fun b => T a b)) := by
        by_cases h : (built T a).length ≤ 2 * (built T a).countP (fun b => T a b)
        · rw [decide_eq_true h, decide_eq_true (by omega)]
        · rw [decide_eq_false h, decide_eq_false (by omega)]
      have q1 : PyData.tuple [nI a] = nT [a] := rfl
      have q2 : addD true (nT [a]) (nT (built T a)) S = some (nT (a :: built T a), S) := run_add_nT (l := [a]) (by simp; omega)
      have q3 : addD true (nT (built T a)) (nT [a]) S = some (nT (built T a ++ [a]), S) := run_add_nT (m := [a]) (by simp; omega)
      simp only [Option.bind_some, run_gName, List.set_cons_succ, List.set_cons_zero, seqO_nx, run_asg, run_if, run_tB, run_2, run_c, run_1, run_var, List.getElem?_cons_succ, List.getElem?_cons_zero, Option.map_some, run_mul (.inl small2), run_len_nT, run_cm, boolOf_bool, cm_ge, h2, h3, run_tup, run_lcons, run_lnil, run_imm, imm_int, ↓reduceIte, List.length_cons, List.length_nil, Nat.zero_add, hf, q1, q2, q3]
      unfold bstep
      by_cases hw : (built T a).length ≤ 2 * (built T a).countP (fun b => T a b)
      · rw [if_pos (decide_eq_true hw), if_pos hw]
        rfl
      · rw [if_neg (fun z => hw (of_decide_eq_true z)), if_neg hw]
        rfl) [] (List.range n) rfl (E21 x2 (some (nI n)) (some (encB n T)) x5 x6 (some (nT [])) x8 x9 x10 x11 x12 x13 x14 x15 x16 x17 x18 x19 x20) S ⟨rfl, x8, x9, x20, rfl⟩
  refine ⟨y8, y9, y20, ?_⟩
  have h3 := rng62_nat (n := n) (by omega)
  unfold L5
  simp only [run_for, run_wRange1, run_var, List.getElem?_cons_succ, List.getElem?_cons_zero, Option.bind_some, Option.map_some, intOf_int, h3, ↓reduceIte, rng_nat]
  rw [h1, List.length_range]
end steps
end K91

/-! P91h: the law's later steps. -/
namespace K91
open PySem DL
variable {n : Nat} {T : Nat → Nat → Bool} {l : List Nat} {S : Src}
section steps
variable {x2 x3 x4 x5 x6 x7 x8 x9 x10 x11 x12 x13 x14 x15 x16 x17 x18 x19 x20 : Option D}
def L6 : SF := (sAsg (e2 fdivD (e2 mulD (e2 subD (eVar 3) (eC (.int 1))) (e2 subD (eVar 3) (eC (.int 1)))) (eC (.int 4))) (gName 10))
theorem L6_run {m : Nat} (hm : m ≤ 100) {ρ : DL.Env} (h : ρ[3]? = some (some (nI (m + 1)))) : L6 ρ S = some (.nx (ρ.set 10 (some (nI (m * m / 4)))), S) := by
  have e : ((m + 1 : Nat) : Int) - 1 = m := by omega
  have eq2 : ((m : Int) * m).fdiv 4 = ((m * m / 4 : Nat) : Int) := by
    rw [Int.fdiv_eq_ediv_of_nonneg _ (by omega)]
    simp
  unfold L6
  simp only [run_asg, run_2, run_var, h, run_c, Option.bind_some, Option.map_some, run_sub, e, run_mul (.inl (small_nat (n := m) (by omega))), run_fdiv (b := 4) ⟨by decide, by decide⟩, eq2, run_gName]
def L7 : SF := (sIf (tB (e2 (eqD true) (e1 reprD (eLst (lCons (eCall d_built_order (lCons (eVar 4) (lNil))) (lCons (eCall d_turns_bound (lCons (eVar 3) (lNil))) (lNil))))) (e1 reprD (eLst (lCons (eImm (eVar 7)) (lCons (eImm (eVar 10)) (lNil))))))) (sRet (eC (.bool false))) (sNext))
theorem built_od (hn : n ≤ 100) : Od n (built T n) := ⟨built_lt (Nat.le_refl _), by rw [built_len]; exact hn⟩
theorem L7_run {m : Nat} (hm : m ≤ 99) {ρ : DL.Env} (h3 : ρ[3]? = some (some (nI (m + 1)))) (h4 : ρ[4]? = some (some (encB (m + 1) T))) (h7 : ρ[7]? = some (some (nT (built T (m + 1))))) (h10 : ρ[10]? = some (some (nI (m * m / 4)))) : L7 ρ S = some (.nx ρ, S) := by
  have hb := built_od (T := T) (n := m + 1) (by omega)
  obtain ⟨f1, f2, f3⟩ := nT_facts (od_small hb (by omega))
  have hl := built_len T (m + 1)
  have hf : fit 2 = true := by decide
  have hq : m * m / 4 < 1000000 := by
    have : m * m ≤ 99 * 99 := Nat.mul_le_mul hm hm
    omega
  have key := run_neRepr (S := S) (ρ := ρ) (f := eLst (lCons (eCall d_built_order (lCons (eVar 4) (lNil))) (lCons (eCall d_turns_bound (lCons (eVar 3) (lNil))) (lNil)))) (g := eLst (lCons (eImm (eVar 7)) (lCons (eImm (eVar 10)) (lNil)))) (d := .list [nT (built T (m + 1)), nI (m * m / 4)])
    (by simp only [run_lst, run_lcons, run_lnil, run_call, run_var, h3, h4, Option.bind_some, Option.map_some, run_built (T := T) (n := m + 1) (by omega), run_bound (m := m) (by omega), List.length_cons, List.length_nil, hf, ↓reduceIte])
    (by simp only [run_lst, run_lcons, run_lnil, run_imm, run_var, h7, h10, Option.bind_some, Option.map_some, imm_nT, imm_int, List.length_cons, List.length_nil, hf, ↓reduceIte])
    (by rw [tidy_list, tidyAll_cons, tidyAll_cons, tidyAll_nil, f1, tidy_nI hq]; rfl)
    (by simp only [siz_list, sizAll_cons, siz_int, sizAll_nil, f2, hl]; omega)
    (by simp only [depth_list, depthAll_cons, depth_int, depthAll_nil]; omega)
  unfold L7
  simp only [run_sIf, run_tB, key, Option.bind_some, boolOf_bool, Option.map_some, Bool.false_eq_true, ↓reduceIte, run_next]
def L8 : SF := (sIf (tB (e2 (cmD .gt) (e1 lenD (eCall d_law_turned (lCons (eVar 4) (lCons (eVar 7) (lNil))))) (eVar 10))) (sRet (eC (.bool false))) (sNext))
theorem L8_run {m : Nat} (hm : m ≤ 99) (ht : Tour (m + 1) T) {ρ : DL.Env} (h4 : ρ[4]? = some (some (encB (m + 1) T))) (h7 : ρ[7]? = some (some (nT (built T (m + 1))))) (h10 : ρ[10]? = some (some (nI (m * m / 4)))) : L8 ρ S = some (.nx ρ, S) := by
  have hb := built_od (T := T) (n := m + 1) (by omega)
  have h1 := built_bound ht m (by omega)
  have h2 : decide (((m * m / 4 : Nat) : Int) < ((ct T (built T (m + 1)) : Nat) : Int)) = false := decide_eq_false (by omega)
  unfold L8
  simp only [run_sIf, run_tB, run_2, run_1, run_call, run_lcons, run_lnil, run_var, h4, h7, h10, Option.bind_some, Option.map_some, run_lturned hb, run_lenL, srt_len, run_cm, cm_gt, h2, boolOf_bool, Bool.false_eq_true, ↓reduceIte, run_next]
def L9 : SF := (sAsg (eCall d_law_moves (lCons (eVar 5) (lNil))) (gName 11))
theorem L9_run (hl : l.length ≤ 100) {ρ : DL.Env} (h5 : ρ[5]? = some (some (nT l))) : L9 ρ S = some (.nx (ρ.set 11 (some (.list (movesD l)))), S) := by
  unfold L9
  simp only [run_asg, run_call, run_lcons, run_lnil, run_var, h5, Option.bind_some, Option.map_some, run_moves hl, run_gName]
def L10 : SF := (sAsg (e2 (eqD false) (eComp [14, 15, 16] (wSeq (eVar 11)) (gTup [gName 14, gName 15, gName 16]) (tB (e2 (cmD .lt) (e1 lenD (eCall d_law_turned (lCons (eVar 4) (lCons (eVar 14) (lNil))))) (e1 lenD (eVar 6)))) (eImm (eVar 14))) (eLst (lNil))) (gName 12))
theorem still_filter : (((pairs l.length).filter fun p => decide (ct T (mv l p.1 p.2) < ct T l)).map fun p => nT (mv l p.1 p.2)).isEmpty = stillB T l := by
  rw [Bool.eq_iff_iff, stillB_iff, List.isEmpty_iff, List.map_eq_nil_iff, List.filter_eq_nil_iff]
  unfold Still
  constructor
  · intro h i j hi hj hne
    have := h (i, j) (mem_pairs.mpr ⟨hi, hj, hne⟩)
    simp only [decide_eq_true_eq] at this
    omega
  · rintro h ⟨i, j⟩ hm
    obtain ⟨h1, h2, h3⟩ := mem_pairs.mp hm
    have := h i j h1 h2 h3
    simp only [decide_eq_true_eq]
    omega
theorem L10_run (ho : Od n l) (hn : n ≤ 100) : L10 (E21 x2 x3 (some (encB n T)) x5 (some (.list (srt T l))) x7 x8 x9 x10 (some (.list (movesD l))) x12 x13 x14 x15 x16 x17 x18 x19 x20) S = some (.nx (E21 x2 x3 (some (encB n T)) x5 (some (.list (srt T l))) x7 x8 x9 x10 (some (.list (movesD l))) (some (.bool (stillB T l))) x13 x14 x15 x16 x17 x18 x19 x20), S) := by
  have hl := ho.len
  have hc : compD (gTup [gName 14, gName 15, gName 16]) (tB (e2 (cmD .lt) (e1 lenD (eCall d_law_turned (lCons (eVar 4) (lCons (eVar 14) (lNil))))) (e1 lenD (eVar 6)))) (eImm (eVar 14)) (E21 x2 x3 (some (encB n T)) x5 (some (.list (srt T l))) x7 x8 x9 x10 (some (.list (movesD l))) x12 x13 none none none x17 x18 x19 x20) ((pairs l.length).map (encM l)) S
      = some (((pairs l.length).filter fun p => decide (ct T (mv l p.1 p.2) < ct T l)).map fun p => nT (mv l p.1 p.2), S) :=
    compD_pure (encM l) (fun p => nT (mv l p.1 p.2)) (fun p => decide (ct T (mv l p.1 p.2) < ct T l)) _ fun p hp => by
      obtain ⟨i, j⟩ := p
      obtain ⟨h1, h2, h3⟩ := mem_pairs.mp hp
      have ho' : Od n (mv l i j) := mv_od ho h1
      refine ⟨E21 x2 x3 (some (encB n T)) x5 (some (.list (srt T l))) x7 x8 x9 x10 (some (.list (movesD l))) x12 x13 (some (nT (mv l i j))) (some (nI i)) (some (nI j)) x17 x18 x19 x20, rfl, ?_, fun _ => ?_⟩
      · have : decide (((ct T (mv l i j) : Nat) : Int) < ((ct T l : Nat) : Int)) = decide (ct T (mv l i j) < ct T l) := int_lt _ _
        simp only [run_tB, run_2, run_1, run_call, run_lcons, run_lnil, run_var, List.getElem?_cons_succ, List.getElem?_cons_zero, Option.bind_some, Option.map_some, run_lturned ho', run_lenL, srt_len, run_cm, cm_lt, this, boolOf_bool]
      · simp only [run_imm, run_var, List.getElem?_cons_succ, List.getElem?_cons_zero, Option.bind_some, Option.map_some, imm_nT, ↓reduceIte]
  have hlen : (((pairs l.length).filter fun p => decide (ct T (mv l p.1 p.2) < ct T l)).map fun p => nT (mv l p.1 p.2)).length ≤ 10000 := by
    rw [List.length_map]
    have h1 := List.length_filter_le (fun p : Nat × Nat => decide (ct T (mv l p.1 p.2) < ct T l)) (pairs l.length)
    have h2 := pairs_len l.length
    have : l.length * l.length ≤ 100 * 100 := Nat.mul_le_mul hl hl
    omega
  have hf : fit (((pairs l.length).filter fun p => decide (ct T (mv l p.1 p.2) < ct T l)).map fun p => nT (mv l p.1 p.2)).length = true := fit_of (by omega)
  have hx : ∀ x ∈ (((pairs l.length).filter fun p => decide (ct T (mv l p.1 p.2) < ct T l)).map fun p => nT (mv l p.1 p.2)), tidy x = true ∧ PyData.depth x ≤ 63 := fun x hx => by
    obtain ⟨⟨i, j⟩, hp, rfl⟩ := List.mem_map.mp hx
    obtain ⟨h1, h2, h3⟩ := mem_pairs.mp (List.mem_filter.mp hp).1
    obtain ⟨f1, f2, f3⟩ := nT_facts (od_small (mv_od ho (j := j) h1) hn)
    exact ⟨f1, Nat.le_trans f3 (by omega)⟩
  have h0 : fit ([] : List D).length = true := rfl
  have hmv : seqOf (.list (movesD l)) = some ((pairs l.length).map (encM l)) := rfl
  unfold L10
  simp only [run_asg, run_2, run_comp, run_wSeq, run_var, List.getElem?_cons_succ, List.getElem?_cons_zero, Option.bind_some, Option.map_some, hmv, kill_cons, kill_nil, List.set_cons_succ, List.set_cons_zero, hc, hf, ↓reduceIte, run_lst, run_lnil, h0, run_eqNil (tidyAll_iff.mpr fun x h => (hx x h).1) (depthAll_le fun x h => (hx x h).2), run_gName, still_filter]
def L11 : SF := (sAsg (eCall d_law_halves (lCons (eVar 4) (lCons (eVar 5) (lNil)))) (gName 13))
theorem halfB_still (ht : Tour n T) (ho : Od n l) (nd : l.Nodup) : halfB T l = stillB T l := by
  rw [Bool.eq_iff_iff, stillB_iff, halfB_iff]
  exact still_half ht ho.lt nd
theorem L11_run (ho : Od n l) {ρ : DL.Env} (h4 : ρ[4]? = some (some (encB n T))) (h5 : ρ[5]? = some (some (nT l))) : L11 ρ S = some (.nx (ρ.set 13 (some (.bool (halfB T l)))), S) := by
  unfold L11
  simp only [run_asg, run_call, run_lcons, run_lnil, run_var, h4, h5, Option.bind_some, Option.map_some, run_halves ho, run_gName]
def L12 : SF := (sIf (tB (e2 (eqD true) (e1 reprD (eLst (lCons (eCall d_has_half_ahead (lCons (eVar 4) (lCons (eVar 5) (lNil)))) (lCons (eCall d_is_still_order (lCons (eVar 4) (lCons (eVar 5) (lNil)))) (lNil))))) (e1 reprD (eLst (lCons (eImm (eVar 12)) (lCons (eImm (eVar 12)) (lNil))))))) (sRet (eC (.bool false))) (sNext))
theorem L12_run (ht : Tour n T) (ho : Od n l) (nd : l.Nodup) {ρ : DL.Env} (h4 : ρ[4]? = some (some (encB n T))) (h5 : ρ[5]? = some (some (nT l))) (h12 : ρ[12]? = some (some (.bool (stillB T l)))) : L12 ρ S = some (.nx ρ, S) := by
  obtain ⟨b, hb, hi⟩ := run_half (T := T) (S := S) ho
  have : b = stillB T l := by
    rw [Bool.eq_iff_iff, stillB_iff, hi]
    exact still_half ht ho.lt nd
  subst this
  have hf : fit 2 = true := by decide
  have key := run_neRepr (S := S) (ρ := ρ) (f := eLst (lCons (eCall d_has_half_ahead (lCons (eVar 4) (lCons (eVar 5) (lNil)))) (lCons (eCall d_is_still_order (lCons (eVar 4) (lCons (eVar 5) (lNil)))) (lNil)))) (g := eLst (lCons (eImm (eVar 12)) (lCons (eImm (eVar 12)) (lNil)))) (d := .list [.bool (stillB T l), .bool (stillB T l)])
    (by simp only [run_lst, run_lcons, run_lnil, run_call, run_var, h4, h5, Option.bind_some, Option.map_some, hb, run_still ho, List.length_cons, List.length_nil, hf, ↓reduceIte])
    (by simp only [run_lst, run_lcons, run_lnil, run_imm, run_var, h12, Option.bind_some, Option.map_some, imm_bool, List.length_cons, List.length_nil, hf, ↓reduceIte])
    (by simp) (by simp) (by simp)
  unfold L12
  simp only [run_sIf, run_tB, key, Option.bind_some, boolOf_bool, Option.map_some, Bool.false_eq_true, ↓reduceIte, run_next]
def L13 : SF := (sIf (tB (e2 (eqD true) (eVar 13) (eVar 12))) (sRet (eC (.bool false))) (sNext))
theorem L13_run {b : Bool} {ρ : DL.Env} (h12 : ρ[12]? = some (some (.bool b))) (h13 : ρ[13]? = some (some (.bool b))) : L13 ρ S = some (.nx ρ, S) := by
  unfold L13
  simp only [run_sIf, run_tB, run_2, run_var, h12, h13, Option.bind_some, Option.map_some, run_eqB, ↓reduceIte, BEq.rfl, Bool.not_true, boolOf_bool, Bool.false_eq_true, run_next]
def L14 : SF := (sIf (tB (e2 (eqD true) (eVar 11) (eLst (lNil)))) (sSeq (sAsg (eCallM d_law_of (lCons (eVar 11) (lNil))) (gTup [gName 14, gName 15, gName 16])) (sIf (tB (e2 (eqD true) (e1 reprD (eCall d_moved_thing (lCons (eVar 5) (lCons (eVar 15) (lCons (eVar 16) (lNil)))))) (e1 reprD (eVar 14)))) (sRet (eC (.bool false))) (sNext))) (sNext))
theorem L14_run (ho : Od n l) (hn : n ≤ 100) : ∃ y14 y15 y16 S', L14 (E21 x2 x3 x4 (some (nT l)) x6 x7 x8 x9 x10 (some (.list (movesD l))) x12 x13 x14 x15 x16 x17 x18 x19 x20) S = some (.nx (E21 x2 x3 x4 (some (nT l)) x6 x7 x8 x9 x10 (some (.list (movesD l))) x12 x13 y14 y15 y16 x17 x18 x19 x20), S') := by
  have hl := ho.len
  have hx : ∀ x ∈ movesD l, tidy x = true ∧ PyData.depth x ≤ 63 := fun x hx => by
    obtain ⟨⟨i, j⟩, hp, rfl⟩ := List.mem_map.mp hx
    obtain ⟨h1, h2, h3⟩ := mem_pairs.mp hp
    obtain ⟨f1, f2, f3⟩ := nT_facts (od_small (mv_od ho (j := j) h1) hn)
    constructor
    · unfold encM
      rw [tidy_tuple, tidyAll_cons, tidyAll_cons, tidyAll_cons, tidyAll_nil, f1, tidy_nI (by omega), tidy_nI (by omega)]
      rfl
    · unfold encM
      simp only [depth_tuple, depthAll_cons, depth_int, depthAll_nil]
      omega
  have h0 : fit ([] : List D).length = true := rfl
  unfold L14
  simp only [run_sIf, run_tB, run_2, run_var, List.getElem?_cons_succ, List.getElem?_cons_zero, Option.bind_some, Option.map_some, run_lst, run_lnil, h0, ↓reduceIte, run_neNil (tidyAll_iff.mpr fun x h => (hx x h).1) (depthAll_le fun x h => (hx x h).2), boolOf_bool]
  by_cases he : movesD l = []
  · refine ⟨x14, x15, x16, S, ?_⟩
    rw [he]
    rfl
  · have he' : (movesD l).isEmpty = false := by
      cases q : movesD l with
      | nil => exact absurd q he
      | cons => rfl
    obtain ⟨k, x, S1, h1, h2⟩ := law_ofL (m := d_law_pick) picks (S := S) he (by have := moves_len hl; omega) imm_moves
    obtain ⟨⟨i, j⟩, hp, rfl⟩ := List.mem_map.mp (List.mem_of_getElem? h1)
    obtain ⟨hi, hj, hne⟩ := mem_pairs.mp hp
    have h2' : d_law_of [.list (movesD l)] S = some (encM l (i, j), S1) := h2
    refine ⟨some (nT (mv l i j)), some (nI i), some (nI j), S1, ?_⟩
    obtain ⟨f1, f2, f3⟩ := nT_facts (od_small (mv_od ho (j := j) hi) hn)
    have ho' := mv_od ho (j := j) hi
    have key := run_neRepr (S := S1) (ρ := E21 x2 x3 x4 (some (nT l)) x6 x7 x8 x9 x10 (some (.list (movesD l))) x12 x13 (some (nT (mv l i j))) (some (nI i)) (some (nI j)) x17 x18 x19 x20) (f := eCall d_moved_thing (lCons (eVar 5) (lCons (eVar 15) (lCons (eVar 16) (lNil))))) (g := eVar 14) (d := nT (mv l i j))
      (by simp only [run_lcons, run_lnil, run_call, run_var, List.getElem?_cons_succ, List.getElem?_cons_zero, Option.bind_some, Option.map_some, run_moved (x := l[i]) hl (List.getElem?_eq_getElem hi)])
      (by simp only [run_var, List.getElem?_cons_succ, List.getElem?_cons_zero, Option.bind_some, Option.map_some])
      f1 (by rw [f2]; have := ho'.len; omega) (by omega)
    simp only [he', Bool.not_false, ↓reduceIte, run_seq, run_asg, run_callM, run_lcons, run_lnil, run_var, List.getElem?_cons_succ, List.getElem?_cons_zero, Option.bind_some, Option.map_some, h2', encM, run_gTup, run_gAll, run_gAll0, run_gName, List.set_cons_succ, List.set_cons_zero, seqO_nx, run_sIf, run_tB, key, boolOf_bool, Bool.false_eq_true, run_next]
/-! the rows by moves, as the law makes them -/
def enc4 (l : List Nat) (p : Nat × Nat × Nat) : D := .tuple [nI p.1, nI p.2.1, nI p.2.2, nT (mv l p.2.1 p.2.2)]
theorem lt_enc4 (p q : Nat × Nat × Nat) (h : p.2 ≠ q.2) : W.dataLt (enc4 l p) (enc4 l q) = lt3 p q := by
  obtain ⟨a, b, c⟩ := p
  obtain ⟨x, y, z⟩ := q
  unfold enc4 lt3
  simp only [lt_cons, Int.natCast_inj, int_lt]
  by_cases h1 : a = x
  · by_cases h2 : b = y
    · by_cases h3 : c = z
      · exact absurd (by rw [h2, h3]) h
      · simp [h1, h2, h3]
    · simp [h1, h2]
  · simp [h1]
theorem run_best4 {x : Nat × Nat × Nat} {xs : List (Nat × Nat × Nat)} (h : tri T l = x :: xs) : bestD minF (.list ((tri T l).map (enc4 l))) S = some (enc4 l (min3 x xs), S) := by
  have hp : (x :: xs).Pairwise fun a b => a.2 ≠ b.2 := by
    rw [← h]
    unfold tri
    exact List.Pairwise.map _ (fun a b hab => hab) (pairs_nodup l.length)
  rw [h, List.map_cons]
  rw [run_best (d := enc4 l x) (ds := xs.map (enc4 l)) rfl]
  · rw [minF_map (enc4 l) lt3 xs x]
    · rfl
    · exact hp.imp fun {a b} hab => lt_enc4 b a (Ne.symm hab)
  · refine alikes_map (xs := x :: xs) (enc := enc4 l) (fun p _ q _ => ?_) (fun p _ => rfl) (fun p _ => ?_) fun p _ => by simp [enc4, imm_tup, imm_nT]
    · have : ∀ a b : List Nat, W.alikeAll (a.map fun a => nI a) (b.map fun a => nI a) = true := fun a => by
        induction a with
        | nil => intro b; simp [W.alikeAll]
        | cons a r ih =>
          intro b
          cases b with
          | nil => simp [W.alikeAll]
          | cons b s => simp [W.alikeAll, W.alike, ih]
      simp [enc4, W.alike, W.alikeAll, nT, this]
    · have : PyData.depth (nT (mv l p.2.1 p.2.2)) ≤ 1 := by
        unfold nT
        rw [depth_tuple]
        have : PyData.depthAll ((mv l p.2.1 p.2.2).map fun a => nI a) ≤ 0 := depthAll_le fun x hx => by
          obtain ⟨a, _, rfl⟩ := List.mem_map.mp hx
          simp
        omega
      unfold enc4
      simp only [depth_tuple, depthAll_cons, depth_int, depthAll_nil]
      omega
def WB : SF := (sSeq (sAsg (eComp [14, 15, 16] (wSeq (eCall d_law_moves (lCons (e2 idxD (eVar 17) (e1 negD (eC (.int 1)))) (lNil)))) (gTup [gName 14, gName 15, gName 16]) (tYes) (eTup (lCons (e1 lenD (eCall d_law_turned (lCons (eVar 4) (lCons (eVar 14) (lNil))))) (lCons (eImm (eVar 15)) (lCons (eImm (eVar 16)) (lCons (eImm (eVar 14)) (lNil))))))) (gName 19)) (sSeq (sAsg (e2 (cmD .ge) (e2 idxD (e1 (bestD minF) (eVar 19)) (eC (.int 0))) (e1 lenD (eCall d_law_turned (lCons (eVar 4) (lCons (e2 idxD (eVar 17) (e1 negD (eC (.int 1)))) (lNil)))))) (gName 18)) (sAsg (eIf (tB (eVar 18)) (eVar 17) (e2 (addD true) (eVar 17) (eLst (lCons (eImm (e2 idxD (e1 (bestD minF) (eVar 19)) (eC (.int 3)))) (lNil))))) (gName 17))))
theorem WB_run (ho : Od n l) (h2 : 2 ≤ l.length) {acc : List (List Nat)} (ha : acc.length ≤ 100000) : ∃ y14 y15 y16 y19, WB (E21 x2 x3 (some (encB n T)) x5 x6 x7 x8 x9 x10 x11 x12 x13 x14 x15 x16 (some (.list ((acc ++ [l]).map nT))) x18 x19 x20) S = some (.nx (E21 x2 x3 (some (encB n T)) x5 x6 x7 x8 x9 x10 x11 x12 x13 y14 y15 y16 (some (.list ((if stillB T l = true then acc ++ [l] else acc ++ [l] ++ [nextO T l]).map nT))) (some (.bool (stillB T l))) y19 x20), S) := by
  have hl := ho.len
  have eL : ∀ S, idxD (.list ((acc ++ [l]).map nT)) (.int (-1)) S = some (nT l, S) := fun S => by rw [List.map_append, List.map_singleton]; exact run_lastL
  have hc : compD (gTup [gName 14, gName 15, gName 16]) (tYes) (eTup (lCons (e1 lenD (eCall d_law_turned (lCons (eVar 4) (lCons (eVar 14) (lNil))))) (lCons (eImm (eVar 15)) (lCons (eImm (eVar 16)) (lCons (eImm (eVar 14)) (lNil)))))) (E21 x2 x3 (some (encB n T)) x5 x6 x7 x8 x9 x10 x11 x12 x13 none none none (some (.list ((acc ++ [l]).map nT))) x18 x19 x20) ((pairs l.length).map (encM l)) S
      = some ((pairs l.length).map fun p => enc4 l (ct T (mv l p.1 p.2), p.1, p.2), S) :=
    compD_all (encM l) (fun p => enc4 l (ct T (mv l p.1 p.2), p.1, p.2)) _ fun p hp => by
      obtain ⟨i, j⟩ := p
      obtain ⟨h1, h2, h3⟩ := mem_pairs.mp hp
      have ho' : Od n (mv l i j) := mv_od ho h1
      have hf : fit 4 = true := by decide
      refine ⟨E21 x2 x3 (some (encB n T)) x5 x6 x7 x8 x9 x10 x11 x12 x13 (some (nT (mv l i j))) (some (nI i)) (some (nI j)) (some (.list ((acc ++ [l]).map nT))) x18 x19 x20, rfl, rfl, ?_⟩
      simp only [run_tup, run_lcons, run_lnil, run_1, run_call, run_var, List.getElem?_cons_succ, List.getElem?_cons_zero, Option.bind_some, Option.map_some, run_lturned ho', run_lenL, srt_len, run_imm, imm_int, imm_nT, ↓reduceIte, List.length_cons, List.length_nil, hf]
      rfl
  have ht : (pairs l.length).map (fun p => enc4 l (ct T (mv l p.1 p.2), p.1, p.2)) = (tri T l).map (enc4 l) := by
    unfold tri
    rw [List.map_map]
    rfl
  rw [ht] at hc
  have hf : fit ((tri T l).map (enc4 l)).length = true := fit_of (by have := tri_len (T := T) hl; simp; omega)
  have hmv : seqOf (.list (movesD l)) = some ((pairs l.length).map (encM l)) := rfl
  obtain ⟨x, xs, et⟩ : ∃ x xs, tri T l = x :: xs := by
    cases q : tri T l with
    | nil =>
      have := mem_tri (T := T) (l := l) (i := 0) (j := 1) (by omega) (by omega) (by omega)
      rw [q] at this
      cases this
    | cons x xs => exact ⟨x, xs, rfl⟩
  have eb : best T l = some (min3 x xs) := by
    unfold best
    rw [et]
  have hst : stillB T l = decide (ct T l ≤ (min3 x xs).1) := by
    unfold stillB
    rw [eb]
  have hnx : nextO T l = mv l (min3 x xs).2.1 (min3 x xs).2.2 := by
    unfold nextO
    rw [eb]
  have h4 := run_best4 (T := T) (l := l) (S := S) et
  have h5 : decide (((ct T l : Nat) : Int) ≤ (((min3 x xs).1 : Nat) : Int)) = stillB T l := by
    rw [hst]
    by_cases h : ct T l ≤ (min3 x xs).1
    · rw [decide_eq_true h, decide_eq_true (by omega)]
    · rw [decide_eq_false h, decide_eq_false (by omega)]
  have h6 : ∀ S, idxD (enc4 l (min3 x xs)) (.int 0) S = some (nI (min3 x xs).1, S) := fun S => run_idxT0
  have h7 : ∀ S, idxD (enc4 l (min3 x xs)) (.int 3) S = some (nT (nextO T l), S) := fun S => by rw [hnx]; exact run_idxT3
  have hf1 : fit 1 = true := by decide
  refine ⟨x14, x15, x16, some (.list ((tri T l).map (enc4 l))), ?_⟩
  unfold WB
  simp only [run_seq, run_asg, run_comp, run_wSeq, run_call, run_lcons, run_lnil, run_2, run_1, run_c, run_neg, run_var, List.getElem?_cons_succ, List.getElem?_cons_zero, Option.bind_some, Option.map_some, eL, run_moves hl, hmv, kill_cons, kill_nil, List.set_cons_succ, List.set_cons_zero, hc, hf, ↓reduceIte, run_gName, seqO_nx, h4, h6, run_lturned ho, run_lenL, srt_len, run_cm, cm_ge, h5, run_if, run_tB, boolOf_bool]
  by_cases hs : stillB T l = true
  · rw [if_pos hs, if_pos hs]
    rfl
  · rw [if_neg hs, if_neg hs]
    have q1 : fit (((acc ++ [l]).map nT).length + [nT (nextO T l)].length) = true := fit_of (by simp; omega)
    have q2 : immAll ((acc ++ [l]).map nT) = true := immAll_map fun z _ => imm_nT z
    have q3 : immAll [nT (nextO T l)] = true := by simp [imm_nT]
    simp only [run_2, run_var, List.getElem?_cons_succ, List.getElem?_cons_zero, Option.bind_some, Option.map_some, run_lst, run_lcons, run_lnil, run_imm, run_1, run_c, h4, h7, imm_nT, ↓reduceIte, List.length_cons, List.length_nil, Nat.zero_add, hf1, run_addL]
    rw [if_pos ⟨q1, by rw [q2, q3]; rfl⟩]
    simp
end steps
end K91

/-! P91i: the law is true. -/
namespace K91
open PySem DL
variable {n : Nat} {T : Nat → Nat → Bool} {l : List Nat} {S : Src}
theorem while_rows {x2 x3 x5 x6 x7 x8 x9 x10 x11 x12 x13 x20 : Option D} : ∀ (k : Nat) (l : List Nat) (acc : List (List Nat)) (N : Nat) (x14 x15 x16 x19 : Option D), Od n l → 2 ≤ l.length → ct T l ≤ k → k + 1 < N → acc.length + k + 1 ≤ 100000 → ∃ y14 y15 y16 y19,
    whileD (tNot (tB (eVar 18))) WB N (E21 x2 x3 (some (encB n T)) x5 x6 x7 x8 x9 x10 x11 x12 x13 x14 x15 x16 (some (.list ((acc ++ [l]).map nT))) (some (.bool false)) x19 x20) S
      = some (.nx (E21 x2 x3 (some (encB n T)) x5 x6 x7 x8 x9 x10 x11 x12 x13 y14 y15 y16 (some (.list ((acc ++ obm T k l).map nT))) (some (.bool true)) y19 x20), S) := by
  have fin : ∀ (N : Nat) (ρ : DL.Env), 0 < N → ρ[18]? = some (some (.bool true)) → whileD (tNot (tB (eVar 18))) WB N ρ S = some (.nx ρ, S) := by
    intro N ρ hN h
    obtain ⟨N, rfl⟩ : ∃ M, N = M + 1 := ⟨N - 1, by omega⟩
    rw [whileD_succ]
    simp only [run_tNot, run_tB, run_var, h, Option.bind_some, Option.map_some, boolOf_bool]
    rfl
  intro k
  induction k with
  | zero =>
    intro l acc N x14 x15 x16 x19 ho h2 hk hN hs
    obtain ⟨N, rfl⟩ : ∃ M, N = M + 1 := ⟨N - 1, by omega⟩
    have z : stillB T l = true := by
      apply Classical.byContradiction
      intro z
      obtain ⟨p, _, _, _, _, h5⟩ := next_of z
      omega
    obtain ⟨y14, y15, y16, y19, hw⟩ := WB_run (T := T) (S := S) (x2 := x2) (x3 := x3) (x5 := x5) (x6 := x6) (x7 := x7) (x8 := x8) (x9 := x9) (x10 := x10) (x11 := x11) (x12 := x12) (x13 := x13) (x14 := x14) (x15 := x15) (x16 := x16) (x18 := some (.bool false)) (x19 := x19) (x20 := x20) ho h2 (acc := acc) (by omega)
    rw [z, if_pos rfl] at hw
    refine ⟨y14, y15, y16, y19, ?_⟩
    rw [whileD_succ]
    simp only [run_tNot, run_tB, run_var, List.getElem?_cons_succ, List.getElem?_cons_zero, Option.bind_some, Option.map_some, boolOf_bool, Bool.not_false, ↓reduceIte, hw, loopO_nx]
    exact fin N _ (by omega) rfl
  | succ k ih =>
    intro l acc N x14 x15 x16 x19 ho h2 hk hN hs
    obtain ⟨N, rfl⟩ : ∃ M, N = M + 1 := ⟨N - 1, by omega⟩
    obtain ⟨y14, y15, y16, y19, hw⟩ := WB_run (T := T) (S := S) (x2 := x2) (x3 := x3) (x5 := x5) (x6 := x6) (x7 := x7) (x8 := x8) (x9 := x9) (x10 := x10) (x11 := x11) (x12 := x12) (x13 := x13) (x14 := x14) (x15 := x15) (x16 := x16) (x18 := some (.bool false)) (x19 := x19) (x20 := x20) ho h2 (acc := acc) (by omega)
    unfold obm
    by_cases z : stillB T l = true
    · rw [z, if_pos rfl] at hw
      refine ⟨y14, y15, y16, y19, ?_⟩
      rw [if_pos z, whileD_succ]
      simp only [run_tNot, run_tB, run_var, List.getElem?_cons_succ, List.getElem?_cons_zero, Option.bind_some, Option.map_some, boolOf_bool, Bool.not_false, ↓reduceIte, hw, loopO_nx]
      exact fin N _ (by omega) rfl
    · obtain ⟨p, h1, h3, h4, h5, h6⟩ := next_of z
      have ho' : Od n (nextO T l) := by rw [h3]; exact mv_od ho h4
      have hl' : 2 ≤ (nextO T l).length := by rw [h3, (mv_perm h4).length_eq]; exact h2
      obtain ⟨z14, z15, z16, z19, ih⟩ := ih (nextO T l) (acc ++ [l]) N y14 y15 y16 y19 ho' hl' (by omega) (by omega) (by simp; omega)
      have z' : stillB T l = false := by simpa using z
      rw [z', if_neg (by simp)] at hw
      refine ⟨z14, z15, z16, z19, ?_⟩
      rw [if_neg z, whileD_succ]
      simp only [run_tNot, run_tB, run_var, List.getElem?_cons_succ, List.getElem?_cons_zero, Option.bind_some, Option.map_some, boolOf_bool, Bool.not_false, ↓reduceIte, hw, loopO_nx]
      rw [ih]
      simp
section steps
variable {x2 x3 x4 x5 x6 x7 x8 x9 x10 x11 x12 x13 x14 x15 x16 x17 x18 x19 x20 : Option D}
def C15 : SF := (sIf (tOr (tB (e2 (eqD true) (e1 reprD (eCall d_orders_by_moves (lCons (eVar 4) (lCons (eVar 5) (lNil))))) (e1 reprD (e1 (tupleD true) (eVar 17))))) (tB (e2 (eqD true) (eCall d_still_order (lCons (eVar 4) (lCons (eVar 5) (lNil)))) (e2 idxD (eVar 17) (e1 negD (eC (.int 1))))))) (sRet (eC (.bool false))) (sNext))
def D15 : SF := (sIf (tB (e1 (isBD true true) (eCall d_is_still_order (lCons (eVar 4) (lCons (e2 idxD (eVar 17) (e1 negD (eC (.int 1)))) (lNil)))))) (sRet (eC (.bool false))) (sNext))
def L15 : SF := (sIf (tB (e2 (cmD .lt) (eVar 3) (eC (.int 9)))) (sSeq (sPar [17, 18] (lCons (eLst (lCons (eImm (eVar 5)) (lNil))) (lCons (e2 (eqD false) (eVar 3) (eC (.int 1))) (lNil)))) (sSeq (sWhile 1000000 (tNot (tB (eVar 18))) WB) (sSeq C15 D15))) (sNext))
theorem CD_run (ho : Od n l) (hn : n ≤ 8) (hl : l.length = n) {k : Nat} (hk : ct T l ≤ k) (hk2 : k ≤ 64) {ρ : DL.Env} (h4 : ρ[4]? = some (some (encB n T))) (h5 : ρ[5]? = some (some (nT l))) (h17 : ρ[17]? = some (some (.list ((obm T k l).map nT)))) : (sSeq C15 D15) ρ S = some (.nx ρ, S) := by
  obtain ⟨pre, z, e, hz⟩ := obm_last (T := T) k l hk
  have hoz : Od n z := (obm_od k l ho z (by rw [e]; simp)).1
  have hi : immAll ((obm T k l).map nT) = true := immAll_map fun z _ => imm_nT z
  have hx : ∀ x ∈ (obm T k l).map nT, tidy x = true ∧ siz x ≤ 9 ∧ PyData.depth x ≤ 1 := fun x hx => by
    obtain ⟨y, hy, rfl⟩ := List.mem_map.mp hx
    obtain ⟨q1, q2⟩ := obm_od k l ho y hy
    obtain ⟨f1, f2, f3⟩ := nT_facts (od_small q1 (by omega))
    exact ⟨f1, by omega, f3⟩
  have hs : sizAll ((obm T k l).map nT) ≤ 1000 := by
    have h1 := sizAll_le fun x h => (hx x h).2.1
    have h2 := obm_len (T := T) k l
    rw [List.length_map] at h1
    omega
  have hd : PyData.depthAll ((obm T k l).map nT) ≤ 1 := depthAll_le fun x h => (hx x h).2.2
  have key := run_neRepr (S := S) (ρ := ρ) (f := eCall d_orders_by_moves (lCons (eVar 4) (lCons (eVar 5) (lNil)))) (g := e1 (tupleD true) (eVar 17)) (d := .tuple ((obm T k l).map nT))
    (by simp only [run_lcons, run_lnil, run_call, run_var, h4, h5, Option.bind_some, Option.map_some, run_obm (S := S) ho hk (by omega)])
    (by simp only [run_1, run_var, h17, Option.bind_some, Option.map_some, run_tuple, seqOf_list, hi, Bool.not_true, Bool.or_true, ↓reduceIte])
    (by rw [tidy_tuple]; exact tidyAll_iff.mpr fun x h => (hx x h).1) (by rw [siz_tuple]; omega) (by rw [depth_tuple]; omega)
  have eL : ∀ S, idxD (.list ((obm T k l).map nT)) (.int (-1)) S = some (nT z, S) := fun S => by rw [e, List.map_append, List.map_singleton]; exact run_lastL
  have hC : C15 ρ S = some (.nx ρ, S) := by
    unfold C15
    simp only [run_sIf, run_tOr, run_tB, key, Option.bind_some, boolOf_bool, Option.map_some, Bool.false_eq_true, ↓reduceIte, run_2, run_call, run_lcons, run_lnil, run_var, h4, h5, h17, run_stillOrder (S := S) ho hk (by omega) e, run_1, run_c, run_neg, eL, run_neT (S := S) (od_small hoz (by omega)), run_next]
  have hD : D15 ρ S = some (.nx ρ, S) := by
    unfold D15
    simp only [run_sIf, run_tB, run_1, run_call, run_lcons, run_lnil, run_2, run_var, h4, h17, Option.bind_some, Option.map_some, run_c, run_neg, eL, run_still hoz, hz, run_isB, ↓reduceIte, BEq.rfl, Bool.not_true, boolOf_bool, Bool.false_eq_true, run_next]
  rw [run_seq, hC, Option.bind_some, seqO_nx, hD]
theorem L15_run (ho : Od n l) (hn1 : 1 ≤ n) (hl : l.length = n) : ∃ y14 y15 y16 y17 y18 y19, L15 (E21 x2 (some (nI n)) (some (encB n T)) (some (nT l)) x6 x7 x8 x9 x10 x11 x12 x13 x14 x15 x16 x17 x18 x19 x20) S = some (.nx (E21 x2 (some (nI n)) (some (encB n T)) (some (nT l)) x6 x7 x8 x9 x10 x11 x12 x13 y14 y15 y16 y17 y18 y19 x20), S) := by
  by_cases h9 : n < 9
  · have hk : ct T l ≤ 64 := by
      have h1 := ct_le (T := T) l
      have : l.length * l.length ≤ 8 * 8 := Nat.mul_le_mul (by omega) (by omega)
      omega
    have hc9 : decide ((n : Int) < 9) = true := decide_eq_true (by omega)
    have hf : fit (0 + 1) = true := rfl
    have h22 : ((0 + 1 + 1 : Nat) == 0 + 1 + 1) = true := rfl
    have start : L15 (E21 x2 (some (nI n)) (some (encB n T)) (some (nT l)) x6 x7 x8 x9 x10 x11 x12 x13 x14 x15 x16 x17 x18 x19 x20) S = (whileD (tNot (tB (eVar 18))) WB 1000000 (E21 x2 (some (nI n)) (some (encB n T)) (some (nT l)) x6 x7 x8 x9 x10 x11 x12 x13 x14 x15 x16 (some (.list [nT l])) (some (.bool (decide ((n : Int) = 1)))) x19 x20) S).bind (seqO (sSeq C15 D15)) := by
      unfold L15
      rw [run_sIf]
      simp only [run_tB, run_2, run_var, List.getElem?_cons_succ, List.getElem?_cons_zero, Option.bind_some, Option.map_some, run_c, run_cm, cm_lt, hc9, boolOf_bool, ↓reduceIte]
      rw [run_seq]
      simp only [run_par, run_lcons, run_lnil, run_lst, run_imm, run_2, run_c, run_var, List.getElem?_cons_succ, List.getElem?_cons_zero, Option.bind_some, Option.map_some, imm_nT, ↓reduceIte, hf, run_eqI, Bool.false_eq_true, List.length_cons, List.length_nil, h22, setAll_cons, setAll_nil, List.set_cons_succ, List.set_cons_zero, seqO_nx]
      rw [run_seq, run_while]
    by_cases h1 : n = 1
    · subst h1
      have hst : stillB T l = true := by
        rw [stillB_iff]
        intro i j hi hj hne
        omega
      have eo : obm T 64 l = [l] := by
        show (if stillB T l = true then [l] else _) = _
        rw [if_pos hst]
      refine ⟨x14, x15, x16, some (.list [nT l]), some (.bool true), x19, ?_⟩
      rw [start]
      have hw : whileD (tNot (tB (eVar 18))) WB 1000000 (E21 x2 (some (nI 1)) (some (encB 1 T)) (some (nT l)) x6 x7 x8 x9 x10 x11 x12 x13 x14 x15 x16 (some (.list [nT l])) (some (.bool (decide (((1 : Nat) : Int) = 1)))) x19 x20) S = some (.nx (E21 x2 (some (nI 1)) (some (encB 1 T)) (some (nT l)) x6 x7 x8 x9 x10 x11 x12 x13 x14 x15 x16 (some (.list [nT l])) (some (.bool true)) x19 x20), S) := by
        rw [show (1000000 : Nat) = 999999 + 1 from rfl, whileD_succ]
        simp only [run_tNot, run_tB, run_var, List.getElem?_cons_succ, List.getElem?_cons_zero, Option.bind_some, Option.map_some, boolOf_bool]
        rfl
      rw [hw]
      exact CD_run ho (by omega) hl hk (Nat.le_refl 64) rfl rfl (by rw [eo]; rfl)
    · have hne : decide ((n : Int) = 1) = false := decide_eq_false (by omega)
      obtain ⟨y14, y15, y16, y19, hw⟩ := while_rows (n := n) (T := T) (S := S) (x2 := x2) (x3 := some (nI n)) (x5 := some (nT l)) (x6 := x6) (x7 := x7) (x8 := x8) (x9 := x9) (x10 := x10) (x11 := x11) (x12 := x12) (x13 := x13) (x20 := x20) 64 l [] 1000000 x14 x15 x16 x19 ho (by omega) hk (by omega) (by simp)
      refine ⟨y14, y15, y16, some (.list ((obm T 64 l).map nT)), some (.bool true), y19, ?_⟩
      rw [start, hne]
      rw [List.nil_append, List.nil_append, List.map_singleton] at hw
      rw [hw]
      exact CD_run ho (by omega) hl hk (Nat.le_refl 64) rfl rfl rfl
  · refine ⟨x14, x15, x16, x17, x18, x19, ?_⟩
    have hc9 : decide ((n : Int) < 9) = false := decide_eq_false (by omega)
    unfold L15
    rw [run_sIf]
    simp only [run_tB, run_2, run_var, List.getElem?_cons_succ, List.getElem?_cons_zero, Option.bind_some, Option.map_some, run_c, run_cm, cm_lt, hc9, boolOf_bool, Bool.false_eq_true, ↓reduceIte, run_next]
end steps
def LL : SF := sSeq L1 (sSeq L2 (sSeq L3 (sSeq L4 (sSeq (sAsg (eTup (lNil)) (gName 7)) (sSeq L5 (sSeq L6 (sSeq L7 (sSeq L8 (sSeq L9 (sSeq L10 (sSeq L11 (sSeq L12 (sSeq L13 (sSeq L14 L15))))))))))))))
def FIN : EF := (e2 (eqD false) (eCall d_built_order (lCons (eTup (lCons (eTup (lCons (eC (.int 0)) (lCons (eC (.int 1)) (lCons (eC (.int 0)) (lNil))))) (lCons (eTup (lCons (eC (.int 0)) (lCons (eC (.int 0)) (lCons (eC (.int 1)) (lNil))))) (lCons (eTup (lCons (eC (.int 1)) (lCons (eC (.int 0)) (lCons (eC (.int 0)) (lNil))))) (lNil))))) (lNil))) (eTup (lCons (eC (.int 2)) (lCons (eC (.int 0)) (lCons (eC (.int 1)) (lNil))))))
theorem law_is : b_law = sSeq (sFor (wRange1 (eC (.int 5))) (gName 2) LL) (sRet FIN) := rfl
theorem LL_run {k : Nat} (hk : k < 5) {x3 x4 x5 x6 x7 x8 x9 x10 x11 x12 x13 x14 x15 x16 x17 x18 x19 x20 : Option D} : ∃ y3 y4 y5 y6 y7 y8 y9 y10 y11 y12 y13 y14 y15 y16 y17 y18 y19 y20 S', LL (E21 (some (nI k)) x3 x4 x5 x6 x7 x8 x9 x10 x11 x12 x13 x14 x15 x16 x17 x18 x19 x20) S = some (.nx (E21 (some (nI k)) y3 y4 y5 y6 y7 y8 y9 y10 y11 y12 y13 y14 y15 y16 y17 y18 y19 y20), S') := by
  obtain ⟨m, S1, hm, r1⟩ := L1_run (S := S) (x3 := x3) (x4 := x4) (x5 := x5) (x6 := x6) (x7 := x7) (x8 := x8) (x9 := x9) (x10 := x10) (x11 := x11) (x12 := x12) (x13 := x13) (x14 := x14) (x15 := x15) (x16 := x16) (x17 := x17) (x18 := x18) (x19 := x19) (x20 := x20) hk
  obtain ⟨T, o, S2, ht, hp, r2⟩ := L2_run (n := m + 1) (S := S1) (x2 := some (nI k)) (x4 := x4) (x5 := x5) (x6 := x6) (x7 := x7) (x8 := x8) (x9 := x9) (x10 := x10) (x11 := x11) (x12 := x12) (x13 := x13) (x14 := x14) (x15 := x15) (x16 := x16) (x17 := x17) (x18 := x18) (x19 := x19) (x20 := x20) (by omega)
  have hl : o.length = m + 1 := by rw [hp.length_eq, List.length_range]
  have ho : Od (m + 1) o := ⟨fun a ha => List.mem_range.mp (hp.mem_iff.mp ha), by omega⟩
  have nd : o.Nodup := hp.nodup_iff.mpr List.nodup_range
  obtain ⟨y8, y9, y20, r5⟩ := L5_run (n := m + 1) (T := T) (S := S2) (x2 := some (nI k)) (x5 := some (nT o)) (x6 := some (.list (srt T o))) (x8 := x8) (x9 := x9) (x10 := x10) (x11 := x11) (x12 := x12) (x13 := x13) (x14 := x14) (x15 := x15) (x16 := x16) (x17 := x17) (x18 := x18) (x19 := x19) (x20 := x20) (by omega)
  obtain ⟨y14, y15, y16, S3, r14⟩ := L14_run (n := m + 1) (l := o) (S := S2) (x2 := some (nI k)) (x3 := some (nI (m + 1))) (x4 := some (encB (m + 1) T)) (x6 := some (.list (srt T o))) (x7 := some (nT (built T (m + 1)))) (x8 := y8) (x9 := y9) (x10 := some (nI (m * m / 4))) (x12 := some (.bool (stillB T o))) (x13 := some (.bool (halfB T o))) (x14 := x14) (x15 := x15) (x16 := x16) (x17 := x17) (x18 := x18) (x19 := x19) (x20 := y20) ho (by omega)
  obtain ⟨z14, z15, z16, z17, z18, z19, r15⟩ := L15_run (n := m + 1) (T := T) (l := o) (S := S3) (x2 := some (nI k)) (x6 := some (.list (srt T o))) (x7 := some (nT (built T (m + 1)))) (x8 := y8) (x9 := y9) (x10 := some (nI (m * m / 4))) (x11 := some (.list (movesD o))) (x12 := some (.bool (stillB T o))) (x13 := some (.bool (halfB T o))) (x14 := y14) (x15 := y15) (x16 := y16) (x17 := x17) (x18 := x18) (x19 := x19) (x20 := y20) ho (by omega) hl
  refine ⟨some (nI (m + 1)), some (encB (m + 1) T), some (nT o), some (.list (srt T o)), some (nT (built T (m + 1))), y8, y9, some (nI (m * m / 4)), some (.list (movesD o)), some (.bool (stillB T o)), some (.bool (halfB T o)), z14, z15, z16, z17, z18, z19, y20, S3, ?_⟩
  unfold LL
  rw [run_seq, r1, Option.bind_some, seqO_nx, run_seq, r2, Option.bind_some, seqO_nx, run_seq, L3_run ho, Option.bind_some, seqO_nx, run_seq, L4_run ho (by omega) rfl rfl rfl, Option.bind_some, seqO_nx]
  rw [run_seq]
  have h0 : fit ([] : List D).length = true := rfl
  simp only [run_asg, run_tup, run_lnil, Option.bind_some, h0, ↓reduceIte, run_gName, List.set_cons_succ, List.set_cons_zero, seqO_nx]
  rw [run_seq, show (PyData.tuple [] : D) = nT [] from rfl, r5, Option.bind_some, seqO_nx, run_seq, L6_run (m := m) (by omega) rfl, Option.bind_some, seqO_nx]
  simp only [List.set_cons_succ, List.set_cons_zero]
  rw [run_seq, L7_run (m := m) (T := T) (by omega) rfl rfl rfl rfl, Option.bind_some, seqO_nx, run_seq, L8_run (m := m) (by omega) ht rfl rfl rfl, Option.bind_some, seqO_nx, run_seq, L9_run (l := o) ho.len rfl, Option.bind_some, seqO_nx]
  simp only [List.set_cons_succ, List.set_cons_zero]
  rw [run_seq, L10_run ho (by omega), Option.bind_some, seqO_nx, run_seq, L11_run ho rfl rfl, Option.bind_some, seqO_nx]
  simp only [List.set_cons_succ, List.set_cons_zero]
  rw [run_seq, L12_run ht ho nd rfl rfl rfl, Option.bind_some, seqO_nx, run_seq, L13_run (b := stillB T o) rfl (by rw [halfB_still ht ho nd]; rfl), Option.bind_some, seqO_nx, run_seq, r14, Option.bind_some, seqO_nx, r15]
def T0 (a b : Nat) : Bool := (a == 0 && b == 1) || (a == 1 && b == 2) || (a == 2 && b == 0)
theorem FIN_run (ρ : DL.Env) : FIN ρ S = some (.bool true, S) := by
  have h1 : (eTup (lCons (eTup (lCons (eC (.int 0)) (lCons (eC (.int 1)) (lCons (eC (.int 0)) (lNil))))) (lCons (eTup (lCons (eC (.int 0)) (lCons (eC (.int 0)) (lCons (eC (.int 1)) (lNil))))) (lCons (eTup (lCons (eC (.int 1)) (lCons (eC (.int 0)) (lCons (eC (.int 0)) (lNil))))) (lNil))))) ρ S = some (encB 3 T0, S) := rfl
  have h2 : (eTup (lCons (eC (.int 2)) (lCons (eC (.int 0)) (lCons (eC (.int 1)) (lNil))))) ρ S = some (nT [2, 0, 1], S) := rfl
  have h3 : built T0 3 = [2, 0, 1] := by decide
  unfold FIN
  simp only [run_2, run_call, run_lcons, run_lnil, h1, h2, Option.bind_some, run_built (T := T0) (n := 3) (by omega), h3]
  obtain ⟨f1, f2, f3⟩ := nT_facts (l := [2, 0, 1]) (by decide)
  have h4 : PyData.eqv (nT [2, 0, 1]) (nT [2, 0, 1]) = true := by
    unfold nT
    rw [PyData.eqv]
    exact eqv_nIs _
  rw [run_eq (tidy_shaped f1 (by omega)) (tidy_shaped f1 (by omega)), h4]
  rfl
theorem law_true (ns : List Int) (_ : ns.length ≤ 63) : runLaw 21 b_law ns = some (.bool true) := by
  unfold runLaw
  rw [law_is, run_seq, run_for]
  have hr : rng62 5 = true := by decide
  have er : rngD 0 5 = (List.range 5).map fun i => nI i := rng_nat 5
  simp only [run_wRange1, run_c, Option.bind_some, intOf_int, hr, ↓reduceIte, er]
  obtain ⟨ρ', S', h1, x2, x3, x4, x5, x6, x7, x8, x9, x10, x11, x12, x13, x14, x15, x16, x17, x18, x19, x20, rfl⟩ := forD_inv (b := turnD (gName 2) LL) (fun a : Nat => nI a)
    (fun pre ρ S' => ∃ x2 x3 x4 x5 x6 x7 x8 x9 x10 x11 x12 x13 x14 x15 x16 x17 x18 x19 x20, ρ = E21 x2 x3 x4 x5 x6 x7 x8 x9 x10 x11 x12 x13 x14 x15 x16 x17 x18 x19 x20) (List.range 5)
    (fun pre k suf ρ S' e h => by
      obtain ⟨x2, x3, x4, x5, x6, x7, x8, x9, x10, x11, x12, x13, x14, x15, x16, x17, x18, x19, x20, rfl⟩ := h
      obtain ⟨rfl, hk⟩ := range_split e
      obtain ⟨y3, y4, y5, y6, y7, y8, y9, y10, y11, y12, y13, y14, y15, y16, y17, y18, y19, y20, S3, r⟩ := LL_run (S := S') (x3 := x3) (x4 := x4) (x5 := x5) (x6 := x6) (x7 := x7) (x8 := x8) (x9 := x9) (x10 := x10) (x11 := x11) (x12 := x12) (x13 := x13) (x14 := x14) (x15 := x15) (x16 := x16) (x17 := x17) (x18 := x18) (x19 := x19) (x20 := x20) hk
      exact ⟨_, S3, .inl r, _, _, _, _, _, _, _, _, _, _, _, _, _, _, _, _, _, _, _, rfl⟩) [] (List.range 5) rfl (List.replicate 21 none) (openS ns) ⟨none, none, none, none, none, none, none, none, none, none, none, none, none, none, none, none, none, none, none, rfl⟩
  rw [h1, Option.bind_some, seqO_nx, run_ret, FIN_run]
  rfl
end K91

namespace K91
open PySem PySem.Spec PyProof.Rows L2 DL
theorem all_mk (hrun : ∀ ns : List Int, ns.length ≤ 63 → runLaw 21 b_law ns = some (.bool true)) {P : Program} {w : World} {K : PySem.W.Frag} {h : Heap} {mg : Str → Option Value} {fa f1 f2 f3 f4 f5 f6 f7 f8 f9 f10 f11 f12 f13 f14 f15 f16 f17 f18 f19 f20 f21 f22 f23 : Addr} (X : K.In h) (G : h.Ns mainGlobals mg) (hfa : mg "law" = some (.ref fa))
    {od1 an1 od2 an2 od3 an3 od4 an4 od5 an5 od6 an6 od7 an7 od8 an8 od9 an9 od10 an10 od11 an11 od12 an12 od13 an13 od14 an14 od15 an15 od16 an16 od17 an17 od18 an18 od19 an19 od20 an20 od21 an21 od22 an22 od23 an23 : Option Addr} {sl1 sl2 sl3 sl4 sl5 sl6 sl7 sl8 sl9 sl10 sl11 sl12 sl13 sl14 sl15 sl16 sl17 sl18 sl19 sl20 sl21 sl22 sl23 : Array (Option Value)} {oc1 kV1 dc1 pm1 cd1 ct1 oc2 kV2 dc2 pm2 cd2 ct2 oc3 kV3 dc3 pm3 cd3 ct3 oc4 kV4 dc4 pm4 cd4 ct4 oc5 kV5 dc5 pm5 cd5 ct5 oc6 kV6 dc6 pm6 cd6 ct6 oc7 kV7 dc7 pm7 cd7 ct7 oc8 kV8 dc8 pm8 cd8 ct8 oc9 kV9 dc9 pm9 cd9 ct9 oc10 kV10 dc10 pm10 cd10 ct10 oc11 kV11 dc11 pm11 cd11 ct11 oc12 kV12 dc12 pm12 cd12 ct12 oc13 kV13 dc13 pm13 cd13 ct13 oc14 kV14 dc14 pm14 cd14 ct14 oc15 kV15 dc15 pm15 cd15 ct15 oc16 kV16 dc16 pm16 cd16 ct16 oc17 kV17 dc17 pm17 cd17 ct17 oc18 kV18 dc18 pm18 cd18 ct18 oc19 kV19 dc19 pm19 cd19 ct19 oc20 kV20 dc20 pm20 cd20 ct20 oc21 kV21 dc21 pm21 cd21 ct21 oc22 kV22 dc22 pm22 cd22 ct22 oc23 kV23 dc23 pm23 cd23 ct23 : Value}
    (a1 : PySem.W.nsIn K mainGlobals "turned_beats" = some (some (.ref f1))) (l1 : K.lookup f1 = some ⟨oc1, od1, .func (PySem.W.fnOf "turned_beats" "turned_beats" (defArgs s_turned_beats) (defBody s_turned_beats) (defScope s_turned_beats) .none kV1 dc1 pm1 an1 cd1 ct1), sl1⟩) (c1 : PySem.W.codeIn K cd1 "turned_beats" = true) (k1 : PySem.W.keepIn K (.ref f1) = true)
    (a2 : PySem.W.nsIn K mainGlobals "count_turned" = some (some (.ref f2))) (l2 : K.lookup f2 = some ⟨oc2, od2, .func (PySem.W.fnOf "count_turned" "count_turned" (defArgs s_count_turned) (defBody s_count_turned) (defScope s_count_turned) .none kV2 dc2 pm2 an2 cd2 ct2), sl2⟩) (c2 : PySem.W.codeIn K cd2 "count_turned" = true) (k2 : PySem.W.keepIn K (.ref f2) = true)
    (a3 : PySem.W.nsIn K mainGlobals "turns_bound" = some (some (.ref f3))) (l3 : K.lookup f3 = some ⟨oc3, od3, .func (PySem.W.fnOf "turns_bound" "turns_bound" (defArgs s_turns_bound) (defBody s_turns_bound) (defScope s_turns_bound) .none kV3 dc3 pm3 an3 cd3 ct3), sl3⟩) (c3 : PySem.W.codeIn K cd3 "turns_bound" = true) (k3 : PySem.W.keepIn K (.ref f3) = true)
    (a4 : PySem.W.nsIn K mainGlobals "built_order" = some (some (.ref f4))) (l4 : K.lookup f4 = some ⟨oc4, od4, .func (PySem.W.fnOf "built_order" "built_order" (defArgs s_built_order) (defBody s_built_order) (defScope s_built_order) .none kV4 dc4 pm4 an4 cd4 ct4), sl4⟩) (c4 : PySem.W.codeIn K cd4 "built_order" = true) (k4 : PySem.W.keepIn K (.ref f4) = true)
    (a5 : PySem.W.nsIn K mainGlobals "is_half_from" = some (some (.ref f5))) (l5 : K.lookup f5 = some ⟨oc5, od5, .func (PySem.W.fnOf "is_half_from" "is_half_from" (defArgs s_is_half_from) (defBody s_is_half_from) (defScope s_is_half_from) .none kV5 dc5 pm5 an5 cd5 ct5), sl5⟩) (c5 : PySem.W.codeIn K cd5 "is_half_from" = true) (k5 : PySem.W.keepIn K (.ref f5) = true)
    (a6 : PySem.W.nsIn K mainGlobals "is_half_to" = some (some (.ref f6))) (l6 : K.lookup f6 = some ⟨oc6, od6, .func (PySem.W.fnOf "is_half_to" "is_half_to" (defArgs s_is_half_to) (defBody s_is_half_to) (defScope s_is_half_to) .none kV6 dc6 pm6 an6 cd6 ct6), sl6⟩) (c6 : PySem.W.codeIn K cd6 "is_half_to" = true) (k6 : PySem.W.keepIn K (.ref f6) = true)
    (a7 : PySem.W.nsIn K mainGlobals "has_half_ahead" = some (some (.ref f7))) (l7 : K.lookup f7 = some ⟨oc7, od7, .func (PySem.W.fnOf "has_half_ahead" "has_half_ahead" (defArgs s_has_half_ahead) (defBody s_has_half_ahead) (defScope s_has_half_ahead) .none kV7 dc7 pm7 an7 cd7 ct7), sl7⟩) (c7 : PySem.W.codeIn K cd7 "has_half_ahead" = true) (k7 : PySem.W.keepIn K (.ref f7) = true)
    (a8 : PySem.W.nsIn K mainGlobals "moved_thing" = some (some (.ref f8))) (l8 : K.lookup f8 = some ⟨oc8, od8, .func (PySem.W.fnOf "moved_thing" "moved_thing" (defArgs s_moved_thing) (defBody s_moved_thing) (defScope s_moved_thing) .none kV8 dc8 pm8 an8 cd8 ct8), sl8⟩) (c8 : PySem.W.codeIn K cd8 "moved_thing" = true) (k8 : PySem.W.keepIn K (.ref f8) = true)
    (a9 : PySem.W.nsIn K mainGlobals "best_move" = some (some (.ref f9))) (l9 : K.lookup f9 = some ⟨oc9, od9, .func (PySem.W.fnOf "best_move" "best_move" (defArgs s_best_move) (defBody s_best_move) (defScope s_best_move) .none kV9 dc9 pm9 an9 cd9 ct9), sl9⟩) (c9 : PySem.W.codeIn K cd9 "best_move" = true) (k9 : PySem.W.keepIn K (.ref f9) = true)
    (a10 : PySem.W.nsIn K mainGlobals "is_still_order" = some (some (.ref f10))) (l10 : K.lookup f10 = some ⟨oc10, od10, .func (PySem.W.fnOf "is_still_order" "is_still_order" (defArgs s_is_still_order) (defBody s_is_still_order) (defScope s_is_still_order) .none kV10 dc10 pm10 an10 cd10 ct10), sl10⟩) (c10 : PySem.W.codeIn K cd10 "is_still_order" = true) (k10 : PySem.W.keepIn K (.ref f10) = true)
    (a11 : PySem.W.nsIn K mainGlobals "orders_by_moves" = some (some (.ref f11))) (l11 : K.lookup f11 = some ⟨oc11, od11, .func (PySem.W.fnOf "orders_by_moves" "orders_by_moves" (defArgs s_orders_by_moves) (defBody s_orders_by_moves) (defScope s_orders_by_moves) .none kV11 dc11 pm11 an11 cd11 ct11), sl11⟩) (c11 : PySem.W.codeIn K cd11 "orders_by_moves" = true) (k11 : PySem.W.keepIn K (.ref f11) = true)
    (a12 : PySem.W.nsIn K mainGlobals "still_order" = some (some (.ref f12))) (l12 : K.lookup f12 = some ⟨oc12, od12, .func (PySem.W.fnOf "still_order" "still_order" (defArgs s_still_order) (defBody s_still_order) (defScope s_still_order) .none kV12 dc12 pm12 an12 cd12 ct12), sl12⟩) (c12 : PySem.W.codeIn K cd12 "still_order" = true) (k12 : PySem.W.keepIn K (.ref f12) = true)
    (a13 : PySem.W.nsIn K mainGlobals "_law_open_cells" = some (some (.ref f13))) (l13 : K.lookup f13 = some ⟨oc13, od13, .func (PySem.W.fnOf "_law_open_cells" "_law_open_cells" (defArgs s_law_open_cells) (defBody s_law_open_cells) (defScope s_law_open_cells) .none kV13 dc13 pm13 an13 cd13 ct13), sl13⟩) (c13 : PySem.W.codeIn K cd13 "_law_open_cells" = true) (k13 : PySem.W.keepIn K (.ref f13) = true)
    (a14 : PySem.W.nsIn K mainGlobals "_law_pick" = some (some (.ref f14))) (l14 : K.lookup f14 = some ⟨oc14, od14, .func (PySem.W.fnOf "_law_pick" "_law_pick" (defArgs s_law_pick) (defBody s_law_pick) (defScope s_law_pick) .none kV14 dc14 pm14 an14 cd14 ct14), sl14⟩) (c14 : PySem.W.codeIn K cd14 "_law_pick" = true) (k14 : PySem.W.keepIn K (.ref f14) = true)
    (a15 : PySem.W.nsIn K mainGlobals "_law_any_order" = some (some (.ref f15))) (l15 : K.lookup f15 = some ⟨oc15, od15, .func (PySem.W.fnOf "_law_any_order" "_law_any_order" (defArgs s_law_any_order) (defBody s_law_any_order) (defScope s_law_any_order) .none kV15 dc15 pm15 an15 cd15 ct15), sl15⟩) (c15 : PySem.W.codeIn K cd15 "_law_any_order" = true) (k15 : PySem.W.keepIn K (.ref f15) = true)
    (a16 : PySem.W.nsIn K mainGlobals "_law_of" = some (some (.ref f16))) (l16 : K.lookup f16 = some ⟨oc16, od16, .func (PySem.W.fnOf "_law_of" "_law_of" (defArgs s_law_of) (defBody s_law_of) (defScope s_law_of) .none kV16 dc16 pm16 an16 cd16 ct16), sl16⟩) (c16 : PySem.W.codeIn K cd16 "_law_of" = true) (k16 : PySem.W.keepIn K (.ref f16) = true)
    (a17 : PySem.W.nsIn K mainGlobals "_law_row" = some (some (.ref f17))) (l17 : K.lookup f17 = some ⟨oc17, od17, .func (PySem.W.fnOf "_law_row" "_law_row" (defArgs s_law_row) (defBody s_law_row) (defScope s_law_row) .none kV17 dc17 pm17 an17 cd17 ct17), sl17⟩) (c17 : PySem.W.codeIn K cd17 "_law_row" = true) (k17 : PySem.W.keepIn K (.ref f17) = true)
    (a18 : PySem.W.nsIn K mainGlobals "_law_rows" = some (some (.ref f18))) (l18 : K.lookup f18 = some ⟨oc18, od18, .func (PySem.W.fnOf "_law_rows" "_law_rows" (defArgs s_law_rows) (defBody s_law_rows) (defScope s_law_rows) .none kV18 dc18 pm18 an18 cd18 ct18), sl18⟩) (c18 : PySem.W.codeIn K cd18 "_law_rows" = true) (k18 : PySem.W.keepIn K (.ref f18) = true)
    (a19 : PySem.W.nsIn K mainGlobals "_law_beats" = some (some (.ref f19))) (l19 : K.lookup f19 = some ⟨oc19, od19, .func (PySem.W.fnOf "_law_beats" "_law_beats" (defArgs s_law_beats) (defBody s_law_beats) (defScope s_law_beats) .none kV19 dc19 pm19 an19 cd19 ct19), sl19⟩) (c19 : PySem.W.codeIn K cd19 "_law_beats" = true) (k19 : PySem.W.keepIn K (.ref f19) = true)
    (a20 : PySem.W.nsIn K mainGlobals "_law_turned" = some (some (.ref f20))) (l20 : K.lookup f20 = some ⟨oc20, od20, .func (PySem.W.fnOf "_law_turned" "_law_turned" (defArgs s_law_turned) (defBody s_law_turned) (defScope s_law_turned) .none kV20 dc20 pm20 an20 cd20 ct20), sl20⟩) (c20 : PySem.W.codeIn K cd20 "_law_turned" = true) (k20 : PySem.W.keepIn K (.ref f20) = true)
    (a21 : PySem.W.nsIn K mainGlobals "_law_halves" = some (some (.ref f21))) (l21 : K.lookup f21 = some ⟨oc21, od21, .func (PySem.W.fnOf "_law_halves" "_law_halves" (defArgs s_law_halves) (defBody s_law_halves) (defScope s_law_halves) .none kV21 dc21 pm21 an21 cd21 ct21), sl21⟩) (c21 : PySem.W.codeIn K cd21 "_law_halves" = true) (k21 : PySem.W.keepIn K (.ref f21) = true)
    (a22 : PySem.W.nsIn K mainGlobals "_law_moves" = some (some (.ref f22))) (l22 : K.lookup f22 = some ⟨oc22, od22, .func (PySem.W.fnOf "_law_moves" "_law_moves" (defArgs s_law_moves) (defBody s_law_moves) (defScope s_law_moves) .none kV22 dc22 pm22 an22 cd22 ct22), sl22⟩) (c22 : PySem.W.codeIn K cd22 "_law_moves" = true) (k22 : PySem.W.keepIn K (.ref f22) = true)
    (a23 : PySem.W.nsIn K mainGlobals "law" = some (some (.ref f23))) (l23 : K.lookup f23 = some ⟨oc23, od23, .func (PySem.W.fnOf "law" "law" (defArgs s_law) (defBody s_law) (defScope s_law) .none kV23 dc23 pm23 an23 cd23 ct23), sl23⟩) (c23 : PySem.W.codeIn K cd23 "law" = true) (k23 : PySem.W.keepIn K (.ref f23) = true)
    (z1 : PySem.W.nsIn K mainGlobals "abs" = some none) (z2 : PySem.W.nsIn K mainGlobals "all" = some none) (z3 : PySem.W.nsIn K mainGlobals "enumerate" = some none) (z4 : PySem.W.nsIn K mainGlobals "int" = some none) (z5 : PySem.W.nsIn K mainGlobals "len" = some none) (z6 : PySem.W.nsIn K mainGlobals "list" = some none) (z7 : PySem.W.nsIn K mainGlobals "min" = some none) (z8 : PySem.W.nsIn K mainGlobals "range" = some none) (z9 : PySem.W.nsIn K mainGlobals "repr" = some none) (z10 : PySem.W.nsIn K mainGlobals "sorted" = some none) (z11 : PySem.W.nsIn K mainGlobals "sum" = some none) (z12 : PySem.W.nsIn K mainGlobals "tuple" = some none) :
    ∀ base : Heap, K.In base → base.Ns mainGlobals mg → At1 P w K mg base fa 63 := by
  intro base _ _
  have e := hfa.symm.trans (PySem.W.mg_of X G a23)
  cases e
  have B : Blt mg := ⟨PySem.W.mg_none_of X G z1, PySem.W.mg_none_of X G z2, PySem.W.mg_none_of X G z3, PySem.W.mg_none_of X G z4, PySem.W.mg_none_of X G z5, PySem.W.mg_none_of X G z6, PySem.W.mg_none_of X G z7, PySem.W.mg_none_of X G z8, PySem.W.mg_none_of X G z9, PySem.W.mg_none_of X G z10, PySem.W.mg_none_of X G z11, PySem.W.mg_none_of X G z12⟩
  have C_turned_beats := ok_turned_beats (P := P) (w := w) (base := base) B  (fun_mk (st := s_turned_beats) l1 c1 k1) (PySem.W.mg_of X G a1)
  have C_turns_bound := ok_turns_bound (P := P) (w := w) (base := base) B  (fun_mk (st := s_turns_bound) l3 c3 k3) (PySem.W.mg_of X G a3)
  have C_built_order := ok_built_order (P := P) (w := w) (base := base) B  (fun_mk (st := s_built_order) l4 c4 k4) (PySem.W.mg_of X G a4)
  have C_is_half_from := ok_is_half_from (P := P) (w := w) (base := base) B  (fun_mk (st := s_is_half_from) l5 c5 k5) (PySem.W.mg_of X G a5)
  have C_is_half_to := ok_is_half_to (P := P) (w := w) (base := base) B  (fun_mk (st := s_is_half_to) l6 c6 k6) (PySem.W.mg_of X G a6)
  have C_moved_thing := ok_moved_thing (P := P) (w := w) (base := base) B  (fun_mk (st := s_moved_thing) l8 c8 k8) (PySem.W.mg_of X G a8)
  have C_law_open_cells := ok_law_open_cells (P := P) (w := w) (base := base) B  (fun_mk (st := s_law_open_cells) l13 c13 k13) (PySem.W.mg_of X G a13)
  have C_law_pick := ok_law_pick (P := P) (w := w) (base := base) B  (fun_mk (st := s_law_pick) l14 c14 k14) (PySem.W.mg_of X G a14)
  have C_law_rows := ok_law_rows (P := P) (w := w) (base := base) B  (fun_mk (st := s_law_rows) l18 c18 k18) (PySem.W.mg_of X G a18)
  have C_law_turned := ok_law_turned (P := P) (w := w) (base := base) B  (fun_mk (st := s_law_turned) l20 c20 k20) (PySem.W.mg_of X G a20)
  have C_law_halves := ok_law_halves (P := P) (w := w) (base := base) B  (fun_mk (st := s_law_halves) l21 c21 k21) (PySem.W.mg_of X G a21)
  have C_law_moves := ok_law_moves (P := P) (w := w) (base := base) B  (fun_mk (st := s_law_moves) l22 c22 k22) (PySem.W.mg_of X G a22)
  have C_count_turned := ok_count_turned (P := P) (w := w) (base := base) B C_turned_beats (fun_mk (st := s_count_turned) l2 c2 k2) (PySem.W.mg_of X G a2)
  have C_has_half_ahead := ok_has_half_ahead (P := P) (w := w) (base := base) B C_is_half_from C_is_half_to (fun_mk (st := s_has_half_ahead) l7 c7 k7) (PySem.W.mg_of X G a7)
  have C_law_any_order := ok_law_any_order (P := P) (w := w) (base := base) B C_law_pick (fun_mk (st := s_law_any_order) l15 c15 k15) (PySem.W.mg_of X G a15)
  have C_law_of := ok_law_of (P := P) (w := w) (base := base) B C_law_pick (fun_mk (st := s_law_of) l16 c16 k16) (PySem.W.mg_of X G a16)
  have C_best_move := ok_best_move (P := P) (w := w) (base := base) B C_count_turned C_moved_thing (fun_mk (st := s_best_move) l9 c9 k9) (PySem.W.mg_of X G a9)
  have C_law_row := ok_law_row (P := P) (w := w) (base := base) B C_law_any_order (fun_mk (st := s_law_row) l17 c17 k17) (PySem.W.mg_of X G a17)
  have C_is_still_order := ok_is_still_order (P := P) (w := w) (base := base) B C_best_move C_count_turned (fun_mk (st := s_is_still_order) l10 c10 k10) (PySem.W.mg_of X G a10)
  have C_law_beats := ok_law_beats (P := P) (w := w) (base := base) B C_law_rows C_law_row C_law_pick (fun_mk (st := s_law_beats) l19 c19 k19) (PySem.W.mg_of X G a19)
  have C_orders_by_moves := ok_orders_by_moves (P := P) (w := w) (base := base) B C_is_still_order C_best_move C_moved_thing (fun_mk (st := s_orders_by_moves) l11 c11 k11) (PySem.W.mg_of X G a11)
  have C_still_order := ok_still_order (P := P) (w := w) (base := base) B C_orders_by_moves (fun_mk (st := s_still_order) l12 c12 k12) (PySem.W.mg_of X G a12)
  exact ok_law hrun B C_law_open_cells C_law_turned C_law_moves C_law_halves C_built_order C_law_pick C_law_beats C_law_row C_law_of C_is_still_order C_turned_beats C_count_turned C_turns_bound C_has_half_ahead C_moved_thing C_still_order C_orders_by_moves (fun_mk (st := s_law) l23 c23 k23)
end K91
open PySem PySem.W PyProof.Rows
set_option maxHeartbeats 0 in
theorem PySem.Challenge.cw_chosenbymany_k91_whole_turned_beats_and_holds : PySem.Challenge.rw_chosenbymany_k91_whole_turned_beats_and.Holds := by
  w_on; o_law; k_head; (case hw => w_witness2)
  k_fill
  refine DL.walk_own (l := PySem.Challenge.rw_chosenbymany_k91_whole_turned_beats_and) (n := 63) rfl (by decide) rfl (fun w h Y => PySem.W.kIn_of Y) ?F
  case F =>
    intro w mg fa h KX G hmg
    refine' K91.all_mk K91.law_true KX G hmg ?a1 ?l1 ?c1 ?k1 ?a2 ?l2 ?c2 ?k2 ?a3 ?l3 ?c3 ?k3 ?a4 ?l4 ?c4 ?k4 ?a5 ?l5 ?c5 ?k5 ?a6 ?l6 ?c6 ?k6 ?a7 ?l7 ?c7 ?k7 ?a8 ?l8 ?c8 ?k8 ?a9 ?l9 ?c9 ?k9 ?a10 ?l10 ?c10 ?k10 ?a11 ?l11 ?c11 ?k11 ?a12 ?l12 ?c12 ?k12 ?a13 ?l13 ?c13 ?k13 ?a14 ?l14 ?c14 ?k14 ?a15 ?l15 ?c15 ?k15 ?a16 ?l16 ?c16 ?k16 ?a17 ?l17 ?c17 ?k17 ?a18 ?l18 ?c18 ?k18 ?a19 ?l19 ?c19 ?k19 ?a20 ?l20 ?c20 ?k20 ?a21 ?l21 ?c21 ?k21 ?a22 ?l22 ?c22 ?k22 ?a23 ?l23 ?c23 ?k23 ?z1 ?z2 ?z3 ?z4 ?z5 ?z6 ?z7 ?z8 ?z9 ?z10 ?z11 ?z12
    (case a1 => k_is); (case l1 => k_is); (case c1 => k_is); (case k1 => k_is); (case a2 => k_is); (case l2 => k_is); (case c2 => k_is); (case k2 => k_is); (case a3 => k_is); (case l3 => k_is); (case c3 => k_is); (case k3 => k_is); (case a4 => k_is); (case l4 => k_is); (case c4 => k_is); (case k4 => k_is); (case a5 => k_is); (case l5 => k_is); (case c5 => k_is); (case k5 => k_is); (case a6 => k_is); (case l6 => k_is); (case c6 => k_is); (case k6 => k_is); (case a7 => k_is); (case l7 => k_is); (case c7 => k_is); (case k7 => k_is); (case a8 => k_is); (case l8 => k_is); (case c8 => k_is); (case k8 => k_is); (case a9 => k_is); (case l9 => k_is); (case c9 => k_is); (case k9 => k_is); (case a10 => k_is); (case l10 => k_is); (case c10 => k_is); (case k10 => k_is); (case a11 => k_is); (case l11 => k_is); (case c11 => k_is); (case k11 => k_is); (case a12 => k_is); (case l12 => k_is); (case c12 => k_is); (case k12 => k_is); (case a13 => k_is); (case l13 => k_is); (case c13 => k_is); (case k13 => k_is); (case a14 => k_is); (case l14 => k_is); (case c14 => k_is); (case k14 => k_is); (case a15 => k_is); (case l15 => k_is); (case c15 => k_is); (case k15 => k_is); (case a16 => k_is); (case l16 => k_is); (case c16 => k_is); (case k16 => k_is); (case a17 => k_is); (case l17 => k_is); (case c17 => k_is); (case k17 => k_is); (case a18 => k_is); (case l18 => k_is); (case c18 => k_is); (case k18 => k_is); (case a19 => k_is); (case l19 => k_is); (case c19 => k_is); (case k19 => k_is); (case a20 => k_is); (case l20 => k_is); (case c20 => k_is); (case k20 => k_is); (case a21 => k_is); (case l21 => k_is); (case c21 => k_is); (case k21 => k_is); (case a22 => k_is); (case l22 => k_is); (case c22 => k_is); (case k22 => k_is); (case a23 => k_is); (case l23 => k_is); (case c23 => k_is); (case k23 => k_is); (case z1 => k_is); (case z2 => k_is); (case z3 => k_is); (case z4 => k_is); (case z5 => k_is); (case z6 => k_is); (case z7 => k_is); (case z8 => k_is); (case z9 => k_is); (case z10 => k_is); (case z11 => k_is); (case z12 => k_is)
