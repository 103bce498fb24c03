import PyProof.Rows.All
import Wide.All
import OpenK.AllK
import Wide.FinOn
import PyProof.P3Statements
import PyProof.EqLayable
import HandS.ForMost
import HandS.SortInts
import HandS.Deep
import HandS.Conv
import HandS.Strs
import HandS.Zip
import HandS.SetFor
import PyProof.Rows.SetFrom
import HandS.SetKeys
import HandS.More
import HandS.Style
import KE.DataMinMax
import KE.SortData
import HandS.Iter
import PySem.Challenge.RW_jobsagain_k55_rows_of_runs_as_streams
set_option Elab.async false
set_option linter.all false
set_option maxRecDepth 100000
set_option maxHeartbeats 4000000
/-! Core: Python's values as trees, a def's slots, what expressions and statements do to them; no heap. -/
namespace VE
open PySem

abbrev D := PyData
/-- a slot of a def: no value; a value; a list (or a dict, k: its items as pairs, laid flat) that this def alone holds and may change; the law's draw state; the script -/
inductive Slot where
  | no
  | sh (x : D)
  | ow (k : Bool) (xs : List D)
  | st (k : Nat)
  | fz (ns : List Int)
abbrev En := List Slot
/-- a net of ways (class Streams) -/
structure Net where
  outs : List (List Int)
  goals : List Int
  rooms : List Int
  costs : List Int
deriving DecidableEq
/-- what the draws leave; the net -/
structure W where
  pos : Int
  cells : List Int
  ob : Option Net
abbrev W0 : W := ⟨0, [], none⟩
abbrev M := StateT W Option
def fail {α : Type} : M α := fun _ => none
def lift {α : Type} (o : Option α) : M α := fun w => o.map fun a => (a, w)
@[simp] theorem lift_some {α : Type} (a : α) : lift (some a) = pure a := rfl
@[simp] theorem lift_none {α : Type} : lift (none : Option α) = fail := rfl
@[simp] theorem fail_bind {α β : Type} (f : α → M β) : (fail >>= f) = fail := rfl
theorem bind_some {α β : Type} {x : M α} {k : α → M β} {w : W} {r : β × W} : (x >>= k) w = some r ↔ ∃ a w1, x w = some (a, w1) ∧ k a w1 = some r := by
  show (StateT.bind x k w) = some r ↔ _
  unfold StateT.bind
  cases h : x w with
  | none => simp [bind, Option.bind]
  | some p =>
    obtain ⟨a, w1⟩ := p
    show k a w1 = some r ↔ _
    constructor
    · intro q; exact ⟨a, w1, rfl, q⟩
    · rintro ⟨a', w', e, q⟩; cases e; exact q
theorem lift_eq {α : Type} {o : Option α} {w : W} {r : α × W} : lift o w = some r ↔ o = some r.1 ∧ w = r.2 := by
  obtain ⟨a, w1⟩ := r
  cases o with
  | none => simp [lift]
  | some b =>
    show some (b, w) = some (a, w1) ↔ some b = some a ∧ w = w1
    constructor
    · intro h; cases h; exact ⟨rfl, rfl⟩
    · rintro ⟨h1, h2⟩; cases h1; cases h2; rfl
theorem pure_eq {α : Type} {a : α} {w : W} {r : α × W} : (pure a : M α) w = some r ↔ a = r.1 ∧ w = r.2 := by
  obtain ⟨b, w1⟩ := r
  show (some (a, w) : Option (α × W)) = some (b, w1) ↔ a = b ∧ w = w1
  constructor
  · intro h; cases h; exact ⟨rfl, rfl⟩
  · rintro ⟨h1, h2⟩; cases h1; cases h2; rfl

theorem lift_get {α : Type} {o : Option α} {w w' : W} {y : α} (h : lift o w = some (y, w')) : o = some y ∧ w' = w := by
  obtain ⟨h1, h2⟩ := lift_eq.mp h
  exact ⟨h1, h2.symm⟩
theorem pure_get {α : Type} {a : α} {w w' : W} {y : α} (h : (pure a : M α) w = some (y, w')) : a = y ∧ w' = w := by
  obtain ⟨h1, h2⟩ := pure_eq.mp h
  exact ⟨h1, h2.symm⟩
abbrev EF := En → M D
abbrev TF := En → M Bool
abbrev AF := En → M (List D)
/-- how a statement ends -/
inductive Fl where
  | nx | bk | ct
  | rt (x : D)
abbrev SF := En → M (Fl × En)

/-! ### expressions -/
/-- a value, not a list that may be changed -/
def xVar (i : Nat) : EF := fun env => match env[i]? with
  | some (.sh x) => pure x
  | _ => fail
/-- either -/
def xVarO (i : Nat) : EF := fun env => match env[i]? with
  | some (.sh x) => pure x
  | some (.ow false xs) => pure (.list xs)
  | _ => fail
def xC (x : D) : EF := fun _ => pure x
def flat : D → Bool
  | .none => true
  | .bool _ => true
  | .int _ => true
  | .str _ => true
  | _ => false
def xFlat (f : EF) : EF := fun env => do
  let x ← f env
  if flat x then pure x else fail
def xOp (F : D → D → Option D) (f g : EF) : EF := fun env => do
  let a ← f env
  let b ← g env
  lift (F a b)
def xUn (F : D → Option D) (f : EF) : EF := fun env => do
  let a ← f env
  lift (F a)
def xCall (F : List D → Option D) (f : AF) : EF := fun env => do
  let xs ← f env
  lift (F xs)
def xNil : AF := fun _ => pure []
def xCons (f : EF) (g : AF) : AF := fun env => do
  let a ← f env
  let r ← g env
  pure (a :: r)
def asB : D → Option Bool
  | .bool b => some b
  | _ => none
/-- the value of a comparison, as a test -/
def xTest (f : EF) : TF := fun env => do
  let a ← f env
  lift (asB a)
def truth : D → Option Bool
  | .none => some false
  | .bool b => some b
  | .int i => some (i != 0)
  | .list xs => some (!xs.isEmpty)
  | .tuple xs => some (!xs.isEmpty)
  | _ => none
def xTruth (f : EF) : TF := fun env => do
  let a ← f env
  lift (truth a)
def xNot (f : TF) : TF := fun env => do
  let a ← f env
  pure (!a)
def xAnd (f g : TF) : TF := fun env => do
  let a ← f env
  if a then g env else pure false
def xOr (f g : TF) : TF := fun env => do
  let a ← f env
  if a then pure true else g env
def xNotV (f : EF) : EF := fun env => do
  let a ← f env
  match a with
  | .bool b => pure (.bool (!b))
  | _ => fail
def xAndV (f g : EF) : EF := fun env => do
  let a ← f env
  match a with
  | .bool b => if b then g env else pure (.bool false)
  | _ => fail
def xOrV (f g : EF) : EF := fun env => do
  let a ← f env
  match a with
  | .bool b => if b then pure (.bool true) else g env
  | _ => fail
def xIf (t : TF) (f g : EF) : EF := fun env => do
  let a ← t env
  if a then f env else g env
/-- a op b op' c -/
def xChain (F F' : D → D → Option D) (f g h : EF) : EF := fun env => do
  let a ← f env
  let b ← g env
  let k ← lift ((F a b).bind asB)
  if k then do
    let c ← h env
    let k' ← lift ((F' b c).bind asB)
    pure (.bool k')
  else pure (.bool false)
/-- the most items of a list -/
def line : Nat := 16777216
def xTup (f : AF) : EF := fun env => do
  let xs ← f env
  if xs.length ≤ line then pure (.tuple xs) else fail
/-- a new list -/
abbrev LF := En → M (List D)
def xLst (f : AF) : LF := fun env => do
  let xs ← f env
  if xs.length ≤ line then pure xs else fail
def xFlatL (f : LF) : LF := fun env => do
  let xs ← f env
  if xs.all flat then pure xs else fail
def xAs (f : LF) : EF := fun env => do
  let xs ← f env
  pure (.list xs)

/-! ### what is walked, targets -/
abbrev IF := En → M (List D)
abbrev GF := D → En → Option En
def items : D → Option (List D)
  | .list xs => some xs
  | .tuple xs => some xs
  | _ => none
def lstOf : D → Option (List D)
  | .list xs => some xs
  | _ => none
def tupOf : D → Option (List D)
  | .tuple xs => some xs
  | _ => none
def iLst (f : EF) : IF := fun env => do
  let x ← f env
  lift (lstOf x)
def iTupl (f : EF) : IF := fun env => do
  let x ← f env
  lift (tupOf x)
/-- the list that this def alone holds -/
def iOwn (i : Nat) : IF := fun env => match env[i]? with
  | some (.ow false xs) => pure xs
  | _ => fail
def rangeL (lo hi : Int) : List D := (List.range (hi - lo).toNat).map fun (k : Nat) => PyData.int (lo + (k : Int))
def small62 (i : Int) : Bool := decide (-(2 ^ 62) ≤ i) && decide (i < 2 ^ 62)
def iR1 (f : AF) : IF := fun env => do
  let xs ← f env
  match xs with
  | [.int j] => if small62 j then pure (rangeL 0 j) else fail
  | _ => fail
def iR2 (f : AF) : IF := fun env => do
  let xs ← f env
  match xs with
  | [.int i, .int j] => if small62 i && small62 j then pure (rangeL i j) else fail
  | _ => fail
def gNm (i : Nat) : GF := fun x env => some (env.set i (.sh x))
abbrev GsF := List D → En → Option En
def gsNil : GsF := fun xs env => match xs with
  | [] => some env
  | _ => none
def gsCons (g : GF) (h : GsF) : GsF := fun xs env => match xs with
  | x :: r => (g x env).bind (h r)
  | _ => none
def gTp (n : Nat) (h : GsF) : GF := fun x env => match x with
  | .tuple xs => if xs.length = n then h xs env else none
  | _ => none
/-- some slots forgotten: none of them is a list that may be changed -/
def wipeE (env : En) : List Nat → Option En
  | [] => some env
  | v :: vs => (wipeE env vs).bind fun e => match e[v]? with
    | some (.ow _ _) => none
    | some _ => some (e.set v .no)
    | none => none
def compL (g : GF) (t : TF) (f : EF) (env : En) : List D → M (List D)
  | [] => pure []
  | x :: r => do
    let env1 ← lift (g x env)
    let b ← t env1
    if b then do
      let y ← f env1
      let ys ← compL g t f env r
      pure (y :: ys)
    else compL g t f env r
/-- [f for g in it if t] -/
def xComp (vs : List Nat) (it : IF) (g : GF) (t : TF) (f : EF) : LF := fun env => do
  let xs ← it env
  let e ← lift (wipeE env vs)
  if xs.length ≤ line then compL g t f e xs else fail
def tYesF : TF := fun _ => pure true

/-! ### statements -/
def sPass : SF := fun env => pure (.nx, env)
def sSeq (f g : SF) : SF := fun env => do
  let (fl, env1) ← f env
  match fl with
  | .nx => g env1
  | .bk => pure (.bk, env1)
  | .ct => pure (.ct, env1)
  | .rt x => pure (.rt x, env1)
def sBreak : SF := fun env => pure (.bk, env)
def sCont : SF := fun env => pure (.ct, env)
def sRet (f : EF) : SF := fun env => do
  let x ← f env
  pure (.rt x, env)
def sRetN : SF := fun env => pure (.rt .none, env)
def sIf (t : TF) (f g : SF) : SF := fun env => do
  let b ← t env
  if b then f env else g env
def sAsg (f : EF) (g : GF) : SF := fun env => do
  let x ← f env
  let env1 ← lift (g x env)
  pure (.nx, env1)
/-- name = a new list that this def may change -/
def sOwn (i : Nat) (f : LF) : SF := fun env => do
  let xs ← f env
  pure (.nx, env.set i (.ow false xs))
def sExpr (f : EF) : SF := fun env => do
  let _ ← f env
  pure (.nx, env)
def sPar (i j : Nat) (f : AF) : SF := fun env => do
  let xs ← f env
  match xs with
  | [x, y] => pure (.nx, (env.set i (.sh x)).set j (.sh y))
  | _ => fail
/-- the list at i may be changed no more -/
def thaw (i : Nat) (env : En) : En := match env[i]? with
  | some (.ow false xs) => env.set i (.sh (.list xs))
  | _ => env
def sThaw (i : Nat) (f : SF) : SF := fun env => f (thaw i env)
def sApp (i : Nat) (f : EF) : SF := fun env => do
  let x ← f env
  match env[i]? with
  | some (.ow false xs) => if xs.length < line then pure (.nx, env.set i (.ow false (xs ++ [x]))) else fail
  | _ => fail
def ixN (n : Nat) (i : Int) : Option Nat := if 0 ≤ i then (if i < n then some i.toNat else none) else if -(n : Int) ≤ i then some (i + n).toNat else none
/-- xs[k] = e -/
def sSet (i : Nat) (k f : EF) : SF := fun env => do
  let x ← f env
  let z ← k env
  match env[i]?, z with
  | some (.ow false xs), .int z => match ixN xs.length z with
    | some j => pure (.nx, env.set i (.ow false (xs.set j x)))
    | none => fail
  | _, _ => fail
def sFor (it : IF) (g : GF) (body : SF) : SF := fun env => do
  let xs ← it env
  go xs env
where
  go : List D → SF
  | [], env => pure (.nx, env)
  | x :: r, env => do
    let env1 ← lift (g x env)
    let (fl, env2) ← body env1
    match fl with
    | .nx => go r env2
    | .ct => go r env2
    | .bk => pure (.nx, env2)
    | .rt y => pure (.rt y, env2)
def sWhile (n : Nat) (t : TF) (body : SF) : SF := fun env => go n env
where
  go : Nat → SF
  | 0, _ => fail
  | n + 1, env => do
    let b ← t env
    if b then do
      let (fl, env2) ← body env
      match fl with
      | .nx => go n env2
      | .ct => go n env2
      | .bk => pure (.nx, env2)
      | .rt y => pure (.rt y, env2)
    else pure (.nx, env)

/-! ### the law's draws -/
def takeW (most : Int) : M Int := fun w =>
  if 0 < most ∧ most < 1073741824 ∧ 0 < w.cells.length then
    let a := (w.pos % (w.cells.length : Int)).toNat
    match w.cells[a]? with
    | none => none
    | some cell =>
      if 1000000000000000000 ≤ cell then some (cell % most, ⟨w.pos, w.cells.set a (cell / most), w.ob⟩)
      else
        let p := w.pos + 1
        let m1 := (cell * 48271 + p * 69621) % 2147483647
        let m2 := (m1 * 16807 + p * 7919) % 1000000007
        some (m2 / 7 % most, ⟨p, w.cells, w.ob⟩)
  else none
/-- the call _law_take(state, f) -/
def xTake (i : Nat) (f : EF) : EF := fun env => do
  let y ← f env
  match env[i]?, y with
  | some (.st 1), .int most => do
    let r ← takeW most
    pure (.int r)
  | _, _ => fail
def stateCells (ns : List Int) : List Int :=
  let c := (ns.take 63).map fun i => if i < 0 then -i else i
  if c.length = 0 then [0] else c

/-! ### values -/
def fAdd : D → D → Option D
  | .int i, .int j => some (.int (i + j))
  | .list xs, .list ys => if xs.length + ys.length ≤ line then some (.list (xs ++ ys)) else none
  | _, _ => none
def fSub : D → D → Option D
  | .int i, .int j => some (.int (i - j))
  | _, _ => none
def inW (i : Int) : Bool := decide (-(2 ^ 64) < i) && decide (i < 2 ^ 64)
def fMul : D → D → Option D
  | .int i, .int j => if inW i || inW j then some (.int (i * j)) else none
  | _, _ => none
def fDiv : D → D → Option D
  | .int i, .int j => if 0 < j ∧ j < 1073741824 then some (.int (i / j)) else none
  | _, _ => none
def fMod : D → D → Option D
  | .int i, .int j => if 0 < j then some (.int (i % j)) else none
  | _, _ => none
def fNeg : D → Option D
  | .int i => some (.int (-i))
  | _ => none
def fLt : D → D → Option D
  | .int i, .int j => some (.bool (decide (i < j)))
  | _, _ => none
def fLe : D → D → Option D
  | .int i, .int j => some (.bool (decide (i ≤ j)))
  | _, _ => none
def fGt : D → D → Option D
  | .int i, .int j => some (.bool (decide (j < i)))
  | _, _ => none
def fGe : D → D → Option D
  | .int i, .int j => some (.bool (decide (j ≤ i)))
  | _, _ => none
def shp (x : D) : Bool := SeqAt.shaped x
def fEq (x y : D) : Option D := if shp x && shp y then some (.bool (PyData.eqv x y)) else none
def fNe (x y : D) : Option D := if shp x && shp y then some (.bool (!PyData.eqv x y)) else none
def isNone : D → Bool
  | .none => true
  | _ => false
def fIsN (x : D) : Option D := some (.bool (isNone x))
def fNotN (x : D) : Option D := some (.bool (!isNone x))
/-- x in xs, all flat -/
def fIn (x y : D) : Option D := (items y).bind fun ys => if flat x && ys.all flat then some (.bool (ys.any fun z => PyData.eqv z x)) else none
def fNotIn (x y : D) : Option D := (items y).bind fun ys => if flat x && ys.all flat then some (.bool (!ys.any fun z => PyData.eqv z x)) else none
def atI (xs : List D) (i : Int) : Option D := (ixN xs.length i).bind fun j => xs[j]?
def fIx : D → D → Option D
  | .list xs, .int i => atI xs i
  | .tuple xs, .int i => atI xs i
  | _, _ => none
def sIx (n d : Nat) : Option Int → Nat
  | none => d
  | some i => if i < 0 then (i + n).toNat else min i.toNat n
def cut (xs : List D) (lo hi : Option Int) : List D := (xs.drop (sIx xs.length 0 lo)).take (sIx xs.length xs.length hi - sIx xs.length 0 lo)
abbrev OF := En → M (Option Int)
def oNo : OF := fun _ => pure none
def oSome (f : EF) : OF := fun env => do
  let x ← f env
  match x with
  | .int i => pure (some i)
  | _ => fail
/-- script[l:h] -/
def xCutZ (i : Nat) (l h : OF) : LF := fun env => do
  let lo ← l env
  let hi ← h env
  match env[i]? with
  | some (.fz ns) => pure (cut (ns.map .int) lo hi)
  | _ => fail
def xSlice (f : EF) (l h : OF) : LF := fun env => do
  let x ← f env
  let lo ← l env
  let hi ← h env
  match x with
  | .list xs => pure (cut xs lo hi)
  | _ => fail
def asInts : List D → Option (List Int)
  | [] => some []
  | .int i :: r => (asInts r).map (i :: ·)
  | _ => none
def asBools : List D → Option (List Bool)
  | [] => some []
  | .bool i :: r => (asBools r).map (i :: ·)
  | _ => none
def fLen : List D → Option D
  | [.list xs] => some (.int xs.length)
  | [.tuple xs] => some (.int xs.length)
  | _ => none
def fSum : List D → Option D
  | [.list xs] => (asInts xs).map fun ns => .int ns.sum
  | _ => none
def fAbs : List D → Option D
  | [.int i] => some (.int (if i < 0 then -i else i))
  | _ => none
def fInt : List D → Option D
  | [.int i] => some (.int i)
  | [.bool k] => some (.int (if k then 1 else 0))
  | _ => none
def maxI (a : Int) (r : List Int) : Int := r.foldl (fun m x => if m < x then x else m) a
def minI (a : Int) (r : List Int) : Int := r.foldl (fun m x => if x < m then x else m) a
def fMax : List D → Option D
  | [.list xs] => (asInts xs).bind fun ns => match ns with
    | a :: r => some (.int (maxI a r))
    | [] => none
  | [.int i, .int j] => some (.int (if j > i then j else i))
  | _ => none
def fMin : List D → Option D
  | [.list xs] => (asInts xs).bind fun ns => match ns with
    | a :: r => some (.int (minI a r))
    | [] => none
  | [.int i, .int j] => some (.int (if j < i then j else i))
  | _ => none
def fAny : List D → Option D
  | [.list xs] => (asBools xs).map fun bs => .bool (bs.any id)
  | _ => none
def fAll : List D → Option D
  | [.list xs] => (asBools xs).map fun bs => .bool (bs.all id)
  | _ => none
/-- list(x), a new list -/
def fList : D → Option (List D)
  | .list xs => some xs
  | .tuple xs => some xs
  | _ => none
def xList (f : EF) : LF := fun env => do
  let x ← f env
  lift (fList x)
def insI (x : Int) : List Int → List Int
  | [] => [x]
  | y :: r => if x ≤ y then x :: y :: r else y :: insI x r
def sortI (xs : List Int) : List Int := xs.foldr insI []
def fSorted : D → Option (List D)
  | .list xs => (asInts xs).bind fun ns => if ns.length ≤ line then some ((sortI ns).map .int) else none
  | _ => none
def xSorted (f : EF) : LF := fun env => do
  let x ← f env
  lift (fSorted x)
/-- xs.index(y): the first one -/
def fIndex : D → List D → Option D
  | .list xs, [y] => if flat y && xs.all flat then (xs.findIdx? fun z => PyData.eqv z y).map fun (j : Nat) => PyData.int (j : Int) else none
  | _, _ => none
def xMeth (F : D → List D → Option D) (f : EF) (g : AF) : EF := fun env => do
  let x ← f env
  let ys ← g env
  lift (F x ys)

/-- a def: np parameters, nl other names -/
def runDef (np nl : Nat) (body : SF) (xs : List D) : Option D :=
  if xs.length = np then
    match body (xs.map .sh ++ List.replicate nl .no) W0 with
    | some ((.rt v, _), _) => some v
    | some ((.nx, _), _) => some .none
    | _ => none
  else none
/-- zip, enumerate -/
def zipD : List D → List D → List D
  | x :: xs, y :: ys => .tuple [x, y] :: zipD xs ys
  | _, _ => []
def enumD : Nat → List D → List D
  | n, x :: xs => .tuple [.int (n : Int), x] :: enumD (n + 1) xs
  | _, [] => []
def iZipV (fs : AF) : IF := fun env => do
  let vs ← fs env
  match vs with
  | [.list xs, .list ys] => pure (zipD xs ys)
  | _ => fail
def iEnumV (fs : AF) : IF := fun env => do
  let vs ← fs env
  match vs with
  | [.list xs] => pure (enumD 0 xs)
  | _ => fail
/-- x in xs, deep -/
def fInD : D → D → Option D
  | x, .list ys => if shp x && shp (.list ys) then some (.bool (ys.any fun z => PyData.eqv z x)) else none
  | _, _ => none
def fNotInD : D → D → Option D
  | x, .list ys => if shp x && shp (.list ys) then some (.bool (!ys.any fun z => PyData.eqv z x)) else none
  | _, _ => none
/-- list(range(n)) -/
def xListR1 (f : EF) : LF := fun env => do
  let x ← f env
  match x with
  | .int j => if decide (0 ≤ j) && decide (j ≤ 16777216) then pure (rangeL 0 j) else fail
  | _ => fail
/-- each once -/
def oneI : List Int → List Int
  | [] => []
  | x :: r => if decide (x ∈ r) then oneI r else x :: oneI r
/-- len(set(xs)), sorted(set(xs)) -/
def fLenSet : D → Option D
  | .list xs => (asInts xs).bind fun ns => if ns.length < 1000 then some (.int (oneI ns).length) else none
  | _ => none
def fSortSet : D → Option (List D)
  | .list xs => (asInts xs).bind fun ns => if ns.length < 1000 && decide ((oneI ns).length < 64) then some ((sortI (oneI ns)).map .int) else none
  | _ => none
def xSortSet (f : EF) : LF := fun env => do
  let x ← f env
  lift (fSortSet x)
/-- xs.extend(e) -/
def sExt (i : Nat) (f : EF) : SF := fun env => do
  let x ← f env
  match env[i]?, x with
  | some (.ow false xs), .list ys => if xs.length + ys.length ≤ line then pure (.nx, env.set i (.ow false (xs ++ ys))) else fail
  | _, _ => fail
/-! dicts that a def alone holds: whole numbers as keys, the items laid flat -/
def dVal : List D → Int → Option D
  | .int j :: v :: r, k => if j = k then some v else dVal r k
  | _, _ => none
def dRepl : List D → Int → D → List D
  | .int j :: v :: r, k, y => .int j :: (if j = k then y else v) :: dRepl r k y
  | xs, _, _ => xs
def dPut (xs : List D) (k : Int) (y : D) : List D := if (dVal xs k).isSome then dRepl xs k y else xs ++ [.int k, y]
def dKeys : List D → List Int
  | .int j :: _ :: r => j :: dKeys r
  | _ => []
/-- with the dict at i, at the key z -/
def withD {α : Type} (i : Nat) (env : En) (z : D) (F : List D → Int → M α) : M α := match env[i]?, z with
  | some (.ow true xs), .int k => F xs k
  | _, _ => fail
/-- e in d, e not in d -/
def xDIn (i : Nat) (f : EF) : EF := fun env => do
  let z ← f env
  withD i env z fun xs k => pure (.bool (dVal xs k).isSome)
def xDNotIn (i : Nat) (f : EF) : EF := fun env => do
  let z ← f env
  withD i env z fun xs k => pure (.bool (!(dVal xs k).isSome))
/-- d.get(e), d.get(e, e'), d[e] -/
def xDGet1 (i : Nat) (f : EF) : EF := fun env => do
  let z ← f env
  withD i env z fun xs k => pure ((dVal xs k).getD .none)
def xDGet2 (i : Nat) (f g : EF) : EF := fun env => do
  let z ← f env
  let x ← g env
  withD i env z fun xs k => pure ((dVal xs k).getD x)
def xDIx (i : Nat) (f : EF) : EF := fun env => do
  let z ← f env
  withD i env z fun xs k => lift (dVal xs k)
/-- d[k] = e -/
def sDPut (i : Nat) (k f : EF) : SF := fun env => do
  let x ← f env
  let z ← k env
  withD i env z fun xs k => if xs.length < line then pure (.nx, env.set i (.ow true (dPut xs k x))) else fail
/-- d.setdefault(k, e) -/
def sDSetd (i : Nat) (k f : EF) : SF := fun env => do
  let z ← k env
  let x ← f env
  withD i env z fun xs k => if xs.length < line then pure (.nx, env.set i (.ow true (if (dVal xs k).isSome then xs else dPut xs k x))) else fail
/-- d = {} -/
def sDNew (i : Nat) : SF := fun env => pure (.nx, env.set i (.ow true []))
/-- sorted(d) -/
def xSortD (i : Nat) : LF := fun env => match env[i]? with
  | some (.ow true xs) => if (dKeys xs).length < 64 then pure ((sortI (dKeys xs)).map .int) else fail
  | _ => fail
def noWalk (env : En) : Bool := env.all fun s => match s with
  | .st 9 => false
  | _ => true
def is9 : Option Slot → Bool
  | some (.st 9) => true
  | _ => false
def isNx : Fl → Bool
  | .nx => true
  | _ => false
def endD (i : Nat) (xs : List D) (fl : Fl) (env : En) : M (Fl × En) := if (isNx fl && is9 env[i]? && noWalk (env.set i .no)) = true then pure (.nx, env.set i (.ow true xs)) else fail
/-- for g in d: body (which does not change d) -/
def sForD (i : Nat) (g : GF) (body : SF) : SF := fun env => match env[i]? with
  | some (.ow true xs) => if noWalk env then do
      let p ← sFor.go g body ((dKeys xs).map .int) (env.set i (.st 9))
      endD i xs p.1 p.2
    else fail
  | _ => fail
/-- a op b op' c op'' d -/
def xChain3 (F F' F'' : D → D → Option D) (f g h k : EF) : EF := fun env => do
  let a ← f env
  let b ← g env
  let x ← lift ((F a b).bind asB)
  if x then do
    let c ← h env
    let y ← lift ((F' b c).bind asB)
    if y then do
      let d ← k env
      let z ← lift ((F'' c d).bind asB)
      pure (.bool z)
    else pure (.bool false)
  else pure (.bool false)
/-! ### a net (class Streams): the slot .st 8 -/
inductive Fd where
  | goals | rooms | costs
def Net.fd (N : Net) : Fd → List Int
  | .goals => N.goals
  | .rooms => N.rooms
  | .costs => N.costs
def Net.setFd (N : Net) : Fd → List Int → Net
  | .goals, xs => { N with goals := xs }
  | .rooms, xs => { N with rooms := xs }
  | .costs, xs => { N with costs := xs }
def is8 : Option Slot → Bool
  | some (.st 8) => true
  | _ => false
def withN {α : Type} (i : Nat) (env : En) (F : Net → M α) : M α := fun w => if is8 env[i]? then match w.ob with
  | some N => F N w
  | none => none
  else none
def setN (N : Net) : M Unit := fun w => some ((), ⟨w.pos, w.cells, some N⟩)
/-- self.f[e], len(self.f), len(self.outs) -/
def xNIx (i : Nat) (fd : Fd) (f : EF) : EF := fun env => do
  let z ← f env
  withN i env fun N => lift (fIx (.list ((N.fd fd).map .int)) z)
def xNLen (i : Nat) (fd : Fd) : EF := fun env => withN i env fun N => pure (.int (N.fd fd).length)
def xNLenO (i : Nat) : EF := fun env => withN i env fun N => pure (.int N.outs.length)
/-- net.m(..) -/
def xNCall (i : Nat) (F : List D → Net → Option (D × Net)) (f : AF) : EF := fun env => do
  let xs ← f env
  withN i env fun N => do
    let r ← lift (F xs N)
    let _ ← setN r.2
    pure r.1
/-- [None for _ in self.outs] -/
def xNNones (vs : List Nat) (i : Nat) : LF := fun env => do
  let _ ← lift (wipeE env vs)
  withN i env fun N => if N.outs.length ≤ line then pure (List.replicate N.outs.length .none) else fail
def asI : D → Option Int
  | .int i => some i
  | _ => none
def asIL : D → Option (List Int)
  | .list xs => asInts xs
  | _ => none
/-- self.f[k] = e -/
def sNSet (i : Nat) (fd : Fd) (k f : EF) : SF := fun env => do
  let x ← f env
  let z ← k env
  let y ← lift (asI x)
  let z ← lift (asI z)
  withN i env fun N => do
    let j ← lift (ixN (N.fd fd).length z)
    let _ ← setN (N.setFd fd ((N.fd fd).set j y))
    pure (.nx, env)
/-- self.f.extend(e) -/
def sNExt (i : Nat) (fd : Fd) (f : EF) : SF := fun env => do
  let x ← f env
  let ns ← lift (asIL x)
  withN i env fun N => if (N.fd fd).length + ns.length ≤ line then do
      let _ ← setN (N.setFd fd (N.fd fd ++ ns))
      pure (.nx, env)
    else fail
/-- self.outs.append([]) -/
def sNNode (i : Nat) : SF := fun env => withN i env fun N => if N.outs.length < line then do
    let _ ← setN ⟨N.outs ++ [[]], N.goals, N.rooms, N.costs⟩
    pure (.nx, env)
  else fail
/-- self.outs[k].append(e) -/
def sNApp (i : Nat) (k f : EF) : SF := fun env => do
  let z ← k env
  let z ← lift (asI z)
  let j ← withN i env fun N => lift (ixN N.outs.length z)
  let x ← f env
  let y ← lift (asI x)
  withN i env fun N => do
    let xs ← lift N.outs[j]?
    if xs.length < line then do
      let _ ← setN ⟨N.outs.set j (xs ++ [y]), N.goals, N.rooms, N.costs⟩
      pure (.nx, env)
    else fail
def chkO (O : List (List Int)) : M Unit := fun w => match w.ob with
  | some N => if N.outs = O then some ((), w) else none
  | none => none
def goN (O : List (List Int)) (g : GF) (body : SF) : List Int → SF
  | [], env => pure (.nx, env)
  | x :: r, env => do
    let env1 ← lift (g (.int x) env)
    let (fl, env2) ← body env1
    match fl with
    | .nx => do
      let _ ← chkO O
      goN O g body r env2
    | .ct => do
      let _ ← chkO O
      goN O g body r env2
    | .bk => pure (.nx, env2)
    | .rt y => pure (.rt y, env2)
/-- for g in self.outs[k]: body (which does not change the outs) -/
def sForO (i : Nat) (k : EF) (g : GF) (body : SF) : SF := fun env => do
  let z ← k env
  let z ← lift (asI z)
  withN i env fun N => do
    let j ← lift (ixN N.outs.length z)
    let xs ← lift N.outs[j]?
    goN N.outs g body xs env
/-- net = Streams() -/
def sNNew (i : Nat) : SF := fun env w => match w.ob with
  | none => some ((.nx, env.set i (.st 8)), ⟨w.pos, w.cells, some ⟨[], [], [], []⟩⟩)
  | some _ => none
/-- a method: np parameters behind self, nl other names -/
def runMeth (np nl : Nat) (body : SF) (xs : List D) (N : Net) : Option (D × Net) :=
  if xs.length = np then
    match body (.st 8 :: xs.map .sh ++ List.replicate nl .no) ⟨0, [], some N⟩ with
    | some ((.rt v, _), w) => w.ob.map fun n => (v, n)
    | some ((.nx, _), w) => w.ob.map fun n => (.none, n)
    | _ => none
  else none
def sPar3 (i j l : Nat) (f : AF) : SF := fun env => do
  let xs ← f env
  match xs with
  | [x, y, z] => pure (.nx, ((env.set i (.sh x)).set j (.sh y)).set l (.sh z))
  | _ => fail
/-! min of pairs of whole numbers -/
def pairsD : List D → Option (List (Int × Int))
  | [] => some []
  | .tuple [.int i, .int j] :: r => (pairsD r).map ((i, j) :: ·)
  | _ => none
def encP (p : Int × Int) : D := .tuple [.int p.1, .int p.2]
def ltP (p q : Int × Int) : Bool := if p.1 = q.1 then decide (p.2 < q.2) else decide (p.1 < q.1)
def minP (a : Int × Int) (r : List (Int × Int)) : Int × Int := r.foldl (fun m y => if ltP y m then y else m) a
def fMinP : List D → Option D
  | [.list xs] => (pairsD xs).bind fun ps => match ps with
    | a :: r => some (encP (minP a r))
    | [] => none
  | _ => none
def fMinA (xs : List D) : Option D := match fMin xs with
  | some y => some y
  | none => fMinP xs
/-- min of a list that this def alone holds -/
def xMinO (i : Nat) : EF := fun env => match env[i]? with
  | some (.ow false xs) => lift (fMinA [.list xs])
  | _ => fail
end VE

/-! Lay: what Core says of a def holds in the model, over the hand layer. -/
namespace VE
open PySem PySem.Spec L2
open PyProof.Rows hiding St

abbrev SS := L2.St
theorem line_eq : line = sizeLine := by rw [sizeLine_eq]; rfl

/-! ### values in a heap -/
/-- a tuple at a, of the tracked heap beyond T, or of the written part -/
def TupAt (K : PySem.W.Frag) (T : Addr → Prop) (H : Hp) (a : Addr) (xs : List V) : Prop :=
  (¬ T a ∧ Rd H a (.tup xs)) ∨
    ∃ (o : Obj) (its : Array Value) (n : Nat), K.lookup a = some o ∧ o.cls = .type "tuple" ∧ o.data = .seq its n ∧ its.size ≤ sizeLine ∧ Vals xs its.toList
/-- a list that is read only, likewise -/
def LstAt (K : PySem.W.Frag) (T : Addr → Prop) (H : Hp) (a : Addr) (xs : List V) : Prop :=
  (¬ T a ∧ Rd H a (.lst xs)) ∨
    ∃ (o : Obj) (its : Array Value) (n : Nat), K.lookup a = some o ∧ o.cls = .type "list" ∧ o.dict = none ∧ o.data = .seq its n ∧ its.size ≤ sizeLine ∧ Vals xs its.toList
theorem LstAt.sq {K : PySem.W.Frag} {T : Addr → Prop} {H : Hp} {a : Addr} {xs : List V} (h : LstAt K T H a xs) : SqL K H a xs := h.elim (fun q => .inl q.2) .inr
theorem LstAt.mono {K : PySem.W.Frag} {T T' : Addr → Prop} {H H' : Hp} {a : Addr} {vs : List V} (k : ∀ a o, ¬ T a → H a = some o → H' a = some o) (t : ∀ a, T' a → T a) (q : LstAt K T H a vs) : LstAt K T' H' a vs := by
  rcases q with ⟨n, q | ⟨o, q⟩⟩ | q
  · exact .inl ⟨fun z => n (t _ z), .inl (k _ _ n q)⟩
  · exact .inl ⟨fun z => n (t _ z), .inr ⟨o, k _ _ n q⟩⟩
  · exact .inr q
theorem LstAt.fresh {K : PySem.W.Frag} {T : Addr → Prop} {H : Hp} {a p : Addr} {vs : List V} (hp : H p = none) (q : LstAt K T H a vs) : LstAt K (fun b => T b ∨ b = p) H a vs := by
  rcases q with ⟨n, q | ⟨o, q⟩⟩ | q
  · exact .inl ⟨fun z => z.elim n fun e => ne_of_none q hp e, .inl q⟩
  · exact .inl ⟨fun z => z.elim n fun e => ne_of_none q hp e, .inr ⟨o, q⟩⟩
  · exact .inr q
theorem TupAt.sq {K : PySem.W.Frag} {T : Addr → Prop} {H : Hp} {a : Addr} {xs : List V} (h : TupAt K T H a xs) : SqT K H a xs := h.elim (fun q => .inl q.2) .inr
mutual
inductive Rep (K : PySem.W.Frag) (T : Addr → Prop) (H : Hp) : V → PyData → Prop
  | non : Rep K T H .non .none
  | bl (b : Bool) : Rep K T H (.bl b) (.bool b)
  | int (i : Int) : Rep K T H (.int i) (.int i)
  | str (x : Str) : Rep K T H (.str x) (.str x)
  | lst {a : Addr} {vs : List V} {xs : List PyData} : ¬ T a → H a = some (.lst vs) → Reps K T H vs xs → Rep K T H (.ref a) (.list xs)
  | tup {a : Addr} {vs : List V} {xs : List PyData} : TupAt K T H a vs → Reps K T H vs xs → Rep K T H (.ref a) (.tuple xs)
inductive Reps (K : PySem.W.Frag) (T : Addr → Prop) (H : Hp) : List V → List PyData → Prop
  | nil : Reps K T H [] []
  | cons {v : V} {vs : List V} {x : PyData} {xs : List PyData} : Rep K T H v x → Reps K T H vs xs → Reps K T H (v :: vs) (x :: xs)
end
section
variable {K : PySem.W.Frag} {T T' : Addr → Prop} {H H' : Hp}
theorem TupAt.mono {a : Addr} {vs : List V} (k : ∀ a o, ¬ T a → H a = some o → H' a = some o) (t : ∀ a, T' a → T a) (q : TupAt K T H a vs) : TupAt K T' H' a vs := by
  rcases q with ⟨n, q | ⟨o, q⟩⟩ | q
  · exact .inl ⟨fun z => n (t _ z), .inl (k _ _ n q)⟩
  · exact .inl ⟨fun z => n (t _ z), .inr ⟨o, k _ _ n q⟩⟩
  · exact .inr q
theorem TupAt.fresh {a p : Addr} {vs : List V} (hp : H p = none) (q : TupAt K T H a vs) : TupAt K (fun b => T b ∨ b = p) H a vs := by
  rcases q with ⟨n, q | ⟨o, q⟩⟩ | q
  · exact .inl ⟨fun z => z.elim n fun e => ne_of_none q hp e, .inl q⟩
  · exact .inl ⟨fun z => z.elim n fun e => ne_of_none q hp e, .inr ⟨o, q⟩⟩
  · exact .inr q
mutual
theorem Rep.mono (k : ∀ a o, ¬ T a → H a = some o → H' a = some o) (t : ∀ a, T' a → T a) : ∀ (x : PyData) {v : V}, Rep K T H v x → Rep K T' H' v x
  | .none, _, h => by cases h; exact .non
  | .bool b, _, h => by cases h; exact .bl b
  | .int i, _, h => by cases h; exact .int i
  | .str i, _, h => by cases h; exact .str i
  | .list xs, _, h => by
    cases h with
    | lst n e r => exact .lst (fun q => n (t _ q)) (k _ _ n e) (Reps.mono k t xs r)
  | .tuple xs, _, h => by
    cases h with
    | tup e r => exact .tup (e.mono k t) (Reps.mono k t xs r)
  | .dict _, _, h => by cases h
theorem Reps.mono (k : ∀ a o, ¬ T a → H a = some o → H' a = some o) (t : ∀ a, T' a → T a) : ∀ (xs : List PyData) {vs : List V}, Reps K T H vs xs → Reps K T' H' vs xs
  | [], _, h => by cases h; exact .nil
  | x :: xs, _, h => by
    cases h with
    | cons h1 h2 => exact .cons (Rep.mono k t x h1) (Reps.mono k t xs h2)
end
mutual
theorem Rep.fresh {p : Addr} (hp : H p = none) : ∀ (x : PyData) {v : V}, Rep K T H v x → Rep K (fun b => T b ∨ b = p) H v x
  | .none, _, h => by cases h; exact .non
  | .bool b, _, h => by cases h; exact .bl b
  | .int i, _, h => by cases h; exact .int i
  | .str i, _, h => by cases h; exact .str i
  | .list xs, _, h => by
    cases h with
    | lst n e r => exact .lst (fun q => q.elim n fun z => ne_of_none e hp z) e (Reps.fresh hp xs r)
  | .tuple xs, _, h => by
    cases h with
    | tup e r => exact .tup (e.fresh hp) (Reps.fresh hp xs r)
  | .dict _, _, h => by cases h
theorem Reps.fresh {p : Addr} (hp : H p = none) : ∀ (xs : List PyData) {vs : List V}, Reps K T H vs xs → Reps K (fun b => T b ∨ b = p) H vs xs
  | [], _, h => by cases h; exact .nil
  | x :: xs, _, h => by
    cases h with
    | cons h1 h2 => exact .cons (Rep.fresh hp x h1) (Reps.fresh hp xs h2)
end
theorem Rep.mon {x : PyData} {v : V} (r : Rep K T H v x) (k : ∀ a o, ¬ T a → H a = some o → H' a = some o) (t : ∀ a, T' a → T a) : Rep K T' H' v x := Rep.mono k t x r
theorem Reps.mon {x : List PyData} {v : List V} (r : Reps K T H v x) (k : ∀ a o, ¬ T a → H a = some o → H' a = some o) (t : ∀ a, T' a → T a) : Reps K T' H' v x := Reps.mono k t x r
theorem Reps.length : ∀ {xs : List PyData} {vs : List V}, Reps K T H vs xs → vs.length = xs.length
  | [], _, h => by cases h; rfl
  | x :: xs, _, h => by
    cases h with
    | cons h1 h2 => rw [List.length_cons, List.length_cons, Reps.length h2]
theorem Reps.get : ∀ {xs : List PyData} {vs : List V} {i : Nat} {x : PyData}, Reps K T H vs xs → xs[i]? = some x → ∃ v, vs[i]? = some v ∧ Rep K T H v x
  | [], _, _, _, h, e => by simp at e
  | y :: xs, _, 0, x, h, e => by
    cases h with
    | cons h1 h2 =>
      have e' : y = x := by simpa using e
      subst e'
      exact ⟨_, rfl, h1⟩
  | y :: xs, _, i + 1, x, h, e => by
    cases h with
    | cons h1 h2 =>
      obtain ⟨v, q, r⟩ := Reps.get (i := i) (x := x) h2 (by simpa using e)
      exact ⟨v, by simpa using q, r⟩
theorem Reps.append : ∀ {xs ys : List PyData} {vs ws : List V}, Reps K T H vs xs → Reps K T H ws ys → Reps K T H (vs ++ ws) (xs ++ ys)
  | [], _, _, _, h, q => by cases h; exact q
  | x :: xs, _, _, _, h, q => by
    cases h with
    | cons h1 h2 => exact .cons h1 (Reps.append h2 q)
theorem Reps.set : ∀ {xs : List PyData} {vs : List V} (j : Nat) {v : V} {x : PyData}, Reps K T H vs xs → Rep K T H v x → Reps K T H (vs.set j v) (xs.set j x)
  | [], _, _, _, _, h, q => by cases h; exact .nil
  | y :: xs, _, 0, _, _, h, q => by
    cases h with
    | cons h1 h2 => exact .cons q h2
  | y :: xs, _, j + 1, _, _, h, q => by
    cases h with
    | cons h1 h2 => exact .cons h1 (Reps.set j h2 q)
theorem Reps.drop : ∀ {xs : List PyData} {vs : List V} (n : Nat), Reps K T H vs xs → Reps K T H (vs.drop n) (xs.drop n)
  | _, _, 0, h => h
  | [], _, n + 1, h => by cases h; exact .nil
  | x :: xs, _, n + 1, h => by
    cases h with
    | cons h1 h2 => exact Reps.drop n h2
theorem Reps.take : ∀ {xs : List PyData} {vs : List V} (n : Nat), Reps K T H vs xs → Reps K T H (vs.take n) (xs.take n)
  | _, _, 0, h => .nil
  | [], _, n + 1, h => by cases h; exact .nil
  | x :: xs, _, n + 1, h => by
    cases h with
    | cons h1 h2 => exact .cons h1 (Reps.take n h2)
theorem Rep.of_flat {v : V} {x : PyData} (h : Rep K T H v x) (f : flat x = true) : Rep K T' H' v x := by
  cases h with
  | non => exact .non
  | bl b => exact .bl b
  | int i => exact .int i
  | str s => exact .str s
  | lst => cases f
  | tup => cases f
theorem Reps.of_ints : ∀ {xs : List PyData} {ns : List Int} {vs : List V}, Reps K T H vs xs → asInts xs = some ns → vs = ns.map V.int ∧ xs = ns.map PyData.int
  | [], ns, _, h, e => by
    cases h
    have : ns = [] := by simpa [asInts] using e.symm
    subst this
    exact ⟨rfl, rfl⟩
  | .int i :: xs, ns, _, h, e => by
    cases h with
    | cons h1 h2 =>
      cases h1
      unfold asInts at e
      cases q : asInts xs with
      | none => rw [q] at e; simp at e
      | some ms =>
        rw [q] at e
        have e' : i :: ms = ns := by simpa using e
        subst e'
        obtain ⟨h3, h4⟩ := Reps.of_ints h2 q
        exact ⟨by rw [h3]; rfl, by rw [h4]; rfl⟩
  | .none :: xs, ns, _, h, e => by simp [asInts] at e
  | .bool _ :: xs, ns, _, h, e => by simp [asInts] at e
  | .str _ :: xs, ns, _, h, e => by simp [asInts] at e
  | .list _ :: xs, ns, _, h, e => by simp [asInts] at e
  | .tuple _ :: xs, ns, _, h, e => by simp [asInts] at e
  | .dict _ :: xs, ns, _, h, e => by simp [asInts] at e
theorem Reps.of_bools : ∀ {xs : List PyData} {ns : List Bool} {vs : List V}, Reps K T H vs xs → asBools xs = some ns → vs = ns.map V.bl ∧ xs = ns.map PyData.bool
  | [], ns, _, h, e => by
    cases h
    have : ns = [] := by simpa [asBools] using e.symm
    subst this
    exact ⟨rfl, rfl⟩
  | .bool i :: xs, ns, _, h, e => by
    cases h with
    | cons h1 h2 =>
      cases h1
      unfold asBools at e
      cases q : asBools xs with
      | none => rw [q] at e; simp at e
      | some ms =>
        rw [q] at e
        have e' : i :: ms = ns := by simpa using e
        subst e'
        obtain ⟨h3, h4⟩ := Reps.of_bools h2 q
        exact ⟨by rw [h3]; rfl, by rw [h4]; rfl⟩
  | .none :: xs, ns, _, h, e => by simp [asBools] at e
  | .int _ :: xs, ns, _, h, e => by simp [asBools] at e
  | .str _ :: xs, ns, _, h, e => by simp [asBools] at e
  | .list _ :: xs, ns, _, h, e => by simp [asBools] at e
  | .tuple _ :: xs, ns, _, h, e => by simp [asBools] at e
  | .dict _ :: xs, ns, _, h, e => by simp [asBools] at e
theorem Reps.ints_map : ∀ (ns : List Int), Reps K T H (ns.map V.int) (ns.map PyData.int)
  | [] => .nil
  | n :: r => .cons (.int n) (Reps.ints_map r)
mutual
theorem Rep.dp : ∀ (x : PyData) {v : V}, Rep K T H v x → Dp K H v x
  | .none, _, h => by cases h; exact .non
  | .bool b, _, h => by cases h; exact .bl b
  | .int i, _, h => by cases h; exact .int i
  | .str i, _, h => by cases h; exact .str i
  | .list xs, _, h => by
    cases h with
    | lst n e r => exact .lst (SqL.of e) (Reps.dp xs r)
  | .tuple xs, _, h => by
    cases h with
    | tup e r => exact .tup e.sq (Reps.dp xs r)
  | .dict _, _, h => by cases h
theorem Reps.dp : ∀ (xs : List PyData) {vs : List V}, Reps K T H vs xs → DpAll K H vs xs
  | [], _, h => by cases h; exact .nil
  | x :: xs, _, h => by
    cases h with
    | cons h1 h2 => exact .cons (Rep.dp x h1) (Reps.dp xs h2)
end
end

section
variable {K : PySem.W.Frag} {T T' : Addr → Prop} {H H' : Hp}
theorem TupAt.tracked {a : Addr} {vs : List V} (q : TupAt K T H a vs) : TupAt K (fun b => T b ∨ H b = none) H a vs := by
  rcases q with ⟨n, q | ⟨o, q⟩⟩ | q
  · exact .inl ⟨fun z => z.elim n fun e => (by rw [q] at e; cases e), .inl q⟩
  · exact .inl ⟨fun z => z.elim n fun e => (by rw [q] at e; cases e), .inr ⟨o, q⟩⟩
  · exact .inr q
mutual
theorem Rep.tracked : ∀ (x : PyData) {v : V}, Rep K T H v x → Rep K (fun b => T b ∨ H b = none) H v x
  | .none, _, h => by cases h; exact .non
  | .bool b, _, h => by cases h; exact .bl b
  | .int i, _, h => by cases h; exact .int i
  | .str i, _, h => by cases h; exact .str i
  | .list xs, _, h => by
    cases h with
    | lst n e r => exact .lst (fun q => q.elim n fun z => by rw [e] at z; cases z) e (Reps.tracked xs r)
  | .tuple xs, _, h => by
    cases h with
    | tup e r => exact .tup e.tracked (Reps.tracked xs r)
  | .dict _, _, h => by cases h
theorem Reps.tracked : ∀ (xs : List PyData) {vs : List V}, Reps K T H vs xs → Reps K (fun b => T b ∨ H b = none) H vs xs
  | [], _, h => by cases h; exact .nil
  | x :: xs, _, h => by
    cases h with
    | cons h1 h2 => exact .cons (Rep.tracked x h1) (Reps.tracked xs h2)
end
end
theorem LstAt.tracked {K : PySem.W.Frag} {T : Addr → Prop} {H : Hp} {a : Addr} {vs : List V} (q : LstAt K T H a vs) : LstAt K (fun b => T b ∨ H b = none) H a vs := by
  rcases q with ⟨n, q | ⟨o, q⟩⟩ | q
  · exact .inl ⟨fun z => z.elim n fun e => (by rw [q] at e; cases e), .inl q⟩
  · exact .inl ⟨fun z => z.elim n fun e => (by rw [q] at e; cases e), .inr ⟨o, q⟩⟩
  · exact .inr q
/-! ### what a def stands in -/
/-- where a net stands -/
structure NB where
  od : Addr
  C : Addr
  dx : Addr
  a1 : Addr
  a2 : Addr
  a3 : Addr
  a4 : Addr
structure NA where
  b : NB
  ad : List Addr
def NA.all (n : NA) : List Addr := n.b.od :: n.b.a1 :: n.b.a2 :: n.b.a3 :: n.b.a4 :: n.ad
structure NetAt (n : NA) (N : Net) (H : Hp) : Prop where
  ob : H n.b.od = some (.ins n.b.C n.b.dx [("outs", .ref n.b.a1), ("goals", .ref n.b.a2), ("rooms", .ref n.b.a3), ("costs", .ref n.b.a4)])
  ou : H n.b.a1 = some (.lst (n.ad.map V.ref))
  go : H n.b.a2 = some (.lst (N.goals.map V.int))
  ro : H n.b.a3 = some (.lst (N.rooms.map V.int))
  co : H n.b.a4 = some (.lst (N.costs.map V.int))
  inn : ∀ (j : Nat) xs a, N.outs[j]? = some xs → n.ad[j]? = some a → H a = some (.lst (xs.map V.int))
  len : n.ad.length = N.outs.length
  nd : n.all.Nodup
theorem NetAt.frame {n : NA} {N : Net} {H H' : Hp} (h : NetAt n N H) (k : ∀ a, a ∈ n.all → H' a = H a) : NetAt n N H' where
  ob := by rw [k _ (by simp [NA.all])]; exact h.ob
  ou := by rw [k _ (by simp [NA.all])]; exact h.ou
  go := by rw [k _ (by simp [NA.all])]; exact h.go
  ro := by rw [k _ (by simp [NA.all])]; exact h.ro
  co := by rw [k _ (by simp [NA.all])]; exact h.co
  inn := fun j xs a e1 e2 => by rw [k a (by have := List.mem_of_getElem? e2; simp [NA.all, this])]; exact h.inn j xs a e1 e2
  len := h.len
  nd := h.nd
/-- the same net, with more nodes -/
def NtLe (a b : Option NA) : Prop := ∀ n, a = some n → ∃ n', b = some n' ∧ n'.b = n.b ∧ ∃ more, n'.ad = n.ad ++ more
theorem NtLe.refl (a : Option NA) : NtLe a a := fun n e => ⟨n, e, rfl, [], by rw [List.append_nil]⟩
theorem NtLe.trans {a b c : Option NA} (h : NtLe a b) (k : NtLe b c) : NtLe a c := fun n e => by
  obtain ⟨n1, e1, b1, m1, q1⟩ := h n e
  obtain ⟨n2, e2, b2, m2, q2⟩ := k n1 e1
  exact ⟨n2, e2, b2.trans b1, m1 ++ m2, by rw [q2, q1, List.append_assoc]⟩
/-- Z0, nt: what may be changed (the draws, a net); T: what is not to be read; H0: the heap at the entry -/
structure Gh (K : PySem.W.Frag) where
  Z0 : Addr → Prop
  T : Addr → Prop
  H0 : Hp
  sd : Addr
  sc : Addr
  wd : Addr
  kd : Nat
  dr0 : Int → List Int → Hp → Prop
  nt : Option NA
  zt0 : ∀ a, Z0 a → T a
  ztn : ∀ n, nt = some n → ∀ a, a ∈ n.all → T a
  dj : ∀ n, nt = some n → ∀ a, a ∈ n.all → ¬ Z0 a
  ntc : ∀ n, nt = some n → PySem.W.nsIn K mainGlobals "Streams" = some (some (.ref n.b.C))
  drk0 : ∀ p c H H', dr0 p c H → (∀ a, Z0 a → H' a = H a) → dr0 p c H'
  one : kd = 1 → Z0 sd ∧ Z0 sc ∧ sd ≠ sc ∧ (∀ p c H, dr0 p c H → H sd = some (.lst [.int p, .ref sc]) ∧ H sc = some (.lst (c.map V.int))) ∧
    ∀ p c H p' c' H', dr0 p c H → (∀ a, Z0 a → a ≠ sd → a ≠ sc → H' a = H a) → H' sd = some (.lst [.int p', .ref sc]) → H' sc = some (.lst (c'.map V.int)) → dr0 p' c' H'
def Gh.Z {K : PySem.W.Frag} (g : Gh K) (a : Addr) : Prop := g.Z0 a ∨ ∃ n, g.nt = some n ∧ a ∈ n.all
def NetOk (nt : Option NA) (ob : Option Net) (H : Hp) : Prop := match nt with
  | none => ob = none
  | some n => ∃ N, ob = some N ∧ NetAt n N H
def Gh.dr {K : PySem.W.Frag} (g : Gh K) (w : W) (H : Hp) : Prop := g.dr0 w.pos w.cells H ∧ NetOk g.nt w.ob H
theorem Gh.zt {K : PySem.W.Frag} (g : Gh K) (a : Addr) (h : g.Z a) : g.T a := h.elim (g.zt0 a) fun ⟨n, e, q⟩ => g.ztn n e a q
theorem NetOk.frame {nt : Option NA} {ob : Option Net} {H H' : Hp} (h : NetOk nt ob H) (k : ∀ n, nt = some n → ∀ a, a ∈ n.all → H' a = H a) : NetOk nt ob H' := by
  cases nt with
  | none => exact h
  | some n => obtain ⟨N, e, q⟩ := h; exact ⟨N, e, q.frame (k n rfl)⟩
theorem Gh.drk {K : PySem.W.Frag} (g : Gh K) (w : W) (H H' : Hp) (d : g.dr w H) (k : ∀ a, g.Z a → H' a = H a) : g.dr w H' :=
  ⟨g.drk0 _ _ H H' d.1 fun a z => k a (.inl z), d.2.frame fun n e a q => k a (.inr ⟨n, e, q⟩)⟩
/-- what A does not hold stands -/
structure KeepA (A : Addr → Prop) (H H' : Hp) : Prop where
  at_ : ∀ a o, ¬ A a → H a = some o → H' a = some o
  live : ∀ a, H a ≠ none → H' a ≠ none
theorem KeepA.refl (A : Addr → Prop) (H : Hp) : KeepA A H H := ⟨fun _ _ _ e => e, fun _ e => e⟩
theorem KeepA.trans {A : Addr → Prop} {H H1 H2 : Hp} (a : KeepA A H H1) (b : KeepA A H1 H2) : KeepA A H H2 :=
  ⟨fun c o n e => b.at_ c o n (a.at_ c o n e), fun c e => b.live c (a.live c e)⟩
theorem KeepA.of_same {A : Addr → Prop} {H H' : Hp} (s : Same H H') : KeepA A H H' :=
  ⟨fun a o _ e => s a o e, fun a e => by
    cases q : H a with
    | none => exact absurd q e
    | some o => rw [s a o q]; simp⟩
/-- an expression was reckoned: what may be changed may have grown by new things -/
structure Keep {K : PySem.W.Frag} (g g' : Gh K) (H H' : Hp) : Prop where
  at_ : ∀ a o, ¬ g.Z a → H a = some o → H' a = some o
  live : ∀ a, H a ≠ none → H' a ≠ none
  t1 : ∀ a, g.T a → g'.T a
  t2 : ∀ a, g'.T a → g.T a ∨ (H a = none ∧ H' a ≠ none)
  z1 : ∀ a, g.Z a → g'.Z a
  z2 : ∀ a, g'.Z a → g.Z a ∨ H a = none
  h0 : g'.H0 = g.H0
  sd : g'.sd = g.sd
  wd : g'.wd = g.wd
  kd : g'.kd = g.kd
  nt : NtLe g.nt g'.nt
section
variable {K : PySem.W.Frag} {g g1 g2 : Gh K} {H H1 H2 H' : Hp}
theorem Keep.refl (g : Gh K) (H : Hp) : Keep g g H H := ⟨fun _ _ _ e => e, fun _ e => e, fun _ t => t, fun _ t => .inl t, fun _ t => t, fun _ t => .inl t, rfl, rfl, rfl, rfl, NtLe.refl _⟩
theorem Keep.trans (a : Keep g g1 H H1) (b : Keep g1 g2 H1 H2) : Keep g g2 H H2 :=
  ⟨fun c o n e => b.at_ c o (fun z => (a.z2 c z).elim n fun q => by rw [q] at e; cases e) (a.at_ c o n e), fun c e => b.live c (a.live c e), fun c t => b.t1 c (a.t1 c t),
    fun c t => (b.t2 c t).elim (fun t => (a.t2 c t).imp_right fun q => ⟨q.1, b.live c q.2⟩) fun q => .inr ⟨Classical.byContradiction fun n => a.live c n q.1, q.2⟩,
    fun c z => b.z1 c (a.z1 c z), fun c z => (b.z2 c z).elim (a.z2 c) fun q => .inr (Classical.byContradiction fun n => a.live c n q),
    b.h0.trans a.h0, b.sd.trans a.sd, b.wd.trans a.wd, b.kd.trans a.kd, a.nt.trans b.nt⟩
theorem Keep.of_same (s : Same H H') : Keep g g H H' :=
  ⟨fun a o _ e => s a o e, (KeepA.of_same (A := g.Z) s).live, fun _ t => t, fun _ t => .inl t, fun _ t => t, fun _ t => .inl t, rfl, rfl, rfl, rfl, NtLe.refl _⟩
end
/-- what stands in the heap of a thing that a def alone holds: a list; a dict with whole numbers as keys -/
def layV (kvs : List (Int × V)) : List V := kvs.flatMap fun p => [.int p.1, p.2]
def dkO (kvs : List (Int × V)) : HO := .dK (kvs.map fun p => ((Sum.inl p.1 : Key), p.2))
def HoS : Bool → List V → HO → Prop
  | false, vs, o => o = .lst vs
  | true, vs, o => ∃ kvs, vs = layV kvs ∧ o = dkO kvs
def ownA (env : En) (σ : SS) (a : Addr) : Prop := ∃ (i : Nat) (b : Bool) (xs : List PyData), env[i]? = some (.ow b xs) ∧ σ[i]? = some (some (.ref a))
/-- what a value may not lean on -/
def av {K : PySem.W.Frag} (g : Gh K) (m : Bool) (env : En) (σ : SS) : Addr → Prop := fun a => g.T a ∨ (m = true ∧ ownA env σ a)
structure StOk {K : PySem.W.Frag} (g : Gh K) (env : En) (w : W) (σ : SS) (H : Hp) : Prop where
  len : σ.length = env.length
  sh : ∀ (i : Nat) x, env[i]? = some (.sh x) → ∃ v, σ[i]? = some (some v) ∧ Rep K (av g true env σ) H v x
  ow : ∀ (i : Nat) b xs, env[i]? = some (.ow b xs) → ∃ a vs, σ[i]? = some (some (.ref a)) ∧ (∃ o, H a = some o ∧ HoS b vs o) ∧ Reps K (av g true env σ) H vs xs ∧ g.H0 a = none ∧ ¬ g.T a
  st : ∀ (i k : Nat), env[i]? = some (.st k) → (k ≠ 9 → k ≠ 8 → σ[i]? = some (some (.ref g.sd)) ∧ g.kd = k) ∧ (k = 9 → σ[i]? = some (some (.ref g.wd))) ∧ (k = 8 → ∃ n, g.nt = some n ∧ σ[i]? = some (some (.ref n.b.od)))
  fz : ∀ (i : Nat) ns, env[i]? = some (.fz ns) → ∃ a, σ[i]? = some (some (.ref a)) ∧ LstAt K (av g true env σ) H a (ns.map V.int)
  dist : ∀ (i j : Nat) b c xs ys a, env[i]? = some (.ow b xs) → env[j]? = some (.ow c ys) → σ[i]? = some (some (.ref a)) → σ[j]? = some (some (.ref a)) → i = j
  live : ∀ a, g.T a → H a ≠ none
  keep : KeepA g.Z g.H0 H
  dr : g.dr w H
theorem seqL_mono {K : PySem.W.Frag} {H H' : Hp} {a : Addr} {vs : List V} (h : ∀ o, H a = some o → H' a = some o) (q : SqL K H a vs) : SqL K H' a vs := by
  rcases q with (q | ⟨o, q⟩) | q
  · exact .inl (.inl (h _ q))
  · exact .inl (.inr ⟨o, h _ q⟩)
  · exact .inr q
section
variable {K : PySem.W.Frag} {g g' : Gh K} {m : Bool} {env : En} {w w' : W} {σ : SS} {H H' : Hp}
theorem av_z {a : Addr} (h : g.Z a) : av g m env σ a := .inl (g.zt a h)
theorem av_le {a : Addr} (h : av g m env σ a) : av g true env σ a := h.elim .inl fun q => .inr ⟨rfl, q.2⟩
theorem av_false {a : Addr} (h : av g false env σ a) : g.T a := h.elim id fun q => nomatch q.1
theorem StOk.owNT (I : StOk g env w σ H) {a : Addr} (h : ownA env σ a) : ¬ g.T a := by
  obtain ⟨i, b, xs, e1, e2⟩ := h
  obtain ⟨b, vs, q, _, _, _, n⟩ := I.ow i _ xs e1
  rw [e2] at q
  cases q
  exact n
theorem StOk.owLive (I : StOk g env w σ H) {a : Addr} (h : ownA env σ a) : H a ≠ none := by
  obtain ⟨i, b, xs, e1, e2⟩ := h
  obtain ⟨b, vs, q, ⟨o, e, _⟩, _, _, n⟩ := I.ow i _ xs e1
  rw [e2] at q
  cases q
  rw [e]; simp
theorem StOk.avLive (I : StOk g env w σ H) {a : Addr} (h : av g m env σ a) : H a ≠ none := by
  rcases h with h | ⟨_, h⟩
  · exact I.live a h
  · exact I.owLive h
theorem av_new (k : Keep g g' H H') {a : Addr} (h : av g' m env σ a) : av g m env σ a ∨ H a = none := by
  rcases h with h | h
  · exact (k.t2 a h).elim (fun z => .inl (.inl z)) fun z => .inr z.1
  · exact .inl (.inr h)
theorem Rep.keep {x : PyData} {v : V} (r : Rep K (av g m env σ) H v x) (k : Keep g g' H H') : Rep K (av g' m env σ) H' v x :=
  (Rep.tracked x r).mon (fun a o n e => k.at_ a o (fun z => n (.inl (av_z z))) e) fun _ q => av_new k q
theorem Reps.keep {x : List PyData} {v : List V} (r : Reps K (av g m env σ) H v x) (k : Keep g g' H H') : Reps K (av g' m env σ) H' v x :=
  (Reps.tracked x r).mon (fun a o n e => k.at_ a o (fun z => n (.inl (av_z z))) e) fun _ q => av_new k q
/-- an expression was reckoned -/
theorem StOk.step (I : StOk g env w σ H) (k : Keep g g' H H') (d : g'.dr w' H') : StOk g' env w' σ H' where
  len := I.len
  sh := fun i x e => by
    obtain ⟨v, q, r⟩ := I.sh i x e
    exact ⟨v, q, r.keep k⟩
  ow := fun i b xs e => by
    obtain ⟨a, vs, q, ⟨o, h, ho⟩, r, n, t⟩ := I.ow i b xs e
    exact ⟨a, vs, q, ⟨o, k.at_ a _ (fun z => t (g.zt a z)) h, ho⟩, r.keep k, by rw [k.h0]; exact n, fun z => (k.t2 a z).elim t fun e => by rw [h] at e; cases e.1⟩
  st := fun i j e => by
    rw [k.sd, k.kd, k.wd]
    refine ⟨(I.st i j e).1, (I.st i j e).2.1, fun z => ?_⟩
    obtain ⟨n, e1, e2⟩ := (I.st i j e).2.2 z
    obtain ⟨n', e3, e4, _⟩ := k.nt n e1
    exact ⟨n', e3, by rw [e4]; exact e2⟩
  fz := fun i ns e => by
    obtain ⟨a, q, s⟩ := I.fz i ns e
    exact ⟨a, q, s.tracked.mono (fun a o n e => k.at_ a o (fun z => n (.inl (av_z z))) e) fun _ z => av_new k z⟩
  dist := I.dist
  live := fun a t => (k.t2 a t).elim (fun t => k.live a (I.live a t)) fun q => q.2
  keep := by
    rw [k.h0]
    exact ⟨fun a o n e => k.at_ a o (fun z => n (k.z1 a z)) (I.keep.at_ a o (fun z => n (k.z1 a z)) e), fun a e => k.live a (I.keep.live a e)⟩
  dr := d
theorem StOk.owL (I : StOk g env w σ H) (i : Nat) (xs : List PyData) (e : env[i]? = some (.ow false xs)) : ∃ a vs, σ[i]? = some (some (.ref a)) ∧ H a = some (.lst vs) ∧ Reps K (av g true env σ) H vs xs ∧ g.H0 a = none ∧ ¬ g.T a := by
  obtain ⟨a, vs, q, ⟨o, h, ho⟩, r⟩ := I.ow i false xs e
  cases ho
  exact ⟨a, vs, q, h, r⟩
theorem StOk.same (I : StOk g env w σ H) (s : Same H H') : g.dr w H' := g.drk w H H' I.dr fun a z => by
  cases q : H a with
  | none => exact absurd q (I.live a (g.zt a z))
  | some o => exact s a o q
theorem newAt (I : StOk g' env w' σ H') (k : Keep g g' H H') {q : Addr} (hq : H' q = none) : H q = none ∧ ¬ g'.T q := by
  refine ⟨?_, fun t => I.live q t hq⟩
  cases z : H q with
  | none => rfl
  | some o => exact absurd hq (k.live q (by rw [z]; simp))
end

/-! ### judgements -/
/-- an expression's reading keeps what f says; m: the value leans on nothing that the def may change -/
def VwE (K : PySem.W.Frag) (m : Bool) (t : TE) (f : EF) : Prop :=
  ∀ (g : Gh K) (env : En) (w : W) (σ : SS) (H : Hp) (Q : VK) (x : PyData) (w' : W), True → StOk g env w σ H → f env w = some (x, w') →
    (∀ {g' : Gh K} v H', Keep g g' H H' → g'.dr w' H' → Rep K (av g' m env σ) H' v x → Q v H') → t σ H Q
def VwT (K : PySem.W.Frag) (t : TT) (f : TF) : Prop :=
  ∀ (g : Gh K) (env : En) (w : W) (σ : SS) (H : Hp) (Q : Bool → Hp → Prop) (b : Bool) (w' : W), True → StOk g env w σ H → f env w = some (b, w') →
    (∀ {g' : Gh K} H', Keep g g' H H' → g'.dr w' H' → Q b H') → t σ H Q
def VwA (K : PySem.W.Frag) (m : Bool) (t : TA) (f : AF) : Prop :=
  ∀ (g : Gh K) (env : En) (w : W) (σ : SS) (H : Hp) (Q : List V → Hp → Prop) (xs : List PyData) (w' : W), True → StOk g env w σ H → f env w = some (xs, w') →
    (∀ {g' : Gh K} vs H', Keep g g' H H' → g'.dr w' H' → Reps K (av g' m env σ) H' vs xs → Q vs H') → t σ H Q
/-- .. a new list -/
def VwL (K : PySem.W.Frag) (m : Bool) (t : TE) (f : LF) : Prop :=
  ∀ (g : Gh K) (env : En) (w : W) (σ : SS) (H : Hp) (Q : VK) (xs : List PyData) (w' : W), True → StOk g env w σ H → f env w = some (xs, w') →
    (∀ {g' : Gh K} p vs H', H p = none ∧ ¬ g'.T p → Keep g g' H H' → g'.dr w' H' → H' p = some (.lst vs) → Reps K (fun a => av g' m env σ a ∨ a = p) H' vs xs → Q (.ref p) H') → t σ H Q
structure PV (X : Cx) (m : Bool) (e : Expr) (t : TE) (f : EF) : Prop where
  pe : PE X e t
  vw : VwE X.K m t f
structure PTV (X : Cx) (e : Expr) (t : TT) (f : TF) : Prop where
  pe : PT X e t
  vw : VwT X.K t f
structure PWV (X : Cx) (e : Expr) (t : TT) (f : TF) : Prop where
  pe : PW X e t
  vw : VwT X.K t f
structure PAV (X : Cx) (m : Bool) (es : List Expr) (t : TA) (f : AF) : Prop where
  pe : PA X es t
  vw : VwA X.K m t f
structure PLV (X : Cx) (m : Bool) (e : Expr) (t : TE) (f : LF) : Prop where
  pe : PE X e t
  vw : VwL X.K m t f

section
variable {X : Cx} {m : Bool} {e a b c : Expr} {ta tb tc : TE} {f h k : EF} {pos : Pos}
/-- .. may be left out -/
theorem PV.weak (p : PV X true e ta f) : PV X m e ta f := ⟨p.pe, fun g env w σ H Q x w' hK I hf q =>
  p.vw _ env w σ H Q x w' hK I hf fun v H' k d r => q v H' k d (r.mon (fun _ _ _ e => e) fun _ => av_le)⟩
theorem pv_flat (p : PV X false e ta f) : PV X m e ta (xFlat f) := ⟨p.pe, fun g env w σ H Q x w' hK I hf q => by
  obtain ⟨y, w1, h1, h2⟩ := bind_some.mp hf
  refine p.vw _ env w σ H Q y _ hK I h1 fun v H' k d r => ?_
  by_cases fl : flat y = true
  · rw [if_pos fl] at h2
    obtain ⟨rfl, rfl⟩ := pure_get h2
    exact q v H' k d (r.of_flat fl)
  · rw [if_neg fl] at h2; cases h2⟩
theorem xVar_get {i : Nat} {env : En} {w w' : W} {x : PyData} (h : xVar i env w = some (x, w')) : env[i]? = some (.sh x) ∧ w' = w := by
  unfold xVar at h
  cases e : env[i]? with
  | none => rw [e] at h; cases h
  | some s =>
    rw [e] at h
    cases s with
    | sh y => obtain ⟨rfl, rfl⟩ := pure_get h; exact ⟨rfl, rfl⟩
    | _ => cases h
theorem xVarO_get {i : Nat} {env : En} {w w' : W} {x : PyData} (h : xVarO i env w = some (x, w')) : (env[i]? = some (.sh x) ∨ ∃ xs, env[i]? = some (.ow false xs) ∧ x = .list xs) ∧ w' = w := by
  unfold xVarO at h
  cases e : env[i]? with
  | none => rw [e] at h; cases h
  | some s =>
    rw [e] at h
    cases s with
    | sh y => obtain ⟨rfl, rfl⟩ := pure_get h; exact ⟨.inl rfl, rfl⟩
    | ow b xs =>
      cases b with
      | false => obtain ⟨rfl, rfl⟩ := pure_get h; exact ⟨.inr ⟨xs, rfl, rfl⟩, rfl⟩
      | true => cases h
    | _ => cases h
def visB (sc : Scope) (x : Str) : Bool := match sc.names.lookup x with
  | some .local => true
  | some .cell => true
  | some .free => true
  | _ => false
theorem vis_of {sc : Scope} {x : Str} (h : visB sc x = true) : Vis sc x := by
  unfold visB at h
  split at h
  · rename_i e; exact .inl e
  · rename_i e; exact .inr (.inl e)
  · rename_i e; exact .inr (.inr e)
  · cases h
def locB (sc : Scope) (x : Str) : Bool := match sc.names.lookup x with
  | some .local => true
  | some .cell => true
  | _ => false
theorem loc_of {sc : Scope} {x : Str} (h : locB sc x = true) : Loc sc x := by
  unfold locB at h
  split at h
  · rename_i e; exact .inl e
  · rename_i e; exact .inr e
  · cases h
def fnB (X : Cx) (x : Str) : Bool := X.fn x || (match X.env.scope.names.lookup x with
  | some .local => true
  | _ => false)
theorem fn_of' {X : Cx} {x : Str} (h : fnB X x = true) : X.fn x = true ∨ X.env.scope.names.lookup x = some .local := by
  unfold fnB at h
  rw [Bool.or_eq_true] at h
  rcases h with h | h
  · exact .inl h
  · split at h
    · rename_i e; exact .inr e
    · cases h
def dunB (x : Str) : Bool := !(x == ("__debug__" : Str)) && !(x == ("__classdict__" : Str))
theorem dun1 {x : Str} (h : dunB x = true) : (x == ("__debug__" : Str)) = false := by
  unfold dunB at h
  rw [Bool.and_eq_true, Bool.not_eq_true', Bool.not_eq_true'] at h
  exact h.1
theorem dun2 {x : Str} (h : dunB x = true) : (x == ("__classdict__" : Str)) = false := by
  unfold dunB at h
  rw [Bool.and_eq_true, Bool.not_eq_true', Bool.not_eq_true'] at h
  exact h.2
theorem vw_var {K : PySem.W.Frag} (i : Nat) : VwE K m (tVar i) (xVar i) := fun g env w σ H Q x w' hK I hf q => by
  obtain ⟨e, rfl⟩ := xVar_get hf
  obtain ⟨v, hv, r⟩ := I.sh i _ e
  exact ⟨v, hv, q v H (Keep.refl _ _) I.dr (r.mon (fun _ _ _ e => e) fun _ => av_le)⟩
theorem vw_varO {K : PySem.W.Frag} (i : Nat) : VwE K false (tVar i) (xVarO i) := fun g env w σ H Q x w' hK I hf q => by
  obtain ⟨e | ⟨xs, e, rfl⟩, rfl⟩ := xVarO_get hf
  · obtain ⟨v, hv, r⟩ := I.sh i _ e
    exact ⟨v, hv, q v H (Keep.refl _ _) I.dr (r.mon (fun _ _ _ e => e) fun _ => av_le)⟩
  · obtain ⟨a, vs, hv, ha, r, _, nt⟩ := I.owL i xs e
    exact ⟨_, hv, q _ H (Keep.refl _ _) I.dr (.lst (fun z => nt (av_false z)) ha (r.mon (fun _ _ _ e => e) fun _ => av_le))⟩
theorem pv_var {i : Nat} {x : Str} {pos : Pos} (hN : X.N[i]? = some x) (hv : visB X.env.scope x = true) (hd : dunB x = true) : PV X m (.Name x pos) (tVar i) (xVar i) := ⟨pe_var hN (vis_of hv) (dun1 hd) (dun2 hd), vw_var i⟩
theorem pv_varO {i : Nat} {x : Str} {pos : Pos} (hN : X.N[i]? = some x) (hv : visB X.env.scope x = true) (hd : dunB x = true) : PV X false (.Name x pos) (tVar i) (xVarO i) := ⟨pe_var hN (vis_of hv) (dun1 hd) (dun2 hd), vw_varO i⟩
theorem vw_const {v : V} {x : PyData} (hx : ∀ K T H, Rep K T H v x) : VwE X.K m (tC v) (xC x) := fun g env w σ H Q y w' hK I hf q => by
  obtain ⟨rfl, rfl⟩ := pure_get hf
  exact q v H (Keep.refl _ _) I.dr (hx _ _ _)
theorem pv_int {i j pos} : PV X m (.Constant (.int i) j pos) (tC (.int i)) (xC (.int i)) := ⟨pe_int, vw_const fun _ _ _ => .int i⟩
theorem pv_bl {i j pos} : PV X m (.Constant (.bool i) j pos) (tC (.bl i)) (xC (.bool i)) := ⟨pe_bl, vw_const fun _ _ _ => .bl i⟩
theorem pv_non {j pos} : PV X m (.Constant .none j pos) (tC .non) (xC .none) := ⟨pe_non, vw_const fun _ _ _ => .non⟩
theorem pv_str {i j pos} : PV X m (.Constant (.str i) j pos) (tC (.str i)) (xC (.str i)) := ⟨pe_str, vw_const fun _ _ _ => .str i⟩

/-! ### operators by values -/
def OpV (K : PySem.W.Frag) (r : R2) (F : PyData → PyData → Option PyData) : Prop :=
  ∀ (T : Addr → Prop) (H : Hp) (u v : V) (x y z : PyData) (Q : VK), (∀ a, T a → H a ≠ none) → Rep K T H u x → Rep K T H v y → F x y = some z → (∀ t H', Same H H' → Rep K T H' t z → Q t H') → r u v H Q
theorem vw_op {K : PySem.W.Frag} {r : R2} {F : PyData → PyData → Option PyData} (ho : OpV K r F) (p : VwE K m ta f) (q : VwE K m tb h) : VwE K m (tOp r ta tb) (xOp F f h) := fun g env w σ H Q x w' hK I hf k => by
  obtain ⟨y, w1, h1, h2⟩ := bind_some.mp hf
  obtain ⟨z, w2, h3, h4⟩ := bind_some.mp h2
  obtain ⟨e1, rfl⟩ := lift_get h4
  refine p _ env w σ H _ y _ hK I h1 fun v H1 k1 d1 r1 => ?_
  refine q _ env w1 σ H1 _ z _ hK (I.step k1 d1) h3 fun v2 H2 k2 d2 r2 => ?_
  have I2 := (I.step k1 d1).step k2 d2
  refine ho (av _ m env σ) H2 v v2 y z x Q (fun a t => I2.avLive t) (r1.keep k2) r2 e1 fun t H' s r3 => ?_
  exact k t H' ((k1.trans k2).trans (Keep.of_same s)) (I2.same s) r3
theorem pv_op {op : Operator} {r : R2} {F : PyData → PyData → Option PyData} (hr : OpR X (binaryOp op) r) (ho : OpV X.K r F) (p : PV X m a ta f) (q : PV X m b tb h) : PV X m (.BinOp a op b pos) (tOp r ta tb) (xOp F f h) :=
  ⟨pe_op hr p.pe q.pe, vw_op ho p.vw q.vw⟩
theorem pv_cmp {op : CmpOp} {r : R2} {F : PyData → PyData → Option PyData} (hr : OpR X (compareOp op) r) (ho : OpV X.K r F) (p : PV X m a ta f) (q : PV X m b tb h) (hm : behindInMarks op b = false) : PV X m (.Compare a [op] [b] pos) (tOp r ta tb) (xOp F f h) :=
  ⟨pe_cmpR hr p.pe q.pe hm, vw_op ho p.vw q.vw⟩
theorem pt_cmpV {op : CmpOp} {r : R2} {F : PyData → PyData → Option PyData} (hr : OpR X (compareOp op) r) (ho : OpV X.K r F) (p : PV X false a ta f) (q : PV X false b tb h) (hm : behindInMarks op b = false) : PTV X (.Compare a [op] [b] pos) (tTest (tOp r ta tb)) (xTest (xOp F f h)) :=
  ⟨pt_cmpR hr p.pe q.pe hm, fun g env w σ H Q x w' hK I hf k => by
    obtain ⟨y, w1, h1, h2⟩ := bind_some.mp hf
    obtain ⟨e1, rfl⟩ := lift_get h2
    refine vw_op ho p.vw q.vw _ env w σ H _ y _ hK I h1 fun v H1 k1 d1 r1 => ?_
    cases y with
    | bool c =>
      cases r1
      have e3 : c = x := by simpa [asB] using e1
      subst e3
      exact ⟨c, rfl, k H1 k1 d1⟩
    | _ => simp [asB] at e1⟩
theorem vw_un {K : PySem.W.Frag} {r : V → Hp → VK → Prop} {F : PyData → Option PyData} (ho : ∀ (T : Addr → Prop) (H : Hp) (u : V) (x z : PyData) (Q : VK), Rep K T H u x → F x = some z → (∀ t, Rep K T H t z → Q t H) → r u H Q) (p : VwE K m ta f) : VwE K m (tUn r ta) (xUn F f) := fun g env w σ H Q x w' hK I hf k => by
  obtain ⟨y, w1, h1, h2⟩ := bind_some.mp hf
  obtain ⟨e1, rfl⟩ := lift_get h2
  refine p _ env w σ H _ y _ hK I h1 fun v H1 k1 d1 r1 => ?_
  exact ho _ H1 v y x Q r1 e1 fun t r2 => k t H1 k1 d1 r2
theorem pv_neg (p : PV X m a ta f) : PV X m (.UnaryOp .USub a pos) (tUn (rU fun i => .int (-i)) ta) (xUn fNeg f) := ⟨pe_un un_neg p.pe, vw_un (fun T H u x z Q r e q => by
  cases r with
  | int i => simp [fNeg] at e; subst e; exact ⟨i, rfl, q _ (.int _)⟩
  | _ => simp [fNeg] at e) p.vw⟩

theorem ov_int0 {K : PySem.W.Frag} {gi : Int → Int → V} {F : PyData → PyData → Option PyData} (hF : ∀ x y z, F x y = some z → ∃ i j, x = .int i ∧ y = .int j ∧ ∀ T H, Rep K T H (gi i j) z) : OpV K (rI0 gi) F := fun T H u v x y z Q lv r1 r2 e q => by
  obtain ⟨i, j, rfl, rfl, hz⟩ := hF x y z e
  cases r1; cases r2
  exact ⟨i, j, rfl, rfl, q _ H (Same.refl H) (hz T H)⟩
theorem ov_int {K : PySem.W.Frag} {C : Int → Int → Prop} {gi : Int → Int → V} {F : PyData → PyData → Option PyData} (hF : ∀ x y z, F x y = some z → ∃ i j, x = .int i ∧ y = .int j ∧ C i j ∧ ∀ T H, Rep K T H (gi i j) z) : OpV K (rI C gi) F := fun T H u v x y z Q lv r1 r2 e q => by
  obtain ⟨i, j, rfl, rfl, hc, hz⟩ := hF x y z e
  cases r1; cases r2
  exact ⟨i, j, rfl, rfl, hc, q _ H (Same.refl H) (hz T H)⟩
theorem ov_sub {K : PySem.W.Frag} : OpV K (rI0 fun i j => .int (i - j)) fSub := ov_int0 fun x y z e => by
  unfold fSub at e
  split at e
  · cases e; exact ⟨_, _, rfl, rfl, fun _ _ => .int _⟩
  · cases e
theorem ov_lt {K : PySem.W.Frag} : OpV K (rI0 fun i j => .bl (decide (i < j))) fLt := ov_int0 fun x y z e => by
  unfold fLt at e
  split at e
  · cases e; exact ⟨_, _, rfl, rfl, fun _ _ => .bl _⟩
  · cases e
theorem ov_le {K : PySem.W.Frag} : OpV K (rI0 fun i j => .bl (decide (i ≤ j))) fLe := ov_int0 fun x y z e => by
  unfold fLe at e
  split at e
  · cases e; exact ⟨_, _, rfl, rfl, fun _ _ => .bl _⟩
  · cases e
theorem ov_gt {K : PySem.W.Frag} : OpV K (rI0 fun i j => .bl (decide (j < i))) fGt := ov_int0 fun x y z e => by
  unfold fGt at e
  split at e
  · cases e; exact ⟨_, _, rfl, rfl, fun _ _ => .bl _⟩
  · cases e
theorem ov_ge {K : PySem.W.Frag} : OpV K (rI0 fun i j => .bl (decide (j ≤ i))) fGe := ov_int0 fun x y z e => by
  unfold fGe at e
  split at e
  · cases e; exact ⟨_, _, rfl, rfl, fun _ _ => .bl _⟩
  · cases e
theorem ov_mul {K : PySem.W.Frag} : OpV K (rI CMul fun i j => .int (i * j)) fMul := ov_int fun x y z e => by
  unfold fMul at e
  split at e
  · split at e
    · rename_i hc
      cases e
      refine ⟨_, _, rfl, rfl, ?_, fun _ _ => .int _⟩
      simp only [inW, Bool.or_eq_true, Bool.and_eq_true, decide_eq_true_eq] at hc
      exact hc
    · cases e
  · cases e
theorem ov_div {K : PySem.W.Frag} : OpV K (rI CDiv fun i j => .int (i / j)) fDiv := ov_int fun x y z e => by
  unfold fDiv at e
  split at e
  · split at e
    · rename_i hc
      cases e
      exact ⟨_, _, rfl, rfl, hc, fun _ _ => .int _⟩
    · cases e
  · cases e
theorem ov_mod {K : PySem.W.Frag} : OpV K (rI (fun _ j => 0 < j) fun i j => .int (i % j)) fMod := ov_int fun x y z e => by
  unfold fMod at e
  split at e
  · split at e
    · rename_i hc
      cases e
      exact ⟨_, _, rfl, rfl, hc, fun _ _ => .int _⟩
    · cases e
  · cases e
theorem upd_new {H : Hp} {p : Addr} {o : HO} (h : H p = none) : Same H (upd H p o) := fun b x e => by
  rw [upd_ne (ne_of_none e h)]
  exact e
theorem ov_add {K : PySem.W.Frag} : OpV K (fun x y H Q => rI0 (fun i j => .int (i + j)) x y H Q ∨ rCat x y H Q) fAdd := fun T H u v x y z Q lv r1 r2 e q => by
  unfold fAdd at e
  split at e
  · cases e
    cases r1; cases r2
    exact .inl ⟨_, _, rfl, rfl, q _ H (Same.refl H) (.int _)⟩
  · split at e
    · rename_i xs ys hl
      cases e
      cases r1 with
      | lst n1 a1 s1 =>
        cases r2 with
        | lst n2 a2 s2 =>
          refine .inr ⟨_, _, _, _, rfl, rfl, a1, a2, ?_, fun p hp => ?_⟩
          · rw [s1.length, s2.length, ← line_eq]; exact hl
          · refine q _ _ (upd_new hp) (.lst (fun z => lv p z hp) upd_same ?_)
            exact (s1.append s2).mon (fun a o n e => upd_new hp a o e) fun _ q => q
    · cases e
  · cases e
theorem ov_eq {K : PySem.W.Frag} : OpV K (rEqD K) fEq := fun T H u v x y z Q lv r1 r2 e q => by
  unfold fEq at e
  split at e
  · rename_i hc
    cases e
    simp only [shp, Bool.and_eq_true] at hc
    exact ⟨x, y, r1.dp, r2.dp, hc.1, hc.2, q _ H (Same.refl H) (.bl _)⟩
  · cases e
theorem ov_ne {K : PySem.W.Frag} : OpV K (rNeD K) fNe := fun T H u v x y z Q lv r1 r2 e q => by
  unfold fNe at e
  split at e
  · rename_i hc
    cases e
    simp only [shp, Bool.and_eq_true] at hc
    exact ⟨x, y, r1.dp, r2.dp, hc.1, hc.2, q _ H (Same.refl H) (.bl _)⟩
  · cases e
theorem isNone_rep {K : PySem.W.Frag} {T : Addr → Prop} {H : Hp} {v : V} {x : PyData} (r : Rep K T H v x) : decide (v = .non) = isNone x := by
  cases r <;> simp [isNone]
/-- a is None -/
theorem vw_isN {K : PySem.W.Frag} (p : VwE K false ta f) : VwE K m (tIsN ta) (xUn fIsN f) := fun g env w σ H Q x w' hK I hf k => by
  obtain ⟨y, w1, h1, h2⟩ := bind_some.mp hf
  obtain ⟨e1, rfl⟩ := lift_get h2
  refine p _ env w σ H _ y _ hK I h1 fun v H1 k1 d1 r1 => ?_
  have e3 : .bool (isNone y) = x := by simpa [fIsN] using e1
  subst e3
  rw [isNone_rep r1]
  exact k _ H1 k1 d1 (.bl _)
theorem vw_notN {K : PySem.W.Frag} (p : VwE K false ta f) : VwE K m (tNotN ta) (xUn fNotN f) := fun g env w σ H Q x w' hK I hf k => by
  obtain ⟨y, w1, h1, h2⟩ := bind_some.mp hf
  obtain ⟨e1, rfl⟩ := lift_get h2
  refine p _ env w σ H _ y _ hK I h1 fun v H1 k1 d1 r1 => ?_
  have e3 : .bool (!isNone y) = x := by simpa [fNotN] using e1
  subst e3
  rw [isNone_rep r1]
  exact k _ H1 k1 d1 (.bl _)
theorem pv_isN {j pos'} (p : PV X false a ta f) : PV X m (.Compare a [.Is] [.Constant .none j pos'] pos) (tIsN ta) (xUn fIsN f) := ⟨pe_cmp (pc_isN p.pe), vw_isN p.vw⟩
theorem pv_notN {j pos'} (p : PV X false a ta f) : PV X m (.Compare a [.IsNot] [.Constant .none j pos'] pos) (tNotN ta) (xUn fNotN f) := ⟨pe_cmp (pc_notN p.pe), vw_notN p.vw⟩
theorem vw_test {K : PySem.W.Frag} {t : TE} (p : VwE K false t f) : VwT K (tB t) (xTest f) := fun g env w σ H Q x w' hK I hf k => by
  obtain ⟨y, w1, h1, h2⟩ := bind_some.mp hf
  obtain ⟨e1, rfl⟩ := lift_get h2
  refine p _ env w σ H _ y _ hK I h1 fun v H1 k1 d1 r1 => ?_
  cases y with
  | bool c =>
    cases r1
    have e3 : c = x := by simpa [asB] using e1
    subst e3
    exact ⟨c, rfl, k H1 k1 d1⟩
  | _ => simp [asB] at e1
theorem pt_isN {j pos'} (p : PV X false a ta f) : PTV X (.Compare a [.Is] [.Constant .none j pos'] pos) (tB (tIsN ta)) (xTest (xUn fIsN f)) := ⟨pt_cmp (pc_isN p.pe), vw_test (vw_isN p.vw)⟩
theorem pt_notN {j pos'} (p : PV X false a ta f) : PTV X (.Compare a [.IsNot] [.Constant .none j pos'] pos) (tB (tNotN ta)) (xTest (xUn fNotN f)) := ⟨pt_cmp (pc_notN p.pe), vw_test (vw_notN p.vw)⟩
/-- a value's truth -/
theorem truth_rep {K : PySem.W.Frag} {T : Addr → Prop} {H : Hp} {v : V} {x : PyData} {k : Bool} (r : Rep K T H v x) (e : truth x = some k) : TruV K v H k := by
  cases r with
  | non => simp [truth] at e; subst e; rfl
  | bl b => simp [truth] at e; subst e; rfl
  | int i => simp [truth] at e; subst e; rfl
  | str s => simp [truth] at e
  | lst n a r =>
    have e' : (!List.isEmpty _) = k := Option.some.inj e
    refine .inl ⟨_, SqL.of a, ?_⟩
    rw [← e']
    cases r <;> rfl
  | tup a r =>
    have e' : (!List.isEmpty _) = k := Option.some.inj e
    refine .inr (.inl ⟨_, a.sq, ?_⟩)
    rw [← e']
    cases r <;> rfl
theorem pt_tru {KK : PySem.W.Frag} (hKK : X.K = KK) (p : PV X false a ta f) (he : ∀ whole, isTrue a X.env whole = (do let v ← whole; standAt a.pos; holding [v] (truthy v))) :
    PTV X a (fun σ H Q => ta σ H fun x H' => ∃ k, TruV KK x H' k ∧ Q k H') (xTruth f) := by
  subst hKK
  exact (show
    PTV X a (fun σ H Q => ta σ H fun x H' => ∃ k, TruV X.K x H' k ∧ Q k H') (xTruth f) from  ⟨pt_truth p.pe he, fun g env w σ H Q x w' hK I hf k => by
  obtain ⟨y, w1, h1, h2⟩ := bind_some.mp hf
  obtain ⟨e1, rfl⟩ := lift_get h2
  exact p.vw _ env w σ H _ y _ hK I h1 fun v H1 k1 d1 r1 => ⟨x, truth_rep r1 e1, k H1 k1 d1⟩⟩)

end
end VE

namespace VE
open PySem PySem.Spec L2
open PyProof.Rows hiding St
section
variable {X : Cx} {m : Bool} {e a b c : Expr} {rest : List Expr} {ta tb tc : TE} {tA tB' : TT} {f h k : EF} {fA fB : TF} {pos : Pos} {K : PySem.W.Frag}
/-! ### and, or, not -/
theorem PWV.pt (p : PWV X e tA fA) : PTV X e tA fA := ⟨p.pe.pt, p.vw⟩
theorem pwv_and1 (p : PTV X a tA fA) : PWV X (.BoolOp .And [a] pos) tA fA := ⟨pw_and1 p.pe, p.vw⟩
theorem pwv_or1 (p : PTV X a tA fA) : PWV X (.BoolOp .Or [a] pos) tA fA := ⟨pw_or1 p.pe, p.vw⟩
theorem vw_and (p : VwT K tA fA) (q : VwT K tB' fB) : VwT K (tAnd tA tB') (xAnd fA fB) := fun g env w σ H Q x w' hK I hf k => by
  obtain ⟨y, w1, h1, h2⟩ := bind_some.mp hf
  refine p _ env w σ H _ y _ hK I h1 fun H1 k1 d1 => ?_
  cases y with
  | true => exact q _ env _ σ H1 Q x _ hK (I.step k1 d1) h2 fun H' k2 d2 => k H' (k1.trans k2) d2
  | false =>
    obtain ⟨rfl, rfl⟩ := pure_get h2
    exact k H1 k1 d1
theorem vw_or (p : VwT K tA fA) (q : VwT K tB' fB) : VwT K (tOr tA tB') (xOr fA fB) := fun g env w σ H Q x w' hK I hf k => by
  obtain ⟨y, w1, h1, h2⟩ := bind_some.mp hf
  refine p _ env w σ H _ y _ hK I h1 fun H1 k1 d1 => ?_
  cases y with
  | false => exact q _ env _ σ H1 Q x _ hK (I.step k1 d1) h2 fun H' k2 d2 => k H' (k1.trans k2) d2
  | true =>
    obtain ⟨rfl, rfl⟩ := pure_get h2
    exact k H1 k1 d1
theorem pwv_and (p : PTV X a tA fA) (q : PWV X (.BoolOp .And (b :: rest) pos) tB' fB) : PWV X (.BoolOp .And (a :: b :: rest) pos) (tAnd tA tB') (xAnd fA fB) := ⟨pw_and p.pe q.pe, vw_and p.vw q.vw⟩
theorem pwv_or (p : PTV X a tA fA) (q : PWV X (.BoolOp .Or (b :: rest) pos) tB' fB) : PWV X (.BoolOp .Or (a :: b :: rest) pos) (tOr tA tB') (xOr fA fB) := ⟨pw_or p.pe q.pe, vw_or p.vw q.vw⟩
theorem ptv_not (p : PTV X a tA fA) : PTV X (.UnaryOp .Not a pos) (tNot tA) (xNot fA) := ⟨pt_not p.pe, fun g env w σ H Q x w' hK I hf k => by
  obtain ⟨y, w1, h1, h2⟩ := bind_some.mp hf
  obtain ⟨rfl, rfl⟩ := pure_get h2
  exact p.vw _ env w σ H _ y _ hK I h1 fun H1 k1 d1 => k H1 k1 d1⟩
theorem pv_one {op} (p : PV X m a ta f) : PV X m (.BoolOp op [a] pos) ta f := ⟨pe_one p.pe, p.vw⟩
theorem pv_and (p : PV X false a ta f) (q : PV X m (.BoolOp .And (b :: rest) pos) tb h) : PV X m (.BoolOp .And (a :: b :: rest) pos) (tAndV ta tb) (xAndV f h) := ⟨pe_and p.pe q.pe, fun g env w σ H Q x w' hK I hf k => by
  obtain ⟨y, w1, h1, h2⟩ := bind_some.mp hf
  refine p.vw _ env w σ H _ y _ hK I h1 fun v H1 k1 d1 r1 => ?_
  cases y with
  | bool c =>
    cases r1
    refine ⟨c, rfl, ?_⟩
    cases c with
    | true => exact q.vw _ env _ σ H1 Q x _ hK (I.step k1 d1) h2 fun v2 H' k2 d2 r2 => k v2 H' (k1.trans k2) d2 r2
    | false =>
      obtain ⟨rfl, rfl⟩ := pure_get h2
      exact k _ H1 k1 d1 (.bl _)
  | _ => cases h2⟩
theorem pv_or (p : PV X false a ta f) (q : PV X m (.BoolOp .Or (b :: rest) pos) tb h) : PV X m (.BoolOp .Or (a :: b :: rest) pos) (tOrV ta tb) (xOrV f h) := ⟨pe_or p.pe q.pe, fun g env w σ H Q x w' hK I hf k => by
  obtain ⟨y, w1, h1, h2⟩ := bind_some.mp hf
  refine p.vw _ env w σ H _ y _ hK I h1 fun v H1 k1 d1 r1 => ?_
  cases y with
  | bool c =>
    cases r1
    refine ⟨c, rfl, ?_⟩
    cases c with
    | false => exact q.vw _ env _ σ H1 Q x _ hK (I.step k1 d1) h2 fun v2 H' k2 d2 r2 => k v2 H' (k1.trans k2) d2 r2
    | true =>
      obtain ⟨rfl, rfl⟩ := pure_get h2
      exact k _ H1 k1 d1 (.bl _)
  | _ => cases h2⟩
theorem pv_not (p : PV X false a ta f) : PV X m (.UnaryOp .Not a pos) (tNotV ta) (xNotV f) := ⟨pe_not p.pe, fun g env w σ H Q x w' hK I hf k => by
  obtain ⟨y, w1, h1, h2⟩ := bind_some.mp hf
  refine p.vw _ env w σ H _ y _ hK I h1 fun v H1 k1 d1 r1 => ?_
  cases y with
  | bool c =>
    cases r1
    obtain ⟨rfl, rfl⟩ := pure_get h2
    exact ⟨c, rfl, k _ H1 k1 d1 (.bl _)⟩
  | _ => cases h2⟩
theorem pv_if (t : PTV X c tA fA) (p : PV X m a ta f) (q : PV X m b tb h) : PV X m (.IfExp c a b pos) (tIf tA ta tb) (xIf fA f h) := ⟨pe_ifExp t.pe p.pe q.pe, fun g env w σ H Q x w' hK I hf k => by
  obtain ⟨y, w1, h1, h2⟩ := bind_some.mp hf
  refine t.vw _ env w σ H _ y _ hK I h1 fun H1 k1 d1 => ?_
  cases y with
  | true => exact p.vw _ env _ σ H1 Q x _ hK (I.step k1 d1) h2 fun v2 H' k2 d2 r2 => k v2 H' (k1.trans k2) d2 r2
  | false => exact q.vw _ env _ σ H1 Q x _ hK (I.step k1 d1) h2 fun v2 H' k2 d2 r2 => k v2 H' (k1.trans k2) d2 r2⟩

/-! ### a chain of two comparisons -/
theorem vw_chain {r r' : R2} {F F' : PyData → PyData → Option PyData} (ho : OpV K r F) (ho' : OpV K r' F') (p : VwE K false ta f) (q : VwE K false tb h) (s : VwE K false tc k) : VwE K m (tChain r r' ta tb tc) (xChain F F' f h k) := fun g env w σ H Q x w' hK I hf kk => by
  obtain ⟨y, w1, h1, h2⟩ := bind_some.mp hf
  obtain ⟨z, w2, h3, h4⟩ := bind_some.mp h2
  obtain ⟨b1, w3, h5, h6⟩ := bind_some.mp h4
  obtain ⟨e1, rfl⟩ := lift_get h5
  refine p _ env w σ H _ y _ hK I h1 fun v H1 k1 d1 r1 => ?_
  refine q _ env _ σ H1 _ z _ hK (I.step k1 d1) h3 fun v2 H2 k2 d2 r2 => ?_
  have I2 := (I.step k1 d1).step k2 d2
  obtain ⟨zz, ez, eb⟩ := Option.bind_eq_some_iff.mp e1
  refine ho (av _ false env σ) H2 v v2 y z zz _ (fun a t => I2.avLive t) (r1.keep k2) r2 ez fun t H3 s3 r3 => ?_
  have I3 := I2.step (Keep.of_same s3) (I2.same s3)
  have k3 := (k1.trans k2).trans (Keep.of_same s3)
  cases zz with
  | bool bb =>
    have : bb = b1 := by simpa [asB] using eb
    subst this
    cases r3
    refine ⟨bb, rfl, ?_⟩
    cases bb with
    | false =>
      rw [if_neg Bool.false_ne_true] at h6
      rw [if_neg Bool.false_ne_true]
      obtain ⟨rfl, rfl⟩ := pure_get h6
      exact kk _ H3 k3 I3.dr (.bl _)
    | true =>
      rw [if_pos rfl] at h6
      rw [if_pos rfl]
      obtain ⟨u, w4, h7, h8⟩ := bind_some.mp h6
      obtain ⟨b2, w5, h9, h10⟩ := bind_some.mp h8
      obtain ⟨e2, rfl⟩ := lift_get h9
      obtain ⟨rfl, rfl⟩ := pure_get h10
      obtain ⟨z2, ez2, eb2⟩ := Option.bind_eq_some_iff.mp e2
      refine s _ env _ σ H3 _ u _ hK I3 h7 fun v4 H4 k4 d4 r4 => ?_
      have I4 := I3.step k4 d4
      refine ho' (av _ false env σ) H4 v2 v4 z u z2 Q (fun a t => I4.avLive t) (r2.keep ((Keep.of_same s3).trans k4)) r4 ez2 fun t5 H5 s5 r5 => ?_
      cases z2 with
      | bool b3 =>
        have : b3 = b2 := by simpa [asB] using eb2
        subst this
        cases r5
        exact kk _ H5 ((k3.trans k4).trans (Keep.of_same s5)) (I4.same s5) (.bl _)
      | _ => simp [asB] at eb2
  | _ => simp [asB] at eb
theorem pv_chain {op op' : CmpOp} {r r' : R2} {F F' : PyData → PyData → Option PyData} (hr : OpR X (compareOp op) r) (ho : OpV X.K r F) (hr' : OpR X (compareOp op') r') (ho' : OpV X.K r' F') (p : PV X false a ta f) (q : PV X false b tb h) (s : PV X false c tc k)
    (hm : lastMarks [op, op'] [b, c] = false) : PV X m (.Compare a [op, op'] [b, c] pos) (tChain r r' ta tb tc) (xChain F F' f h k) := ⟨pe_chain hr hr' p.pe q.pe s.pe hm, vw_chain ho ho' p.vw q.vw s.vw⟩
theorem vw_tTest {t : TE} (p : VwE K false t f) : VwT K (tTest t) (xTest f) := fun g env w σ H Q x w' hK I hf k => vw_test p _ env w σ H Q x w' hK I hf k
theorem pt_chainV {op op' : CmpOp} {r r' : R2} {F F' : PyData → PyData → Option PyData} (hr : OpR X (compareOp op) r) (ho : OpV X.K r F) (hr' : OpR X (compareOp op') r') (ho' : OpV X.K r' F') (p : PV X false a ta f) (q : PV X false b tb h) (s : PV X false c tc k)
    (hm : lastMarks [op, op'] [b, c] = false) : PTV X (.Compare a [op, op'] [b, c] pos) (tTest (tChain r r' ta tb tc)) (xTest (xChain F F' f h k)) := ⟨pt_chain hr hr' p.pe q.pe s.pe hm, vw_tTest (vw_chain ho ho' p.vw q.vw s.vw)⟩

/-! ### arguments, displays -/
variable {es : List Expr} {tas tbs : TA} {fs hs : AF}
theorem pav_nil : PAV X m [] tNil xNil := ⟨pa_nil, fun g env w σ H Q x w' hK I hf k => by
  obtain ⟨rfl, rfl⟩ := pure_get hf
  exact k [] H (Keep.refl _ _) I.dr .nil⟩
theorem pav_cons (p : PV X m e ta f) (q : PAV X m es tas fs) (hst : starEach (e :: es) X.env = (false, eval e X.env) :: starEach es X.env) : PAV X m (e :: es) (tCons ta tas) (xCons f fs) := ⟨pa_cons p.pe q.pe hst, fun g env w σ H Q x w' hK I hf k => by
  obtain ⟨y, w1, h1, h2⟩ := bind_some.mp hf
  obtain ⟨ys, w2, h3, h4⟩ := bind_some.mp h2
  obtain ⟨rfl, rfl⟩ := pure_get h4
  refine p.vw _ env w σ H _ y _ hK I h1 fun v H1 k1 d1 r1 => ?_
  refine q.vw _ env _ σ H1 _ ys _ hK (I.step k1 d1) h3 fun vs H2 k2 d2 r2 => ?_
  exact k _ H2 (k1.trans k2) d2 (.cons (r1.keep k2) r2)⟩
theorem StOk.new {g : Gh K} {env : En} {w : W} {σ : SS} {H : Hp} {o : HO} {p : Addr} (I : StOk g env w σ H) (hp : H p = none) : Keep g g H (upd H p o) ∧ g.dr w (upd H p o) := ⟨Keep.of_same (upd_new hp), I.same (upd_new hp)⟩
theorem pv_tup {x1} (p : PAV X m es tas fs) : PV X m (.Tuple es x1 pos) (tTup tas) (xTup fs) := ⟨pe_tup p.pe, fun g env w σ H Q x w' hK I hf k => by
  obtain ⟨ys, w1, h1, h2⟩ := bind_some.mp hf
  by_cases hl : ys.length ≤ line
  · rw [if_pos hl] at h2
    obtain ⟨rfl, rfl⟩ := pure_get h2
    refine p.vw _ env w σ H _ ys _ hK I h1 fun vs H1 k1 d1 r1 => ⟨by rw [r1.length, ← line_eq]; exact hl, fun q hq => ?_⟩
    have I1 := I.step k1 d1
    obtain ⟨k2, d2⟩ := I1.new (o := .tup vs) hq
    exact k _ _ (k1.trans k2) d2 (.tup (.inl ⟨fun z => I1.avLive z hq, .inl upd_same⟩) (r1.keep k2))
  · rw [if_neg hl] at h2; cases h2⟩
theorem plv_lst (p : PAV X m es tas fs) : PLV X m (.List es pos) (tLst tas) (xLst fs) := ⟨pe_lst p.pe, fun g env w σ H Q x w' hK I hf k => by
  obtain ⟨ys, w1, h1, h2⟩ := bind_some.mp hf
  by_cases hl : ys.length ≤ line
  · rw [if_pos hl] at h2
    obtain ⟨rfl, rfl⟩ := pure_get h2
    refine p.vw _ env w σ H _ ys _ hK I h1 fun vs H1 k1 d1 r1 => ⟨by rw [r1.length, ← line_eq]; exact hl, fun q hq => ?_⟩
    have I1 := I.step k1 d1
    obtain ⟨k2, d2⟩ := I1.new (o := .lst vs) hq
    refine k q vs _ ?_ (k1.trans k2) d2 upd_same ((Reps.fresh hq _ r1).mon (fun a o n e => upd_new hq a o e) fun _ z => z)
    exact newAt I1 k1 hq
  · rw [if_neg hl] at h2; cases h2⟩
theorem pv_as {t : TE} {fl : LF} (p : PLV X m e t fl) : PV X m e t (xAs fl) := ⟨p.pe, fun g env w σ H Q x w' hK I hf k => by
  obtain ⟨ys, w1, h1, h2⟩ := bind_some.mp hf
  obtain ⟨rfl, rfl⟩ := pure_get h2
  refine p.vw _ env w σ H _ ys _ hK I h1 fun q vs H1 hq k1 d1 e1 r1 => ?_
  refine k _ H1 k1 d1 (.lst (fun z => z.elim hq.2 fun o => I.owLive o.2 hq.1) e1 (r1.mon (fun _ _ _ e => e) fun _ z => .inl z))⟩
theorem Reps.of_flats {T T' : Addr → Prop} {H H' : Hp} : ∀ {ys : List PyData} {vs : List V}, Reps K T H vs ys → ys.all VE.flat = true → Reps K T' H' vs ys
  | [], _, r, _ => by cases r; exact .nil
  | y :: ys, _, r, fl => by
    rw [List.all_cons, Bool.and_eq_true] at fl
    cases r with
    | cons r1 r2 => exact .cons (r1.of_flat fl.1) (Reps.of_flats r2 fl.2)
/-- a list that is new is so whatever was held -/
theorem PLV.flat {t : TE} {fl : LF} (p : PLV X false e t fl) : PLV X m e t (xFlatL fl) := ⟨p.pe, fun g env w σ H Q x w' hK I hf k => by
  obtain ⟨ys, w1, h1, h2⟩ := bind_some.mp hf
  by_cases hl : ys.all VE.flat = true
  · rw [if_pos hl] at h2
    obtain ⟨rfl, rfl⟩ := pure_get h2
    refine p.vw _ env w σ H _ ys _ hK I h1 fun q vs H1 hq k1 d1 e1 r1 => k q vs H1 hq k1 d1 e1 ?_
    exact r1.of_flats hl
  · rw [if_neg hl] at h2; cases h2⟩

/-! ### items -/
theorem ixN_eq (n : Nat) (i : Int) : VE.ixN n i = L2.ixN n i := rfl
theorem atI_rep {T : Addr → Prop} {H : Hp} {vs : List V} {xs : List PyData} {i : Int} {x : PyData} (r : Reps K T H vs xs) (h : VE.atI xs i = some x) : ∃ v, L2.atI vs i = some v ∧ Rep K T H v x := by
  unfold VE.atI at h
  obtain ⟨j, h1, h2⟩ := Option.bind_eq_some_iff.mp h
  obtain ⟨v, e, q⟩ := r.get h2
  refine ⟨v, ?_, q⟩
  unfold L2.atI
  rw [r.length, ← ixN_eq, h1]
  exact e
theorem ov_ix : OpV K (fun x y H Q => rIxL K x y H Q ∨ rIxT K x y H Q) fIx := fun T H u v x y z Q lv r1 r2 e q => by
  unfold fIx at e
  split at e
  · cases r2
    cases r1 with
    | lst n a s =>
      obtain ⟨w, e1, e2⟩ := atI_rep s e
      exact .inl ⟨_, _, _, w, rfl, rfl, SqL.of a, e1, q w H (Same.refl H) e2⟩
  · cases r2
    cases r1 with
    | tup a s =>
      obtain ⟨w, e1, e2⟩ := atI_rep s e
      exact .inr ⟨_, _, _, w, rfl, rfl, a.sq, e1, q w H (Same.refl H) e2⟩
  · cases e
theorem pv_ix {KK : PySem.W.Frag} (hKK : X.K = KK) (p : PV X m a ta f) (q : PV X m b tb h) (hs : PlainIx b) : PV X m (.Subscript a b pos) (tOp (fun x y H Q => rIxL KK x y H Q ∨ rIxT KK x y H Q) ta tb) (xOp fIx f h) := by
  subst hKK
  exact (show PV X m (.Subscript a b pos) (tOp (fun x y H Q => rIxL X.K x y H Q ∨ rIxT X.K x y H Q) ta tb) (xOp fIx f h) from  ⟨pe_ix (ix_list.or ix_tup) p.pe q.pe hs, vw_op ov_ix p.vw q.vw⟩)

/-! ### in -/
theorem flat_rep {T : Addr → Prop} {H : Hp} {v : V} {x : PyData} (r : Rep K T H v x) (e : flat x = true) : flatV v = true := by
  cases r <;> first | rfl | cases e
theorem flats_rep {T : Addr → Prop} {H : Hp} : ∀ {xs : List PyData} {vs : List V}, Reps K T H vs xs → xs.all flat = true → vs.all flatV = true
  | [], _, r, _ => by cases r; rfl
  | x :: xs, _, r, e => by
    cases r with
    | cons r1 r2 =>
      rw [List.all_cons, Bool.and_eq_true] at e
      rw [List.all_cons, flat_rep r1 e.1, flats_rep r2 e.2]; rfl
theorem eqv_rep {T T' : Addr → Prop} {H : Hp} {v u : V} {x y : PyData} (r : Rep K T H v x) (s : Rep K T' H u y) (e1 : flat x = true) (e2 : flat y = true) : eqV v u = PyData.eqv x y := by
  cases r <;> cases s <;> first | rfl | cases e1 | cases e2 | simp [eqV, PyData.eqv]
theorem any_rep {T T' : Addr → Prop} {H : Hp} {u : V} {y : PyData} (s : Rep K T' H u y) (e2 : flat y = true) : ∀ {xs : List PyData} {vs : List V}, Reps K T H vs xs → xs.all flat = true → inV u vs = xs.any fun z => PyData.eqv z y
  | [], _, r, _ => by cases r; rfl
  | x :: xs, _, r, e => by
    cases r with
    | cons r1 r2 =>
      rw [List.all_cons, Bool.and_eq_true] at e
      have ih := any_rep s e2 r2 e.2
      unfold inV at ih ⊢
      rw [List.any_cons, List.any_cons, ih, eqv_rep r1 s e.1 e2]
theorem items_rep {T : Addr → Prop} {H : Hp} {v : V} {x : PyData} {xs : List PyData} (r : Rep K T H v x) (e : items x = some xs) : ∃ a vs, v = .ref a ∧ (SqL K H a vs ∨ SqT K H a vs) ∧ Reps K T H vs xs := by
  cases r with
  | lst n a s => simp [items] at e; subst e; exact ⟨_, _, rfl, .inl (SqL.of a), s⟩
  | tup a s => simp [items] at e; subst e; exact ⟨_, _, rfl, .inr a.sq, s⟩
  | _ => simp [items] at e
theorem ov_in : OpV K (rIn K false) fIn := fun T H u v x y z Q lv r1 r2 e q => by
  unfold fIn at e
  obtain ⟨ys, e1, e2⟩ := Option.bind_eq_some_iff.mp e
  split at e2
  · rename_i hc
    rw [Bool.and_eq_true] at hc
    obtain ⟨a, vs, rfl, hs, s⟩ := items_rep r2 e1
    cases e2
    refine ⟨a, vs, rfl, hs, flat_rep r1 hc.1, flats_rep s hc.2, ?_⟩
    rw [if_neg Bool.false_ne_true, any_rep r1 hc.1 s hc.2]
    exact q _ H (Same.refl H) (.bl _)
  · cases e2
theorem ov_notIn : OpV K (rIn K true) fNotIn := fun T H u v x y z Q lv r1 r2 e q => by
  unfold fNotIn at e
  obtain ⟨ys, e1, e2⟩ := Option.bind_eq_some_iff.mp e
  split at e2
  · rename_i hc
    rw [Bool.and_eq_true] at hc
    obtain ⟨a, vs, rfl, hs, s⟩ := items_rep r2 e1
    cases e2
    refine ⟨a, vs, rfl, hs, flat_rep r1 hc.1, flats_rep s hc.2, ?_⟩
    rw [if_pos rfl, any_rep r1 hc.1 s hc.2]
    exact q _ H (Same.refl H) (.bl _)
  · cases e2

/-! ### slices -/
structure POV (X : Cx) (e : Option Expr) (t : TO) (f : OF) : Prop where
  pe : PO X e t
  vw : ∀ (g : Gh X.K) (env : En) (w : W) (σ : SS) (H : Hp) (Q : Option Int → Hp → Prop) (x : Option Int) (w' : W), True → StOk g env w σ H → f env w = some (x, w') →
    (∀ {g' : Gh _} H', Keep g g' H H' → g'.dr w' H' → Q x H') → t σ H Q
theorem pov_none : POV X none tNoPart oNo := ⟨po_none, fun g env w σ H Q x w' hK I hf k => by
  obtain ⟨rfl, rfl⟩ := pure_get hf
  exact k H (Keep.refl _ _) I.dr⟩
theorem pov_some (p : PV X false e ta f) : POV X (some e) (tPart ta) (oSome f) := ⟨po_some p.pe, fun g env w σ H Q x w' hK I hf k => by
  obtain ⟨y, w1, h1, h2⟩ := bind_some.mp hf
  refine p.vw _ env w σ H _ y _ hK I h1 fun v H1 k1 d1 r1 => ?_
  cases y with
  | int i =>
    cases r1
    obtain ⟨rfl, rfl⟩ := pure_get h2
    exact ⟨i, rfl, k H1 k1 d1⟩
  | _ => cases h2⟩
theorem cut_rep {T : Addr → Prop} {H : Hp} {vs : List V} {xs : List PyData} (lo hi : Option Int) (r : Reps K T H vs xs) : Reps K T H (cutV vs lo hi) (cut xs lo hi) := by
  unfold cutV cut
  have e : ∀ n d o, HT.sIx n d o = VE.sIx n d o := fun n d o => by
    cases o <;> rfl
  rw [r.length, e, e]
  exact (r.drop _).take _
theorem plv_slice {lo hi : Option Expr} {tl th : TO} {fl fh : OF} {p2 : Pos} {KK : PySem.W.Frag} (hKK : X.K = KK) (p : PV X m e ta f) (ql : POV X lo tl fl) (qh : POV X hi th fh) : PLV X m (.Subscript e (.Slice lo hi none p2) pos) (tSl (rSlL KK) ta tl th) (xSlice f fl fh) := by
  subst hKK
  exact (show PLV X m (.Subscript e (.Slice lo hi none p2) pos) (tSl (rSlL X.K) ta tl th) (xSlice f fl fh) from  ⟨pe_slice sl_list p.pe ql.pe qh.pe, fun g env w σ H Q x w' hK I hf k => by
  obtain ⟨y, w1, h1, h2⟩ := bind_some.mp hf
  obtain ⟨l, w2, h3, h4⟩ := bind_some.mp h2
  obtain ⟨u, w3, h5, h6⟩ := bind_some.mp h4
  refine p.vw _ env w σ H _ y _ hK I h1 fun v H1 k1 d1 r1 => ?_
  refine ql.vw _ env _ σ H1 _ l _ hK (I.step k1 d1) h3 fun H2 k2 d2 => ?_
  refine qh.vw _ env _ σ H2 _ u _ hK ((I.step k1 d1).step k2 d2) h5 fun H3 k3 d3 => ?_
  have I3 := ((I.step k1 d1).step k2 d2).step k3 d3
  cases y with
  | list xs =>
    obtain ⟨rfl, rfl⟩ := pure_get h6
    have r3 := r1.keep (k2.trans k3)
    cases r3 with
    | lst n ha s =>
      refine ⟨_, _, rfl, SqL.of ha, fun q hq => ?_⟩
      obtain ⟨k4, d4⟩ := I3.new (o := .lst (cutV _ l u)) hq
      refine k q _ _ ?_ (((k1.trans k2).trans k3).trans k4) d4 upd_same ((Reps.fresh hq _ (cut_rep l u s)).mon (fun a o n e => upd_new hq a o e) fun _ z => z)
      exact newAt I3 ((k1.trans k2).trans k3) hq
  | _ => cases h6⟩)

end
end VE

namespace VE
open PySem PySem.Spec L2
open PyProof.Rows hiding St
section
variable {X : Cx} {m : Bool} {e a b c : Expr} {rest es : List Expr} {ta tb tc : TE} {tas : TA} {tA tB' : TT} {f h k : EF} {fs : AF} {fA fB : TF} {pos : Pos} {K : PySem.W.Frag}
/-! ### calls of built-ins -/
def CalV (K : PySem.W.Frag) (r : List V → Hp → VK → Prop) (F : List PyData → Option PyData) : Prop :=
  ∀ (T : Addr → Prop) (H : Hp) (vs : List V) (xs : List PyData) (z : PyData) (Q : VK), (∀ a, T a → H a ≠ none) → Reps K T H vs xs → F xs = some z → (∀ t H', Same H H' → Rep K T H' t z → Q t H') → r vs H Q
theorem vw_callB {r : List V → Hp → VK → Prop} {F : List PyData → Option PyData} (ho : CalV K r F) (p : VwA K m tas fs) : VwE K m (tCB r tas) (xCall F fs) := fun g env w σ H Q x w' hK I hf k => by
  obtain ⟨ys, w1, h1, h2⟩ := bind_some.mp hf
  obtain ⟨e1, rfl⟩ := lift_get h2
  refine p _ env w σ H _ ys _ hK I h1 fun vs H1 k1 d1 r1 => ?_
  have I1 := I.step k1 d1
  exact ho _ H1 vs ys x Q (fun a t => I1.avLive t) r1 e1 fun t H' s r2 => k t H' (k1.trans (Keep.of_same s)) (I1.same s) r2
theorem pv_callB {x : Str} {id : String} {p : Pos} {r : List V → Hp → VK → Prop} {F : List PyData → Option PyData} (hc : CallR X (.builtin id) r) (ho : CalV X.K r F) (hg : Gl X x) (hm : X.mg x = none) (hv : bootBuiltins x = some (.builtin id)) (ha : PAV X m (e :: es) tas fs) (hn : x ≠ "__name__") (hdb : (x == ("__debug__" : Str)) = false)
    (he : starEach (e :: es) X.env = (false, eval e X.env) :: starEach es X.env) (hpl : (backTo pos (starEach es X.env)).any (·.1) = false) : PV X m (.Call (.Name x p) (e :: es) [] pos) (tCB r tas) (xCall F fs) :=
  ⟨pe_callB hc hg hm hv ha.pe hn hdb he hpl, vw_callB ho ha.vw⟩
theorem pv_callTy {x : Str} {id : String} {p : Pos} {r : List V → Hp → VK → Prop} {F : List PyData → Option PyData} (hc : CallR X (.type id) r) (ho : CalV X.K r F) (hg : Gl X x) (hm : X.mg x = none) (hv : bootBuiltins x = some (.type id)) (ha : PAV X m (e :: es) tas fs) (hn : x ≠ "__name__") (hdb : (x == ("__debug__" : Str)) = false)
    (he : starEach (e :: es) X.env = (false, eval e X.env) :: starEach es X.env) (hpl : (backTo pos (starEach es X.env)).any (·.1) = false) : PV X m (.Call (.Name x p) (e :: es) [] pos) (tCB r tas) (xCall F fs) :=
  ⟨pe_callTy hc hg hm hv ha.pe hn hdb he hpl, vw_callB ho ha.vw⟩
theorem reps1 {T : Addr → Prop} {H : Hp} {vs : List V} {x : PyData} (r : Reps K T H vs [x]) : ∃ v, vs = [v] ∧ Rep K T H v x := by
  cases r with
  | cons r1 r2 => cases r2; exact ⟨_, rfl, r1⟩
theorem reps2 {T : Addr → Prop} {H : Hp} {vs : List V} {x y : PyData} (r : Reps K T H vs [x, y]) : ∃ v u, vs = [v, u] ∧ Rep K T H v x ∧ Rep K T H u y := by
  cases r with
  | cons r1 r2 =>
    cases r2 with
    | cons r2 r3 => cases r3; exact ⟨_, _, rfl, r1, r2⟩
theorem cv_len : CalV K (fun xs H Q => ∃ x n, xs = [x] ∧ LenV K x H n ∧ Q (.int n) H) fLen := fun T H vs xs z Q lv r e q => by
  unfold fLen at e
  split at e
  · obtain ⟨v, rfl, r'⟩ := reps1 r
    cases e
    cases r' with
    | lst n a s => exact ⟨_, _, rfl, .inl ⟨_, SqL.of a, rfl⟩, q _ H (Same.refl H) (by rw [s.length]; exact .int _)⟩
  · obtain ⟨v, rfl, r'⟩ := reps1 r
    cases e
    cases r' with
    | tup a s => exact ⟨_, _, rfl, .inr ⟨_, a.sq, rfl⟩, q _ H (Same.refl H) (by rw [s.length]; exact .int _)⟩
  · cases e
theorem cv_sum : CalV K (rSum K) fSum := fun T H vs xs z Q lv r e q => by
  unfold fSum at e
  split at e
  · obtain ⟨v, rfl, r'⟩ := reps1 r
    cases r' with
    | lst n a s =>
      obtain ⟨ns, e1, e2⟩ := Option.map_eq_some_iff.mp e
      subst e2
      obtain ⟨e3, e4⟩ := s.of_ints e1
      subst e3
      exact ⟨_, ns, rfl, SqL.of a, q _ H (Same.refl H) (.int _)⟩
  · cases e
theorem maxI_spec : ∀ (r : List Int) (a : Int), maxI a r ∈ a :: r ∧ ∀ y ∈ a :: r, y ≤ maxI a r
  | [], a => ⟨List.mem_cons_self, fun y hy => by simp at hy; subst hy; exact Int.le_refl _⟩
  | x :: r, a => by
    have e : maxI a (x :: r) = maxI (if a < x then x else a) r := rfl
    rw [e]
    obtain ⟨h1, h2⟩ := maxI_spec r (if a < x then x else a)
    constructor
    · rcases List.mem_cons.mp h1 with h | h
      · rw [h]; split <;> simp
      · exact List.mem_cons_of_mem _ (List.mem_cons_of_mem _ h)
    · intro y hy
      have h3 := h2 (if a < x then x else a) List.mem_cons_self
      rcases List.mem_cons.mp hy with h | h
      · subst h
        refine Int.le_trans ?_ h3
        split <;> omega
      · rcases List.mem_cons.mp h with h | h
        · subst h
          refine Int.le_trans ?_ h3
          split <;> omega
        · exact h2 y (List.mem_cons_of_mem _ h)
theorem minI_spec : ∀ (r : List Int) (a : Int), minI a r ∈ a :: r ∧ ∀ y ∈ a :: r, minI a r ≤ y
  | [], a => ⟨List.mem_cons_self, fun y hy => by simp at hy; subst hy; exact Int.le_refl _⟩
  | x :: r, a => by
    have e : minI a (x :: r) = minI (if x < a then x else a) r := rfl
    rw [e]
    obtain ⟨h1, h2⟩ := minI_spec r (if x < a then x else a)
    constructor
    · rcases List.mem_cons.mp h1 with h | h
      · rw [h]; split <;> simp
      · exact List.mem_cons_of_mem _ (List.mem_cons_of_mem _ h)
    · intro y hy
      have h3 := h2 (if x < a then x else a) List.mem_cons_self
      rcases List.mem_cons.mp hy with h | h
      · subst h
        refine Int.le_trans h3 ?_
        split <;> omega
      · rcases List.mem_cons.mp h with h | h
        · subst h
          refine Int.le_trans h3 ?_
          split <;> omega
        · exact h2 y (List.mem_cons_of_mem _ h)
theorem cv_max : CalV K (fun xs H Q => (∃ i j, xs = [.int i, .int j] ∧ Q (.int (if j > i then j else i)) H) ∨ rMax K xs H Q) fMax := fun T H vs xs z Q lv r e q => by
  unfold fMax at e
  split at e
  · obtain ⟨v, rfl, r'⟩ := reps1 r
    cases r' with
    | lst n a s =>
      obtain ⟨ns, e1, e2⟩ := Option.bind_eq_some_iff.mp e
      obtain ⟨e3, e4⟩ := s.of_ints e1
      subst e3
      cases ns with
      | nil => cases e2
      | cons b t =>
        cases e2
        refine .inr ⟨_, _, rfl, SqL.of a, Nat.succ_pos _, fun m hm hb => ?_⟩
        obtain ⟨h1, h2⟩ := maxI_spec t b
        have em : m = maxI b t := Int.le_antisymm (h2 m hm) (hb _ h1)
        rw [em]
        exact q _ H (Same.refl H) (.int _)
  · obtain ⟨v, u, rfl, r1, r2⟩ := reps2 r
    cases e
    cases r1; cases r2
    exact .inl ⟨_, _, rfl, q _ H (Same.refl H) (.int _)⟩
  · cases e
theorem cv_min : CalV K (fun xs H Q => (∃ i j, xs = [.int i, .int j] ∧ Q (.int (if j < i then j else i)) H) ∨ rMin K xs H Q) fMin := fun T H vs xs z Q lv r e q => by
  unfold fMin at e
  split at e
  · obtain ⟨v, rfl, r'⟩ := reps1 r
    cases r' with
    | lst n a s =>
      obtain ⟨ns, e1, e2⟩ := Option.bind_eq_some_iff.mp e
      obtain ⟨e3, e4⟩ := s.of_ints e1
      subst e3
      cases ns with
      | nil => cases e2
      | cons b t =>
        cases e2
        refine .inr ⟨_, _, rfl, SqL.of a, Nat.succ_pos _, fun m hm hb => ?_⟩
        obtain ⟨h1, h2⟩ := minI_spec t b
        have em : m = minI b t := Int.le_antisymm (hb _ h1) (h2 m hm)
        rw [em]
        exact q _ H (Same.refl H) (.int _)
  · obtain ⟨v, u, rfl, r1, r2⟩ := reps2 r
    cases e
    cases r1; cases r2
    exact .inl ⟨_, _, rfl, q _ H (Same.refl H) (.int _)⟩
  · cases e
theorem cv_any : CalV K (rAny K) fAny := fun T H vs xs z Q lv r e q => by
  unfold fAny at e
  split at e
  · obtain ⟨v, rfl, r'⟩ := reps1 r
    cases r' with
    | lst n a s =>
      obtain ⟨ns, e1, e2⟩ := Option.map_eq_some_iff.mp e
      subst e2
      obtain ⟨e3, e4⟩ := s.of_bools e1
      subst e3
      exact ⟨_, ns, rfl, SqL.of a, q _ H (Same.refl H) (.bl _)⟩
  · cases e
theorem cv_all : CalV K (rAll K) fAll := fun T H vs xs z Q lv r e q => by
  unfold fAll at e
  split at e
  · obtain ⟨v, rfl, r'⟩ := reps1 r
    cases r' with
    | lst n a s =>
      obtain ⟨ns, e1, e2⟩ := Option.map_eq_some_iff.mp e
      subst e2
      obtain ⟨e3, e4⟩ := s.of_bools e1
      subst e3
      exact ⟨_, ns, rfl, SqL.of a, q _ H (Same.refl H) (.bl _)⟩
  · cases e
theorem cv_abs : CalV K (fun xs H Q => ∃ i, xs = [.int i] ∧ Q (.int (if i < 0 then -i else i)) H) fAbs := fun T H vs xs z Q lv r e q => by
  unfold fAbs at e
  split at e
  · obtain ⟨v, rfl, r'⟩ := reps1 r
    cases e
    cases r'
    exact ⟨_, rfl, q _ H (Same.refl H) (.int _)⟩
  · cases e
theorem cv_int : CalV K (fun xs H Q => (∃ i, xs = [.int i] ∧ Q (.int i) H) ∨ ∃ k, xs = [.bl k] ∧ Q (.int (if k then 1 else 0)) H) fInt := fun T H vs xs z Q lv r e q => by
  unfold fInt at e
  split at e
  · obtain ⟨v, rfl, r'⟩ := reps1 r
    cases e
    cases r'
    exact .inl ⟨_, rfl, q _ H (Same.refl H) (.int _)⟩
  · obtain ⟨v, rfl, r'⟩ := reps1 r
    cases e
    cases r'
    exact .inr ⟨_, rfl, q _ H (Same.refl H) (.int _)⟩
  · cases e
theorem pv_len {p : Pos} {KK : PySem.W.Frag} (hKK : X.K = KK) (hm : X.mg "len" = none) (ha : PAV X m (e :: es) tas fs) (hg : Gl X "len") (he : starEach (e :: es) X.env = (false, eval e X.env) :: starEach es X.env) (hpl : (backTo pos (starEach es X.env)).any (·.1) = false) :
    PV X m (.Call (.Name "len" p) (e :: es) [] pos) (tCB (fun xs H Q => ∃ x n, xs = [x] ∧ LenV KK x H n ∧ Q (.int n) H) tas) (xCall fLen fs) := by
  subst hKK
  exact (show
    PV X m (.Call (.Name "len" p) (e :: es) [] pos) (tCB (fun xs H Q => ∃ x n, xs = [x] ∧ LenV X.K x H n ∧ Q (.int n) H) tas) (xCall fLen fs) from
  pv_callB call_len cv_len hg hm PySem.boot_len ha (by decide) (by decide) he hpl)

theorem pv_sum {p : Pos} {KK : PySem.W.Frag} (hKK : X.K = KK) (hc : X.calm = true) (hm : X.mg "sum" = none) (ha : PAV X m (e :: es) tas fs) (hg : Gl X "sum") (he : starEach (e :: es) X.env = (false, eval e X.env) :: starEach es X.env) (hpl : (backTo pos (starEach es X.env)).any (·.1) = false) :
    PV X m (.Call (.Name "sum" p) (e :: es) [] pos) (tCB (rSum KK) tas) (xCall fSum fs) := by
  subst hKK
  exact (show
    PV X m (.Call (.Name "sum" p) (e :: es) [] pos) (tCB (rSum X.K) tas) (xCall fSum fs) from
  pv_callB (cr_sum hc) cv_sum hg hm (by decide +kernel) ha (by decide) (by decide) he hpl)

theorem pv_max {p : Pos} {KK : PySem.W.Frag} (hKK : X.K = KK) (hc : X.calm = true) (hm : X.mg "max" = none) (ha : PAV X m (e :: es) tas fs) (hg : Gl X "max") (he : starEach (e :: es) X.env = (false, eval e X.env) :: starEach es X.env) (hpl : (backTo pos (starEach es X.env)).any (·.1) = false) :
    PV X m (.Call (.Name "max" p) (e :: es) [] pos) (tCB (fun xs H Q => (∃ i j, xs = [.int i, .int j] ∧ Q (.int (if j > i then j else i)) H) ∨ rMax KK xs H Q) tas) (xCall fMax fs) := by
  subst hKK
  exact (show
    PV X m (.Call (.Name "max" p) (e :: es) [] pos) (tCB (fun xs H Q => (∃ i j, xs = [.int i, .int j] ∧ Q (.int (if j > i then j else i)) H) ∨ rMax X.K xs H Q) tas) (xCall fMax fs) from
  pv_callB ((call_max2 hc).or (cr_max hc)) cv_max hg hm (by decide +kernel) ha (by decide) (by decide) he hpl)

theorem pv_min {p : Pos} {KK : PySem.W.Frag} (hKK : X.K = KK) (hc : X.calm = true) (hm : X.mg "min" = none) (ha : PAV X m (e :: es) tas fs) (hg : Gl X "min") (he : starEach (e :: es) X.env = (false, eval e X.env) :: starEach es X.env) (hpl : (backTo pos (starEach es X.env)).any (·.1) = false) :
    PV X m (.Call (.Name "min" p) (e :: es) [] pos) (tCB (fun xs H Q => (∃ i j, xs = [.int i, .int j] ∧ Q (.int (if j < i then j else i)) H) ∨ rMin KK xs H Q) tas) (xCall fMin fs) := by
  subst hKK
  exact (show
    PV X m (.Call (.Name "min" p) (e :: es) [] pos) (tCB (fun xs H Q => (∃ i j, xs = [.int i, .int j] ∧ Q (.int (if j < i then j else i)) H) ∨ rMin X.K xs H Q) tas) (xCall fMin fs) from
  pv_callB ((call_min2 hc).or (cr_min hc)) cv_min hg hm (by decide +kernel) ha (by decide) (by decide) he hpl)

theorem pv_any {p : Pos} {KK : PySem.W.Frag} (hKK : X.K = KK) (hc : X.calm = true) (hm : X.mg "any" = none) (ha : PAV X m (e :: es) tas fs) (hg : Gl X "any") (he : starEach (e :: es) X.env = (false, eval e X.env) :: starEach es X.env) (hpl : (backTo pos (starEach es X.env)).any (·.1) = false) :
    PV X m (.Call (.Name "any" p) (e :: es) [] pos) (tCB (rAny KK) tas) (xCall fAny fs) := by
  subst hKK
  exact (show
    PV X m (.Call (.Name "any" p) (e :: es) [] pos) (tCB (rAny X.K) tas) (xCall fAny fs) from
  pv_callB (cr_any hc) cv_any hg hm (by decide +kernel) ha (by decide) (by decide) he hpl)

theorem pv_all {p : Pos} {KK : PySem.W.Frag} (hKK : X.K = KK) (hc : X.calm = true) (hm : X.mg "all" = none) (ha : PAV X m (e :: es) tas fs) (hg : Gl X "all") (he : starEach (e :: es) X.env = (false, eval e X.env) :: starEach es X.env) (hpl : (backTo pos (starEach es X.env)).any (·.1) = false) :
    PV X m (.Call (.Name "all" p) (e :: es) [] pos) (tCB (rAll KK) tas) (xCall fAll fs) := by
  subst hKK
  exact (show
    PV X m (.Call (.Name "all" p) (e :: es) [] pos) (tCB (rAll X.K) tas) (xCall fAll fs) from
  pv_callB (cr_all hc) cv_all hg hm (by decide +kernel) ha (by decide) (by decide) he hpl)

theorem pv_abs {p : Pos} (hm : X.mg "abs" = none) (ha : PAV X m (e :: es) tas fs) (hg : Gl X "abs") (he : starEach (e :: es) X.env = (false, eval e X.env) :: starEach es X.env) (hpl : (backTo pos (starEach es X.env)).any (·.1) = false) :
    PV X m (.Call (.Name "abs" p) (e :: es) [] pos) (tCB (fun xs H Q => ∃ i, xs = [.int i] ∧ Q (.int (if i < 0 then -i else i)) H) tas) (xCall fAbs fs) :=
  pv_callB call_abs cv_abs hg hm (by decide +kernel) ha (by decide) (by decide) he hpl
theorem pv_intOf {p : Pos} (hm : X.mg "int" = none) (ha : PAV X m (e :: es) tas fs) (hg : Gl X "int") (he : starEach (e :: es) X.env = (false, eval e X.env) :: starEach es X.env) (hpl : (backTo pos (starEach es X.env)).any (·.1) = false) :
    PV X m (.Call (.Name "int" p) (e :: es) [] pos) (tCB (fun xs H Q => (∃ i, xs = [.int i] ∧ Q (.int i) H) ∨ ∃ k, xs = [.bl k] ∧ Q (.int (if k then 1 else 0)) H) tas) (xCall fInt fs) :=
  pv_callTy call_int1 cv_int hg hm (by decide +kernel) ha (by decide) (by decide) he hpl

/-! ### new lists from built-ins -/
def CalL (K : PySem.W.Frag) (r : List V → Hp → VK → Prop) (F : PyData → Option (List PyData)) : Prop :=
  ∀ (T : Addr → Prop) (H : Hp) (v : V) (x : PyData) (zs : List PyData) (Q : VK), Rep K T H v x → F x = some zs → (∀ p vs, H p = none → Reps K T H vs zs → Q (.ref p) (upd H p (.lst vs))) → r [v] H Q
theorem vw_callL {r : List V → Hp → VK → Prop} {F : PyData → Option (List PyData)} (ho : CalL K r F) (p : VwE K m ta f) : VwL K m (tCB r (tCons ta tNil)) (fun env => do let x ← f env; lift (F x)) := fun g env w σ H Q x w' hK I hf k => by
  obtain ⟨y, w1, h1, h2⟩ := bind_some.mp hf
  obtain ⟨e1, rfl⟩ := lift_get h2
  refine p _ env w σ H _ y _ hK I h1 fun v H1 k1 d1 r1 => ?_
  have I1 := I.step k1 d1
  refine ho _ H1 v y x Q r1 e1 fun q vs hq r2 => ?_
  obtain ⟨k2, d2⟩ := I1.new (o := .lst vs) hq
  refine k q vs _ ?_ (k1.trans k2) d2 upd_same ((Reps.fresh hq _ r2).mon (fun a o n e => upd_new hq a o e) fun _ z => z)
  exact newAt I1 k1 hq
theorem cl_list : CalL K (fun xs H Q => ∃ p ys, xs = [.ref p] ∧ (SqL K H p ys ∨ SqT K H p ys) ∧ ∀ l, H l = none → Q (.ref l) (upd H l (.lst ys))) fList := fun T H v x zs Q r e q => by
  cases r with
  | lst n a s => cases e; exact ⟨_, _, rfl, .inl (SqL.of a), fun l hl => q l _ hl s⟩
  | tup a s => cases e; exact ⟨_, _, rfl, .inr a.sq, fun l hl => q l _ hl s⟩
  | _ => cases e
theorem plv_list {p : Pos} {KK : PySem.W.Frag} (hKK : X.K = KK) (hm : X.mg "list" = none) (q : PV X m e ta f) (hg : Gl X "list") (hst : starEach [e] X.env = (false, eval e X.env) :: starEach [] X.env) (hpl : (backTo pos (starEach [] X.env)).any (·.1) = false) :
    PLV X m (.Call (.Name "list" p) [e] [] pos) (tCB (fun xs H Q => ∃ p ys, xs = [.ref p] ∧ (SqL KK H p ys ∨ SqT KK H p ys) ∧ ∀ l, H l = none → Q (.ref l) (upd H l (.lst ys))) (tCons ta tNil)) (xList f) := by
  subst hKK
  exact (show
    PLV X m (.Call (.Name "list" p) [e] [] pos) (tCB (fun xs H Q => ∃ p ys, xs = [.ref p] ∧ (SqL X.K H p ys ∨ SqT X.K H p ys) ∧ ∀ l, H l = none → Q (.ref l) (upd H l (.lst ys))) (tCons ta tNil)) (xList f) from
  ⟨pe_callTy call_list_of hg hm (by decide +kernel) (pa_cons q.pe pa_nil hst) (by decide) (by decide) hst hpl, vw_callL cl_list q.vw⟩)

theorem insI_perm (x : Int) : ∀ xs : List Int, (insI x xs).Perm (x :: xs)
  | [] => .refl _
  | y :: r => by
    unfold insI
    split
    · exact .refl _
    · exact ((insI_perm x r).cons y).trans (.swap x y r)
theorem insI_sorted (x : Int) : ∀ xs : List Int, xs.Pairwise (· ≤ ·) → (insI x xs).Pairwise (· ≤ ·)
  | [], _ => by simp [insI]
  | y :: r, h => by
    unfold insI
    rw [List.pairwise_cons] at h
    split
    · rename_i hc
      rw [List.pairwise_cons]
      refine ⟨fun z hz => ?_, List.pairwise_cons.mpr h⟩
      rcases List.mem_cons.mp hz with e | e
      · subst e; exact hc
      · exact Int.le_trans hc (h.1 z e)
    · rename_i hc
      rw [List.pairwise_cons]
      refine ⟨fun z hz => ?_, insI_sorted x r h.2⟩
      have := (insI_perm x r).mem_iff.mp hz
      rcases List.mem_cons.mp this with e | e
      · subst e; omega
      · exact h.1 z e
theorem sortI_perm : ∀ xs : List Int, (sortI xs).Perm xs
  | [] => .refl _
  | x :: r => (insI_perm x _).trans ((sortI_perm r).cons x)
theorem sortI_sorted : ∀ xs : List Int, (sortI xs).Pairwise (· ≤ ·)
  | [] => .nil
  | x :: r => insI_sorted x _ (sortI_sorted r)
theorem sorted_unique : ∀ {xs ys : List Int}, xs.Perm ys → xs.Pairwise (· ≤ ·) → ys.Pairwise (· ≤ ·) → xs = ys := fun {xs ys} p h1 h2 =>
  p.eq_of_pairwise (fun a b _ _ h3 h4 => Int.le_antisymm h3 h4) h1 h2
theorem cl_sorted : CalL K (rSortedI K) fSorted := fun T H v x zs Q r e q => by
  cases r with
  | lst n a s =>
    obtain ⟨ns, e1, e2⟩ := Option.bind_eq_some_iff.mp e
    obtain ⟨e3, e4⟩ := s.of_ints e1
    subst e3
    split at e2
    · cases e2
      refine ⟨_, ns, rfl, SqL.of a, fun ns' p h1 h2 hp => ?_⟩
      have e5 : ns' = sortI ns := sorted_unique (h1.trans (sortI_perm ns).symm) h2 (sortI_sorted ns)
      rw [e5]
      exact q p _ hp (Reps.ints_map _)
    · cases e2
  | _ => cases e
theorem plv_sorted {p : Pos} {KK : PySem.W.Frag} (hKK : X.K = KK) (hm : X.mg "sorted" = none) (q : PV X m e ta f) (hg : Gl X "sorted") (hst : starEach [e] X.env = (false, eval e X.env) :: starEach [] X.env) (hpl : (backTo pos (starEach [] X.env)).any (·.1) = false) :
    PLV X m (.Call (.Name "sorted" p) [e] [] pos) (tCB (rSortedI KK) (tCons ta tNil)) (xSorted f) := by
  subst hKK
  exact (show
    PLV X m (.Call (.Name "sorted" p) [e] [] pos) (tCB (rSortedI X.K) (tCons ta tNil)) (xSorted f) from
  ⟨pe_callB cr_sortedI hg hm (by decide +kernel) (pa_cons q.pe pa_nil hst) (by decide) (by decide) hst hpl, vw_callL cl_sorted q.vw⟩)

/-! ### methods -/
theorem pv_index {apos : Pos} {KK : PySem.W.Frag} (hKK : X.K = KK) (p : PV X m a ta f) (q : PAV X m [b] tas fs)
    (hbase : attributeBase a "index" X.env (eval a X.env) = eval a X.env)
    (hfew : ((backTo pos (starEach [b] X.env)).all (fun x => !x.1) && (backToKw pos (keywordEach [] X.env)).all (fun x => x.1.isSome)
      && decide ([b].length + ([] : List Keyword).length + (if ([] : List Keyword).isEmpty then 0 else 1) < 30)) = true)
    (hline : (apos.endLine == pos.line) = true) (hs : starEach [b] X.env = (false, eval b X.env) :: starEach [] X.env) (hplain : (backTo pos (starEach [] X.env)).any (·.1) = false) :
    PV X m (.Call (.Attribute a "index" apos) [b] [] pos) (tBM KK "list" (rIndex KK) ta tas) (xMeth fIndex f fs) := by
  subst hKK
  exact (show
    PV X m (.Call (.Attribute a "index" apos) [b] [] pos) (tBM X.K "list" (rIndex X.K) ta tas) (xMeth fIndex f fs) from  ⟨pe_bm PySem.F.plainAttrs_list PySem.F.slot_list_index PySem.F.type_list_index mt_index p.pe q.pe hbase hfew hline hs hplain, fun g env w σ H Q x w' hK I hf k => by
  obtain ⟨y, w1, h1, h2⟩ := bind_some.mp hf
  obtain ⟨ys, w2, h3, h4⟩ := bind_some.mp h2
  obtain ⟨e1, rfl⟩ := lift_get h4
  refine p.vw _ env w σ H _ y _ hK I h1 fun v H1 k1 d1 r1 => ?_
  unfold fIndex at e1
  split at e1
  · rename_i xs y2
    split at e1
    · rename_i hc
      rw [Bool.and_eq_true] at hc
      obtain ⟨j, e2, e3⟩ := Option.map_eq_some_iff.mp e1
      subst e3
      have ty : tyV X.K "list" v H1 := by
        cases r1 with
        | lst n a s => exact .inl ⟨rfl, _, SqL.of a⟩
      refine ⟨ty, ?_⟩
      refine q.vw _ env _ σ H1 _ _ _ hK (I.step k1 d1) h3 fun vs H2 k2 d2 r2 => ?_
      have r1 := r1.keep k2
      obtain ⟨u, rfl, r2'⟩ := reps1 r2
      cases r1 with
      | lst n a s =>
        obtain ⟨hj, e4, e5⟩ := List.findIdx?_eq_some_iff_getElem.mp e2
        obtain ⟨z, e6, r6⟩ := s.get (List.getElem?_eq_getElem hj)
        refine ⟨_, _, u, j, z, rfl, rfl, SqL.of a, flat_rep r2' hc.1, flats_rep s hc.2, e6, ?_, fun mm z' hm hz => ?_, k _ H2 (k1.trans k2) d2 (.int _)⟩
        · rw [eqv_rep r6 r2' (List.all_eq_true.mp hc.2 _ (List.getElem_mem hj)) hc.1]
          exact e4
        · obtain ⟨z2, e7, r7⟩ := s.get (List.getElem?_eq_getElem (Nat.lt_trans hm hj))
          rw [e7] at hz
          cases hz
          rw [eqv_rep r7 r2' (List.all_eq_true.mp hc.2 _ (List.getElem_mem _)) hc.1]
          exact Bool.eq_false_iff.mpr (e5 mm hm)
    · cases e1
  · cases e1⟩)

/-! ### calls of the program's own defs -/
/-- a def's promise: called with values xs it hands back what F says, and all that stood stands -/
def vsp (K : PySem.W.Frag) (F : List PyData → Option PyData) : Sp := fun vs H Q _ => ∃ (T : Addr → Prop) (xs : List PyData) (y : PyData), (∀ a, T a → H a ≠ none) ∧ Reps K T H vs xs ∧ F xs = some y ∧
  ∀ v H', Same H H' → Rep K T H' v y → Q v H'
structure Cal (P : Program) (w : World) (K : PySem.W.Frag) (mg : Str → Option Value) (base : Heap) (x : Str) (k : Nat) (F : List PyData → Option PyData) : Prop where
  ex : ∃ (f : Addr) (fd : FuncData) (ps : List Str), FnOk P w K mg base CX0 k f fd ps (vsp K F) ∧ mg x = some (.ref f) ∧ PySem.W.keepIn K (.ref f) = true ∧ Binds K fd ps []
theorem pv_call {x : Str} {p : Pos} {n : Nat} {F : List PyData → Option PyData} {KK : PySem.W.Frag} (hKK : X.K = KK) (c : Cal X.prog X.w X.K X.mg X.base x n F) (hr : Room n X.A) (ha : PAV X m (e :: es) tas fs) (hg : Gl X x) (hdb : (x == ("__debug__" : Str)) = false)
    (he : starEach (e :: es) X.env = (false, eval e X.env) :: starEach es X.env) (hpl : (backTo pos (starEach es X.env)).any (·.1) = false) : PV X m (.Call (.Name x p) (e :: es) [] pos) (tCall (vsp KK F) [] E0 tas) (xCall F fs) := by
  subst hKK
  exact (show PV X m (.Call (.Name x p) (e :: es) [] pos) (tCall (vsp X.K F) [] E0 tas) (xCall F fs) from  by
  obtain ⟨fa, fd, ps, G, mgf, kp, bi⟩ := c.ex
  refine ⟨pe_call G hr hg mgf kp bi .nil pass0 ha.pe hdb he hpl, fun g env w σ H Q x w' hK I hf k => ?_⟩
  obtain ⟨ys, w1, h1, h2⟩ := bind_some.mp hf
  obtain ⟨e1, rfl⟩ := lift_get h2
  refine ha.vw _ env w σ H _ ys _ hK I h1 fun vs H1 k1 d1 r1 => ?_
  have I1 := I.step k1 d1
  rw [List.append_nil]
  exact ⟨av _ m env σ, ys, x, fun a t => I1.avLive t, r1, e1, fun v H' s r2 => k v H' (k1.trans (Keep.of_same s)) (I1.same s) r2⟩)

end
end VE

namespace VE
open PySem PySem.Spec L2
open PyProof.Rows hiding St
/-! ### what is walked -/
/-- an iterator that gives out xs, whatever happens to what A holds; the items lean on nothing of B -/
def Wk (K : PySem.W.Frag) (A B : Addr → Prop) (J : It) (xs : List PyData) (H1 : Hp) : Prop :=
  ∀ H2, KeepA A H1 H2 → (∀ (i : Nat) x, xs[i]? = some x → J.go i H2 ∧ ∀ v H3, J.yld i H2 v H3 → Same H2 H3 ∧ Rep K (fun a => B a ∨ (H1 a = none ∧ H2 a ≠ none)) H3 v x) ∧ J.stop xs.length H2
def VwI (K : PySem.W.Frag) (m : Bool) (wi : TI) (f : IF) : Prop :=
  ∀ (g : Gh K) (env : En) (w : W) (σ : SS) (H : Hp) (R : It → Hp → Prop) (xs : List PyData) (w' : W), True → StOk g env w σ H → f env w = some (xs, w') →
    (∀ {g' : Gh _} J H', Keep g g' H H' → g'.dr w' H' → Wk K (av g' m env σ) (av g' true env σ) J xs H' → R J H') → wi σ H R
structure PIV (X : Cx) (m : Bool) (tg iter : Expr) (wi : TI) (f : IF) : Prop where
  pe : PI X tg iter wi
  vw : VwI X.K m wi f
section
variable {X : Cx} {m : Bool} {e a b c tg : Expr} {es : List Expr} {ta : TE} {tas : TA} {f : EF} {fs : AF} {p pos : Pos} {K : PySem.W.Frag}
theorem reps_stay {A B : Addr → Prop} {H1 H2 : Hp} {vs : List V} {xs : List PyData} (ab : ∀ a, A a → B a) (k : KeepA A H1 H2) (r : Reps K B H1 vs xs) : Reps K (fun a => B a ∨ (H1 a = none ∧ H2 a ≠ none)) H2 vs xs :=
  (Reps.tracked xs r).mon (fun a o na ea => k.at_ a o (fun z => na (.inl (ab a z))) ea) fun a z => z.elim .inl fun q => .inr q.1
theorem wk_list {A B : Addr → Prop} {H1 : Hp} {p : Addr} {vs : List V} {xs : List PyData} (ab : ∀ a, A a → B a) (n : ¬ A p) (e : H1 p = some (.lst vs)) (r : Reps K B H1 vs xs) : Wk K A B (Itl K p) xs H1 := fun H2 k => by
  have e2 : H2 p = some (.lst vs) := k.at_ p _ n e
  have r2 := reps_stay ab k r
  refine ⟨fun i x hx => ?_, vs, SqL.of e2, by rw [r.length]; exact Nat.le_refl _⟩
  obtain ⟨v, hv, rv⟩ := r2.get hx
  refine ⟨⟨vs, v, SqL.of e2, hv⟩, fun u H3 y => ?_⟩
  obtain ⟨rfl, y⟩ := y
  have : u = v := Option.some.inj ((y vs (SqL.of e2)).symm.trans hv)
  subst this
  exact ⟨Same.refl _, rv⟩
theorem wk_tup {A B : Addr → Prop} {H1 : Hp} {p : Addr} {vs : List V} {xs : List PyData} (ab : ∀ a, A a → B a) (e : TupAt K A H1 p vs) (r : Reps K B H1 vs xs) : Wk K A B (Itt K p) xs H1 := fun H2 k => by
  have e2 : SqT K H2 p vs := (e.mono (fun a o n e => k.at_ a o n e) fun _ z => z).sq
  have r2 := reps_stay ab k r
  refine ⟨fun i x hx => ?_, vs, e2, by rw [r.length]; exact Nat.le_refl _⟩
  obtain ⟨v, hv, rv⟩ := r2.get hx
  refine ⟨⟨vs, v, e2, hv⟩, fun u H3 y => ?_⟩
  obtain ⟨rfl, y⟩ := y
  have : u = v := Option.some.inj ((y vs e2).symm.trans hv)
  subst this
  exact ⟨Same.refl _, rv⟩
theorem piv_list {KK : PySem.W.Frag} (hKK : X.K = KK) (q : PV X true e ta f) : PIV X m tg e (iList KK ta) (iLst f) := by
  subst hKK
  exact (show PIV X m tg e (iList X.K ta) (iLst f) from  ⟨pi_list q.pe, fun g env w σ H R xs w' hK I hf k => by
  obtain ⟨y, w1, h1, h2⟩ := bind_some.mp hf
  obtain ⟨e1, rfl⟩ := lift_get h2
  refine q.vw _ env w σ H _ y _ hK I h1 fun v H1 k1 d1 r1 => ?_
  cases r1 with
  | lst n e r => cases e1; exact ⟨_, rfl, ⟨_, SqL.of e⟩, k _ H1 k1 d1 (wk_list (fun _ => av_le) (fun z => n (av_le z)) e r)⟩
  | _ => cases e1⟩)

theorem piv_tup {KK : PySem.W.Frag} (hKK : X.K = KK) (q : PV X true e ta f) : PIV X m tg e (iTup KK ta) (iTupl f) := by
  subst hKK
  exact (show PIV X m tg e (iTup X.K ta) (iTupl f) from  ⟨pi_tup q.pe, fun g env w σ H R xs w' hK I hf k => by
  obtain ⟨y, w1, h1, h2⟩ := bind_some.mp hf
  obtain ⟨e1, rfl⟩ := lift_get h2
  refine q.vw _ env w σ H _ y _ hK I h1 fun v H1 k1 d1 r1 => ?_
  cases r1 with
  | tup e r => cases e1; exact ⟨_, rfl, ⟨_, e.sq⟩, k _ H1 k1 d1 (wk_tup (fun _ => av_le) (e.mono (fun _ _ _ e => e) fun _ => av_le) r)⟩
  | _ => cases e1⟩)

/-- over a list that the def may change, while it does not -/
theorem piv_own {i : Nat} {x : Str} {KK : PySem.W.Frag} (hKK : X.K = KK) (hN : X.N[i]? = some x) (hv : visB X.env.scope x = true) (hd : dunB x = true) : PIV X false tg (.Name x pos) (iList KK (tVar i)) (iOwn i) := by
  subst hKK
  exact (show PIV X false tg (.Name x pos) (iList X.K (tVar i)) (iOwn i) from  ⟨pi_list (pe_var hN (vis_of hv) (dun1 hd) (dun2 hd)), fun g env w σ H R xs w' hK I hf k => by
  unfold iOwn at hf
  cases e : env[i]? with
  | none => rw [e] at hf; cases hf
  | some s =>
    rw [e] at hf
    cases s with
    | ow b ys =>
      cases b with
      | true => cases hf
      | false =>
      obtain ⟨rfl, rfl⟩ := pure_get hf
      obtain ⟨a, vs, hv, ha, r, _, nt⟩ := I.owL i _ e
      have r : Reps X.K (av g true env σ) H vs ys := r
      exact ⟨_, hv, _, rfl, ⟨_, SqL.of ha⟩, k _ H (Keep.refl _ _) I.dr (wk_list (fun _ => av_le) (fun z => nt (av_false z)) ha r)⟩
    | _ => cases hf⟩)

theorem wk_range {A B : Addr → Prop} {H1 : Hp} (lo hi : Int) : Wk K A B (Itr lo (hi - lo).toNat) (rangeL lo hi) H1 := fun H2 k => by
  have hl : (rangeL lo hi).length = (hi - lo).toNat := by simp [rangeL]
  refine ⟨fun i x hx => ?_, by show (hi - lo).toNat ≤ _; rw [hl]; exact Nat.le_refl _⟩
  have hi' : i < (hi - lo).toNat := by
    have := (List.getElem?_eq_some_iff.mp hx).1
    rw [hl] at this
    exact this
  refine ⟨hi', fun v H3 y => ?_⟩
  obtain ⟨rfl, rfl⟩ := y
  have ex : x = .int (lo + (i : Int)) := by
    unfold rangeL at hx
    rw [List.getElem?_map, List.getElem?_range hi'] at hx
    exact (Option.some.inj hx).symm
  subst ex
  exact ⟨Same.refl _, .int _⟩
theorem small62_of {i : Int} (h : small62 i = true) : -(2 ^ 62) ≤ i ∧ i < 2 ^ 62 := by
  simpa only [small62, Bool.and_eq_true, decide_eq_true_eq] using h
theorem piv_range1 (hm : X.mg "range" = none) (q : PAV X false [a] tas fs) (hg : Gl X "range") (hs : starEach [a] X.env = [(false, eval a X.env)]) : PIV X m tg (.Call (.Name "range" p) [a] [] pos) (iRng1 tas) (iR1 fs) := ⟨pi_range1 hg hm q.pe hs, fun g env w σ H R xs w' hK I hf k => by
  obtain ⟨ys, w1, h1, h2⟩ := bind_some.mp hf
  refine q.vw _ env w σ H _ ys _ hK I h1 fun vs H1 k1 d1 r1 => ?_
  split at h2
  · rename_i j
    split at h2
    · rename_i hc
      obtain ⟨rfl, rfl⟩ := pure_get h2
      obtain ⟨v, rfl, r⟩ := reps1 r1
      cases r
      have hb := small62_of hc
      refine ⟨j, rfl, hb.1, hb.2, k _ H1 k1 d1 ?_⟩
      have hw : ∀ A B, Wk X.K A B (Itr 0 (j - 0).toNat) (rangeL 0 j) H1 := fun A B => wk_range 0 j
      rw [Int.sub_zero] at hw
      exact hw _ _
    · cases h2
  · cases h2⟩
theorem piv_range2 (hm : X.mg "range" = none) (q : PAV X false [a, b] tas fs) (hg : Gl X "range") (hs : starEach [a, b] X.env = [(false, eval a X.env), (false, eval b X.env)]) (hs2 : starEach [b] X.env = [(false, eval b X.env)]) : PIV X m tg (.Call (.Name "range" p) [a, b] [] pos) (iRng2 tas) (iR2 fs) := ⟨pi_range2 hg hm q.pe hs hs2, fun g env w σ H R xs w' hK I hf k => by
  obtain ⟨ys, w1, h1, h2⟩ := bind_some.mp hf
  refine q.vw _ env w σ H _ ys _ hK I h1 fun vs H1 k1 d1 r1 => ?_
  split at h2
  · rename_i i j
    split at h2
    · rename_i hc
      obtain ⟨rfl, rfl⟩ := pure_get h2
      obtain ⟨v, u, rfl, r, r'⟩ := reps2 r1
      cases r; cases r'
      rw [Bool.and_eq_true] at hc
      have hb := small62_of hc.1
      have hb2 := small62_of hc.2
      exact ⟨i, j, rfl, ⟨hb.1, hb.2, hb2.1, hb2.2⟩, k _ H1 k1 d1 (wk_range i j)⟩
    · cases h2
  · cases h2⟩
end

/-! ### targets -/
section
variable {K : PySem.W.Frag} {g : Gh K} {env : En} {w : W} {σ : SS} {H : Hp}
theorem set_get {α : Type} {l : List α} {i j : Nat} {s y : α} (h : (l.set i s)[j]? = some y) : (j = i ∧ y = s) ∨ (j ≠ i ∧ l[j]? = some y) := by
  by_cases e : j = i
  · subst e
    left
    by_cases hl : j < l.length
    · rw [List.getElem?_set_self hl] at h
      exact ⟨rfl, (Option.some.inj h).symm⟩
    · rw [List.getElem?_eq_none (by simpa using hl)] at h; cases h
  · right
    rw [List.getElem?_set_ne (Ne.symm e)] at h
    exact ⟨e, h⟩
theorem own_set_sh {i : Nat} {x : PyData} {v : V} {a : Addr} (h : ownA (env.set i (.sh x)) (σ.set i (some v)) a) : ownA env σ a := by
  obtain ⟨j, b, xs, h1, h2⟩ := h
  rcases set_get h1 with ⟨_, e⟩ | ⟨hj, h1⟩
  · cases e
  · rw [List.getElem?_set_ne (Ne.symm hj)] at h2
    exact ⟨j, b, xs, h1, h2⟩
theorem own_set_sh' {i : Nat} {x : PyData} {v : V} {a : Addr} (h : ownA env σ a) : ownA (env.set i (.sh x)) (σ.set i (some v)) a ∨ ∃ b xs, env[i]? = some (.ow b xs) := by
  obtain ⟨j, b, xs, h1, h2⟩ := h
  by_cases e : j = i
  · subst e; exact .inr ⟨b, xs, h1⟩
  · exact .inl ⟨j, b, xs, by rw [List.getElem?_set_ne (Ne.symm e)]; exact h1, by rw [List.getElem?_set_ne (Ne.symm e)]; exact h2⟩
theorem StOk.setSh (I : StOk g env w σ H) (i : Nat) {x : PyData} {v : V} (r : Rep K (av g true env σ) H v x) : StOk g (env.set i (.sh x)) w (σ.set i (some v)) H := by
  have av' : ∀ a, av g true (env.set i (.sh x)) (σ.set i (some v)) a → av g true env σ a := fun a h => h.elim .inl fun q => .inr ⟨rfl, own_set_sh q.2⟩
  refine ⟨by rw [List.length_set, List.length_set, I.len], fun j y h => ?_, fun j b ys h => ?_, fun j kk h => ?_, fun j ns h => ?_, fun j j2 b c ys zs a h1 h2 h3 h4 => ?_, I.live, I.keep, I.dr⟩
  · rcases set_get h with ⟨rfl, e⟩ | ⟨hj, h⟩
    · cases e
      have hl : j < σ.length := by
        rw [I.len]
        have := (List.getElem?_eq_some_iff.mp h).1
        simpa using this
      exact ⟨v, by rw [List.getElem?_set_self hl], r.mon (fun _ _ _ e => e) av'⟩
    · obtain ⟨u, e, q⟩ := I.sh j y h
      exact ⟨u, by rw [List.getElem?_set_ne (Ne.symm hj)]; exact e, q.mon (fun _ _ _ e => e) av'⟩
  · rcases set_get h with ⟨rfl, e⟩ | ⟨hj, h⟩
    · cases e
    · obtain ⟨a, vs, e, q, s, n, t⟩ := I.ow j b ys h
      exact ⟨a, vs, by rw [List.getElem?_set_ne (Ne.symm hj)]; exact e, q, s.mon (fun _ _ _ e => e) av', n, t⟩
  · rcases set_get h with ⟨rfl, e⟩ | ⟨hj, h⟩
    · cases e
    · rw [List.getElem?_set_ne (Ne.symm hj)]; exact I.st j kk h
  · rcases set_get h with ⟨rfl, e⟩ | ⟨hj, h⟩
    · cases e
    · obtain ⟨a, e, s⟩ := I.fz j ns h
      exact ⟨a, by rw [List.getElem?_set_ne (Ne.symm hj)]; exact e, s.mono (fun _ _ _ e => e) av'⟩
  · rcases set_get h1 with ⟨_, e⟩ | ⟨hj, h1⟩
    · cases e
    · rcases set_get h2 with ⟨_, e⟩ | ⟨hj2, h2⟩
      · cases e
      · rw [List.getElem?_set_ne (Ne.symm hj)] at h3
        rw [List.getElem?_set_ne (Ne.symm hj2)] at h4
        exact I.dist j j2 b c ys zs a h1 h2 h3 h4
/-- a slot that no longer counts -/
theorem StOk.setNo (I : StOk g env w σ H) (i : Nat) (o : Option V) (ho : ∀ b xs, env[i]? ≠ some (.ow b xs)) : StOk g (env.set i .no) w (σ.set i o) H := by
  have own' : ∀ a, ownA (env.set i .no) (σ.set i o) a → ownA env σ a := fun a ⟨j, b, xs, h1, h2⟩ => by
    rcases set_get h1 with ⟨_, e⟩ | ⟨hj, h1⟩
    · cases e
    · rw [List.getElem?_set_ne (Ne.symm hj)] at h2
      exact ⟨j, b, xs, h1, h2⟩
  have av' : ∀ a, av g true (env.set i .no) (σ.set i o) a → av g true env σ a := fun a h => h.elim .inl fun q => .inr ⟨rfl, own' a q.2⟩
  refine ⟨by rw [List.length_set, List.length_set, I.len], fun j y h => ?_, fun j b ys h => ?_, fun j kk h => ?_, fun j ns h => ?_, fun j j2 b c ys zs a h1 h2 h3 h4 => ?_, I.live, I.keep, I.dr⟩
  · rcases set_get h with ⟨rfl, e⟩ | ⟨hj, h⟩
    · cases e
    · obtain ⟨u, e, q⟩ := I.sh j y h
      exact ⟨u, by rw [List.getElem?_set_ne (Ne.symm hj)]; exact e, q.mon (fun _ _ _ e => e) av'⟩
  · rcases set_get h with ⟨rfl, e⟩ | ⟨hj, h⟩
    · cases e
    · obtain ⟨a, vs, e, q, s, n, t⟩ := I.ow j b ys h
      exact ⟨a, vs, by rw [List.getElem?_set_ne (Ne.symm hj)]; exact e, q, s.mon (fun _ _ _ e => e) av', n, t⟩
  · rcases set_get h with ⟨rfl, e⟩ | ⟨hj, h⟩
    · cases e
    · rw [List.getElem?_set_ne (Ne.symm hj)]; exact I.st j kk h
  · rcases set_get h with ⟨rfl, e⟩ | ⟨hj, h⟩
    · cases e
    · obtain ⟨a, e, s⟩ := I.fz j ns h
      exact ⟨a, by rw [List.getElem?_set_ne (Ne.symm hj)]; exact e, s.mono (fun _ _ _ e => e) av'⟩
  · rcases set_get h1 with ⟨_, e⟩ | ⟨hj, h1⟩
    · cases e
    · rcases set_get h2 with ⟨_, e⟩ | ⟨hj2, h2⟩
      · cases e
      · rw [List.getElem?_set_ne (Ne.symm hj)] at h3
        rw [List.getElem?_set_ne (Ne.symm hj2)] at h4
        exact I.dist j j2 b c ys zs a h1 h2 h3 h4
end
def VwG (K : PySem.W.Frag) (vs : List Nat) (t : TG) (f : GF) : Prop :=
  ∀ (g : Gh K) (env : En) (w : W) (σ : SS) (H : Hp) (v : V) (x : PyData) (env' : En) (Q : SS → Hp → Prop), True → StOk g env w σ H → Rep K (av g true env σ) H v x → f x env = some env' →
    (∀ σ', StOk g env' w σ' H → (∀ a, ownA env' σ' a → ownA env σ a) → (∀ j, j ∉ vs → env'[j]? = env[j]? ∧ σ'[j]? = σ[j]?) → env'.length = env.length → Q σ' H) → t v σ H Q
def VwGs (K : PySem.W.Frag) (vs : List Nat) (t : TGs) (f : GsF) : Prop :=
  ∀ (g : Gh K) (env : En) (w : W) (σ : SS) (H : Hp) (us : List V) (xs : List PyData) (env' : En) (Q : SS → Hp → Prop), True → StOk g env w σ H → Reps K (av g true env σ) H us xs → f xs env = some env' →
    (∀ σ', StOk g env' w σ' H → (∀ a, ownA env' σ' a → ownA env σ a) → (∀ j, j ∉ vs → env'[j]? = env[j]? ∧ σ'[j]? = σ[j]?) → env'.length = env.length → Q σ' H) → t us σ H Q
structure PGV (X : Cx) (tg : Expr) (vs : List Nat) (t : TG) (f : GF) : Prop where
  pe : PG X tg t
  vw : VwG X.K vs t f
structure PGsV (X : Cx) (tg : List Expr) (vs : List Nat) (t : TGs) (f : GsF) : Prop where
  pe : PGs X tg t
  vw : VwGs X.K vs t f
section
variable {X : Cx} {pos : Pos}
theorem vw_name {K : PySem.W.Frag} (i : Nat) : VwG K [i] (gName i) (gNm i) := fun g env w σ H v x env' Q hK I r hf k => by
  have r : Rep K (av g true env σ) H v x := r
  cases hf
  refine k _ (I.setSh i r) (fun a h => own_set_sh h) (fun j hj => ?_) (by rw [List.length_set])
  have hj' : i ≠ j := fun e => hj (by simp [e])
  exact ⟨List.getElem?_set_ne hj', List.getElem?_set_ne hj'⟩
theorem pgv_name {i : Nat} {x : Str} (hN : X.N.Nodup) (hi : X.N[i]? = some x) (hx : locB X.env.scope x = true) (hf : fnB X x = true) : PGV X (.Name x pos) [i] (gName i) (gNm i) :=
  ⟨pg_name hN hi (loc_of hx) (fn_of' hf), vw_name i⟩
theorem pgsv_nil : PGsV X [] [] gNil gsNil := ⟨pgs_nil, fun g env w σ H us xs env' Q hK I r hf k => by
  cases r with
  | nil => cases hf; exact ⟨rfl, k σ I (fun _ h => h) (fun _ _ => ⟨rfl, rfl⟩) rfl⟩
  | cons => cases hf⟩
theorem pgsv_cons {e : Expr} {es : List Expr} {t : TG} {u : TGs} {v1 v2 : List Nat} {f : GF} {fs : GsF} (p : PGV X e v1 t f) (q : PGsV X es v2 u fs)
    (hs : (assignEach (e :: es) X.env).map (·.2) = assign e X.env :: (assignEach es X.env).map (·.2)) : PGsV X (e :: es) (v1 ++ v2) (gCons t u) (gsCons f fs) := ⟨pgs_cons p.pe q.pe hs, fun g env w σ H us xs env' Q hK I r hf k => by
  cases r with
  | nil => cases hf
  | cons r1 r2 =>
    rename_i v vs x xs
    obtain ⟨env1, h1, h2⟩ := Option.bind_eq_some_iff.mp hf
    refine ⟨v, vs, rfl, p.vw _ env w σ H v x env1 _ hK I r1 h1 fun σ1 I1 o1 s1 l1 => ?_⟩
    refine q.vw g env1 w σ1 H vs xs env' Q hK I1 (r2.mon (fun _ _ _ e => e) fun a h => h.elim .inl fun z => .inr ⟨rfl, o1 a z.2⟩) h2 fun σ2 I2 o2 s2 l2 => ?_
    refine k σ2 I2 (fun a h => o1 a (o2 a h)) (fun j hj => ?_) (l2.trans l1)
    rw [List.mem_append, not_or] at hj
    exact ⟨(s2 j hj.2).1.trans (s1 j hj.1).1, (s2 j hj.2).2.trans (s1 j hj.1).2⟩⟩
theorem pgv_tup {es : List Expr} {k : Nat} {vs : List Nat} {t : TGs} {n : Nat} {fs : GsF} {KK : PySem.W.Frag} (hKK : X.K = KK) (hc : X.calm = true) (p : PGsV X es vs t fs)
    (hn : (assignEach es X.env).length = n) (hst : (assignEach es X.env).findIdx? (·.1) = none) : PGV X (.Tuple es k pos) vs (gTup KK n t) (gTp n fs) := by
  subst hKK
  exact (show PGV X (.Tuple es k pos) vs (gTup X.K n t) (gTp n fs) from  ⟨pg_tup hc p.pe hn hst, fun g env w σ H v x env' Q hK I r hf k => by
  cases r with
  | tup a s =>
    rename_i us xs
    have hf : (if xs.length = n then fs xs env else none) = some env' := hf
    split at hf
    · rename_i hl
      exact ⟨_, _, rfl, a.sq, by rw [s.length]; exact hl, p.vw _ env w σ H us xs env' Q hK I s hf k⟩
    · cases hf
  | _ => cases hf⟩)

end

/-! ### list comprehensions -/
theorem wipe_get (σ : SS) : ∀ (vs : List Nat) (j : Nat), j ∉ vs → (wipe σ vs)[j]? = σ[j]?
  | [], _, _ => rfl
  | v :: vs, j, h => by
    rw [List.mem_cons, not_or] at h
    show ((wipe σ vs).set v none)[j]? = _
    rw [List.getElem?_set_ne (Ne.symm h.1)]
    exact wipe_get σ vs j h.2
theorem wipe_in (σ : SS) : ∀ (vs : List Nat) (j : Nat), j ∈ vs → j < σ.length → (wipe σ vs)[j]? = some none
  | v :: vs, j, h, hl => by
    show ((wipe σ vs).set v none)[j]? = _
    by_cases e : v = j
    · subst e
      rw [List.getElem?_set_self (by rw [wipe_length]; exact hl)]
    · rw [List.getElem?_set_ne e]
      rcases List.mem_cons.mp h with h | h
      · exact absurd h.symm e
      · exact wipe_in σ vs j h hl
theorem wipe_same {σ σ' : SS} {vs : List Nat} (hl : σ'.length = σ.length) (h : ∀ j, j ∉ vs → σ'[j]? = (wipe σ vs)[j]?) : wipe σ' vs = wipe σ vs := by
  apply List.ext_getElem?
  intro j
  by_cases hj : j ∈ vs
  · by_cases hb : j < σ.length
    · rw [wipe_in σ' vs j hj (by omega), wipe_in σ vs j hj hb]
    · rw [List.getElem?_eq_none (by rw [wipe_length]; omega), List.getElem?_eq_none (by rw [wipe_length]; omega)]
  · rw [wipe_get σ' vs j hj]; exact h j hj
theorem wipeE_ok {K : PySem.W.Frag} {g : Gh K} {env : En} {w : W} {σ : SS} {H : Hp} (I : StOk g env w σ H) : ∀ (vs : List Nat) {env' : En}, wipeE env vs = some env' → StOk g env' w (wipe σ vs) H ∧ (∀ j, j ∉ vs → env'[j]? = env[j]?) ∧ (∀ j, j ∈ vs → ∀ b xs, env[j]? ≠ some (.ow b xs))
  | [], env', h => by cases h; exact ⟨I, fun _ _ => rfl, fun _ h => by simp at h⟩
  | v :: vs, env', h => by
    obtain ⟨e1, h1, h2⟩ := Option.bind_eq_some_iff.mp h
    obtain ⟨I1, s1, n1⟩ := wipeE_ok I vs h1
    have fin : ∀ s, e1[v]? = some s → (∀ b xs, s ≠ .ow b xs) → some (e1.set v .no) = some env' → StOk g env' w (wipe σ (v :: vs)) H ∧ (∀ j, j ∉ v :: vs → env'[j]? = env[j]?) ∧ (∀ j, j ∈ v :: vs → ∀ b xs, env[j]? ≠ some (.ow b xs)) := fun s hs hn he => by
      cases he
      refine ⟨I1.setNo v none (fun b xs z => ?_), fun j hj => ?_, fun j hj b xs z => ?_⟩
      · rw [hs] at z; exact hn b xs (Option.some.inj z)
      · rw [List.mem_cons, not_or] at hj
        rw [List.getElem?_set_ne (Ne.symm hj.1)]
        exact s1 j hj.2
      · by_cases hv : j ∈ vs
        · exact n1 j hv b xs z
        · have : j = v := (List.mem_cons.mp hj).resolve_right hv
          subst this
          rw [← s1 j hv, hs] at z
          exact hn b xs (Option.some.inj z)
    cases q : e1[v]? with
    | none => rw [q] at h2; cases h2
    | some s =>
      rw [q] at h2
      cases s with
      | ow b xs => cases h2
      | no => exact fin _ q (fun _ _ z => nomatch z) h2
      | sh x => exact fin _ q (fun _ _ z => nomatch z) h2
      | st k => exact fin _ q (fun _ _ z => nomatch z) h2
      | fz ns => exact fin _ q (fun _ _ z => nomatch z) h2
/-- one more address is not to be read -/
def Gh.but {K : PySem.W.Frag} (g : Gh K) (d : Addr) : Gh K := { g with T := fun a => g.T a ∨ a = d, zt0 := fun a h => .inl (g.zt0 a h), ztn := fun n e a q => .inl (g.ztn n e a q) }
theorem StOk.but {K : PySem.W.Frag} {g : Gh K} {env : En} {w : W} {σ : SS} {H : Hp} {D : Addr} {vs : List V} (I : StOk g env w σ H) (hD : H D = none) : StOk (g.but D) env w σ (upd H D (.lst vs)) := by
  obtain ⟨k, d⟩ := I.new (o := .lst vs) hD
  have J := I.step k d
  have av' : ∀ a, av (g.but D) true env σ a → av g true env σ a ∨ a = D := fun a h => by
    rcases h with (h | h) | ⟨_, h⟩
    · exact .inl (.inl h)
    · exact .inr h
    · exact .inl (.inr ⟨rfl, h⟩)
  have ownD : ∀ a, ownA env σ a → a ≠ D := fun a h z => by subst z; exact I.owLive h hD
  refine ⟨J.len, fun i x h => ?_, fun i b xs h => ?_, J.st, fun i ns h => ?_, J.dist, fun a h => ?_, J.keep, J.dr⟩
  · obtain ⟨v, e, r⟩ := I.sh i x h
    exact ⟨v, e, (Rep.fresh hD x r).mon (fun a o n e => upd_new hD a o e) fun a z => av' a z⟩
  · obtain ⟨a, us, e, ⟨o, q, ho⟩, r, n, t⟩ := I.ow i b xs h
    refine ⟨a, us, e, ⟨o, upd_new hD a _ q, ho⟩, (Reps.fresh hD xs r).mon (fun a o n e => upd_new hD a o e) (fun a z => av' a z), n, fun z => ?_⟩
    rcases z with z | z
    · exact t z
    · subst z; rw [hD] at q; cases q
  · obtain ⟨a, e, s⟩ := I.fz i ns h
    exact ⟨a, e, (s.fresh hD).mono (fun a o n e => upd_new hD a o e) fun a z => av' a z⟩
  · rcases h with h | h
    · exact J.live a h
    · subst h; rw [upd_same]; simp

theorem Keep.but {K : PySem.W.Frag} {g : Gh K} {H : Hp} {D : Addr} {o : HO} (hD : H D = none) : Keep g (g.but D) H (upd H D o) :=
  ⟨fun a x _ e => upd_new hD a x e, (Keep.of_same (g := g) (upd_new hD)).live, fun _ t => .inl t, fun a t => t.imp_right fun e => by subst e; exact ⟨hD, by rw [upd_same]; simp⟩, fun _ z => z, fun _ z => .inl z, rfl, rfl, rfl, rfl, NtLe.refl _⟩
/-- .. and is again -/
def Gh.bare {K : PySem.W.Frag} (g : Gh K) (d : Addr) (h : ¬ g.Z d) : Gh K := { g with T := fun a => g.T a ∧ a ≠ d, zt0 := fun a z => ⟨g.zt0 a z, fun e => h (e ▸ .inl z)⟩, ztn := fun n e a q => ⟨g.ztn n e a q, fun z => h (.inr ⟨n, e, z ▸ q⟩)⟩ }
theorem StOk.updBut {K : PySem.W.Frag} {g : Gh K} {env : En} {w : W} {σ : SS} {H : Hp} {D : Addr} {o : HO} (I : StOk g env w σ H) (hT : g.T D) (hz : ¬ g.Z D) (h0 : g.H0 D = none) : StOk g env w σ (upd H D o) := by
  have k : ∀ a x, ¬ av g true env σ a → H a = some x → upd H D o a = some x := fun a x n e => by
    rw [upd_ne (show a ≠ D from fun z => n (.inl (z ▸ hT)))]; exact e
  refine ⟨I.len, fun i x h => ?_, fun i b xs h => ?_, I.st, fun i ns h => ?_, I.dist, fun a h => ?_, ⟨fun a x n e => ?_, fun a e => ?_⟩, ?_⟩
  · obtain ⟨v, e, r⟩ := I.sh i x h
    exact ⟨v, e, r.mon k fun _ z => z⟩
  · obtain ⟨a, us, e, ⟨o, q, ho⟩, r, n, t⟩ := I.ow i b xs h
    refine ⟨a, us, e, ⟨o, ?_, ho⟩, r.mon k (fun _ z => z), n, t⟩
    rw [upd_ne (show a ≠ D from fun z => t (z ▸ hT))]; exact q
  · obtain ⟨a, e, s⟩ := I.fz i ns h
    exact ⟨a, e, s.mono k fun _ z => z⟩
  · by_cases z : a = D
    · subst z; rw [upd_same]; simp
    · rw [upd_ne z]; exact I.live a h
  · have e' := I.keep.at_ a x n e
    by_cases z : a = D
    · subst z
      have : g.H0 a = some x := e
      rw [h0] at this; cases this
    · rw [upd_ne z]; exact e'
  · by_cases z : a = D
    · subst z; rw [upd_same]; simp
    · rw [upd_ne z]; exact I.keep.live a e
  · refine g.drk w H _ I.dr fun a z => ?_
    rw [upd_ne]
    intro e
    subst e
    exact hz z
theorem compL_len {g : GF} {t : TF} {f : EF} {env : En} : ∀ (xs : List PyData) {w w' : W} {ys : List PyData}, compL g t f env xs w = some (ys, w') → ys.length ≤ xs.length
  | [], w, w', ys, h => by
    obtain ⟨rfl, rfl⟩ := pure_get h
    exact Nat.le_refl _
  | x :: r, w, w', ys, h => by
    obtain ⟨e1, w1, h1, h2⟩ := bind_some.mp h
    obtain ⟨b, w2, h3, h4⟩ := bind_some.mp h2
    cases b with
    | true =>
      obtain ⟨y, w3, h5, h6⟩ := bind_some.mp h4
      obtain ⟨zs, w4, h7, h8⟩ := bind_some.mp h6
      obtain ⟨rfl, rfl⟩ := pure_get h8
      have := compL_len r h7
      simp only [List.length_cons]; omega
    | false =>
      have := compL_len r h4
      simp only [List.length_cons]; omega
/-- a comprehension -/
theorem vw_comp {K : PySem.W.Frag} {m mi : Bool} {wi : TI} {fi : IF} {gt : TG} {ft : GF} {tt : TT} {fT : TF} {te : TE} {f : EF} {vs : List Nat} (pi : VwI K mi wi fi) (pg : VwG K vs gt ft) (pt : VwT K tt fT) (pe : VwE K m te f) :
    VwL K m (tLc wi gt tt te vs) (xComp vs fi ft fT f) := fun g env w σ H Q total wF hK I hf k => by
  obtain ⟨xs, w1, h1, h2⟩ := bind_some.mp hf
  obtain ⟨envB, w2, h3, h4⟩ := bind_some.mp h2
  obtain ⟨e3, rfl⟩ := lift_get h3
  by_cases hline : xs.length ≤ line
  rotate_left
  · rw [if_neg hline] at h4; cases h4
  rw [if_pos hline] at h4
  refine pi _ env w σ H _ xs _ hK I h1 fun {g1} J H1 k1 d1 wk => ?_
  have I1 := I.step k1 d1
  intro D hD
  have hZ : ¬ g1.Z D := fun z => I1.live D (g1.zt D z) hD
  have hD0 : g1.H0 D = none := by
    cases q : g1.H0 D with
    | none => rfl
    | some o => exact absurd hD (I1.keep.live D (by rw [q]; simp))
  have hDs : H D = none := by
    cases q : H D with
    | none => rfl
    | some o => exact absurd hD (k1.live D (by rw [q]; simp))
  obtain ⟨IB, sB, nB⟩ := wipeE_ok (I1.but (vs := []) hD) vs e3
  have hmono : Keep g1 (g1.but D) H1 (upd H1 D (.lst [])) := Keep.but hD
  have ownB : ∀ a, ownA env σ a → ownA envB (wipe σ vs) a := fun a ⟨j, bz, zs, q1, q2⟩ => by
    have hj : j ∉ vs := fun z => nB j z bz zs q1
    exact ⟨j, bz, zs, by rw [sB j hj]; exact q1, by rw [wipe_get σ vs j hj]; exact q2⟩
  have ownB' : ∀ a, ownA envB (wipe σ vs) a → ownA env σ a := fun a ⟨j, bz, zs, q1, q2⟩ => by
    have hj : j ∉ vs := fun hj => by
      by_cases hb : j < σ.length
      · rw [wipe_in σ vs j hj hb] at q2; cases q2
      · rw [List.getElem?_eq_none (by rw [wipe_length]; omega)] at q2; cases q2
    rw [sB j hj] at q1
    rw [wipe_get σ vs j hj] at q2
    exact ⟨j, bz, zs, q1, q2⟩
  -- the invariant
  refine ⟨fun i n H' => n = xs.length - i ∧ i ≤ xs.length ∧ ∃ (g2 : Gh K) (wi : W) (acc : List PyData) (us : List V) (ys : List PyData), StOk g2 envB wi (wipe σ vs) H' ∧ g2.T D ∧ ¬ g2.Z D ∧ Keep g1 g2 H1 H' ∧ H' D = some (.lst us) ∧
    Reps K (av g2 m envB (wipe σ vs)) H' us acc ∧ compL ft fT f envB (xs.drop i) wi = some (ys, wF) ∧ acc ++ ys = total ∧ acc.length ≤ i, ⟨xs.length, by simp, Nat.zero_le _, _, _, [], [], total, IB, .inr rfl, hZ, hmono, upd_same, .nil, by rw [List.drop_zero]; exact h4, rfl, Nat.le_refl _⟩, ?_⟩
  rintro i n H2 ⟨rfl, hi, g2, wi, acc, us, ys, I2, tD, zD, k2, eD, ra, hc, etot, hacc⟩
  -- what is walked stands
  have stay : ∀ a o, ¬ av g1 mi env σ a → H1 a = some o → H2 a = some o := fun a o n e => k2.at_ a o (fun z => n (av_z z)) e
  obtain ⟨walk, stop⟩ := wk H2 ⟨stay, k2.live⟩
  by_cases hlt : i < xs.length
  · right
    obtain ⟨go, yl⟩ := walk i xs[i] (List.getElem?_eq_getElem hlt)
    have hdrop : xs.drop i = xs[i] :: xs.drop (i + 1) := List.drop_eq_getElem_cons hlt
    rw [hdrop] at hc
    obtain ⟨env1, w3, h5, h6⟩ := bind_some.mp hc
    obtain ⟨e5, rfl⟩ := lift_get h5
    obtain ⟨b, w4, h7, h8⟩ := bind_some.mp h6
    refine ⟨go, fun H' => ∃ m', m' < xs.length - i ∧ (m' = xs.length - (i + 1) ∧ i + 1 ≤ xs.length ∧ ∃ (g2 : Gh K) (wi : W) (acc : List PyData) (us : List V) (ys : List PyData), StOk g2 envB wi (wipe σ vs) H' ∧ g2.T D ∧ ¬ g2.Z D ∧ Keep g1 g2 H1 H' ∧ H' D = some (.lst us) ∧
      Reps K (av g2 m envB (wipe σ vs)) H' us acc ∧ compL ft fT f envB (xs.drop (i + 1)) wi = some (ys, wF) ∧ acc ++ ys = total ∧ acc.length ≤ i + 1), fun _ h => h, fun v H3 y => ?_⟩
    obtain ⟨sm, rv⟩ := yl v H3 y
    have k3 : Keep g2 g2 H2 H3 := Keep.of_same sm
    have I3 := I2.step (Keep.of_same sm) (I2.same sm)
    have rv' : Rep K (av g2 true envB (wipe σ vs)) H3 v xs[i] := rv.mon (fun _ _ _ e => e) fun a h => by
      rcases h with h | ⟨_, h⟩
      · exact (k2.t2 a h).imp .inl id
      · exact .inl (.inr ⟨rfl, ownB' a h⟩)
    refine pg g2 envB _ (wipe σ vs) H3 v xs[i] env1 _ hK I3 rv' e5 fun σ2 J3 o3 s3 l3 => ?_
    have hw : wipe σ2 vs = wipe σ vs := wipe_same (by rw [J3.len, l3, ← IB.len, wipe_length]) fun j hj => (s3 j hj).2
    refine ⟨hw, ?_⟩
    refine pt g2 env1 _ σ2 H3 _ b _ hK J3 h7 fun {g4} H4 k4 d4 => ?_
    have J4 := J3.step k4 d4
    have I4 := I3.step k4 d4
    have k24 : Keep g2 g4 H2 H4 := k3.trans k4
    have eD4 : H4 D = some (.lst us) := k24.at_ D _ zD eD
    have ra4 : Reps K (av g4 m envB (wipe σ vs)) H4 us acc := ra.keep k24
    have tD4 := k24.t1 D tD
    have zD4 : ¬ g4.Z D := fun z => (k24.z2 D z).elim zD fun q => by rw [eD] at q; cases q
    cases b with
    | false =>
      rw [if_neg Bool.false_ne_true] at h8
      rw [if_neg Bool.false_ne_true]
      exact ⟨xs.length - (i + 1), by omega, rfl, hlt, g4, _, acc, us, ys, I4, tD4, zD4, k2.trans k24, eD4, ra4, h8, etot, by omega⟩
    | true =>
      rw [if_pos rfl] at h8
      rw [if_pos rfl]
      obtain ⟨y, w5, h9, h10⟩ := bind_some.mp h8
      obtain ⟨zs, w6, h11, h12⟩ := bind_some.mp h10
      obtain ⟨rfl, rfl⟩ := pure_get h12
      refine pe g4 env1 _ σ2 H4 _ y _ hK J4 h9 fun {g5} u H5 k5 d5 r5 => ?_
      have I5 := I4.step k5 d5
      have k25 : Keep g2 g5 H2 H5 := k24.trans k5
      have eD5 : H5 D = some (.lst us) := k25.at_ D _ zD eD
      have ra5 : Reps K (av g5 m envB (wipe σ vs)) H5 us acc := ra.keep k25
      have tD5 := k25.t1 D tD
      have zD5 : ¬ g5.Z D := fun z => (k25.z2 D z).elim zD fun q => by rw [eD] at q; cases q
      have k15 := k2.trans k25
      refine ⟨us, eD5, ?_, ?_⟩
      · rw [ra.length, ← line_eq]; omega
      have kD : ∀ a o, ¬ av g5 m envB (wipe σ vs) a → H5 a = some o → upd H5 D (.lst (us ++ [u])) a = some o := fun a o n e => by
        rw [upd_ne (show a ≠ D from fun z => n (.inl (z ▸ tD5)))]; exact e
      refine ⟨xs.length - (i + 1), by omega, rfl, hlt, g5, _, acc ++ [y], us ++ [u], zs, I5.updBut tD5 zD5 (by rw [k15.h0]; exact hD0), tD5, zD5, ?_, upd_same, ?_, h11, by rw [List.append_assoc]; exact etot, by rw [List.length_append]; simp; omega⟩
      · refine ⟨fun a o n e => ?_, fun a e => ?_, k15.t1, fun a z => (k15.t2 a z).imp_right fun q => ⟨q.1, ?_⟩, k15.z1, k15.z2, k15.h0, k15.sd, k15.wd, k15.kd, k15.nt⟩
        · rw [upd_ne (show a ≠ D from fun z => by subst z; rw [hD] at e; cases e)]
          exact k15.at_ a o n e
        · by_cases z : a = D
          · subst z; rw [upd_same]; simp
          · rw [upd_ne z]; exact k15.live a e
        · by_cases z : a = D
          · subst z; rw [upd_same]; simp
          · rw [upd_ne z]; exact q.2
      · refine (ra5.mon kD fun _ z => z).append (.cons ((r5.mon (fun _ _ _ e => e) fun a z => ?_).mon kD fun _ z => z) .nil)
        rcases z with z | ⟨e, j, bz, ws, q1, q2⟩
        · exact .inl z
        · have hj : j ∉ vs := fun hj => by
            by_cases hb : j < σ.length
            · rw [wipe_in σ vs j hj hb] at q2; cases q2
            · rw [List.getElem?_eq_none (by rw [wipe_length]; omega)] at q2; cases q2
          exact .inr ⟨e, j, bz, ws, by rw [(s3 j hj).1]; exact q1, by rw [(s3 j hj).2]; exact q2⟩
  · left
    have e : i = xs.length := by omega
    subst e
    rw [List.drop_length] at hc
    obtain ⟨rfl, rfl⟩ := pure_get hc
    rw [List.append_nil] at etot
    subst etot
    refine ⟨stop, k (g' := g2.bare D zD) D us H2 ⟨hDs, fun z => z.2 rfl⟩ ?_ I2.dr eD (ra.mon (fun _ _ _ e => e) fun a z => ?_)⟩
    · exact k1.trans ⟨k2.at_, k2.live, fun a t => ⟨k2.t1 a t, fun e => by subst e; exact I1.live a t hD⟩, fun a z => k2.t2 a z.1, k2.z1, k2.z2, k2.h0, k2.sd, k2.wd, k2.kd, k2.nt⟩
    · rcases z with z | z
      · rcases z with z | ⟨e, z⟩
        · exact .inl z.1
        · exact .inr ⟨e, ownB a z⟩
      · exact .inl (z ▸ tD)
end VE

namespace VE
open PySem PySem.Spec L2
open PyProof.Rows hiding St
/-! ### list comprehensions: the rules -/
structure PTsV (X : Cx) (ifs : List Expr) (t : TT) (f : TF) : Prop where
  pe : PTs X ifs t
  vw : VwT X.K t f
section
variable {X : Cx} {m : Bool} {pos : Pos}
theorem eqD' {KK : PySem.W.Frag} (hKK : X.K = KK) (hu : X.A.units + 64 < cLine) : OpR X (compareOp .Eq) (rEqD KK) := by
  subst hKK
  exact op_eqD hu
theorem neD' {KK : PySem.W.Frag} (hKK : X.K = KK) (hu : X.A.units + 64 < cLine) : OpR X (compareOp .NotEq) (rNeD KK) := by
  subst hKK
  exact op_neD hu
theorem in' {KK : PySem.W.Frag} (hKK : X.K = KK) : OpR X (compareOp .In) (rIn KK false) := by
  subst hKK
  exact op_in_seq
theorem notIn' {KK : PySem.W.Frag} (hKK : X.K = KK) : OpR X (compareOp .NotIn) (rIn KK true) := by
  subst hKK
  exact op_notIn_seq
theorem ptsv_nil : PTsV X [] tYes tYesF := ⟨pts_nil, fun g env w σ H Q b w' hK I hf k => by
  obtain ⟨rfl, rfl⟩ := pure_get hf
  exact k H (Keep.refl _ _) I.dr⟩
theorem ptsv_one {c : Expr} {t : TT} {f : TF} (p : PTV X c t f) : PTsV X [c] t f := ⟨pts_one p.pe, p.vw⟩
abbrev AnyBlk (X : Cx) (scope : Scope) (P : Cx → Prop) : Prop := ∀ (s : Shared) (H : Hp) (C : Addr) (cl : List (Str × Addr)) (fp : List Addr), P (X.blk s H scope (compEnvC scope cl C X.env) fp)
theorem plv_comp {elt tg iter : Expr} {ifs : List Expr} {scope : Scope} {own : List (Str × Nat)} {vs : List Nat} {wi : TI} {fi : IF} {gt : TG} {ft : GF} {tt : TT} {fT : TF} {te : TE} {f : EF} (hc : X.calm = true) (hN : X.N.Nodup) (hi : PIV X false tg iter wi fi) (ok : BlkOk X.N X.env.scope scope own) (hvs : own.map (·.2) = vs)
    (hg : AnyBlk X scope fun Y => PGV Y tg vs gt ft) (ht : AnyBlk X scope fun Y => PTsV Y ifs tt fT) (he : AnyBlk X scope fun Y => PV Y m elt te f) (hs : ∀ x, foldedSetIterable iter X.env x = pure x) :
    PLV X m (.ListComp elt [⟨tg, iter, ifs, 0⟩] scope pos) (tLc wi gt tt te vs) (xComp vs fi ft fT f) := by
  subst hvs
  exact ⟨pe_lc hc hN hi.pe ok (fun s H C cl fp => (hg s H C cl fp).pe) (fun s H C cl fp => (ht s H C cl fp).pe) (fun s H C cl fp => (he s H C cl fp).pe) hs,
    vw_comp hi.vw (hg {} (fun _ => none) 0 [] []).vw (ht {} (fun _ => none) 0 [] []).vw (he {} (fun _ => none) 0 [] []).vw⟩
end

/-! ### statements -/
/-- what a statement may have done -/
structure Eff {K : PySem.W.Frag} (g g' : Gh K) (env : En) (σ : SS) (H : Hp) (env' : En) (σ' : SS) (H' : Hp) : Prop where
  at_ : ∀ a o, ¬ g.Z a → ¬ ownA env σ a → H a = some o → H' a = some o
  live : ∀ a, H a ≠ none → H' a ≠ none
  own : ∀ a, ownA env' σ' a → ownA env σ a ∨ H a = none
  t1 : ∀ a, g.T a → g'.T a
  t2 : ∀ a, g'.T a → g.T a ∨ (H a = none ∧ g.H0 a = none)
  z1 : ∀ a, g.Z a → g'.Z a
  z2 : ∀ a, g'.Z a → g.Z a ∨ (H a = none ∧ g.H0 a = none)
  h0 : g'.H0 = g.H0
  sd : g'.sd = g.sd
  kd : g'.kd = g.kd
  wd : g'.wd = g.wd
  nt : NtLe g.nt g'.nt
section
variable {K : PySem.W.Frag} {g g1 g2 g' : Gh K} {env env1 env2 : En} {σ σ1 σ2 : SS} {H H1 H2 H' : Hp} {w w' : W}
theorem Eff.refl : Eff g g env σ H env σ H := ⟨fun _ _ _ _ e => e, fun _ e => e, fun _ h => .inl h, fun _ h => h, fun _ h => .inl h, fun _ h => h, fun _ h => .inl h, rfl, rfl, rfl, rfl, NtLe.refl _⟩
theorem none_back (l : ∀ a, H a ≠ none → H1 a ≠ none) {a : Addr} (q : H1 a = none) : H a = none := Classical.byContradiction fun n => l a n q
theorem Eff.trans (a : Eff g g1 env σ H env1 σ1 H1) (b : Eff g1 g2 env1 σ1 H1 env2 σ2 H2) : Eff g g2 env σ H env2 σ2 H2 :=
  ⟨fun c o nz no e => b.at_ c o (fun z => (a.z2 c z).elim nz fun q => by rw [q.1] at e; cases e) (fun z => (a.own c z).elim no fun q => by rw [q] at e; cases e) (a.at_ c o nz no e), fun c e => b.live c (a.live c e),
    fun c h => (b.own c h).elim (a.own c) fun q => .inr (none_back a.live q), fun c t => b.t1 c (a.t1 c t),
    fun c t => (b.t2 c t).elim (a.t2 c) fun q => .inr ⟨none_back a.live q.1, by rw [← a.h0]; exact q.2⟩,
    fun c t => b.z1 c (a.z1 c t), fun c t => (b.z2 c t).elim (a.z2 c) fun q => .inr ⟨none_back a.live q.1, by rw [← a.h0]; exact q.2⟩,
    b.h0.trans a.h0, b.sd.trans a.sd, b.kd.trans a.kd, b.wd.trans a.wd, a.nt.trans b.nt⟩
theorem Eff.of_keep (I : StOk g env w σ H) (k : Keep g g' H H1) (h : ∀ a, ownA env1 σ1 a → ownA env σ a) : Eff g g' env σ H env1 σ1 H1 :=
  ⟨fun a o n _ e => k.at_ a o n e, k.live, fun a q => .inl (h a q), k.t1, fun a t => (k.t2 a t).imp_right fun q => ⟨q.1, none_back I.keep.live q.1⟩, k.z1, fun a t => (k.z2 a t).imp_right fun q => ⟨q, none_back I.keep.live q⟩, k.h0, k.sd, k.kd, k.wd, k.nt⟩
/-- seen from the entry -/
structure KeepR {K : PySem.W.Frag} (g g' : Gh K) (H H' : Hp) : Prop where
  at_ : ∀ a o, ¬ g.Z a → H a = some o → H' a = some o
  live : ∀ a, H a ≠ none → H' a ≠ none
  t1 : ∀ a, g.T a → g'.T a
  t2 : ∀ a, g'.T a → g.T a ∨ H a = none
  tl : ∀ a, g'.T a → H' a ≠ none
  z1 : ∀ a, g.Z a → g'.Z a
  z2 : ∀ a, g'.Z a → g.Z a ∨ H a = none
  h0 : g'.H0 = g.H0
  sd : g'.sd = g.sd
  kd : g'.kd = g.kd
  wd : g'.wd = g.wd
  nt : NtLe g.nt g'.nt
theorem Keep.from0 (I : StOk g env w σ H) (k : Keep g g' H H1) : KeepR g g' g.H0 H1 :=
  ⟨fun a o n e => k.at_ a o n (I.keep.at_ a o n e), fun a e => k.live a (I.keep.live a e), k.t1, fun a t => (k.t2 a t).imp_right fun q => none_back I.keep.live q.1, fun a t => (k.t2 a t).elim (fun t => k.live a (I.live a t)) fun q => q.2, k.z1, fun a t => (k.z2 a t).imp_right fun q => none_back I.keep.live q, k.h0, k.sd, k.kd, k.wd, k.nt⟩
end
def Fin {K : PySem.W.Frag} (g : Gh K) (env : En) (σ : SS) (H : Hp) (D : Ends) (fl : Fl) (env' : En) (w' : W) : Prop :=
  match fl with
  | .nx => ∀ {g' : Gh K} σ' H', StOk g' env' w' σ' H' → Eff g g' env σ H env' σ' H' → D.nx σ' H'
  | .bk => ∀ {g' : Gh K} σ' H', StOk g' env' w' σ' H' → Eff g g' env σ H env' σ' H' → D.bk σ' H'
  | .ct => ∀ {g' : Gh K} σ' H', StOk g' env' w' σ' H' → Eff g g' env σ H env' σ' H' → D.ct σ' H'
  | .rt x => ∀ {g' : Gh K} v H', KeepR g g' g.H0 H' → g'.dr w' H' → Rep K g'.T H' v x → D.rt v H'
theorem Fin.after {K : PySem.W.Frag} {g g1 : Gh K} {env env1 : En} {σ σ1 : SS} {H H1 : Hp} {D : Ends} {fl : Fl} {env' : En} {w' : W} (F : Fin g env σ H D fl env' w') (e : Eff g g1 env σ H env1 σ1 H1) : Fin g1 env1 σ1 H1 D fl env' w' := by
  cases fl with
  | nx => exact fun σ' H' I f => F σ' H' I (e.trans f)
  | bk => exact fun σ' H' I f => F σ' H' I (e.trans f)
  | ct => exact fun σ' H' I f => F σ' H' I (e.trans f)
  | rt x =>
    refine fun v H' k d r => F v H' ⟨fun a o n q => k.at_ a o (fun z => (e.z2 a z).elim n fun x => by rw [x.2] at q; cases q) (by rw [e.h0]; exact q), fun a q => k.live a (by rw [e.h0]; exact q), fun a t => k.t1 a (e.t1 a t), fun a t => ?_, k.tl, fun a z => k.z1 a (e.z1 a z), fun a z => ?_, k.h0.trans e.h0, k.sd.trans e.sd, k.kd.trans e.kd, k.wd.trans e.wd, e.nt.trans k.nt⟩ d r
    · rcases k.t2 a t with t' | q
      · exact (e.t2 a t').imp_right fun q => q.2
      · exact .inr (by rw [← e.h0]; exact q)
    · rcases k.z2 a z with z' | q
      · exact (e.z2 a z').imp_right fun q => q.2
      · exact .inr (by rw [← e.h0]; exact q)
def VwS (K : PySem.W.Frag) (t : TS) (f : SF) : Prop :=
  ∀ (g : Gh K) (env : En) (w : W) (σ : SS) (H : Hp) (D : Ends) (fl : Fl) (env' : En) (w' : W), True → StOk g env w σ H → f env w = some ((fl, env'), w') → Fin g env σ H D fl env' w' → t D σ H
structure PSV (X : Cx) (st : Stmt) (t : TS) (f : SF) : Prop where
  pe : PS X st t
  vw : VwS X.K t f
structure PSsV (X : Cx) (st : List Stmt) (t : TS) (f : SF) : Prop where
  pe : PSs X st t
  vw : VwS X.K t f
section
variable {X : Cx} {K : PySem.W.Frag} {m : Bool} {e c : Expr} {st : Stmt} {rest sa sb : List Stmt} {ta : TE} {tt : TT} {ts tu : TS} {f : EF} {fT : TF} {fs fu : SF} {pos : Pos}
theorem vw_next : VwS K tNext sPass := fun g env w σ H D fl env' w' hK I hf F => by
  obtain ⟨e, rfl⟩ := pure_get hf
  cases e
  exact F σ H I Eff.refl
theorem psv_pass : PSV X (.Pass pos) tNext sPass := ⟨ps_pass, vw_next⟩
theorem psv_doc {x j pos'} : PSV X (.Expr (.Constant (.str x) j pos) pos') tNext sPass := ⟨ps_doc, vw_next⟩
theorem psv_break : PSV X (.Break pos) tBreak sBreak := ⟨ps_break, fun g env w σ H D fl env' w' hK I hf F => by
  obtain ⟨e, rfl⟩ := pure_get hf
  cases e
  exact F σ H I Eff.refl⟩
theorem psv_continue : PSV X (.Continue pos) tCont sCont := ⟨ps_continue, fun g env w σ H D fl env' w' hK I hf F => by
  obtain ⟨e, rfl⟩ := pure_get hf
  cases e
  exact F σ H I Eff.refl⟩
theorem pssv_nil : PSsV X [] tNext sPass := ⟨pss_nil, vw_next⟩
theorem pssv_cons (p : PSV X st ts fs) (q : PSsV X rest tu fu) : PSsV X (st :: rest) (tSeq ts tu) (sSeq fs fu) := ⟨pss_cons p.pe q.pe, fun g env w σ H D fl env' w' hK I hf F => by
  obtain ⟨⟨fl1, env1⟩, w1, h1, h2⟩ := bind_some.mp hf
  refine p.vw _ env w σ H _ fl1 env1 w1 hK I h1 ?_
  cases fl1 with
  | nx => exact fun σ' H' I' ef => q.vw _ env1 w1 σ' H' D fl env' w' hK I' h2 (F.after ef)
  | bk => obtain ⟨e, rfl⟩ := pure_get h2; cases e; exact F
  | ct => obtain ⟨e, rfl⟩ := pure_get h2; cases e; exact F
  | rt x => obtain ⟨e, rfl⟩ := pure_get h2; cases e; exact F⟩
theorem pssv_one (p : PSV X st ts fs) : PSsV X [st] ts fs := ⟨pss_one p.pe, p.vw⟩
theorem psv_ret (p : PV X false e ta f) : PSV X (.Return (some e) pos) (tRet ta) (sRet f) := ⟨ps_ret p.pe, fun g env w σ H D fl env' w' hK I hf F => by
  obtain ⟨x, w1, h1, h2⟩ := bind_some.mp hf
  obtain ⟨e, rfl⟩ := pure_get h2
  cases e
  exact p.vw _ env w σ H _ x _ hK I h1 fun v H' k d r => F v H' (Keep.from0 I k) d (r.mon (fun _ _ _ e => e) fun _ z => .inl z)⟩
theorem psv_retN : PSV X (.Return none pos) tRetN sRetN := ⟨ps_retN, fun g env w σ H D fl env' w' hK I hf F => by
  obtain ⟨e, rfl⟩ := pure_get hf
  cases e
  exact F .non H (Keep.from0 I (Keep.refl _ _)) I.dr .non⟩
theorem psv_if (p : PTV X c tt fT) (q : PSsV X sa ts fs) (r : PSsV X sb tu fu) : PSV X (.If c sa sb pos) (tIfS tt ts tu) (sIf fT fs fu) := ⟨ps_if p.pe q.pe r.pe, fun g env w σ H D fl env' w' hK I hf F => by
  obtain ⟨b, w1, h1, h2⟩ := bind_some.mp hf
  refine p.vw _ env w σ H _ b _ hK I h1 fun H1 k1 d1 => ?_
  have F1 := F.after (Eff.of_keep I (env1 := env) (σ1 := σ) k1 fun _ h => h)
  cases b with
  | true => exact q.vw _ env w1 σ H1 D fl env' w' hK (I.step k1 d1) h2 F1
  | false => exact r.vw _ env w1 σ H1 D fl env' w' hK (I.step k1 d1) h2 F1⟩
theorem vw_asg {vs : List Nat} {gt : TG} {ft : GF} (p : VwE K true ta f) (q : VwG K vs gt ft) : VwS K (tAsg ta gt) (sAsg f ft) := fun g env w σ H D fl env' w' hK I hf F => by
  obtain ⟨x, w1, h1, h2⟩ := bind_some.mp hf
  obtain ⟨env1, w2, h3, h4⟩ := bind_some.mp h2
  obtain ⟨e3, rfl⟩ := lift_get h3
  obtain ⟨e, rfl⟩ := pure_get h4
  cases e
  refine p _ env w σ H _ x _ hK I h1 fun v H1 k1 d1 r1 => ?_
  exact q _ env _ σ H1 v x env' _ hK (I.step k1 d1) r1 e3 fun σ' I' o' _ _ => F σ' H1 I' (Eff.of_keep I k1 o')
/-- target = e -/
theorem psv_asg {tg : Expr} {vs : List Nat} {gt : TG} {ft : GF} (p : PV X true e ta f) (q : PGV X tg vs gt ft) (hs : swapsWithSole [tg] e pos.line X.env = pure false) (hw : swappedStores [tg] e X.env = pure none)
    (h1 : (assignEach [tg] X.env).map (·.2) = [assign tg X.env]) : PSV X (.Assign [tg] e pos) (tAsg ta gt) (sAsg f ft) := ⟨ps_asg p.pe q.pe hs hw h1, vw_asg p.vw q.vw⟩
/-- name = e -/
theorem psv_set {i : Nat} {x : Str} {pos' : Pos} (hN : X.N.Nodup) (p : PV X true e ta f) (hi : X.N[i]? = some x) (hx : locB X.env.scope x = true) (hs : swapsWith e (some (.Name x pos')) pos.line X.env = pure false) (hf : fnB X x = true) :
    PSV X (.Assign [.Name x pos'] e pos) (tAsg ta (gName i)) (sAsg f (gNm i)) := ⟨ps_set hN hi (loc_of hx) p.pe hs (fn_of' hf), vw_asg p.vw (vw_name i)⟩
/-- name = [..] on one line -/
theorem psv_setLc {i : Nat} {y : Str} {py : Pos} {elt tg iter : Expr} {ifs : List Expr} {scope : Scope} {own : List (Str × Nat)} {vs : List Nat} {cpos : Pos} {wi : TI} {fi : IF} {gt : TG} {ft : GF} {te : TE} (hc : X.calm = true) (hN : X.N.Nodup) (hsw : swapsWith (.ListComp elt [⟨tg, iter, ifs, 0⟩] scope cpos) (some (.Name y py)) pos.line X.env = pure true)
    (hi : PIV X false tg iter wi fi) (ok : BlkOk X.N X.env.scope scope own) (hvs : own.map (·.2) = vs)
    (hg : AnyBlk X scope fun Y => PGV Y tg vs gt ft) (ht : AnyBlk X scope fun Y => PTsV Y ifs tt fT) (he : AnyBlk X scope fun Y => PV Y true elt te f) (hs : ∀ x, foldedSetIterable iter X.env x = pure x) (hy : X.N[i]? = some y) (hyl : X.env.scope.names.lookup y = some .local) :
    PSV X (.Assign [.Name y py] (.ListComp elt [⟨tg, iter, ifs, 0⟩] scope cpos) pos) (tAsg (tLc wi gt tt te vs) (gName i)) (sAsg (xAs (xComp vs fi ft fT f)) (gNm i)) := by
  subst hvs
  exact ⟨ps_setLc hc hN hy hyl hsw hi.pe ok (fun s H C cl fp => (hg s H C cl fp).pe) (fun s H C cl fp => (ht s H C cl fp).pe) (fun s H C cl fp => (he s H C cl fp).pe) hs,
    vw_asg (pv_as (plv_comp hc hN hi ok rfl hg ht he hs (pos := cpos))).vw (vw_name i)⟩
theorem psv_expr (p : PV X true e ta f) (hs : swapsWith e none pos.line X.env = pure false) : PSV X (.Expr e pos) (tDrop ta) (sExpr f) := ⟨ps_expr p.pe hs, fun g env w σ H D fl env' w' hK I hf F => by
  obtain ⟨x, w1, h1, h2⟩ := bind_some.mp hf
  obtain ⟨e, rfl⟩ := pure_get h2
  cases e
  exact p.vw _ env w σ H _ x _ hK I h1 fun v H1 k1 d1 r1 => F σ H1 (I.step k1 d1) (Eff.of_keep I k1 fun _ h => h)⟩
/-- a, b = e, e' -/
theorem psv_par {i j : Nat} {x y : Str} {a b : Expr} {tas : TA} {fas : AF} {px py pt : Pos} {kt k2 pt2} (hc : X.calm = true) (hN : X.N.Nodup) (p : PAV X true [a, b] tas fas) (hi : X.N[i]? = some x) (hj : X.N[j]? = some y) (hij : i ≠ j)
    (hx : X.env.scope.names.lookup x = some .local) (hy : X.env.scope.names.lookup y = some .local)
    (hw : swappedStores [.Tuple [.Name x px, .Name y py] kt pt] (.Tuple [a, b] k2 pt2) X.env = pure (some [x, y]))
    (hs : swapsWithSole [.Tuple [.Name x px, .Name y py] kt pt] (.Tuple [a, b] k2 pt2) pos.line X.env = pure false) :
    PSV X (.Assign [.Tuple [.Name x px, .Name y py] kt pt] (.Tuple [a, b] k2 pt2) pos) (tPar i j tas) (sPar i j fas) := ⟨ps_par hc hN hi hj hij hx hy p.pe hw hs, fun g env w σ H D fl env' w' hK I hf F => by
  obtain ⟨xs, w1, h1, h2⟩ := bind_some.mp hf
  refine p.vw _ env w σ H _ xs _ hK I h1 fun vs H1 k1 d1 r1 => ?_
  split at h2
  · rename_i u v
    obtain ⟨e, rfl⟩ := pure_get h2
    cases e
    obtain ⟨a1, a2, rfl, r, r'⟩ := reps2 r1
    refine ⟨a1, a2, rfl, ?_⟩
    have I1 := I.step k1 d1
    have I2 := I1.setSh i (x := u) (v := a1) r
    have I3 := I2.setSh j (x := v) (v := a2) (r'.mon (fun _ _ _ e => e) fun a h => h.elim .inl fun z => .inr ⟨rfl, own_set_sh z.2⟩)
    exact F _ H1 I3 (Eff.of_keep I k1 fun a h => own_set_sh (own_set_sh h))
  · cases h2⟩

/-! ### lists that the def changes -/
theorem own_thaw {i : Nat} {env : En} {σ : SS} {a : Addr} (h : ownA (thaw i env) σ a) : ownA env σ a := by
  unfold thaw at h
  split at h
  · obtain ⟨j, b, xs, h1, h2⟩ := h
    rcases set_get h1 with ⟨_, e⟩ | ⟨hj, h1⟩
    · cases e
    · exact ⟨j, b, xs, h1, h2⟩
  · exact h
theorem StOk.thaw {g : Gh K} {env : En} {w : W} {σ : SS} {H : Hp} (I : StOk g env w σ H) (i : Nat) : StOk g (thaw i env) w σ H := by
  have av' : ∀ a, av g true (VE.thaw i env) σ a → av g true env σ a := fun a h => h.elim .inl fun q => .inr ⟨rfl, own_thaw q.2⟩
  have key : ∀ xs, env[i]? = some (.ow false xs) → VE.thaw i env = env.set i (.sh (.list xs)) := fun xs e => by unfold VE.thaw; rw [e]
  cases q : env[i]? with
  | none => have e : VE.thaw i env = env := by unfold VE.thaw; rw [q]
            rw [e]; exact I
  | some s =>
    cases s with
    | ow b xs =>
      cases b with
      | true =>
        have e : VE.thaw i env = env := by unfold VE.thaw; rw [q]
        rw [e]; exact I
      | false =>
      have ek := key xs q
      rw [ek] at av'
      rw [ek]
      obtain ⟨a, vs, ea, ha, ra, na, ta⟩ := I.owL i xs q
      have nown : ¬ ownA (env.set i (.sh (.list xs))) σ a := fun ⟨j, b, ys, h1, h2⟩ => by
        rcases set_get h1 with ⟨_, e⟩ | ⟨hj, h1⟩
        · cases e
        · exact hj (I.dist j i _ _ ys xs a h1 q h2 ea)
      refine ⟨by rw [List.length_set, I.len], fun j y h => ?_, fun j b ys h => ?_, fun j kk h => ?_, fun j ns h => ?_, fun j j2 b c ys zs a h1 h2 h3 h4 => ?_, I.live, I.keep, I.dr⟩
      · rcases set_get h with ⟨rfl, e⟩ | ⟨hj, h⟩
        · cases e
          exact ⟨_, ea, .lst (fun z => z.elim ta fun z => nown z.2) ha (ra.mon (fun _ _ _ e => e) av')⟩
        · obtain ⟨u, e, q⟩ := I.sh j y h
          exact ⟨u, e, q.mon (fun _ _ _ e => e) av'⟩
      · rcases set_get h with ⟨rfl, e⟩ | ⟨hj, h⟩
        · cases e
        · obtain ⟨a, vs, e, q, s, n, t⟩ := I.ow j b ys h
          exact ⟨a, vs, e, q, s.mon (fun _ _ _ e => e) av', n, t⟩
      · rcases set_get h with ⟨rfl, e⟩ | ⟨hj, h⟩
        · cases e
        · exact I.st j kk h
      · rcases set_get h with ⟨rfl, e⟩ | ⟨hj, h⟩
        · cases e
        · obtain ⟨a, e, s⟩ := I.fz j ns h
          exact ⟨a, e, s.mono (fun _ _ _ e => e) av'⟩
      · rcases set_get h1 with ⟨_, e⟩ | ⟨hj, h1⟩
        · cases e
        · rcases set_get h2 with ⟨_, e⟩ | ⟨hj2, h2⟩
          · cases e
          · exact I.dist j j2 b c ys zs a h1 h2 h3 h4
    | _ =>
      have e : VE.thaw i env = env := by unfold VE.thaw; rw [q]
      rw [e]; exact I
/-- from here on the list at i is a value -/
theorem pssv_thaw {i : Nat} {sts : List Stmt} (p : PSsV X sts ts fs) : PSsV X sts ts (sThaw i fs) := ⟨p.pe, fun g env w σ H D fl env' w' hK I hf F =>
  p.vw g (thaw i env) w σ H D fl env' w' hK (I.thaw i) hf (F.after (Eff.of_keep I (Keep.refl _ _) fun a h => own_thaw h))⟩
theorem StOk.setOw {g g' : Gh K} {env : En} {w : W} {σ : SS} {H H' : Hp} {p : Addr} {vs : List V} {xs : List PyData} (I : StOk g env w σ H) (hp : H p = none ∧ ¬ g'.T p) (k : Keep g g' H H') (d : g'.dr w' H') {bb : Bool} (hv : ∃ o, H' p = some o ∧ HoS bb vs o) (r : Reps K (fun a => av g' true env σ a ∨ a = p) H' vs xs) (i : Nat) :
    StOk g' (env.set i (.ow bb xs)) w' (σ.set i (some (.ref p))) H' ∧ Eff g g' env σ H (env.set i (.ow bb xs)) (σ.set i (some (.ref p))) H' := by
  have own' : ∀ a, ownA (env.set i (.ow bb xs)) (σ.set i (some (.ref p))) a → ownA env σ a ∨ a = p := fun a ⟨j, b, ys, h1, h2⟩ => by
    rcases set_get h1 with ⟨rfl, e⟩ | ⟨hj, h1⟩
    · rcases set_get h2 with ⟨_, e2⟩ | ⟨hj, _⟩
      · cases e2; exact .inr rfl
      · exact absurd rfl hj
    · rw [List.getElem?_set_ne (Ne.symm hj)] at h2
      exact .inl ⟨j, b, ys, h1, h2⟩
  have av' : ∀ a, av g' true (env.set i (.ow bb xs)) (σ.set i (some (.ref p))) a → av g' true env σ a ∨ a = p := fun a h => h.elim (fun z => .inl (.inl z)) fun q => (own' a q.2).elim (fun z => .inl (.inr ⟨rfl, z⟩)) .inr
  have I1 := I.step k d
  have h0 : g'.H0 p = none := by
    rw [k.h0]
    exact none_back I.keep.live hp.1
  have back : ∀ a, av g' true (env.set i (.ow bb xs)) (σ.set i (some (.ref p))) a → av g true env σ a ∨ H a = none := fun a h => (av' a h).elim (fun z => av_new k z) fun z => .inr (z ▸ hp.1)
  have carry : ∀ {x : PyData} {v : V}, Rep K (av g true env σ) H v x → Rep K (av g' true (env.set i (.ow bb xs)) (σ.set i (some (.ref p)))) H' v x := fun {x v} r =>
    (Rep.tracked x r).mon (fun a o n e => k.at_ a o (fun z => n (.inl (av_z z))) e) back
  have carrys : ∀ {x : List PyData} {v : List V}, Reps K (av g true env σ) H v x → Reps K (av g' true (env.set i (.ow bb xs)) (σ.set i (some (.ref p)))) H' v x := fun {x v} r =>
    (Reps.tracked x r).mon (fun a o n e => k.at_ a o (fun z => n (.inl (av_z z))) e) back
  have E := Eff.of_keep (env1 := env) (σ1 := σ) I k fun _ h => h
  refine ⟨⟨by rw [List.length_set, List.length_set, I.len], fun j y h => ?_, fun j b ys h => ?_, fun j kk h => ?_, fun j ns h => ?_, fun j j2 b c ys zs a h1 h2 h3 h4 => ?_, I1.live, I1.keep, I1.dr⟩,
    ⟨E.at_, E.live, fun a h => (own' a h).imp id fun z => by rw [z]; exact hp.1, E.t1, E.t2, E.z1, E.z2, E.h0, E.sd, E.kd, E.wd, E.nt⟩⟩
  · rcases set_get h with ⟨rfl, e⟩ | ⟨hj, h⟩
    · cases e
    · obtain ⟨u, e, q⟩ := I.sh j y h
      exact ⟨u, by rw [List.getElem?_set_ne (Ne.symm hj)]; exact e, carry q⟩
  · rcases set_get h with ⟨rfl, e⟩ | ⟨hj, h⟩
    · cases e
      have hl : j < σ.length := by
        rw [I.len]
        have := (List.getElem?_eq_some_iff.mp h).1
        simpa using this
      exact ⟨p, vs, by rw [List.getElem?_set_self hl], hv, r.mon (fun _ _ _ e => e) av', h0, hp.2⟩
    · obtain ⟨a, us, e, ⟨o, q, ho⟩, s, n, t⟩ := I.ow j b ys h
      exact ⟨a, us, by rw [List.getElem?_set_ne (Ne.symm hj)]; exact e, ⟨o, k.at_ a _ (fun z => t (g.zt a z)) q, ho⟩, carrys s, by rw [k.h0]; exact n, fun z => (k.t2 a z).elim t fun e => by rw [q] at e; cases e.1⟩
  · rcases set_get h with ⟨rfl, e⟩ | ⟨hj, h⟩
    · cases e
    · rw [List.getElem?_set_ne (Ne.symm hj)]; exact I1.st j kk h
  · rcases set_get h with ⟨rfl, e⟩ | ⟨hj, h⟩
    · cases e
    · obtain ⟨a, e, s⟩ := I.fz j ns h
      exact ⟨a, by rw [List.getElem?_set_ne (Ne.symm hj)]; exact e, s.tracked.mono (fun a o n e => k.at_ a o (fun z => n (.inl (av_z z))) e) back⟩
  · rcases set_get h1 with ⟨e1, _⟩ | ⟨hj, h1'⟩
    · rcases set_get h2 with ⟨e2, _⟩ | ⟨hj2, h2'⟩
      · rw [e1, e2]
      · exfalso
        rw [e1] at h3
        rcases set_get h3 with ⟨_, e3⟩ | ⟨hj, _⟩
        · cases e3
          rw [List.getElem?_set_ne (Ne.symm hj2)] at h4
          exact I.owLive ⟨j2, c, zs, h2', h4⟩ hp.1
        · exact hj rfl
    · rcases set_get h2 with ⟨e2, _⟩ | ⟨hj2, h2'⟩
      · exfalso
        rw [e2] at h4
        rcases set_get h4 with ⟨_, e3⟩ | ⟨hj2, _⟩
        · cases e3
          rw [List.getElem?_set_ne (Ne.symm hj)] at h3
          exact I.owLive ⟨j, b, ys, h1', h3⟩ hp.1
        · exact hj2 rfl
      · rw [List.getElem?_set_ne (Ne.symm hj)] at h3
        rw [List.getElem?_set_ne (Ne.symm hj2)] at h4
        exact I.dist j j2 b c ys zs a h1' h2' h3 h4
theorem vw_own {fl : LF} (i : Nat) (p : VwL K true ta fl) : VwS K (tAsg ta (gName i)) (sOwn i fl) := fun g env w σ H D fl env' w' hK I hf F => by
  obtain ⟨xs, w1, h1, h2⟩ := bind_some.mp hf
  obtain ⟨e, rfl⟩ := pure_get h2
  cases e
  refine p _ env w σ H _ xs _ hK I h1 fun p vs H1 hp k1 d1 e1 r1 => ?_
  obtain ⟨I1, E1⟩ := I.setOw (bb := false) hp k1 d1 ⟨_, e1, rfl⟩ r1 i
  exact F _ H1 I1 E1
/-- name = a new list that is changed later -/
theorem psv_own {i : Nat} {x : Str} {pos' : Pos} {fl : LF} (hN : X.N.Nodup) (p : PLV X true e ta fl) (hi : X.N[i]? = some x) (hx : locB X.env.scope x = true) (hs : swapsWith e (some (.Name x pos')) pos.line X.env = pure false) (hf : fnB X x = true) :
    PSV X (.Assign [.Name x pos'] e pos) (tAsg ta (gName i)) (sOwn i fl) := ⟨ps_set hN hi (loc_of hx) p.pe hs (fn_of' hf), vw_own i p.vw⟩
theorem psv_ownLc {i : Nat} {y : Str} {py : Pos} {elt tg iter : Expr} {ifs : List Expr} {scope : Scope} {own : List (Str × Nat)} {vs : List Nat} {cpos : Pos} {wi : TI} {fi : IF} {gt : TG} {ft : GF} {te : TE} (hc : X.calm = true) (hN : X.N.Nodup) (hsw : swapsWith (.ListComp elt [⟨tg, iter, ifs, 0⟩] scope cpos) (some (.Name y py)) pos.line X.env = pure true)
    (hi : PIV X false tg iter wi fi) (ok : BlkOk X.N X.env.scope scope own) (hvs : own.map (·.2) = vs)
    (hg : AnyBlk X scope fun Y => PGV Y tg vs gt ft) (ht : AnyBlk X scope fun Y => PTsV Y ifs tt fT) (he : AnyBlk X scope fun Y => PV Y true elt te f) (hs : ∀ x, foldedSetIterable iter X.env x = pure x) (hy : X.N[i]? = some y) (hyl : X.env.scope.names.lookup y = some .local) :
    PSV X (.Assign [.Name y py] (.ListComp elt [⟨tg, iter, ifs, 0⟩] scope cpos) pos) (tAsg (tLc wi gt tt te vs) (gName i)) (sOwn i (xComp vs fi ft fT f)) := by
  subst hvs
  exact ⟨ps_setLc hc hN hy hyl hsw hi.pe ok (fun s H C cl fp => (hg s H C cl fp).pe) (fun s H C cl fp => (ht s H C cl fp).pe) (fun s H C cl fp => (he s H C cl fp).pe) hs,
    vw_own i (plv_comp hc hN hi ok rfl hg ht he hs (pos := cpos)).vw⟩
/-- the list at i is changed -/
theorem StOk.mut {g : Gh K} {env : En} {w : W} {σ : SS} {H : Hp} {i : Nat} {bb : Bool} {xs ys : List PyData} {a : Addr} {us : List V} {o' : HO} (I : StOk g env w σ H) (hi : env[i]? = some (.ow bb xs)) (ha : σ[i]? = some (some (.ref a))) (ho' : HoS bb us o') (r : Reps K (av g true env σ) H us ys) :
    StOk g (env.set i (.ow bb ys)) w σ (upd H a o') ∧ Eff g g env σ H (env.set i (.ow bb ys)) σ (upd H a o') := by
  have own_a : ownA env σ a := ⟨i, bb, xs, hi, ha⟩
  have na : ¬ g.T a := I.owNT own_a
  have own' : ∀ b, ownA (env.set i (.ow bb ys)) σ b → ownA env σ b := fun b ⟨j, b1, zs, h1, h2⟩ => by
    rcases set_get h1 with ⟨rfl, e⟩ | ⟨hj, h1⟩
    · exact ⟨j, bb, xs, hi, h2⟩
    · exact ⟨j, b1, zs, h1, h2⟩
  have av' : ∀ b, av g true (env.set i (.ow bb ys)) σ b → av g true env σ b := fun b h => h.elim .inl fun q => .inr ⟨rfl, own' b q.2⟩
  have k : ∀ b o, ¬ av g true env σ b → H b = some o → upd H a o' b = some o := fun b o n e => by
    rw [upd_ne (show b ≠ a from fun z => n (.inr ⟨rfl, by rw [z]; exact own_a⟩))]; exact e
  have live' : ∀ b, H b ≠ none → upd H a o' b ≠ none := fun b e => by
    by_cases z : b = a
    · subst z; rw [upd_same]; simp
    · rw [upd_ne z]; exact e
  obtain ⟨a', vs', ea, hva, _, h0, _⟩ := I.ow i bb xs hi
  rw [ha] at ea
  cases ea
  refine ⟨⟨by rw [List.length_set, I.len], fun j y h => ?_, fun j b1 zs h => ?_, fun j kk h => ?_, fun j ns h => ?_, fun j j2 b1 b2 zs zs2 b h1 h2 h3 h4 => ?_, fun b h => live' b (I.live b h), ⟨fun b o n e => ?_, fun b e => live' b (I.keep.live b e)⟩, ?_⟩,
    ⟨fun b o nz no e => ?_, live', fun b h => .inl (own' b h), fun _ t => t, fun _ t => .inl t, fun _ t => t, fun _ t => .inl t, rfl, rfl, rfl, rfl, NtLe.refl _⟩⟩
  · rcases set_get h with ⟨rfl, e⟩ | ⟨hj, h⟩
    · cases e
    · obtain ⟨u, e, q⟩ := I.sh j y h
      exact ⟨u, e, q.mon k av'⟩
  · rcases set_get h with ⟨rfl, e⟩ | ⟨hj, h⟩
    · cases e
      exact ⟨a, us, ha, ⟨o', upd_same, ho'⟩, r.mon k av', h0, na⟩
    · obtain ⟨b, vs, e, ⟨o, q, ho⟩, s, n, t⟩ := I.ow j b1 zs h
      refine ⟨b, vs, e, ⟨o, ?_, ho⟩, s.mon k av', n, t⟩
      rw [upd_ne (show b ≠ a from fun z => by subst z; exact hj (I.dist j i _ _ zs xs b h hi e ha))]
      exact q
  · rcases set_get h with ⟨rfl, e⟩ | ⟨hj, h⟩
    · cases e
    · exact I.st j kk h
  · rcases set_get h with ⟨rfl, e⟩ | ⟨hj, h⟩
    · cases e
    · obtain ⟨b, e, s⟩ := I.fz j ns h
      exact ⟨b, e, s.mono k av'⟩
  · have z1 : ∃ b q1, env[j]? = some (.ow b q1) := by
      rcases set_get h1 with ⟨rfl, e⟩ | ⟨hj, h1⟩
      · exact ⟨bb, xs, hi⟩
      · exact ⟨b1, zs, h1⟩
    have z2 : ∃ b q1, env[j2]? = some (.ow b q1) := by
      rcases set_get h2 with ⟨rfl, e⟩ | ⟨hj, h2⟩
      · exact ⟨bb, xs, hi⟩
      · exact ⟨b2, zs2, h2⟩
    obtain ⟨c1, q1, z1⟩ := z1
    obtain ⟨c2, q2, z2⟩ := z2
    exact I.dist j j2 c1 c2 q1 q2 b z1 z2 h3 h4
  · have e' := I.keep.at_ b o n e
    rw [upd_ne (show b ≠ a from fun z => by subst z; rw [h0] at e; cases e)]
    exact e'
  · refine g.drk w H _ I.dr fun b z => ?_
    rw [upd_ne]
    intro e
    subst e
    exact na (g.zt b z)
  · rw [upd_ne (show b ≠ a from fun z => no (by rw [z]; exact own_a))]; exact e
/-- xs.append(e) -/
theorem psv_app {i : Nat} {x : Str} {px apos cpos : Pos} {KK : PySem.W.Frag} (hKK : X.K = KK) (p : PV X true e ta f) (hN : X.N[i]? = some x) (hv : visB X.env.scope x = true) (hd : dunB x = true)
    (hs : swapsWith (.Call (.Attribute (.Name x px) "append" apos) [e] [] cpos) none pos.line X.env = pure false)
    (hbase : attributeBase (.Name x px) "append" X.env (eval (.Name x px) X.env) = eval (.Name x px) X.env)
    (hfew : ((backTo cpos (starEach [e] X.env)).all (fun x => !x.1) && (backToKw cpos (keywordEach [] X.env)).all (fun x => x.1.isSome)
      && decide ([e].length + ([] : List Keyword).length + (if ([] : List Keyword).isEmpty then 0 else 1) < 30)) = true)
    (hline : (apos.endLine == cpos.line) = true) (hst : starEach [e] X.env = (false, eval e X.env) :: starEach [] X.env) (hplain : (backTo cpos (starEach [] X.env)).any (·.1) = false) :
    PSV X (.Expr (.Call (.Attribute (.Name x px) "append" apos) [e] [] cpos) pos) (tDrop (tBM KK "list" rAppend (tVar i) (tCons ta tNil))) (sApp i f) := by
  subst hKK
  exact (show
    PSV X (.Expr (.Call (.Attribute (.Name x px) "append" apos) [e] [] cpos) pos) (tDrop (tBM X.K "list" rAppend (tVar i) (tCons ta tNil))) (sApp i f) from
  ⟨ps_expr (pe_bm PySem.F.plainAttrs_list PySem.F.slot_list_append PySem.F.type_list_append mt_append (pe_var hN (vis_of hv) (dun1 hd) (dun2 hd)) (pa_cons p.pe pa_nil hst) hbase hfew hline hst hplain) hs, fun g env w σ H D fl env' w' hK I hf F => by
    obtain ⟨y, w1, h1, h2⟩ := bind_some.mp hf
    cases q : env[i]? with
    | none => rw [q] at h2; cases h2
    | some s =>
      rw [q] at h2
      cases s with
      | ow b xs =>
        cases b with
        | true => cases h2
        | false =>
        obtain ⟨a, vs, ea, ha, ra, n0, nt⟩ := I.owL i xs q
        refine ⟨_, ea, .inl ⟨rfl, _, SqL.of ha⟩, ?_⟩
        refine p.vw _ env w σ H _ y _ hK I h1 fun v H1 k1 d1 r1 => ?_
        have I1 := I.step k1 d1
        obtain ⟨a', vs', ea', ha', ra', _, _⟩ := I1.owL i xs q
        rw [ea] at ea'
        cases ea'
        have h2 : (if xs.length < line then pure (Fl.nx, env.set i (.ow false (xs ++ [y]))) else fail : M (Fl × En)) w1 = some ((fl, env'), w') := h2
        split at h2
        · rename_i hl
          obtain ⟨e, rfl⟩ := pure_get h2
          cases e
          refine ⟨a, vs', v, rfl, rfl, ha', by rw [ra'.length, ← line_eq]; exact hl, ?_⟩
          obtain ⟨I2, E2⟩ := I1.mut (ys := xs ++ [y]) (us := vs' ++ [v]) q ea rfl (ra'.append (.cons r1 .nil))
          exact F σ _ I2 ((Eff.of_keep I (env1 := env) (σ1 := σ) k1 fun _ h => h).trans E2)
        · cases h2
      | _ => cases h2⟩)

/-- xs[k] = e -/
theorem psv_setItem {i : Nat} {x : Str} {b : Expr} {tb : TE} {k : EF} {px spos : Pos} (q : PV X false b tb k) (p : PV X true e ta f) (hN : X.N[i]? = some x) (hv : visB X.env.scope x = true) (hd : dunB x = true)
    (ha : ∀ v, assign (.Subscript (.Name x px) b spos) X.env v = (do
      let ov ← holding [v] (eval (.Name x px) X.env)
      let iv ← holding [v, ov] (eval b X.env)
      standAt spos
      holding [v, ov, iv] (setItem ov iv v)
      release [v, ov, iv] []))
    (hs : swapsWithSole [.Subscript (.Name x px) b spos] e pos.line X.env = pure false) (hw : swappedStores [.Subscript (.Name x px) b spos] e X.env = pure none)
    (h1 : (assignEach [.Subscript (.Name x px) b spos] X.env).map (·.2) = [assign (.Subscript (.Name x px) b spos) X.env]) :
    PSV X (.Assign [.Subscript (.Name x px) b spos] e pos) (tAsg ta (gSub (tVar i) tb rSetL)) (sSet i k f) :=
  ⟨ps_asg p.pe (pg_sub (pe_var hN (vis_of hv) (dun1 hd) (dun2 hd)) q.pe set_list ha) hs hw h1, fun g env w σ H D fl env' w' hK I hf F => by
    obtain ⟨y, w1, h1, h2⟩ := bind_some.mp hf
    obtain ⟨z, w2, h3, h4⟩ := bind_some.mp h2
    refine p.vw _ env w σ H _ y _ hK I h1 fun v H1 k1 d1 r1 => ?_
    have I1 := I.step k1 d1
    cases qq : env[i]? with
    | none => rw [qq] at h4; cases h4
    | some s =>
      rw [qq] at h4
      cases s with
      | ow b xs =>
        cases b with
        | true => cases z <;> cases h4
        | false =>
        obtain ⟨a, vs, ea, ha, ra, n0, nt⟩ := I1.owL i xs qq
        refine ⟨_, ea, ?_⟩
        refine q.vw _ env _ σ H1 _ z _ hK I1 h3 fun u H2 k2 d2 r2 => ?_
        have I2 := I1.step k2 d2
        obtain ⟨a', vs', ea', ha', ra', _, _⟩ := I2.owL i xs qq
        rw [ea] at ea'
        cases ea'
        cases z with
        | int z =>
          cases r2
          have h4 : (match VE.ixN xs.length z with | some j => pure (Fl.nx, env.set i (.ow false (xs.set j y))) | none => fail : M (Fl × En)) w2 = some ((fl, env'), w') := h4
          cases hj : VE.ixN xs.length z with
          | none => rw [hj] at h4; cases h4
          | some j =>
            rw [hj] at h4
            obtain ⟨e, rfl⟩ := pure_get h4
            cases e
            refine ⟨a, vs', z, j, rfl, rfl, ha', by rw [ra'.length]; exact hj, ?_⟩
            obtain ⟨I3, E3⟩ := I2.mut (ys := xs.set j y) (us := vs'.set j v) qq ea rfl (ra'.set j (r1.keep k2))
            exact F σ _ I3 ((Eff.of_keep I (env1 := env) (σ1 := σ) (k1.trans k2) fun _ h => h).trans E3)
        | _ => cases h4
      | _ => cases h4⟩
end
end VE

namespace VE
open PySem PySem.Spec L2
open PyProof.Rows hiding St
/-! ### loops -/
section
variable {X : Cx} {K : PySem.W.Frag} {m : Bool} {tg iter c : Expr} {body : List Stmt} {wi : TI} {fi : IF} {gt : TG} {ft : GF} {tt : TT} {fT : TF} {tb : TS} {fb : SF} {vs : List Nat} {pos : Pos}
theorem for_core {J : It} {xs : List PyData} {g1 : Gh K} {env envF : En} {w1 wF : W} {σ : SS} {H1 : Hp} {D : Ends} {fl : Fl} (pg : VwG K vs gt ft) (pb : VwS K tb fb) (I1 : StOk g1 env w1 σ H1) (wk : Wk K (av g1 true env σ) (av g1 true env σ) J xs H1)
    (h2 : sFor.go ft fb xs env w1 = some ((fl, envF), wF)) (F1 : Fin g1 env σ H1 D fl envF wF) : tFor (fun _ H R => R J H) gt tb D σ H1 := by
  have hK : True := trivial
  refine ⟨fun i n σ' H' => n = xs.length - i ∧ i ≤ xs.length ∧ ∃ (g2 : Gh K) (ei : En) (wi : W), StOk g2 ei wi σ' H' ∧ Eff g1 g2 env σ H1 ei σ' H' ∧ sFor.go ft fb (xs.drop i) ei wi = some ((fl, envF), wF), ⟨xs.length, by simp, Nat.zero_le _, g1, env, w1, I1, Eff.refl, by rw [List.drop_zero]; exact h2⟩, ?_⟩
  rintro i n σ2 H2 ⟨rfl, hi, g2, ei, wi, I2, E2, hc⟩
  have stay : KeepA (av g1 true env σ) H1 H2 := ⟨fun a o n e => E2.at_ a o (fun z => n (av_z z)) (fun z => n (.inr ⟨rfl, z⟩)) e, E2.live⟩
  obtain ⟨walk, stop⟩ := wk H2 stay
  by_cases hlt : i < xs.length
  · right
    obtain ⟨go, yl⟩ := walk i xs[i] (List.getElem?_eq_getElem hlt)
    have hdrop : xs.drop i = xs[i] :: xs.drop (i + 1) := List.drop_eq_getElem_cons hlt
    rw [hdrop] at hc
    unfold sFor.go at hc
    obtain ⟨env1, w3, h5, h6⟩ := bind_some.mp hc
    obtain ⟨e5, rfl⟩ := lift_get h5
    obtain ⟨⟨fl2, env2⟩, w4, h7, h8⟩ := bind_some.mp h6
    refine ⟨go, fun σ' H' => ∃ m', m' < xs.length - i ∧ (m' = xs.length - (i + 1) ∧ i + 1 ≤ xs.length ∧ ∃ (g2 : Gh K) (ei : En) (wi : W), StOk g2 ei wi σ' H' ∧ Eff g1 g2 env σ H1 ei σ' H' ∧ sFor.go ft fb (xs.drop (i + 1)) ei wi = some ((fl, envF), wF)), fun _ _ h => h, fun v H3 y => ?_⟩
    obtain ⟨sm, rv⟩ := yl v H3 y
    have k3 : Keep g2 g2 H2 H3 := Keep.of_same sm
    have I3 := I2.step k3 (I2.same sm)
    have rv' : Rep K (av g2 true ei σ2) H3 v xs[i] := rv.mon (fun _ _ _ e => e) fun a h => by
      rcases h with h | ⟨_, h⟩
      · exact (E2.t2 a h).imp .inl fun q => ⟨q.1, I2.live a h⟩
      · rcases E2.own a h with z | z
        · exact .inl (.inr ⟨rfl, z⟩)
        · exact .inr ⟨z, I2.owLive h⟩
    refine pg g2 ei _ σ2 H3 v xs[i] env1 _ hK I3 rv' e5 fun σ4 I4 o4 _ _ => ?_
    have E4 : Eff g1 g2 env σ H1 env1 σ4 H3 := E2.trans (Eff.of_keep I2 k3 o4)
    refine pb g2 env1 _ σ4 H3 _ fl2 env2 w4 hK I4 h7 ?_
    cases fl2 with
    | nx => exact fun σ' H' I' E' => ⟨xs.length - (i + 1), by omega, rfl, hlt, _, env2, w4, I', E4.trans E', h8⟩
    | ct => exact fun σ' H' I' E' => ⟨xs.length - (i + 1), by omega, rfl, hlt, _, env2, w4, I', E4.trans E', h8⟩
    | bk =>
      obtain ⟨e, rfl⟩ := pure_get h8
      cases e
      exact fun σ' H' I' E' => F1 σ' H' I' (E4.trans E')
    | rt x =>
      obtain ⟨e, rfl⟩ := pure_get h8
      cases e
      exact F1.after (D := D) E4
  · left
    have e : i = xs.length := by omega
    subst e
    rw [List.drop_length] at hc
    unfold sFor.go at hc
    obtain ⟨e, rfl⟩ := pure_get hc
    cases e
    exact ⟨stop, F1 σ2 H2 I2 E2⟩
theorem vw_for (pi : VwI K true wi fi) (pg : VwG K vs gt ft) (pb : VwS K tb fb) : VwS K (tFor wi gt tb) (sFor fi ft fb) := fun g env w σ H D fl envF wF hK I hf F => by
  obtain ⟨xs, w1, h1, h2⟩ := bind_some.mp hf
  refine pi _ env w σ H _ xs _ hK I h1 fun {g1} J H1 k1 d1 wk => ?_
  exact for_core pg pb (I.step k1 d1) wk h2 (F.after (Eff.of_keep I (env1 := env) (σ1 := σ) k1 fun _ h => h))
theorem psv_for (hc : X.calm = true) (hi : PIV X true tg iter wi fi) (hg : PGV X tg vs gt ft) (hb : PSsV X body tb fb) (hp : PassesOwn (model X.prog X.w) X.A X.env X.xe)
    (hs : ∀ x, foldedSetIterable iter X.env x = pure x) : PSV X (.For tg iter body [] pos) (tFor wi gt tb) (sFor fi ft fb) :=
  ⟨ps_for hp hc hi.pe hg.pe hb.pe hs, vw_for hi.vw hg.vw hb.vw⟩
theorem vw_while (n : Nat) (pt : VwT K tt fT) (pb : VwS K tb fb) : VwS K (tWhile tt tb) (sWhile n fT fb) := fun g env w σ H D fl envF wF hK I hf F => by
  refine ⟨fun n σ' H' => ∃ (g2 : Gh K) (ei : En) (wi : W), StOk g2 ei wi σ' H' ∧ Eff g g2 env σ H ei σ' H' ∧ sWhile.go fT fb n ei wi = some ((fl, envF), wF), ⟨n, g, env, w, I, Eff.refl, hf⟩, ?_⟩
  rintro n σ2 H2 ⟨g2, ei, wi, I2, E2, hc⟩
  cases n with
  | zero => cases hc
  | succ n =>
    unfold sWhile.go at hc
    obtain ⟨b, w1, h1, h2⟩ := bind_some.mp hc
    refine pt g2 ei wi σ2 H2 _ b _ hK I2 h1 fun {g3} H3 k3 d3 => ?_
    have I3 := I2.step k3 d3
    have E3 : Eff g g3 env σ H ei σ2 H3 := E2.trans (Eff.of_keep I2 k3 fun _ h => h)
    cases b with
    | false =>
      rw [if_neg Bool.false_ne_true] at h2
      rw [if_neg Bool.false_ne_true]
      obtain ⟨e, rfl⟩ := pure_get h2
      cases e
      exact F σ2 H3 I3 E3
    | true =>
      rw [if_pos rfl] at h2
      rw [if_pos rfl]
      obtain ⟨⟨fl2, env2⟩, w4, h7, h8⟩ := bind_some.mp h2
      refine ⟨fun σ' H' => ∃ m', m' < n + 1 ∧ ∃ (g2 : Gh K) (ei : En) (wi : W), StOk g2 ei wi σ' H' ∧ Eff g g2 env σ H ei σ' H' ∧ sWhile.go fT fb m' ei wi = some ((fl, envF), wF), fun _ _ h => h, ?_⟩
      refine pb g3 ei w1 σ2 H3 _ fl2 env2 w4 hK I3 h7 ?_
      cases fl2 with
      | nx => exact fun σ' H' I' E' => ⟨n, Nat.lt_succ_self _, _, env2, w4, I', E3.trans E', h8⟩
      | ct => exact fun σ' H' I' E' => ⟨n, Nat.lt_succ_self _, _, env2, w4, I', E3.trans E', h8⟩
      | bk =>
        obtain ⟨e, rfl⟩ := pure_get h8
        cases e
        exact fun σ' H' I' E' => F σ' H' I' (E3.trans E')
      | rt x =>
        obtain ⟨e, rfl⟩ := pure_get h8
        cases e
        exact F.after (D := D) E3
theorem psv_while {n : Nat} (hc : PTV X c tt fT) (hb : PSsV X body tb fb) (hp : PassesOwn (model X.prog X.w) X.A X.env X.xe) : PSV X (.While c body [] pos) (tWhile tt tb) (sWhile n fT fb) :=
  ⟨ps_while hp hc.pe hb.pe, vw_while n hc.vw hb.vw⟩
end

/-! ### a def -/
theorem start_get {N : List Str} {vs : List V} {i : Nat} {v : V} (h : vs[i]? = some v) : (L2.start N vs)[i]? = some (some v) := by
  unfold L2.start
  have hl := (List.getElem?_eq_some_iff.mp h).1
  rw [List.getElem?_append_left (by rw [List.length_map]; exact hl), List.getElem?_map, h]
  rfl
theorem stok_start {K : PySem.W.Frag} {T : Addr → Prop} {H : Hp} {vs : List V} {xs : List PyData} {N : List Str} {nl : Nat} (lv : ∀ a, T a → H a ≠ none) (r : Reps K T H vs xs) (hN : N.length - vs.length = nl) :
    StOk (K := K) { Z0 := fun _ => False, T := T, H0 := H, sd := 0, sc := 0, wd := 0, kd := 0, nt := none, one := fun h => (nomatch h), dr0 := fun _ _ _ => True, zt0 := fun _ h => h.elim, ztn := fun _ e => (nomatch e), dj := fun _ e => (nomatch e), ntc := fun _ e => (nomatch e), drk0 := fun _ _ _ _ _ _ => trivial } (xs.map Slot.sh ++ List.replicate nl Slot.no) W0 (L2.start N vs) H := by
  have slot : ∀ (i : Nat) s, (xs.map Slot.sh ++ List.replicate nl Slot.no)[i]? = some s → (∃ x, s = .sh x ∧ xs[i]? = some x) ∨ s = .no := fun i s h => by
    by_cases hi : i < xs.length
    · rw [List.getElem?_append_left (by rw [List.length_map]; exact hi), List.getElem?_map] at h
      cases q : xs[i]? with
      | none => rw [q] at h; cases h
      | some x => rw [q] at h; exact .inl ⟨x, (Option.some.inj h).symm, rfl⟩
    · rw [List.getElem?_append_right (by rw [List.length_map]; omega)] at h
      exact .inr (List.eq_of_mem_replicate (List.mem_of_getElem? h))
  have noown : ∀ a, ¬ ownA (xs.map Slot.sh ++ List.replicate nl Slot.no) (L2.start N vs) a := fun a ⟨i, b, ys, h, _⟩ => by
    rcases slot i _ h with ⟨x, e, _⟩ | e <;> cases e
  refine ⟨?_, fun i x h => ?_, fun i b ys h => ?_, fun i kk h => ?_, fun i ns h => ?_, fun i j b c ys zs a h _ _ _ => ?_, lv, KeepA.refl _ _, trivial, rfl⟩
  · unfold L2.start
    rw [List.length_append, List.length_append, List.length_map, List.length_map, List.length_replicate, List.length_replicate, r.length]
    rw [r.length] at hN
    omega
  · rcases slot i _ h with ⟨x', e, hx⟩ | e
    · cases e
      obtain ⟨v, hv, rv⟩ := r.get hx
      exact ⟨v, start_get hv, rv.mon (fun _ _ _ e => e) fun a z => z.elim id fun z => (noown a z.2).elim⟩
    · cases e
  · rcases slot i _ h with ⟨x, e, _⟩ | e <;> cases e
  · rcases slot i _ h with ⟨x, e, _⟩ | e <;> cases e
  · rcases slot i _ h with ⟨x, e, _⟩ | e <;> cases e
  · rcases slot i _ h with ⟨x, e, _⟩ | e <;> cases e
theorem runDef_get {np nl : Nat} {body : SF} {xs : List PyData} {y : PyData} (h : runDef np nl body xs = some y) :
    xs.length = np ∧ ∃ fl env' w', body (xs.map .sh ++ List.replicate nl .no) W0 = some ((fl, env'), w') ∧ (fl = .rt y ∨ (fl = .nx ∧ y = .none)) := by
  unfold runDef at h
  split at h
  · rename_i hl
    refine ⟨hl, ?_⟩
    split at h
    · rename_i v env' w' e
      cases h
      exact ⟨_, env', w', e, .inl rfl⟩
    · rename_i env' w' e
      cases h
      exact ⟨_, env', w', e, .inr ⟨rfl, rfl⟩⟩
    · cases h
  · cases h
section
variable {P : Program} {w : World} {K : PySem.W.Frag} {mg : Str → Option Value} {base : Heap}
/-- a def keeps the promise that its mirror makes -/
theorem fn_def {x qual : Str} {st : Stmt} {f : Addr} {fd : FuncData} {N ps : List Str} {k : Nat} {np nl : Nat} {fb : SF} (F : Fun K x qual st f fd) (S : FnScope N ps (defScope st)) (hnp : ps.length = np) (hnl : N.length - np = nl)
    (hb : ∀ (cdv : Value) (A : Around) (outer : List Env) (s : Shared) (H : Hp) (E : XK), Room k (A.deeper (envOfC qual (defScope st) s.heap.objs.size f cdv)) → ∃ t, PSsV (cxOf CX0 P w K mg base N qual (defScope st) f cdv A outer s H E).nox (defBody st) t fb) :
    FnOk P w K mg base CX0 (k + 1) f fd ps (vsp K (runDef np nl fb)) := by
  refine F.ok S (fun vs H Q E h => ?_) (fun cdv A outer s H vs Q E hr h => ?_)
  · obtain ⟨T, xs, y, _, r, hF, _⟩ := h
    rw [r.length, (runDef_get hF).1, hnp]
  · obtain ⟨t, p⟩ := hb cdv A outer s H E hr
    obtain ⟨T, xs, y, lv, r, hF, q⟩ := h
    obtain ⟨hl, fl, env', w', e, hfl⟩ := runDef_get hF
    refine ⟨t, p.pe, ?_⟩
    refine p.vw _ _ _ (L2.start N vs) H _ fl env' w' ?_ (stok_start lv r (by rw [r.length, hl]; exact hnl)) e ?_
    · trivial
    rcases hfl with rfl | ⟨rfl, rfl⟩
    · exact fun v H' k _ rv => q v H' (fun a o e => k.at_ a o (fun z => z.elim id fun ⟨n, e, _⟩ => nomatch e) e) (rv.mon (fun _ _ _ e => e) k.t1)
    · exact fun σ' H' I' E' => q .non H' (fun a o e => I'.keep.at_ a o (fun z => (E'.z2 a z).elim (fun z => z.elim id fun ⟨n, e, _⟩ => nomatch e) fun q => by rw [q.1] at e; cases e) (by rw [E'.h0]; exact e)) .non
theorem cal_mk {x : Str} {f : Addr} {fd : FuncData} {ps : List Str} {k : Nat} {F : List PyData → Option PyData} (G : FnOk P w K mg base CX0 k f fd ps (vsp K F)) (hm : mg x = some (.ref f)) (hk : PySem.W.keepIn K (.ref f) = true) (hb : Binds K fd ps []) : Cal P w K mg base x k F := ⟨f, fd, ps, G, hm, hk, hb⟩
theorem Cal.mono {x : Str} {k j : Nat} {F : List PyData → Option PyData} (c : Cal P w K mg base x k F) (h : k ≤ j) : Cal P w K mg base x j F := by
  obtain ⟨f, fd, ps, G, a⟩ := c.ex
  exact ⟨f, fd, ps, G.mono h, a⟩
end
end VE

namespace VE
open PySem
/-! the first lines of _law_state -/
def stateB1 : SF := sOwn 1 (xComp [2] (iLst (xAs (xCutZ 0 oNo (oSome (xC (.int 63)))))) (gNm 2) tYesF (xCall fAbs (xCons (xVar 2) xNil)))
def stateB2 : SF := sIf (xTest (xOp fEq (xCall fLen (xCons (xVarO 1) xNil)) (xC (.int 0)))) (sOwn 1 (xLst (xCons (xC (.int 0)) xNil))) sPass
theorem state_comp (ns : List Int) (env : En) (a b : Slot) (he : env = [.fz ns, a, .no]) : ∀ xs : List Int, compL (gNm 2) tYesF (xCall fAbs (xCons (xVar 2) xNil)) env (xs.map .int) = pure ((xs.map fun i => if i < 0 then -i else i).map .int)
  | [] => rfl
  | x :: r => by
    subst he
    rw [List.map_cons, compL, state_comp ns _ a b rfl r]
    rfl
theorem cut63 (ns : List Int) : cut (ns.map PyData.int) none (some 63) = (ns.take 63).map PyData.int := by
  have e : cut (ns.map PyData.int) none (some 63) = ((ns.map PyData.int).drop 0).take (min 63 (ns.map PyData.int).length - 0) := rfl
  rw [e, List.drop_zero, Nat.sub_zero, List.length_map]
  by_cases h : ns.length ≤ 63
  · rw [Nat.min_eq_right h, List.take_of_length_le (by rw [List.length_map]; exact Nat.le_refl _), List.take_of_length_le h]
  · rw [Nat.min_eq_left (by omega), List.map_take]
theorem stt_bind {α β : Type} (a : α) (k : α → M β) : ((pure a : M α) >>= k) = k a := pure_bind a k
theorem state_run (ns : List Int) : (sSeq stateB1 stateB2) [.fz ns, .no, .no] = pure (.nx, [.fz ns, .ow false ((stateCells ns).map .int), .no]) := by
  have h1 : stateB1 [.fz ns, .no, .no] = pure (.nx, [.fz ns, .ow false (((ns.take 63).map fun i => if i < 0 then -i else i).map .int), .no]) := by
    have e0 : (iLst (xAs (xCutZ 0 oNo (oSome (xC (.int 63)))))) [.fz ns, .no, .no] = pure (cut (ns.map PyData.int) none (some 63)) := rfl
    have hl : ((ns.take 63).map PyData.int).length ≤ line := by
      rw [List.length_map, List.length_take]
      exact Nat.le_trans (Nat.min_le_left _ _) (by decide)
    unfold stateB1 sOwn xComp
    simp only [e0, stt_bind, cut63]
    have ew : wipeE [Slot.fz ns, .no, .no] [2] = some [.fz ns, .no, .no] := rfl
    rw [ew]
    simp only [lift_some, stt_bind, if_pos hl, state_comp ns [.fz ns, .no, .no] .no .no rfl]
    rfl
  unfold sSeq
  simp only [h1, stt_bind]
  unfold stateB2 sIf
  generalize hc : (ns.take 63).map (fun i => if i < 0 then -i else i) = c
  have ec : stateCells ns = if c.length = 0 then [0] else c := by unfold stateCells; rw [hc]
  rw [ec]
  cases c with
  | nil => rfl
  | cons x r =>
    have et : (xTest (xOp fEq (xCall fLen (xCons (xVarO 1) xNil)) (xC (.int 0)))) [.fz ns, .ow false ((x :: r).map .int), .no] = pure false := by
      have : (xOp fEq (xCall fLen (xCons (xVarO 1) xNil)) (xC (.int 0))) [.fz ns, .ow false ((x :: r).map .int), .no] = lift (fEq (.int ((x :: r).map PyData.int).length) (.int 0)) := rfl
      unfold xTest
      rw [this]
      have e2 : fEq (.int ((x :: r).map PyData.int).length) (.int 0) = some (.bool false) := by
        unfold fEq
        have s1 : (shp (.int ((x :: r).map PyData.int).length) && shp (.int 0)) = true := rfl
        rw [if_pos s1]
        have : PyData.eqv (.int ((x :: r).map PyData.int).length) (.int 0) = decide ((((x :: r).map PyData.int).length : Int) = 0) := by
          unfold PyData.eqv
          exact Bool.beq_eq_decide_eq _ _
        rw [this, decide_eq_false]
        rw [List.length_map, List.length_cons]
        omega
      rw [e2]
      rfl
    rw [if_neg (by rw [List.length_cons]; omega)]
    simp only [et, stt_bind]
    rfl
end VE

namespace VE
open PySem PySem.Spec L2
open PyProof.Rows hiding St
/-! ### the law's draws: _law_take(state, most) -/
def spTake (K : PySem.W.Frag) : Sp := fun vs H Q _ => ∃ (D C : Addr) (w : W) (most r : Int) (w' : W), vs = [.ref D, .int most] ∧ D ≠ C ∧ H D = some (.lst [.int w.pos, .ref C]) ∧ H C = some (.lst (w.cells.map V.int)) ∧
  takeW most w = some (r, w') ∧ ∀ H', (∀ a o, a ≠ D → a ≠ C → H a = some o → H' a = some o) → (∀ a, H a ≠ none → H' a ≠ none) → H' D = some (.lst [.int w'.pos, .ref C]) → H' C = some (.lst (w'.cells.map V.int)) → Q (.int r) H'
structure CalT (P : Program) (w : World) (K : PySem.W.Frag) (mg : Str → Option Value) (base : Heap) (x : Str) (k : Nat) : Prop where
  ex : ∃ (f : Addr) (fd : FuncData), FnOk P w K mg base CX0 k f fd ["state", "most"] (spTake K) ∧ mg x = some (.ref f) ∧ PySem.W.keepIn K (.ref f) = true ∧ Binds K fd ["state", "most"] []
theorem takeW_len {most : Int} {w w' : W} {r : Int} (h : takeW most w = some (r, w')) : w'.cells.length = w.cells.length := by
  unfold takeW at h
  split at h
  · dsimp only at h
    split at h
    · cases h
    · split at h
      · cases h; simp
      · cases h; rfl
  · cases h
theorem takeW_ob {most : Int} {w w' : W} {r : Int} (h : takeW most w = some (r, w')) : w'.ob = w.ob := by
  unfold takeW at h
  split at h
  · dsimp only at h
    split at h
    · cases h
    · split at h
      · cases h; rfl
      · cases h; rfl
  · cases h
section
variable {X : Cx} {m : Bool} {i : Nat} {ta : TE} {f : EF} {e : Expr} {pos p px : Pos} {K : PySem.W.Frag}
theorem pv_take {x y : Str} {n : Nat} {KK : PySem.W.Frag} (hKK : X.K = KK) (c : CalT X.prog X.w X.K X.mg X.base x n) (hr : Room n X.A) (q : PV X false e ta f) (hN : X.N[i]? = some y) (hv : visB X.env.scope y = true) (hd : dunB y = true) (hg : Gl X x) (hdb : (x == ("__debug__" : Str)) = false)
    (hst : starEach [e] X.env = (false, eval e X.env) :: starEach [] X.env) (he : starEach [.Name y px, e] X.env = (false, eval (.Name y px) X.env) :: starEach [e] X.env) (hpl : (backTo pos (starEach [e] X.env)).any (·.1) = false) :
    PV X m (.Call (.Name x p) [.Name y px, e] [] pos) (tCall (spTake KK) [] E0 (tCons (tVar i) (tCons ta tNil))) (xTake i f) := by
  subst hKK
  obtain ⟨fa, fd, G, mgf, kp, bi⟩ := c.ex
  refine ⟨pe_call G hr hg mgf kp bi .nil pass0 (pa_cons (pe_var hN (vis_of hv) (dun1 hd) (dun2 hd)) (pa_cons q.pe pa_nil hst) he) hdb he hpl, fun g env w σ H Q x w' hK I hf k => ?_⟩
  obtain ⟨z, w1, h1, h2⟩ := bind_some.mp hf
  cases es : env[i]? with
  | none => rw [es] at h2; cases h2
  | some s =>
    rw [es] at h2
    cases s with
    | st kk =>
      by_cases hk : kk = 1
      · subst hk
        cases z with
        | int most =>
          obtain ⟨r, w2, h3, h4⟩ := bind_some.mp (show (takeW most >>= fun r => pure (PyData.int r)) w1 = some (x, w') from h2)
          obtain ⟨rfl, rfl⟩ := pure_get h4
          obtain ⟨eσ, ek⟩ := (I.st i 1 es).1 (by decide) (by decide)
          refine ⟨_, eσ, ?_⟩
          refine q.vw _ env w σ H _ _ _ hK I h1 fun {g1} v H1 k1 d1 r1 => ?_
          cases r1
          obtain ⟨hZd, hZc, hne, hdr, hfr⟩ := g1.one (k1.kd.trans ek)
          obtain ⟨eD, eC⟩ := hdr _ _ _ d1.1
          refine ⟨g1.sd, g1.sc, w1, most, r, _, by rw [k1.sd]; rfl, hne, eD, eC, h3, fun H' hs hl e1 e2 => ?_⟩
          have I1 := I.step k1 d1
          refine k _ H' (k1.trans ⟨fun a o n ea => hs a o (fun z => n (.inl (z ▸ hZd))) (fun z => n (.inl (z ▸ hZc))) ea, hl, fun _ t => t, fun _ t => .inl t, fun _ t => t, fun _ t => .inl t, rfl, rfl, rfl, rfl, NtLe.refl _⟩) ⟨hfr _ _ _ _ _ _ d1.1 (fun a z n1 n2 => ?_) e1 e2, by
            rw [takeW_ob h3]
            refine d1.2.frame fun n en a q => ?_
            have z0 := g1.dj n en a q
            cases ea : H1 a with
            | none => exact absurd ea (I1.live a (g1.ztn n en a q))
            | some o => exact hs a o (fun z => z0 (z ▸ hZd)) (fun z => z0 (z ▸ hZc)) ea⟩ (.int _)
          cases ea : H1 a with
          | none => exact absurd ea (I1.live a (g1.zt0 a z))
          | some o => exact hs a o n1 n2 ea
        | _ => cases h2
      · exfalso
        cases kk with
        | zero => cases z <;> cases h2
        | succ k =>
          cases k with
          | zero => exact hk rfl
          | succ k => cases z <;> cases h2
    | _ => cases h2
end

/-- the script cut, a new list -/
theorem plv_cutZ {X : Cx} {m : Bool} {i : Nat} {px pos p2 : Pos} {x : Str} {lo hi : Option Expr} {tl th : TO} {fl fh : OF} {KK : PySem.W.Frag} (hKK : X.K = KK) (hN : X.N[i]? = some x) (hv : visB X.env.scope x = true) (hd : dunB x = true) (ql : POV X lo tl fl) (qh : POV X hi th fh) :
    PLV X m (.Subscript (.Name x px) (.Slice lo hi none p2) pos) (tSl (rSlL KK) (tVar i) tl th) (xCutZ i fl fh) := by
  subst hKK
  refine ⟨pe_slice sl_list (pe_var hN (vis_of hv) (dun1 hd) (dun2 hd)) ql.pe qh.pe, fun g env w σ H Q x w' hK I hf k => ?_⟩
  obtain ⟨l, w2, h3, h4⟩ := bind_some.mp hf
  obtain ⟨u, w3, h5, h6⟩ := bind_some.mp h4
  cases es : env[i]? with
  | none => rw [es] at h6; cases h6
  | some s =>
    rw [es] at h6
    cases s with
    | fz ns =>
      obtain ⟨rfl, rfl⟩ := pure_get h6
      obtain ⟨a, ea, _⟩ := I.fz i ns es
      refine ⟨_, ea, ?_⟩
      refine ql.vw _ env _ σ H _ l _ hK I h3 fun H2 k2 d2 => ?_
      refine qh.vw _ env _ σ H2 _ u _ hK (I.step k2 d2) h5 fun H3 k3 d3 => ?_
      have I3 := (I.step k2 d2).step k3 d3
      obtain ⟨a', ea', la⟩ := I3.fz i ns es
      rw [ea] at ea'
      cases ea'
      refine ⟨_, _, rfl, la.sq, fun q hq => ?_⟩
      obtain ⟨k4, d4⟩ := I3.new (o := .lst (cutV (ns.map V.int) l u)) hq
      refine k q _ _ ?_ ((k2.trans k3).trans k4) d4 upd_same (cut_rep l u (Reps.ints_map ns))
      exact newAt I3 (k2.trans k3) hq
    | _ => cases h6
/-- _law_state(script): a new list of 0 and a new list of cells -/
def spState (K : PySem.W.Frag) : Sp := fun vs H Q _ => ∃ (a : Addr) (ns : List Int), vs = [.ref a] ∧ SqL K H a (ns.map V.int) ∧ ns.length ≤ 63 ∧
  ∀ H' D C, Same H H' → H D = none → H C = none → D ≠ C → H' D = some (.lst [.int 0, .ref C]) → H' C = some (.lst ((stateCells ns).map V.int)) → Q (.ref D) H'
structure CalS (P : Program) (w : World) (K : PySem.W.Frag) (mg : Str → Option Value) (base : Heap) (x : Str) (k : Nat) : Prop where
  ex : ∃ (f : Addr) (fd : FuncData), FnOk P w K mg base CX0 k f fd ["script"] (spState K) ∧ mg x = some (.ref f) ∧ PySem.W.keepIn K (.ref f) = true ∧ Binds K fd ["script"] []
/-- a law's promise -/
def spLaw (K : PySem.W.Frag) : Sp := fun vs H Q _ => ∃ (a : Addr) (ns : List Int), vs = [.ref a] ∧ SqL K H a (ns.map V.int) ∧ ns.length ≤ 63 ∧ ∀ H', Q (.bl true) H'
end VE

namespace VE
open PySem PySem.Spec L2
open PyProof.Rows hiding St
section
variable {P : Program} {w : World} {K : PySem.W.Frag} {mg : Str → Option Value} {base : Heap}
theorem lstAt_of {K : PySem.W.Frag} {T : Addr → Prop} {H : Hp} {a : Addr} {vs : List V} (h : SqL K H a vs) (n : ∀ o, H a = some o → ¬ T a) : LstAt K T H a vs := by
  rcases h with h | h
  · rcases h with h | ⟨o, h⟩
    · exact .inl ⟨n _ h, .inl h⟩
    · exact .inl ⟨n _ h, .inr ⟨o, h⟩⟩
  · exact .inr h
/-- _law_state: its two first lines by the layer, its return by hand -/
theorem state_ok {f : Addr} {fd : FuncData} {st s1 s2 s3 : Stmt} (F : Fun K "_law_state" "_law_state" st f fd) (S : FnScope ["script", "cells", "cell"] ["script"] (defScope st)) (hb : defBody st = [s1, s2, s3])
    (h1 : ∀ (cdv : Value) (A : Around) (outer : List Env) (s : Shared) (H : Hp) (E : XK), Room 0 (A.deeper (envOfC "_law_state" (defScope st) s.heap.objs.size f cdv)) → ∃ t1 t2, PSV (cxOf CX0 P w K mg base ["script", "cells", "cell"] "_law_state" (defScope st) f cdv A outer s H E).nox s1 t1 stateB1 ∧ PSV (cxOf CX0 P w K mg base ["script", "cells", "cell"] "_law_state" (defScope st) f cdv A outer s H E).nox s2 t2 stateB2 ∧
      PS (cxOf CX0 P w K mg base ["script", "cells", "cell"] "_law_state" (defScope st) f cdv A outer s H E).nox s3 (tRet (tLst (tCons (tC (.int 0)) (tCons (tVar 1) tNil))))) :
    FnOk P w K mg base CX0 1 f fd ["script"] (spState K) := by
  refine F.ok S (fun vs H Q E h => ?_) (fun cdv A outer s H vs Q E hr h => ?_)
  · obtain ⟨_, _, rfl, _⟩ := h; rfl
  obtain ⟨t1, t2, p1, p2, p3⟩ := h1 cdv A outer s H E hr
  obtain ⟨a, ns, rfl, hS, hl, q⟩ := h
  rw [hb]
  refine ⟨_, pss_cons p1.pe (pss_cons p2.pe (pss_one p3)), ?_⟩
  have run := congrFun (state_run ns) W0
  have run : (sSeq stateB1 stateB2) [.fz ns, .no, .no] W0 = some ((.nx, [.fz ns, .ow false ((stateCells ns).map .int), .no]), W0) := run
  obtain ⟨⟨fl1, env1⟩, w1, r1, r2⟩ := bind_some.mp run
  generalize hg : ({ Z0 := fun _ => False, T := fun _ => False, H0 := H, sd := 0, sc := 0, wd := 0, kd := 0, nt := none, one := fun h => (nomatch h), dr0 := fun _ _ _ => True, zt0 := fun _ h => h.elim, ztn := fun _ e => (nomatch e), dj := fun _ e => (nomatch e), ntc := fun _ e => (nomatch e), drk0 := fun _ _ _ _ _ _ => trivial } : Gh K) = g
  have gK : True := trivial
  have gH : g.H0 = H := by rw [← hg]
  have gZ : ∀ a, ¬ g.Z a := by intro a z; rw [← hg] at z; exact z.elim id fun ⟨n, e, _⟩ => nomatch e
  have I0 : StOk g [.fz ns, .no, .no] W0 [some (.ref a), none, none] H := by
    subst hg
    refine ⟨rfl, fun i x h => ?_, fun i _ xs h => ?_, fun i k h => ?_, fun i ms h => ?_, fun i j _ _ xs ys b h => ?_, fun _ h => h.elim, KeepA.refl _ _, trivial, rfl⟩
    · rcases i with _ | _ | _ | i <;> simp at h
    · rcases i with _ | _ | _ | i <;> simp at h
    · rcases i with _ | _ | _ | i <;> simp at h
    · rcases i with _ | _ | _ | i <;> simp at h
      subst h
      refine ⟨a, rfl, lstAt_of hS fun o _ z => ?_⟩
      rcases z with z | ⟨_, j, _, xs, z, _⟩
      · exact z
      · rcases j with _ | _ | _ | j <;> simp at z
    · rcases i with _ | _ | _ | i <;> simp at h
  refine p1.vw g _ _ [some (.ref a), none, none] H _ fl1 env1 w1 gK I0 r1 ?_
  cases fl1 with
  | nx =>
    intro g1 σ1 H1 I1 E1
    refine p2.vw g1 env1 w1 σ1 H1 _ .nx _ W0 gK I1 r2 ?_
    intro g2 σ2 H2 I2 E2
    have EE := E1.trans E2
    obtain ⟨C, us, eC, hC, ru, nC, _⟩ := I2.owL 1 _ rfl
    have eu : us = (stateCells ns).map V.int := by
      have hi : asInts ((stateCells ns).map PyData.int) = some (stateCells ns) := by
        generalize stateCells ns = c
        induction c with
        | nil => rfl
        | cons x r ih => rw [List.map_cons, asInts, ih]; rfl
      exact (ru.of_ints hi).1
    subst eu
    refine ⟨_, eC, by show 2 ≤ sizeLine; rw [sizeLine_eq]; decide, fun D hD => ?_⟩
    have sm : Same H H2 := fun b o e => I2.keep.at_ b o (fun z => (EE.z2 b z).elim (gZ b) fun q => by rw [q.1] at e; cases e) (by rw [EE.h0, gH]; exact e)
    have ne : D ≠ C := fun z => by subst z; rw [hD] at hC; cases hC
    refine q _ D C (sm.trans (upd_new hD)) ?_ ?_ ne upd_same (by rw [upd_ne ne.symm]; exact hC)
    · cases z : H D with
      | none => rfl
      | some o => rw [sm D o z] at hD; cases hD
    · rw [← gH, ← EE.h0]; exact nC
  | bk => obtain ⟨e, _⟩ := pure_get r2; cases e
  | ct => obtain ⟨e, _⟩ := pure_get r2; cases e
  | rt x => obtain ⟨e, _⟩ := pure_get r2; cases e
def lawGh (K : PySem.W.Frag) (D C : Addr) (H : Hp) (hne : D ≠ C) : Gh K :=
  { Z0 := fun b => b = D ∨ b = C, T := fun b => b = D ∨ b = C, H0 := H, sd := D, sc := C, wd := 0, kd := 1, nt := none, dr0 := fun p c H => H D = some (.lst [.int p, .ref C]) ∧ H C = some (.lst (c.map V.int)), zt0 := fun _ h => h, ztn := fun _ e => (nomatch e), dj := fun _ e => (nomatch e), ntc := fun _ e => (nomatch e), drk0 := fun p c H1 H2 h e => ⟨by rw [e D (.inl rfl)]; exact h.1, by rw [e C (.inr rfl)]; exact h.2⟩, one := fun _ => ⟨.inl rfl, .inr rfl, hne, fun _ _ _ h => h, fun _ _ _ _ _ _ _ _ h1 h2 => ⟨h1, h2⟩⟩ }
/-- a law that draws by _law_take -/
theorem law_ok {f : Addr} {fd : FuncData} {st s1 : Stmt} {rest : List Stmt} {N : List Str} {k i : Nat} {fb : SF} (F : Fun K "law" "law" st f fd) (S : FnScope N ["script"] (defScope st)) (hb : defBody st = s1 :: rest) (hi : 0 < i ∧ i < N.length)
    (h1 : ∀ (cdv : Value) (A : Around) (outer : List Env) (s : Shared) (H : Hp) (E : XK), Room k (A.deeper (envOfC "law" (defScope st) s.heap.objs.size f cdv)) →
      PS (cxOf CX0 P w K mg base N "law" (defScope st) f cdv A outer s H E).nox s1 (tAsg (tCall (spState K) [] E0 (tCons (tVar 0) tNil)) (gName i)) ∧ ∃ t, PSsV (cxOf CX0 P w K mg base N "law" (defScope st) f cdv A outer s H E).nox rest t fb)
    (run : ∀ ns : List Int, ns.length ≤ 63 → ∃ env' w', fb ((Slot.fz ns :: List.replicate (N.length - 1) Slot.no).set i (.st 1)) ⟨0, stateCells ns, none⟩ = some ((.rt (.bool true), env'), w')) :
    FnOk P w K mg base CX0 (k + 1) f fd ["script"] (spLaw K) := by
  refine F.ok S (fun vs H Q E h => ?_) (fun cdv A outer s H vs Q E hr h => ?_)
  · obtain ⟨_, _, rfl, _⟩ := h; rfl
  obtain ⟨p1, t, p2⟩ := h1 cdv A outer s H E hr
  obtain ⟨a, ns, rfl, hS, hl, q⟩ := h
  rw [hb]
  refine ⟨_, pss_cons p1 p2.pe, ?_⟩
  refine ⟨.ref a, rfl, a, ns, rfl, hS, hl, fun H' D C sm hD hC hne eD eC => ?_⟩
  obtain ⟨env', w', hrun⟩ := run ns hl
  have nD : ∀ o, H a = some o → a ≠ D := fun o e z => by subst z; rw [hD] at e; cases e
  have nC : ∀ o, H a = some o → a ≠ C := fun o e z => by subst z; rw [hC] at e; cases e
  have slot : ∀ (j : Nat) s, ((Slot.fz ns :: List.replicate (N.length - 1) Slot.no).set i (.st 1))[j]? = some s → (j = i ∧ s = .st 1) ∨ (j = 0 ∧ s = .fz ns) ∨ s = .no := fun j s h => by
    rcases set_get h with h | ⟨hj, h⟩
    · exact .inl h
    · cases j with
      | zero => exact .inr (.inl ⟨rfl, by simpa using h.symm⟩)
      | succ j =>
        rw [List.getElem?_cons_succ] at h
        exact .inr (.inr (List.eq_of_mem_replicate (List.mem_of_getElem? h)))
  have hst : L2.start N [.ref a] = some (.ref a) :: List.replicate (N.length - 1) none := rfl
  have noown : ∀ b, ¬ ownA ((Slot.fz ns :: List.replicate (N.length - 1) Slot.no).set i (.st 1)) ((L2.start N [.ref a]).set i (some (.ref D))) b := fun b ⟨j, _, xs, h, _⟩ => by
    rcases slot j _ h with ⟨_, e⟩ | ⟨_, e⟩ | e <;> cases e
  refine p2.vw (lawGh K D C H' hne) _ ⟨0, stateCells ns, none⟩ _ H' _ (.rt (.bool true)) env' w' trivial ?_ hrun ?_
  · refine ⟨?_, fun j x h => ?_, fun j _ xs h => ?_, fun j k h => ?_, fun j ms h => ?_, fun j j2 _ _ xs ys b h => ?_, fun b h => ?_, KeepA.refl _ _, ⟨eD, eC⟩, rfl⟩
    · rw [hst]; simp
    · rcases slot j _ h with ⟨_, e⟩ | ⟨_, e⟩ | e <;> cases e
    · rcases slot j _ h with ⟨_, e⟩ | ⟨_, e⟩ | e <;> cases e
    · rcases slot j _ h with ⟨e1, e⟩ | ⟨_, e⟩ | e
      · cases e
        subst e1
        refine ⟨fun _ _ => ⟨?_, rfl⟩, fun z => (nomatch z), fun z => nomatch z⟩
        rw [List.getElem?_set_self (by rw [hst, List.length_cons, List.length_replicate]; omega)]
        rfl
      · cases e
      · cases e
    · rcases slot j _ h with ⟨_, e⟩ | ⟨e1, e⟩ | e
      · cases e
      · cases e
        subst e1
        refine ⟨a, ?_, (lstAt_of (T := av (lawGh K D C H' hne) true ((Slot.fz ns :: List.replicate (N.length - 1) Slot.no).set i (.st 1)) ((L2.start N [.ref a]).set i (some (.ref D)))) hS fun o e z => ?_).mono (fun b o _ e => sm b o e) fun _ z => z⟩
        · rw [List.getElem?_set_ne (by omega), hst]
          rfl
        · rcases z with (z | z) | ⟨_, z⟩
          · exact nD o e z
          · exact nC o e z
          · exact noown _ z
      · cases e
    · rcases slot j _ h with ⟨_, e⟩ | ⟨_, e⟩ | e <;> cases e
    · rcases h with h | h
      · subst h; rw [eD]; simp
      · subst h; rw [eC]; simp
  · intro g2 v H'' _ _ rv
    cases rv
    exact q H''
end
end VE

namespace VE
open PySem PySem.Spec L2
open PyProof.Rows hiding St
section
variable {X : Cx} {m : Bool} {e a b c tg : Expr} {es elts : List Expr} {ta : TE} {tas : TA} {f : EF} {fs : AF} {p pos tpos : Pos} {kk : Nat} {K : PySem.W.Frag}
/-! ### enumerate, zip -/
theorem zip_at : ∀ {xs ys : List PyData} {i : Nat} {z : PyData}, (zipD xs ys)[i]? = some z → ∃ x y, xs[i]? = some x ∧ ys[i]? = some y ∧ z = .tuple [x, y]
  | [], _, i, z, h => by simp [zipD] at h
  | _ :: _, [], i, z, h => by simp [zipD] at h
  | x :: xs, y :: ys, 0, z, h => by
    simp only [zipD, List.getElem?_cons_zero, Option.some.injEq] at h
    exact ⟨x, y, rfl, rfl, h.symm⟩
  | x :: xs, y :: ys, i + 1, z, h => by
    simp only [zipD, List.getElem?_cons_succ] at h
    simpa using zip_at h
theorem zip_len : ∀ (xs ys : List PyData), (zipD xs ys).length = min xs.length ys.length
  | [], _ => by simp [zipD]
  | _ :: _, [] => by simp [zipD]
  | x :: xs, y :: ys => by simp [zipD, zip_len xs ys]
theorem enum_at : ∀ {xs : List PyData} {n i : Nat} {z : PyData}, (enumD n xs)[i]? = some z → ∃ x, xs[i]? = some x ∧ z = .tuple [.int ((n + i : Nat) : Int), x]
  | [], n, i, z, h => by simp [enumD] at h
  | x :: xs, n, 0, z, h => by
    simp only [enumD, List.getElem?_cons_zero, Option.some.injEq] at h
    exact ⟨x, rfl, h.symm⟩
  | x :: xs, n, i + 1, z, h => by
    simp only [enumD, List.getElem?_cons_succ] at h
    obtain ⟨y, h1, h2⟩ := enum_at h
    exact ⟨y, by simpa using h1, by rw [h2, show n + 1 + i = n + (i + 1) by omega]⟩
theorem enum_len : ∀ (n : Nat) (xs : List PyData), (enumD n xs).length = xs.length
  | n, [] => rfl
  | n, x :: xs => by simp [enumD, enum_len (n + 1) xs]
/-- a new tuple (v, u) at a place that nothing holds -/
theorem rep_new2 {A B : Addr → Prop} {H1 H2 : Hp} {T : Addr} {v u : V} {x y : PyData} (k : KeepA A H1 H2) (lv : ∀ a, B a → H1 a ≠ none) (hT : H2 T = none)
    (r1 : Rep K (fun a => B a ∨ (H1 a = none ∧ H2 a ≠ none)) H2 v x) (r2 : Rep K (fun a => B a ∨ (H1 a = none ∧ H2 a ≠ none)) H2 u y) :
    Same H2 (upd H2 T (.tup [v, u])) ∧ Rep K (fun a => B a ∨ (H1 a = none ∧ H2 a ≠ none)) (upd H2 T (.tup [v, u])) (.ref T) (.tuple [x, y]) := by
  have s : Same H2 (upd H2 T (.tup [v, u])) := fun a o e => upd_new hT a o e
  refine ⟨s, .tup (.inl ⟨fun z => z.elim (fun z => k.live T (lv T z) hT) fun z => z.2 hT, .inl upd_same⟩) ?_⟩
  exact .cons (r1.mon (fun a o _ e => s a o e) fun _ z => z) (.cons (r2.mon (fun a o _ e => s a o e) fun _ z => z) .nil)
theorem wk_zip {A B : Addr → Prop} {H1 : Hp} {p q : Addr} {vs us : List V} {xs ys : List PyData} (ab : ∀ a, A a → B a) (lv : ∀ a, B a → H1 a ≠ none) (n : ¬ A p) (e : H1 p = some (.lst vs)) (r : Reps K B H1 vs xs)
    (n' : ¬ A q) (e' : H1 q = some (.lst us)) (r' : Reps K B H1 us ys) : Wk K A B (Itz K p q) (zipD xs ys) H1 := fun H2 k => by
  have e2 : H2 p = some (.lst vs) := k.at_ p _ n e
  have e3 : H2 q = some (.lst us) := k.at_ q _ n' e'
  have r2 := reps_stay ab k r
  have r3 := reps_stay ab k r'
  refine ⟨fun i z hz => ?_, vs, us, SqL.of e2, SqL.of e3, ?_⟩
  · obtain ⟨x, y, hx, hy, rfl⟩ := zip_at hz
    obtain ⟨v, hv, rv⟩ := r2.get hx
    obtain ⟨u, hu, ru⟩ := r3.get hy
    refine ⟨⟨vs, us, v, u, SqL.of e2, SqL.of e3, hv, hu⟩, fun w H3 yl => ?_⟩
    obtain ⟨T, v', u', rfl, hT, rfl, h1, h2⟩ := yl
    have : v' = v := Option.some.inj ((h1 vs (SqL.of e2)).symm.trans hv)
    subst this
    have : u' = u := Option.some.inj ((h2 us (SqL.of e3)).symm.trans hu)
    subst this
    exact rep_new2 k lv hT rv ru
  · rw [zip_len, ← r.length, ← r'.length]; omega
theorem wk_enum {A B : Addr → Prop} {H1 : Hp} {p : Addr} {vs : List V} {xs : List PyData} (ab : ∀ a, A a → B a) (lv : ∀ a, B a → H1 a ≠ none) (n : ¬ A p) (e : H1 p = some (.lst vs)) (r : Reps K B H1 vs xs) :
    Wk K A B (Ite K p) (enumD 0 xs) H1 := fun H2 k => by
  have e2 : H2 p = some (.lst vs) := k.at_ p _ n e
  have r2 := reps_stay ab k r
  refine ⟨fun i z hz => ?_, vs, SqL.of e2, ?_⟩
  · obtain ⟨x, hx, rfl⟩ := enum_at hz
    rw [Nat.zero_add]
    obtain ⟨v, hv, rv⟩ := r2.get hx
    refine ⟨⟨vs, v, SqL.of e2, hv⟩, fun w H3 yl => ?_⟩
    obtain ⟨T, v', rfl, hT, rfl, h1⟩ := yl
    have : v' = v := Option.some.inj ((h1 vs (SqL.of e2)).symm.trans hv)
    subst this
    exact rep_new2 k lv hT (.int _) rv
  · rw [enum_len, ← r.length]; exact Nat.le_refl _
theorem piv_enum {KK : PySem.W.Frag} (hKK : X.K = KK) (hm : X.mg "enumerate" = none) (q : PAV X true [a] tas fs) (hg : Gl X "enumerate") (hs : starEach [a] X.env = [(false, eval a X.env)]) :
    PIV X m (.Tuple elts kk tpos) (.Call (.Name "enumerate" p) [a] [] pos) (iEnum KK tas) (iEnumV fs) := by
  subst hKK
  exact (show PIV X m (.Tuple elts kk tpos) (.Call (.Name "enumerate" p) [a] [] pos) (iEnum X.K tas) (iEnumV fs) from ⟨pi_enum hg hm q.pe hs, fun g env w σ H R xs w' hK I hf k => by
  obtain ⟨ys, w1, h1, h2⟩ := bind_some.mp hf
  refine q.vw _ env w σ H _ ys _ hK I h1 fun vs H1 k1 d1 r1 => ?_
  have I1 := I.step k1 d1
  split at h2
  · obtain ⟨rfl, rfl⟩ := pure_get h2
    obtain ⟨v, rfl, r⟩ := reps1 r1
    cases r with
    | lst n e r => exact ⟨_, _, rfl, SqL.of e, k _ H1 k1 d1 (wk_enum (fun _ => av_le) (fun a z => I1.avLive z) (fun z => n (av_le z)) e r)⟩
  · cases h2⟩)
theorem piv_zip {KK : PySem.W.Frag} (hKK : X.K = KK) (hm : X.mg "zip" = none) (q : PAV X true [a, b] tas fs) (hg : Gl X "zip") (hs : starEach [a, b] X.env = (false, eval a X.env) :: starEach [b] X.env) (hpl : (backTo pos (starEach [b] X.env)).any (·.1) = false) :
    PIV X m (.Tuple elts kk tpos) (.Call (.Name "zip" p) [a, b] [] pos) (iZip KK tas) (iZipV fs) := by
  subst hKK
  exact (show PIV X m (.Tuple elts kk tpos) (.Call (.Name "zip" p) [a, b] [] pos) (iZip X.K tas) (iZipV fs) from ⟨pi_zip hg hm q.pe hs hpl, fun g env w σ H R xs w' hK I hf k => by
  obtain ⟨ys, w1, h1, h2⟩ := bind_some.mp hf
  refine q.vw _ env w σ H _ ys _ hK I h1 fun vs H1 k1 d1 r1 => ?_
  have I1 := I.step k1 d1
  split at h2
  · obtain ⟨rfl, rfl⟩ := pure_get h2
    obtain ⟨v, u, rfl, r, r'⟩ := reps2 r1
    cases r with
    | lst n e r => cases r' with
      | lst n' e' r' => exact ⟨_, _, _, _, rfl, SqL.of e, SqL.of e', k _ H1 k1 d1 (wk_zip (fun _ => av_le) (fun a z => I1.avLive z) (fun z => n (av_le z)) e r (fun z => n' (av_le z)) e' r')⟩
  · cases h2⟩)
/-! ### x in xs, deep -/
theorem ov_inD : OpV K (rInD K) fInD := fun T H u v x y z Q lv r1 r2 e q => by
  unfold fInD at e
  split at e
  · rename_i ys
    split at e
    · rename_i hc
      rw [Bool.and_eq_true] at hc
      cases e
      exact ⟨x, ys, r1.dp, r2.dp, hc.1, hc.2, q _ H (Same.refl H) (.bl _)⟩
    · cases e
  · cases e
theorem ov_notInD : OpV K (rNotInD K) fNotInD := fun T H u v x y z Q lv r1 r2 e q => by
  unfold fNotInD at e
  split at e
  · rename_i ys
    split at e
    · rename_i hc
      rw [Bool.and_eq_true] at hc
      cases e
      exact ⟨x, ys, r1.dp, r2.dp, hc.1, hc.2, q _ H (Same.refl H) (.bl _)⟩
    · cases e
  · cases e
theorem inD' {KK : PySem.W.Frag} {k : Nat} (hKK : X.K = KK) (hr : Room k X.A) : OpR X (compareOp .In) (rInD KK) := by
  subst hKK
  exact op_inD (by have := hr.un; omega)
theorem notInD' {KK : PySem.W.Frag} {k : Nat} (hKK : X.K = KK) (hr : Room k X.A) : OpR X (compareOp .NotIn) (rNotInD KK) := by
  subst hKK
  exact op_notInD (by have := hr.un; omega)
end
section
variable {P : Program} {w : World} {K : PySem.W.Frag} {mg : Str → Option Value} {base : Heap}
/-- a mirror that tells nothing binds a def to nothing -/
theorem fn_none {x qual : Str} {st : Stmt} {f : Addr} {fd : FuncData} {N ps : List Str} (F : Fun K x qual st f fd) (S : FnScope N ps (defScope st)) : FnOk P w K mg base CX0 1 f fd ps (vsp K fun _ => none) := by
  refine F.ok (k := 0) S (fun vs H Q E h => ?_) (fun cdv A outer s H vs Q E hr h => ?_)
  · obtain ⟨T, xs, y, _, _, hF, _⟩ := h
    cases hF
  · obtain ⟨T, xs, y, _, _, hF, _⟩ := h
    cases hF
end
end VE
namespace VE
open PySem PySem.Spec L2
open PyProof.Rows hiding St
section
variable {X : Cx} {m : Bool} {a : Expr} {ta : TE} {f : EF} {p pos p2 pos2 : Pos} {K : PySem.W.Frag}
theorem reps_rgV {T : Addr → Prop} {H : Hp} (i j : Int) : Reps K T H (rgV i j) (rangeL i j) := by
  unfold rgV rangeL
  induction List.range (j - i).toNat with
  | nil => exact .nil
  | cons x r ih => exact .cons (.int _) ih
theorem plv_listR1 (hc : X.calm = true) (hm : X.mg "list" = none) (hm2 : X.mg "range" = none) (q : PV X m a ta f) (hg : Gl X "list") (hg2 : Gl X "range") (na : starEach [.Call (.Name "range" p2) [a] [] pos2] X.env = (false, eval (.Call (.Name "range" p2) [a] [] pos2) X.env) :: starEach [] X.env) (na2 : starEach [a] X.env = [(false, eval a X.env)]) :
    PLV X m (.Call (.Name "list" p) [.Call (.Name "range" p2) [a] [] pos2] [] pos) (tLstRg (tRg1 ta)) (xListR1 f) := ⟨pe_listRg hc hg hm (prg_1 hg2 hm2 q.pe na2) na, fun g env w σ H Q x w' hK I hf k => by
  obtain ⟨y, w1, h1, h2⟩ := bind_some.mp hf
  refine q.vw _ env w σ H _ y _ hK I h1 fun v H1 k1 d1 r1 => ?_
  split at h2
  · rename_i j
    split at h2
    · rename_i hj
      obtain ⟨rfl, rfl⟩ := pure_get h2
      cases r1
      rw [Bool.and_eq_true, decide_eq_true_eq, decide_eq_true_eq] at hj
      refine ⟨j, rfl, RgOk.of_le (by decide) hj.2 (by decide) hj.1, fun q hq => ?_⟩
      have I1 := I.step k1 d1
      obtain ⟨k2, d2⟩ := I1.new (o := .lst (rgV 0 j)) hq
      refine k q _ _ ?_ (k1.trans k2) d2 upd_same (reps_rgV 0 j)
      exact newAt I1 k1 hq
    · cases h2
  · cases h2⟩
end
end VE
namespace VE
open PySem PySem.Spec L2
open PyProof.Rows hiding St
theorem blkOk_eq {N N' : List Str} {sc sc' scope : Scope} {own : List (Str × Nat)} (h1 : N' = N) (h2 : sc' = sc) (h : blkC N sc scope own = true) : BlkOk N' sc' scope own := by
  subst h1; subst h2
  exact blkOk_by h
end VE

namespace VE
open PySem PySem.Spec L2 PyProof.Rows
abbrev noneS (w : World) : Obj := { cls := .type "set", dict := none, data := .set #[] 0 (.fresh 0 0 (!w.params.followText "set-order")) }
section
variable {P : Program} {w : World} {A : Around} {E : Value → Shared → Prop} {s : Shared}
theorem call_set_lstI {src : Addr} {arr : Array Value} (zs : List Int) {Q : Value → Shared → Prop} (calmA : A.handled = none) (isl : s.heap.IsList src arr) (gints : IntsAre arr.toList zs) (roomy : zs.length + 1 < scanBound)
    (hQ : ∀ (hp1 : Heap) (tk c : Nat), SetR w hp1 s.heap.objs.size (fun j => decide (j ∈ zs)) c → c ≤ zs.length → (∀ b o, s.heap.get? b = some o → hp1.get? b = some o) → Q (.ref s.heap.objs.size) { s with heap := hp1, toks := tk }) :
    wpAny (model P w) A (call (.type "set") [.ref src]) Q E s := by
  have sz : arr.size = zs.length := by
    have q := IntsAre.length gints
    rw [Array.length_toList] at q
    exact q
  obtain ⟨c, tl, mro1⟩ := F.called_set.mro
  have made1 := F.called_set.made
  have sub1 := F.called_set.sub
  refine wpAny_call (codeAny_of_tree ?_)
  show wpAny _ _ (callAny (.type "set") _) _ _ _
  refine wpAny_pure ⟨Code.quiet_builtin _ (by decide +kernel), codeAny_builtin F.entry_type_call ?_⟩
  rw [Around.under_plain (weight_type_call_type "set" [.ref src] []) rfl]
  have nt1 := F.called_set.notType
  have cc1 := F.called_set.canCreate
  have tc1 := F.typeCall_set_1 (.ref src)
  repeat (any_goals (first | assumption | wp_step))

  refine codeAny_mono (code_set_led1 (.ref src) (E := E) (Q₁ := fun obj sa => obj = .ref s.heap.objs.size ∧ sa = { s with heap := s.heap.push (noneS w) }) ⟨rfl, rfl⟩) fun r sa res => ?_
  cases r with
  | error e => exact res
  | ok fl =>
    cases fl with
    | ret obj =>
      obtain ⟨rfl, rfl⟩ := res
      have atS : (s.heap.push (noneS w)).get? s.heap.objs.size = some (noneS w) := Heap.get?_push_size _ rfl
      have tyS : Shared.TypeIs { s with heap := s.heap.push (noneS w) } (.ref s.heap.objs.size) "set" := ⟨_, atS, rfl⟩
      have li1 := F.called_set.init.lookup
      have bi1 := F.called_set.init.bind (.ref s.heap.objs.size)
      repeat (any_goals (first | assumption | wp_step))

      refine codeAny_mono (codeAny_call_builtin (R := wants (fun r sb2 => r = .none ∧ ∃ hp1 tk c, sb2 = { s with heap := hp1, toks := tk } ∧ SetR w hp1 s.heap.objs.size (fun j => decide (j ∈ zs)) c ∧ c ≤ zs.length ∧
          (∀ b o, s.heap.get? b = some o → hp1.get? b = some o)) E) F.called_set.init.plain F.entry_set_init (check_set_init_1 tyS ?_)) fun ra2 sb2 res2 => ?_
      · obtain ⟨os1, gsrc, kc, cap, kd⟩ := isl
        obtain ⟨k1, k2, k3, k4⟩ := os1
        simp only at kc kd
        subst kc; subst kd
        have gsrc2 : (s.heap.push (noneS w)).get? src = some { cls := .type "list", dict := k2, data := .seq arr cap, slots := k4 } := Heap.get?_push_of_some _ gsrc
        have ns1 := F.sub_list_set
        have ns2 := F.sub_list_frozenset
        have nd1 : (Value.type "list" == Value.type "dict") = false := by decide
        have isl2 : (s.heap.push (noneS w)).IsList src arr := ⟨_, gsrc2, rfl, cap, rfl⟩
        unfold Builtin.«set.__init__» noKeywords Builtin.Frozenset.updateFrom
        generalize pit : pyIter = it0
        wp_walk
        subst pit

        refine wpAny_pyIter_list isl2 ?_
        refine wpAny_bind (wpAny_runValue ?_)
        have below : src < s.heap.objs.size := Heap.lt_size gsrc
        have calm3 : A.in1.in1.in1.handled = none := by simp [calmA]
        have zz1 : (s.heap.push (noneS w)).objs.size = s.heap.objs.size + 1 := Heap.size_push ..
        have away : src ≠ (s.heap.push (noneS w)).objs.size := by
          rw [Heap.size_push]; exact Nat.ne_of_lt (Nat.lt_succ_of_lt below)
        have notin : s.heap.objs.size ∉ [(s.heap.push (noneS w)).objs.size, src] := by
          rw [Heap.size_push]; simp only [List.mem_cons, List.mem_singleton, List.not_mem_nil, or_false, not_or]
          exact ⟨Nat.ne_of_lt (Nat.lt_succ_self _), Nat.ne_of_gt below⟩
        have vals : ∀ (i : Nat) (v : Value), arr[i]? = some v → ∃ k t, zs[i]? = some k ∧ v = .int k t := fun i v hv => by
          have hi : i < zs.length := by rw [← sz]; exact (Array.getElem?_eq_some_iff.mp hv).1
          obtain ⟨t, e⟩ := PyProof.Rows.IntsAre.int_at gints i v (by rw [Array.getElem?_toList]; exact hv)
          refine ⟨zs[i], t, List.getElem?_eq_getElem hi, ?_⟩
          rw [e, List.getD_eq_getElem?_getD, List.getElem?_eq_getElem hi] <;> rfl
        refine set_update_ints ((Walks.list calm3 _ src away arr).toS) s.heap.objs.size
          notin zs sz roomy vals (arr.size - 0) 0 _ (by omega) (Nat.zero_le _)
          ⟨⟨_, Heap.get?_push_size _ rfl, rfl, rfl⟩, (isl2.push _)⟩ ?hS0 ?hR
        case hS0 =>
          have got : ((s.heap.push (noneS w)).push { cls := .type "list_iterator", data := .fields #[.ref src, .int 0 0] }).get? s.heap.objs.size
              = some (noneS w) := Heap.get?_push_of_some _ atS
          exact ⟨0, Nat.le_refl 0, setR_new_at got⟩
        case hR =>
          intro t1 c1 mv le1 done1
          obtain ⟨hp1, gg, dd1, tk1, oo1⟩ := t1
          have q1 : gg = s.gens := mv.gens
          have q2 : dd1 = s.drawn := mv.drawn
          have q3 : oo1 = s.os := mv.os
          subst q1; subst q2; subst q3
          show wpAny _ _ _ _ _ _
          refine wpAny_pure ?_
          show wpAny _ _ (ret Value.none) _ _ _
          rw [sz] at le1
          refine wpAny_pure ⟨rfl, hp1, tk1, c1, rfl, done1, le1, fun b o e => ?_⟩
          have u0 : b < s.heap.objs.size := Heap.lt_size e
          have u1 : b ≠ s.heap.objs.size := Nat.ne_of_lt u0
          have u2 : b ≠ (s.heap.push (noneS w)).objs.size := by
            rw [Heap.size_push]; exact Nat.ne_of_lt (Nat.lt_succ_of_lt u0)
          exact mv.heap b o (by simp only [List.mem_cons, List.mem_singleton, List.not_mem_nil, or_false, not_or]; exact ⟨u1, u2⟩) (Heap.get?_push_of_some _ (Heap.get?_push_of_some _ e))

      · cases ra2 with
        | error e => exact res2
        | ok fl2 =>
          cases fl2 with
          | ret r =>
            obtain ⟨rfl, hp1, tk, c1, rfl, done1, le1, kept1⟩ := res2
            repeat (any_goals (first | assumption | wp_step))
            exact hQ _ _ _ done1 le1 kept1
          | _ => exact res2.elim
    | _ => exact res.elim

end
end VE

namespace VE
open PySem PySem.Spec L2
open PyProof.Rows hiding St
/-! ### set(xs) of whole numbers: its length, its order -/
theorem meet_step (ns : List Int) (x : Int) : step_dedup ns x = if ns.any (· == x) then ns else ns ++ [x] := rfl
theorem metF : ∀ (xs acc : List Int), acc.Nodup → (xs.foldl step_dedup acc).Nodup ∧ ∀ k, k ∈ xs.foldl step_dedup acc ↔ k ∈ acc ∨ k ∈ xs
  | [], acc, h => ⟨h, fun k => by simp⟩
  | x :: r, acc, h => by
    have h2 : (step_dedup acc x).Nodup ∧ ∀ k, k ∈ step_dedup acc x ↔ k ∈ acc ∨ k = x := by
      rw [meet_step]
      split
      · rename_i hx
        rw [List.any_eq_true] at hx
        obtain ⟨y, hy, e⟩ := hx
        have e := eq_of_beq e
        subst e
        exact ⟨h, fun k => ⟨.inl, fun z => z.elim id fun e => e ▸ hy⟩⟩
      · rename_i hx
        refine ⟨?_, fun k => by simp⟩
        rw [List.nodup_append]
        refine ⟨h, by simp, fun a ha b hb e => hx ?_⟩
        have : b = x := by simpa using hb
        subst this
        exact List.any_eq_true.mpr ⟨a, ha, by simp [e]⟩
    obtain ⟨h3, h4⟩ := metF r _ h2.1
    refine ⟨h3, fun k => ?_⟩
    show k ∈ r.foldl step_dedup (step_dedup acc x) ↔ _
    rw [h4 k, h2.2 k, List.mem_cons, or_assoc]
theorem met_eq (ns : List Int) : firstMet (fun i => ns.getD i 0) ns.length = ns.foldl step_dedup [] := by
  unfold firstMet
  congr 1
  refine List.ext_getElem? fun i => ?_
  rw [List.getElem?_map]
  by_cases hi : i < ns.length
  · rw [List.getElem?_range hi, List.getElem?_eq_getElem hi, Option.map_some, List.getD_eq_getElem?_getD, List.getElem?_eq_getElem hi]
    rfl
  · rw [List.getElem?_eq_none (by rw [List.length_range]; omega), List.getElem?_eq_none (by omega)]
    rfl
theorem oneI_spec : ∀ ns : List Int, (oneI ns).Nodup ∧ ∀ k, k ∈ oneI ns ↔ k ∈ ns
  | [] => ⟨by simp [oneI], fun k => by simp [oneI]⟩
  | x :: r => by
    obtain ⟨h1, h2⟩ := oneI_spec r
    unfold oneI
    split
    · rename_i hx
      rw [decide_eq_true_eq] at hx
      refine ⟨h1, fun k => ?_⟩
      rw [h2 k, List.mem_cons]
      exact ⟨.inr, fun z => z.elim (fun e => e ▸ hx) id⟩
    · rename_i hx
      rw [decide_eq_true_eq] at hx
      exact ⟨List.nodup_cons.mpr ⟨fun z => hx ((h2 x).mp z), h1⟩, fun k => by rw [List.mem_cons, List.mem_cons, h2 k]⟩
theorem len_same {a b : List Int} (h1 : a.Nodup) (h2 : b.Nodup) (h : ∀ k, k ∈ a ↔ k ∈ b) : a.length = b.length :=
  ((List.perm_ext_iff_of_nodup h1 h2).mpr h).length_eq
theorem met_len (ns : List Int) : (firstMet (fun i => ns.getD i 0) ns.length).length = (oneI ns).length := by
  rw [met_eq]
  obtain ⟨h1, h2⟩ := metF ns [] .nil
  obtain ⟨h3, h4⟩ := oneI_spec ns
  exact len_same h1 h3 fun k => by rw [h2 k, h4 k]; simp
theorem sort_uniq : ∀ {a b : List Int}, a.Pairwise (· < ·) → b.Pairwise (· < ·) → (∀ k, k ∈ a ↔ k ∈ b) → a = b := fun {a b} h1 h2 h => by
  have n1 : a.Nodup := h1.imp fun h => Int.ne_of_lt h
  have n2 : b.Nodup := h2.imp fun h => Int.ne_of_lt h
  exact List.Perm.eq_of_pairwise (le := (· < ·)) (fun x y _ _ h1 h2 => by omega) h1 h2 ((List.perm_ext_iff_of_nodup n1 n2).mpr h)
theorem setR_len {w : World} {h : Heap} {a : Addr} {ns : List Int} {c : Nat} (R : SetR w h a (fun j => decide (j ∈ ns)) c) : c = (oneI ns).length := by
  obtain ⟨o, es, ep, t, _, _, _, _, hn, hm, _, _, rfl, _⟩ := R
  obtain ⟨h3, h4⟩ := oneI_spec ns
  have := len_same hn h3 fun k => by rw [← hm k, h4 k, decide_eq_true_eq]
  rw [List.length_map, Array.length_toList] at this
  exact this
theorem sort_permI : ∀ xs : List Int, (sortI xs).Perm xs
  | [] => .refl _
  | x :: r => (insI_perm x _).trans ((sort_permI r).cons x)
theorem sort_leI : ∀ xs : List Int, (sortI xs).Pairwise (· ≤ ·)
  | [] => .nil
  | x :: r => insI_sorted x _ (sort_leI r)
theorem sort_ltI {xs : List Int} (h : xs.Nodup) : (sortI xs).Pairwise (· < ·) := by
  have h1 := sort_leI xs
  have h2 : (sortI xs).Nodup := (sort_permI xs).nodup_iff.mpr h
  exact (h1.and h2).imp fun ⟨a, b⟩ => by omega
theorem reps_ints {K : PySem.W.Frag} {T : Addr → Prop} {H : Hp} : ∀ xs : List Int, Reps K T H (xs.map V.int) (xs.map PyData.int)
  | [] => .nil
  | x :: r => .cons (.int _) (reps_ints r)
section
variable {X : Cx} {m : Bool} {a : Expr} {ta : TE} {f : EF} {p p2 pos pos2 q : Pos}
def tSetI (K : PySem.W.Frag) (w : World) (ta : TE) : TE := fun σ H Q => ta σ H fun x H1 => ∃ (l : Addr) (ns : List Int), x = V.ref l ∧ SqL K H1 l (ns.map V.int) ∧ ns.length < 1000 ∧
  ∀ p, H1 p = none → Q (.ref p) (upd H1 p (SetO w p (fun k => decide (k ∈ ns)) (oneI ns).length))
theorem pe_setI (hg2 : Gl X "set") (hm2 : X.mg "set" = none) (ha : PE X a ta) (hc : X.calm = true)
    (na : starEach [a] X.env = (false, eval a X.env) :: starEach [] X.env) : PE X (.Call (.Name "set" p2) [a] [] q) (tSetI X.K X.w ta) := by
  refine ⟨fun pins s σ H Q I h => ?_⟩
  refine Call_ (ld_blt I hg2 hm2 boot_set ?_)
  refine PyProof.Rows.callWith_type1 (PyProof.Rows.args_cons (thn (ha.run pins s σ H _ I h) fun v s1 ⟨x, H1, I1, r1, q1⟩ => PyProof.Rows.args_nil ?_) na) na rfl
  obtain ⟨l, ns, rfl, hq, hl, q1⟩ := q1
  cases r1
  obtain ⟨its, r, pl, hz⟩ := I1.list hq
  refine call_set_lstI ns (I1.ok.hd hc) pl.isList (by simpa using RZ.intsAre_vals r) (by unfold scanBound; omega) fun h' tk c hS _ hk => ?_
  have hc := setR_len hS
  subst hc
  exact ⟨.ref s1.heap.objs.size, upd H1 s1.heap.objs.size (SetO X.w s1.heap.objs.size (fun k => decide (k ∈ ns)) (oneI ns).length), I1.laid hk (Nat.le_refl _) (setO_new hS), rfl, q1 _ (I1.hok.fresh (Nat.le_refl _))⟩
/-- len of a set -/
def rLenSet (w : World) : List V → Hp → VK → Prop := fun xs H Q => ∃ (p : Addr) (S : Int → Bool) (n : Nat), xs = [V.ref p] ∧ H p = some (SetO w p S n) ∧ n < 1000 ∧ Q (.int n) H
theorem cr_lenSet : CallR X (.builtin "len") (rLenSet X.w) := by
  intro pins s σ H xs us Q I r h
  obtain ⟨p, S, n, rfl, ha, hn, q⟩ := h
  have R := setO_get I ha
  rw [Vals.ref1 r]
  obtain ⟨o, es, ep, t, ho, hex, hd, _, _, _, _, hf, hsz, _⟩ := R
  exact call_len_set ho hex hd hf (by rw [hsz] <;> omega) ⟨.int n, H, I.tok _, ⟨_, by rw [hsz]⟩, q⟩
theorem oneI_le (ns : List Int) : (oneI ns).length ≤ ns.length := by
  induction ns with
  | nil => exact Nat.le_refl _
  | cons x r ih =>
    unfold oneI
    split
    · rw [List.length_cons]; omega
    · rw [List.length_cons, List.length_cons]; omega
/-- len(set(xs)) -/
theorem pv_lenSet {KK : PySem.W.Frag} {w : World} (hKK : X.K = KK) (hw : X.w = w) (hm : X.mg "len" = none) (hm2 : X.mg "set" = none) (q : PV X m a ta f) (hc : X.calm = true) (hg : Gl X "len") (hg2 : Gl X "set")
    (na : starEach [a] X.env = (false, eval a X.env) :: starEach [] X.env) (na2 : starEach [.Call (.Name "set" p2) [a] [] pos2] X.env = (false, eval (.Call (.Name "set" p2) [a] [] pos2) X.env) :: starEach [] X.env) (hpl : (backTo pos (starEach [] X.env)).any (·.1) = false) :
    PV X m (.Call (.Name "len" p) [.Call (.Name "set" p2) [a] [] pos2] [] pos) (tCB (rLenSet w) (tCons (tSetI KK w ta) L2.tNil)) (xUn fLenSet f) := by
  subst hKK; subst hw
  refine ⟨pe_callB cr_lenSet hg hm (by decide +kernel) (pa_cons (pe_setI hg2 hm2 q.pe hc na) pa_nil na2) (by decide) (by decide) na2 hpl, fun g env w σ H Q x w' hK I hf k => ?_⟩
  obtain ⟨y, w1, h1, h2⟩ := bind_some.mp hf
  obtain ⟨e1, rfl⟩ := lift_get h2
  refine q.vw _ env w σ H _ y _ hK I h1 fun v H1 k1 d1 r1 => ?_
  unfold fLenSet at e1
  split at e1
  · rename_i xs
    obtain ⟨ns, e2, e3⟩ := Option.bind_eq_some_iff.mp e1
    split at e3
    · rename_i hl
      cases e3
      cases r1 with
      | lst n e r =>
        obtain ⟨rfl, rfl⟩ := Reps.of_ints r e2
        refine ⟨_, ns, rfl, SqL.of e, hl, fun p hp => ?_⟩
        refine ⟨p, _, _, rfl, upd_same, Nat.lt_of_le_of_lt (oneI_le ns) hl, ?_⟩
        obtain ⟨k2, d2⟩ := (I.step k1 d1).new (o := SetO X.w p (fun k => decide (k ∈ ns)) (oneI ns).length) hp
        exact k _ _ (k1.trans k2) d2 (.int _)
    · cases e3
  · cases e1
theorem plv_sortSet {KK : PySem.W.Frag} {w : World} (hKK : X.K = KK) (hw : X.w = w) (hm : X.mg "sorted" = none) (hm2 : X.mg "set" = none) (q : PV X m a ta f) (hc : X.calm = true) (hg : Gl X "sorted") (hg2 : Gl X "set")
    (na : starEach [a] X.env = (false, eval a X.env) :: starEach [] X.env) (na2 : starEach [.Call (.Name "set" p2) [a] [] pos2] X.env = (false, eval (.Call (.Name "set" p2) [a] [] pos2) X.env) :: starEach [] X.env) (hpl : (backTo pos (starEach [] X.env)).any (·.1) = false) :
    PLV X m (.Call (.Name "sorted" p) [.Call (.Name "set" p2) [a] [] pos2] [] pos) (tCB (rSortedSet w) (tCons (tSetI KK w ta) L2.tNil)) (xSortSet f) := by
  subst hKK; subst hw
  refine ⟨pe_callB (cr_sortedSet hc) hg hm (by decide +kernel) (pa_cons (pe_setI hg2 hm2 q.pe hc na) pa_nil na2) (by decide) (by decide) na2 hpl, fun g env w σ H Q x w' hK I hf k => ?_⟩
  obtain ⟨y, w1, h1, h2⟩ := bind_some.mp hf
  obtain ⟨e1, rfl⟩ := lift_get h2
  refine q.vw _ env w σ H _ y _ hK I h1 fun v H1 k1 d1 r1 => ?_
  unfold fSortSet at e1
  split at e1
  · rename_i xs
    obtain ⟨ns, e2, e3⟩ := Option.bind_eq_some_iff.mp e1
    split at e3
    · rename_i hl
      rw [Bool.and_eq_true, decide_eq_true_eq, decide_eq_true_eq] at hl
      cases e3
      cases r1 with
      | lst n e r =>
        obtain ⟨rfl, rfl⟩ := Reps.of_ints r e2
        refine ⟨_, ns, rfl, SqL.of e, hl.1, fun p hp => ?_⟩
        refine ⟨p, _, _, rfl, upd_same, hl.2, fun os q hs hmem hlen hq => ?_⟩
        have I1 := I.step k1 d1
        obtain ⟨k2, d2⟩ := I1.new (o := SetO X.w p (fun k => decide (k ∈ ns)) (oneI ns).length) hp
        have I2 := I1.step k2 d2
        obtain ⟨k3, d3⟩ := I2.new (o := .lst (os.map V.int)) hq
        obtain ⟨n1, n2⟩ := oneI_spec ns
        have eo : os = sortI (oneI ns) := by
          refine sort_uniq hs (sort_ltI n1) fun j => ?_
          rw [hmem j, decide_eq_true_eq, (sort_permI _).mem_iff, n2 j]
        subst eo
        refine k q _ _ ?_ ((k1.trans k2).trans k3) d3 upd_same (reps_ints _)
        exact newAt I2 (k1.trans k2) hq
    · cases e3
  · cases e1
end
end VE

namespace VE
open PySem PySem.Spec L2
open PyProof.Rows hiding St
section
variable {X : Cx} {K : PySem.W.Frag} {m : Bool} {e c : Expr} {ta : TE} {tt : TT} {ts tu : TS} {f : EF} {fT : TF} {fs fu : SF} {pos : Pos}
/-- xs.extend(e) -/
theorem psv_ext {i : Nat} {x : Str} {px apos cpos : Pos} {KK : PySem.W.Frag} (hKK : X.K = KK) (p : PV X true e ta f) (hN : X.N[i]? = some x) (hv : visB X.env.scope x = true) (hd : dunB x = true)
    (hs : swapsWith (.Call (.Attribute (.Name x px) "extend" apos) [e] [] cpos) none pos.line X.env = pure false)
    (hbase : attributeBase (.Name x px) "extend" X.env (eval (.Name x px) X.env) = eval (.Name x px) X.env)
    (hfew : ((backTo cpos (starEach [e] X.env)).all (fun x => !x.1) && (backToKw cpos (keywordEach [] X.env)).all (fun x => x.1.isSome)
      && decide ([e].length + ([] : List Keyword).length + (if ([] : List Keyword).isEmpty then 0 else 1) < 30)) = true)
    (hline : (apos.endLine == cpos.line) = true) (hst : starEach [e] X.env = (false, eval e X.env) :: starEach [] X.env) (hplain : (backTo cpos (starEach [] X.env)).any (·.1) = false) :
    PSV X (.Expr (.Call (.Attribute (.Name x px) "extend" apos) [e] [] cpos) pos) (tDrop (tBM KK "list" rExtend (tVar i) (tCons ta tNil))) (sExt i f) := by
  subst hKK
  exact (show
    PSV X (.Expr (.Call (.Attribute (.Name x px) "extend" apos) [e] [] cpos) pos) (tDrop (tBM X.K "list" rExtend (tVar i) (tCons ta tNil))) (sExt i f) from
  ⟨ps_expr (pe_bm PySem.F.plainAttrs_list PySem.F.slot_list_extend PySem.F.type_list_extend mt_extend (pe_var hN (vis_of hv) (dun1 hd) (dun2 hd)) (pa_cons p.pe pa_nil hst) hbase hfew hline hst hplain) hs, fun g env w σ H D fl env' w' hK I hf F => by
    obtain ⟨y, w1, h1, h2⟩ := bind_some.mp hf
    cases q : env[i]? with
    | none => rw [q] at h2; cases h2
    | some s =>
      rw [q] at h2
      cases s with
      | ow b xs =>
        cases b with
        | true => cases y <;> cases h2
        | false =>
        obtain ⟨a, vs, ea, ha, ra, n0, nt⟩ := I.owL i xs q
        refine ⟨_, ea, .inl ⟨rfl, _, SqL.of ha⟩, ?_⟩
        refine p.vw _ env w σ H _ y _ hK I h1 fun v H1 k1 d1 r1 => ?_
        have I1 := I.step k1 d1
        obtain ⟨a', vs', ea', ha', ra', _, _⟩ := I1.owL i xs q
        rw [ea] at ea'
        cases ea'
        cases y with
        | list ys =>
          have h2 : (if xs.length + ys.length ≤ line then pure (Fl.nx, env.set i (.ow false (xs ++ ys))) else fail : M (Fl × En)) w1 = some ((fl, env'), w') := h2
          split at h2
          · rename_i hl
            obtain ⟨e, rfl⟩ := pure_get h2
            cases e
            cases r1 with
            | lst n1 e1 r1 =>
              refine ⟨a, _, vs', _, rfl, rfl, ha', e1, by rw [ra'.length, r1.length, ← line_eq]; exact hl, ?_⟩
              obtain ⟨I2, E2⟩ := I1.mut (ys := xs ++ ys) q ea rfl (ra'.append r1)
              exact F σ _ I2 ((Eff.of_keep I (env1 := env) (σ1 := σ) k1 fun _ h => h).trans E2)
          · cases h2
        | _ => cases h2
      | _ => cases y <;> cases h2⟩)
end
end VE

/-! dicts that a def alone holds -/
namespace VE
open PySem PySem.Spec L2
open PyProof.Rows hiding St
abbrev kvK (kvs : List (Int × V)) : List (Key × V) := kvs.map fun p => ((Sum.inl p.1 : Key), p.2)
theorem layV_len : ∀ kvs : List (Int × V), (layV kvs).length = 2 * kvs.length
  | [] => rfl
  | p :: r => by
    show (V.int p.1 :: p.2 :: layV r).length = _
    simp only [List.length_cons, layV_len r]; omega
section
variable {K : PySem.W.Frag} {T : Addr → Prop} {H : Hp}
theorem reps_lay : ∀ {kvs : List (Int × V)} {xs : List PyData}, Reps K T H (layV kvs) xs → (kvs = [] ∧ xs = []) ∨ ∃ p r y ys, kvs = p :: r ∧ xs = .int p.1 :: y :: ys ∧ Rep K T H p.2 y ∧ Reps K T H (layV r) ys
  | [], xs, h => by cases h; exact .inl ⟨rfl, rfl⟩
  | p :: r, xs, h => by
    have h : Reps K T H (V.int p.1 :: p.2 :: layV r) xs := h
    cases h with
    | cons h1 h2 =>
      cases h2 with
      | cons h2 h3 => cases h1; exact .inr ⟨p, r, _, _, rfl, rfl, h2, h3⟩
theorem lay_cons (p : Int × V) (r : List (Int × V)) : layV (p :: r) = .int p.1 :: p.2 :: layV r := rfl
theorem dval_ok : ∀ (kvs : List (Int × V)) {xs : List PyData} (k : Int), Reps K T H (layV kvs) xs → (valV (kvK kvs) (.inl k)).isSome = (dVal xs k).isSome ∧ ∀ y, dVal xs k = some y → ∃ v, valV (kvK kvs) (.inl k) = some v ∧ Rep K T H v y
  | [], xs, k, h => by cases h; exact ⟨rfl, fun y e => nomatch e⟩
  | p :: r, xs, k, h => by
    obtain ⟨e, _⟩ | ⟨p', r', y, ys, e, rfl, h2, h3⟩ := reps_lay h
    · cases e
    · cases e
      show (valV ((Sum.inl p.1, p.2) :: kvK r) (.inl k)).isSome = (if p.1 = k then some y else dVal ys k).isSome ∧ ∀ z, (if p.1 = k then some y else dVal ys k) = some z → ∃ v, valV ((Sum.inl p.1, p.2) :: kvK r) (.inl k) = some v ∧ Rep K T H v z
      by_cases c : p.1 = k
      · rw [if_pos c, valV_pos (show ((Sum.inl p.1 : Key), p.2).1 = Sum.inl k by rw [c])]
        exact ⟨rfl, fun z e => by cases e; exact ⟨_, rfl, h2⟩⟩
      · rw [if_neg c, valV_neg (show ¬ ((Sum.inl p.1 : Key), p.2).1 = Sum.inl k from fun z => c (by injection z))]
        exact dval_ok r k h3
theorem drepl_ok : ∀ (kvs : List (Int × V)) {xs : List PyData} (k : Int) {v : V} {y : PyData}, Reps K T H (layV kvs) xs → Rep K T H v y →
    ∃ kvs2, ((kvK kvs).map fun kv => if kv.1 = (Sum.inl k : Key) then (kv.1, v) else kv) = kvK kvs2 ∧ Reps K T H (layV kvs2) (dRepl xs k y)
  | [], xs, k, v, y, h, q => by cases h; exact ⟨[], rfl, .nil⟩
  | p :: r, xs, k, v, y, h, q => by
    obtain ⟨e, _⟩ | ⟨p', r', z, ys, e, rfl, h2, h3⟩ := reps_lay h
    · cases e
    · cases e
      obtain ⟨kvs2, e2, h4⟩ := drepl_ok r k h3 q
      refine ⟨(p.1, if p.1 = k then v else p.2) :: kvs2, ?_, ?_⟩
      · show (if (Sum.inl p.1 : Key) = Sum.inl k then ((Sum.inl p.1 : Key), v) else (Sum.inl p.1, p.2)) :: ((kvK r).map fun kv => if kv.1 = (Sum.inl k : Key) then (kv.1, v) else kv) = (Sum.inl p.1, if p.1 = k then v else p.2) :: kvK kvs2
        rw [e2]
        by_cases c : p.1 = k
        · rw [if_pos c, if_pos (by rw [c])]
        · rw [if_neg c, if_neg (fun z => c (by injection z))]
      · show Reps K T H (.int p.1 :: (if p.1 = k then v else p.2) :: layV kvs2) (.int p.1 :: (if p.1 = k then y else z) :: dRepl ys k y)
        refine .cons (.int _) (.cons ?_ h4)
        by_cases c : p.1 = k
        · rw [if_pos c, if_pos c]; exact q
        · rw [if_neg c, if_neg c]; exact h2
theorem layV_snoc (kvs : List (Int × V)) (k : Int) (v : V) : layV (kvs ++ [(k, v)]) = layV kvs ++ [.int k, v] := by
  unfold layV
  rw [List.flatMap_append]
  rfl
theorem dput_ok (kvs : List (Int × V)) {xs : List PyData} (k : Int) {v : V} {y : PyData} (h : Reps K T H (layV kvs) xs) (q : Rep K T H v y) : ∃ kvs2, putK (kvK kvs) (.inl k) v = kvK kvs2 ∧ Reps K T H (layV kvs2) (dPut xs k y) := by
  have e := (dval_ok kvs k h).1
  rw [← valV_any] at e
  unfold putK dPut
  rw [e]
  by_cases c : (dVal xs k).isSome = true
  · rw [if_pos c, if_pos c]; exact drepl_ok kvs k h q
  · rw [if_neg c, if_neg c]
    refine ⟨kvs ++ [(k, v)], by simp [kvK], ?_⟩
    rw [layV_snoc]
    exact h.append (.cons (.int _) (.cons q .nil))
theorem dkeys_ok : ∀ (kvs : List (Int × V)) {xs : List PyData}, Reps K T H (layV kvs) xs → dKeys xs = kvs.map (·.1)
  | [], xs, h => by cases h; rfl
  | p :: r, xs, h => by
    obtain ⟨e, _⟩ | ⟨p', r', z, ys, e, rfl, h2, h3⟩ := reps_lay h
    · cases e
    · cases e
      show p.1 :: dKeys ys = p.1 :: r.map (·.1)
      rw [dkeys_ok r h3]
/-- a thing that is no list, no tuple is leant on by nothing -/
theorem rd_fresh {p a : Addr} {u : HO} (n : ¬ Rd H p u) (e : Rd H a u) : a ≠ p := fun z => n (z ▸ e)
theorem TupAt.avoid {a p : Addr} {vs : List V} (n : ∀ vs, ¬ Rd H p (.tup vs)) (q : TupAt K T H a vs) : TupAt K (fun b => T b ∨ b = p) H a vs := by
  rcases q with ⟨h, q⟩ | q
  · exact .inl ⟨fun z => z.elim h (rd_fresh (n _) q), q⟩
  · exact .inr q
theorem LstAt.avoid {a p : Addr} {vs : List V} (n : ∀ vs, ¬ Rd H p (.lst vs)) (q : LstAt K T H a vs) : LstAt K (fun b => T b ∨ b = p) H a vs := by
  rcases q with ⟨h, q⟩ | q
  · exact .inl ⟨fun z => z.elim h (rd_fresh (n _) q), q⟩
  · exact .inr q
mutual
theorem Rep.avoid {p : Addr} (n : ∀ vs, ¬ Rd H p (.lst vs)) (n2 : ∀ vs, ¬ Rd H p (.tup vs)) : ∀ (x : PyData) {v : V}, Rep K T H v x → Rep K (fun b => T b ∨ b = p) H v x
  | .none, _, h => by cases h; exact .non
  | .bool b, _, h => by cases h; exact .bl b
  | .int i, _, h => by cases h; exact .int i
  | .str i, _, h => by cases h; exact .str i
  | .list xs, _, h => by
    cases h with
    | lst nt e r => exact .lst (fun q => q.elim nt (rd_fresh (n _) (.inl e))) e (Reps.avoid n n2 xs r)
  | .tuple xs, _, h => by
    cases h with
    | tup e r => exact .tup (e.avoid n2) (Reps.avoid n n2 xs r)
  | .dict _, _, h => by cases h
theorem Reps.avoid {p : Addr} (n : ∀ vs, ¬ Rd H p (.lst vs)) (n2 : ∀ vs, ¬ Rd H p (.tup vs)) : ∀ (xs : List PyData) {vs : List V}, Reps K T H vs xs → Reps K (fun b => T b ∨ b = p) H vs xs
  | [], _, h => by cases h; exact .nil
  | x :: xs, _, h => by
    cases h with
    | cons h1 h2 => exact .cons (Rep.avoid n n2 x h1) (Reps.avoid n n2 xs h2)
end
end
section
variable {K : PySem.W.Frag} {g g' : Gh K} {m : Bool} {env : En} {w w' : W} {σ : SS} {H H' : Hp}
theorem StOk.owD (I : StOk g env w σ H) (i : Nat) (xs : List PyData) (e : env[i]? = some (.ow true xs)) : ∃ a kvs, σ[i]? = some (some (.ref a)) ∧ H a = some (dkO kvs) ∧ Reps K (av g true env σ) H (layV kvs) xs ∧ g.H0 a = none ∧ ¬ g.T a := by
  obtain ⟨a, vs, q, ⟨o, h, kvs, rfl, rfl⟩, r⟩ := I.ow i true xs e
  exact ⟨a, kvs, q, h, r⟩
theorem StOk.dget (I : StOk g env w σ H) (i : Nat) (xs : List PyData) (k : Int) (e : env[i]? = some (.ow true xs)) :
    ∃ a o, σ[i]? = some (some (.ref a)) ∧ IsD H a ∧ DGet H a (.int k) o ∧ o.isSome = (dVal xs k).isSome ∧ ∀ y, dVal xs k = some y → ∃ v, o = some v ∧ Rep K (av g true env σ) H v y := by
  obtain ⟨a, kvs, q, h, r, _⟩ := I.owD i xs e
  exact ⟨a, _, q, .inl ⟨_, .inl h⟩, DGet.k (k := .inl k) h, (dval_ok kvs k r).1, (dval_ok kvs k r).2⟩
end
section
variable {X : Cx} {K : PySem.W.Frag} {m : Bool} {e a b c d tg : Expr} {ta tb tc td : TE} {f f1 f2 h k : EF} {body : List Stmt} {ft : GF} {gt : TG} {ts : TS} {fb : SF} {vs : List Nat} {pos : Pos}
/-- a slot that holds a dict, a key -/
theorem dkey {i : Nat} {env : En} {z : D} {α : Type} {F : List D → Int → M α} {w : W} {r : α × W}
    (h : withD i env z F w = some r) : ∃ xs k, env[i]? = some (.ow true xs) ∧ z = .int k ∧ F xs k w = some r := by
  unfold withD at h
  cases q : env[i]? with
  | none => rw [q] at h; cases h
  | some s =>
    rw [q] at h
    cases s with
    | ow b xs =>
      cases b with
      | false => cases h
      | true =>
        cases z with
        | int k => exact ⟨xs, k, rfl, rfl, h⟩
        | _ => cases h
    | _ => cases h
/-- if c then a else fail -/
theorem ite_get {α : Type} {c : Prop} [Decidable c] {a : M α} {w : W} {r : α × W} (h : (if c then a else fail : M α) w = some r) : c ∧ a w = some r := by
  by_cases q : c
  · rw [if_pos q] at h; exact ⟨q, h⟩
  · rw [if_neg q] at h; cases h
theorem vw_din {i : Nat} (p : VwE K false ta f) : VwE K m (tDIn ta (tVar i)) (xDIn i f) := fun g env w σ H Q x w' hK I hf q => by
  obtain ⟨z, w1, h1, h2⟩ := bind_some.mp hf
  obtain ⟨xs, j, e1, rfl, h3⟩ := dkey h2
  obtain ⟨rfl, rfl⟩ := pure_get h3
  refine p _ env w σ H _ _ _ hK I h1 fun v H1 k1 d1 r1 => ?_
  cases r1
  obtain ⟨a, o, ea, _, dg, es, _⟩ := (I.step k1 d1).dget i xs j e1
  refine ⟨_, ea, a, o, rfl, dg, ?_⟩
  rw [es]
  exact q _ H1 k1 d1 (.bl _)
theorem vw_dnotin {i : Nat} (p : VwE K false ta f) : VwE K m (tDNotIn ta (tVar i)) (xDNotIn i f) := fun g env w σ H Q x w' hK I hf q => by
  obtain ⟨z, w1, h1, h2⟩ := bind_some.mp hf
  obtain ⟨xs, j, e1, rfl, h3⟩ := dkey h2
  obtain ⟨rfl, rfl⟩ := pure_get h3
  refine p _ env w σ H _ _ _ hK I h1 fun v H1 k1 d1 r1 => ?_
  cases r1
  obtain ⟨a, o, ea, _, dg, es, _⟩ := (I.step k1 d1).dget i xs j e1
  refine ⟨_, ea, a, o, rfl, dg, ?_⟩
  rw [es]
  exact q _ H1 k1 d1 (.bl _)
theorem pv_din {i j : Nat} {x : Str} {px : Pos} (hr : Room j X.A) (p : PV X false a ta f) (hN : X.N[i]? = some x) (hv : visB X.env.scope x = true) (hd : dunB x = true) (hm : behindInMarks .In (.Name x px) = false) :
    PV X m (.Compare a [.In] [.Name x px] pos) (tDIn ta (tVar i)) (xDIn i f) := ⟨pe_cmp (pc_din (by have := hr.un; omega) p.pe (pe_var hN (vis_of hv) (dun1 hd) (dun2 hd))) hm, vw_din p.vw⟩
theorem pv_dnotin {i j : Nat} {x : Str} {px : Pos} (hr : Room j X.A) (p : PV X false a ta f) (hN : X.N[i]? = some x) (hv : visB X.env.scope x = true) (hd : dunB x = true) (hm : behindInMarks .NotIn (.Name x px) = false) :
    PV X m (.Compare a [.NotIn] [.Name x px] pos) (tDNotIn ta (tVar i)) (xDNotIn i f) := ⟨pe_cmp (pc_dnotin (by have := hr.un; omega) p.pe (pe_var hN (vis_of hv) (dun1 hd) (dun2 hd))) hm, vw_dnotin p.vw⟩
theorem pt_din {i j : Nat} {x : Str} {px : Pos} (hr : Room j X.A) (p : PV X false a ta f) (hN : X.N[i]? = some x) (hv : visB X.env.scope x = true) (hd : dunB x = true) (hm : behindInMarks .In (.Name x px) = false) :
    PTV X (.Compare a [.In] [.Name x px] pos) (tB (tDIn ta (tVar i))) (xTest (xDIn i f)) := ⟨pt_cmp (pc_din (by have := hr.un; omega) p.pe (pe_var hN (vis_of hv) (dun1 hd) (dun2 hd))) hm, vw_test (vw_din p.vw)⟩
theorem pt_dnotin {i j : Nat} {x : Str} {px : Pos} (hr : Room j X.A) (p : PV X false a ta f) (hN : X.N[i]? = some x) (hv : visB X.env.scope x = true) (hd : dunB x = true) (hm : behindInMarks .NotIn (.Name x px) = false) :
    PTV X (.Compare a [.NotIn] [.Name x px] pos) (tB (tDNotIn ta (tVar i))) (xTest (xDNotIn i f)) := ⟨pt_cmp (pc_dnotin (by have := hr.un; omega) p.pe (pe_var hN (vis_of hv) (dun1 hd) (dun2 hd))) hm, vw_test (vw_dnotin p.vw)⟩
theorem pv_dget1 {i j : Nat} {x : Str} {px apos cpos : Pos} (hr : Room j X.A) (p : PV X false e ta f) (hN : X.N[i]? = some x) (hv : visB X.env.scope x = true) (hd : dunB x = true) (hm : M1 X (.Name x px) "get" apos e cpos) :
    PV X m (.Call (.Attribute (.Name x px) "get" apos) [e] [] cpos) (tDGet1 (tVar i) ta) (xDGet1 i f) := ⟨pe_dget1 (by have := hr.un; omega) (pe_var hN (vis_of hv) (dun1 hd) (dun2 hd)) p.pe hm, fun g env w σ H Q y w' hK I hf q => by
  obtain ⟨z, w1, h1, h2⟩ := bind_some.mp hf
  obtain ⟨xs, j, e1, rfl, h3⟩ := dkey h2
  obtain ⟨rfl, rfl⟩ := pure_get h3
  obtain ⟨a0, o0, ea0, id0, _⟩ := I.dget i xs j e1
  refine ⟨_, ea0, a0, rfl, id0, ?_⟩
  refine p.vw _ env w σ H _ _ _ hK I h1 fun {g1} v H1 k1 d1 r1 => ?_
  cases r1
  obtain ⟨a, o, ea, _, dg, es, hv⟩ := (I.step k1 d1).dget i xs j e1
  rw [ea0] at ea
  cases ea
  refine ⟨o, dg, ?_⟩
  cases q2 : dVal xs j with
  | none =>
    rw [q2] at es q
    cases o with
    | none => exact q _ H1 k1 d1 .non
    | some _ => cases es
  | some y =>
    obtain ⟨u, rfl, ru⟩ := hv y q2
    rw [q2] at q
    exact q u H1 k1 d1 (ru.mon (fun _ _ _ e => e) fun _ => av_le)⟩
theorem pv_dget2 {i j : Nat} {x : Str} {px apos cpos : Pos} (hr : Room j X.A) (p : PV X false a ta f1) (p2 : PV X m b tb f2) (hN : X.N[i]? = some x) (hv : visB X.env.scope x = true) (hd : dunB x = true) (hm : M2 X (.Name x px) "get" apos a b cpos) :
    PV X m (.Call (.Attribute (.Name x px) "get" apos) [a, b] [] cpos) (tDGet2 (tVar i) ta tb) (xDGet2 i f1 f2) := ⟨pe_dget2 (by have := hr.un; omega) (pe_var hN (vis_of hv) (dun1 hd) (dun2 hd)) p.pe p2.pe hm, fun g env w σ H Q y w' hK I hf q => by
  obtain ⟨z, w1, h1, h2⟩ := bind_some.mp hf
  obtain ⟨y2, w2, h2, h3⟩ := bind_some.mp h2
  obtain ⟨xs, j, e1, rfl, h9⟩ := dkey h3
  obtain ⟨rfl, rfl⟩ := pure_get h9
  obtain ⟨a0, o0, ea0, id0, _⟩ := I.dget i xs j e1
  refine ⟨_, ea0, a0, rfl, id0, ?_⟩
  refine p.vw _ env w σ H _ _ _ hK I h1 fun {g1} v H1 k1 d1 r1 => ?_
  cases r1
  have I1 := I.step k1 d1
  refine p2.vw _ env w1 σ H1 _ _ _ hK I1 h2 fun {g2} v2 H2 k2 d2 r2 => ?_
  obtain ⟨a, o, ea, _, dg, es, hv⟩ := (I1.step k2 d2).dget i xs j e1
  rw [ea0] at ea
  cases ea
  refine ⟨o, dg, ?_⟩
  cases q2 : dVal xs j with
  | none =>
    rw [q2] at es q
    cases o with
    | none => exact q _ H2 (k1.trans k2) d2 r2
    | some _ => cases es
  | some y =>
    obtain ⟨u, rfl, ru⟩ := hv y q2
    rw [q2] at q
    exact q u H2 (k1.trans k2) d2 (ru.mon (fun _ _ _ e => e) fun _ => av_le)⟩
theorem pv_dix {i j : Nat} {x : Str} {px : Pos} (hr : Room j X.A) (p : PV X false e ta f) (hN : X.N[i]? = some x) (hv : visB X.env.scope x = true) (hd : dunB x = true) (hs : NoSl e) :
    PV X m (.Subscript (.Name x px) e pos) (tDGet (tVar i) ta) (xDIx i f) := ⟨pe_dget (by have := hr.un; omega) (pe_var hN (vis_of hv) (dun1 hd) (dun2 hd)) p.pe hs, fun g env w σ H Q y w' hK I hf q => by
  obtain ⟨z, w1, h1, h2⟩ := bind_some.mp hf
  obtain ⟨xs, j, e1, rfl, h3⟩ := dkey h2
  obtain ⟨e3, rfl⟩ := lift_get h3
  obtain ⟨a0, o0, ea0, id0, _⟩ := I.dget i xs j e1
  refine ⟨_, ea0, ?_⟩
  refine p.vw _ env w σ H _ _ _ hK I h1 fun {g1} v H1 k1 d1 r1 => ?_
  cases r1
  obtain ⟨a, o, ea, _, dg, es, hv⟩ := (I.step k1 d1).dget i xs j e1
  rw [ea0] at ea
  cases ea
  obtain ⟨u, rfl, ru⟩ := hv y e3
  exact ⟨a0, u, rfl, dg, q u H1 k1 d1 (ru.mon (fun _ _ _ e => e) fun _ => av_le)⟩⟩
/-- d[k] = e -/
theorem psv_dput {i j : Nat} {x : Str} {px spos : Pos} (hr : Room j X.A) (q : PV X false b tb k) (p : PV X true e ta f) (hN : X.N[i]? = some x) (hv : visB X.env.scope x = true) (hd : dunB x = true)
    (hs : swapsWith e (some (.Subscript (.Name x px) b spos)) pos.line X.env = pure false) :
    PSV X (.Assign [.Subscript (.Name x px) b spos] e pos) (L2.sDPut (tVar i) tb ta) (VE.sDPut i k f) :=
  ⟨ps_dput (by have := hr.un; omega) (pe_var hN (vis_of hv) (dun1 hd) (dun2 hd)) q.pe p.pe hs, fun g env w σ H D fl env' w' hK I hf F => by
    obtain ⟨y, w1, h1, h2⟩ := bind_some.mp hf
    obtain ⟨z, w2, h3, h4⟩ := bind_some.mp h2
    obtain ⟨xs, j, e1, rfl, h9⟩ := dkey h4
    refine p.vw _ env w σ H _ y _ hK I h1 fun v H1 k1 d1 r1 => ?_
    have I1 := I.step k1 d1
    obtain ⟨a0, kvs0, ea0, _⟩ := I1.owD i xs e1
    refine ⟨_, ea0, ?_⟩
    refine q.vw _ env _ σ H1 _ _ _ hK I1 h3 fun u H2 k2 d2 r2 => ?_
    have I2 := I1.step k2 d2
    cases r2
    obtain ⟨hl, h8⟩ := ite_get h9
    · obtain ⟨e, rfl⟩ := pure_get h8
      cases e
      obtain ⟨a, kvs, ea, ha, ra, _⟩ := I2.owD i xs e1
      rw [ea0] at ea
      cases ea
      obtain ⟨kvs2, ek, rk⟩ := dput_ok kvs j ra (r1.keep k2)
      refine ⟨a0, _, rfl, DPut.k (k := .inl j) ha ?_, ?_⟩
      · have := ra.length
        rw [layV_len] at this
        rw [List.length_map, ← line_eq]; omega
      · rw [ek]
        obtain ⟨I3, E3⟩ := I2.mut (bb := true) (ys := dPut xs j y) (us := layV kvs2) (o' := dkO kvs2) e1 ea0 ⟨kvs2, rfl, rfl⟩ rk
        exact F σ _ I3 ((Eff.of_keep I (env1 := env) (σ1 := σ) (k1.trans k2) fun _ h => h).trans E3)⟩
/-- d.setdefault(k, e) -/
theorem psv_dsetd {i : Nat} {x : Str} {px apos cpos : Pos} (q : PV X false b tb k) (p : PV X true e ta f) (hN : X.N[i]? = some x) (hv : visB X.env.scope x = true) (hd : dunB x = true) (hm : M2 X (.Name x px) "setdefault" apos b e cpos)
    (hs : swapsWith (.Call (.Attribute (.Name x px) "setdefault" apos) [b, e] [] cpos) none pos.line X.env = pure false) :
    PSV X (.Expr (.Call (.Attribute (.Name x px) "setdefault" apos) [b, e] [] cpos) pos) (tDrop (tDSetd (tVar i) tb ta)) (sDSetd i k f) :=
  ⟨ps_expr (pe_dsetd (pe_var hN (vis_of hv) (dun1 hd) (dun2 hd)) q.pe p.pe hm) hs, fun g env w σ H D fl env' w' hK I hf F => by
    obtain ⟨z, w1, h1, h2⟩ := bind_some.mp hf
    obtain ⟨y, w2, h3, h4⟩ := bind_some.mp h2
    obtain ⟨xs, j, e1, rfl, h9⟩ := dkey h4
    obtain ⟨a0, o0, ea0, id0, _⟩ := I.dget i xs j e1
    refine ⟨_, ea0, a0, rfl, id0, ?_⟩
    refine q.vw _ env w σ H _ _ _ hK I h1 fun u H1 k1 d1 r1 => ?_
    have I1 := I.step k1 d1
    refine p.vw _ env _ σ H1 _ _ _ hK I1 h3 fun v H2 k2 d2 r2 => ?_
    have I2 := I1.step k2 d2
    cases r1
    obtain ⟨hl, h8⟩ := ite_get h9
    · obtain ⟨e, rfl⟩ := pure_get h8
      cases e
      obtain ⟨a, kvs, ea, ha, ra, _⟩ := I2.owD i xs e1
      rw [ea0] at ea
      cases ea
      have es := (dval_ok kvs j ra).1
      refine ⟨kvK kvs, .inl j, ha, rfl, ?_, fun v0 hv0 => ?_, fun hn => ?_⟩
      · have := ra.length
        rw [layV_len] at this
        rw [List.length_map, ← line_eq]; omega
      · rw [hv0] at es
        rw [if_pos (show (dVal xs j).isSome = true from es.symm)] at F
        obtain ⟨I3, E3⟩ := I2.mut (bb := true) (ys := xs) (us := layV kvs) (o' := dkO kvs) e1 ea0 ⟨kvs, rfl, rfl⟩ ra
        have eH : upd H2 a0 (dkO kvs) = H2 := by
          funext c
          by_cases z : c = a0
          · subst z; rw [upd_same]; exact ha.symm
          · rw [upd_ne z]
        rw [eH] at I3 E3
        exact F σ _ I3 ((Eff.of_keep I (env1 := env) (σ1 := σ) (k1.trans k2) fun _ h => h).trans E3)
      · rw [hn] at es
        rw [if_neg (by rw [← es]; simp)] at F
        obtain ⟨kvs2, ek, rk⟩ := dput_ok kvs j ra r2
        rw [ek]
        obtain ⟨I3, E3⟩ := I2.mut (bb := true) (ys := dPut xs j y) (us := layV kvs2) (o' := dkO kvs2) e1 ea0 ⟨kvs2, rfl, rfl⟩ rk
        exact F σ _ I3 ((Eff.of_keep I (env1 := env) (σ1 := σ) (k1.trans k2) fun _ h => h).trans E3)⟩
/-- d = {} -/
theorem psv_dnew {i : Nat} {x : Str} {pos' dpos : Pos} (hN : X.N.Nodup) (hi : X.N[i]? = some x) (hx : locB X.env.scope x = true) (hs : swapsWith (.Dict [] [] dpos) (some (.Name x pos')) pos.line X.env = pure false) (hf : fnB X x = true) :
    PSV X (.Assign [.Name x pos'] (.Dict [] [] dpos) pos) (tAsg tDNewK (gName i)) (sDNew i) := ⟨ps_set hN hi (loc_of hx) pe_dnewK hs (fn_of' hf), fun g env w σ H D fl env' w' hK I hf F p hp => by
  obtain ⟨e, rfl⟩ := pure_get hf
  cases e
  obtain ⟨k1, d1⟩ := I.new (o := dkO []) hp
  obtain ⟨I1, E1⟩ := I.setOw (bb := true) (vs := []) (xs := []) (newAt I (Keep.refl _ _) hp) k1 d1 ⟨_, upd_same, [], rfl, rfl⟩ .nil i
  exact F _ _ I1 E1⟩
abbrev rSortDI : List V → Hp → VK → Prop := fun xs H Q => ∃ (a : Addr) (kvs : List (Key × V)) (ks : List Int), xs = [.ref a] ∧ Rd H a (.dK kvs) ∧ kvs.map (·.1) = ks.map Sum.inl ∧ ks.length < 64 ∧
    ∀ (ys : List Int) (p : Addr), ys.Perm ks → ys.Pairwise (· ≤ ·) → H p = none → Q (.ref p) (upd H p (.lst (ys.map V.int)))
/-- sorted(d) -/
theorem plv_sortD {i : Nat} {x : Str} {p px : Pos} (hc : X.calm = true) (hm : X.mg "sorted" = none) (hN : X.N[i]? = some x) (hv : visB X.env.scope x = true) (hd : dunB x = true) (hg : Gl X "sorted") (hst : starEach [.Name x px] X.env = (false, eval (.Name x px) X.env) :: starEach [] X.env) (hpl : (backTo pos (starEach [] X.env)).any (·.1) = false) :
    PLV X m (.Call (.Name "sorted" p) [.Name x px] [] pos) (tCB rSortDI (tCons (tVar i) tNil)) (xSortD i) :=
  ⟨pe_callB (call_sortedDI hc) hg hm (by decide +kernel) (pa_cons (pe_var hN (vis_of hv) (dun1 hd) (dun2 hd)) pa_nil hst) (by decide) (by decide) hst hpl, fun g env w σ H Q y w' hK I hf q => by
    unfold xSortD at hf
    cases e1 : env[i]? with
    | none => rw [e1] at hf; cases hf
    | some s =>
      rw [e1] at hf
      cases s with
      | ow bb xs =>
        cases bb with
        | false => cases hf
        | true =>
        obtain ⟨hl, hf⟩ := ite_get hf
        obtain ⟨rfl, rfl⟩ := pure_get hf
        obtain ⟨a, kvs, ea, ha, ra, _⟩ := I.owD i xs e1
        have ek := dkeys_ok kvs ra
        refine ⟨_, ea, a, kvK kvs, dKeys xs, rfl, .inl ha, by rw [ek]; simp [kvK], hl, fun ys p hp h2 hn => ?_⟩
        have e5 : ys = sortI (dKeys xs) := sorted_unique (hp.trans (sortI_perm _).symm) h2 (sortI_sorted _)
        rw [e5]
        obtain ⟨k2, d2⟩ := I.new (o := .lst ((sortI (dKeys xs)).map V.int)) hn
        exact q p _ _ (newAt I (Keep.refl _ _) hn) k2 d2 upd_same (Reps.ints_map _)
      | _ => cases hf⟩
end
end VE

/-! walks over dicts that a def alone holds; chains of three -/
namespace VE
open PySem PySem.Spec L2
open PyProof.Rows hiding St
def Gh.at {K : PySem.W.Frag} (g : Gh K) (a : Addr) : Gh K := { g with wd := a }
theorem noWalk_get {env : En} (h : noWalk env = true) (j : Nat) : env[j]? ≠ some (.st 9) := fun e => by
  unfold noWalk at h
  rw [List.all_eq_true] at h
  have := h _ (List.mem_of_getElem? e)
  cases this
section
variable {K : PySem.W.Frag} {g g' : Gh K} {m : Bool} {env : En} {w w' : W} {σ : SS} {H H' : Hp}
/-- the dict at i is walked -/
theorem StOk.lock (I : StOk g env w σ H) {i : Nat} {a : Addr} {xs : List PyData} {u : HO} (hi : env[i]? = some (.ow true xs)) (ha : σ[i]? = some (some (.ref a))) (hw : noWalk env = true) :
    StOk (g.at a) (env.set i (.st 9)) w σ (upd H a u) := by
  have own_a : ownA env σ a := ⟨i, true, xs, hi, ha⟩
  have na : ¬ g.T a := I.owNT own_a
  obtain ⟨a', kvs', ea, _, _, h0, _⟩ := I.owD i xs hi
  rw [ha] at ea
  cases ea
  have own' : ∀ b, ownA (env.set i (.st 9)) σ b → ownA env σ b := fun b ⟨j, b1, zs, h1, h2⟩ => by
    rcases set_get h1 with ⟨_, e⟩ | ⟨hj, h1⟩
    · cases e
    · exact ⟨j, b1, zs, h1, h2⟩
  have av' : ∀ b, av (g.at a) true (env.set i (.st 9)) σ b → av g true env σ b := fun b h => h.elim .inl fun q => .inr ⟨rfl, own' b q.2⟩
  have k : ∀ b o, ¬ av g true env σ b → H b = some o → upd H a u b = some o := fun b o n e => by
    rw [upd_ne (show b ≠ a from fun z => n (.inr ⟨rfl, by rw [z]; exact own_a⟩))]; exact e
  have live' : ∀ b, H b ≠ none → upd H a u b ≠ none := fun b e => by
    by_cases z : b = a
    · subst z; rw [upd_same]; simp
    · rw [upd_ne z]; exact e
  refine ⟨by rw [List.length_set, I.len], fun j y h => ?_, fun j b1 zs h => ?_, fun j kk h => ?_, fun j ns h => ?_, fun j j2 b1 b2 zs zs2 b h1 h2 h3 h4 => ?_, fun b h => live' b (I.live b h), ⟨fun b o n e => ?_, fun b e => live' b (I.keep.live b e)⟩, ?_⟩
  · rcases set_get h with ⟨rfl, e⟩ | ⟨hj, h⟩
    · cases e
    · obtain ⟨u, e, q⟩ := I.sh j y h
      exact ⟨u, e, q.mon k av'⟩
  · rcases set_get h with ⟨rfl, e⟩ | ⟨hj, h⟩
    · cases e
    · obtain ⟨b, vs, e, ⟨o, q, ho⟩, s, n, t⟩ := I.ow j b1 zs h
      refine ⟨b, vs, e, ⟨o, ?_, ho⟩, s.mon k av', n, t⟩
      rw [upd_ne (show b ≠ a from fun z => by subst z; exact hj (I.dist j i _ _ zs xs b h hi e ha))]
      exact q
  · rcases set_get h with ⟨rfl, e⟩ | ⟨hj, h⟩
    · cases e; exact ⟨fun z => absurd rfl z, fun _ => ha, fun z => nomatch z⟩
    · refine ⟨(I.st j kk h).1, fun z => ?_, (I.st j kk h).2.2⟩
      subst z
      exact absurd h (noWalk_get hw j)
  · rcases set_get h with ⟨rfl, e⟩ | ⟨hj, h⟩
    · cases e
    · obtain ⟨b, e, s⟩ := I.fz j ns h
      exact ⟨b, e, s.mono k av'⟩
  · rcases set_get h1 with ⟨_, e⟩ | ⟨hj, h1⟩
    · cases e
    · rcases set_get h2 with ⟨_, e⟩ | ⟨hj2, h2⟩
      · cases e
      · exact I.dist j j2 b1 b2 zs zs2 b h1 h2 h3 h4
  · have e' := I.keep.at_ b o n e
    rw [upd_ne (show b ≠ a from fun z => by
      rw [z] at e
      have e : g.H0 a = some o := e
      rw [h0] at e; cases e)]
    exact e'
  · refine g.drk w H _ I.dr fun b z => ?_
    rw [upd_ne]
    intro e
    subst e
    exact na (g.zt b z)
/-- .. and is walked no more -/
theorem StOk.unlock {wd0 : Addr} (I : StOk g env w σ H) {i : Nat} {od : Obj} {xs : List PyData} {kvs : List (Int × V)} (hi : env[i]? = some (.st 9)) (hH : H g.wd = some (.frz od (dkO kvs))) (r : Reps K (av g true env σ) H (layV kvs) xs)
    (no : ¬ ownA env σ g.wd) (nt : ¬ g.T g.wd) (h0 : g.H0 g.wd = none) (hw : noWalk (env.set i .no) = true) : StOk (g.at wd0) (env.set i (.ow true xs)) w σ (upd H g.wd (dkO kvs)) := by
  have ha := (I.st i 9 hi).2.1 rfl
  have n1 : ∀ vs, ¬ Rd H g.wd (.lst vs) := fun vs z => by
    rcases z with z | ⟨o, z⟩ <;> (rw [hH] at z; cases z)
  have n2 : ∀ vs, ¬ Rd H g.wd (.tup vs) := fun vs z => by
    rcases z with z | ⟨o, z⟩ <;> (rw [hH] at z; cases z)
  have own' : ∀ b, ownA (env.set i (.ow true xs)) σ b → ownA env σ b ∨ b = g.wd := fun b ⟨j, b1, zs, h1, h2⟩ => by
    rcases set_get h1 with ⟨rfl, e⟩ | ⟨hj, h1⟩
    · rw [ha] at h2; cases h2; exact .inr rfl
    · exact .inl ⟨j, b1, zs, h1, h2⟩
  have av' : ∀ b, av (g.at wd0) true (env.set i (.ow true xs)) σ b → av g true env σ b ∨ b = g.wd := fun b h => h.elim (fun t => .inl (.inl t)) fun q => (own' b q.2).imp (fun z => .inr ⟨rfl, z⟩) id
  have k : ∀ b o, ¬ (av g true env σ b ∨ b = g.wd) → H b = some o → upd H g.wd (dkO kvs) b = some o := fun b o n e => by
    rw [upd_ne (show b ≠ g.wd from fun z => n (.inr z))]; exact e
  have live' : ∀ b, H b ≠ none → upd H g.wd (dkO kvs) b ≠ none := fun b e => by
    by_cases z : b = g.wd
    · subst z; rw [upd_same]; simp
    · rw [upd_ne z]; exact e
  refine ⟨by rw [List.length_set, I.len], fun j y h => ?_, fun j b1 zs h => ?_, fun j kk h => ?_, fun j ns h => ?_, fun j j2 b1 b2 zs zs2 b h1 h2 h3 h4 => ?_, fun b h => live' b (I.live b h), ⟨fun b o n e => ?_, fun b e => live' b (I.keep.live b e)⟩, ?_⟩
  · rcases set_get h with ⟨rfl, e⟩ | ⟨hj, h⟩
    · cases e
    · obtain ⟨u, e, q⟩ := I.sh j y h
      exact ⟨u, e, (Rep.avoid n1 n2 y q).mon k av'⟩
  · rcases set_get h with ⟨rfl, e⟩ | ⟨hj, h⟩
    · cases e
      exact ⟨g.wd, layV kvs, ha, ⟨_, upd_same, kvs, rfl, rfl⟩, (Reps.avoid n1 n2 xs r).mon k av', h0, nt⟩
    · obtain ⟨b, vs, e, ⟨o, q, ho⟩, s, n, t⟩ := I.ow j b1 zs h
      refine ⟨b, vs, e, ⟨o, ?_, ho⟩, (Reps.avoid n1 n2 zs s).mon k av', n, t⟩
      rw [upd_ne (show b ≠ g.wd from fun z => by subst z; exact no ⟨j, b1, zs, h, e⟩)]
      exact q
  · rcases set_get h with ⟨rfl, e⟩ | ⟨hj, h⟩
    · cases e
    · refine ⟨(I.st j kk h).1, fun z => ?_, (I.st j kk h).2.2⟩
      subst z
      exact absurd (show (env.set i .no)[j]? = _ by rw [List.getElem?_set_ne (Ne.symm hj)]; exact h) (noWalk_get hw j)
  · rcases set_get h with ⟨rfl, e⟩ | ⟨hj, h⟩
    · cases e
    · obtain ⟨b, e, s⟩ := I.fz j ns h
      exact ⟨b, e, (s.avoid n1).mono k av'⟩
  · rcases set_get h1 with ⟨ej, _⟩ | ⟨hj, h1'⟩
    · rcases set_get h2 with ⟨ej2, _⟩ | ⟨hj2, h2'⟩
      · rw [ej, ej2]
      · rw [ej, ha] at h3; cases h3; exact absurd ⟨j2, b2, zs2, h2', h4⟩ no
    · rcases set_get h2 with ⟨ej2, _⟩ | ⟨hj2, h2'⟩
      · rw [ej2, ha] at h4; cases h4; exact absurd ⟨j, b1, zs, h1', h3⟩ no
      · exact I.dist j j2 b1 b2 zs zs2 b h1' h2' h3 h4
  · have e' := I.keep.at_ b o n e
    rw [upd_ne (show b ≠ g.wd from fun z => by
      rw [z] at e
      have e : g.H0 g.wd = some o := e
      rw [h0] at e; cases e)]
    exact e'
  · refine g.drk w H _ I.dr fun b z => ?_
    rw [upd_ne]
    intro e
    subst e
    exact nt (g.zt _ z)
theorem Reps.eff {env' : En} {σ' : SS} {vs : List V} {xs : List PyData} (r : Reps K (av g true env σ) H vs xs) (E : Eff g g' env σ H env' σ' H') : Reps K (av g' true env' σ') H' vs xs :=
  (Reps.tracked xs r).mon (fun b o n e => E.at_ b o (fun z => n (.inl (av_z z))) (fun z => n (.inl (.inr ⟨rfl, z⟩))) e) fun b z => by
    rcases z with z | ⟨_, z⟩
    · exact (E.t2 b z).imp .inl fun q => q.1
    · exact (E.own b z).imp (fun q => .inr ⟨rfl, q⟩) id
end
theorem endD_get {i : Nat} {xs : List D} {fl : Fl} {env : En} {w : W} {r : (Fl × En) × W} (h : endD i xs fl env w = some r) : fl = .nx ∧ env[i]? = some (.st 9) ∧ noWalk (env.set i .no) = true ∧ r = ((.nx, env.set i (.ow true xs)), w) := by
  obtain ⟨h1, h2⟩ := ite_get h
  rw [Bool.and_eq_true, Bool.and_eq_true] at h1
  obtain ⟨h3, h4⟩ := pure_get (y := r.1) (w' := r.2) h2
  refine ⟨?_, ?_, h1.2, by rw [h3, ← h4]⟩
  · cases fl <;> first | rfl | cases h1.1.1
  · have := h1.1.2
    revert this
    generalize env[i]? = o
    intro q
    unfold is9 at q
    split at q
    · rfl
    · cases q
section
variable {X : Cx} {K : PySem.W.Frag} {m : Bool} {e a b c d tg : Expr} {ta tb tc td : TE} {f f1 f2 h k : EF} {body : List Stmt} {ft : GF} {gt : TG} {ts : TS} {fb : SF} {vs : List Nat} {pos : Pos}
theorem wk_keys {A B : Addr → Prop} {H1 : Hp} {p : Addr} {od : Obj} {kvs : List (Int × V)} (n : ¬ A p) (e : H1 p = some (.frz od (dkO kvs))) : Wk K A B (Itk p od (kvK kvs)) ((kvs.map (·.1)).map .int) H1 := fun H2 k => by
  have e2 := k.at_ p _ n e
  refine ⟨fun i x hx => ?_, e2, by simp⟩
  rw [List.getElem?_map, List.getElem?_map] at hx
  cases q : kvs[i]? with
  | none => rw [q] at hx; cases hx
  | some kv =>
    rw [q] at hx
    cases hx
    refine ⟨⟨e2, by have := (List.getElem?_eq_some_iff.mp q).1; simpa using this⟩, fun v H3 y => ?_⟩
    obtain ⟨rfl, kk, v2, hk, rfl⟩ := y
    rw [List.getElem?_map, q] at hk
    cases hk
    exact ⟨Same.refl _, .int _⟩
theorem vw_forD {i : Nat} (pg : VwG K vs gt ft) (pb : VwS K ts fb) : VwS K (tLock (tFor (iKeys (tVar i)) gt ts)) (sForD i ft fb) := fun g env w σ H D fl envF wF hK I hf F => by
  unfold sForD at hf
  cases e1 : env[i]? with
  | none => rw [e1] at hf; cases hf
  | some s =>
    rw [e1] at hf
    cases s with
    | ow bb xs =>
      cases bb with
      | false => cases hf
      | true =>
        obtain ⟨hw, hf⟩ := ite_get hf
        obtain ⟨⟨fl2, env2⟩, w2, h1, h2⟩ := bind_some.mp hf
        obtain ⟨rfl, e2, hw2, h3⟩ := endD_get h2
        cases h3
        obtain ⟨a, kvs, ea, ha, ra, h0, nt⟩ := I.owD i xs e1
        refine ⟨a, dkO kvs, ha, trivial, fun od => ?_⟩
        have I2 := I.lock (u := .frz od (dkO kvs)) e1 ea hw
        have no2 : ¬ ownA (env.set i (.st 9)) σ a := fun ⟨j, b1, zs, q1, q2⟩ => by
          rcases set_get q1 with ⟨_, e⟩ | ⟨hj, q1⟩
          · cases e
          · exact hj (I.dist j i _ _ zs xs a q1 e1 q2 ea)
        have hk := dkeys_ok kvs ra
        refine ⟨_, ea, a, od, rfl, .inl ⟨kvK kvs, upd_same, ?_⟩⟩
        refine for_core (g1 := (g.at a)) (xs := (dKeys xs).map .int) pg pb I2 ?_ h1 ?_
        · rw [hk]
          exact wk_keys (fun z => z.elim nt fun q => no2 q.2) upd_same
        · intro g3 σ3 H3 I3 E3
          have hH : H3 a = some (.frz od (dkO kvs)) := E3.at_ a _ (fun z => nt (g.zt a z)) no2 upd_same
          have na3 : ¬ g3.T a := fun z => (E3.t2 a z).elim nt fun q => by have := q.1; rw [upd_same] at this; cases this
          have no3 : ¬ ownA env2 σ3 a := fun z => (E3.own a z).elim no2 fun q => by rw [upd_same] at q; cases q
          have ewd : g3.wd = a := E3.wd
          have r2 : Reps K (av (g.at a) true (env.set i (.st 9)) σ) (upd H a (.frz od (dkO kvs))) (layV kvs) xs := ra.mon (fun b o n e => by
              rw [upd_ne (show b ≠ a from fun z => n (.inr ⟨rfl, by rw [z]; exact ⟨i, true, xs, e1, ea⟩⟩))]; exact e) fun b z => z.imp id fun q => ⟨rfl, by
              obtain ⟨j, b1, zs, q1, q2⟩ := q.2
              rcases set_get q1 with ⟨_, e⟩ | ⟨hj, q1⟩
              · cases e
              · exact ⟨j, b1, zs, q1, q2⟩⟩
          have r3 := r2.eff E3
          have h03 : g3.H0 a = none := by rw [E3.h0]; exact h0
          subst ewd
          refine ⟨hH, F σ3 _ (I3.unlock (wd0 := g.wd) e2 hH r3 no3 na3 h03 hw2) ?_⟩
          refine ⟨fun b o nz no e => ?_, fun b e => ?_, fun b q => ?_, E3.t1, fun b t => ?_, E3.z1, fun b z => ?_, E3.h0, E3.sd, E3.kd, rfl, E3.nt⟩
          · have nb : b ≠ g3.wd := fun z => no (by rw [z]; exact ⟨i, true, xs, e1, ea⟩)
            rw [upd_ne nb]
            refine E3.at_ b o nz (fun q => no ?_) (by rw [upd_ne nb]; exact e)
            obtain ⟨j, b1, zs, q1, q2⟩ := q
            rcases set_get q1 with ⟨_, e⟩ | ⟨hj, q1⟩
            · cases e
            · exact ⟨j, b1, zs, q1, q2⟩
          · by_cases z : b = g3.wd
            · subst z; rw [upd_same]; simp
            · rw [upd_ne z]; exact E3.live b (by rw [upd_ne z]; exact e)
          · obtain ⟨j, b1, zs, q1, q2⟩ := q
            rcases set_get q1 with ⟨rfl, e⟩ | ⟨hj, q1⟩
            · have := (I3.st j 9 e2).2.1 rfl
              rw [this] at q2
              cases q2
              exact .inl ⟨j, true, xs, e1, ea⟩
            · rcases E3.own b ⟨j, b1, zs, q1, q2⟩ with ⟨j, b1, zs, q1, q2⟩ | q
              · rcases set_get q1 with ⟨_, e⟩ | ⟨hj, q1⟩
                · cases e
                · exact .inl ⟨j, b1, zs, q1, q2⟩
              · by_cases z : b = g3.wd
                · subst z; rw [upd_same] at q; cases q
                · rw [upd_ne z] at q; exact .inr q
          · rcases E3.t2 b t with t | q
            · exact .inl t
            · by_cases z : b = g3.wd
              · subst z; have := q.1; rw [upd_same] at this; cases this
              · have q1 := q.1; rw [upd_ne z] at q1; exact .inr ⟨q1, q.2⟩
          · rcases E3.z2 b z with t | q
            · exact .inl t
            · by_cases z : b = g3.wd
              · subst z; have := q.1; rw [upd_same] at this; cases this
              · have q1 := q.1; rw [upd_ne z] at q1; exact .inr ⟨q1, q.2⟩
    | _ => cases hf
/-- for g in d -/
theorem psv_forD {i : Nat} {x : Str} {px : Pos} (hc : X.calm = true) (hN : X.N[i]? = some x) (hv : visB X.env.scope x = true) (hd : dunB x = true) (hg : PGV X tg vs gt ft) (hb : PSsV X body ts fb) (hp : PassesOwn (model X.prog X.w) X.A X.env X.xe)
    (hs : ∀ v, foldedSetIterable (.Name x px) X.env v = pure v) : PSV X (.For tg (.Name x px) body [] pos) (tLock (tFor (iKeys (tVar i)) gt ts)) (sForD i ft fb) :=
  ⟨ps_lock (ps_for hp hc (pi_keys (pe_var hN (vis_of hv) (dun1 hd) (dun2 hd))) hg.pe hb.pe hs), vw_forD hg.vw hb.vw⟩
end
end VE
/-! ### a chain of three comparisons -/
namespace VE
open PySem PySem.Spec L2
open PyProof.Rows hiding St
def tChain3 (r r' r'' : R2) (ta tb tc td : TE) : TE := fun σ H Q => ta σ H fun x H1 => tb σ H1 fun y H2 => r x y H2 fun z H3 => ∃ k, z = .bl k ∧
  (if k = true then tc σ H3 fun x' H4 => r' y x' H4 fun z' H5 => ∃ k', z' = .bl k' ∧ (if k' = true then td σ H5 fun y' H6 => r'' x' y' H6 Q else Q (.bl false) H5) else Q (.bl false) H3)
section
variable {X : Cx} {K : PySem.W.Frag} {m : Bool} {a b c d : Expr} {ta tb tc td : TE} {f h k l : EF} {pos : Pos}
theorem pe_chain3 {op op' op'' : CmpOp} {r r' r'' : R2} (ho : OpR X (compareOp op) r) (ho' : OpR X (compareOp op') r') (ho'' : OpR X (compareOp op'') r'') (ha : PE X a ta) (hb : PE X b tb) (hc : PE X c tc) (hd : PE X d td)
    (hm : lastMarks [op, op', op''] [b, c, d] = false) : PE X (.Compare a [op, op', op''] [b, c, d] pos) (tChain3 r r' r'' ta tb tc td) := by
  refine ⟨fun pins s σ H Q I h => ?_⟩
  refine Compare_chain (thn (ha.run pins s σ H _ I h) fun v s1 ⟨x, H1, I1, r1, q1⟩ => chain_link (thn (hb.run pins s1 σ H1 _ I1 q1) fun u s2 ⟨y, H2, I2, r2, q2⟩ =>
    thn (ho pins s2 σ H2 x y v u _ I2 r1 r2 q2) fun d s3 ⟨z, H3, I3, r3, k, e, q3⟩ => ?_)) hm
  subst e
  cases r3
  refine wpAny_truthy_bool ?_
  cases k with
  | false => exact ite_ff ⟨.bl false, H3, I3, rfl, q3⟩
  | true =>
    refine ite_tt (chain_link (thn (hc.run pins s3 σ H3 _ I3 q3) fun w' s4 ⟨z', H4, I4, r4, q4⟩ => thn (ho' pins s4 σ H4 y z' u w' _ I4 r2 r4 q4) fun d5 s5 ⟨z5, H5, I5, r5, k5, e5, q5⟩ => ?_))
    subst e5
    cases r5
    refine wpAny_truthy_bool ?_
    cases k5 with
    | false => exact ite_ff ⟨.bl false, H5, I5, rfl, q5⟩
    | true => exact ite_tt (chain_last (thn (hd.run pins s5 σ H5 _ I5 q5) fun w6 s6 ⟨z6, H6, I6, r6, q6⟩ => ho'' pins s6 σ H6 z' z6 w' w6 Q I6 r4 r6 q6))
theorem vw_chain3 {r r' r'' : R2} {F F' F'' : PyData → PyData → Option PyData} (ho : OpV K r F) (ho' : OpV K r' F') (ho'' : OpV K r'' F'') (p : VwE K false ta f) (q : VwE K false tb h) (s : VwE K false tc k) (t : VwE K false td l) : VwE K m (tChain3 r r' r'' ta tb tc td) (xChain3 F F' F'' f h k l) := fun g env w σ H Q x w' hK I hf kk => by
  obtain ⟨y, w1, h1, h2⟩ := bind_some.mp hf
  obtain ⟨z, w2, h3, h4⟩ := bind_some.mp h2
  obtain ⟨b1, w3, h5, h6⟩ := bind_some.mp h4
  obtain ⟨e1, rfl⟩ := lift_get h5
  refine p _ env w σ H _ y _ hK I h1 fun v H1 k1 d1 r1 => ?_
  refine q _ env _ σ H1 _ z _ hK (I.step k1 d1) h3 fun v2 H2 k2 d2 r2 => ?_
  have I2 := (I.step k1 d1).step k2 d2
  obtain ⟨zz, ez, eb⟩ := Option.bind_eq_some_iff.mp e1
  refine ho (av _ false env σ) H2 v v2 y z zz _ (fun a t => I2.avLive t) (r1.keep k2) r2 ez fun t1 H3 s3 r3 => ?_
  have I3 := I2.step (Keep.of_same s3) (I2.same s3)
  have k3 := (k1.trans k2).trans (Keep.of_same s3)
  cases zz with
  | bool bb =>
    have : bb = b1 := by simpa [asB] using eb
    subst this
    cases r3
    refine ⟨bb, rfl, ?_⟩
    cases bb with
    | false =>
      rw [if_neg Bool.false_ne_true] at h6
      rw [if_neg Bool.false_ne_true]
      obtain ⟨rfl, rfl⟩ := pure_get h6
      exact kk _ H3 k3 I3.dr (.bl _)
    | true =>
      rw [if_pos rfl] at h6
      rw [if_pos rfl]
      obtain ⟨u, w4, h7, h8⟩ := bind_some.mp h6
      obtain ⟨b2, w5, h9, h10⟩ := bind_some.mp h8
      obtain ⟨e2, rfl⟩ := lift_get h9
      obtain ⟨z2, ez2, eb2⟩ := Option.bind_eq_some_iff.mp e2
      refine s _ env _ σ H3 _ u _ hK I3 h7 fun v4 H4 k4 d4 r4 => ?_
      have I4 := I3.step k4 d4
      refine ho' (av _ false env σ) H4 v2 v4 z u z2 _ (fun a t => I4.avLive t) (r2.keep ((Keep.of_same s3).trans k4)) r4 ez2 fun t5 H5 s5 r5 => ?_
      have I5 := I4.step (Keep.of_same s5) (I4.same s5)
      have k5 := (k3.trans k4).trans (Keep.of_same s5)
      cases z2 with
      | bool b3 =>
        have : b3 = b2 := by simpa [asB] using eb2
        subst this
        cases r5
        refine ⟨b3, rfl, ?_⟩
        cases b3 with
        | false =>
          rw [if_neg Bool.false_ne_true] at h10
          rw [if_neg Bool.false_ne_true]
          obtain ⟨rfl, rfl⟩ := pure_get h10
          exact kk _ H5 k5 I5.dr (.bl _)
        | true =>
          rw [if_pos rfl] at h10
          rw [if_pos rfl]
          obtain ⟨u6, w6, h11, h12⟩ := bind_some.mp h10
          obtain ⟨b6, w7, h13, h14⟩ := bind_some.mp h12
          obtain ⟨e6, rfl⟩ := lift_get h13
          obtain ⟨rfl, rfl⟩ := pure_get h14
          obtain ⟨z6, ez6, eb6⟩ := Option.bind_eq_some_iff.mp e6
          refine t _ env _ σ H5 _ u6 _ hK I5 h11 fun v6 H6 k6 d6 r6 => ?_
          have I6 := I5.step k6 d6
          refine ho'' (av _ false env σ) H6 v4 v6 u u6 z6 Q (fun a t => I6.avLive t) (r4.keep ((Keep.of_same s5).trans k6)) r6 ez6 fun t7 H7 s7 r7 => ?_
          cases z6 with
          | bool b7 =>
            have : b7 = b6 := by simpa [asB] using eb6
            subst this
            cases r7
            exact kk _ H7 ((k5.trans k6).trans (Keep.of_same s7)) (I6.same s7) (.bl _)
          | _ => simp [asB] at eb6
      | _ => simp [asB] at eb2
  | _ => simp [asB] at eb
theorem pv_chain3 {op op' op'' : CmpOp} {r r' r'' : R2} {F F' F'' : PyData → PyData → Option PyData} (hr : OpR X (compareOp op) r) (ho : OpV X.K r F) (hr' : OpR X (compareOp op') r') (ho' : OpV X.K r' F') (hr'' : OpR X (compareOp op'') r'') (ho'' : OpV X.K r'' F'')
    (p : PV X false a ta f) (q : PV X false b tb h) (s : PV X false c tc k) (t : PV X false d td l) (hm : lastMarks [op, op', op''] [b, c, d] = false) :
    PV X m (.Compare a [op, op', op''] [b, c, d] pos) (tChain3 r r' r'' ta tb tc td) (xChain3 F F' F'' f h k l) := ⟨pe_chain3 hr hr' hr'' p.pe q.pe s.pe t.pe hm, vw_chain3 ho ho' ho'' p.vw q.vw s.vw t.vw⟩
theorem pt_chain3 {op op' op'' : CmpOp} {r r' r'' : R2} (ho : OpR X (compareOp op) r) (ho' : OpR X (compareOp op') r') (ho'' : OpR X (compareOp op'') r'') (ha : PE X a ta) (hb : PE X b tb) (hc : PE X c tc) (hd : PE X d td)
    (hm : lastMarks [op, op', op''] [b, c, d] = false) : PT X (.Compare a [op, op', op''] [b, c, d] pos) (tTest (tChain3 r r' r'' ta tb tc td)) := by
  refine ⟨fun pins s σ H Q I h => ?_⟩
  refine isTrue_chain (thn (ha.run pins s σ H _ I h) fun v s1 ⟨x, H1, I1, r1, q1⟩ => test_link (thn (hb.run pins s1 σ H1 _ I1 q1) fun u s2 ⟨y, H2, I2, r2, q2⟩ =>
    thn (ho pins s2 σ H2 x y v u _ I2 r1 r2 q2) fun d s3 ⟨z, H3, I3, r3, k, e, q3⟩ => ?_)) hm
  subst e
  cases r3
  refine wpAny_truthy_bool ?_
  cases k with
  | false =>
    obtain ⟨k', e', q'⟩ := q3
    cases e'
    exact ite_ff ⟨H3, I3, q'⟩
  | true =>
    refine ite_tt (test_link (thn (hc.run pins s3 σ H3 _ I3 q3) fun w' s4 ⟨z', H4, I4, r4, q4⟩ => thn (ho' pins s4 σ H4 y z' u w' _ I4 r2 r4 q4) fun d5 s5 ⟨z5, H5, I5, r5, k5, e5, q5⟩ => ?_))
    subst e5
    cases r5
    refine wpAny_truthy_bool ?_
    cases k5 with
    | false =>
      obtain ⟨k', e', q'⟩ := q5
      cases e'
      exact ite_ff ⟨H5, I5, q'⟩
    | true =>
      refine ite_tt (test_last (thn (hd.run pins s5 σ H5 _ I5 q5) fun w6 s6 ⟨z6, H6, I6, r6, q6⟩ => thn (ho'' pins s6 σ H6 z' z6 w' w6 _ I6 r4 r6 q6) fun d7 s7 ⟨z7, H7, I7, r7, k7, e7, q7⟩ => ?_))
      subst e7
      cases r7
      exact wpAny_truthy_bool ⟨H7, I7, q7⟩
theorem pt_chain3V {op op' op'' : CmpOp} {r r' r'' : R2} {F F' F'' : PyData → PyData → Option PyData} (hr : OpR X (compareOp op) r) (ho : OpV X.K r F) (hr' : OpR X (compareOp op') r') (ho' : OpV X.K r' F') (hr'' : OpR X (compareOp op'') r'') (ho'' : OpV X.K r'' F'')
    (p : PV X false a ta f) (q : PV X false b tb h) (s : PV X false c tc k) (t : PV X false d td l) (hm : lastMarks [op, op', op''] [b, c, d] = false) :
    PTV X (.Compare a [op, op', op''] [b, c, d] pos) (tTest (tChain3 r r' r'' ta tb tc td)) (xTest (xChain3 F F' F'' f h k l)) := ⟨pt_chain3 hr hr' hr'' p.pe q.pe s.pe t.pe hm, vw_tTest (vw_chain3 ho ho' ho'' p.vw q.vw s.vw t.vw)⟩
end
end VE

/-! a net: an object of the class Streams -/
namespace VE
open PySem PySem.Spec L2
open PyProof.Rows hiding St
structure NetCls (K : PySem.W.Frag) (C : Addr) : Prop where
  cls : Cls K C
  no1 : NoAttr K C "outs"
  no2 : NoAttr K C "goals"
  no3 : NoAttr K C "rooms"
  no4 : NoAttr K C "costs"
  ns : PySem.W.nsIn K mainGlobals "Streams" = some (some (.ref C))
def Fd.name : Fd → Str
  | .goals => "goals"
  | .rooms => "rooms"
  | .costs => "costs"
def NB.at (b : NB) : Fd → Addr
  | .goals => b.a2
  | .rooms => b.a3
  | .costs => b.a4
section
variable {n : NA} {N : Net} {H H' : Hp}
theorem NetAt.ne (h : NetAt n N H) : n.b.od ≠ n.b.a1 ∧ n.b.od ≠ n.b.a2 ∧ n.b.od ≠ n.b.a3 ∧ n.b.od ≠ n.b.a4 ∧ n.b.od ∉ n.ad ∧ n.b.a1 ≠ n.b.a2 ∧ n.b.a1 ≠ n.b.a3 ∧ n.b.a1 ≠ n.b.a4 ∧ n.b.a1 ∉ n.ad ∧
    n.b.a2 ≠ n.b.a3 ∧ n.b.a2 ≠ n.b.a4 ∧ n.b.a2 ∉ n.ad ∧ n.b.a3 ≠ n.b.a4 ∧ n.b.a3 ∉ n.ad ∧ n.b.a4 ∉ n.ad ∧ n.ad.Nodup := by
  have nd := h.nd
  simp only [NA.all, List.nodup_cons, List.mem_cons, not_or] at nd
  obtain ⟨⟨n1, n2, n3, n4, n5⟩, ⟨n6, n7, n8, n9⟩, ⟨n10, n11, n12⟩, ⟨n13, n14⟩, n15, n16⟩ := nd
  exact ⟨n1, n2, n3, n4, n5, n6, n7, n8, n9, n10, n11, n12, n13, n14, n15, n16⟩
theorem NetAt.fd (h : NetAt n N H) (f : Fd) : H (n.b.at f) = some (.lst ((N.fd f).map V.int)) := by
  cases f
  · exact h.go
  · exact h.ro
  · exact h.co
theorem at_all (f : Fd) : n.b.at f ∈ n.all := by cases f <;> simp [NA.all, NB.at]
theorem NetAt.setFd (h : NetAt n N H) (f : Fd) (xs : List Int) : NetAt n (N.setFd f xs) (upd H (n.b.at f) (.lst (xs.map V.int))) := by
  obtain ⟨o1, o2, o3, o4, oa, p12, p13, p14, p1a, p23, p24, p2a, p34, p3a, p4a, nda⟩ := h.ne
  have ina : ∀ (j : Nat) ys a, N.outs[j]? = some ys → n.ad[j]? = some a → (upd H (n.b.at f) (.lst (xs.map V.int))) a = some (.lst (ys.map V.int)) := fun j ys a e1 e2 => by
    have hm := List.mem_of_getElem? e2
    rw [upd_ne (show a ≠ n.b.at f from fun z => by
      subst z
      cases f
      · exact p2a hm
      · exact p3a hm
      · exact p4a hm)]
    exact h.inn j ys a e1 e2
  cases f with
  | goals => exact ⟨by rw [show n.b.at .goals = n.b.a2 from rfl, upd_ne o2]; exact h.ob, by rw [show n.b.at .goals = n.b.a2 from rfl, upd_ne p12]; exact h.ou, upd_same, by rw [show n.b.at .goals = n.b.a2 from rfl, upd_ne (Ne.symm p23)]; exact h.ro, by rw [show n.b.at .goals = n.b.a2 from rfl, upd_ne (Ne.symm p24)]; exact h.co, ina, h.len, h.nd⟩
  | rooms => exact ⟨by rw [show n.b.at .rooms = n.b.a3 from rfl, upd_ne o3]; exact h.ob, by rw [show n.b.at .rooms = n.b.a3 from rfl, upd_ne p13]; exact h.ou, by rw [show n.b.at .rooms = n.b.a3 from rfl, upd_ne p23]; exact h.go, upd_same, by rw [show n.b.at .rooms = n.b.a3 from rfl, upd_ne (Ne.symm p34)]; exact h.co, ina, h.len, h.nd⟩
  | costs => exact ⟨by rw [show n.b.at .costs = n.b.a4 from rfl, upd_ne o4]; exact h.ob, by rw [show n.b.at .costs = n.b.a4 from rfl, upd_ne p14]; exact h.ou, by rw [show n.b.at .costs = n.b.a4 from rfl, upd_ne p24]; exact h.go, by rw [show n.b.at .costs = n.b.a4 from rfl, upd_ne p34]; exact h.ro, upd_same, ina, h.len, h.nd⟩
theorem NetAt.live (h : NetAt n N H) {a : Addr} (q : a ∈ n.all) : H a ≠ none := by
  simp only [NA.all, List.mem_cons] at q
  rcases q with rfl | rfl | rfl | rfl | rfl | q
  · rw [h.ob]; simp
  · rw [h.ou]; simp
  · rw [h.go]; simp
  · rw [h.ro]; simp
  · rw [h.co]; simp
  · obtain ⟨j, hj, rfl⟩ := List.getElem_of_mem q
    rw [h.inn j (N.outs[j]'(by rw [← h.len]; exact hj)) _ (List.getElem?_eq_getElem _) (List.getElem?_eq_getElem hj)]; simp
/-- a new node -/
theorem NetAt.node (h : NetAt n N H) {p : Addr} (hp : H p = none) : NetAt ⟨n.b, n.ad ++ [p]⟩ ⟨N.outs ++ [[]], N.goals, N.rooms, N.costs⟩ (upd (upd H p (.lst [])) n.b.a1 (.lst (n.ad.map V.ref ++ [.ref p]))) := by
  have np : ∀ a, a ∈ n.all → a ≠ p := fun a q z => h.live q (z ▸ hp)
  have nd0 := h.nd
  obtain ⟨o1, o2, o3, o4, oa, p12, p13, p14, p1a, p23, p24, p2a, p34, p3a, p4a, nda⟩ := h.ne
  have m1 : n.b.a1 ∈ n.all := by simp [NA.all]
  refine ⟨by rw [upd_ne o1, upd_ne (np _ (by simp [NA.all]))]; exact h.ob, ?_, by rw [upd_ne (Ne.symm p12), upd_ne (np _ (by simp [NA.all]))]; exact h.go, by rw [upd_ne (Ne.symm p13), upd_ne (np _ (by simp [NA.all]))]; exact h.ro,
    by rw [upd_ne (Ne.symm p14), upd_ne (np _ (by simp [NA.all]))]; exact h.co, fun j xs a e1 e2 => ?_, by simp [h.len], ?_⟩
  · rw [upd_same]
    simp
  · by_cases hj : j < n.ad.length
    · have e2' : n.ad[j]? = some a := by rwa [List.getElem?_append_left hj] at e2
      have e1' : N.outs[j]? = some xs := by rwa [List.getElem?_append_left (by rw [← h.len]; exact hj)] at e1
      have hm : a ∈ n.ad := List.mem_of_getElem? e2'
      rw [upd_ne (show a ≠ n.b.a1 from fun z => p1a (z ▸ hm)), upd_ne (np a (by simp [NA.all, hm]))]
      exact h.inn j xs a e1' e2'
    · rw [List.getElem?_append_right (by omega)] at e2
      rw [List.getElem?_append_right (by rw [← h.len]; omega)] at e1
      have hj0 : j - n.ad.length = 0 := by
        have := (List.getElem?_eq_some_iff.mp e2).1
        simp at this; omega
      rw [hj0] at e2
      rw [← h.len, hj0] at e1
      cases e2; cases e1
      rw [upd_ne (Ne.symm (np _ m1)), upd_same]
      rfl
  · show (n.b.od :: n.b.a1 :: n.b.a2 :: n.b.a3 :: n.b.a4 :: (n.ad ++ [p])).Nodup
    have e : (n.b.od :: n.b.a1 :: n.b.a2 :: n.b.a3 :: n.b.a4 :: (n.ad ++ [p])) = n.all ++ [p] := rfl
    rw [e, List.nodup_append]
    exact ⟨nd0, by simp, fun a ha b hb => by rw [List.mem_singleton] at hb; rw [hb]; exact np a ha⟩
/-- a node's row is changed -/
theorem NetAt.row (h : NetAt n N H) {j : Nat} {a : Addr} (ea : n.ad[j]? = some a) (xs : List Int) : NetAt n ⟨N.outs.set j xs, N.goals, N.rooms, N.costs⟩ (upd H a (.lst (xs.map V.int))) := by
  obtain ⟨o1, o2, o3, o4, oa, p12, p13, p14, p1a, p23, p24, p2a, p34, p3a, p4a, nda⟩ := h.ne
  have hm : a ∈ n.ad := List.mem_of_getElem? ea
  refine ⟨by rw [upd_ne (show n.b.od ≠ a from fun z => oa (z ▸ hm))]; exact h.ob, by rw [upd_ne (show n.b.a1 ≠ a from fun z => p1a (z ▸ hm))]; exact h.ou, by rw [upd_ne (show n.b.a2 ≠ a from fun z => p2a (z ▸ hm))]; exact h.go, by rw [upd_ne (show n.b.a3 ≠ a from fun z => p3a (z ▸ hm))]; exact h.ro,
    by rw [upd_ne (show n.b.a4 ≠ a from fun z => p4a (z ▸ hm))]; exact h.co, fun i ys b e1 e2 => ?_, by rw [List.length_set]; exact h.len, h.nd⟩
  by_cases hi : i = j
  · subst hi
    rw [ea] at e2
    cases e2
    rcases set_get e1 with ⟨_, e⟩ | ⟨z, _⟩
    · subst e; exact upd_same
    · exact absurd rfl z
  · rcases set_get e1 with ⟨z, _⟩ | ⟨_, e1⟩
    · exact absurd z hi
    · rw [upd_ne (show b ≠ a from fun z => by
        subst z
        obtain ⟨hi1, q1⟩ := List.getElem?_eq_some_iff.mp e2
        obtain ⟨hj1, q2⟩ := List.getElem?_eq_some_iff.mp ea
        rcases Nat.lt_or_gt_of_ne hi with l | l
        · exact List.pairwise_iff_getElem.mp nda i j hi1 hj1 l (q1.trans q2.symm)
        · exact List.pairwise_iff_getElem.mp nda j i hj1 hi1 l (q2.trans q1.symm))]
      exact h.inn i ys b e1 e2
end
theorem withN_get {α : Type} {i : Nat} {env : En} {F : Net → M α} {w : W} {r : α × W} (h : withN i env F w = some r) : env[i]? = some (.st 8) ∧ ∃ N, w.ob = some N ∧ F N w = some r := by
  unfold withN at h
  by_cases c : is8 env[i]? = true
  · rw [if_pos c] at h
    refine ⟨?_, ?_⟩
    · revert c
      generalize env[i]? = o
      intro q
      unfold is8 at q
      split at q
      · rfl
      · cases q
    · cases e : w.ob with
      | none => rw [e] at h; cases h
      | some N => rw [e] at h; exact ⟨N, rfl, h⟩
  · rw [if_neg c] at h; cases h
theorem setN_bind {α : Type} {N : Net} {k : Unit → M α} {w : W} {r : α × W} (h : (setN N >>= k) w = some r) : k () ⟨w.pos, w.cells, some N⟩ = some r := by
  obtain ⟨a, w1, h1, h2⟩ := bind_some.mp h
  unfold setN at h1
  cases h1
  exact h2
section
variable {K : PySem.W.Frag} {g g' : Gh K} {m : Bool} {env : En} {w w' : W} {σ : SS} {H H' : Hp}
theorem StOk.net {C : Addr} (nc : NetCls K C) (I : StOk g env w σ H) {i : Nat} (e : env[i]? = some (.st 8)) {N : Net} (eN : w.ob = some N) : ∃ n, g.nt = some n ∧ σ[i]? = some (some (.ref n.b.od)) ∧ NetAt n N H ∧ n.b.C = C := by
  obtain ⟨n, en, es⟩ := (I.st i 8 e).2.2 rfl
  have d := I.dr.2
  rw [en] at d
  obtain ⟨N', e', q⟩ := d
  rw [eN] at e'
  cases e'
  have c1 := g.ntc n en
  rw [nc.ns] at c1
  cases c1
  exact ⟨n, en, es, q, rfl⟩
theorem le_all {n n' : NA} (hb : n'.b = n.b) (had : ∃ more, n'.ad = n.ad ++ more) {a : Addr} (h : a ∈ n.all) : a ∈ n'.all := by
  obtain ⟨more, e⟩ := had
  unfold NA.all at *
  rw [hb, e]
  simp only [List.mem_cons, List.mem_append] at *
  rcases h with h | h | h | h | h | h
  · exact .inl h
  · exact .inr (.inl h)
  · exact .inr (.inr (.inl h))
  · exact .inr (.inr (.inr (.inl h)))
  · exact .inr (.inr (.inr (.inr (.inl h))))
  · exact .inr (.inr (.inr (.inr (.inr (.inl h)))))
/-- the net is changed -/
theorem netKeep (I : StOk g env w σ H) {n n' : NA} {N' : Net} (en : g.nt = some n) (hb : n'.b = n.b) (had : ∃ more, n'.ad = n.ad ++ more) (h1 : ∀ a o, a ∉ n.all → H a = some o → H' a = some o) (h2 : ∀ a, H a ≠ none → H' a ≠ none)
    (h3 : ∀ a, a ∈ n'.all → a ∈ n.all ∨ H a = none) (h4 : NetAt n' N' H') : ∃ g' : Gh K, Keep g g' H H' ∧ g'.dr ⟨w.pos, w.cells, some N'⟩ H' ∧ g'.nt = some n' ∧ ∀ a, g'.T a → g.T a ∨ a ∈ n'.all := by
  have hdj : ∀ m, some n' = some m → ∀ a, a ∈ m.all → ¬ g.Z0 a := fun m e a q z => by
    cases e
    rcases h3 a q with q | q
    · exact g.dj n en a q z
    · exact I.live a (g.zt0 a z) q
  have hnc : ∀ m, some n' = some m → PySem.W.nsIn K mainGlobals "Streams" = some (some (.ref m.b.C)) := fun m e => by cases e; rw [hb]; exact g.ntc n en
  refine ⟨{ g with T := fun a => g.T a ∨ a ∈ n'.all, nt := some n', zt0 := fun a z => .inl (g.zt0 a z), ztn := fun m e a q => by cases e; exact .inr q, dj := hdj, ntc := hnc }, ?_, ?_, rfl, fun a h => h⟩
  · refine ⟨fun a o z e => h1 a o (fun q => z (.inr ⟨n, en, q⟩)) e, h2, fun a t => .inl t, fun a t => ?_, fun a z => ?_, fun a z => ?_, rfl, rfl, rfl, rfl, fun m e => ?_⟩
    · rcases t with t | q
      · exact .inl t
      · rcases h3 a q with q' | q'
        · exact .inl (g.ztn n en a q')
        · exact .inr ⟨q', h4.live q⟩
    · rcases z with z | ⟨m, e, q⟩
      · exact .inl z
      · rw [en] at e; cases e; exact .inr ⟨n', rfl, le_all hb had q⟩
    · rcases z with z | ⟨m, e, q⟩
      · exact .inl (.inl z)
      · cases e
        rcases h3 a q with q | q
        · exact .inl (.inr ⟨n, en, q⟩)
        · exact .inr q
    · rw [en] at e; cases e; exact ⟨n', rfl, hb, had⟩
  · refine ⟨g.drk0 _ _ H H' I.dr.1 fun a z => ?_, N', rfl, h4⟩
    cases q : H a with
    | none => exact absurd q (I.live a (g.zt0 a z))
    | some o => exact h1 a o (fun t => g.dj n en a t z) q
/-- .. by a change of one of its lists -/
theorem netUpd (I : StOk g env w σ H) {n : NA} {N' : Net} {a : Addr} {o : HO} (en : g.nt = some n) (ha : a ∈ n.all) (h4 : NetAt n N' (upd H a o)) : ∃ g' : Gh K, Keep g g' H (upd H a o) ∧ g'.dr ⟨w.pos, w.cells, some N'⟩ (upd H a o) := by
  obtain ⟨g', k, d, _⟩ := netKeep I (n' := n) (N' := N') en rfl ⟨[], by rw [List.append_nil]⟩ (fun b u nb e => by rw [upd_ne (show b ≠ a from fun z => nb (z ▸ ha))]; exact e) (fun b e => by
    by_cases z : b = a
    · subst z; rw [upd_same]; simp
    · rw [upd_ne z]; exact e) (fun b q => .inl q) h4
  exact ⟨g', k, d⟩
end
section
variable {X : Cx} {C : Addr} {m : Bool} {e a b c : Expr} {es : List Expr} {ta tb tc : TE} {tas : TA} {f h k : EF} {fs : AF} {pos : Pos} {i : Nat} {x : Str} {px apos fpos : Pos}
theorem fld_run {K : PySem.W.Frag} (nc : NetCls K C) {σ : SS} {H : Hp} {n : NA} {N : Net} {Q : VK} (es : σ[i]? = some (some (.ref n.b.od))) (h : NetAt n N H) (hC : n.b.C = C) (fd : Fd) (q : Q (.ref (n.b.at fd)) H) : tFld K (tVar i) fd.name σ H Q := by
  subst hC
  refine ⟨_, es, n.b.od, n.b.C, n.b.dx, _, .ref (n.b.at fd), rfl, h.ob, nc.cls, ?_, ?_, q⟩
  · cases fd
    · exact nc.no2
    · exact nc.no3
    · exact nc.no4
  · cases fd <;> rfl
theorem outs_run {K : PySem.W.Frag} (nc : NetCls K C) {σ : SS} {H : Hp} {n : NA} {N : Net} {Q : VK} (es : σ[i]? = some (some (.ref n.b.od))) (h : NetAt n N H) (hC : n.b.C = C) (q : Q (.ref n.b.a1) H) : tFld K (tVar i) "outs" σ H Q := by
  subst hC
  exact ⟨_, es, n.b.od, n.b.C, n.b.dx, _, .ref n.b.a1, rfl, h.ob, nc.cls, nc.no1, rfl, q⟩
theorem atI_ints {T : Addr → Prop} {K : PySem.W.Frag} {H : Hp} {ns : List Int} {z y : D} (e : fIx (.list (ns.map .int)) z = some y) : ∃ i j, z = .int i ∧ L2.atI (ns.map V.int) i = some (.int j) ∧ y = .int j := by
  cases z with
  | int i =>
    have e : atI (ns.map .int) i = some y := e
    unfold atI at e
    obtain ⟨j, e1, e2⟩ := Option.bind_eq_some_iff.mp e
    rw [List.getElem?_map] at e2
    obtain ⟨v, e3, rfl⟩ := Option.map_eq_some_iff.mp e2
    refine ⟨i, v, rfl, ?_, rfl⟩
    unfold L2.atI
    have e1' : L2.ixN (ns.map V.int).length i = some j := by
      rw [List.length_map] at e1 ⊢
      exact e1
    rw [e1']
    show (ns.map V.int)[j]? = _
    rw [List.getElem?_map, e3]
    rfl
  | _ => cases e
/-- self.f[e] -/
theorem pv_nix (fd : Fd) {KK : PySem.W.Frag} (hKK : X.K = KK) (nc : NetCls X.K C) (hN : X.N[i]? = some x) (hv : visB X.env.scope x = true) (hd : dunB x = true) (p : PV X false e ta f) (hb : attributeBase (.Name x px) fd.name X.env (eval (.Name x px) X.env) = eval (.Name x px) X.env) (hs : PlainIx e) :
    PV X m (.Subscript (.Attribute (.Name x px) fd.name apos) e pos) (tOp (rIxL KK) (tFld KK (tVar i) fd.name) ta) (xNIx i fd f) := by
  subst hKK
  refine ⟨pe_ix ix_list (pe_fld (pe_var hN (vis_of hv) (dun1 hd) (dun2 hd)) hb) p.pe hs, fun g env w σ H Q y w' hK I hf q => ?_⟩
  obtain ⟨z, w1, h1, h2⟩ := bind_some.mp hf
  obtain ⟨e8, N1, eN1, h3⟩ := withN_get h2
  obtain ⟨e4, rfl⟩ := lift_get h3
  obtain ⟨n0, en0, es0⟩ := (I.st i 8 e8).2.2 rfl
  have d0 := I.dr.2
  rw [en0] at d0
  obtain ⟨N0, eN0, _⟩ := d0
  obtain ⟨n, en, es, nt, hC⟩ := I.net nc e8 eN0
  refine fld_run nc es nt hC fd ?_
  refine p.vw _ env w σ H _ _ _ hK I h1 fun {g1} v H1 k1 d1 r1 => ?_
  obtain ⟨n1, en1, es1, nt1, hC1⟩ := (I.step k1 d1).net nc e8 eN1
  obtain ⟨i0, j0, rfl, e5, rfl⟩ := atI_ints (T := fun _ => False) (K := X.K) (H := H1) e4
  cases r1
  have eb : n1.b = n.b := by
    obtain ⟨n2, e2, b2, _⟩ := k1.nt n en
    rw [en1] at e2
    cases e2
    exact b2
  rw [← eb]
  exact ⟨_, _, i0, .int j0, rfl, rfl, SqL.of (nt1.fd fd), e5, q _ H1 k1 d1 (.int _)⟩
theorem len_sq {K : PySem.W.Frag} {H : Hp} {p : Addr} {vs : List V} (e : H p = some (.lst vs)) : LenV K (.ref p) H vs.length := .inl ⟨vs, SqL.of e, rfl⟩
/-- len(self.f) -/
theorem pv_nlen (fd : Fd) {p : Pos} {KK : PySem.W.Frag} (hKK : X.K = KK) (nc : NetCls X.K C) (hm : X.mg "len" = none) (hN : X.N[i]? = some x) (hv : visB X.env.scope x = true) (hd : dunB x = true) (hb : attributeBase (.Name x px) fd.name X.env (eval (.Name x px) X.env) = eval (.Name x px) X.env) (hg : Gl X "len")
    (he : starEach [.Attribute (.Name x px) fd.name apos] X.env = (false, eval (.Attribute (.Name x px) fd.name apos) X.env) :: starEach [] X.env) (hpl : (backTo pos (starEach [] X.env)).any (·.1) = false) :
    PV X m (.Call (.Name "len" p) [.Attribute (.Name x px) fd.name apos] [] pos) (tCB (fun xs H Q => ∃ x n, xs = [x] ∧ LenV KK x H n ∧ Q (.int n) H) (tCons (tFld KK (tVar i) fd.name) tNil)) (xNLen i fd) := by
  subst hKK
  refine ⟨pe_callB call_len hg hm PySem.boot_len (pa_cons (pe_fld (pe_var hN (vis_of hv) (dun1 hd) (dun2 hd)) hb) pa_nil he) (by decide) (by decide) he hpl, fun g env w σ H Q y w' hK I hf q => ?_⟩
  obtain ⟨e8, N1, eN1, h3⟩ := withN_get hf
  obtain ⟨rfl, rfl⟩ := pure_get h3
  obtain ⟨n, en, es, nt, hC⟩ := I.net nc e8 eN1
  refine fld_run nc es nt hC fd ?_
  refine ⟨_, _, rfl, len_sq (nt.fd fd), ?_⟩
  rw [List.length_map]
  exact q _ H (Keep.refl _ _) I.dr (.int _)
theorem pv_nlenO {p : Pos} {KK : PySem.W.Frag} (hKK : X.K = KK) (nc : NetCls X.K C) (hm : X.mg "len" = none) (hN : X.N[i]? = some x) (hv : visB X.env.scope x = true) (hd : dunB x = true) (hb : attributeBase (.Name x px) "outs" X.env (eval (.Name x px) X.env) = eval (.Name x px) X.env) (hg : Gl X "len")
    (he : starEach [.Attribute (.Name x px) "outs" apos] X.env = (false, eval (.Attribute (.Name x px) "outs" apos) X.env) :: starEach [] X.env) (hpl : (backTo pos (starEach [] X.env)).any (·.1) = false) :
    PV X m (.Call (.Name "len" p) [.Attribute (.Name x px) "outs" apos] [] pos) (tCB (fun xs H Q => ∃ x n, xs = [x] ∧ LenV KK x H n ∧ Q (.int n) H) (tCons (tFld KK (tVar i) "outs") tNil)) (xNLenO i) := by
  subst hKK
  refine ⟨pe_callB call_len hg hm PySem.boot_len (pa_cons (pe_fld (pe_var hN (vis_of hv) (dun1 hd) (dun2 hd)) hb) pa_nil he) (by decide) (by decide) he hpl, fun g env w σ H Q y w' hK I hf q => ?_⟩
  obtain ⟨e8, N1, eN1, h3⟩ := withN_get hf
  obtain ⟨rfl, rfl⟩ := pure_get h3
  obtain ⟨n, en, es, nt, hC⟩ := I.net nc e8 eN1
  refine outs_run nc es nt hC ?_
  refine ⟨_, _, rfl, len_sq nt.ou, ?_⟩
  rw [List.length_map, nt.len]
  exact q _ H (Keep.refl _ _) I.dr (.int _)
end
end VE

/-! a net: what methods do, calls of methods -/
namespace VE
open PySem PySem.Spec L2
open PyProof.Rows hiding St
section
variable {K : PySem.W.Frag} {g : Gh K} {env : En} {w : W} {σ : SS} {H : Hp}
/-- the net's place, seen from an earlier time -/
theorem StOk.netOf (I : StOk g env w σ H) {i : Nat} (e : env[i]? = some (.st 8)) : ∃ N, w.ob = some N := by
  obtain ⟨n, en, es⟩ := (I.st i 8 e).2.2 rfl
  have d := I.dr.2
  rw [en] at d
  obtain ⟨N, e', _⟩ := d
  exact ⟨N, e'⟩
theorem Keep.netB {g' : Gh K} {H H' : Hp} (k : Keep g g' H H') {n n' : NA} (e : g.nt = some n) (e' : g'.nt = some n') : n'.b = n.b ∧ ∃ more, n'.ad = n.ad ++ more := by
  obtain ⟨n2, e2, b2, m2⟩ := k.nt n e
  rw [e'] at e2
  cases e2
  exact ⟨b2, m2⟩
theorem Keep.netAd {g' : Gh K} {H H' : Hp} (k : Keep g g' H H') {n n' : NA} (e : g.nt = some n) (e' : g'.nt = some n') {j : Nat} {a : Addr} (h : n.ad[j]? = some a) : n'.ad[j]? = some a := by
  obtain ⟨_, more, q⟩ := k.netB e e'
  rw [q, List.getElem?_append_left (List.getElem?_eq_some_iff.mp h).1]
  exact h
end
section
variable {X : Cx} {C : Addr} {m : Bool} {e a b c tg : Expr} {es : List Expr} {ta tb tc : TE} {tas : TA} {f h k : EF} {fs : AF} {pos : Pos} {i : Nat} {x : Str} {px apos fpos cpos spos : Pos} {KK : PySem.W.Frag}
theorem ite_t (p q : Prop) (h : p) : if true = true then p else q := by rw [if_pos rfl]; exact h
theorem reps_nones {K : PySem.W.Frag} {T : Addr → Prop} {H : Hp} : ∀ n : Nat, Reps K T H (List.replicate n V.non) (List.replicate n PyData.none)
  | 0 => .nil
  | n + 1 => .cons .non (reps_nones n)
theorem asI_get {y : D} {n : Int} (h : asI y = some n) : y = .int n := by
  cases y <;> simp [asI] at h
  rw [h]
/-- self.f[k] = e -/
theorem psv_nset (fd : Fd) (hKK : X.K = KK) (nc : NetCls X.K C) (hN : X.N[i]? = some x) (hv : visB X.env.scope x = true) (hd : dunB x = true) (hb : attributeBase (.Name x px) fd.name X.env (eval (.Name x px) X.env) = eval (.Name x px) X.env)
    (q : PV X false b tb k) (p : PV X true e ta f)
    (ha : ∀ v, assign (.Subscript (.Attribute (.Name x px) fd.name apos) b spos) X.env v = (do
      let ov ← holding [v] (eval (.Attribute (.Name x px) fd.name apos) X.env)
      let iv ← holding [v, ov] (eval b X.env)
      standAt spos
      holding [v, ov, iv] (setItem ov iv v)
      release [v, ov, iv] []))
    (hs : swapsWithSole [.Subscript (.Attribute (.Name x px) fd.name apos) b spos] e pos.line X.env = pure false) (hw : swappedStores [.Subscript (.Attribute (.Name x px) fd.name apos) b spos] e X.env = pure none)
    (h1 : (assignEach [.Subscript (.Attribute (.Name x px) fd.name apos) b spos] X.env).map (·.2) = [assign (.Subscript (.Attribute (.Name x px) fd.name apos) b spos) X.env]) :
    PSV X (.Assign [.Subscript (.Attribute (.Name x px) fd.name apos) b spos] e pos) (tAsg ta (gSub (tFld KK (tVar i) fd.name) tb rSetL)) (sNSet i fd k f) := by
  subst hKK
  refine ⟨ps_asg p.pe (pg_sub (pe_fld (pe_var hN (vis_of hv) (dun1 hd) (dun2 hd)) hb) q.pe set_list ha) hs hw h1, fun g env w σ H D fl env' w' hK I hf F => ?_⟩
  obtain ⟨y, w1, h1, h2⟩ := bind_some.mp hf
  obtain ⟨z, w2, h3, h4⟩ := bind_some.mp h2
  obtain ⟨y', w3, h5, h6⟩ := bind_some.mp h4
  obtain ⟨e5, rfl⟩ := lift_get h5
  obtain ⟨z', w4, h7, h8⟩ := bind_some.mp h6
  obtain ⟨e7, rfl⟩ := lift_get h7
  obtain ⟨e8, N, eN, h9⟩ := withN_get h8
  obtain ⟨j, w5, h10, h11⟩ := bind_some.mp h9
  obtain ⟨ej, rfl⟩ := lift_get h10
  have h12 := setN_bind h11
  obtain ⟨e, rfl⟩ := pure_get h12
  cases e
  have ey := asI_get e5
  have ez := asI_get e7
  subst ey; subst ez
  refine p.vw _ env w σ H _ _ _ hK I h1 fun {g1} v H1 k1 d1 r1 => ?_
  cases r1
  have I1 := I.step k1 d1
  obtain ⟨N1, eN1⟩ := I1.netOf e8
  obtain ⟨n, en, es, nt, hC⟩ := I1.net nc e8 eN1
  refine fld_run nc es nt hC fd ?_
  refine q.vw _ env _ σ H1 _ _ _ hK I1 h3 fun {g2} u H2 k2 d2 r2 => ?_
  cases r2
  have I2 := I1.step k2 d2
  obtain ⟨n2, en2, es2, nt2, hC2⟩ := I2.net nc e8 eN
  have eb := (k2.netB en en2).1
  rw [← eb]
  refine ⟨_, _, z', j, rfl, rfl, nt2.fd fd, by rw [List.length_map]; exact ej, ?_⟩
  rw [show ((N.fd fd).map V.int).set j (V.int y') = ((N.fd fd).set j y').map V.int by rw [List.map_set]]
  obtain ⟨g3, k3, d3⟩ := netUpd I2 en2 (at_all fd) (nt2.setFd fd ((N.fd fd).set j y'))
  exact F σ _ (I2.step k3 d3) (Eff.of_keep I ((k1.trans k2).trans k3) fun _ h => h)
/-- self.f.extend(e) -/
theorem psv_next (fd : Fd) (hKK : X.K = KK) (nc : NetCls X.K C) (hN : X.N[i]? = some x) (hv : visB X.env.scope x = true) (hd : dunB x = true) (hb : attributeBase (.Name x px) fd.name X.env (eval (.Name x px) X.env) = eval (.Name x px) X.env)
    (p : PV X true e ta f)
    (hs : swapsWith (.Call (.Attribute (.Attribute (.Name x px) fd.name fpos) "extend" apos) [e] [] cpos) none pos.line X.env = pure false)
    (hbase : attributeBase (.Attribute (.Name x px) fd.name fpos) "extend" X.env (eval (.Attribute (.Name x px) fd.name fpos) X.env) = eval (.Attribute (.Name x px) fd.name fpos) X.env)
    (hfew : ((backTo cpos (starEach [e] X.env)).all (fun x => !x.1) && (backToKw cpos (keywordEach [] X.env)).all (fun x => x.1.isSome)
      && decide ([e].length + ([] : List Keyword).length + (if ([] : List Keyword).isEmpty then 0 else 1) < 30)) = true)
    (hline : (apos.endLine == cpos.line) = true) (hst : starEach [e] X.env = (false, eval e X.env) :: starEach [] X.env) (hplain : (backTo cpos (starEach [] X.env)).any (·.1) = false) :
    PSV X (.Expr (.Call (.Attribute (.Attribute (.Name x px) fd.name fpos) "extend" apos) [e] [] cpos) pos) (tDrop (tBM KK "list" rExtend (tFld KK (tVar i) fd.name) (tCons ta tNil))) (sNExt i fd f) := by
  subst hKK
  refine ⟨ps_expr (pe_bm PySem.F.plainAttrs_list PySem.F.slot_list_extend PySem.F.type_list_extend mt_extend (pe_fld (pe_var hN (vis_of hv) (dun1 hd) (dun2 hd)) hb) (pa_cons p.pe pa_nil hst) hbase hfew hline hst hplain) hs, fun g env w σ H D fl env' w' hK I hf F => ?_⟩
  obtain ⟨y, w1, h1, h2⟩ := bind_some.mp hf
  obtain ⟨ns, w2, h3, h4⟩ := bind_some.mp h2
  obtain ⟨e3, rfl⟩ := lift_get h3
  obtain ⟨e8, N, eN, h5⟩ := withN_get h4
  obtain ⟨hl, h6⟩ := ite_get h5
  have h7 := setN_bind h6
  obtain ⟨e, rfl⟩ := pure_get h7
  cases e
  obtain ⟨N0, eN0⟩ := I.netOf e8
  obtain ⟨n, en, es, nt, hC⟩ := I.net nc e8 eN0
  unfold tDrop tBM
  refine fld_run nc es nt hC fd ?_
  refine ⟨.inl ⟨rfl, _, SqL.of (nt.fd fd)⟩, ?_⟩
  refine p.vw _ env w σ H _ _ _ hK I h1 fun {g1} v H1 k1 d1 r1 => ?_
  have I1 := I.step k1 d1
  obtain ⟨n2, en2, es2, nt2, hC2⟩ := I1.net nc e8 eN
  have eb := (k1.netB en en2).1
  rw [← eb]
  cases y with
  | list ys =>
    cases r1 with
    | lst q1 q2 q3 =>
      obtain ⟨rfl, rfl⟩ := q3.of_ints e3
      refine ⟨_, _, _, _, rfl, rfl, nt2.fd fd, q2, by rw [List.length_map, List.length_map, ← line_eq]; exact hl, ?_⟩
      rw [← List.map_append]
      obtain ⟨g3, k3, d3⟩ := netUpd I1 en2 (at_all fd) (nt2.setFd fd (N.fd fd ++ ns))
      exact F σ _ (I1.step k3 d3) (Eff.of_keep I (k1.trans k3) fun _ h => h)
  | _ => cases e3
/-- self.outs.append([]) -/
theorem psv_nnode {lpos : Pos} (hKK : X.K = KK) (nc : NetCls X.K C) (hN : X.N[i]? = some x) (hv : visB X.env.scope x = true) (hd : dunB x = true) (hb : attributeBase (.Name x px) "outs" X.env (eval (.Name x px) X.env) = eval (.Name x px) X.env)
    (hs : swapsWith (.Call (.Attribute (.Attribute (.Name x px) "outs" fpos) "append" apos) [.List [] lpos] [] cpos) none pos.line X.env = pure false)
    (hbase : attributeBase (.Attribute (.Name x px) "outs" fpos) "append" X.env (eval (.Attribute (.Name x px) "outs" fpos) X.env) = eval (.Attribute (.Name x px) "outs" fpos) X.env)
    (hfew : ((backTo cpos (starEach [.List [] lpos] X.env)).all (fun x => !x.1) && (backToKw cpos (keywordEach [] X.env)).all (fun x => x.1.isSome)
      && decide ([Expr.List [] lpos].length + ([] : List Keyword).length + (if ([] : List Keyword).isEmpty then 0 else 1) < 30)) = true)
    (hline : (apos.endLine == cpos.line) = true) (hst : starEach [.List [] lpos] X.env = (false, eval (.List [] lpos) X.env) :: starEach [] X.env) (hplain : (backTo cpos (starEach [] X.env)).any (·.1) = false) :
    PSV X (.Expr (.Call (.Attribute (.Attribute (.Name x px) "outs" fpos) "append" apos) [.List [] lpos] [] cpos) pos) (tDrop (tBM KK "list" rAppend (tFld KK (tVar i) "outs") (tCons (tLst tNil) tNil))) (sNNode i) := by
  subst hKK
  refine ⟨ps_expr (pe_bm PySem.F.plainAttrs_list PySem.F.slot_list_append PySem.F.type_list_append mt_append (pe_fld (pe_var hN (vis_of hv) (dun1 hd) (dun2 hd)) hb) (pa_cons (pe_lst pa_nil) pa_nil hst) hbase hfew hline hst hplain) hs, fun g env w σ H D fl env' w' hK I hf F => ?_⟩
  obtain ⟨e8, N, eN, h5⟩ := withN_get hf
  obtain ⟨hl, h6⟩ := ite_get h5
  have h7 := setN_bind h6
  obtain ⟨e, rfl⟩ := pure_get h7
  cases e
  obtain ⟨n, en, es, nt, hC⟩ := I.net nc e8 eN
  unfold tDrop tBM
  refine outs_run nc es nt hC ?_
  refine ⟨.inl ⟨rfl, _, SqL.of nt.ou⟩, Nat.zero_le _, fun p hp => ?_⟩
  have hne : n.b.a1 ≠ p := fun z => by have := nt.ou; rw [z, hp] at this; cases this
  refine ⟨_, _, _, rfl, rfl, by rw [upd_ne hne]; exact nt.ou, by rw [List.length_map, nt.len, ← line_eq]; exact hl, ?_⟩
  have n4 := nt.node hp
  obtain ⟨g3, k3, d3, _⟩ := netKeep I (n' := ⟨n.b, n.ad ++ [p]⟩) en rfl ⟨[p], rfl⟩ (H' := upd (upd H p (.lst [])) n.b.a1 (.lst (n.ad.map V.ref ++ [.ref p]))) (fun a o na e => by
      rw [upd_ne (show a ≠ n.b.a1 from fun z => na (by rw [z]; simp [NA.all])), upd_ne (ne_of_none e hp)]; exact e) (fun a e => by
      by_cases z : a = n.b.a1
      · subst z; rw [upd_same]; simp
      · rw [upd_ne z]
        by_cases z2 : a = p
        · subst z2; rw [upd_same]; simp
        · rw [upd_ne z2]; exact e) (fun a q => by
      have q : a ∈ n.all ++ [p] := q
      rcases List.mem_append.mp q with q | q
      · exact .inl q
      · rw [List.mem_singleton] at q; subst q; exact .inr hp) n4
  exact F σ _ (I.step k3 d3) (Eff.of_keep I k3 fun _ h => h)
/-- self.outs[k].append(e) -/
theorem psv_napp {spos : Pos} (hKK : X.K = KK) (nc : NetCls X.K C) (hN : X.N[i]? = some x) (hv : visB X.env.scope x = true) (hd : dunB x = true) (hb : attributeBase (.Name x px) "outs" X.env (eval (.Name x px) X.env) = eval (.Name x px) X.env)
    (q : PV X false b tb k) (hsl : PlainIx b) (p : PV X true e ta f)
    (hs : swapsWith (.Call (.Attribute (.Subscript (.Attribute (.Name x px) "outs" fpos) b spos) "append" apos) [e] [] cpos) none pos.line X.env = pure false)
    (hbase : attributeBase (.Subscript (.Attribute (.Name x px) "outs" fpos) b spos) "append" X.env (eval (.Subscript (.Attribute (.Name x px) "outs" fpos) b spos) X.env) = eval (.Subscript (.Attribute (.Name x px) "outs" fpos) b spos) X.env)
    (hfew : ((backTo cpos (starEach [e] X.env)).all (fun x => !x.1) && (backToKw cpos (keywordEach [] X.env)).all (fun x => x.1.isSome)
      && decide ([e].length + ([] : List Keyword).length + (if ([] : List Keyword).isEmpty then 0 else 1) < 30)) = true)
    (hline : (apos.endLine == cpos.line) = true) (hst : starEach [e] X.env = (false, eval e X.env) :: starEach [] X.env) (hplain : (backTo cpos (starEach [] X.env)).any (·.1) = false) :
    PSV X (.Expr (.Call (.Attribute (.Subscript (.Attribute (.Name x px) "outs" fpos) b spos) "append" apos) [e] [] cpos) pos) (tDrop (tBM KK "list" rAppend (tOp (rIxL KK) (tFld KK (tVar i) "outs") tb) (tCons ta tNil))) (sNApp i k f) := by
  subst hKK
  refine ⟨ps_expr (pe_bm PySem.F.plainAttrs_list PySem.F.slot_list_append PySem.F.type_list_append mt_append (pe_ix ix_list (pe_fld (pe_var hN (vis_of hv) (dun1 hd) (dun2 hd)) hb) q.pe hsl) (pa_cons p.pe pa_nil hst) hbase hfew hline hst hplain) hs, fun g env w σ H D fl env' w' hK I hf F => ?_⟩
  obtain ⟨z, w1, h1, h2⟩ := bind_some.mp hf
  obtain ⟨z', w2, h3, h4⟩ := bind_some.mp h2
  obtain ⟨e3, rfl⟩ := lift_get h3
  obtain ⟨j, w3, h5, h6⟩ := bind_some.mp h4
  obtain ⟨e8, N1, eN1, h7⟩ := withN_get h5
  obtain ⟨ej, rfl⟩ := lift_get h7
  obtain ⟨y, w4, h9, h10⟩ := bind_some.mp h6
  obtain ⟨y', w5, h11, h12⟩ := bind_some.mp h10
  obtain ⟨e11, rfl⟩ := lift_get h11
  obtain ⟨_, N, eN, h13⟩ := withN_get h12
  obtain ⟨xs, w6, h14, h15⟩ := bind_some.mp h13
  obtain ⟨exs, rfl⟩ := lift_get h14
  obtain ⟨hl, h16⟩ := ite_get h15
  have h17 := setN_bind h16
  obtain ⟨e, rfl⟩ := pure_get h17
  cases e
  have ez := asI_get e3
  have ey := asI_get e11
  subst ez; subst ey
  obtain ⟨N0, eN0⟩ := I.netOf e8
  obtain ⟨n, en, es, nt, hC⟩ := I.net nc e8 eN0
  unfold tDrop tBM tOp
  refine outs_run nc es nt hC ?_
  refine q.vw _ env _ σ H _ _ _ hK I h1 fun {g1} u H1 k1 d1 r1 => ?_
  cases r1
  have I1 := I.step k1 d1
  obtain ⟨n1, en1, es1, nt1, hC1⟩ := I1.net nc e8 eN1
  rw [← (k1.netB en en1).1]
  have hj : j < n1.ad.length := by
    rw [nt1.len]
    revert ej
    unfold VE.ixN
    split
    · split
      · intro q; cases q; omega
      · intro q; cases q
    · split
      · intro q; cases q; omega
      · intro q; cases q
  have ea : n1.ad[j]? = some n1.ad[j] := List.getElem?_eq_getElem hj
  have erow : H1 n1.ad[j] = some (.lst (((N1.outs[j]'(by rw [← nt1.len]; exact hj))).map V.int)) := nt1.inn j _ _ (List.getElem?_eq_getElem _) ea
  refine ⟨_, _, z', .ref n1.ad[j], rfl, rfl, SqL.of nt1.ou, ?_, .inl ⟨rfl, _, SqL.of erow⟩, ?_⟩
  · unfold L2.atI
    rw [List.length_map, nt1.len]
    show (VE.ixN N1.outs.length z').bind _ = _
    rw [ej]
    show (n1.ad.map V.ref)[j]? = _
    rw [List.getElem?_map, ea]
    rfl
  refine p.vw _ env _ σ H1 _ _ _ hK I1 h9 fun {g2} v H2 k2 d2 r2 => ?_
  cases r2
  have I2 := I1.step k2 d2
  obtain ⟨n2, en2, es2, nt2, hC2⟩ := I2.net nc e8 eN
  have ea2 := k2.netAd en1 en2 ea
  refine ⟨_, _, _, rfl, rfl, nt2.inn j _ _ exs ea2, by rw [List.length_map, ← line_eq]; exact hl, ?_⟩
  rw [show xs.map V.int ++ [V.int y'] = (xs ++ [y']).map V.int by rw [List.map_append]; rfl]
  obtain ⟨g3, k3, d3⟩ := netUpd I2 en2 (a := n1.ad[j]) (by have := List.mem_of_getElem? ea2; simp [NA.all, this]) (nt2.row ea2 (xs ++ [y']))
  exact F σ _ (I2.step k3 d3) (Eff.of_keep I ((k1.trans k2).trans k3) fun _ h => h)
/-- [None for _ in self.outs] -/
theorem plv_nnones {jt : Nat} {y : Str} {ty npos : Pos} {scope : Scope} (hKK : X.K = KK) (nc : NetCls X.K C) (hc : X.calm = true) (hNd : X.N.Nodup) (hN : X.N[i]? = some x) (hv : visB X.env.scope x = true) (hd : dunB x = true) (hb : attributeBase (.Name x px) "outs" X.env (eval (.Name x px) X.env) = eval (.Name x px) X.env)
    (ok : BlkOk X.N X.env.scope scope [(y, jt)])
    (hg : AnyBlk X scope fun Y => PGV Y (.Name y ty) [jt] (gName jt) (gNm jt)) {cs : Nat} :
    PLV X m (.ListComp (.Constant .none cs npos) [⟨.Name y ty, .Attribute (.Name x px) "outs" fpos, [], 0⟩] scope pos) (tLc (iList KK (tFld KK (tVar i) "outs")) (gName jt) tYes (tC .non) [jt]) (xNNones [jt] i) := by
  subst hKK
  refine ⟨pe_lc (own := [(y, jt)]) hc hNd (pi_list (pe_fld (pe_var hN (vis_of hv) (dun1 hd) (dun2 hd)) hb)) ok (fun s H C cl fp => (hg s H C cl fp).pe) (fun _ _ _ _ _ => pts_nil) (fun _ _ _ _ _ => pe_non) (fun _ => rfl), fun g env w σ H Q ys w' hK I hf q => ?_⟩
  obtain ⟨e1, w1, h1, h2⟩ := bind_some.mp hf
  obtain ⟨_, rfl⟩ := lift_get h1
  obtain ⟨e8, N, eN, h3⟩ := withN_get h2
  obtain ⟨hl, h4⟩ := ite_get h3
  obtain ⟨rfl, rfl⟩ := pure_get h4
  obtain ⟨n, en, es, nt, hC⟩ := I.net nc e8 eN
  unfold tLc iList
  refine outs_run nc es nt hC ?_
  refine ⟨_, rfl, ⟨_, SqL.of nt.ou⟩, fun D hD => ?_⟩
  have hne : n.b.a1 ≠ D := fun z => by have := nt.ou; rw [z, hD] at this; cases this
  have hlen : (n.ad.map V.ref).length = N.outs.length := by rw [List.length_map, nt.len]
  refine ⟨fun t k H' => k = N.outs.length - t ∧ t ≤ N.outs.length ∧ H' = upd H D (.lst (List.replicate t V.non)), ⟨_, rfl, Nat.zero_le _, rfl⟩, ?_⟩
  rintro t k H2 ⟨rfl, ht, rfl⟩
  have e2 : upd H D (.lst (List.replicate t V.non)) n.b.a1 = some (.lst (n.ad.map V.ref)) := by rw [upd_ne hne]; exact nt.ou
  by_cases hlt : t < N.outs.length
  · right
    refine ⟨⟨n.ad.map V.ref, (n.ad.map V.ref)[t]'(by rw [hlen]; exact hlt), SqL.of e2, List.getElem?_eq_getElem _⟩, fun H' => H' = upd H D (.lst (List.replicate (t + 1) V.non)), fun H' e => ⟨N.outs.length - (t + 1), by omega, rfl, hlt, e⟩, fun v H3 yl => ?_⟩
    obtain ⟨rfl, _⟩ := yl
    refine ⟨?_, ?_⟩
    · show (((σ.set jt none).set jt (some v)).set jt none) = σ.set jt none
      rw [List.set_set, List.set_set]
    · unfold tYes
      simp only [↓reduceIte]
      refine ⟨_, upd_same, ?_, ?_⟩
      · rw [List.length_replicate]
        have := line_eq
        omega
      · rw [← List.replicate_succ']
        funext c
        by_cases z : c = D
        · subst z; rw [upd_same, upd_same]
        · rw [upd_ne z, upd_ne z, upd_ne z]
  · left
    have : t = N.outs.length := by omega
    subst this
    obtain ⟨k2, d2⟩ := I.new (o := .lst (List.replicate N.outs.length V.non)) hD
    refine ⟨⟨_, SqL.of e2, by rw [hlen]; exact Nat.le_refl _⟩, q D _ _ (newAt I (Keep.refl _ _) hD) k2 d2 upd_same ?_⟩
    exact reps_nones _
end
end VE

/-! a net: methods as defs, their calls, a new net, a walk over a node's ways -/
namespace VE
open PySem PySem.Spec L2
open PyProof.Rows hiding St
/-- the promise of a method -/
def spN (K : PySem.W.Frag) (C : Addr) (F : List D → Net → Option (D × Net)) : Sp := fun vs H Q _ => ∃ (T : Addr → Prop) (n : NA) (N : Net) (us : List V) (xs : List D) (y : D) (N' : Net),
  vs = .ref n.b.od :: us ∧ n.b.C = C ∧ (∀ a, T a → H a ≠ none) ∧ (∀ a, a ∈ n.all → T a) ∧ Reps K T H us xs ∧ NetAt n N H ∧ F xs N = some (y, N') ∧
  ∀ v H' (T' : Addr → Prop) (n' : NA), (∀ a o, a ∉ n.all → H a = some o → H' a = some o) → (∀ a, H a ≠ none → H' a ≠ none) → n'.b = n.b → (∃ more, n'.ad = n.ad ++ more) → (∀ a, a ∈ n'.all → a ∈ n.all ∨ H a = none) → NetAt n' N' H' →
    (∀ a, T a → T' a) → (∀ a, a ∈ n'.all → T' a) → Rep K T' H' v y → Q v H'
structure MetN (P : Program) (w : World) (K : PySem.W.Frag) (mg : Str → Option Value) (base : Heap) (C : Addr) (x : Str) (k : Nat) (F : List D → Net → Option (D × Net)) : Prop where
  ex : ∃ (f : Addr) (fd : FuncData) (ps : List Str), Meth K C x f ∧ FnOk P w K mg base CX0 k f fd ps (spN K C F) ∧ Binds K fd ps []
  nof : x ≠ "outs" ∧ x ≠ "goals" ∧ x ≠ "rooms" ∧ x ≠ "costs"
section
variable {X : Cx} {C : Addr} {m : Bool} {e a b c tg : Expr} {es : List Expr} {ta tb tc : TE} {tas : TA} {f h k : EF} {fs : AF} {pos : Pos} {i : Nat} {x mn : Str} {px apos fpos cpos spos : Pos} {KK : PySem.W.Frag}
theorem vw_ncall {K : PySem.W.Frag} {F : List D → Net → Option (D × Net)} (nc : NetCls K C) (hn : mn ≠ "outs" ∧ mn ≠ "goals" ∧ mn ≠ "rooms" ∧ mn ≠ "costs") (p : VwA K m tas fs) : VwE K m (tMeth C mn (spN K C F) [] E0 (tVar i) tas) (xNCall i F fs) := fun g env w σ H Q y w' hK I hf q => by
  obtain ⟨xs, w1, h1, h2⟩ := bind_some.mp hf
  obtain ⟨e8, N, eN, h3⟩ := withN_get h2
  obtain ⟨r, w2, h4, h5⟩ := bind_some.mp h3
  obtain ⟨eF, rfl⟩ := lift_get h4
  have h6 := setN_bind h5
  obtain ⟨rfl, rfl⟩ := pure_get h6
  obtain ⟨N0, eN0⟩ := I.netOf e8
  obtain ⟨n, en, es, nt, hC⟩ := I.net nc e8 eN0
  refine ⟨_, es, n.b.od, n.b.dx, _, rfl, by rw [← hC]; exact nt.ob, ?_, ?_⟩
  · obtain ⟨q1, q2, q3, q4⟩ := hn
    simp [List.lookup, beq_false_of_ne q1, beq_false_of_ne q2, beq_false_of_ne q3, beq_false_of_ne q4]
  refine p _ env w σ H _ _ _ hK I h1 fun {g1} us H1 k1 d1 r1 => ?_
  have I1 := I.step k1 d1
  obtain ⟨n1, en1, es1, nt1, hC1⟩ := I1.net nc e8 eN
  rw [← (k1.netB en en1).1, List.append_nil]
  refine ⟨av g1 m env σ, n1, N, us, xs, r.1, r.2, rfl, hC1, fun a t => I1.avLive t, fun a t => .inl (g1.ztn n1 en1 a t), r1, nt1, eF, fun v H' T' n' q1 q2 q3 q4 q5 q6 q7 q8 rv => ?_⟩
  obtain ⟨g2, k2, d2, _, t2⟩ := netKeep I1 en1 q3 q4 q1 q2 q5 q6
  refine q v H' (k1.trans k2) d2 (rv.mon (fun _ _ _ e => e) fun a z => ?_)
  rcases z with z | z
  · rcases t2 a z with z | z
    · exact q7 a (.inl z)
    · exact q8 a z
  · exact q7 a (.inr z)
theorem pv_ncall {n : Nat} {F : List D → Net → Option (D × Net)} {pl : Sem Bool} (hKK : X.K = KK) (nc : NetCls X.K C) (c : MetN X.prog X.w X.K X.mg X.base C mn n F) (hr : Room n X.A) (hN : X.N[i]? = some x) (hv : visB X.env.scope x = true) (hd : dunB x = true) (p : PAV X m (e :: es) tas fs)
    (hst : starEach (e :: es) X.env = (false, eval e X.env) :: starEach es X.env) (hpl : (backTo pos (starEach es X.env)).any (·.1) = false)
    (ht : eval (.Call (.Attribute (.Name x px) mn apos) (e :: es) [] pos) X.env = (do
      let ov ← eval (.Name x px) X.env
      standAt apos.atName
      let (f, first) ← holding [ov] (getMethod ov mn pl)
      callWith pos f first (backTo pos (starEach (e :: es) X.env)) (backToKw pos (keywordEach [] X.env)))) :
    PV X m (.Call (.Attribute (.Name x px) mn apos) (e :: es) [] pos) (tMeth C mn (spN KK C F) [] E0 (tVar i) tas) (xNCall i F fs) := by
  subst hKK
  obtain ⟨fa, fd, ps, me, G, bi⟩ := c.ex
  exact ⟨pe_meth (pe_var hN (vis_of hv) (dun1 hd) (dun2 hd)) nc.cls me G hr bi .nil pass0 p.pe hst hpl ht, vw_ncall nc c.nof p.vw⟩
theorem pv_ncall0 {n : Nat} {F : List D → Net → Option (D × Net)} {pl : Sem Bool} (hKK : X.K = KK) (nc : NetCls X.K C) (c : MetN X.prog X.w X.K X.mg X.base C mn n F) (hr : Room n X.A) (hN : X.N[i]? = some x) (hv : visB X.env.scope x = true) (hd : dunB x = true)
    (ht : eval (.Call (.Attribute (.Name x px) mn apos) [] [] pos) X.env = (do
      let ov ← eval (.Name x px) X.env
      standAt apos.atName
      let (f, first) ← holding [ov] (getMethod ov mn pl)
      callWith pos f first (backTo pos (starEach [] X.env)) (backToKw pos (keywordEach [] X.env)))) :
    PV X m (.Call (.Attribute (.Name x px) mn apos) [] [] pos) (tMeth C mn (spN KK C F) [] E0 (tVar i) tNil) (xNCall i F xNil) := by
  subst hKK
  obtain ⟨fa, fd, ps, me, G, bi⟩ := c.ex
  exact ⟨pe_meth0 (pe_var hN (vis_of hv) (dun1 hd) (dun2 hd)) nc.cls me G hr bi .nil pass0 ht, vw_ncall nc c.nof pav_nil.vw⟩
end
/-! ### a method's body -/
theorem runMeth_get {np nl : Nat} {body : SF} {xs : List D} {N : Net} {y : D} {N' : Net} (h : runMeth np nl body xs N = some (y, N')) :
    xs.length = np ∧ ∃ fl env' w', body (.st 8 :: xs.map .sh ++ List.replicate nl .no) ⟨0, [], some N⟩ = some ((fl, env'), w') ∧ w'.ob = some N' ∧ (fl = .rt y ∨ (fl = .nx ∧ y = .none)) := by
  unfold runMeth at h
  split at h
  · rename_i hl
    refine ⟨hl, ?_⟩
    split at h
    · rename_i v env' w' e
      cases q : w'.ob with
      | none => rw [q] at h; cases h
      | some n => rw [q] at h; cases h; exact ⟨_, env', w', e, q, .inl rfl⟩
    · rename_i env' w' e
      cases q : w'.ob with
      | none => rw [q] at h; cases h
      | some n => rw [q] at h; cases h; exact ⟨_, env', w', e, q, .inr ⟨rfl, rfl⟩⟩
    · cases h
  · cases h
def methGh (K : PySem.W.Frag) (T : Addr → Prop) (H : Hp) (n : NA) (hT : ∀ a, a ∈ n.all → T a) (hC : PySem.W.nsIn K mainGlobals "Streams" = some (some (.ref n.b.C))) : Gh K :=
  { Z0 := fun _ => False, T := T, H0 := H, sd := 0, sc := 0, wd := 0, kd := 0, nt := some n, one := fun h => (nomatch h), dr0 := fun _ _ _ => True, zt0 := fun _ h => h.elim, ztn := fun m e a q => by cases e; exact hT a q, dj := fun _ _ _ _ h => h, ntc := fun m e => by cases e; exact hC, drk0 := fun _ _ _ _ _ _ => trivial }
theorem stok_meth {K : PySem.W.Frag} {T : Addr → Prop} {H : Hp} {us : List V} {xs : List PyData} {Ns : List Str} {nl : Nat} {n : NA} {N : Net} (lv : ∀ a, T a → H a ≠ none) (r : Reps K T H us xs) (hN : Ns.length - (us.length + 1) = nl) (hT : ∀ a, a ∈ n.all → T a) (hC : PySem.W.nsIn K mainGlobals "Streams" = some (some (.ref n.b.C))) (nt : NetAt n N H) :
    StOk (methGh K T H n hT hC) (Slot.st 8 :: xs.map Slot.sh ++ List.replicate nl Slot.no) ⟨0, [], some N⟩ (L2.start Ns (.ref n.b.od :: us)) H := by
  have slot : ∀ (i : Nat) s, (Slot.st 8 :: xs.map Slot.sh ++ List.replicate nl Slot.no)[i]? = some s → (i = 0 ∧ s = .st 8) ∨ (∃ j x, i = j + 1 ∧ s = .sh x ∧ xs[j]? = some x) ∨ s = .no := fun i s h => by
    cases i with
    | zero => exact .inl ⟨rfl, by simpa using h.symm⟩
    | succ i =>
      have h : (xs.map Slot.sh ++ List.replicate nl Slot.no)[i]? = some s := h
      by_cases hi : i < xs.length
      · rw [List.getElem?_append_left (by rw [List.length_map]; exact hi), List.getElem?_map] at h
        cases q : xs[i]? with
        | none => rw [q] at h; cases h
        | some x => rw [q] at h; exact .inr (.inl ⟨i, x, rfl, (Option.some.inj h).symm, q⟩)
      · rw [List.getElem?_append_right (by rw [List.length_map]; omega)] at h
        exact .inr (.inr (List.eq_of_mem_replicate (List.mem_of_getElem? h)))
  have noown : ∀ a, ¬ ownA (Slot.st 8 :: xs.map Slot.sh ++ List.replicate nl Slot.no) (L2.start Ns (.ref n.b.od :: us)) a := fun a ⟨i, b, ys, h, _⟩ => by
    rcases slot i _ h with ⟨_, e⟩ | ⟨_, x, _, e, _⟩ | e <;> cases e
  refine ⟨?_, fun i x h => ?_, fun i b ys h => ?_, fun i kk h => ?_, fun i ns h => ?_, fun i j b c ys zs a h _ _ _ => ?_, lv, KeepA.refl _ _, trivial, N, rfl, nt⟩
  · unfold L2.start
    simp only [List.length_append, List.length_map, List.length_cons, List.length_replicate, r.length]
    rw [r.length] at hN
    omega
  · rcases slot i _ h with ⟨_, e⟩ | ⟨j, x', rfl, e, hx⟩ | e
    · cases e
    · cases e
      obtain ⟨v, hv, rv⟩ := r.get hx
      exact ⟨v, start_get (by simpa using hv), rv.mon (fun _ _ _ e => e) fun a z => z.elim id fun z => (noown a z.2).elim⟩
    · cases e
  · rcases slot i _ h with ⟨_, e⟩ | ⟨_, x, _, e, _⟩ | e <;> cases e
  · rcases slot i _ h with ⟨rfl, e⟩ | ⟨_, x, _, e, _⟩ | e
    · cases e
      exact ⟨fun _ z => absurd rfl z, fun z => (nomatch z), fun _ => ⟨n, rfl, start_get rfl⟩⟩
    · cases e
    · cases e
  · rcases slot i _ h with ⟨_, e⟩ | ⟨_, x, _, e, _⟩ | e <;> cases e
  · rcases slot i _ h with ⟨_, e⟩ | ⟨_, x, _, e, _⟩ | e <;> cases e
section
variable {P : Program} {w : World} {K : PySem.W.Frag} {mg : Str → Option Value} {base : Heap} {C : Addr}
theorem fn_meth (nc : NetCls K C) {x qual : Str} {st : Stmt} {f : Addr} {fd : FuncData} {N ps : List Str} {k : Nat} {np nl : Nat} {fb : SF} (F : Fun K x qual st f fd) (S : FnScope N ps (defScope st)) (hnp : ps.length = np + 1) (hnl : N.length - (np + 1) = nl)
    (hb : ∀ (cdv : Value) (A : Around) (outer : List Env) (s : Shared) (H : Hp) (E : XK), Room k (A.deeper (envOfC qual (defScope st) s.heap.objs.size f cdv)) → ∃ t, PSsV (cxOf CX0 P w K mg base N qual (defScope st) f cdv A outer s H E).nox (defBody st) t fb) :
    FnOk P w K mg base CX0 (k + 1) f fd ps (spN K C (runMeth np nl fb)) := by
  refine F.ok S (fun vs H Q E h => ?_) (fun cdv A outer s H vs Q E hr h => ?_)
  · obtain ⟨T, n, N0, us, xs, y, N', rfl, _, _, _, r, _, hF, _⟩ := h
    rw [List.length_cons, r.length, (runMeth_get hF).1, hnp]
  · obtain ⟨t, p⟩ := hb cdv A outer s H E hr
    obtain ⟨T, n, N0, us, xs, y, N', rfl, hC, lv, hT, r, nt, hF, q⟩ := h
    obtain ⟨hl, fl, env', w', e, eo, hfl⟩ := runMeth_get hF
    refine ⟨t, p.pe, ?_⟩
    have hns : PySem.W.nsIn K mainGlobals "Streams" = some (some (.ref n.b.C)) := by rw [hC]; exact nc.ns
    refine p.vw (methGh K T H n hT hns) _ _ _ H _ fl env' w' trivial (stok_meth lv r (by rw [r.length, hl]; exact hnl) hT hns nt) e ?_
    have gZ : ∀ a, (methGh K T H n hT hns).Z a → a ∈ n.all := fun a z => by
      rcases z with z | ⟨m, e, q⟩
      · exact z.elim
      · cases e; exact q
    have fin : ∀ {g' : Gh K} {H' : Hp} {v : V}, NtLe (some n) g'.nt → (∀ a, g'.Z a → (methGh K T H n hT hns).Z a ∨ H a = none) → g'.dr w' H' → (∀ a, T a → g'.T a) → (∀ a o, a ∉ n.all → H a = some o → H' a = some o) → (∀ a, H a ≠ none → H' a ≠ none) → Rep K g'.T H' v y → Q v H' := fun {g' H' v} n1 z2 d t1 a1 l1 rv => by
      obtain ⟨n', en, b', ad'⟩ := n1 n rfl
      have d2 := d.2
      rw [en] at d2
      obtain ⟨N2, eN2, nt2⟩ := d2
      rw [eo] at eN2
      cases eN2
      exact q v H' g'.T n' a1 l1 b' ad' (fun a q => (z2 a (.inr ⟨n', en, q⟩)).imp (gZ a) id) nt2 t1 (fun a q => g'.ztn n' en a q) rv
    rcases hfl with rfl | ⟨rfl, rfl⟩
    · intro g' v H' k d rv
      exact fin k.nt k.z2 d k.t1 (fun a o na e => k.at_ a o (fun z => na (gZ a z)) e) k.live rv
    · intro g' σ' H' I' E'
      exact fin E'.nt (fun a z => (E'.z2 a z).imp_right fun q => q.1) I'.dr E'.t1 (fun a o na e => E'.at_ a o (fun z => na (gZ a z)) (fun ⟨i, b, ys, h, _⟩ => by
        cases i with
        | zero => cases h
        | succ i =>
          have h : (xs.map Slot.sh ++ List.replicate nl Slot.no)[i]? = some (.ow b ys) := h
          by_cases hi : i < xs.length
          · rw [List.getElem?_append_left (by rw [List.length_map]; exact hi), List.getElem?_map] at h
            cases q : xs[i]? with
            | none => rw [q] at h; cases h
            | some x => rw [q] at h; cases h
          · rw [List.getElem?_append_right (by rw [List.length_map]; omega)] at h
            cases List.eq_of_mem_replicate (List.mem_of_getElem? h)) e) E'.live .non
theorem met_mk {x : Str} {f : Addr} {fd : FuncData} {ps : List Str} {k : Nat} {F : List D → Net → Option (D × Net)} (G : FnOk P w K mg base CX0 k f fd ps (spN K C F)) (me : Meth K C x f) (hb : Binds K fd ps []) (hn : x ≠ "outs" ∧ x ≠ "goals" ∧ x ≠ "rooms" ∧ x ≠ "costs") : MetN P w K mg base C x k F := ⟨⟨f, fd, ps, me, G, hb⟩, hn⟩
end
end VE

/-! a new net; a walk over a node's ways -/
namespace VE
open PySem PySem.Spec L2
open PyProof.Rows hiding St
def spInit (C : Addr) : Sp := fun vs H Q _ => ∃ (o dx : Addr), vs = [.ref o] ∧ H o = some (.ins C dx []) ∧ ∀ p1 p2 p3 p4 H', H p1 = none → H p2 = none → H p3 = none → H p4 = none → [p1, p2, p3, p4].Nodup →
  (∀ a u, a ≠ o → H a = some u → H' a = some u) → H' o = some (.ins C dx [("outs", .ref p1), ("goals", .ref p2), ("rooms", .ref p3), ("costs", .ref p4)]) → H' p1 = some (.lst []) → H' p2 = some (.lst []) → H' p3 = some (.lst []) → H' p4 = some (.lst []) → Q .non H'
def tInit (K : PySem.W.Frag) : TS := tSeq (sFld K (tVar 0) (tLst tNil) "outs") (tSeq (sFld K (tVar 0) (tLst tNil) "goals") (tSeq (sFld K (tVar 0) (tLst tNil) "rooms") (sFld K (tVar 0) (tLst tNil) "costs")))
theorem fld_new {K : PySem.W.Frag} {C : Addr} {σ : SS} {H : Hp} {o dx : Addr} {fs : List (Str × V)} {nm : Str} {D : Ends} (c : Cls K C) (no : NoAttr K C nm) (hσ : σ[0]? = some (some (.ref o))) (ho : H o = some (.ins C dx fs)) (hl : fs.length < 1000)
    (q : ∀ p, H p = none → D.nx σ (upd (upd H p (.lst [])) o (.ins C dx (putF nm (.ref p) fs)))) : sFld K (tVar 0) (tLst tNil) nm D σ H := by
  refine ⟨Nat.zero_le _, fun p hp => ⟨_, hσ, o, C, dx, fs, rfl, ?_, c, no, hl, q p hp⟩⟩
  rw [upd_ne (ne_of_none ho hp)]
  exact ho
theorem init_read {K : PySem.W.Frag} {C : Addr} (nc : NetCls K C) {σ : SS} {H : Hp} {o dx : Addr} {D : Ends} (hσ : σ[0]? = some (some (.ref o))) (ho : H o = some (.ins C dx []))
    (q : ∀ p1 p2 p3 p4 H', H p1 = none → H p2 = none → H p3 = none → H p4 = none → [p1, p2, p3, p4].Nodup → (∀ a u, a ≠ o → H a = some u → H' a = some u) →
      H' o = some (.ins C dx [("outs", .ref p1), ("goals", .ref p2), ("rooms", .ref p3), ("costs", .ref p4)]) → H' p1 = some (.lst []) → H' p2 = some (.lst []) → H' p3 = some (.lst []) → H' p4 = some (.lst []) → D.nx σ H') : tInit K D σ H := by
  have back : ∀ {H : Hp} {p a : Addr} {u : HO} {fs : List (Str × V)}, (upd (upd H p u) o (.ins C dx fs)) a = none → H a = none ∧ a ≠ p ∧ a ≠ o := fun {H p a u fs} e => by
    by_cases z : a = o
    · subst z; rw [upd_same] at e; cases e
    · rw [upd_ne z] at e
      by_cases z2 : a = p
      · subst z2; rw [upd_same] at e; cases e
      · rw [upd_ne z2] at e; exact ⟨e, z2, z⟩
  refine fld_new nc.cls nc.no1 hσ ho (Nat.zero_lt_succ _) fun p1 h1 => ?_
  refine fld_new nc.cls nc.no2 hσ upd_same (show 1 < 1000 by decide) fun p2 h2 => ?_
  refine fld_new nc.cls nc.no3 hσ upd_same (show 2 < 1000 by decide) fun p3 h3 => ?_
  refine fld_new nc.cls nc.no4 hσ upd_same (show 3 < 1000 by decide) fun p4 h4 => ?_
  obtain ⟨h2a, n21, n2o⟩ := back h2
  obtain ⟨h3a, n32, n3o⟩ := back h3
  obtain ⟨h3b, n31, _⟩ := back h3a
  obtain ⟨h4a, n43, n4o⟩ := back h4
  obtain ⟨h4b, n42, _⟩ := back h4a
  obtain ⟨h4c, n41, _⟩ := back h4b
  have n1o : p1 ≠ o := fun z => by subst z; rw [ho] at h1; cases h1
  refine q p1 p2 p3 p4 _ h1 h2a h3b h4c ?_ (fun a u na e => ?_) upd_same ?_ ?_ ?_ ?_
  · simp only [List.nodup_cons, List.mem_cons, not_or, List.mem_nil_iff]
    exact ⟨⟨Ne.symm n21, Ne.symm n31, Ne.symm n41, not_false⟩, ⟨Ne.symm n32, Ne.symm n42, not_false⟩, ⟨Ne.symm n43, not_false⟩, not_false, .nil⟩
  · have m : ∀ {p}, H p = none → a ≠ p := fun h => ne_of_none e h
    rw [upd_ne na, upd_ne (m h4c), upd_ne na, upd_ne (m h3b), upd_ne na, upd_ne (m h2a), upd_ne na, upd_ne (m h1)]
    exact e
  · rw [upd_ne n1o, upd_ne (Ne.symm n41), upd_ne n1o, upd_ne (Ne.symm n31), upd_ne n1o, upd_ne (Ne.symm n21), upd_ne n1o, upd_same]
  · rw [upd_ne n2o, upd_ne (Ne.symm n42), upd_ne n2o, upd_ne (Ne.symm n32), upd_ne n2o, upd_same]
  · rw [upd_ne n3o, upd_ne (Ne.symm n43), upd_ne n3o, upd_same]
  · rw [upd_ne n4o, upd_same]
theorem StOk.setNet {K : PySem.W.Frag} {g : Gh K} {env : En} {w : W} {σ : SS} {H : Hp} (I : StOk g env w σ H) (i : Nat) {n : NA} (en : g.nt = some n) : StOk g (env.set i (.st 8)) w (σ.set i (some (.ref n.b.od))) H := by
  have own' : ∀ a, ownA (env.set i (.st 8)) (σ.set i (some (.ref n.b.od))) a → ownA env σ a := fun a ⟨j, b, xs, h1, h2⟩ => by
    rcases set_get h1 with ⟨_, e⟩ | ⟨hj, h1⟩
    · cases e
    · rw [List.getElem?_set_ne (Ne.symm hj)] at h2
      exact ⟨j, b, xs, h1, h2⟩
  have av' : ∀ a, av g true (env.set i (.st 8)) (σ.set i (some (.ref n.b.od))) a → av g true env σ a := fun a h => h.elim .inl fun q => .inr ⟨rfl, own' a q.2⟩
  refine ⟨by rw [List.length_set, List.length_set, I.len], fun j y h => ?_, fun j b ys h => ?_, fun j kk h => ?_, fun j ns h => ?_, fun j j2 b c ys zs a h1 h2 h3 h4 => ?_, I.live, I.keep, I.dr⟩
  · rcases set_get h with ⟨rfl, e⟩ | ⟨hj, h⟩
    · cases e
    · obtain ⟨u, e, q⟩ := I.sh j y h
      exact ⟨u, by rw [List.getElem?_set_ne (Ne.symm hj)]; exact e, q.mon (fun _ _ _ e => e) av'⟩
  · rcases set_get h with ⟨rfl, e⟩ | ⟨hj, h⟩
    · cases e
    · obtain ⟨a, vs, e, q, s, n, t⟩ := I.ow j b ys h
      exact ⟨a, vs, by rw [List.getElem?_set_ne (Ne.symm hj)]; exact e, q, s.mon (fun _ _ _ e => e) av', n, t⟩
  · rcases set_get h with ⟨rfl, e⟩ | ⟨hj, h⟩
    · cases e
      have hl : j < σ.length := by
        rw [I.len]
        have := (List.getElem?_eq_some_iff.mp h).1
        simpa using this
      exact ⟨fun _ z => absurd rfl z, fun z => (nomatch z), fun _ => ⟨n, en, by rw [List.getElem?_set_self hl]⟩⟩
    · rw [List.getElem?_set_ne (Ne.symm hj)]; exact I.st j kk h
  · rcases set_get h with ⟨rfl, e⟩ | ⟨hj, h⟩
    · cases e
    · obtain ⟨a, e, s⟩ := I.fz j ns h
      exact ⟨a, by rw [List.getElem?_set_ne (Ne.symm hj)]; exact e, s.mono (fun _ _ _ e => e) av'⟩
  · rcases set_get h1 with ⟨_, e⟩ | ⟨hj, h1⟩
    · cases e
    · rcases set_get h2 with ⟨_, e⟩ | ⟨hj2, h2⟩
      · cases e
      · rw [List.getElem?_set_ne (Ne.symm hj)] at h3
        rw [List.getElem?_set_ne (Ne.symm hj2)] at h4
        exact I.dist j j2 b c ys zs a h1 h2 h3 h4
section
variable {P : Program} {w : World} {K : PySem.W.Frag} {mg : Str → Option Value} {base : Heap} {C : Addr}
theorem fn_init (nc : NetCls K C) {st : Stmt} {f : Addr} {fd : FuncData} {k : Nat} {x qual : Str} (F : Fun K x qual st f fd) (S : FnScope ["self"] ["self"] (defScope st))
    (hb : ∀ (cdv : Value) (A : Around) (outer : List Env) (s : Shared) (H : Hp) (E : XK), Room k (A.deeper (envOfC qual (defScope st) s.heap.objs.size f cdv)) → PSs (cxOf CX0 P w K mg base ["self"] qual (defScope st) f cdv A outer s H E).nox (defBody st) (tInit K)) :
    FnOk P w K mg base CX0 (k + 1) f fd ["self"] (spInit C) := by
  refine F.ok S (fun vs H Q E h => ?_) (fun cdv A outer s H vs Q E hr h => ?_)
  · obtain ⟨o, dx, rfl, _⟩ := h; rfl
  · obtain ⟨o, dx, rfl, ho, q⟩ := h
    exact ⟨_, hb cdv A outer s H E hr, init_read nc rfl ho q⟩
structure MakN (P : Program) (w : World) (K : PySem.W.Frag) (mg : Str → Option Value) (base : Heap) (C : Addr) (k : Nat) : Prop where
  ex : ∃ (f : Addr) (fd : FuncData), Mk K C f ∧ FnOk P w K mg base CX0 k f fd ["self"] (spInit C) ∧ mg "Streams" = some (.ref C) ∧ Binds K fd ["self"] []
end
section
variable {X : Cx} {C : Addr} {m : Bool} {e a b c tg : Expr} {body : List Stmt} {ta tb tc : TE} {f h k : EF} {gt : TG} {ft : GF} {ts : TS} {fb : SF} {vs : List Nat} {pos : Pos} {i : Nat} {x : Str} {px apos fpos cpos spos : Pos} {KK : PySem.W.Frag}
/-- net = Streams() -/
theorem psv_nnew {n : Nat} {pos' p : Pos} (nc : NetCls X.K C) (c : MakN X.prog X.w X.K X.mg X.base C n) (hr : Room (n + 1) X.A) (hN : X.N.Nodup) (hi : X.N[i]? = some x) (hx : locB X.env.scope x = true) (hg : Gl X "Streams") (hs : swapsWith (.Call (.Name "Streams" p) [] [] cpos) (some (.Name x pos')) pos.line X.env = pure false) (hf : fnB X x = true) :
    PSV X (.Assign [.Name x pos'] (.Call (.Name "Streams" p) [] [] cpos) pos) (tAsg (tMake C (spInit C) [] E0 tNil) (gName i)) (sNNew i) := by
  obtain ⟨fa, fd, M, G, hm, hb⟩ := c.ex
  refine ⟨ps_set hN hi (loc_of hx) (pe_make0 M G hr hg hm hb .nil pass0) hs (fn_of' hf), fun g env w σ H D fl env' w' hK I hf F => ?_⟩
  unfold sNNew at hf
  have hob : w.ob = none := by
    cases q : w.ob with
    | none => rfl
    | some N => rw [q] at hf; cases hf
  rw [hob] at hf
  cases hf
  have hnt : g.nt = none := by
    have d := I.dr.2
    cases q : g.nt with
    | none => rfl
    | some n => rw [q] at d; obtain ⟨N, e, _⟩ := d; rw [hob] at e; cases e
  intro o dx h1 h2 hne
  refine ⟨o, dx, rfl, upd_same, fun p1 p2 p3 p4 H' e1 e2 e3 e4 nd kp eo f1 f2 f3 f4 => ⟨rfl, ?_⟩⟩
  have back : ∀ {a}, (upd (upd H dx (.own o)) o (.ins C dx [])) a = none → H a = none ∧ a ≠ o := fun {a} e => by
    by_cases z : a = o
    · subst z; rw [upd_same] at e; cases e
    · rw [upd_ne z] at e
      by_cases z2 : a = dx
      · subst z2; rw [upd_same] at e; cases e
      · rw [upd_ne z2] at e; exact ⟨e, z⟩
  obtain ⟨b1, o1⟩ := back e1
  obtain ⟨b2, o2⟩ := back e2
  obtain ⟨b3, o3⟩ := back e3
  obtain ⟨b4, o4⟩ := back e4
  have keep : ∀ a u, H a = some u → H' a = some u := fun a u e => kp a u (ne_of_none e h1) (by rw [upd_ne (ne_of_none e h1), upd_ne (ne_of_none e h2)]; exact e)
  let na : NA := ⟨⟨o, C, dx, p1, p2, p3, p4⟩, []⟩
  have hall : ∀ a, a ∈ na.all → H a = none := fun a q => by
    have q : a ∈ [o, p1, p2, p3, p4] := q
    simp only [List.mem_cons, List.mem_nil_iff, or_false] at q
    rcases q with rfl | rfl | rfl | rfl | rfl <;> assumption
  have hnat : NetAt na ⟨[], [], [], []⟩ H' := by
    refine ⟨eo, f1, f2, f3, f4, fun j xs a q _ => by simp at q, rfl, ?_⟩
    show (o :: [p1, p2, p3, p4]).Nodup
    refine List.nodup_cons.mpr ⟨?_, nd⟩
    simp only [List.mem_cons, List.mem_nil_iff, or_false, not_or]
    exact ⟨Ne.symm o1, Ne.symm o2, Ne.symm o3, Ne.symm o4⟩
  have hdj : ∀ m, some na = some m → ∀ a, a ∈ m.all → ¬ g.Z0 a := fun m e a q z => by
    cases e
    exact I.live a (g.zt0 a z) (hall a q)
  have hnc : ∀ m, some na = some m → PySem.W.nsIn X.K mainGlobals "Streams" = some (some (.ref m.b.C)) := fun m e => by cases e; exact nc.ns
  let g2 : Gh X.K := { g with T := fun a => g.T a ∨ a ∈ na.all, nt := some na, zt0 := fun a z => .inl (g.zt0 a z), ztn := fun m e a q => by cases e; exact .inr q, dj := hdj, ntc := hnc }
  have k : Keep g g2 H H' := by
    refine ⟨fun a u _ e => keep a u e, fun a e => ?_, fun a t => .inl t, fun a t => ?_, fun a z => ?_, fun a z => ?_, rfl, rfl, rfl, rfl, fun m e => by rw [hnt] at e; cases e⟩
    · cases q : H a with
      | none => exact absurd q e
      | some u => rw [keep a u q]; simp
    · rcases t with t | q
      · exact .inl t
      · exact .inr ⟨hall a q, hnat.live q⟩
    · rcases z with z | ⟨m, e, q⟩
      · exact .inl z
      · rw [hnt] at e; cases e
    · rcases z with z | ⟨m, e, q⟩
      · exact .inl (.inl z)
      · cases e; exact .inr (hall a q)
  have d : g2.dr ⟨w.pos, w.cells, some ⟨[], [], [], []⟩⟩ H' := ⟨g.drk0 _ _ H H' I.dr.1 fun a z => by
    cases q : H a with
    | none => exact absurd q (I.live a (g.zt0 a z))
    | some u => exact keep a u q, _, rfl, hnat⟩
  have I2 := (I.step k d).setNet i (n := na) rfl
  have own' : ∀ a, ownA (env.set i (.st 8)) (σ.set i (some (.ref o))) a → ownA env σ a := fun a ⟨j, b, xs, q1, q2⟩ => by
    rcases set_get q1 with ⟨_, e⟩ | ⟨hj, q1⟩
    · cases e
    · rw [List.getElem?_set_ne (Ne.symm hj)] at q2
      exact ⟨j, b, xs, q1, q2⟩
  exact F _ H' I2 (Eff.of_keep I k own')
theorem chkO_get {O : List (List Int)} {w : W} {r : Unit × W} (h : chkO O w = some r) : (∃ N, w.ob = some N ∧ N.outs = O) ∧ r.2 = w := by
  unfold chkO at h
  cases q : w.ob with
  | none => rw [q] at h; cases h
  | some N =>
    rw [q] at h
    have h : (if N.outs = O then some ((), w) else none) = some r := h
    by_cases c : N.outs = O
    · rw [if_pos c] at h; cases h; exact ⟨⟨N, rfl, c⟩, rfl⟩
    · rw [if_neg c] at h; cases h
theorem forN_core {K : PySem.W.Frag} {p : Addr} {j : Nat} {xs : List Int} {O : List (List Int)} {n : NA} {g1 : Gh K} {env envF : En} {w1 wF : W} {σ : SS} {H1 : Hp} {D : Ends} {fl : Fl} (pg : VwG K vs gt ft) (pb : VwS K ts fb) (I1 : StOk g1 env w1 σ H1) (en : g1.nt = some n) (ea : n.ad[j]? = some p) (eo : O[j]? = some xs)
    (hO : ∃ N, w1.ob = some N ∧ N.outs = O) (h2 : goN O ft fb xs env w1 = some ((fl, envF), wF)) (F1 : Fin g1 env σ H1 D fl envF wF) : tFor (fun _ H R => R (Itl K p) H) gt ts D σ H1 := by
  refine ⟨fun t k σ' H' => k = xs.length - t ∧ t ≤ xs.length ∧ ∃ (g2 : Gh K) (ei : En) (wi : W), StOk g2 ei wi σ' H' ∧ Eff g1 g2 env σ H1 ei σ' H' ∧ (∃ N, wi.ob = some N ∧ N.outs = O) ∧ goN O ft fb (xs.drop t) ei wi = some ((fl, envF), wF), ⟨xs.length, by simp, Nat.zero_le _, g1, env, w1, I1, Eff.refl, hO, by rw [List.drop_zero]; exact h2⟩, ?_⟩
  rintro t k σ2 H2 ⟨rfl, ht, g2, ei, wi, I2, E2, ⟨N, eN, hN⟩, hc⟩
  have erow : H2 p = some (.lst (xs.map V.int)) := by
    obtain ⟨n2, e2, b2, more, q2⟩ := E2.nt n en
    have d := I2.dr.2
    rw [e2] at d
    obtain ⟨N', eN', nt⟩ := d
    rw [eN] at eN'
    cases eN'
    refine nt.inn j xs p (by rw [hN]; exact eo) ?_
    rw [q2, List.getElem?_append_left (List.getElem?_eq_some_iff.mp ea).1]
    exact ea
  by_cases hlt : t < xs.length
  · right
    have hdrop : xs.drop t = xs[t] :: xs.drop (t + 1) := List.drop_eq_getElem_cons hlt
    rw [hdrop] at hc
    unfold goN at hc
    obtain ⟨env1, w3, h5, h6⟩ := bind_some.mp hc
    obtain ⟨e5, rfl⟩ := lift_get h5
    obtain ⟨⟨fl2, env2⟩, w4, h7, h8⟩ := bind_some.mp h6
    have eget : (xs.map V.int)[t]? = some (.int xs[t]) := by rw [List.getElem?_map, List.getElem?_eq_getElem hlt]; rfl
    refine ⟨⟨_, _, SqL.of erow, eget⟩, fun σ' H' => ∃ m', m' < xs.length - t ∧ (m' = xs.length - (t + 1) ∧ t + 1 ≤ xs.length ∧ ∃ (g2 : Gh K) (ei : En) (wi : W), StOk g2 ei wi σ' H' ∧ Eff g1 g2 env σ H1 ei σ' H' ∧ (∃ N, wi.ob = some N ∧ N.outs = O) ∧ goN O ft fb (xs.drop (t + 1)) ei wi = some ((fl, envF), wF)), fun _ _ h => h, fun v H3 y => ?_⟩
    obtain ⟨rfl, y⟩ := y
    have : v = .int xs[t] := Option.some.inj ((y _ (SqL.of erow)).symm.trans eget)
    subst this
    refine pg g2 ei _ σ2 H3 _ (.int xs[t]) env1 _ trivial I2 (.int _) e5 fun σ4 I4 o4 _ _ => ?_
    have E4 : Eff g1 g2 env σ H1 env1 σ4 H3 := E2.trans (Eff.of_keep I2 (Keep.refl _ _) o4)
    refine pb g2 env1 _ σ4 H3 _ fl2 env2 w4 trivial I4 h7 ?_
    cases fl2 with
    | nx =>
      obtain ⟨u, w5, h9, h10⟩ := bind_some.mp h8
      obtain ⟨c1, c2⟩ := chkO_get h9
      have c2 : w5 = w4 := c2
      subst c2
      intro g5 σ' H' I' E'
      exact ⟨xs.length - (t + 1), by omega, rfl, hlt, _, env2, _, I', E4.trans E', c1, h10⟩
    | ct =>
      obtain ⟨u, w5, h9, h10⟩ := bind_some.mp h8
      obtain ⟨c1, c2⟩ := chkO_get h9
      have c2 : w5 = w4 := c2
      subst c2
      intro g5 σ' H' I' E'
      exact ⟨xs.length - (t + 1), by omega, rfl, hlt, _, env2, _, I', E4.trans E', c1, h10⟩
    | bk =>
      obtain ⟨e, rfl⟩ := pure_get h8
      cases e
      intro g5 σ' H' I' E'
      exact F1 σ' H' I' (E4.trans E')
    | rt x =>
      obtain ⟨e, rfl⟩ := pure_get h8
      cases e
      exact F1.after (D := D) E4
  · left
    have e : t = xs.length := by omega
    subst e
    rw [List.drop_length] at hc
    unfold goN at hc
    obtain ⟨e, rfl⟩ := pure_get hc
    cases e
    exact ⟨⟨_, SqL.of erow, by rw [List.length_map]; exact Nat.le_refl _⟩, F1 σ2 H2 I2 E2⟩
/-- for g in self.outs[k] -/
theorem psv_forO (hKK : X.K = KK) (nc : NetCls X.K C) (hc : X.calm = true) (hN : X.N[i]? = some x) (hv : visB X.env.scope x = true) (hd : dunB x = true) (hb : attributeBase (.Name x px) "outs" X.env (eval (.Name x px) X.env) = eval (.Name x px) X.env) (q : PV X false b tb k) (hsl : PlainIx b)
    (hg : PGV X tg vs gt ft) (hbd : PSsV X body ts fb) (hp : PassesOwn (model X.prog X.w) X.A X.env X.xe) (hs : ∀ v, foldedSetIterable (.Subscript (.Attribute (.Name x px) "outs" fpos) b spos) X.env v = pure v) :
    PSV X (.For tg (.Subscript (.Attribute (.Name x px) "outs" fpos) b spos) body [] pos) (tFor (iList KK (tOp (rIxL KK) (tFld KK (tVar i) "outs") tb)) gt ts) (sForO i k ft fb) := by
  subst hKK
  refine ⟨ps_for hp hc (pi_list (pe_ix ix_list (pe_fld (pe_var hN (vis_of hv) (dun1 hd) (dun2 hd)) hb) q.pe hsl)) hg.pe hbd.pe hs, fun g env w σ H D fl env' w' hK I hf F => ?_⟩
  obtain ⟨z, w1, h1, h2⟩ := bind_some.mp hf
  obtain ⟨z', w2, h3, h4⟩ := bind_some.mp h2
  obtain ⟨e3, rfl⟩ := lift_get h3
  obtain ⟨e8, N, eN, h5⟩ := withN_get h4
  obtain ⟨j, w3, h6, h7⟩ := bind_some.mp h5
  obtain ⟨ej, rfl⟩ := lift_get h6
  obtain ⟨xs, w4, h8, h9⟩ := bind_some.mp h7
  obtain ⟨exs, rfl⟩ := lift_get h8
  have ez := asI_get e3
  subst ez
  obtain ⟨N0, eN0⟩ := I.netOf e8
  obtain ⟨n, en, es, nt, hC⟩ := I.net nc e8 eN0
  unfold tFor iList tOp
  refine outs_run nc es nt hC ?_
  refine q.vw _ env _ σ H _ _ _ hK I h1 fun {g1} u H1 k1 d1 r1 => ?_
  cases r1
  have I1 := I.step k1 d1
  obtain ⟨n1, en1, es1, nt1, hC1⟩ := I1.net nc e8 eN
  rw [← (k1.netB en en1).1]
  have hj : j < n1.ad.length := by rw [nt1.len]; exact (List.getElem?_eq_some_iff.mp exs).1
  have ea : n1.ad[j]? = some n1.ad[j] := List.getElem?_eq_getElem hj
  have erow := nt1.inn j xs _ exs ea
  refine ⟨_, _, z', .ref n1.ad[j], rfl, rfl, SqL.of nt1.ou, ?_, _, rfl, ⟨_, SqL.of erow⟩, ?_⟩
  · unfold L2.atI
    rw [List.length_map, nt1.len]
    show (VE.ixN N.outs.length z').bind _ = _
    rw [ej]
    show (n1.ad.map V.ref)[j]? = _
    rw [List.getElem?_map, ea]
    rfl
  · exact forN_core (g1 := g1) hg.vw hbd.vw I1 en1 ea exs ⟨N, eN, rfl⟩ h9 (F.after (Eff.of_keep I (env1 := env) (σ1 := σ) k1 fun _ h => h))
end
end VE
namespace VE
open PySem PySem.Spec L2
open PyProof.Rows hiding St
section
variable {X : Cx} {C : Addr} {pos : Pos} {i : Nat} {x : Str} {px fpos : Pos} {KK : PySem.W.Frag}
/-- name = [None for _ in self.outs], a list that is changed -/
theorem psv_ownNn {jt o : Nat} {y z : Str} {ty py npos cpos : Pos} {scope : Scope} {cs : Nat} (hKK : X.K = KK) (nc : NetCls X.K C) (hc : X.calm = true) (hNd : X.N.Nodup) (hsw : swapsWith (.ListComp (.Constant .none cs npos) [⟨.Name y ty, .Attribute (.Name x px) "outs" fpos, [], 0⟩] scope cpos) (some (.Name z py)) pos.line X.env = pure true)
    (hN : X.N[i]? = some x) (hv : visB X.env.scope x = true) (hd : dunB x = true) (hb : attributeBase (.Name x px) "outs" X.env (eval (.Name x px) X.env) = eval (.Name x px) X.env)
    (ok : BlkOk X.N X.env.scope scope [(y, jt)]) (hg : AnyBlk X scope fun Y => PGV Y (.Name y ty) [jt] (gName jt) (gNm jt)) (hz : X.N[o]? = some z) (hzl : X.env.scope.names.lookup z = some .local) :
    PSV X (.Assign [.Name z py] (.ListComp (.Constant .none cs npos) [⟨.Name y ty, .Attribute (.Name x px) "outs" fpos, [], 0⟩] scope cpos) pos) (tAsg (tLc (iList KK (tFld KK (tVar i) "outs")) (gName jt) tYes (tC .non) [jt]) (gName o)) (sOwn o (xNNones [jt] i)) := by
  subst hKK
  exact ⟨ps_setLc (own := [(y, jt)]) hc hNd hz hzl hsw (pi_list (pe_fld (pe_var hN (vis_of hv) (dun1 hd) (dun2 hd)) hb)) ok (fun s H C cl fp => (hg s H C cl fp).pe) (fun _ _ _ _ _ => pts_nil) (fun _ _ _ _ _ => pe_non) (fun _ => rfl),
    vw_own o (plv_nnones rfl nc hc hNd hN hv hd hb ok hg (pos := cpos) (npos := npos) (cs := cs) (fpos := fpos) (m := true)).vw⟩
end
end VE

namespace VE
open PySem PySem.Spec L2
open PyProof.Rows hiding St
theorem reps3 {K : PySem.W.Frag} {T : Addr → Prop} {H : Hp} {vs : List V} {x y z : D} (r : Reps K T H vs [x, y, z]) : ∃ a b c, vs = [a, b, c] ∧ Rep K T H a x ∧ Rep K T H b y ∧ Rep K T H c z := by
  cases r with
  | cons r1 r =>
    cases r with
    | cons r2 r =>
      cases r with
      | cons r3 r => cases r; exact ⟨_, _, _, rfl, r1, r2, r3⟩
section
variable {X : Cx}
/-- a, b, c = e, e', e'' -/
theorem psv_par3 {i j l : Nat} {x y z : Str} {a b c : Expr} {tas : TA} {fas : AF} {px py pz pt pos : Pos} {kt k2 pt2} (hc : X.calm = true) (hN : X.N.Nodup) (p : PAV X true [a, b, c] tas fas) (hi : X.N[i]? = some x) (hj : X.N[j]? = some y) (hl : X.N[l]? = some z) (hij : i ≠ j) (hil : i ≠ l) (hjl : j ≠ l)
    (hx : X.env.scope.names.lookup x = some .local) (hy : X.env.scope.names.lookup y = some .local) (hz : X.env.scope.names.lookup z = some .local)
    (hw : swappedStores [.Tuple [.Name x px, .Name y py, .Name z pz] kt pt] (.Tuple [a, b, c] k2 pt2) X.env = pure (some [x, y, z]))
    (hs : swapsWithSole [.Tuple [.Name x px, .Name y py, .Name z pz] kt pt] (.Tuple [a, b, c] k2 pt2) pos.line X.env = pure false) :
    PSV X (.Assign [.Tuple [.Name x px, .Name y py, .Name z pz] kt pt] (.Tuple [a, b, c] k2 pt2) pos) (tPar3 i j l tas) (sPar3 i j l fas) := ⟨ps_par3 hc hN hi hj hl hij hil hjl hx hy hz p.pe hw hs, fun g env w σ H D fl env' w' hK I hf F => by
  obtain ⟨xs, w1, h1, h2⟩ := bind_some.mp hf
  refine p.vw _ env w σ H _ xs _ hK I h1 fun vs H1 k1 d1 r1 => ?_
  split at h2
  · rename_i u v t
    obtain ⟨e, rfl⟩ := pure_get h2
    cases e
    obtain ⟨a1, a2, a3, rfl, r, r', r''⟩ := reps3 r1
    refine ⟨a1, a2, a3, rfl, ?_⟩
    have I1 := I.step k1 d1
    have I2 := I1.setSh i (x := u) (v := a1) r
    have I3 := I2.setSh j (x := v) (v := a2) (r'.mon (fun _ _ _ e => e) fun a h => h.elim .inl fun z => .inr ⟨rfl, own_set_sh z.2⟩)
    have I4 := I3.setSh l (x := t) (v := a3) (r''.mon (fun _ _ _ e => e) fun a h => h.elim .inl fun z => .inr ⟨rfl, own_set_sh (own_set_sh z.2)⟩)
    exact F _ H1 I4 (Eff.of_keep I k1 fun a h => own_set_sh (own_set_sh (own_set_sh h)))
  · cases h2⟩
end
end VE

/-! min of a list of pairs -/
namespace VE
open PySem PySem.Spec L2
open PyProof.Rows hiding St
section
open PySem.W
theorem eqvI (i j : Int) : PyData.eqv (.int i) (.int j) = decide (i = j) := by
  unfold PyData.eqv
  exact Bool.beq_eq_decide_eq _ _
theorem alikeI (a b : Int) : PySem.W.alike (.int a) (.int b) = true := by simp only [PySem.W.alike]
theorem dataLt_pair (p q : Int × Int) : dataLt (encP p) (encP q) = ltP p q := by
  unfold encP ltP
  rw [dataLt_tuple, dataLt_cons (alikeI _ _), eqvI]
  by_cases h : p.1 = q.1
  · rw [decide_eq_true h, if_pos rfl, if_pos h, dataLt_cons (alikeI _ _), eqvI]
    by_cases h2 : p.2 = q.2
    · rw [decide_eq_true h2, if_pos rfl, decide_eq_false (by omega)]
      rfl
    · rw [decide_eq_false h2, if_neg Bool.false_ne_true, dataLt_int]
  · rw [decide_eq_false h, if_neg Bool.false_ne_true, if_neg h, dataLt_int]
theorem alike_pair (p q : Int × Int) : PySem.W.alike (encP p) (encP q) = true := by simp only [encP, PySem.W.alike, PySem.W.alikeAll, Bool.and_true]
theorem alike_pairs (ps : List (Int × Int)) : AlikeAll (ps.map encP) := by
  refine ⟨fun x hx y hy => ?_, fun x hx e => ?_⟩
  · obtain ⟨p, _, rfl⟩ := List.mem_map.mp hx
    obtain ⟨q, _, rfl⟩ := List.mem_map.mp hy
    exact alike_pair p q
  · obtain ⟨p, _, rfl⟩ := List.mem_map.mp hx
    cases e
theorem depth_pairs : ∀ ps : List (Int × Int), PyData.depthAll (ps.map encP) ≤ 1
  | [] => by rw [List.map_nil, PyData.depthAll]; omega
  | p :: r => by
    have ih := depth_pairs r
    rw [List.map_cons, PyData.depthAll]
    have : PyData.depth (encP p) ≤ 1 := by
      unfold encP
      simp only [PyData.depth, PyData.depthAll]
      omega
    omega
/-- min of a list of alike data: which one -/
theorem min_list_at {prog : Program} {w : World} {A : Around} {E : Value → Shared → Prop} {s : Shared} {l : Addr} {vs : Array Value} {x : PyData} {xs : List PyData} {as : List Addr} {Q : Value → Shared → Prop} (hh : A.handled = none) (hl : s.heap.IsList l vs) (hr : ReadsAll s.heap vs.toList (x :: xs) as) (ha : AlikeAll (x :: xs)) (hu : A.units + 1 + PyData.depthAll (x :: xs) < cLine)
    (h : ∀ (i : Nat) v h' tk, vs[i]? = some v → (x :: xs).getD i .none = minD x xs → i < (x :: xs).length → (∀ b o, s.heap.get? b = some o → h'.get? b = some o) → Q v { s with heap := h', toks := tk }) :
    wpAny (model prog w) A (call (.builtin "min") [.ref l]) Q E s := by
  have hn : vs.size = xs.length + 1 := readsAll_len hr
  refine call_min_walkH (iter_listW (A := A.in1) hh hl fun s₂ e W st hfp hw hk => ?_)
  refine ⟨_, _, _, _, _, _, _, s.heap, _, rfl, W, st, hfp, by omega, hw, hk, cmpIn_lt (A := A.in1) hr ha (by show A.units + 1 + _ < _; exact hu), fun v s' hP m => ?_⟩
  obtain ⟨h', tk, rfl, hk'⟩ := moved_old e rfl m
  obtain ⟨bs, r, hi, _, _⟩ := readsAll_atA hr _ v hP
  have e1 : vs.size - 1 = xs.length := by omega
  have e2 := (argBest_fold dataLt PyData.none x xs xs.length (Nat.le_refl _)).2
  rw [List.take_length] at e2
  rw [e1] at hP hi
  exact h _ v h' tk hP (by unfold minD; exact e2) hi hk'
theorem minD_pairs : ∀ (r : List (Int × Int)) (a : Int × Int), minD (encP a) (r.map encP) = encP (minP a r) := by
  intro r
  induction r with
  | nil => intro a; rfl
  | cons b r ih =>
    intro a
    show (r.map encP).foldl (fun a y => if dataLt y a then y else a) (if dataLt (encP b) (encP a) then encP b else encP a) = encP (r.foldl _ (if ltP b a then b else a))
    rw [dataLt_pair]
    by_cases h : ltP b a = true
    · rw [if_pos h, if_pos h]; exact ih b
    · rw [if_neg h, if_neg h]; exact ih a
section
variable {X : Cx}
def rMinP (K : PySem.W.Frag) : List V → Hp → VK → Prop := fun vs H Q => ∃ (a : Addr) (xs : List V) (p : Int × Int) (ps : List (Int × Int)), vs = [V.ref a] ∧ SqL K H a xs ∧ DpAll K H xs ((p :: ps).map encP) ∧ ∀ (i : Nat) x, xs[i]? = some x → (p :: ps)[i]? = some (minP p ps) → Q x H
theorem encP_inj {p q : Int × Int} (h : encP p = encP q) : p = q := by
  unfold encP at h
  injection h with h
  injection h with h1 h2
  injection h2 with h2 _
  injection h1 with h1
  injection h2 with h2
  exact Prod.ext h1 h2
theorem cr_minP (hc : X.calm = true) (hu : X.A.units + 64 < cLine) : CallR X (.builtin "min") (rMinP X.K) := by
  intro pins s σ H vs us Q I r h
  obtain ⟨a, xs, p, ps, rfl, hs, hd, q⟩ := h
  obtain ⟨its, rv, hl, _⟩ := I.list hs
  rw [Vals.ref1 r]
  obtain ⟨as, hr⟩ := Dp.readsAll I _ xs its hd rv
  refine min_list_at (vs := its.toArray) (x := encP p) (xs := ps.map encP) (I.ok.hd hc) hl.isList hr (alike_pairs (p :: ps)) (by have := depth_pairs (p :: ps); rw [List.map_cons] at this; omega) fun i v h' tk hi hm hb hk => ?_
  have hi' : its[i]? = some v := by simpa using hi
  have hxl : i < xs.length := by rw [rv.length]; exact (List.getElem?_eq_some_iff.mp hi').1
  obtain ⟨u, hu', ru⟩ := rv.get (List.getElem?_eq_getElem hxl)
  rw [hi'] at hu'
  cases hu'
  refine ⟨_, H, I.kept hk, ru, q i _ (List.getElem?_eq_getElem hxl) ?_⟩
  rw [minD_pairs, ← List.map_cons, List.getD_eq_getElem?_getD, List.getElem?_map] at hm
  have hb' : i < (p :: ps).length := by simpa using hb
  rw [List.getElem?_eq_getElem hb'] at hm ⊢
  exact congrArg some (encP_inj hm)
end
end
section
theorem pairsD_get {K : PySem.W.Frag} {T : Addr → Prop} {H : Hp} : ∀ {xs : List D} {ps : List (Int × Int)}, pairsD xs = some ps → xs = ps.map encP
  | [], ps, h => by cases h; rfl
  | .tuple [.int i, .int j] :: r, ps, h => by
    unfold pairsD at h
    obtain ⟨qs, h1, rfl⟩ := Option.map_eq_some_iff.mp h
    rw [pairsD_get (K := K) (T := T) (H := H) h1]
    rfl
  | .none :: r, ps, h => by cases h
  | .bool _ :: r, ps, h => by cases h
  | .int _ :: r, ps, h => by cases h
  | .str _ :: r, ps, h => by cases h
  | .list _ :: r, ps, h => by cases h
  | .dict _ :: r, ps, h => by cases h
  | .tuple [] :: r, ps, h => by cases h
  | .tuple [x] :: r, ps, h => by cases x <;> cases h
  | .tuple (x :: y :: z :: l) :: r, ps, h => by cases x <;> cases y <;> cases h
  | .tuple [.none, y] :: r, ps, h => by cases y <;> cases h
  | .tuple [.bool _, y] :: r, ps, h => by cases y <;> cases h
  | .tuple [.str _, y] :: r, ps, h => by cases y <;> cases h
  | .tuple [.list _, y] :: r, ps, h => by cases y <;> cases h
  | .tuple [.tuple _, y] :: r, ps, h => by cases y <;> cases h
  | .tuple [.dict _, y] :: r, ps, h => by cases y <;> cases h
  | .tuple [.int _, .none] :: r, ps, h => by cases h
  | .tuple [.int _, .bool _] :: r, ps, h => by cases h
  | .tuple [.int _, .str _] :: r, ps, h => by cases h
  | .tuple [.int _, .list _] :: r, ps, h => by cases h
  | .tuple [.int _, .tuple _] :: r, ps, h => by cases h
  | .tuple [.int _, .dict _] :: r, ps, h => by cases h
theorem minP_mem : ∀ (r : List (Int × Int)) (a : Int × Int), minP a r ∈ a :: r := by
  intro r
  induction r with
  | nil => intro a; exact List.mem_cons_self
  | cons b r ih =>
    intro a
    have e : minP a (b :: r) = minP (if ltP b a then b else a) r := rfl
    rw [e]
    have := ih (if ltP b a then b else a)
    split at this
    · rename_i h; rw [if_pos h]; exact List.mem_cons_of_mem _ this
    · rename_i h; rw [if_neg h]
      rcases List.mem_cons.mp this with q | q
      · rw [q]; exact List.mem_cons_self
      · exact List.mem_cons_of_mem _ (List.mem_cons_of_mem _ q)
end
section
variable {X : Cx} {m : Bool} {K : PySem.W.Frag} {e : Expr} {es : List Expr} {tas : TA} {fs : AF} {pos : Pos}
theorem cv_minA : CalV K (fun xs H Q => ((∃ i j, xs = [.int i, .int j] ∧ Q (.int (if j < i then j else i)) H) ∨ rMin K xs H Q) ∨ rMinP K xs H Q) fMinA := fun T H vs xs z Q lv r e q => by
  unfold fMinA at e
  cases e1 : fMin xs with
  | some y =>
    rw [e1] at e
    have e : some y = some z := e
    cases e
    exact .inl (cv_min T H vs xs _ Q lv r e1 q)
  | none =>
    rw [e1] at e
    have e : fMinP xs = some z := e
    unfold fMinP at e
    split at e
    · obtain ⟨v, rfl, r'⟩ := reps1 r
      cases r' with
      | lst n a s =>
        obtain ⟨ps, e2, e3⟩ := Option.bind_eq_some_iff.mp e
        have ex := pairsD_get (K := K) (T := T) (H := H) e2
        subst ex
        cases ps with
        | nil => cases e3
        | cons p ps =>
          cases e3
          refine .inr ⟨_, _, p, ps, rfl, SqL.of a, Reps.dp _ s, fun i x hx hp => ?_⟩
          have hg : ((p :: ps).map encP)[i]? = some (encP (minP p ps)) := by rw [List.getElem?_map, hp]; rfl
          obtain ⟨v', hv, rv⟩ := s.get hg
          rw [hx] at hv
          cases hv
          exact q _ H (Same.refl H) rv
    · cases e
theorem pv_minA {p : Pos} {j : Nat} {KK : PySem.W.Frag} (hKK : X.K = KK) (hr : Room j X.A) (hc : X.calm = true) (hm : X.mg "min" = none) (ha : PAV X m (e :: es) tas fs) (hg : Gl X "min") (he : starEach (e :: es) X.env = (false, eval e X.env) :: starEach es X.env) (hpl : (backTo pos (starEach es X.env)).any (·.1) = false) :
    PV X m (.Call (.Name "min" p) (e :: es) [] pos) (tCB (fun xs H Q => ((∃ i j, xs = [.int i, .int j] ∧ Q (.int (if j < i then j else i)) H) ∨ rMin KK xs H Q) ∨ rMinP KK xs H Q) tas) (xCall fMinA fs) := by
  subst hKK
  exact (show
    PV X m (.Call (.Name "min" p) (e :: es) [] pos) (tCB (fun xs H Q => ((∃ i j, xs = [.int i, .int j] ∧ Q (.int (if j < i then j else i)) H) ∨ rMin X.K xs H Q) ∨ rMinP X.K xs H Q) tas) (xCall fMinA fs) from
  pv_callB (((call_min2 hc).or (cr_min hc)).or (cr_minP hc (by have := hr.un; omega))) cv_minA hg hm (by decide +kernel) ha (by decide) (by decide) he hpl)
theorem cv_minO {T : Addr → Prop} {H : Hp} {a : Addr} {vs : List V} {xs : List D} {z : D} {Q : VK} (ha : H a = some (.lst vs)) (s : Reps K T H vs xs) (e : fMinA [.list xs] = some z) (q : ∀ t, Rep K T H t z → Q t H) :
    ((∃ i j, [V.ref a] = [.int i, .int j] ∧ Q (.int (if j < i then j else i)) H) ∨ rMin K [V.ref a] H Q) ∨ rMinP K [V.ref a] H Q := by
  unfold fMinA at e
  cases e1 : fMin [.list xs] with
  | some y =>
    rw [e1] at e
    have e : some y = some z := e
    cases e
    have e1 : (asInts xs).bind (fun ns => match ns with | a :: r => some (PyData.int (minI a r)) | [] => none) = some z := e1
    obtain ⟨ns, e2, e3⟩ := Option.bind_eq_some_iff.mp e1
    obtain ⟨e4, e5⟩ := s.of_ints e2
    subst e4
    cases ns with
    | nil => cases e3
    | cons b t =>
      cases e3
      refine .inl (.inr ⟨_, _, rfl, SqL.of ha, Nat.succ_pos _, fun m hm hb => ?_⟩)
      obtain ⟨h1, h2⟩ := minI_spec t b
      have em : m = minI b t := Int.le_antisymm (hb _ h1) (h2 m hm)
      rw [em]
      exact q _ (.int _)
  | none =>
    rw [e1] at e
    have e : (pairsD xs).bind (fun ps => match ps with | a :: r => some (encP (minP a r)) | [] => none) = some z := e
    obtain ⟨ps, e2, e3⟩ := Option.bind_eq_some_iff.mp e
    have ex := pairsD_get (K := K) (T := T) (H := H) e2
    subst ex
    cases ps with
    | nil => cases e3
    | cons p ps =>
      cases e3
      refine .inr ⟨_, _, p, ps, rfl, SqL.of ha, Reps.dp _ s, fun i x hx hp => ?_⟩
      have hg : ((p :: ps).map encP)[i]? = some (encP (minP p ps)) := by rw [List.getElem?_map, hp]; rfl
      obtain ⟨v', hv, rv⟩ := s.get hg
      rw [hx] at hv
      cases hv
      exact q _ rv
theorem pv_minO {p px : Pos} {i j : Nat} {x : Str} {KK : PySem.W.Frag} (hKK : X.K = KK) (hr : Room j X.A) (hc : X.calm = true) (hm : X.mg "min" = none) (hN : X.N[i]? = some x) (hv : visB X.env.scope x = true) (hd : dunB x = true) (hg : Gl X "min") (he : starEach [.Name x px] X.env = (false, eval (.Name x px) X.env) :: starEach [] X.env) (hpl : (backTo pos (starEach [] X.env)).any (·.1) = false) :
    PV X m (.Call (.Name "min" p) [.Name x px] [] pos) (tCB (fun xs H Q => ((∃ i j, xs = [.int i, .int j] ∧ Q (.int (if j < i then j else i)) H) ∨ rMin KK xs H Q) ∨ rMinP KK xs H Q) (tCons (tVar i) tNil)) (xMinO i) := by
  subst hKK
  refine ⟨pe_callB (((call_min2 hc).or (cr_min hc)).or (cr_minP hc (by have := hr.un; omega))) hg hm (by decide +kernel) (pa_cons (pe_var hN (vis_of hv) (dun1 hd) (dun2 hd)) pa_nil he) (by decide) (by decide) he hpl, fun g env w σ H Q y w' hK I hf q => ?_⟩
  unfold xMinO at hf
  cases e1 : env[i]? with
  | none => rw [e1] at hf; cases hf
  | some s =>
    rw [e1] at hf
    cases s with
    | ow b xs =>
      cases b with
      | true => cases hf
      | false =>
        obtain ⟨e2, rfl⟩ := lift_get hf
        obtain ⟨a, vs, hv, ha, r, _, _⟩ := I.owL i xs e1
        exact ⟨_, hv, cv_minO ha r e2 fun t rt => q t H (Keep.refl _ _) I.dr (rt.mon (fun _ _ _ e => e) fun _ => av_le)⟩
    | _ => cases hf
end
end VE

namespace VE
open PySem
/-- i, i - 1, .. down to above j -/
def downL (i j : Int) : List D := (List.range (i - j).toNat).map fun (k : Nat) => PyData.int (i + (k : Int) * (-1))
def iR3 (f : AF) : IF := fun env => do
  let xs ← f env
  match xs with
  | [.int i, .int j, .int c] => if small62 i && small62 j && decide (c = -1) then pure (downL i j) else fail
  | _ => fail
/-- a if t else b, of new lists -/
def xIfL (t : TF) (f g : LF) : LF := fun env => do
  let a ← t env
  if a then f env else g env
end VE

namespace VE
open PySem PySem.Spec L2
open PyProof.Rows hiding St
section
variable {K : PySem.W.Frag}
theorem wk_down {A B : Addr → Prop} {H1 : Hp} (i j : Int) : Wk K A B (Itc i (-1) (i - j).toNat) (downL i j) H1 := fun H2 k => by
  have hl : (downL i j).length = (i - j).toNat := by simp [downL]
  refine ⟨fun n x hx => ?_, by show (i - j).toNat ≤ _; rw [hl]; exact Nat.le_refl _⟩
  have hi' : n < (i - j).toNat := by
    have := (List.getElem?_eq_some_iff.mp hx).1
    rw [hl] at this
    exact this
  refine ⟨hi', fun v H3 y => ?_⟩
  obtain ⟨rfl, rfl⟩ := y
  have ex : x = .int (i + (n : Int) * (-1)) := by
    unfold downL at hx
    rw [List.getElem?_map, List.getElem?_range hi'] at hx
    exact (Option.some.inj hx).symm
  subst ex
  exact ⟨Same.refl _, .int _⟩
end
section
variable {X : Cx} {m : Bool} {a b c tg : Expr} {tas : TA} {fs : AF} {p pos : Pos}
theorem piv_range3 (hm : X.mg "range" = none) (q : PAV X false [a, b, c] tas fs) (hg : Gl X "range") (hs : starEach [a, b, c] X.env = (false, eval a X.env) :: starEach [b, c] X.env) (hpl : (backTo pos (starEach [b, c] X.env)).any (·.1) = false) : PIV X m tg (.Call (.Name "range" p) [a, b, c] [] pos) (iRng3 tas) (iR3 fs) := ⟨pi_range3 hg hm q.pe hs hpl, fun g env w σ H R xs w' hK I hf k => by
  obtain ⟨ys, w1, h1, h2⟩ := bind_some.mp hf
  refine q.vw _ env w σ H _ ys _ hK I h1 fun vs H1 k1 d1 r1 => ?_
  split at h2
  · rename_i i j c
    split at h2
    · rename_i hc
      obtain ⟨rfl, rfl⟩ := pure_get h2
      obtain ⟨v, u, t, rfl, r, r', r''⟩ := reps3 r1
      cases r; cases r'; cases r''
      rw [Bool.and_eq_true, Bool.and_eq_true] at hc
      have hb := small62_of hc.1.1
      have hb2 := small62_of hc.1.2
      have hcc := of_decide_eq_true hc.2
      subst hcc
      exact ⟨i, j, -1, _, rfl, RgC.neg hb.1 hb.2 hb2.1 hb2.2, k _ H1 k1 d1 (wk_down i j)⟩
    · cases h2
  · cases h2⟩
end
section
variable {X : Cx} {m : Bool} {c a b : Expr} {tA : TT} {ta tb : TE} {fA : TF} {f h : LF} {pos : Pos}
theorem plv_if (t : PTV X c tA fA) (p : PLV X m a ta f) (q : PLV X m b tb h) : PLV X m (.IfExp c a b pos) (tIf tA ta tb) (xIfL fA f h) := ⟨pe_ifExp t.pe p.pe q.pe, fun g env w σ H Q x w' hK I hf k => by
  obtain ⟨y, w1, h1, h2⟩ := bind_some.mp hf
  refine t.vw _ env w σ H _ y _ hK I h1 fun H1 k1 d1 => ?_
  have I1 := I.step k1 d1
  cases y with
  | true => exact p.vw _ env _ σ H1 Q x _ hK I1 h2 fun q vs H2 hq k2 d2 e2 r2 => k q vs H2 ⟨by
      cases z : H q with
      | none => rfl
      | some o => exact absurd hq.1 (k1.live q (by rw [z]; simp)), hq.2⟩ (k1.trans k2) d2 e2 r2
  | false => exact q.vw _ env _ σ H1 Q x _ hK I1 h2 fun q vs H2 hq k2 d2 e2 r2 => k q vs H2 ⟨by
      cases z : H q with
      | none => rfl
      | some o => exact absurd hq.1 (k1.live q (by rw [z]; simp)), hq.2⟩ (k1.trans k2) d2 e2 r2⟩
end
end VE

namespace VE
open PySem
/-- _wall(k) -/
def _wallB (n : Nat) : SF :=
    (sWhile n (xTruth (xC (.bool true))) sPass)
def _wallF (n : Nat) : List D → Option D := runDef 1 0 (_wallB n)
/-- cost_from(prices, start, length, whole, rest, turn) -/
def cost_fromB : SF :=
    (sSeq (sAsg (xOp fMul (xCall fSum (xCons (xVar 0) xNil)) (xOp fDiv (xVar 2) (xCall fLen (xCons (xVar 0) xNil)))) (gNm 3))
    (sSeq (sAsg (xOp fMod (xVar 2) (xCall fLen (xCons (xVar 0) xNil))) (gNm 4))
    (sRet (xOp fAdd (xVar 3) (xCall fSum (xCons (xAs (xComp [5] (iR1 (xCons (xVar 4) xNil)) (gNm 5) tYesF (xOp fIx (xVar 0) (xOp fMod (xOp fAdd (xVar 1) (xVar 5)) (xCall fLen (xCons (xVar 0) xNil)))))) xNil))))))
def cost_fromF : List D → Option D := runDef 3 3 (cost_fromB)
/-- tables_for(prices, lengths, first, last, tables, _, length, row, gone, able) -/
def tables_forB : SF :=
    (sSeq (sOwn 4 (xLst (xCons (xAs (xComp [5] (iR1 (xCons (xOp fAdd (xOp fSub (xVar 3) (xVar 2)) (xC (.int 1))) xNil)) (gNm 5) tYesF (xC (.int 0)))) xNil)))
    (sSeq (sFor (iLst (xVar 1)) (gNm 6) (sSeq (sOwn 7 (xLst xNil))
    (sSeq (sFor (iR1 (xCons (xOp fAdd (xOp fSub (xVar 3) (xVar 2)) (xC (.int 1))) xNil)) (gNm 8) (sSeq (sOwn 9 (xIfL (xAnd (xTruth (xVarO 7)) (xTest (xUn fNotN (xOp fIx (xVarO 7) (xUn fNeg (xC (.int 1))))))) (xLst (xCons (xFlat (xOp fIx (xVarO 7) (xUn fNeg (xC (.int 1))))) xNil)) (xLst xNil)))
    (sSeq (sIf (xAnd (xTest (xOp fGe (xVar 8) (xVar 6))) (xTest (xUn fNotN (xOp fIx (xOp fIx (xVarO 4) (xUn fNeg (xC (.int 1)))) (xOp fSub (xVar 8) (xVar 6)))))) (sApp 9 (xFlat (xOp fAdd (xOp fIx (xOp fIx (xVarO 4) (xUn fNeg (xC (.int 1)))) (xOp fSub (xVar 8) (xVar 6))) (xCall cost_fromF (xCons (xVar 0) (xCons (xOp fSub (xOp fAdd (xVar 2) (xVar 8)) (xVar 6)) (xCons (xVar 6) xNil))))))) sPass)
    (sApp 7 (xIf (xTruth (xVarO 9)) (xMinO 9) (xC .none))))))
    (sThaw 7 (sApp 4 (xVar 7))))))
    (sRet (xVarO 4))))
def tables_forF : List D → Option D := runDef 4 6 (tables_forB)
/-- in_a_row(prices, lengths, first, last, tables, end, cost, starts, at) -/
def in_a_rowB (n : Nat) : SF :=
    (sSeq (sIf (xTest (xOp fGt (xOp fAdd (xVar 2) (xCall fSum (xCons (xVar 1) xNil))) (xVar 3))) (sRet (xTup (xCons (xC (.str (Str.ofString "long"))) (xCons (xOp fSub (xOp fAdd (xVar 2) (xCall fSum (xCons (xVar 1) xNil))) (xVar 3)) xNil)))) sPass)
    (sSeq (sAsg (xCall tables_forF (xCons (xVar 0) (xCons (xVar 1) (xCons (xVar 2) (xCons (xVar 3) xNil))))) (gNm 4))
    (sSeq (sAsg (xOp fSub (xVar 3) (xVar 2)) (gNm 5))
    (sSeq (sAsg (xOp fIx (xOp fIx (xVar 4) (xUn fNeg (xC (.int 1)))) (xVar 5)) (gNm 6))
    (sSeq (sAsg (xAs (xLst xNil)) (gNm 7))
    (sSeq (sFor (iR3 (xCons (xOp fSub (xCall fLen (xCons (xVar 1) xNil)) (xC (.int 1))) (xCons (xUn fNeg (xC (.int 1))) (xCons (xUn fNeg (xC (.int 1))) xNil)))) (gNm 8) (sSeq (sWhile n (xAnd (xTest (xOp fGt (xVar 5) (xC (.int 0)))) (xTest (xOp fEq (xOp fIx (xOp fIx (xVar 4) (xOp fAdd (xVar 8) (xC (.int 1)))) (xOp fSub (xVar 5) (xC (.int 1)))) (xOp fIx (xOp fIx (xVar 4) (xOp fAdd (xVar 8) (xC (.int 1)))) (xVar 5))))) (sAsg (xOp fSub (xVar 5) (xC (.int 1))) (gNm 5)))
    (sSeq (sAsg (xOp fSub (xVar 5) (xOp fIx (xVar 1) (xVar 8))) (gNm 5))
    (sAsg (xOp fAdd (xAs (xLst (xCons (xOp fAdd (xVar 2) (xVar 5)) xNil))) (xVar 7)) (gNm 7)))))
    (sRet (xTup (xCons (xC (.str (Str.ofString "starts"))) (xCons (xVar 7) (xCons (xVar 6) (xCons (xVar 4) xNil))))))))))))
def in_a_rowF (n : Nat) : List D → Option D := runDef 4 5 (in_a_rowB n)
/-- tables_fault(prices, lengths, first, cost, tables, at, row, gone, price, bounds, length) -/
def tables_faultB : SF :=
    (sSeq (sFor (iEnumV (xCons (xVar 4) xNil)) (gTp 2 (gsCons (gNm 5) (gsCons (gNm 6) gsNil))) (sFor (iEnumV (xCons (xVar 6) xNil)) (gTp 2 (gsCons (gNm 7) (gsCons (gNm 8) gsNil))) (sSeq (sIf (xTest (xOp fNe (xUn fIsN (xVar 8)) (xOp fLt (xVar 7) (xCall fSum (xCons (xAs (xSlice (xVar 1) oNo (oSome (xVar 5)))) xNil))))) (sRet (xTup (xCons (xC (.str (Str.ofString "none"))) (xCons (xVar 5) (xCons (xVar 7) xNil))))) sPass)
    (sIf (xTest (xUn fNotN (xVar 8))) (sSeq (sOwn 9 (xIfL (xTest (xOp fEq (xVar 5) (xC (.int 0)))) (xLst (xCons (xC (.int 0)) xNil)) (xLst xNil)))
    (sSeq (sIf (xTest (xOp fGt (xVar 7) (xCall fSum (xCons (xAs (xSlice (xVar 1) oNo (oSome (xVar 5)))) xNil)))) (sApp 9 (xOp fIx (xVar 6) (xOp fSub (xVar 7) (xC (.int 1))))) sPass)
    (sSeq (sIf (xTest (xOp fGt (xVar 5) (xC (.int 0)))) (sSeq (sAsg (xOp fIx (xVar 1) (xOp fSub (xVar 5) (xC (.int 1)))) (gNm 10))
    (sApp 9 (xOp fAdd (xOp fIx (xOp fIx (xVar 4) (xOp fSub (xVar 5) (xC (.int 1)))) (xOp fSub (xVar 7) (xVar 10))) (xCall cost_fromF (xCons (xVar 0) (xCons (xOp fSub (xOp fAdd (xVar 2) (xVar 7)) (xVar 10)) (xCons (xVar 10) xNil))))))) sPass)
    (sIf (xTest (xOp fGt (xVar 8) (xMinO 9))) (sRet (xTup (xCons (xC (.str (Str.ofString "price"))) (xCons (xVar 5) (xCons (xVar 7) xNil))))) sPass)))) sPass))))
    (sRet (xIf (xTest (xOp fGe (xOp fIx (xOp fIx (xVar 4) (xUn fNeg (xC (.int 1)))) (xUn fNeg (xC (.int 1)))) (xVar 3))) (xC .none) (xTup (xCons (xC (.str (Str.ofString "last"))) xNil)))))
def tables_faultF : List D → Option D := runDef 5 6 (tables_faultB)
/-- in_a_row_fault(prices, lengths, first, last, told, short, word, starts, cost, tables, end, at, start, length, row) -/
def in_a_row_faultB : SF :=
    (sSeq (sAsg (xOp fSub (xOp fAdd (xVar 2) (xCall fSum (xCons (xVar 1) xNil))) (xVar 3)) (gNm 5))
    (sSeq (sIf (xOr (xTest (xOp fEq (xOp fIx (xVar 4) (xC (.int 0))) (xC (.str (Str.ofString "long"))))) (xTest (xOp fGt (xVar 5) (xC (.int 0))))) (sRet (xIf (xAnd (xTest (xOp fEq (xVar 4) (xTup (xCons (xC (.str (Str.ofString "long"))) (xCons (xVar 5) xNil))))) (xTest (xOp fGt (xVar 5) (xC (.int 0))))) (xC .none) (xTup (xCons (xC (.str (Str.ofString "long"))) xNil)))) sPass)
    (sSeq (sAsg (xVar 4) (gTp 4 (gsCons (gNm 6) (gsCons (gNm 7) (gsCons (gNm 8) (gsCons (gNm 9) gsNil))))))
    (sSeq (sIf (xTest (xOp fNe (xCall fLen (xCons (xVar 7) xNil)) (xCall fLen (xCons (xVar 1) xNil)))) (sRet (xTup (xCons (xC (.str (Str.ofString "length"))) xNil))) sPass)
    (sSeq (sAsg (xVar 2) (gNm 10))
    (sSeq (sFor (iEnumV (xCons (xVar 7) xNil)) (gTp 2 (gsCons (gNm 11) (gsCons (gNm 12) gsNil))) (sSeq (sIf (xOr (xTest (xOp fLt (xVar 12) (xVar 10))) (xTest (xOp fGt (xOp fAdd (xVar 12) (xOp fIx (xVar 1) (xVar 11))) (xVar 3)))) (sRet (xTup (xCons (xC (.str (Str.ofString "start"))) (xCons (xVar 11) xNil)))) sPass)
    (sAsg (xOp fAdd (xVar 12) (xOp fIx (xVar 1) (xVar 11))) (gNm 10))))
    (sSeq (sIf (xTest (xOp fNe (xCall fSum (xCons (xAs (xComp [12, 13] (iZipV (xCons (xVar 7) (xCons (xVar 1) xNil))) (gTp 2 (gsCons (gNm 12) (gsCons (gNm 13) gsNil))) tYesF (xCall cost_fromF (xCons (xVar 0) (xCons (xVar 12) (xCons (xVar 13) xNil)))))) xNil)) (xVar 8))) (sRet (xTup (xCons (xC (.str (Str.ofString "cost"))) xNil))) sPass)
    (sSeq (sIf (xOr (xTest (xOp fNe (xCall fLen (xCons (xVar 9) xNil)) (xOp fAdd (xCall fLen (xCons (xVar 1) xNil)) (xC (.int 1))))) (xNot (xTruth (xCall fAll (xCons (xAs (xComp [14] (iLst (xVar 9)) (gNm 14) tYesF (xOp fEq (xCall fLen (xCons (xVar 14) xNil)) (xOp fAdd (xOp fSub (xVar 3) (xVar 2)) (xC (.int 1)))))) xNil))))) (sRet (xTup (xCons (xC (.str (Str.ofString "form"))) xNil))) sPass)
    (sRet (xCall tables_faultF (xCons (xVar 0) (xCons (xVar 1) (xCons (xVar 2) (xCons (xVar 8) (xCons (xVar 9) xNil)))))))))))))))
def in_a_row_faultF : List D → Option D := runDef 5 10 (in_a_row_faultB)
/-- net_carried(self, number) -/
def net_carriedB : SF :=
    (sRet (xNIx 0 .rooms (xOp fAdd (xVar 1) (xC (.int 1)))))
def net_carriedF : List D → Net → Option (D × Net) := runMeth 1 0 (net_carriedB)
/-- net_node(self) -/
def net_nodeB : SF :=
    (sSeq (sNNode 0)
    (sRet (xOp fSub (xNLenO 0) (xC (.int 1)))))
def net_nodeF : List D → Net → Option (D × Net) := runMeth 0 0 (net_nodeB)
/-- net_back(self, number) -/
def net_backB : SF :=
    (sRet (xIf (xTest (xOp fEq (xOp fMod (xVar 1) (xC (.int 2))) (xC (.int 0)))) (xOp fAdd (xVar 1) (xC (.int 1))) (xOp fSub (xVar 1) (xC (.int 1)))))
def net_backF : List D → Net → Option (D × Net) := runMeth 1 0 (net_backB)
/-- net_least(self, start, costs, _, came, row, more, node, number, goal, cost) -/
def net_leastB (n : Nat) : SF :=
    (sSeq (sOwn 2 (xNNones [3] 0))
    (sSeq (sOwn 4 (xNNones [3] 0))
    (sSeq (sSet 2 (xVar 1) (xC (.int 0)))
    (sSeq (sAsg (xAs (xLst (xCons (xVar 1) xNil))) (gNm 5))
    (sSeq (sWhile n (xTruth (xVar 5)) (sSeq (sOwn 6 (xLst xNil))
    (sSeq (sFor (iLst (xVar 5)) (gNm 7) (sForO 0 (xVar 7) (gNm 8) (sSeq (sAsg (xNIx 0 .goals (xVar 8)) (gNm 9))
    (sSeq (sAsg (xFlat (xOp fAdd (xOp fIx (xVarO 2) (xVar 7)) (xNIx 0 .costs (xVar 8)))) (gNm 10))
    (sIf (xAnd (xTest (xOp fGt (xNIx 0 .rooms (xVar 8)) (xC (.int 0)))) (xOr (xTest (xUn fIsN (xOp fIx (xVarO 2) (xVar 9)))) (xTest (xOp fLt (xVar 10) (xOp fIx (xVarO 2) (xVar 9)))))) (sSeq (sSet 2 (xVar 9) (xVar 10))
    (sSeq (sSet 4 (xVar 9) (xVar 8))
    (sApp 6 (xVar 9)))) sPass)))))
    (sThaw 6 (sAsg (xVar 6) (gNm 5))))))
    (sRet (xTup (xCons (xVarO 2) (xCons (xVarO 4) xNil)))))))))
def net_leastF (n : Nat) : List D → Net → Option (D × Net) := runMeth 1 9 (net_leastB n)
/-- net_push(self, start, end, total, costs, came, row, node, size, number) -/
def net_pushB (n : Nat) : SF :=
    (sSeq (sAsg (xC (.int 0)) (gNm 3))
    (sWhile n (xTruth (xC (.bool true))) (sSeq (sAsg (xNCall 0 (net_leastF n) (xCons (xVar 1) xNil)) (gTp 2 (gsCons (gNm 4) (gsCons (gNm 5) gsNil))))
    (sSeq (sIf (xTest (xUn fIsN (xOp fIx (xVar 4) (xVar 2)))) (sRet (xVar 3)) sPass)
    (sSeq (sOwn 6 (xLst xNil))
    (sSeq (sAsg (xVar 2) (gNm 7))
    (sSeq (sWhile n (xTest (xOp fNe (xVar 7) (xVar 1))) (sSeq (sApp 6 (xOp fIx (xVar 5) (xVar 7)))
    (sAsg (xNIx 0 .goals (xNCall 0 net_backF (xCons (xOp fIx (xVar 5) (xVar 7)) xNil))) (gNm 7))))
    (sSeq (sAsg (xFlat (xCall fMinA (xCons (xAs (xComp [9] (iOwn 6) (gNm 9) tYesF (xNIx 0 .rooms (xVar 9)))) xNil))) (gNm 8))
    (sThaw 6 (sSeq (sFor (iLst (xVar 6)) (gNm 9) (sSeq (sNSet 0 .rooms (xVar 9) (xOp fSub (xNIx 0 .rooms (xVar 9)) (xVar 8)))
    (sNSet 0 .rooms (xNCall 0 net_backF (xCons (xVar 9) xNil)) (xOp fAdd (xNIx 0 .rooms (xNCall 0 net_backF (xCons (xVar 9) xNil))) (xVar 8)))))
    (sAsg (xOp fAdd (xVar 3) (xVar 8)) (gNm 3))))))))))))
def net_pushF (n : Nat) : List D → Net → Option (D × Net) := runMeth 2 7 (net_pushB n)
/-- net_way(self, start, goal, room, cost, number) -/
def net_wayB : SF :=
    (sSeq (sAsg (xNLen 0 .goals) (gNm 5))
    (sSeq (sNApp 0 (xVar 1) (xVar 5))
    (sSeq (sNApp 0 (xVar 2) (xOp fAdd (xVar 5) (xC (.int 1))))
    (sSeq (sNExt 0 .goals (xAs (xLst (xCons (xVar 2) (xCons (xVar 1) xNil)))))
    (sSeq (sNExt 0 .rooms (xAs (xLst (xCons (xVar 3) (xCons (xC (.int 0)) xNil)))))
    (sSeq (sNExt 0 .costs (xAs (xLst (xCons (xVar 4) (xCons (xOp fSub (xC (.int 0)) (xVar 4)) xNil)))))
    (sRet (xVar 5))))))))
def net_wayF : List D → Net → Option (D × Net) := runMeth 4 1 (net_wayB)
/-- law(script, state, prices, k, lengths, first, last, told, net, nodes, minute, start, end, ways, at, cost, j, carried, way, total), behind its first line -/
def lawB (n : Nat) : SF :=
    (sSeq (sAsg (xAs (xComp [3] (iR1 (xCons (xOp fAdd (xC (.int 2)) (xTake 1 (xC (.int 5)))) xNil)) (gNm 3) tYesF (xTake 1 (xC (.int 8))))) (gNm 2))
    (sSeq (sAsg (xAs (xComp [3] (iR1 (xCons (xTake 1 (xC (.int 4))) xNil)) (gNm 3) tYesF (xOp fAdd (xC (.int 1)) (xTake 1 (xC (.int 3)))))) (gNm 4))
    (sSeq (sAsg (xTake 1 (xC (.int 9))) (gNm 5))
    (sSeq (sAsg (xOp fAdd (xVar 5) (xTake 1 (xC (.int 11)))) (gNm 6))
    (sSeq (sAsg (xCall (in_a_rowF n) (xCons (xVar 2) (xCons (xVar 4) (xCons (xVar 5) (xCons (xVar 6) xNil))))) (gNm 7))
    (sSeq (sIf (xOr (xTest (xUn fNotN (xCall in_a_row_faultF (xCons (xVar 2) (xCons (xVar 4) (xCons (xVar 5) (xCons (xVar 6) (xCons (xVar 7) xNil)))))))) (xTest (xOp fNe (xOp fEq (xOp fIx (xVar 7) (xC (.int 0))) (xC (.str (Str.ofString "long")))) (xOp fGt (xCall fSum (xCons (xVar 4) xNil)) (xOp fSub (xVar 6) (xVar 5)))))) (sRet (xC (.bool false))) sPass)
    (sSeq (sIf (xTest (xOp fEq (xOp fIx (xVar 7) (xC (.int 0))) (xC (.str (Str.ofString "long"))))) (sRet (xOp fEq (xOp fIx (xVar 7) (xC (.int 1))) (xOp fSub (xCall fSum (xCons (xVar 4) xNil)) (xOp fSub (xVar 6) (xVar 5))))) sPass)
    (sSeq (sNNew 8)
    (sSeq (sAsg (xAs (xComp [3] (iR1 (xCons (xOp fAdd (xCall fLen (xCons (xVar 4) xNil)) (xC (.int 1))) xNil)) (gNm 3) tYesF (xAs (xComp [10] (iR2 (xCons (xVar 5) (xCons (xOp fAdd (xVar 6) (xC (.int 1))) xNil))) (gNm 10) tYesF (xNCall 8 net_nodeF xNil))))) (gNm 9))
    (sSeq (sPar 11 12 (xCons (xNCall 8 net_nodeF xNil) (xCons (xNCall 8 net_nodeF xNil) xNil)))
    (sSeq (sExpr (xNCall 8 net_wayF (xCons (xVar 11) (xCons (xOp fIx (xOp fIx (xVar 9) (xC (.int 0))) (xC (.int 0))) (xCons (xC (.int 1)) (xCons (xC (.int 0)) xNil))))))
    (sSeq (sOwn 13 (xLst xNil))
    (sSeq (sFor (iR1 (xCons (xOp fAdd (xCall fLen (xCons (xVar 4) xNil)) (xC (.int 1))) xNil)) (gNm 3) (sFor (iR1 (xCons (xOp fAdd (xOp fSub (xVar 6) (xVar 5)) (xC (.int 1))) xNil)) (gNm 14) (sSeq (sIf (xTest (xOp fLt (xVar 14) (xOp fSub (xVar 6) (xVar 5)))) (sExpr (xNCall 8 net_wayF (xCons (xOp fIx (xOp fIx (xVar 9) (xVar 3)) (xVar 14)) (xCons (xOp fIx (xOp fIx (xVar 9) (xVar 3)) (xOp fAdd (xVar 14) (xC (.int 1)))) (xCons (xC (.int 1)) (xCons (xC (.int 0)) xNil)))))) sPass)
    (sIf (xAnd (xTest (xOp fLt (xVar 3) (xCall fLen (xCons (xVar 4) xNil)))) (xTest (xOp fLe (xOp fAdd (xVar 14) (xOp fIx (xVar 4) (xVar 3))) (xOp fSub (xVar 6) (xVar 5))))) (sSeq (sAsg (xCall fSum (xCons (xAs (xComp [16] (iR1 (xCons (xOp fIx (xVar 4) (xVar 3)) xNil)) (gNm 16) tYesF (xOp fIx (xVar 2) (xOp fMod (xCall fInt (xCons (xOp fAdd (xOp fAdd (xVar 5) (xVar 14)) (xVar 16)) xNil)) (xCall fLen (xCons (xVar 2) xNil)))))) xNil)) (gNm 15))
    (sSeq (sIf (xTest (xOp fNe (xVar 15) (xCall cost_fromF (xCons (xVar 2) (xCons (xOp fAdd (xVar 5) (xVar 14)) (xCons (xOp fIx (xVar 4) (xVar 3)) xNil)))))) (sRet (xC (.bool false))) sPass)
    (sApp 13 (xTup (xCons (xNCall 8 net_wayF (xCons (xOp fIx (xOp fIx (xVar 9) (xVar 3)) (xVar 14)) (xCons (xOp fIx (xOp fIx (xVar 9) (xOp fAdd (xVar 3) (xC (.int 1)))) (xOp fAdd (xVar 14) (xOp fIx (xVar 4) (xVar 3)))) (xCons (xC (.int 1)) (xCons (xVar 15) xNil))))) (xCons (xVar 15) xNil)))))) sPass))))
    (sSeq (sExpr (xNCall 8 net_wayF (xCons (xOp fIx (xOp fIx (xVar 9) (xCall fLen (xCons (xVar 4) xNil))) (xOp fSub (xVar 6) (xVar 5))) (xCons (xVar 12) (xCons (xC (.int 1)) (xCons (xC (.int 0)) xNil))))))
    (sSeq (sIf (xTest (xOp fNe (xNCall 8 (net_pushF n) (xCons (xVar 11) (xCons (xVar 12) xNil))) (xC (.int 1)))) (sRet (xC (.bool false))) sPass)
    (sSeq (sAsg (xFlat (xCall fSum (xCons (xAs (xComp [18, 15] (iOwn 13) (gTp 2 (gsCons (gNm 18) (gsCons (gNm 15) gsNil))) (xTest (xOp fGt (xNCall 8 net_carriedF (xCons (xVar 18) xNil)) (xC (.int 0)))) (xVar 15))) xNil))) (gNm 17))
    (sSeq (sAsg (xCall fSum (xCons (xAs (xComp [3] (iR1 (xCons (xCall fLen (xCons (xVar 4) xNil)) xNil)) (gNm 3) tYesF (xCall cost_fromF (xCons (xVar 2) (xCons (xOp fIx (xOp fIx (xVar 7) (xC (.int 1))) (xVar 3)) (xCons (xOp fIx (xVar 4) (xVar 3)) xNil)))))) xNil)) (gNm 19))
    (sRet (xAndV (xOp fEq (xOp fIx (xVar 7) (xC (.int 2))) (xVar 19)) (xOp fEq (xOp fIx (xVar 7) (xC (.int 2))) (xVar 17)))))))))))))))))))))
end VE

/-! Ev: how mirrors are reckoned. -/
namespace VE
open PySem
theorem pb {α β : Type} (a : α) (k : α → M β) : ((pure a : M α) >>= k) = k a := pure_bind a k
theorem xVar_at {i : Nat} {env : En} {x : D} (h : env[i]? = some (.sh x)) : xVar i env = pure x := by unfold xVar; rw [h]
theorem xVarO_sh {i : Nat} {env : En} {x : D} (h : env[i]? = some (.sh x)) : xVarO i env = pure x := by unfold xVarO; rw [h]
theorem xVarO_ow {i : Nat} {env : En} {xs : List D} (h : env[i]? = some (.ow false xs)) : xVarO i env = pure (.list xs) := by unfold xVarO; rw [h]
/-- a comprehension over coded items -/
theorem compL_map {α : Type} {g : GF} {t : TF} {f : EF} {env : En} (enc : α → D) (p : α → Bool) (h : α → D) :
    ∀ xs : List α, (∀ x ∈ xs, ∃ env1, g (enc x) env = some env1 ∧ t env1 = pure (p x) ∧ (p x = true → f env1 = pure (h x))) → compL g t f env (xs.map enc) = pure ((xs.filter p).map h)
  | [], _ => rfl
  | x :: r, H => by
    obtain ⟨env1, h1, h2, h3⟩ := H x List.mem_cons_self
    have ih := compL_map enc p h r fun y hy => H y (List.mem_cons_of_mem _ hy)
    rw [List.map_cons, compL, h1, lift_some, pb, h2, pb]
    cases hp : p x with
    | false => rw [if_neg Bool.false_ne_true, ih, List.filter_cons_of_neg (by rw [hp]; exact Bool.false_ne_true)]
    | true => rw [if_pos rfl, h3 hp, pb, ih, pb, List.filter_cons_of_pos hp]; rfl
/-- .. without a test -/
theorem compL_all {α : Type} {g : GF} {f : EF} {env : En} (enc : α → D) (h : α → D) (xs : List α) (H : ∀ x ∈ xs, ∃ env1, g (enc x) env = some env1 ∧ f env1 = pure (h x)) : compL g tYesF f env (xs.map enc) = pure (xs.map h) := by
  rw [compL_map enc (fun _ => true) h xs fun x hx => ?_]
  · rw [List.filter_eq_self.mpr fun _ _ => rfl]
  · obtain ⟨e, h1, h2⟩ := H x hx
    exact ⟨e, h1, rfl, fun _ => h2⟩
/-- a loop by its invariant, every turn goes on -/
theorem for_inv {g : GF} {body : SF} (I : Nat → En → Prop) : ∀ (xs : List D) (k : Nat) (env : En), I k env →
    (∀ i x env, xs[i]? = some x → I (k + i) env → ∃ env1 fl env2, g x env = some env1 ∧ body env1 = pure (fl, env2) ∧ (fl = .nx ∨ fl = .ct) ∧ I (k + i + 1) env2) →
    ∃ env', sFor.go g body xs env = pure (.nx, env') ∧ I (k + xs.length) env'
  | [], k, env, h0, _ => ⟨env, rfl, h0⟩
  | x :: r, k, env, h0, H => by
    obtain ⟨env1, fl, env2, h1, h2, hfl, h3⟩ := H 0 x env rfl h0
    obtain ⟨env', h4, h5⟩ := for_inv I r (k + 1) env2 h3 fun i y e hy hI => by
      have := H (i + 1) y e (by simpa using hy) (by rw [show k + (i + 1) = k + 1 + i by omega]; exact hI)
      rw [show k + (i + 1) + 1 = k + 1 + i + 1 by omega] at this
      exact this
    refine ⟨env', ?_, by rw [show k + (x :: r).length = k + 1 + r.length by rw [List.length_cons]; omega]; exact h5⟩
    rw [sFor.go, h1, lift_some, pb, h2, pb]
    rcases hfl with rfl | rfl <;> exact h4
/-- a while by its invariant and a measure that its fuel covers -/
theorem while_inv {t : TF} {body : SF} (I : En → Prop) (μ : En → Nat) (J : En → Prop) (step : ∀ env, I env → (t env = pure false ∧ J env) ∨ (t env = pure true ∧ ∃ fl env2, body env = pure (fl, env2) ∧ (fl = .nx ∨ fl = .ct) ∧ I env2 ∧ μ env2 < μ env)) :
    ∀ (n : Nat) (env : En), I env → μ env < n → ∃ env', sWhile.go t body n env = pure (.nx, env') ∧ J env'
  | 0, _, _, h => absurd h (Nat.not_lt_zero _)
  | n + 1, env, hI, hm => by
    rcases step env hI with ⟨h1, hJ⟩ | ⟨h1, fl, env2, h2, hfl, hI2, hlt⟩
    · refine ⟨env, ?_, hJ⟩
      rw [sWhile.go, h1, pb, if_neg Bool.false_ne_true]
    · obtain ⟨env', h3, hJ⟩ := while_inv I μ J step n env2 hI2 (by omega)
      refine ⟨env', ?_, hJ⟩
      rw [sWhile.go, h1, pb, if_pos rfl, h2, pb]
      rcases hfl with rfl | rfl <;> exact h3
theorem runDef_rt {np nl : Nat} {body : SF} {xs : List D} {y : D} {env' : En} (hl : xs.length = np) (h : body (xs.map .sh ++ List.replicate nl .no) = pure (.rt y, env')) : runDef np nl body xs = some y := by
  unfold runDef
  rw [if_pos hl, h]
  rfl
theorem runDef_ex {np nl : Nat} {body : SF} {xs : List D} {y : D} (hl : xs.length = np) (h : ∃ env', body (xs.map .sh ++ List.replicate nl .no) = pure (.rt y, env')) : runDef np nl body xs = some y := by
  obtain ⟨e, h⟩ := h
  exact runDef_rt hl h
/-! ### values -/
def dI (xs : List Int) : D := .list (xs.map .int)
def dB (xs : List Bool) : D := .list (xs.map .bool)
theorem asInts_map (xs : List Int) : asInts (xs.map .int) = some xs := by
  induction xs with
  | nil => rfl
  | cons x r ih => rw [List.map_cons, asInts, ih]; rfl
theorem asBools_map (xs : List Bool) : asBools (xs.map .bool) = some xs := by
  induction xs with
  | nil => rfl
  | cons x r ih => rw [List.map_cons, asBools, ih]; rfl
theorem eqv_int (i j : Int) : PyData.eqv (.int i) (.int j) = decide (i = j) := by
  unfold PyData.eqv
  exact Bool.beq_eq_decide_eq _ _
theorem shp_int (i : Int) : shp (.int i) = true := rfl
theorem all_flat_ints (xs : List Int) : (xs.map PyData.int).all flat = true := by
  rw [List.all_map]
  exact List.all_eq_true.mpr fun _ _ => rfl
theorem any_eqv (x : Int) (xs : List Int) : ((xs.map PyData.int).any fun z => PyData.eqv z (.int x)) = decide (x ∈ xs) := by
  induction xs with
  | nil => rfl
  | cons y r ih =>
    rw [List.map_cons, List.any_cons, ih, eqv_int]
    by_cases h : y = x
    · subst h; simp
    · have h' : ¬ x = y := fun e => h e.symm
      simp [h, h']
theorem fIn_int (x : Int) (xs : List Int) : fIn (.int x) (.list (xs.map .int)) = some (.bool (decide (x ∈ xs))) := by
  unfold fIn items
  rw [Option.bind_some, all_flat_ints]
  show some (PyData.bool _) = _
  rw [any_eqv]
theorem fNotIn_int (x : Int) (xs : List Int) : fNotIn (.int x) (.list (xs.map .int)) = some (.bool (!decide (x ∈ xs))) := by
  unfold fNotIn items
  rw [Option.bind_some, all_flat_ints]
  show some (PyData.bool _) = _
  rw [any_eqv]
theorem fEq_int (i j : Int) : fEq (.int i) (.int j) = some (.bool (decide (i = j))) := by
  unfold fEq
  rw [shp_int, shp_int, eqv_int]
  rfl
theorem fNe_int (i j : Int) : fNe (.int i) (.int j) = some (.bool (!decide (i = j))) := by
  unfold fNe
  rw [shp_int, shp_int, eqv_int]
  rfl
theorem fSum_ints (xs : List Int) : fSum [.list (xs.map .int)] = some (.int xs.sum) := by
  show (asInts (xs.map .int)).map _ = _
  rw [asInts_map]
  rfl
theorem fAny_bools (xs : List Bool) : fAny [.list (xs.map .bool)] = some (.bool (xs.any id)) := by
  show (asBools (xs.map .bool)).map _ = _
  rw [asBools_map]
  rfl
theorem fLen_list (xs : List D) : fLen [.list xs] = some (.int xs.length) := rfl
theorem atI_nat {xs : List D} {j : Nat} {x : D} (h : xs[j]? = some x) : atI xs (j : Int) = some x := by
  have hl := (List.getElem?_eq_some_iff.mp h).1
  unfold atI ixN
  rw [if_pos (by omega), if_pos (by omega), Option.bind_some, Int.toNat_natCast, h]
theorem atI_of {xs : List D} {i : Int} {x : D} (h0 : 0 ≤ i) (h : xs[i.toNat]? = some x) : atI xs i = some x := by
  have e : i = ((i.toNat : Nat) : Int) := by omega
  rw [e]
  exact atI_nat h
theorem fMod_pos {i j : Int} (h : 0 < j) : fMod (.int i) (.int j) = some (.int (i % j)) := by
  unfold fMod
  exact if_pos h
theorem fDiv_pos {i j : Int} (h : 0 < j) (h2 : j < 1073741824) : fDiv (.int i) (.int j) = some (.int (i / j)) := by
  unfold fDiv
  exact if_pos ⟨h, h2⟩
theorem inW_of {i : Int} (h1 : -(2 ^ 64) < i) (h2 : i < 2 ^ 64) : inW i = true := by
  unfold inW
  rw [decide_eq_true h1, decide_eq_true h2]
  rfl
theorem fMul_l {i j : Int} (h : inW i = true) : fMul (.int i) (.int j) = some (.int (i * j)) := by
  show (if (inW i || inW j) = true then _ else _) = _
  rw [h]
  rfl
theorem fMul_r {i j : Int} (h : inW j = true) : fMul (.int i) (.int j) = some (.int (i * j)) := by
  show (if (inW i || inW j) = true then _ else _) = _
  rw [h, Bool.or_true]
  rfl
end VE

namespace VE
open PySem
/-! draws; statements in a row -/
theorem seq_pure {s r : SF} {env env1 : En} (h : s env = pure (.nx, env1)) : sSeq s r env = r env1 := by
  unfold sSeq
  rw [h, pb]
theorem seq_w {s r : SF} {env env1 : En} {w w1 : W} (h : s env w = some ((.nx, env1), w1)) : sSeq s r env w = r env1 w1 := by
  unfold sSeq
  show (s env >>= _) w = _
  show (StateT.bind (s env) _) w = _
  unfold StateT.bind
  rw [h]
  rfl
theorem bind_w {α β : Type} {x : M α} {k : α → M β} {w w1 : W} {a : α} (h : x w = some (a, w1)) : (x >>= k) w = k a w1 := by
  show (StateT.bind x k) w = _
  unfold StateT.bind
  rw [h]
  rfl
theorem take_ok {most : Int} (h1 : 0 < most) (h2 : most < 1073741824) {w : W} (hw : 0 < w.cells.length) : ∃ r w', takeW most w = some (r, w') ∧ 0 ≤ r ∧ r < most ∧ 0 < w'.cells.length := by
  have hn : 0 ≤ w.pos % (w.cells.length : Int) := Int.emod_nonneg _ (by omega)
  have hl : w.pos % (w.cells.length : Int) < w.cells.length := Int.emod_lt_of_pos _ (by omega)
  have hi : (w.pos % (w.cells.length : Int)).toNat < w.cells.length := by omega
  unfold takeW
  rw [if_pos ⟨h1, h2, hw⟩]
  dsimp only
  rw [List.getElem?_eq_getElem hi]
  dsimp only
  have mm : ∀ x : Int, 0 ≤ x % most ∧ x % most < most := fun x => ⟨Int.emod_nonneg _ (by omega), Int.emod_lt_of_pos _ h1⟩
  split
  · exact ⟨_, _, rfl, (mm _).1, (mm _).2, by simpa using hw⟩
  · exact ⟨_, _, rfl, (mm _).1, (mm _).2, hw⟩
theorem xTake_w {i : Nat} {f : EF} {env : En} {w w1 : W} {most r : Int} (hf : f env = pure (.int most)) (hs : env[i]? = some (.st 1)) (h : takeW most w = some (r, w1)) : xTake i f env w = some (.int r, w1) := by
  unfold xTake
  rw [hf, pb, hs]
  show (takeW most >>= _) w = _
  rw [bind_w h]
  rfl
/-- a comprehension that draws -/
theorem compL_w {α β : Type} {g : GF} {f : EF} {env : En} (enc : α → D) (dec : β → D) (R : α → β → Prop) (P : W → Prop) :
    ∀ (xs : List α) (w : W), P w → (∀ x ∈ xs, ∀ w, P w → ∃ env1 y w', g (enc x) env = some env1 ∧ f env1 w = some (dec y, w') ∧ R x y ∧ P w') →
    ∃ (ys : List β) (w' : W), compL g tYesF f env (xs.map enc) w = some (ys.map dec, w') ∧ ys.length = xs.length ∧ (∀ (i : Nat) x y, xs[i]? = some x → ys[i]? = some y → R x y) ∧ P w'
  | [], w, hw, _ => ⟨[], w, rfl, rfl, fun i x y h => by simp at h, hw⟩
  | x :: r, w, hw, H => by
    obtain ⟨env1, y, w1, h1, h2, h3, h4⟩ := H x List.mem_cons_self w hw
    obtain ⟨ys, w2, h5, h6, h7, h8⟩ := compL_w enc dec R P r w1 h4 fun z hz => H z (List.mem_cons_of_mem _ hz)
    refine ⟨y :: ys, w2, ?_, by rw [List.length_cons, List.length_cons, h6], fun i a b ha hb => ?_, h8⟩
    · rw [List.map_cons, compL, h1, lift_some, pb]
      have : tYesF env1 = pure true := rfl
      rw [this, pb, if_pos rfl, bind_w h2, bind_w h5]
      rfl
    · cases i with
      | zero => cases ha; cases hb; exact h3
      | succ i => exact h7 i a b (by simpa using ha) (by simpa using hb)
mutual
def same : D → D → Bool
  | .none, .none => true
  | .bool a, .bool b => a == b
  | .int a, .int b => a == b
  | .str a, .str b => a == b
  | .list xs, .list ys => sameL xs ys
  | .tuple xs, .tuple ys => sameL xs ys
  | _, _ => false
def sameL : List D → List D → Bool
  | [], [] => true
  | x :: xs, y :: ys => same x y && sameL xs ys
  | _, _ => false
end
mutual
theorem same_eq : ∀ (x y : D), same x y = true → x = y
  | .none, y, h => by cases y <;> simp [same] at h; rfl
  | .bool a, y, h => by cases y <;> simp [same] at h; rw [h]
  | .int a, y, h => by cases y <;> simp [same] at h; rw [h]
  | .str a, y, h => by cases y <;> simp [same] at h; rw [h]
  | .list xs, y, h => by
    cases y <;> simp only [same, Bool.false_eq_true] at h
    rw [sameL_eq _ _ h]
  | .tuple xs, y, h => by
    cases y <;> simp only [same, Bool.false_eq_true] at h
    rw [sameL_eq _ _ h]
  | .dict _, y, h => by cases y <;> simp [same] at h
theorem sameL_eq : ∀ (x y : List D), sameL x y = true → x = y
  | [], y, h => by cases y <;> simp [sameL] at h; rfl
  | x :: xs, y, h => by
    cases y with
    | nil => simp [sameL] at h
    | cons z zs =>
      simp only [sameL, Bool.and_eq_true] at h
      rw [same_eq _ _ h.1, sameL_eq _ _ h.2]
end
def sameO : Option D → D → Bool
  | some x, y => same x y
  | _, _ => false
theorem sameO_eq {x : Option D} {y : D} (h : sameO x y = true) : x = some y := by
  cases x with
  | none => cases h
  | some x => rw [same_eq x y h]
def allB : Nat → List (List Bool)
  | 0 => [[]]
  | n + 1 => (allB n).map (true :: ·) ++ (allB n).map (false :: ·)
theorem mem_allB : ∀ (l : List Bool), l ∈ allB l.length
  | [] => List.mem_cons_self
  | b :: l => by
    rw [List.length_cons, allB, List.mem_append, List.mem_map, List.mem_map]
    cases b with
    | true => exact .inl ⟨l, mem_allB l, rfl⟩
    | false => exact .inr ⟨l, mem_allB l, rfl⟩
theorem xComp_w {vs : List Nat} {it : IF} {g : GF} {t : TF} {f : EF} {env e : En} {xs ys : List D} {w w' : W} (h1 : it env = pure xs) (h2 : wipeE env vs = some e) (h3 : xs.length ≤ line) (h4 : compL g t f e xs w = some (ys, w')) : xComp vs it g t f env w = some (ys, w') := by
  unfold xComp
  rw [h1, pb, h2, lift_some, pb, if_pos h3]
  exact h4
theorem xComp_p {vs : List Nat} {it : IF} {g : GF} {t : TF} {f : EF} {env e : En} {xs ys : List D} (h1 : it env = pure xs) (h2 : wipeE env vs = some e) (h3 : xs.length ≤ line) (h4 : compL g t f e xs = pure ys) : xComp vs it g t f env = pure ys := by
  unfold xComp
  rw [h1, pb, h2, lift_some, pb, if_pos h3]
  exact h4
theorem asg_w {f : EF} {g : GF} {env env1 : En} {w w1 : W} {x : D} (h : f env w = some (x, w1)) (hg : g x env = some env1) : sAsg f g env w = some ((.nx, env1), w1) := by
  unfold sAsg
  rw [bind_w h, hg]
  rfl
theorem asg_p {f : EF} {g : GF} {env env1 : En} {x : D} (h : f env = pure x) (hg : g x env = some env1) : sAsg f g env = pure (.nx, env1) := by
  unfold sAsg
  rw [h, pb, hg]
  rfl
theorem xAs_w {f : LF} {env : En} {w w1 : W} {x : List D} (h : f env w = some (x, w1)) : xAs f env w = some (.list x, w1) := by
  unfold xAs
  rw [bind_w h]
  rfl
theorem xAs_p {f : LF} {env : En} {x : List D} (h : f env = pure x) : xAs f env = pure (.list x) := by
  unfold xAs
  rw [h]
  rfl
theorem xOp_w {F : D → D → Option D} {f g : EF} {env : En} {w w1 w2 : W} {a b c : D} (h1 : f env w = some (a, w1)) (h2 : g env w1 = some (b, w2)) (h3 : F a b = some c) : xOp F f g env w = some (c, w2) := by
  unfold xOp
  rw [bind_w h1, bind_w h2, h3]
  rfl
theorem if_skip {t : TF} {f : SF} {env : En} (h : t env = pure false) : sIf t f sPass env = pure (.nx, env) := by
  unfold sIf
  rw [h, pb]
  rfl
theorem cells_pos (ns : List Int) : 0 < (stateCells ns).length := by
  unfold stateCells
  dsimp only
  split
  · decide
  · omega
theorem fIndex_ints (xs : List Int) (y : Int) : fIndex (.list (xs.map .int)) [.int y] = (xs.findIdx? fun z => decide (z = y)).map fun (j : Nat) => PyData.int (j : Int) := by
  show (if (flat (.int y) && (xs.map PyData.int).all flat) = true then _ else _) = _
  rw [all_flat_ints]
  show ((xs.map PyData.int).findIdx? fun z => PyData.eqv z (.int y)).map _ = _
  rw [List.findIdx?_map]
  have e : ((fun z => PyData.eqv z (.int y)) ∘ PyData.int) = fun z => decide (z = y) := by
    funext z
    exact eqv_int z y
  rw [e]
theorem st_w {s r : SF} {env env1 : En} {w w1 : W} {fl : Fl} (h : s env w = some ((.nx, env1), w1)) (k : ∃ e w', r env1 w1 = some ((fl, e), w')) : ∃ e w', sSeq s r env w = some ((fl, e), w') := by
  rw [seq_w h]
  exact k
theorem st_p {s r : SF} {env env1 : En} {w : W} {fl : Fl} (h : s env = pure (.nx, env1)) (k : ∃ e w', r env1 w = some ((fl, e), w')) : ∃ e w', sSeq s r env w = some ((fl, e), w') := by
  rw [seq_pure h]
  exact k
theorem st_ret {f : EF} {env : En} {w : W} {x : D} (h : f env = pure x) : ∃ e w', sRet f env w = some ((.rt x, e), w') := by
  refine ⟨env, w, ?_⟩
  unfold sRet
  rw [h]
  rfl
theorem for_p {it : IF} {g : GF} {body : SF} {env env1 : En} {xs : List D} (h1 : it env = pure xs) (h2 : sFor.go g body xs env = pure (.nx, env1)) : sFor it g body env = pure (.nx, env1) := by
  unfold sFor
  rw [h1, pb]
  exact h2
theorem wipe_one {env : En} {v : Nat} {s : Slot} (h : env[v]? = some s) (n : ∀ b xs, s ≠ .ow b xs) : wipeE env [v] = some (env.set v .no) := by
  show (some env).bind _ = _
  rw [Option.bind_some, h]
  cases s with
  | ow b xs => exact absurd rfl (n b xs)
  | _ => rfl

end VE

/-! Rhy: rhythms, plain. -/
namespace VE
/-- how many of 0, 1, .. below m -/
def cnt (g : Int → Bool) : Nat → Nat
  | 0 => 0
  | m + 1 => cnt g m + (if g (m : Int) then 1 else 0)
theorem cnt_mono {g : Int → Bool} {a b : Nat} (h : a ≤ b) : cnt g a ≤ cnt g b := by
  induction h with
  | refl => exact Nat.le_refl _
  | step h ih => exact Nat.le_trans ih (by rw [cnt]; omega)
/-- a minute is told by how many lie ahead of it -/
theorem cnt_inj {g : Int → Bool} {a b : Nat} (ha : g a = true) (hb : g b = true) (e : cnt g a = cnt g b) : a = b := by
  rcases Nat.lt_trichotomy a b with h | h | h
  · have := cnt_mono (g := g) (show a + 1 ≤ b from h)
    rw [cnt, if_pos ha] at this
    omega
  · exact h
  · have := cnt_mono (g := g) (show b + 1 ≤ a from h)
    rw [cnt, if_pos hb] at this
    omega
theorem cnt_congr {g h : Int → Bool} {m : Nat} (e : ∀ j : Nat, j < m → g j = h j) : cnt g m = cnt h m := by
  induction m with
  | zero => rfl
  | succ m ih => rw [cnt, cnt, ih fun j hj => e j (by omega), e m (by omega)]
theorem div_of {p a x : Int} (hp : 0 < p) (h1 : p * a ≤ x) (h2 : x < p * a + p) : x / p = a := by
  have h3 : a ≤ x / p := by rw [Int.le_ediv_iff_mul_le hp, Int.mul_comm]; exact h1
  have h4 : x / p < a + 1 := by rw [Int.ediv_lt_iff_lt_mul hp, Int.mul_comm, Int.mul_add, Int.mul_one]; exact h2
  omega
/-- how often a rest has come below m -/
def qt (p r m : Int) : Int := (m - r + p - 1) / p
theorem qt_step {p r m : Int} (hp : 0 < p) (h0 : 0 ≤ r) (h1 : r < p) : qt p r (m + 1) = qt p r m + (if m % p = r then 1 else 0) := by
  have hm := Int.emod_nonneg m (show p ≠ 0 by omega)
  have hm2 := Int.emod_lt_of_pos m hp
  have e := Int.mul_ediv_add_emod m p
  generalize hb : m % p = b at hm hm2 e
  generalize ha : m / p = a at e
  have e1 : p * (a + 1) = p * a + p := by rw [Int.mul_add, Int.mul_one]
  unfold qt
  by_cases h : b = r
  · rw [if_pos h, div_of hp (a := a + 1) (by omega) (by omega), div_of hp (a := a) (by omega) (by omega)]
  · rw [if_neg h]
    by_cases hl : b < r
    · rw [div_of hp (a := a) (by omega) (by omega), div_of hp (a := a) (by omega) (by omega)]; omega
    · rw [div_of hp (a := a + 1) (by omega) (by omega), div_of hp (a := a + 1) (by omega) (by omega)]; omega
theorem qt_period {p r m : Int} (hp : 0 < p) : qt p r (m + p) = qt p r m + 1 := by
  unfold qt
  rw [show m + p - r + p - 1 = (m - r + p - 1) + p by omega]
  rw [Int.add_ediv_of_dvd_right ⟨1, (Int.mul_one p).symm⟩, Int.ediv_self (by omega)]
def sumL (f : Int → Int) : List Int → Int
  | [] => 0
  | x :: r => f x + sumL f r
theorem sumL_add (f g : Int → Int) (R : List Int) : sumL (fun r => f r + g r) R = sumL f R + sumL g R := by
  induction R with
  | nil => rfl
  | cons x r ih => simp only [sumL, ih]; omega
theorem sumL_congr {f g : Int → Int} {R : List Int} (h : ∀ r ∈ R, f r = g r) : sumL f R = sumL g R := by
  induction R with
  | nil => rfl
  | cons x r ih => rw [sumL, sumL, h x List.mem_cons_self, ih fun y hy => h y (List.mem_cons_of_mem _ hy)]
theorem sumL_one (R : List Int) (hn : R.Nodup) (x : Int) : sumL (fun r => if x = r then 1 else 0) R = if x ∈ R then 1 else 0 := by
  induction R with
  | nil => simp [sumL]
  | cons y r ih =>
    rw [List.nodup_cons] at hn
    rw [sumL, ih hn.2]
    by_cases h : x = y
    · subst h
      simp [hn.1]
    · simp [h]
theorem sumL_const (R : List Int) : sumL (fun _ => 1) R = R.length := by
  induction R with
  | nil => rfl
  | cons y r ih => rw [sumL, ih, List.length_cons]; omega
structure Rh where
  s : Int
  M : List Int
  p : Int
  R : List Int
structure Rh.Ok (r : Rh) : Prop where
  s0 : 0 ≤ r.s
  p0 : 0 < r.p
  mu : r.M.Pairwise (· < ·)
  mb : ∀ x ∈ r.M, 0 ≤ x ∧ x < r.s
  ru : r.R.Pairwise (· < ·)
  rb : ∀ x ∈ r.R, 0 ≤ x ∧ x < r.p
def Rh.goes (r : Rh) (m : Int) : Bool := if m < r.s then decide (m ∈ r.M) else decide (m % r.p ∈ r.R)
theorem nodup_of {L : List Int} (h : L.Pairwise (· < ·)) : L.Nodup := h.imp fun h => Int.ne_of_lt h
theorem filter_succ {L : List Int} (h : L.Nodup) (m : Int) : ((L.filter fun x => decide (x < m + 1)).length : Int) = (L.filter fun x => decide (x < m)).length + (if m ∈ L then 1 else 0) := by
  induction L with
  | nil => simp
  | cons x r ih =>
    rw [List.nodup_cons] at h
    have ih := ih h.2
    simp only [List.filter_cons]
    by_cases e : x = m
    · subst e
      simp only [show decide (x < x + 1) = true by (simp only [decide_eq_true_eq]; omega), show decide (x < x) = false by simp, if_true, Bool.false_eq_true, if_false, List.length_cons, List.mem_cons, true_or]
      rw [if_neg h.1] at ih
      omega
    · have e' : ¬ m = x := fun z => e z.symm
      simp only [List.mem_cons, e', false_or]
      by_cases hl : x < m
      · rw [show decide (x < m + 1) = true by simp; omega, show decide (x < m) = true by simp [hl]]
        simp only [if_true, List.length_cons]
        omega
      · rw [show decide (x < m + 1) = false by simp; omega, show decide (x < m) = false by simp; omega]
        simp only [Bool.false_eq_true, if_false]
        exact ih
/-- below its start -/
theorem Rh.Ok.cnt_low {r : Rh} (h : r.Ok) : ∀ m : Nat, (m : Int) ≤ r.s → (cnt r.goes m : Int) = (r.M.filter fun x => decide (x < (m : Int))).length
  | 0, _ => by
    have : (r.M.filter fun x => decide (x < ((0 : Nat) : Int))) = [] := List.filter_eq_nil_iff.mpr fun x hx => by
      have := (h.mb x hx).1
      simp; omega
    rw [this]; rfl
  | m + 1, hm => by
    have ih := h.cnt_low m (by omega)
    have := filter_succ (nodup_of h.mu) (m : Int)
    rw [cnt, show ((m + 1 : Nat) : Int) = (m : Int) + 1 by omega, this]
    have e : r.goes m = decide ((m : Int) ∈ r.M) := by unfold Rh.goes; rw [if_pos (by omega)]
    rw [e]
    by_cases hM : (m : Int) ∈ r.M
    · simp only [hM, decide_true, if_true]; omega
    · simp only [hM, decide_false, Bool.false_eq_true, if_false]; omega
theorem Rh.Ok.cnt_start {r : Rh} (h : r.Ok) : (cnt r.goes r.s.toNat : Int) = r.M.length := by
  have hs := h.s0
  rw [h.cnt_low _ (by omega)]
  rw [List.filter_eq_self.mpr fun x hx => by
    have := (h.mb x hx).2
    simp; omega]
/-- from its start on, in closed form -/
theorem Rh.Ok.cnt_high {r : Rh} (h : r.Ok) (k : Nat) : (cnt r.goes (r.s.toNat + k) : Int) = r.M.length + sumL (fun x => qt r.p x (r.s + k) - qt r.p x r.s) r.R := by
  have hs := h.s0
  induction k with
  | zero =>
    rw [Nat.add_zero, h.cnt_start]
    rw [sumL_congr (g := fun _ => 0) fun x _ => by simp]
    have : ∀ R : List Int, sumL (fun _ => 0) R = 0 := fun R => by
      induction R with
      | nil => rfl
      | cons y r ih => rw [sumL, ih]; rfl
    rw [this]; omega
  | succ k ih =>
    rw [show r.s.toNat + (k + 1) = (r.s.toNat + k) + 1 by omega, cnt]
    have e : r.goes ((r.s.toNat + k : Nat) : Int) = decide ((r.s + (k : Int)) % r.p ∈ r.R) := by
      unfold Rh.goes
      rw [if_neg (by omega), show ((r.s.toNat + k : Nat) : Int) = r.s + (k : Int) by omega]
    rw [e]
    have e2 : sumL (fun x => qt r.p x (r.s + ((k + 1 : Nat) : Int)) - qt r.p x r.s) r.R = sumL (fun x => (qt r.p x (r.s + (k : Int)) - qt r.p x r.s) + (if (r.s + (k : Int)) % r.p = x then 1 else 0)) r.R := sumL_congr fun x hx => by
      rw [show r.s + ((k + 1 : Nat) : Int) = (r.s + (k : Int)) + 1 by omega, qt_step h.p0 (h.rb x hx).1 (h.rb x hx).2]
      omega
    rw [e2, sumL_add, sumL_one _ (nodup_of h.ru)]
    by_cases hR : (r.s + (k : Int)) % r.p ∈ r.R
    · simp only [hR, decide_true, if_true]; omega
    · simp only [hR, decide_false, Bool.false_eq_true, if_false]; omega
theorem Rh.Ok.cnt_period {r : Rh} (h : r.Ok) (m : Nat) (hm : r.s ≤ m) : cnt r.goes (m + r.p.toNat) = cnt r.goes m + r.R.length := by
  have hs := h.s0
  have hp := h.p0
  obtain ⟨k, rfl⟩ : ∃ k, m = r.s.toNat + k := ⟨m - r.s.toNat, by omega⟩
  have h1 := h.cnt_high k
  have h2 := h.cnt_high (k + r.p.toNat)
  rw [show r.s.toNat + k + r.p.toNat = r.s.toNat + (k + r.p.toNat) by omega]
  have e : sumL (fun x => qt r.p x (r.s + ((k + r.p.toNat : Nat) : Int)) - qt r.p x r.s) r.R = sumL (fun x => (qt r.p x (r.s + (k : Int)) - qt r.p x r.s) + 1) r.R := sumL_congr fun x hx => by
    rw [show r.s + ((k + r.p.toNat : Nat) : Int) = (r.s + (k : Int)) + r.p by omega, qt_period hp]
    omega
  rw [e, sumL_add, sumL_const] at h2
  omega
theorem Rh.Ok.cnt_periods {r : Rh} (h : r.Ok) (m : Nat) (hm : r.s ≤ m) (q : Nat) : cnt r.goes (m + q * r.p.toNat) = cnt r.goes m + q * r.R.length := by
  induction q with
  | zero => simp
  | succ q ih =>
    rw [show m + (q + 1) * r.p.toNat = (m + q * r.p.toNat) + r.p.toNat by rw [Nat.succ_mul]; omega, h.cnt_period _ (by omega), ih, Nat.succ_mul]
    omega
/-- count_to, as it is told -/
def Rh.countT (r : Rh) (m : Int) : Int := if m ≤ r.s then (r.M.filter fun x => decide (x < m)).length else r.M.length + sumL (fun x => qt r.p x m - qt r.p x r.s) r.R
theorem Rh.Ok.count {r : Rh} (h : r.Ok) {m : Int} (hm : 0 ≤ m) : r.countT m = cnt r.goes m.toNat := by
  have hs := h.s0
  unfold Rh.countT
  split
  · rw [h.cnt_low _ (by omega), show ((m.toNat : Nat) : Int) = m by omega]
  · have := h.cnt_high (m - r.s).toNat
    rw [show r.s.toNat + (m - r.s).toNat = m.toNat by omega, show r.s + (((m - r.s).toNat : Nat) : Int) = m by omega] at this
    omega
/-! ### the n-th minute -/
def Rh.row (r : Rh) : List Int := sortI (r.R.map fun x => r.s + (x - r.s) % r.p)
def Rh.nthT (r : Rh) (k : Nat) : Option Int :=
  if h : k < r.M.length then some r.M[k]
  else if r.R = [] then none
  else (r.row[(k - r.M.length) % r.row.length]?).map fun x => x + r.p * (((k - r.M.length) / r.row.length : Nat) : Int)
theorem insP (x : Int) : ∀ xs : List Int, (insI x xs).Perm (x :: xs)
  | [] => .refl _
  | y :: r => by
    unfold insI
    split
    · exact .refl _
    · exact ((insP x r).cons y).trans (.swap x y r)
theorem insS (x : Int) : ∀ xs : List Int, xs.Pairwise (· ≤ ·) → (insI x xs).Pairwise (· ≤ ·)
  | [], _ => by simp [insI]
  | y :: r, h => by
    unfold insI
    rw [List.pairwise_cons] at h
    split
    · rename_i hc
      rw [List.pairwise_cons]
      refine ⟨fun z hz => ?_, List.pairwise_cons.mpr h⟩
      rcases List.mem_cons.mp hz with e | e
      · subst e; exact hc
      · exact Int.le_trans hc (h.1 z e)
    · rename_i hc
      rw [List.pairwise_cons]
      refine ⟨fun z hz => ?_, insS x r h.2⟩
      have := (insP x r).mem_iff.mp hz
      rcases List.mem_cons.mp this with e | e
      · subst e; omega
      · exact h.1 z e
theorem sortP : ∀ xs : List Int, (sortI xs).Perm xs
  | [] => .refl _
  | x :: r => (insP x _).trans ((sortP r).cons x)
theorem sortS : ∀ xs : List Int, (sortI xs).Pairwise (· ≤ ·)
  | [] => .nil
  | x :: r => insS x _ (sortS r)
theorem sort_lt {xs : List Int} (h : xs.Nodup) : (sortI xs).Pairwise (· < ·) := by
  have h1 := sortS xs
  have h2 : (sortI xs).Nodup := (sortP xs).nodup_iff.mpr h
  exact (h1.and h2).imp fun ⟨a, b⟩ => by omega
theorem shift_mem {s p t : Int} (hp : 0 < p) (h1 : s ≤ t) (h2 : t < s + p) (x : Int) (hx : 0 ≤ x) (hx2 : x < p) : s + (x - s) % p = t ↔ t % p = x := by
  constructor
  · intro e
    have : t % p = (s + (x - s) % p) % p := by rw [e]
    rw [this, Int.add_emod, Int.emod_emod, ← Int.add_emod, show s + (x - s) = x by omega, Int.emod_eq_of_lt hx hx2]
  · intro e
    have : (x - s) % p = t - s := by
      rw [← e, Int.sub_emod, Int.emod_emod, ← Int.sub_emod, Int.emod_eq_of_lt (by omega) (by omega)]
    omega
theorem Rh.Ok.row_lt {r : Rh} (h : r.Ok) : r.row.Pairwise (· < ·) := by
  refine sort_lt ?_
  have hn := nodup_of h.ru
  have hp := h.p0
  have hb := h.rb
  show (r.R.map _).Pairwise (· ≠ ·)
  rw [List.pairwise_map]
  refine List.Pairwise.imp_of_mem (fun {a b} ha hb' hne e => ?_) hn
  have h1 := hb a ha
  have h2 := hb b hb'
  have m1 := Int.emod_nonneg (b - r.s) (show r.p ≠ 0 by omega)
  have m2 := Int.emod_lt_of_pos (b - r.s) hp
  have e1 := (shift_mem (s := r.s) hp (t := r.s + (b - r.s) % r.p) (by omega) (by omega) a h1.1 h1.2).mp e
  have e2 := (shift_mem (s := r.s) hp (t := r.s + (b - r.s) % r.p) (by omega) (by omega) b h2.1 h2.2).mp rfl
  exact hne (e1.symm.trans e2)
theorem Rh.Ok.mem_row {r : Rh} (h : r.Ok) (t : Int) : t ∈ r.row ↔ r.s ≤ t ∧ t < r.s + r.p ∧ t % r.p ∈ r.R := by
  have hp := h.p0
  unfold Rh.row
  rw [(sortP _).mem_iff, List.mem_map]
  constructor
  · rintro ⟨x, hx, rfl⟩
    have m1 := Int.emod_nonneg (x - r.s) (show r.p ≠ 0 by omega)
    have m2 := Int.emod_lt_of_pos (x - r.s) hp
    refine ⟨by omega, by omega, ?_⟩
    rw [(shift_mem (s := r.s) hp (by omega) (by omega) x (h.rb x hx).1 (h.rb x hx).2).mp rfl]
    exact hx
  · rintro ⟨h1, h2, h3⟩
    exact ⟨_, h3, (shift_mem (s := r.s) hp h1 h2 _ (h.rb _ h3).1 (h.rb _ h3).2).mpr rfl⟩
theorem Rh.Ok.cnt_row {r : Rh} (h : r.Ok) (k : Nat) (hk : (k : Int) ≤ r.p) : (cnt r.goes (r.s.toNat + k) : Int) = r.M.length + (r.row.filter fun x => decide (x < r.s + k)).length := by
  have hs := h.s0
  induction k with
  | zero =>
    rw [Nat.add_zero, h.cnt_start]
    have : (r.row.filter fun x => decide (x < r.s + ((0 : Nat) : Int))) = [] := List.filter_eq_nil_iff.mpr fun x hx => by
      have := ((h.mem_row x).mp hx).1
      simp; omega
    rw [this]; simp
  | succ k ih =>
    have ih := ih (by omega)
    rw [show r.s.toNat + (k + 1) = (r.s.toNat + k) + 1 by omega, cnt, show r.s + ((k + 1 : Nat) : Int) = (r.s + (k : Int)) + 1 by omega, filter_succ (nodup_of h.row_lt)]
    have e : r.goes ((r.s.toNat + k : Nat) : Int) = decide ((r.s + (k : Int)) ∈ r.row) := by
      unfold Rh.goes
      rw [if_neg (by omega), show ((r.s.toNat + k : Nat) : Int) = r.s + (k : Int) by omega]
      apply decide_eq_decide.mpr
      rw [h.mem_row]
      constructor
      · intro q; exact ⟨by omega, by omega, q⟩
      · intro q; exact q.2.2
    rw [e]
    by_cases hR : (r.s + (k : Int)) ∈ r.row
    · simp only [hR, decide_true, if_true]; omega
    · simp only [hR, decide_false, Bool.false_eq_true, if_false]; omega
theorem filter_at {L : List Int} (h : L.Pairwise (· < ·)) : ∀ (i : Nat) (x : Int), L[i]? = some x → (L.filter fun y => decide (y < x)).length = i := by
  induction L with
  | nil => intro i x e; simp at e
  | cons a r ih =>
    intro i x e
    rw [List.pairwise_cons] at h
    cases i with
    | zero =>
      have : a = x := by simpa using e
      subst this
      have : (List.filter (fun y => decide (y < a)) (a :: r)) = [] := List.filter_eq_nil_iff.mpr fun y hy => by
        rcases List.mem_cons.mp hy with rfl | hy
        · simp
        · have := h.1 y hy; simp; omega
      rw [this]; rfl
    | succ i =>
      have e' : r[i]? = some x := by simpa using e
      have hx := h.1 x (List.mem_of_getElem? e')
      rw [List.filter_cons_of_pos (by simpa using hx), List.length_cons, ih h.2 i x e']
/-- THE n-th: it goes, and n lie ahead -/
theorem Rh.Ok.nth_spec {r : Rh} (h : r.Ok) {k : Nat} {t : Int} (e : r.nthT k = some t) : 0 ≤ t ∧ r.goes t = true ∧ cnt r.goes t.toNat = k := by
  have hs := h.s0
  have hp := h.p0
  unfold Rh.nthT at e
  split at e
  · rename_i hk
    cases e
    have hm := List.getElem_mem hk
    have hb := h.mb _ hm
    refine ⟨hb.1, ?_, ?_⟩
    · unfold Rh.goes
      rw [if_pos hb.2]; simpa using hm
    · have := h.cnt_low (r.M[k]).toNat (by omega)
      rw [show (((r.M[k]).toNat : Nat) : Int) = r.M[k] by omega, filter_at h.mu k _ (List.getElem?_eq_getElem hk)] at this
      omega
  · rename_i hk
    split at e
    · cases e
    · rename_i hR
      obtain ⟨x, hx, rfl⟩ := Option.map_eq_some_iff.mp e
      have hrl : r.row.length = r.R.length := by unfold Rh.row; rw [(sortP _).length_eq, List.length_map]
      have hpos : 0 < r.R.length := List.length_pos_iff.mpr hR
      generalize hq : (k - r.M.length) / r.row.length = q at *
      have hmem := (h.mem_row x).mp (List.mem_of_getElem? hx)
      have hx0 : (0 : Int) ≤ r.p * (q : Int) := Int.mul_nonneg (by omega) (by omega)
      have eN : (x + r.p * (q : Int)).toNat = x.toNat + q * r.p.toNat := by
        have : r.p * (q : Int) = ((q * r.p.toNat : Nat) : Int) := by
          rw [Int.natCast_mul, Int.mul_comm, show ((r.p.toNat : Nat) : Int) = r.p by omega]
        omega
      refine ⟨by omega, ?_, ?_⟩
      · unfold Rh.goes
        rw [if_neg (by omega), Int.add_mul_emod_self_left]
        simpa using hmem.2.2
      · rw [eN, h.cnt_periods _ (by omega)]
        have h1 := h.cnt_row (x - r.s).toNat (by omega)
        rw [show r.s.toNat + (x - r.s).toNat = x.toNat by omega, show r.s + (((x - r.s).toNat : Nat) : Int) = x by omega, filter_at h.row_lt _ x hx] at h1
        have h2 := Nat.div_add_mod (k - r.M.length) r.row.length
        rw [hq, hrl] at h2
        rw [hrl] at h1
        rw [Nat.mul_comm] at h2
        omega
theorem Rh.Ok.nth_some {r : Rh} (h : r.Ok) (hR : r.R ≠ []) (k : Nat) : ∃ t, r.nthT k = some t := by
  unfold Rh.nthT
  split
  · exact ⟨_, rfl⟩
  · have hrl : r.row.length = r.R.length := by unfold Rh.row; rw [(sortP _).length_eq, List.length_map]
    have hpos : 0 < r.R.length := List.length_pos_iff.mpr hR
    rw [List.getElem?_eq_getElem (Nat.mod_lt _ (by omega))]
    exact ⟨_, rfl⟩
/-- the minute that goes with n ahead is the n-th -/
theorem Rh.Ok.nth_eq {r : Rh} (h : r.Ok) (hR : r.R ≠ []) {k t : Nat} (hg : r.goes t = true) (hc : cnt r.goes t = k) : r.nthT k = some (t : Int) := by
  obtain ⟨u, e⟩ := h.nth_some hR k
  obtain ⟨h0, h1, h2⟩ := h.nth_spec e
  have : u.toNat = t := cnt_inj (g := r.goes) (by rw [show ((u.toNat : Nat) : Int) = u by omega]; exact h1) hg (h2.trans hc.symm)
  rw [e]
  congr 1
  omega
end VE

namespace VE
open PySem
/-! reckoning, piece by piece -/
theorem test_p {f : EF} {env : En} {b : Bool} (h : f env = pure (.bool b)) : xTest f env = pure b := by
  unfold xTest
  rw [h, pb]
  rfl
theorem truth_p {f : EF} {env : En} {x : D} {b : Bool} (h : f env = pure x) (hb : truth x = some b) : xTruth f env = pure b := by
  unfold xTruth
  rw [h, pb, hb]
  rfl
theorem op_p {F : D → D → Option D} {f g : EF} {env : En} {a b c : D} (h1 : f env = pure a) (h2 : g env = pure b) (h3 : F a b = some c) : xOp F f g env = pure c := by
  unfold xOp
  rw [h1, pb, h2, pb, h3]
  rfl
theorem un_p {F : D → Option D} {f : EF} {env : En} {a c : D} (h1 : f env = pure a) (h3 : F a = some c) : xUn F f env = pure c := by
  unfold xUn
  rw [h1, pb, h3]
  rfl
theorem cons_p {f : EF} {g : AF} {env : En} {a : D} {xs : List D} (h1 : f env = pure a) (h2 : g env = pure xs) : xCons f g env = pure (a :: xs) := by
  unfold xCons
  rw [h1, pb, h2]
  rfl
theorem nil_p {env : En} : xNil env = pure [] := rfl
theorem call_p {F : List D → Option D} {f : AF} {env : En} {xs : List D} {c : D} (h1 : f env = pure xs) (h3 : F xs = some c) : xCall F f env = pure c := by
  unfold xCall
  rw [h1, pb, h3]
  rfl
theorem if_then {t : TF} {f g : SF} {env : En} (h : t env = pure true) : sIf t f g env = f env := by
  unfold sIf
  rw [h, pb]
  rfl
theorem if_else {t : TF} {f g : SF} {env : En} (h : t env = pure false) : sIf t f g env = g env := by
  unfold sIf
  rw [h, pb]
  rfl
theorem and_f {t u : TF} {env : En} (h : t env = pure false) : xAnd t u env = pure false := by
  unfold xAnd
  rw [h, pb]
  rfl
theorem and_t {t u : TF} {env : En} {b : Bool} (h : t env = pure true) (h2 : u env = pure b) : xAnd t u env = pure b := by
  unfold xAnd
  rw [h, pb]
  exact h2
theorem or_f {t u : TF} {env : En} {b : Bool} (h : t env = pure false) (h2 : u env = pure b) : xOr t u env = pure b := by
  unfold xOr
  rw [h, pb]
  exact h2
theorem or_t {t u : TF} {env : En} (h : t env = pure true) : xOr t u env = pure true := by
  unfold xOr
  rw [h, pb]
  rfl
theorem not_p {t : TF} {env : En} {b : Bool} (h : t env = pure b) : xNot t env = pure (!b) := by
  unfold xNot
  rw [h, pb]

theorem rangeL0 (n : Nat) : rangeL 0 (n : Int) = (List.range n).map fun (k : Nat) => PyData.int (k : Int) := by
  unfold rangeL
  rw [Int.sub_zero, Int.toNat_natCast]
  congr 1
  funext k
  rw [Int.zero_add]
theorem rangeL0_get {n i : Nat} {x : D} (h : (rangeL 0 (n : Int))[i]? = some x) : x = .int (i : Int) ∧ i < n := by
  rw [rangeL0, List.getElem?_map] at h
  obtain ⟨k, h1, h2⟩ := Option.map_eq_some_iff.mp h
  rw [List.getElem?_range (by
    refine Nat.lt_of_not_le fun q => ?_
    rw [List.getElem?_eq_none (by rw [List.length_range]; exact q)] at h1
    cases h1)] at h1
  cases h1
  refine ⟨h2.symm, ?_⟩
  refine Nat.lt_of_not_le fun q => ?_
  rw [List.getElem?_eq_none (by rw [List.length_range]; exact q)] at h
  cases h
theorem small62_nat {n : Nat} (h : n ≤ 1000000) : small62 (n : Int) = true := by
  unfold small62
  rw [Bool.and_eq_true, decide_eq_true_eq, decide_eq_true_eq]
  omega

theorem eqvAll_ints : ∀ xs ys : List Int, PyData.eqvAll (xs.map .int) (ys.map .int) = decide (xs = ys)
  | [], [] => by simp [PyData.eqvAll]
  | [], y :: ys => by simp [PyData.eqvAll]
  | x :: xs, [] => by simp [PyData.eqvAll]
  | x :: xs, y :: ys => by
    rw [List.map_cons, List.map_cons, PyData.eqvAll, eqv_int, eqvAll_ints xs ys]
    by_cases h : x = y <;> by_cases h2 : xs = ys <;> simp [h, h2]
theorem shp_ints (xs : List Int) : shp (.list (xs.map .int)) = true := by
  have h1 : PyData.canLayAll0 (xs.map .int) = true := by
    induction xs with
    | nil => rw [List.map_nil, PyData.canLayAll0]
    | cons x r ih => rw [List.map_cons, PyData.canLayAll0, PyData.canLay0, ih]; rfl
  have h2 : PyData.depthAll (xs.map .int) = 0 := by
    clear h1
    induction xs with
    | nil => rw [List.map_nil, PyData.depthAll]
    | cons x r ih => rw [List.map_cons, PyData.depthAll, PyData.depth, ih]; rfl
  unfold shp SeqAt.shaped
  rw [PyData.canLay0, PyData.depth, h1, h2]
  rfl
theorem fEq_ints (xs ys : List Int) : fEq (.list (xs.map .int)) (.list (ys.map .int)) = some (.bool (decide (xs = ys))) := by
  unfold fEq
  rw [shp_ints xs, shp_ints ys]
  have e : PyData.eqv (.list (xs.map .int)) (.list (ys.map .int)) = decide (xs = ys) := by
    rw [PyData.eqv, eqvAll_ints]
  rw [e]
  rfl
/-- a loop that may break off -/
theorem for_brk {g : GF} {body : SF} (I : En → Prop) (J : En → Prop) : ∀ (xs : List D) (env : En), I env →
    (∀ x ∈ xs, ∀ env, I env → ∃ env1 fl env2, g x env = some env1 ∧ body env1 = pure (fl, env2) ∧ ((fl = .nx ∧ I env2) ∨ (fl = .bk ∧ J env2))) →
    ∃ env', sFor.go g body xs env = pure (.nx, env') ∧ (I env' ∨ J env')
  | [], env, h0, _ => ⟨env, rfl, .inl h0⟩
  | x :: r, env, h0, H => by
    obtain ⟨env1, fl, env2, h1, h2, h3⟩ := H x List.mem_cons_self env h0
    rcases h3 with ⟨rfl, h3⟩ | ⟨rfl, h3⟩
    · obtain ⟨env', h4, h5⟩ := for_brk I J r env2 h3 fun y hy => H y (List.mem_cons_of_mem _ hy)
      refine ⟨env', ?_, h5⟩
      rw [sFor.go, h1, lift_some, pb, h2, pb]
      exact h4
    · refine ⟨env2, ?_, .inr h3⟩
      rw [sFor.go, h1, lift_some, pb, h2, pb]
/-! rhythms without marks that start at 0 -/
def rz (p : Int) (R : List Int) : Rh := ⟨0, [], p, R⟩
theorem rz_ok {p : Int} {R : List Int} (hp : 0 < p) (hs : R.Pairwise (· < ·)) (hb : ∀ x ∈ R, 0 ≤ x ∧ x < p) : (rz p R).Ok := ⟨Int.le_refl _, hp, .nil, fun x hx => absurd hx (by simp [rz]), hs, hb⟩
theorem rz_goes (p : Int) (R : List Int) {m : Int} (hm : 0 ≤ m) : (rz p R).goes m = decide (m % p ∈ R) := by
  unfold Rh.goes rz
  rw [if_neg (by show ¬ m < 0; omega)]
/-- 0, 1, .. below n -/
def ups (n : Nat) : List Int := (List.range n).map fun (k : Nat) => (k : Int)
theorem rangeL_ups (n : Nat) : rangeL 0 (n : Int) = (ups n).map .int := by
  rw [rangeL0, ups, List.map_map]
  rfl
theorem mem_ups {n : Nat} {x : Int} : x ∈ ups n ↔ 0 ≤ x ∧ x < n := by
  unfold ups
  rw [List.mem_map]
  constructor
  · rintro ⟨k, hk, rfl⟩
    have := List.mem_range.mp hk
    omega
  · intro h
    exact ⟨x.toNat, List.mem_range.mpr (by omega), by omega⟩
theorem ups_lt (n : Nat) : (ups n).Pairwise (· < ·) := by
  unfold ups
  rw [List.pairwise_map]
  exact List.pairwise_lt_range.imp fun h => by omega
theorem ups_len (n : Nat) : (ups n).length = n := by simp [ups]
theorem ups_succ (n : Nat) : ups (n + 1) = ups n ++ [(n : Int)] := by
  unfold ups
  rw [List.range_succ, List.map_append]
  rfl
theorem lt_len {R : List Int} {p : Nat} (hs : R.Pairwise (· < ·)) (hb : ∀ x ∈ R, 0 ≤ x ∧ x < (p : Int)) : R.length ≤ p := by
  have h1 : R.Nodup := nodup_of hs
  have := List.Nodup.length_le_of_subset h1 (l₂ := ups p) fun x hx => mem_ups.mpr (hb x hx)
  rwa [ups_len] at this
theorem sp_p {s r : SF} {env env1 : En} {fl : Fl} (h : s env = pure (.nx, env1)) (k : ∃ e, r env1 = pure (fl, e)) : ∃ e, sSeq s r env = pure (fl, e) := by
  rw [seq_pure h]
  exact k
theorem sp_ret {f : EF} {env : En} {x : D} (h : f env = pure x) : ∃ e, sRet f env = pure (.rt x, e) := by
  refine ⟨env, ?_⟩
  unfold sRet
  rw [h]
  rfl
theorem fIn_ints' (x : Int) (xs : List Int) : fIn (.int x) (.list (xs.map .int)) = some (.bool (decide (x ∈ xs))) := fIn_int x xs

/-! reckoning where the draws and the net may change -/
theorem un_w {F : D → Option D} {f : EF} {env : En} {w w1 : W} {a c : D} (h1 : f env w = some (a, w1)) (h3 : F a = some c) : xUn F f env w = some (c, w1) := by
  unfold xUn
  rw [bind_w h1, h3]
  rfl
theorem call_w {F : List D → Option D} {f : AF} {env : En} {w w1 : W} {xs : List D} {c : D} (h1 : f env w = some (xs, w1)) (h3 : F xs = some c) : xCall F f env w = some (c, w1) := by
  unfold xCall
  rw [bind_w h1, h3]
  rfl
theorem test_w {f : EF} {env : En} {w w1 : W} {b : Bool} (h : f env w = some (.bool b, w1)) : xTest f env w = some (b, w1) := by
  unfold xTest
  rw [bind_w h]
  rfl
theorem truth_w {f : EF} {env : En} {w w1 : W} {x : D} {b : Bool} (h : f env w = some (x, w1)) (hb : truth x = some b) : xTruth f env w = some (b, w1) := by
  unfold xTruth
  rw [bind_w h, hb]
  rfl
theorem and_w {t u : TF} {env : En} {w : W} {a b : Bool} (h : t env w = some (a, w)) (h2 : a = true → u env w = some (b, w)) : xAnd t u env w = some (a && b, w) := by
  unfold xAnd
  rw [bind_w h]
  cases a with
  | true => rw [if_pos rfl, h2 rfl]; rfl
  | false => rfl
theorem or_w {t u : TF} {env : En} {w : W} {a b : Bool} (h : t env w = some (a, w)) (h2 : a = false → u env w = some (b, w)) : xOr t u env w = some (a || b, w) := by
  unfold xOr
  rw [bind_w h]
  cases a with
  | false => rw [if_neg Bool.false_ne_true, h2 rfl]; rfl
  | true => rfl
theorem if_then_w {t : TF} {f g : SF} {env : En} {w w1 : W} (h : t env w = some (true, w1)) : sIf t f g env w = f env w1 := by
  unfold sIf
  rw [bind_w h]
  rfl
theorem if_else_w {t : TF} {f g : SF} {env : En} {w w1 : W} (h : t env w = some (false, w1)) : sIf t f g env w = g env w1 := by
  unfold sIf
  rw [bind_w h]
  rfl
theorem app_w {i : Nat} {f : EF} {env : En} {w w1 : W} {xs : List D} {x : D} (h : f env w = some (x, w1)) (h2 : env[i]? = some (.ow false xs)) (hl : xs.length < line) : sApp i f env w = some ((.nx, env.set i (.ow false (xs ++ [x]))), w1) := by
  unfold sApp
  rw [bind_w h, h2]
  show (if xs.length < line then (pure (.nx, env.set i (.ow false (xs ++ [x]))) : M (Fl × En)) else fail) w1 = _
  rw [if_pos hl]
  rfl
theorem set_w {i : Nat} {k f : EF} {env : En} {w w1 w2 : W} {xs : List D} {x : D} {z : Int} {j : Nat} (h : f env w = some (x, w1)) (hk : k env w1 = some (.int z, w2)) (h2 : env[i]? = some (.ow false xs)) (hj : ixN xs.length z = some j) : sSet i k f env w = some ((.nx, env.set i (.ow false (xs.set j x))), w2) := by
  unfold sSet
  rw [bind_w h, bind_w hk, h2]
  show (match ixN xs.length z with | some j => (pure (.nx, env.set i (.ow false (xs.set j x))) : M (Fl × En)) | none => fail) w2 = _
  rw [hj]
  rfl
theorem ixN_nat {n j : Nat} (h : j < n) : ixN n (j : Int) = some j := by
  unfold ixN
  rw [if_pos (by omega), if_pos (by omega), Int.toNat_natCast]
theorem ret_w {f : EF} {env : En} {w w1 : W} {x : D} (h : f env w = some (x, w1)) : sRet f env w = some ((.rt x, env), w1) := by
  unfold sRet
  rw [bind_w h]
  rfl
theorem seq_rt_w {s r : SF} {env env1 : En} {w w1 : W} {x : D} (h : s env w = some ((.rt x, env1), w1)) : sSeq s r env w = some ((.rt x, env1), w1) := by
  unfold sSeq
  show (s env >>= _) w = _
  rw [bind_w h]
  rfl
theorem seq_to {s r : SF} {env env1 env2 : En} {w w1 w2 : W} {fl : Fl} (h : s env w = some ((.nx, env1), w1)) (h2 : r env1 w1 = some ((fl, env2), w2)) : sSeq s r env w = some ((fl, env2), w2) := (seq_w h).trans h2
theorem for_w {it : IF} {g : GF} {body : SF} {env : En} {w w1 : W} {xs : List D} {r : (Fl × En) × W} (h1 : it env w = some (xs, w1)) (h2 : sFor.go g body xs env w1 = some r) : sFor it g body env w = some r := by
  unfold sFor
  rw [bind_w h1]
  exact h2
theorem iLst_w {f : EF} {env : En} {w w1 : W} {xs : List D} (h : f env w = some (.list xs, w1)) : iLst f env w = some (xs, w1) := by
  unfold iLst
  rw [bind_w h]
  rfl
/-- a loop by its invariant -/
theorem for_inv_w {g : GF} {body : SF} (I : Nat → En → W → Prop) : ∀ (xs : List D) (k : Nat) (env : En) (w : W), I k env w →
    (∀ i x env w, xs[i]? = some x → I (k + i) env w → ∃ env1 fl env2 w2, g x env = some env1 ∧ body env1 w = some ((fl, env2), w2) ∧ (fl = .nx ∨ fl = .ct) ∧ I (k + i + 1) env2 w2) →
    ∃ env' w', sFor.go g body xs env w = some ((.nx, env'), w') ∧ I (k + xs.length) env' w'
  | [], k, env, w, h0, _ => ⟨env, w, rfl, h0⟩
  | x :: r, k, env, w, h0, H => by
    obtain ⟨env1, fl, env2, w2, h1, h2, hfl, h3⟩ := H 0 x env w rfl h0
    obtain ⟨env', w', h4, h5⟩ := for_inv_w I r (k + 1) env2 w2 h3 fun i y e v hy hI => by
      have := H (i + 1) y e v (by simpa using hy) (by rw [show k + (i + 1) = k + 1 + i by omega]; exact hI)
      rw [show k + (i + 1) + 1 = k + 1 + i + 1 by omega] at this
      exact this
    refine ⟨env', w', ?_, by rw [show k + (x :: r).length = k + 1 + r.length by rw [List.length_cons]; omega]; exact h5⟩
    rw [sFor.go, h1, lift_some, pb, bind_w h2]
    rcases hfl with rfl | rfl <;> exact h4
/-- a while by its invariant and a measure that its fuel covers -/
theorem while_inv_w {t : TF} {body : SF} (I : En → W → Prop) (μ : En → Nat) (J : En → W → Prop) (step : ∀ env w, I env w → (t env w = some (false, w) ∧ J env w) ∨ (t env w = some (true, w) ∧ ∃ fl env2 w2, body env w = some ((fl, env2), w2) ∧ (fl = .nx ∨ fl = .ct) ∧ I env2 w2 ∧ μ env2 < μ env)) :
    ∀ (n : Nat) (env : En) (w : W), I env w → μ env < n → ∃ env' w', sWhile.go t body n env w = some ((.nx, env'), w') ∧ J env' w'
  | 0, _, _, _, h => absurd h (Nat.not_lt_zero _)
  | n + 1, env, w, hI, hm => by
    rcases step env w hI with ⟨h1, hJ⟩ | ⟨h1, fl, env2, w2, h2, hfl, hI2, hlt⟩
    · refine ⟨env, w, ?_, hJ⟩
      rw [sWhile.go, bind_w h1, if_neg Bool.false_ne_true]
      rfl
    · obtain ⟨env', w', h3, hJ⟩ := while_inv_w I μ J step n env2 w2 hI2 (by omega)
      refine ⟨env', w', ?_, hJ⟩
      rw [sWhile.go, bind_w h1, if_pos rfl, bind_w h2]
      rcases hfl with rfl | rfl <;> exact h3
theorem while_next {t : TF} {body : SF} {n : Nat} {env env2 : En} {w w2 : W} (h1 : t env w = some (true, w)) (h2 : body env w = some ((.nx, env2), w2)) : sWhile.go t body (n + 1) env w = sWhile.go t body n env2 w2 := by
  rw [sWhile.go, bind_w h1, if_pos rfl, bind_w h2]
theorem while_rt {t : TF} {body : SF} {n : Nat} {env env2 : En} {w w2 : W} {x : D} (h1 : t env w = some (true, w)) (h2 : body env w = some ((.rt x, env2), w2)) : sWhile.go t body (n + 1) env w = some ((.rt x, env2), w2) := by
  rw [sWhile.go, bind_w h1, if_pos rfl, bind_w h2]
  rfl
/-- .. with a number that falls -/
theorem while_num_w {t : TF} {body : SF} (I : Nat → En → W → Prop) (J : En → W → Prop) (step : ∀ k env w, I k env w → (t env w = some (false, w) ∧ J env w) ∨ (t env w = some (true, w) ∧ ∃ fl env2 w2 k2, body env w = some ((fl, env2), w2) ∧ (fl = .nx ∨ fl = .ct) ∧ k2 < k ∧ I k2 env2 w2)) :
    ∀ (n k : Nat) (env : En) (w : W), I k env w → k < n → ∃ env' w', sWhile.go t body n env w = some ((.nx, env'), w') ∧ J env' w'
  | 0, _, _, _, _, h => absurd h (Nat.not_lt_zero _)
  | n + 1, k, env, w, hI, hm => by
    rcases step k env w hI with ⟨h1, hJ⟩ | ⟨h1, fl, env2, w2, k2, h2, hfl, hlt, hI2⟩
    · refine ⟨env, w, ?_, hJ⟩
      rw [sWhile.go, bind_w h1, if_neg Bool.false_ne_true]
      rfl
    · obtain ⟨env', w', h3, hJ⟩ := while_num_w I J step n k2 env2 w2 hI2 (by omega)
      refine ⟨env', w', ?_, hJ⟩
      rw [sWhile.go, bind_w h1, if_pos rfl, bind_w h2]
      rcases hfl with rfl | rfl <;> exact h3
/-! a net -/
theorem withN_w {α : Type} {i : Nat} {env : En} {F : Net → M α} {w : W} {N : Net} (h : env[i]? = some (.st 8)) (hN : w.ob = some N) : withN i env F w = F N w := by
  unfold withN
  rw [h, hN]
  rfl
theorem nix_w {i : Nat} {fd : Fd} {f : EF} {env : En} {w w1 : W} {N : Net} {j : Nat} {x : Int} (hf : f env w = some (.int (j : Int), w1)) (h : env[i]? = some (.st 8)) (hN : w1.ob = some N) (hx : (N.fd fd)[j]? = some x) : xNIx i fd f env w = some (.int x, w1) := by
  unfold xNIx
  rw [bind_w hf, withN_w h hN]
  have e : fIx (.list ((N.fd fd).map .int)) (.int (j : Int)) = some (.int x) := atI_nat (by rw [List.getElem?_map, hx]; rfl)
  rw [e]
  rfl
theorem ncall_w {i : Nat} {F : List D → Net → Option (D × Net)} {f : AF} {env : En} {w w1 : W} {N N' : Net} {xs : List D} {y : D} (hf : f env w = some (xs, w1)) (h : env[i]? = some (.st 8)) (hN : w1.ob = some N) (hF : F xs N = some (y, N')) : xNCall i F f env w = some (y, ⟨w1.pos, w1.cells, some N'⟩) := by
  unfold xNCall
  rw [bind_w hf, withN_w h hN, hF]
  rfl
theorem nset_w {i : Nat} {fd : Fd} {k f : EF} {env : En} {w w1 w2 : W} {N : Net} {j : Nat} {y : Int} (hf : f env w = some (.int y, w1)) (hk : k env w1 = some (.int (j : Int), w2)) (h : env[i]? = some (.st 8)) (hN : w2.ob = some N) (hj : j < (N.fd fd).length) :
    sNSet i fd k f env w = some ((.nx, env), ⟨w2.pos, w2.cells, some (N.setFd fd ((N.fd fd).set j y))⟩) := by
  unfold sNSet
  rw [bind_w hf, bind_w hk]
  show (withN i env _) w2 = _
  rw [withN_w h hN, ixN_nat hj]
  rfl
theorem goN_inv {O : List (List Int)} {g : GF} {body : SF} (I : Nat → En → W → Prop) (hO : ∀ k env w, I k env w → ∃ N, w.ob = some N ∧ N.outs = O) : ∀ (xs : List Int) (k : Nat) (env : En) (w : W), I k env w →
    (∀ i x env w, xs[i]? = some x → I (k + i) env w → ∃ env1 fl env2 w2, g (.int x) env = some env1 ∧ body env1 w = some ((fl, env2), w2) ∧ (fl = .nx ∨ fl = .ct) ∧ I (k + i + 1) env2 w2) →
    ∃ env' w', goN O g body xs env w = some ((.nx, env'), w') ∧ I (k + xs.length) env' w'
  | [], k, env, w, h0, _ => ⟨env, w, rfl, h0⟩
  | x :: r, k, env, w, h0, H => by
    obtain ⟨env1, fl, env2, w2, h1, h2, hfl, h3⟩ := H 0 x env w rfl h0
    obtain ⟨env', w', h4, h5⟩ := goN_inv I hO r (k + 1) env2 w2 h3 fun i y e v hy hI => by
      have := H (i + 1) y e v (by simpa using hy) (by rw [show k + (i + 1) = k + 1 + i by omega]; exact hI)
      rw [show k + (i + 1) + 1 = k + 1 + i + 1 by omega] at this
      exact this
    refine ⟨env', w', ?_, by rw [show k + (x :: r).length = k + 1 + r.length by rw [List.length_cons]; omega]; exact h5⟩
    obtain ⟨N, hN, hNO⟩ := hO _ _ _ h3
    have hc : chkO O w2 = some ((), w2) := by unfold chkO; rw [hN]; show (if N.outs = O then some ((), w2) else none) = _; rw [if_pos hNO]
    rw [goN, h1, lift_some, pb, bind_w h2]
    rcases hfl with rfl | rfl
    · show (chkO O >>= _) w2 = _
      rw [bind_w hc]
      exact h4
    · show (chkO O >>= _) w2 = _
      rw [bind_w hc]
      exact h4
theorem forO_w {i : Nat} {k : EF} {g : GF} {body : SF} {env : En} {w w1 : W} {N : Net} {j : Nat} {xs : List Int} {r : (Fl × En) × W} (hk : k env w = some (.int (j : Int), w1)) (h : env[i]? = some (.st 8)) (hN : w1.ob = some N) (hx : N.outs[j]? = some xs) (hg : goN N.outs g body xs env w1 = some r) : sForO i k g body env w = some r := by
  unfold sForO
  rw [bind_w hk]
  show (withN i env _) w1 = _
  rw [withN_w h hN, ixN_nat (List.getElem?_eq_some_iff.mp hx).1, lift_some, pb, hx, lift_some, pb]
  exact hg
theorem runMeth_rt {np nl : Nat} {body : SF} {xs : List D} {N N' : Net} {y : D} {env' : En} {w' : W} (hl : xs.length = np) (h : body (.st 8 :: xs.map .sh ++ List.replicate nl .no) ⟨0, [], some N⟩ = some ((.rt y, env'), w')) (hN : w'.ob = some N') : runMeth np nl body xs N = some (y, N') := by
  unfold runMeth
  rw [if_pos hl, h]
  show w'.ob.map _ = _
  rw [hN]
  rfl
theorem own_w {i : Nat} {f : LF} {env : En} {w w1 : W} {xs : List D} (h : f env w = some (xs, w1)) : sOwn i f env w = some ((.nx, env.set i (.ow false xs)), w1) := by
  unfold sOwn
  rw [bind_w h]
  rfl
theorem nnones_w {vs : List Nat} {i : Nat} {env e : En} {w : W} {N : Net} (hw : wipeE env vs = some e) (h : env[i]? = some (.st 8)) (hN : w.ob = some N) (hl : N.outs.length ≤ line) : xNNones vs i env w = some (List.replicate N.outs.length .none, w) := by
  unfold xNNones
  rw [hw, lift_some, pb, withN_w h hN, if_pos hl]
  rfl
/-- a comprehension that only looks -/
theorem compL_fw {α : Type} {g : GF} {f : EF} {env : En} {w : W} (enc h : α → D) : ∀ xs : List α, (∀ x ∈ xs, ∃ env1, g (enc x) env = some env1 ∧ f env1 w = some (h x, w)) → compL g tYesF f env (xs.map enc) w = some (xs.map h, w)
  | [], _ => rfl
  | x :: r, H => by
    obtain ⟨env1, h1, h2⟩ := H x List.mem_cons_self
    have ih := compL_fw enc h r fun y hy => H y (List.mem_cons_of_mem _ hy)
    rw [List.map_cons, compL, h1, lift_some, pb]
    have : tYesF env1 = pure true := rfl
    rw [this, pb, if_pos rfl, bind_w h2, bind_w ih]
    rfl
theorem take_ok2 {most : Int} (h1 : 0 < most) (h2 : most < 1073741824) {w : W} (hw : 0 < w.cells.length) : ∃ r w', takeW most w = some (r, w') ∧ 0 ≤ r ∧ r < most ∧ 0 < w'.cells.length ∧ w'.ob = w.ob := by
  obtain ⟨r, w', e1, e2, e3, e4⟩ := take_ok h1 h2 hw
  refine ⟨r, w', e1, e2, e3, e4, ?_⟩
  unfold takeW at e1
  split at e1
  · dsimp only at e1
    split at e1
    · cases e1
    · split at e1
      · cases e1; rfl
      · cases e1; rfl
  · cases e1
theorem sorted_w {f : EF} {env : En} {w w1 : W} {ns : List Int} (h : f env w = some (.list (ns.map .int), w1)) (hl : ns.length ≤ line) : xSorted f env w = some ((sortI ns).map .int, w1) := by
  unfold xSorted
  rw [bind_w h]
  show (lift ((asInts (ns.map .int)).bind _)) w1 = _
  rw [asInts_map, Option.bind_some, if_pos hl]
  rfl
theorem par3_w {i j l : Nat} {f : AF} {env : En} {w w1 : W} {x y z : D} (h : f env w = some ([x, y, z], w1)) : sPar3 i j l f env w = some ((.nx, ((env.set i (.sh x)).set j (.sh y)).set l (.sh z)), w1) := by
  unfold sPar3
  rw [bind_w h]
  rfl
theorem of_pure {α : Type} {x : M α} {a : α} {w : W} (h : x = pure a) : x w = some (a, w) := by rw [h]; rfl
/-- a comprehension that changes the net -/
theorem compL_seq {α : Type} {g : GF} {f : EF} {env : En} (enc : α → D) (out : Nat → D) (I : Nat → W → Prop) : ∀ (xs : List α) (k : Nat) (w : W), I k w → (∀ i x w, xs[i]? = some x → I (k + i) w → ∃ env1 w', g (enc x) env = some env1 ∧ f env1 w = some (out (k + i), w') ∧ I (k + i + 1) w') →
    ∃ w', compL g tYesF f env (xs.map enc) w = some ((List.range xs.length).map fun i => out (k + i), w') ∧ I (k + xs.length) w'
  | [], k, w, h0, _ => ⟨w, rfl, h0⟩
  | x :: r, k, w, h0, H => by
    obtain ⟨env1, w1, h1, h2, h3⟩ := H 0 x w rfl h0
    obtain ⟨w', h4, h5⟩ := compL_seq enc out I r (k + 1) w1 h3 fun i y v hy hI => by
      have := H (i + 1) y v (by simpa using hy) (by rw [show k + (i + 1) = k + 1 + i by omega]; exact hI)
      rw [show k + (i + 1) = k + 1 + i by omega] at this
      exact this
    refine ⟨w', ?_, by rw [show k + (x :: r).length = k + 1 + r.length by rw [List.length_cons]; omega]; exact h5⟩
    rw [List.map_cons, compL, h1, lift_some, pb]
    have : tYesF env1 = pure true := rfl
    rw [this, pb, if_pos rfl, bind_w h2, bind_w h4, List.length_cons, List.range_succ_eq_map, List.map_cons, List.map_map]
    show some (out (k + 0) :: (List.range r.length).map (fun i => out (k + 1 + i)), w') = some (out (k + 0) :: (List.range r.length).map ((fun i => out (k + i)) ∘ Nat.succ), w')
    congr 3
    apply List.map_congr_left
    intro i _
    show out (k + 1 + i) = out (k + (i + 1))
    rw [show k + 1 + i = k + (i + 1) by omega]
/-- a comprehension with a test that only looks -/
theorem compL_ft {α : Type} {g : GF} {t : TF} {f : EF} {env : En} {w : W} (enc h : α → D) (p : α → Bool) : ∀ xs : List α, (∀ x ∈ xs, ∃ env1, g (enc x) env = some env1 ∧ t env1 w = some (p x, w) ∧ (p x = true → f env1 w = some (h x, w))) → compL g t f env (xs.map enc) w = some ((xs.filter p).map h, w)
  | [], _ => rfl
  | x :: r, H => by
    obtain ⟨env1, h1, h2, h3⟩ := H x List.mem_cons_self
    have ih := compL_ft enc h p r fun y hy => H y (List.mem_cons_of_mem _ hy)
    rw [List.map_cons, compL, h1, lift_some, pb, bind_w h2]
    cases hp : p x with
    | false => rw [if_neg Bool.false_ne_true, ih, List.filter_cons_of_neg (by rw [hp]; exact Bool.false_ne_true)]
    | true => rw [if_pos rfl, bind_w (h3 hp), bind_w ih, List.filter_cons_of_pos hp]; rfl

/-! more to reckon with -/
theorem and_p {t u : TF} {env : En} {a b : Bool} (h : t env = pure a) (h2 : a = true → u env = pure b) : xAnd t u env = pure (a && b) := by
  cases a with
  | true => rw [Bool.true_and]; exact and_t h (h2 rfl)
  | false => exact and_f h
theorem or_p {t u : TF} {env : En} {a b : Bool} (h : t env = pure a) (h2 : a = false → u env = pure b) : xOr t u env = pure (a || b) := by
  cases a with
  | false => rw [Bool.false_or]; exact or_f h (h2 rfl)
  | true => exact or_t h
theorem iR1_p {f : AF} {env : En} {j : Int} (h : f env = pure [.int j]) (hs : small62 j = true) : iR1 f env = pure (rangeL 0 j) := by
  unfold iR1
  rw [h, pb]
  show (if small62 j = true then _ else _) = _
  rw [if_pos hs]
theorem iLst_p {f : EF} {env : En} {xs : List D} (h : f env = pure (.list xs)) : iLst f env = pure xs := by
  unfold iLst
  rw [h, pb]
  rfl
def mx : List Int → Int
  | [] => 0
  | a :: r => maxI a r
theorem mx_snoc {xs : List Int} (h : xs ≠ []) (y : Int) : mx (xs ++ [y]) = if mx xs < y then y else mx xs := by
  cases xs with
  | nil => exact absurd rfl h
  | cons a r =>
    show List.foldl _ a (r ++ [y]) = _
    rw [List.foldl_append]
    rfl
theorem mx_one (y : Int) : mx [y] = y := rfl
theorem mx_ge : ∀ {xs : List Int} {y : Int}, y ∈ xs → y ≤ mx xs := by
  intro xs
  have key : ∀ (r : List Int) (a : Int), a ≤ maxI a r ∧ ∀ y ∈ r, y ≤ maxI a r := by
    intro r
    induction r with
    | nil => intro a; exact ⟨Int.le_refl _, fun _ h => by simp at h⟩
    | cons b r ih =>
      intro a
      have e : maxI a (b :: r) = maxI (if a < b then b else a) r := rfl
      rw [e]
      have := ih (if a < b then b else a)
      split at this
      · rename_i hc
        rw [if_pos hc]
        refine ⟨by omega, fun y hy => ?_⟩
        rcases List.mem_cons.mp hy with rfl | hy
        · exact this.1
        · exact this.2 y hy
      · rename_i hc
        rw [if_neg hc]
        refine ⟨this.1, fun y hy => ?_⟩
        rcases List.mem_cons.mp hy with rfl | hy
        · omega
        · exact this.2 y hy
  cases xs with
  | nil => intro y h; simp at h
  | cons a r =>
    intro y h
    rcases List.mem_cons.mp h with rfl | h
    · exact (key r _).1
    · exact (key r a).2 y h
theorem mx_mem : ∀ {xs : List Int}, xs ≠ [] → mx xs ∈ xs := by
  intro xs
  have key : ∀ (r : List Int) (a : Int), maxI a r ∈ a :: r := by
    intro r
    induction r with
    | nil => intro a; exact List.mem_cons_self
    | cons b r ih =>
      intro a
      have e : maxI a (b :: r) = maxI (if a < b then b else a) r := rfl
      rw [e]
      have := ih (if a < b then b else a)
      split at this
      · rename_i hc; rw [if_pos hc]; exact List.mem_cons_of_mem _ this
      · rename_i hc; rw [if_neg hc]
        rcases List.mem_cons.mp this with h | h
        · rw [h]; exact List.mem_cons_self
        · exact List.mem_cons_of_mem _ (List.mem_cons_of_mem _ h)
  cases xs with
  | nil => intro h; exact absurd rfl h
  | cons a r => intro _; exact key r a
theorem fMax_mx {xs : List Int} (h : xs ≠ []) : fMax [.list (xs.map .int)] = some (.int (mx xs)) := by
  cases xs with
  | nil => exact absurd rfl h
  | cons a r =>
    show (asInts ((a :: r).map .int)).bind _ = _
    rw [asInts_map]
    rfl
theorem take_snoc {E : List Int} {k : Nat} {x : Int} (h : E[k]? = some x) : E.take (k + 1) = E.take k ++ [x] := by
  rw [List.take_add_one, h]
  rfl
theorem take_ne {E : List Int} {k : Nat} (h0 : 0 < k) (h : k ≤ E.length) : E.take k ≠ [] := fun e => by
  have := congrArg List.length e
  rw [List.length_take, List.length_nil] at this
  omega
theorem dI_get {xs : List Int} {j : Nat} {x : Int} (h : xs[j]? = some x) : fIx (dI xs) (.int (j : Int)) = some (.int x) := atI_nat (by rw [List.getElem?_map, h]; rfl)
theorem enum_get : ∀ (xs : List D) (n k : Nat) (x : D), (enumD n xs)[k]? = some x → ∃ y, xs[k]? = some y ∧ x = .tuple [.int ((n + k : Nat) : Int), y]
  | [], n, k, x, h => by simp [enumD] at h
  | y :: r, n, 0, x, h => by
    have h : some (PyData.tuple [.int (n : Int), y]) = some x := h
    cases h
    exact ⟨y, rfl, rfl⟩
  | y :: r, n, k + 1, x, h => by
    obtain ⟨z, h1, h2⟩ := enum_get r (n + 1) k x h
    exact ⟨z, h1, by rw [h2, show n + 1 + k = n + (k + 1) by omega]⟩
theorem enum_lenE : ∀ (xs : List D) (n : Nat), (enumD n xs).length = xs.length
  | [], _ => rfl
  | _ :: r, n => by
    show (enumD (n + 1) r).length + 1 = _
    rw [enum_lenE r]; rfl
theorem fAdd_int (i j : Int) : fAdd (.int i) (.int j) = some (.int (i + j)) := rfl
theorem if_p {t : TF} {f g : SF} {env : En} {b : Bool} {r : M (Fl × En)} (h : t env = pure b) (h1 : b = true → f env = r) (h2 : b = false → g env = r) : sIf t f g env = r := by
  cases b with
  | true => rw [if_then h]; exact h1 rfl
  | false => rw [if_else h]; exact h2 rfl
theorem last_ix {ms : List Int} (y : Int) : fIx (dI (ms ++ [y])) (.int (-1)) = some (.int y) := by
  show atI ((ms ++ [y]).map .int) (-1) = _
  unfold atI ixN
  rw [if_neg (by decide), List.length_map, List.length_append, List.length_singleton, if_pos (by omega), Option.bind_some]
  rw [show (-1 + ((ms.length + 1 : Nat) : Int)).toNat = ms.length by omega, List.getElem?_map, List.getElem?_append_right (Nat.le_refl _), Nat.sub_self]
  rfl
theorem cut_to {E : List Int} {i : Nat} (h : i ≤ E.length) : cut (E.map PyData.int) none (some (i : Int)) = (E.take i).map .int := by
  have e : cut (E.map PyData.int) none (some (i : Int)) = ((E.map PyData.int).drop 0).take ((if (i : Int) < 0 then ((i : Int) + ((E.map PyData.int).length : Int)).toNat else min (i : Int).toNat (E.map PyData.int).length) - 0) := rfl
  rw [e, if_neg (by omega), List.drop_zero, Nat.sub_zero, List.length_map, Int.toNat_natCast, Nat.min_eq_left h, List.map_take]
theorem slice_p {f h : EF} {env : En} {E : List Int} {i : Nat} (hf : f env = pure (dI E)) (hh : h env = pure (.int (i : Int))) (hi : i ≤ E.length) : xSlice f oNo (oSome h) env = pure ((E.take i).map .int) := by
  unfold xSlice oNo oSome
  rw [hf, pb, pb, hh, pb]
  show ((pure (some (i : Int)) : M (Option Int)) >>= _) = _
  rw [pb]
  show pure (cut (E.map .int) none (some (i : Int))) = _
  rw [cut_to hi]
theorem fNe_ints (xs ys : List Int) : fNe (.list (xs.map .int)) (.list (ys.map .int)) = some (.bool (!decide (xs = ys))) := by
  have h := fEq_ints xs ys
  unfold fEq at h
  unfold fNe
  split at h
  · rename_i c
    rw [if_pos c]
    have h : PyData.eqv (.list (xs.map .int)) (.list (ys.map .int)) = decide (xs = ys) := by injection h with h; injection h
    rw [h]
  · cases h
theorem seq_rt {s r : SF} {env env1 : En} {x : D} (h : s env = pure (.rt x, env1)) : sSeq s r env = pure (.rt x, env1) := by
  unfold sSeq
  rw [h, pb]
theorem sp_rt {s r : SF} {env : En} {x : D} (h : ∃ e, s env = pure (.rt x, e)) : ∃ e, sSeq s r env = pure (.rt x, e) := by
  obtain ⟨e, h⟩ := h
  exact ⟨e, seq_rt h⟩
theorem ife_p {t : TF} {f g : EF} {env : En} {x : D} (h : t env = pure true) (h2 : f env = pure x) : xIf t f g env = pure x := by
  unfold xIf
  rw [h, pb]
  exact h2
theorem mx_eq {xs : List Int} {b : Int} (h : b ∈ xs) (h2 : ∀ y ∈ xs, y ≤ b) : mx xs = b := Int.le_antisymm (h2 _ (mx_mem (List.ne_nil_of_mem h))) (mx_ge h)
theorem find_at {ks : List Int} (hn : ks.Nodup) {i : Nat} {s : Int} (h : ks[i]? = some s) : (ks.findIdx? fun z => decide (z = s)) = some i := by
  rw [List.findIdx?_eq_some_iff_getElem]
  obtain ⟨hi, e⟩ := List.getElem?_eq_some_iff.mp h
  refine ⟨hi, by simpa using e, fun j hj => ?_⟩
  have hne : ks[j] ≠ ks[i] := List.pairwise_iff_getElem.mp hn j i (by omega) hi hj
  rw [e] at hne
  simpa using hne
theorem meth_p {F : D → List D → Option D} {f : EF} {g : AF} {env : En} {a c : D} {xs : List D} (h1 : f env = pure a) (h2 : g env = pure xs) (h3 : F a xs = some c) : xMeth F f g env = pure c := by
  unfold xMeth
  rw [h1, pb, h2, pb, h3]
  rfl
theorem sorted_self {ks : List Int} (h : ks.Pairwise (· < ·)) : sortI ks = ks :=
  (sortP ks).eq_of_pairwise (fun a b _ _ h3 h4 => Int.le_antisymm h3 h4) (sortS ks) (h.imp Int.le_of_lt)
theorem cons_w {f : EF} {g : AF} {env : En} {w w1 w2 : W} {a : D} {xs : List D} (h1 : f env w = some (a, w1)) (h2 : g env w1 = some (xs, w2)) : xCons f g env w = some (a :: xs, w2) := by
  unfold xCons
  rw [bind_w h1, bind_w h2]
  rfl
theorem tup_w {f : AF} {env : En} {w w1 : W} {xs : List D} (h : f env w = some (xs, w1)) (hl : xs.length ≤ line) : xTup f env w = some (.tuple xs, w1) := by
  unfold xTup
  rw [bind_w h, if_pos hl]
  rfl
theorem iR1_w {f : AF} {env : En} {w w1 : W} {j : Int} (h : f env w = some ([.int j], w1)) (hs : small62 j = true) : iR1 f env w = some (rangeL 0 j, w1) := by
  unfold iR1
  rw [bind_w h]
  show (if small62 j = true then (pure (rangeL 0 j) : M (List D)) else fail) w1 = _
  rw [if_pos hs]
  rfl
theorem xComp_ww {vs : List Nat} {it : IF} {g : GF} {t : TF} {f : EF} {env e : En} {xs ys : List D} {w w1 w' : W} (h1 : it env w = some (xs, w1)) (h2 : wipeE env vs = some e) (h3 : xs.length ≤ line) (h4 : compL g t f e xs w1 = some (ys, w')) : xComp vs it g t f env w = some (ys, w') := by
  unfold xComp
  rw [bind_w h1, h2, lift_some, pb, if_pos h3]
  exact h4
theorem ext_p {i : Nat} {f : EF} {env : En} {xs ys : List D} (h : f env = pure (.list ys)) (h2 : env[i]? = some (.ow false xs)) (hl : xs.length + ys.length ≤ line) : sExt i f env = pure (.nx, env.set i (.ow false (xs ++ ys))) := by
  unfold sExt
  rw [h, pb, h2]
  show (if xs.length + ys.length ≤ line then _ else _) = _
  rw [if_pos hl]
theorem range1_get {n i : Nat} {x : D} (h : (rangeL 1 (n : Int))[i]? = some x) : x = .int ((i + 1 : Nat) : Int) ∧ i + 1 < n := by
  unfold rangeL at h
  rw [List.getElem?_map] at h
  obtain ⟨k, h1, h2⟩ := Option.map_eq_some_iff.mp h
  have hk : i < ((n : Int) - 1).toNat := by
    have := (List.getElem?_eq_some_iff.mp h1).1
    rwa [List.length_range] at this
  rw [List.getElem?_range hk] at h1
  cases h1
  refine ⟨?_, by omega⟩
  rw [← h2]
  show PyData.int (1 + (i : Int)) = _
  rw [show (1 + (i : Int)) = ((i + 1 : Nat) : Int) by omega]
theorem range1_len (n : Nat) : (rangeL 1 (n : Int)).length = n - 1 := by
  unfold rangeL
  rw [List.length_map, List.length_range]
  omega
theorem iR2_p {f : AF} {env : En} {i j : Int} (h : f env = pure [.int i, .int j]) (hs : small62 i = true) (hs2 : small62 j = true) : iR2 f env = pure (rangeL i j) := by
  unfold iR2
  rw [h, pb]
  show (if (small62 i && small62 j) = true then _ else _) = _
  rw [hs, hs2]
  rfl
theorem app_p {i : Nat} {f : EF} {env : En} {xs : List D} {x : D} (h : f env = pure x) (h2 : env[i]? = some (.ow false xs)) (hl : xs.length < line) : sApp i f env = pure (.nx, env.set i (.ow false (xs ++ [x]))) := by
  unfold sApp
  rw [h, pb, h2]
  show (if xs.length < line then _ else _) = _
  rw [if_pos hl]
theorem tup_p {f : AF} {env : En} {xs : List D} (h : f env = pure xs) (hl : xs.length ≤ line) : xTup f env = pure (.tuple xs) := by
  unfold xTup
  rw [h, pb, if_pos hl]
def pl (z : Slot) : Prop := z = .no ∨ ∃ x, z = .sh x
theorem pl.ow {z : Slot} (h : pl z) : ∀ b xs, z ≠ .ow b xs := by
  rcases h with rfl | ⟨x, rfl⟩ <;> exact fun _ _ e => nomatch e
theorem pl.no : pl .no := .inl rfl
theorem pl.sh {x : D} : pl (.sh x) := .inr ⟨x, rfl⟩

end VE

namespace VE
open PySem
/-! least, on a net whose open ways go up -/
def oD : Option Int → D
  | some i => .int i
  | none => .none
def isOpen (N : Net) (x : Int) : Bool := decide (0 < N.rooms.getD x.toNat 0)
/-- an open way -/
def Way (N : Net) (u e v : Nat) (c : Int) : Prop := ∃ xs r, N.outs[u]? = some xs ∧ (e : Int) ∈ xs ∧ N.goals[e]? = some (v : Int) ∧ N.costs[e]? = some c ∧ N.rooms[e]? = some r ∧ 0 < r
structure Dag (N : Net) (s : Nat) (Dm : Nat → Prop) (ρ : Nat → Nat) (B dg : Nat) : Prop where
  sD : Dm s
  dl : ∀ v, Dm v → v < N.outs.length
  s0 : ρ s = 0
  up : ∀ v, Dm v → ρ v ≤ B
  ed : ∀ (u : Nat) (xs : List Int), Dm u → N.outs[u]? = some xs → ∀ x ∈ xs, ∃ (e v : Nat) (r c : Int), x = (e : Int) ∧ N.goals[e]? = some (v : Int) ∧ N.rooms[e]? = some r ∧ N.costs[e]? = some c ∧ v < N.outs.length ∧ (0 < r → ρ u < ρ v ∧ Dm v)
  deg : ∀ (u : Nat) (xs : List Int), Dm u → N.outs[u]? = some xs → (xs.filter (isOpen N)).length ≤ dg
  d1 : 1 ≤ dg
  small : dg ^ (B + 2) < line
  sv : N.outs.length ≤ line
structure LS (N : Net) (s : Nat) (Dm : Nat → Prop) (cs ca : List (Option Int)) (Dt : Nat → Prop) : Prop where
  dm : ∀ v b, cs[v]? = some (some b) → Dm v
  l1 : cs.length = N.outs.length
  l2 : ca.length = N.outs.length
  st : cs[s]? = some (some 0)
  pred : ∀ v b, v ≠ s → cs[v]? = some (some b) → ∃ e u c a, Way N u e v c ∧ ca[v]? = some (some (e : Int)) ∧ cs[u]? = some (some a) ∧ a + c ≤ b
  clo : ∀ u a, ¬ Dt u → cs[u]? = some (some a) → ∀ e v c, Way N u e v c → ∃ b, cs[v]? = some (some b) ∧ b ≤ a + c
  dv : ∀ u, Dt u → ∃ a, cs[u]? = some (some a)
theorem LS.mono {N : Net} {s : Nat} {Dm : Nat → Prop} {cs ca : List (Option Int)} {Dt Dt' : Nat → Prop} (h : LS N s Dm cs ca Dt) (k : ∀ u, Dt u ↔ Dt' u) : LS N s Dm cs ca Dt' := ⟨h.dm, h.l1, h.l2, h.st, h.pred, fun u a n => h.clo u a fun z => n ((k u).mp z), fun u q => h.dv u ((k u).mpr q)⟩
/-- a way is taken -/
theorem LS.relax {N : Net} {s : Nat} {Dm : Nat → Prop} {cs ca : List (Option Int)} {Dt : Nat → Prop} (h : LS N s Dm cs ca Dt) {u e v : Nat} {c a : Int} (w : Way N u e v c) (ha : cs[u]? = some (some a)) (huv : u ≠ v) (hv : v ≠ s) (hlt : v < N.outs.length) (hDv : Dm v) (hb : ∀ b, cs[v]? = some (some b) → a + c < b) :
    LS N s Dm (cs.set v (some (a + c))) (ca.set v (some (e : Int))) (fun n => Dt n ∨ n = v) := by
  have hcv : v < cs.length := by rw [h.l1]; exact hlt
  have hav : v < ca.length := by rw [h.l2]; exact hlt
  -- what stood has only fallen
  have fall : ∀ n b, cs[n]? = some (some b) → ∃ b', (cs.set v (some (a + c)))[n]? = some (some b') ∧ b' ≤ b := fun n b e => by
    by_cases q : n = v
    · subst q; exact ⟨a + c, by rw [List.getElem?_set_self hcv], Int.le_of_lt (hb b e)⟩
    · exact ⟨b, by rw [List.getElem?_set_ne (Ne.symm q)]; exact e, Int.le_refl _⟩
  refine ⟨fun n b e1 => ?_, by rw [List.length_set]; exact h.l1, by rw [List.length_set]; exact h.l2, by rw [List.getElem?_set_ne hv]; exact h.st, fun n b hn e1 => ?_, fun n b hn e1 e2 v2 c2 w2 => ?_, fun n hn => ?_⟩
  · by_cases q : n = v
    · subst q; exact hDv
    · rw [List.getElem?_set_ne (Ne.symm q)] at e1; exact h.dm n b e1
  · by_cases q : n = v
    · subst q
      rw [List.getElem?_set_self hcv] at e1
      have e1 : a + c = b := by injection e1 with e1; injection e1
      exact ⟨e, u, c, a, w, by rw [List.getElem?_set_self hav], by rw [List.getElem?_set_ne (Ne.symm huv)]; exact ha, by omega⟩
    · rw [List.getElem?_set_ne (Ne.symm q)] at e1
      obtain ⟨e3, u3, c3, a3, w3, q1, q2, q3⟩ := h.pred n b hn e1
      obtain ⟨a4, q4, q5⟩ := fall u3 a3 q2
      exact ⟨e3, u3, c3, a4, w3, by rw [List.getElem?_set_ne (Ne.symm q)]; exact q1, q4, by omega⟩
  · have hnv : n ≠ v := fun z => hn (.inr z)
    rw [List.getElem?_set_ne (Ne.symm hnv)] at e1
    obtain ⟨b2, q1, q2⟩ := h.clo n b (fun z => hn (.inl z)) e1 e2 v2 c2 w2
    obtain ⟨b3, q3, q4⟩ := fall v2 b2 q1
    exact ⟨b3, q3, by omega⟩
  · rcases hn with hn | rfl
    · obtain ⟨b, q⟩ := h.dv n hn
      obtain ⟨b', q', _⟩ := fall n b q
      exact ⟨b', q'⟩
    · exact ⟨_, by rw [List.getElem?_set_self hcv]⟩
abbrev lE (s : Nat) (cs ca : List (Option Int)) (z5 z6 z7 z8 z9 z10 : Slot) : En := [.st 8, .sh (.int (s : Int)), .ow false (cs.map oD), .no, .ow false (ca.map oD), z5, z6, z7, z8, z9, z10]
def dNs (row : List Nat) : D := .list (row.map fun (n : Nat) => PyData.int (n : Int))
def innerB : SF := (sSeq (sAsg (xNIx 0 .goals (xVar 8)) (gNm 9))
    (sSeq (sAsg (xFlat (xOp fAdd (xOp fIx (xVarO 2) (xVar 7)) (xNIx 0 .costs (xVar 8)))) (gNm 10))
    (sIf (xAnd (xTest (xOp fGt (xNIx 0 .rooms (xVar 8)) (xC (.int 0)))) (xOr (xTest (xUn fIsN (xOp fIx (xVarO 2) (xVar 9)))) (xTest (xOp fLt (xVar 10) (xOp fIx (xVarO 2) (xVar 9)))))) (sSeq (sSet 2 (xVar 9) (xVar 10))
    (sSeq (sSet 4 (xVar 9) (xVar 8))
    (sApp 6 (xVar 9)))) sPass)))
theorem oD_at {cs : List (Option Int)} {v : Nat} {x : Option Int} (h : cs[v]? = some x) : fIx (.list (cs.map oD)) (.int (v : Int)) = some (oD x) := atI_nat (by rw [List.getElem?_map, h]; rfl)
theorem flat_w {f : EF} {env : En} {w w1 : W} {i : Int} (h : f env w = some (.int i, w1)) : xFlat f env w = some (.int i, w1) := by
  unfold xFlat
  rw [bind_w h]
  rfl
section
variable {N : Net} {s : Nat} {Dm : Nat → Prop} {ρ : Nat → Nat}
/-- one way looked at -/
theorem inner_run (u e v : Nat) (r c a : Int) (cs ca : List (Option Int)) (more : List Nat) (Dt : Nat → Prop) (z5 z8 z9 z10 : Slot) (hL : LS N s Dm cs ca Dt) (ha : cs[u]? = some (some a)) (hu : u < N.outs.length) (xs : List Int) (hx : N.outs[u]? = some xs) (hm : (e : Int) ∈ xs)
    (hg : N.goals[e]? = some (v : Int)) (hr : N.rooms[e]? = some r) (hc : N.costs[e]? = some c) (hv : v < N.outs.length) (hup : 0 < r → ρ u < ρ v) (hl : more.length < line) :
    ∃ cs' ca' more', innerB (lE s cs ca z5 (.ow false (more.map fun (n : Nat) => PyData.int (n : Int))) (.sh (.int (u : Int))) (.sh (.int (e : Int))) z9 z10) ⟨0, [], some N⟩ =
      some ((.nx, lE s cs' ca' z5 (.ow false (more'.map fun (n : Nat) => PyData.int (n : Int))) (.sh (.int (u : Int))) (.sh (.int (e : Int))) (.sh (.int (v : Int))) (.sh (.int (a + c)))), ⟨0, [], some N⟩) ∧
      ((cs' = cs ∧ ca' = ca ∧ more' = more ∧ (0 < r → ∃ b, cs[v]? = some (some b) ∧ b ≤ a + c)) ∨ (0 < r ∧ cs' = cs.set v (some (a + c)) ∧ ca' = ca.set v (some (e : Int)) ∧ more' = more ++ [v] ∧ ∀ b, cs[v]? = some (some b) → a + c < b)) := by
  unfold innerB
  have h1 : (sAsg (xNIx 0 .goals (xVar 8)) (gNm 9)) (lE s cs ca z5 (.ow false (more.map fun (n : Nat) => PyData.int (n : Int))) (.sh (.int (u : Int))) (.sh (.int (e : Int))) z9 z10) ⟨0, [], some N⟩ = some ((.nx, lE s cs ca z5 (.ow false (more.map fun (n : Nat) => PyData.int (n : Int))) (.sh (.int (u : Int))) (.sh (.int (e : Int))) (.sh (.int (v : Int))) z10), ⟨0, [], some N⟩) :=
    asg_w (nix_w (j := e) rfl rfl rfl hg) rfl
  have h2 : (sAsg (xFlat (xOp fAdd (xOp fIx (xVarO 2) (xVar 7)) (xNIx 0 .costs (xVar 8)))) (gNm 10)) (lE s cs ca z5 (.ow false (more.map fun (n : Nat) => PyData.int (n : Int))) (.sh (.int (u : Int))) (.sh (.int (e : Int))) (.sh (.int (v : Int))) z10) ⟨0, [], some N⟩ = some ((.nx, lE s cs ca z5 (.ow false (more.map fun (n : Nat) => PyData.int (n : Int))) (.sh (.int (u : Int))) (.sh (.int (e : Int))) (.sh (.int (v : Int))) (.sh (.int (a + c)))), ⟨0, [], some N⟩) :=
    asg_w (flat_w (xOp_w (xOp_w rfl rfl (oD_at ha)) (nix_w (j := e) rfl rfl rfl hc) rfl)) rfl
  have hcv : ∃ x, cs[v]? = some x := ⟨cs[v]'(by rw [hL.l1]; exact hv), List.getElem?_eq_getElem _⟩
  obtain ⟨x, ex⟩ := hcv
  let E3 : En := lE s cs ca z5 (.ow false (more.map fun (n : Nat) => PyData.int (n : Int))) (.sh (.int (u : Int))) (.sh (.int (e : Int))) (.sh (.int (v : Int))) (.sh (.int (a + c)))
  let cond : Bool := decide (0 < r) && (match x with | none => true | some b => decide (a + c < b))
  have h3 : (xAnd (xTest (xOp fGt (xNIx 0 .rooms (xVar 8)) (xC (.int 0)))) (xOr (xTest (xUn fIsN (xOp fIx (xVarO 2) (xVar 9)))) (xTest (xOp fLt (xVar 10) (xOp fIx (xVarO 2) (xVar 9)))))) E3 ⟨0, [], some N⟩ = some (cond, ⟨0, [], some N⟩) := by
    refine and_w (test_w (xOp_w (nix_w (j := e) rfl rfl rfl hr) rfl rfl)) fun _ => ?_
    cases x with
    | none => exact or_w (a := true) (b := true) (test_w (un_w (xOp_w rfl rfl (oD_at ex)) rfl)) fun z => nomatch z
    | some b => exact or_w (a := false) (test_w (un_w (xOp_w rfl rfl (oD_at ex)) rfl)) fun _ => test_w (xOp_w rfl (xOp_w rfl rfl (oD_at ex)) rfl)
  by_cases q : cond = true
  · rw [q] at h3
    have hcs : ixN (cs.map oD).length (v : Int) = some v := ixN_nat (by rw [List.length_map, hL.l1]; exact hv)
    have hca : ixN (ca.map oD).length (v : Int) = some v := ixN_nat (by rw [List.length_map, hL.l2]; exact hv)
    refine ⟨cs.set v (some (a + c)), ca.set v (some (e : Int)), more ++ [v], seq_to h1 (seq_to h2 ((if_then_w h3).trans (seq_to (env1 := lE s (cs.set v (some (a + c))) ca z5 (.ow false (more.map fun (n : Nat) => PyData.int (n : Int))) (.sh (.int (u : Int))) (.sh (.int (e : Int))) (.sh (.int (v : Int))) (.sh (.int (a + c)))) (w1 := ⟨0, [], some N⟩) ((set_w (i := 2) rfl rfl rfl hcs).trans ?_) (seq_to (env1 := lE s (cs.set v (some (a + c))) (ca.set v (some (e : Int))) z5 (.ow false (more.map fun (n : Nat) => PyData.int (n : Int))) (.sh (.int (u : Int))) (.sh (.int (e : Int))) (.sh (.int (v : Int))) (.sh (.int (a + c)))) (w1 := ⟨0, [], some N⟩) ((set_w (i := 4) rfl rfl rfl hca).trans ?_) ((app_w (i := 6) rfl rfl (by rw [List.length_map]; exact hl)).trans ?_))))), .inr ⟨?_, rfl, rfl, rfl, fun b eb => ?_⟩⟩
    · have em : (cs.map oD).set v (.int (a + c)) = (cs.set v (some (a + c))).map oD := by rw [List.map_set]; rfl
      rw [em]; rfl
    · have em : (ca.map oD).set v (.int (e : Int)) = (ca.set v (some (e : Int))).map oD := by rw [List.map_set]; rfl
      rw [em]; rfl
    · have em : (more.map fun (n : Nat) => PyData.int (n : Int)) ++ [.int (v : Int)] = (more ++ [v]).map fun (n : Nat) => PyData.int (n : Int) := by rw [List.map_append]; rfl
      rw [em]; rfl
    · have := (Bool.and_eq_true _ _).mp q
      exact of_decide_eq_true this.1
    · have := ((Bool.and_eq_true _ _).mp q).2
      rw [ex] at eb
      cases eb
      exact of_decide_eq_true this
  · have q : cond = false := by cases h : cond with | true => exact absurd h q | false => rfl
    rw [q] at h3
    refine ⟨cs, ca, more, seq_to h1 (seq_to h2 ((if_else_w h3).trans rfl)), .inl ⟨rfl, rfl, rfl, fun hr0 => ?_⟩⟩
    cases x with
    | none =>
      have : cond = true := by show (decide (0 < r) && true) = true; rw [decide_eq_true hr0]; rfl
      rw [this] at q; cases q
    | some b =>
      refine ⟨b, ex, ?_⟩
      have : (decide (0 < r) && decide (a + c < b)) = false := q
      rw [decide_eq_true hr0, Bool.true_and] at this
      have := of_decide_eq_false this
      omega
end
end VE

namespace VE
open PySem
theorem take_snocG {α : Type} {E : List α} {k : Nat} {x : α} (h : E[k]? = some x) : E.take (k + 1) = E.take k ++ [x] := by
  rw [List.take_add_one, h]
  rfl
def nI (more : List Nat) : List D := more.map fun (n : Nat) => PyData.int (n : Int)
section
variable {N : Net} {s : Nat} {Dm : Nat → Prop} {ρ : Nat → Nat} {B dg : Nat} (G : Dag N s Dm ρ B dg)
include G in
theorem Dag.way {u e v : Nat} {c : Int} (w : Way N u e v c) (hD : Dm u) : ρ u < ρ v ∧ Dm v ∧ u < N.outs.length := by
  obtain ⟨xs, r, h1, h2, h3, h4, h5, h6⟩ := w
  obtain ⟨e', v', r', c', q1, q2, q3, q4, q5, q6⟩ := G.ed u xs hD h1 _ h2
  have ee : e' = e := by omega
  subst ee
  rw [h3] at q2
  rw [h5] at q3
  have ev : v = v' := by injection q2 with q2; omega
  cases q3
  subst ev
  exact ⟨(q6 h6).1, (q6 h6).2, (List.getElem?_eq_some_iff.mp h1).1⟩
theorem isOpen_of {e : Nat} {r : Int} (h : N.rooms[e]? = some r) : isOpen N (e : Int) = decide (0 < r) := by
  unfold isOpen
  rw [Int.toNat_natCast, List.getD_eq_getElem?_getD, h]
  rfl
include G in
/-- a node's ways looked at -/
theorem node_run (u : Nat) (a : Int) (cs ca : List (Option Int)) (more : List Nat) (Dt : Nat → Prop) (z5 z8 z9 z10 : Slot) (hL : LS N s Dm cs ca (fun n => Dt n ∨ n = u ∨ n ∈ more)) (ha : cs[u]? = some (some a)) (R : Nat) (hR : R ≤ ρ u) (hm : ∀ v ∈ more, R + 1 ≤ ρ v ∧ Dm v) (hD : Dm u) (hl : more.length + dg < line) :
    ∃ cs' ca' more' z8' z9' z10', sForO 0 (xVar 7) (gNm 8) innerB (lE s cs ca z5 (.ow false (nI more)) (.sh (.int (u : Int))) z8 z9 z10) ⟨0, [], some N⟩ =
      some ((.nx, lE s cs' ca' z5 (.ow false (nI more')) (.sh (.int (u : Int))) z8' z9' z10'), ⟨0, [], some N⟩) ∧ LS N s Dm cs' ca' (fun n => Dt n ∨ n ∈ more') ∧ more'.length ≤ more.length + dg ∧ (∀ v ∈ more', R + 1 ≤ ρ v ∧ Dm v) ∧ (∀ n ∈ more, n ∈ more') := by
  have hu := G.dl u hD
  have hx : N.outs[u]? = some (N.outs[u]) := List.getElem?_eq_getElem hu
  obtain ⟨env', w', h1, ⟨cs', ca', more', z8', z9', z10', rfl, rfl, q1, q2, q3, q4, q5, q6⟩⟩ := goN_inv (O := N.outs) (g := gNm 8) (body := innerB) (fun j env w => ∃ cs' ca' more' z8' z9' z10', env = lE s cs' ca' z5 (.ow false (nI more')) (.sh (.int (u : Int))) z8' z9' z10' ∧ w = ⟨0, [], some N⟩ ∧ LS N s Dm cs' ca' (fun n => Dt n ∨ n = u ∨ n ∈ more') ∧ cs'[u]? = some (some a) ∧
      more'.length ≤ more.length + ((N.outs[u].take j).filter (isOpen N)).length ∧ (∀ v ∈ more', R + 1 ≤ ρ v ∧ Dm v) ∧ (∀ n ∈ more, n ∈ more') ∧ ∀ (e v : Nat) (c : Int), (e : Int) ∈ N.outs[u].take j → Way N u e v c → ∃ b, cs'[v]? = some (some b) ∧ b ≤ a + c)
    (fun k env w ⟨_, _, _, _, _, _, _, hw, _⟩ => ⟨N, by rw [hw], rfl⟩) N.outs[u] 0 _ ⟨0, [], some N⟩ ⟨cs, ca, more, z8, z9, z10, rfl, rfl, hL, ha, by simp, hm, fun _ h => h, fun e v c h => by simp at h⟩ (fun j x env w hj ⟨cs', ca', more', z8', z9', z10', hz, hw, q1, q2, q3, q4, q5, q6⟩ => by
      subst hz; subst hw
      rw [Nat.zero_add] at q3 q6 ⊢
      obtain ⟨e, v, r, c, rfl, g1, g2, g3, g4, g5⟩ := G.ed u _ hD hx x (List.mem_of_getElem? hj)
      have et := take_snocG hj
      have hop := isOpen_of (N := N) g2
      have hlen : ((N.outs[u].take (j + 1)).filter (isOpen N)).length = ((N.outs[u].take j).filter (isOpen N)).length + (if 0 < r then 1 else 0) := by
        rw [et, List.filter_append, List.length_append]
        by_cases hr : 0 < r
        · rw [if_pos hr, List.filter_cons_of_pos (by rw [hop]; exact decide_eq_true hr)]; rfl
        · rw [if_neg hr, List.filter_cons_of_neg (by rw [hop]; simpa using hr)]; rfl
      have hle : ((N.outs[u].take (j + 1)).filter (isOpen N)).length ≤ dg := Nat.le_trans (List.Sublist.length_le ((List.take_sublist _ _).filter _)) (G.deg u _ hD hx)
      obtain ⟨cs2, ca2, more2, e1, e2⟩ := inner_run (s := s) (Dm := Dm) (ρ := ρ) u e v r c a cs' ca' more' _ z5 z8' z9' z10' q1 q2 hu _ hx (List.mem_of_getElem? hj) g1 g2 g3 g4 (fun h => (g5 h).1) (by
        have := hlen; split at this <;> omega)
      have huv : 0 < r → u ≠ v := fun h z => by have := (g5 h).1; rw [z] at this; omega
      rcases e2 with ⟨rfl, rfl, rfl, e3⟩ | ⟨hr, rfl, rfl, rfl, e3⟩
      · refine ⟨_, .nx, _, _, rfl, e1, .inl rfl, cs2, ca2, more2, _, _, _, rfl, rfl, q1, q2, by omega, q4, q5, fun e' v' c' hm' w' => ?_⟩
        rw [et, List.mem_append, List.mem_singleton] at hm'
        rcases hm' with hm' | hm'
        · exact q6 e' v' c' hm' w'
        · have : e' = e := by omega
          subst this
          obtain ⟨xs, r', p1, p2, p3, p4, p5, p6⟩ := w'
          rw [g1] at p3; rw [g2] at p5; rw [g3] at p4
          have ev : v = v' := by injection p3 with p3; injection p3 with p3
          cases p5; cases p4
          subst ev
          exact e3 p6
      · have hw : Way N u e v c := ⟨_, r, hx, List.mem_of_getElem? hj, g1, g3, g2, hr⟩
        have hvs : v ≠ s := fun z => by have := (g5 hr).1; rw [z, G.s0] at this; omega
        have hL2 := q1.relax hw q2 (huv hr) hvs g4 (g5 hr).2 e3
        refine ⟨_, .nx, _, _, rfl, e1, .inl rfl, cs'.set v (some (a + c)), ca'.set v (some (e : Int)), more' ++ [v], _, _, _, rfl, rfl, hL2.mono fun n => ?_, by rw [List.getElem?_set_ne (Ne.symm (huv hr))]; exact q2, ?_, fun n hn => ?_, fun n hn => List.mem_append.mpr (.inl (q5 n hn)), fun e' v' c' hm' w' => ?_⟩
        · rw [List.mem_append, List.mem_singleton]
          constructor
          · rintro ((h | h | h) | h)
            · exact .inl h
            · exact .inr (.inl h)
            · exact .inr (.inr (.inl h))
            · exact .inr (.inr (.inr h))
          · rintro (h | h | h | h)
            · exact .inl (.inl h)
            · exact .inl (.inr (.inl h))
            · exact .inl (.inr (.inr h))
            · exact .inr h
        · rw [List.length_append, hlen, if_pos hr]; simp only [List.length_singleton]; omega
        · rcases List.mem_append.mp hn with hn | hn
          · exact q4 n hn
          · rw [List.mem_singleton] at hn; subst hn; exact ⟨by have := (g5 hr).1; omega, (g5 hr).2⟩
        · have hcv : v < cs'.length := by rw [q1.l1]; exact g4
          have fall : ∀ b, cs'[v']? = some (some b) → ∃ b', (cs'.set v (some (a + c)))[v']? = some (some b') ∧ b' ≤ b := fun b e => by
            by_cases q : v' = v
            · subst q; exact ⟨a + c, by rw [List.getElem?_set_self hcv], Int.le_of_lt (e3 b e)⟩
            · exact ⟨b, by rw [List.getElem?_set_ne (Ne.symm q)]; exact e, Int.le_refl _⟩
          rw [et, List.mem_append, List.mem_singleton] at hm'
          rcases hm' with hm' | hm'
          · obtain ⟨b, p1, p2⟩ := q6 e' v' c' hm' w'
            obtain ⟨b', p3, p4⟩ := fall b p1
            exact ⟨b', p3, by omega⟩
          · have : e' = e := by omega
            subst this
            obtain ⟨xs, r', p1, p2, p3, p4, p5, p6⟩ := w'
            rw [g1] at p3; rw [g3] at p4
            have ev : v = v' := by injection p3 with p3; injection p3 with p3
            cases p4
            subst ev
            exact ⟨a + c, by rw [List.getElem?_set_self hcv], Int.le_refl _⟩)
  rw [Nat.zero_add, List.take_length] at q3 q6
  refine ⟨cs', ca', more', z8', z9', z10', forO_w (j := u) rfl rfl rfl hx h1, ⟨q1.dm, q1.l1, q1.l2, q1.st, q1.pred, fun n b hn e1 e2 v c w => ?_, fun n hn => q1.dv n (hn.elim .inl fun h => .inr (.inr h))⟩, Nat.le_trans q3 (by have := G.deg u _ hD hx; omega), q4, q5⟩
  by_cases hnu : n = u
  · subst hnu
    rw [q2] at e1
    cases e1
    obtain ⟨xs, r, p1, p2, p3⟩ := w
    rw [hx] at p1
    cases p1
    exact q6 e2 v c p2 ⟨_, r, hx, p2, p3⟩
  · exact q1.clo n b (fun z => z.elim (fun z => hn (.inl z)) fun z => z.elim hnu fun z => hn (.inr z)) e1 e2 v c w
end
end VE

namespace VE
open PySem
def roundB : SF := (sSeq (sOwn 6 (xLst xNil))
    (sSeq (sFor (iLst (xVar 5)) (gNm 7) (sForO 0 (xVar 7) (gNm 8) innerB))
    (sThaw 6 (sAsg (xVar 6) (gNm 5)))))
section
variable {N : Net} {s : Nat} {Dm : Nat → Prop} {ρ : Nat → Nat} {B dg : Nat} (G : Dag N s Dm ρ B dg)
include G in
/-- a round -/
theorem round_run (row : List Nat) (cs ca : List (Option Int)) (z6 z7 z8 z9 z10 : Slot) (R : Nat) (hL : LS N s Dm cs ca (fun n => n ∈ row)) (hR : ∀ u ∈ row, R ≤ ρ u ∧ Dm u) (hl : row.length ≤ dg ^ R) (hne : row ≠ []) :
    ∃ cs' ca' row' z6' z7' z8' z9' z10', roundB (lE s cs ca (.sh (.list (nI row))) z6 z7 z8 z9 z10) ⟨0, [], some N⟩ = some ((.nx, lE s cs' ca' (.sh (.list (nI row'))) z6' z7' z8' z9' z10'), ⟨0, [], some N⟩) ∧
      LS N s Dm cs' ca' (fun n => n ∈ row') ∧ (∀ u ∈ row', R + 1 ≤ ρ u ∧ Dm u) ∧ row'.length ≤ dg ^ (R + 1) ∧ R ≤ B := by
  have hRB : R ≤ B := by
    cases row with
    | nil => exact absurd rfl hne
    | cons u r => exact Nat.le_trans (hR u List.mem_cons_self).1 (G.up u (hR u List.mem_cons_self).2)
  have hpow : dg * row.length ≤ dg ^ (R + 1) := by
    rw [Nat.pow_succ, Nat.mul_comm]
    exact Nat.mul_le_mul_right dg hl
  have hpow2 : dg ^ (R + 1) < line := Nat.lt_of_le_of_lt (Nat.pow_le_pow_right G.d1 (by omega)) G.small
  obtain ⟨env', w', h1, cs', ca', more, z7', z8', z9', z10', rfl, rfl, q1, q2, q3⟩ := for_inv_w (g := gNm 7) (body := sForO 0 (xVar 7) (gNm 8) innerB) (fun k env w => ∃ cs' ca' more z7' z8' z9' z10', env = lE s cs' ca' (.sh (.list (nI row))) (.ow false (nI more)) z7' z8' z9' z10' ∧ w = ⟨0, [], some N⟩ ∧
      LS N s Dm cs' ca' (fun n => n ∈ row.drop k ∨ n ∈ more) ∧ more.length ≤ dg * k ∧ ∀ v ∈ more, R + 1 ≤ ρ v ∧ Dm v)
    (nI row) 0 (lE s cs ca (.sh (.list (nI row))) (.ow false (nI [])) z7 z8 z9 z10) ⟨0, [], some N⟩ ⟨cs, ca, [], z7, z8, z9, z10, rfl, rfl, hL.mono fun n => by simp, by simp, fun _ h => by simp at h⟩ (fun k x env w hk ⟨cs', ca', more, z7', z8', z9', z10', hz, hw, q1, q2, q3⟩ => by
      subst hz; subst hw
      rw [Nat.zero_add] at q1 q2 ⊢
      unfold nI at hk
      rw [List.getElem?_map] at hk
      obtain ⟨u, hu, rfl⟩ := Option.map_eq_some_iff.mp hk
      have hkl : k < row.length := (List.getElem?_eq_some_iff.mp hu).1
      have hdrop : row.drop k = u :: row.drop (k + 1) := by
        rw [List.drop_eq_getElem_cons hkl, (List.getElem?_eq_some_iff.mp hu).2]
      have hur := hR u (List.mem_of_getElem? hu)
      obtain ⟨a, ha⟩ := q1.dv u (.inl (by rw [hdrop]; exact List.mem_cons_self))
      have hmul : dg * (k + 1) ≤ dg * row.length := Nat.mul_le_mul_left dg hkl
      rw [Nat.mul_add, Nat.mul_one] at hmul
      obtain ⟨cs2, ca2, more2, y8, y9, y10, e1, e2, e3, e4, e5⟩ := node_run G u a cs' ca' more (fun n => n ∈ row.drop (k + 1)) (.sh (.list (nI row))) z8' z9' z10' (q1.mono fun n => by
        rw [hdrop, List.mem_cons]
        constructor
        · rintro ((h | h) | h)
          · exact .inr (.inl h)
          · exact .inl h
          · exact .inr (.inr h)
        · rintro (h | h | h)
          · exact .inl (.inr h)
          · exact .inl (.inl h)
          · exact .inr h) ha R hur.1 q3 hur.2 (by omega)
      exact ⟨_, .nx, _, _, rfl, e1, .inl rfl, cs2, ca2, more2, _, y8, y9, y10, rfl, rfl, e2, by rw [Nat.mul_add, Nat.mul_one]; omega, e4⟩)
  have hlen : 0 + (nI row).length = row.length := by unfold nI; rw [List.length_map]; omega
  rw [hlen] at q1 q2
  rw [List.drop_length] at q1
  refine ⟨cs', ca', more, .sh (.list (nI more)), z7', z8', z9', z10', seq_to (env1 := lE s cs ca (.sh (.list (nI row))) (.ow false (nI [])) z7 z8 z9 z10) rfl (seq_to (for_w (iLst_w rfl) h1) rfl), q1.mono fun n => by simp, q3, by omega, hRB⟩
include G in
theorem least_run (n : Nat) (hn : B + 2 < n) : ∃ cs ca, net_leastF n [.int (s : Int)] N = some (.tuple [.list (cs.map oD), .list (ca.map oD)], N) ∧ LS N s Dm cs ca (fun _ => False) := by
  have hsV := G.dl s G.sD
  let V := N.outs.length
  have h0 : LS N s Dm ((List.replicate V none).set s (some 0)) (List.replicate V none) (fun n => n ∈ [s]) := by
    refine ⟨fun v b e => ?_, by rw [List.length_set, List.length_replicate], List.length_replicate, by rw [List.getElem?_set_self (by rw [List.length_replicate]; exact hsV)], fun v b hv e => ?_, fun u a hu e => ?_, fun u hu => ?_⟩
    · by_cases q : v = s
      · rw [q]; exact G.sD
      · rw [List.getElem?_set_ne (Ne.symm q)] at e
        have := List.mem_of_getElem? e
        rw [List.mem_replicate] at this
        cases this.2
    · rw [List.getElem?_set_ne (Ne.symm hv)] at e
      have := List.mem_of_getElem? e
      rw [List.mem_replicate] at this
      cases this.2
    · have hus : u ≠ s := fun z => hu (by rw [z]; exact List.mem_singleton.mpr rfl)
      rw [List.getElem?_set_ne (Ne.symm hus)] at e
      have := List.mem_of_getElem? e
      rw [List.mem_replicate] at this
      cases this.2
    · rw [List.mem_singleton] at hu
      subst hu
      exact ⟨0, by rw [List.getElem?_set_self (by rw [List.length_replicate]; exact hsV)]⟩
  obtain ⟨env', w', h1, cs, ca, z5, z6, z7, z8, z9, z10, rfl, rfl, hL⟩ := while_num_w (t := xTruth (xVar 5)) (body := roundB) (fun kk env w => ∃ R cs ca row z6 z7 z8 z9 z10, env = lE s cs ca (.sh (.list (nI row))) z6 z7 z8 z9 z10 ∧ w = ⟨0, [], some N⟩ ∧ LS N s Dm cs ca (fun n => n ∈ row) ∧ (∀ u ∈ row, R ≤ ρ u ∧ Dm u) ∧ row.length ≤ dg ^ R ∧ kk + R = B + 2 ∧ 0 < kk)
    (fun env w => ∃ cs ca z5 z6 z7 z8 z9 z10, env = lE s cs ca z5 z6 z7 z8 z9 z10 ∧ w = ⟨0, [], some N⟩ ∧ LS N s Dm cs ca (fun _ => False)) (fun kk env w ⟨R, cs, ca, row, z6, z7, z8, z9, z10, hz, hw, q1, q2, q3, q4, q5⟩ => by
      subst hz; subst hw
      by_cases hne : row = []
      · subst hne
        exact .inl ⟨truth_w rfl rfl, cs, ca, _, z6, z7, z8, z9, z10, rfl, rfl, q1.mono fun n => by simp⟩
      · obtain ⟨cs', ca', row', y6, y7, y8, y9, y10, e1, e2, e3, e4, e5⟩ := round_run G row cs ca z6 z7 z8 z9 z10 R q1 q2 q3 hne
        refine .inr ⟨truth_w (b := true) rfl ?_, .nx, _, _, kk - 1, e1, .inl rfl, by omega, R + 1, cs', ca', row', y6, y7, y8, y9, y10, rfl, rfl, e2, e3, e4, by omega, by omega⟩
        show some (!(nI row).isEmpty) = some true
        cases row with
        | nil => exact absurd rfl hne
        | cons _ _ => rfl) n (B + 2) (lE s ((List.replicate V none).set s (some 0)) (List.replicate V none) (.sh (.list (nI [s]))) .no .no .no .no .no) ⟨0, [], some N⟩ ⟨0, _, _, [s], .no, .no, .no, .no, .no, rfl, rfl, h0, fun u hu => ⟨Nat.zero_le _, by rw [List.mem_singleton] at hu; rw [hu]; exact G.sD⟩, by rw [Nat.pow_zero]; exact Nat.le_refl 1, rfl, by omega⟩ (by omega)
  refine ⟨cs, ca, ?_, hL⟩
  refine runMeth_rt (N' := N) rfl (env' := lE s cs ca z5 z6 z7 z8 z9 z10) (w' := ⟨0, [], some N⟩) ?_ rfl
  unfold net_leastB
  have er : (List.replicate V (none : Option Int)).map oD = List.replicate V PyData.none := List.map_replicate
  refine seq_to (env1 := [.st 8, .sh (.int (s : Int)), .ow false (List.replicate V .none), .no, .no, .no, .no, .no, .no, .no, .no]) (w1 := ⟨0, [], some N⟩) ?_ (seq_to (env1 := lE s (List.replicate V none) (List.replicate V none) .no .no .no .no .no .no) (w1 := ⟨0, [], some N⟩) ?_ (seq_to (env1 := lE s ((List.replicate V none).set s (some 0)) (List.replicate V none) .no .no .no .no .no .no) (w1 := ⟨0, [], some N⟩) ?_ (seq_to (env1 := lE s ((List.replicate V none).set s (some 0)) (List.replicate V none) (.sh (.list (nI [s]))) .no .no .no .no .no) (w1 := ⟨0, [], some N⟩) rfl (seq_to h1 (ret_w rfl)))))
  · exact own_w (nnones_w rfl rfl rfl G.sv)
  · refine (own_w (nnones_w rfl rfl rfl G.sv)).trans ?_
    show some ((Fl.nx, ([.st 8, .sh (.int (s : Int)), .ow false (List.replicate V .none), .no, .ow false (List.replicate V .none), .no, .no, .no, .no, .no, .no] : En)), _) = some ((Fl.nx, ([.st 8, .sh (.int (s : Int)), .ow false ((List.replicate V (none : Option Int)).map oD), .no, .ow false ((List.replicate V (none : Option Int)).map oD), .no, .no, .no, .no, .no, .no] : En)), _)
    rw [er]
  · refine (set_w (i := 2) (x := .int 0) rfl rfl rfl (ixN_nat (by rw [List.length_map, List.length_replicate]; exact hsV))).trans ?_
    have em : ((List.replicate V (none : Option Int)).map oD).set s (.int 0) = ((List.replicate V none).set s (some 0)).map oD := by rw [List.map_set]; rfl
    rw [em]
    rfl
end
end VE

namespace VE
open PySem
theorem fMod_two (e : Nat) : fMod (.int (e : Int)) (.int 2) = some (.int ((e % 2 : Nat) : Int)) := by
  rw [fMod_pos (by decide)]
  rfl
theorem back_even {N : Net} {e : Nat} (h : e % 2 = 0) : net_backF [.int (e : Int)] N = some (.int ((e + 1 : Nat) : Int), N) := by
  refine runMeth_rt (N' := N) rfl (env' := [.st 8, .sh (.int (e : Int))]) (w' := ⟨0, [], some N⟩) ?_ rfl
  have h1 : (xTest (xOp fEq (xOp fMod (xVar 1) (xC (.int 2))) (xC (.int 0)))) [.st 8, .sh (.int (e : Int))] = pure true := by
    refine test_p (op_p (op_p rfl rfl (fMod_two e)) rfl ?_)
    rw [h]
    exact fEq_int 0 0
  have h2 : (xIf (xTest (xOp fEq (xOp fMod (xVar 1) (xC (.int 2))) (xC (.int 0)))) (xOp fAdd (xVar 1) (xC (.int 1))) (xOp fSub (xVar 1) (xC (.int 1)))) [.st 8, .sh (.int (e : Int))] = pure (.int ((e + 1 : Nat) : Int)) := by
    unfold xIf
    rw [h1, pb]
    rfl
  unfold net_backB
  show (sRet _ [.st 8, .sh (.int (e : Int))]) _ = _
  exact ret_w (by rw [h2]; rfl)
/-- the way back from a node, by what least told -/
inductive Path (N : Net) (s : Nat) (cs ca : List (Option Int)) : Nat → List Nat → Prop
  | nil : Path N s cs ca s []
  | cons {u e v : Nat} {c a : Int} {r : List Nat} : v ≠ s → Way N u e v c → ca[v]? = some (some (e : Int)) → cs[u]? = some (some a) → cs[v]? = some (some (a + c)) → Path N s cs ca u r → Path N s cs ca v (e :: r)
structure One (N : Net) (s : Nat) (e0 : Nat) : Prop where
  ev : ∀ u e v c, Way N u e v c → e % 2 = 0 ∧ N.goals[e + 1]? = some (u : Int) ∧ N.rooms[e]? = some 1 ∧ N.rooms[e + 1]? = some 0
  so : N.outs[s]? = some [(e0 : Int)]
section
variable {N : Net} {s e0 : Nat} {ρ : Nat → Nat} {B dg : Nat} (G : Dag N s (fun v => v < N.outs.length) ρ B dg) (O : One N s e0)
include G in
theorem path_ex {cs ca : List (Option Int)} (L : LS N s (fun v => v < N.outs.length) cs ca (fun _ => False)) : ∀ (k v : Nat) (b : Int), ρ v ≤ k → cs[v]? = some (some b) → ∃ r, Path N s cs ca v r ∧ r.length ≤ ρ v ∧ ∀ e ∈ r, ∃ u w c, Way N u e w c ∧ ρ w ≤ ρ v
  | k, v, b, hk, hb => by
    by_cases hv : v = s
    · subst hv
      exact ⟨[], .nil, Nat.zero_le _, fun _ h => by simp at h⟩
    · obtain ⟨e, u, c, a, hw, h1, h2, h3⟩ := L.pred v b hv hb
      obtain ⟨b', h4, h5⟩ := L.clo u a (fun z => z) h2 e v c hw
      rw [hb] at h4
      cases h4
      have hu := G.way hw (L.dm u a h2)
      have eb : b = a + c := by omega
      subst eb
      cases k with
      | zero => omega
      | succ k =>
        obtain ⟨r, p1, p2, p3⟩ := path_ex L k u a (by omega) h2
        refine ⟨e :: r, .cons hv hw h1 h2 hb p1, by rw [List.length_cons]; omega, fun x hx => ?_⟩
        rcases List.mem_cons.mp hx with rfl | hx
        · exact ⟨u, v, c, hw, Nat.le_refl _⟩
        · obtain ⟨u', w', c', q1, q2⟩ := p3 x hx
          exact ⟨u', w', c', q1, by omega⟩
theorem way_goal {u e v u' v' : Nat} {c c' : Int} (h : Way N u e v c) (h' : Way N u' e v' c') : v = v' ∧ c = c' := by
  obtain ⟨xs, r, _, _, h3, h4, _⟩ := h
  obtain ⟨xs', r', _, _, h3', h4', _⟩ := h'
  rw [h3] at h3'
  rw [h4] at h4'
  cases h4'
  refine ⟨?_, rfl⟩
  have : (v : Int) = v' := Option.some.inj h3'
  omega
include G in
theorem path_nodup {cs ca : List (Option Int)} (L : LS N s (fun v => v < N.outs.length) cs ca (fun _ => False)) : ∀ {v : Nat} {r : List Nat}, Path N s cs ca v r → r.Nodup ∧ ∀ e ∈ r, ∃ u w c, Way N u e w c ∧ ρ w ≤ ρ v
  | _, _, .nil => ⟨.nil, fun _ h => by simp at h⟩
  | _, _, .cons (u := u) (e := e) (v := v) (c := c) (a := a) hv hw h1 h2 h3 p => by
    obtain ⟨q1, q2⟩ := path_nodup L p
    have hu := G.way hw (L.dm u a h2)
    refine ⟨List.nodup_cons.mpr ⟨fun hm => ?_, q1⟩, fun x hx => ?_⟩
    · obtain ⟨u', w', c', w1, w2⟩ := q2 _ hm
      obtain ⟨rfl, _⟩ := way_goal hw w1
      omega
    · rcases List.mem_cons.mp hx with rfl | hx
      · exact ⟨u, v, c, hw, Nat.le_refl _⟩
      · obtain ⟨u', w', c', w1, w2⟩ := q2 x hx
        exact ⟨u', w', c', w1, by omega⟩
include O in
theorem path_first {cs ca : List (Option Int)} : ∀ {v : Nat} {r : List Nat}, Path N s cs ca v r → v ≠ s → e0 ∈ r
  | _, _, .nil, h => absurd rfl h
  | _, _, .cons (u := u) (e := e) (v := v) (c := c) (a := a) (r := r) hv hw h1 h2 h3 p, _ => by
    by_cases hu : u = s
    · subst hu
      obtain ⟨xs, r', g1, g2, _⟩ := hw
      rw [O.so] at g1
      cases g1
      rw [List.mem_singleton] at g2
      have : e = e0 := by omega
      rw [this]
      exact List.mem_cons_self
    · exact List.mem_cons_of_mem _ (path_first p hu)
abbrev pE (s t : Nat) (tot : Int) (cs ca : List (Option Int)) (z6 z7 z8 z9 : Slot) : En := [.st 8, .sh (.int (s : Int)), .sh (.int (t : Int)), .sh (.int tot), .sh (.list (cs.map oD)), .sh (.list (ca.map oD)), z6, z7, z8, z9]
def walkB : SF := (sSeq (sApp 6 (xOp fIx (xVar 5) (xVar 7)))
    (sAsg (xNIx 0 .goals (xNCall 0 net_backF (xCons (xOp fIx (xVar 5) (xVar 7)) xNil))) (gNm 7)))
include O in
/-- the way back is gone -/
theorem walk_run (t : Nat) (cs ca : List (Option Int)) : ∀ {v : Nat} {r : List Nat}, Path N s cs ca v r → ∀ (n : Nat) (acc : List Nat), r.length < n → acc.length + r.length < line →
    sWhile.go (xTest (xOp fNe (xVar 7) (xVar 1))) walkB n (pE s t 0 cs ca (.ow false (nI acc)) (.sh (.int (v : Int))) .no .no) ⟨0, [], some N⟩ = some ((.nx, pE s t 0 cs ca (.ow false (nI (acc ++ r))) (.sh (.int (s : Int))) .no .no), ⟨0, [], some N⟩)
  | _, _, .nil, n + 1, acc, _, _ => by
    rw [sWhile.go]
    have h1 : (xTest (xOp fNe (xVar 7) (xVar 1))) (pE s t 0 cs ca (.ow false (nI acc)) (.sh (.int (s : Int))) .no .no) = pure false := test_p (op_p rfl rfl (by rw [fNe_int, decide_eq_true rfl]; rfl))
    rw [h1, pb, List.append_nil]
    rfl
  | _, _, .cons (u := u) (e := e) (v := v) (c := c) (a := a) (r := r) hv hw h1 h2 h3 p, n + 1, acc, hn, hl => by
    rw [List.length_cons] at hn hl
    have ht : (xTest (xOp fNe (xVar 7) (xVar 1))) (pE s t 0 cs ca (.ow false (nI acc)) (.sh (.int (v : Int))) .no .no) ⟨0, [], some N⟩ = some (true, ⟨0, [], some N⟩) := by
      have : (xTest (xOp fNe (xVar 7) (xVar 1))) (pE s t 0 cs ca (.ow false (nI acc)) (.sh (.int (v : Int))) .no .no) = pure true := test_p (op_p rfl rfl (by rw [fNe_int, decide_eq_false (by omega)]; rfl))
      rw [this]
      rfl
    obtain ⟨o1, o2, o3, o4⟩ := O.ev u e v c hw
    have hb : walkB (pE s t 0 cs ca (.ow false (nI acc)) (.sh (.int (v : Int))) .no .no) ⟨0, [], some N⟩ = some ((.nx, pE s t 0 cs ca (.ow false (nI (acc ++ [e]))) (.sh (.int (u : Int))) .no .no), ⟨0, [], some N⟩) := by
      refine seq_to (env1 := pE s t 0 cs ca (.ow false (nI (acc ++ [e]))) (.sh (.int (v : Int))) .no .no) (w1 := ⟨0, [], some N⟩) ((app_w (i := 6) (x := .int (e : Int)) (xOp_w rfl rfl (oD_at h1)) rfl (by unfold nI; rw [List.length_map]; omega)).trans ?_) ?_
      · have em : nI acc ++ [.int (e : Int)] = nI (acc ++ [e]) := by unfold nI; rw [List.map_append]; rfl
        rw [em]
        rfl
      · exact asg_w (nix_w (j := e + 1) (ncall_w (w1 := ⟨0, [], some N⟩) (N := N) (N' := N) (cons_w (xOp_w rfl rfl (oD_at h1)) rfl) rfl rfl (back_even o1)) rfl rfl o2) rfl
    rw [while_next ht hb, walk_run t cs ca p n (acc ++ [e]) (by omega) (by rw [List.length_append, List.length_singleton]; omega), List.append_assoc]
    rfl
end
end VE

namespace VE
open PySem
def upd1 (rs : List Int) (e : Nat) : List Int := (rs.set e 0).set (e + 1) 1
def useL (rs : List Int) (row : List Nat) : List Int := row.foldl upd1 rs
theorem upd1_len (rs : List Int) (e : Nat) : (upd1 rs e).length = rs.length := by unfold upd1; rw [List.length_set, List.length_set]
theorem use_len : ∀ (row : List Nat) (rs : List Int), (useL rs row).length = rs.length
  | [], _ => rfl
  | e :: r, rs => (use_len r (upd1 rs e)).trans (upd1_len rs e)
theorem use_snoc (rs : List Int) (row : List Nat) (e : Nat) : useL rs (row ++ [e]) = upd1 (useL rs row) e := by
  unfold useL
  rw [List.foldl_append]
  rfl
theorem upd1_out {rs : List Int} {e i : Nat} (h1 : i ≠ e) (h2 : i ≠ e + 1) : (upd1 rs e)[i]? = rs[i]? := by
  unfold upd1
  rw [List.getElem?_set_ne (Ne.symm h2), List.getElem?_set_ne (Ne.symm h1)]
theorem use_out : ∀ (row : List Nat) (rs : List Int) (e : Nat), (∀ x ∈ row, x % 2 = 0) → e % 2 = 0 → e ∉ row → (useL rs row)[e]? = rs[e]? ∧ (useL rs row)[e + 1]? = rs[e + 1]?
  | [], rs, e, _, _, _ => ⟨rfl, rfl⟩
  | x :: r, rs, e, hx, he, hn => by
    rw [List.mem_cons, not_or] at hn
    have h0 := hx x List.mem_cons_self
    obtain ⟨q1, q2⟩ := use_out r (upd1 rs x) e (fun y hy => hx y (List.mem_cons_of_mem _ hy)) he hn.2
    have n1 := hn.1
    exact ⟨q1.trans (upd1_out n1 (by omega)), q2.trans (upd1_out (by omega) (by omega))⟩
theorem use_in : ∀ (row : List Nat) (rs : List Int) (e : Nat), (∀ x ∈ row, x % 2 = 0) → row.Nodup → e ∈ row → e + 1 < rs.length → (useL rs row)[e]? = some 0 ∧ (useL rs row)[e + 1]? = some 1
  | x :: r, rs, e, hx, hd, hm, hl => by
    rw [List.nodup_cons] at hd
    have h0 := hx x List.mem_cons_self
    have hr : ∀ y ∈ r, y % 2 = 0 := fun y hy => hx y (List.mem_cons_of_mem _ hy)
    by_cases he : e = x
    · subst he
      obtain ⟨q1, q2⟩ := use_out r (upd1 rs e) e hr h0 hd.1
      refine ⟨q1.trans ?_, q2.trans ?_⟩
      · unfold upd1
        rw [List.getElem?_set_ne (by omega), List.getElem?_set_self (by omega)]
      · unfold upd1
        rw [List.getElem?_set_self (by rw [List.length_set]; omega)]
    · have hm' : e ∈ r := (List.mem_cons.mp hm).resolve_left he
      exact use_in r (upd1 rs x) e hr hd.2 hm' (by rw [upd1_len]; exact hl)
theorem minI_ones : ∀ k : Nat, minI 1 (List.replicate k 1) = 1
  | 0 => rfl
  | k + 1 => by
    have e : minI 1 (List.replicate (k + 1) 1) = minI (if (1 : Int) < 1 then 1 else 1) (List.replicate k 1) := rfl
    rw [e]
    exact minI_ones k
theorem fMinA_ones {k : Nat} (h : 0 < k) : fMinA [.list ((List.replicate k (1 : Int)).map .int)] = some (.int 1) := by
  cases k with
  | zero => omega
  | succ k =>
    have e : fMin [.list ((List.replicate (k + 1) (1 : Int)).map .int)] = some (.int 1) := by
      show (asInts ((List.replicate (k + 1) (1 : Int)).map .int)).bind _ = _
      rw [asInts_map, List.replicate_succ]
      show some (PyData.int (minI 1 (List.replicate k 1))) = _
      rw [minI_ones]
    unfold fMinA
    rw [e]
def Net.withR (N : Net) (R : List Int) : Net := ⟨N.outs, N.goals, R, N.costs⟩
def pushB (n : Nat) : SF := (sSeq (sAsg (xNCall 0 (net_leastF n) (xCons (xVar 1) xNil)) (gTp 2 (gsCons (gNm 4) (gsCons (gNm 5) gsNil))))
    (sSeq (sIf (xTest (xUn fIsN (xOp fIx (xVar 4) (xVar 2)))) (sRet (xVar 3)) sPass)
    (sSeq (sOwn 6 (xLst xNil))
    (sSeq (sAsg (xVar 2) (gNm 7))
    (sSeq (sWhile n (xTest (xOp fNe (xVar 7) (xVar 1))) walkB)
    (sSeq (sAsg (xFlat (xCall fMinA (xCons (xAs (xComp [9] (iOwn 6) (gNm 9) tYesF (xNIx 0 .rooms (xVar 9)))) xNil))) (gNm 8))
    (sThaw 6 (sSeq (sFor (iLst (xVar 6)) (gNm 9) (sSeq (sNSet 0 .rooms (xVar 9) (xOp fSub (xNIx 0 .rooms (xVar 9)) (xVar 8)))
    (sNSet 0 .rooms (xNCall 0 net_backF (xCons (xVar 9) xNil)) (xOp fAdd (xNIx 0 .rooms (xNCall 0 net_backF (xCons (xVar 9) xNil))) (xVar 8)))))
    (sAsg (xOp fAdd (xVar 3) (xVar 8)) (gNm 3))))))))))
section
variable {N : Net} {s e0 : Nat} {ρ : Nat → Nat} {B dg : Nat} (G : Dag N s (fun v => v < N.outs.length) ρ B dg) (O : One N s e0)
/-- what is carried is written down -/
theorem carry_run (t : Nat) (cs ca : List (Option Int)) (row : List Nat) (hev : ∀ e ∈ row, e % 2 = 0 ∧ N.rooms[e]? = some 1 ∧ N.rooms[e + 1]? = some 0) (hd : row.Nodup) :
    ∃ z9, sFor (iLst (xVar 6)) (gNm 9) (sSeq (sNSet 0 .rooms (xVar 9) (xOp fSub (xNIx 0 .rooms (xVar 9)) (xVar 8)))
      (sNSet 0 .rooms (xNCall 0 net_backF (xCons (xVar 9) xNil)) (xOp fAdd (xNIx 0 .rooms (xNCall 0 net_backF (xCons (xVar 9) xNil))) (xVar 8))))
      (pE s t 0 cs ca (.sh (.list (nI row))) (.sh (.int (s : Int))) (.sh (.int 1)) .no) ⟨0, [], some N⟩ = some ((.nx, pE s t 0 cs ca (.sh (.list (nI row))) (.sh (.int (s : Int))) (.sh (.int 1)) z9), ⟨0, [], some (N.withR (useL N.rooms row))⟩) := by
  obtain ⟨env', w', h1, z9, rfl, rfl⟩ := for_inv_w (g := gNm 9) (body := sSeq (sNSet 0 .rooms (xVar 9) (xOp fSub (xNIx 0 .rooms (xVar 9)) (xVar 8)))
      (sNSet 0 .rooms (xNCall 0 net_backF (xCons (xVar 9) xNil)) (xOp fAdd (xNIx 0 .rooms (xNCall 0 net_backF (xCons (xVar 9) xNil))) (xVar 8)))) (fun k env w => ∃ z9, env = pE s t 0 cs ca (.sh (.list (nI row))) (.sh (.int (s : Int))) (.sh (.int 1)) z9 ∧ w = ⟨0, [], some (N.withR (useL N.rooms (row.take k)))⟩)
    (nI row) 0 (pE s t 0 cs ca (.sh (.list (nI row))) (.sh (.int (s : Int))) (.sh (.int 1)) .no) ⟨0, [], some N⟩ ⟨.no, rfl, rfl⟩ (fun k x env w hk ⟨z9, hz, hw⟩ => by
      subst hz; subst hw
      rw [Nat.zero_add]
      unfold nI at hk
      rw [List.getElem?_map] at hk
      obtain ⟨e, he, rfl⟩ := Option.map_eq_some_iff.mp hk
      have hkl : k < row.length := (List.getElem?_eq_some_iff.mp he).1
      obtain ⟨q1, q2, q3⟩ := hev e (List.mem_of_getElem? he)
      have hnot : e ∉ row.take k := fun hm => by
        obtain ⟨j, hj, ej⟩ := List.getElem_of_mem hm
        rw [List.length_take] at hj
        rw [List.getElem_take] at ej
        have := List.pairwise_iff_getElem.mp hd j k (by omega) hkl (by omega)
        rw [ej, (List.getElem?_eq_some_iff.mp he).2] at this
        exact this rfl
      obtain ⟨u1, u2⟩ := use_out (row.take k) N.rooms e (fun y hy => (hev y (List.mem_of_mem_take hy)).1) q1 hnot
      rw [q2] at u1
      rw [q3] at u2
      let R := useL N.rooms (row.take k)
      have hl1 : e < R.length := (List.getElem?_eq_some_iff.mp u1).1
      have hl2 : e + 1 < R.length := (List.getElem?_eq_some_iff.mp u2).1
      have s1 : (sNSet 0 .rooms (xVar 9) (xOp fSub (xNIx 0 .rooms (xVar 9)) (xVar 8))) (pE s t 0 cs ca (.sh (.list (nI row))) (.sh (.int (s : Int))) (.sh (.int 1)) (.sh (.int (e : Int)))) ⟨0, [], some (N.withR R)⟩ =
          some ((.nx, pE s t 0 cs ca (.sh (.list (nI row))) (.sh (.int (s : Int))) (.sh (.int 1)) (.sh (.int (e : Int)))), ⟨0, [], some (N.withR (R.set e 0))⟩) :=
        nset_w (w2 := ⟨0, [], some (N.withR R)⟩) (y := 0) (N := N.withR R) (j := e) (xOp_w (nix_w (N := N.withR R) (j := e) rfl rfl rfl u1) rfl rfl) rfl rfl rfl hl1
      have hb : ∀ (M : Net), (xNCall 0 net_backF (xCons (xVar 9) xNil)) (pE s t 0 cs ca (.sh (.list (nI row))) (.sh (.int (s : Int))) (.sh (.int 1)) (.sh (.int (e : Int)))) ⟨0, [], some M⟩ = some (.int ((e + 1 : Nat) : Int), ⟨0, [], some M⟩) := fun M => ncall_w (w1 := ⟨0, [], some M⟩) (N := M) (N' := M) (cons_w rfl rfl) rfl rfl (back_even q1)
      have g2 : (R.set e 0)[e + 1]? = some 0 := by rw [List.getElem?_set_ne (by omega)]; exact u2
      have s2 : (sNSet 0 .rooms (xNCall 0 net_backF (xCons (xVar 9) xNil)) (xOp fAdd (xNIx 0 .rooms (xNCall 0 net_backF (xCons (xVar 9) xNil))) (xVar 8))) (pE s t 0 cs ca (.sh (.list (nI row))) (.sh (.int (s : Int))) (.sh (.int 1)) (.sh (.int (e : Int)))) ⟨0, [], some (N.withR (R.set e 0))⟩ =
          some ((.nx, pE s t 0 cs ca (.sh (.list (nI row))) (.sh (.int (s : Int))) (.sh (.int 1)) (.sh (.int (e : Int)))), ⟨0, [], some (N.withR ((R.set e 0).set (e + 1) 1))⟩) :=
        nset_w (w1 := ⟨0, [], some (N.withR (R.set e 0))⟩) (w2 := ⟨0, [], some (N.withR (R.set e 0))⟩) (y := 1) (N := N.withR (R.set e 0)) (j := e + 1) (xOp_w (nix_w (w1 := ⟨0, [], some (N.withR (R.set e 0))⟩) (N := N.withR (R.set e 0)) (j := e + 1) (hb _) rfl rfl g2) rfl rfl) (hb _) rfl rfl (by show e + 1 < (R.set e 0).length; rw [List.length_set]; exact hl2)
      refine ⟨_, .nx, _, _, rfl, seq_to s1 s2, .inl rfl, .sh (.int (e : Int)), rfl, ?_⟩
      rw [take_snocG he, use_snoc]
      rfl)
  have hlen : 0 + (nI row).length = row.length := by unfold nI; rw [List.length_map]; omega
  rw [hlen, List.take_length] at h1
  exact ⟨z9, for_w (iLst_w rfl) h1⟩
include G O in
theorem push_run (t : Nat) (ht : t < N.outs.length) (hts : t ≠ s) (hreach : ∀ cs ca, LS N s (fun v => v < N.outs.length) cs ca (fun _ => False) → ∃ b, cs[t]? = some (some b)) (n : Nat) (hn : B + 3 < n) (hB : B < 1000000) :
    ∃ cs ca row, LS N s (fun v => v < N.outs.length) cs ca (fun _ => False) ∧ Path N s cs ca t row ∧ net_pushF n [.int (s : Int), .int (t : Int)] N = some (.int 1, N.withR (useL N.rooms row)) := by
  obtain ⟨cs, ca, hleast, L⟩ := least_run G n (by omega)
  obtain ⟨b, hb⟩ := hreach cs ca L
  obtain ⟨row, hP, hlen, _⟩ := path_ex G L (ρ t) t b (Nat.le_refl _) hb
  obtain ⟨hnd, hmem⟩ := path_nodup G L hP
  have hup := G.up t ht
  have hev : ∀ e ∈ row, e % 2 = 0 ∧ N.rooms[e]? = some 1 ∧ N.rooms[e + 1]? = some 0 := fun e he => by
    obtain ⟨u, v, c, hw, _⟩ := hmem e he
    obtain ⟨o1, _, o3, o4⟩ := O.ev u e v c hw
    exact ⟨o1, o3, o4⟩
  have he0 : e0 ∈ row := path_first O hP hts
  have hpos : 0 < row.length := List.length_pos_iff.mpr (List.ne_nil_of_mem he0)
  let N1 := N.withR (useL N.rooms row)
  -- the second time nothing is reached
  have hsx : N.outs[s]? = some [(e0 : Int)] := O.so
  have G1 : Dag N1 s (fun v => v = s) (fun _ => 0) 0 1 := by
    refine ⟨rfl, fun v hv => by rw [hv]; exact G.dl s G.sD, rfl, fun _ _ => Nat.le_refl _, fun u xs hu hx x hm => ?_, fun u xs hu hx => ?_, Nat.le_refl _, by decide, G.sv⟩
    · subst hu
      have hx : N.outs[u]? = some xs := hx
      rw [hsx] at hx
      cases hx
      rw [List.mem_singleton] at hm
      obtain ⟨e', v', r', c', g1, g2, g3, g4, g5, g6⟩ := G.ed u _ G.sD hsx _ (List.mem_singleton.mpr rfl)
      have ee : e' = e0 := by omega
      subst ee
      obtain ⟨o1, o3, o4⟩ := hev e' he0
      have hin := (use_in row N.rooms e' (fun x hx => (hev x hx).1) hnd he0 (List.getElem?_eq_some_iff.mp o4).1).1
      exact ⟨e', v', 0, c', hm, g2, hin, g4, g5, fun z => by omega⟩
    · subst hu
      have hx : N.outs[u]? = some xs := hx
      rw [hsx] at hx
      cases hx
      exact Nat.le_trans (List.length_filter_le _ _) (Nat.le_refl _)
  obtain ⟨cs1, ca1, hleast1, L1⟩ := least_run G1 n (by omega)
  have hnone : cs1[t]? = some none := by
    have hl : t < cs1.length := by rw [L1.l1]; exact ht
    cases q : cs1[t]'hl with
    | none => rw [List.getElem?_eq_getElem hl, q]
    | some b1 => exact absurd (L1.dm t b1 (by rw [List.getElem?_eq_getElem hl, q])) hts
  refine ⟨cs, ca, row, L, hP, ?_⟩
  obtain ⟨z9, hcar⟩ := carry_run (N := N) t cs ca row hev hnd (s := s)
  let E0 : En := [.st 8, .sh (.int (s : Int)), .sh (.int (t : Int)), .sh (.int 0), .no, .no, .no, .no, .no, .no]
  have hwalk := walk_run O t cs ca hP n [] (by omega) (by show 0 + row.length < line; unfold line; omega)
  have hw1 : ∀ M : Net, (xTruth (xC (.bool true)) : TF) E0 ⟨0, [], some M⟩ = some (true, ⟨0, [], some M⟩) := fun _ => rfl
  have hones : (nI row).map (fun _ => PyData.int 1) = (List.replicate row.length (1 : Int)).map .int := by
    unfold nI
    rw [List.map_map, List.map_replicate]
    exact List.map_const' ..
  have hsize : xComp [9] (iOwn 6) (gNm 9) tYesF (xNIx 0 .rooms (xVar 9)) (pE s t 0 cs ca (.ow false (nI row)) (.sh (.int (s : Int))) .no .no) ⟨0, [], some N⟩ = some ((List.replicate row.length (1 : Int)).map .int, ⟨0, [], some N⟩) := by
    refine xComp_ww (xs := nI row) rfl rfl (by unfold nI; rw [List.length_map]; unfold line; omega) ?_
    have := compL_fw (g := gNm 9) (f := xNIx 0 .rooms (xVar 9)) (env := pE s t 0 cs ca (.ow false (nI row)) (.sh (.int (s : Int))) .no .no) (w := ⟨0, [], some N⟩) (fun (n : Nat) => PyData.int (n : Int)) (fun _ => PyData.int 1) row fun e he => ⟨_, rfl, nix_w (N := N) (j := e) rfl rfl rfl (hev e he).2.1⟩
    refine this.trans ?_
    rw [List.map_replicate, List.map_const']
  have hbody : pushB n E0 ⟨0, [], some N⟩ = some ((.nx, pE s t 1 cs ca (.sh (.list (nI row))) (.sh (.int (s : Int))) (.sh (.int 1)) z9), ⟨0, [], some N1⟩) := by
    refine seq_to (env1 := pE s t 0 cs ca .no .no .no .no) (w1 := ⟨0, [], some N⟩) (asg_w (ncall_w (w1 := ⟨0, [], some N⟩) (N := N) (N' := N) (cons_w rfl rfl) rfl rfl hleast) rfl) ?_
    refine seq_to (env1 := pE s t 0 cs ca .no .no .no .no) (w1 := ⟨0, [], some N⟩) ((if_else_w (test_w (un_w (xOp_w rfl rfl (oD_at hb)) rfl))).trans rfl) ?_
    refine seq_to (env1 := pE s t 0 cs ca (.ow false (nI [])) .no .no .no) (w1 := ⟨0, [], some N⟩) rfl ?_
    refine seq_to (env1 := pE s t 0 cs ca (.ow false (nI [])) (.sh (.int (t : Int))) .no .no) (w1 := ⟨0, [], some N⟩) rfl ?_
    refine seq_to (env1 := pE s t 0 cs ca (.ow false (nI row)) (.sh (.int (s : Int))) .no .no) (w1 := ⟨0, [], some N⟩) hwalk ?_
    refine seq_to (env1 := pE s t 0 cs ca (.ow false (nI row)) (.sh (.int (s : Int))) (.sh (.int 1)) .no) (w1 := ⟨0, [], some N⟩) (asg_w (flat_w (call_w (cons_w (xAs_w hsize) rfl) (fMinA_ones hpos))) rfl) ?_
    show (sSeq _ _) (pE s t 0 cs ca (.sh (.list (nI row))) (.sh (.int (s : Int))) (.sh (.int 1)) .no) _ = _
    exact seq_to hcar rfl
  let E1 : En := pE s t 1 cs ca (.sh (.list (nI row))) (.sh (.int (s : Int))) (.sh (.int 1)) z9
  have hbody2 : pushB n E1 ⟨0, [], some N1⟩ = some ((.rt (.int 1), pE s t 1 cs1 ca1 (.sh (.list (nI row))) (.sh (.int (s : Int))) (.sh (.int 1)) z9), ⟨0, [], some N1⟩) := by
    refine seq_to (env1 := pE s t 1 cs1 ca1 (.sh (.list (nI row))) (.sh (.int (s : Int))) (.sh (.int 1)) z9) (w1 := ⟨0, [], some N1⟩) (asg_w (ncall_w (w1 := ⟨0, [], some N1⟩) (N := N1) (N' := N1) (cons_w rfl rfl) rfl rfl hleast1) rfl) ?_
    refine seq_rt_w ((if_then_w (test_w (un_w (xOp_w rfl rfl (oD_at hnone)) rfl))).trans (ret_w rfl))
  refine runMeth_rt (N' := N1) rfl (env' := pE s t 1 cs1 ca1 (.sh (.list (nI row))) (.sh (.int (s : Int))) (.sh (.int 1)) z9) (w' := ⟨0, [], some N1⟩) ?_ rfl
  refine seq_to (env1 := E0) (w1 := ⟨0, [], some N⟩) rfl ?_
  obtain ⟨n1, rfl⟩ : ∃ k, n = k + 2 := ⟨n - 2, by omega⟩
  show sWhile.go _ (pushB (n1 + 2)) (n1 + 2) E0 ⟨0, [], some N⟩ = _
  rw [while_next (hw1 N) hbody]
  exact while_rt rfl hbody2
end
end VE

namespace VE
open PySem
/-! nets laid by node and way -/
structure Wy where
  u : Nat
  v : Nat
  r : Int
  c : Int
def addN (N : Net) : Net := ⟨N.outs ++ [[]], N.goals, N.rooms, N.costs⟩
def out1 (N : Net) (u : Nat) : List (List Int) := N.outs.set u (N.outs.getD u [] ++ [(N.goals.length : Int)])
def addW (N : Net) (x : Wy) : Net := ⟨(out1 N x.u).set x.v ((out1 N x.u).getD x.v [] ++ [((N.goals.length + 1 : Nat) : Int)]), N.goals ++ [(x.v : Int), (x.u : Int)], N.rooms ++ [x.r, 0], N.costs ++ [x.c, 0 - x.c]⟩
theorem napp_w {i j : Nat} {k f : EF} {env : En} {w : W} {N : Net} {xs : List Int} {y : Int} (hk : k env w = some (.int (j : Int), w)) (hf : f env w = some (.int y, w)) (h : env[i]? = some (.st 8)) (hN : w.ob = some N) (hx : N.outs[j]? = some xs) (hl : xs.length < line) :
    sNApp i k f env w = some ((.nx, env), ⟨w.pos, w.cells, some ⟨N.outs.set j (xs ++ [y]), N.goals, N.rooms, N.costs⟩⟩) := by
  unfold sNApp
  rw [bind_w hk]
  show (lift (some (j : Int)) >>= _) w = _
  rw [lift_some, pb]
  have h1 : withN i env (fun N => lift (ixN N.outs.length (j : Int))) w = some (j, w) := by
    rw [withN_w h hN, ixN_nat (List.getElem?_eq_some_iff.mp hx).1]; rfl
  rw [bind_w h1, bind_w hf]
  show (lift (some y) >>= _) w = _
  rw [lift_some, pb, withN_w h hN, hx, lift_some, pb, if_pos hl]
  rfl
theorem next_w {i : Nat} {fd : Fd} {f : EF} {env : En} {w : W} {N : Net} {ns : List Int} (hf : f env w = some (.list (ns.map .int), w)) (h : env[i]? = some (.st 8)) (hN : w.ob = some N) (hl : (N.fd fd).length + ns.length ≤ line) :
    sNExt i fd f env w = some ((.nx, env), ⟨w.pos, w.cells, some (N.setFd fd (N.fd fd ++ ns))⟩) := by
  unfold sNExt
  rw [bind_w hf]
  show (lift (asInts (ns.map .int)) >>= _) w = _
  rw [asInts_map, lift_some, pb, withN_w h hN, if_pos hl]
  rfl
theorem node_run' (N : Net) (h : N.outs.length < line) : net_nodeF [] N = some (.int (N.outs.length : Int), addN N) := by
  refine runMeth_rt (N' := addN N) rfl (env' := [.st 8]) (w' := ⟨0, [], some (addN N)⟩) ?_ rfl
  unfold net_nodeB
  have h1 : sNNode 0 [.st 8] ⟨0, [], some N⟩ = some ((.nx, [.st 8]), ⟨0, [], some (addN N)⟩) := by
    unfold sNNode
    rw [withN_w rfl rfl, if_pos h]
    rfl
  refine seq_to h1 (ret_w (xOp_w (a := .int ((addN N).outs.length : Int)) rfl rfl ?_))
  show some (PyData.int (((N.outs ++ [[]]).length : Int) - 1)) = _
  rw [List.length_append]
  show some (PyData.int (((N.outs.length + 1 : Nat) : Int) - 1)) = _
  rw [show ((N.outs.length + 1 : Nat) : Int) - 1 = (N.outs.length : Int) by omega]
theorem way_run (N : Net) (x : Wy) (hu : x.u < N.outs.length) (hv : x.v < N.outs.length) (hr : N.rooms.length = N.goals.length) (hc : N.costs.length = N.goals.length) (hl : N.goals.length + 2 ≤ line) (ho : ∀ xs ∈ N.outs, xs.length + 1 < line) :
    net_wayF [.int (x.u : Int), .int (x.v : Int), .int x.r, .int x.c] N = some (.int (N.goals.length : Int), addW N x) := by
  let k := N.goals.length
  let E : En := [.st 8, .sh (.int (x.u : Int)), .sh (.int (x.v : Int)), .sh (.int x.r), .sh (.int x.c), .sh (.int (k : Int))]
  refine runMeth_rt (N' := addW N x) rfl (env' := E) (w' := ⟨0, [], some (addW N x)⟩) ?_ rfl
  unfold net_wayB
  have hx1 : N.outs[x.u]? = some (N.outs.getD x.u []) := by rw [List.getD_eq_getElem?_getD, List.getElem?_eq_getElem hu]; rfl
  have hx2 : (out1 N x.u)[x.v]? = some ((out1 N x.u).getD x.v []) := by rw [List.getD_eq_getElem?_getD, List.getElem?_eq_getElem (by unfold out1; rw [List.length_set]; exact hv)]; rfl
  have hl1 : (N.outs.getD x.u []).length + 1 < line := ho _ (List.mem_of_getElem? hx1)
  have hl2 : ((out1 N x.u).getD x.v []).length < line := by
    have hm := List.mem_of_getElem? hx2
    unfold out1 at hm
    rcases List.mem_or_eq_of_mem_set hm with h | h
    · have := ho _ h; unfold out1; omega
    · unfold out1; rw [h, List.length_append]; exact hl1
  refine seq_to (env1 := E) (w1 := ⟨0, [], some N⟩) rfl ?_
  refine seq_to (env1 := E) (w1 := ⟨0, [], some ⟨out1 N x.u, N.goals, N.rooms, N.costs⟩⟩) (napp_w (j := x.u) rfl rfl rfl rfl hx1 (by omega)) ?_
  refine seq_to (env1 := E) (w1 := ⟨0, [], some ⟨(addW N x).outs, N.goals, N.rooms, N.costs⟩⟩) (napp_w (N := ⟨out1 N x.u, N.goals, N.rooms, N.costs⟩) (j := x.v) rfl rfl rfl rfl hx2 hl2) ?_
  refine seq_to (env1 := E) (w1 := ⟨0, [], some ⟨(addW N x).outs, (addW N x).goals, N.rooms, N.costs⟩⟩) (next_w (N := ⟨(addW N x).outs, N.goals, N.rooms, N.costs⟩) (ns := [(x.v : Int), (x.u : Int)]) rfl rfl rfl hl) ?_
  refine seq_to (env1 := E) (w1 := ⟨0, [], some ⟨(addW N x).outs, (addW N x).goals, (addW N x).rooms, N.costs⟩⟩) (next_w (N := ⟨(addW N x).outs, (addW N x).goals, N.rooms, N.costs⟩) (ns := [x.r, 0]) rfl rfl rfl (by show N.rooms.length + 2 ≤ line; omega)) ?_
  refine seq_to (env1 := E) (w1 := ⟨0, [], some (addW N x)⟩) (next_w (N := ⟨(addW N x).outs, (addW N x).goals, (addW N x).rooms, N.costs⟩) (ns := [x.c, 0 - x.c]) rfl rfl rfl (by show N.costs.length + 2 ≤ line; omega)) ?_
  exact ret_w rfl
theorem carried_run {N : Net} {e : Nat} {r : Int} (h : N.rooms[e + 1]? = some r) : net_carriedF [.int (e : Int)] N = some (.int r, N) := by
  refine runMeth_rt (N' := N) rfl (env' := [.st 8, .sh (.int (e : Int))]) (w' := ⟨0, [], some N⟩) ?_ rfl
  exact ret_w (nix_w (j := e + 1) (xOp_w rfl rfl rfl) rfl rfl h)
/-- what a net laid so looks like -/
structure Laid (V : Nat) (W : List Wy) (N : Net) : Prop where
  ov : N.outs.length = V
  lg : N.goals.length = 2 * W.length
  lr : N.rooms.length = 2 * W.length
  lc : N.costs.length = 2 * W.length
  wy : ∀ (i : Nat) x, W[i]? = some x → N.goals[2 * i]? = some (x.v : Int) ∧ N.goals[2 * i + 1]? = some (x.u : Int) ∧ N.rooms[2 * i]? = some x.r ∧ N.rooms[2 * i + 1]? = some 0 ∧ N.costs[2 * i]? = some x.c ∧ N.costs[2 * i + 1]? = some (0 - x.c)
  uv : ∀ x ∈ W, x.u < V ∧ x.v < V
  o1 : ∀ (u : Nat) xs, N.outs[u]? = some xs → ∀ y ∈ xs, ∃ (i : Nat) (x : Wy), W[i]? = some x ∧ ((x.u = u ∧ y = ((2 * i : Nat) : Int)) ∨ (x.v = u ∧ y = ((2 * i + 1 : Nat) : Int)))
  o2 : ∀ (i : Nat) (x : Wy), W[i]? = some x → ∃ xs, N.outs[x.u]? = some xs ∧ ((2 * i : Nat) : Int) ∈ xs
  ol : ∀ xs ∈ N.outs, xs.length ≤ 2 * W.length
  dg : ∀ (u : Nat) xs, N.outs[u]? = some xs → (xs.filter (isOpen N)).length ≤ (W.filter fun x => decide (x.u = u)).length
theorem laid_nil (V : Nat) : Laid V [] ⟨List.replicate V [], [], [], []⟩ := by
  have hr : ∀ {u : Nat} {xs : List Int}, (List.replicate V ([] : List Int))[u]? = some xs → xs = [] := fun h => (List.mem_replicate.mp (List.mem_of_getElem? h)).2
  refine ⟨List.length_replicate, rfl, rfl, rfl, fun i x h => by simp at h, fun x h => by simp at h, fun u xs h y hy => ?_, fun i x h => by simp at h, fun xs h => ?_, fun u xs h => ?_⟩
  · rw [hr h] at hy; simp at hy
  · rw [(List.mem_replicate.mp h).2]; exact Nat.zero_le _
  · rw [hr h]; exact Nat.zero_le _
theorem get_app2 {xs : List Int} {a b : Int} {k : Nat} (h : xs.length = k) : (∀ i, i < k → (xs ++ [a, b])[i]? = xs[i]?) ∧ (xs ++ [a, b])[k]? = some a ∧ (xs ++ [a, b])[k + 1]? = some b := by
  refine ⟨fun i hi => List.getElem?_append_left (by omega), ?_, ?_⟩
  · rw [List.getElem?_append_right (by omega), h, Nat.sub_self]; rfl
  · rw [List.getElem?_append_right (by omega), h, show k + 1 - k = 1 by omega]; rfl
theorem laid_add {V : Nat} {W : List Wy} {N : Net} (L : Laid V W N) (x : Wy) (hu : x.u < V) (hv : x.v < V) : Laid V (W ++ [x]) (addW N x) := by
  obtain ⟨g1, g2, g3⟩ := get_app2 (a := (x.v : Int)) (b := (x.u : Int)) L.lg
  obtain ⟨r1, r2, r3⟩ := get_app2 (a := x.r) (b := 0) L.lr
  obtain ⟨c1, c2, c3⟩ := get_app2 (a := x.c) (b := 0 - x.c) L.lc
  have hlen : (W ++ [x]).length = W.length + 1 := by rw [List.length_append]; rfl
  have old : ∀ {i : Nat} {z : Wy}, W[i]? = some z → (W ++ [x])[i]? = some z := fun h => by rw [List.getElem?_append_left (List.getElem?_eq_some_iff.mp h).1]; exact h
  have new : (W ++ [x])[W.length]? = some x := by rw [List.getElem?_append_right (Nat.le_refl _), Nat.sub_self]; rfl
  -- a node's row behind
  have row : ∀ (u : Nat) zs, (addW N x).outs[u]? = some zs → ∃ ys, N.outs[u]? = some ys ∧ zs = ys ++ (if x.u = u then [((2 * W.length : Nat) : Int)] else []) ++ (if x.v = u then [((2 * W.length + 1 : Nat) : Int)] else []) := fun u zs h => by
    have h : ((out1 N x.u).set x.v ((out1 N x.u).getD x.v [] ++ [((N.goals.length + 1 : Nat) : Int)]))[u]? = some zs := h
    have hul : u < N.outs.length := by
      have := (List.getElem?_eq_some_iff.mp h).1
      unfold out1 at this
      simpa using this
    have r1 : (out1 N x.u)[u]? = some (N.outs[u] ++ (if x.u = u then [((2 * W.length : Nat) : Int)] else [])) := by
      unfold out1
      by_cases q : x.u = u
      · subst q
        rw [if_pos rfl, List.getElem?_set_self hul, List.getD_eq_getElem?_getD, List.getElem?_eq_getElem hul, L.lg]
        rfl
      · rw [if_neg q, List.getElem?_set_ne q, List.getElem?_eq_getElem hul, List.append_nil]
    refine ⟨N.outs[u], List.getElem?_eq_getElem hul, ?_⟩
    by_cases q : x.v = u
    · rw [q, List.getElem?_set_self (by unfold out1; rw [List.length_set]; exact hul), List.getD_eq_getElem?_getD, r1, L.lg] at h
      rw [if_pos q]
      cases h
      rfl
    · rw [List.getElem?_set_ne q, r1] at h
      rw [if_neg q, List.append_nil]
      cases h
      rfl
  have opn : ∀ {e : Nat}, e < N.rooms.length → isOpen (addW N x) (e : Int) = isOpen N (e : Int) := fun {e} h => by
    unfold isOpen
    rw [Int.toNat_natCast, List.getD_eq_getElem?_getD, List.getD_eq_getElem?_getD]
    show decide (0 < ((N.rooms ++ [x.r, 0])[e]?).getD 0) = _
    rw [r1 e (by rw [← L.lr]; exact h)]
  refine ⟨?_, ?_, ?_, ?_, fun i z h => ?_, fun z h => ?_, fun u zs h y hy => ?_, fun i z h => ?_, fun zs h => ?_, fun u zs h => ?_⟩
  · show ((out1 N x.u).set x.v _).length = V
    unfold out1
    rw [List.length_set, List.length_set]; exact L.ov
  · show (N.goals ++ [_, _]).length = _
    rw [List.length_append, L.lg, hlen]; rfl
  · show (N.rooms ++ [_, _]).length = _
    rw [List.length_append, L.lr, hlen]; rfl
  · show (N.costs ++ [_, _]).length = _
    rw [List.length_append, L.lc, hlen]; rfl
  · by_cases hi : i < W.length
    · rw [List.getElem?_append_left hi] at h
      obtain ⟨q1, q2, q3, q4, q5, q6⟩ := L.wy i z h
      exact ⟨(g1 _ (by omega)).trans q1, (g1 _ (by omega)).trans q2, (r1 _ (by omega)).trans q3, (r1 _ (by omega)).trans q4, (c1 _ (by omega)).trans q5, (c1 _ (by omega)).trans q6⟩
    · have hi2 : i = W.length := by have := (List.getElem?_eq_some_iff.mp h).1; omega
      subst hi2
      rw [new] at h
      cases h
      exact ⟨g2, g3, r2, r3, c2, c3⟩
  · rcases List.mem_append.mp h with h | h
    · exact L.uv z h
    · rw [List.mem_singleton] at h; subst h; exact ⟨hu, hv⟩
  · obtain ⟨ys, h1, rfl⟩ := row u zs h
    rcases List.mem_append.mp hy with hy | hy
    · rcases List.mem_append.mp hy with hy | hy
      · obtain ⟨i, z, q1, q2⟩ := L.o1 u ys h1 y hy
        exact ⟨i, z, old q1, q2⟩
      · by_cases q : x.u = u
        · rw [if_pos q, List.mem_singleton] at hy
          exact ⟨W.length, x, new, .inl ⟨q, hy⟩⟩
        · rw [if_neg q] at hy; simp at hy
    · by_cases q : x.v = u
      · rw [if_pos q, List.mem_singleton] at hy
        exact ⟨W.length, x, new, .inr ⟨q, hy⟩⟩
      · rw [if_neg q] at hy; simp at hy
  · have hzl : z.u < (addW N x).outs.length := by
      have e : (addW N x).outs.length = V := by
        show ((out1 N x.u).set x.v _).length = V
        unfold out1
        rw [List.length_set, List.length_set]; exact L.ov
      rw [e]
      rcases List.mem_append.mp (List.mem_of_getElem? h) with h | h
      · exact (L.uv z h).1
      · rw [List.mem_singleton] at h; subst h; exact hu
    obtain ⟨ys, h1, h2⟩ := row z.u _ (List.getElem?_eq_getElem hzl)
    refine ⟨_, List.getElem?_eq_getElem hzl, ?_⟩
    rw [h2]
    by_cases hi : i < W.length
    · rw [List.getElem?_append_left hi] at h
      obtain ⟨xs, q1, q2⟩ := L.o2 i z h
      rw [h1] at q1
      cases q1
      exact List.mem_append.mpr (.inl (List.mem_append.mpr (.inl q2)))
    · have hi2 : i = W.length := by have := (List.getElem?_eq_some_iff.mp h).1; omega
      subst hi2
      rw [new] at h
      cases h
      rw [if_pos rfl]
      exact List.mem_append.mpr (.inl (List.mem_append.mpr (.inr (List.mem_singleton.mpr rfl))))
  · obtain ⟨u, hul, rfl⟩ := List.getElem_of_mem h
    obtain ⟨ys, h1, h2⟩ := row u _ (List.getElem?_eq_getElem hul)
    rw [h2, hlen, List.length_append, List.length_append]
    have := L.ol ys (List.mem_of_getElem? h1)
    split <;> split <;> simp only [List.length_singleton, List.length_nil] <;> omega
  · obtain ⟨ys, h1, rfl⟩ := row u zs h
    have hf : ys.filter (isOpen (addW N x)) = ys.filter (isOpen N) := List.filter_congr fun y hy => by
      obtain ⟨i, z, q1, q2⟩ := L.o1 u ys h1 y hy
      have hi := (List.getElem?_eq_some_iff.mp q1).1
      rcases q2 with ⟨_, rfl⟩ | ⟨_, rfl⟩
      · exact opn (by rw [L.lr]; omega)
      · exact opn (by rw [L.lr]; omega)
    have hcl : isOpen (addW N x) ((2 * W.length + 1 : Nat) : Int) = false := by
      unfold isOpen
      rw [Int.toNat_natCast, List.getD_eq_getElem?_getD]
      show decide (0 < ((N.rooms ++ [x.r, 0])[2 * W.length + 1]?).getD 0) = _
      rw [r3]
      rfl
    rw [List.filter_append, List.filter_append, List.length_append, List.length_append, hf, List.filter_append, List.length_append]
    have := L.dg u ys h1
    have h3 : ((if x.v = u then [((2 * W.length + 1 : Nat) : Int)] else []).filter (isOpen (addW N x))).length = 0 := by
      split
      · rw [List.filter_cons_of_neg (by rw [hcl]; exact Bool.false_ne_true)]; rfl
      · rfl
    have h4 : ((if x.u = u then [((2 * W.length : Nat) : Int)] else []).filter (isOpen (addW N x))).length ≤ ([x].filter fun x => decide (x.u = u)).length := by
      by_cases q : x.u = u
      · have hR : ([x].filter fun x => decide (x.u = u)).length = 1 := by simp [q]
        rw [if_pos q, hR]
        exact Nat.le_trans (List.length_filter_le _ _) (Nat.le_refl 1)
      · rw [if_neg q]; exact Nat.zero_le _
    omega
theorem Laid.way_get {V : Nat} {W : List Wy} {N : Net} (L : Laid V W N) {u e v : Nat} {c : Int} (h : Way N u e v c) : ∃ (i : Nat) (x : Wy), W[i]? = some x ∧ e = 2 * i ∧ x.u = u ∧ x.v = v ∧ x.c = c ∧ 0 < x.r ∧ N.rooms[e]? = some x.r := by
  obtain ⟨xs, r, h1, h2, h3, h4, h5, h6⟩ := h
  obtain ⟨i, x, q1, q2⟩ := L.o1 u xs h1 _ h2
  obtain ⟨w1, w2, w3, w4, w5, w6⟩ := L.wy i x q1
  rcases q2 with ⟨q2, q3⟩ | ⟨q2, q3⟩
  · have ee : e = 2 * i := by omega
    subst ee
    rw [w1] at h3; rw [w5] at h4; rw [w3] at h5
    have hv : (x.v : Int) = v := Option.some.inj h3
    have hc : x.c = c := Option.some.inj h4
    have hr : x.r = r := Option.some.inj h5
    exact ⟨i, x, q1, rfl, q2, by omega, hc, by omega, w3⟩
  · have ee : e = 2 * i + 1 := by omega
    subst ee
    rw [w4] at h5
    have hr : (0 : Int) = r := Option.some.inj h5
    omega
theorem Laid.way_mk {V : Nat} {W : List Wy} {N : Net} (L : Laid V W N) {i : Nat} {x : Wy} (h : W[i]? = some x) (hr : 0 < x.r) : Way N x.u (2 * i) x.v x.c := by
  obtain ⟨w1, w2, w3, w4, w5, w6⟩ := L.wy i x h
  obtain ⟨xs, o1, o2⟩ := L.o2 i x h
  exact ⟨xs, x.r, o1, o2, w1, w5, w3, hr⟩
theorem Laid.dag {V : Nat} {W : List Wy} {N : Net} (L : Laid V W N) {s : Nat} {ρ : Nat → Nat} {B d : Nat} (hs : s < V) (h0 : ρ s = 0) (hB : ∀ v, v < V → ρ v ≤ B) (hup : ∀ x ∈ W, ρ x.u < ρ x.v) (hd : ∀ u, (W.filter fun x => decide (x.u = u)).length ≤ d) (hd1 : 1 ≤ d) (hsm : d ^ (B + 2) < line) (hV : V ≤ line) : Dag N s (fun v => v < N.outs.length) ρ B d := by
  refine ⟨by show s < N.outs.length; rw [L.ov]; exact hs, fun _ h => h, h0, fun v h => hB v (by rw [← L.ov]; exact h), fun u xs _ h y hy => ?_, fun u xs _ h => Nat.le_trans (L.dg u xs h) (hd u), hd1, hsm, by rw [L.ov]; exact hV⟩
  obtain ⟨i, x, q1, q2⟩ := L.o1 u xs h y hy
  obtain ⟨w1, w2, w3, w4, w5, w6⟩ := L.wy i x q1
  have hm := List.mem_of_getElem? q1
  obtain ⟨hu, hv⟩ := L.uv x hm
  rcases q2 with ⟨q2, q3⟩ | ⟨q2, q3⟩
  · exact ⟨2 * i, x.v, x.r, x.c, q3, w1, w3, w5, by rw [L.ov]; exact hv, fun _ => ⟨by rw [← q2]; exact hup x hm, by show x.v < N.outs.length; rw [L.ov]; exact hv⟩⟩
  · exact ⟨2 * i + 1, x.u, 0, 0 - x.c, q3, w2, w4, w6, by rw [L.ov]; exact hu, fun h => absurd h (by omega)⟩
end VE

namespace VE
open PySem
/-! costs of runs -/
theorem flat_p {f : EF} {env : En} {i : Int} (h : f env = pure (.int i)) : xFlat f env = pure (.int i) := by
  unfold xFlat
  rw [h, pb]
  rfl
theorem len_dI (m : List Int) : fLen [dI m] = some (.int (m.length : Int)) := by
  show some (PyData.int ((m.map PyData.int).length : Int)) = _
  rw [List.length_map]
theorem dI_getD {m : List Int} {j : Nat} (h : j < m.length) : fIx (dI m) (.int (j : Int)) = some (.int (m.getD j 0)) := dI_get (by rw [List.getD_eq_getElem?_getD, List.getElem?_eq_getElem h]; rfl)
def sumW (P : List Int) (s n : Nat) : Int := ((List.range n).map fun j => P.getD ((s + j) % P.length) 0).sum
theorem sumW_add (P : List Int) (s a : Nat) : ∀ b, sumW P s (a + b) = sumW P s a + sumW P (s + a) b
  | 0 => by show _ = _ + (0 : Int); rw [Int.add_zero]; rfl
  | b + 1 => by
    have e1 : sumW P s (a + (b + 1)) = sumW P s (a + b) + P.getD ((s + (a + b)) % P.length) 0 := by
      unfold sumW
      rw [← Nat.add_assoc, List.range_succ, List.map_append, List.sum_append]
      show _ + (_ + 0) = _
      rw [Int.add_zero]
    have e2 : sumW P (s + a) (b + 1) = sumW P (s + a) b + P.getD ((s + a + b) % P.length) 0 := by
      unfold sumW
      rw [List.range_succ, List.map_append, List.sum_append]
      show _ + (_ + 0) = _
      rw [Int.add_zero]
    rw [e1, e2, sumW_add P s a b, Nat.add_assoc s a b, Int.add_assoc]
theorem sumW_one (P : List Int) (s : Nat) : sumW P s 1 = P.getD (s % P.length) 0 := by
  show P.getD ((s + 0) % P.length) 0 + 0 = _
  rw [Int.add_zero]; rfl
theorem sumW_full (P : List Int) (h : 0 < P.length) : ∀ s, sumW P s P.length = P.sum
  | 0 => by
    unfold sumW
    congr 1
    apply List.ext_getElem
    · rw [List.length_map, List.length_range]
    · intro i h1 h2
      rw [List.getElem_map, List.getElem_range, Nat.zero_add, Nat.mod_eq_of_lt h2, List.getD_eq_getElem?_getD, List.getElem?_eq_getElem h2]
      rfl
  | s + 1 => by
    have h1 := sumW_add P s 1 P.length
    have h2 := sumW_add P s P.length 1
    rw [sumW_full P h s] at h2
    rw [Nat.add_comm 1 P.length] at h1
    rw [h1] at h2
    have e : sumW P (s + P.length) 1 = sumW P s 1 := by rw [sumW_one, sumW_one, Nat.add_mod_right]
    rw [e] at h2
    omega
theorem sumW_turns (P : List Int) (h : 0 < P.length) (s r : Nat) : ∀ q, sumW P s (r + P.length * q) = P.sum * (q : Int) + sumW P s r
  | 0 => by rw [Nat.mul_zero, Nat.add_zero]; show _ = _ * 0 + _; omega
  | q + 1 => by
    rw [Nat.mul_add, Nat.mul_one, ← Nat.add_assoc, sumW_add, sumW_turns P h s r q, sumW_full P h]
    rw [show ((q + 1 : Nat) : Int) = (q : Int) + 1 by omega, Int.mul_add]
    omega
theorem cf_eq (P : List Int) (h : 0 < P.length) (s l : Nat) : P.sum * ((l / P.length : Nat) : Int) + sumW P s (l % P.length) = sumW P s l := by
  have := sumW_turns P h s (l % P.length) (l / P.length)
  rw [Nat.mod_add_div] at this
  exact this.symm
theorem natMod (a b : Nat) : ((a : Int) % (b : Int)) = ((a % b : Nat) : Int) := by omega
theorem costf_run (P : List Int) (h : 0 < P.length) (h2 : P.length ≤ 1000000) (s l : Nat) (hl : l ≤ 1000000) : cost_fromF [dI P, .int (s : Int), .int (l : Int)] = some (.int (sumW P s l)) := by
  refine runDef_ex rfl ?_
  unfold cost_fromB
  have hd : fDiv (.int (l : Int)) (.int (P.length : Int)) = some (.int ((l / P.length : Nat) : Int)) := by
    rw [fDiv_pos (by omega) (by omega)]
    congr 2
  have hm : fMod (.int (l : Int)) (.int (P.length : Int)) = some (.int ((l % P.length : Nat) : Int)) := by
    rw [fMod_pos (by omega)]
    congr 2
  have hq : l / P.length ≤ l := Nat.div_le_self _ _
  have hr : l % P.length ≤ l := Nat.mod_le _ _
  have hin : inW ((l / P.length : Nat) : Int) = true := by
    generalize l / P.length = q at hq
    exact inW_of (by omega) (by omega)
  have hc : xComp [5] (iR1 (xCons (xVar 4) xNil)) (gNm 5) tYesF (xOp fIx (xVar 0) (xOp fMod (xOp fAdd (xVar 1) (xVar 5)) (xCall fLen (xCons (xVar 0) xNil)))) [.sh (dI P), .sh (.int (s : Int)), .sh (.int (l : Int)), .sh (.int (P.sum * ((l / P.length : Nat) : Int))), .sh (.int ((l % P.length : Nat) : Int)), .no] = pure (((List.range (l % P.length)).map fun j => P.getD ((s + j) % P.length) 0).map .int) := by
    refine xComp_p (xs := rangeL 0 ((l % P.length : Nat) : Int)) (iR1_p (cons_p rfl nil_p) (small62_nat (by omega))) rfl ?_ ?_
    · rw [rangeL_ups, List.length_map, ups_len]; unfold line; omega
    · rw [rangeL0, List.map_map]
      refine compL_all (fun (k : Nat) => PyData.int (k : Int)) _ _ fun j hj => ⟨_, rfl, op_p rfl (op_p (a := .int ((s : Int) + (j : Int))) (op_p rfl rfl rfl) (call_p (cons_p rfl nil_p) (len_dI P)) ?_) (dI_getD (j := (s + j) % P.length) (Nat.mod_lt _ h))⟩
      rw [fMod_pos (by omega)]
      congr 2
  refine sp_p (asg_p (op_p (call_p (cons_p rfl nil_p) (fSum_ints P)) (op_p rfl (call_p (cons_p rfl nil_p) (len_dI P)) hd) (fMul_r hin)) rfl) ?_
  refine sp_p (asg_p (op_p rfl (call_p (cons_p rfl nil_p) (len_dI P)) hm) rfl) ?_
  refine sp_ret (op_p rfl (call_p (cons_p (xAs_p hc) nil_p) (fSum_ints _)) ?_)
  show some (PyData.int _) = _
  rw [← cf_eq P h s l]
  rfl
/-! the table of the least costs -/
def omin : Option Int → Option Int → Option Int
  | none, b => b
  | some a, none => some a
  | some a, some b => some (if b < a then b else a)
def cand (P : List Int) (f l : Nat) (prev : Nat → Option Int) (g : Nat) : Option Int := if l ≤ g then (prev (g - l)).map (· + sumW P (f + (g - l)) l) else none
def nxt (P : List Int) (f l : Nat) (prev : Nat → Option Int) : Nat → Option Int
  | 0 => cand P f l prev 0
  | g + 1 => omin (nxt P f l prev g) (cand P f l prev (g + 1))
def tb (P : List Int) (f : Nat) (ls : List Nat) : Nat → Nat → Option Int
  | 0 => fun _ => some 0
  | k + 1 => nxt P f (ls.getD k 0) (tb P f ls k)
theorem omin_l {x y : Option Int} {a : Int} (h : x = some a) : ∃ b, omin x y = some b ∧ b ≤ a := by
  subst h
  cases y with
  | none => exact ⟨a, rfl, Int.le_refl _⟩
  | some b =>
    refine ⟨_, rfl, ?_⟩
    split <;> omega
theorem omin_r {x y : Option Int} {a : Int} (h : y = some a) : ∃ b, omin x y = some b ∧ b ≤ a := by
  subst h
  cases x with
  | none => exact ⟨a, rfl, Int.le_refl _⟩
  | some b =>
    refine ⟨_, rfl, ?_⟩
    split <;> omega
theorem omin_or (x y : Option Int) : omin x y = x ∨ omin x y = y := by
  cases x with
  | none => exact .inr rfl
  | some a =>
    cases y with
    | none => exact .inl rfl
    | some b =>
      show some (if b < a then b else a) = _ ∨ some (if b < a then b else a) = _
      by_cases h : b < a
      · rw [if_pos h]; exact .inr rfl
      · rw [if_neg h]; exact .inl rfl
section
variable (P : List Int) (f : Nat) (ls : List Nat)
theorem tb_up {k g : Nat} {a : Int} (h : tb P f ls k g = some a) : ∃ b, tb P f ls k (g + 1) = some b ∧ b ≤ a := by
  cases k with
  | zero => exact ⟨0, rfl, by cases h; exact Int.le_refl _⟩
  | succ k => exact omin_l h
theorem nxt_cand {l : Nat} {prev : Nat → Option Int} {g : Nat} {a : Int} (h : cand P f l prev g = some a) : ∃ b, nxt P f l prev g = some b ∧ b ≤ a := by
  cases g with
  | zero => exact ⟨a, h, Int.le_refl _⟩
  | succ g => exact omin_r h
theorem cand_of {l : Nat} {prev : Nat → Option Int} {g : Nat} {a : Int} (h : prev g = some a) : cand P f l prev (g + l) = some (a + sumW P (f + g) l) := by
  unfold cand
  rw [if_pos (Nat.le_add_left _ _), Nat.add_sub_cancel, h]
  rfl
theorem tb_job {k g : Nat} {a : Int} (h : tb P f ls k g = some a) : ∃ b, tb P f ls (k + 1) (g + ls.getD k 0) = some b ∧ b ≤ a + sumW P (f + g) (ls.getD k 0) := nxt_cand P f (cand_of P f h)
theorem cand_ex {l : Nat} {prev : Nat → Option Int} {g : Nat} {b : Int} (h : cand P f l prev g = some b) : l ≤ g ∧ ∃ a, prev (g - l) = some a ∧ b = a + sumW P (f + (g - l)) l := by
  unfold cand at h
  split at h
  · rename_i q
    obtain ⟨a, h1, h2⟩ := Option.map_eq_some_iff.mp h
    exact ⟨q, a, h1, h2.symm⟩
  · cases h
theorem tb_pred {k g : Nat} {b : Int} (h : tb P f ls k g = some b) : (k = 0 ∧ g = 0 ∧ b = 0) ∨ (1 ≤ g ∧ tb P f ls k (g - 1) = some b) ∨ (1 ≤ k ∧ ls.getD (k - 1) 0 ≤ g ∧ ∃ a, tb P f ls (k - 1) (g - ls.getD (k - 1) 0) = some a ∧ b = a + sumW P (f + (g - ls.getD (k - 1) 0)) (ls.getD (k - 1) 0)) := by
  cases k with
  | zero =>
    cases g with
    | zero => cases h; exact .inl ⟨rfl, rfl, rfl⟩
    | succ g => exact .inr (.inl ⟨by omega, h⟩)
  | succ k =>
    cases g with
    | zero =>
      obtain ⟨h1, h2⟩ := cand_ex P f h
      exact .inr (.inr ⟨by omega, h1, h2⟩)
    | succ g =>
      rcases omin_or (nxt P f (ls.getD k 0) (tb P f ls k) g) (cand P f (ls.getD k 0) (tb P f ls k) (g + 1)) with q | q
      · exact .inr (.inl ⟨by omega, q.symm.trans h⟩)
      · obtain ⟨h1, h2⟩ := cand_ex P f (q.symm.trans h)
        exact .inr (.inr ⟨by omega, h1, h2⟩)
/-- where a value is new, a run ends -/
theorem tb_new {k g : Nat} {b : Int} (h : tb P f ls (k + 1) g = some b) (hn : 1 ≤ g → tb P f ls (k + 1) (g - 1) ≠ some b) : ls.getD k 0 ≤ g ∧ ∃ a, tb P f ls k (g - ls.getD k 0) = some a ∧ b = a + sumW P (f + (g - ls.getD k 0)) (ls.getD k 0) := by
  rcases tb_pred P f ls h with ⟨q, _⟩ | ⟨q1, q2⟩ | ⟨_, q2, q3⟩
  · omega
  · exact absurd q2 (hn q1)
  · exact ⟨q2, q3⟩
theorem take_sum_succ (k : Nat) (h : k < ls.length) : (ls.take (k + 1)).sum = (ls.take k).sum + ls.getD k 0 := by
  rw [List.take_add_one, List.getElem?_eq_getElem h, List.sum_append, List.getD_eq_getElem?_getD, List.getElem?_eq_getElem h]
  rfl
theorem tb_some : ∀ (k : Nat), k ≤ ls.length → ∀ g, (∃ b, tb P f ls k g = some b) ↔ (ls.take k).sum ≤ g
  | 0, _, g => ⟨fun _ => Nat.zero_le _, fun _ => ⟨0, rfl⟩⟩
  | k + 1, hk, g => by
    rw [take_sum_succ ls k (by omega)]
    have ih := tb_some k (by omega)
    induction g with
    | zero =>
      constructor
      · rintro ⟨b, h⟩
        obtain ⟨h1, a, h2, _⟩ := cand_ex P f h
        have := (ih _).mp ⟨a, h2⟩
        omega
      · intro h
        obtain ⟨a, ha⟩ := (ih 0).mpr (by omega)
        have := cand_of P f (l := ls.getD k 0) ha
        rw [show 0 + ls.getD k 0 = 0 by omega] at this
        exact ⟨_, this⟩
    | succ g ihg =>
      constructor
      · rintro ⟨b, h⟩
        rcases tb_pred P f ls h with ⟨q, _⟩ | ⟨_, q⟩ | ⟨_, q1, a, q2, _⟩
        · omega
        · have := ihg.mp ⟨b, q⟩; omega
        · have := (ih _).mp ⟨a, q2⟩
          have q1 : ls.getD k 0 ≤ g + 1 := q1
          have : (ls.take k).sum ≤ g + 1 - ls.getD k 0 := this
          omega
      · intro h
        obtain ⟨a, ha⟩ := (ih (g + 1 - ls.getD k 0)).mpr (by omega)
        obtain ⟨b, hb, _⟩ := tb_job P f ls ha
        rw [show g + 1 - ls.getD k 0 + ls.getD k 0 = g + 1 by omega] at hb
        exact ⟨b, hb⟩
end
end VE

namespace VE
open PySem
theorem lastD (xs : List D) (y : D) : fIx (.list (xs ++ [y])) (.int (-1)) = some y := by
  show atI (xs ++ [y]) (-1) = _
  unfold atI ixN
  rw [if_neg (by decide), List.length_append, List.length_singleton, if_pos (by omega), Option.bind_some]
  rw [show (-1 + ((xs.length + 1 : Nat) : Int)).toNat = xs.length by omega, List.getElem?_append_right (Nat.le_refl _), Nat.sub_self]
  rfl
def optL : Option Int → List D
  | none => []
  | some a => [.int a]
def dN (ls : List Nat) : D := .list (ls.map fun (n : Nat) => PyData.int (n : Int))
def rowD (P : List Int) (f : Nat) (ls : List Nat) (k n : Nat) : D := .list ((List.range n).map fun g => oD (tb P f ls k g))
def tabsD (P : List Int) (f : Nat) (ls : List Nat) (T k : Nat) : List D := (List.range (k + 1)).map fun i => rowD P f ls i (T + 1)
theorem tabs_succ (P : List Int) (f : Nat) (ls : List Nat) (T k : Nat) : tabsD P f ls T (k + 1) = tabsD P f ls T k ++ [rowD P f ls (k + 1) (T + 1)] := by
  unfold tabsD
  rw [List.range_succ, List.map_append]
  rfl
theorem tabs_last (P : List Int) (f : Nat) (ls : List Nat) (T k : Nat) : fIx (.list (tabsD P f ls T k)) (.int (-1)) = some (rowD P f ls k (T + 1)) := by
  have e : tabsD P f ls T k = ((List.range k).map fun i => rowD P f ls i (T + 1)) ++ [rowD P f ls k (T + 1)] := by
    unfold tabsD
    rw [List.range_succ, List.map_append]
    rfl
  rw [e, lastD]
theorem tabs_ix {P : List Int} {f : Nat} {ls : List Nat} {T n k : Nat} (h : k ≤ n) : fIx (.list (tabsD P f ls T n)) (.int (k : Int)) = some (rowD P f ls k (T + 1)) := atI_nat (by unfold tabsD; rw [List.getElem?_map, List.getElem?_range (by omega)]; rfl)
theorem row_ix {P : List Int} {f : Nat} {ls : List Nat} {k n g : Nat} (h : g < n) : fIx (rowD P f ls k n) (.int (g : Int)) = some (oD (tb P f ls k g)) := atI_nat (by rw [List.getElem?_map, List.getElem?_range h]; rfl)
theorem own_p {i : Nat} {f : LF} {env : En} {xs : List D} (h : f env = pure xs) : sOwn i f env = pure (.nx, env.set i (.ow false xs)) := by
  unfold sOwn
  rw [h, pb]
theorem ifL_p {t : TF} {f g : LF} {env : En} {b : Bool} {r : M (List D)} (h : t env = pure b) (h1 : b = true → f env = r) (h2 : b = false → g env = r) : xIfL t f g env = r := by
  unfold xIfL
  rw [h, pb]
  cases b with
  | true => rw [if_pos rfl]; exact h1 rfl
  | false => rw [if_neg Bool.false_ne_true]; exact h2 rfl
def cellB : SF := (sSeq (sOwn 9 (xIfL (xAnd (xTruth (xVarO 7)) (xTest (xUn fNotN (xOp fIx (xVarO 7) (xUn fNeg (xC (.int 1))))))) (xLst (xCons (xFlat (xOp fIx (xVarO 7) (xUn fNeg (xC (.int 1))))) xNil)) (xLst xNil)))
    (sSeq (sIf (xAnd (xTest (xOp fGe (xVar 8) (xVar 6))) (xTest (xUn fNotN (xOp fIx (xOp fIx (xVarO 4) (xUn fNeg (xC (.int 1)))) (xOp fSub (xVar 8) (xVar 6)))))) (sApp 9 (xFlat (xOp fAdd (xOp fIx (xOp fIx (xVarO 4) (xUn fNeg (xC (.int 1)))) (xOp fSub (xVar 8) (xVar 6))) (xCall cost_fromF (xCons (xVar 0) (xCons (xOp fSub (xOp fAdd (xVar 2) (xVar 8)) (xVar 6)) (xCons (xVar 6) xNil))))))) sPass)
    (sApp 7 (xIf (xTruth (xVarO 9)) (xMinO 9) (xC .none)))))
section
variable (P : List Int) (f : Nat) (ls : List Nat) (T : Nat)
def lasto (k : Nat) : Nat → Option Int
  | 0 => none
  | g + 1 => tb P f ls k g
theorem tb_omin (k g : Nat) : tb P f ls (k + 1) g = omin (lasto P f ls (k + 1) g) (cand P f (ls.getD k 0) (tb P f ls k) g) := by
  cases g with
  | zero => rfl
  | succ g => rfl
abbrev fE (P : List Int) (f : Nat) (ls : List Nat) (T : Nat) (ts : List D) (z5 z6 z7 z8 z9 : Slot) : En := [.sh (dI P), .sh (dN ls), .sh (.int (f : Int)), .sh (.int ((f + T : Nat) : Int)), .ow false ts, z5, z6, z7, z8, z9]
abbrev rowL (k n : Nat) : List D := (List.range n).map fun g => oD (tb P f ls k g)
variable (h0 : 0 < P.length) (h1 : P.length ≤ 1000000) (hT : T ≤ 100000) (hl : ∀ l ∈ ls, l ≤ 100000)
include hl in
theorem ls_le (k : Nat) : ls.getD k 0 ≤ 100000 := by
  rw [List.getD_eq_getElem?_getD]
  cases e : ls[k]? with
  | none => exact Nat.zero_le _
  | some l => exact hl l (List.mem_of_getElem? e)
include h0 h1 hT hl in
theorem cell_run (k g : Nat) (z5 z9 : Slot) (hg : g ≤ T) : ∃ z9', cellB (fE P f ls T (tabsD P f ls T k) z5 (.sh (.int ((ls.getD k 0 : Nat) : Int))) (.ow false (rowL P f ls (k + 1) g)) (.sh (.int (g : Int))) z9) =
    pure (.nx, fE P f ls T (tabsD P f ls T k) z5 (.sh (.int ((ls.getD k 0 : Nat) : Int))) (.ow false (rowL P f ls (k + 1) (g + 1))) (.sh (.int (g : Int))) z9') := by
  have hlk := ls_le ls hl k
  obtain ⟨l, hle⟩ : ∃ l, l = ls.getD k 0 := ⟨_, rfl⟩
  have htb := tb_omin P f ls k g
  rw [← hle] at hlk htb ⊢
  refine ⟨.ow false (optL (lasto P f ls (k + 1) g) ++ optL (cand P f l (tb P f ls k) g)), ?_⟩
  unfold cellB
  -- the value before
  have s1 : (xIfL (xAnd (xTruth (xVarO 7)) (xTest (xUn fNotN (xOp fIx (xVarO 7) (xUn fNeg (xC (.int 1))))))) (xLst (xCons (xFlat (xOp fIx (xVarO 7) (xUn fNeg (xC (.int 1))))) xNil)) (xLst xNil)) (fE P f ls T (tabsD P f ls T k) z5 (.sh (.int (l : Int))) (.ow false (rowL P f ls (k + 1) g)) (.sh (.int (g : Int))) z9) = pure (optL (lasto P f ls (k + 1) g)) := by
    cases g with
    | zero => exact ifL_p (b := false) (and_f (truth_p rfl rfl)) (fun h => nomatch h) fun _ => rfl
    | succ g =>
      have hx : (xOp fIx (xVarO 7) (xUn fNeg (xC (.int 1)))) (fE P f ls T (tabsD P f ls T k) z5 (.sh (.int (l : Int))) (.ow false (rowL P f ls (k + 1) (g + 1))) (.sh (.int ((g + 1 : Nat) : Int))) z9) = pure (oD (tb P f ls (k + 1) g)) := by
        refine op_p rfl rfl ?_
        show fIx (.list (rowL P f ls (k + 1) (g + 1))) (.int (-1)) = _
        unfold rowL
        rw [List.range_succ, List.map_append]
        exact lastD _ _
      have ht : truth (.list (rowL P f ls (k + 1) (g + 1))) = some true := by
        show some (!(rowL P f ls (k + 1) (g + 1)).isEmpty) = _
        unfold rowL
        rw [List.range_succ_eq_map]
        rfl
      show _ = pure (optL (tb P f ls (k + 1) g))
      cases e : tb P f ls (k + 1) g with
      | none =>
        rw [e] at hx
        exact ifL_p (b := false) (and_t (truth_p rfl ht) (test_p (un_p hx rfl))) (fun h => nomatch h) fun _ => rfl
      | some a =>
        rw [e] at hx
        refine ifL_p (b := true) (and_t (truth_p rfl ht) (test_p (un_p hx rfl))) (fun _ => ?_) fun h => nomatch h
        unfold xLst
        rw [cons_p (flat_p hx) nil_p, pb]
        rfl
  refine (seq_pure (own_p s1)).trans ?_
  -- the run that ends here
  refine (seq_pure (env1 := fE P f ls T (tabsD P f ls T k) z5 (.sh (.int (l : Int))) (.ow false (rowL P f ls (k + 1) g)) (.sh (.int (g : Int))) (.ow false (optL (lasto P f ls (k + 1) g) ++ optL (cand P f l (tb P f ls k) g)))) ?_).trans ?_
  · have e0 : ∀ (z : Slot), (xTest (xOp fGe (xVar 8) (xVar 6))) (fE P f ls T (tabsD P f ls T k) z5 (.sh (.int (l : Int))) (.ow false (rowL P f ls (k + 1) g)) (.sh (.int (g : Int))) z) = pure (decide ((l : Int) ≤ (g : Int))) := fun z => test_p (op_p rfl rfl rfl)
    by_cases hlg : l ≤ g
    · have hc : cand P f l (tb P f ls k) g = (tb P f ls k (g - l)).map (· + sumW P (f + (g - l)) l) := by unfold cand; rw [if_pos hlg]
      rw [hc]
      have hsub : fSub (.int (g : Int)) (.int (l : Int)) = some (.int ((g - l : Nat) : Int)) := by show some (PyData.int _) = _; rw [show (g : Int) - l = ((g - l : Nat) : Int) by omega]
      have hx : ∀ z : Slot, (xOp fIx (xOp fIx (xVarO 4) (xUn fNeg (xC (.int 1)))) (xOp fSub (xVar 8) (xVar 6))) (fE P f ls T (tabsD P f ls T k) z5 (.sh (.int (l : Int))) (.ow false (rowL P f ls (k + 1) g)) (.sh (.int (g : Int))) z) = pure (oD (tb P f ls k (g - l))) := fun z =>
        op_p (op_p rfl rfl (tabs_last P f ls T k)) (op_p rfl rfl hsub) (row_ix (by omega))
      have e0' := fun z => e0 z
      rw [decide_eq_true (show (l : Int) ≤ g by omega)] at e0
      cases e : tb P f ls k (g - l) with
      | none =>
        rw [e] at hx
        refine (if_else (and_t (e0 _) (test_p (un_p (hx _) rfl)))).trans ?_
        show (pure (.nx, _) : M (Fl × En)) = _
        rw [show optL (Option.map (fun x => x + sumW P (f + (g - l)) l) none) = [] from rfl, List.append_nil]
      | some a =>
        rw [e] at hx
        refine (if_then (and_t (e0 _) (test_p (un_p (hx _) rfl)))).trans ?_
        refine (app_p (i := 9) (x := .int (a + sumW P (f + (g - l)) l)) (xs := optL (lasto P f ls (k + 1) g)) (flat_p (op_p (a := .int a) (b := .int (sumW P (f + (g - l)) l)) (hx _) (call_p (cons_p rfl (cons_p (op_p (a := .int ((f : Int) + g)) rfl rfl rfl) (cons_p rfl nil_p))) ?_) rfl)) rfl ?_).trans rfl
        · have := costf_run P h0 h1 (f + (g - l)) l (by omega)
          rw [show ((f + (g - l) : Nat) : Int) = (f : Int) + g - l by omega] at this
          exact this
        · cases lasto P f ls (k + 1) g with
          | none => exact by decide
          | some _ => exact (by decide : 1 < line)
    · have hc : cand P f l (tb P f ls k) g = none := by unfold cand; rw [if_neg hlg]
      rw [hc]
      have e1 := e0 (.ow false (optL (lasto P f ls (k + 1) g)))
      rw [decide_eq_false (show ¬ (l : Int) ≤ g by omega)] at e1
      refine (if_else (and_f e1)).trans ?_
      show (pure (.nx, _) : M (Fl × En)) = _
      rw [show optL none = [] from rfl, List.append_nil]
  -- the least
  have hv : (xIf (xTruth (xVarO 9)) (xMinO 9) (xC .none)) (fE P f ls T (tabsD P f ls T k) z5 (.sh (.int (l : Int))) (.ow false (rowL P f ls (k + 1) g)) (.sh (.int (g : Int))) (.ow false (optL (lasto P f ls (k + 1) g) ++ optL (cand P f l (tb P f ls k) g)))) = pure (oD (tb P f ls (k + 1) g)) := by
    rw [htb]
    cases lasto P f ls (k + 1) g with
    | none => cases cand P f l (tb P f ls k) g <;> rfl
    | some a => cases cand P f l (tb P f ls k) g <;> rfl
  refine (app_p (i := 7) hv rfl ?_).trans ?_
  · unfold rowL; rw [List.length_map, List.length_range]; unfold line; omega
  · have : rowL P f ls (k + 1) g ++ [oD (tb P f ls (k + 1) g)] = rowL P f ls (k + 1) (g + 1) := by
      unfold rowL
      rw [List.range_succ, List.map_append]
      rfl
    rw [this]
    rfl
def jobB : SF := (sSeq (sOwn 7 (xLst xNil))
    (sSeq (sFor (iR1 (xCons (xOp fAdd (xOp fSub (xVar 3) (xVar 2)) (xC (.int 1))) xNil)) (gNm 8) cellB)
    (sThaw 7 (sApp 4 (xVar 7)))))
include h0 h1 hT hl in
theorem job_run (k : Nat) (hk : k ≤ 1000) (z5 z7 z8 z9 : Slot) : ∃ z7' z8' z9', jobB (fE P f ls T (tabsD P f ls T k) z5 (.sh (.int ((ls.getD k 0 : Nat) : Int))) z7 z8 z9) =
    pure (.nx, fE P f ls T (tabsD P f ls T (k + 1)) z5 (.sh (.int ((ls.getD k 0 : Nat) : Int))) z7' z8' z9') := by
  obtain ⟨env', e1, z8', z9', rfl⟩ := for_inv (g := gNm 8) (body := cellB) (fun g env => ∃ z8 z9, env = fE P f ls T (tabsD P f ls T k) z5 (.sh (.int ((ls.getD k 0 : Nat) : Int))) (.ow false (rowL P f ls (k + 1) g)) z8 z9)
    (rangeL 0 ((T + 1 : Nat) : Int)) 0 (fE P f ls T (tabsD P f ls T k) z5 (.sh (.int ((ls.getD k 0 : Nat) : Int))) (.ow false []) z8 z9) ⟨z8, z9, rfl⟩ (fun g x env hg ⟨z8, z9, hz⟩ => by
      subst hz
      rw [Nat.zero_add]
      obtain ⟨rfl, hgl⟩ := rangeL0_get hg
      obtain ⟨z9', h⟩ := cell_run P f ls T h0 h1 hT hl k g z5 z9 (by omega)
      exact ⟨_, .nx, _, rfl, h, .inl rfl, _, z9', rfl⟩)
  have hlen : 0 + (rangeL 0 ((T + 1 : Nat) : Int)).length = T + 1 := by rw [rangeL_ups, List.length_map, ups_len]; omega
  rw [hlen] at e1
  refine ⟨.sh (rowD P f ls (k + 1) (T + 1)), z8', z9', ?_⟩
  unfold jobB
  refine (seq_pure (env1 := fE P f ls T (tabsD P f ls T k) z5 (.sh (.int ((ls.getD k 0 : Nat) : Int))) (.ow false []) z8 z9) rfl).trans ?_
  refine (seq_pure (for_p (iR1_p (j := ((T + 1 : Nat) : Int)) (cons_p (op_p (a := .int (T : Int)) (op_p rfl rfl ?_) rfl rfl) nil_p) (small62_nat (by omega))) e1)).trans ?_
  · show some (PyData.int _) = _
    rw [show ((f + T : Nat) : Int) - (f : Int) = (T : Int) by omega]
  · rw [tabs_succ]
    refine (show _ = sApp 4 (xVar 7) (fE P f ls T (tabsD P f ls T k) z5 (.sh (.int ((ls.getD k 0 : Nat) : Int))) (.sh (rowD P f ls (k + 1) (T + 1))) z8' z9') from rfl).trans ?_
    refine (app_p (i := 4) (x := rowD P f ls (k + 1) (T + 1)) rfl rfl ?_).trans rfl
    unfold tabsD
    rw [List.length_map, List.length_range]; unfold line; omega
include h0 h1 hT hl in
theorem tables_run (hn : ls.length ≤ 1000) : tables_forF [dI P, dN ls, .int (f : Int), .int ((f + T : Nat) : Int)] = some (.list (tabsD P f ls T ls.length)) := by
  refine runDef_ex rfl ?_
  unfold tables_forB
  obtain ⟨env', e1, z6', z7', z8', z9', rfl⟩ := for_inv (g := gNm 6) (body := jobB) (fun k env => ∃ z6 z7 z8 z9, env = fE P f ls T (tabsD P f ls T k) .no z6 z7 z8 z9)
    (ls.map fun (n : Nat) => PyData.int (n : Int)) 0 (fE P f ls T (tabsD P f ls T 0) .no .no .no .no .no) ⟨.no, .no, .no, .no, rfl⟩ (fun k x env hk ⟨z6, z7, z8, z9, hz⟩ => by
      subst hz
      rw [Nat.zero_add]
      rw [List.getElem?_map] at hk
      obtain ⟨l, hk1, rfl⟩ := Option.map_eq_some_iff.mp hk
      have hkl := (List.getElem?_eq_some_iff.mp hk1).1
      have hg : ls.getD k 0 = l := by rw [List.getD_eq_getElem?_getD, hk1]; rfl
      obtain ⟨z7', z8', z9', h⟩ := job_run P f ls T h0 h1 hT hl k (by omega) .no z7 z8 z9
      rw [hg] at h
      exact ⟨_, .nx, _, rfl, h, .inl rfl, _, _, _, _, rfl⟩)
  rw [List.length_map, Nat.zero_add] at e1
  have hz : xComp [5] (iR1 (xCons (xOp fAdd (xOp fSub (xVar 3) (xVar 2)) (xC (.int 1))) xNil)) (gNm 5) tYesF (xC (.int 0)) [.sh (dI P), .sh (dN ls), .sh (.int (f : Int)), .sh (.int ((f + T : Nat) : Int)), .no, .no, .no, .no, .no, .no] = pure ((List.range (T + 1)).map fun _ => PyData.int 0) := by
    refine xComp_p (xs := rangeL 0 ((T + 1 : Nat) : Int)) (iR1_p (cons_p (op_p (a := .int (T : Int)) (op_p rfl rfl ?_) rfl rfl) nil_p) (small62_nat (by omega))) rfl ?_ ?_
    · show some (PyData.int _) = _
      rw [show ((f + T : Nat) : Int) - (f : Int) = (T : Int) by omega]
    · rw [rangeL_ups, List.length_map, ups_len]; unfold line; omega
    · rw [rangeL0]
      exact compL_all (fun (k : Nat) => PyData.int (k : Int)) _ _ fun j hj => ⟨_, rfl, rfl⟩
  refine sp_p (env1 := fE P f ls T (tabsD P f ls T 0) .no .no .no .no .no) ?_ ?_
  · have hy : xLst (xCons (xAs (xComp [5] (iR1 (xCons (xOp fAdd (xOp fSub (xVar 3) (xVar 2)) (xC (.int 1))) xNil)) (gNm 5) tYesF (xC (.int 0)))) xNil) [.sh (dI P), .sh (dN ls), .sh (.int (f : Int)), .sh (.int ((f + T : Nat) : Int)), .no, .no, .no, .no, .no, .no] = pure (tabsD P f ls T 0) := by
      unfold xLst
      rw [cons_p (xAs_p hz) nil_p, pb]
      rfl
    exact (own_p hy).trans rfl
  refine sp_p (for_p (iLst_p rfl) e1) ?_
  exact ⟨_, rfl⟩
/-! the way back through the tables -/
theorem fEq_oD (x y : Option Int) : fEq (oD x) (oD y) = some (.bool (decide (x = y))) := by
  cases x with
  | none => cases y <;> rfl
  | some a =>
    cases y with
    | none => rfl
    | some b =>
      show fEq (.int a) (.int b) = _
      rw [fEq_int]
      by_cases h : a = b
      · subst h; rw [decide_eq_true rfl, decide_eq_true rfl]
      · rw [decide_eq_false h, decide_eq_false (by simpa using h)]
/-- starts for the jobs from k on, none before e -/
inductive Rw (P : List Int) (f : Nat) (ls : List Nat) (T : Nat) : Nat → Nat → List Nat → Int → Prop
  | nil {e : Nat} : e ≤ T → Rw P f ls T ls.length e [] 0
  | cons {k e a : Nat} {E : List Nat} {c : Int} : k < ls.length → e ≤ a → Rw P f ls T (k + 1) (a + ls.getD k 0) E c → Rw P f ls T k e (a :: E) (sumW P (f + a) (ls.getD k 0) + c)
theorem Rw.weak {P : List Int} {f : Nat} {ls : List Nat} {T k e e2 : Nat} {E : List Nat} {c : Int} (h : Rw P f ls T k e E c) (he : e2 ≤ e) : Rw P f ls T k e2 E c := by
  cases h with
  | nil q => exact .nil (by omega)
  | cons q1 q2 q3 => exact .cons q1 (by omega) q3
theorem Rw.len {P : List Int} {f : Nat} {ls : List Nat} {T : Nat} : ∀ {k e : Nat} {E : List Nat} {c : Int}, Rw P f ls T k e E c → k + E.length = ls.length
  | _, _, _, _, .nil _ => rfl
  | _, _, _, _, .cons _ _ h => by have := Rw.len h; rw [List.length_cons]; omega
end
end VE

namespace VE
open PySem
theorem while_num {t : TF} {body : SF} (I : Nat → En → Prop) (J : En → Prop) (step : ∀ k env, I k env → (t env = pure false ∧ J env) ∨ (t env = pure true ∧ ∃ fl env2 k2, body env = pure (fl, env2) ∧ (fl = .nx ∨ fl = .ct) ∧ k2 < k ∧ I k2 env2)) :
    ∀ (n k : Nat) (env : En), I k env → k < n → ∃ env', sWhile.go t body n env = pure (.nx, env') ∧ J env'
  | 0, _, _, _, h => absurd h (Nat.not_lt_zero _)
  | n + 1, k, env, hI, hm => by
    rcases step k env hI with ⟨h1, hJ⟩ | ⟨h1, fl, env2, k2, h2, hfl, hlt, hI2⟩
    · refine ⟨env, ?_, hJ⟩
      rw [sWhile.go, h1, pb, if_neg Bool.false_ne_true]
    · obtain ⟨env', h3, hJ⟩ := while_num I J step n k2 env2 hI2 (by omega)
      refine ⟨env', ?_, hJ⟩
      rw [sWhile.go, h1, pb, if_pos rfl, h2, pb]
      rcases hfl with rfl | rfl <;> exact h3
theorem if_sp {t : TF} {f g : SF} {env : En} {fl : Fl} (h : t env = pure true) (k : ∃ e, f env = pure (fl, e)) : ∃ e, sIf t f g env = pure (fl, e) := by
  obtain ⟨e, k⟩ := k
  exact ⟨e, (if_then h).trans k⟩
theorem dN_dI (ls : List Nat) : dN ls = dI (ls.map fun (n : Nat) => (n : Int)) := by
  unfold dN dI
  rw [List.map_map]
  rfl
theorem sum_cast (ls : List Nat) : (ls.map fun (n : Nat) => (n : Int)).sum = (ls.sum : Int) := by
  induction ls with
  | nil => rfl
  | cons a r ih => rw [List.map_cons, List.sum_cons, List.sum_cons, ih]; omega
theorem fSum_dN (ls : List Nat) : fSum [dN ls] = some (.int (ls.sum : Int)) := by
  rw [dN_dI, ← sum_cast]
  exact fSum_ints _
theorem dN_ix {ls : List Nat} {k : Nat} (h : k < ls.length) : fIx (dN ls) (.int (k : Int)) = some (.int ((ls.getD k 0 : Nat) : Int)) := atI_nat (by rw [List.getElem?_map, List.getElem?_eq_getElem h, List.getD_eq_getElem?_getD, List.getElem?_eq_getElem h]; rfl)
theorem len_dN (ls : List Nat) : fLen [dN ls] = some (.int (ls.length : Int)) := by
  show some (PyData.int ((ls.map fun (n : Nat) => PyData.int (n : Int)).length : Int)) = _
  rw [List.length_map]
theorem fSub_nat {a b : Nat} (h : b ≤ a) : fSub (.int (a : Int)) (.int (b : Int)) = some (.int ((a - b : Nat) : Int)) := by
  show some (PyData.int _) = _
  rw [show (a : Int) - b = ((a - b : Nat) : Int) by omega]
def nS (f : Nat) (E : List Nat) : List D := E.map fun (a : Nat) => PyData.int ((f + a : Nat) : Int)
section
variable (P : List Int) (f : Nat) (ls : List Nat) (T : Nat)
theorem Rw.le {P : List Int} {f : Nat} {ls : List Nat} {T : Nat} : ∀ {k e : Nat} {E : List Nat} {c : Int}, Rw P f ls T k e E c → e ≤ T
  | _, _, _, _, .nil h => h
  | _, _, _, _, .cons _ q h => by have := Rw.le h; omega
def backB (n : Nat) : SF := (sSeq (sWhile n (xAnd (xTest (xOp fGt (xVar 5) (xC (.int 0)))) (xTest (xOp fEq (xOp fIx (xOp fIx (xVar 4) (xOp fAdd (xVar 8) (xC (.int 1)))) (xOp fSub (xVar 5) (xC (.int 1)))) (xOp fIx (xOp fIx (xVar 4) (xOp fAdd (xVar 8) (xC (.int 1)))) (xVar 5))))) (sAsg (xOp fSub (xVar 5) (xC (.int 1))) (gNm 5)))
    (sSeq (sAsg (xOp fSub (xVar 5) (xOp fIx (xVar 1) (xVar 8))) (gNm 5))
    (sAsg (xOp fAdd (xAs (xLst (xCons (xOp fAdd (xVar 2) (xVar 5)) xNil))) (xVar 7)) (gNm 7))))
abbrev rE (P : List Int) (f : Nat) (ls : List Nat) (T : Nat) (z5 z6 z7 z8 : Slot) : En := [.sh (dI P), .sh (dN ls), .sh (.int (f : Int)), .sh (.int ((f + T : Nat) : Int)), .sh (.list (tabsD P f ls T ls.length)), z5, z6, z7, z8]
theorem back_run (n k e : Nat) (E : List Nat) (v c : Int) (z6 : Slot) (hn : T < n) (hk : k < ls.length) (hlen : ls.length ≤ 1000) (hv : tb P f ls (k + 1) e = some v) (hR : Rw P f ls T (k + 1) e E c) :
    ∃ (a : Nat) (v' : Int), backB n (rE P f ls T (.sh (.int (e : Int))) z6 (.sh (.list (nS f E))) (.sh (.int (k : Int)))) = pure (.nx, rE P f ls T (.sh (.int (a : Int))) z6 (.sh (.list (nS f (a :: E)))) (.sh (.int (k : Int)))) ∧
      tb P f ls k a = some v' ∧ v = v' + sumW P (f + a) (ls.getD k 0) ∧ Rw P f ls T k a (a :: E) (sumW P (f + a) (ls.getD k 0) + c) := by
  have heT := hR.le
  have hE := hR.len
  obtain ⟨env', e1, e2, he2, rfl, hv2, hnew⟩ := while_num (t := xAnd (xTest (xOp fGt (xVar 5) (xC (.int 0)))) (xTest (xOp fEq (xOp fIx (xOp fIx (xVar 4) (xOp fAdd (xVar 8) (xC (.int 1)))) (xOp fSub (xVar 5) (xC (.int 1)))) (xOp fIx (xOp fIx (xVar 4) (xOp fAdd (xVar 8) (xC (.int 1)))) (xVar 5))))) (body := sAsg (xOp fSub (xVar 5) (xC (.int 1))) (gNm 5))
    (fun j env => j ≤ e ∧ env = rE P f ls T (.sh (.int (j : Int))) z6 (.sh (.list (nS f E))) (.sh (.int (k : Int))) ∧ tb P f ls (k + 1) j = some v)
    (fun env => ∃ j, j ≤ e ∧ env = rE P f ls T (.sh (.int (j : Int))) z6 (.sh (.list (nS f E))) (.sh (.int (k : Int))) ∧ tb P f ls (k + 1) j = some v ∧ (1 ≤ j → tb P f ls (k + 1) (j - 1) ≠ some v)) (fun j env ⟨hj, hz, hvj⟩ => by
      subst hz
      have t1 : (xTest (xOp fGt (xVar 5) (xC (.int 0)))) (rE P f ls T (.sh (.int (j : Int))) z6 (.sh (.list (nS f E))) (.sh (.int (k : Int)))) = pure (decide ((0 : Int) < j)) := test_p (op_p rfl rfl rfl)
      by_cases h0 : j = 0
      · subst h0
        exact .inl ⟨and_f t1, 0, hj, rfl, hvj, fun h => by omega⟩
      · rw [decide_eq_true (by omega)] at t1
        have row : (xOp fIx (xVar 4) (xOp fAdd (xVar 8) (xC (.int 1)))) (rE P f ls T (.sh (.int (j : Int))) z6 (.sh (.list (nS f E))) (.sh (.int (k : Int)))) = pure (rowD P f ls (k + 1) (T + 1)) := op_p rfl (op_p (a := .int (k : Int)) (b := .int 1) (c := .int ((k + 1 : Nat) : Int)) rfl rfl rfl) (tabs_ix (by omega))
        have t2 : (xTest (xOp fEq (xOp fIx (xOp fIx (xVar 4) (xOp fAdd (xVar 8) (xC (.int 1)))) (xOp fSub (xVar 5) (xC (.int 1)))) (xOp fIx (xOp fIx (xVar 4) (xOp fAdd (xVar 8) (xC (.int 1)))) (xVar 5)))) (rE P f ls T (.sh (.int (j : Int))) z6 (.sh (.list (nS f E))) (.sh (.int (k : Int)))) = pure (decide (tb P f ls (k + 1) (j - 1) = tb P f ls (k + 1) j)) :=
          test_p (op_p (op_p row (op_p (a := .int (j : Int)) (b := .int ((1 : Nat) : Int)) rfl rfl (fSub_nat (by omega))) (row_ix (by omega))) (op_p row rfl (row_ix (by omega))) (fEq_oD _ _))
        by_cases hq : tb P f ls (k + 1) (j - 1) = tb P f ls (k + 1) j
        · rw [decide_eq_true hq] at t2
          refine .inr ⟨and_t t1 t2, .nx, _, j - 1, asg_p (op_p (a := .int (j : Int)) (b := .int ((1 : Nat) : Int)) rfl rfl (fSub_nat (by omega))) rfl, .inl rfl, by omega, by omega, rfl, hq.trans hvj⟩
        · rw [decide_eq_false hq] at t2
          exact .inl ⟨and_t t1 t2, j, hj, rfl, hvj, fun _ h => hq (h.trans hvj.symm)⟩) n e _ ⟨Nat.le_refl _, rfl, hv⟩ (by omega)
  obtain ⟨hle, v', h1, h2⟩ := tb_new P f ls hv2 hnew
  refine ⟨e2 - ls.getD k 0, v', ?_, h1, h2, .cons hk (Nat.le_refl _) (by rw [Nat.sub_add_cancel hle]; exact hR.weak he2)⟩
  unfold backB
  refine (seq_pure (env1 := rE P f ls T (.sh (.int (e2 : Int))) z6 (.sh (.list (nS f E))) (.sh (.int (k : Int)))) e1).trans ?_
  refine (seq_pure (env1 := rE P f ls T (.sh (.int ((e2 - ls.getD k 0 : Nat) : Int))) z6 (.sh (.list (nS f E))) (.sh (.int (k : Int)))) (asg_p (op_p rfl (op_p rfl rfl (dN_ix hk)) (fSub_nat hle)) rfl)).trans ?_
  refine asg_p (op_p (xAs_p (x := [.int ((f + (e2 - ls.getD k 0) : Nat) : Int)]) rfl) rfl ?_) rfl
  show (if [PyData.int _].length + (nS f E).length ≤ line then some (PyData.list ([PyData.int _] ++ nS f E)) else none) = _
  rw [if_pos (by unfold nS; rw [List.length_map]; show 1 + E.length ≤ line; unfold line; omega)]
  rfl
variable (h0 : 0 < P.length) (h1 : P.length ≤ 1000000) (hT : T ≤ 100000) (hl : ∀ l ∈ ls, l ≤ 100000) (hlen : ls.length ≤ 1000)
theorem iR3_p {f : AF} {env : En} {i j : Int} (h : f env = pure [.int i, .int j, .int (-1)]) (hs : small62 i = true) (hs2 : small62 j = true) : iR3 f env = pure (downL i j) := by
  unfold iR3
  rw [h, pb]
  show (if (small62 i && small62 j && decide ((-1 : Int) = -1)) = true then _ else _) = _
  rw [hs, hs2]
  rfl
include h0 h1 hT hl hlen in
theorem row_run (n : Nat) (hn : T < n) (hS : ls.sum ≤ T) : ∃ E c, in_a_rowF n [dI P, dN ls, .int (f : Int), .int ((f + T : Nat) : Int)] = some (.tuple [.str (Str.ofString "starts"), .list (nS f E), .int c, .list (tabsD P f ls T ls.length)]) ∧ tb P f ls ls.length T = some c ∧ Rw P f ls T 0 0 E c := by
  obtain ⟨c, hc⟩ := (tb_some P f ls ls.length (Nat.le_refl _) T).mpr (by rw [List.take_length]; exact hS)
  obtain ⟨env', e1, e, E, v, cc, z8, rfl, hv, hR, hsum⟩ := for_inv (g := gNm 8) (body := backB n) (fun i env => ∃ (e : Nat) (E : List Nat) (v cc : Int) (z8 : Slot), env = rE P f ls T (.sh (.int (e : Int))) (.sh (.int c)) (.sh (.list (nS f E))) z8 ∧ tb P f ls (ls.length - i) e = some v ∧ Rw P f ls T (ls.length - i) e E cc ∧ v + cc = c)
    (downL ((ls.length : Int) - 1) (-1)) 0 (rE P f ls T (.sh (.int (T : Int))) (.sh (.int c)) (.sh (.list (nS f []))) .no) ⟨T, [], c, 0, .no, rfl, hc, .nil (Nat.le_refl _), by omega⟩ (fun i x env hi ⟨e, E, v, cc, z8, hz, hv, hR, hsum⟩ => by
      subst hz
      rw [Nat.zero_add] at hv hR ⊢
      unfold downL at hi
      rw [List.getElem?_map] at hi
      obtain ⟨i', hi1, rfl⟩ := Option.map_eq_some_iff.mp hi
      have hil : i < ls.length := by
        have := (List.getElem?_eq_some_iff.mp hi1).1
        rw [List.length_range] at this
        omega
      rw [List.getElem?_range (by omega)] at hi1
      cases hi1
      rw [show ((ls.length : Int) - 1 + (i : Int) * (-1)) = ((ls.length - (i + 1) : Nat) : Int) by omega]
      rw [show ls.length - i = ls.length - (i + 1) + 1 by omega] at hv hR
      obtain ⟨a, v', q1, q2, q3, q4⟩ := back_run P f ls T n (ls.length - (i + 1)) e E v cc (.sh (.int c)) hn (by omega) hlen hv hR
      exact ⟨_, .nx, _, rfl, q1, .inl rfl, a, a :: E, v', _, _, rfl, q2, q4, by omega⟩)
  have hdl : (downL ((ls.length : Int) - 1) (-1)).length = ls.length := by unfold downL; rw [List.length_map, List.length_range]; omega
  rw [hdl, Nat.zero_add, Nat.sub_self] at hv hR
  have hv0 : v = 0 := by have hv : some (0 : Int) = some v := hv; exact (Option.some.inj hv).symm
  have hcc : cc = c := by omega
  subst hcc
  refine ⟨E, cc, ?_, hc, hR.weak (Nat.zero_le _)⟩
  refine runDef_ex rfl ?_
  unfold in_a_rowB
  have hsum : ∀ z, (xTest (xOp fGt (xOp fAdd (xVar 2) (xCall fSum (xCons (xVar 1) xNil))) (xVar 3))) [.sh (dI P), .sh (dN ls), .sh (.int (f : Int)), .sh (.int ((f + T : Nat) : Int)), z, .no, .no, .no, .no] = pure (decide (((f + T : Nat) : Int) < (f : Int) + (ls.sum : Int))) := fun z => test_p (op_p (a := .int ((f : Int) + (ls.sum : Int))) (op_p rfl (call_p (cons_p rfl nil_p) (fSum_dN ls)) rfl) rfl rfl)
  refine sp_p (if_skip ((hsum .no).trans (by rw [decide_eq_false (by omega)]))) ?_
  refine sp_p (env1 := [.sh (dI P), .sh (dN ls), .sh (.int (f : Int)), .sh (.int ((f + T : Nat) : Int)), .sh (.list (tabsD P f ls T ls.length)), .no, .no, .no, .no]) (asg_p (call_p (cons_p rfl (cons_p rfl (cons_p rfl (cons_p rfl nil_p)))) (tables_run P f ls T h0 h1 hT hl hlen)) rfl) ?_
  refine sp_p (env1 := rE P f ls T (.sh (.int (T : Int))) .no .no .no) (asg_p (op_p rfl rfl (show _ = some (PyData.int (T : Int)) from ?_)) rfl) ?_
  · show some (PyData.int _) = _
    rw [show ((f + T : Nat) : Int) - (f : Int) = (T : Int) by omega]
  refine sp_p (env1 := rE P f ls T (.sh (.int (T : Int))) (.sh (.int cc)) .no .no) (asg_p (op_p (op_p rfl rfl (tabs_last P f ls T ls.length)) rfl ((row_ix (Nat.lt_succ_self T)).trans (by rw [hc]; rfl))) rfl) ?_
  refine sp_p (env1 := rE P f ls T (.sh (.int (T : Int))) (.sh (.int cc)) (.sh (.list (nS f []))) .no) rfl ?_
  refine sp_p (for_p (iR3_p (cons_p (op_p (call_p (cons_p rfl nil_p) (len_dN ls)) rfl rfl) (cons_p rfl (cons_p rfl nil_p))) ?_ (by decide)) e1) ?_
  · unfold small62
    rw [Bool.and_eq_true, decide_eq_true_eq, decide_eq_true_eq]
    omega
  · exact sp_ret rfl
theorem row_long (n : Nat) (hS : T < ls.sum) : in_a_rowF n [dI P, dN ls, .int (f : Int), .int ((f + T : Nat) : Int)] = some (.tuple [.str (Str.ofString "long"), .int ((f : Int) + ls.sum - ((f + T : Nat) : Int))]) := by
  refine runDef_ex rfl ?_
  unfold in_a_rowB
  have hs : (xOp fAdd (xVar 2) (xCall fSum (xCons (xVar 1) xNil))) [.sh (dI P), .sh (dN ls), .sh (.int (f : Int)), .sh (.int ((f + T : Nat) : Int)), .no, .no, .no, .no, .no] = pure (.int ((f : Int) + (ls.sum : Int))) := op_p rfl (call_p (cons_p rfl nil_p) (fSum_dN ls)) rfl
  refine sp_rt (if_sp (test_p (op_p hs rfl (show _ = some (PyData.bool true) from ?_))) ?_)
  rotate_left
  · exact sp_ret (tup_p (cons_p rfl (cons_p (op_p hs rfl rfl) nil_p)) (show 2 ≤ line by decide))
  · show some (PyData.bool (decide _)) = _
    rw [decide_eq_true (by omega)]
end
end VE

namespace VE
open PySem
theorem fNe_bool (a b : Bool) : fNe (.bool a) (.bool b) = some (.bool (a != b)) := by cases a <;> cases b <;> rfl
theorem enum_iter {f : EF} {env : En} {xs : List D} (h : f env = pure (.list xs)) : iEnumV (xCons f xNil) env = pure (enumD 0 xs) := by
  unfold iEnumV
  rw [cons_p h nil_p, pb]
theorem fMinA_ints {B : List Int} (h : B ≠ []) : ∃ m, m ∈ B ∧ fMinA [.list (B.map .int)] = some (.int m) := by
  cases B with
  | nil => exact absurd rfl h
  | cons a r =>
    have key : ∀ (r : List Int) (a : Int), minI a r ∈ a :: r := by
      intro r
      induction r with
      | nil => intro a; exact List.mem_cons_self
      | cons b r ih =>
        intro a
        have e : minI a (b :: r) = minI (if b < a then b else a) r := rfl
        rw [e]
        have := ih (if b < a then b else a)
        split at this
        · rename_i h; rw [if_pos h]; exact List.mem_cons_of_mem _ this
        · rename_i h; rw [if_neg h]
          rcases List.mem_cons.mp this with q | q
          · rw [q]; exact List.mem_cons_self
          · exact List.mem_cons_of_mem _ (List.mem_cons_of_mem _ q)
    refine ⟨minI a r, key r a, ?_⟩
    have e : fMin [.list ((a :: r).map .int)] = some (.int (minI a r)) := by
      show (asInts ((a :: r).map .int)).bind _ = _
      rw [asInts_map]
      rfl
    unfold fMinA
    rw [e]
theorem slice_dN {g h : EF} {env : En} {ls : List Nat} {i : Nat} (hf : g env = pure (dN ls)) (hh : h env = pure (.int (i : Int))) (hi : i ≤ ls.length) : xAs (xSlice g oNo (oSome h)) env = pure (dN (ls.take i)) := by
  rw [dN_dI] at hf
  have := slice_p hf hh (by rw [List.length_map]; exact hi)
  rw [xAs_p this, dN_dI]
  show pure (dI _) = _
  rw [List.map_take]
section
variable (P : List Int) (f : Nat) (ls : List Nat) (T : Nat) (h0 : 0 < P.length) (h1 : P.length ≤ 1000000) (hT : T ≤ 100000) (hl : ∀ l ∈ ls, l ≤ 100000) (hlen : ls.length ≤ 1000) (c : Int)
def gapB : SF := (sSeq (sIf (xTest (xOp fNe (xUn fIsN (xVar 8)) (xOp fLt (xVar 7) (xCall fSum (xCons (xAs (xSlice (xVar 1) oNo (oSome (xVar 5)))) xNil))))) (sRet (xTup (xCons (xC (.str (Str.ofString "none"))) (xCons (xVar 5) (xCons (xVar 7) xNil))))) sPass)
    (sIf (xTest (xUn fNotN (xVar 8))) (sSeq (sOwn 9 (xIfL (xTest (xOp fEq (xVar 5) (xC (.int 0)))) (xLst (xCons (xC (.int 0)) xNil)) (xLst xNil)))
    (sSeq (sIf (xTest (xOp fGt (xVar 7) (xCall fSum (xCons (xAs (xSlice (xVar 1) oNo (oSome (xVar 5)))) xNil)))) (sApp 9 (xOp fIx (xVar 6) (xOp fSub (xVar 7) (xC (.int 1))))) sPass)
    (sSeq (sIf (xTest (xOp fGt (xVar 5) (xC (.int 0)))) (sSeq (sAsg (xOp fIx (xVar 1) (xOp fSub (xVar 5) (xC (.int 1)))) (gNm 10))
    (sApp 9 (xOp fAdd (xOp fIx (xOp fIx (xVar 4) (xOp fSub (xVar 5) (xC (.int 1)))) (xOp fSub (xVar 7) (xVar 10))) (xCall cost_fromF (xCons (xVar 0) (xCons (xOp fSub (xOp fAdd (xVar 2) (xVar 7)) (xVar 10)) (xCons (xVar 10) xNil))))))) sPass)
    (sIf (xTest (xOp fGt (xVar 8) (xMinO 9))) (sRet (xTup (xCons (xC (.str (Str.ofString "price"))) (xCons (xVar 5) (xCons (xVar 7) xNil))))) sPass)))) sPass))
abbrev qE (P : List Int) (f : Nat) (ls : List Nat) (T : Nat) (c : Int) (z5 z6 z7 z8 z9 z10 : Slot) : En := [.sh (dI P), .sh (dN ls), .sh (.int (f : Int)), .sh (.int c), .sh (.list (tabsD P f ls T ls.length)), z5, z6, z7, z8, z9, z10]
include h0 h1 hT hl hlen in
theorem gap_run (k g : Nat) (hk : k ≤ ls.length) (hg : g ≤ T) (z9 z10 : Slot) : ∃ z9' z10', gapB (qE P f ls T c (.sh (.int (k : Int))) (.sh (rowD P f ls k (T + 1))) (.sh (.int (g : Int))) (.sh (oD (tb P f ls k g))) z9 z10) = pure (.nx, qE P f ls T c (.sh (.int (k : Int))) (.sh (rowD P f ls k (T + 1))) (.sh (.int (g : Int))) (.sh (oD (tb P f ls k g))) z9' z10') := by
  have hsome := tb_some P f ls k hk g
  obtain ⟨S, hS⟩ : ∃ S, S = (ls.take k).sum := ⟨_, rfl⟩
  rw [← hS] at hsome
  have hsum : ∀ (z8 z9 z10 : Slot), (xCall fSum (xCons (xAs (xSlice (xVar 1) oNo (oSome (xVar 5)))) xNil)) (qE P f ls T c (.sh (.int (k : Int))) (.sh (rowD P f ls k (T + 1))) (.sh (.int (g : Int))) z8 z9 z10) = pure (.int (S : Int)) := fun z8 z9 z10 => by
    rw [hS]
    exact call_p (cons_p (slice_dN rfl rfl hk) nil_p) (fSum_dN _)
  have t1 : ∀ x : Option Int, tb P f ls k g = x → (xTest (xOp fNe (xUn fIsN (xVar 8)) (xOp fLt (xVar 7) (xCall fSum (xCons (xAs (xSlice (xVar 1) oNo (oSome (xVar 5)))) xNil))))) (qE P f ls T c (.sh (.int (k : Int))) (.sh (rowD P f ls k (T + 1))) (.sh (.int (g : Int))) (.sh (oD x)) z9 z10) = pure false := fun x hx => by
    refine test_p (op_p (a := .bool (isNone (oD x))) (b := .bool (decide ((g : Int) < (S : Int)))) (un_p rfl rfl) (op_p rfl (hsum _ _ _) rfl) ?_)
    rw [fNe_bool]
    cases x with
    | none =>
      have : ¬ S ≤ g := fun h => by obtain ⟨b, hb⟩ := hsome.mpr h; rw [hx] at hb; cases hb
      rw [decide_eq_true (by omega)]
      rfl
    | some a =>
      have := hsome.mp ⟨a, hx⟩
      rw [decide_eq_false (by omega)]
      rfl
  unfold gapB
  cases hx : tb P f ls k g with
  | none =>
    refine ⟨z9, z10, (seq_pure (if_skip (t1 _ hx))).trans ?_⟩
    have tn : (xTest (xUn fNotN (xVar 8))) (qE P f ls T c (.sh (.int (k : Int))) (.sh (rowD P f ls k (T + 1))) (.sh (.int (g : Int))) (.sh .none) z9 z10) = pure false := test_p (un_p rfl rfl)
    exact (if_else tn).trans rfl
  | some p =>
    have hSg := hsome.mp ⟨p, hx⟩
    have s1 : (xIfL (xTest (xOp fEq (xVar 5) (xC (.int 0)))) (xLst (xCons (xC (.int 0)) xNil)) (xLst xNil)) (qE P f ls T c (.sh (.int (k : Int))) (.sh (rowD P f ls k (T + 1))) (.sh (.int (g : Int))) (.sh (.int p)) z9 z10) = pure ((if k = 0 then [0] else []).map .int) := by
      refine ifL_p (test_p (op_p rfl rfl (fEq_int _ _))) (fun h => ?_) fun h => ?_
      · have h := of_decide_eq_true h
        rw [if_pos (by omega)]
        rfl
      · have h := of_decide_eq_false h
        rw [if_neg (by omega)]
        rfl
    obtain ⟨B1, hB1⟩ : ∃ B : List Int, B = if k = 0 then [0] else [] := ⟨_, rfl⟩
    rw [← hB1] at s1
    -- the one before
    obtain ⟨B2, s2, hB2, hl2⟩ : ∃ B2 : List Int, sIf (xTest (xOp fGt (xVar 7) (xCall fSum (xCons (xAs (xSlice (xVar 1) oNo (oSome (xVar 5)))) xNil)))) (sApp 9 (xOp fIx (xVar 6) (xOp fSub (xVar 7) (xC (.int 1))))) sPass (qE P f ls T c (.sh (.int (k : Int))) (.sh (rowD P f ls k (T + 1))) (.sh (.int (g : Int))) (.sh (.int p)) (.ow false (B1.map .int)) z10) =
        pure (.nx, qE P f ls T c (.sh (.int (k : Int))) (.sh (rowD P f ls k (T + 1))) (.sh (.int (g : Int))) (.sh (.int p)) (.ow false ((B1 ++ B2).map .int)) z10) ∧ (∀ b ∈ B2, p ≤ b) ∧ B2.length ≤ 1 := by
      have e0 : (xTest (xOp fGt (xVar 7) (xCall fSum (xCons (xAs (xSlice (xVar 1) oNo (oSome (xVar 5)))) xNil)))) (qE P f ls T c (.sh (.int (k : Int))) (.sh (rowD P f ls k (T + 1))) (.sh (.int (g : Int))) (.sh (.int p)) (.ow false (B1.map .int)) z10) = pure (decide ((S : Int) < (g : Int))) := test_p (op_p rfl (hsum _ _ _) rfl)
      by_cases hlt : S < g
      · obtain ⟨a, ha⟩ := (tb_some P f ls k hk (g - 1)).mpr (by rw [← hS]; omega)
        obtain ⟨b, hb1, hb2⟩ := tb_up P f ls ha
        rw [show g - 1 + 1 = g by omega, hx] at hb1
        cases hb1
        rw [decide_eq_true (by omega)] at e0
        refine ⟨[a], (if_then e0).trans ((app_p (i := 9) (x := .int a) (xs := B1.map .int) (op_p rfl (op_p (a := .int (g : Int)) (b := .int ((1 : Nat) : Int)) rfl rfl (fSub_nat (by omega))) ((row_ix (by omega)).trans (by rw [ha]; rfl))) rfl ?_).trans ?_), fun y hy => by rw [List.mem_singleton] at hy; omega, Nat.le_refl _⟩
        · rw [List.length_map, hB1]; unfold line; split <;> simp
        · rw [List.map_append]; rfl
      · rw [decide_eq_false (by omega)] at e0
        refine ⟨[], (if_else e0).trans ?_, fun y hy => by simp at hy, Nat.zero_le _⟩
        rw [List.append_nil]; rfl
    -- the run that ends here
    obtain ⟨B3, z10', s3, hB3, hne, hl3⟩ : ∃ (B3 : List Int) (z10' : Slot), (sIf (xTest (xOp fGt (xVar 5) (xC (.int 0)))) (sSeq (sAsg (xOp fIx (xVar 1) (xOp fSub (xVar 5) (xC (.int 1)))) (gNm 10))
    (sApp 9 (xOp fAdd (xOp fIx (xOp fIx (xVar 4) (xOp fSub (xVar 5) (xC (.int 1)))) (xOp fSub (xVar 7) (xVar 10))) (xCall cost_fromF (xCons (xVar 0) (xCons (xOp fSub (xOp fAdd (xVar 2) (xVar 7)) (xVar 10)) (xCons (xVar 10) xNil))))))) sPass) (qE P f ls T c (.sh (.int (k : Int))) (.sh (rowD P f ls k (T + 1))) (.sh (.int (g : Int))) (.sh (.int p)) (.ow false ((B1 ++ B2).map .int)) z10) =
        pure (.nx, qE P f ls T c (.sh (.int (k : Int))) (.sh (rowD P f ls k (T + 1))) (.sh (.int (g : Int))) (.sh (.int p)) (.ow false ((B1 ++ B2 ++ B3).map .int)) z10') ∧ (∀ b ∈ B3, p ≤ b) ∧ (k ≠ 0 → B3 ≠ []) ∧ B3.length ≤ 1 := by
      have e0 : (xTest (xOp fGt (xVar 5) (xC (.int 0)))) (qE P f ls T c (.sh (.int (k : Int))) (.sh (rowD P f ls k (T + 1))) (.sh (.int (g : Int))) (.sh (.int p)) (.ow false ((B1 ++ B2).map .int)) z10) = pure (decide ((0 : Int) < (k : Int))) := test_p (op_p rfl rfl rfl)
      by_cases hk0 : k = 0
      · rw [decide_eq_false (by omega)] at e0
        refine ⟨[], z10, (if_else e0).trans ?_, fun y hy => by simp at hy, fun h => absurd hk0 h, Nat.zero_le _⟩
        rw [List.append_nil]; rfl
      · rw [decide_eq_true (by omega)] at e0
        have hts := take_sum_succ ls (k - 1) (by omega)
        rw [show k - 1 + 1 = k by omega] at hts
        have hlk := ls_le ls hl (k - 1)
        obtain ⟨l, hle⟩ : ∃ l, l = ls.getD (k - 1) 0 := ⟨_, rfl⟩
        have hix := dN_ix (ls := ls) (k := k - 1) (by omega)
        have htb : ∀ a, tb P f ls (k - 1) (g - l) = some a → ∃ b, tb P f ls k g = some b ∧ b ≤ a + sumW P (f + (g - l)) l := fun a ha => by
          have := tb_job P f ls ha
          rw [← hle, show k - 1 + 1 = k by omega, show g - l + l = g by omega] at this
          exact this
        rw [← hle] at hix hlk hts
        obtain ⟨a, ha⟩ := (tb_some P f ls (k - 1) (by omega) (g - l)).mpr (by omega)
        obtain ⟨b, hb1, hb2⟩ := htb a ha
        rw [hx] at hb1
        cases hb1
        refine ⟨[a + sumW P (f + (g - l)) l], .sh (.int (l : Int)), (if_then e0).trans ?_, fun y hy => by rw [List.mem_singleton] at hy; omega, (fun _ h => nomatch h), Nat.le_refl _⟩
        have hsb : fSub (.int (k : Int)) (.int 1) = some (.int ((k - 1 : Nat) : Int)) := fSub_nat (a := k) (b := 1) (by omega)
        refine (seq_pure (env1 := qE P f ls T c (.sh (.int (k : Int))) (.sh (rowD P f ls k (T + 1))) (.sh (.int (g : Int))) (.sh (.int p)) (.ow false ((B1 ++ B2).map .int)) (.sh (.int (l : Int)))) (asg_p (op_p rfl (op_p rfl rfl hsb) hix) rfl)).trans ?_
        refine (app_p (i := 9) (x := .int (a + sumW P (f + (g - l)) l)) (xs := (B1 ++ B2).map .int) (op_p (a := .int a) (b := .int (sumW P (f + (g - l)) l)) (op_p (op_p rfl (op_p rfl rfl hsb) (tabs_ix (show k - 1 ≤ ls.length by omega))) (op_p rfl rfl (fSub_nat (show l ≤ g by omega))) ((row_ix (by omega)).trans (by rw [ha]; rfl))) (call_p (cons_p rfl (cons_p (op_p (a := .int ((f : Int) + g)) rfl rfl rfl) (cons_p rfl nil_p))) ?_) rfl) rfl ?_).trans ?_
        · have := costf_run P h0 h1 (f + (g - l)) l (by omega)
          rw [show ((f + (g - l) : Nat) : Int) = (f : Int) + g - l by omega] at this
          exact this
        · rw [List.length_map, List.length_append, hB1]
          have : (if k = 0 then [(0 : Int)] else []).length ≤ 1 := by split <;> simp
          unfold line; omega
        · rw [List.map_append (l₁ := B1 ++ B2)]; rfl
    have hB : ∀ b ∈ B1 ++ B2 ++ B3, p ≤ b := fun b hb => by
      rw [List.mem_append, List.mem_append] at hb
      rcases hb with (hb | hb) | hb
      · rw [hB1] at hb
        split at hb
        · rename_i hk0
          subst hk0
          have hx : some (0 : Int) = some p := hx
          have := Option.some.inj hx
          rw [List.mem_singleton] at hb
          omega
        · simp at hb
      · exact hB2 b hb
      · exact hB3 b hb
    have hBn : B1 ++ B2 ++ B3 ≠ [] := by
      by_cases hk0 : k = 0
      · rw [hB1, if_pos hk0]; exact fun h => nomatch h
      · have := hne hk0
        intro h
        rw [List.append_eq_nil_iff] at h
        exact this h.2
    obtain ⟨mm, hm1, hm2⟩ := fMinA_ints hBn
    have tn : (xTest (xUn fNotN (xVar 8))) (qE P f ls T c (.sh (.int (k : Int))) (.sh (rowD P f ls k (T + 1))) (.sh (.int (g : Int))) (.sh (.int p)) z9 z10) = pure true := test_p (un_p rfl rfl)
    refine ⟨.ow false ((B1 ++ B2 ++ B3).map .int), z10', (seq_pure (if_skip (t1 _ hx))).trans ((if_then tn).trans ?_)⟩
    refine (seq_pure (own_p s1)).trans ((seq_pure s2).trans ((seq_pure s3).trans ?_))
    have hmo : (xMinO 9) (qE P f ls T c (.sh (.int (k : Int))) (.sh (rowD P f ls k (T + 1))) (.sh (.int (g : Int))) (.sh (.int p)) (.ow false ((B1 ++ B2 ++ B3).map .int)) z10') = pure (.int mm) := by
      show lift (fMinA [.list ((B1 ++ B2 ++ B3).map .int)]) = _
      rw [hm2]
      rfl
    refine if_skip (test_p (op_p rfl hmo ?_))
    show some (PyData.bool (decide (mm < p))) = _
    rw [decide_eq_false (by have := hB mm hm1; omega)]
include h0 h1 hT hl hlen in
theorem tfault_run (hc : tb P f ls ls.length T = some c) : tables_faultF [dI P, dN ls, .int (f : Int), .int c, .list (tabsD P f ls T ls.length)] = some .none := by
  refine runDef_ex rfl ?_
  unfold tables_faultB
  obtain ⟨env', e1, z5, z6, z7, z8, z9, z10, rfl⟩ := for_inv (g := gTp 2 (gsCons (gNm 5) (gsCons (gNm 6) gsNil))) (body := sFor (iEnumV (xCons (xVar 6) xNil)) (gTp 2 (gsCons (gNm 7) (gsCons (gNm 8) gsNil))) gapB) (fun k env => ∃ z5 z6 z7 z8 z9 z10, env = qE P f ls T c z5 z6 z7 z8 z9 z10)
    (enumD 0 (tabsD P f ls T ls.length)) 0 (qE P f ls T c .no .no .no .no .no .no) ⟨.no, .no, .no, .no, .no, .no, rfl⟩ (fun k x env hk ⟨z5, z6, z7, z8, z9, z10, hz⟩ => by
      subst hz
      obtain ⟨y, hy, rfl⟩ := enum_get _ _ _ _ hk
      unfold tabsD at hy
      rw [List.getElem?_map] at hy
      obtain ⟨k', hk1, rfl⟩ := Option.map_eq_some_iff.mp hy
      have hkl : k < ls.length + 1 := by have := (List.getElem?_eq_some_iff.mp hk1).1; rwa [List.length_range] at this
      rw [List.getElem?_range hkl] at hk1
      cases hk1
      rw [Nat.zero_add]
      obtain ⟨env2, e2, z7', z8', z9', z10', rfl⟩ := for_inv (g := gTp 2 (gsCons (gNm 7) (gsCons (gNm 8) gsNil))) (body := gapB) (fun g env => ∃ z7 z8 z9 z10, env = qE P f ls T c (.sh (.int (k : Int))) (.sh (rowD P f ls k (T + 1))) z7 z8 z9 z10)
        (enumD 0 (rowL P f ls k (T + 1))) 0 (qE P f ls T c (.sh (.int (k : Int))) (.sh (rowD P f ls k (T + 1))) z7 z8 z9 z10) ⟨_, _, _, _, rfl⟩ (fun g x env hg ⟨z7, z8, z9, z10, hz⟩ => by
          subst hz
          obtain ⟨y, hy, rfl⟩ := enum_get _ _ _ _ hg
          unfold rowL at hy
          rw [List.getElem?_map] at hy
          obtain ⟨g', hg1, rfl⟩ := Option.map_eq_some_iff.mp hy
          have hgl : g < T + 1 := by have := (List.getElem?_eq_some_iff.mp hg1).1; rwa [List.length_range] at this
          rw [List.getElem?_range hgl] at hg1
          cases hg1
          rw [Nat.zero_add]
          obtain ⟨z9', z10', h⟩ := gap_run P f ls T h0 h1 hT hl hlen c k g (by omega) (by omega) z9 z10
          exact ⟨_, .nx, _, rfl, h, .inl rfl, _, _, _, _, rfl⟩)
      exact ⟨_, .nx, _, rfl, for_p (enum_iter rfl) e2, .inl rfl, _, _, _, _, _, _, rfl⟩)
  refine sp_p (for_p (enum_iter rfl) e1) ?_
  have hlast : (xOp fIx (xOp fIx (xVar 4) (xUn fNeg (xC (.int 1)))) (xUn fNeg (xC (.int 1)))) (qE P f ls T c z5 z6 z7 z8 z9 z10) = pure (.int c) := by
    refine op_p (op_p rfl rfl (tabs_last P f ls T ls.length)) rfl ?_
    unfold rowD
    rw [List.range_succ, List.map_append]
    refine (lastD _ _).trans (show some (oD (tb P f ls ls.length T)) = _ from ?_)
    rw [hc]
    rfl
  refine sp_ret (ife_p (test_p (op_p hlast rfl (show _ = some (PyData.bool true) from ?_))) rfl)
  show some (PyData.bool (decide (c ≤ c))) = _
  rw [decide_eq_true (Int.le_refl _)]
end
end VE

namespace VE
open PySem
abbrev sLong : D := .str (Str.ofString "long")
abbrev sStarts : D := .str (Str.ofString "starts")
theorem eq_sl : fEq sStarts sLong = some (.bool false) := sameO_eq (by decide +kernel)
theorem eq_ll : fEq sLong sLong = some (.bool true) := sameO_eq (by decide +kernel)
theorem eq_long (x : Int) : fEq (.tuple [sLong, .int x]) (.tuple [sLong, .int x]) = some (.bool true) := by
  unfold fEq
  have h1 : shp (.tuple [sLong, .int x]) = true := by
    unfold shp SeqAt.shaped
    simp [PyData.canLay0, PyData.canLayAll0, PyData.depth, PyData.depthAll]
    decide +kernel
  rw [h1]
  have h2 : PyData.eqv (.tuple [sLong, .int x]) (.tuple [sLong, .int x]) = true := by
    simp [PyData.eqv, PyData.eqvAll]
  rw [h2]
  rfl
def encS (f : Nat) (p : Nat × Nat) : D := .tuple [.int ((f + p.1 : Nat) : Int), .int (p.2 : Int)]
theorem zip_S (f : Nat) : ∀ (E ls : List Nat), zipD (nS f E) (ls.map fun (n : Nat) => PyData.int (n : Int)) = (E.zip ls).map (encS f)
  | [], _ => by cases ‹List Nat› <;> rfl
  | _ :: _, [] => rfl
  | a :: E, l :: ls => by
    show encS f (a, l) :: zipD (nS f E) _ = encS f (a, l) :: _
    rw [zip_S f E ls]
    rfl
theorem fAll_true (n : Nat) : fAll [.list (List.replicate n (PyData.bool true))] = some (.bool true) := by
  have e : List.replicate n (PyData.bool true) = (List.replicate n true).map PyData.bool := by rw [List.map_replicate]
  rw [e]
  show (asBools ((List.replicate n true).map .bool)).map _ = _
  rw [asBools_map]
  show some (PyData.bool ((List.replicate n true).all id)) = _
  have h : (List.replicate n true).all id = true := by simp
  rw [h]
section
variable (P : List Int) (f : Nat) (ls : List Nat) (T : Nat) (h0 : 0 < P.length) (h1 : P.length ≤ 1000000) (hT : T ≤ 100000) (hl : ∀ l ∈ ls, l ≤ 100000) (hlen : ls.length ≤ 1000) (c : Int)
theorem Rw.sum {P : List Int} {f : Nat} {ls : List Nat} {T : Nat} : ∀ {k e : Nat} {E : List Nat} {c : Int}, Rw P f ls T k e E c → ((E.zip (ls.drop k)).map fun p => sumW P (f + p.1) p.2).sum = c
  | _, _, _, _, .nil _ => rfl
  | k, _, _, _, .cons (a := a) (E := E) (c := c) hk _ h => by
    rw [List.drop_eq_getElem_cons hk, List.zip_cons_cons, List.map_cons, List.sum_cons, Rw.sum h, List.getD_eq_getElem?_getD, List.getElem?_eq_getElem hk]
    rfl
theorem Rw.uncons {P : List Int} {f : Nat} {ls : List Nat} {T k e a : Nat} {E : List Nat} {c : Int} (h : Rw P f ls T k e (a :: E) c) : k < ls.length ∧ e ≤ a ∧ ∃ c', Rw P f ls T (k + 1) (a + ls.getD k 0) E c' := by
  cases h with
  | cons q1 q2 q3 => exact ⟨q1, q2, _, q3⟩
include hlen in
theorem starts_sum {g : GF} {fe : EF} {env : En} (E : List Nat) (hR : Rw P f ls T 0 0 E c) (H : ∀ p ∈ E.zip ls, ∃ env1, g (encS f p) env = some env1 ∧ fe env1 = pure (.int (sumW P (f + p.1) p.2))) : ∃ xs : List Int, compL g tYesF fe env (zipD (nS f E) (ls.map fun (n : Nat) => PyData.int (n : Int))) = pure (xs.map .int) ∧ xs.sum = c := by
  refine ⟨(E.zip ls).map fun p => sumW P (f + p.1) p.2, ?_, ?_⟩
  · rw [zip_S, List.map_map]
    exact compL_all (encS f) _ _ H
  · have := hR.sum
    rwa [List.drop_zero] at this
include h0 h1 hT hl hlen in
theorem rfault_run (E : List Nat) (hS : ls.sum ≤ T) (hc : tb P f ls ls.length T = some c) (hR : Rw P f ls T 0 0 E c) : in_a_row_faultF [dI P, dN ls, .int (f : Int), .int ((f + T : Nat) : Int), .tuple [sStarts, .list (nS f E), .int c, .list (tabsD P f ls T ls.length)]] = some .none := by
  let tD : D := .tuple [sStarts, .list (nS f E), .int c, .list (tabsD P f ls T ls.length)]
  have hEl := hR.len
  rw [Nat.zero_add] at hEl
  refine runDef_ex rfl ?_
  unfold in_a_row_faultB
  have hsum : (xOp fSub (xOp fAdd (xVar 2) (xCall fSum (xCons (xVar 1) xNil))) (xVar 3)) [.sh (dI P), .sh (dN ls), .sh (.int (f : Int)), .sh (.int ((f + T : Nat) : Int)), .sh tD, .no, .no, .no, .no, .no, .no, .no, .no, .no, .no] = pure (.int ((ls.sum : Int) - T)) := op_p (a := .int ((f : Int) + (ls.sum : Int))) (op_p rfl (call_p (cons_p rfl nil_p) (fSum_dN ls)) rfl) rfl (by
    show some (PyData.int _) = _
    rw [show (f : Int) + ls.sum - ((f + T : Nat) : Int) = (ls.sum : Int) - T by omega])
  refine sp_p (env1 := [.sh (dI P), .sh (dN ls), .sh (.int (f : Int)), .sh (.int ((f + T : Nat) : Int)), .sh tD, .sh (.int ((ls.sum : Int) - T)), .no, .no, .no, .no, .no, .no, .no, .no, .no]) (asg_p hsum rfl) ?_
  have t1 : (xOr (xTest (xOp fEq (xOp fIx (xVar 4) (xC (.int 0))) (xC (.str (Str.ofString "long"))))) (xTest (xOp fGt (xVar 5) (xC (.int 0))))) [.sh (dI P), .sh (dN ls), .sh (.int (f : Int)), .sh (.int ((f + T : Nat) : Int)), .sh tD, .sh (.int ((ls.sum : Int) - T)), .no, .no, .no, .no, .no, .no, .no, .no, .no] = pure false := by
    refine or_f (test_p (op_p (a := sStarts) (op_p rfl rfl rfl) rfl eq_sl)) (test_p (op_p rfl rfl ?_))
    show some (PyData.bool (decide _)) = _
    rw [decide_eq_false (by omega)]
  refine sp_p (if_skip t1) ?_
  refine sp_p (env1 := [.sh (dI P), .sh (dN ls), .sh (.int (f : Int)), .sh (.int ((f + T : Nat) : Int)), .sh tD, .sh (.int ((ls.sum : Int) - T)), .sh sStarts, .sh (.list (nS f E)), .sh (.int c), .sh (.list (tabsD P f ls T ls.length)), .no, .no, .no, .no, .no]) (asg_p (x := tD) rfl rfl) ?_
  have hln : fLen [.list (nS f E)] = some (.int (ls.length : Int)) := by
    show some (PyData.int ((nS f E).length : Int)) = _
    unfold nS
    rw [List.length_map, hEl]
  refine sp_p (if_skip (test_p (op_p (call_p (cons_p rfl nil_p) hln) (call_p (cons_p rfl nil_p) (len_dN ls)) (by rw [fNe_int, decide_eq_true rfl]; rfl)))) ?_
  refine sp_p (env1 := [.sh (dI P), .sh (dN ls), .sh (.int (f : Int)), .sh (.int ((f + T : Nat) : Int)), .sh tD, .sh (.int ((ls.sum : Int) - T)), .sh sStarts, .sh (.list (nS f E)), .sh (.int c), .sh (.list (tabsD P f ls T ls.length)), .sh (.int (f : Int)), .no, .no, .no, .no]) rfl ?_
  obtain ⟨env', e1, e, z11, z12, cc, rfl, hRe, hp12⟩ := for_inv (g := gTp 2 (gsCons (gNm 11) (gsCons (gNm 12) gsNil))) (body := sSeq (sIf (xOr (xTest (xOp fLt (xVar 12) (xVar 10))) (xTest (xOp fGt (xOp fAdd (xVar 12) (xOp fIx (xVar 1) (xVar 11))) (xVar 3)))) (sRet (xTup (xCons (xC (.str (Str.ofString "start"))) (xCons (xVar 11) xNil)))) sPass)
    (sAsg (xOp fAdd (xVar 12) (xOp fIx (xVar 1) (xVar 11))) (gNm 10))) (fun i env => ∃ (e : Nat) (z11 z12 : Slot) (cc : Int), env = [.sh (dI P), .sh (dN ls), .sh (.int (f : Int)), .sh (.int ((f + T : Nat) : Int)), .sh tD, .sh (.int ((ls.sum : Int) - T)), .sh sStarts, .sh (.list (nS f E)), .sh (.int c), .sh (.list (tabsD P f ls T ls.length)), .sh (.int ((f + e : Nat) : Int)), z11, z12, .no, .no] ∧ Rw P f ls T i e (E.drop i) cc ∧ pl z12)
    (enumD 0 (nS f E)) 0 _ ⟨0, .no, .no, c, rfl, by rw [List.drop_zero]; exact hR, .no⟩ (fun i x env hi ⟨e, z11, z12, cc, hz, hRe, _⟩ => by
      subst hz
      rw [Nat.zero_add] at hRe ⊢
      obtain ⟨y, hy, rfl⟩ := enum_get _ _ _ _ hi
      unfold nS at hy
      rw [List.getElem?_map] at hy
      obtain ⟨a, ha, rfl⟩ := Option.map_eq_some_iff.mp hy
      have hil : i < E.length := (List.getElem?_eq_some_iff.mp ha).1
      have hd : E.drop i = a :: E.drop (i + 1) := by rw [List.drop_eq_getElem_cons hil, (List.getElem?_eq_some_iff.mp ha).2]
      rw [hd] at hRe
      obtain ⟨q1, q2, c', q3⟩ := hRe.uncons
      have q4 := q3.le
      rw [Nat.zero_add]
      let E1 : En := [.sh (dI P), .sh (dN ls), .sh (.int (f : Int)), .sh (.int ((f + T : Nat) : Int)), .sh tD, .sh (.int ((ls.sum : Int) - T)), .sh sStarts, .sh (.list (nS f E)), .sh (.int c), .sh (.list (tabsD P f ls T ls.length)), .sh (.int ((f + e : Nat) : Int)), .sh (.int (i : Int)), .sh (.int ((f + a : Nat) : Int)), .no, .no]
      have u1 : (xTest (xOp fLt (xVar 12) (xVar 10))) E1 = pure (decide (((f + a : Nat) : Int) < ((f + e : Nat) : Int))) := test_p (op_p rfl rfl rfl)
      rw [decide_eq_false (by omega)] at u1
      have v1 : (xOp fAdd (xVar 12) (xOp fIx (xVar 1) (xVar 11))) E1 = pure (.int ((f + (a + ls.getD i 0) : Nat) : Int)) := op_p rfl (op_p rfl rfl (dN_ix q1)) (by
        show some (PyData.int _) = _
        rw [show ((f + a : Nat) : Int) + ((ls.getD i 0 : Nat) : Int) = ((f + (a + ls.getD i 0) : Nat) : Int) by omega])
      have u2 : (xTest (xOp fGt (xOp fAdd (xVar 12) (xOp fIx (xVar 1) (xVar 11))) (xVar 3))) E1 = pure (decide (((f + T : Nat) : Int) < ((f + (a + ls.getD i 0) : Nat) : Int))) := test_p (op_p v1 rfl rfl)
      rw [decide_eq_false (by omega)] at u2
      exact ⟨E1, .nx, _, rfl, (seq_pure (if_skip (or_f u1 u2))).trans (asg_p v1 rfl), .inl rfl, a + ls.getD i 0, _, _, c', rfl, q3, .sh⟩)
  refine sp_p (for_p (enum_iter rfl) e1) ?_
  -- the cost
  let EE : Slot → En := fun z => [.sh (dI P), .sh (dN ls), .sh (.int (f : Int)), .sh (.int ((f + T : Nat) : Int)), .sh tD, .sh (.int ((ls.sum : Int) - T)), .sh sStarts, .sh (.list (nS f E)), .sh (.int c), .sh (.list (tabsD P f ls T ls.length)), .sh (.int ((f + e : Nat) : Int)), z11, z, .no, .no]
  obtain ⟨xs, x1, x2⟩ := starts_sum P f ls T hlen c (g := gTp 2 (gsCons (gNm 12) (gsCons (gNm 13) gsNil))) (fe := xCall cost_fromF (xCons (xVar 0) (xCons (xVar 12) (xCons (xVar 13) xNil)))) (env := EE .no) E hR (fun p hp => ⟨_, rfl, call_p (cons_p rfl (cons_p rfl (cons_p rfl nil_p))) (costf_run P h0 h1 (f + p.1) p.2 (by have := hl p.2 (List.of_mem_zip (show (p.1, p.2) ∈ E.zip ls from hp)).2; omega))⟩)
  have hw : wipeE (EE z12) [12, 13] = some (EE .no) := by rcases hp12 with rfl | ⟨x, rfl⟩ <;> rfl
  have hz : iZipV (xCons (xVar 7) (xCons (xVar 1) xNil)) (EE z12) = pure (zipD (nS f E) (ls.map fun (n : Nat) => PyData.int (n : Int))) := rfl
  have hzl : (zipD (nS f E) (ls.map fun (n : Nat) => PyData.int (n : Int))).length ≤ line := by
    rw [zip_S, List.length_map, List.length_zip]; unfold line; omega
  have hcs : (xCall fSum (xCons (xAs (xComp [12, 13] (iZipV (xCons (xVar 7) (xCons (xVar 1) xNil))) (gTp 2 (gsCons (gNm 12) (gsCons (gNm 13) gsNil))) tYesF (xCall cost_fromF (xCons (xVar 0) (xCons (xVar 12) (xCons (xVar 13) xNil)))))) xNil)) (EE z12) = pure (.int c) := call_p (cons_p (xAs_p (xComp_p hz hw hzl x1)) nil_p) (by rw [fSum_ints, x2])
  refine sp_p (if_skip (test_p (op_p hcs rfl (by rw [fNe_int, decide_eq_true rfl]; rfl)))) ?_
  have hlt : fLen [.list (tabsD P f ls T ls.length)] = some (.int ((ls.length : Int) + 1)) := by
    show some (PyData.int ((tabsD P f ls T ls.length).length : Int)) = _
    unfold tabsD
    rw [List.length_map, List.length_range]
    rfl
  have hforms : xComp [14] (iLst (xVar 9)) (gNm 14) tYesF (xOp fEq (xCall fLen (xCons (xVar 14) xNil)) (xOp fAdd (xOp fSub (xVar 3) (xVar 2)) (xC (.int 1)))) (EE z12) = pure (List.replicate (ls.length + 1) (.bool true)) := by
    have e2 : compL (gNm 14) tYesF (xOp fEq (xCall fLen (xCons (xVar 14) xNil)) (xOp fAdd (xOp fSub (xVar 3) (xVar 2)) (xC (.int 1)))) (EE z12) (tabsD P f ls T ls.length) = pure ((List.range (ls.length + 1)).map fun _ => PyData.bool true) := by
      refine compL_all (fun i => rowD P f ls i (T + 1)) _ _ fun i hi => ⟨_, rfl, ?_⟩
      refine op_p (a := .int ((T + 1 : Nat) : Int)) (b := .int ((T : Int) + 1)) (call_p (cons_p rfl nil_p) ?_) (op_p (a := .int (T : Int)) (op_p rfl rfl ?_) rfl rfl) ?_
      · show some (PyData.int ((rowL P f ls i (T + 1)).length : Int)) = _
        unfold rowL
        rw [List.length_map, List.length_range]
      · show some (PyData.int _) = _
        rw [show ((f + T : Nat) : Int) - (f : Int) = (T : Int) by omega]
      · rw [fEq_int, decide_eq_true (by omega)]
    rw [xComp_p (xs := tabsD P f ls T ls.length) (e := EE z12) rfl rfl (by unfold tabsD; rw [List.length_map, List.length_range]; unfold line; omega) e2]
    congr 1
    rw [List.map_const', List.length_range]
  refine sp_p (if_skip (or_f (test_p (op_p (call_p (cons_p rfl nil_p) hlt) (op_p (call_p (cons_p rfl nil_p) (len_dN ls)) rfl rfl) (by rw [fNe_int, decide_eq_true rfl]; rfl))) (not_p (b := true) (truth_p (call_p (cons_p (xAs_p hforms) nil_p) (fAll_true _)) rfl)))) ?_
  exact sp_ret (call_p (cons_p rfl (cons_p rfl (cons_p rfl (cons_p rfl (cons_p rfl nil_p))))) (tfault_run P f ls T h0 h1 hT hl hlen c hc))
theorem rfault_long (hS : T < ls.sum) : in_a_row_faultF [dI P, dN ls, .int (f : Int), .int ((f + T : Nat) : Int), .tuple [sLong, .int ((f : Int) + ls.sum - ((f + T : Nat) : Int))]] = some .none := by
  obtain ⟨s, hs⟩ : ∃ s, s = (f : Int) + ls.sum - ((f + T : Nat) : Int) := ⟨_, rfl⟩
  have hpos : 0 < s := by omega
  rw [← hs]
  refine runDef_ex rfl ?_
  unfold in_a_row_faultB
  refine sp_p (env1 := [.sh (dI P), .sh (dN ls), .sh (.int (f : Int)), .sh (.int ((f + T : Nat) : Int)), .sh (.tuple [sLong, .int s]), .sh (.int s), .no, .no, .no, .no, .no, .no, .no, .no, .no]) (asg_p (op_p (a := .int ((f : Int) + (ls.sum : Int))) (op_p rfl (call_p (cons_p rfl nil_p) (fSum_dN ls)) rfl) rfl (show _ = some (PyData.int s) from ?_)) rfl) ?_
  · rw [hs]; rfl
  refine sp_rt (if_sp (or_t (test_p (op_p (a := sLong) (op_p rfl rfl rfl) rfl eq_ll))) (sp_ret (ife_p (and_t (test_p (op_p (a := .tuple [sLong, .int s]) (b := .tuple [sLong, .int s]) rfl ?_ (eq_long s))) (test_p (op_p rfl rfl ?_))) rfl)))
  · exact tup_p (cons_p rfl (cons_p rfl nil_p)) (show 2 ≤ line by decide)
  · show some (PyData.bool (decide (0 < s))) = _
    rw [decide_eq_true hpos]
end
end VE

namespace VE
open PySem
/-! the net -/
def nd (T k g : Nat) : Nat := g + (T + 1) * k
theorem nd_div {T k g : Nat} (h : g ≤ T) : nd T k g / (T + 1) = k := by
  unfold nd
  rw [Nat.add_mul_div_left _ _ (by omega), Nat.div_eq_of_lt (by omega), Nat.zero_add]
theorem nd_mod {T k g : Nat} (h : g ≤ T) : nd T k g % (T + 1) = g := by
  unfold nd
  rw [Nat.add_mul_mod_self_left, Nat.mod_eq_of_lt (by omega)]
theorem nd_inj {T k g k' g' : Nat} (h : g ≤ T) (h' : g' ≤ T) (e : nd T k g = nd T k' g') : k = k' ∧ g = g' := by
  have h1 := congrArg (· / (T + 1)) e
  have h2 := congrArg (· % (T + 1)) e
  simp only [nd_div h, nd_div h', nd_mod h, nd_mod h'] at h1 h2
  exact ⟨h1, h2⟩
theorem nd_lt {T k g n : Nat} (h : g ≤ T) (hk : k ≤ n) : nd T k g < (T + 1) * (n + 1) := by
  unfold nd
  have := Nat.mul_le_mul_left (T + 1) (show k + 1 ≤ n + 1 by omega)
  rw [Nat.mul_add, Nat.mul_one] at this
  omega
def sN (T n : Nat) : Nat := (T + 1) * (n + 1)
def wy0 : Wy := ⟨0, 0, 0, 0⟩
section
variable (P : List Int) (f : Nat) (ls : List Nat) (T : Nat)
/-- the ways of a node -/
def wj (j : Nat) : List Wy :=
  (if j % (T + 1) < T then [⟨j, j + 1, 1, 0⟩] else []) ++
  (if j / (T + 1) < ls.length ∧ j % (T + 1) + ls.getD (j / (T + 1)) 0 ≤ T then [⟨j, nd T (j / (T + 1) + 1) (j % (T + 1) + ls.getD (j / (T + 1)) 0), 1, sumW P (f + j % (T + 1)) (ls.getD (j / (T + 1)) 0)⟩] else [])
def wsN (m : Nat) : List Wy := ⟨sN T ls.length, 0, 1, 0⟩ :: (List.range m).flatMap (wj P f ls T)
def wsA : List Wy := wsN P f ls T (sN T ls.length) ++ [⟨nd T ls.length T, sN T ls.length + 1, 1, 0⟩]
theorem wj_u {j : Nat} {x : Wy} (h : x ∈ wj P f ls T j) : x.u = j ∧ x.r = 1 := by
  unfold wj at h
  rw [List.mem_append] at h
  rcases h with h | h
  · split at h
    · rw [List.mem_singleton] at h; subst h; exact ⟨rfl, rfl⟩
    · simp at h
  · split at h
    · rw [List.mem_singleton] at h; subst h; exact ⟨rfl, rfl⟩
    · simp at h
theorem wj_len (j : Nat) : (wj P f ls T j).length ≤ 2 := by
  unfold wj
  rw [List.length_append]
  have : ∀ (p : Prop) [Decidable p] (x : Wy), (if p then [x] else []).length ≤ 1 := fun p _ x => by split <;> simp
  have h1 := this (j % (T + 1) < T) ⟨j, j + 1, 1, 0⟩
  have h2 := this (j / (T + 1) < ls.length ∧ j % (T + 1) + ls.getD (j / (T + 1)) 0 ≤ T) ⟨j, nd T (j / (T + 1) + 1) (j % (T + 1) + ls.getD (j / (T + 1)) 0), 1, sumW P (f + j % (T + 1)) (ls.getD (j / (T + 1)) 0)⟩
  omega
theorem ws_len : ∀ m, ((List.range m).flatMap (wj P f ls T)).length ≤ 2 * m
  | 0 => Nat.le_refl _
  | m + 1 => by
    rw [List.range_succ, List.flatMap_append, List.length_append]
    have := ws_len m
    have h2 := wj_len P f ls T m
    have : ([m].flatMap (wj P f ls T)) = wj P f ls T m := by simp
    rw [this]
    omega
theorem ws_cnt (u : Nat) : ∀ m, (((List.range m).flatMap (wj P f ls T)).filter fun x => decide (x.u = u)).length ≤ if u < m then (wj P f ls T u).length else 0
  | 0 => Nat.zero_le _
  | m + 1 => by
    rw [List.range_succ, List.flatMap_append, List.filter_append, List.length_append]
    have ih := ws_cnt u m
    have e : ([m].flatMap (wj P f ls T)) = wj P f ls T m := by simp
    rw [e]
    by_cases hu : u = m
    · subst hu
      rw [if_neg (Nat.lt_irrefl _)] at ih
      rw [if_pos (Nat.lt_succ_self _)]
      have := List.length_filter_le (fun (x : Wy) => decide (x.u = u)) (wj P f ls T u)
      omega
    · have h0 : (wj P f ls T m).filter (fun x => decide (x.u = u)) = [] := by
        rw [List.filter_eq_nil_iff]
        intro x hx
        have := (wj_u P f ls T hx).1
        simp
        omega
      rw [h0, List.length_nil]
      by_cases h : u < m
      · rw [if_pos h] at ih; rw [if_pos (by omega)]; exact ih
      · rw [if_neg h] at ih; rw [if_neg (by omega)]; exact ih
theorem ws_mem {m : Nat} {x : Wy} : x ∈ (List.range m).flatMap (wj P f ls T) ↔ ∃ j, j < m ∧ x ∈ wj P f ls T j := by
  rw [List.mem_flatMap]
  constructor
  · rintro ⟨j, h1, h2⟩; exact ⟨j, List.mem_range.mp h1, h2⟩
  · rintro ⟨j, h1, h2⟩; exact ⟨j, List.mem_range.mpr h1, h2⟩
theorem wsA_len : (wsA P f ls T).length ≤ 2 * sN T ls.length + 2 := by
  unfold wsA wsN
  rw [List.length_append, List.length_cons, List.length_singleton]
  have := ws_len P f ls T (sN T ls.length)
  omega
theorem wsA_h0 : (wsA P f ls T)[0]? = some ⟨sN T ls.length, 0, 1, 0⟩ := rfl
theorem wsA_mem {x : Wy} (h : x ∈ wsA P f ls T) : x.r = 1 ∧ (x = ⟨sN T ls.length, 0, 1, 0⟩ ∨
    (∃ k g, k ≤ ls.length ∧ g < T ∧ x.u = nd T k g ∧ x.v = nd T k (g + 1) ∧ x.c = 0) ∨
    (∃ k g, k < ls.length ∧ g + ls.getD k 0 ≤ T ∧ x.u = nd T k g ∧ x.v = nd T (k + 1) (g + ls.getD k 0) ∧ x.c = sumW P (f + g) (ls.getD k 0)) ∨
    (x = ⟨nd T ls.length T, sN T ls.length + 1, 1, 0⟩)) := by
  unfold wsA wsN at h
  rw [List.mem_append, List.mem_cons, List.mem_singleton, ws_mem] at h
  rcases h with (rfl | ⟨j, hj, hx⟩) | rfl
  · exact ⟨rfl, .inl rfl⟩
  · refine ⟨(wj_u P f ls T hx).2, ?_⟩
    have hg : j % (T + 1) < T + 1 := Nat.mod_lt _ (by omega)
    have hjj : j = nd T (j / (T + 1)) (j % (T + 1)) := by unfold nd; exact (Nat.mod_add_div j (T + 1)).symm
    have hk : j / (T + 1) < ls.length + 1 := by
      rw [Nat.div_lt_iff_lt_mul (by omega), Nat.mul_comm]
      exact hj
    unfold wj at hx
    rw [List.mem_append] at hx
    rcases hx with hx | hx
    · split at hx
      · rename_i q
        rw [List.mem_singleton] at hx
        subst hx
        refine .inr (.inl ⟨_, _, by omega, q, hjj, ?_, rfl⟩)
        show j + 1 = nd T (j / (T + 1)) (j % (T + 1) + 1)
        unfold nd at hjj ⊢
        omega
      · simp at hx
    · split at hx
      · rename_i q
        rw [List.mem_singleton] at hx
        subst hx
        exact .inr (.inr (.inl ⟨_, _, q.1, q.2, hjj, rfl, rfl⟩))
      · simp at hx
  · exact ⟨rfl, .inr (.inr (.inr rfl))⟩
theorem wsA_step {k g : Nat} (hk : k ≤ ls.length) (hg : g < T) : (⟨nd T k g, nd T k (g + 1), 1, 0⟩ : Wy) ∈ wsA P f ls T := by
  unfold wsA wsN
  rw [List.mem_append, List.mem_cons, ws_mem]
  refine .inl (.inr ⟨nd T k g, nd_lt (by omega) hk, ?_⟩)
  unfold wj
  rw [List.mem_append, nd_mod (by omega), if_pos hg, List.mem_singleton]
  refine .inl ?_
  rw [show nd T k (g + 1) = nd T k g + 1 by unfold nd; omega]
theorem wsA_job {k g : Nat} (hk : k < ls.length) (hg : g + ls.getD k 0 ≤ T) : (⟨nd T k g, nd T (k + 1) (g + ls.getD k 0), 1, sumW P (f + g) (ls.getD k 0)⟩ : Wy) ∈ wsA P f ls T := by
  unfold wsA wsN
  rw [List.mem_append, List.mem_cons, ws_mem]
  refine .inl (.inr ⟨nd T k g, nd_lt (by omega) (by omega), ?_⟩)
  unfold wj
  rw [List.mem_append, nd_mod (by omega), nd_div (by omega), if_pos (show k < ls.length ∧ g + ls.getD k 0 ≤ T from ⟨hk, hg⟩), List.mem_singleton]
  exact .inr rfl
theorem wsA_cnt (u : Nat) : ((wsA P f ls T).filter fun x => decide (x.u = u)).length ≤ if u = sN T ls.length then 1 else 2 := by
  unfold wsA wsN
  rw [List.filter_append, List.length_append]
  have h1 := ws_cnt P f ls T u (sN T ls.length)
  have hlt : nd T ls.length T < sN T ls.length := nd_lt (Nat.le_refl _) (Nat.le_refl _)
  by_cases hs : u = sN T ls.length
  · subst hs
    rw [if_pos rfl, List.filter_cons_of_pos (by simp), List.filter_cons_of_neg (by simp; omega)]
    rw [if_neg (Nat.lt_irrefl _)] at h1
    rw [List.length_cons, List.filter_nil, List.length_nil]
    omega
  · rw [if_neg hs, List.filter_cons_of_neg (by simp; omega)]
    have h2 := List.length_filter_le (fun (x : Wy) => decide (x.u = u)) [⟨nd T ls.length T, sN T ls.length + 1, 1, 0⟩]
    rw [List.length_singleton] at h2
    by_cases ht : u = nd T ls.length T
    · have he : wj P f ls T u = [] := by
        unfold wj
        rw [ht, nd_mod (Nat.le_refl _), nd_div (Nat.le_refl _), if_neg (Nat.lt_irrefl _), if_neg (by omega)]
        rfl
      rw [if_pos (by omega), he, List.length_nil] at h1
      omega
    · rw [List.filter_cons_of_neg (l := []) (by simp; omega), List.filter_nil, List.length_nil]
      have := wj_len P f ls T u
      split at h1 <;> omega
variable {P f ls T} {N : Net} (L : Laid (sN T ls.length + 2) (wsA P f ls T) N)
def rkr (T n : Nat) (v : Nat) : Nat := if v = sN T n then 0 else if v = sN T n + 1 then n + T + 2 else 1 + v / (T + 1) + v % (T + 1)
theorem rkr_nd {k g n : Nat} (hg : g ≤ T) (hk : k ≤ n) : rkr T n (nd T k g) = 1 + k + g := by
  have := nd_lt hg hk
  unfold rkr sN
  rw [if_neg (by omega), if_neg (by omega), nd_div hg, nd_mod hg]
include L in
theorem rdag (hT : T ≤ 10) (hn : ls.length ≤ 3) (hpos : ∀ l ∈ ls, 1 ≤ l) : Dag N (sN T ls.length) (fun v => v < N.outs.length) (rkr T ls.length) 15 2 := by
  have hsn : sN T ls.length ≤ 44 := by
    unfold sN
    exact Nat.mul_le_mul (show T + 1 ≤ 11 by omega) (show ls.length + 1 ≤ 4 by omega)
  refine L.dag (by omega) (by unfold rkr; rw [if_pos rfl]) (fun v hv => ?_) (fun x hx => ?_) (fun u => ?_) (by decide) (by decide) (by unfold line; omega)
  · by_cases h1 : v = sN T ls.length
    · unfold rkr; rw [if_pos h1]; omega
    · by_cases h2 : v = sN T ls.length + 1
      · unfold rkr; rw [if_neg h1, if_pos h2]; omega
      · have hlt : v < sN T ls.length := by omega
        have hg : v % (T + 1) < T + 1 := Nat.mod_lt _ (by omega)
        have hk : v / (T + 1) < ls.length + 1 := by
          rw [Nat.div_lt_iff_lt_mul (by omega), Nat.mul_comm]
          exact hlt
        unfold rkr; rw [if_neg h1, if_neg h2]; omega
  · rcases (wsA_mem P f ls T hx).2 with rfl | ⟨k, g, h1, h2, h3, h4, _⟩ | ⟨k, g, h1, h2, h3, h4, _⟩ | rfl
    · show rkr T ls.length (sN T ls.length) < rkr T ls.length 0
      have : rkr T ls.length 0 = 1 := by have := rkr_nd (T := T) (k := 0) (g := 0) (n := ls.length) (by omega) (by omega); unfold nd at this; simpa using this
      rw [this]
      unfold rkr
      rw [if_pos rfl]
      omega
    · rw [h3, h4, rkr_nd (by omega) h1, rkr_nd (by omega) h1]; omega
    · rw [h3, h4, rkr_nd (by omega) (by omega), rkr_nd (by omega) (by omega)]; omega
    · show rkr T ls.length (nd T ls.length T) < rkr T ls.length (sN T ls.length + 1)
      rw [rkr_nd (Nat.le_refl _) (Nat.le_refl _)]
      unfold rkr
      rw [if_neg (by omega), if_pos rfl]
      omega
  · have := wsA_cnt P f ls T u
    split at this <;> omega
include L in
theorem rone : One N (sN T ls.length) 0 := by
  refine ⟨fun u e v c w => ?_, ?_⟩
  · obtain ⟨i, x, q1, rfl, q3, q4, q5, q6, q7⟩ := L.way_get w
    obtain ⟨w1, w2, w3, w4, w5, w6⟩ := L.wy i x q1
    rw [(wsA_mem P f ls T (List.mem_of_getElem? q1)).1] at w3
    exact ⟨by omega, by rw [w2, q3], w3, w4⟩
  · obtain ⟨xs, o1, o2⟩ := L.o2 0 _ (wsA_h0 P f ls T)
    have o1 : N.outs[sN T ls.length]? = some xs := o1
    have hin : ∀ k g, g ≤ T → k ≤ ls.length → nd T k g < sN T ls.length := fun k g h1 h2 => nd_lt h1 h2
    have hpar : ∀ y ∈ xs, ∃ i x, (wsA P f ls T)[i]? = some x ∧ x.u = sN T ls.length ∧ y = ((2 * i : Nat) : Int) := fun y hy => by
      obtain ⟨i, x, q1, q2⟩ := L.o1 _ xs o1 y hy
      rcases q2 with ⟨q2, q3⟩ | ⟨q2, q3⟩
      · exact ⟨i, x, q1, q2, q3⟩
      · rcases (wsA_mem P f ls T (List.mem_of_getElem? q1)).2 with rfl | ⟨k, g, h1, h2, h3, h4, _⟩ | ⟨k, g, h1, h2, h3, h4, _⟩ | rfl
        · have q2 : 0 = sN T ls.length := q2
          have := hin 0 0 (by omega) (by omega)
          omega
        · have := hin k (g + 1) (by omega) h1
          omega
        · have := hin (k + 1) (g + ls.getD k 0) h2 (by omega)
          omega
        · have q2 : sN T ls.length + 1 = sN T ls.length := q2
          omega
    have hop : xs.filter (isOpen N) = xs := List.filter_eq_self.mpr fun y hy => by
      obtain ⟨i, x, q1, q2, q3⟩ := hpar y hy
      have w3 := (L.wy i x q1).2.2.1
      rw [(wsA_mem P f ls T (List.mem_of_getElem? q1)).1] at w3
      rw [q3, isOpen_of w3]
      rfl
    have hlen := L.dg _ xs o1
    rw [hop] at hlen
    have h4 := wsA_cnt P f ls T (sN T ls.length)
    rw [if_pos rfl] at h4
    cases xs with
    | nil => simp at o2
    | cons y r =>
      cases r with
      | nil =>
        rw [o1]
        have : ((2 * 0 : Nat) : Int) = y := by simpa using o2
        rw [← this]
      | cons z r => simp only [List.length_cons] at hlen; omega
include L in
/-- the cheapest ways cost what the tables say -/
theorem rcost {cs ca : List (Option Int)} (hL : LS N (sN T ls.length) (fun v => v < N.outs.length) cs ca (fun _ => False)) : ∀ (q k g : Nat), nd T k g < q → k ≤ ls.length → g ≤ T → cs[nd T k g]? = some (tb P f ls k g)
  | 0, _, _, h, _, _ => absurd h (Nat.not_lt_zero _)
  | q + 1, k, g, hq, hk, hg => by
    have hlt : nd T k g < sN T ls.length := nd_lt hg hk
    have hV := L.ov
    obtain ⟨x, hx⟩ : ∃ x, cs[nd T k g]? = some x := ⟨_, List.getElem?_eq_getElem (by rw [hL.l1, hV]; omega)⟩
    -- what the tables say can be had
    have hA : ∀ b, tb P f ls k g = some b → ∃ b', x = some b' ∧ b' ≤ b := fun b hb => by
      have fin : ∀ (u : Nat) (y : Wy) (a : Int), y ∈ wsA P f ls T → y.u = u → y.v = nd T k g → cs[u]? = some (some a) → a + y.c = b → ∃ b', x = some b' ∧ b' ≤ b := fun u y a hy hu hv ha hc => by
        obtain ⟨i, hi, rfl⟩ := List.getElem_of_mem hy
        have hw := L.way_mk (List.getElem?_eq_getElem hi) (by rw [(wsA_mem P f ls T hy).1]; decide)
        rw [hu, hv] at hw
        obtain ⟨b', e1, e2⟩ := hL.clo u a (fun z => z) ha _ _ _ hw
        rw [hx] at e1
        exact ⟨b', Option.some.inj e1, by omega⟩
      rcases tb_pred P f ls hb with ⟨rfl, rfl, rfl⟩ | ⟨h1, h2⟩ | ⟨h1, h2, a, h3, h4⟩
      · exact fin (sN T ls.length) ⟨sN T ls.length, 0, 1, 0⟩ 0 (List.mem_of_getElem? (wsA_h0 P f ls T)) rfl (by unfold nd; simp) hL.st rfl
      · have hm := wsA_step P f ls T (k := k) (g := g - 1) hk (by omega)
        rw [show g - 1 + 1 = g by omega] at hm
        have ih := rcost hL q k (g - 1) (by unfold nd at hq ⊢; omega) hk (by omega)
        rw [h2] at ih
        exact fin _ _ b hm rfl rfl ih (by show b + 0 = b; omega)
      · have hm := wsA_job P f ls T (k := k - 1) (g := g - ls.getD (k - 1) 0) (by omega) (by omega)
        rw [show k - 1 + 1 = k by omega, show g - ls.getD (k - 1) 0 + ls.getD (k - 1) 0 = g by omega] at hm
        have ih := rcost hL q (k - 1) (g - ls.getD (k - 1) 0) (by
          have e : (T + 1) * k = (T + 1) * (k - 1) + (T + 1) := by rw [← Nat.mul_succ]; congr 1; omega
          unfold nd at hq ⊢; omega) (by omega) (by omega)
        rw [h3] at ih
        exact fin _ _ a hm rfl rfl ih h4.symm
    -- and nothing cheaper
    have hB : ∀ b', x = some b' → ∃ b, tb P f ls k g = some b ∧ b ≤ b' := fun b' hb => by
      rw [hb] at hx
      obtain ⟨e, u, c, a, w, p1, p2, p3⟩ := hL.pred _ b' (by omega) hx
      obtain ⟨i, y, q1, q2, q3, q4, q5, q6, q7⟩ := L.way_get w
      rcases (wsA_mem P f ls T (List.mem_of_getElem? q1)).2 with rfl | ⟨k', g', h1, h2, h3, h4, h5⟩ | ⟨k', g', h1, h2, h3, h4, h5⟩ | rfl
      · have q4 : nd T 0 0 = nd T k g := by unfold nd at q4 ⊢; simpa using q4
        obtain ⟨rfl, rfl⟩ := nd_inj (by omega) hg q4
        have hu : sN T ls.length = u := q3
        rw [← hu, hL.st] at p2
        have ha : (0 : Int) = a := Option.some.inj (Option.some.inj p2)
        have hc : (0 : Int) = c := q5
        exact ⟨0, rfl, by omega⟩
      · rw [h4] at q4
        obtain ⟨rfl, rfl⟩ := nd_inj (by omega) hg q4
        have ih := rcost hL q k' g' (by unfold nd at hq ⊢; omega) h1 (by omega)
        rw [← q3, h3, ih] at p2
        obtain ⟨b, e1, e2⟩ := tb_up P f ls (Option.some.inj p2)
        exact ⟨b, e1, by omega⟩
      · rw [h4] at q4
        obtain ⟨rfl, rfl⟩ := nd_inj h2 hg q4
        have ih := rcost hL q k' g' (by
          have e : (T + 1) * (k' + 1) = (T + 1) * k' + (T + 1) := Nat.mul_succ _ _
          unfold nd at hq ⊢; omega) (by omega) (by omega)
        rw [← q3, h3, ih] at p2
        obtain ⟨b, e1, e2⟩ := tb_job P f ls (Option.some.inj p2)
        exact ⟨b, e1, by omega⟩
      · have q4 : sN T ls.length + 1 = nd T k g := q4
        omega
    rw [hx]
    cases e : tb P f ls k g with
    | none =>
      cases x with
      | none => rfl
      | some b' => obtain ⟨b, h1, _⟩ := hB b' rfl; rw [e] at h1; cases h1
    | some b =>
      obtain ⟨b', rfl, h2⟩ := hA b e
      obtain ⟨b2, h3, h4⟩ := hB b' rfl
      rw [e] at h3
      cases h3
      congr 2
      omega
include L in
theorem rend {cs ca : List (Option Int)} (hL : LS N (sN T ls.length) (fun v => v < N.outs.length) cs ca (fun _ => False)) {c : Int} (hc : tb P f ls ls.length T = some c) : cs[sN T ls.length + 1]? = some (some c) := by
  have h1 := rcost L hL (nd T ls.length T + 1) ls.length T (Nat.lt_succ_self _) (Nat.le_refl _) (Nat.le_refl _)
  rw [hc] at h1
  have hin : ∀ k g, g ≤ T → k ≤ ls.length → nd T k g < sN T ls.length := fun k g h1 h2 => nd_lt h1 h2
  have hm : (⟨nd T ls.length T, sN T ls.length + 1, 1, 0⟩ : Wy) ∈ wsA P f ls T := List.mem_append.mpr (.inr (List.mem_singleton.mpr rfl))
  obtain ⟨i, hi, he⟩ := List.getElem_of_mem hm
  have hw := L.way_mk (List.getElem?_eq_getElem hi) (by rw [he]; exact Int.one_pos)
  rw [he] at hw
  obtain ⟨b, e1, e2⟩ := hL.clo _ c (fun z => z) h1 _ _ _ hw
  have e1 : cs[sN T ls.length + 1]? = some (some b) := e1
  have e2 : b ≤ c + 0 := e2
  obtain ⟨e, u, c', a, w, p1, p2, p3⟩ := hL.pred _ b (by omega) e1
  obtain ⟨i, y, q1, q2, q3, q4, q5, q6, q7⟩ := L.way_get w
  rcases (wsA_mem P f ls T (List.mem_of_getElem? q1)).2 with rfl | ⟨k', g', z1, z2, z3, z4, z5⟩ | ⟨k', g', z1, z2, z3, z4, z5⟩ | rfl
  · have q4 : (0 : Nat) = sN T ls.length + 1 := q4
    omega
  · have := hin k' (g' + 1) (by omega) z1
    omega
  · have := hin (k' + 1) (g' + ls.getD k' 0) z2 (by omega)
    omega
  · have hu : nd T ls.length T = u := q3
    have hcc : (0 : Int) = c' := q5
    rw [← hu, h1] at p2
    have ha := Option.some.inj (Option.some.inj p2)
    rw [e1]
    congr 2
    omega
def cst (W : List Wy) (e : Nat) : Int := (W.getD (e / 2) wy0).c
theorem cst_of {W : List Wy} {i : Nat} {x : Wy} (h : W[i]? = some x) : cst W (2 * i) = x.c := by
  unfold cst
  rw [show 2 * i / 2 = i by omega, List.getD_eq_getElem?_getD, h]
  rfl
end
theorem path_sum {V s : Nat} {W : List Wy} {N : Net} (L : Laid V W N) {cs ca : List (Option Int)} (hst : cs[s]? = some (some 0)) : ∀ {v : Nat} {row : List Nat}, Path N s cs ca v row → cs[v]? = some (some ((row.map (cst W)).sum)) ∧ ∀ e ∈ row, ∃ i, e = 2 * i ∧ i < W.length
  | _, _, .nil => ⟨hst, fun _ h => by simp at h⟩
  | _, _, .cons (u := u) (e := e) (v := v) (c := c0) (a := a) (r := r) hv hw h1 h2 h3 p => by
    obtain ⟨i, x, q1, rfl, q3, q4, q5, q6, q7⟩ := L.way_get hw
    obtain ⟨ih, ihm⟩ := path_sum L hst p
    rw [h2] at ih
    have ih := Option.some.inj (Option.some.inj ih)
    refine ⟨?_, fun y hy => ?_⟩
    · rw [h3, List.map_cons, List.sum_cons, cst_of q1, q5, ih]
      congr 2
      omega
    · rcases List.mem_cons.mp hy with rfl | hy
      · exact ⟨i, rfl, (List.getElem?_eq_some_iff.mp q1).1⟩
      · exact ihm y hy
end VE

namespace VE
open PySem
theorem way_w {a b c : EF} {env : En} {p : Int} {cl : List Int} {N : Net} {V : Nat} {W : List Wy} {u v : Nat} {x : Int} (ha : a env = pure (.int (u : Int))) (hb : b env = pure (.int (v : Int))) (hc : c env = pure (.int x)) (L : Laid V W N) (hu : u < V) (hv : v < V) (hl : W.length ≤ 100000) (hs : env[8]? = some (.st 8)) :
    xNCall 8 net_wayF (xCons a (xCons b (xCons (xC (.int 1)) (xCons c xNil)))) env ⟨p, cl, some N⟩ = some (.int ((2 * W.length : Nat) : Int), ⟨p, cl, some (addW N ⟨u, v, 1, x⟩)⟩) ∧ Laid V (W ++ [⟨u, v, 1, x⟩]) (addW N ⟨u, v, 1, x⟩) := by
  refine ⟨?_, laid_add L _ hu hv⟩
  have hway := way_run N ⟨u, v, 1, x⟩ (by rw [L.ov]; exact hu) (by rw [L.ov]; exact hv) (by rw [L.lr, L.lg]) (by rw [L.lc, L.lg]) (by rw [L.lg]; unfold line; omega) (fun xs hx => by have := L.ol xs hx; unfold line; omega)
  rw [L.lg] at hway
  exact ncall_w (w1 := ⟨p, cl, some N⟩) (N := N) (cons_w (of_pure ha) (cons_w (of_pure hb) (cons_w rfl (cons_w (of_pure hc) rfl)))) hs rfl hway
section
variable (ns : List Int) (P : List Int) (f : Nat) (ls : List Nat) (T : Nat) (tD : D) (h0 : 0 < P.length) (h1 : P.length ≤ 1000000) (hT : T ≤ 10) (hl : ∀ l ∈ ls, 1 ≤ l ∧ l ≤ 3) (hlen : ls.length ≤ 3)
def isJob (T n : Nat) (x : Wy) : Bool := decide (x.u + (T + 1) ≤ x.v ∧ x.v < sN T n)
def jobsI (T n : Nat) (W : List Wy) : List Nat := (List.range W.length).filter fun i => isJob T n (W.getD i wy0)
def wyD (W : List Wy) (i : Nat) : D := .tuple [.int ((2 * i : Nat) : Int), .int (W.getD i wy0).c]
def waysD (T n : Nat) (W : List Wy) : List D := (jobsI T n W).map (wyD W)
theorem waysD_snoc (T n : Nat) (W : List Wy) (x : Wy) : waysD T n (W ++ [x]) = waysD T n W ++ (if isJob T n x = true then [.tuple [.int ((2 * W.length : Nat) : Int), .int x.c]] else []) := by
  have hold : ∀ i, i < W.length → (W ++ [x]).getD i wy0 = W.getD i wy0 := fun i hi => by
    rw [List.getD_eq_getElem?_getD, List.getD_eq_getElem?_getD, List.getElem?_append_left hi]
  have hnew : (W ++ [x]).getD W.length wy0 = x := by
    rw [List.getD_eq_getElem?_getD, List.getElem?_append_right (Nat.le_refl _), Nat.sub_self]
    rfl
  unfold waysD jobsI
  rw [List.length_append, List.length_singleton, List.range_succ, List.filter_append, List.map_append]
  have e1 : (List.range W.length).filter (fun i => isJob T n ((W ++ [x]).getD i wy0)) = (List.range W.length).filter (fun i => isJob T n (W.getD i wy0)) := by
    apply List.filter_congr
    intro i hi
    rw [hold i (List.mem_range.mp hi)]
  rw [e1]
  congr 1
  · apply List.map_congr_left
    intro i hi
    unfold wyD
    rw [hold i (List.mem_range.mp (List.mem_filter.mp hi).1)]
  · by_cases h : isJob T n x = true
    · rw [if_pos h, List.filter_cons_of_pos (by rw [hnew]; exact h)]
      show [wyD (W ++ [x]) W.length] = _
      unfold wyD
      rw [hnew]
    · rw [if_neg h, List.filter_cons_of_neg (by rw [hnew]; exact h)]
      rfl
def nodesD (T n : Nat) : D := .list ((List.range (n + 1)).map fun k => .list ((List.range (T + 1)).map fun g => PyData.int ((nd T k g : Nat) : Int)))
theorem nodes_ix {T n k g : Nat} (hk : k ≤ n) (hg : g ≤ T) : ∃ r, fIx (nodesD T n) (.int (k : Int)) = some r ∧ fIx r (.int (g : Int)) = some (.int ((nd T k g : Nat) : Int)) :=
  ⟨.list ((List.range (T + 1)).map fun g => PyData.int ((nd T k g : Nat) : Int)), atI_nat (by rw [List.getElem?_map, List.getElem?_range (by omega)]; rfl), atI_nat (by rw [List.getElem?_map, List.getElem?_range (by omega)]; rfl)⟩
abbrev gD (ns P : List Int) (f : Nat) (ls : List Nat) (T : Nat) (tD : D) (wd : List D) (z3 z14 z15 : Slot) : En := [.fz ns, .st 1, .sh (dI P), z3, .sh (dN ls), .sh (.int (f : Int)), .sh (.int ((f + T : Nat) : Int)), .sh tD, .st 8, .sh (nodesD T ls.length), .no, .sh (.int ((sN T ls.length : Nat) : Int)), .sh (.int ((sN T ls.length + 1 : Nat) : Int)), .ow false wd, z14, z15, .no, .no, .no, .no]
abbrev gE (ns P : List Int) (f : Nat) (ls : List Nat) (T : Nat) (tD : D) (W : List Wy) (z3 z14 z15 : Slot) : En := gD ns P f ls T tD (waysD T ls.length W) z3 z14 z15
def stepB : SF := (sSeq (sIf (xTest (xOp fLt (xVar 14) (xOp fSub (xVar 6) (xVar 5)))) (sExpr (xNCall 8 net_wayF (xCons (xOp fIx (xOp fIx (xVar 9) (xVar 3)) (xVar 14)) (xCons (xOp fIx (xOp fIx (xVar 9) (xVar 3)) (xOp fAdd (xVar 14) (xC (.int 1)))) (xCons (xC (.int 1)) (xCons (xC (.int 0)) xNil)))))) sPass)
    (sIf (xAnd (xTest (xOp fLt (xVar 3) (xCall fLen (xCons (xVar 4) xNil)))) (xTest (xOp fLe (xOp fAdd (xVar 14) (xOp fIx (xVar 4) (xVar 3))) (xOp fSub (xVar 6) (xVar 5))))) (sSeq (sAsg (xCall fSum (xCons (xAs (xComp [16] (iR1 (xCons (xOp fIx (xVar 4) (xVar 3)) xNil)) (gNm 16) tYesF (xOp fIx (xVar 2) (xOp fMod (xCall fInt (xCons (xOp fAdd (xOp fAdd (xVar 5) (xVar 14)) (xVar 16)) xNil)) (xCall fLen (xCons (xVar 2) xNil)))))) xNil)) (gNm 15))
    (sSeq (sIf (xTest (xOp fNe (xVar 15) (xCall cost_fromF (xCons (xVar 2) (xCons (xOp fAdd (xVar 5) (xVar 14)) (xCons (xOp fIx (xVar 4) (xVar 3)) xNil)))))) (sRet (xC (.bool false))) sPass)
    (sApp 13 (xTup (xCons (xNCall 8 net_wayF (xCons (xOp fIx (xOp fIx (xVar 9) (xVar 3)) (xVar 14)) (xCons (xOp fIx (xOp fIx (xVar 9) (xOp fAdd (xVar 3) (xC (.int 1)))) (xOp fAdd (xVar 14) (xOp fIx (xVar 4) (xVar 3)))) (xCons (xC (.int 1)) (xCons (xVar 15) xNil))))) (xCons (xVar 15) xNil)))))) sPass))
theorem tw (T f : Nat) : fSub (.int ((f + T : Nat) : Int)) (.int (f : Int)) = some (.int (T : Int)) := by
  show some (PyData.int _) = _
  rw [show ((f + T : Nat) : Int) - (f : Int) = (T : Int) by omega]
include h0 h1 hT hl hlen in
theorem step_run (W : List Wy) (N : Net) (k g : Nat) (z15 : Slot) (p : Int) (cl : List Int) (hW : W = wsN P f ls T (nd T k g)) (L : Laid (sN T ls.length + 2) W N) (hk : k ≤ ls.length) (hg : g ≤ T) (hp : pl z15) :
    ∃ N' z15', stepB (gE ns P f ls T tD W (.sh (.int (k : Int))) (.sh (.int (g : Int))) z15) ⟨p, cl, some N⟩ = some ((.nx, gE ns P f ls T tD (W ++ wj P f ls T (nd T k g)) (.sh (.int (k : Int))) (.sh (.int (g : Int))) z15'), ⟨p, cl, some N'⟩) ∧ Laid (sN T ls.length + 2) (W ++ wj P f ls T (nd T k g)) N' ∧ pl z15' := by
  have hsn : sN T ls.length ≤ 44 := by
    unfold sN
    exact Nat.mul_le_mul (show T + 1 ≤ 11 by omega) (show ls.length + 1 ≤ 4 by omega)
  have hndl : nd T k g < sN T ls.length := nd_lt hg hk
  have hWl : W.length ≤ 200 := by
    rw [hW]
    unfold wsN
    have := ws_len P f ls T (nd T k g)
    rw [List.length_cons]
    omega
  have hwj : wj P f ls T (nd T k g) = (if g < T then [⟨nd T k g, nd T k g + 1, 1, 0⟩] else []) ++ (if k < ls.length ∧ g + ls.getD k 0 ≤ T then [⟨nd T k g, nd T (k + 1) (g + ls.getD k 0), 1, sumW P (f + g) (ls.getD k 0)⟩] else []) := by
    unfold wj
    rw [nd_mod hg, nd_div hg]
  rw [hwj, ← List.append_assoc]
  -- the step to the next minute
  obtain ⟨N1, e1, L1⟩ : ∃ N1, sIf (xTest (xOp fLt (xVar 14) (xOp fSub (xVar 6) (xVar 5)))) (sExpr (xNCall 8 net_wayF (xCons (xOp fIx (xOp fIx (xVar 9) (xVar 3)) (xVar 14)) (xCons (xOp fIx (xOp fIx (xVar 9) (xVar 3)) (xOp fAdd (xVar 14) (xC (.int 1)))) (xCons (xC (.int 1)) (xCons (xC (.int 0)) xNil)))))) sPass (gE ns P f ls T tD W (.sh (.int (k : Int))) (.sh (.int (g : Int))) z15) ⟨p, cl, some N⟩ =
      some ((.nx, gE ns P f ls T tD (W ++ (if g < T then [⟨nd T k g, nd T k g + 1, 1, 0⟩] else [])) (.sh (.int (k : Int))) (.sh (.int (g : Int))) z15), ⟨p, cl, some N1⟩) ∧ Laid (sN T ls.length + 2) (W ++ (if g < T then [⟨nd T k g, nd T k g + 1, 1, 0⟩] else [])) N1 := by
    have t1 : (xTest (xOp fLt (xVar 14) (xOp fSub (xVar 6) (xVar 5)))) (gE ns P f ls T tD W (.sh (.int (k : Int))) (.sh (.int (g : Int))) z15) = pure (decide ((g : Int) < (T : Int))) := test_p (op_p rfl (op_p rfl rfl (tw T f)) rfl)
    by_cases h : g < T
    · rw [decide_eq_true (by omega)] at t1
      rw [if_pos h]
      obtain ⟨r, r1, r2⟩ := nodes_ix (T := T) hk hg
      obtain ⟨r', r3, r4⟩ := nodes_ix (T := T) (n := ls.length) (k := k) (g := g + 1) hk (by omega)
      rw [show nd T k (g + 1) = nd T k g + 1 by unfold nd; omega] at r4
      obtain ⟨w1, w2⟩ := way_w (a := xOp fIx (xOp fIx (xVar 9) (xVar 3)) (xVar 14)) (b := xOp fIx (xOp fIx (xVar 9) (xVar 3)) (xOp fAdd (xVar 14) (xC (.int 1)))) (c := xC (.int 0)) (env := gE ns P f ls T tD W (.sh (.int (k : Int))) (.sh (.int (g : Int))) z15) (p := p) (cl := cl) (N := N) (V := sN T ls.length + 2) (W := W) (u := nd T k g) (v := nd T k g + 1) (x := 0) (op_p (op_p rfl rfl r1) rfl r2) (op_p (op_p rfl rfl r3) (op_p (a := .int (g : Int)) (b := .int 1) (c := .int ((g + 1 : Nat) : Int)) rfl rfl rfl) r4) rfl L (by omega) (by omega) (by omega) rfl
      refine ⟨_, ?_, w2⟩
      refine (if_then_w (of_pure t1)).trans ?_
      unfold sExpr
      have hs := waysD_snoc T ls.length W ⟨nd T k g, nd T k g + 1, 1, 0⟩
      rw [if_neg (show ¬ isJob T ls.length ⟨nd T k g, nd T k g + 1, 1, 0⟩ = true by unfold isJob; simp; omega), List.append_nil] at hs
      have hg : gE ns P f ls T tD (W ++ [⟨nd T k g, nd T k g + 1, 1, 0⟩]) (.sh (.int (k : Int))) (.sh (.int (g : Int))) z15 = gE ns P f ls T tD W (.sh (.int (k : Int))) (.sh (.int (g : Int))) z15 := congrArg (fun wd => gD ns P f ls T tD wd _ _ _) hs
      rw [bind_w w1, hg]
      rfl
    · rw [decide_eq_false (by omega)] at t1
      rw [if_neg h, List.append_nil]
      exact ⟨N, (if_else_w (of_pure t1)).trans rfl, L⟩
  obtain ⟨W1, hW1⟩ : ∃ W1 : List Wy, W1 = W ++ (if g < T then [⟨nd T k g, nd T k g + 1, 1, 0⟩] else []) := ⟨_, rfl⟩
  rw [← hW1] at e1 L1 ⊢
  have hW1l : W1.length ≤ 201 := by
    rw [hW1, List.length_append]
    split <;> simp <;> omega
  -- the run
  unfold stepB
  have t2 : (xTest (xOp fLt (xVar 3) (xCall fLen (xCons (xVar 4) xNil)))) (gE ns P f ls T tD W1 (.sh (.int (k : Int))) (.sh (.int (g : Int))) z15) = pure (decide ((k : Int) < (ls.length : Int))) := test_p (op_p rfl (call_p (cons_p rfl nil_p) (len_dN ls)) rfl)
  by_cases hkn : k < ls.length
  · rw [decide_eq_true (by omega)] at t2
    have hm : ls.getD k 0 ∈ ls := by rw [List.getD_eq_getElem?_getD, List.getElem?_eq_getElem hkn]; exact List.getElem_mem hkn
    have hlk := hl _ hm
    have hix := dN_ix hkn
    obtain ⟨l, hle⟩ : ∃ l, l = ls.getD k 0 := ⟨_, rfl⟩
    rw [← hle] at hlk hix ⊢
    have t3 : (xTest (xOp fLe (xOp fAdd (xVar 14) (xOp fIx (xVar 4) (xVar 3))) (xOp fSub (xVar 6) (xVar 5)))) (gE ns P f ls T tD W1 (.sh (.int (k : Int))) (.sh (.int (g : Int))) z15) = pure (decide ((g : Int) + (l : Int) ≤ (T : Int))) := test_p (op_p (op_p (a := .int (g : Int)) (b := .int (l : Int)) rfl (op_p rfl rfl hix) rfl) (op_p rfl rfl (tw T f)) rfl)
    by_cases hgl : g + l ≤ T
    · rw [decide_eq_true (by omega)] at t3
      rw [if_pos (show k < ls.length ∧ g + l ≤ T from ⟨hkn, hgl⟩)]
      have hc : xComp [16] (iR1 (xCons (xOp fIx (xVar 4) (xVar 3)) xNil)) (gNm 16) tYesF (xOp fIx (xVar 2) (xOp fMod (xCall fInt (xCons (xOp fAdd (xOp fAdd (xVar 5) (xVar 14)) (xVar 16)) xNil)) (xCall fLen (xCons (xVar 2) xNil)))) (gE ns P f ls T tD W1 (.sh (.int (k : Int))) (.sh (.int (g : Int))) z15) = pure (((List.range l).map fun j => P.getD ((f + g + j) % P.length) 0).map .int) := by
        refine xComp_p (xs := rangeL 0 (l : Int)) (iR1_p (cons_p (op_p rfl rfl hix) nil_p) (small62_nat (by omega))) rfl ?_ ?_
        · rw [rangeL_ups, List.length_map, ups_len]; unfold line; omega
        · rw [rangeL0, List.map_map]
          refine compL_all (fun (k : Nat) => PyData.int (k : Int)) _ _ fun j hj => ⟨_, rfl, op_p rfl (op_p (a := .int ((f : Int) + g + (j : Int))) (call_p (cons_p (op_p (a := .int ((f : Int) + g)) (b := .int (j : Int)) (op_p rfl rfl rfl) rfl rfl) nil_p) rfl) (call_p (cons_p rfl nil_p) (len_dI P)) ?_) (dI_getD (j := (f + g + j) % P.length) (Nat.mod_lt _ h0))⟩
          rw [fMod_pos (by omega)]
          congr 2
      have hcv : (xCall fSum (xCons (xAs (xComp [16] (iR1 (xCons (xOp fIx (xVar 4) (xVar 3)) xNil)) (gNm 16) tYesF (xOp fIx (xVar 2) (xOp fMod (xCall fInt (xCons (xOp fAdd (xOp fAdd (xVar 5) (xVar 14)) (xVar 16)) xNil)) (xCall fLen (xCons (xVar 2) xNil)))))) xNil)) (gE ns P f ls T tD W1 (.sh (.int (k : Int))) (.sh (.int (g : Int))) z15) = pure (.int (sumW P (f + g) l)) := call_p (cons_p (xAs_p hc) nil_p) (fSum_ints _)
      obtain ⟨r, r1, r2⟩ := nodes_ix (T := T) hk hg
      obtain ⟨r', r3, r4⟩ := nodes_ix (T := T) (n := ls.length) (k := k + 1) (g := g + l) hkn hgl
      have hn2 : nd T (k + 1) (g + l) < sN T ls.length := nd_lt hgl hkn
      obtain ⟨w1, w2⟩ := way_w (a := xOp fIx (xOp fIx (xVar 9) (xVar 3)) (xVar 14)) (b := xOp fIx (xOp fIx (xVar 9) (xOp fAdd (xVar 3) (xC (.int 1)))) (xOp fAdd (xVar 14) (xOp fIx (xVar 4) (xVar 3)))) (c := xVar 15) (env := gE ns P f ls T tD W1 (.sh (.int (k : Int))) (.sh (.int (g : Int))) (.sh (.int (sumW P (f + g) l)))) (p := p) (cl := cl) (N := N1) (V := sN T ls.length + 2) (W := W1) (u := nd T k g) (v := nd T (k + 1) (g + l)) (x := sumW P (f + g) l) (op_p (op_p rfl rfl r1) rfl r2) (op_p (op_p rfl (op_p (a := .int (k : Int)) (b := .int 1) (c := .int ((k + 1 : Nat) : Int)) rfl rfl rfl) r3) (op_p (a := .int (g : Int)) (b := .int (l : Int)) (c := .int ((g + l : Nat) : Int)) rfl (op_p rfl rfl hix) rfl) r4) rfl L1 (by omega) (by omega) (by omega) rfl
      refine ⟨_, .sh (.int (sumW P (f + g) l)), ?_, w2, .sh⟩
      refine seq_to e1 ((if_then_w (of_pure (and_t t2 t3))).trans ?_)
      refine seq_to (env1 := gE ns P f ls T tD W1 (.sh (.int (k : Int))) (.sh (.int (g : Int))) (.sh (.int (sumW P (f + g) l)))) (w1 := ⟨p, cl, some N1⟩) (of_pure (asg_p hcv rfl)) ?_
      refine seq_to (env1 := gE ns P f ls T tD W1 (.sh (.int (k : Int))) (.sh (.int (g : Int))) (.sh (.int (sumW P (f + g) l)))) (w1 := ⟨p, cl, some N1⟩) (of_pure (if_skip (test_p (op_p (a := .int (sumW P (f + g) l)) rfl (call_p (cons_p rfl (cons_p (op_p (a := .int (f : Int)) (b := .int (g : Int)) (c := .int ((f + g : Nat) : Int)) rfl rfl rfl) (cons_p (op_p rfl rfl hix) nil_p))) (costf_run P h0 h1 (f + g) l (by omega))) (by rw [fNe_int, decide_eq_true rfl]; rfl))))) ?_
      refine (app_w (i := 13) (x := .tuple [.int ((2 * W1.length : Nat) : Int), .int (sumW P (f + g) l)]) (tup_w (cons_w w1 (cons_w rfl rfl)) (show 2 ≤ line by decide)) rfl ?_).trans ?_
      · unfold waysD jobsI
        rw [List.length_map]
        have := List.length_filter_le (fun i => isJob T ls.length (W1.getD i wy0)) (List.range W1.length)
        rw [List.length_range] at this
        unfold line; omega
      · have hj : isJob T ls.length ⟨nd T k g, nd T (k + 1) (g + l), 1, sumW P (f + g) l⟩ = true := by
          unfold isJob
          refine decide_eq_true ⟨?_, hn2⟩
          show nd T k g + (T + 1) ≤ nd T (k + 1) (g + l)
          unfold nd
          rw [Nat.mul_add, Nat.mul_one]
          omega
        have hs := waysD_snoc T ls.length W1 ⟨nd T k g, nd T (k + 1) (g + l), 1, sumW P (f + g) l⟩
        rw [if_pos hj] at hs
        have hg : gE ns P f ls T tD (W1 ++ [⟨nd T k g, nd T (k + 1) (g + l), 1, sumW P (f + g) l⟩]) (.sh (.int (k : Int))) (.sh (.int (g : Int))) (.sh (.int (sumW P (f + g) l))) = _ := congrArg (fun wd => gD ns P f ls T tD wd _ _ _) hs
        rw [hg]
        rfl
    · rw [decide_eq_false (by omega)] at t3
      rw [if_neg (show ¬ (k < ls.length ∧ g + l ≤ T) from fun h => hgl h.2), List.append_nil]
      exact ⟨N1, z15, seq_to e1 ((if_else_w (of_pure (and_t t2 t3))).trans rfl), L1, hp⟩
  · rw [decide_eq_false (by omega)] at t2
    rw [if_neg (show ¬ (k < ls.length ∧ _) from fun h => hkn h.1), List.append_nil]
    exact ⟨N1, z15, seq_to e1 ((if_else_w (of_pure (and_f t2))).trans rfl), L1, hp⟩
theorem wsN_succ (j : Nat) : wsN P f ls T (j + 1) = wsN P f ls T j ++ wj P f ls T j := by
  unfold wsN
  rw [List.range_succ, List.flatMap_append, List.cons_append]
  congr 2
  simp
def stepsB : SF := (sFor (iR1 (xCons (xOp fAdd (xOp fSub (xVar 6) (xVar 5)) (xC (.int 1))) xNil)) (gNm 14) stepB)
include h0 h1 hT hl hlen in
theorem steps_run (N : Net) (k : Nat) (z14 z15 : Slot) (p : Int) (cl : List Int) (L : Laid (sN T ls.length + 2) (wsN P f ls T (nd T k 0)) N) (hk : k ≤ ls.length) (hp : pl z15) :
    ∃ N' z14' z15', stepsB (gE ns P f ls T tD (wsN P f ls T (nd T k 0)) (.sh (.int (k : Int))) z14 z15) ⟨p, cl, some N⟩ = some ((.nx, gE ns P f ls T tD (wsN P f ls T (nd T (k + 1) 0)) (.sh (.int (k : Int))) z14' z15'), ⟨p, cl, some N'⟩) ∧ Laid (sN T ls.length + 2) (wsN P f ls T (nd T (k + 1) 0)) N' ∧ pl z15' := by
  obtain ⟨env', w', e1, N', z14', z15', rfl, rfl, q1, q2⟩ := for_inv_w (g := gNm 14) (body := stepB) (fun g env w => ∃ N' z14' z15', env = gE ns P f ls T tD (wsN P f ls T (nd T k g)) (.sh (.int (k : Int))) z14' z15' ∧ w = ⟨p, cl, some N'⟩ ∧ Laid (sN T ls.length + 2) (wsN P f ls T (nd T k g)) N' ∧ pl z15')
    (rangeL 0 ((T + 1 : Nat) : Int)) 0 _ _ ⟨N, z14, z15, rfl, rfl, L, hp⟩ (fun g x env w hg ⟨N', z14', z15', hz, hw, q1, q2⟩ => by
      subst hz; subst hw
      rw [Nat.zero_add] at q1 ⊢
      obtain ⟨rfl, hgl⟩ := rangeL0_get hg
      obtain ⟨N2, z15'', e1, e2, e3⟩ := step_run ns P f ls T tD h0 h1 hT hl hlen _ N' k g z15' p cl rfl q1 hk (by omega) q2
      rw [← wsN_succ, show nd T k g + 1 = nd T k (g + 1) by unfold nd; omega] at e1 e2
      exact ⟨_, .nx, _, _, rfl, e1, .inl rfl, N2, _, _, rfl, rfl, e2, e3⟩)
  have hlen : 0 + (rangeL 0 ((T + 1 : Nat) : Int)).length = T + 1 := by rw [rangeL_ups, List.length_map, ups_len]; omega
  have hnd : nd T k (0 + (rangeL 0 ((T + 1 : Nat) : Int)).length) = nd T (k + 1) 0 := by
    rw [hlen]
    unfold nd
    rw [Nat.mul_add, Nat.mul_one]
    omega
  rw [hnd] at q1 e1
  exact ⟨N', z14', z15', for_w (of_pure (iR1_p (j := ((T + 1 : Nat) : Int)) (cons_p (op_p (a := .int (T : Int)) (op_p rfl rfl (tw T f)) rfl rfl) nil_p) (small62_nat (by omega)))) e1, q1, q2⟩
include h0 h1 hT hl hlen in
theorem ways_run (N : Net) (p : Int) (cl : List Int) (L : Laid (sN T ls.length + 2) (wsN P f ls T 0) N) : ∃ N' z3 z14 z15, (sFor (iR1 (xCons (xOp fAdd (xCall fLen (xCons (xVar 4) xNil)) (xC (.int 1))) xNil)) (gNm 3) stepsB) (gE ns P f ls T tD (wsN P f ls T 0) .no .no .no) ⟨p, cl, some N⟩ =
    some ((.nx, gE ns P f ls T tD (wsN P f ls T (sN T ls.length)) z3 z14 z15), ⟨p, cl, some N'⟩) ∧ Laid (sN T ls.length + 2) (wsN P f ls T (sN T ls.length)) N' ∧ pl z15 ∧ pl z3 := by
  obtain ⟨env', w', e1, N', z3, z14, z15, rfl, rfl, q1, q2, q3⟩ := for_inv_w (g := gNm 3) (body := stepsB) (fun k env w => ∃ N' z3 z14 z15, env = gE ns P f ls T tD (wsN P f ls T (nd T k 0)) z3 z14 z15 ∧ w = ⟨p, cl, some N'⟩ ∧ Laid (sN T ls.length + 2) (wsN P f ls T (nd T k 0)) N' ∧ pl z15 ∧ pl z3)
    (rangeL 0 ((ls.length + 1 : Nat) : Int)) 0 (gE ns P f ls T tD (wsN P f ls T 0) .no .no .no) ⟨p, cl, some N⟩ ⟨N, .no, .no, .no, rfl, rfl, L, .no, .no⟩ (fun k x env w hk ⟨N', z3, z14, z15, hz, hw, q1, q2, q3⟩ => by
      subst hz; subst hw
      rw [Nat.zero_add] at q1 ⊢
      obtain ⟨rfl, hkl⟩ := rangeL0_get hk
      obtain ⟨N2, z14', z15', e1, e2, e3⟩ := steps_run ns P f ls T tD h0 h1 hT hl hlen N' k z14 z15 p cl q1 (by omega) q2
      exact ⟨_, .nx, _, _, rfl, e1, .inl rfl, N2, _, _, _, rfl, rfl, e2, e3, .sh⟩)
  have hlen : 0 + (rangeL 0 ((ls.length + 1 : Nat) : Int)).length = ls.length + 1 := by rw [rangeL_ups, List.length_map, ups_len]; omega
  have hnd : nd T (0 + (rangeL 0 ((ls.length + 1 : Nat) : Int)).length) 0 = sN T ls.length := by
    rw [hlen]
    unfold nd sN
    omega
  rw [hnd] at q1 e1
  exact ⟨N', z3, z14, z15, for_w (of_pure (iR1_p (j := ((ls.length + 1 : Nat) : Int)) (cons_p (op_p (call_p (cons_p rfl nil_p) (len_dN ls)) rfl rfl) nil_p) (small62_nat (by omega)))) e1, q1, q2, q3⟩
end
/-! what the ways carry -/
theorem perm_sum {xs ys : List Int} (h : xs.Perm ys) : xs.sum = ys.sum := by
  induction h with
  | nil => rfl
  | cons x _ ih => rw [List.sum_cons, List.sum_cons, ih]
  | swap x y l => simp only [List.sum_cons]; omega
  | trans _ _ h1 h2 => exact h1.trans h2
theorem sum_filter (p : Nat → Bool) (c : Nat → Int) : ∀ xs : List Nat, (∀ i ∈ xs, p i = false → c i = 0) → ((xs.filter p).map c).sum = (xs.map c).sum
  | [], _ => rfl
  | x :: r, h => by
    have ih := sum_filter p c r fun i hi => h i (List.mem_cons_of_mem _ hi)
    cases q : p x with
    | true => rw [List.filter_cons_of_pos q, List.map_cons, List.map_cons, List.sum_cons, List.sum_cons, ih]
    | false =>
      rw [List.filter_cons_of_neg (by rw [q]; exact Bool.false_ne_true), List.map_cons, List.sum_cons, h x List.mem_cons_self q, ih]
      omega
theorem carried_sum (T n : Nat) {W : List Wy} {row : List Nat} (hn : row.Nodup) (hr : ∀ e ∈ row, ∃ i, e = 2 * i ∧ i < W.length) (h0 : ∀ x ∈ W, isJob T n x = false → x.c = 0) :
    (((jobsI T n W).filter fun i => decide (2 * i ∈ row)).map fun i => (W.getD i wy0).c).sum = (row.map (cst W)).sum := by
  have e1 : (jobsI T n W).filter (fun i => decide (2 * i ∈ row)) = ((List.range W.length).filter fun i => decide (2 * i ∈ row)).filter fun i => isJob T n (W.getD i wy0) := by
    unfold jobsI
    rw [List.filter_filter, List.filter_filter]
    congr 1
    funext i
    exact Bool.and_comm _ _
  rw [e1, sum_filter]
  · have hp : (((List.range W.length).filter fun i => decide (2 * i ∈ row)).map fun i => 2 * i).Perm row := by
      have hpw : (((List.range W.length).filter fun i => decide (2 * i ∈ row)).map fun i => 2 * i).Pairwise (· < ·) := by
        rw [List.pairwise_map]
        exact (List.pairwise_lt_range.filter _).imp fun h => by omega
      refine (List.perm_ext_iff_of_nodup (hpw.imp fun h => Nat.ne_of_lt h) hn).mpr fun y => ?_
      rw [List.mem_map]
      constructor
      · rintro ⟨i, hi, rfl⟩
        exact of_decide_eq_true (List.mem_filter.mp hi).2
      · intro hy
        obtain ⟨i, rfl, hi⟩ := hr y hy
        exact ⟨i, List.mem_filter.mpr ⟨List.mem_range.mpr hi, decide_eq_true hy⟩, rfl⟩
    have h1 := perm_sum (hp.map (cst W))
    rw [List.map_map] at h1
    rw [← h1]
    refine congrArg List.sum (List.map_congr_left fun i hi => ?_)
    show _ = cst W (2 * i)
    unfold cst
    rw [show 2 * i / 2 = i by omega]
  · intro i hi hj
    have hil := List.mem_range.mp (List.mem_filter.mp hi).1
    have hm : W.getD i wy0 ∈ W := by
      rw [List.getD_eq_getElem?_getD, List.getElem?_eq_getElem hil]
      exact List.getElem_mem hil
    exact h0 _ hm hj
end VE

namespace VE
open PySem
theorem par_w {i j : Nat} {f : AF} {env : En} {w w1 : W} {x y : D} (h : f env w = some ([x, y], w1)) : sPar i j f env w = some ((.nx, (env.set i (.sh x)).set j (.sh y)), w1) := by
  unfold sPar
  rw [bind_w h]
  rfl
theorem srt_w {s r : SF} {env : En} {w : W} {x : D} (h : ∃ e w', s env w = some ((.rt x, e), w')) : ∃ e w', sSeq s r env w = some ((.rt x, e), w') := by
  obtain ⟨e, w', h⟩ := h
  exact ⟨e, w', seq_rt_w h⟩
theorem ife_w {t : TF} {f g : SF} {env : En} {w : W} {fl : Fl} (h : t env = pure true) (k : ∃ e w', f env w = some ((fl, e), w')) : ∃ e w', sIf t f g env w = some ((fl, e), w') := by
  obtain ⟨e, w', k⟩ := k
  exact ⟨e, w', (if_then_w (of_pure h)).trans k⟩
/-- so many nodes more -/
def bare (n : Nat) : Net := ⟨List.replicate n [], [], [], []⟩
theorem bare_node (n : Nat) (h : n < 1000) : net_nodeF [] (bare n) = some (.int (n : Int), bare (n + 1)) := by
  rw [node_run' (bare n) (by show (List.replicate n ([] : List Int)).length < line; rw [List.length_replicate]; unfold line; omega)]
  show some (PyData.int ((List.replicate n ([] : List Int)).length : Int), addN (bare n)) = _
  rw [List.length_replicate]
  unfold addN bare
  rw [List.replicate_succ']
theorem bare_w {env : En} {n : Nat} {p : Int} {cl : List Int} (h : n < 1000) (hs : env[8]? = some (.st 8)) : xNCall 8 net_nodeF xNil env ⟨p, cl, some (bare n)⟩ = some (.int (n : Int), ⟨p, cl, some (bare (n + 1))⟩) :=
  ncall_w (w1 := ⟨p, cl, some (bare n)⟩) rfl hs rfl (bare_node n h)
theorem law_run (ns : List Int) (_ : ns.length ≤ 63) : ∃ env' w', lawB 300 ((Slot.fz ns :: List.replicate 19 Slot.no).set 1 (.st 1)) ⟨0, stateCells ns, none⟩ = some ((.rt (.bool true), env'), w') := by
  show ∃ env' w', lawB 300 [.fz ns, .st 1, .no, .no, .no, .no, .no, .no, .no, .no, .no, .no, .no, .no, .no, .no, .no, .no, .no, .no] ⟨0, stateCells ns, none⟩ = some ((.rt (.bool true), env'), w')
  unfold lawB
  -- prices
  obtain ⟨n0, w1, e1, a0, a1, hw1, ob1⟩ := take_ok2 (show (0:Int) < 5 by decide) (by decide) (w := ⟨0, stateCells ns, none⟩) (cells_pos ns)
  obtain ⟨np, hnp⟩ : ∃ np : Nat, (np : Int) = 2 + n0 := ⟨(2 + n0).toNat, by omega⟩
  obtain ⟨P, w2, e2, hPl, _, hw2, ob2⟩ := compL_w (g := gNm 3) (f := xTake 1 (xC (.int 8))) (env := [.fz ns, .st 1, .no, .no, .no, .no, .no, .no, .no, .no, .no, .no, .no, .no, .no, .no, .no, .no, .no, .no]) PyData.int PyData.int (fun _ (y : Int) => True) (fun w => 0 < w.cells.length ∧ w.ob = none) (ups np) w1 ⟨hw1, ob1⟩ (fun x _ w hw => by
    obtain ⟨r, w', h1, h2, h3, h4, h5⟩ := take_ok2 (show (0:Int) < 8 by decide) (by decide) hw.1
    exact ⟨_, r, w', rfl, xTake_w rfl rfl h1, trivial, h4, h5.trans hw.2⟩)
  rw [ups_len] at hPl
  refine st_w (env1 := [.fz ns, .st 1, .sh (dI P), .no, .no, .no, .no, .no, .no, .no, .no, .no, .no, .no, .no, .no, .no, .no, .no, .no]) (asg_w (xAs_w (xComp_ww (xs := (ups np).map .int) (ys := P.map .int) ?_ rfl (by rw [List.length_map, ups_len]; unfold line; omega) e2)) rfl) ?_
  · rw [← rangeL_ups]
    exact iR1_w (cons_w (xOp_w (b := .int n0) rfl (xTake_w rfl rfl e1) (show some (PyData.int (2 + n0)) = _ by rw [hnp])) rfl) (small62_nat (by omega))
  have h0 : 0 < P.length := by omega
  have h1 : P.length ≤ 1000000 := by omega
  -- lengths
  obtain ⟨n1, w3, e3, b0, b1, hw3, ob3⟩ := take_ok2 (show (0:Int) < 4 by decide) (by decide) hw2
  obtain ⟨nl, hnl⟩ : ∃ nl : Nat, (nl : Int) = n1 := ⟨n1.toNat, by omega⟩
  obtain ⟨ls, w4, e4, hll, hlr, hw4, ob4⟩ := compL_w (g := gNm 3) (f := xOp fAdd (xC (.int 1)) (xTake 1 (xC (.int 3)))) (env := [.fz ns, .st 1, .sh (dI P), .no, .no, .no, .no, .no, .no, .no, .no, .no, .no, .no, .no, .no, .no, .no, .no, .no]) PyData.int (fun (n : Nat) => PyData.int (n : Int)) (fun _ (y : Nat) => 1 ≤ y ∧ y ≤ 3) (fun w => 0 < w.cells.length ∧ w.ob = none) (ups nl) w3 ⟨hw3, ob3.trans ob2⟩ (fun x _ w hw => by
    obtain ⟨r, w', h1, h2, h3, h4, h5⟩ := take_ok2 (show (0:Int) < 3 by decide) (by decide) hw.1
    obtain ⟨y, hy⟩ : ∃ y : Nat, (y : Int) = 1 + r := ⟨(1 + r).toNat, by omega⟩
    exact ⟨_, y, w', rfl, xOp_w (b := .int r) rfl (xTake_w rfl rfl h1) (show some (PyData.int (1 + r)) = _ by rw [hy]), by omega, h4, h5.trans hw.2⟩)
  rw [ups_len] at hll
  have hl : ∀ l ∈ ls, 1 ≤ l ∧ l ≤ 3 := fun l hm => by
    obtain ⟨i, hi, rfl⟩ := List.getElem_of_mem hm
    exact hlr i _ _ (List.getElem?_eq_getElem (by rw [ups_len]; omega)) (List.getElem?_eq_getElem hi)
  have hlen : ls.length ≤ 3 := by omega
  have hl2 : ∀ l ∈ ls, l ≤ 100000 := fun l hm => by have := hl l hm; omega
  refine st_w (env1 := [.fz ns, .st 1, .sh (dI P), .no, .sh (dN ls), .no, .no, .no, .no, .no, .no, .no, .no, .no, .no, .no, .no, .no, .no, .no]) (asg_w (xAs_w (xComp_ww (xs := (ups nl).map .int) (ys := ls.map fun (n : Nat) => PyData.int (n : Int)) ?_ rfl (by rw [List.length_map, ups_len]; unfold line; omega) e4)) rfl) ?_
  · rw [← rangeL_ups, hnl]
    exact iR1_w (cons_w (xTake_w rfl rfl e3) rfl) (by rw [← hnl]; exact small62_nat (by omega))
  -- first and last
  obtain ⟨f0, w5, e5, c0, c1, hw5, ob5⟩ := take_ok2 (show (0:Int) < 9 by decide) (by decide) hw4
  obtain ⟨f, hf⟩ : ∃ f : Nat, (f : Int) = f0 := ⟨f0.toNat, by omega⟩
  obtain ⟨t0, w6, e6, d0, d1, hw6, ob6⟩ := take_ok2 (show (0:Int) < 11 by decide) (by decide) hw5
  obtain ⟨T, hTe⟩ : ∃ T : Nat, (T : Int) = t0 := ⟨t0.toNat, by omega⟩
  have hT : T ≤ 10 := by omega
  refine st_w (env1 := [.fz ns, .st 1, .sh (dI P), .no, .sh (dN ls), .sh (.int (f : Int)), .no, .no, .no, .no, .no, .no, .no, .no, .no, .no, .no, .no, .no, .no]) (asg_w (xTake_w rfl rfl e5) (by rw [hf]; rfl)) ?_
  refine st_w (env1 := [.fz ns, .st 1, .sh (dI P), .no, .sh (dN ls), .sh (.int (f : Int)), .sh (.int ((f + T : Nat) : Int)), .no, .no, .no, .no, .no, .no, .no, .no, .no, .no, .no, .no, .no]) (asg_w (xOp_w (a := .int (f : Int)) (b := .int t0) rfl (xTake_w rfl rfl e6) (show some (PyData.int ((f : Int) + t0)) = some (.int ((f + T : Nat) : Int)) by rw [← hTe]; rfl)) rfl) ?_
  have hsT : ∀ (tD : D), (xOp fGt (xCall fSum (xCons (xVar 4) xNil)) (xOp fSub (xVar 6) (xVar 5))) [.fz ns, .st 1, .sh (dI P), .no, .sh (dN ls), .sh (.int (f : Int)), .sh (.int ((f + T : Nat) : Int)), .sh tD, .no, .no, .no, .no, .no, .no, .no, .no, .no, .no, .no, .no] = pure (.bool (decide ((T : Int) < (ls.sum : Int)))) := fun tD => op_p (call_p (cons_p rfl nil_p) (fSum_dN ls)) (op_p rfl rfl (tw T f)) rfl
  by_cases hS : ls.sum ≤ T
  · -- there is time
    obtain ⟨E, c, hrow, hc, hR⟩ := row_run P f ls T h0 h1 (by omega) hl2 (by omega) 300 (by omega) hS
    obtain ⟨tD, htD⟩ : ∃ tD : D, tD = .tuple [sStarts, .list (nS f E), .int c, .list (tabsD P f ls T ls.length)] := ⟨_, rfl⟩
    have hfl := rfault_run P f ls T h0 h1 (by omega) hl2 (by omega) c E hS hc hR
    rw [← htD] at hrow hfl
    have i0 : fIx tD (.int 0) = some sStarts := by rw [htD]; rfl
    have i1 : fIx tD (.int 1) = some (.list (nS f E)) := by rw [htD]; rfl
    have i2 : fIx tD (.int 2) = some (.int c) := by rw [htD]; rfl
    refine st_w (env1 := [.fz ns, .st 1, .sh (dI P), .no, .sh (dN ls), .sh (.int (f : Int)), .sh (.int ((f + T : Nat) : Int)), .sh tD, .no, .no, .no, .no, .no, .no, .no, .no, .no, .no, .no, .no]) (w1 := w6) (of_pure (asg_p (call_p (cons_p rfl (cons_p rfl (cons_p rfl (cons_p rfl nil_p)))) hrow) rfl)) ?_
    have hq : (xOp fEq (xOp fIx (xVar 7) (xC (.int 0))) (xC (.str (Str.ofString "long")))) [.fz ns, .st 1, .sh (dI P), .no, .sh (dN ls), .sh (.int (f : Int)), .sh (.int ((f + T : Nat) : Int)), .sh tD, .no, .no, .no, .no, .no, .no, .no, .no, .no, .no, .no, .no] = pure (.bool false) := op_p (op_p rfl rfl i0) rfl eq_sl
    refine st_w (env1 := [.fz ns, .st 1, .sh (dI P), .no, .sh (dN ls), .sh (.int (f : Int)), .sh (.int ((f + T : Nat) : Int)), .sh tD, .no, .no, .no, .no, .no, .no, .no, .no, .no, .no, .no, .no]) (w1 := w6) (of_pure (if_skip (or_f (test_p (un_p (call_p (cons_p rfl (cons_p rfl (cons_p rfl (cons_p rfl (cons_p rfl nil_p))))) hfl) rfl)) (test_p (op_p hq (hsT tD) (by rw [fNe_bool, decide_eq_false (by omega)]; rfl)))))) ?_
    refine st_w (env1 := [.fz ns, .st 1, .sh (dI P), .no, .sh (dN ls), .sh (.int (f : Int)), .sh (.int ((f + T : Nat) : Int)), .sh tD, .no, .no, .no, .no, .no, .no, .no, .no, .no, .no, .no, .no]) (w1 := w6) (of_pure (if_skip (test_p hq))) ?_
    -- the net
    have hob : w6.ob = none := by rw [ob6, ob5, ob4]
    obtain ⟨p, cl, o6⟩ := w6
    have hob : o6 = none := hob
    subst hob
    refine st_w (env1 := [.fz ns, .st 1, .sh (dI P), .no, .sh (dN ls), .sh (.int (f : Int)), .sh (.int ((f + T : Nat) : Int)), .sh tD, .st 8, .no, .no, .no, .no, .no, .no, .no, .no, .no, .no, .no]) (w1 := ⟨p, cl, some (bare 0)⟩) rfl ?_
    have hsn : sN T ls.length ≤ 44 := by
      unfold sN
      exact Nat.mul_le_mul (show T + 1 ≤ 11 by omega) (show ls.length + 1 ≤ 4 by omega)
    have hndk : ∀ k g, k ≤ ls.length → g ≤ T → nd T k g < sN T ls.length := fun k g h1 h2 => nd_lt h2 h1
    -- a row of nodes
    have hrowN : ∀ k, k ≤ ls.length → xComp [10] (iR2 (xCons (xVar 5) (xCons (xOp fAdd (xVar 6) (xC (.int 1))) xNil))) (gNm 10) tYesF (xNCall 8 net_nodeF xNil) [.fz ns, .st 1, .sh (dI P), .sh (.int (k : Int)), .sh (dN ls), .sh (.int (f : Int)), .sh (.int ((f + T : Nat) : Int)), .sh tD, .st 8, .no, .no, .no, .no, .no, .no, .no, .no, .no, .no, .no] ⟨p, cl, some (bare (nd T k 0))⟩ =
        some ((List.range (T + 1)).map fun g => PyData.int ((nd T k g : Nat) : Int), ⟨p, cl, some (bare (nd T (k + 1) 0))⟩) := fun k hk => by
      obtain ⟨w', q1, q2⟩ := compL_seq (g := gNm 10) (f := xNCall 8 net_nodeF xNil) (env := [.fz ns, .st 1, .sh (dI P), .sh (.int (k : Int)), .sh (dN ls), .sh (.int (f : Int)), .sh (.int ((f + T : Nat) : Int)), .sh tD, .st 8, .no, .no, .no, .no, .no, .no, .no, .no, .no, .no, .no]) (fun (j : Nat) => PyData.int ((f : Int) + (j : Int))) (fun j => PyData.int ((nd T k j : Nat) : Int)) (fun j w => w = ⟨p, cl, some (bare (nd T k j))⟩) (List.range (T + 1)) 0 ⟨p, cl, some (bare (nd T k 0))⟩ rfl (fun j x w hj hw => by
        subst hw
        rw [Nat.zero_add]
        have hjl : j < T + 1 := by have := (List.getElem?_eq_some_iff.mp hj).1; rwa [List.length_range] at this
        have := hndk k j hk (by omega)
        refine ⟨_, _, rfl, bare_w (by omega) rfl, ?_⟩
        rw [show nd T k (j + 1) = nd T k j + 1 by unfold nd; omega])
      rw [List.length_range, Nat.zero_add, show nd T k (T + 1) = nd T (k + 1) 0 by unfold nd; rw [Nat.mul_add, Nat.mul_one]; omega] at q2
      rw [List.length_range] at q1
      subst q2
      have e7 : (List.range (T + 1)).map (fun i => PyData.int ((nd T k (0 + i) : Nat) : Int)) = (List.range (T + 1)).map fun g => PyData.int ((nd T k g : Nat) : Int) := List.map_congr_left fun i _ => by rw [Nat.zero_add]
      rw [e7] at q1
      have hrg : rangeL (f : Int) (((f + T : Nat) : Int) + 1) = (List.range (T + 1)).map fun (j : Nat) => PyData.int ((f : Int) + (j : Int)) := by
        unfold rangeL
        rw [show (((f + T : Nat) : Int) + 1 - (f : Int)).toNat = T + 1 by omega]
      refine xComp_ww (xs := (List.range (T + 1)).map fun (j : Nat) => PyData.int ((f : Int) + (j : Int))) ?_ rfl (by rw [List.length_map, List.length_range]; unfold line; omega) q1
      rw [← hrg]
      exact of_pure (iR2_p (cons_p rfl (cons_p (op_p rfl rfl rfl) nil_p)) (small62_nat (by omega)) (by have := small62_nat (n := f + T + 1) (by omega); exact this))
    obtain ⟨w7, e7, hw7⟩ := compL_seq (g := gNm 3) (f := xAs (xComp [10] (iR2 (xCons (xVar 5) (xCons (xOp fAdd (xVar 6) (xC (.int 1))) xNil))) (gNm 10) tYesF (xNCall 8 net_nodeF xNil))) (env := [.fz ns, .st 1, .sh (dI P), .no, .sh (dN ls), .sh (.int (f : Int)), .sh (.int ((f + T : Nat) : Int)), .sh tD, .st 8, .no, .no, .no, .no, .no, .no, .no, .no, .no, .no, .no]) (fun (j : Nat) => PyData.int (j : Int)) (fun k => .list ((List.range (T + 1)).map fun g => PyData.int ((nd T k g : Nat) : Int))) (fun k w => w = ⟨p, cl, some (bare (nd T k 0))⟩) (List.range (ls.length + 1)) 0 ⟨p, cl, some (bare (nd T 0 0))⟩ rfl (fun k x w hk hw => by
      subst hw
      rw [Nat.zero_add]
      have hkl : k < ls.length + 1 := by have := (List.getElem?_eq_some_iff.mp hk).1; rwa [List.length_range] at this
      rw [List.getElem?_range hkl] at hk
      cases hk
      exact ⟨_, _, rfl, xAs_w (hrowN k (by omega)), rfl⟩)
    rw [List.length_range, Nat.zero_add, show nd T (ls.length + 1) 0 = sN T ls.length by unfold nd sN; omega] at hw7
    rw [List.length_range] at e7
    subst hw7
    have e8 : (List.range (ls.length + 1)).map (fun k => PyData.list ((List.range (T + 1)).map fun g => PyData.int ((nd T (0 + k) g : Nat) : Int))) = (List.range (ls.length + 1)).map fun k => PyData.list ((List.range (T + 1)).map fun g => PyData.int ((nd T k g : Nat) : Int)) := List.map_congr_left fun i _ => by rw [Nat.zero_add]
    rw [e8] at e7
    have hz0 : nd T 0 0 = 0 := by unfold nd; omega
    rw [hz0] at e7
    refine st_w (env1 := [.fz ns, .st 1, .sh (dI P), .no, .sh (dN ls), .sh (.int (f : Int)), .sh (.int ((f + T : Nat) : Int)), .sh tD, .st 8, .sh (nodesD T ls.length), .no, .no, .no, .no, .no, .no, .no, .no, .no, .no]) (w1 := ⟨p, cl, some (bare (sN T ls.length))⟩) (asg_w (xAs_w (xComp_ww (xs := (List.range (ls.length + 1)).map fun (j : Nat) => PyData.int (j : Int)) ?_ rfl (by rw [List.length_map, List.length_range]; unfold line; omega) e7)) rfl) ?_
    · rw [← rangeL0]
      exact of_pure (iR1_p (cons_p (op_p (call_p (cons_p rfl nil_p) (len_dN ls)) rfl rfl) nil_p) (small62_nat (by omega)))
    refine st_w (env1 := [.fz ns, .st 1, .sh (dI P), .no, .sh (dN ls), .sh (.int (f : Int)), .sh (.int ((f + T : Nat) : Int)), .sh tD, .st 8, .sh (nodesD T ls.length), .no, .sh (.int ((sN T ls.length : Nat) : Int)), .sh (.int ((sN T ls.length + 1 : Nat) : Int)), .no, .no, .no, .no, .no, .no, .no]) (w1 := ⟨p, cl, some (bare (sN T ls.length + 2))⟩) ((par_w (x := .int ((sN T ls.length : Nat) : Int)) (y := .int ((sN T ls.length + 1 : Nat) : Int)) (cons_w (bare_w (by omega) rfl) (cons_w (bare_w (by omega) rfl) rfl))).trans rfl) ?_
    -- the first way
    obtain ⟨r, r1, r2⟩ := nodes_ix (T := T) (n := ls.length) (k := 0) (g := 0) (by omega) (by omega)
    rw [hz0] at r2
    obtain ⟨y1, y2⟩ := way_w (a := xVar 11) (b := xOp fIx (xOp fIx (xVar 9) (xC (.int 0))) (xC (.int 0))) (c := xC (.int 0)) (env := [.fz ns, .st 1, .sh (dI P), .no, .sh (dN ls), .sh (.int (f : Int)), .sh (.int ((f + T : Nat) : Int)), .sh tD, .st 8, .sh (nodesD T ls.length), .no, .sh (.int ((sN T ls.length : Nat) : Int)), .sh (.int ((sN T ls.length + 1 : Nat) : Int)), .no, .no, .no, .no, .no, .no, .no]) (p := p) (cl := cl) (N := bare (sN T ls.length + 2)) (V := sN T ls.length + 2) (W := []) (u := sN T ls.length) (v := 0) (x := 0) rfl (op_p (op_p rfl rfl r1) rfl r2) rfl (laid_nil _) (by omega) (by omega) (by decide) rfl
    refine st_w (env1 := [.fz ns, .st 1, .sh (dI P), .no, .sh (dN ls), .sh (.int (f : Int)), .sh (.int ((f + T : Nat) : Int)), .sh tD, .st 8, .sh (nodesD T ls.length), .no, .sh (.int ((sN T ls.length : Nat) : Int)), .sh (.int ((sN T ls.length + 1 : Nat) : Int)), .no, .no, .no, .no, .no, .no, .no]) (w1 := ⟨p, cl, some (addW (bare (sN T ls.length + 2)) ⟨sN T ls.length, 0, 1, 0⟩)⟩) ?_ ?_
    · unfold sExpr
      rw [bind_w y1]
      rfl
    have L0 : Laid (sN T ls.length + 2) (wsN P f ls T 0) (addW (bare (sN T ls.length + 2)) ⟨sN T ls.length, 0, 1, 0⟩) := y2
    have hwd0 : waysD T ls.length (wsN P f ls T 0) = [] := by
      have := waysD_snoc T ls.length [] ⟨sN T ls.length, 0, 1, 0⟩
      rw [if_neg (show ¬ isJob T ls.length ⟨sN T ls.length, 0, 1, 0⟩ = true by unfold isJob; simp)] at this
      exact this
    refine st_w (env1 := gE ns P f ls T tD (wsN P f ls T 0) .no .no .no) (w1 := ⟨p, cl, some (addW (bare (sN T ls.length + 2)) ⟨sN T ls.length, 0, 1, 0⟩)⟩) ?_ ?_
    · have hg : gE ns P f ls T tD (wsN P f ls T 0) .no .no .no = _ := congrArg (fun wd => gD ns P f ls T tD wd .no .no .no) hwd0
      rw [hg]
      rfl
    -- all ways
    obtain ⟨N1, z3, z14, z15, g1, L1, p15, p3⟩ := ways_run ns P f ls T tD h0 h1 hT hl hlen _ p cl L0
    refine st_w (env1 := gE ns P f ls T tD (wsN P f ls T (sN T ls.length)) z3 z14 z15) (w1 := ⟨p, cl, some N1⟩) g1 ?_
    -- the last way
    have hWl : (wsN P f ls T (sN T ls.length)).length ≤ 200 := by
      unfold wsN
      have := ws_len P f ls T (sN T ls.length)
      rw [List.length_cons]
      omega
    obtain ⟨r', r3, r4⟩ := nodes_ix (T := T) (n := ls.length) (k := ls.length) (g := T) (Nat.le_refl _) (Nat.le_refl _)
    have hnT := hndk ls.length T (Nat.le_refl _) (Nat.le_refl _)
    obtain ⟨y3, y4⟩ := way_w (a := xOp fIx (xOp fIx (xVar 9) (xCall fLen (xCons (xVar 4) xNil))) (xOp fSub (xVar 6) (xVar 5))) (b := xVar 12) (c := xC (.int 0)) (env := gE ns P f ls T tD (wsN P f ls T (sN T ls.length)) z3 z14 z15) (p := p) (cl := cl) (N := N1) (V := sN T ls.length + 2) (W := wsN P f ls T (sN T ls.length)) (u := nd T ls.length T) (v := sN T ls.length + 1) (x := 0) (op_p (op_p rfl (call_p (cons_p rfl nil_p) (len_dN ls)) r3) (op_p rfl rfl (tw T f)) r4) rfl rfl L1 (by omega) (by omega) (by omega) rfl
    have hwdA : waysD T ls.length (wsA P f ls T) = waysD T ls.length (wsN P f ls T (sN T ls.length)) := by
      have := waysD_snoc T ls.length (wsN P f ls T (sN T ls.length)) ⟨nd T ls.length T, sN T ls.length + 1, 1, 0⟩
      rw [if_neg (show ¬ isJob T ls.length ⟨nd T ls.length T, sN T ls.length + 1, 1, 0⟩ = true by unfold isJob; simp), List.append_nil] at this
      exact this
    obtain ⟨N, hN⟩ : ∃ N, N = addW N1 ⟨nd T ls.length T, sN T ls.length + 1, 1, 0⟩ := ⟨_, rfl⟩
    rw [← hN] at y3 y4
    have L : Laid (sN T ls.length + 2) (wsA P f ls T) N := y4
    refine st_w (env1 := gE ns P f ls T tD (wsA P f ls T) z3 z14 z15) (w1 := ⟨p, cl, some N⟩) ?_ ?_
    · unfold sExpr
      have hg : gE ns P f ls T tD (wsA P f ls T) z3 z14 z15 = gE ns P f ls T tD (wsN P f ls T (sN T ls.length)) z3 z14 z15 := congrArg (fun wd => gD ns P f ls T tD wd z3 z14 z15) hwdA
      rw [hg, bind_w y3]
      rfl
    -- push
    have G := rdag L hT hlen (fun l h => (hl l h).1)
    have O := rone L
    have hov := L.ov
    obtain ⟨cs, ca, row, hLS, hP, hpush⟩ := push_run G O (sN T ls.length + 1) (by rw [hov]; omega) (by omega) (fun cs ca h => ⟨c, rend L h hc⟩) 300 (by decide) (by decide)
    obtain ⟨N2, hN2⟩ : ∃ N2, N2 = N.withR (useL N.rooms row) := ⟨_, rfl⟩
    rw [← hN2] at hpush
    refine st_w (env1 := gE ns P f ls T tD (wsA P f ls T) z3 z14 z15) (w1 := ⟨p, cl, some N2⟩) ((if_else_w (test_w (xOp_w (a := .int 1) (w1 := ⟨p, cl, some N2⟩) (ncall_w (w1 := ⟨p, cl, some N⟩) (N := N) (cons_w rfl (cons_w rfl rfl)) rfl rfl hpush) rfl (by rw [fNe_int, decide_eq_true rfl]; rfl)))).trans rfl) ?_
    -- what is carried
    obtain ⟨hnd, hmem⟩ := path_nodup G hLS hP
    obtain ⟨hps, hidx⟩ := path_sum L hLS.st hP
    rw [rend L hLS hc] at hps
    have hps := Option.some.inj (Option.some.inj hps)
    have hsum := carried_sum T ls.length hnd hidx (fun x hx hj => by
      rcases (wsA_mem P f ls T hx).2 with rfl | ⟨k, g, q1, q2, q3, q4, q5⟩ | ⟨k, g, q1, q2, q3, q4, q5⟩ | rfl
      · rfl
      · exact q5
      · unfold isJob at hj
        have hj := of_decide_eq_false hj
        refine absurd ⟨?_, ?_⟩ hj
        · rw [q3, q4]
          unfold nd
          rw [Nat.mul_add, Nat.mul_one]
          omega
        · rw [q4]
          exact hndk _ _ q1 q2
      · rfl)
    rw [← hps] at hsum
    have hev : ∀ e ∈ row, e % 2 = 0 := fun e he => by
      obtain ⟨u, v, c, w, _⟩ := hmem e he
      exact (O.ev u e v c w).1
    have hroom : ∀ i, i < (wsA P f ls T).length → N2.rooms[2 * i + 1]? = some (if 2 * i ∈ row then 1 else 0) := fun i h2 => by
      obtain ⟨w1, w2, w3, w4, w5, w6⟩ := L.wy i _ (List.getElem?_eq_getElem h2)
      rw [hN2]
      by_cases q : 2 * i ∈ row
      · rw [if_pos q]
        exact (use_in row N.rooms (2 * i) hev hnd q (List.getElem?_eq_some_iff.mp w4).1).2
      · rw [if_neg q]
        exact ((use_out row N.rooms (2 * i) hev (by omega) q).2).trans w4
    have hused : xComp [18, 15] (iOwn 13) (gTp 2 (gsCons (gNm 18) (gsCons (gNm 15) gsNil))) (xTest (xOp fGt (xNCall 8 net_carriedF (xCons (xVar 18) xNil)) (xC (.int 0)))) (xVar 15) (gE ns P f ls T tD (wsA P f ls T) z3 z14 z15) ⟨p, cl, some N2⟩ =
        some ((((jobsI T ls.length (wsA P f ls T)).filter fun i => decide (2 * i ∈ row)).map fun i => ((wsA P f ls T).getD i wy0).c).map .int, ⟨p, cl, some N2⟩) := by
      have hwe : wipeE (gE ns P f ls T tD (wsA P f ls T) z3 z14 z15) [18, 15] = some (gE ns P f ls T tD (wsA P f ls T) z3 z14 .no) := by
        rcases p15 with rfl | ⟨x, rfl⟩ <;> rfl
      have hjl : (jobsI T ls.length (wsA P f ls T)).length ≤ 1000 := by
        unfold jobsI
        have h1 := List.length_filter_le (fun i => isJob T ls.length ((wsA P f ls T).getD i wy0)) (List.range (wsA P f ls T).length)
        have h2 := wsA_len P f ls T
        rw [List.length_range] at h1
        omega
      refine xComp_ww (xs := waysD T ls.length (wsA P f ls T)) rfl hwe (by unfold waysD; rw [List.length_map]; unfold line; omega) ?_
      rw [List.map_map]
      refine compL_ft (wyD (wsA P f ls T)) _ (fun i => decide (2 * i ∈ row)) _ fun i hi => ?_
      have hil := List.mem_range.mp (List.mem_filter.mp hi).1
      have hrm := hroom i hil
      refine ⟨_, rfl, ?_, fun _ => rfl⟩
      refine test_w (xOp_w (a := .int (if 2 * i ∈ row then 1 else 0)) (w1 := ⟨p, cl, some N2⟩) (ncall_w (w1 := ⟨p, cl, some N2⟩) (N := N2) (N' := N2) (cons_w rfl rfl) rfl rfl (carried_run hrm)) rfl ?_)
      by_cases q : 2 * i ∈ row
      · rw [if_pos q, decide_eq_true q]; rfl
      · rw [if_neg q, decide_eq_false q]; rfl
    refine st_w (env1 := (gE ns P f ls T tD (wsA P f ls T) z3 z14 z15).set 17 (.sh (.int c))) (w1 := ⟨p, cl, some N2⟩) (asg_w (flat_w (call_w (cons_w (xAs_w hused) rfl) ((fSum_ints _).trans (by rw [hsum])))) rfl) ?_
    -- what is told costs as much
    have hEl := hR.len
    rw [Nat.zero_add] at hEl
    have htot : (xCall fSum (xCons (xAs (xComp [3] (iR1 (xCons (xCall fLen (xCons (xVar 4) xNil)) xNil)) (gNm 3) tYesF (xCall cost_fromF (xCons (xVar 2) (xCons (xOp fIx (xOp fIx (xVar 7) (xC (.int 1))) (xVar 3)) (xCons (xOp fIx (xVar 4) (xVar 3)) xNil)))))) xNil)) ((gE ns P f ls T tD (wsA P f ls T) z3 z14 z15).set 17 (.sh (.int c))) = pure (.int c) := by
      have hcp : xComp [3] (iR1 (xCons (xCall fLen (xCons (xVar 4) xNil)) xNil)) (gNm 3) tYesF (xCall cost_fromF (xCons (xVar 2) (xCons (xOp fIx (xOp fIx (xVar 7) (xC (.int 1))) (xVar 3)) (xCons (xOp fIx (xVar 4) (xVar 3)) xNil)))) ((gE ns P f ls T tD (wsA P f ls T) z3 z14 z15).set 17 (.sh (.int c))) = pure (((E.zip ls).map fun p => sumW P (f + p.1) p.2).map .int) := by
        refine xComp_p (xs := rangeL 0 (ls.length : Int)) (e := (gE ns P f ls T tD (wsA P f ls T) .no z14 z15).set 17 (.sh (.int c))) (iR1_p (cons_p (call_p (cons_p rfl nil_p) (len_dN ls)) nil_p) (small62_nat (by omega))) ?_ (by rw [rangeL_ups, List.length_map, ups_len]; unfold line; omega) ?_
        · rcases p3 with rfl | ⟨x, rfl⟩ <;> rfl
        · rw [rangeL0]
          have e9 : ((E.zip ls).map fun p => sumW P (f + p.1) p.2).map PyData.int = (List.range ls.length).map fun k => PyData.int (sumW P (f + E.getD k 0) (ls.getD k 0)) := by
            apply List.ext_getElem
            · rw [List.length_map, List.length_map, List.length_zip, List.length_map, List.length_range]; omega
            · intro i h1 h2
              rw [List.length_map, List.length_range] at h2
              simp only [List.getElem_map, List.getElem_zip, List.getElem_range]
              rw [List.getD_eq_getElem?_getD, List.getElem?_eq_getElem (by omega), List.getD_eq_getElem?_getD, List.getElem?_eq_getElem h2]
              rfl
          rw [e9]
          refine compL_all (fun (k : Nat) => PyData.int (k : Int)) _ _ fun k hk => ⟨_, rfl, ?_⟩
          rw [List.mem_range] at hk
          have hm : ls.getD k 0 ∈ ls := by rw [List.getD_eq_getElem?_getD, List.getElem?_eq_getElem hk]; exact List.getElem_mem hk
          have hEx : fIx (.list (nS f E)) (.int (k : Int)) = some (.int ((f + E.getD k 0 : Nat) : Int)) := atI_nat (by unfold nS; rw [List.getElem?_map, List.getElem?_eq_getElem (by omega), List.getD_eq_getElem?_getD, List.getElem?_eq_getElem (by omega)]; rfl)
          exact call_p (cons_p rfl (cons_p (op_p (op_p rfl rfl i1) rfl hEx) (cons_p (op_p rfl rfl (dN_ix hk)) nil_p))) (costf_run P h0 h1 _ _ (by have := hl _ hm; omega))
      have hRs := hR.sum
      rw [List.drop_zero] at hRs
      exact call_p (cons_p (xAs_p hcp) nil_p) (by rw [fSum_ints, hRs])
    refine st_w (env1 := ((gE ns P f ls T tD (wsA P f ls T) z3 z14 z15).set 17 (.sh (.int c))).set 19 (.sh (.int c))) (w1 := ⟨p, cl, some N2⟩) (of_pure (asg_p htot rfl)) ?_
    have hf1 : (xOp fEq (xOp fIx (xVar 7) (xC (.int 2))) (xVar 19)) (((gE ns P f ls T tD (wsA P f ls T) z3 z14 z15).set 17 (.sh (.int c))).set 19 (.sh (.int c))) = pure (.bool true) := op_p (op_p rfl rfl i2) rfl (by rw [fEq_int, decide_eq_true rfl])
    have hf2 : (xOp fEq (xOp fIx (xVar 7) (xC (.int 2))) (xVar 17)) (((gE ns P f ls T tD (wsA P f ls T) z3 z14 z15).set 17 (.sh (.int c))).set 19 (.sh (.int c))) = pure (.bool true) := op_p (op_p rfl rfl i2) rfl (by rw [fEq_int, decide_eq_true rfl])
    refine st_ret ?_
    unfold xAndV
    rw [hf1, pb]
    exact hf2
  · -- too long
    have hS : T < ls.sum := by omega
    have hrow := row_long P f ls T 300 hS
    have hfl := rfault_long P f ls T hS
    obtain ⟨s, hs⟩ : ∃ s, s = (f : Int) + ls.sum - ((f + T : Nat) : Int) := ⟨_, rfl⟩
    obtain ⟨tD, htD⟩ : ∃ tD : D, tD = .tuple [sLong, .int s] := ⟨_, rfl⟩
    rw [← hs, ← htD] at hrow hfl
    have i0 : fIx tD (.int 0) = some sLong := by rw [htD]; rfl
    have i1 : fIx tD (.int 1) = some (.int s) := by rw [htD]; rfl
    refine st_w (env1 := [.fz ns, .st 1, .sh (dI P), .no, .sh (dN ls), .sh (.int (f : Int)), .sh (.int ((f + T : Nat) : Int)), .sh tD, .no, .no, .no, .no, .no, .no, .no, .no, .no, .no, .no, .no]) (w1 := w6) (of_pure (asg_p (call_p (cons_p rfl (cons_p rfl (cons_p rfl (cons_p rfl nil_p)))) hrow) rfl)) ?_
    have hq : (xOp fEq (xOp fIx (xVar 7) (xC (.int 0))) (xC (.str (Str.ofString "long")))) [.fz ns, .st 1, .sh (dI P), .no, .sh (dN ls), .sh (.int (f : Int)), .sh (.int ((f + T : Nat) : Int)), .sh tD, .no, .no, .no, .no, .no, .no, .no, .no, .no, .no, .no, .no] = pure (.bool true) := op_p (op_p rfl rfl i0) rfl eq_ll
    refine st_w (env1 := [.fz ns, .st 1, .sh (dI P), .no, .sh (dN ls), .sh (.int (f : Int)), .sh (.int ((f + T : Nat) : Int)), .sh tD, .no, .no, .no, .no, .no, .no, .no, .no, .no, .no, .no, .no]) (w1 := w6) (of_pure (if_skip (or_f (test_p (un_p (call_p (cons_p rfl (cons_p rfl (cons_p rfl (cons_p rfl (cons_p rfl nil_p))))) hfl) rfl)) (test_p (op_p hq (hsT tD) (by rw [fNe_bool, decide_eq_true (by omega)]; rfl)))))) ?_
    refine srt_w (ife_w (test_p hq) (st_ret (op_p (op_p rfl rfl i1) (op_p (a := .int (ls.sum : Int)) (b := .int (T : Int)) (call_p (cons_p rfl nil_p) (fSum_dN ls)) (op_p rfl rfl (tw T f)) rfl) ?_)))
    rw [fEq_int, decide_eq_true (by omega)]
end VE

namespace VE
open PySem PySem.Spec L2
open PyProof.Rows hiding St
def topS (i : Nat) : Stmt := PySem.Challenge.pw_jobsagain_k55_rows_of_runs_as_streams.main.body.getD i (.Pass ⟨0, 0, 0, 0⟩)
section
variable {P : Program} {w : World} {K : PySem.W.Frag} {mg : Str → Option Value} {base : Heap} {C : Addr}
abbrev s__wall : Stmt := topS 0
theorem sc__wall : FnScope ["k"] ["k"] (defScope s__wall) := ⟨rfl, rfl, rfl, by decide +kernel, rfl, by decide +kernel, by decide +kernel⟩
theorem fn__wall (n : Nat) {f : Addr} {fd : FuncData} (F : Fun K "_wall" "_wall" s__wall f fd) : FnOk P w K mg base CX0 1 f fd ["k"] (vsp K (_wallF n)) :=
  fn_def (k := 0) (fb := _wallB n) F sc__wall rfl rfl fun cdv A outer s H E hr => ⟨_, by
    unfold _wallB
    exact (pssv_one (psv_while (pt_tru (KK := K) rfl pv_bl (fun _ => rfl)) (pssv_one psv_pass) PassesOwn.never))⟩
abbrev s_cost_from : Stmt := topS 2
theorem sc_cost_from : FnScope ["prices", "start", "length", "whole", "rest", "turn"] ["prices", "start", "length"] (defScope s_cost_from) := ⟨rfl, rfl, rfl, by decide +kernel, rfl, by decide +kernel, by decide +kernel⟩
theorem fn_cost_from {f : Addr} {fd : FuncData} (F : Fun K "cost_from" "cost_from" s_cost_from f fd) (m_len : mg "len" = none) (m_range : mg "range" = none) (m_sum : mg "sum" = none) : FnOk P w K mg base CX0 1 f fd ["prices", "start", "length"] (vsp K (cost_fromF)) :=
  fn_def (k := 0) (fb := cost_fromB) F sc_cost_from rfl rfl fun cdv A outer s H E hr => ⟨_, by
    unfold cost_fromB
    exact (pssv_cons (psv_set sc_cost_from.nd (pv_op op_mul ov_mul (pv_sum (KK := K) rfl rfl m_sum (pav_cons (pv_var rfl rfl rfl) pav_nil rfl) rfl rfl rfl) (pv_op op_fdiv ov_div (pv_var rfl rfl rfl) (pv_len (KK := K) rfl m_len (pav_cons (pv_var rfl rfl rfl) pav_nil rfl) rfl rfl rfl))) rfl rfl rfl rfl)
      (pssv_cons (psv_set sc_cost_from.nd (pv_op op_mod ov_mod (pv_var rfl rfl rfl) (pv_len (KK := K) rfl m_len (pav_cons (pv_var rfl rfl rfl) pav_nil rfl) rfl rfl rfl)) rfl rfl rfl rfl)
      (pssv_one (psv_ret (pv_op (op_add.or op_cat) ov_add (pv_var rfl rfl rfl) (pv_sum (KK := K) rfl rfl m_sum (pav_cons (pv_as (plv_comp rfl sc_cost_from.nd (piv_range1 m_range (pav_cons (pv_var rfl rfl rfl) pav_nil rfl) rfl rfl) (blkOk_eq (own := [("turn", 5)]) (N := ["prices", "start", "length", "whole", "rest", "turn"]) (sc := defScope s_cost_from) rfl rfl (by decide +kernel)) rfl (fun _ _ _ _ _ => (pgv_name sc_cost_from.nd rfl rfl rfl)) (fun _ _ _ _ _ => ptsv_nil) (fun _ _ _ _ _ => (pv_ix (KK := K) rfl (pv_var rfl rfl rfl) (pv_op op_mod ov_mod (pv_op (op_add.or op_cat) ov_add (pv_var rfl rfl rfl) (pv_var rfl rfl rfl)) (pv_len (KK := K) rfl m_len (pav_cons (pv_var rfl rfl rfl) pav_nil rfl) rfl rfl rfl)) (fun _ _ => rfl))) (fun _ => rfl))) pav_nil rfl) rfl rfl rfl))))))⟩
abbrev s_tables_for : Stmt := topS 4
theorem sc_tables_for : FnScope ["prices", "lengths", "first", "last", "tables", "_", "length", "row", "gone", "able"] ["prices", "lengths", "first", "last"] (defScope s_tables_for) := ⟨rfl, rfl, rfl, by decide +kernel, rfl, by decide +kernel, by decide +kernel⟩
theorem fn_tables_for {f : Addr} {fd : FuncData} (F : Fun K "tables_for" "tables_for" s_tables_for f fd) (m_min : mg "min" = none) (m_range : mg "range" = none) (c_cost_from : Cal P w K mg base "cost_from" 1 (cost_fromF)) : FnOk P w K mg base CX0 2 f fd ["prices", "lengths", "first", "last"] (vsp K (tables_forF)) :=
  fn_def (k := 1) (fb := tables_forB) F sc_tables_for rfl rfl fun cdv A outer s H E hr => ⟨_, by
    unfold tables_forB
    exact (pssv_cons (psv_own sc_tables_for.nd (plv_lst (pav_cons (pv_as (plv_comp rfl sc_tables_for.nd (piv_range1 m_range (pav_cons (pv_op (op_add.or op_cat) ov_add (pv_op op_sub ov_sub (pv_var rfl rfl rfl) (pv_var rfl rfl rfl)) pv_int) pav_nil rfl) rfl rfl) (blkOk_eq (own := [("_", 5)]) (N := ["prices", "lengths", "first", "last", "tables", "_", "length", "row", "gone", "able"]) (sc := defScope s_tables_for) rfl rfl (by decide +kernel)) rfl (fun _ _ _ _ _ => (pgv_name sc_tables_for.nd rfl rfl rfl)) (fun _ _ _ _ _ => ptsv_nil) (fun _ _ _ _ _ => pv_int) (fun _ => rfl))) pav_nil rfl)) rfl rfl rfl rfl)
      (pssv_cons (psv_for rfl (piv_list (KK := K) rfl (pv_var rfl rfl rfl)) (pgv_name sc_tables_for.nd rfl rfl rfl) (pssv_cons (psv_own sc_tables_for.nd (plv_lst pav_nil) rfl rfl rfl rfl)
      (pssv_cons (psv_for rfl (piv_range1 m_range (pav_cons (pv_op (op_add.or op_cat) ov_add (pv_op op_sub ov_sub (pv_var rfl rfl rfl) (pv_var rfl rfl rfl)) pv_int) pav_nil rfl) rfl rfl) (pgv_name sc_tables_for.nd rfl rfl rfl) (pssv_cons (psv_own sc_tables_for.nd (plv_if (PWV.pt (pwv_and (pt_tru (KK := K) rfl (pv_varO rfl rfl rfl) (fun _ => rfl)) (pwv_and1 (pt_notN (pv_ix (KK := K) rfl (pv_varO rfl rfl rfl) (pv_neg pv_int) (fun _ _ => rfl)))))) (plv_lst (pav_cons (pv_flat (pv_ix (KK := K) rfl (pv_varO rfl rfl rfl) (pv_neg pv_int) (fun _ _ => rfl))) pav_nil rfl)) (plv_lst pav_nil)) rfl rfl rfl rfl)
      (pssv_cons (psv_if (PWV.pt (pwv_and (pt_cmpV op_ge ov_ge (pv_var rfl rfl rfl) (pv_var rfl rfl rfl) (nomark _)) (pwv_and1 (pt_notN (pv_ix (KK := K) rfl (pv_ix (KK := K) rfl (pv_varO rfl rfl rfl) (pv_neg pv_int) (fun _ _ => rfl)) (pv_op op_sub ov_sub (pv_var rfl rfl rfl) (pv_var rfl rfl rfl)) (fun _ _ => rfl)))))) (pssv_one (psv_app (KK := K) rfl (pv_flat (pv_op (op_add.or op_cat) ov_add (pv_ix (KK := K) rfl (pv_ix (KK := K) rfl (pv_varO rfl rfl rfl) (pv_neg pv_int) (fun _ _ => rfl)) (pv_op op_sub ov_sub (pv_var rfl rfl rfl) (pv_var rfl rfl rfl)) (fun _ _ => rfl)) (pv_call (KK := K) rfl c_cost_from (hr.mono (by omega)) (pav_cons (pv_var rfl rfl rfl) (pav_cons (pv_op op_sub ov_sub (pv_op (op_add.or op_cat) ov_add (pv_var rfl rfl rfl) (pv_var rfl rfl rfl)) (pv_var rfl rfl rfl)) (pav_cons (pv_var rfl rfl rfl) pav_nil rfl) rfl) rfl) rfl rfl rfl rfl))) rfl rfl rfl rfl rfl rfl rfl rfl rfl)) pssv_nil)
      (pssv_one (psv_app (KK := K) rfl (pv_if (pt_tru (KK := K) rfl (pv_varO rfl rfl rfl) (fun _ => rfl)) (pv_minO (KK := K) rfl hr rfl m_min rfl rfl rfl rfl rfl rfl) pv_non) rfl rfl rfl rfl rfl rfl rfl rfl rfl)))) PassesOwn.never (fun _ => rfl))
      (pssv_thaw (pssv_one (psv_app (KK := K) rfl (pv_var rfl rfl rfl) rfl rfl rfl rfl rfl rfl rfl rfl rfl))))) PassesOwn.never (fun _ => rfl))
      (pssv_one (psv_ret (pv_varO rfl rfl rfl)))))⟩
abbrev s_in_a_row : Stmt := topS 3
theorem sc_in_a_row : FnScope ["prices", "lengths", "first", "last", "tables", "end", "cost", "starts", "at"] ["prices", "lengths", "first", "last"] (defScope s_in_a_row) := ⟨rfl, rfl, rfl, by decide +kernel, rfl, by decide +kernel, by decide +kernel⟩
theorem fn_in_a_row (n : Nat) {f : Addr} {fd : FuncData} (F : Fun K "in_a_row" "in_a_row" s_in_a_row f fd) (m_len : mg "len" = none) (m_range : mg "range" = none) (m_sum : mg "sum" = none) (c_tables_for : Cal P w K mg base "tables_for" 2 (tables_forF)) : FnOk P w K mg base CX0 3 f fd ["prices", "lengths", "first", "last"] (vsp K (in_a_rowF n)) :=
  fn_def (k := 2) (fb := in_a_rowB n) F sc_in_a_row rfl rfl fun cdv A outer s H E hr => ⟨_, by
    unfold in_a_rowB
    exact (pssv_cons (psv_if (pt_cmpV op_gt ov_gt (pv_op (op_add.or op_cat) ov_add (pv_var rfl rfl rfl) (pv_sum (KK := K) rfl rfl m_sum (pav_cons (pv_var rfl rfl rfl) pav_nil rfl) rfl rfl rfl)) (pv_var rfl rfl rfl) (nomark _)) (pssv_one (psv_ret (pv_tup (pav_cons pv_str (pav_cons (pv_op op_sub ov_sub (pv_op (op_add.or op_cat) ov_add (pv_var rfl rfl rfl) (pv_sum (KK := K) rfl rfl m_sum (pav_cons (pv_var rfl rfl rfl) pav_nil rfl) rfl rfl rfl)) (pv_var rfl rfl rfl)) pav_nil rfl) rfl)))) pssv_nil)
      (pssv_cons (psv_set sc_in_a_row.nd (pv_call (KK := K) rfl c_tables_for (hr.mono (by omega)) (pav_cons (pv_var rfl rfl rfl) (pav_cons (pv_var rfl rfl rfl) (pav_cons (pv_var rfl rfl rfl) (pav_cons (pv_var rfl rfl rfl) pav_nil rfl) rfl) rfl) rfl) rfl rfl rfl rfl) rfl rfl rfl rfl)
      (pssv_cons (psv_set sc_in_a_row.nd (pv_op op_sub ov_sub (pv_var rfl rfl rfl) (pv_var rfl rfl rfl)) rfl rfl rfl rfl)
      (pssv_cons (psv_set sc_in_a_row.nd (pv_ix (KK := K) rfl (pv_ix (KK := K) rfl (pv_var rfl rfl rfl) (pv_neg pv_int) (fun _ _ => rfl)) (pv_var rfl rfl rfl) (fun _ _ => rfl)) rfl rfl rfl rfl)
      (pssv_cons (psv_set sc_in_a_row.nd (pv_as (plv_lst pav_nil)) rfl rfl rfl rfl)
      (pssv_cons (psv_for rfl (piv_range3 m_range (pav_cons (pv_op op_sub ov_sub (pv_len (KK := K) rfl m_len (pav_cons (pv_var rfl rfl rfl) pav_nil rfl) rfl rfl rfl) pv_int) (pav_cons (pv_neg pv_int) (pav_cons (pv_neg pv_int) pav_nil rfl) rfl) rfl) rfl rfl rfl) (pgv_name sc_in_a_row.nd rfl rfl rfl) (pssv_cons (psv_while (PWV.pt (pwv_and (pt_cmpV op_gt ov_gt (pv_var rfl rfl rfl) pv_int (nomark _)) (pwv_and1 (pt_cmpV (eqD' (KK := K) rfl hr.units) ov_eq (pv_ix (KK := K) rfl (pv_ix (KK := K) rfl (pv_var rfl rfl rfl) (pv_op (op_add.or op_cat) ov_add (pv_var rfl rfl rfl) pv_int) (fun _ _ => rfl)) (pv_op op_sub ov_sub (pv_var rfl rfl rfl) pv_int) (fun _ _ => rfl)) (pv_ix (KK := K) rfl (pv_ix (KK := K) rfl (pv_var rfl rfl rfl) (pv_op (op_add.or op_cat) ov_add (pv_var rfl rfl rfl) pv_int) (fun _ _ => rfl)) (pv_var rfl rfl rfl) (fun _ _ => rfl)) (nomark _))))) (pssv_one (psv_set sc_in_a_row.nd (pv_op op_sub ov_sub (pv_var rfl rfl rfl) pv_int) rfl rfl rfl rfl)) PassesOwn.never)
      (pssv_cons (psv_set sc_in_a_row.nd (pv_op op_sub ov_sub (pv_var rfl rfl rfl) (pv_ix (KK := K) rfl (pv_var rfl rfl rfl) (pv_var rfl rfl rfl) (fun _ _ => rfl))) rfl rfl rfl rfl)
      (pssv_one (psv_set sc_in_a_row.nd (pv_op (op_add.or op_cat) ov_add (pv_as (plv_lst (pav_cons (pv_op (op_add.or op_cat) ov_add (pv_var rfl rfl rfl) (pv_var rfl rfl rfl)) pav_nil rfl))) (pv_var rfl rfl rfl)) rfl rfl rfl rfl)))) PassesOwn.never (fun _ => rfl))
      (pssv_one (psv_ret (pv_tup (pav_cons pv_str (pav_cons (pv_var rfl rfl rfl) (pav_cons (pv_var rfl rfl rfl) (pav_cons (pv_var rfl rfl rfl) pav_nil rfl) rfl) rfl) rfl))))))))))⟩
abbrev s_tables_fault : Stmt := topS 6
theorem sc_tables_fault : FnScope ["prices", "lengths", "first", "cost", "tables", "at", "row", "gone", "price", "bounds", "length"] ["prices", "lengths", "first", "cost", "tables"] (defScope s_tables_fault) := ⟨rfl, rfl, rfl, by decide +kernel, rfl, by decide +kernel, by decide +kernel⟩
theorem fn_tables_fault {f : Addr} {fd : FuncData} (F : Fun K "tables_fault" "tables_fault" s_tables_fault f fd) (m_enumerate : mg "enumerate" = none) (m_min : mg "min" = none) (m_sum : mg "sum" = none) (c_cost_from : Cal P w K mg base "cost_from" 1 (cost_fromF)) : FnOk P w K mg base CX0 2 f fd ["prices", "lengths", "first", "cost", "tables"] (vsp K (tables_faultF)) :=
  fn_def (k := 1) (fb := tables_faultB) F sc_tables_fault rfl rfl fun cdv A outer s H E hr => ⟨_, by
    unfold tables_faultB
    exact (pssv_cons (psv_for rfl (piv_enum (KK := K) rfl m_enumerate (pav_cons (pv_var rfl rfl rfl) pav_nil rfl) rfl rfl) (pgv_tup (KK := K) rfl rfl (pgsv_cons (pgv_name sc_tables_fault.nd rfl rfl rfl) (pgsv_cons (pgv_name sc_tables_fault.nd rfl rfl rfl) pgsv_nil rfl) rfl) rfl rfl) (pssv_one (psv_for rfl (piv_enum (KK := K) rfl m_enumerate (pav_cons (pv_var rfl rfl rfl) pav_nil rfl) rfl rfl) (pgv_tup (KK := K) rfl rfl (pgsv_cons (pgv_name sc_tables_fault.nd rfl rfl rfl) (pgsv_cons (pgv_name sc_tables_fault.nd rfl rfl rfl) pgsv_nil rfl) rfl) rfl rfl) (pssv_cons (psv_if (pt_cmpV (neD' (KK := K) rfl hr.units) ov_ne (pv_isN (pv_var rfl rfl rfl)) (pv_cmp op_lt ov_lt (pv_var rfl rfl rfl) (pv_sum (KK := K) rfl rfl m_sum (pav_cons (pv_as (plv_slice (KK := K) rfl (pv_var rfl rfl rfl) pov_none (pov_some (pv_var rfl rfl rfl)))) pav_nil rfl) rfl rfl rfl) (nomark _)) (nomark _)) (pssv_one (psv_ret (pv_tup (pav_cons pv_str (pav_cons (pv_var rfl rfl rfl) (pav_cons (pv_var rfl rfl rfl) pav_nil rfl) rfl) rfl)))) pssv_nil)
      (pssv_one (psv_if (pt_notN (pv_var rfl rfl rfl)) (pssv_cons (psv_own sc_tables_fault.nd (plv_if (pt_cmpV (eqD' (KK := K) rfl hr.units) ov_eq (pv_var rfl rfl rfl) pv_int (nomark _)) (plv_lst (pav_cons pv_int pav_nil rfl)) (plv_lst pav_nil)) rfl rfl rfl rfl)
      (pssv_cons (psv_if (pt_cmpV op_gt ov_gt (pv_var rfl rfl rfl) (pv_sum (KK := K) rfl rfl m_sum (pav_cons (pv_as (plv_slice (KK := K) rfl (pv_var rfl rfl rfl) pov_none (pov_some (pv_var rfl rfl rfl)))) pav_nil rfl) rfl rfl rfl) (nomark _)) (pssv_one (psv_app (KK := K) rfl (pv_ix (KK := K) rfl (pv_var rfl rfl rfl) (pv_op op_sub ov_sub (pv_var rfl rfl rfl) pv_int) (fun _ _ => rfl)) rfl rfl rfl rfl rfl rfl rfl rfl rfl)) pssv_nil)
      (pssv_cons (psv_if (pt_cmpV op_gt ov_gt (pv_var rfl rfl rfl) pv_int (nomark _)) (pssv_cons (psv_set sc_tables_fault.nd (pv_ix (KK := K) rfl (pv_var rfl rfl rfl) (pv_op op_sub ov_sub (pv_var rfl rfl rfl) pv_int) (fun _ _ => rfl)) rfl rfl rfl rfl)
      (pssv_one (psv_app (KK := K) rfl (pv_op (op_add.or op_cat) ov_add (pv_ix (KK := K) rfl (pv_ix (KK := K) rfl (pv_var rfl rfl rfl) (pv_op op_sub ov_sub (pv_var rfl rfl rfl) pv_int) (fun _ _ => rfl)) (pv_op op_sub ov_sub (pv_var rfl rfl rfl) (pv_var rfl rfl rfl)) (fun _ _ => rfl)) (pv_call (KK := K) rfl c_cost_from (hr.mono (by omega)) (pav_cons (pv_var rfl rfl rfl) (pav_cons (pv_op op_sub ov_sub (pv_op (op_add.or op_cat) ov_add (pv_var rfl rfl rfl) (pv_var rfl rfl rfl)) (pv_var rfl rfl rfl)) (pav_cons (pv_var rfl rfl rfl) pav_nil rfl) rfl) rfl) rfl rfl rfl rfl)) rfl rfl rfl rfl rfl rfl rfl rfl rfl))) pssv_nil)
      (pssv_one (psv_if (pt_cmpV op_gt ov_gt (pv_var rfl rfl rfl) (pv_minO (KK := K) rfl hr rfl m_min rfl rfl rfl rfl rfl rfl) (nomark _)) (pssv_one (psv_ret (pv_tup (pav_cons pv_str (pav_cons (pv_var rfl rfl rfl) (pav_cons (pv_var rfl rfl rfl) pav_nil rfl) rfl) rfl)))) pssv_nil))))) pssv_nil))) PassesOwn.never (fun _ => rfl))) PassesOwn.never (fun _ => rfl))
      (pssv_one (psv_ret (pv_if (pt_cmpV op_ge ov_ge (pv_ix (KK := K) rfl (pv_ix (KK := K) rfl (pv_var rfl rfl rfl) (pv_neg pv_int) (fun _ _ => rfl)) (pv_neg pv_int) (fun _ _ => rfl)) (pv_var rfl rfl rfl) (nomark _)) pv_non (pv_tup (pav_cons pv_str pav_nil rfl))))))⟩
abbrev s_in_a_row_fault : Stmt := topS 5
theorem sc_in_a_row_fault : FnScope ["prices", "lengths", "first", "last", "told", "short", "word", "starts", "cost", "tables", "end", "at", "start", "length", "row"] ["prices", "lengths", "first", "last", "told"] (defScope s_in_a_row_fault) := ⟨rfl, rfl, rfl, by decide +kernel, rfl, by decide +kernel, by decide +kernel⟩
theorem fn_in_a_row_fault {f : Addr} {fd : FuncData} (F : Fun K "in_a_row_fault" "in_a_row_fault" s_in_a_row_fault f fd) (m_all : mg "all" = none) (m_enumerate : mg "enumerate" = none) (m_len : mg "len" = none) (m_sum : mg "sum" = none) (m_zip : mg "zip" = none) (c_cost_from : Cal P w K mg base "cost_from" 1 (cost_fromF)) (c_tables_fault : Cal P w K mg base "tables_fault" 2 (tables_faultF)) : FnOk P w K mg base CX0 3 f fd ["prices", "lengths", "first", "last", "told"] (vsp K (in_a_row_faultF)) :=
  fn_def (k := 2) (fb := in_a_row_faultB) F sc_in_a_row_fault rfl rfl fun cdv A outer s H E hr => ⟨_, by
    unfold in_a_row_faultB
    exact (pssv_cons (psv_set sc_in_a_row_fault.nd (pv_op op_sub ov_sub (pv_op (op_add.or op_cat) ov_add (pv_var rfl rfl rfl) (pv_sum (KK := K) rfl rfl m_sum (pav_cons (pv_var rfl rfl rfl) pav_nil rfl) rfl rfl rfl)) (pv_var rfl rfl rfl)) rfl rfl rfl rfl)
      (pssv_cons (psv_if (PWV.pt (pwv_or (pt_cmpV (eqD' (KK := K) rfl hr.units) ov_eq (pv_ix (KK := K) rfl (pv_var rfl rfl rfl) pv_int (fun _ _ => rfl)) pv_str (nomark _)) (pwv_or1 (pt_cmpV op_gt ov_gt (pv_var rfl rfl rfl) pv_int (nomark _))))) (pssv_one (psv_ret (pv_if (PWV.pt (pwv_and (pt_cmpV (eqD' (KK := K) rfl hr.units) ov_eq (pv_var rfl rfl rfl) (pv_tup (pav_cons pv_str (pav_cons (pv_var rfl rfl rfl) pav_nil rfl) rfl)) (nomark _)) (pwv_and1 (pt_cmpV op_gt ov_gt (pv_var rfl rfl rfl) pv_int (nomark _))))) pv_non (pv_tup (pav_cons pv_str pav_nil rfl))))) pssv_nil)
      (pssv_cons (psv_asg (pv_var rfl rfl rfl) (pgv_tup (KK := K) rfl rfl (pgsv_cons (pgv_name sc_in_a_row_fault.nd rfl rfl rfl) (pgsv_cons (pgv_name sc_in_a_row_fault.nd rfl rfl rfl) (pgsv_cons (pgv_name sc_in_a_row_fault.nd rfl rfl rfl) (pgsv_cons (pgv_name sc_in_a_row_fault.nd rfl rfl rfl) pgsv_nil rfl) rfl) rfl) rfl) rfl rfl) rfl rfl rfl)
      (pssv_cons (psv_if (pt_cmpV (neD' (KK := K) rfl hr.units) ov_ne (pv_len (KK := K) rfl m_len (pav_cons (pv_var rfl rfl rfl) pav_nil rfl) rfl rfl rfl) (pv_len (KK := K) rfl m_len (pav_cons (pv_var rfl rfl rfl) pav_nil rfl) rfl rfl rfl) (nomark _)) (pssv_one (psv_ret (pv_tup (pav_cons pv_str pav_nil rfl)))) pssv_nil)
      (pssv_cons (psv_set sc_in_a_row_fault.nd (pv_var rfl rfl rfl) rfl rfl rfl rfl)
      (pssv_cons (psv_for rfl (piv_enum (KK := K) rfl m_enumerate (pav_cons (pv_var rfl rfl rfl) pav_nil rfl) rfl rfl) (pgv_tup (KK := K) rfl rfl (pgsv_cons (pgv_name sc_in_a_row_fault.nd rfl rfl rfl) (pgsv_cons (pgv_name sc_in_a_row_fault.nd rfl rfl rfl) pgsv_nil rfl) rfl) rfl rfl) (pssv_cons (psv_if (PWV.pt (pwv_or (pt_cmpV op_lt ov_lt (pv_var rfl rfl rfl) (pv_var rfl rfl rfl) (nomark _)) (pwv_or1 (pt_cmpV op_gt ov_gt (pv_op (op_add.or op_cat) ov_add (pv_var rfl rfl rfl) (pv_ix (KK := K) rfl (pv_var rfl rfl rfl) (pv_var rfl rfl rfl) (fun _ _ => rfl))) (pv_var rfl rfl rfl) (nomark _))))) (pssv_one (psv_ret (pv_tup (pav_cons pv_str (pav_cons (pv_var rfl rfl rfl) pav_nil rfl) rfl)))) pssv_nil)
      (pssv_one (psv_set sc_in_a_row_fault.nd (pv_op (op_add.or op_cat) ov_add (pv_var rfl rfl rfl) (pv_ix (KK := K) rfl (pv_var rfl rfl rfl) (pv_var rfl rfl rfl) (fun _ _ => rfl))) rfl rfl rfl rfl))) PassesOwn.never (fun _ => rfl))
      (pssv_cons (psv_if (pt_cmpV (neD' (KK := K) rfl hr.units) ov_ne (pv_sum (KK := K) rfl rfl m_sum (pav_cons (pv_as (plv_comp rfl sc_in_a_row_fault.nd (piv_zip (KK := K) rfl m_zip (pav_cons (pv_var rfl rfl rfl) (pav_cons (pv_var rfl rfl rfl) pav_nil rfl) rfl) rfl rfl rfl) (blkOk_eq (own := [("start", 12), ("length", 13)]) (N := ["prices", "lengths", "first", "last", "told", "short", "word", "starts", "cost", "tables", "end", "at", "start", "length", "row"]) (sc := defScope s_in_a_row_fault) rfl rfl (by decide +kernel)) rfl (fun _ _ _ _ _ => (pgv_tup (KK := K) rfl rfl (pgsv_cons (pgv_name sc_in_a_row_fault.nd rfl rfl rfl) (pgsv_cons (pgv_name sc_in_a_row_fault.nd rfl rfl rfl) pgsv_nil rfl) rfl) rfl rfl)) (fun _ _ _ _ _ => ptsv_nil) (fun _ _ _ _ _ => (pv_call (KK := K) rfl c_cost_from (hr.mono (by omega)) (pav_cons (pv_var rfl rfl rfl) (pav_cons (pv_var rfl rfl rfl) (pav_cons (pv_var rfl rfl rfl) pav_nil rfl) rfl) rfl) rfl rfl rfl rfl)) (fun _ => rfl))) pav_nil rfl) rfl rfl rfl) (pv_var rfl rfl rfl) (nomark _)) (pssv_one (psv_ret (pv_tup (pav_cons pv_str pav_nil rfl)))) pssv_nil)
      (pssv_cons (psv_if (PWV.pt (pwv_or (pt_cmpV (neD' (KK := K) rfl hr.units) ov_ne (pv_len (KK := K) rfl m_len (pav_cons (pv_var rfl rfl rfl) pav_nil rfl) rfl rfl rfl) (pv_op (op_add.or op_cat) ov_add (pv_len (KK := K) rfl m_len (pav_cons (pv_var rfl rfl rfl) pav_nil rfl) rfl rfl rfl) pv_int) (nomark _)) (pwv_or1 (ptv_not (pt_tru (KK := K) rfl (pv_all (KK := K) rfl rfl m_all (pav_cons (pv_as (plv_comp rfl sc_in_a_row_fault.nd (piv_list (KK := K) rfl (pv_var rfl rfl rfl)) (blkOk_eq (own := [("row", 14)]) (N := ["prices", "lengths", "first", "last", "told", "short", "word", "starts", "cost", "tables", "end", "at", "start", "length", "row"]) (sc := defScope s_in_a_row_fault) rfl rfl (by decide +kernel)) rfl (fun _ _ _ _ _ => (pgv_name sc_in_a_row_fault.nd rfl rfl rfl)) (fun _ _ _ _ _ => ptsv_nil) (fun _ _ _ _ _ => (pv_cmp (eqD' (KK := K) rfl hr.units) ov_eq (pv_len (KK := K) rfl m_len (pav_cons (pv_var rfl rfl rfl) pav_nil rfl) rfl rfl rfl) (pv_op (op_add.or op_cat) ov_add (pv_op op_sub ov_sub (pv_var rfl rfl rfl) (pv_var rfl rfl rfl)) pv_int) (nomark _))) (fun _ => rfl))) pav_nil rfl) rfl rfl rfl) (fun _ => rfl)))))) (pssv_one (psv_ret (pv_tup (pav_cons pv_str pav_nil rfl)))) pssv_nil)
      (pssv_one (psv_ret (pv_call (KK := K) rfl c_tables_fault (hr.mono (by omega)) (pav_cons (pv_var rfl rfl rfl) (pav_cons (pv_var rfl rfl rfl) (pav_cons (pv_var rfl rfl rfl) (pav_cons (pv_var rfl rfl rfl) (pav_cons (pv_var rfl rfl rfl) pav_nil rfl) rfl) rfl) rfl) rfl) rfl rfl rfl rfl)))))))))))⟩
abbrev s_net_carried : Stmt := inClass (topS 8) 3
theorem sc_net_carried : FnScope ["self", "number"] ["self", "number"] (defScope s_net_carried) := ⟨rfl, rfl, rfl, by decide +kernel, rfl, by decide +kernel, by decide +kernel⟩
theorem fn_net_carried {f : Addr} {fd : FuncData} (F : Fun K "carried" "Streams.carried" s_net_carried f fd) (nc : NetCls K C) : FnOk P w K mg base CX0 1 f fd ["self", "number"] (spN K C (net_carriedF)) :=
  fn_meth (k := 0) (fb := net_carriedB) nc F sc_net_carried rfl rfl fun cdv A outer s H E hr => ⟨_, by
    unfold net_carriedB
    exact (pssv_one (psv_ret (pv_nix .rooms (KK := K) rfl nc rfl rfl rfl (pv_op (op_add.or op_cat) ov_add (pv_var rfl rfl rfl) pv_int) rfl (fun _ _ => rfl))))⟩
abbrev s_net_node : Stmt := inClass (topS 8) 1
theorem sc_net_node : FnScope ["self"] ["self"] (defScope s_net_node) := ⟨rfl, rfl, rfl, by decide +kernel, rfl, by decide +kernel, by decide +kernel⟩
theorem fn_net_node {f : Addr} {fd : FuncData} (F : Fun K "node" "Streams.node" s_net_node f fd) (nc : NetCls K C) (m_len : mg "len" = none) : FnOk P w K mg base CX0 1 f fd ["self"] (spN K C (net_nodeF)) :=
  fn_meth (k := 0) (fb := net_nodeB) nc F sc_net_node rfl rfl fun cdv A outer s H E hr => ⟨_, by
    unfold net_nodeB
    exact (pssv_cons (psv_nnode (KK := K) rfl nc rfl rfl rfl rfl rfl rfl rfl rfl rfl rfl)
      (pssv_one (psv_ret (pv_op op_sub ov_sub (pv_nlenO (KK := K) rfl nc m_len rfl rfl rfl rfl rfl rfl rfl) pv_int))))⟩
abbrev s_net_back : Stmt := inClass (topS 8) 4
theorem sc_net_back : FnScope ["self", "number"] ["self", "number"] (defScope s_net_back) := ⟨rfl, rfl, rfl, by decide +kernel, rfl, by decide +kernel, by decide +kernel⟩
theorem fn_net_back {f : Addr} {fd : FuncData} (F : Fun K "back" "Streams.back" s_net_back f fd) (nc : NetCls K C) : FnOk P w K mg base CX0 1 f fd ["self", "number"] (spN K C (net_backF)) :=
  fn_meth (k := 0) (fb := net_backB) nc F sc_net_back rfl rfl fun cdv A outer s H E hr => ⟨_, by
    unfold net_backB
    exact (pssv_one (psv_ret (pv_if (pt_cmpV (eqD' (KK := K) rfl hr.units) ov_eq (pv_op op_mod ov_mod (pv_var rfl rfl rfl) pv_int) pv_int (nomark _)) (pv_op (op_add.or op_cat) ov_add (pv_var rfl rfl rfl) pv_int) (pv_op op_sub ov_sub (pv_var rfl rfl rfl) pv_int))))⟩
abbrev s_net_least : Stmt := inClass (topS 8) 5
theorem sc_net_least : FnScope ["self", "start", "costs", "_", "came", "row", "more", "node", "number", "goal", "cost"] ["self", "start"] (defScope s_net_least) := ⟨rfl, rfl, rfl, by decide +kernel, rfl, by decide +kernel, by decide +kernel⟩
theorem fn_net_least (n : Nat) {f : Addr} {fd : FuncData} (F : Fun K "least" "Streams.least" s_net_least f fd) (nc : NetCls K C) : FnOk P w K mg base CX0 1 f fd ["self", "start"] (spN K C (net_leastF n)) :=
  fn_meth (k := 0) (fb := net_leastB n) nc F sc_net_least rfl rfl fun cdv A outer s H E hr => ⟨_, by
    unfold net_leastB
    exact (pssv_cons (psv_ownNn (KK := K) rfl nc rfl sc_net_least.nd (sw_true rfl rfl rfl (by decide +kernel)) rfl rfl rfl rfl (blkOk_eq (own := [("_", 3)]) (N := ["self", "start", "costs", "_", "came", "row", "more", "node", "number", "goal", "cost"]) (sc := defScope s_net_least) rfl rfl (by decide +kernel)) (fun _ _ _ _ _ => (pgv_name sc_net_least.nd rfl rfl rfl)) rfl rfl)
      (pssv_cons (psv_ownNn (KK := K) rfl nc rfl sc_net_least.nd (sw_true rfl rfl rfl (by decide +kernel)) rfl rfl rfl rfl (blkOk_eq (own := [("_", 3)]) (N := ["self", "start", "costs", "_", "came", "row", "more", "node", "number", "goal", "cost"]) (sc := defScope s_net_least) rfl rfl (by decide +kernel)) (fun _ _ _ _ _ => (pgv_name sc_net_least.nd rfl rfl rfl)) rfl rfl)
      (pssv_cons (psv_setItem (pv_var rfl rfl rfl) pv_int rfl rfl rfl (fun _ => rfl) rfl rfl rfl)
      (pssv_cons (psv_set sc_net_least.nd (pv_as (plv_lst (pav_cons (pv_var rfl rfl rfl) pav_nil rfl))) rfl rfl rfl rfl)
      (pssv_cons (psv_while (pt_tru (KK := K) rfl (pv_var rfl rfl rfl) (fun _ => rfl)) (pssv_cons (psv_own sc_net_least.nd (plv_lst pav_nil) rfl rfl rfl rfl)
      (pssv_cons (psv_for rfl (piv_list (KK := K) rfl (pv_var rfl rfl rfl)) (pgv_name sc_net_least.nd rfl rfl rfl) (pssv_one (psv_forO (KK := K) rfl nc rfl rfl rfl rfl rfl (pv_var rfl rfl rfl) (fun _ _ => rfl) (pgv_name sc_net_least.nd rfl rfl rfl) (pssv_cons (psv_set sc_net_least.nd (pv_nix .goals (KK := K) rfl nc rfl rfl rfl (pv_var rfl rfl rfl) rfl (fun _ _ => rfl)) rfl rfl rfl rfl)
      (pssv_cons (psv_set sc_net_least.nd (pv_flat (pv_op (op_add.or op_cat) ov_add (pv_ix (KK := K) rfl (pv_varO rfl rfl rfl) (pv_var rfl rfl rfl) (fun _ _ => rfl)) (pv_nix .costs (KK := K) rfl nc rfl rfl rfl (pv_var rfl rfl rfl) rfl (fun _ _ => rfl)))) rfl rfl rfl rfl)
      (pssv_one (psv_if (PWV.pt (pwv_and (pt_cmpV op_gt ov_gt (pv_nix .rooms (KK := K) rfl nc rfl rfl rfl (pv_var rfl rfl rfl) rfl (fun _ _ => rfl)) pv_int (nomark _)) (pwv_and1 (PWV.pt (pwv_or (pt_isN (pv_ix (KK := K) rfl (pv_varO rfl rfl rfl) (pv_var rfl rfl rfl) (fun _ _ => rfl))) (pwv_or1 (pt_cmpV op_lt ov_lt (pv_var rfl rfl rfl) (pv_ix (KK := K) rfl (pv_varO rfl rfl rfl) (pv_var rfl rfl rfl) (fun _ _ => rfl)) (nomark _)))))))) (pssv_cons (psv_setItem (pv_var rfl rfl rfl) (pv_var rfl rfl rfl) rfl rfl rfl (fun _ => rfl) rfl rfl rfl)
      (pssv_cons (psv_setItem (pv_var rfl rfl rfl) (pv_var rfl rfl rfl) rfl rfl rfl (fun _ => rfl) rfl rfl rfl)
      (pssv_one (psv_app (KK := K) rfl (pv_var rfl rfl rfl) rfl rfl rfl rfl rfl rfl rfl rfl rfl)))) pssv_nil)))) PassesOwn.never (fun _ => rfl))) PassesOwn.never (fun _ => rfl))
      (pssv_thaw (pssv_one (psv_set sc_net_least.nd (pv_var rfl rfl rfl) rfl rfl rfl rfl))))) PassesOwn.never)
      (pssv_one (psv_ret (pv_tup (pav_cons (pv_varO rfl rfl rfl) (pav_cons (pv_varO rfl rfl rfl) pav_nil rfl) rfl)))))))))⟩
abbrev s_net_push : Stmt := inClass (topS 8) 6
theorem sc_net_push : FnScope ["self", "start", "end", "total", "costs", "came", "row", "node", "size", "number"] ["self", "start", "end"] (defScope s_net_push) := ⟨rfl, rfl, rfl, by decide +kernel, rfl, by decide +kernel, by decide +kernel⟩
theorem fn_net_push (n : Nat) {f : Addr} {fd : FuncData} (F : Fun K "push" "Streams.push" s_net_push f fd) (nc : NetCls K C) (m_min : mg "min" = none) (c_net_back : MetN P w K mg base C "back" 1 (net_backF)) (c_net_least : MetN P w K mg base C "least" 1 (net_leastF n)) : FnOk P w K mg base CX0 2 f fd ["self", "start", "end"] (spN K C (net_pushF n)) :=
  fn_meth (k := 1) (fb := net_pushB n) nc F sc_net_push rfl rfl fun cdv A outer s H E hr => ⟨_, by
    unfold net_pushB
    exact (pssv_cons (psv_set sc_net_push.nd pv_int rfl rfl rfl rfl)
      (pssv_one (psv_while (pt_tru (KK := K) rfl pv_bl (fun _ => rfl)) (pssv_cons (psv_asg (pv_ncall (KK := K) rfl nc c_net_least (hr.mono (by omega)) rfl rfl rfl (pav_cons (pv_var rfl rfl rfl) pav_nil rfl) rfl rfl rfl) (pgv_tup (KK := K) rfl rfl (pgsv_cons (pgv_name sc_net_push.nd rfl rfl rfl) (pgsv_cons (pgv_name sc_net_push.nd rfl rfl rfl) pgsv_nil rfl) rfl) rfl rfl) rfl rfl rfl)
      (pssv_cons (psv_if (pt_isN (pv_ix (KK := K) rfl (pv_var rfl rfl rfl) (pv_var rfl rfl rfl) (fun _ _ => rfl))) (pssv_one (psv_ret (pv_var rfl rfl rfl))) pssv_nil)
      (pssv_cons (psv_own sc_net_push.nd (plv_lst pav_nil) rfl rfl rfl rfl)
      (pssv_cons (psv_set sc_net_push.nd (pv_var rfl rfl rfl) rfl rfl rfl rfl)
      (pssv_cons (psv_while (pt_cmpV (neD' (KK := K) rfl hr.units) ov_ne (pv_var rfl rfl rfl) (pv_var rfl rfl rfl) (nomark _)) (pssv_cons (psv_app (KK := K) rfl (pv_ix (KK := K) rfl (pv_var rfl rfl rfl) (pv_var rfl rfl rfl) (fun _ _ => rfl)) rfl rfl rfl rfl rfl rfl rfl rfl rfl)
      (pssv_one (psv_set sc_net_push.nd (pv_nix .goals (KK := K) rfl nc rfl rfl rfl (pv_ncall (KK := K) rfl nc c_net_back (hr.mono (by omega)) rfl rfl rfl (pav_cons (pv_ix (KK := K) rfl (pv_var rfl rfl rfl) (pv_var rfl rfl rfl) (fun _ _ => rfl)) pav_nil rfl) rfl rfl rfl) rfl (fun _ _ => rfl)) rfl rfl rfl rfl))) PassesOwn.never)
      (pssv_cons (psv_set sc_net_push.nd (pv_flat (pv_minA (KK := K) rfl hr rfl m_min (pav_cons (pv_as (plv_comp rfl sc_net_push.nd (piv_own (KK := K) rfl rfl rfl rfl) (blkOk_eq (own := [("number", 9)]) (N := ["self", "start", "end", "total", "costs", "came", "row", "node", "size", "number"]) (sc := defScope s_net_push) rfl rfl (by decide +kernel)) rfl (fun _ _ _ _ _ => (pgv_name sc_net_push.nd rfl rfl rfl)) (fun _ _ _ _ _ => ptsv_nil) (fun _ _ _ _ _ => (pv_nix .rooms (KK := K) rfl nc rfl rfl rfl (pv_var rfl rfl rfl) rfl (fun _ _ => rfl))) (fun _ => rfl))) pav_nil rfl) rfl rfl rfl)) rfl rfl rfl rfl)
      (pssv_thaw (pssv_cons (psv_for rfl (piv_list (KK := K) rfl (pv_var rfl rfl rfl)) (pgv_name sc_net_push.nd rfl rfl rfl) (pssv_cons (psv_nset .rooms (KK := K) rfl nc rfl rfl rfl rfl (pv_var rfl rfl rfl) (pv_op op_sub ov_sub (pv_nix .rooms (KK := K) rfl nc rfl rfl rfl (pv_var rfl rfl rfl) rfl (fun _ _ => rfl)) (pv_var rfl rfl rfl)) (fun _ => rfl) rfl rfl rfl)
      (pssv_one (psv_nset .rooms (KK := K) rfl nc rfl rfl rfl rfl (pv_ncall (KK := K) rfl nc c_net_back (hr.mono (by omega)) rfl rfl rfl (pav_cons (pv_var rfl rfl rfl) pav_nil rfl) rfl rfl rfl) (pv_op (op_add.or op_cat) ov_add (pv_nix .rooms (KK := K) rfl nc rfl rfl rfl (pv_ncall (KK := K) rfl nc c_net_back (hr.mono (by omega)) rfl rfl rfl (pav_cons (pv_var rfl rfl rfl) pav_nil rfl) rfl rfl rfl) rfl (fun _ _ => rfl)) (pv_var rfl rfl rfl)) (fun _ => rfl) rfl rfl rfl))) PassesOwn.never (fun _ => rfl))
      (pssv_one (psv_set sc_net_push.nd (pv_op (op_add.or op_cat) ov_add (pv_var rfl rfl rfl) (pv_var rfl rfl rfl)) rfl rfl rfl rfl)))))))))) PassesOwn.never)))⟩
abbrev s_net_way : Stmt := inClass (topS 8) 2
theorem sc_net_way : FnScope ["self", "start", "goal", "room", "cost", "number"] ["self", "start", "goal", "room", "cost"] (defScope s_net_way) := ⟨rfl, rfl, rfl, by decide +kernel, rfl, by decide +kernel, by decide +kernel⟩
theorem fn_net_way {f : Addr} {fd : FuncData} (F : Fun K "way" "Streams.way" s_net_way f fd) (nc : NetCls K C) (m_len : mg "len" = none) : FnOk P w K mg base CX0 1 f fd ["self", "start", "goal", "room", "cost"] (spN K C (net_wayF)) :=
  fn_meth (k := 0) (fb := net_wayB) nc F sc_net_way rfl rfl fun cdv A outer s H E hr => ⟨_, by
    unfold net_wayB
    exact (pssv_cons (psv_set sc_net_way.nd (pv_nlen .goals (KK := K) rfl nc m_len rfl rfl rfl rfl rfl rfl rfl) rfl rfl rfl rfl)
      (pssv_cons (psv_napp (KK := K) rfl nc rfl rfl rfl rfl (pv_var rfl rfl rfl) (fun _ _ => rfl) (pv_var rfl rfl rfl) rfl rfl rfl rfl rfl rfl)
      (pssv_cons (psv_napp (KK := K) rfl nc rfl rfl rfl rfl (pv_var rfl rfl rfl) (fun _ _ => rfl) (pv_op (op_add.or op_cat) ov_add (pv_var rfl rfl rfl) pv_int) rfl rfl rfl rfl rfl rfl)
      (pssv_cons (psv_next .goals (KK := K) rfl nc rfl rfl rfl rfl (pv_as (plv_lst (pav_cons (pv_var rfl rfl rfl) (pav_cons (pv_var rfl rfl rfl) pav_nil rfl) rfl))) rfl rfl rfl rfl rfl rfl)
      (pssv_cons (psv_next .rooms (KK := K) rfl nc rfl rfl rfl rfl (pv_as (plv_lst (pav_cons (pv_var rfl rfl rfl) (pav_cons pv_int pav_nil rfl) rfl))) rfl rfl rfl rfl rfl rfl)
      (pssv_cons (psv_next .costs (KK := K) rfl nc rfl rfl rfl rfl (pv_as (plv_lst (pav_cons (pv_var rfl rfl rfl) (pav_cons (pv_op op_sub ov_sub pv_int (pv_var rfl rfl rfl)) pav_nil rfl) rfl))) rfl rfl rfl rfl rfl rfl)
      (pssv_one (psv_ret (pv_var rfl rfl rfl)))))))))⟩
abbrev s__law_take : Stmt := topS 11
abbrev s__law_state : Stmt := topS 10
theorem sc__law_take : FnScope ["state", "most", "cells", "at", "cell", "mixed"] ["state", "most"] (defScope s__law_take) := ⟨rfl, rfl, rfl, by decide +kernel, rfl, by decide +kernel, by decide +kernel⟩
theorem sc__law_state : FnScope ["script", "cells", "cell"] ["script"] (defScope s__law_state) := ⟨rfl, rfl, rfl, by decide +kernel, rfl, by decide +kernel, by decide +kernel⟩
theorem fn_take {f : Addr} {fd : FuncData} (F : Fun K "_law_take" "_law_take" s__law_take f fd) (m_len : mg "len" = none) (m_int : mg "int" = none) : FnOk P w K mg base CX0 1 f fd ["state", "most"] (spTake K) := by
  refine F.ok sc__law_take (fun vs H Q E h => ?_) (fun cdv A outer s H vs Q E hr h => ?_)
  · obtain ⟨_, _, _, _, _, _, rfl, _⟩ := h; rfl
  obtain ⟨D, C, w0, most, r, w', rfl, hne, hD, hC, ht, q⟩ := h
  have nd := sc__law_take.nd
  refine ⟨_, pss_cons (ps_set (i := 2) nd rfl (.inl rfl) (pe_ix ix_list (pv 0) pe_int (fun _ _ => rfl)))
    (pss_cons (ps_set (i := 3) nd rfl (.inl rfl) (pe_op op_mod (pe_ix ix_list (pv 0) pe_int (fun _ _ => rfl)) (pe_callB call_len_seq (by rfl) m_len PySem.boot_len (pa_cons (pv 2) pa_nil))))
    (pss_cons (ps_set (i := 4) nd rfl (.inl rfl) (pe_ix ix_list (pv 2) (pv 3) (fun _ _ => rfl)))
    (pss_cons (ps_if (pt_cmpR op_ge (pv 4) pe_int (nomark _)) (pss_cons (ps_asg (pe_op op_fdiv (pv 4) (pv 1)) (pg_sub (pv 2) (pv 3) set_list)) (pss_one (ps_ret (pe_op op_mod (pv 4) (pv 1))))) pss_nil)
    (pss_cons (ps_asg (pe_op op_add (pe_ix ix_list (pv 0) pe_int (fun _ _ => rfl)) pe_int) (pg_sub (pv 0) pe_int set_list))
    (pss_cons (ps_set (i := 5) nd rfl (.inl rfl) (pe_op op_mod (pe_callTy call_int1 (by rfl) m_int (by decide +kernel) (pa_cons (pe_op op_add (pe_op op_mul (pv 4) pe_int) (pe_op op_mul (pe_ix ix_list (pv 0) pe_int (fun _ _ => rfl)) pe_int)) pa_nil)) pe_int))
    (pss_cons (ps_set (i := 5) nd rfl (.inl rfl) (pe_op op_mod (pe_callTy call_int1 (by rfl) m_int (by decide +kernel) (pa_cons (pe_op op_add (pe_op op_mul (pv 5) pe_int) (pe_op op_mul (pe_ix ix_list (pv 0) pe_int (fun _ _ => rfl)) pe_int)) pa_nil)) pe_int))
    (pss_one (ps_ret (pe_op op_mod (pe_op op_fdiv (pv 5) pe_int) (pv 1)))))))))), ?_⟩
  unfold takeW at ht
  split at ht
  rotate_left
  · cases ht
  rename_i hc
  obtain ⟨h0, h1, h2⟩ := hc
  dsimp only at ht
  split at ht
  · cases ht
  rename_i cell ecell
  have hcl : ((w0.cells.map V.int).length : Int) = (w0.cells.length : Int) := by rw [List.length_map]
  have hlen : (0 : Int) < (w0.cells.map V.int).length := by rw [hcl]; omega
  have hnn : 0 ≤ w0.pos % (w0.cells.length : Int) := Int.emod_nonneg _ (by omega)
  have eat : w0.pos % ((w0.cells.map V.int).length : Int) = (((w0.pos % (w0.cells.length : Int)).toNat : Nat) : Int) := by rw [hcl]; omega
  have gcell : (w0.cells.map V.int)[(w0.pos % (w0.cells.length : Int)).toNat]? = some (.int cell) := by rw [List.getElem?_map, ecell]; rfl
  -- cells = state[1]; at; cell
  refine ⟨.ref D, rfl, D, _, 1, .ref C, rfl, rfl, SqL.of hD, (by rfl), ?_⟩
  refine ⟨.ref D, rfl, D, _, 0, .int w0.pos, rfl, rfl, SqL.of hD, L2.atI_nat (j := 0) rfl, .ref C, rfl, C, _, rfl, .inl (SqL.of hC), w0.pos, _, rfl, rfl, hlen, ?_⟩
  refine ⟨.ref C, rfl, .int _, rfl, C, _, _, .int cell, rfl, rfl, SqL.of hC, ?_, ?_⟩
  · rw [eat]; exact L2.atI_nat gcell
  refine ⟨.int cell, rfl, cell, _, rfl, rfl, _, rfl, ?_⟩
  split at ht
  · rename_i hbig
    cases ht
    rw [decide_eq_true hbig]
    refine iteT ?_
    refine ⟨.int cell, rfl, .int most, rfl, cell, most, rfl, rfl, ⟨h0, h1⟩, .ref C, rfl, .int _, rfl, C, _, _, (w0.pos % (w0.cells.length : Int)).toNat, rfl, rfl, hC, ?_, ?_⟩
    · rw [eat]
      unfold L2.ixN
      have := (List.getElem?_eq_some_iff.mp gcell).1
      rw [if_pos (by omega), if_pos (by omega)]
      rfl
    refine ⟨.int cell, rfl, .int most, rfl, cell, most, rfl, rfl, h0, ?_⟩
    refine q _ (fun a o n1 n2 e => by rw [upd_ne n2]; exact e) (fun a e => ?_) (by rw [upd_ne hne]; exact hD) (by rw [upd_same, List.map_set])
    by_cases z : a = C
    · subst z; rw [upd_same]; simp
    · rw [upd_ne z]; exact e
  · rename_i hbig
    cases ht
    rw [decide_eq_false hbig]
    refine iteF ?_
    refine ⟨.ref D, rfl, D, _, 0, .int w0.pos, rfl, rfl, SqL.of hD, L2.atI_nat (j := 0) rfl, w0.pos, 1, rfl, rfl, .ref D, rfl, D, _, 0, 0, rfl, rfl, hD, rfl, ?_⟩
    have eD : (upd H D (.lst ([V.int w0.pos, .ref C].set 0 (.int (w0.pos + 1))))) D = some (.lst [.int (w0.pos + 1), .ref C]) := upd_same
    refine ⟨.int cell, rfl, cell, 48271, rfl, rfl, .inr (by omega), .ref D, rfl, D, _, 0, .int (w0.pos + 1), rfl, rfl, SqL.of eD, L2.atI_nat (j := 0) rfl, w0.pos + 1, 69621, rfl, rfl, .inr (by omega), _, _, rfl, rfl, .inl ⟨_, rfl, _, 2147483647, rfl, rfl, by omega, ?_⟩⟩
    refine ⟨_, rfl, _, 16807, rfl, rfl, .inr (by omega), .ref D, rfl, D, _, 0, .int (w0.pos + 1), rfl, rfl, SqL.of eD, L2.atI_nat (j := 0) rfl, w0.pos + 1, 7919, rfl, rfl, .inr (by omega), _, _, rfl, rfl, .inl ⟨_, rfl, _, 1000000007, rfl, rfl, by omega, ?_⟩⟩
    refine ⟨_, rfl, _, 7, rfl, rfl, ⟨by omega, by omega⟩, .int most, rfl, _, most, rfl, rfl, h0, ?_⟩
    refine q _ (fun a o n1 n2 e => by rw [upd_ne n1]; exact e) (fun a e => ?_) eD (by rw [upd_ne hne.symm]; exact hC)
    by_cases z : a = D
    · subst z; rw [upd_same]; simp
    · rw [upd_ne z]; exact e
theorem fn_state {f : Addr} {fd : FuncData} (F : Fun K "_law_state" "_law_state" s__law_state f fd) (m_abs : mg "abs" = none) (m_len : mg "len" = none) : FnOk P w K mg base CX0 1 f fd ["script"] (spState K) :=
  state_ok (st := s__law_state) F sc__law_state rfl fun cdv A outer s H E hr => ⟨_, _, by
    unfold stateB1
    exact (psv_ownLc rfl sc__law_state.nd (sw_true rfl rfl rfl (by decide +kernel)) (piv_list (KK := K) rfl (pv_as (plv_cutZ (KK := K) rfl rfl rfl rfl pov_none (pov_some pv_int)))) (blkOk_eq (own := [("cell", 2)]) (N := ["script", "cells", "cell"]) (sc := defScope s__law_state) rfl rfl (by decide +kernel)) rfl (fun _ _ _ _ _ => (pgv_name sc__law_state.nd rfl rfl rfl)) (fun _ _ _ _ _ => ptsv_nil) (fun _ _ _ _ _ => (pv_abs m_abs (pav_cons (pv_var rfl rfl rfl) pav_nil rfl) rfl rfl rfl)) (fun _ => rfl) rfl rfl), by
    unfold stateB2
    exact (psv_if (pt_cmpV (eqD' (KK := K) rfl hr.units) ov_eq (pv_len (KK := K) rfl m_len (pav_cons (pv_varO rfl rfl rfl) pav_nil rfl) rfl rfl rfl) pv_int (nomark _)) (pssv_one (psv_own sc__law_state.nd (plv_lst (pav_cons pv_int pav_nil rfl)) rfl rfl rfl rfl)) pssv_nil), ps_ret (pe_lst (pa_cons pe_int (pa_cons (pv 1) pa_nil)))⟩

abbrev s_law : Stmt := topS 12
theorem sc_law : FnScope ["script", "state", "prices", "k", "lengths", "first", "last", "told", "net", "nodes", "minute", "start", "end", "ways", "at", "cost", "j", "carried", "way", "total"] ["script"] (defScope s_law) := ⟨rfl, rfl, rfl, by decide +kernel, rfl, by decide +kernel, by decide +kernel⟩
theorem fn_law (n : Nat) {f : Addr} {fd : FuncData} (F : Fun K "law" "law" s_law f fd) (c_state : CalS P w K mg base "_law_state" 1) (nc : NetCls K C) (c_Streams : MakN P w K mg base C 1) (m_int : mg "int" = none) (m_len : mg "len" = none) (m_range : mg "range" = none) (m_sum : mg "sum" = none) (c__law_take : CalT P w K mg base "_law_take" 1) (c_cost_from : Cal P w K mg base "cost_from" 1 (cost_fromF)) (c_in_a_row : Cal P w K mg base "in_a_row" 3 (in_a_rowF n)) (c_in_a_row_fault : Cal P w K mg base "in_a_row_fault" 3 (in_a_row_faultF)) (c_net_carried : MetN P w K mg base C "carried" 1 (net_carriedF)) (c_net_node : MetN P w K mg base C "node" 1 (net_nodeF)) (c_net_push : MetN P w K mg base C "push" 2 (net_pushF n)) (c_net_way : MetN P w K mg base C "way" 1 (net_wayF))
    (run : ∀ ns : List Int, ns.length ≤ 63 → ∃ env' w', lawB n ((Slot.fz ns :: List.replicate 19 Slot.no).set 1 (.st 1)) ⟨0, stateCells ns, none⟩ = some ((.rt (.bool true), env'), w')) : FnOk P w K mg base CX0 4 f fd ["script"] (spLaw K) :=
  law_ok (k := 3) (i := 1) (fb := lawB n) F sc_law rfl (by decide) (fun cdv A outer s H E hr => ⟨by
    obtain ⟨fa, fd, G, mgf, kp, bi⟩ := c_state.ex
    exact ps_set sc_law.nd rfl (.inr rfl) (pe_call G (hr.mono (by decide)) (by rfl) mgf kp bi .nil pass0 (pa_cons (pv 0) pa_nil)), _, by
    unfold lawB
    exact (pssv_cons (psv_set sc_law.nd (pv_as (plv_comp rfl sc_law.nd (piv_range1 m_range (pav_cons (pv_op (op_add.or op_cat) ov_add pv_int (pv_take (KK := K) rfl c__law_take (hr.mono (by omega)) pv_int rfl rfl rfl rfl rfl rfl rfl rfl)) pav_nil rfl) rfl rfl) (blkOk_eq (own := [("k", 3)]) (N := ["script", "state", "prices", "k", "lengths", "first", "last", "told", "net", "nodes", "minute", "start", "end", "ways", "at", "cost", "j", "carried", "way", "total"]) (sc := defScope s_law) rfl rfl (by decide +kernel)) rfl (fun _ _ _ _ _ => (pgv_name sc_law.nd rfl rfl rfl)) (fun _ _ _ _ _ => ptsv_nil) (fun _ _ _ _ _ => (pv_take (KK := K) rfl c__law_take (hr.mono (by omega)) pv_int rfl rfl rfl rfl rfl rfl rfl rfl)) (fun _ => rfl))) rfl rfl rfl rfl)
      (pssv_cons (psv_set sc_law.nd (pv_as (plv_comp rfl sc_law.nd (piv_range1 m_range (pav_cons (pv_take (KK := K) rfl c__law_take (hr.mono (by omega)) pv_int rfl rfl rfl rfl rfl rfl rfl rfl) pav_nil rfl) rfl rfl) (blkOk_eq (own := [("k", 3)]) (N := ["script", "state", "prices", "k", "lengths", "first", "last", "told", "net", "nodes", "minute", "start", "end", "ways", "at", "cost", "j", "carried", "way", "total"]) (sc := defScope s_law) rfl rfl (by decide +kernel)) rfl (fun _ _ _ _ _ => (pgv_name sc_law.nd rfl rfl rfl)) (fun _ _ _ _ _ => ptsv_nil) (fun _ _ _ _ _ => (pv_op (op_add.or op_cat) ov_add pv_int (pv_take (KK := K) rfl c__law_take (hr.mono (by omega)) pv_int rfl rfl rfl rfl rfl rfl rfl rfl))) (fun _ => rfl))) rfl rfl rfl rfl)
      (pssv_cons (psv_set sc_law.nd (pv_take (KK := K) rfl c__law_take (hr.mono (by omega)) pv_int rfl rfl rfl rfl rfl rfl rfl rfl) rfl rfl rfl rfl)
      (pssv_cons (psv_set sc_law.nd (pv_op (op_add.or op_cat) ov_add (pv_var rfl rfl rfl) (pv_take (KK := K) rfl c__law_take (hr.mono (by omega)) pv_int rfl rfl rfl rfl rfl rfl rfl rfl)) rfl rfl rfl rfl)
      (pssv_cons (psv_set sc_law.nd (pv_call (KK := K) rfl c_in_a_row (hr.mono (by omega)) (pav_cons (pv_var rfl rfl rfl) (pav_cons (pv_var rfl rfl rfl) (pav_cons (pv_var rfl rfl rfl) (pav_cons (pv_var rfl rfl rfl) pav_nil rfl) rfl) rfl) rfl) rfl rfl rfl rfl) rfl rfl rfl rfl)
      (pssv_cons (psv_if (PWV.pt (pwv_or (pt_notN (pv_call (KK := K) rfl c_in_a_row_fault (hr.mono (by omega)) (pav_cons (pv_var rfl rfl rfl) (pav_cons (pv_var rfl rfl rfl) (pav_cons (pv_var rfl rfl rfl) (pav_cons (pv_var rfl rfl rfl) (pav_cons (pv_var rfl rfl rfl) pav_nil rfl) rfl) rfl) rfl) rfl) rfl rfl rfl rfl)) (pwv_or1 (pt_cmpV (neD' (KK := K) rfl hr.units) ov_ne (pv_cmp (eqD' (KK := K) rfl hr.units) ov_eq (pv_ix (KK := K) rfl (pv_var rfl rfl rfl) pv_int (fun _ _ => rfl)) pv_str (nomark _)) (pv_cmp op_gt ov_gt (pv_sum (KK := K) rfl rfl m_sum (pav_cons (pv_var rfl rfl rfl) pav_nil rfl) rfl rfl rfl) (pv_op op_sub ov_sub (pv_var rfl rfl rfl) (pv_var rfl rfl rfl)) (nomark _)) (nomark _))))) (pssv_one (psv_ret pv_bl)) pssv_nil)
      (pssv_cons (psv_if (pt_cmpV (eqD' (KK := K) rfl hr.units) ov_eq (pv_ix (KK := K) rfl (pv_var rfl rfl rfl) pv_int (fun _ _ => rfl)) pv_str (nomark _)) (pssv_one (psv_ret (pv_cmp (eqD' (KK := K) rfl hr.units) ov_eq (pv_ix (KK := K) rfl (pv_var rfl rfl rfl) pv_int (fun _ _ => rfl)) (pv_op op_sub ov_sub (pv_sum (KK := K) rfl rfl m_sum (pav_cons (pv_var rfl rfl rfl) pav_nil rfl) rfl rfl rfl) (pv_op op_sub ov_sub (pv_var rfl rfl rfl) (pv_var rfl rfl rfl))) (nomark _)))) pssv_nil)
      (pssv_cons (psv_nnew nc c_Streams (hr.mono (by omega)) sc_law.nd rfl rfl rfl rfl rfl)
      (pssv_cons (psv_setLc rfl sc_law.nd (sw_true rfl rfl rfl (by decide +kernel)) (piv_range1 m_range (pav_cons (pv_op (op_add.or op_cat) ov_add (pv_len (KK := K) rfl m_len (pav_cons (pv_var rfl rfl rfl) pav_nil rfl) rfl rfl rfl) pv_int) pav_nil rfl) rfl rfl) (blkOk_eq (own := [("k", 3)]) (N := ["script", "state", "prices", "k", "lengths", "first", "last", "told", "net", "nodes", "minute", "start", "end", "ways", "at", "cost", "j", "carried", "way", "total"]) (sc := defScope s_law) rfl rfl (by decide +kernel)) rfl (fun _ _ _ _ _ => (pgv_name sc_law.nd rfl rfl rfl)) (fun _ _ _ _ _ => ptsv_nil) (fun _ _ _ _ _ => (pv_as (plv_comp rfl sc_law.nd (piv_range2 m_range (pav_cons (pv_var rfl rfl rfl) (pav_cons (pv_op (op_add.or op_cat) ov_add (pv_var rfl rfl rfl) pv_int) pav_nil rfl) rfl) rfl rfl rfl) (blkOk_eq (own := [("minute", 10)]) (N := ["script", "state", "prices", "k", "lengths", "first", "last", "told", "net", "nodes", "minute", "start", "end", "ways", "at", "cost", "j", "carried", "way", "total"]) (sc := ⟨.function, [(".0", .local), ("k", .local), ("range", .globalImplicit), ("first", .cell), ("last", .cell), ("net", .cell)], false, false, []⟩) rfl rfl (by decide +kernel)) rfl (fun _ _ _ _ _ => (pgv_name sc_law.nd rfl rfl rfl)) (fun _ _ _ _ _ => ptsv_nil) (fun _ _ _ _ _ => (pv_ncall0 (KK := K) rfl nc c_net_node (hr.mono (by omega)) rfl rfl rfl rfl)) (fun _ => rfl)))) (fun _ => rfl) rfl rfl)
      (pssv_cons (psv_par rfl sc_law.nd (pav_cons (pv_ncall0 (KK := K) rfl nc c_net_node (hr.mono (by omega)) rfl rfl rfl rfl) (pav_cons (pv_ncall0 (KK := K) rfl nc c_net_node (hr.mono (by omega)) rfl rfl rfl rfl) pav_nil rfl) rfl) rfl rfl (by decide) rfl rfl rfl rfl)
      (pssv_cons (psv_expr (pv_ncall (KK := K) rfl nc c_net_way (hr.mono (by omega)) rfl rfl rfl (pav_cons (pv_var rfl rfl rfl) (pav_cons (pv_ix (KK := K) rfl (pv_ix (KK := K) rfl (pv_var rfl rfl rfl) pv_int (fun _ _ => rfl)) pv_int (fun _ _ => rfl)) (pav_cons pv_int (pav_cons pv_int pav_nil rfl) rfl) rfl) rfl) rfl rfl rfl) rfl)
      (pssv_cons (psv_own sc_law.nd (plv_lst pav_nil) rfl rfl rfl rfl)
      (pssv_cons (psv_for rfl (piv_range1 m_range (pav_cons (pv_op (op_add.or op_cat) ov_add (pv_len (KK := K) rfl m_len (pav_cons (pv_var rfl rfl rfl) pav_nil rfl) rfl rfl rfl) pv_int) pav_nil rfl) rfl rfl) (pgv_name sc_law.nd rfl rfl rfl) (pssv_one (psv_for rfl (piv_range1 m_range (pav_cons (pv_op (op_add.or op_cat) ov_add (pv_op op_sub ov_sub (pv_var rfl rfl rfl) (pv_var rfl rfl rfl)) pv_int) pav_nil rfl) rfl rfl) (pgv_name sc_law.nd rfl rfl rfl) (pssv_cons (psv_if (pt_cmpV op_lt ov_lt (pv_var rfl rfl rfl) (pv_op op_sub ov_sub (pv_var rfl rfl rfl) (pv_var rfl rfl rfl)) (nomark _)) (pssv_one (psv_expr (pv_ncall (KK := K) rfl nc c_net_way (hr.mono (by omega)) rfl rfl rfl (pav_cons (pv_ix (KK := K) rfl (pv_ix (KK := K) rfl (pv_var rfl rfl rfl) (pv_var rfl rfl rfl) (fun _ _ => rfl)) (pv_var rfl rfl rfl) (fun _ _ => rfl)) (pav_cons (pv_ix (KK := K) rfl (pv_ix (KK := K) rfl (pv_var rfl rfl rfl) (pv_var rfl rfl rfl) (fun _ _ => rfl)) (pv_op (op_add.or op_cat) ov_add (pv_var rfl rfl rfl) pv_int) (fun _ _ => rfl)) (pav_cons pv_int (pav_cons pv_int pav_nil rfl) rfl) rfl) rfl) rfl rfl rfl) rfl)) pssv_nil)
      (pssv_one (psv_if (PWV.pt (pwv_and (pt_cmpV op_lt ov_lt (pv_var rfl rfl rfl) (pv_len (KK := K) rfl m_len (pav_cons (pv_var rfl rfl rfl) pav_nil rfl) rfl rfl rfl) (nomark _)) (pwv_and1 (pt_cmpV op_le ov_le (pv_op (op_add.or op_cat) ov_add (pv_var rfl rfl rfl) (pv_ix (KK := K) rfl (pv_var rfl rfl rfl) (pv_var rfl rfl rfl) (fun _ _ => rfl))) (pv_op op_sub ov_sub (pv_var rfl rfl rfl) (pv_var rfl rfl rfl)) (nomark _))))) (pssv_cons (psv_set sc_law.nd (pv_sum (KK := K) rfl rfl m_sum (pav_cons (pv_as (plv_comp rfl sc_law.nd (piv_range1 m_range (pav_cons (pv_ix (KK := K) rfl (pv_var rfl rfl rfl) (pv_var rfl rfl rfl) (fun _ _ => rfl)) pav_nil rfl) rfl rfl) (blkOk_eq (own := [("j", 16)]) (N := ["script", "state", "prices", "k", "lengths", "first", "last", "told", "net", "nodes", "minute", "start", "end", "ways", "at", "cost", "j", "carried", "way", "total"]) (sc := defScope s_law) rfl rfl (by decide +kernel)) rfl (fun _ _ _ _ _ => (pgv_name sc_law.nd rfl rfl rfl)) (fun _ _ _ _ _ => ptsv_nil) (fun _ _ _ _ _ => (pv_ix (KK := K) rfl (pv_var rfl rfl rfl) (pv_op op_mod ov_mod (pv_intOf m_int (pav_cons (pv_op (op_add.or op_cat) ov_add (pv_op (op_add.or op_cat) ov_add (pv_var rfl rfl rfl) (pv_var rfl rfl rfl)) (pv_var rfl rfl rfl)) pav_nil rfl) rfl rfl rfl) (pv_len (KK := K) rfl m_len (pav_cons (pv_var rfl rfl rfl) pav_nil rfl) rfl rfl rfl)) (fun _ _ => rfl))) (fun _ => rfl))) pav_nil rfl) rfl rfl rfl) rfl rfl rfl rfl)
      (pssv_cons (psv_if (pt_cmpV (neD' (KK := K) rfl hr.units) ov_ne (pv_var rfl rfl rfl) (pv_call (KK := K) rfl c_cost_from (hr.mono (by omega)) (pav_cons (pv_var rfl rfl rfl) (pav_cons (pv_op (op_add.or op_cat) ov_add (pv_var rfl rfl rfl) (pv_var rfl rfl rfl)) (pav_cons (pv_ix (KK := K) rfl (pv_var rfl rfl rfl) (pv_var rfl rfl rfl) (fun _ _ => rfl)) pav_nil rfl) rfl) rfl) rfl rfl rfl rfl) (nomark _)) (pssv_one (psv_ret pv_bl)) pssv_nil)
      (pssv_one (psv_app (KK := K) rfl (pv_tup (pav_cons (pv_ncall (KK := K) rfl nc c_net_way (hr.mono (by omega)) rfl rfl rfl (pav_cons (pv_ix (KK := K) rfl (pv_ix (KK := K) rfl (pv_var rfl rfl rfl) (pv_var rfl rfl rfl) (fun _ _ => rfl)) (pv_var rfl rfl rfl) (fun _ _ => rfl)) (pav_cons (pv_ix (KK := K) rfl (pv_ix (KK := K) rfl (pv_var rfl rfl rfl) (pv_op (op_add.or op_cat) ov_add (pv_var rfl rfl rfl) pv_int) (fun _ _ => rfl)) (pv_op (op_add.or op_cat) ov_add (pv_var rfl rfl rfl) (pv_ix (KK := K) rfl (pv_var rfl rfl rfl) (pv_var rfl rfl rfl) (fun _ _ => rfl))) (fun _ _ => rfl)) (pav_cons pv_int (pav_cons (pv_var rfl rfl rfl) pav_nil rfl) rfl) rfl) rfl) rfl rfl rfl) (pav_cons (pv_var rfl rfl rfl) pav_nil rfl) rfl)) rfl rfl rfl rfl rfl rfl rfl rfl rfl)))) pssv_nil))) PassesOwn.never (fun _ => rfl))) PassesOwn.never (fun _ => rfl))
      (pssv_cons (psv_expr (pv_ncall (KK := K) rfl nc c_net_way (hr.mono (by omega)) rfl rfl rfl (pav_cons (pv_ix (KK := K) rfl (pv_ix (KK := K) rfl (pv_var rfl rfl rfl) (pv_len (KK := K) rfl m_len (pav_cons (pv_var rfl rfl rfl) pav_nil rfl) rfl rfl rfl) (fun _ _ => rfl)) (pv_op op_sub ov_sub (pv_var rfl rfl rfl) (pv_var rfl rfl rfl)) (fun _ _ => rfl)) (pav_cons (pv_var rfl rfl rfl) (pav_cons pv_int (pav_cons pv_int pav_nil rfl) rfl) rfl) rfl) rfl rfl rfl) rfl)
      (pssv_cons (psv_if (pt_cmpV (neD' (KK := K) rfl hr.units) ov_ne (pv_ncall (KK := K) rfl nc c_net_push (hr.mono (by omega)) rfl rfl rfl (pav_cons (pv_var rfl rfl rfl) (pav_cons (pv_var rfl rfl rfl) pav_nil rfl) rfl) rfl rfl rfl) pv_int (nomark _)) (pssv_one (psv_ret pv_bl)) pssv_nil)
      (pssv_cons (psv_set sc_law.nd (pv_flat (pv_sum (KK := K) rfl rfl m_sum (pav_cons (pv_as (plv_comp rfl sc_law.nd (piv_own (KK := K) rfl rfl rfl rfl) (blkOk_eq (own := [("way", 18), ("cost", 15)]) (N := ["script", "state", "prices", "k", "lengths", "first", "last", "told", "net", "nodes", "minute", "start", "end", "ways", "at", "cost", "j", "carried", "way", "total"]) (sc := defScope s_law) rfl rfl (by decide +kernel)) rfl (fun _ _ _ _ _ => (pgv_tup (KK := K) rfl rfl (pgsv_cons (pgv_name sc_law.nd rfl rfl rfl) (pgsv_cons (pgv_name sc_law.nd rfl rfl rfl) pgsv_nil rfl) rfl) rfl rfl)) (fun _ _ _ _ _ => (ptsv_one (pt_cmpV op_gt ov_gt (pv_ncall (KK := K) rfl nc c_net_carried (hr.mono (by omega)) rfl rfl rfl (pav_cons (pv_var rfl rfl rfl) pav_nil rfl) rfl rfl rfl) pv_int (nomark _)))) (fun _ _ _ _ _ => (pv_var rfl rfl rfl)) (fun _ => rfl))) pav_nil rfl) rfl rfl rfl)) rfl rfl rfl rfl)
      (pssv_cons (psv_set sc_law.nd (pv_sum (KK := K) rfl rfl m_sum (pav_cons (pv_as (plv_comp rfl sc_law.nd (piv_range1 m_range (pav_cons (pv_len (KK := K) rfl m_len (pav_cons (pv_var rfl rfl rfl) pav_nil rfl) rfl rfl rfl) pav_nil rfl) rfl rfl) (blkOk_eq (own := [("k", 3)]) (N := ["script", "state", "prices", "k", "lengths", "first", "last", "told", "net", "nodes", "minute", "start", "end", "ways", "at", "cost", "j", "carried", "way", "total"]) (sc := defScope s_law) rfl rfl (by decide +kernel)) rfl (fun _ _ _ _ _ => (pgv_name sc_law.nd rfl rfl rfl)) (fun _ _ _ _ _ => ptsv_nil) (fun _ _ _ _ _ => (pv_call (KK := K) rfl c_cost_from (hr.mono (by omega)) (pav_cons (pv_var rfl rfl rfl) (pav_cons (pv_ix (KK := K) rfl (pv_ix (KK := K) rfl (pv_var rfl rfl rfl) pv_int (fun _ _ => rfl)) (pv_var rfl rfl rfl) (fun _ _ => rfl)) (pav_cons (pv_ix (KK := K) rfl (pv_var rfl rfl rfl) (pv_var rfl rfl rfl) (fun _ _ => rfl)) pav_nil rfl) rfl) rfl) rfl rfl rfl rfl)) (fun _ => rfl))) pav_nil rfl) rfl rfl rfl) rfl rfl rfl rfl)
      (pssv_one (psv_ret (pv_and (pv_cmp (eqD' (KK := K) rfl hr.units) ov_eq (pv_ix (KK := K) rfl (pv_var rfl rfl rfl) pv_int (fun _ _ => rfl)) (pv_var rfl rfl rfl) (nomark _)) (pv_one (pv_cmp (eqD' (KK := K) rfl hr.units) ov_eq (pv_ix (KK := K) rfl (pv_var rfl rfl rfl) pv_int (fun _ _ => rfl)) (pv_var rfl rfl rfl) (nomark _)))))))))))))))))))))))⟩) run
abbrev s_net_init : Stmt := inClass (topS 8) 0
theorem sc_net_init : FnScope ["self"] ["self"] (defScope s_net_init) := ⟨rfl, rfl, rfl, by decide +kernel, rfl, by decide +kernel, by decide +kernel⟩
theorem fn_net_init (nc : NetCls K C) {f : Addr} {fd : FuncData} (F : Fun K "__init__" "Streams.__init__" s_net_init f fd) : FnOk P w K mg base CX0 1 f fd ["self"] (spInit C) :=
  fn_init (k := 0) nc F sc_net_init fun cdv A outer s H E hr => pss_cons (ps_fld (pv 0) (pe_lst pa_nil) rfl) (pss_cons (ps_fld (pv 0) (pe_lst pa_nil) rfl) (pss_cons (ps_fld (pv 0) (pe_lst pa_nil) rfl) (pss_one (ps_fld (pv 0) (pe_lst pa_nil) rfl))))
theorem all_mk {l : PySem.W.OpenLaw} {w : World} {K : PySem.W.Frag} {h : Heap} {mg : Str → Option Value} {fa C f0 f1 f2 f3 f4 f5 f6 f7 f8 f9 f10 f11 f12 f13 f14 f15 : Addr} (X : K.In h) (G : h.Ns mainGlobals mg) (hfa : mg "law" = some (.ref fa))
    {od0 an0 od1 an1 od2 an2 od3 an3 od4 an4 od5 an5 od6 an6 od7 an7 od8 an8 od9 an9 od10 an10 od11 an11 od12 an12 od13 an13 od14 an14 od15 an15 : Option Addr} {sl0 sl1 sl2 sl3 sl4 sl5 sl6 sl7 sl8 sl9 sl10 sl11 sl12 sl13 sl14 sl15 : Array (Option Value)} {oc0 kV0 dc0 pm0 cd0 ct0 oc1 kV1 dc1 pm1 cd1 ct1 oc2 kV2 dc2 pm2 cd2 ct2 oc3 kV3 dc3 pm3 cd3 ct3 oc4 kV4 dc4 pm4 cd4 ct4 oc5 kV5 dc5 pm5 cd5 ct5 oc6 kV6 dc6 pm6 cd6 ct6 oc7 kV7 dc7 pm7 cd7 ct7 oc8 kV8 dc8 pm8 cd8 ct8 oc9 kV9 dc9 pm9 cd9 ct9 oc10 kV10 dc10 pm10 cd10 ct10 oc11 kV11 dc11 pm11 cd11 ct11 oc12 kV12 dc12 pm12 cd12 ct12 oc13 kV13 dc13 pm13 cd13 ct13 oc14 kV14 dc14 pm14 cd14 ct14 oc15 kV15 dc15 pm15 cd15 ct15 : Value}
    (a0 : PySem.W.findIn K (.ref C) "__init__" = some (some (.ref f0))) (i0 : PySem.W.isFn K (.ref f0) = true) (l0 : K.lookup f0 = some ⟨oc0, od0, .func (PySem.W.fnOf "__init__" "Streams.__init__" (defArgs s_net_init) (defBody s_net_init) (defScope s_net_init) .none kV0 dc0 pm0 an0 cd0 ct0), sl0⟩) (c0 : PySem.W.codeIn K cd0 "Streams.__init__" = true) (k0 : PySem.W.keepIn K (.ref f0) = true)
    (a1 : PySem.W.nsIn K mainGlobals "_wall" = some (some (.ref f1))) (l1 : K.lookup f1 = some ⟨oc1, od1, .func (PySem.W.fnOf "_wall" "_wall" (defArgs s__wall) (defBody s__wall) (defScope s__wall) .none kV1 dc1 pm1 an1 cd1 ct1), sl1⟩) (c1 : PySem.W.codeIn K cd1 "_wall" = true) (k1 : PySem.W.keepIn K (.ref f1) = true)
    (a2 : PySem.W.nsIn K mainGlobals "cost_from" = some (some (.ref f2))) (l2 : K.lookup f2 = some ⟨oc2, od2, .func (PySem.W.fnOf "cost_from" "cost_from" (defArgs s_cost_from) (defBody s_cost_from) (defScope s_cost_from) .none kV2 dc2 pm2 an2 cd2 ct2), sl2⟩) (c2 : PySem.W.codeIn K cd2 "cost_from" = true) (k2 : PySem.W.keepIn K (.ref f2) = true)
    (a3 : PySem.W.nsIn K mainGlobals "tables_for" = some (some (.ref f3))) (l3 : K.lookup f3 = some ⟨oc3, od3, .func (PySem.W.fnOf "tables_for" "tables_for" (defArgs s_tables_for) (defBody s_tables_for) (defScope s_tables_for) .none kV3 dc3 pm3 an3 cd3 ct3), sl3⟩) (c3 : PySem.W.codeIn K cd3 "tables_for" = true) (k3 : PySem.W.keepIn K (.ref f3) = true)
    (a4 : PySem.W.nsIn K mainGlobals "in_a_row" = some (some (.ref f4))) (l4 : K.lookup f4 = some ⟨oc4, od4, .func (PySem.W.fnOf "in_a_row" "in_a_row" (defArgs s_in_a_row) (defBody s_in_a_row) (defScope s_in_a_row) .none kV4 dc4 pm4 an4 cd4 ct4), sl4⟩) (c4 : PySem.W.codeIn K cd4 "in_a_row" = true) (k4 : PySem.W.keepIn K (.ref f4) = true)
    (a5 : PySem.W.nsIn K mainGlobals "tables_fault" = some (some (.ref f5))) (l5 : K.lookup f5 = some ⟨oc5, od5, .func (PySem.W.fnOf "tables_fault" "tables_fault" (defArgs s_tables_fault) (defBody s_tables_fault) (defScope s_tables_fault) .none kV5 dc5 pm5 an5 cd5 ct5), sl5⟩) (c5 : PySem.W.codeIn K cd5 "tables_fault" = true) (k5 : PySem.W.keepIn K (.ref f5) = true)
    (a6 : PySem.W.nsIn K mainGlobals "in_a_row_fault" = some (some (.ref f6))) (l6 : K.lookup f6 = some ⟨oc6, od6, .func (PySem.W.fnOf "in_a_row_fault" "in_a_row_fault" (defArgs s_in_a_row_fault) (defBody s_in_a_row_fault) (defScope s_in_a_row_fault) .none kV6 dc6 pm6 an6 cd6 ct6), sl6⟩) (c6 : PySem.W.codeIn K cd6 "in_a_row_fault" = true) (k6 : PySem.W.keepIn K (.ref f6) = true)
    (a7 : PySem.W.findIn K (.ref C) "carried" = some (some (.ref f7))) (i7 : PySem.W.isFn K (.ref f7) = true) (l7 : K.lookup f7 = some ⟨oc7, od7, .func (PySem.W.fnOf "carried" "Streams.carried" (defArgs s_net_carried) (defBody s_net_carried) (defScope s_net_carried) .none kV7 dc7 pm7 an7 cd7 ct7), sl7⟩) (c7 : PySem.W.codeIn K cd7 "Streams.carried" = true) (k7 : PySem.W.keepIn K (.ref f7) = true)
    (a8 : PySem.W.findIn K (.ref C) "node" = some (some (.ref f8))) (i8 : PySem.W.isFn K (.ref f8) = true) (l8 : K.lookup f8 = some ⟨oc8, od8, .func (PySem.W.fnOf "node" "Streams.node" (defArgs s_net_node) (defBody s_net_node) (defScope s_net_node) .none kV8 dc8 pm8 an8 cd8 ct8), sl8⟩) (c8 : PySem.W.codeIn K cd8 "Streams.node" = true) (k8 : PySem.W.keepIn K (.ref f8) = true)
    (a9 : PySem.W.findIn K (.ref C) "back" = some (some (.ref f9))) (i9 : PySem.W.isFn K (.ref f9) = true) (l9 : K.lookup f9 = some ⟨oc9, od9, .func (PySem.W.fnOf "back" "Streams.back" (defArgs s_net_back) (defBody s_net_back) (defScope s_net_back) .none kV9 dc9 pm9 an9 cd9 ct9), sl9⟩) (c9 : PySem.W.codeIn K cd9 "Streams.back" = true) (k9 : PySem.W.keepIn K (.ref f9) = true)
    (a10 : PySem.W.findIn K (.ref C) "least" = some (some (.ref f10))) (i10 : PySem.W.isFn K (.ref f10) = true) (l10 : K.lookup f10 = some ⟨oc10, od10, .func (PySem.W.fnOf "least" "Streams.least" (defArgs s_net_least) (defBody s_net_least) (defScope s_net_least) .none kV10 dc10 pm10 an10 cd10 ct10), sl10⟩) (c10 : PySem.W.codeIn K cd10 "Streams.least" = true) (k10 : PySem.W.keepIn K (.ref f10) = true)
    (a11 : PySem.W.findIn K (.ref C) "push" = some (some (.ref f11))) (i11 : PySem.W.isFn K (.ref f11) = true) (l11 : K.lookup f11 = some ⟨oc11, od11, .func (PySem.W.fnOf "push" "Streams.push" (defArgs s_net_push) (defBody s_net_push) (defScope s_net_push) .none kV11 dc11 pm11 an11 cd11 ct11), sl11⟩) (c11 : PySem.W.codeIn K cd11 "Streams.push" = true) (k11 : PySem.W.keepIn K (.ref f11) = true)
    (a12 : PySem.W.findIn K (.ref C) "way" = some (some (.ref f12))) (i12 : PySem.W.isFn K (.ref f12) = true) (l12 : K.lookup f12 = some ⟨oc12, od12, .func (PySem.W.fnOf "way" "Streams.way" (defArgs s_net_way) (defBody s_net_way) (defScope s_net_way) .none kV12 dc12 pm12 an12 cd12 ct12), sl12⟩) (c12 : PySem.W.codeIn K cd12 "Streams.way" = true) (k12 : PySem.W.keepIn K (.ref f12) = true)
    (a13 : PySem.W.nsIn K mainGlobals "_law_state" = some (some (.ref f13))) (l13 : K.lookup f13 = some ⟨oc13, od13, .func (PySem.W.fnOf "_law_state" "_law_state" (defArgs s__law_state) (defBody s__law_state) (defScope s__law_state) .none kV13 dc13 pm13 an13 cd13 ct13), sl13⟩) (c13 : PySem.W.codeIn K cd13 "_law_state" = true) (k13 : PySem.W.keepIn K (.ref f13) = true)
    (a14 : PySem.W.nsIn K mainGlobals "_law_take" = some (some (.ref f14))) (l14 : K.lookup f14 = some ⟨oc14, od14, .func (PySem.W.fnOf "_law_take" "_law_take" (defArgs s__law_take) (defBody s__law_take) (defScope s__law_take) .none kV14 dc14 pm14 an14 cd14 ct14), sl14⟩) (c14 : PySem.W.codeIn K cd14 "_law_take" = true) (k14 : PySem.W.keepIn K (.ref f14) = true)
    (a15 : PySem.W.nsIn K mainGlobals "law" = some (some (.ref f15))) (l15 : K.lookup f15 = some ⟨oc15, od15, .func (PySem.W.fnOf "law" "law" (defArgs s_law) (defBody s_law) (defScope s_law) .none kV15 dc15 pm15 an15 cd15 ct15), sl15⟩) (c15 : PySem.W.codeIn K cd15 "law" = true) (k15 : PySem.W.keepIn K (.ref f15) = true)
    (y_C : PySem.W.nsIn K mainGlobals "Streams" = some (some (.ref C))) (y_pg : PySem.W.plainGet K C Str.empty = true) (y_hd : PySem.W.hasDictIn K C = true) (y_po : PySem.W.plainOver K C = true) (y_sa : PySem.W.findIn K (.ref C) "__setattr__" = some (some (.builtin "object.__setattr__"))) (y_mk : PySem.W.makesIn K C = true) (y_kc : PySem.W.keepIn K (.ref C) = true)
    (y_1 : PySem.W.findIn K (.ref C) "outs" = some none) (y_2 : PySem.W.findIn K (.ref C) "goals" = some none) (y_3 : PySem.W.findIn K (.ref C) "rooms" = some none) (y_4 : PySem.W.findIn K (.ref C) "costs" = some none)
    (z_abs : PySem.W.nsIn K mainGlobals "abs" = some none)
    (z_all : PySem.W.nsIn K mainGlobals "all" = some none)
    (z_enumerate : PySem.W.nsIn K mainGlobals "enumerate" = some none)
    (z_int : PySem.W.nsIn K mainGlobals "int" = some none)
    (z_len : PySem.W.nsIn K mainGlobals "len" = some none)
    (z_min : PySem.W.nsIn K mainGlobals "min" = some none)
    (z_range : PySem.W.nsIn K mainGlobals "range" = some none)
    (z_sum : PySem.W.nsIn K mainGlobals "sum" = some none)
    (z_zip : PySem.W.nsIn K mainGlobals "zip" = some none)
    (n : Nat) (run : ∀ ns : List Int, ns.length ≤ 63 → ∃ env' w', lawB n ((Slot.fz ns :: List.replicate 19 Slot.no).set 1 (.st 1)) ⟨0, stateCells ns, none⟩ = some ((.rt (.bool true), env'), w')) :
    ∃ fd : FuncData, (∀ (s : Shared) (v : Value), BindsTo s fd ⟨[v], []⟩ [("script", v)]) ∧ ∀ base : Heap, K.In base → base.Ns mainGlobals mg → FnOk l.prog w K mg base CX0 4 fa fd ["script"] (spLaw K) := by
  have e := hfa.symm.trans (PySem.W.mg_of X G a15)
  cases e
  have m_abs := PySem.W.mg_none_of X G z_abs
  have m_all := PySem.W.mg_none_of X G z_all
  have m_enumerate := PySem.W.mg_none_of X G z_enumerate
  have m_int := PySem.W.mg_none_of X G z_int
  have m_len := PySem.W.mg_none_of X G z_len
  have m_min := PySem.W.mg_none_of X G z_min
  have m_range := PySem.W.mg_none_of X G z_range
  have m_sum := PySem.W.mg_none_of X G z_sum
  have m_zip := PySem.W.mg_none_of X G z_zip
  have F0 := fun_mk (st := s_net_init) l0 c0 k0
  have F1 := fun_mk (st := s__wall) l1 c1 k1
  have F2 := fun_mk (st := s_cost_from) l2 c2 k2
  have F3 := fun_mk (st := s_tables_for) l3 c3 k3
  have F4 := fun_mk (st := s_in_a_row) l4 c4 k4
  have F5 := fun_mk (st := s_tables_fault) l5 c5 k5
  have F6 := fun_mk (st := s_in_a_row_fault) l6 c6 k6
  have F7 := fun_mk (st := s_net_carried) l7 c7 k7
  have F8 := fun_mk (st := s_net_node) l8 c8 k8
  have F9 := fun_mk (st := s_net_back) l9 c9 k9
  have F10 := fun_mk (st := s_net_least) l10 c10 k10
  have F11 := fun_mk (st := s_net_push) l11 c11 k11
  have F12 := fun_mk (st := s_net_way) l12 c12 k12
  have F13 := fun_mk (st := s__law_state) l13 c13 k13
  have F14 := fun_mk (st := s__law_take) l14 c14 k14
  have F15 := fun_mk (st := s_law) l15 c15 k15
  refine ⟨PySem.W.fnOf "law" "law" (defArgs s_law) (defBody s_law) (defScope s_law) .none kV15 dc15 pm15 an15 cd15 ct15, fun s v => .of_eq rfl, fun base _ _ => ?_⟩
  have nc : NetCls K C := ⟨⟨y_pg, y_hd, y_po, y_sa⟩, y_1, y_2, y_3, y_4, y_C⟩
  have c_Streams : MakN l.prog w K mg base C 1 := ⟨_, _, ⟨y_mk, a0, i0, y_kc⟩, fn_net_init nc F0, PySem.W.mg_of X G y_C, (F0.binds (ps := ["self"]) fun _ _ _ _ _ _ us hl => match us, hl with | [_], _ => rfl)⟩
  have c__wall : Cal l.prog w K mg base "_wall" 1 (_wallF n) := cal_mk (fn__wall n F1) (PySem.W.mg_of X G a1) k1 (F1.binds (ps := ["k"]) fun _ _ _ _ _ _ us hl => match us, hl with | [_], _ => rfl)
  have c_cost_from : Cal l.prog w K mg base "cost_from" 1 (cost_fromF) := cal_mk (fn_cost_from F2 m_len m_range m_sum) (PySem.W.mg_of X G a2) k2 (F2.binds (ps := ["prices", "start", "length"]) fun _ _ _ _ _ _ us hl => match us, hl with | [_, _, _], _ => rfl)
  have c_tables_for : Cal l.prog w K mg base "tables_for" 2 (tables_forF) := cal_mk (fn_tables_for F3 m_min m_range c_cost_from) (PySem.W.mg_of X G a3) k3 (F3.binds (ps := ["prices", "lengths", "first", "last"]) fun _ _ _ _ _ _ us hl => match us, hl with | [_, _, _, _], _ => rfl)
  have c_in_a_row : Cal l.prog w K mg base "in_a_row" 3 (in_a_rowF n) := cal_mk (fn_in_a_row n F4 m_len m_range m_sum c_tables_for) (PySem.W.mg_of X G a4) k4 (F4.binds (ps := ["prices", "lengths", "first", "last"]) fun _ _ _ _ _ _ us hl => match us, hl with | [_, _, _, _], _ => rfl)
  have c_tables_fault : Cal l.prog w K mg base "tables_fault" 2 (tables_faultF) := cal_mk (fn_tables_fault F5 m_enumerate m_min m_sum c_cost_from) (PySem.W.mg_of X G a5) k5 (F5.binds (ps := ["prices", "lengths", "first", "cost", "tables"]) fun _ _ _ _ _ _ us hl => match us, hl with | [_, _, _, _, _], _ => rfl)
  have c_in_a_row_fault : Cal l.prog w K mg base "in_a_row_fault" 3 (in_a_row_faultF) := cal_mk (fn_in_a_row_fault F6 m_all m_enumerate m_len m_sum m_zip c_cost_from c_tables_fault) (PySem.W.mg_of X G a6) k6 (F6.binds (ps := ["prices", "lengths", "first", "last", "told"]) fun _ _ _ _ _ _ us hl => match us, hl with | [_, _, _, _, _], _ => rfl)
  have c_net_carried : MetN l.prog w K mg base C "carried" 1 (net_carriedF) := met_mk (fn_net_carried F7 nc) ⟨a7, i7, k7⟩ (F7.binds (ps := ["self", "number"]) fun _ _ _ _ _ _ us hl => match us, hl with | [_, _], _ => rfl) (by decide)
  have c_net_node : MetN l.prog w K mg base C "node" 1 (net_nodeF) := met_mk (fn_net_node F8 nc m_len) ⟨a8, i8, k8⟩ (F8.binds (ps := ["self"]) fun _ _ _ _ _ _ us hl => match us, hl with | [_], _ => rfl) (by decide)
  have c_net_back : MetN l.prog w K mg base C "back" 1 (net_backF) := met_mk (fn_net_back F9 nc) ⟨a9, i9, k9⟩ (F9.binds (ps := ["self", "number"]) fun _ _ _ _ _ _ us hl => match us, hl with | [_, _], _ => rfl) (by decide)
  have c_net_least : MetN l.prog w K mg base C "least" 1 (net_leastF n) := met_mk (fn_net_least n F10 nc) ⟨a10, i10, k10⟩ (F10.binds (ps := ["self", "start"]) fun _ _ _ _ _ _ us hl => match us, hl with | [_, _], _ => rfl) (by decide)
  have c_net_push : MetN l.prog w K mg base C "push" 2 (net_pushF n) := met_mk (fn_net_push n F11 nc m_min c_net_back c_net_least) ⟨a11, i11, k11⟩ (F11.binds (ps := ["self", "start", "end"]) fun _ _ _ _ _ _ us hl => match us, hl with | [_, _, _], _ => rfl) (by decide)
  have c_net_way : MetN l.prog w K mg base C "way" 1 (net_wayF) := met_mk (fn_net_way F12 nc m_len) ⟨a12, i12, k12⟩ (F12.binds (ps := ["self", "start", "goal", "room", "cost"]) fun _ _ _ _ _ _ us hl => match us, hl with | [_, _, _, _, _], _ => rfl) (by decide)
  have c_state : CalS l.prog w K mg base "_law_state" 1 := ⟨_, _, fn_state F13 m_abs m_len, PySem.W.mg_of X G a13, k13, (F13.binds (ps := ["script"]) fun _ _ _ _ _ _ us hl => match us, hl with | [_], _ => rfl)⟩
  have c__law_take : CalT l.prog w K mg base "_law_take" 1 := ⟨_, _, fn_take F14 m_len m_int, PySem.W.mg_of X G a14, k14, (F14.binds (ps := ["state", "most"]) fun _ _ _ _ _ _ us hl => match us, hl with | [_, _], _ => rfl)⟩
  exact fn_law n F15 c_state nc c_Streams m_int m_len m_range m_sum c__law_take c_cost_from c_in_a_row c_in_a_row_fault c_net_carried c_net_node c_net_push c_net_way run
end
end VE


open PySem PySem.W PyProof.Rows
set_option maxHeartbeats 0 in
theorem PySem.Challenge.cw_jobsagain_k55_rows_of_runs_as_streams_holds : PySem.Challenge.rw_jobsagain_k55_rows_of_runs_as_streams.Holds := by
  w_on; o_law; k_head; (case hw => w_witness2)
  k_fill
  refine L2.walk_of (l := PySem.Challenge.rw_jobsagain_k55_rows_of_runs_as_streams) (n := 63) (k := 4) (x := "script") (CX := fun _ => L2.CX0) (sp := fun w => VE.spLaw _) rfl (by decide) rfl ⟨rfl, by decide, by decide⟩ (fun w h Y => PySem.W.kIn_of Y) ?F (fun _ _ a ns hl _ hS => ⟨a, ns, rfl, hS, hl, fun _ => rfl⟩) (fun _ _ _ _ _ h => h)
  case F =>
    intro w mg fa h KX G hmg
    refine' VE.all_mk KX G hmg ?a0 ?i0 ?l0 ?c0 ?k0 ?a1 ?l1 ?c1 ?k1 ?a2 ?l2 ?c2 ?k2 ?a3 ?l3 ?c3 ?k3 ?a4 ?l4 ?c4 ?k4 ?a5 ?l5 ?c5 ?k5 ?a6 ?l6 ?c6 ?k6 ?a7 ?i7 ?l7 ?c7 ?k7 ?a8 ?i8 ?l8 ?c8 ?k8 ?a9 ?i9 ?l9 ?c9 ?k9 ?a10 ?i10 ?l10 ?c10 ?k10 ?a11 ?i11 ?l11 ?c11 ?k11 ?a12 ?i12 ?l12 ?c12 ?k12 ?a13 ?l13 ?c13 ?k13 ?a14 ?l14 ?c14 ?k14 ?a15 ?l15 ?c15 ?k15 ?y_C ?y_pg ?y_hd ?y_po ?y_sa ?y_mk ?y_kc ?y_1 ?y_2 ?y_3 ?y_4 ?z_abs ?z_all ?z_enumerate ?z_int ?z_len ?z_min ?z_range ?z_sum ?z_zip 300 VE.law_run
    (case y_C => k_is); (case a0 => k_is); (case i0 => k_is); (case l0 => k_is); (case c0 => k_is); (case k0 => k_is); (case a1 => k_is); (case l1 => k_is); (case c1 => k_is); (case k1 => k_is); (case a2 => k_is); (case l2 => k_is); (case c2 => k_is); (case k2 => k_is); (case a3 => k_is); (case l3 => k_is); (case c3 => k_is); (case k3 => k_is); (case a4 => k_is); (case l4 => k_is); (case c4 => k_is); (case k4 => k_is); (case a5 => k_is); (case l5 => k_is); (case c5 => k_is); (case k5 => k_is); (case a6 => k_is); (case l6 => k_is); (case c6 => k_is); (case k6 => k_is); (case a7 => k_is); (case i7 => k_is); (case l7 => k_is); (case c7 => k_is); (case k7 => k_is); (case a8 => k_is); (case i8 => k_is); (case l8 => k_is); (case c8 => k_is); (case k8 => k_is); (case a9 => k_is); (case i9 => k_is); (case l9 => k_is); (case c9 => k_is); (case k9 => k_is); (case a10 => k_is); (case i10 => k_is); (case l10 => k_is); (case c10 => k_is); (case k10 => k_is); (case a11 => k_is); (case i11 => k_is); (case l11 => k_is); (case c11 => k_is); (case k11 => k_is); (case a12 => k_is); (case i12 => k_is); (case l12 => k_is); (case c12 => k_is); (case k12 => k_is); (case a13 => k_is); (case l13 => k_is); (case c13 => k_is); (case k13 => k_is); (case a14 => k_is); (case l14 => k_is); (case c14 => k_is); (case k14 => k_is); (case a15 => k_is); (case l15 => k_is); (case c15 => k_is); (case k15 => k_is); (case y_pg => k_is); (case y_hd => k_is); (case y_po => k_is); (case y_sa => k_is); (case y_mk => k_is); (case y_kc => k_is); (case y_1 => k_is); (case y_2 => k_is); (case y_3 => k_is); (case y_4 => k_is); (case z_abs => k_is); (case z_all => k_is); (case z_enumerate => k_is); (case z_int => k_is); (case z_len => k_is); (case z_min => k_is); (case z_range => k_is); (case z_sum => k_is); (case z_zip => k_is)

