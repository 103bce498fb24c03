import PyProof.Rows.All
import Wide.All
import OpenK.AllK
import Wide.FinOn
import PyProof.P3Statements
import PyProof.EqLayable
import HandS.ForMost
import HandS.SortInts
import HandS.Deep
import HandS.Conv
import HandS.Strs
import HandS.Zip
import HandS.SetFor
import PyProof.Rows.SetFrom
import HandS.SetKeys
import HandS.More
import PySem.Challenge.RW_jobsagain_k27_windows_as_rhythms
set_option Elab.async false
set_option linter.all false
set_option maxRecDepth 100000
set_option maxHeartbeats 4000000
/-! Core: Python's values as trees, a def's slots, what expressions and statements do to them; no heap. -/
namespace VE
open PySem

abbrev D := PyData
/-- a slot of a def: no value; a value; a list (or a dict, k: its items as pairs, laid flat) that this def alone holds and may change; the law's draw state; the script -/
inductive Slot where
  | no
  | sh (x : D)
  | ow (k : Bool) (xs : List D)
  | st (k : Nat)
  | fz (ns : List Int)
abbrev En := List Slot
/-- what the draws leave -/
structure W where
  pos : Int
  cells : List Int
abbrev M := StateT W Option
def fail {α : Type} : M α := fun _ => none
def lift {α : Type} (o : Option α) : M α := fun w => o.map fun a => (a, w)
@[simp] theorem lift_some {α : Type} (a : α) : lift (some a) = pure a := rfl
@[simp] theorem lift_none {α : Type} : lift (none : Option α) = fail := rfl
@[simp] theorem fail_bind {α β : Type} (f : α → M β) : (fail >>= f) = fail := rfl
theorem bind_some {α β : Type} {x : M α} {k : α → M β} {w : W} {r : β × W} : (x >>= k) w = some r ↔ ∃ a w1, x w = some (a, w1) ∧ k a w1 = some r := by
  show (StateT.bind x k w) = some r ↔ _
  unfold StateT.bind
  cases h : x w with
  | none => simp [bind, Option.bind]
  | some p =>
    obtain ⟨a, w1⟩ := p
    show k a w1 = some r ↔ _
    constructor
    · intro q; exact ⟨a, w1, rfl, q⟩
    · rintro ⟨a', w', e, q⟩; cases e; exact q
theorem lift_eq {α : Type} {o : Option α} {w : W} {r : α × W} : lift o w = some r ↔ o = some r.1 ∧ w = r.2 := by
  obtain ⟨a, w1⟩ := r
  cases o with
  | none => simp [lift]
  | some b =>
    show some (b, w) = some (a, w1) ↔ some b = some a ∧ w = w1
    constructor
    · intro h; cases h; exact ⟨rfl, rfl⟩
    · rintro ⟨h1, h2⟩; cases h1; cases h2; rfl
theorem pure_eq {α : Type} {a : α} {w : W} {r : α × W} : (pure a : M α) w = some r ↔ a = r.1 ∧ w = r.2 := by
  obtain ⟨b, w1⟩ := r
  show (some (a, w) : Option (α × W)) = some (b, w1) ↔ a = b ∧ w = w1
  constructor
  · intro h; cases h; exact ⟨rfl, rfl⟩
  · rintro ⟨h1, h2⟩; cases h1; cases h2; rfl

theorem lift_get {α : Type} {o : Option α} {w w' : W} {y : α} (h : lift o w = some (y, w')) : o = some y ∧ w' = w := by
  obtain ⟨h1, h2⟩ := lift_eq.mp h
  exact ⟨h1, h2.symm⟩
theorem pure_get {α : Type} {a : α} {w w' : W} {y : α} (h : (pure a : M α) w = some (y, w')) : a = y ∧ w' = w := by
  obtain ⟨h1, h2⟩ := pure_eq.mp h
  exact ⟨h1, h2.symm⟩
abbrev EF := En → M D
abbrev TF := En → M Bool
abbrev AF := En → M (List D)
/-- how a statement ends -/
inductive Fl where
  | nx | bk | ct
  | rt (x : D)
abbrev SF := En → M (Fl × En)

/-! ### expressions -/
/-- a value, not a list that may be changed -/
def xVar (i : Nat) : EF := fun env => match env[i]? with
  | some (.sh x) => pure x
  | _ => fail
/-- either -/
def xVarO (i : Nat) : EF := fun env => match env[i]? with
  | some (.sh x) => pure x
  | some (.ow false xs) => pure (.list xs)
  | _ => fail
def xC (x : D) : EF := fun _ => pure x
def flat : D → Bool
  | .none => true
  | .bool _ => true
  | .int _ => true
  | .str _ => true
  | _ => false
def xFlat (f : EF) : EF := fun env => do
  let x ← f env
  if flat x then pure x else fail
def xOp (F : D → D → Option D) (f g : EF) : EF := fun env => do
  let a ← f env
  let b ← g env
  lift (F a b)
def xUn (F : D → Option D) (f : EF) : EF := fun env => do
  let a ← f env
  lift (F a)
def xCall (F : List D → Option D) (f : AF) : EF := fun env => do
  let xs ← f env
  lift (F xs)
def xNil : AF := fun _ => pure []
def xCons (f : EF) (g : AF) : AF := fun env => do
  let a ← f env
  let r ← g env
  pure (a :: r)
def asB : D → Option Bool
  | .bool b => some b
  | _ => none
/-- the value of a comparison, as a test -/
def xTest (f : EF) : TF := fun env => do
  let a ← f env
  lift (asB a)
def truth : D → Option Bool
  | .none => some false
  | .bool b => some b
  | .int i => some (i != 0)
  | .list xs => some (!xs.isEmpty)
  | .tuple xs => some (!xs.isEmpty)
  | _ => none
def xTruth (f : EF) : TF := fun env => do
  let a ← f env
  lift (truth a)
def xNot (f : TF) : TF := fun env => do
  let a ← f env
  pure (!a)
def xAnd (f g : TF) : TF := fun env => do
  let a ← f env
  if a then g env else pure false
def xOr (f g : TF) : TF := fun env => do
  let a ← f env
  if a then pure true else g env
def xNotV (f : EF) : EF := fun env => do
  let a ← f env
  match a with
  | .bool b => pure (.bool (!b))
  | _ => fail
def xAndV (f g : EF) : EF := fun env => do
  let a ← f env
  match a with
  | .bool b => if b then g env else pure (.bool false)
  | _ => fail
def xOrV (f g : EF) : EF := fun env => do
  let a ← f env
  match a with
  | .bool b => if b then pure (.bool true) else g env
  | _ => fail
def xIf (t : TF) (f g : EF) : EF := fun env => do
  let a ← t env
  if a then f env else g env
/-- a op b op' c -/
def xChain (F F' : D → D → Option D) (f g h : EF) : EF := fun env => do
  let a ← f env
  let b ← g env
  let k ← lift ((F a b).bind asB)
  if k then do
    let c ← h env
    let k' ← lift ((F' b c).bind asB)
    pure (.bool k')
  else pure (.bool false)
/-- the most items of a list -/
def line : Nat := 16777216
def xTup (f : AF) : EF := fun env => do
  let xs ← f env
  if xs.length ≤ line then pure (.tuple xs) else fail
/-- a new list -/
abbrev LF := En → M (List D)
def xLst (f : AF) : LF := fun env => do
  let xs ← f env
  if xs.length ≤ line then pure xs else fail
def xFlatL (f : LF) : LF := fun env => do
  let xs ← f env
  if xs.all flat then pure xs else fail
def xAs (f : LF) : EF := fun env => do
  let xs ← f env
  pure (.list xs)

/-! ### what is walked, targets -/
abbrev IF := En → M (List D)
abbrev GF := D → En → Option En
def items : D → Option (List D)
  | .list xs => some xs
  | .tuple xs => some xs
  | _ => none
def lstOf : D → Option (List D)
  | .list xs => some xs
  | _ => none
def tupOf : D → Option (List D)
  | .tuple xs => some xs
  | _ => none
def iLst (f : EF) : IF := fun env => do
  let x ← f env
  lift (lstOf x)
def iTupl (f : EF) : IF := fun env => do
  let x ← f env
  lift (tupOf x)
/-- the list that this def alone holds -/
def iOwn (i : Nat) : IF := fun env => match env[i]? with
  | some (.ow false xs) => pure xs
  | _ => fail
def rangeL (lo hi : Int) : List D := (List.range (hi - lo).toNat).map fun (k : Nat) => PyData.int (lo + (k : Int))
def small62 (i : Int) : Bool := decide (-(2 ^ 62) ≤ i) && decide (i < 2 ^ 62)
def iR1 (f : AF) : IF := fun env => do
  let xs ← f env
  match xs with
  | [.int j] => if small62 j then pure (rangeL 0 j) else fail
  | _ => fail
def iR2 (f : AF) : IF := fun env => do
  let xs ← f env
  match xs with
  | [.int i, .int j] => if small62 i && small62 j then pure (rangeL i j) else fail
  | _ => fail
def gNm (i : Nat) : GF := fun x env => some (env.set i (.sh x))
abbrev GsF := List D → En → Option En
def gsNil : GsF := fun xs env => match xs with
  | [] => some env
  | _ => none
def gsCons (g : GF) (h : GsF) : GsF := fun xs env => match xs with
  | x :: r => (g x env).bind (h r)
  | _ => none
def gTp (n : Nat) (h : GsF) : GF := fun x env => match x with
  | .tuple xs => if xs.length = n then h xs env else none
  | _ => none
/-- some slots forgotten: none of them is a list that may be changed -/
def wipeE (env : En) : List Nat → Option En
  | [] => some env
  | v :: vs => (wipeE env vs).bind fun e => match e[v]? with
    | some (.ow _ _) => none
    | some _ => some (e.set v .no)
    | none => none
def compL (g : GF) (t : TF) (f : EF) (env : En) : List D → M (List D)
  | [] => pure []
  | x :: r => do
    let env1 ← lift (g x env)
    let b ← t env1
    if b then do
      let y ← f env1
      let ys ← compL g t f env r
      pure (y :: ys)
    else compL g t f env r
/-- [f for g in it if t] -/
def xComp (vs : List Nat) (it : IF) (g : GF) (t : TF) (f : EF) : LF := fun env => do
  let xs ← it env
  let e ← lift (wipeE env vs)
  if xs.length ≤ line then compL g t f e xs else fail
def tYesF : TF := fun _ => pure true

/-! ### statements -/
def sPass : SF := fun env => pure (.nx, env)
def sSeq (f g : SF) : SF := fun env => do
  let (fl, env1) ← f env
  match fl with
  | .nx => g env1
  | .bk => pure (.bk, env1)
  | .ct => pure (.ct, env1)
  | .rt x => pure (.rt x, env1)
def sBreak : SF := fun env => pure (.bk, env)
def sCont : SF := fun env => pure (.ct, env)
def sRet (f : EF) : SF := fun env => do
  let x ← f env
  pure (.rt x, env)
def sRetN : SF := fun env => pure (.rt .none, env)
def sIf (t : TF) (f g : SF) : SF := fun env => do
  let b ← t env
  if b then f env else g env
def sAsg (f : EF) (g : GF) : SF := fun env => do
  let x ← f env
  let env1 ← lift (g x env)
  pure (.nx, env1)
/-- name = a new list that this def may change -/
def sOwn (i : Nat) (f : LF) : SF := fun env => do
  let xs ← f env
  pure (.nx, env.set i (.ow false xs))
def sExpr (f : EF) : SF := fun env => do
  let _ ← f env
  pure (.nx, env)
def sPar (i j : Nat) (f : AF) : SF := fun env => do
  let xs ← f env
  match xs with
  | [x, y] => pure (.nx, (env.set i (.sh x)).set j (.sh y))
  | _ => fail
/-- the list at i may be changed no more -/
def thaw (i : Nat) (env : En) : En := match env[i]? with
  | some (.ow false xs) => env.set i (.sh (.list xs))
  | _ => env
def sThaw (i : Nat) (f : SF) : SF := fun env => f (thaw i env)
def sApp (i : Nat) (f : EF) : SF := fun env => do
  let x ← f env
  match env[i]? with
  | some (.ow false xs) => if xs.length < line then pure (.nx, env.set i (.ow false (xs ++ [x]))) else fail
  | _ => fail
def ixN (n : Nat) (i : Int) : Option Nat := if 0 ≤ i then (if i < n then some i.toNat else none) else if -(n : Int) ≤ i then some (i + n).toNat else none
/-- xs[k] = e -/
def sSet (i : Nat) (k f : EF) : SF := fun env => do
  let x ← f env
  let z ← k env
  match env[i]?, z with
  | some (.ow false xs), .int z => match ixN xs.length z with
    | some j => pure (.nx, env.set i (.ow false (xs.set j x)))
    | none => fail
  | _, _ => fail
def sFor (it : IF) (g : GF) (body : SF) : SF := fun env => do
  let xs ← it env
  go xs env
where
  go : List D → SF
  | [], env => pure (.nx, env)
  | x :: r, env => do
    let env1 ← lift (g x env)
    let (fl, env2) ← body env1
    match fl with
    | .nx => go r env2
    | .ct => go r env2
    | .bk => pure (.nx, env2)
    | .rt y => pure (.rt y, env2)
def sWhile (n : Nat) (t : TF) (body : SF) : SF := fun env => go n env
where
  go : Nat → SF
  | 0, _ => fail
  | n + 1, env => do
    let b ← t env
    if b then do
      let (fl, env2) ← body env
      match fl with
      | .nx => go n env2
      | .ct => go n env2
      | .bk => pure (.nx, env2)
      | .rt y => pure (.rt y, env2)
    else pure (.nx, env)

/-! ### the law's draws -/
def takeW (most : Int) : M Int := fun w =>
  if 0 < most ∧ most < 1073741824 ∧ 0 < w.cells.length then
    let a := (w.pos % (w.cells.length : Int)).toNat
    match w.cells[a]? with
    | none => none
    | some cell =>
      if 1000000000000000000 ≤ cell then some (cell % most, ⟨w.pos, w.cells.set a (cell / most)⟩)
      else
        let p := w.pos + 1
        let m1 := (cell * 48271 + p * 69621) % 2147483647
        let m2 := (m1 * 16807 + p * 7919) % 1000000007
        some (m2 / 7 % most, ⟨p, w.cells⟩)
  else none
/-- the call _law_take(state, f) -/
def xTake (i : Nat) (f : EF) : EF := fun env => do
  let y ← f env
  match env[i]?, y with
  | some (.st 1), .int most => do
    let r ← takeW most
    pure (.int r)
  | _, _ => fail
def stateCells (ns : List Int) : List Int :=
  let c := (ns.take 63).map fun i => if i < 0 then -i else i
  if c.length = 0 then [0] else c

/-! ### values -/
def fAdd : D → D → Option D
  | .int i, .int j => some (.int (i + j))
  | .list xs, .list ys => if xs.length + ys.length ≤ line then some (.list (xs ++ ys)) else none
  | _, _ => none
def fSub : D → D → Option D
  | .int i, .int j => some (.int (i - j))
  | _, _ => none
def inW (i : Int) : Bool := decide (-(2 ^ 64) < i) && decide (i < 2 ^ 64)
def fMul : D → D → Option D
  | .int i, .int j => if inW i || inW j then some (.int (i * j)) else none
  | _, _ => none
def fDiv : D → D → Option D
  | .int i, .int j => if 0 < j ∧ j < 1073741824 then some (.int (i / j)) else none
  | _, _ => none
def fMod : D → D → Option D
  | .int i, .int j => if 0 < j then some (.int (i % j)) else none
  | _, _ => none
def fNeg : D → Option D
  | .int i => some (.int (-i))
  | _ => none
def fLt : D → D → Option D
  | .int i, .int j => some (.bool (decide (i < j)))
  | _, _ => none
def fLe : D → D → Option D
  | .int i, .int j => some (.bool (decide (i ≤ j)))
  | _, _ => none
def fGt : D → D → Option D
  | .int i, .int j => some (.bool (decide (j < i)))
  | _, _ => none
def fGe : D → D → Option D
  | .int i, .int j => some (.bool (decide (j ≤ i)))
  | _, _ => none
def shp (x : D) : Bool := SeqAt.shaped x
def fEq (x y : D) : Option D := if shp x && shp y then some (.bool (PyData.eqv x y)) else none
def fNe (x y : D) : Option D := if shp x && shp y then some (.bool (!PyData.eqv x y)) else none
def isNone : D → Bool
  | .none => true
  | _ => false
def fIsN (x : D) : Option D := some (.bool (isNone x))
def fNotN (x : D) : Option D := some (.bool (!isNone x))
/-- x in xs, all flat -/
def fIn (x y : D) : Option D := (items y).bind fun ys => if flat x && ys.all flat then some (.bool (ys.any fun z => PyData.eqv z x)) else none
def fNotIn (x y : D) : Option D := (items y).bind fun ys => if flat x && ys.all flat then some (.bool (!ys.any fun z => PyData.eqv z x)) else none
def atI (xs : List D) (i : Int) : Option D := (ixN xs.length i).bind fun j => xs[j]?
def fIx : D → D → Option D
  | .list xs, .int i => atI xs i
  | .tuple xs, .int i => atI xs i
  | _, _ => none
def sIx (n d : Nat) : Option Int → Nat
  | none => d
  | some i => if i < 0 then (i + n).toNat else min i.toNat n
def cut (xs : List D) (lo hi : Option Int) : List D := (xs.drop (sIx xs.length 0 lo)).take (sIx xs.length xs.length hi - sIx xs.length 0 lo)
abbrev OF := En → M (Option Int)
def oNo : OF := fun _ => pure none
def oSome (f : EF) : OF := fun env => do
  let x ← f env
  match x with
  | .int i => pure (some i)
  | _ => fail
/-- script[l:h] -/
def xCutZ (i : Nat) (l h : OF) : LF := fun env => do
  let lo ← l env
  let hi ← h env
  match env[i]? with
  | some (.fz ns) => pure (cut (ns.map .int) lo hi)
  | _ => fail
def xSlice (f : EF) (l h : OF) : LF := fun env => do
  let x ← f env
  let lo ← l env
  let hi ← h env
  match x with
  | .list xs => pure (cut xs lo hi)
  | _ => fail
def asInts : List D → Option (List Int)
  | [] => some []
  | .int i :: r => (asInts r).map (i :: ·)
  | _ => none
def asBools : List D → Option (List Bool)
  | [] => some []
  | .bool i :: r => (asBools r).map (i :: ·)
  | _ => none
def fLen : List D → Option D
  | [.list xs] => some (.int xs.length)
  | [.tuple xs] => some (.int xs.length)
  | _ => none
def fSum : List D → Option D
  | [.list xs] => (asInts xs).map fun ns => .int ns.sum
  | _ => none
def fAbs : List D → Option D
  | [.int i] => some (.int (if i < 0 then -i else i))
  | _ => none
def fInt : List D → Option D
  | [.int i] => some (.int i)
  | [.bool k] => some (.int (if k then 1 else 0))
  | _ => none
def maxI (a : Int) (r : List Int) : Int := r.foldl (fun m x => if m < x then x else m) a
def minI (a : Int) (r : List Int) : Int := r.foldl (fun m x => if x < m then x else m) a
def fMax : List D → Option D
  | [.list xs] => (asInts xs).bind fun ns => match ns with
    | a :: r => some (.int (maxI a r))
    | [] => none
  | [.int i, .int j] => some (.int (if j > i then j else i))
  | _ => none
def fMin : List D → Option D
  | [.list xs] => (asInts xs).bind fun ns => match ns with
    | a :: r => some (.int (minI a r))
    | [] => none
  | [.int i, .int j] => some (.int (if j < i then j else i))
  | _ => none
def fAny : List D → Option D
  | [.list xs] => (asBools xs).map fun bs => .bool (bs.any id)
  | _ => none
def fAll : List D → Option D
  | [.list xs] => (asBools xs).map fun bs => .bool (bs.all id)
  | _ => none
/-- list(x), a new list -/
def fList : D → Option (List D)
  | .list xs => some xs
  | .tuple xs => some xs
  | _ => none
def xList (f : EF) : LF := fun env => do
  let x ← f env
  lift (fList x)
def insI (x : Int) : List Int → List Int
  | [] => [x]
  | y :: r => if x ≤ y then x :: y :: r else y :: insI x r
def sortI (xs : List Int) : List Int := xs.foldr insI []
def fSorted : D → Option (List D)
  | .list xs => (asInts xs).bind fun ns => if ns.length ≤ line then some ((sortI ns).map .int) else none
  | _ => none
def xSorted (f : EF) : LF := fun env => do
  let x ← f env
  lift (fSorted x)
/-- xs.index(y): the first one -/
def fIndex : D → List D → Option D
  | .list xs, [y] => if flat y && xs.all flat then (xs.findIdx? fun z => PyData.eqv z y).map fun (j : Nat) => PyData.int (j : Int) else none
  | _, _ => none
def xMeth (F : D → List D → Option D) (f : EF) (g : AF) : EF := fun env => do
  let x ← f env
  let ys ← g env
  lift (F x ys)

/-- a def: np parameters, nl other names -/
def runDef (np nl : Nat) (body : SF) (xs : List D) : Option D :=
  if xs.length = np then
    match body (xs.map .sh ++ List.replicate nl .no) ⟨0, []⟩ with
    | some ((.rt v, _), _) => some v
    | some ((.nx, _), _) => some .none
    | _ => none
  else none
/-- zip, enumerate -/
def zipD : List D → List D → List D
  | x :: xs, y :: ys => .tuple [x, y] :: zipD xs ys
  | _, _ => []
def enumD : Nat → List D → List D
  | n, x :: xs => .tuple [.int (n : Int), x] :: enumD (n + 1) xs
  | _, [] => []
def iZipV (fs : AF) : IF := fun env => do
  let vs ← fs env
  match vs with
  | [.list xs, .list ys] => pure (zipD xs ys)
  | _ => fail
def iEnumV (fs : AF) : IF := fun env => do
  let vs ← fs env
  match vs with
  | [.list xs] => pure (enumD 0 xs)
  | _ => fail
/-- x in xs, deep -/
def fInD : D → D → Option D
  | x, .list ys => if shp x && shp (.list ys) then some (.bool (ys.any fun z => PyData.eqv z x)) else none
  | _, _ => none
def fNotInD : D → D → Option D
  | x, .list ys => if shp x && shp (.list ys) then some (.bool (!ys.any fun z => PyData.eqv z x)) else none
  | _, _ => none
/-- list(range(n)) -/
def xListR1 (f : EF) : LF := fun env => do
  let x ← f env
  match x with
  | .int j => if decide (0 ≤ j) && decide (j ≤ 16777216) then pure (rangeL 0 j) else fail
  | _ => fail
/-- each once -/
def oneI : List Int → List Int
  | [] => []
  | x :: r => if decide (x ∈ r) then oneI r else x :: oneI r
/-- len(set(xs)), sorted(set(xs)) -/
def fLenSet : D → Option D
  | .list xs => (asInts xs).bind fun ns => if ns.length < 1000 then some (.int (oneI ns).length) else none
  | _ => none
def fSortSet : D → Option (List D)
  | .list xs => (asInts xs).bind fun ns => if ns.length < 1000 && decide ((oneI ns).length < 64) then some ((sortI (oneI ns)).map .int) else none
  | _ => none
def xSortSet (f : EF) : LF := fun env => do
  let x ← f env
  lift (fSortSet x)
/-- xs.extend(e) -/
def sExt (i : Nat) (f : EF) : SF := fun env => do
  let x ← f env
  match env[i]?, x with
  | some (.ow false xs), .list ys => if xs.length + ys.length ≤ line then pure (.nx, env.set i (.ow false (xs ++ ys))) else fail
  | _, _ => fail
/-! dicts that a def alone holds: whole numbers as keys, the items laid flat -/
def dVal : List D → Int → Option D
  | .int j :: v :: r, k => if j = k then some v else dVal r k
  | _, _ => none
def dRepl : List D → Int → D → List D
  | .int j :: v :: r, k, y => .int j :: (if j = k then y else v) :: dRepl r k y
  | xs, _, _ => xs
def dPut (xs : List D) (k : Int) (y : D) : List D := if (dVal xs k).isSome then dRepl xs k y else xs ++ [.int k, y]
def dKeys : List D → List Int
  | .int j :: _ :: r => j :: dKeys r
  | _ => []
/-- with the dict at i, at the key z -/
def withD {α : Type} (i : Nat) (env : En) (z : D) (F : List D → Int → M α) : M α := match env[i]?, z with
  | some (.ow true xs), .int k => F xs k
  | _, _ => fail
/-- e in d, e not in d -/
def xDIn (i : Nat) (f : EF) : EF := fun env => do
  let z ← f env
  withD i env z fun xs k => pure (.bool (dVal xs k).isSome)
def xDNotIn (i : Nat) (f : EF) : EF := fun env => do
  let z ← f env
  withD i env z fun xs k => pure (.bool (!(dVal xs k).isSome))
/-- d.get(e), d.get(e, e'), d[e] -/
def xDGet1 (i : Nat) (f : EF) : EF := fun env => do
  let z ← f env
  withD i env z fun xs k => pure ((dVal xs k).getD .none)
def xDGet2 (i : Nat) (f g : EF) : EF := fun env => do
  let z ← f env
  let x ← g env
  withD i env z fun xs k => pure ((dVal xs k).getD x)
def xDIx (i : Nat) (f : EF) : EF := fun env => do
  let z ← f env
  withD i env z fun xs k => lift (dVal xs k)
/-- d[k] = e -/
def sDPut (i : Nat) (k f : EF) : SF := fun env => do
  let x ← f env
  let z ← k env
  withD i env z fun xs k => if xs.length < line then pure (.nx, env.set i (.ow true (dPut xs k x))) else fail
/-- d.setdefault(k, e) -/
def sDSetd (i : Nat) (k f : EF) : SF := fun env => do
  let z ← k env
  let x ← f env
  withD i env z fun xs k => if xs.length < line then pure (.nx, env.set i (.ow true (if (dVal xs k).isSome then xs else dPut xs k x))) else fail
/-- d = {} -/
def sDNew (i : Nat) : SF := fun env => pure (.nx, env.set i (.ow true []))
/-- sorted(d) -/
def xSortD (i : Nat) : LF := fun env => match env[i]? with
  | some (.ow true xs) => if (dKeys xs).length < 64 then pure ((sortI (dKeys xs)).map .int) else fail
  | _ => fail
def noWalk (env : En) : Bool := env.all fun s => match s with
  | .st 9 => false
  | _ => true
def is9 : Option Slot → Bool
  | some (.st 9) => true
  | _ => false
def isNx : Fl → Bool
  | .nx => true
  | _ => false
def endD (i : Nat) (xs : List D) (fl : Fl) (env : En) : M (Fl × En) := if (isNx fl && is9 env[i]? && noWalk (env.set i .no)) = true then pure (.nx, env.set i (.ow true xs)) else fail
/-- for g in d: body (which does not change d) -/
def sForD (i : Nat) (g : GF) (body : SF) : SF := fun env => match env[i]? with
  | some (.ow true xs) => if noWalk env then do
      let p ← sFor.go g body ((dKeys xs).map .int) (env.set i (.st 9))
      endD i xs p.1 p.2
    else fail
  | _ => fail
/-- a op b op' c op'' d -/
def xChain3 (F F' F'' : D → D → Option D) (f g h k : EF) : EF := fun env => do
  let a ← f env
  let b ← g env
  let x ← lift ((F a b).bind asB)
  if x then do
    let c ← h env
    let y ← lift ((F' b c).bind asB)
    if y then do
      let d ← k env
      let z ← lift ((F'' c d).bind asB)
      pure (.bool z)
    else pure (.bool false)
  else pure (.bool false)
end VE

/-! Lay: what Core says of a def holds in the model, over the hand layer. -/
namespace VE
open PySem PySem.Spec L2
open PyProof.Rows hiding St

abbrev SS := L2.St
theorem line_eq : line = sizeLine := by rw [sizeLine_eq]; rfl

/-! ### values in a heap -/
/-- a tuple at a, of the tracked heap beyond T, or of the written part -/
def TupAt (K : PySem.W.Frag) (T : Addr → Prop) (H : Hp) (a : Addr) (xs : List V) : Prop :=
  (¬ T a ∧ Rd H a (.tup xs)) ∨
    ∃ (o : Obj) (its : Array Value) (n : Nat), K.lookup a = some o ∧ o.cls = .type "tuple" ∧ o.data = .seq its n ∧ its.size ≤ sizeLine ∧ Vals xs its.toList
/-- a list that is read only, likewise -/
def LstAt (K : PySem.W.Frag) (T : Addr → Prop) (H : Hp) (a : Addr) (xs : List V) : Prop :=
  (¬ T a ∧ Rd H a (.lst xs)) ∨
    ∃ (o : Obj) (its : Array Value) (n : Nat), K.lookup a = some o ∧ o.cls = .type "list" ∧ o.dict = none ∧ o.data = .seq its n ∧ its.size ≤ sizeLine ∧ Vals xs its.toList
theorem LstAt.sq {K : PySem.W.Frag} {T : Addr → Prop} {H : Hp} {a : Addr} {xs : List V} (h : LstAt K T H a xs) : SqL K H a xs := h.elim (fun q => .inl q.2) .inr
theorem LstAt.mono {K : PySem.W.Frag} {T T' : Addr → Prop} {H H' : Hp} {a : Addr} {vs : List V} (k : ∀ a o, ¬ T a → H a = some o → H' a = some o) (t : ∀ a, T' a → T a) (q : LstAt K T H a vs) : LstAt K T' H' a vs := by
  rcases q with ⟨n, q | ⟨o, q⟩⟩ | q
  · exact .inl ⟨fun z => n (t _ z), .inl (k _ _ n q)⟩
  · exact .inl ⟨fun z => n (t _ z), .inr ⟨o, k _ _ n q⟩⟩
  · exact .inr q
theorem LstAt.fresh {K : PySem.W.Frag} {T : Addr → Prop} {H : Hp} {a p : Addr} {vs : List V} (hp : H p = none) (q : LstAt K T H a vs) : LstAt K (fun b => T b ∨ b = p) H a vs := by
  rcases q with ⟨n, q | ⟨o, q⟩⟩ | q
  · exact .inl ⟨fun z => z.elim n fun e => ne_of_none q hp e, .inl q⟩
  · exact .inl ⟨fun z => z.elim n fun e => ne_of_none q hp e, .inr ⟨o, q⟩⟩
  · exact .inr q
theorem TupAt.sq {K : PySem.W.Frag} {T : Addr → Prop} {H : Hp} {a : Addr} {xs : List V} (h : TupAt K T H a xs) : SqT K H a xs := h.elim (fun q => .inl q.2) .inr
mutual
inductive Rep (K : PySem.W.Frag) (T : Addr → Prop) (H : Hp) : V → PyData → Prop
  | non : Rep K T H .non .none
  | bl (b : Bool) : Rep K T H (.bl b) (.bool b)
  | int (i : Int) : Rep K T H (.int i) (.int i)
  | str (x : Str) : Rep K T H (.str x) (.str x)
  | lst {a : Addr} {vs : List V} {xs : List PyData} : ¬ T a → H a = some (.lst vs) → Reps K T H vs xs → Rep K T H (.ref a) (.list xs)
  | tup {a : Addr} {vs : List V} {xs : List PyData} : TupAt K T H a vs → Reps K T H vs xs → Rep K T H (.ref a) (.tuple xs)
inductive Reps (K : PySem.W.Frag) (T : Addr → Prop) (H : Hp) : List V → List PyData → Prop
  | nil : Reps K T H [] []
  | cons {v : V} {vs : List V} {x : PyData} {xs : List PyData} : Rep K T H v x → Reps K T H vs xs → Reps K T H (v :: vs) (x :: xs)
end
section
variable {K : PySem.W.Frag} {T T' : Addr → Prop} {H H' : Hp}
theorem TupAt.mono {a : Addr} {vs : List V} (k : ∀ a o, ¬ T a → H a = some o → H' a = some o) (t : ∀ a, T' a → T a) (q : TupAt K T H a vs) : TupAt K T' H' a vs := by
  rcases q with ⟨n, q | ⟨o, q⟩⟩ | q
  · exact .inl ⟨fun z => n (t _ z), .inl (k _ _ n q)⟩
  · exact .inl ⟨fun z => n (t _ z), .inr ⟨o, k _ _ n q⟩⟩
  · exact .inr q
theorem TupAt.fresh {a p : Addr} {vs : List V} (hp : H p = none) (q : TupAt K T H a vs) : TupAt K (fun b => T b ∨ b = p) H a vs := by
  rcases q with ⟨n, q | ⟨o, q⟩⟩ | q
  · exact .inl ⟨fun z => z.elim n fun e => ne_of_none q hp e, .inl q⟩
  · exact .inl ⟨fun z => z.elim n fun e => ne_of_none q hp e, .inr ⟨o, q⟩⟩
  · exact .inr q
mutual
theorem Rep.mono (k : ∀ a o, ¬ T a → H a = some o → H' a = some o) (t : ∀ a, T' a → T a) : ∀ (x : PyData) {v : V}, Rep K T H v x → Rep K T' H' v x
  | .none, _, h => by cases h; exact .non
  | .bool b, _, h => by cases h; exact .bl b
  | .int i, _, h => by cases h; exact .int i
  | .str i, _, h => by cases h; exact .str i
  | .list xs, _, h => by
    cases h with
    | lst n e r => exact .lst (fun q => n (t _ q)) (k _ _ n e) (Reps.mono k t xs r)
  | .tuple xs, _, h => by
    cases h with
    | tup e r => exact .tup (e.mono k t) (Reps.mono k t xs r)
  | .dict _, _, h => by cases h
theorem Reps.mono (k : ∀ a o, ¬ T a → H a = some o → H' a = some o) (t : ∀ a, T' a → T a) : ∀ (xs : List PyData) {vs : List V}, Reps K T H vs xs → Reps K T' H' vs xs
  | [], _, h => by cases h; exact .nil
  | x :: xs, _, h => by
    cases h with
    | cons h1 h2 => exact .cons (Rep.mono k t x h1) (Reps.mono k t xs h2)
end
mutual
theorem Rep.fresh {p : Addr} (hp : H p = none) : ∀ (x : PyData) {v : V}, Rep K T H v x → Rep K (fun b => T b ∨ b = p) H v x
  | .none, _, h => by cases h; exact .non
  | .bool b, _, h => by cases h; exact .bl b
  | .int i, _, h => by cases h; exact .int i
  | .str i, _, h => by cases h; exact .str i
  | .list xs, _, h => by
    cases h with
    | lst n e r => exact .lst (fun q => q.elim n fun z => ne_of_none e hp z) e (Reps.fresh hp xs r)
  | .tuple xs, _, h => by
    cases h with
    | tup e r => exact .tup (e.fresh hp) (Reps.fresh hp xs r)
  | .dict _, _, h => by cases h
theorem Reps.fresh {p : Addr} (hp : H p = none) : ∀ (xs : List PyData) {vs : List V}, Reps K T H vs xs → Reps K (fun b => T b ∨ b = p) H vs xs
  | [], _, h => by cases h; exact .nil
  | x :: xs, _, h => by
    cases h with
    | cons h1 h2 => exact .cons (Rep.fresh hp x h1) (Reps.fresh hp xs h2)
end
theorem Rep.mon {x : PyData} {v : V} (r : Rep K T H v x) (k : ∀ a o, ¬ T a → H a = some o → H' a = some o) (t : ∀ a, T' a → T a) : Rep K T' H' v x := Rep.mono k t x r
theorem Reps.mon {x : List PyData} {v : List V} (r : Reps K T H v x) (k : ∀ a o, ¬ T a → H a = some o → H' a = some o) (t : ∀ a, T' a → T a) : Reps K T' H' v x := Reps.mono k t x r
theorem Reps.length : ∀ {xs : List PyData} {vs : List V}, Reps K T H vs xs → vs.length = xs.length
  | [], _, h => by cases h; rfl
  | x :: xs, _, h => by
    cases h with
    | cons h1 h2 => rw [List.length_cons, List.length_cons, Reps.length h2]
theorem Reps.get : ∀ {xs : List PyData} {vs : List V} {i : Nat} {x : PyData}, Reps K T H vs xs → xs[i]? = some x → ∃ v, vs[i]? = some v ∧ Rep K T H v x
  | [], _, _, _, h, e => by simp at e
  | y :: xs, _, 0, x, h, e => by
    cases h with
    | cons h1 h2 =>
      have e' : y = x := by simpa using e
      subst e'
      exact ⟨_, rfl, h1⟩
  | y :: xs, _, i + 1, x, h, e => by
    cases h with
    | cons h1 h2 =>
      obtain ⟨v, q, r⟩ := Reps.get (i := i) (x := x) h2 (by simpa using e)
      exact ⟨v, by simpa using q, r⟩
theorem Reps.append : ∀ {xs ys : List PyData} {vs ws : List V}, Reps K T H vs xs → Reps K T H ws ys → Reps K T H (vs ++ ws) (xs ++ ys)
  | [], _, _, _, h, q => by cases h; exact q
  | x :: xs, _, _, _, h, q => by
    cases h with
    | cons h1 h2 => exact .cons h1 (Reps.append h2 q)
theorem Reps.set : ∀ {xs : List PyData} {vs : List V} (j : Nat) {v : V} {x : PyData}, Reps K T H vs xs → Rep K T H v x → Reps K T H (vs.set j v) (xs.set j x)
  | [], _, _, _, _, h, q => by cases h; exact .nil
  | y :: xs, _, 0, _, _, h, q => by
    cases h with
    | cons h1 h2 => exact .cons q h2
  | y :: xs, _, j + 1, _, _, h, q => by
    cases h with
    | cons h1 h2 => exact .cons h1 (Reps.set j h2 q)
theorem Reps.drop : ∀ {xs : List PyData} {vs : List V} (n : Nat), Reps K T H vs xs → Reps K T H (vs.drop n) (xs.drop n)
  | _, _, 0, h => h
  | [], _, n + 1, h => by cases h; exact .nil
  | x :: xs, _, n + 1, h => by
    cases h with
    | cons h1 h2 => exact Reps.drop n h2
theorem Reps.take : ∀ {xs : List PyData} {vs : List V} (n : Nat), Reps K T H vs xs → Reps K T H (vs.take n) (xs.take n)
  | _, _, 0, h => .nil
  | [], _, n + 1, h => by cases h; exact .nil
  | x :: xs, _, n + 1, h => by
    cases h with
    | cons h1 h2 => exact .cons h1 (Reps.take n h2)
theorem Rep.of_flat {v : V} {x : PyData} (h : Rep K T H v x) (f : flat x = true) : Rep K T' H' v x := by
  cases h with
  | non => exact .non
  | bl b => exact .bl b
  | int i => exact .int i
  | str s => exact .str s
  | lst => cases f
  | tup => cases f
theorem Reps.of_ints : ∀ {xs : List PyData} {ns : List Int} {vs : List V}, Reps K T H vs xs → asInts xs = some ns → vs = ns.map V.int ∧ xs = ns.map PyData.int
  | [], ns, _, h, e => by
    cases h
    have : ns = [] := by simpa [asInts] using e.symm
    subst this
    exact ⟨rfl, rfl⟩
  | .int i :: xs, ns, _, h, e => by
    cases h with
    | cons h1 h2 =>
      cases h1
      unfold asInts at e
      cases q : asInts xs with
      | none => rw [q] at e; simp at e
      | some ms =>
        rw [q] at e
        have e' : i :: ms = ns := by simpa using e
        subst e'
        obtain ⟨h3, h4⟩ := Reps.of_ints h2 q
        exact ⟨by rw [h3]; rfl, by rw [h4]; rfl⟩
  | .none :: xs, ns, _, h, e => by simp [asInts] at e
  | .bool _ :: xs, ns, _, h, e => by simp [asInts] at e
  | .str _ :: xs, ns, _, h, e => by simp [asInts] at e
  | .list _ :: xs, ns, _, h, e => by simp [asInts] at e
  | .tuple _ :: xs, ns, _, h, e => by simp [asInts] at e
  | .dict _ :: xs, ns, _, h, e => by simp [asInts] at e
theorem Reps.of_bools : ∀ {xs : List PyData} {ns : List Bool} {vs : List V}, Reps K T H vs xs → asBools xs = some ns → vs = ns.map V.bl ∧ xs = ns.map PyData.bool
  | [], ns, _, h, e => by
    cases h
    have : ns = [] := by simpa [asBools] using e.symm
    subst this
    exact ⟨rfl, rfl⟩
  | .bool i :: xs, ns, _, h, e => by
    cases h with
    | cons h1 h2 =>
      cases h1
      unfold asBools at e
      cases q : asBools xs with
      | none => rw [q] at e; simp at e
      | some ms =>
        rw [q] at e
        have e' : i :: ms = ns := by simpa using e
        subst e'
        obtain ⟨h3, h4⟩ := Reps.of_bools h2 q
        exact ⟨by rw [h3]; rfl, by rw [h4]; rfl⟩
  | .none :: xs, ns, _, h, e => by simp [asBools] at e
  | .int _ :: xs, ns, _, h, e => by simp [asBools] at e
  | .str _ :: xs, ns, _, h, e => by simp [asBools] at e
  | .list _ :: xs, ns, _, h, e => by simp [asBools] at e
  | .tuple _ :: xs, ns, _, h, e => by simp [asBools] at e
  | .dict _ :: xs, ns, _, h, e => by simp [asBools] at e
theorem Reps.ints_map : ∀ (ns : List Int), Reps K T H (ns.map V.int) (ns.map PyData.int)
  | [] => .nil
  | n :: r => .cons (.int n) (Reps.ints_map r)
mutual
theorem Rep.dp : ∀ (x : PyData) {v : V}, Rep K T H v x → Dp K H v x
  | .none, _, h => by cases h; exact .non
  | .bool b, _, h => by cases h; exact .bl b
  | .int i, _, h => by cases h; exact .int i
  | .str i, _, h => by cases h; exact .str i
  | .list xs, _, h => by
    cases h with
    | lst n e r => exact .lst (SqL.of e) (Reps.dp xs r)
  | .tuple xs, _, h => by
    cases h with
    | tup e r => exact .tup e.sq (Reps.dp xs r)
  | .dict _, _, h => by cases h
theorem Reps.dp : ∀ (xs : List PyData) {vs : List V}, Reps K T H vs xs → DpAll K H vs xs
  | [], _, h => by cases h; exact .nil
  | x :: xs, _, h => by
    cases h with
    | cons h1 h2 => exact .cons (Rep.dp x h1) (Reps.dp xs h2)
end
end

section
variable {K : PySem.W.Frag} {T T' : Addr → Prop} {H H' : Hp}
theorem TupAt.tracked {a : Addr} {vs : List V} (q : TupAt K T H a vs) : TupAt K (fun b => T b ∨ H b = none) H a vs := by
  rcases q with ⟨n, q | ⟨o, q⟩⟩ | q
  · exact .inl ⟨fun z => z.elim n fun e => (by rw [q] at e; cases e), .inl q⟩
  · exact .inl ⟨fun z => z.elim n fun e => (by rw [q] at e; cases e), .inr ⟨o, q⟩⟩
  · exact .inr q
mutual
theorem Rep.tracked : ∀ (x : PyData) {v : V}, Rep K T H v x → Rep K (fun b => T b ∨ H b = none) H v x
  | .none, _, h => by cases h; exact .non
  | .bool b, _, h => by cases h; exact .bl b
  | .int i, _, h => by cases h; exact .int i
  | .str i, _, h => by cases h; exact .str i
  | .list xs, _, h => by
    cases h with
    | lst n e r => exact .lst (fun q => q.elim n fun z => by rw [e] at z; cases z) e (Reps.tracked xs r)
  | .tuple xs, _, h => by
    cases h with
    | tup e r => exact .tup e.tracked (Reps.tracked xs r)
  | .dict _, _, h => by cases h
theorem Reps.tracked : ∀ (xs : List PyData) {vs : List V}, Reps K T H vs xs → Reps K (fun b => T b ∨ H b = none) H vs xs
  | [], _, h => by cases h; exact .nil
  | x :: xs, _, h => by
    cases h with
    | cons h1 h2 => exact .cons (Rep.tracked x h1) (Reps.tracked xs h2)
end
end
theorem LstAt.tracked {K : PySem.W.Frag} {T : Addr → Prop} {H : Hp} {a : Addr} {vs : List V} (q : LstAt K T H a vs) : LstAt K (fun b => T b ∨ H b = none) H a vs := by
  rcases q with ⟨n, q | ⟨o, q⟩⟩ | q
  · exact .inl ⟨fun z => z.elim n fun e => (by rw [q] at e; cases e), .inl q⟩
  · exact .inl ⟨fun z => z.elim n fun e => (by rw [q] at e; cases e), .inr ⟨o, q⟩⟩
  · exact .inr q
/-! ### what a def stands in -/
/-- Z: what the draws may change; T: what is not to be read; H0: the heap at the entry -/
structure Gh (K : PySem.W.Frag) where
  Z : Addr → Prop
  T : Addr → Prop
  H0 : Hp
  sd : Addr
  sc : Addr
  wd : Addr
  kd : Nat
  dr : W → Hp → Prop
  zt : ∀ a, Z a → T a
  drk : ∀ w H H', dr w H → (∀ a, Z a → H' a = H a) → dr w H'
  one : kd = 1 → Z sd ∧ Z sc ∧ sd ≠ sc ∧ (∀ w H, dr w H → H sd = some (.lst [.int w.pos, .ref sc]) ∧ H sc = some (.lst (w.cells.map V.int))) ∧
    ∀ w H w' H', dr w H → (∀ a, Z a → a ≠ sd → a ≠ sc → H' a = H a) → H' sd = some (.lst [.int w'.pos, .ref sc]) → H' sc = some (.lst (w'.cells.map V.int)) → dr w' H'
  two : kd = 2 → (∀ a, Z a ↔ a = sd) ∧ ∀ w H, dr w H ↔ ∃ c, w.cells = [c] ∧ H sd = some (.lst [.int w.pos, .int c])
/-- what A does not hold stands -/
structure KeepA (A : Addr → Prop) (H H' : Hp) : Prop where
  at_ : ∀ a o, ¬ A a → H a = some o → H' a = some o
  live : ∀ a, H a ≠ none → H' a ≠ none
theorem KeepA.refl (A : Addr → Prop) (H : Hp) : KeepA A H H := ⟨fun _ _ _ e => e, fun _ e => e⟩
theorem KeepA.trans {A : Addr → Prop} {H H1 H2 : Hp} (a : KeepA A H H1) (b : KeepA A H1 H2) : KeepA A H H2 :=
  ⟨fun c o n e => b.at_ c o n (a.at_ c o n e), fun c e => b.live c (a.live c e)⟩
theorem KeepA.of_same {A : Addr → Prop} {H H' : Hp} (s : Same H H') : KeepA A H H' :=
  ⟨fun a o _ e => s a o e, fun a e => by
    cases q : H a with
    | none => exact absurd q e
    | some o => rw [s a o q]; simp⟩
/-- an expression was reckoned: what may be changed may have grown by new things -/
structure Keep {K : PySem.W.Frag} (g g' : Gh K) (H H' : Hp) : Prop where
  at_ : ∀ a o, ¬ g.Z a → H a = some o → H' a = some o
  live : ∀ a, H a ≠ none → H' a ≠ none
  t1 : ∀ a, g.T a → g'.T a
  t2 : ∀ a, g'.T a → g.T a ∨ (H a = none ∧ H' a ≠ none)
  z1 : ∀ a, g.Z a → g'.Z a
  z2 : ∀ a, g'.Z a → g.Z a ∨ H a = none
  h0 : g'.H0 = g.H0
  sd : g'.sd = g.sd
  wd : g'.wd = g.wd
  kd : g'.kd = g.kd
section
variable {K : PySem.W.Frag} {g g1 g2 : Gh K} {H H1 H2 H' : Hp}
theorem Keep.refl (g : Gh K) (H : Hp) : Keep g g H H := ⟨fun _ _ _ e => e, fun _ e => e, fun _ t => t, fun _ t => .inl t, fun _ t => t, fun _ t => .inl t, rfl, rfl, rfl, rfl⟩
theorem Keep.trans (a : Keep g g1 H H1) (b : Keep g1 g2 H1 H2) : Keep g g2 H H2 :=
  ⟨fun c o n e => b.at_ c o (fun z => (a.z2 c z).elim n fun q => by rw [q] at e; cases e) (a.at_ c o n e), fun c e => b.live c (a.live c e), fun c t => b.t1 c (a.t1 c t),
    fun c t => (b.t2 c t).elim (fun t => (a.t2 c t).imp_right fun q => ⟨q.1, b.live c q.2⟩) fun q => .inr ⟨Classical.byContradiction fun n => a.live c n q.1, q.2⟩,
    fun c z => b.z1 c (a.z1 c z), fun c z => (b.z2 c z).elim (a.z2 c) fun q => .inr (Classical.byContradiction fun n => a.live c n q),
    b.h0.trans a.h0, b.sd.trans a.sd, b.wd.trans a.wd, b.kd.trans a.kd⟩
theorem Keep.of_same (s : Same H H') : Keep g g H H' :=
  ⟨fun a o _ e => s a o e, (KeepA.of_same (A := g.Z) s).live, fun _ t => t, fun _ t => .inl t, fun _ t => t, fun _ t => .inl t, rfl, rfl, rfl, rfl⟩
end
/-- what stands in the heap of a thing that a def alone holds: a list; a dict with whole numbers as keys -/
def layV (kvs : List (Int × V)) : List V := kvs.flatMap fun p => [.int p.1, p.2]
def dkO (kvs : List (Int × V)) : HO := .dK (kvs.map fun p => ((Sum.inl p.1 : Key), p.2))
def HoS : Bool → List V → HO → Prop
  | false, vs, o => o = .lst vs
  | true, vs, o => ∃ kvs, vs = layV kvs ∧ o = dkO kvs
def ownA (env : En) (σ : SS) (a : Addr) : Prop := ∃ (i : Nat) (b : Bool) (xs : List PyData), env[i]? = some (.ow b xs) ∧ σ[i]? = some (some (.ref a))
/-- what a value may not lean on -/
def av {K : PySem.W.Frag} (g : Gh K) (m : Bool) (env : En) (σ : SS) : Addr → Prop := fun a => g.T a ∨ (m = true ∧ ownA env σ a)
structure StOk {K : PySem.W.Frag} (g : Gh K) (env : En) (w : W) (σ : SS) (H : Hp) : Prop where
  len : σ.length = env.length
  sh : ∀ (i : Nat) x, env[i]? = some (.sh x) → ∃ v, σ[i]? = some (some v) ∧ Rep K (av g true env σ) H v x
  ow : ∀ (i : Nat) b xs, env[i]? = some (.ow b xs) → ∃ a vs, σ[i]? = some (some (.ref a)) ∧ (∃ o, H a = some o ∧ HoS b vs o) ∧ Reps K (av g true env σ) H vs xs ∧ g.H0 a = none ∧ ¬ g.T a
  st : ∀ (i k : Nat), env[i]? = some (.st k) → (k ≠ 9 → σ[i]? = some (some (.ref g.sd)) ∧ g.kd = k) ∧ (k = 9 → σ[i]? = some (some (.ref g.wd)))
  fz : ∀ (i : Nat) ns, env[i]? = some (.fz ns) → ∃ a, σ[i]? = some (some (.ref a)) ∧ LstAt K (av g true env σ) H a (ns.map V.int)
  dist : ∀ (i j : Nat) b c xs ys a, env[i]? = some (.ow b xs) → env[j]? = some (.ow c ys) → σ[i]? = some (some (.ref a)) → σ[j]? = some (some (.ref a)) → i = j
  live : ∀ a, g.T a → H a ≠ none
  keep : KeepA g.Z g.H0 H
  dr : g.dr w H
theorem seqL_mono {K : PySem.W.Frag} {H H' : Hp} {a : Addr} {vs : List V} (h : ∀ o, H a = some o → H' a = some o) (q : SqL K H a vs) : SqL K H' a vs := by
  rcases q with (q | ⟨o, q⟩) | q
  · exact .inl (.inl (h _ q))
  · exact .inl (.inr ⟨o, h _ q⟩)
  · exact .inr q
section
variable {K : PySem.W.Frag} {g g' : Gh K} {m : Bool} {env : En} {w w' : W} {σ : SS} {H H' : Hp}
theorem av_z {a : Addr} (h : g.Z a) : av g m env σ a := .inl (g.zt a h)
theorem av_le {a : Addr} (h : av g m env σ a) : av g true env σ a := h.elim .inl fun q => .inr ⟨rfl, q.2⟩
theorem av_false {a : Addr} (h : av g false env σ a) : g.T a := h.elim id fun q => nomatch q.1
theorem StOk.owNT (I : StOk g env w σ H) {a : Addr} (h : ownA env σ a) : ¬ g.T a := by
  obtain ⟨i, b, xs, e1, e2⟩ := h
  obtain ⟨b, vs, q, _, _, _, n⟩ := I.ow i _ xs e1
  rw [e2] at q
  cases q
  exact n
theorem StOk.owLive (I : StOk g env w σ H) {a : Addr} (h : ownA env σ a) : H a ≠ none := by
  obtain ⟨i, b, xs, e1, e2⟩ := h
  obtain ⟨b, vs, q, ⟨o, e, _⟩, _, _, n⟩ := I.ow i _ xs e1
  rw [e2] at q
  cases q
  rw [e]; simp
theorem StOk.avLive (I : StOk g env w σ H) {a : Addr} (h : av g m env σ a) : H a ≠ none := by
  rcases h with h | ⟨_, h⟩
  · exact I.live a h
  · exact I.owLive h
theorem av_new (k : Keep g g' H H') {a : Addr} (h : av g' m env σ a) : av g m env σ a ∨ H a = none := by
  rcases h with h | h
  · exact (k.t2 a h).elim (fun z => .inl (.inl z)) fun z => .inr z.1
  · exact .inl (.inr h)
theorem Rep.keep {x : PyData} {v : V} (r : Rep K (av g m env σ) H v x) (k : Keep g g' H H') : Rep K (av g' m env σ) H' v x :=
  (Rep.tracked x r).mon (fun a o n e => k.at_ a o (fun z => n (.inl (av_z z))) e) fun _ q => av_new k q
theorem Reps.keep {x : List PyData} {v : List V} (r : Reps K (av g m env σ) H v x) (k : Keep g g' H H') : Reps K (av g' m env σ) H' v x :=
  (Reps.tracked x r).mon (fun a o n e => k.at_ a o (fun z => n (.inl (av_z z))) e) fun _ q => av_new k q
/-- an expression was reckoned -/
theorem StOk.step (I : StOk g env w σ H) (k : Keep g g' H H') (d : g'.dr w' H') : StOk g' env w' σ H' where
  len := I.len
  sh := fun i x e => by
    obtain ⟨v, q, r⟩ := I.sh i x e
    exact ⟨v, q, r.keep k⟩
  ow := fun i b xs e => by
    obtain ⟨a, vs, q, ⟨o, h, ho⟩, r, n, t⟩ := I.ow i b xs e
    exact ⟨a, vs, q, ⟨o, k.at_ a _ (fun z => t (g.zt a z)) h, ho⟩, r.keep k, by rw [k.h0]; exact n, fun z => (k.t2 a z).elim t fun e => by rw [h] at e; cases e.1⟩
  st := fun i j e => by rw [k.sd, k.kd, k.wd]; exact I.st i j e
  fz := fun i ns e => by
    obtain ⟨a, q, s⟩ := I.fz i ns e
    exact ⟨a, q, s.tracked.mono (fun a o n e => k.at_ a o (fun z => n (.inl (av_z z))) e) fun _ z => av_new k z⟩
  dist := I.dist
  live := fun a t => (k.t2 a t).elim (fun t => k.live a (I.live a t)) fun q => q.2
  keep := by
    rw [k.h0]
    exact ⟨fun a o n e => k.at_ a o (fun z => n (k.z1 a z)) (I.keep.at_ a o (fun z => n (k.z1 a z)) e), fun a e => k.live a (I.keep.live a e)⟩
  dr := d
theorem StOk.owL (I : StOk g env w σ H) (i : Nat) (xs : List PyData) (e : env[i]? = some (.ow false xs)) : ∃ a vs, σ[i]? = some (some (.ref a)) ∧ H a = some (.lst vs) ∧ Reps K (av g true env σ) H vs xs ∧ g.H0 a = none ∧ ¬ g.T a := by
  obtain ⟨a, vs, q, ⟨o, h, ho⟩, r⟩ := I.ow i false xs e
  cases ho
  exact ⟨a, vs, q, h, r⟩
theorem StOk.same (I : StOk g env w σ H) (s : Same H H') : g.dr w H' := g.drk w H H' I.dr fun a z => by
  cases q : H a with
  | none => exact absurd q (I.live a (g.zt a z))
  | some o => exact s a o q
theorem newAt (I : StOk g' env w' σ H') (k : Keep g g' H H') {q : Addr} (hq : H' q = none) : H q = none ∧ ¬ g'.T q := by
  refine ⟨?_, fun t => I.live q t hq⟩
  cases z : H q with
  | none => rfl
  | some o => exact absurd hq (k.live q (by rw [z]; simp))
end

/-! ### judgements -/
/-- an expression's reading keeps what f says; m: the value leans on nothing that the def may change -/
def VwE (K : PySem.W.Frag) (m : Bool) (t : TE) (f : EF) : Prop :=
  ∀ (g : Gh K) (env : En) (w : W) (σ : SS) (H : Hp) (Q : VK) (x : PyData) (w' : W), True → StOk g env w σ H → f env w = some (x, w') →
    (∀ {g' : Gh K} v H', Keep g g' H H' → g'.dr w' H' → Rep K (av g' m env σ) H' v x → Q v H') → t σ H Q
def VwT (K : PySem.W.Frag) (t : TT) (f : TF) : Prop :=
  ∀ (g : Gh K) (env : En) (w : W) (σ : SS) (H : Hp) (Q : Bool → Hp → Prop) (b : Bool) (w' : W), True → StOk g env w σ H → f env w = some (b, w') →
    (∀ {g' : Gh K} H', Keep g g' H H' → g'.dr w' H' → Q b H') → t σ H Q
def VwA (K : PySem.W.Frag) (m : Bool) (t : TA) (f : AF) : Prop :=
  ∀ (g : Gh K) (env : En) (w : W) (σ : SS) (H : Hp) (Q : List V → Hp → Prop) (xs : List PyData) (w' : W), True → StOk g env w σ H → f env w = some (xs, w') →
    (∀ {g' : Gh K} vs H', Keep g g' H H' → g'.dr w' H' → Reps K (av g' m env σ) H' vs xs → Q vs H') → t σ H Q
/-- .. a new list -/
def VwL (K : PySem.W.Frag) (m : Bool) (t : TE) (f : LF) : Prop :=
  ∀ (g : Gh K) (env : En) (w : W) (σ : SS) (H : Hp) (Q : VK) (xs : List PyData) (w' : W), True → StOk g env w σ H → f env w = some (xs, w') →
    (∀ {g' : Gh K} p vs H', H p = none ∧ ¬ g'.T p → Keep g g' H H' → g'.dr w' H' → H' p = some (.lst vs) → Reps K (fun a => av g' m env σ a ∨ a = p) H' vs xs → Q (.ref p) H') → t σ H Q
structure PV (X : Cx) (m : Bool) (e : Expr) (t : TE) (f : EF) : Prop where
  pe : PE X e t
  vw : VwE X.K m t f
structure PTV (X : Cx) (e : Expr) (t : TT) (f : TF) : Prop where
  pe : PT X e t
  vw : VwT X.K t f
structure PWV (X : Cx) (e : Expr) (t : TT) (f : TF) : Prop where
  pe : PW X e t
  vw : VwT X.K t f
structure PAV (X : Cx) (m : Bool) (es : List Expr) (t : TA) (f : AF) : Prop where
  pe : PA X es t
  vw : VwA X.K m t f
structure PLV (X : Cx) (m : Bool) (e : Expr) (t : TE) (f : LF) : Prop where
  pe : PE X e t
  vw : VwL X.K m t f

section
variable {X : Cx} {m : Bool} {e a b c : Expr} {ta tb tc : TE} {f h k : EF} {pos : Pos}
/-- .. may be left out -/
theorem PV.weak (p : PV X true e ta f) : PV X m e ta f := ⟨p.pe, fun g env w σ H Q x w' hK I hf q =>
  p.vw _ env w σ H Q x w' hK I hf fun v H' k d r => q v H' k d (r.mon (fun _ _ _ e => e) fun _ => av_le)⟩
theorem pv_flat (p : PV X false e ta f) : PV X m e ta (xFlat f) := ⟨p.pe, fun g env w σ H Q x w' hK I hf q => by
  obtain ⟨y, w1, h1, h2⟩ := bind_some.mp hf
  refine p.vw _ env w σ H Q y _ hK I h1 fun v H' k d r => ?_
  by_cases fl : flat y = true
  · rw [if_pos fl] at h2
    obtain ⟨rfl, rfl⟩ := pure_get h2
    exact q v H' k d (r.of_flat fl)
  · rw [if_neg fl] at h2; cases h2⟩
theorem xVar_get {i : Nat} {env : En} {w w' : W} {x : PyData} (h : xVar i env w = some (x, w')) : env[i]? = some (.sh x) ∧ w' = w := by
  unfold xVar at h
  cases e : env[i]? with
  | none => rw [e] at h; cases h
  | some s =>
    rw [e] at h
    cases s with
    | sh y => obtain ⟨rfl, rfl⟩ := pure_get h; exact ⟨rfl, rfl⟩
    | _ => cases h
theorem xVarO_get {i : Nat} {env : En} {w w' : W} {x : PyData} (h : xVarO i env w = some (x, w')) : (env[i]? = some (.sh x) ∨ ∃ xs, env[i]? = some (.ow false xs) ∧ x = .list xs) ∧ w' = w := by
  unfold xVarO at h
  cases e : env[i]? with
  | none => rw [e] at h; cases h
  | some s =>
    rw [e] at h
    cases s with
    | sh y => obtain ⟨rfl, rfl⟩ := pure_get h; exact ⟨.inl rfl, rfl⟩
    | ow b xs =>
      cases b with
      | false => obtain ⟨rfl, rfl⟩ := pure_get h; exact ⟨.inr ⟨xs, rfl, rfl⟩, rfl⟩
      | true => cases h
    | _ => cases h
def visB (sc : Scope) (x : Str) : Bool := match sc.names.lookup x with
  | some .local => true
  | some .cell => true
  | some .free => true
  | _ => false
theorem vis_of {sc : Scope} {x : Str} (h : visB sc x = true) : Vis sc x := by
  unfold visB at h
  split at h
  · rename_i e; exact .inl e
  · rename_i e; exact .inr (.inl e)
  · rename_i e; exact .inr (.inr e)
  · cases h
def locB (sc : Scope) (x : Str) : Bool := match sc.names.lookup x with
  | some .local => true
  | some .cell => true
  | _ => false
theorem loc_of {sc : Scope} {x : Str} (h : locB sc x = true) : Loc sc x := by
  unfold locB at h
  split at h
  · rename_i e; exact .inl e
  · rename_i e; exact .inr e
  · cases h
def fnB (X : Cx) (x : Str) : Bool := X.fn x || (match X.env.scope.names.lookup x with
  | some .local => true
  | _ => false)
theorem fn_of' {X : Cx} {x : Str} (h : fnB X x = true) : X.fn x = true ∨ X.env.scope.names.lookup x = some .local := by
  unfold fnB at h
  rw [Bool.or_eq_true] at h
  rcases h with h | h
  · exact .inl h
  · split at h
    · rename_i e; exact .inr e
    · cases h
def dunB (x : Str) : Bool := !(x == ("__debug__" : Str)) && !(x == ("__classdict__" : Str))
theorem dun1 {x : Str} (h : dunB x = true) : (x == ("__debug__" : Str)) = false := by
  unfold dunB at h
  rw [Bool.and_eq_true, Bool.not_eq_true', Bool.not_eq_true'] at h
  exact h.1
theorem dun2 {x : Str} (h : dunB x = true) : (x == ("__classdict__" : Str)) = false := by
  unfold dunB at h
  rw [Bool.and_eq_true, Bool.not_eq_true', Bool.not_eq_true'] at h
  exact h.2
theorem vw_var {K : PySem.W.Frag} (i : Nat) : VwE K m (tVar i) (xVar i) := fun g env w σ H Q x w' hK I hf q => by
  obtain ⟨e, rfl⟩ := xVar_get hf
  obtain ⟨v, hv, r⟩ := I.sh i _ e
  exact ⟨v, hv, q v H (Keep.refl _ _) I.dr (r.mon (fun _ _ _ e => e) fun _ => av_le)⟩
theorem vw_varO {K : PySem.W.Frag} (i : Nat) : VwE K false (tVar i) (xVarO i) := fun g env w σ H Q x w' hK I hf q => by
  obtain ⟨e | ⟨xs, e, rfl⟩, rfl⟩ := xVarO_get hf
  · obtain ⟨v, hv, r⟩ := I.sh i _ e
    exact ⟨v, hv, q v H (Keep.refl _ _) I.dr (r.mon (fun _ _ _ e => e) fun _ => av_le)⟩
  · obtain ⟨a, vs, hv, ha, r, _, nt⟩ := I.owL i xs e
    exact ⟨_, hv, q _ H (Keep.refl _ _) I.dr (.lst (fun z => nt (av_false z)) ha (r.mon (fun _ _ _ e => e) fun _ => av_le))⟩
theorem pv_var {i : Nat} {x : Str} {pos : Pos} (hN : X.N[i]? = some x) (hv : visB X.env.scope x = true) (hd : dunB x = true) : PV X m (.Name x pos) (tVar i) (xVar i) := ⟨pe_var hN (vis_of hv) (dun1 hd) (dun2 hd), vw_var i⟩
theorem pv_varO {i : Nat} {x : Str} {pos : Pos} (hN : X.N[i]? = some x) (hv : visB X.env.scope x = true) (hd : dunB x = true) : PV X false (.Name x pos) (tVar i) (xVarO i) := ⟨pe_var hN (vis_of hv) (dun1 hd) (dun2 hd), vw_varO i⟩
theorem vw_const {v : V} {x : PyData} (hx : ∀ K T H, Rep K T H v x) : VwE X.K m (tC v) (xC x) := fun g env w σ H Q y w' hK I hf q => by
  obtain ⟨rfl, rfl⟩ := pure_get hf
  exact q v H (Keep.refl _ _) I.dr (hx _ _ _)
theorem pv_int {i j pos} : PV X m (.Constant (.int i) j pos) (tC (.int i)) (xC (.int i)) := ⟨pe_int, vw_const fun _ _ _ => .int i⟩
theorem pv_bl {i j pos} : PV X m (.Constant (.bool i) j pos) (tC (.bl i)) (xC (.bool i)) := ⟨pe_bl, vw_const fun _ _ _ => .bl i⟩
theorem pv_non {j pos} : PV X m (.Constant .none j pos) (tC .non) (xC .none) := ⟨pe_non, vw_const fun _ _ _ => .non⟩
theorem pv_str {i j pos} : PV X m (.Constant (.str i) j pos) (tC (.str i)) (xC (.str i)) := ⟨pe_str, vw_const fun _ _ _ => .str i⟩

/-! ### operators by values -/
def OpV (K : PySem.W.Frag) (r : R2) (F : PyData → PyData → Option PyData) : Prop :=
  ∀ (T : Addr → Prop) (H : Hp) (u v : V) (x y z : PyData) (Q : VK), (∀ a, T a → H a ≠ none) → Rep K T H u x → Rep K T H v y → F x y = some z → (∀ t H', Same H H' → Rep K T H' t z → Q t H') → r u v H Q
theorem vw_op {K : PySem.W.Frag} {r : R2} {F : PyData → PyData → Option PyData} (ho : OpV K r F) (p : VwE K m ta f) (q : VwE K m tb h) : VwE K m (tOp r ta tb) (xOp F f h) := fun g env w σ H Q x w' hK I hf k => by
  obtain ⟨y, w1, h1, h2⟩ := bind_some.mp hf
  obtain ⟨z, w2, h3, h4⟩ := bind_some.mp h2
  obtain ⟨e1, rfl⟩ := lift_get h4
  refine p _ env w σ H _ y _ hK I h1 fun v H1 k1 d1 r1 => ?_
  refine q _ env w1 σ H1 _ z _ hK (I.step k1 d1) h3 fun v2 H2 k2 d2 r2 => ?_
  have I2 := (I.step k1 d1).step k2 d2
  refine ho (av _ m env σ) H2 v v2 y z x Q (fun a t => I2.avLive t) (r1.keep k2) r2 e1 fun t H' s r3 => ?_
  exact k t H' ((k1.trans k2).trans (Keep.of_same s)) (I2.same s) r3
theorem pv_op {op : Operator} {r : R2} {F : PyData → PyData → Option PyData} (hr : OpR X (binaryOp op) r) (ho : OpV X.K r F) (p : PV X m a ta f) (q : PV X m b tb h) : PV X m (.BinOp a op b pos) (tOp r ta tb) (xOp F f h) :=
  ⟨pe_op hr p.pe q.pe, vw_op ho p.vw q.vw⟩
theorem pv_cmp {op : CmpOp} {r : R2} {F : PyData → PyData → Option PyData} (hr : OpR X (compareOp op) r) (ho : OpV X.K r F) (p : PV X m a ta f) (q : PV X m b tb h) (hm : behindInMarks op b = false) : PV X m (.Compare a [op] [b] pos) (tOp r ta tb) (xOp F f h) :=
  ⟨pe_cmpR hr p.pe q.pe hm, vw_op ho p.vw q.vw⟩
theorem pt_cmpV {op : CmpOp} {r : R2} {F : PyData → PyData → Option PyData} (hr : OpR X (compareOp op) r) (ho : OpV X.K r F) (p : PV X false a ta f) (q : PV X false b tb h) (hm : behindInMarks op b = false) : PTV X (.Compare a [op] [b] pos) (tTest (tOp r ta tb)) (xTest (xOp F f h)) :=
  ⟨pt_cmpR hr p.pe q.pe hm, fun g env w σ H Q x w' hK I hf k => by
    obtain ⟨y, w1, h1, h2⟩ := bind_some.mp hf
    obtain ⟨e1, rfl⟩ := lift_get h2
    refine vw_op ho p.vw q.vw _ env w σ H _ y _ hK I h1 fun v H1 k1 d1 r1 => ?_
    cases y with
    | bool c =>
      cases r1
      have e3 : c = x := by simpa [asB] using e1
      subst e3
      exact ⟨c, rfl, k H1 k1 d1⟩
    | _ => simp [asB] at e1⟩
theorem vw_un {K : PySem.W.Frag} {r : V → Hp → VK → Prop} {F : PyData → Option PyData} (ho : ∀ (T : Addr → Prop) (H : Hp) (u : V) (x z : PyData) (Q : VK), Rep K T H u x → F x = some z → (∀ t, Rep K T H t z → Q t H) → r u H Q) (p : VwE K m ta f) : VwE K m (tUn r ta) (xUn F f) := fun g env w σ H Q x w' hK I hf k => by
  obtain ⟨y, w1, h1, h2⟩ := bind_some.mp hf
  obtain ⟨e1, rfl⟩ := lift_get h2
  refine p _ env w σ H _ y _ hK I h1 fun v H1 k1 d1 r1 => ?_
  exact ho _ H1 v y x Q r1 e1 fun t r2 => k t H1 k1 d1 r2
theorem pv_neg (p : PV X m a ta f) : PV X m (.UnaryOp .USub a pos) (tUn (rU fun i => .int (-i)) ta) (xUn fNeg f) := ⟨pe_un un_neg p.pe, vw_un (fun T H u x z Q r e q => by
  cases r with
  | int i => simp [fNeg] at e; subst e; exact ⟨i, rfl, q _ (.int _)⟩
  | _ => simp [fNeg] at e) p.vw⟩

theorem ov_int0 {K : PySem.W.Frag} {gi : Int → Int → V} {F : PyData → PyData → Option PyData} (hF : ∀ x y z, F x y = some z → ∃ i j, x = .int i ∧ y = .int j ∧ ∀ T H, Rep K T H (gi i j) z) : OpV K (rI0 gi) F := fun T H u v x y z Q lv r1 r2 e q => by
  obtain ⟨i, j, rfl, rfl, hz⟩ := hF x y z e
  cases r1; cases r2
  exact ⟨i, j, rfl, rfl, q _ H (Same.refl H) (hz T H)⟩
theorem ov_int {K : PySem.W.Frag} {C : Int → Int → Prop} {gi : Int → Int → V} {F : PyData → PyData → Option PyData} (hF : ∀ x y z, F x y = some z → ∃ i j, x = .int i ∧ y = .int j ∧ C i j ∧ ∀ T H, Rep K T H (gi i j) z) : OpV K (rI C gi) F := fun T H u v x y z Q lv r1 r2 e q => by
  obtain ⟨i, j, rfl, rfl, hc, hz⟩ := hF x y z e
  cases r1; cases r2
  exact ⟨i, j, rfl, rfl, hc, q _ H (Same.refl H) (hz T H)⟩
theorem ov_sub {K : PySem.W.Frag} : OpV K (rI0 fun i j => .int (i - j)) fSub := ov_int0 fun x y z e => by
  unfold fSub at e
  split at e
  · cases e; exact ⟨_, _, rfl, rfl, fun _ _ => .int _⟩
  · cases e
theorem ov_lt {K : PySem.W.Frag} : OpV K (rI0 fun i j => .bl (decide (i < j))) fLt := ov_int0 fun x y z e => by
  unfold fLt at e
  split at e
  · cases e; exact ⟨_, _, rfl, rfl, fun _ _ => .bl _⟩
  · cases e
theorem ov_le {K : PySem.W.Frag} : OpV K (rI0 fun i j => .bl (decide (i ≤ j))) fLe := ov_int0 fun x y z e => by
  unfold fLe at e
  split at e
  · cases e; exact ⟨_, _, rfl, rfl, fun _ _ => .bl _⟩
  · cases e
theorem ov_gt {K : PySem.W.Frag} : OpV K (rI0 fun i j => .bl (decide (j < i))) fGt := ov_int0 fun x y z e => by
  unfold fGt at e
  split at e
  · cases e; exact ⟨_, _, rfl, rfl, fun _ _ => .bl _⟩
  · cases e
theorem ov_ge {K : PySem.W.Frag} : OpV K (rI0 fun i j => .bl (decide (j ≤ i))) fGe := ov_int0 fun x y z e => by
  unfold fGe at e
  split at e
  · cases e; exact ⟨_, _, rfl, rfl, fun _ _ => .bl _⟩
  · cases e
theorem ov_mul {K : PySem.W.Frag} : OpV K (rI CMul fun i j => .int (i * j)) fMul := ov_int fun x y z e => by
  unfold fMul at e
  split at e
  · split at e
    · rename_i hc
      cases e
      refine ⟨_, _, rfl, rfl, ?_, fun _ _ => .int _⟩
      simp only [inW, Bool.or_eq_true, Bool.and_eq_true, decide_eq_true_eq] at hc
      exact hc
    · cases e
  · cases e
theorem ov_div {K : PySem.W.Frag} : OpV K (rI CDiv fun i j => .int (i / j)) fDiv := ov_int fun x y z e => by
  unfold fDiv at e
  split at e
  · split at e
    · rename_i hc
      cases e
      exact ⟨_, _, rfl, rfl, hc, fun _ _ => .int _⟩
    · cases e
  · cases e
theorem ov_mod {K : PySem.W.Frag} : OpV K (rI (fun _ j => 0 < j) fun i j => .int (i % j)) fMod := ov_int fun x y z e => by
  unfold fMod at e
  split at e
  · split at e
    · rename_i hc
      cases e
      exact ⟨_, _, rfl, rfl, hc, fun _ _ => .int _⟩
    · cases e
  · cases e
theorem upd_new {H : Hp} {p : Addr} {o : HO} (h : H p = none) : Same H (upd H p o) := fun b x e => by
  rw [upd_ne (ne_of_none e h)]
  exact e
theorem ov_add {K : PySem.W.Frag} : OpV K (fun x y H Q => rI0 (fun i j => .int (i + j)) x y H Q ∨ rCat x y H Q) fAdd := fun T H u v x y z Q lv r1 r2 e q => by
  unfold fAdd at e
  split at e
  · cases e
    cases r1; cases r2
    exact .inl ⟨_, _, rfl, rfl, q _ H (Same.refl H) (.int _)⟩
  · split at e
    · rename_i xs ys hl
      cases e
      cases r1 with
      | lst n1 a1 s1 =>
        cases r2 with
        | lst n2 a2 s2 =>
          refine .inr ⟨_, _, _, _, rfl, rfl, a1, a2, ?_, fun p hp => ?_⟩
          · rw [s1.length, s2.length, ← line_eq]; exact hl
          · refine q _ _ (upd_new hp) (.lst (fun z => lv p z hp) upd_same ?_)
            exact (s1.append s2).mon (fun a o n e => upd_new hp a o e) fun _ q => q
    · cases e
  · cases e
theorem ov_eq {K : PySem.W.Frag} : OpV K (rEqD K) fEq := fun T H u v x y z Q lv r1 r2 e q => by
  unfold fEq at e
  split at e
  · rename_i hc
    cases e
    simp only [shp, Bool.and_eq_true] at hc
    exact ⟨x, y, r1.dp, r2.dp, hc.1, hc.2, q _ H (Same.refl H) (.bl _)⟩
  · cases e
theorem ov_ne {K : PySem.W.Frag} : OpV K (rNeD K) fNe := fun T H u v x y z Q lv r1 r2 e q => by
  unfold fNe at e
  split at e
  · rename_i hc
    cases e
    simp only [shp, Bool.and_eq_true] at hc
    exact ⟨x, y, r1.dp, r2.dp, hc.1, hc.2, q _ H (Same.refl H) (.bl _)⟩
  · cases e
theorem isNone_rep {K : PySem.W.Frag} {T : Addr → Prop} {H : Hp} {v : V} {x : PyData} (r : Rep K T H v x) : decide (v = .non) = isNone x := by
  cases r <;> simp [isNone]
/-- a is None -/
theorem vw_isN {K : PySem.W.Frag} (p : VwE K false ta f) : VwE K m (tIsN ta) (xUn fIsN f) := fun g env w σ H Q x w' hK I hf k => by
  obtain ⟨y, w1, h1, h2⟩ := bind_some.mp hf
  obtain ⟨e1, rfl⟩ := lift_get h2
  refine p _ env w σ H _ y _ hK I h1 fun v H1 k1 d1 r1 => ?_
  have e3 : .bool (isNone y) = x := by simpa [fIsN] using e1
  subst e3
  rw [isNone_rep r1]
  exact k _ H1 k1 d1 (.bl _)
theorem vw_notN {K : PySem.W.Frag} (p : VwE K false ta f) : VwE K m (tNotN ta) (xUn fNotN f) := fun g env w σ H Q x w' hK I hf k => by
  obtain ⟨y, w1, h1, h2⟩ := bind_some.mp hf
  obtain ⟨e1, rfl⟩ := lift_get h2
  refine p _ env w σ H _ y _ hK I h1 fun v H1 k1 d1 r1 => ?_
  have e3 : .bool (!isNone y) = x := by simpa [fNotN] using e1
  subst e3
  rw [isNone_rep r1]
  exact k _ H1 k1 d1 (.bl _)
theorem pv_isN {j pos'} (p : PV X false a ta f) : PV X m (.Compare a [.Is] [.Constant .none j pos'] pos) (tIsN ta) (xUn fIsN f) := ⟨pe_cmp (pc_isN p.pe), vw_isN p.vw⟩
theorem pv_notN {j pos'} (p : PV X false a ta f) : PV X m (.Compare a [.IsNot] [.Constant .none j pos'] pos) (tNotN ta) (xUn fNotN f) := ⟨pe_cmp (pc_notN p.pe), vw_notN p.vw⟩
theorem vw_test {K : PySem.W.Frag} {t : TE} (p : VwE K false t f) : VwT K (tB t) (xTest f) := fun g env w σ H Q x w' hK I hf k => by
  obtain ⟨y, w1, h1, h2⟩ := bind_some.mp hf
  obtain ⟨e1, rfl⟩ := lift_get h2
  refine p _ env w σ H _ y _ hK I h1 fun v H1 k1 d1 r1 => ?_
  cases y with
  | bool c =>
    cases r1
    have e3 : c = x := by simpa [asB] using e1
    subst e3
    exact ⟨c, rfl, k H1 k1 d1⟩
  | _ => simp [asB] at e1
theorem pt_isN {j pos'} (p : PV X false a ta f) : PTV X (.Compare a [.Is] [.Constant .none j pos'] pos) (tB (tIsN ta)) (xTest (xUn fIsN f)) := ⟨pt_cmp (pc_isN p.pe), vw_test (vw_isN p.vw)⟩
theorem pt_notN {j pos'} (p : PV X false a ta f) : PTV X (.Compare a [.IsNot] [.Constant .none j pos'] pos) (tB (tNotN ta)) (xTest (xUn fNotN f)) := ⟨pt_cmp (pc_notN p.pe), vw_test (vw_notN p.vw)⟩
/-- a value's truth -/
theorem truth_rep {K : PySem.W.Frag} {T : Addr → Prop} {H : Hp} {v : V} {x : PyData} {k : Bool} (r : Rep K T H v x) (e : truth x = some k) : TruV K v H k := by
  cases r with
  | non => simp [truth] at e; subst e; rfl
  | bl b => simp [truth] at e; subst e; rfl
  | int i => simp [truth] at e; subst e; rfl
  | str s => simp [truth] at e
  | lst n a r =>
    have e' : (!List.isEmpty _) = k := Option.some.inj e
    refine .inl ⟨_, SqL.of a, ?_⟩
    rw [← e']
    cases r <;> rfl
  | tup a r =>
    have e' : (!List.isEmpty _) = k := Option.some.inj e
    refine .inr (.inl ⟨_, a.sq, ?_⟩)
    rw [← e']
    cases r <;> rfl
theorem pt_tru {KK : PySem.W.Frag} (hKK : X.K = KK) (p : PV X false a ta f) (he : ∀ whole, isTrue a X.env whole = (do let v ← whole; standAt a.pos; holding [v] (truthy v))) :
    PTV X a (fun σ H Q => ta σ H fun x H' => ∃ k, TruV KK x H' k ∧ Q k H') (xTruth f) := by
  subst hKK
  exact (show
    PTV X a (fun σ H Q => ta σ H fun x H' => ∃ k, TruV X.K x H' k ∧ Q k H') (xTruth f) from  ⟨pt_truth p.pe he, fun g env w σ H Q x w' hK I hf k => by
  obtain ⟨y, w1, h1, h2⟩ := bind_some.mp hf
  obtain ⟨e1, rfl⟩ := lift_get h2
  exact p.vw _ env w σ H _ y _ hK I h1 fun v H1 k1 d1 r1 => ⟨x, truth_rep r1 e1, k H1 k1 d1⟩⟩)

end
end VE

namespace VE
open PySem PySem.Spec L2
open PyProof.Rows hiding St
section
variable {X : Cx} {m : Bool} {e a b c : Expr} {rest : List Expr} {ta tb tc : TE} {tA tB' : TT} {f h k : EF} {fA fB : TF} {pos : Pos} {K : PySem.W.Frag}
/-! ### and, or, not -/
theorem PWV.pt (p : PWV X e tA fA) : PTV X e tA fA := ⟨p.pe.pt, p.vw⟩
theorem pwv_and1 (p : PTV X a tA fA) : PWV X (.BoolOp .And [a] pos) tA fA := ⟨pw_and1 p.pe, p.vw⟩
theorem pwv_or1 (p : PTV X a tA fA) : PWV X (.BoolOp .Or [a] pos) tA fA := ⟨pw_or1 p.pe, p.vw⟩
theorem vw_and (p : VwT K tA fA) (q : VwT K tB' fB) : VwT K (tAnd tA tB') (xAnd fA fB) := fun g env w σ H Q x w' hK I hf k => by
  obtain ⟨y, w1, h1, h2⟩ := bind_some.mp hf
  refine p _ env w σ H _ y _ hK I h1 fun H1 k1 d1 => ?_
  cases y with
  | true => exact q _ env _ σ H1 Q x _ hK (I.step k1 d1) h2 fun H' k2 d2 => k H' (k1.trans k2) d2
  | false =>
    obtain ⟨rfl, rfl⟩ := pure_get h2
    exact k H1 k1 d1
theorem vw_or (p : VwT K tA fA) (q : VwT K tB' fB) : VwT K (tOr tA tB') (xOr fA fB) := fun g env w σ H Q x w' hK I hf k => by
  obtain ⟨y, w1, h1, h2⟩ := bind_some.mp hf
  refine p _ env w σ H _ y _ hK I h1 fun H1 k1 d1 => ?_
  cases y with
  | false => exact q _ env _ σ H1 Q x _ hK (I.step k1 d1) h2 fun H' k2 d2 => k H' (k1.trans k2) d2
  | true =>
    obtain ⟨rfl, rfl⟩ := pure_get h2
    exact k H1 k1 d1
theorem pwv_and (p : PTV X a tA fA) (q : PWV X (.BoolOp .And (b :: rest) pos) tB' fB) : PWV X (.BoolOp .And (a :: b :: rest) pos) (tAnd tA tB') (xAnd fA fB) := ⟨pw_and p.pe q.pe, vw_and p.vw q.vw⟩
theorem pwv_or (p : PTV X a tA fA) (q : PWV X (.BoolOp .Or (b :: rest) pos) tB' fB) : PWV X (.BoolOp .Or (a :: b :: rest) pos) (tOr tA tB') (xOr fA fB) := ⟨pw_or p.pe q.pe, vw_or p.vw q.vw⟩
theorem ptv_not (p : PTV X a tA fA) : PTV X (.UnaryOp .Not a pos) (tNot tA) (xNot fA) := ⟨pt_not p.pe, fun g env w σ H Q x w' hK I hf k => by
  obtain ⟨y, w1, h1, h2⟩ := bind_some.mp hf
  obtain ⟨rfl, rfl⟩ := pure_get h2
  exact p.vw _ env w σ H _ y _ hK I h1 fun H1 k1 d1 => k H1 k1 d1⟩
theorem pv_one {op} (p : PV X m a ta f) : PV X m (.BoolOp op [a] pos) ta f := ⟨pe_one p.pe, p.vw⟩
theorem pv_and (p : PV X false a ta f) (q : PV X m (.BoolOp .And (b :: rest) pos) tb h) : PV X m (.BoolOp .And (a :: b :: rest) pos) (tAndV ta tb) (xAndV f h) := ⟨pe_and p.pe q.pe, fun g env w σ H Q x w' hK I hf k => by
  obtain ⟨y, w1, h1, h2⟩ := bind_some.mp hf
  refine p.vw _ env w σ H _ y _ hK I h1 fun v H1 k1 d1 r1 => ?_
  cases y with
  | bool c =>
    cases r1
    refine ⟨c, rfl, ?_⟩
    cases c with
    | true => exact q.vw _ env _ σ H1 Q x _ hK (I.step k1 d1) h2 fun v2 H' k2 d2 r2 => k v2 H' (k1.trans k2) d2 r2
    | false =>
      obtain ⟨rfl, rfl⟩ := pure_get h2
      exact k _ H1 k1 d1 (.bl _)
  | _ => cases h2⟩
theorem pv_or (p : PV X false a ta f) (q : PV X m (.BoolOp .Or (b :: rest) pos) tb h) : PV X m (.BoolOp .Or (a :: b :: rest) pos) (tOrV ta tb) (xOrV f h) := ⟨pe_or p.pe q.pe, fun g env w σ H Q x w' hK I hf k => by
  obtain ⟨y, w1, h1, h2⟩ := bind_some.mp hf
  refine p.vw _ env w σ H _ y _ hK I h1 fun v H1 k1 d1 r1 => ?_
  cases y with
  | bool c =>
    cases r1
    refine ⟨c, rfl, ?_⟩
    cases c with
    | false => exact q.vw _ env _ σ H1 Q x _ hK (I.step k1 d1) h2 fun v2 H' k2 d2 r2 => k v2 H' (k1.trans k2) d2 r2
    | true =>
      obtain ⟨rfl, rfl⟩ := pure_get h2
      exact k _ H1 k1 d1 (.bl _)
  | _ => cases h2⟩
theorem pv_not (p : PV X false a ta f) : PV X m (.UnaryOp .Not a pos) (tNotV ta) (xNotV f) := ⟨pe_not p.pe, fun g env w σ H Q x w' hK I hf k => by
  obtain ⟨y, w1, h1, h2⟩ := bind_some.mp hf
  refine p.vw _ env w σ H _ y _ hK I h1 fun v H1 k1 d1 r1 => ?_
  cases y with
  | bool c =>
    cases r1
    obtain ⟨rfl, rfl⟩ := pure_get h2
    exact ⟨c, rfl, k _ H1 k1 d1 (.bl _)⟩
  | _ => cases h2⟩
theorem pv_if (t : PTV X c tA fA) (p : PV X m a ta f) (q : PV X m b tb h) : PV X m (.IfExp c a b pos) (tIf tA ta tb) (xIf fA f h) := ⟨pe_ifExp t.pe p.pe q.pe, fun g env w σ H Q x w' hK I hf k => by
  obtain ⟨y, w1, h1, h2⟩ := bind_some.mp hf
  refine t.vw _ env w σ H _ y _ hK I h1 fun H1 k1 d1 => ?_
  cases y with
  | true => exact p.vw _ env _ σ H1 Q x _ hK (I.step k1 d1) h2 fun v2 H' k2 d2 r2 => k v2 H' (k1.trans k2) d2 r2
  | false => exact q.vw _ env _ σ H1 Q x _ hK (I.step k1 d1) h2 fun v2 H' k2 d2 r2 => k v2 H' (k1.trans k2) d2 r2⟩

/-! ### a chain of two comparisons -/
theorem vw_chain {r r' : R2} {F F' : PyData → PyData → Option PyData} (ho : OpV K r F) (ho' : OpV K r' F') (p : VwE K false ta f) (q : VwE K false tb h) (s : VwE K false tc k) : VwE K m (tChain r r' ta tb tc) (xChain F F' f h k) := fun g env w σ H Q x w' hK I hf kk => by
  obtain ⟨y, w1, h1, h2⟩ := bind_some.mp hf
  obtain ⟨z, w2, h3, h4⟩ := bind_some.mp h2
  obtain ⟨b1, w3, h5, h6⟩ := bind_some.mp h4
  obtain ⟨e1, rfl⟩ := lift_get h5
  refine p _ env w σ H _ y _ hK I h1 fun v H1 k1 d1 r1 => ?_
  refine q _ env _ σ H1 _ z _ hK (I.step k1 d1) h3 fun v2 H2 k2 d2 r2 => ?_
  have I2 := (I.step k1 d1).step k2 d2
  obtain ⟨zz, ez, eb⟩ := Option.bind_eq_some_iff.mp e1
  refine ho (av _ false env σ) H2 v v2 y z zz _ (fun a t => I2.avLive t) (r1.keep k2) r2 ez fun t H3 s3 r3 => ?_
  have I3 := I2.step (Keep.of_same s3) (I2.same s3)
  have k3 := (k1.trans k2).trans (Keep.of_same s3)
  cases zz with
  | bool bb =>
    have : bb = b1 := by simpa [asB] using eb
    subst this
    cases r3
    refine ⟨bb, rfl, ?_⟩
    cases bb with
    | false =>
      rw [if_neg Bool.false_ne_true] at h6
      rw [if_neg Bool.false_ne_true]
      obtain ⟨rfl, rfl⟩ := pure_get h6
      exact kk _ H3 k3 I3.dr (.bl _)
    | true =>
      rw [if_pos rfl] at h6
      rw [if_pos rfl]
      obtain ⟨u, w4, h7, h8⟩ := bind_some.mp h6
      obtain ⟨b2, w5, h9, h10⟩ := bind_some.mp h8
      obtain ⟨e2, rfl⟩ := lift_get h9
      obtain ⟨rfl, rfl⟩ := pure_get h10
      obtain ⟨z2, ez2, eb2⟩ := Option.bind_eq_some_iff.mp e2
      refine s _ env _ σ H3 _ u _ hK I3 h7 fun v4 H4 k4 d4 r4 => ?_
      have I4 := I3.step k4 d4
      refine ho' (av _ false env σ) H4 v2 v4 z u z2 Q (fun a t => I4.avLive t) (r2.keep ((Keep.of_same s3).trans k4)) r4 ez2 fun t5 H5 s5 r5 => ?_
      cases z2 with
      | bool b3 =>
        have : b3 = b2 := by simpa [asB] using eb2
        subst this
        cases r5
        exact kk _ H5 ((k3.trans k4).trans (Keep.of_same s5)) (I4.same s5) (.bl _)
      | _ => simp [asB] at eb2
  | _ => simp [asB] at eb
theorem pv_chain {op op' : CmpOp} {r r' : R2} {F F' : PyData → PyData → Option PyData} (hr : OpR X (compareOp op) r) (ho : OpV X.K r F) (hr' : OpR X (compareOp op') r') (ho' : OpV X.K r' F') (p : PV X false a ta f) (q : PV X false b tb h) (s : PV X false c tc k)
    (hm : lastMarks [op, op'] [b, c] = false) : PV X m (.Compare a [op, op'] [b, c] pos) (tChain r r' ta tb tc) (xChain F F' f h k) := ⟨pe_chain hr hr' p.pe q.pe s.pe hm, vw_chain ho ho' p.vw q.vw s.vw⟩
theorem vw_tTest {t : TE} (p : VwE K false t f) : VwT K (tTest t) (xTest f) := fun g env w σ H Q x w' hK I hf k => vw_test p _ env w σ H Q x w' hK I hf k
theorem pt_chainV {op op' : CmpOp} {r r' : R2} {F F' : PyData → PyData → Option PyData} (hr : OpR X (compareOp op) r) (ho : OpV X.K r F) (hr' : OpR X (compareOp op') r') (ho' : OpV X.K r' F') (p : PV X false a ta f) (q : PV X false b tb h) (s : PV X false c tc k)
    (hm : lastMarks [op, op'] [b, c] = false) : PTV X (.Compare a [op, op'] [b, c] pos) (tTest (tChain r r' ta tb tc)) (xTest (xChain F F' f h k)) := ⟨pt_chain hr hr' p.pe q.pe s.pe hm, vw_tTest (vw_chain ho ho' p.vw q.vw s.vw)⟩

/-! ### arguments, displays -/
variable {es : List Expr} {tas tbs : TA} {fs hs : AF}
theorem pav_nil : PAV X m [] tNil xNil := ⟨pa_nil, fun g env w σ H Q x w' hK I hf k => by
  obtain ⟨rfl, rfl⟩ := pure_get hf
  exact k [] H (Keep.refl _ _) I.dr .nil⟩
theorem pav_cons (p : PV X m e ta f) (q : PAV X m es tas fs) (hst : starEach (e :: es) X.env = (false, eval e X.env) :: starEach es X.env) : PAV X m (e :: es) (tCons ta tas) (xCons f fs) := ⟨pa_cons p.pe q.pe hst, fun g env w σ H Q x w' hK I hf k => by
  obtain ⟨y, w1, h1, h2⟩ := bind_some.mp hf
  obtain ⟨ys, w2, h3, h4⟩ := bind_some.mp h2
  obtain ⟨rfl, rfl⟩ := pure_get h4
  refine p.vw _ env w σ H _ y _ hK I h1 fun v H1 k1 d1 r1 => ?_
  refine q.vw _ env _ σ H1 _ ys _ hK (I.step k1 d1) h3 fun vs H2 k2 d2 r2 => ?_
  exact k _ H2 (k1.trans k2) d2 (.cons (r1.keep k2) r2)⟩
theorem StOk.new {g : Gh K} {env : En} {w : W} {σ : SS} {H : Hp} {o : HO} {p : Addr} (I : StOk g env w σ H) (hp : H p = none) : Keep g g H (upd H p o) ∧ g.dr w (upd H p o) := ⟨Keep.of_same (upd_new hp), I.same (upd_new hp)⟩
theorem pv_tup {x1} (p : PAV X m es tas fs) : PV X m (.Tuple es x1 pos) (tTup tas) (xTup fs) := ⟨pe_tup p.pe, fun g env w σ H Q x w' hK I hf k => by
  obtain ⟨ys, w1, h1, h2⟩ := bind_some.mp hf
  by_cases hl : ys.length ≤ line
  · rw [if_pos hl] at h2
    obtain ⟨rfl, rfl⟩ := pure_get h2
    refine p.vw _ env w σ H _ ys _ hK I h1 fun vs H1 k1 d1 r1 => ⟨by rw [r1.length, ← line_eq]; exact hl, fun q hq => ?_⟩
    have I1 := I.step k1 d1
    obtain ⟨k2, d2⟩ := I1.new (o := .tup vs) hq
    exact k _ _ (k1.trans k2) d2 (.tup (.inl ⟨fun z => I1.avLive z hq, .inl upd_same⟩) (r1.keep k2))
  · rw [if_neg hl] at h2; cases h2⟩
theorem plv_lst (p : PAV X m es tas fs) : PLV X m (.List es pos) (tLst tas) (xLst fs) := ⟨pe_lst p.pe, fun g env w σ H Q x w' hK I hf k => by
  obtain ⟨ys, w1, h1, h2⟩ := bind_some.mp hf
  by_cases hl : ys.length ≤ line
  · rw [if_pos hl] at h2
    obtain ⟨rfl, rfl⟩ := pure_get h2
    refine p.vw _ env w σ H _ ys _ hK I h1 fun vs H1 k1 d1 r1 => ⟨by rw [r1.length, ← line_eq]; exact hl, fun q hq => ?_⟩
    have I1 := I.step k1 d1
    obtain ⟨k2, d2⟩ := I1.new (o := .lst vs) hq
    refine k q vs _ ?_ (k1.trans k2) d2 upd_same ((Reps.fresh hq _ r1).mon (fun a o n e => upd_new hq a o e) fun _ z => z)
    exact newAt I1 k1 hq
  · rw [if_neg hl] at h2; cases h2⟩
theorem pv_as {t : TE} {fl : LF} (p : PLV X m e t fl) : PV X m e t (xAs fl) := ⟨p.pe, fun g env w σ H Q x w' hK I hf k => by
  obtain ⟨ys, w1, h1, h2⟩ := bind_some.mp hf
  obtain ⟨rfl, rfl⟩ := pure_get h2
  refine p.vw _ env w σ H _ ys _ hK I h1 fun q vs H1 hq k1 d1 e1 r1 => ?_
  refine k _ H1 k1 d1 (.lst (fun z => z.elim hq.2 fun o => I.owLive o.2 hq.1) e1 (r1.mon (fun _ _ _ e => e) fun _ z => .inl z))⟩
theorem Reps.of_flats {T T' : Addr → Prop} {H H' : Hp} : ∀ {ys : List PyData} {vs : List V}, Reps K T H vs ys → ys.all VE.flat = true → Reps K T' H' vs ys
  | [], _, r, _ => by cases r; exact .nil
  | y :: ys, _, r, fl => by
    rw [List.all_cons, Bool.and_eq_true] at fl
    cases r with
    | cons r1 r2 => exact .cons (r1.of_flat fl.1) (Reps.of_flats r2 fl.2)
/-- a list that is new is so whatever was held -/
theorem PLV.flat {t : TE} {fl : LF} (p : PLV X false e t fl) : PLV X m e t (xFlatL fl) := ⟨p.pe, fun g env w σ H Q x w' hK I hf k => by
  obtain ⟨ys, w1, h1, h2⟩ := bind_some.mp hf
  by_cases hl : ys.all VE.flat = true
  · rw [if_pos hl] at h2
    obtain ⟨rfl, rfl⟩ := pure_get h2
    refine p.vw _ env w σ H _ ys _ hK I h1 fun q vs H1 hq k1 d1 e1 r1 => k q vs H1 hq k1 d1 e1 ?_
    exact r1.of_flats hl
  · rw [if_neg hl] at h2; cases h2⟩

/-! ### items -/
theorem ixN_eq (n : Nat) (i : Int) : VE.ixN n i = L2.ixN n i := rfl
theorem atI_rep {T : Addr → Prop} {H : Hp} {vs : List V} {xs : List PyData} {i : Int} {x : PyData} (r : Reps K T H vs xs) (h : VE.atI xs i = some x) : ∃ v, L2.atI vs i = some v ∧ Rep K T H v x := by
  unfold VE.atI at h
  obtain ⟨j, h1, h2⟩ := Option.bind_eq_some_iff.mp h
  obtain ⟨v, e, q⟩ := r.get h2
  refine ⟨v, ?_, q⟩
  unfold L2.atI
  rw [r.length, ← ixN_eq, h1]
  exact e
theorem ov_ix : OpV K (fun x y H Q => rIxL K x y H Q ∨ rIxT K x y H Q) fIx := fun T H u v x y z Q lv r1 r2 e q => by
  unfold fIx at e
  split at e
  · cases r2
    cases r1 with
    | lst n a s =>
      obtain ⟨w, e1, e2⟩ := atI_rep s e
      exact .inl ⟨_, _, _, w, rfl, rfl, SqL.of a, e1, q w H (Same.refl H) e2⟩
  · cases r2
    cases r1 with
    | tup a s =>
      obtain ⟨w, e1, e2⟩ := atI_rep s e
      exact .inr ⟨_, _, _, w, rfl, rfl, a.sq, e1, q w H (Same.refl H) e2⟩
  · cases e
theorem pv_ix {KK : PySem.W.Frag} (hKK : X.K = KK) (p : PV X m a ta f) (q : PV X m b tb h) (hs : PlainIx b) : PV X m (.Subscript a b pos) (tOp (fun x y H Q => rIxL KK x y H Q ∨ rIxT KK x y H Q) ta tb) (xOp fIx f h) := by
  subst hKK
  exact (show PV X m (.Subscript a b pos) (tOp (fun x y H Q => rIxL X.K x y H Q ∨ rIxT X.K x y H Q) ta tb) (xOp fIx f h) from  ⟨pe_ix (ix_list.or ix_tup) p.pe q.pe hs, vw_op ov_ix p.vw q.vw⟩)

/-! ### in -/
theorem flat_rep {T : Addr → Prop} {H : Hp} {v : V} {x : PyData} (r : Rep K T H v x) (e : flat x = true) : flatV v = true := by
  cases r <;> first | rfl | cases e
theorem flats_rep {T : Addr → Prop} {H : Hp} : ∀ {xs : List PyData} {vs : List V}, Reps K T H vs xs → xs.all flat = true → vs.all flatV = true
  | [], _, r, _ => by cases r; rfl
  | x :: xs, _, r, e => by
    cases r with
    | cons r1 r2 =>
      rw [List.all_cons, Bool.and_eq_true] at e
      rw [List.all_cons, flat_rep r1 e.1, flats_rep r2 e.2]; rfl
theorem eqv_rep {T T' : Addr → Prop} {H : Hp} {v u : V} {x y : PyData} (r : Rep K T H v x) (s : Rep K T' H u y) (e1 : flat x = true) (e2 : flat y = true) : eqV v u = PyData.eqv x y := by
  cases r <;> cases s <;> first | rfl | cases e1 | cases e2 | simp [eqV, PyData.eqv]
theorem any_rep {T T' : Addr → Prop} {H : Hp} {u : V} {y : PyData} (s : Rep K T' H u y) (e2 : flat y = true) : ∀ {xs : List PyData} {vs : List V}, Reps K T H vs xs → xs.all flat = true → inV u vs = xs.any fun z => PyData.eqv z y
  | [], _, r, _ => by cases r; rfl
  | x :: xs, _, r, e => by
    cases r with
    | cons r1 r2 =>
      rw [List.all_cons, Bool.and_eq_true] at e
      have ih := any_rep s e2 r2 e.2
      unfold inV at ih ⊢
      rw [List.any_cons, List.any_cons, ih, eqv_rep r1 s e.1 e2]
theorem items_rep {T : Addr → Prop} {H : Hp} {v : V} {x : PyData} {xs : List PyData} (r : Rep K T H v x) (e : items x = some xs) : ∃ a vs, v = .ref a ∧ (SqL K H a vs ∨ SqT K H a vs) ∧ Reps K T H vs xs := by
  cases r with
  | lst n a s => simp [items] at e; subst e; exact ⟨_, _, rfl, .inl (SqL.of a), s⟩
  | tup a s => simp [items] at e; subst e; exact ⟨_, _, rfl, .inr a.sq, s⟩
  | _ => simp [items] at e
theorem ov_in : OpV K (rIn K false) fIn := fun T H u v x y z Q lv r1 r2 e q => by
  unfold fIn at e
  obtain ⟨ys, e1, e2⟩ := Option.bind_eq_some_iff.mp e
  split at e2
  · rename_i hc
    rw [Bool.and_eq_true] at hc
    obtain ⟨a, vs, rfl, hs, s⟩ := items_rep r2 e1
    cases e2
    refine ⟨a, vs, rfl, hs, flat_rep r1 hc.1, flats_rep s hc.2, ?_⟩
    rw [if_neg Bool.false_ne_true, any_rep r1 hc.1 s hc.2]
    exact q _ H (Same.refl H) (.bl _)
  · cases e2
theorem ov_notIn : OpV K (rIn K true) fNotIn := fun T H u v x y z Q lv r1 r2 e q => by
  unfold fNotIn at e
  obtain ⟨ys, e1, e2⟩ := Option.bind_eq_some_iff.mp e
  split at e2
  · rename_i hc
    rw [Bool.and_eq_true] at hc
    obtain ⟨a, vs, rfl, hs, s⟩ := items_rep r2 e1
    cases e2
    refine ⟨a, vs, rfl, hs, flat_rep r1 hc.1, flats_rep s hc.2, ?_⟩
    rw [if_pos rfl, any_rep r1 hc.1 s hc.2]
    exact q _ H (Same.refl H) (.bl _)
  · cases e2

/-! ### slices -/
structure POV (X : Cx) (e : Option Expr) (t : TO) (f : OF) : Prop where
  pe : PO X e t
  vw : ∀ (g : Gh X.K) (env : En) (w : W) (σ : SS) (H : Hp) (Q : Option Int → Hp → Prop) (x : Option Int) (w' : W), True → StOk g env w σ H → f env w = some (x, w') →
    (∀ {g' : Gh _} H', Keep g g' H H' → g'.dr w' H' → Q x H') → t σ H Q
theorem pov_none : POV X none tNoPart oNo := ⟨po_none, fun g env w σ H Q x w' hK I hf k => by
  obtain ⟨rfl, rfl⟩ := pure_get hf
  exact k H (Keep.refl _ _) I.dr⟩
theorem pov_some (p : PV X false e ta f) : POV X (some e) (tPart ta) (oSome f) := ⟨po_some p.pe, fun g env w σ H Q x w' hK I hf k => by
  obtain ⟨y, w1, h1, h2⟩ := bind_some.mp hf
  refine p.vw _ env w σ H _ y _ hK I h1 fun v H1 k1 d1 r1 => ?_
  cases y with
  | int i =>
    cases r1
    obtain ⟨rfl, rfl⟩ := pure_get h2
    exact ⟨i, rfl, k H1 k1 d1⟩
  | _ => cases h2⟩
theorem cut_rep {T : Addr → Prop} {H : Hp} {vs : List V} {xs : List PyData} (lo hi : Option Int) (r : Reps K T H vs xs) : Reps K T H (cutV vs lo hi) (cut xs lo hi) := by
  unfold cutV cut
  have e : ∀ n d o, HT.sIx n d o = VE.sIx n d o := fun n d o => by
    cases o <;> rfl
  rw [r.length, e, e]
  exact (r.drop _).take _
theorem plv_slice {lo hi : Option Expr} {tl th : TO} {fl fh : OF} {p2 : Pos} {KK : PySem.W.Frag} (hKK : X.K = KK) (p : PV X m e ta f) (ql : POV X lo tl fl) (qh : POV X hi th fh) : PLV X m (.Subscript e (.Slice lo hi none p2) pos) (tSl (rSlL KK) ta tl th) (xSlice f fl fh) := by
  subst hKK
  exact (show PLV X m (.Subscript e (.Slice lo hi none p2) pos) (tSl (rSlL X.K) ta tl th) (xSlice f fl fh) from  ⟨pe_slice sl_list p.pe ql.pe qh.pe, fun g env w σ H Q x w' hK I hf k => by
  obtain ⟨y, w1, h1, h2⟩ := bind_some.mp hf
  obtain ⟨l, w2, h3, h4⟩ := bind_some.mp h2
  obtain ⟨u, w3, h5, h6⟩ := bind_some.mp h4
  refine p.vw _ env w σ H _ y _ hK I h1 fun v H1 k1 d1 r1 => ?_
  refine ql.vw _ env _ σ H1 _ l _ hK (I.step k1 d1) h3 fun H2 k2 d2 => ?_
  refine qh.vw _ env _ σ H2 _ u _ hK ((I.step k1 d1).step k2 d2) h5 fun H3 k3 d3 => ?_
  have I3 := ((I.step k1 d1).step k2 d2).step k3 d3
  cases y with
  | list xs =>
    obtain ⟨rfl, rfl⟩ := pure_get h6
    have r3 := r1.keep (k2.trans k3)
    cases r3 with
    | lst n ha s =>
      refine ⟨_, _, rfl, SqL.of ha, fun q hq => ?_⟩
      obtain ⟨k4, d4⟩ := I3.new (o := .lst (cutV _ l u)) hq
      refine k q _ _ ?_ (((k1.trans k2).trans k3).trans k4) d4 upd_same ((Reps.fresh hq _ (cut_rep l u s)).mon (fun a o n e => upd_new hq a o e) fun _ z => z)
      exact newAt I3 ((k1.trans k2).trans k3) hq
  | _ => cases h6⟩)

end
end VE

namespace VE
open PySem PySem.Spec L2
open PyProof.Rows hiding St
section
variable {X : Cx} {m : Bool} {e a b c : Expr} {rest es : List Expr} {ta tb tc : TE} {tas : TA} {tA tB' : TT} {f h k : EF} {fs : AF} {fA fB : TF} {pos : Pos} {K : PySem.W.Frag}
/-! ### calls of built-ins -/
def CalV (K : PySem.W.Frag) (r : List V → Hp → VK → Prop) (F : List PyData → Option PyData) : Prop :=
  ∀ (T : Addr → Prop) (H : Hp) (vs : List V) (xs : List PyData) (z : PyData) (Q : VK), (∀ a, T a → H a ≠ none) → Reps K T H vs xs → F xs = some z → (∀ t H', Same H H' → Rep K T H' t z → Q t H') → r vs H Q
theorem vw_callB {r : List V → Hp → VK → Prop} {F : List PyData → Option PyData} (ho : CalV K r F) (p : VwA K m tas fs) : VwE K m (tCB r tas) (xCall F fs) := fun g env w σ H Q x w' hK I hf k => by
  obtain ⟨ys, w1, h1, h2⟩ := bind_some.mp hf
  obtain ⟨e1, rfl⟩ := lift_get h2
  refine p _ env w σ H _ ys _ hK I h1 fun vs H1 k1 d1 r1 => ?_
  have I1 := I.step k1 d1
  exact ho _ H1 vs ys x Q (fun a t => I1.avLive t) r1 e1 fun t H' s r2 => k t H' (k1.trans (Keep.of_same s)) (I1.same s) r2
theorem pv_callB {x : Str} {id : String} {p : Pos} {r : List V → Hp → VK → Prop} {F : List PyData → Option PyData} (hc : CallR X (.builtin id) r) (ho : CalV X.K r F) (hg : Gl X x) (hm : X.mg x = none) (hv : bootBuiltins x = some (.builtin id)) (ha : PAV X m (e :: es) tas fs) (hn : x ≠ "__name__") (hdb : (x == ("__debug__" : Str)) = false)
    (he : starEach (e :: es) X.env = (false, eval e X.env) :: starEach es X.env) (hpl : (backTo pos (starEach es X.env)).any (·.1) = false) : PV X m (.Call (.Name x p) (e :: es) [] pos) (tCB r tas) (xCall F fs) :=
  ⟨pe_callB hc hg hm hv ha.pe hn hdb he hpl, vw_callB ho ha.vw⟩
theorem pv_callTy {x : Str} {id : String} {p : Pos} {r : List V → Hp → VK → Prop} {F : List PyData → Option PyData} (hc : CallR X (.type id) r) (ho : CalV X.K r F) (hg : Gl X x) (hm : X.mg x = none) (hv : bootBuiltins x = some (.type id)) (ha : PAV X m (e :: es) tas fs) (hn : x ≠ "__name__") (hdb : (x == ("__debug__" : Str)) = false)
    (he : starEach (e :: es) X.env = (false, eval e X.env) :: starEach es X.env) (hpl : (backTo pos (starEach es X.env)).any (·.1) = false) : PV X m (.Call (.Name x p) (e :: es) [] pos) (tCB r tas) (xCall F fs) :=
  ⟨pe_callTy hc hg hm hv ha.pe hn hdb he hpl, vw_callB ho ha.vw⟩
theorem reps1 {T : Addr → Prop} {H : Hp} {vs : List V} {x : PyData} (r : Reps K T H vs [x]) : ∃ v, vs = [v] ∧ Rep K T H v x := by
  cases r with
  | cons r1 r2 => cases r2; exact ⟨_, rfl, r1⟩
theorem reps2 {T : Addr → Prop} {H : Hp} {vs : List V} {x y : PyData} (r : Reps K T H vs [x, y]) : ∃ v u, vs = [v, u] ∧ Rep K T H v x ∧ Rep K T H u y := by
  cases r with
  | cons r1 r2 =>
    cases r2 with
    | cons r2 r3 => cases r3; exact ⟨_, _, rfl, r1, r2⟩
theorem cv_len : CalV K (fun xs H Q => ∃ x n, xs = [x] ∧ LenV K x H n ∧ Q (.int n) H) fLen := fun T H vs xs z Q lv r e q => by
  unfold fLen at e
  split at e
  · obtain ⟨v, rfl, r'⟩ := reps1 r
    cases e
    cases r' with
    | lst n a s => exact ⟨_, _, rfl, .inl ⟨_, SqL.of a, rfl⟩, q _ H (Same.refl H) (by rw [s.length]; exact .int _)⟩
  · obtain ⟨v, rfl, r'⟩ := reps1 r
    cases e
    cases r' with
    | tup a s => exact ⟨_, _, rfl, .inr ⟨_, a.sq, rfl⟩, q _ H (Same.refl H) (by rw [s.length]; exact .int _)⟩
  · cases e
theorem cv_sum : CalV K (rSum K) fSum := fun T H vs xs z Q lv r e q => by
  unfold fSum at e
  split at e
  · obtain ⟨v, rfl, r'⟩ := reps1 r
    cases r' with
    | lst n a s =>
      obtain ⟨ns, e1, e2⟩ := Option.map_eq_some_iff.mp e
      subst e2
      obtain ⟨e3, e4⟩ := s.of_ints e1
      subst e3
      exact ⟨_, ns, rfl, SqL.of a, q _ H (Same.refl H) (.int _)⟩
  · cases e
theorem maxI_spec : ∀ (r : List Int) (a : Int), maxI a r ∈ a :: r ∧ ∀ y ∈ a :: r, y ≤ maxI a r
  | [], a => ⟨List.mem_cons_self, fun y hy => by simp at hy; subst hy; exact Int.le_refl _⟩
  | x :: r, a => by
    have e : maxI a (x :: r) = maxI (if a < x then x else a) r := rfl
    rw [e]
    obtain ⟨h1, h2⟩ := maxI_spec r (if a < x then x else a)
    constructor
    · rcases List.mem_cons.mp h1 with h | h
      · rw [h]; split <;> simp
      · exact List.mem_cons_of_mem _ (List.mem_cons_of_mem _ h)
    · intro y hy
      have h3 := h2 (if a < x then x else a) List.mem_cons_self
      rcases List.mem_cons.mp hy with h | h
      · subst h
        refine Int.le_trans ?_ h3
        split <;> omega
      · rcases List.mem_cons.mp h with h | h
        · subst h
          refine Int.le_trans ?_ h3
          split <;> omega
        · exact h2 y (List.mem_cons_of_mem _ h)
theorem minI_spec : ∀ (r : List Int) (a : Int), minI a r ∈ a :: r ∧ ∀ y ∈ a :: r, minI a r ≤ y
  | [], a => ⟨List.mem_cons_self, fun y hy => by simp at hy; subst hy; exact Int.le_refl _⟩
  | x :: r, a => by
    have e : minI a (x :: r) = minI (if x < a then x else a) r := rfl
    rw [e]
    obtain ⟨h1, h2⟩ := minI_spec r (if x < a then x else a)
    constructor
    · rcases List.mem_cons.mp h1 with h | h
      · rw [h]; split <;> simp
      · exact List.mem_cons_of_mem _ (List.mem_cons_of_mem _ h)
    · intro y hy
      have h3 := h2 (if x < a then x else a) List.mem_cons_self
      rcases List.mem_cons.mp hy with h | h
      · subst h
        refine Int.le_trans h3 ?_
        split <;> omega
      · rcases List.mem_cons.mp h with h | h
        · subst h
          refine Int.le_trans h3 ?_
          split <;> omega
        · exact h2 y (List.mem_cons_of_mem _ h)
theorem cv_max : CalV K (fun xs H Q => (∃ i j, xs = [.int i, .int j] ∧ Q (.int (if j > i then j else i)) H) ∨ rMax K xs H Q) fMax := fun T H vs xs z Q lv r e q => by
  unfold fMax at e
  split at e
  · obtain ⟨v, rfl, r'⟩ := reps1 r
    cases r' with
    | lst n a s =>
      obtain ⟨ns, e1, e2⟩ := Option.bind_eq_some_iff.mp e
      obtain ⟨e3, e4⟩ := s.of_ints e1
      subst e3
      cases ns with
      | nil => cases e2
      | cons b t =>
        cases e2
        refine .inr ⟨_, _, rfl, SqL.of a, Nat.succ_pos _, fun m hm hb => ?_⟩
        obtain ⟨h1, h2⟩ := maxI_spec t b
        have em : m = maxI b t := Int.le_antisymm (h2 m hm) (hb _ h1)
        rw [em]
        exact q _ H (Same.refl H) (.int _)
  · obtain ⟨v, u, rfl, r1, r2⟩ := reps2 r
    cases e
    cases r1; cases r2
    exact .inl ⟨_, _, rfl, q _ H (Same.refl H) (.int _)⟩
  · cases e
theorem cv_min : CalV K (fun xs H Q => (∃ i j, xs = [.int i, .int j] ∧ Q (.int (if j < i then j else i)) H) ∨ rMin K xs H Q) fMin := fun T H vs xs z Q lv r e q => by
  unfold fMin at e
  split at e
  · obtain ⟨v, rfl, r'⟩ := reps1 r
    cases r' with
    | lst n a s =>
      obtain ⟨ns, e1, e2⟩ := Option.bind_eq_some_iff.mp e
      obtain ⟨e3, e4⟩ := s.of_ints e1
      subst e3
      cases ns with
      | nil => cases e2
      | cons b t =>
        cases e2
        refine .inr ⟨_, _, rfl, SqL.of a, Nat.succ_pos _, fun m hm hb => ?_⟩
        obtain ⟨h1, h2⟩ := minI_spec t b
        have em : m = minI b t := Int.le_antisymm (hb _ h1) (h2 m hm)
        rw [em]
        exact q _ H (Same.refl H) (.int _)
  · obtain ⟨v, u, rfl, r1, r2⟩ := reps2 r
    cases e
    cases r1; cases r2
    exact .inl ⟨_, _, rfl, q _ H (Same.refl H) (.int _)⟩
  · cases e
theorem cv_any : CalV K (rAny K) fAny := fun T H vs xs z Q lv r e q => by
  unfold fAny at e
  split at e
  · obtain ⟨v, rfl, r'⟩ := reps1 r
    cases r' with
    | lst n a s =>
      obtain ⟨ns, e1, e2⟩ := Option.map_eq_some_iff.mp e
      subst e2
      obtain ⟨e3, e4⟩ := s.of_bools e1
      subst e3
      exact ⟨_, ns, rfl, SqL.of a, q _ H (Same.refl H) (.bl _)⟩
  · cases e
theorem cv_all : CalV K (rAll K) fAll := fun T H vs xs z Q lv r e q => by
  unfold fAll at e
  split at e
  · obtain ⟨v, rfl, r'⟩ := reps1 r
    cases r' with
    | lst n a s =>
      obtain ⟨ns, e1, e2⟩ := Option.map_eq_some_iff.mp e
      subst e2
      obtain ⟨e3, e4⟩ := s.of_bools e1
      subst e3
      exact ⟨_, ns, rfl, SqL.of a, q _ H (Same.refl H) (.bl _)⟩
  · cases e
theorem cv_abs : CalV K (fun xs H Q => ∃ i, xs = [.int i] ∧ Q (.int (if i < 0 then -i else i)) H) fAbs := fun T H vs xs z Q lv r e q => by
  unfold fAbs at e
  split at e
  · obtain ⟨v, rfl, r'⟩ := reps1 r
    cases e
    cases r'
    exact ⟨_, rfl, q _ H (Same.refl H) (.int _)⟩
  · cases e
theorem cv_int : CalV K (fun xs H Q => (∃ i, xs = [.int i] ∧ Q (.int i) H) ∨ ∃ k, xs = [.bl k] ∧ Q (.int (if k then 1 else 0)) H) fInt := fun T H vs xs z Q lv r e q => by
  unfold fInt at e
  split at e
  · obtain ⟨v, rfl, r'⟩ := reps1 r
    cases e
    cases r'
    exact .inl ⟨_, rfl, q _ H (Same.refl H) (.int _)⟩
  · obtain ⟨v, rfl, r'⟩ := reps1 r
    cases e
    cases r'
    exact .inr ⟨_, rfl, q _ H (Same.refl H) (.int _)⟩
  · cases e
theorem pv_len {p : Pos} {KK : PySem.W.Frag} (hKK : X.K = KK) (hm : X.mg "len" = none) (ha : PAV X m (e :: es) tas fs) (hg : Gl X "len") (he : starEach (e :: es) X.env = (false, eval e X.env) :: starEach es X.env) (hpl : (backTo pos (starEach es X.env)).any (·.1) = false) :
    PV X m (.Call (.Name "len" p) (e :: es) [] pos) (tCB (fun xs H Q => ∃ x n, xs = [x] ∧ LenV KK x H n ∧ Q (.int n) H) tas) (xCall fLen fs) := by
  subst hKK
  exact (show
    PV X m (.Call (.Name "len" p) (e :: es) [] pos) (tCB (fun xs H Q => ∃ x n, xs = [x] ∧ LenV X.K x H n ∧ Q (.int n) H) tas) (xCall fLen fs) from
  pv_callB call_len cv_len hg hm PySem.boot_len ha (by decide) (by decide) he hpl)

theorem pv_sum {p : Pos} {KK : PySem.W.Frag} (hKK : X.K = KK) (hc : X.calm = true) (hm : X.mg "sum" = none) (ha : PAV X m (e :: es) tas fs) (hg : Gl X "sum") (he : starEach (e :: es) X.env = (false, eval e X.env) :: starEach es X.env) (hpl : (backTo pos (starEach es X.env)).any (·.1) = false) :
    PV X m (.Call (.Name "sum" p) (e :: es) [] pos) (tCB (rSum KK) tas) (xCall fSum fs) := by
  subst hKK
  exact (show
    PV X m (.Call (.Name "sum" p) (e :: es) [] pos) (tCB (rSum X.K) tas) (xCall fSum fs) from
  pv_callB (cr_sum hc) cv_sum hg hm (by decide +kernel) ha (by decide) (by decide) he hpl)

theorem pv_max {p : Pos} {KK : PySem.W.Frag} (hKK : X.K = KK) (hc : X.calm = true) (hm : X.mg "max" = none) (ha : PAV X m (e :: es) tas fs) (hg : Gl X "max") (he : starEach (e :: es) X.env = (false, eval e X.env) :: starEach es X.env) (hpl : (backTo pos (starEach es X.env)).any (·.1) = false) :
    PV X m (.Call (.Name "max" p) (e :: es) [] pos) (tCB (fun xs H Q => (∃ i j, xs = [.int i, .int j] ∧ Q (.int (if j > i then j else i)) H) ∨ rMax KK xs H Q) tas) (xCall fMax fs) := by
  subst hKK
  exact (show
    PV X m (.Call (.Name "max" p) (e :: es) [] pos) (tCB (fun xs H Q => (∃ i j, xs = [.int i, .int j] ∧ Q (.int (if j > i then j else i)) H) ∨ rMax X.K xs H Q) tas) (xCall fMax fs) from
  pv_callB ((call_max2 hc).or (cr_max hc)) cv_max hg hm (by decide +kernel) ha (by decide) (by decide) he hpl)

theorem pv_min {p : Pos} {KK : PySem.W.Frag} (hKK : X.K = KK) (hc : X.calm = true) (hm : X.mg "min" = none) (ha : PAV X m (e :: es) tas fs) (hg : Gl X "min") (he : starEach (e :: es) X.env = (false, eval e X.env) :: starEach es X.env) (hpl : (backTo pos (starEach es X.env)).any (·.1) = false) :
    PV X m (.Call (.Name "min" p) (e :: es) [] pos) (tCB (fun xs H Q => (∃ i j, xs = [.int i, .int j] ∧ Q (.int (if j < i then j else i)) H) ∨ rMin KK xs H Q) tas) (xCall fMin fs) := by
  subst hKK
  exact (show
    PV X m (.Call (.Name "min" p) (e :: es) [] pos) (tCB (fun xs H Q => (∃ i j, xs = [.int i, .int j] ∧ Q (.int (if j < i then j else i)) H) ∨ rMin X.K xs H Q) tas) (xCall fMin fs) from
  pv_callB ((call_min2 hc).or (cr_min hc)) cv_min hg hm (by decide +kernel) ha (by decide) (by decide) he hpl)

theorem pv_any {p : Pos} {KK : PySem.W.Frag} (hKK : X.K = KK) (hc : X.calm = true) (hm : X.mg "any" = none) (ha : PAV X m (e :: es) tas fs) (hg : Gl X "any") (he : starEach (e :: es) X.env = (false, eval e X.env) :: starEach es X.env) (hpl : (backTo pos (starEach es X.env)).any (·.1) = false) :
    PV X m (.Call (.Name "any" p) (e :: es) [] pos) (tCB (rAny KK) tas) (xCall fAny fs) := by
  subst hKK
  exact (show
    PV X m (.Call (.Name "any" p) (e :: es) [] pos) (tCB (rAny X.K) tas) (xCall fAny fs) from
  pv_callB (cr_any hc) cv_any hg hm (by decide +kernel) ha (by decide) (by decide) he hpl)

theorem pv_all {p : Pos} {KK : PySem.W.Frag} (hKK : X.K = KK) (hc : X.calm = true) (hm : X.mg "all" = none) (ha : PAV X m (e :: es) tas fs) (hg : Gl X "all") (he : starEach (e :: es) X.env = (false, eval e X.env) :: starEach es X.env) (hpl : (backTo pos (starEach es X.env)).any (·.1) = false) :
    PV X m (.Call (.Name "all" p) (e :: es) [] pos) (tCB (rAll KK) tas) (xCall fAll fs) := by
  subst hKK
  exact (show
    PV X m (.Call (.Name "all" p) (e :: es) [] pos) (tCB (rAll X.K) tas) (xCall fAll fs) from
  pv_callB (cr_all hc) cv_all hg hm (by decide +kernel) ha (by decide) (by decide) he hpl)

theorem pv_abs {p : Pos} (hm : X.mg "abs" = none) (ha : PAV X m (e :: es) tas fs) (hg : Gl X "abs") (he : starEach (e :: es) X.env = (false, eval e X.env) :: starEach es X.env) (hpl : (backTo pos (starEach es X.env)).any (·.1) = false) :
    PV X m (.Call (.Name "abs" p) (e :: es) [] pos) (tCB (fun xs H Q => ∃ i, xs = [.int i] ∧ Q (.int (if i < 0 then -i else i)) H) tas) (xCall fAbs fs) :=
  pv_callB call_abs cv_abs hg hm (by decide +kernel) ha (by decide) (by decide) he hpl
theorem pv_intOf {p : Pos} (hm : X.mg "int" = none) (ha : PAV X m (e :: es) tas fs) (hg : Gl X "int") (he : starEach (e :: es) X.env = (false, eval e X.env) :: starEach es X.env) (hpl : (backTo pos (starEach es X.env)).any (·.1) = false) :
    PV X m (.Call (.Name "int" p) (e :: es) [] pos) (tCB (fun xs H Q => (∃ i, xs = [.int i] ∧ Q (.int i) H) ∨ ∃ k, xs = [.bl k] ∧ Q (.int (if k then 1 else 0)) H) tas) (xCall fInt fs) :=
  pv_callTy call_int1 cv_int hg hm (by decide +kernel) ha (by decide) (by decide) he hpl

/-! ### new lists from built-ins -/
def CalL (K : PySem.W.Frag) (r : List V → Hp → VK → Prop) (F : PyData → Option (List PyData)) : Prop :=
  ∀ (T : Addr → Prop) (H : Hp) (v : V) (x : PyData) (zs : List PyData) (Q : VK), Rep K T H v x → F x = some zs → (∀ p vs, H p = none → Reps K T H vs zs → Q (.ref p) (upd H p (.lst vs))) → r [v] H Q
theorem vw_callL {r : List V → Hp → VK → Prop} {F : PyData → Option (List PyData)} (ho : CalL K r F) (p : VwE K m ta f) : VwL K m (tCB r (tCons ta tNil)) (fun env => do let x ← f env; lift (F x)) := fun g env w σ H Q x w' hK I hf k => by
  obtain ⟨y, w1, h1, h2⟩ := bind_some.mp hf
  obtain ⟨e1, rfl⟩ := lift_get h2
  refine p _ env w σ H _ y _ hK I h1 fun v H1 k1 d1 r1 => ?_
  have I1 := I.step k1 d1
  refine ho _ H1 v y x Q r1 e1 fun q vs hq r2 => ?_
  obtain ⟨k2, d2⟩ := I1.new (o := .lst vs) hq
  refine k q vs _ ?_ (k1.trans k2) d2 upd_same ((Reps.fresh hq _ r2).mon (fun a o n e => upd_new hq a o e) fun _ z => z)
  exact newAt I1 k1 hq
theorem cl_list : CalL K (fun xs H Q => ∃ p ys, xs = [.ref p] ∧ (SqL K H p ys ∨ SqT K H p ys) ∧ ∀ l, H l = none → Q (.ref l) (upd H l (.lst ys))) fList := fun T H v x zs Q r e q => by
  cases r with
  | lst n a s => cases e; exact ⟨_, _, rfl, .inl (SqL.of a), fun l hl => q l _ hl s⟩
  | tup a s => cases e; exact ⟨_, _, rfl, .inr a.sq, fun l hl => q l _ hl s⟩
  | _ => cases e
theorem plv_list {p : Pos} {KK : PySem.W.Frag} (hKK : X.K = KK) (hm : X.mg "list" = none) (q : PV X m e ta f) (hg : Gl X "list") (hst : starEach [e] X.env = (false, eval e X.env) :: starEach [] X.env) (hpl : (backTo pos (starEach [] X.env)).any (·.1) = false) :
    PLV X m (.Call (.Name "list" p) [e] [] pos) (tCB (fun xs H Q => ∃ p ys, xs = [.ref p] ∧ (SqL KK H p ys ∨ SqT KK H p ys) ∧ ∀ l, H l = none → Q (.ref l) (upd H l (.lst ys))) (tCons ta tNil)) (xList f) := by
  subst hKK
  exact (show
    PLV X m (.Call (.Name "list" p) [e] [] pos) (tCB (fun xs H Q => ∃ p ys, xs = [.ref p] ∧ (SqL X.K H p ys ∨ SqT X.K H p ys) ∧ ∀ l, H l = none → Q (.ref l) (upd H l (.lst ys))) (tCons ta tNil)) (xList f) from
  ⟨pe_callTy call_list_of hg hm (by decide +kernel) (pa_cons q.pe pa_nil hst) (by decide) (by decide) hst hpl, vw_callL cl_list q.vw⟩)

theorem insI_perm (x : Int) : ∀ xs : List Int, (insI x xs).Perm (x :: xs)
  | [] => .refl _
  | y :: r => by
    unfold insI
    split
    · exact .refl _
    · exact ((insI_perm x r).cons y).trans (.swap x y r)
theorem insI_sorted (x : Int) : ∀ xs : List Int, xs.Pairwise (· ≤ ·) → (insI x xs).Pairwise (· ≤ ·)
  | [], _ => by simp [insI]
  | y :: r, h => by
    unfold insI
    rw [List.pairwise_cons] at h
    split
    · rename_i hc
      rw [List.pairwise_cons]
      refine ⟨fun z hz => ?_, List.pairwise_cons.mpr h⟩
      rcases List.mem_cons.mp hz with e | e
      · subst e; exact hc
      · exact Int.le_trans hc (h.1 z e)
    · rename_i hc
      rw [List.pairwise_cons]
      refine ⟨fun z hz => ?_, insI_sorted x r h.2⟩
      have := (insI_perm x r).mem_iff.mp hz
      rcases List.mem_cons.mp this with e | e
      · subst e; omega
      · exact h.1 z e
theorem sortI_perm : ∀ xs : List Int, (sortI xs).Perm xs
  | [] => .refl _
  | x :: r => (insI_perm x _).trans ((sortI_perm r).cons x)
theorem sortI_sorted : ∀ xs : List Int, (sortI xs).Pairwise (· ≤ ·)
  | [] => .nil
  | x :: r => insI_sorted x _ (sortI_sorted r)
theorem sorted_unique : ∀ {xs ys : List Int}, xs.Perm ys → xs.Pairwise (· ≤ ·) → ys.Pairwise (· ≤ ·) → xs = ys := fun {xs ys} p h1 h2 =>
  p.eq_of_pairwise (fun a b _ _ h3 h4 => Int.le_antisymm h3 h4) h1 h2
theorem cl_sorted : CalL K (rSortedI K) fSorted := fun T H v x zs Q r e q => by
  cases r with
  | lst n a s =>
    obtain ⟨ns, e1, e2⟩ := Option.bind_eq_some_iff.mp e
    obtain ⟨e3, e4⟩ := s.of_ints e1
    subst e3
    split at e2
    · cases e2
      refine ⟨_, ns, rfl, SqL.of a, fun ns' p h1 h2 hp => ?_⟩
      have e5 : ns' = sortI ns := sorted_unique (h1.trans (sortI_perm ns).symm) h2 (sortI_sorted ns)
      rw [e5]
      exact q p _ hp (Reps.ints_map _)
    · cases e2
  | _ => cases e
theorem plv_sorted {p : Pos} {KK : PySem.W.Frag} (hKK : X.K = KK) (hm : X.mg "sorted" = none) (q : PV X m e ta f) (hg : Gl X "sorted") (hst : starEach [e] X.env = (false, eval e X.env) :: starEach [] X.env) (hpl : (backTo pos (starEach [] X.env)).any (·.1) = false) :
    PLV X m (.Call (.Name "sorted" p) [e] [] pos) (tCB (rSortedI KK) (tCons ta tNil)) (xSorted f) := by
  subst hKK
  exact (show
    PLV X m (.Call (.Name "sorted" p) [e] [] pos) (tCB (rSortedI X.K) (tCons ta tNil)) (xSorted f) from
  ⟨pe_callB cr_sortedI hg hm (by decide +kernel) (pa_cons q.pe pa_nil hst) (by decide) (by decide) hst hpl, vw_callL cl_sorted q.vw⟩)

/-! ### methods -/
theorem pv_index {apos : Pos} {KK : PySem.W.Frag} (hKK : X.K = KK) (p : PV X m a ta f) (q : PAV X m [b] tas fs)
    (hbase : attributeBase a "index" X.env (eval a X.env) = eval a X.env)
    (hfew : ((backTo pos (starEach [b] X.env)).all (fun x => !x.1) && (backToKw pos (keywordEach [] X.env)).all (fun x => x.1.isSome)
      && decide ([b].length + ([] : List Keyword).length + (if ([] : List Keyword).isEmpty then 0 else 1) < 30)) = true)
    (hline : (apos.endLine == pos.line) = true) (hs : starEach [b] X.env = (false, eval b X.env) :: starEach [] X.env) (hplain : (backTo pos (starEach [] X.env)).any (·.1) = false) :
    PV X m (.Call (.Attribute a "index" apos) [b] [] pos) (tBM KK "list" (rIndex KK) ta tas) (xMeth fIndex f fs) := by
  subst hKK
  exact (show
    PV X m (.Call (.Attribute a "index" apos) [b] [] pos) (tBM X.K "list" (rIndex X.K) ta tas) (xMeth fIndex f fs) from  ⟨pe_bm PySem.F.plainAttrs_list PySem.F.slot_list_index PySem.F.type_list_index mt_index p.pe q.pe hbase hfew hline hs hplain, fun g env w σ H Q x w' hK I hf k => by
  obtain ⟨y, w1, h1, h2⟩ := bind_some.mp hf
  obtain ⟨ys, w2, h3, h4⟩ := bind_some.mp h2
  obtain ⟨e1, rfl⟩ := lift_get h4
  refine p.vw _ env w σ H _ y _ hK I h1 fun v H1 k1 d1 r1 => ?_
  unfold fIndex at e1
  split at e1
  · rename_i xs y2
    split at e1
    · rename_i hc
      rw [Bool.and_eq_true] at hc
      obtain ⟨j, e2, e3⟩ := Option.map_eq_some_iff.mp e1
      subst e3
      have ty : tyV X.K "list" v H1 := by
        cases r1 with
        | lst n a s => exact .inl ⟨rfl, _, SqL.of a⟩
      refine ⟨ty, ?_⟩
      refine q.vw _ env _ σ H1 _ _ _ hK (I.step k1 d1) h3 fun vs H2 k2 d2 r2 => ?_
      have r1 := r1.keep k2
      obtain ⟨u, rfl, r2'⟩ := reps1 r2
      cases r1 with
      | lst n a s =>
        obtain ⟨hj, e4, e5⟩ := List.findIdx?_eq_some_iff_getElem.mp e2
        obtain ⟨z, e6, r6⟩ := s.get (List.getElem?_eq_getElem hj)
        refine ⟨_, _, u, j, z, rfl, rfl, SqL.of a, flat_rep r2' hc.1, flats_rep s hc.2, e6, ?_, fun mm z' hm hz => ?_, k _ H2 (k1.trans k2) d2 (.int _)⟩
        · rw [eqv_rep r6 r2' (List.all_eq_true.mp hc.2 _ (List.getElem_mem hj)) hc.1]
          exact e4
        · obtain ⟨z2, e7, r7⟩ := s.get (List.getElem?_eq_getElem (Nat.lt_trans hm hj))
          rw [e7] at hz
          cases hz
          rw [eqv_rep r7 r2' (List.all_eq_true.mp hc.2 _ (List.getElem_mem _)) hc.1]
          exact Bool.eq_false_iff.mpr (e5 mm hm)
    · cases e1
  · cases e1⟩)

/-! ### calls of the program's own defs -/
/-- a def's promise: called with values xs it hands back what F says, and all that stood stands -/
def vsp (K : PySem.W.Frag) (F : List PyData → Option PyData) : Sp := fun vs H Q _ => ∃ (T : Addr → Prop) (xs : List PyData) (y : PyData), (∀ a, T a → H a ≠ none) ∧ Reps K T H vs xs ∧ F xs = some y ∧
  ∀ v H', Same H H' → Rep K T H' v y → Q v H'
structure Cal (P : Program) (w : World) (K : PySem.W.Frag) (mg : Str → Option Value) (base : Heap) (x : Str) (k : Nat) (F : List PyData → Option PyData) : Prop where
  ex : ∃ (f : Addr) (fd : FuncData) (ps : List Str), FnOk P w K mg base CX0 k f fd ps (vsp K F) ∧ mg x = some (.ref f) ∧ PySem.W.keepIn K (.ref f) = true ∧ Binds K fd ps []
theorem pv_call {x : Str} {p : Pos} {n : Nat} {F : List PyData → Option PyData} {KK : PySem.W.Frag} (hKK : X.K = KK) (c : Cal X.prog X.w X.K X.mg X.base x n F) (hr : Room n X.A) (ha : PAV X m (e :: es) tas fs) (hg : Gl X x) (hdb : (x == ("__debug__" : Str)) = false)
    (he : starEach (e :: es) X.env = (false, eval e X.env) :: starEach es X.env) (hpl : (backTo pos (starEach es X.env)).any (·.1) = false) : PV X m (.Call (.Name x p) (e :: es) [] pos) (tCall (vsp KK F) [] E0 tas) (xCall F fs) := by
  subst hKK
  exact (show PV X m (.Call (.Name x p) (e :: es) [] pos) (tCall (vsp X.K F) [] E0 tas) (xCall F fs) from  by
  obtain ⟨fa, fd, ps, G, mgf, kp, bi⟩ := c.ex
  refine ⟨pe_call G hr hg mgf kp bi .nil pass0 ha.pe hdb he hpl, fun g env w σ H Q x w' hK I hf k => ?_⟩
  obtain ⟨ys, w1, h1, h2⟩ := bind_some.mp hf
  obtain ⟨e1, rfl⟩ := lift_get h2
  refine ha.vw _ env w σ H _ ys _ hK I h1 fun vs H1 k1 d1 r1 => ?_
  have I1 := I.step k1 d1
  rw [List.append_nil]
  exact ⟨av _ m env σ, ys, x, fun a t => I1.avLive t, r1, e1, fun v H' s r2 => k v H' (k1.trans (Keep.of_same s)) (I1.same s) r2⟩)

end
end VE

namespace VE
open PySem PySem.Spec L2
open PyProof.Rows hiding St
/-! ### what is walked -/
/-- an iterator that gives out xs, whatever happens to what A holds; the items lean on nothing of B -/
def Wk (K : PySem.W.Frag) (A B : Addr → Prop) (J : It) (xs : List PyData) (H1 : Hp) : Prop :=
  ∀ H2, KeepA A H1 H2 → (∀ (i : Nat) x, xs[i]? = some x → J.go i H2 ∧ ∀ v H3, J.yld i H2 v H3 → Same H2 H3 ∧ Rep K (fun a => B a ∨ (H1 a = none ∧ H2 a ≠ none)) H3 v x) ∧ J.stop xs.length H2
def VwI (K : PySem.W.Frag) (m : Bool) (wi : TI) (f : IF) : Prop :=
  ∀ (g : Gh K) (env : En) (w : W) (σ : SS) (H : Hp) (R : It → Hp → Prop) (xs : List PyData) (w' : W), True → StOk g env w σ H → f env w = some (xs, w') →
    (∀ {g' : Gh _} J H', Keep g g' H H' → g'.dr w' H' → Wk K (av g' m env σ) (av g' true env σ) J xs H' → R J H') → wi σ H R
structure PIV (X : Cx) (m : Bool) (tg iter : Expr) (wi : TI) (f : IF) : Prop where
  pe : PI X tg iter wi
  vw : VwI X.K m wi f
section
variable {X : Cx} {m : Bool} {e a b c tg : Expr} {es : List Expr} {ta : TE} {tas : TA} {f : EF} {fs : AF} {p pos : Pos} {K : PySem.W.Frag}
theorem reps_stay {A B : Addr → Prop} {H1 H2 : Hp} {vs : List V} {xs : List PyData} (ab : ∀ a, A a → B a) (k : KeepA A H1 H2) (r : Reps K B H1 vs xs) : Reps K (fun a => B a ∨ (H1 a = none ∧ H2 a ≠ none)) H2 vs xs :=
  (Reps.tracked xs r).mon (fun a o na ea => k.at_ a o (fun z => na (.inl (ab a z))) ea) fun a z => z.elim .inl fun q => .inr q.1
theorem wk_list {A B : Addr → Prop} {H1 : Hp} {p : Addr} {vs : List V} {xs : List PyData} (ab : ∀ a, A a → B a) (n : ¬ A p) (e : H1 p = some (.lst vs)) (r : Reps K B H1 vs xs) : Wk K A B (Itl K p) xs H1 := fun H2 k => by
  have e2 : H2 p = some (.lst vs) := k.at_ p _ n e
  have r2 := reps_stay ab k r
  refine ⟨fun i x hx => ?_, vs, SqL.of e2, by rw [r.length]; exact Nat.le_refl _⟩
  obtain ⟨v, hv, rv⟩ := r2.get hx
  refine ⟨⟨vs, v, SqL.of e2, hv⟩, fun u H3 y => ?_⟩
  obtain ⟨rfl, y⟩ := y
  have : u = v := Option.some.inj ((y vs (SqL.of e2)).symm.trans hv)
  subst this
  exact ⟨Same.refl _, rv⟩
theorem wk_tup {A B : Addr → Prop} {H1 : Hp} {p : Addr} {vs : List V} {xs : List PyData} (ab : ∀ a, A a → B a) (e : TupAt K A H1 p vs) (r : Reps K B H1 vs xs) : Wk K A B (Itt K p) xs H1 := fun H2 k => by
  have e2 : SqT K H2 p vs := (e.mono (fun a o n e => k.at_ a o n e) fun _ z => z).sq
  have r2 := reps_stay ab k r
  refine ⟨fun i x hx => ?_, vs, e2, by rw [r.length]; exact Nat.le_refl _⟩
  obtain ⟨v, hv, rv⟩ := r2.get hx
  refine ⟨⟨vs, v, e2, hv⟩, fun u H3 y => ?_⟩
  obtain ⟨rfl, y⟩ := y
  have : u = v := Option.some.inj ((y vs e2).symm.trans hv)
  subst this
  exact ⟨Same.refl _, rv⟩
theorem piv_list {KK : PySem.W.Frag} (hKK : X.K = KK) (q : PV X true e ta f) : PIV X m tg e (iList KK ta) (iLst f) := by
  subst hKK
  exact (show PIV X m tg e (iList X.K ta) (iLst f) from  ⟨pi_list q.pe, fun g env w σ H R xs w' hK I hf k => by
  obtain ⟨y, w1, h1, h2⟩ := bind_some.mp hf
  obtain ⟨e1, rfl⟩ := lift_get h2
  refine q.vw _ env w σ H _ y _ hK I h1 fun v H1 k1 d1 r1 => ?_
  cases r1 with
  | lst n e r => cases e1; exact ⟨_, rfl, ⟨_, SqL.of e⟩, k _ H1 k1 d1 (wk_list (fun _ => av_le) (fun z => n (av_le z)) e r)⟩
  | _ => cases e1⟩)

theorem piv_tup {KK : PySem.W.Frag} (hKK : X.K = KK) (q : PV X true e ta f) : PIV X m tg e (iTup KK ta) (iTupl f) := by
  subst hKK
  exact (show PIV X m tg e (iTup X.K ta) (iTupl f) from  ⟨pi_tup q.pe, fun g env w σ H R xs w' hK I hf k => by
  obtain ⟨y, w1, h1, h2⟩ := bind_some.mp hf
  obtain ⟨e1, rfl⟩ := lift_get h2
  refine q.vw _ env w σ H _ y _ hK I h1 fun v H1 k1 d1 r1 => ?_
  cases r1 with
  | tup e r => cases e1; exact ⟨_, rfl, ⟨_, e.sq⟩, k _ H1 k1 d1 (wk_tup (fun _ => av_le) (e.mono (fun _ _ _ e => e) fun _ => av_le) r)⟩
  | _ => cases e1⟩)

/-- over a list that the def may change, while it does not -/
theorem piv_own {i : Nat} {x : Str} {KK : PySem.W.Frag} (hKK : X.K = KK) (hN : X.N[i]? = some x) (hv : visB X.env.scope x = true) (hd : dunB x = true) : PIV X false tg (.Name x pos) (iList KK (tVar i)) (iOwn i) := by
  subst hKK
  exact (show PIV X false tg (.Name x pos) (iList X.K (tVar i)) (iOwn i) from  ⟨pi_list (pe_var hN (vis_of hv) (dun1 hd) (dun2 hd)), fun g env w σ H R xs w' hK I hf k => by
  unfold iOwn at hf
  cases e : env[i]? with
  | none => rw [e] at hf; cases hf
  | some s =>
    rw [e] at hf
    cases s with
    | ow b ys =>
      cases b with
      | true => cases hf
      | false =>
      obtain ⟨rfl, rfl⟩ := pure_get hf
      obtain ⟨a, vs, hv, ha, r, _, nt⟩ := I.owL i _ e
      have r : Reps X.K (av g true env σ) H vs ys := r
      exact ⟨_, hv, _, rfl, ⟨_, SqL.of ha⟩, k _ H (Keep.refl _ _) I.dr (wk_list (fun _ => av_le) (fun z => nt (av_false z)) ha r)⟩
    | _ => cases hf⟩)

theorem wk_range {A B : Addr → Prop} {H1 : Hp} (lo hi : Int) : Wk K A B (Itr lo (hi - lo).toNat) (rangeL lo hi) H1 := fun H2 k => by
  have hl : (rangeL lo hi).length = (hi - lo).toNat := by simp [rangeL]
  refine ⟨fun i x hx => ?_, by show (hi - lo).toNat ≤ _; rw [hl]; exact Nat.le_refl _⟩
  have hi' : i < (hi - lo).toNat := by
    have := (List.getElem?_eq_some_iff.mp hx).1
    rw [hl] at this
    exact this
  refine ⟨hi', fun v H3 y => ?_⟩
  obtain ⟨rfl, rfl⟩ := y
  have ex : x = .int (lo + (i : Int)) := by
    unfold rangeL at hx
    rw [List.getElem?_map, List.getElem?_range hi'] at hx
    exact (Option.some.inj hx).symm
  subst ex
  exact ⟨Same.refl _, .int _⟩
theorem small62_of {i : Int} (h : small62 i = true) : -(2 ^ 62) ≤ i ∧ i < 2 ^ 62 := by
  simpa only [small62, Bool.and_eq_true, decide_eq_true_eq] using h
theorem piv_range1 (hm : X.mg "range" = none) (q : PAV X false [a] tas fs) (hg : Gl X "range") (hs : starEach [a] X.env = [(false, eval a X.env)]) : PIV X m tg (.Call (.Name "range" p) [a] [] pos) (iRng1 tas) (iR1 fs) := ⟨pi_range1 hg hm q.pe hs, fun g env w σ H R xs w' hK I hf k => by
  obtain ⟨ys, w1, h1, h2⟩ := bind_some.mp hf
  refine q.vw _ env w σ H _ ys _ hK I h1 fun vs H1 k1 d1 r1 => ?_
  split at h2
  · rename_i j
    split at h2
    · rename_i hc
      obtain ⟨rfl, rfl⟩ := pure_get h2
      obtain ⟨v, rfl, r⟩ := reps1 r1
      cases r
      have hb := small62_of hc
      refine ⟨j, rfl, hb.1, hb.2, k _ H1 k1 d1 ?_⟩
      have hw : ∀ A B, Wk X.K A B (Itr 0 (j - 0).toNat) (rangeL 0 j) H1 := fun A B => wk_range 0 j
      rw [Int.sub_zero] at hw
      exact hw _ _
    · cases h2
  · cases h2⟩
theorem piv_range2 (hm : X.mg "range" = none) (q : PAV X false [a, b] tas fs) (hg : Gl X "range") (hs : starEach [a, b] X.env = [(false, eval a X.env), (false, eval b X.env)]) (hs2 : starEach [b] X.env = [(false, eval b X.env)]) : PIV X m tg (.Call (.Name "range" p) [a, b] [] pos) (iRng2 tas) (iR2 fs) := ⟨pi_range2 hg hm q.pe hs hs2, fun g env w σ H R xs w' hK I hf k => by
  obtain ⟨ys, w1, h1, h2⟩ := bind_some.mp hf
  refine q.vw _ env w σ H _ ys _ hK I h1 fun vs H1 k1 d1 r1 => ?_
  split at h2
  · rename_i i j
    split at h2
    · rename_i hc
      obtain ⟨rfl, rfl⟩ := pure_get h2
      obtain ⟨v, u, rfl, r, r'⟩ := reps2 r1
      cases r; cases r'
      rw [Bool.and_eq_true] at hc
      have hb := small62_of hc.1
      have hb2 := small62_of hc.2
      exact ⟨i, j, rfl, ⟨hb.1, hb.2, hb2.1, hb2.2⟩, k _ H1 k1 d1 (wk_range i j)⟩
    · cases h2
  · cases h2⟩
end

/-! ### targets -/
section
variable {K : PySem.W.Frag} {g : Gh K} {env : En} {w : W} {σ : SS} {H : Hp}
theorem set_get {α : Type} {l : List α} {i j : Nat} {s y : α} (h : (l.set i s)[j]? = some y) : (j = i ∧ y = s) ∨ (j ≠ i ∧ l[j]? = some y) := by
  by_cases e : j = i
  · subst e
    left
    by_cases hl : j < l.length
    · rw [List.getElem?_set_self hl] at h
      exact ⟨rfl, (Option.some.inj h).symm⟩
    · rw [List.getElem?_eq_none (by simpa using hl)] at h; cases h
  · right
    rw [List.getElem?_set_ne (Ne.symm e)] at h
    exact ⟨e, h⟩
theorem own_set_sh {i : Nat} {x : PyData} {v : V} {a : Addr} (h : ownA (env.set i (.sh x)) (σ.set i (some v)) a) : ownA env σ a := by
  obtain ⟨j, b, xs, h1, h2⟩ := h
  rcases set_get h1 with ⟨_, e⟩ | ⟨hj, h1⟩
  · cases e
  · rw [List.getElem?_set_ne (Ne.symm hj)] at h2
    exact ⟨j, b, xs, h1, h2⟩
theorem own_set_sh' {i : Nat} {x : PyData} {v : V} {a : Addr} (h : ownA env σ a) : ownA (env.set i (.sh x)) (σ.set i (some v)) a ∨ ∃ b xs, env[i]? = some (.ow b xs) := by
  obtain ⟨j, b, xs, h1, h2⟩ := h
  by_cases e : j = i
  · subst e; exact .inr ⟨b, xs, h1⟩
  · exact .inl ⟨j, b, xs, by rw [List.getElem?_set_ne (Ne.symm e)]; exact h1, by rw [List.getElem?_set_ne (Ne.symm e)]; exact h2⟩
theorem StOk.setSh (I : StOk g env w σ H) (i : Nat) {x : PyData} {v : V} (r : Rep K (av g true env σ) H v x) : StOk g (env.set i (.sh x)) w (σ.set i (some v)) H := by
  have av' : ∀ a, av g true (env.set i (.sh x)) (σ.set i (some v)) a → av g true env σ a := fun a h => h.elim .inl fun q => .inr ⟨rfl, own_set_sh q.2⟩
  refine ⟨by rw [List.length_set, List.length_set, I.len], fun j y h => ?_, fun j b ys h => ?_, fun j kk h => ?_, fun j ns h => ?_, fun j j2 b c ys zs a h1 h2 h3 h4 => ?_, I.live, I.keep, I.dr⟩
  · rcases set_get h with ⟨rfl, e⟩ | ⟨hj, h⟩
    · cases e
      have hl : j < σ.length := by
        rw [I.len]
        have := (List.getElem?_eq_some_iff.mp h).1
        simpa using this
      exact ⟨v, by rw [List.getElem?_set_self hl], r.mon (fun _ _ _ e => e) av'⟩
    · obtain ⟨u, e, q⟩ := I.sh j y h
      exact ⟨u, by rw [List.getElem?_set_ne (Ne.symm hj)]; exact e, q.mon (fun _ _ _ e => e) av'⟩
  · rcases set_get h with ⟨rfl, e⟩ | ⟨hj, h⟩
    · cases e
    · obtain ⟨a, vs, e, q, s, n, t⟩ := I.ow j b ys h
      exact ⟨a, vs, by rw [List.getElem?_set_ne (Ne.symm hj)]; exact e, q, s.mon (fun _ _ _ e => e) av', n, t⟩
  · rcases set_get h with ⟨rfl, e⟩ | ⟨hj, h⟩
    · cases e
    · rw [List.getElem?_set_ne (Ne.symm hj)]; exact I.st j kk h
  · rcases set_get h with ⟨rfl, e⟩ | ⟨hj, h⟩
    · cases e
    · obtain ⟨a, e, s⟩ := I.fz j ns h
      exact ⟨a, by rw [List.getElem?_set_ne (Ne.symm hj)]; exact e, s.mono (fun _ _ _ e => e) av'⟩
  · rcases set_get h1 with ⟨_, e⟩ | ⟨hj, h1⟩
    · cases e
    · rcases set_get h2 with ⟨_, e⟩ | ⟨hj2, h2⟩
      · cases e
      · rw [List.getElem?_set_ne (Ne.symm hj)] at h3
        rw [List.getElem?_set_ne (Ne.symm hj2)] at h4
        exact I.dist j j2 b c ys zs a h1 h2 h3 h4
/-- a slot that no longer counts -/
theorem StOk.setNo (I : StOk g env w σ H) (i : Nat) (o : Option V) (ho : ∀ b xs, env[i]? ≠ some (.ow b xs)) : StOk g (env.set i .no) w (σ.set i o) H := by
  have own' : ∀ a, ownA (env.set i .no) (σ.set i o) a → ownA env σ a := fun a ⟨j, b, xs, h1, h2⟩ => by
    rcases set_get h1 with ⟨_, e⟩ | ⟨hj, h1⟩
    · cases e
    · rw [List.getElem?_set_ne (Ne.symm hj)] at h2
      exact ⟨j, b, xs, h1, h2⟩
  have av' : ∀ a, av g true (env.set i .no) (σ.set i o) a → av g true env σ a := fun a h => h.elim .inl fun q => .inr ⟨rfl, own' a q.2⟩
  refine ⟨by rw [List.length_set, List.length_set, I.len], fun j y h => ?_, fun j b ys h => ?_, fun j kk h => ?_, fun j ns h => ?_, fun j j2 b c ys zs a h1 h2 h3 h4 => ?_, I.live, I.keep, I.dr⟩
  · rcases set_get h with ⟨rfl, e⟩ | ⟨hj, h⟩
    · cases e
    · obtain ⟨u, e, q⟩ := I.sh j y h
      exact ⟨u, by rw [List.getElem?_set_ne (Ne.symm hj)]; exact e, q.mon (fun _ _ _ e => e) av'⟩
  · rcases set_get h with ⟨rfl, e⟩ | ⟨hj, h⟩
    · cases e
    · obtain ⟨a, vs, e, q, s, n, t⟩ := I.ow j b ys h
      exact ⟨a, vs, by rw [List.getElem?_set_ne (Ne.symm hj)]; exact e, q, s.mon (fun _ _ _ e => e) av', n, t⟩
  · rcases set_get h with ⟨rfl, e⟩ | ⟨hj, h⟩
    · cases e
    · rw [List.getElem?_set_ne (Ne.symm hj)]; exact I.st j kk h
  · rcases set_get h with ⟨rfl, e⟩ | ⟨hj, h⟩
    · cases e
    · obtain ⟨a, e, s⟩ := I.fz j ns h
      exact ⟨a, by rw [List.getElem?_set_ne (Ne.symm hj)]; exact e, s.mono (fun _ _ _ e => e) av'⟩
  · rcases set_get h1 with ⟨_, e⟩ | ⟨hj, h1⟩
    · cases e
    · rcases set_get h2 with ⟨_, e⟩ | ⟨hj2, h2⟩
      · cases e
      · rw [List.getElem?_set_ne (Ne.symm hj)] at h3
        rw [List.getElem?_set_ne (Ne.symm hj2)] at h4
        exact I.dist j j2 b c ys zs a h1 h2 h3 h4
end
def VwG (K : PySem.W.Frag) (vs : List Nat) (t : TG) (f : GF) : Prop :=
  ∀ (g : Gh K) (env : En) (w : W) (σ : SS) (H : Hp) (v : V) (x : PyData) (env' : En) (Q : SS → Hp → Prop), True → StOk g env w σ H → Rep K (av g true env σ) H v x → f x env = some env' →
    (∀ σ', StOk g env' w σ' H → (∀ a, ownA env' σ' a → ownA env σ a) → (∀ j, j ∉ vs → env'[j]? = env[j]? ∧ σ'[j]? = σ[j]?) → env'.length = env.length → Q σ' H) → t v σ H Q
def VwGs (K : PySem.W.Frag) (vs : List Nat) (t : TGs) (f : GsF) : Prop :=
  ∀ (g : Gh K) (env : En) (w : W) (σ : SS) (H : Hp) (us : List V) (xs : List PyData) (env' : En) (Q : SS → Hp → Prop), True → StOk g env w σ H → Reps K (av g true env σ) H us xs → f xs env = some env' →
    (∀ σ', StOk g env' w σ' H → (∀ a, ownA env' σ' a → ownA env σ a) → (∀ j, j ∉ vs → env'[j]? = env[j]? ∧ σ'[j]? = σ[j]?) → env'.length = env.length → Q σ' H) → t us σ H Q
structure PGV (X : Cx) (tg : Expr) (vs : List Nat) (t : TG) (f : GF) : Prop where
  pe : PG X tg t
  vw : VwG X.K vs t f
structure PGsV (X : Cx) (tg : List Expr) (vs : List Nat) (t : TGs) (f : GsF) : Prop where
  pe : PGs X tg t
  vw : VwGs X.K vs t f
section
variable {X : Cx} {pos : Pos}
theorem vw_name {K : PySem.W.Frag} (i : Nat) : VwG K [i] (gName i) (gNm i) := fun g env w σ H v x env' Q hK I r hf k => by
  have r : Rep K (av g true env σ) H v x := r
  cases hf
  refine k _ (I.setSh i r) (fun a h => own_set_sh h) (fun j hj => ?_) (by rw [List.length_set])
  have hj' : i ≠ j := fun e => hj (by simp [e])
  exact ⟨List.getElem?_set_ne hj', List.getElem?_set_ne hj'⟩
theorem pgv_name {i : Nat} {x : Str} (hN : X.N.Nodup) (hi : X.N[i]? = some x) (hx : locB X.env.scope x = true) (hf : fnB X x = true) : PGV X (.Name x pos) [i] (gName i) (gNm i) :=
  ⟨pg_name hN hi (loc_of hx) (fn_of' hf), vw_name i⟩
theorem pgsv_nil : PGsV X [] [] gNil gsNil := ⟨pgs_nil, fun g env w σ H us xs env' Q hK I r hf k => by
  cases r with
  | nil => cases hf; exact ⟨rfl, k σ I (fun _ h => h) (fun _ _ => ⟨rfl, rfl⟩) rfl⟩
  | cons => cases hf⟩
theorem pgsv_cons {e : Expr} {es : List Expr} {t : TG} {u : TGs} {v1 v2 : List Nat} {f : GF} {fs : GsF} (p : PGV X e v1 t f) (q : PGsV X es v2 u fs)
    (hs : (assignEach (e :: es) X.env).map (·.2) = assign e X.env :: (assignEach es X.env).map (·.2)) : PGsV X (e :: es) (v1 ++ v2) (gCons t u) (gsCons f fs) := ⟨pgs_cons p.pe q.pe hs, fun g env w σ H us xs env' Q hK I r hf k => by
  cases r with
  | nil => cases hf
  | cons r1 r2 =>
    rename_i v vs x xs
    obtain ⟨env1, h1, h2⟩ := Option.bind_eq_some_iff.mp hf
    refine ⟨v, vs, rfl, p.vw _ env w σ H v x env1 _ hK I r1 h1 fun σ1 I1 o1 s1 l1 => ?_⟩
    refine q.vw g env1 w σ1 H vs xs env' Q hK I1 (r2.mon (fun _ _ _ e => e) fun a h => h.elim .inl fun z => .inr ⟨rfl, o1 a z.2⟩) h2 fun σ2 I2 o2 s2 l2 => ?_
    refine k σ2 I2 (fun a h => o1 a (o2 a h)) (fun j hj => ?_) (l2.trans l1)
    rw [List.mem_append, not_or] at hj
    exact ⟨(s2 j hj.2).1.trans (s1 j hj.1).1, (s2 j hj.2).2.trans (s1 j hj.1).2⟩⟩
theorem pgv_tup {es : List Expr} {k : Nat} {vs : List Nat} {t : TGs} {n : Nat} {fs : GsF} {KK : PySem.W.Frag} (hKK : X.K = KK) (hc : X.calm = true) (p : PGsV X es vs t fs)
    (hn : (assignEach es X.env).length = n) (hst : (assignEach es X.env).findIdx? (·.1) = none) : PGV X (.Tuple es k pos) vs (gTup KK n t) (gTp n fs) := by
  subst hKK
  exact (show PGV X (.Tuple es k pos) vs (gTup X.K n t) (gTp n fs) from  ⟨pg_tup hc p.pe hn hst, fun g env w σ H v x env' Q hK I r hf k => by
  cases r with
  | tup a s =>
    rename_i us xs
    have hf : (if xs.length = n then fs xs env else none) = some env' := hf
    split at hf
    · rename_i hl
      exact ⟨_, _, rfl, a.sq, by rw [s.length]; exact hl, p.vw _ env w σ H us xs env' Q hK I s hf k⟩
    · cases hf
  | _ => cases hf⟩)

end

/-! ### list comprehensions -/
theorem wipe_get (σ : SS) : ∀ (vs : List Nat) (j : Nat), j ∉ vs → (wipe σ vs)[j]? = σ[j]?
  | [], _, _ => rfl
  | v :: vs, j, h => by
    rw [List.mem_cons, not_or] at h
    show ((wipe σ vs).set v none)[j]? = _
    rw [List.getElem?_set_ne (Ne.symm h.1)]
    exact wipe_get σ vs j h.2
theorem wipe_in (σ : SS) : ∀ (vs : List Nat) (j : Nat), j ∈ vs → j < σ.length → (wipe σ vs)[j]? = some none
  | v :: vs, j, h, hl => by
    show ((wipe σ vs).set v none)[j]? = _
    by_cases e : v = j
    · subst e
      rw [List.getElem?_set_self (by rw [wipe_length]; exact hl)]
    · rw [List.getElem?_set_ne e]
      rcases List.mem_cons.mp h with h | h
      · exact absurd h.symm e
      · exact wipe_in σ vs j h hl
theorem wipe_same {σ σ' : SS} {vs : List Nat} (hl : σ'.length = σ.length) (h : ∀ j, j ∉ vs → σ'[j]? = (wipe σ vs)[j]?) : wipe σ' vs = wipe σ vs := by
  apply List.ext_getElem?
  intro j
  by_cases hj : j ∈ vs
  · by_cases hb : j < σ.length
    · rw [wipe_in σ' vs j hj (by omega), wipe_in σ vs j hj hb]
    · rw [List.getElem?_eq_none (by rw [wipe_length]; omega), List.getElem?_eq_none (by rw [wipe_length]; omega)]
  · rw [wipe_get σ' vs j hj]; exact h j hj
theorem wipeE_ok {K : PySem.W.Frag} {g : Gh K} {env : En} {w : W} {σ : SS} {H : Hp} (I : StOk g env w σ H) : ∀ (vs : List Nat) {env' : En}, wipeE env vs = some env' → StOk g env' w (wipe σ vs) H ∧ (∀ j, j ∉ vs → env'[j]? = env[j]?) ∧ (∀ j, j ∈ vs → ∀ b xs, env[j]? ≠ some (.ow b xs))
  | [], env', h => by cases h; exact ⟨I, fun _ _ => rfl, fun _ h => by simp at h⟩
  | v :: vs, env', h => by
    obtain ⟨e1, h1, h2⟩ := Option.bind_eq_some_iff.mp h
    obtain ⟨I1, s1, n1⟩ := wipeE_ok I vs h1
    have fin : ∀ s, e1[v]? = some s → (∀ b xs, s ≠ .ow b xs) → some (e1.set v .no) = some env' → StOk g env' w (wipe σ (v :: vs)) H ∧ (∀ j, j ∉ v :: vs → env'[j]? = env[j]?) ∧ (∀ j, j ∈ v :: vs → ∀ b xs, env[j]? ≠ some (.ow b xs)) := fun s hs hn he => by
      cases he
      refine ⟨I1.setNo v none (fun b xs z => ?_), fun j hj => ?_, fun j hj b xs z => ?_⟩
      · rw [hs] at z; exact hn b xs (Option.some.inj z)
      · rw [List.mem_cons, not_or] at hj
        rw [List.getElem?_set_ne (Ne.symm hj.1)]
        exact s1 j hj.2
      · by_cases hv : j ∈ vs
        · exact n1 j hv b xs z
        · have : j = v := (List.mem_cons.mp hj).resolve_right hv
          subst this
          rw [← s1 j hv, hs] at z
          exact hn b xs (Option.some.inj z)
    cases q : e1[v]? with
    | none => rw [q] at h2; cases h2
    | some s =>
      rw [q] at h2
      cases s with
      | ow b xs => cases h2
      | no => exact fin _ q (fun _ _ z => nomatch z) h2
      | sh x => exact fin _ q (fun _ _ z => nomatch z) h2
      | st k => exact fin _ q (fun _ _ z => nomatch z) h2
      | fz ns => exact fin _ q (fun _ _ z => nomatch z) h2
/-- one more address is not to be read -/
def Gh.but {K : PySem.W.Frag} (g : Gh K) (d : Addr) : Gh K := { g with T := fun a => g.T a ∨ a = d, zt := fun a h => .inl (g.zt a h) }
theorem StOk.but {K : PySem.W.Frag} {g : Gh K} {env : En} {w : W} {σ : SS} {H : Hp} {D : Addr} {vs : List V} (I : StOk g env w σ H) (hD : H D = none) : StOk (g.but D) env w σ (upd H D (.lst vs)) := by
  obtain ⟨k, d⟩ := I.new (o := .lst vs) hD
  have J := I.step k d
  have av' : ∀ a, av (g.but D) true env σ a → av g true env σ a ∨ a = D := fun a h => by
    rcases h with (h | h) | ⟨_, h⟩
    · exact .inl (.inl h)
    · exact .inr h
    · exact .inl (.inr ⟨rfl, h⟩)
  have ownD : ∀ a, ownA env σ a → a ≠ D := fun a h z => by subst z; exact I.owLive h hD
  refine ⟨J.len, fun i x h => ?_, fun i b xs h => ?_, J.st, fun i ns h => ?_, J.dist, fun a h => ?_, J.keep, J.dr⟩
  · obtain ⟨v, e, r⟩ := I.sh i x h
    exact ⟨v, e, (Rep.fresh hD x r).mon (fun a o n e => upd_new hD a o e) fun a z => av' a z⟩
  · obtain ⟨a, us, e, ⟨o, q, ho⟩, r, n, t⟩ := I.ow i b xs h
    refine ⟨a, us, e, ⟨o, upd_new hD a _ q, ho⟩, (Reps.fresh hD xs r).mon (fun a o n e => upd_new hD a o e) (fun a z => av' a z), n, fun z => ?_⟩
    rcases z with z | z
    · exact t z
    · subst z; rw [hD] at q; cases q
  · obtain ⟨a, e, s⟩ := I.fz i ns h
    exact ⟨a, e, (s.fresh hD).mono (fun a o n e => upd_new hD a o e) fun a z => av' a z⟩
  · rcases h with h | h
    · exact J.live a h
    · subst h; rw [upd_same]; simp

theorem Keep.but {K : PySem.W.Frag} {g : Gh K} {H : Hp} {D : Addr} {o : HO} (hD : H D = none) : Keep g (g.but D) H (upd H D o) :=
  ⟨fun a x _ e => upd_new hD a x e, (Keep.of_same (g := g) (upd_new hD)).live, fun _ t => .inl t, fun a t => t.imp_right fun e => by subst e; exact ⟨hD, by rw [upd_same]; simp⟩, fun _ z => z, fun _ z => .inl z, rfl, rfl, rfl, rfl⟩
/-- .. and is again -/
def Gh.bare {K : PySem.W.Frag} (g : Gh K) (d : Addr) (h : ¬ g.Z d) : Gh K := { g with T := fun a => g.T a ∧ a ≠ d, zt := fun a z => ⟨g.zt a z, fun e => h (e ▸ z)⟩ }
theorem StOk.updBut {K : PySem.W.Frag} {g : Gh K} {env : En} {w : W} {σ : SS} {H : Hp} {D : Addr} {o : HO} (I : StOk g env w σ H) (hT : g.T D) (hz : ¬ g.Z D) (h0 : g.H0 D = none) : StOk g env w σ (upd H D o) := by
  have k : ∀ a x, ¬ av g true env σ a → H a = some x → upd H D o a = some x := fun a x n e => by
    rw [upd_ne (show a ≠ D from fun z => n (.inl (z ▸ hT)))]; exact e
  refine ⟨I.len, fun i x h => ?_, fun i b xs h => ?_, I.st, fun i ns h => ?_, I.dist, fun a h => ?_, ⟨fun a x n e => ?_, fun a e => ?_⟩, ?_⟩
  · obtain ⟨v, e, r⟩ := I.sh i x h
    exact ⟨v, e, r.mon k fun _ z => z⟩
  · obtain ⟨a, us, e, ⟨o, q, ho⟩, r, n, t⟩ := I.ow i b xs h
    refine ⟨a, us, e, ⟨o, ?_, ho⟩, r.mon k (fun _ z => z), n, t⟩
    rw [upd_ne (show a ≠ D from fun z => t (z ▸ hT))]; exact q
  · obtain ⟨a, e, s⟩ := I.fz i ns h
    exact ⟨a, e, s.mono k fun _ z => z⟩
  · by_cases z : a = D
    · subst z; rw [upd_same]; simp
    · rw [upd_ne z]; exact I.live a h
  · have e' := I.keep.at_ a x n e
    by_cases z : a = D
    · subst z
      have : g.H0 a = some x := e
      rw [h0] at this; cases this
    · rw [upd_ne z]; exact e'
  · by_cases z : a = D
    · subst z; rw [upd_same]; simp
    · rw [upd_ne z]; exact I.keep.live a e
  · refine g.drk w H _ I.dr fun a z => ?_
    rw [upd_ne]
    intro e
    subst e
    exact hz z
theorem compL_len {g : GF} {t : TF} {f : EF} {env : En} : ∀ (xs : List PyData) {w w' : W} {ys : List PyData}, compL g t f env xs w = some (ys, w') → ys.length ≤ xs.length
  | [], w, w', ys, h => by
    obtain ⟨rfl, rfl⟩ := pure_get h
    exact Nat.le_refl _
  | x :: r, w, w', ys, h => by
    obtain ⟨e1, w1, h1, h2⟩ := bind_some.mp h
    obtain ⟨b, w2, h3, h4⟩ := bind_some.mp h2
    cases b with
    | true =>
      obtain ⟨y, w3, h5, h6⟩ := bind_some.mp h4
      obtain ⟨zs, w4, h7, h8⟩ := bind_some.mp h6
      obtain ⟨rfl, rfl⟩ := pure_get h8
      have := compL_len r h7
      simp only [List.length_cons]; omega
    | false =>
      have := compL_len r h4
      simp only [List.length_cons]; omega
/-- a comprehension -/
theorem vw_comp {K : PySem.W.Frag} {m mi : Bool} {wi : TI} {fi : IF} {gt : TG} {ft : GF} {tt : TT} {fT : TF} {te : TE} {f : EF} {vs : List Nat} (pi : VwI K mi wi fi) (pg : VwG K vs gt ft) (pt : VwT K tt fT) (pe : VwE K m te f) :
    VwL K m (tLc wi gt tt te vs) (xComp vs fi ft fT f) := fun g env w σ H Q total wF hK I hf k => by
  obtain ⟨xs, w1, h1, h2⟩ := bind_some.mp hf
  obtain ⟨envB, w2, h3, h4⟩ := bind_some.mp h2
  obtain ⟨e3, rfl⟩ := lift_get h3
  by_cases hline : xs.length ≤ line
  rotate_left
  · rw [if_neg hline] at h4; cases h4
  rw [if_pos hline] at h4
  refine pi _ env w σ H _ xs _ hK I h1 fun {g1} J H1 k1 d1 wk => ?_
  have I1 := I.step k1 d1
  intro D hD
  have hZ : ¬ g1.Z D := fun z => I1.live D (g1.zt D z) hD
  have hD0 : g1.H0 D = none := by
    cases q : g1.H0 D with
    | none => rfl
    | some o => exact absurd hD (I1.keep.live D (by rw [q]; simp))
  have hDs : H D = none := by
    cases q : H D with
    | none => rfl
    | some o => exact absurd hD (k1.live D (by rw [q]; simp))
  obtain ⟨IB, sB, nB⟩ := wipeE_ok (I1.but (vs := []) hD) vs e3
  have hmono : Keep g1 (g1.but D) H1 (upd H1 D (.lst [])) := Keep.but hD
  have ownB : ∀ a, ownA env σ a → ownA envB (wipe σ vs) a := fun a ⟨j, bz, zs, q1, q2⟩ => by
    have hj : j ∉ vs := fun z => nB j z bz zs q1
    exact ⟨j, bz, zs, by rw [sB j hj]; exact q1, by rw [wipe_get σ vs j hj]; exact q2⟩
  have ownB' : ∀ a, ownA envB (wipe σ vs) a → ownA env σ a := fun a ⟨j, bz, zs, q1, q2⟩ => by
    have hj : j ∉ vs := fun hj => by
      by_cases hb : j < σ.length
      · rw [wipe_in σ vs j hj hb] at q2; cases q2
      · rw [List.getElem?_eq_none (by rw [wipe_length]; omega)] at q2; cases q2
    rw [sB j hj] at q1
    rw [wipe_get σ vs j hj] at q2
    exact ⟨j, bz, zs, q1, q2⟩
  -- the invariant
  refine ⟨fun i n H' => n = xs.length - i ∧ i ≤ xs.length ∧ ∃ (g2 : Gh K) (wi : W) (acc : List PyData) (us : List V) (ys : List PyData), StOk g2 envB wi (wipe σ vs) H' ∧ g2.T D ∧ ¬ g2.Z D ∧ Keep g1 g2 H1 H' ∧ H' D = some (.lst us) ∧
    Reps K (av g2 m envB (wipe σ vs)) H' us acc ∧ compL ft fT f envB (xs.drop i) wi = some (ys, wF) ∧ acc ++ ys = total ∧ acc.length ≤ i, ⟨xs.length, by simp, Nat.zero_le _, _, _, [], [], total, IB, .inr rfl, hZ, hmono, upd_same, .nil, by rw [List.drop_zero]; exact h4, rfl, Nat.le_refl _⟩, ?_⟩
  rintro i n H2 ⟨rfl, hi, g2, wi, acc, us, ys, I2, tD, zD, k2, eD, ra, hc, etot, hacc⟩
  -- what is walked stands
  have stay : ∀ a o, ¬ av g1 mi env σ a → H1 a = some o → H2 a = some o := fun a o n e => k2.at_ a o (fun z => n (av_z z)) e
  obtain ⟨walk, stop⟩ := wk H2 ⟨stay, k2.live⟩
  by_cases hlt : i < xs.length
  · right
    obtain ⟨go, yl⟩ := walk i xs[i] (List.getElem?_eq_getElem hlt)
    have hdrop : xs.drop i = xs[i] :: xs.drop (i + 1) := List.drop_eq_getElem_cons hlt
    rw [hdrop] at hc
    obtain ⟨env1, w3, h5, h6⟩ := bind_some.mp hc
    obtain ⟨e5, rfl⟩ := lift_get h5
    obtain ⟨b, w4, h7, h8⟩ := bind_some.mp h6
    refine ⟨go, fun H' => ∃ m', m' < xs.length - i ∧ (m' = xs.length - (i + 1) ∧ i + 1 ≤ xs.length ∧ ∃ (g2 : Gh K) (wi : W) (acc : List PyData) (us : List V) (ys : List PyData), StOk g2 envB wi (wipe σ vs) H' ∧ g2.T D ∧ ¬ g2.Z D ∧ Keep g1 g2 H1 H' ∧ H' D = some (.lst us) ∧
      Reps K (av g2 m envB (wipe σ vs)) H' us acc ∧ compL ft fT f envB (xs.drop (i + 1)) wi = some (ys, wF) ∧ acc ++ ys = total ∧ acc.length ≤ i + 1), fun _ h => h, fun v H3 y => ?_⟩
    obtain ⟨sm, rv⟩ := yl v H3 y
    have k3 : Keep g2 g2 H2 H3 := Keep.of_same sm
    have I3 := I2.step (Keep.of_same sm) (I2.same sm)
    have rv' : Rep K (av g2 true envB (wipe σ vs)) H3 v xs[i] := rv.mon (fun _ _ _ e => e) fun a h => by
      rcases h with h | ⟨_, h⟩
      · exact (k2.t2 a h).imp .inl id
      · exact .inl (.inr ⟨rfl, ownB' a h⟩)
    refine pg g2 envB _ (wipe σ vs) H3 v xs[i] env1 _ hK I3 rv' e5 fun σ2 J3 o3 s3 l3 => ?_
    have hw : wipe σ2 vs = wipe σ vs := wipe_same (by rw [J3.len, l3, ← IB.len, wipe_length]) fun j hj => (s3 j hj).2
    refine ⟨hw, ?_⟩
    refine pt g2 env1 _ σ2 H3 _ b _ hK J3 h7 fun {g4} H4 k4 d4 => ?_
    have J4 := J3.step k4 d4
    have I4 := I3.step k4 d4
    have k24 : Keep g2 g4 H2 H4 := k3.trans k4
    have eD4 : H4 D = some (.lst us) := k24.at_ D _ zD eD
    have ra4 : Reps K (av g4 m envB (wipe σ vs)) H4 us acc := ra.keep k24
    have tD4 := k24.t1 D tD
    have zD4 : ¬ g4.Z D := fun z => (k24.z2 D z).elim zD fun q => by rw [eD] at q; cases q
    cases b with
    | false =>
      rw [if_neg Bool.false_ne_true] at h8
      rw [if_neg Bool.false_ne_true]
      exact ⟨xs.length - (i + 1), by omega, rfl, hlt, g4, _, acc, us, ys, I4, tD4, zD4, k2.trans k24, eD4, ra4, h8, etot, by omega⟩
    | true =>
      rw [if_pos rfl] at h8
      rw [if_pos rfl]
      obtain ⟨y, w5, h9, h10⟩ := bind_some.mp h8
      obtain ⟨zs, w6, h11, h12⟩ := bind_some.mp h10
      obtain ⟨rfl, rfl⟩ := pure_get h12
      refine pe g4 env1 _ σ2 H4 _ y _ hK J4 h9 fun {g5} u H5 k5 d5 r5 => ?_
      have I5 := I4.step k5 d5
      have k25 : Keep g2 g5 H2 H5 := k24.trans k5
      have eD5 : H5 D = some (.lst us) := k25.at_ D _ zD eD
      have ra5 : Reps K (av g5 m envB (wipe σ vs)) H5 us acc := ra.keep k25
      have tD5 := k25.t1 D tD
      have zD5 : ¬ g5.Z D := fun z => (k25.z2 D z).elim zD fun q => by rw [eD] at q; cases q
      have k15 := k2.trans k25
      refine ⟨us, eD5, ?_, ?_⟩
      · rw [ra.length, ← line_eq]; omega
      have kD : ∀ a o, ¬ av g5 m envB (wipe σ vs) a → H5 a = some o → upd H5 D (.lst (us ++ [u])) a = some o := fun a o n e => by
        rw [upd_ne (show a ≠ D from fun z => n (.inl (z ▸ tD5)))]; exact e
      refine ⟨xs.length - (i + 1), by omega, rfl, hlt, g5, _, acc ++ [y], us ++ [u], zs, I5.updBut tD5 zD5 (by rw [k15.h0]; exact hD0), tD5, zD5, ?_, upd_same, ?_, h11, by rw [List.append_assoc]; exact etot, by rw [List.length_append]; simp; omega⟩
      · refine ⟨fun a o n e => ?_, fun a e => ?_, k15.t1, fun a z => (k15.t2 a z).imp_right fun q => ⟨q.1, ?_⟩, k15.z1, k15.z2, k15.h0, k15.sd, k15.wd, k15.kd⟩
        · rw [upd_ne (show a ≠ D from fun z => by subst z; rw [hD] at e; cases e)]
          exact k15.at_ a o n e
        · by_cases z : a = D
          · subst z; rw [upd_same]; simp
          · rw [upd_ne z]; exact k15.live a e
        · by_cases z : a = D
          · subst z; rw [upd_same]; simp
          · rw [upd_ne z]; exact q.2
      · refine (ra5.mon kD fun _ z => z).append (.cons ((r5.mon (fun _ _ _ e => e) fun a z => ?_).mon kD fun _ z => z) .nil)
        rcases z with z | ⟨e, j, bz, ws, q1, q2⟩
        · exact .inl z
        · have hj : j ∉ vs := fun hj => by
            by_cases hb : j < σ.length
            · rw [wipe_in σ vs j hj hb] at q2; cases q2
            · rw [List.getElem?_eq_none (by rw [wipe_length]; omega)] at q2; cases q2
          exact .inr ⟨e, j, bz, ws, by rw [(s3 j hj).1]; exact q1, by rw [(s3 j hj).2]; exact q2⟩
  · left
    have e : i = xs.length := by omega
    subst e
    rw [List.drop_length] at hc
    obtain ⟨rfl, rfl⟩ := pure_get hc
    rw [List.append_nil] at etot
    subst etot
    refine ⟨stop, k (g' := g2.bare D zD) D us H2 ⟨hDs, fun z => z.2 rfl⟩ ?_ I2.dr eD (ra.mon (fun _ _ _ e => e) fun a z => ?_)⟩
    · exact k1.trans ⟨k2.at_, k2.live, fun a t => ⟨k2.t1 a t, fun e => by subst e; exact I1.live a t hD⟩, fun a z => k2.t2 a z.1, k2.z1, k2.z2, k2.h0, k2.sd, k2.wd, k2.kd⟩
    · rcases z with z | z
      · rcases z with z | ⟨e, z⟩
        · exact .inl z.1
        · exact .inr ⟨e, ownB a z⟩
      · exact .inl (z ▸ tD)
end VE

namespace VE
open PySem PySem.Spec L2
open PyProof.Rows hiding St
/-! ### list comprehensions: the rules -/
structure PTsV (X : Cx) (ifs : List Expr) (t : TT) (f : TF) : Prop where
  pe : PTs X ifs t
  vw : VwT X.K t f
section
variable {X : Cx} {m : Bool} {pos : Pos}
theorem eqD' {KK : PySem.W.Frag} (hKK : X.K = KK) (hu : X.A.units + 64 < cLine) : OpR X (compareOp .Eq) (rEqD KK) := by
  subst hKK
  exact op_eqD hu
theorem neD' {KK : PySem.W.Frag} (hKK : X.K = KK) (hu : X.A.units + 64 < cLine) : OpR X (compareOp .NotEq) (rNeD KK) := by
  subst hKK
  exact op_neD hu
theorem in' {KK : PySem.W.Frag} (hKK : X.K = KK) : OpR X (compareOp .In) (rIn KK false) := by
  subst hKK
  exact op_in_seq
theorem notIn' {KK : PySem.W.Frag} (hKK : X.K = KK) : OpR X (compareOp .NotIn) (rIn KK true) := by
  subst hKK
  exact op_notIn_seq
theorem ptsv_nil : PTsV X [] tYes tYesF := ⟨pts_nil, fun g env w σ H Q b w' hK I hf k => by
  obtain ⟨rfl, rfl⟩ := pure_get hf
  exact k H (Keep.refl _ _) I.dr⟩
theorem ptsv_one {c : Expr} {t : TT} {f : TF} (p : PTV X c t f) : PTsV X [c] t f := ⟨pts_one p.pe, p.vw⟩
abbrev AnyBlk (X : Cx) (scope : Scope) (P : Cx → Prop) : Prop := ∀ (s : Shared) (H : Hp) (C : Addr) (cl : List (Str × Addr)) (fp : List Addr), P (X.blk s H scope (compEnvC scope cl C X.env) fp)
theorem plv_comp {elt tg iter : Expr} {ifs : List Expr} {scope : Scope} {own : List (Str × Nat)} {vs : List Nat} {wi : TI} {fi : IF} {gt : TG} {ft : GF} {tt : TT} {fT : TF} {te : TE} {f : EF} (hc : X.calm = true) (hN : X.N.Nodup) (hi : PIV X false tg iter wi fi) (ok : BlkOk X.N X.env.scope scope own) (hvs : own.map (·.2) = vs)
    (hg : AnyBlk X scope fun Y => PGV Y tg vs gt ft) (ht : AnyBlk X scope fun Y => PTsV Y ifs tt fT) (he : AnyBlk X scope fun Y => PV Y m elt te f) (hs : ∀ x, foldedSetIterable iter X.env x = pure x) :
    PLV X m (.ListComp elt [⟨tg, iter, ifs, 0⟩] scope pos) (tLc wi gt tt te vs) (xComp vs fi ft fT f) := by
  subst hvs
  exact ⟨pe_lc hc hN hi.pe ok (fun s H C cl fp => (hg s H C cl fp).pe) (fun s H C cl fp => (ht s H C cl fp).pe) (fun s H C cl fp => (he s H C cl fp).pe) hs,
    vw_comp hi.vw (hg {} (fun _ => none) 0 [] []).vw (ht {} (fun _ => none) 0 [] []).vw (he {} (fun _ => none) 0 [] []).vw⟩
end

/-! ### statements -/
/-- what a statement may have done -/
structure Eff {K : PySem.W.Frag} (g g' : Gh K) (env : En) (σ : SS) (H : Hp) (env' : En) (σ' : SS) (H' : Hp) : Prop where
  at_ : ∀ a o, ¬ g.Z a → ¬ ownA env σ a → H a = some o → H' a = some o
  live : ∀ a, H a ≠ none → H' a ≠ none
  own : ∀ a, ownA env' σ' a → ownA env σ a ∨ H a = none
  t1 : ∀ a, g.T a → g'.T a
  t2 : ∀ a, g'.T a → g.T a ∨ (H a = none ∧ g.H0 a = none)
  z1 : ∀ a, g.Z a → g'.Z a
  z2 : ∀ a, g'.Z a → g.Z a ∨ (H a = none ∧ g.H0 a = none)
  h0 : g'.H0 = g.H0
  sd : g'.sd = g.sd
  kd : g'.kd = g.kd
  wd : g'.wd = g.wd
section
variable {K : PySem.W.Frag} {g g1 g2 g' : Gh K} {env env1 env2 : En} {σ σ1 σ2 : SS} {H H1 H2 H' : Hp} {w w' : W}
theorem Eff.refl : Eff g g env σ H env σ H := ⟨fun _ _ _ _ e => e, fun _ e => e, fun _ h => .inl h, fun _ h => h, fun _ h => .inl h, fun _ h => h, fun _ h => .inl h, rfl, rfl, rfl, rfl⟩
theorem none_back (l : ∀ a, H a ≠ none → H1 a ≠ none) {a : Addr} (q : H1 a = none) : H a = none := Classical.byContradiction fun n => l a n q
theorem Eff.trans (a : Eff g g1 env σ H env1 σ1 H1) (b : Eff g1 g2 env1 σ1 H1 env2 σ2 H2) : Eff g g2 env σ H env2 σ2 H2 :=
  ⟨fun c o nz no e => b.at_ c o (fun z => (a.z2 c z).elim nz fun q => by rw [q.1] at e; cases e) (fun z => (a.own c z).elim no fun q => by rw [q] at e; cases e) (a.at_ c o nz no e), fun c e => b.live c (a.live c e),
    fun c h => (b.own c h).elim (a.own c) fun q => .inr (none_back a.live q), fun c t => b.t1 c (a.t1 c t),
    fun c t => (b.t2 c t).elim (a.t2 c) fun q => .inr ⟨none_back a.live q.1, by rw [← a.h0]; exact q.2⟩,
    fun c t => b.z1 c (a.z1 c t), fun c t => (b.z2 c t).elim (a.z2 c) fun q => .inr ⟨none_back a.live q.1, by rw [← a.h0]; exact q.2⟩,
    b.h0.trans a.h0, b.sd.trans a.sd, b.kd.trans a.kd, b.wd.trans a.wd⟩
theorem Eff.of_keep (I : StOk g env w σ H) (k : Keep g g' H H1) (h : ∀ a, ownA env1 σ1 a → ownA env σ a) : Eff g g' env σ H env1 σ1 H1 :=
  ⟨fun a o n _ e => k.at_ a o n e, k.live, fun a q => .inl (h a q), k.t1, fun a t => (k.t2 a t).imp_right fun q => ⟨q.1, none_back I.keep.live q.1⟩, k.z1, fun a t => (k.z2 a t).imp_right fun q => ⟨q, none_back I.keep.live q⟩, k.h0, k.sd, k.kd, k.wd⟩
/-- seen from the entry -/
structure KeepR {K : PySem.W.Frag} (g g' : Gh K) (H H' : Hp) : Prop where
  at_ : ∀ a o, ¬ g.Z a → H a = some o → H' a = some o
  live : ∀ a, H a ≠ none → H' a ≠ none
  t1 : ∀ a, g.T a → g'.T a
  t2 : ∀ a, g'.T a → g.T a ∨ H a = none
  tl : ∀ a, g'.T a → H' a ≠ none
  z1 : ∀ a, g.Z a → g'.Z a
  z2 : ∀ a, g'.Z a → g.Z a ∨ H a = none
  h0 : g'.H0 = g.H0
  sd : g'.sd = g.sd
  kd : g'.kd = g.kd
  wd : g'.wd = g.wd
theorem Keep.from0 (I : StOk g env w σ H) (k : Keep g g' H H1) : KeepR g g' g.H0 H1 :=
  ⟨fun a o n e => k.at_ a o n (I.keep.at_ a o n e), fun a e => k.live a (I.keep.live a e), k.t1, fun a t => (k.t2 a t).imp_right fun q => none_back I.keep.live q.1, fun a t => (k.t2 a t).elim (fun t => k.live a (I.live a t)) fun q => q.2, k.z1, fun a t => (k.z2 a t).imp_right fun q => none_back I.keep.live q, k.h0, k.sd, k.kd, k.wd⟩
end
def Fin {K : PySem.W.Frag} (g : Gh K) (env : En) (σ : SS) (H : Hp) (D : Ends) (fl : Fl) (env' : En) (w' : W) : Prop :=
  match fl with
  | .nx => ∀ {g' : Gh K} σ' H', StOk g' env' w' σ' H' → Eff g g' env σ H env' σ' H' → D.nx σ' H'
  | .bk => ∀ {g' : Gh K} σ' H', StOk g' env' w' σ' H' → Eff g g' env σ H env' σ' H' → D.bk σ' H'
  | .ct => ∀ {g' : Gh K} σ' H', StOk g' env' w' σ' H' → Eff g g' env σ H env' σ' H' → D.ct σ' H'
  | .rt x => ∀ {g' : Gh K} v H', KeepR g g' g.H0 H' → g'.dr w' H' → Rep K g'.T H' v x → D.rt v H'
theorem Fin.after {K : PySem.W.Frag} {g g1 : Gh K} {env env1 : En} {σ σ1 : SS} {H H1 : Hp} {D : Ends} {fl : Fl} {env' : En} {w' : W} (F : Fin g env σ H D fl env' w') (e : Eff g g1 env σ H env1 σ1 H1) : Fin g1 env1 σ1 H1 D fl env' w' := by
  cases fl with
  | nx => exact fun σ' H' I f => F σ' H' I (e.trans f)
  | bk => exact fun σ' H' I f => F σ' H' I (e.trans f)
  | ct => exact fun σ' H' I f => F σ' H' I (e.trans f)
  | rt x =>
    refine fun v H' k d r => F v H' ⟨fun a o n q => k.at_ a o (fun z => (e.z2 a z).elim n fun x => by rw [x.2] at q; cases q) (by rw [e.h0]; exact q), fun a q => k.live a (by rw [e.h0]; exact q), fun a t => k.t1 a (e.t1 a t), fun a t => ?_, k.tl, fun a z => k.z1 a (e.z1 a z), fun a z => ?_, k.h0.trans e.h0, k.sd.trans e.sd, k.kd.trans e.kd, k.wd.trans e.wd⟩ d r
    · rcases k.t2 a t with t' | q
      · exact (e.t2 a t').imp_right fun q => q.2
      · exact .inr (by rw [← e.h0]; exact q)
    · rcases k.z2 a z with z' | q
      · exact (e.z2 a z').imp_right fun q => q.2
      · exact .inr (by rw [← e.h0]; exact q)
def VwS (K : PySem.W.Frag) (t : TS) (f : SF) : Prop :=
  ∀ (g : Gh K) (env : En) (w : W) (σ : SS) (H : Hp) (D : Ends) (fl : Fl) (env' : En) (w' : W), True → StOk g env w σ H → f env w = some ((fl, env'), w') → Fin g env σ H D fl env' w' → t D σ H
structure PSV (X : Cx) (st : Stmt) (t : TS) (f : SF) : Prop where
  pe : PS X st t
  vw : VwS X.K t f
structure PSsV (X : Cx) (st : List Stmt) (t : TS) (f : SF) : Prop where
  pe : PSs X st t
  vw : VwS X.K t f
section
variable {X : Cx} {K : PySem.W.Frag} {m : Bool} {e c : Expr} {st : Stmt} {rest sa sb : List Stmt} {ta : TE} {tt : TT} {ts tu : TS} {f : EF} {fT : TF} {fs fu : SF} {pos : Pos}
theorem vw_next : VwS K tNext sPass := fun g env w σ H D fl env' w' hK I hf F => by
  obtain ⟨e, rfl⟩ := pure_get hf
  cases e
  exact F σ H I Eff.refl
theorem psv_pass : PSV X (.Pass pos) tNext sPass := ⟨ps_pass, vw_next⟩
theorem psv_doc {x j pos'} : PSV X (.Expr (.Constant (.str x) j pos) pos') tNext sPass := ⟨ps_doc, vw_next⟩
theorem psv_break : PSV X (.Break pos) tBreak sBreak := ⟨ps_break, fun g env w σ H D fl env' w' hK I hf F => by
  obtain ⟨e, rfl⟩ := pure_get hf
  cases e
  exact F σ H I Eff.refl⟩
theorem psv_continue : PSV X (.Continue pos) tCont sCont := ⟨ps_continue, fun g env w σ H D fl env' w' hK I hf F => by
  obtain ⟨e, rfl⟩ := pure_get hf
  cases e
  exact F σ H I Eff.refl⟩
theorem pssv_nil : PSsV X [] tNext sPass := ⟨pss_nil, vw_next⟩
theorem pssv_cons (p : PSV X st ts fs) (q : PSsV X rest tu fu) : PSsV X (st :: rest) (tSeq ts tu) (sSeq fs fu) := ⟨pss_cons p.pe q.pe, fun g env w σ H D fl env' w' hK I hf F => by
  obtain ⟨⟨fl1, env1⟩, w1, h1, h2⟩ := bind_some.mp hf
  refine p.vw _ env w σ H _ fl1 env1 w1 hK I h1 ?_
  cases fl1 with
  | nx => exact fun σ' H' I' ef => q.vw _ env1 w1 σ' H' D fl env' w' hK I' h2 (F.after ef)
  | bk => obtain ⟨e, rfl⟩ := pure_get h2; cases e; exact F
  | ct => obtain ⟨e, rfl⟩ := pure_get h2; cases e; exact F
  | rt x => obtain ⟨e, rfl⟩ := pure_get h2; cases e; exact F⟩
theorem pssv_one (p : PSV X st ts fs) : PSsV X [st] ts fs := ⟨pss_one p.pe, p.vw⟩
theorem psv_ret (p : PV X false e ta f) : PSV X (.Return (some e) pos) (tRet ta) (sRet f) := ⟨ps_ret p.pe, fun g env w σ H D fl env' w' hK I hf F => by
  obtain ⟨x, w1, h1, h2⟩ := bind_some.mp hf
  obtain ⟨e, rfl⟩ := pure_get h2
  cases e
  exact p.vw _ env w σ H _ x _ hK I h1 fun v H' k d r => F v H' (Keep.from0 I k) d (r.mon (fun _ _ _ e => e) fun _ z => .inl z)⟩
theorem psv_retN : PSV X (.Return none pos) tRetN sRetN := ⟨ps_retN, fun g env w σ H D fl env' w' hK I hf F => by
  obtain ⟨e, rfl⟩ := pure_get hf
  cases e
  exact F .non H (Keep.from0 I (Keep.refl _ _)) I.dr .non⟩
theorem psv_if (p : PTV X c tt fT) (q : PSsV X sa ts fs) (r : PSsV X sb tu fu) : PSV X (.If c sa sb pos) (tIfS tt ts tu) (sIf fT fs fu) := ⟨ps_if p.pe q.pe r.pe, fun g env w σ H D fl env' w' hK I hf F => by
  obtain ⟨b, w1, h1, h2⟩ := bind_some.mp hf
  refine p.vw _ env w σ H _ b _ hK I h1 fun H1 k1 d1 => ?_
  have F1 := F.after (Eff.of_keep I (env1 := env) (σ1 := σ) k1 fun _ h => h)
  cases b with
  | true => exact q.vw _ env w1 σ H1 D fl env' w' hK (I.step k1 d1) h2 F1
  | false => exact r.vw _ env w1 σ H1 D fl env' w' hK (I.step k1 d1) h2 F1⟩
theorem vw_asg {vs : List Nat} {gt : TG} {ft : GF} (p : VwE K true ta f) (q : VwG K vs gt ft) : VwS K (tAsg ta gt) (sAsg f ft) := fun g env w σ H D fl env' w' hK I hf F => by
  obtain ⟨x, w1, h1, h2⟩ := bind_some.mp hf
  obtain ⟨env1, w2, h3, h4⟩ := bind_some.mp h2
  obtain ⟨e3, rfl⟩ := lift_get h3
  obtain ⟨e, rfl⟩ := pure_get h4
  cases e
  refine p _ env w σ H _ x _ hK I h1 fun v H1 k1 d1 r1 => ?_
  exact q _ env _ σ H1 v x env' _ hK (I.step k1 d1) r1 e3 fun σ' I' o' _ _ => F σ' H1 I' (Eff.of_keep I k1 o')
/-- target = e -/
theorem psv_asg {tg : Expr} {vs : List Nat} {gt : TG} {ft : GF} (p : PV X true e ta f) (q : PGV X tg vs gt ft) (hs : swapsWithSole [tg] e pos.line X.env = pure false) (hw : swappedStores [tg] e X.env = pure none)
    (h1 : (assignEach [tg] X.env).map (·.2) = [assign tg X.env]) : PSV X (.Assign [tg] e pos) (tAsg ta gt) (sAsg f ft) := ⟨ps_asg p.pe q.pe hs hw h1, vw_asg p.vw q.vw⟩
/-- name = e -/
theorem psv_set {i : Nat} {x : Str} {pos' : Pos} (hN : X.N.Nodup) (p : PV X true e ta f) (hi : X.N[i]? = some x) (hx : locB X.env.scope x = true) (hs : swapsWith e (some (.Name x pos')) pos.line X.env = pure false) (hf : fnB X x = true) :
    PSV X (.Assign [.Name x pos'] e pos) (tAsg ta (gName i)) (sAsg f (gNm i)) := ⟨ps_set hN hi (loc_of hx) p.pe hs (fn_of' hf), vw_asg p.vw (vw_name i)⟩
/-- name = [..] on one line -/
theorem psv_setLc {i : Nat} {y : Str} {py : Pos} {elt tg iter : Expr} {ifs : List Expr} {scope : Scope} {own : List (Str × Nat)} {vs : List Nat} {cpos : Pos} {wi : TI} {fi : IF} {gt : TG} {ft : GF} {te : TE} (hc : X.calm = true) (hN : X.N.Nodup) (hsw : swapsWith (.ListComp elt [⟨tg, iter, ifs, 0⟩] scope cpos) (some (.Name y py)) pos.line X.env = pure true)
    (hi : PIV X false tg iter wi fi) (ok : BlkOk X.N X.env.scope scope own) (hvs : own.map (·.2) = vs)
    (hg : AnyBlk X scope fun Y => PGV Y tg vs gt ft) (ht : AnyBlk X scope fun Y => PTsV Y ifs tt fT) (he : AnyBlk X scope fun Y => PV Y true elt te f) (hs : ∀ x, foldedSetIterable iter X.env x = pure x) (hy : X.N[i]? = some y) (hyl : X.env.scope.names.lookup y = some .local) :
    PSV X (.Assign [.Name y py] (.ListComp elt [⟨tg, iter, ifs, 0⟩] scope cpos) pos) (tAsg (tLc wi gt tt te vs) (gName i)) (sAsg (xAs (xComp vs fi ft fT f)) (gNm i)) := by
  subst hvs
  exact ⟨ps_setLc hc hN hy hyl hsw hi.pe ok (fun s H C cl fp => (hg s H C cl fp).pe) (fun s H C cl fp => (ht s H C cl fp).pe) (fun s H C cl fp => (he s H C cl fp).pe) hs,
    vw_asg (pv_as (plv_comp hc hN hi ok rfl hg ht he hs (pos := cpos))).vw (vw_name i)⟩
theorem psv_expr (p : PV X true e ta f) (hs : swapsWith e none pos.line X.env = pure false) : PSV X (.Expr e pos) (tDrop ta) (sExpr f) := ⟨ps_expr p.pe hs, fun g env w σ H D fl env' w' hK I hf F => by
  obtain ⟨x, w1, h1, h2⟩ := bind_some.mp hf
  obtain ⟨e, rfl⟩ := pure_get h2
  cases e
  exact p.vw _ env w σ H _ x _ hK I h1 fun v H1 k1 d1 r1 => F σ H1 (I.step k1 d1) (Eff.of_keep I k1 fun _ h => h)⟩
/-- a, b = e, e' -/
theorem psv_par {i j : Nat} {x y : Str} {a b : Expr} {tas : TA} {fas : AF} {px py pt : Pos} {kt k2 pt2} (hc : X.calm = true) (hN : X.N.Nodup) (p : PAV X true [a, b] tas fas) (hi : X.N[i]? = some x) (hj : X.N[j]? = some y) (hij : i ≠ j)
    (hx : X.env.scope.names.lookup x = some .local) (hy : X.env.scope.names.lookup y = some .local)
    (hw : swappedStores [.Tuple [.Name x px, .Name y py] kt pt] (.Tuple [a, b] k2 pt2) X.env = pure (some [x, y]))
    (hs : swapsWithSole [.Tuple [.Name x px, .Name y py] kt pt] (.Tuple [a, b] k2 pt2) pos.line X.env = pure false) :
    PSV X (.Assign [.Tuple [.Name x px, .Name y py] kt pt] (.Tuple [a, b] k2 pt2) pos) (tPar i j tas) (sPar i j fas) := ⟨ps_par hc hN hi hj hij hx hy p.pe hw hs, fun g env w σ H D fl env' w' hK I hf F => by
  obtain ⟨xs, w1, h1, h2⟩ := bind_some.mp hf
  refine p.vw _ env w σ H _ xs _ hK I h1 fun vs H1 k1 d1 r1 => ?_
  split at h2
  · rename_i u v
    obtain ⟨e, rfl⟩ := pure_get h2
    cases e
    obtain ⟨a1, a2, rfl, r, r'⟩ := reps2 r1
    refine ⟨a1, a2, rfl, ?_⟩
    have I1 := I.step k1 d1
    have I2 := I1.setSh i (x := u) (v := a1) r
    have I3 := I2.setSh j (x := v) (v := a2) (r'.mon (fun _ _ _ e => e) fun a h => h.elim .inl fun z => .inr ⟨rfl, own_set_sh z.2⟩)
    exact F _ H1 I3 (Eff.of_keep I k1 fun a h => own_set_sh (own_set_sh h))
  · cases h2⟩

/-! ### lists that the def changes -/
theorem own_thaw {i : Nat} {env : En} {σ : SS} {a : Addr} (h : ownA (thaw i env) σ a) : ownA env σ a := by
  unfold thaw at h
  split at h
  · obtain ⟨j, b, xs, h1, h2⟩ := h
    rcases set_get h1 with ⟨_, e⟩ | ⟨hj, h1⟩
    · cases e
    · exact ⟨j, b, xs, h1, h2⟩
  · exact h
theorem StOk.thaw {g : Gh K} {env : En} {w : W} {σ : SS} {H : Hp} (I : StOk g env w σ H) (i : Nat) : StOk g (thaw i env) w σ H := by
  have av' : ∀ a, av g true (VE.thaw i env) σ a → av g true env σ a := fun a h => h.elim .inl fun q => .inr ⟨rfl, own_thaw q.2⟩
  have key : ∀ xs, env[i]? = some (.ow false xs) → VE.thaw i env = env.set i (.sh (.list xs)) := fun xs e => by unfold VE.thaw; rw [e]
  cases q : env[i]? with
  | none => have e : VE.thaw i env = env := by unfold VE.thaw; rw [q]
            rw [e]; exact I
  | some s =>
    cases s with
    | ow b xs =>
      cases b with
      | true =>
        have e : VE.thaw i env = env := by unfold VE.thaw; rw [q]
        rw [e]; exact I
      | false =>
      have ek := key xs q
      rw [ek] at av'
      rw [ek]
      obtain ⟨a, vs, ea, ha, ra, na, ta⟩ := I.owL i xs q
      have nown : ¬ ownA (env.set i (.sh (.list xs))) σ a := fun ⟨j, b, ys, h1, h2⟩ => by
        rcases set_get h1 with ⟨_, e⟩ | ⟨hj, h1⟩
        · cases e
        · exact hj (I.dist j i _ _ ys xs a h1 q h2 ea)
      refine ⟨by rw [List.length_set, I.len], fun j y h => ?_, fun j b ys h => ?_, fun j kk h => ?_, fun j ns h => ?_, fun j j2 b c ys zs a h1 h2 h3 h4 => ?_, I.live, I.keep, I.dr⟩
      · rcases set_get h with ⟨rfl, e⟩ | ⟨hj, h⟩
        · cases e
          exact ⟨_, ea, .lst (fun z => z.elim ta fun z => nown z.2) ha (ra.mon (fun _ _ _ e => e) av')⟩
        · obtain ⟨u, e, q⟩ := I.sh j y h
          exact ⟨u, e, q.mon (fun _ _ _ e => e) av'⟩
      · rcases set_get h with ⟨rfl, e⟩ | ⟨hj, h⟩
        · cases e
        · obtain ⟨a, vs, e, q, s, n, t⟩ := I.ow j b ys h
          exact ⟨a, vs, e, q, s.mon (fun _ _ _ e => e) av', n, t⟩
      · rcases set_get h with ⟨rfl, e⟩ | ⟨hj, h⟩
        · cases e
        · exact I.st j kk h
      · rcases set_get h with ⟨rfl, e⟩ | ⟨hj, h⟩
        · cases e
        · obtain ⟨a, e, s⟩ := I.fz j ns h
          exact ⟨a, e, s.mono (fun _ _ _ e => e) av'⟩
      · rcases set_get h1 with ⟨_, e⟩ | ⟨hj, h1⟩
        · cases e
        · rcases set_get h2 with ⟨_, e⟩ | ⟨hj2, h2⟩
          · cases e
          · exact I.dist j j2 b c ys zs a h1 h2 h3 h4
    | _ =>
      have e : VE.thaw i env = env := by unfold VE.thaw; rw [q]
      rw [e]; exact I
/-- from here on the list at i is a value -/
theorem pssv_thaw {i : Nat} {sts : List Stmt} (p : PSsV X sts ts fs) : PSsV X sts ts (sThaw i fs) := ⟨p.pe, fun g env w σ H D fl env' w' hK I hf F =>
  p.vw g (thaw i env) w σ H D fl env' w' hK (I.thaw i) hf (F.after (Eff.of_keep I (Keep.refl _ _) fun a h => own_thaw h))⟩
theorem StOk.setOw {g g' : Gh K} {env : En} {w : W} {σ : SS} {H H' : Hp} {p : Addr} {vs : List V} {xs : List PyData} (I : StOk g env w σ H) (hp : H p = none ∧ ¬ g'.T p) (k : Keep g g' H H') (d : g'.dr w' H') {bb : Bool} (hv : ∃ o, H' p = some o ∧ HoS bb vs o) (r : Reps K (fun a => av g' true env σ a ∨ a = p) H' vs xs) (i : Nat) :
    StOk g' (env.set i (.ow bb xs)) w' (σ.set i (some (.ref p))) H' ∧ Eff g g' env σ H (env.set i (.ow bb xs)) (σ.set i (some (.ref p))) H' := by
  have own' : ∀ a, ownA (env.set i (.ow bb xs)) (σ.set i (some (.ref p))) a → ownA env σ a ∨ a = p := fun a ⟨j, b, ys, h1, h2⟩ => by
    rcases set_get h1 with ⟨rfl, e⟩ | ⟨hj, h1⟩
    · rcases set_get h2 with ⟨_, e2⟩ | ⟨hj, _⟩
      · cases e2; exact .inr rfl
      · exact absurd rfl hj
    · rw [List.getElem?_set_ne (Ne.symm hj)] at h2
      exact .inl ⟨j, b, ys, h1, h2⟩
  have av' : ∀ a, av g' true (env.set i (.ow bb xs)) (σ.set i (some (.ref p))) a → av g' true env σ a ∨ a = p := fun a h => h.elim (fun z => .inl (.inl z)) fun q => (own' a q.2).elim (fun z => .inl (.inr ⟨rfl, z⟩)) .inr
  have I1 := I.step k d
  have h0 : g'.H0 p = none := by
    rw [k.h0]
    exact none_back I.keep.live hp.1
  have back : ∀ a, av g' true (env.set i (.ow bb xs)) (σ.set i (some (.ref p))) a → av g true env σ a ∨ H a = none := fun a h => (av' a h).elim (fun z => av_new k z) fun z => .inr (z ▸ hp.1)
  have carry : ∀ {x : PyData} {v : V}, Rep K (av g true env σ) H v x → Rep K (av g' true (env.set i (.ow bb xs)) (σ.set i (some (.ref p)))) H' v x := fun {x v} r =>
    (Rep.tracked x r).mon (fun a o n e => k.at_ a o (fun z => n (.inl (av_z z))) e) back
  have carrys : ∀ {x : List PyData} {v : List V}, Reps K (av g true env σ) H v x → Reps K (av g' true (env.set i (.ow bb xs)) (σ.set i (some (.ref p)))) H' v x := fun {x v} r =>
    (Reps.tracked x r).mon (fun a o n e => k.at_ a o (fun z => n (.inl (av_z z))) e) back
  have E := Eff.of_keep (env1 := env) (σ1 := σ) I k fun _ h => h
  refine ⟨⟨by rw [List.length_set, List.length_set, I.len], fun j y h => ?_, fun j b ys h => ?_, fun j kk h => ?_, fun j ns h => ?_, fun j j2 b c ys zs a h1 h2 h3 h4 => ?_, I1.live, I1.keep, I1.dr⟩,
    ⟨E.at_, E.live, fun a h => (own' a h).imp id fun z => by rw [z]; exact hp.1, E.t1, E.t2, E.z1, E.z2, E.h0, E.sd, E.kd, E.wd⟩⟩
  · rcases set_get h with ⟨rfl, e⟩ | ⟨hj, h⟩
    · cases e
    · obtain ⟨u, e, q⟩ := I.sh j y h
      exact ⟨u, by rw [List.getElem?_set_ne (Ne.symm hj)]; exact e, carry q⟩
  · rcases set_get h with ⟨rfl, e⟩ | ⟨hj, h⟩
    · cases e
      have hl : j < σ.length := by
        rw [I.len]
        have := (List.getElem?_eq_some_iff.mp h).1
        simpa using this
      exact ⟨p, vs, by rw [List.getElem?_set_self hl], hv, r.mon (fun _ _ _ e => e) av', h0, hp.2⟩
    · obtain ⟨a, us, e, ⟨o, q, ho⟩, s, n, t⟩ := I.ow j b ys h
      exact ⟨a, us, by rw [List.getElem?_set_ne (Ne.symm hj)]; exact e, ⟨o, k.at_ a _ (fun z => t (g.zt a z)) q, ho⟩, carrys s, by rw [k.h0]; exact n, fun z => (k.t2 a z).elim t fun e => by rw [q] at e; cases e.1⟩
  · rcases set_get h with ⟨rfl, e⟩ | ⟨hj, h⟩
    · cases e
    · rw [List.getElem?_set_ne (Ne.symm hj)]; exact I1.st j kk h
  · rcases set_get h with ⟨rfl, e⟩ | ⟨hj, h⟩
    · cases e
    · obtain ⟨a, e, s⟩ := I.fz j ns h
      exact ⟨a, by rw [List.getElem?_set_ne (Ne.symm hj)]; exact e, s.tracked.mono (fun a o n e => k.at_ a o (fun z => n (.inl (av_z z))) e) back⟩
  · rcases set_get h1 with ⟨e1, _⟩ | ⟨hj, h1'⟩
    · rcases set_get h2 with ⟨e2, _⟩ | ⟨hj2, h2'⟩
      · rw [e1, e2]
      · exfalso
        rw [e1] at h3
        rcases set_get h3 with ⟨_, e3⟩ | ⟨hj, _⟩
        · cases e3
          rw [List.getElem?_set_ne (Ne.symm hj2)] at h4
          exact I.owLive ⟨j2, c, zs, h2', h4⟩ hp.1
        · exact hj rfl
    · rcases set_get h2 with ⟨e2, _⟩ | ⟨hj2, h2'⟩
      · exfalso
        rw [e2] at h4
        rcases set_get h4 with ⟨_, e3⟩ | ⟨hj2, _⟩
        · cases e3
          rw [List.getElem?_set_ne (Ne.symm hj)] at h3
          exact I.owLive ⟨j, b, ys, h1', h3⟩ hp.1
        · exact hj2 rfl
      · rw [List.getElem?_set_ne (Ne.symm hj)] at h3
        rw [List.getElem?_set_ne (Ne.symm hj2)] at h4
        exact I.dist j j2 b c ys zs a h1' h2' h3 h4
theorem vw_own {fl : LF} (i : Nat) (p : VwL K true ta fl) : VwS K (tAsg ta (gName i)) (sOwn i fl) := fun g env w σ H D fl env' w' hK I hf F => by
  obtain ⟨xs, w1, h1, h2⟩ := bind_some.mp hf
  obtain ⟨e, rfl⟩ := pure_get h2
  cases e
  refine p _ env w σ H _ xs _ hK I h1 fun p vs H1 hp k1 d1 e1 r1 => ?_
  obtain ⟨I1, E1⟩ := I.setOw (bb := false) hp k1 d1 ⟨_, e1, rfl⟩ r1 i
  exact F _ H1 I1 E1
/-- name = a new list that is changed later -/
theorem psv_own {i : Nat} {x : Str} {pos' : Pos} {fl : LF} (hN : X.N.Nodup) (p : PLV X true e ta fl) (hi : X.N[i]? = some x) (hx : locB X.env.scope x = true) (hs : swapsWith e (some (.Name x pos')) pos.line X.env = pure false) (hf : fnB X x = true) :
    PSV X (.Assign [.Name x pos'] e pos) (tAsg ta (gName i)) (sOwn i fl) := ⟨ps_set hN hi (loc_of hx) p.pe hs (fn_of' hf), vw_own i p.vw⟩
theorem psv_ownLc {i : Nat} {y : Str} {py : Pos} {elt tg iter : Expr} {ifs : List Expr} {scope : Scope} {own : List (Str × Nat)} {vs : List Nat} {cpos : Pos} {wi : TI} {fi : IF} {gt : TG} {ft : GF} {te : TE} (hc : X.calm = true) (hN : X.N.Nodup) (hsw : swapsWith (.ListComp elt [⟨tg, iter, ifs, 0⟩] scope cpos) (some (.Name y py)) pos.line X.env = pure true)
    (hi : PIV X false tg iter wi fi) (ok : BlkOk X.N X.env.scope scope own) (hvs : own.map (·.2) = vs)
    (hg : AnyBlk X scope fun Y => PGV Y tg vs gt ft) (ht : AnyBlk X scope fun Y => PTsV Y ifs tt fT) (he : AnyBlk X scope fun Y => PV Y true elt te f) (hs : ∀ x, foldedSetIterable iter X.env x = pure x) (hy : X.N[i]? = some y) (hyl : X.env.scope.names.lookup y = some .local) :
    PSV X (.Assign [.Name y py] (.ListComp elt [⟨tg, iter, ifs, 0⟩] scope cpos) pos) (tAsg (tLc wi gt tt te vs) (gName i)) (sOwn i (xComp vs fi ft fT f)) := by
  subst hvs
  exact ⟨ps_setLc hc hN hy hyl hsw hi.pe ok (fun s H C cl fp => (hg s H C cl fp).pe) (fun s H C cl fp => (ht s H C cl fp).pe) (fun s H C cl fp => (he s H C cl fp).pe) hs,
    vw_own i (plv_comp hc hN hi ok rfl hg ht he hs (pos := cpos)).vw⟩
/-- the list at i is changed -/
theorem StOk.mut {g : Gh K} {env : En} {w : W} {σ : SS} {H : Hp} {i : Nat} {bb : Bool} {xs ys : List PyData} {a : Addr} {us : List V} {o' : HO} (I : StOk g env w σ H) (hi : env[i]? = some (.ow bb xs)) (ha : σ[i]? = some (some (.ref a))) (ho' : HoS bb us o') (r : Reps K (av g true env σ) H us ys) :
    StOk g (env.set i (.ow bb ys)) w σ (upd H a o') ∧ Eff g g env σ H (env.set i (.ow bb ys)) σ (upd H a o') := by
  have own_a : ownA env σ a := ⟨i, bb, xs, hi, ha⟩
  have na : ¬ g.T a := I.owNT own_a
  have own' : ∀ b, ownA (env.set i (.ow bb ys)) σ b → ownA env σ b := fun b ⟨j, b1, zs, h1, h2⟩ => by
    rcases set_get h1 with ⟨rfl, e⟩ | ⟨hj, h1⟩
    · exact ⟨j, bb, xs, hi, h2⟩
    · exact ⟨j, b1, zs, h1, h2⟩
  have av' : ∀ b, av g true (env.set i (.ow bb ys)) σ b → av g true env σ b := fun b h => h.elim .inl fun q => .inr ⟨rfl, own' b q.2⟩
  have k : ∀ b o, ¬ av g true env σ b → H b = some o → upd H a o' b = some o := fun b o n e => by
    rw [upd_ne (show b ≠ a from fun z => n (.inr ⟨rfl, by rw [z]; exact own_a⟩))]; exact e
  have live' : ∀ b, H b ≠ none → upd H a o' b ≠ none := fun b e => by
    by_cases z : b = a
    · subst z; rw [upd_same]; simp
    · rw [upd_ne z]; exact e
  obtain ⟨a', vs', ea, hva, _, h0, _⟩ := I.ow i bb xs hi
  rw [ha] at ea
  cases ea
  refine ⟨⟨by rw [List.length_set, I.len], fun j y h => ?_, fun j b1 zs h => ?_, fun j kk h => ?_, fun j ns h => ?_, fun j j2 b1 b2 zs zs2 b h1 h2 h3 h4 => ?_, fun b h => live' b (I.live b h), ⟨fun b o n e => ?_, fun b e => live' b (I.keep.live b e)⟩, ?_⟩,
    ⟨fun b o nz no e => ?_, live', fun b h => .inl (own' b h), fun _ t => t, fun _ t => .inl t, fun _ t => t, fun _ t => .inl t, rfl, rfl, rfl, rfl⟩⟩
  · rcases set_get h with ⟨rfl, e⟩ | ⟨hj, h⟩
    · cases e
    · obtain ⟨u, e, q⟩ := I.sh j y h
      exact ⟨u, e, q.mon k av'⟩
  · rcases set_get h with ⟨rfl, e⟩ | ⟨hj, h⟩
    · cases e
      exact ⟨a, us, ha, ⟨o', upd_same, ho'⟩, r.mon k av', h0, na⟩
    · obtain ⟨b, vs, e, ⟨o, q, ho⟩, s, n, t⟩ := I.ow j b1 zs h
      refine ⟨b, vs, e, ⟨o, ?_, ho⟩, s.mon k av', n, t⟩
      rw [upd_ne (show b ≠ a from fun z => by subst z; exact hj (I.dist j i _ _ zs xs b h hi e ha))]
      exact q
  · rcases set_get h with ⟨rfl, e⟩ | ⟨hj, h⟩
    · cases e
    · exact I.st j kk h
  · rcases set_get h with ⟨rfl, e⟩ | ⟨hj, h⟩
    · cases e
    · obtain ⟨b, e, s⟩ := I.fz j ns h
      exact ⟨b, e, s.mono k av'⟩
  · have z1 : ∃ b q1, env[j]? = some (.ow b q1) := by
      rcases set_get h1 with ⟨rfl, e⟩ | ⟨hj, h1⟩
      · exact ⟨bb, xs, hi⟩
      · exact ⟨b1, zs, h1⟩
    have z2 : ∃ b q1, env[j2]? = some (.ow b q1) := by
      rcases set_get h2 with ⟨rfl, e⟩ | ⟨hj, h2⟩
      · exact ⟨bb, xs, hi⟩
      · exact ⟨b2, zs2, h2⟩
    obtain ⟨c1, q1, z1⟩ := z1
    obtain ⟨c2, q2, z2⟩ := z2
    exact I.dist j j2 c1 c2 q1 q2 b z1 z2 h3 h4
  · have e' := I.keep.at_ b o n e
    rw [upd_ne (show b ≠ a from fun z => by subst z; rw [h0] at e; cases e)]
    exact e'
  · refine g.drk w H _ I.dr fun b z => ?_
    rw [upd_ne]
    intro e
    subst e
    exact na (g.zt b z)
  · rw [upd_ne (show b ≠ a from fun z => no (by rw [z]; exact own_a))]; exact e
/-- xs.append(e) -/
theorem psv_app {i : Nat} {x : Str} {px apos cpos : Pos} {KK : PySem.W.Frag} (hKK : X.K = KK) (p : PV X true e ta f) (hN : X.N[i]? = some x) (hv : visB X.env.scope x = true) (hd : dunB x = true)
    (hs : swapsWith (.Call (.Attribute (.Name x px) "append" apos) [e] [] cpos) none pos.line X.env = pure false)
    (hbase : attributeBase (.Name x px) "append" X.env (eval (.Name x px) X.env) = eval (.Name x px) X.env)
    (hfew : ((backTo cpos (starEach [e] X.env)).all (fun x => !x.1) && (backToKw cpos (keywordEach [] X.env)).all (fun x => x.1.isSome)
      && decide ([e].length + ([] : List Keyword).length + (if ([] : List Keyword).isEmpty then 0 else 1) < 30)) = true)
    (hline : (apos.endLine == cpos.line) = true) (hst : starEach [e] X.env = (false, eval e X.env) :: starEach [] X.env) (hplain : (backTo cpos (starEach [] X.env)).any (·.1) = false) :
    PSV X (.Expr (.Call (.Attribute (.Name x px) "append" apos) [e] [] cpos) pos) (tDrop (tBM KK "list" rAppend (tVar i) (tCons ta tNil))) (sApp i f) := by
  subst hKK
  exact (show
    PSV X (.Expr (.Call (.Attribute (.Name x px) "append" apos) [e] [] cpos) pos) (tDrop (tBM X.K "list" rAppend (tVar i) (tCons ta tNil))) (sApp i f) from
  ⟨ps_expr (pe_bm PySem.F.plainAttrs_list PySem.F.slot_list_append PySem.F.type_list_append mt_append (pe_var hN (vis_of hv) (dun1 hd) (dun2 hd)) (pa_cons p.pe pa_nil hst) hbase hfew hline hst hplain) hs, fun g env w σ H D fl env' w' hK I hf F => by
    obtain ⟨y, w1, h1, h2⟩ := bind_some.mp hf
    cases q : env[i]? with
    | none => rw [q] at h2; cases h2
    | some s =>
      rw [q] at h2
      cases s with
      | ow b xs =>
        cases b with
        | true => cases h2
        | false =>
        obtain ⟨a, vs, ea, ha, ra, n0, nt⟩ := I.owL i xs q
        refine ⟨_, ea, .inl ⟨rfl, _, SqL.of ha⟩, ?_⟩
        refine p.vw _ env w σ H _ y _ hK I h1 fun v H1 k1 d1 r1 => ?_
        have I1 := I.step k1 d1
        obtain ⟨a', vs', ea', ha', ra', _, _⟩ := I1.owL i xs q
        rw [ea] at ea'
        cases ea'
        have h2 : (if xs.length < line then pure (Fl.nx, env.set i (.ow false (xs ++ [y]))) else fail : M (Fl × En)) w1 = some ((fl, env'), w') := h2
        split at h2
        · rename_i hl
          obtain ⟨e, rfl⟩ := pure_get h2
          cases e
          refine ⟨a, vs', v, rfl, rfl, ha', by rw [ra'.length, ← line_eq]; exact hl, ?_⟩
          obtain ⟨I2, E2⟩ := I1.mut (ys := xs ++ [y]) (us := vs' ++ [v]) q ea rfl (ra'.append (.cons r1 .nil))
          exact F σ _ I2 ((Eff.of_keep I (env1 := env) (σ1 := σ) k1 fun _ h => h).trans E2)
        · cases h2
      | _ => cases h2⟩)

/-- xs[k] = e -/
theorem psv_setItem {i : Nat} {x : Str} {b : Expr} {tb : TE} {k : EF} {px spos : Pos} (q : PV X false b tb k) (p : PV X true e ta f) (hN : X.N[i]? = some x) (hv : visB X.env.scope x = true) (hd : dunB x = true)
    (ha : ∀ v, assign (.Subscript (.Name x px) b spos) X.env v = (do
      let ov ← holding [v] (eval (.Name x px) X.env)
      let iv ← holding [v, ov] (eval b X.env)
      standAt spos
      holding [v, ov, iv] (setItem ov iv v)
      release [v, ov, iv] []))
    (hs : swapsWithSole [.Subscript (.Name x px) b spos] e pos.line X.env = pure false) (hw : swappedStores [.Subscript (.Name x px) b spos] e X.env = pure none)
    (h1 : (assignEach [.Subscript (.Name x px) b spos] X.env).map (·.2) = [assign (.Subscript (.Name x px) b spos) X.env]) :
    PSV X (.Assign [.Subscript (.Name x px) b spos] e pos) (tAsg ta (gSub (tVar i) tb rSetL)) (sSet i k f) :=
  ⟨ps_asg p.pe (pg_sub (pe_var hN (vis_of hv) (dun1 hd) (dun2 hd)) q.pe set_list ha) hs hw h1, fun g env w σ H D fl env' w' hK I hf F => by
    obtain ⟨y, w1, h1, h2⟩ := bind_some.mp hf
    obtain ⟨z, w2, h3, h4⟩ := bind_some.mp h2
    refine p.vw _ env w σ H _ y _ hK I h1 fun v H1 k1 d1 r1 => ?_
    have I1 := I.step k1 d1
    cases qq : env[i]? with
    | none => rw [qq] at h4; cases h4
    | some s =>
      rw [qq] at h4
      cases s with
      | ow b xs =>
        cases b with
        | true => cases z <;> cases h4
        | false =>
        obtain ⟨a, vs, ea, ha, ra, n0, nt⟩ := I1.owL i xs qq
        refine ⟨_, ea, ?_⟩
        refine q.vw _ env _ σ H1 _ z _ hK I1 h3 fun u H2 k2 d2 r2 => ?_
        have I2 := I1.step k2 d2
        obtain ⟨a', vs', ea', ha', ra', _, _⟩ := I2.owL i xs qq
        rw [ea] at ea'
        cases ea'
        cases z with
        | int z =>
          cases r2
          have h4 : (match VE.ixN xs.length z with | some j => pure (Fl.nx, env.set i (.ow false (xs.set j y))) | none => fail : M (Fl × En)) w2 = some ((fl, env'), w') := h4
          cases hj : VE.ixN xs.length z with
          | none => rw [hj] at h4; cases h4
          | some j =>
            rw [hj] at h4
            obtain ⟨e, rfl⟩ := pure_get h4
            cases e
            refine ⟨a, vs', z, j, rfl, rfl, ha', by rw [ra'.length]; exact hj, ?_⟩
            obtain ⟨I3, E3⟩ := I2.mut (ys := xs.set j y) (us := vs'.set j v) qq ea rfl (ra'.set j (r1.keep k2))
            exact F σ _ I3 ((Eff.of_keep I (env1 := env) (σ1 := σ) (k1.trans k2) fun _ h => h).trans E3)
        | _ => cases h4
      | _ => cases h4⟩
end
end VE

namespace VE
open PySem PySem.Spec L2
open PyProof.Rows hiding St
/-! ### loops -/
section
variable {X : Cx} {K : PySem.W.Frag} {m : Bool} {tg iter c : Expr} {body : List Stmt} {wi : TI} {fi : IF} {gt : TG} {ft : GF} {tt : TT} {fT : TF} {tb : TS} {fb : SF} {vs : List Nat} {pos : Pos}
theorem for_core {J : It} {xs : List PyData} {g1 : Gh K} {env envF : En} {w1 wF : W} {σ : SS} {H1 : Hp} {D : Ends} {fl : Fl} (pg : VwG K vs gt ft) (pb : VwS K tb fb) (I1 : StOk g1 env w1 σ H1) (wk : Wk K (av g1 true env σ) (av g1 true env σ) J xs H1)
    (h2 : sFor.go ft fb xs env w1 = some ((fl, envF), wF)) (F1 : Fin g1 env σ H1 D fl envF wF) : tFor (fun _ H R => R J H) gt tb D σ H1 := by
  have hK : True := trivial
  refine ⟨fun i n σ' H' => n = xs.length - i ∧ i ≤ xs.length ∧ ∃ (g2 : Gh K) (ei : En) (wi : W), StOk g2 ei wi σ' H' ∧ Eff g1 g2 env σ H1 ei σ' H' ∧ sFor.go ft fb (xs.drop i) ei wi = some ((fl, envF), wF), ⟨xs.length, by simp, Nat.zero_le _, g1, env, w1, I1, Eff.refl, by rw [List.drop_zero]; exact h2⟩, ?_⟩
  rintro i n σ2 H2 ⟨rfl, hi, g2, ei, wi, I2, E2, hc⟩
  have stay : KeepA (av g1 true env σ) H1 H2 := ⟨fun a o n e => E2.at_ a o (fun z => n (av_z z)) (fun z => n (.inr ⟨rfl, z⟩)) e, E2.live⟩
  obtain ⟨walk, stop⟩ := wk H2 stay
  by_cases hlt : i < xs.length
  · right
    obtain ⟨go, yl⟩ := walk i xs[i] (List.getElem?_eq_getElem hlt)
    have hdrop : xs.drop i = xs[i] :: xs.drop (i + 1) := List.drop_eq_getElem_cons hlt
    rw [hdrop] at hc
    unfold sFor.go at hc
    obtain ⟨env1, w3, h5, h6⟩ := bind_some.mp hc
    obtain ⟨e5, rfl⟩ := lift_get h5
    obtain ⟨⟨fl2, env2⟩, w4, h7, h8⟩ := bind_some.mp h6
    refine ⟨go, fun σ' H' => ∃ m', m' < xs.length - i ∧ (m' = xs.length - (i + 1) ∧ i + 1 ≤ xs.length ∧ ∃ (g2 : Gh K) (ei : En) (wi : W), StOk g2 ei wi σ' H' ∧ Eff g1 g2 env σ H1 ei σ' H' ∧ sFor.go ft fb (xs.drop (i + 1)) ei wi = some ((fl, envF), wF)), fun _ _ h => h, fun v H3 y => ?_⟩
    obtain ⟨sm, rv⟩ := yl v H3 y
    have k3 : Keep g2 g2 H2 H3 := Keep.of_same sm
    have I3 := I2.step k3 (I2.same sm)
    have rv' : Rep K (av g2 true ei σ2) H3 v xs[i] := rv.mon (fun _ _ _ e => e) fun a h => by
      rcases h with h | ⟨_, h⟩
      · exact (E2.t2 a h).imp .inl fun q => ⟨q.1, I2.live a h⟩
      · rcases E2.own a h with z | z
        · exact .inl (.inr ⟨rfl, z⟩)
        · exact .inr ⟨z, I2.owLive h⟩
    refine pg g2 ei _ σ2 H3 v xs[i] env1 _ hK I3 rv' e5 fun σ4 I4 o4 _ _ => ?_
    have E4 : Eff g1 g2 env σ H1 env1 σ4 H3 := E2.trans (Eff.of_keep I2 k3 o4)
    refine pb g2 env1 _ σ4 H3 _ fl2 env2 w4 hK I4 h7 ?_
    cases fl2 with
    | nx => exact fun σ' H' I' E' => ⟨xs.length - (i + 1), by omega, rfl, hlt, _, env2, w4, I', E4.trans E', h8⟩
    | ct => exact fun σ' H' I' E' => ⟨xs.length - (i + 1), by omega, rfl, hlt, _, env2, w4, I', E4.trans E', h8⟩
    | bk =>
      obtain ⟨e, rfl⟩ := pure_get h8
      cases e
      exact fun σ' H' I' E' => F1 σ' H' I' (E4.trans E')
    | rt x =>
      obtain ⟨e, rfl⟩ := pure_get h8
      cases e
      exact F1.after (D := D) E4
  · left
    have e : i = xs.length := by omega
    subst e
    rw [List.drop_length] at hc
    unfold sFor.go at hc
    obtain ⟨e, rfl⟩ := pure_get hc
    cases e
    exact ⟨stop, F1 σ2 H2 I2 E2⟩
theorem vw_for (pi : VwI K true wi fi) (pg : VwG K vs gt ft) (pb : VwS K tb fb) : VwS K (tFor wi gt tb) (sFor fi ft fb) := fun g env w σ H D fl envF wF hK I hf F => by
  obtain ⟨xs, w1, h1, h2⟩ := bind_some.mp hf
  refine pi _ env w σ H _ xs _ hK I h1 fun {g1} J H1 k1 d1 wk => ?_
  exact for_core pg pb (I.step k1 d1) wk h2 (F.after (Eff.of_keep I (env1 := env) (σ1 := σ) k1 fun _ h => h))
theorem psv_for (hc : X.calm = true) (hi : PIV X true tg iter wi fi) (hg : PGV X tg vs gt ft) (hb : PSsV X body tb fb) (hp : PassesOwn (model X.prog X.w) X.A X.env X.xe)
    (hs : ∀ x, foldedSetIterable iter X.env x = pure x) : PSV X (.For tg iter body [] pos) (tFor wi gt tb) (sFor fi ft fb) :=
  ⟨ps_for hp hc hi.pe hg.pe hb.pe hs, vw_for hi.vw hg.vw hb.vw⟩
theorem vw_while (n : Nat) (pt : VwT K tt fT) (pb : VwS K tb fb) : VwS K (tWhile tt tb) (sWhile n fT fb) := fun g env w σ H D fl envF wF hK I hf F => by
  refine ⟨fun n σ' H' => ∃ (g2 : Gh K) (ei : En) (wi : W), StOk g2 ei wi σ' H' ∧ Eff g g2 env σ H ei σ' H' ∧ sWhile.go fT fb n ei wi = some ((fl, envF), wF), ⟨n, g, env, w, I, Eff.refl, hf⟩, ?_⟩
  rintro n σ2 H2 ⟨g2, ei, wi, I2, E2, hc⟩
  cases n with
  | zero => cases hc
  | succ n =>
    unfold sWhile.go at hc
    obtain ⟨b, w1, h1, h2⟩ := bind_some.mp hc
    refine pt g2 ei wi σ2 H2 _ b _ hK I2 h1 fun {g3} H3 k3 d3 => ?_
    have I3 := I2.step k3 d3
    have E3 : Eff g g3 env σ H ei σ2 H3 := E2.trans (Eff.of_keep I2 k3 fun _ h => h)
    cases b with
    | false =>
      rw [if_neg Bool.false_ne_true] at h2
      rw [if_neg Bool.false_ne_true]
      obtain ⟨e, rfl⟩ := pure_get h2
      cases e
      exact F σ2 H3 I3 E3
    | true =>
      rw [if_pos rfl] at h2
      rw [if_pos rfl]
      obtain ⟨⟨fl2, env2⟩, w4, h7, h8⟩ := bind_some.mp h2
      refine ⟨fun σ' H' => ∃ m', m' < n + 1 ∧ ∃ (g2 : Gh K) (ei : En) (wi : W), StOk g2 ei wi σ' H' ∧ Eff g g2 env σ H ei σ' H' ∧ sWhile.go fT fb m' ei wi = some ((fl, envF), wF), fun _ _ h => h, ?_⟩
      refine pb g3 ei w1 σ2 H3 _ fl2 env2 w4 hK I3 h7 ?_
      cases fl2 with
      | nx => exact fun σ' H' I' E' => ⟨n, Nat.lt_succ_self _, _, env2, w4, I', E3.trans E', h8⟩
      | ct => exact fun σ' H' I' E' => ⟨n, Nat.lt_succ_self _, _, env2, w4, I', E3.trans E', h8⟩
      | bk =>
        obtain ⟨e, rfl⟩ := pure_get h8
        cases e
        exact fun σ' H' I' E' => F σ' H' I' (E3.trans E')
      | rt x =>
        obtain ⟨e, rfl⟩ := pure_get h8
        cases e
        exact F.after (D := D) E3
theorem psv_while {n : Nat} (hc : PTV X c tt fT) (hb : PSsV X body tb fb) (hp : PassesOwn (model X.prog X.w) X.A X.env X.xe) : PSV X (.While c body [] pos) (tWhile tt tb) (sWhile n fT fb) :=
  ⟨ps_while hp hc.pe hb.pe, vw_while n hc.vw hb.vw⟩
end

/-! ### a def -/
theorem start_get {N : List Str} {vs : List V} {i : Nat} {v : V} (h : vs[i]? = some v) : (L2.start N vs)[i]? = some (some v) := by
  unfold L2.start
  have hl := (List.getElem?_eq_some_iff.mp h).1
  rw [List.getElem?_append_left (by rw [List.length_map]; exact hl), List.getElem?_map, h]
  rfl
theorem stok_start {K : PySem.W.Frag} {T : Addr → Prop} {H : Hp} {vs : List V} {xs : List PyData} {N : List Str} {nl : Nat} (lv : ∀ a, T a → H a ≠ none) (r : Reps K T H vs xs) (hN : N.length - vs.length = nl) (w : W) :
    StOk (K := K) { Z := fun _ => False, T := T, H0 := H, sd := 0, sc := 0, wd := 0, kd := 0, one := fun h => (nomatch h), two := fun h => (nomatch h), dr := fun _ _ => True, zt := fun _ h => h.elim, drk := fun _ _ _ _ _ => trivial } (xs.map Slot.sh ++ List.replicate nl Slot.no) w (L2.start N vs) H := by
  have slot : ∀ (i : Nat) s, (xs.map Slot.sh ++ List.replicate nl Slot.no)[i]? = some s → (∃ x, s = .sh x ∧ xs[i]? = some x) ∨ s = .no := fun i s h => by
    by_cases hi : i < xs.length
    · rw [List.getElem?_append_left (by rw [List.length_map]; exact hi), List.getElem?_map] at h
      cases q : xs[i]? with
      | none => rw [q] at h; cases h
      | some x => rw [q] at h; exact .inl ⟨x, (Option.some.inj h).symm, rfl⟩
    · rw [List.getElem?_append_right (by rw [List.length_map]; omega)] at h
      exact .inr (List.eq_of_mem_replicate (List.mem_of_getElem? h))
  have noown : ∀ a, ¬ ownA (xs.map Slot.sh ++ List.replicate nl Slot.no) (L2.start N vs) a := fun a ⟨i, b, ys, h, _⟩ => by
    rcases slot i _ h with ⟨x, e, _⟩ | e <;> cases e
  refine ⟨?_, fun i x h => ?_, fun i b ys h => ?_, fun i kk h => ?_, fun i ns h => ?_, fun i j b c ys zs a h _ _ _ => ?_, lv, KeepA.refl _ _, trivial⟩
  · unfold L2.start
    rw [List.length_append, List.length_append, List.length_map, List.length_map, List.length_replicate, List.length_replicate, r.length]
    rw [r.length] at hN
    omega
  · rcases slot i _ h with ⟨x', e, hx⟩ | e
    · cases e
      obtain ⟨v, hv, rv⟩ := r.get hx
      exact ⟨v, start_get hv, rv.mon (fun _ _ _ e => e) fun a z => z.elim id fun z => (noown a z.2).elim⟩
    · cases e
  · rcases slot i _ h with ⟨x, e, _⟩ | e <;> cases e
  · rcases slot i _ h with ⟨x, e, _⟩ | e <;> cases e
  · rcases slot i _ h with ⟨x, e, _⟩ | e <;> cases e
  · rcases slot i _ h with ⟨x, e, _⟩ | e <;> cases e
theorem runDef_get {np nl : Nat} {body : SF} {xs : List PyData} {y : PyData} (h : runDef np nl body xs = some y) :
    xs.length = np ∧ ∃ fl env' w', body (xs.map .sh ++ List.replicate nl .no) ⟨0, []⟩ = some ((fl, env'), w') ∧ (fl = .rt y ∨ (fl = .nx ∧ y = .none)) := by
  unfold runDef at h
  split at h
  · rename_i hl
    refine ⟨hl, ?_⟩
    split at h
    · rename_i v env' w' e
      cases h
      exact ⟨_, env', w', e, .inl rfl⟩
    · rename_i env' w' e
      cases h
      exact ⟨_, env', w', e, .inr ⟨rfl, rfl⟩⟩
    · cases h
  · cases h
section
variable {P : Program} {w : World} {K : PySem.W.Frag} {mg : Str → Option Value} {base : Heap}
/-- a def keeps the promise that its mirror makes -/
theorem fn_def {x qual : Str} {st : Stmt} {f : Addr} {fd : FuncData} {N ps : List Str} {k : Nat} {np nl : Nat} {fb : SF} (F : Fun K x qual st f fd) (S : FnScope N ps (defScope st)) (hnp : ps.length = np) (hnl : N.length - np = nl)
    (hb : ∀ (cdv : Value) (A : Around) (outer : List Env) (s : Shared) (H : Hp) (E : XK), Room k (A.deeper (envOfC qual (defScope st) s.heap.objs.size f cdv)) → ∃ t, PSsV (cxOf CX0 P w K mg base N qual (defScope st) f cdv A outer s H E).nox (defBody st) t fb) :
    FnOk P w K mg base CX0 (k + 1) f fd ps (vsp K (runDef np nl fb)) := by
  refine F.ok S (fun vs H Q E h => ?_) (fun cdv A outer s H vs Q E hr h => ?_)
  · obtain ⟨T, xs, y, _, r, hF, _⟩ := h
    rw [r.length, (runDef_get hF).1, hnp]
  · obtain ⟨t, p⟩ := hb cdv A outer s H E hr
    obtain ⟨T, xs, y, lv, r, hF, q⟩ := h
    obtain ⟨hl, fl, env', w', e, hfl⟩ := runDef_get hF
    refine ⟨t, p.pe, ?_⟩
    refine p.vw _ _ _ (L2.start N vs) H _ fl env' w' ?_ (stok_start lv r (by rw [r.length, hl]; exact hnl) ⟨0, []⟩) e ?_
    · trivial
    rcases hfl with rfl | ⟨rfl, rfl⟩
    · exact fun v H' k _ rv => q v H' (fun a o e => k.at_ a o (fun z => z) e) (rv.mon (fun _ _ _ e => e) k.t1)
    · exact fun σ' H' I' E' => q .non H' (fun a o e => I'.keep.at_ a o (fun z => (E'.z2 a z).elim id fun q => by rw [q.1] at e; cases e) (by rw [E'.h0]; exact e)) .non
theorem cal_mk {x : Str} {f : Addr} {fd : FuncData} {ps : List Str} {k : Nat} {F : List PyData → Option PyData} (G : FnOk P w K mg base CX0 k f fd ps (vsp K F)) (hm : mg x = some (.ref f)) (hk : PySem.W.keepIn K (.ref f) = true) (hb : Binds K fd ps []) : Cal P w K mg base x k F := ⟨f, fd, ps, G, hm, hk, hb⟩
theorem Cal.mono {x : Str} {k j : Nat} {F : List PyData → Option PyData} (c : Cal P w K mg base x k F) (h : k ≤ j) : Cal P w K mg base x j F := by
  obtain ⟨f, fd, ps, G, a⟩ := c.ex
  exact ⟨f, fd, ps, G.mono h, a⟩
end
end VE

namespace VE
open PySem
/-! the first lines of _law_state -/
def stateB1 : SF := sOwn 1 (xComp [2] (iLst (xAs (xCutZ 0 oNo (oSome (xC (.int 63)))))) (gNm 2) tYesF (xCall fAbs (xCons (xVar 2) xNil)))
def stateB2 : SF := sIf (xTest (xOp fEq (xCall fLen (xCons (xVarO 1) xNil)) (xC (.int 0)))) (sOwn 1 (xLst (xCons (xC (.int 0)) xNil))) sPass
theorem state_comp (ns : List Int) (env : En) (a b : Slot) (he : env = [.fz ns, a, .no]) : ∀ xs : List Int, compL (gNm 2) tYesF (xCall fAbs (xCons (xVar 2) xNil)) env (xs.map .int) = pure ((xs.map fun i => if i < 0 then -i else i).map .int)
  | [] => rfl
  | x :: r => by
    subst he
    rw [List.map_cons, compL, state_comp ns _ a b rfl r]
    rfl
theorem cut63 (ns : List Int) : cut (ns.map PyData.int) none (some 63) = (ns.take 63).map PyData.int := by
  have e : cut (ns.map PyData.int) none (some 63) = ((ns.map PyData.int).drop 0).take (min 63 (ns.map PyData.int).length - 0) := rfl
  rw [e, List.drop_zero, Nat.sub_zero, List.length_map]
  by_cases h : ns.length ≤ 63
  · rw [Nat.min_eq_right h, List.take_of_length_le (by rw [List.length_map]; exact Nat.le_refl _), List.take_of_length_le h]
  · rw [Nat.min_eq_left (by omega), List.map_take]
theorem stt_bind {α β : Type} (a : α) (k : α → M β) : ((pure a : M α) >>= k) = k a := pure_bind a k
theorem state_run (ns : List Int) : (sSeq stateB1 stateB2) [.fz ns, .no, .no] = pure (.nx, [.fz ns, .ow false ((stateCells ns).map .int), .no]) := by
  have h1 : stateB1 [.fz ns, .no, .no] = pure (.nx, [.fz ns, .ow false (((ns.take 63).map fun i => if i < 0 then -i else i).map .int), .no]) := by
    have e0 : (iLst (xAs (xCutZ 0 oNo (oSome (xC (.int 63)))))) [.fz ns, .no, .no] = pure (cut (ns.map PyData.int) none (some 63)) := rfl
    have hl : ((ns.take 63).map PyData.int).length ≤ line := by
      rw [List.length_map, List.length_take]
      exact Nat.le_trans (Nat.min_le_left _ _) (by decide)
    unfold stateB1 sOwn xComp
    simp only [e0, stt_bind, cut63]
    have ew : wipeE [Slot.fz ns, .no, .no] [2] = some [.fz ns, .no, .no] := rfl
    rw [ew]
    simp only [lift_some, stt_bind, if_pos hl, state_comp ns [.fz ns, .no, .no] .no .no rfl]
    rfl
  unfold sSeq
  simp only [h1, stt_bind]
  unfold stateB2 sIf
  generalize hc : (ns.take 63).map (fun i => if i < 0 then -i else i) = c
  have ec : stateCells ns = if c.length = 0 then [0] else c := by unfold stateCells; rw [hc]
  rw [ec]
  cases c with
  | nil => rfl
  | cons x r =>
    have et : (xTest (xOp fEq (xCall fLen (xCons (xVarO 1) xNil)) (xC (.int 0)))) [.fz ns, .ow false ((x :: r).map .int), .no] = pure false := by
      have : (xOp fEq (xCall fLen (xCons (xVarO 1) xNil)) (xC (.int 0))) [.fz ns, .ow false ((x :: r).map .int), .no] = lift (fEq (.int ((x :: r).map PyData.int).length) (.int 0)) := rfl
      unfold xTest
      rw [this]
      have e2 : fEq (.int ((x :: r).map PyData.int).length) (.int 0) = some (.bool false) := by
        unfold fEq
        have s1 : (shp (.int ((x :: r).map PyData.int).length) && shp (.int 0)) = true := rfl
        rw [if_pos s1]
        have : PyData.eqv (.int ((x :: r).map PyData.int).length) (.int 0) = decide ((((x :: r).map PyData.int).length : Int) = 0) := by
          unfold PyData.eqv
          exact Bool.beq_eq_decide_eq _ _
        rw [this, decide_eq_false]
        rw [List.length_map, List.length_cons]
        omega
      rw [e2]
      rfl
    rw [if_neg (by rw [List.length_cons]; omega)]
    simp only [et, stt_bind]
    rfl
end VE

namespace VE
open PySem PySem.Spec L2
open PyProof.Rows hiding St
/-! ### the law's draws: _law_take(state, most) -/
def spTake (K : PySem.W.Frag) : Sp := fun vs H Q _ => ∃ (D C : Addr) (w : W) (most r : Int) (w' : W), vs = [.ref D, .int most] ∧ D ≠ C ∧ H D = some (.lst [.int w.pos, .ref C]) ∧ H C = some (.lst (w.cells.map V.int)) ∧
  takeW most w = some (r, w') ∧ ∀ H', (∀ a o, a ≠ D → a ≠ C → H a = some o → H' a = some o) → (∀ a, H a ≠ none → H' a ≠ none) → H' D = some (.lst [.int w'.pos, .ref C]) → H' C = some (.lst (w'.cells.map V.int)) → Q (.int r) H'
structure CalT (P : Program) (w : World) (K : PySem.W.Frag) (mg : Str → Option Value) (base : Heap) (x : Str) (k : Nat) : Prop where
  ex : ∃ (f : Addr) (fd : FuncData), FnOk P w K mg base CX0 k f fd ["state", "most"] (spTake K) ∧ mg x = some (.ref f) ∧ PySem.W.keepIn K (.ref f) = true ∧ Binds K fd ["state", "most"] []
theorem takeW_len {most : Int} {w w' : W} {r : Int} (h : takeW most w = some (r, w')) : w'.cells.length = w.cells.length := by
  unfold takeW at h
  split at h
  · dsimp only at h
    split at h
    · cases h
    · split at h
      · cases h; simp
      · cases h; rfl
  · cases h
section
variable {X : Cx} {m : Bool} {i : Nat} {ta : TE} {f : EF} {e : Expr} {pos p px : Pos} {K : PySem.W.Frag}
theorem pv_take {x y : Str} {n : Nat} {KK : PySem.W.Frag} (hKK : X.K = KK) (c : CalT X.prog X.w X.K X.mg X.base x n) (hr : Room n X.A) (q : PV X false e ta f) (hN : X.N[i]? = some y) (hv : visB X.env.scope y = true) (hd : dunB y = true) (hg : Gl X x) (hdb : (x == ("__debug__" : Str)) = false)
    (hst : starEach [e] X.env = (false, eval e X.env) :: starEach [] X.env) (he : starEach [.Name y px, e] X.env = (false, eval (.Name y px) X.env) :: starEach [e] X.env) (hpl : (backTo pos (starEach [e] X.env)).any (·.1) = false) :
    PV X m (.Call (.Name x p) [.Name y px, e] [] pos) (tCall (spTake KK) [] E0 (tCons (tVar i) (tCons ta tNil))) (xTake i f) := by
  subst hKK
  obtain ⟨fa, fd, G, mgf, kp, bi⟩ := c.ex
  refine ⟨pe_call G hr hg mgf kp bi .nil pass0 (pa_cons (pe_var hN (vis_of hv) (dun1 hd) (dun2 hd)) (pa_cons q.pe pa_nil hst) he) hdb he hpl, fun g env w σ H Q x w' hK I hf k => ?_⟩
  obtain ⟨z, w1, h1, h2⟩ := bind_some.mp hf
  cases es : env[i]? with
  | none => rw [es] at h2; cases h2
  | some s =>
    rw [es] at h2
    cases s with
    | st kk =>
      by_cases hk : kk = 1
      · subst hk
        cases z with
        | int most =>
          obtain ⟨r, w2, h3, h4⟩ := bind_some.mp (show (takeW most >>= fun r => pure (PyData.int r)) w1 = some (x, w') from h2)
          obtain ⟨rfl, rfl⟩ := pure_get h4
          obtain ⟨eσ, ek⟩ := (I.st i 1 es).1 (by decide)
          refine ⟨_, eσ, ?_⟩
          refine q.vw _ env w σ H _ _ _ hK I h1 fun {g1} v H1 k1 d1 r1 => ?_
          cases r1
          obtain ⟨hZd, hZc, hne, hdr, hfr⟩ := g1.one (k1.kd.trans ek)
          obtain ⟨eD, eC⟩ := hdr _ _ d1
          refine ⟨g1.sd, g1.sc, w1, most, r, _, by rw [k1.sd]; rfl, hne, eD, eC, h3, fun H' hs hl e1 e2 => ?_⟩
          have I1 := I.step k1 d1
          refine k _ H' (k1.trans ⟨fun a o n ea => hs a o (fun z => n (z ▸ hZd)) (fun z => n (z ▸ hZc)) ea, hl, fun _ t => t, fun _ t => .inl t, fun _ t => t, fun _ t => .inl t, rfl, rfl, rfl, rfl⟩) (hfr _ _ _ _ d1 (fun a z n1 n2 => ?_) e1 e2) (.int _)
          cases ea : H1 a with
          | none => exact absurd ea (I1.live a (g1.zt a z))
          | some o => exact hs a o n1 n2 ea
        | _ => cases h2
      · exfalso
        cases kk with
        | zero => cases z <;> cases h2
        | succ k =>
          cases k with
          | zero => exact hk rfl
          | succ k => cases z <;> cases h2
    | _ => cases h2
end

/-- the script cut, a new list -/
theorem plv_cutZ {X : Cx} {m : Bool} {i : Nat} {px pos p2 : Pos} {x : Str} {lo hi : Option Expr} {tl th : TO} {fl fh : OF} {KK : PySem.W.Frag} (hKK : X.K = KK) (hN : X.N[i]? = some x) (hv : visB X.env.scope x = true) (hd : dunB x = true) (ql : POV X lo tl fl) (qh : POV X hi th fh) :
    PLV X m (.Subscript (.Name x px) (.Slice lo hi none p2) pos) (tSl (rSlL KK) (tVar i) tl th) (xCutZ i fl fh) := by
  subst hKK
  refine ⟨pe_slice sl_list (pe_var hN (vis_of hv) (dun1 hd) (dun2 hd)) ql.pe qh.pe, fun g env w σ H Q x w' hK I hf k => ?_⟩
  obtain ⟨l, w2, h3, h4⟩ := bind_some.mp hf
  obtain ⟨u, w3, h5, h6⟩ := bind_some.mp h4
  cases es : env[i]? with
  | none => rw [es] at h6; cases h6
  | some s =>
    rw [es] at h6
    cases s with
    | fz ns =>
      obtain ⟨rfl, rfl⟩ := pure_get h6
      obtain ⟨a, ea, _⟩ := I.fz i ns es
      refine ⟨_, ea, ?_⟩
      refine ql.vw _ env _ σ H _ l _ hK I h3 fun H2 k2 d2 => ?_
      refine qh.vw _ env _ σ H2 _ u _ hK (I.step k2 d2) h5 fun H3 k3 d3 => ?_
      have I3 := (I.step k2 d2).step k3 d3
      obtain ⟨a', ea', la⟩ := I3.fz i ns es
      rw [ea] at ea'
      cases ea'
      refine ⟨_, _, rfl, la.sq, fun q hq => ?_⟩
      obtain ⟨k4, d4⟩ := I3.new (o := .lst (cutV (ns.map V.int) l u)) hq
      refine k q _ _ ?_ ((k2.trans k3).trans k4) d4 upd_same (cut_rep l u (Reps.ints_map ns))
      exact newAt I3 (k2.trans k3) hq
    | _ => cases h6
/-- _law_state(script): a new list of 0 and a new list of cells -/
def spState (K : PySem.W.Frag) : Sp := fun vs H Q _ => ∃ (a : Addr) (ns : List Int), vs = [.ref a] ∧ SqL K H a (ns.map V.int) ∧ ns.length ≤ 63 ∧
  ∀ H' D C, Same H H' → H D = none → H C = none → D ≠ C → H' D = some (.lst [.int 0, .ref C]) → H' C = some (.lst ((stateCells ns).map V.int)) → Q (.ref D) H'
structure CalS (P : Program) (w : World) (K : PySem.W.Frag) (mg : Str → Option Value) (base : Heap) (x : Str) (k : Nat) : Prop where
  ex : ∃ (f : Addr) (fd : FuncData), FnOk P w K mg base CX0 k f fd ["script"] (spState K) ∧ mg x = some (.ref f) ∧ PySem.W.keepIn K (.ref f) = true ∧ Binds K fd ["script"] []
/-- a law's promise -/
def spLaw (K : PySem.W.Frag) : Sp := fun vs H Q _ => ∃ (a : Addr) (ns : List Int), vs = [.ref a] ∧ SqL K H a (ns.map V.int) ∧ ns.length ≤ 63 ∧ ∀ H', Q (.bl true) H'
end VE

namespace VE
open PySem PySem.Spec L2
open PyProof.Rows hiding St
section
variable {P : Program} {w : World} {K : PySem.W.Frag} {mg : Str → Option Value} {base : Heap}
theorem lstAt_of {K : PySem.W.Frag} {T : Addr → Prop} {H : Hp} {a : Addr} {vs : List V} (h : SqL K H a vs) (n : ∀ o, H a = some o → ¬ T a) : LstAt K T H a vs := by
  rcases h with h | h
  · rcases h with h | ⟨o, h⟩
    · exact .inl ⟨n _ h, .inl h⟩
    · exact .inl ⟨n _ h, .inr ⟨o, h⟩⟩
  · exact .inr h
/-- _law_state: its two first lines by the layer, its return by hand -/
theorem state_ok {f : Addr} {fd : FuncData} {st s1 s2 s3 : Stmt} (F : Fun K "_law_state" "_law_state" st f fd) (S : FnScope ["script", "cells", "cell"] ["script"] (defScope st)) (hb : defBody st = [s1, s2, s3])
    (h1 : ∀ (cdv : Value) (A : Around) (outer : List Env) (s : Shared) (H : Hp) (E : XK), Room 0 (A.deeper (envOfC "_law_state" (defScope st) s.heap.objs.size f cdv)) → ∃ t1 t2, PSV (cxOf CX0 P w K mg base ["script", "cells", "cell"] "_law_state" (defScope st) f cdv A outer s H E).nox s1 t1 stateB1 ∧ PSV (cxOf CX0 P w K mg base ["script", "cells", "cell"] "_law_state" (defScope st) f cdv A outer s H E).nox s2 t2 stateB2 ∧
      PS (cxOf CX0 P w K mg base ["script", "cells", "cell"] "_law_state" (defScope st) f cdv A outer s H E).nox s3 (tRet (tLst (tCons (tC (.int 0)) (tCons (tVar 1) tNil))))) :
    FnOk P w K mg base CX0 1 f fd ["script"] (spState K) := by
  refine F.ok S (fun vs H Q E h => ?_) (fun cdv A outer s H vs Q E hr h => ?_)
  · obtain ⟨_, _, rfl, _⟩ := h; rfl
  obtain ⟨t1, t2, p1, p2, p3⟩ := h1 cdv A outer s H E hr
  obtain ⟨a, ns, rfl, hS, hl, q⟩ := h
  rw [hb]
  refine ⟨_, pss_cons p1.pe (pss_cons p2.pe (pss_one p3)), ?_⟩
  have run := congrFun (state_run ns) ⟨0, []⟩
  have run : (sSeq stateB1 stateB2) [.fz ns, .no, .no] ⟨0, []⟩ = some ((.nx, [.fz ns, .ow false ((stateCells ns).map .int), .no]), ⟨0, []⟩) := run
  obtain ⟨⟨fl1, env1⟩, w1, r1, r2⟩ := bind_some.mp run
  generalize hg : ({ Z := fun _ => False, T := fun _ => False, H0 := H, sd := 0, sc := 0, wd := 0, kd := 0, one := fun h => (nomatch h), two := fun h => (nomatch h), dr := fun _ _ => True, zt := fun _ h => h.elim, drk := fun _ _ _ _ _ => trivial } : Gh K) = g
  have gK : True := trivial
  have gH : g.H0 = H := by rw [← hg]
  have gZ : ∀ a, ¬ g.Z a := by intro a z; rw [← hg] at z; exact z
  have I0 : StOk g [.fz ns, .no, .no] ⟨0, []⟩ [some (.ref a), none, none] H := by
    subst hg
    refine ⟨rfl, fun i x h => ?_, fun i _ xs h => ?_, fun i k h => ?_, fun i ms h => ?_, fun i j _ _ xs ys b h => ?_, fun _ h => h.elim, KeepA.refl _ _, trivial⟩
    · rcases i with _ | _ | _ | i <;> simp at h
    · rcases i with _ | _ | _ | i <;> simp at h
    · rcases i with _ | _ | _ | i <;> simp at h
    · rcases i with _ | _ | _ | i <;> simp at h
      subst h
      refine ⟨a, rfl, lstAt_of hS fun o _ z => ?_⟩
      rcases z with z | ⟨_, j, _, xs, z, _⟩
      · exact z
      · rcases j with _ | _ | _ | j <;> simp at z
    · rcases i with _ | _ | _ | i <;> simp at h
  refine p1.vw g _ _ [some (.ref a), none, none] H _ fl1 env1 w1 gK I0 r1 ?_
  cases fl1 with
  | nx =>
    intro g1 σ1 H1 I1 E1
    refine p2.vw g1 env1 w1 σ1 H1 _ .nx _ ⟨0, []⟩ gK I1 r2 ?_
    intro g2 σ2 H2 I2 E2
    have EE := E1.trans E2
    obtain ⟨C, us, eC, hC, ru, nC, _⟩ := I2.owL 1 _ rfl
    have eu : us = (stateCells ns).map V.int := by
      have hi : asInts ((stateCells ns).map PyData.int) = some (stateCells ns) := by
        generalize stateCells ns = c
        induction c with
        | nil => rfl
        | cons x r ih => rw [List.map_cons, asInts, ih]; rfl
      exact (ru.of_ints hi).1
    subst eu
    refine ⟨_, eC, by show 2 ≤ sizeLine; rw [sizeLine_eq]; decide, fun D hD => ?_⟩
    have sm : Same H H2 := fun b o e => I2.keep.at_ b o (fun z => (EE.z2 b z).elim (gZ b) fun q => by rw [q.1] at e; cases e) (by rw [EE.h0, gH]; exact e)
    have ne : D ≠ C := fun z => by subst z; rw [hD] at hC; cases hC
    refine q _ D C (sm.trans (upd_new hD)) ?_ ?_ ne upd_same (by rw [upd_ne ne.symm]; exact hC)
    · cases z : H D with
      | none => rfl
      | some o => rw [sm D o z] at hD; cases hD
    · rw [← gH, ← EE.h0]; exact nC
  | bk => obtain ⟨e, _⟩ := pure_get r2; cases e
  | ct => obtain ⟨e, _⟩ := pure_get r2; cases e
  | rt x => obtain ⟨e, _⟩ := pure_get r2; cases e
def lawGh (K : PySem.W.Frag) (D C : Addr) (H : Hp) (hne : D ≠ C) : Gh K :=
  { Z := fun b => b = D ∨ b = C, T := fun b => b = D ∨ b = C, H0 := H, sd := D, sc := C, wd := 0, kd := 1, dr := fun w H => H D = some (.lst [.int w.pos, .ref C]) ∧ H C = some (.lst (w.cells.map V.int)), zt := fun _ h => h, drk := fun w H1 H2 h e => ⟨by rw [e D (.inl rfl)]; exact h.1, by rw [e C (.inr rfl)]; exact h.2⟩, one := fun _ => ⟨.inl rfl, .inr rfl, hne, fun _ _ h => h, fun _ _ _ _ _ _ h1 h2 => ⟨h1, h2⟩⟩, two := fun h => absurd h (by decide) }
/-- a law that draws by _law_take -/
theorem law_ok {f : Addr} {fd : FuncData} {st s1 : Stmt} {rest : List Stmt} {N : List Str} {k i : Nat} {fb : SF} (F : Fun K "law" "law" st f fd) (S : FnScope N ["script"] (defScope st)) (hb : defBody st = s1 :: rest) (hi : 0 < i ∧ i < N.length)
    (h1 : ∀ (cdv : Value) (A : Around) (outer : List Env) (s : Shared) (H : Hp) (E : XK), Room k (A.deeper (envOfC "law" (defScope st) s.heap.objs.size f cdv)) →
      PS (cxOf CX0 P w K mg base N "law" (defScope st) f cdv A outer s H E).nox s1 (tAsg (tCall (spState K) [] E0 (tCons (tVar 0) tNil)) (gName i)) ∧ ∃ t, PSsV (cxOf CX0 P w K mg base N "law" (defScope st) f cdv A outer s H E).nox rest t fb)
    (run : ∀ ns : List Int, ns.length ≤ 63 → ∃ env' w', fb ((Slot.fz ns :: List.replicate (N.length - 1) Slot.no).set i (.st 1)) ⟨0, stateCells ns⟩ = some ((.rt (.bool true), env'), w')) :
    FnOk P w K mg base CX0 (k + 1) f fd ["script"] (spLaw K) := by
  refine F.ok S (fun vs H Q E h => ?_) (fun cdv A outer s H vs Q E hr h => ?_)
  · obtain ⟨_, _, rfl, _⟩ := h; rfl
  obtain ⟨p1, t, p2⟩ := h1 cdv A outer s H E hr
  obtain ⟨a, ns, rfl, hS, hl, q⟩ := h
  rw [hb]
  refine ⟨_, pss_cons p1 p2.pe, ?_⟩
  refine ⟨.ref a, rfl, a, ns, rfl, hS, hl, fun H' D C sm hD hC hne eD eC => ?_⟩
  obtain ⟨env', w', hrun⟩ := run ns hl
  have nD : ∀ o, H a = some o → a ≠ D := fun o e z => by subst z; rw [hD] at e; cases e
  have nC : ∀ o, H a = some o → a ≠ C := fun o e z => by subst z; rw [hC] at e; cases e
  have slot : ∀ (j : Nat) s, ((Slot.fz ns :: List.replicate (N.length - 1) Slot.no).set i (.st 1))[j]? = some s → (j = i ∧ s = .st 1) ∨ (j = 0 ∧ s = .fz ns) ∨ s = .no := fun j s h => by
    rcases set_get h with h | ⟨hj, h⟩
    · exact .inl h
    · cases j with
      | zero => exact .inr (.inl ⟨rfl, by simpa using h.symm⟩)
      | succ j =>
        rw [List.getElem?_cons_succ] at h
        exact .inr (.inr (List.eq_of_mem_replicate (List.mem_of_getElem? h)))
  have hst : L2.start N [.ref a] = some (.ref a) :: List.replicate (N.length - 1) none := rfl
  have noown : ∀ b, ¬ ownA ((Slot.fz ns :: List.replicate (N.length - 1) Slot.no).set i (.st 1)) ((L2.start N [.ref a]).set i (some (.ref D))) b := fun b ⟨j, _, xs, h, _⟩ => by
    rcases slot j _ h with ⟨_, e⟩ | ⟨_, e⟩ | e <;> cases e
  refine p2.vw (lawGh K D C H' hne) _ ⟨0, stateCells ns⟩ _ H' _ (.rt (.bool true)) env' w' trivial ?_ hrun ?_
  · refine ⟨?_, fun j x h => ?_, fun j _ xs h => ?_, fun j k h => ?_, fun j ms h => ?_, fun j j2 _ _ xs ys b h => ?_, fun b h => ?_, KeepA.refl _ _, eD, eC⟩
    · rw [hst]; simp
    · rcases slot j _ h with ⟨_, e⟩ | ⟨_, e⟩ | e <;> cases e
    · rcases slot j _ h with ⟨_, e⟩ | ⟨_, e⟩ | e <;> cases e
    · rcases slot j _ h with ⟨e1, e⟩ | ⟨_, e⟩ | e
      · cases e
        subst e1
        refine ⟨fun _ => ⟨?_, rfl⟩, fun z => nomatch z⟩
        rw [List.getElem?_set_self (by rw [hst, List.length_cons, List.length_replicate]; omega)]
        rfl
      · cases e
      · cases e
    · rcases slot j _ h with ⟨_, e⟩ | ⟨e1, e⟩ | e
      · cases e
      · cases e
        subst e1
        refine ⟨a, ?_, (lstAt_of (T := av (lawGh K D C H' hne) true ((Slot.fz ns :: List.replicate (N.length - 1) Slot.no).set i (.st 1)) ((L2.start N [.ref a]).set i (some (.ref D)))) hS fun o e z => ?_).mono (fun b o _ e => sm b o e) fun _ z => z⟩
        · rw [List.getElem?_set_ne (by omega), hst]
          rfl
        · rcases z with (z | z) | ⟨_, z⟩
          · exact nD o e z
          · exact nC o e z
          · exact noown _ z
      · cases e
    · rcases slot j _ h with ⟨_, e⟩ | ⟨_, e⟩ | e <;> cases e
    · rcases h with h | h
      · subst h; rw [eD]; simp
      · subst h; rw [eC]; simp
  · intro g2 v H'' _ _ rv
    cases rv
    exact q H''
end
end VE

namespace VE
open PySem PySem.Spec L2
open PyProof.Rows hiding St
section
variable {X : Cx} {m : Bool} {e a b c tg : Expr} {es elts : List Expr} {ta : TE} {tas : TA} {f : EF} {fs : AF} {p pos tpos : Pos} {kk : Nat} {K : PySem.W.Frag}
/-! ### enumerate, zip -/
theorem zip_at : ∀ {xs ys : List PyData} {i : Nat} {z : PyData}, (zipD xs ys)[i]? = some z → ∃ x y, xs[i]? = some x ∧ ys[i]? = some y ∧ z = .tuple [x, y]
  | [], _, i, z, h => by simp [zipD] at h
  | _ :: _, [], i, z, h => by simp [zipD] at h
  | x :: xs, y :: ys, 0, z, h => by
    simp only [zipD, List.getElem?_cons_zero, Option.some.injEq] at h
    exact ⟨x, y, rfl, rfl, h.symm⟩
  | x :: xs, y :: ys, i + 1, z, h => by
    simp only [zipD, List.getElem?_cons_succ] at h
    simpa using zip_at h
theorem zip_len : ∀ (xs ys : List PyData), (zipD xs ys).length = min xs.length ys.length
  | [], _ => by simp [zipD]
  | _ :: _, [] => by simp [zipD]
  | x :: xs, y :: ys => by simp [zipD, zip_len xs ys]
theorem enum_at : ∀ {xs : List PyData} {n i : Nat} {z : PyData}, (enumD n xs)[i]? = some z → ∃ x, xs[i]? = some x ∧ z = .tuple [.int ((n + i : Nat) : Int), x]
  | [], n, i, z, h => by simp [enumD] at h
  | x :: xs, n, 0, z, h => by
    simp only [enumD, List.getElem?_cons_zero, Option.some.injEq] at h
    exact ⟨x, rfl, h.symm⟩
  | x :: xs, n, i + 1, z, h => by
    simp only [enumD, List.getElem?_cons_succ] at h
    obtain ⟨y, h1, h2⟩ := enum_at h
    exact ⟨y, by simpa using h1, by rw [h2, show n + 1 + i = n + (i + 1) by omega]⟩
theorem enum_len : ∀ (n : Nat) (xs : List PyData), (enumD n xs).length = xs.length
  | n, [] => rfl
  | n, x :: xs => by simp [enumD, enum_len (n + 1) xs]
/-- a new tuple (v, u) at a place that nothing holds -/
theorem rep_new2 {A B : Addr → Prop} {H1 H2 : Hp} {T : Addr} {v u : V} {x y : PyData} (k : KeepA A H1 H2) (lv : ∀ a, B a → H1 a ≠ none) (hT : H2 T = none)
    (r1 : Rep K (fun a => B a ∨ (H1 a = none ∧ H2 a ≠ none)) H2 v x) (r2 : Rep K (fun a => B a ∨ (H1 a = none ∧ H2 a ≠ none)) H2 u y) :
    Same H2 (upd H2 T (.tup [v, u])) ∧ Rep K (fun a => B a ∨ (H1 a = none ∧ H2 a ≠ none)) (upd H2 T (.tup [v, u])) (.ref T) (.tuple [x, y]) := by
  have s : Same H2 (upd H2 T (.tup [v, u])) := fun a o e => upd_new hT a o e
  refine ⟨s, .tup (.inl ⟨fun z => z.elim (fun z => k.live T (lv T z) hT) fun z => z.2 hT, .inl upd_same⟩) ?_⟩
  exact .cons (r1.mon (fun a o _ e => s a o e) fun _ z => z) (.cons (r2.mon (fun a o _ e => s a o e) fun _ z => z) .nil)
theorem wk_zip {A B : Addr → Prop} {H1 : Hp} {p q : Addr} {vs us : List V} {xs ys : List PyData} (ab : ∀ a, A a → B a) (lv : ∀ a, B a → H1 a ≠ none) (n : ¬ A p) (e : H1 p = some (.lst vs)) (r : Reps K B H1 vs xs)
    (n' : ¬ A q) (e' : H1 q = some (.lst us)) (r' : Reps K B H1 us ys) : Wk K A B (Itz K p q) (zipD xs ys) H1 := fun H2 k => by
  have e2 : H2 p = some (.lst vs) := k.at_ p _ n e
  have e3 : H2 q = some (.lst us) := k.at_ q _ n' e'
  have r2 := reps_stay ab k r
  have r3 := reps_stay ab k r'
  refine ⟨fun i z hz => ?_, vs, us, SqL.of e2, SqL.of e3, ?_⟩
  · obtain ⟨x, y, hx, hy, rfl⟩ := zip_at hz
    obtain ⟨v, hv, rv⟩ := r2.get hx
    obtain ⟨u, hu, ru⟩ := r3.get hy
    refine ⟨⟨vs, us, v, u, SqL.of e2, SqL.of e3, hv, hu⟩, fun w H3 yl => ?_⟩
    obtain ⟨T, v', u', rfl, hT, rfl, h1, h2⟩ := yl
    have : v' = v := Option.some.inj ((h1 vs (SqL.of e2)).symm.trans hv)
    subst this
    have : u' = u := Option.some.inj ((h2 us (SqL.of e3)).symm.trans hu)
    subst this
    exact rep_new2 k lv hT rv ru
  · rw [zip_len, ← r.length, ← r'.length]; omega
theorem wk_enum {A B : Addr → Prop} {H1 : Hp} {p : Addr} {vs : List V} {xs : List PyData} (ab : ∀ a, A a → B a) (lv : ∀ a, B a → H1 a ≠ none) (n : ¬ A p) (e : H1 p = some (.lst vs)) (r : Reps K B H1 vs xs) :
    Wk K A B (Ite K p) (enumD 0 xs) H1 := fun H2 k => by
  have e2 : H2 p = some (.lst vs) := k.at_ p _ n e
  have r2 := reps_stay ab k r
  refine ⟨fun i z hz => ?_, vs, SqL.of e2, ?_⟩
  · obtain ⟨x, hx, rfl⟩ := enum_at hz
    rw [Nat.zero_add]
    obtain ⟨v, hv, rv⟩ := r2.get hx
    refine ⟨⟨vs, v, SqL.of e2, hv⟩, fun w H3 yl => ?_⟩
    obtain ⟨T, v', rfl, hT, rfl, h1⟩ := yl
    have : v' = v := Option.some.inj ((h1 vs (SqL.of e2)).symm.trans hv)
    subst this
    exact rep_new2 k lv hT (.int _) rv
  · rw [enum_len, ← r.length]; exact Nat.le_refl _
theorem piv_enum {KK : PySem.W.Frag} (hKK : X.K = KK) (hm : X.mg "enumerate" = none) (q : PAV X true [a] tas fs) (hg : Gl X "enumerate") (hs : starEach [a] X.env = [(false, eval a X.env)]) :
    PIV X m (.Tuple elts kk tpos) (.Call (.Name "enumerate" p) [a] [] pos) (iEnum KK tas) (iEnumV fs) := by
  subst hKK
  exact (show PIV X m (.Tuple elts kk tpos) (.Call (.Name "enumerate" p) [a] [] pos) (iEnum X.K tas) (iEnumV fs) from ⟨pi_enum hg hm q.pe hs, fun g env w σ H R xs w' hK I hf k => by
  obtain ⟨ys, w1, h1, h2⟩ := bind_some.mp hf
  refine q.vw _ env w σ H _ ys _ hK I h1 fun vs H1 k1 d1 r1 => ?_
  have I1 := I.step k1 d1
  split at h2
  · obtain ⟨rfl, rfl⟩ := pure_get h2
    obtain ⟨v, rfl, r⟩ := reps1 r1
    cases r with
    | lst n e r => exact ⟨_, _, rfl, SqL.of e, k _ H1 k1 d1 (wk_enum (fun _ => av_le) (fun a z => I1.avLive z) (fun z => n (av_le z)) e r)⟩
  · cases h2⟩)
theorem piv_zip {KK : PySem.W.Frag} (hKK : X.K = KK) (hm : X.mg "zip" = none) (q : PAV X true [a, b] tas fs) (hg : Gl X "zip") (hs : starEach [a, b] X.env = (false, eval a X.env) :: starEach [b] X.env) (hpl : (backTo pos (starEach [b] X.env)).any (·.1) = false) :
    PIV X m (.Tuple elts kk tpos) (.Call (.Name "zip" p) [a, b] [] pos) (iZip KK tas) (iZipV fs) := by
  subst hKK
  exact (show PIV X m (.Tuple elts kk tpos) (.Call (.Name "zip" p) [a, b] [] pos) (iZip X.K tas) (iZipV fs) from ⟨pi_zip hg hm q.pe hs hpl, fun g env w σ H R xs w' hK I hf k => by
  obtain ⟨ys, w1, h1, h2⟩ := bind_some.mp hf
  refine q.vw _ env w σ H _ ys _ hK I h1 fun vs H1 k1 d1 r1 => ?_
  have I1 := I.step k1 d1
  split at h2
  · obtain ⟨rfl, rfl⟩ := pure_get h2
    obtain ⟨v, u, rfl, r, r'⟩ := reps2 r1
    cases r with
    | lst n e r => cases r' with
      | lst n' e' r' => exact ⟨_, _, _, _, rfl, SqL.of e, SqL.of e', k _ H1 k1 d1 (wk_zip (fun _ => av_le) (fun a z => I1.avLive z) (fun z => n (av_le z)) e r (fun z => n' (av_le z)) e' r')⟩
  · cases h2⟩)
/-! ### x in xs, deep -/
theorem ov_inD : OpV K (rInD K) fInD := fun T H u v x y z Q lv r1 r2 e q => by
  unfold fInD at e
  split at e
  · rename_i ys
    split at e
    · rename_i hc
      rw [Bool.and_eq_true] at hc
      cases e
      exact ⟨x, ys, r1.dp, r2.dp, hc.1, hc.2, q _ H (Same.refl H) (.bl _)⟩
    · cases e
  · cases e
theorem ov_notInD : OpV K (rNotInD K) fNotInD := fun T H u v x y z Q lv r1 r2 e q => by
  unfold fNotInD at e
  split at e
  · rename_i ys
    split at e
    · rename_i hc
      rw [Bool.and_eq_true] at hc
      cases e
      exact ⟨x, ys, r1.dp, r2.dp, hc.1, hc.2, q _ H (Same.refl H) (.bl _)⟩
    · cases e
  · cases e
theorem inD' {KK : PySem.W.Frag} {k : Nat} (hKK : X.K = KK) (hr : Room k X.A) : OpR X (compareOp .In) (rInD KK) := by
  subst hKK
  exact op_inD (by have := hr.un; omega)
theorem notInD' {KK : PySem.W.Frag} {k : Nat} (hKK : X.K = KK) (hr : Room k X.A) : OpR X (compareOp .NotIn) (rNotInD KK) := by
  subst hKK
  exact op_notInD (by have := hr.un; omega)
end
section
variable {P : Program} {w : World} {K : PySem.W.Frag} {mg : Str → Option Value} {base : Heap}
/-- a mirror that tells nothing binds a def to nothing -/
theorem fn_none {x qual : Str} {st : Stmt} {f : Addr} {fd : FuncData} {N ps : List Str} (F : Fun K x qual st f fd) (S : FnScope N ps (defScope st)) : FnOk P w K mg base CX0 1 f fd ps (vsp K fun _ => none) := by
  refine F.ok (k := 0) S (fun vs H Q E h => ?_) (fun cdv A outer s H vs Q E hr h => ?_)
  · obtain ⟨T, xs, y, _, _, hF, _⟩ := h
    cases hF
  · obtain ⟨T, xs, y, _, _, hF, _⟩ := h
    cases hF
end
end VE
namespace VE
open PySem PySem.Spec L2
open PyProof.Rows hiding St
section
variable {X : Cx} {m : Bool} {a : Expr} {ta : TE} {f : EF} {p pos p2 pos2 : Pos} {K : PySem.W.Frag}
theorem reps_rgV {T : Addr → Prop} {H : Hp} (i j : Int) : Reps K T H (rgV i j) (rangeL i j) := by
  unfold rgV rangeL
  induction List.range (j - i).toNat with
  | nil => exact .nil
  | cons x r ih => exact .cons (.int _) ih
theorem plv_listR1 (hc : X.calm = true) (hm : X.mg "list" = none) (hm2 : X.mg "range" = none) (q : PV X m a ta f) (hg : Gl X "list") (hg2 : Gl X "range") (na : starEach [.Call (.Name "range" p2) [a] [] pos2] X.env = (false, eval (.Call (.Name "range" p2) [a] [] pos2) X.env) :: starEach [] X.env) (na2 : starEach [a] X.env = [(false, eval a X.env)]) :
    PLV X m (.Call (.Name "list" p) [.Call (.Name "range" p2) [a] [] pos2] [] pos) (tLstRg (tRg1 ta)) (xListR1 f) := ⟨pe_listRg hc hg hm (prg_1 hg2 hm2 q.pe na2) na, fun g env w σ H Q x w' hK I hf k => by
  obtain ⟨y, w1, h1, h2⟩ := bind_some.mp hf
  refine q.vw _ env w σ H _ y _ hK I h1 fun v H1 k1 d1 r1 => ?_
  split at h2
  · rename_i j
    split at h2
    · rename_i hj
      obtain ⟨rfl, rfl⟩ := pure_get h2
      cases r1
      rw [Bool.and_eq_true, decide_eq_true_eq, decide_eq_true_eq] at hj
      refine ⟨j, rfl, RgOk.of_le (by decide) hj.2 (by decide) hj.1, fun q hq => ?_⟩
      have I1 := I.step k1 d1
      obtain ⟨k2, d2⟩ := I1.new (o := .lst (rgV 0 j)) hq
      refine k q _ _ ?_ (k1.trans k2) d2 upd_same (reps_rgV 0 j)
      exact newAt I1 k1 hq
    · cases h2
  · cases h2⟩
end
end VE
namespace VE
open PySem PySem.Spec L2
open PyProof.Rows hiding St
theorem blkOk_eq {N N' : List Str} {sc sc' scope : Scope} {own : List (Str × Nat)} (h1 : N' = N) (h2 : sc' = sc) (h : blkC N sc scope own = true) : BlkOk N' sc' scope own := by
  subst h1; subst h2
  exact blkOk_by h
end VE

namespace VE
open PySem PySem.Spec L2 PyProof.Rows
abbrev noneS (w : World) : Obj := { cls := .type "set", dict := none, data := .set #[] 0 (.fresh 0 0 (!w.params.followText "set-order")) }
section
variable {P : Program} {w : World} {A : Around} {E : Value → Shared → Prop} {s : Shared}
theorem call_set_lstI {src : Addr} {arr : Array Value} (zs : List Int) {Q : Value → Shared → Prop} (calmA : A.handled = none) (isl : s.heap.IsList src arr) (gints : IntsAre arr.toList zs) (roomy : zs.length + 1 < scanBound)
    (hQ : ∀ (hp1 : Heap) (tk c : Nat), SetR w hp1 s.heap.objs.size (fun j => decide (j ∈ zs)) c → c ≤ zs.length → (∀ b o, s.heap.get? b = some o → hp1.get? b = some o) → Q (.ref s.heap.objs.size) { s with heap := hp1, toks := tk }) :
    wpAny (model P w) A (call (.type "set") [.ref src]) Q E s := by
  have sz : arr.size = zs.length := by
    have q := IntsAre.length gints
    rw [Array.length_toList] at q
    exact q
  obtain ⟨c, tl, mro1⟩ := F.called_set.mro
  have made1 := F.called_set.made
  have sub1 := F.called_set.sub
  refine wpAny_call (codeAny_of_tree ?_)
  show wpAny _ _ (callAny (.type "set") _) _ _ _
  refine wpAny_pure ⟨Code.quiet_builtin _ (by decide +kernel), codeAny_builtin F.entry_type_call ?_⟩
  rw [Around.under_plain (weight_type_call_type "set" [.ref src] []) rfl]
  have nt1 := F.called_set.notType
  have cc1 := F.called_set.canCreate
  have tc1 := F.typeCall_set_1 (.ref src)
  repeat (any_goals (first | assumption | wp_step))

  refine codeAny_mono (code_set_led1 (.ref src) (E := E) (Q₁ := fun obj sa => obj = .ref s.heap.objs.size ∧ sa = { s with heap := s.heap.push (noneS w) }) ⟨rfl, rfl⟩) fun r sa res => ?_
  cases r with
  | error e => exact res
  | ok fl =>
    cases fl with
    | ret obj =>
      obtain ⟨rfl, rfl⟩ := res
      have atS : (s.heap.push (noneS w)).get? s.heap.objs.size = some (noneS w) := Heap.get?_push_size _ rfl
      have tyS : Shared.TypeIs { s with heap := s.heap.push (noneS w) } (.ref s.heap.objs.size) "set" := ⟨_, atS, rfl⟩
      have li1 := F.called_set.init.lookup
      have bi1 := F.called_set.init.bind (.ref s.heap.objs.size)
      repeat (any_goals (first | assumption | wp_step))

      refine codeAny_mono (codeAny_call_builtin (R := wants (fun r sb2 => r = .none ∧ ∃ hp1 tk c, sb2 = { s with heap := hp1, toks := tk } ∧ SetR w hp1 s.heap.objs.size (fun j => decide (j ∈ zs)) c ∧ c ≤ zs.length ∧
          (∀ b o, s.heap.get? b = some o → hp1.get? b = some o)) E) F.called_set.init.plain F.entry_set_init (check_set_init_1 tyS ?_)) fun ra2 sb2 res2 => ?_
      · obtain ⟨os1, gsrc, kc, cap, kd⟩ := isl
        obtain ⟨k1, k2, k3, k4⟩ := os1
        simp only at kc kd
        subst kc; subst kd
        have gsrc2 : (s.heap.push (noneS w)).get? src = some { cls := .type "list", dict := k2, data := .seq arr cap, slots := k4 } := Heap.get?_push_of_some _ gsrc
        have ns1 := F.sub_list_set
        have ns2 := F.sub_list_frozenset
        have nd1 : (Value.type "list" == Value.type "dict") = false := by decide
        have isl2 : (s.heap.push (noneS w)).IsList src arr := ⟨_, gsrc2, rfl, cap, rfl⟩
        unfold Builtin.«set.__init__» noKeywords Builtin.Frozenset.updateFrom
        generalize pit : pyIter = it0
        wp_walk
        subst pit

        refine wpAny_pyIter_list isl2 ?_
        refine wpAny_bind (wpAny_runValue ?_)
        have below : src < s.heap.objs.size := Heap.lt_size gsrc
        have calm3 : A.in1.in1.in1.handled = none := by simp [calmA]
        have zz1 : (s.heap.push (noneS w)).objs.size = s.heap.objs.size + 1 := Heap.size_push ..
        have away : src ≠ (s.heap.push (noneS w)).objs.size := by
          rw [Heap.size_push]; exact Nat.ne_of_lt (Nat.lt_succ_of_lt below)
        have notin : s.heap.objs.size ∉ [(s.heap.push (noneS w)).objs.size, src] := by
          rw [Heap.size_push]; simp only [List.mem_cons, List.mem_singleton, List.not_mem_nil, or_false, not_or]
          exact ⟨Nat.ne_of_lt (Nat.lt_succ_self _), Nat.ne_of_gt below⟩
        have vals : ∀ (i : Nat) (v : Value), arr[i]? = some v → ∃ k t, zs[i]? = some k ∧ v = .int k t := fun i v hv => by
          have hi : i < zs.length := by rw [← sz]; exact (Array.getElem?_eq_some_iff.mp hv).1
          obtain ⟨t, e⟩ := PyProof.Rows.IntsAre.int_at gints i v (by rw [Array.getElem?_toList]; exact hv)
          refine ⟨zs[i], t, List.getElem?_eq_getElem hi, ?_⟩
          rw [e, List.getD_eq_getElem?_getD, List.getElem?_eq_getElem hi] <;> rfl
        refine set_update_ints ((Walks.list calm3 _ src away arr).toS) s.heap.objs.size
          notin zs sz roomy vals (arr.size - 0) 0 _ (by omega) (Nat.zero_le _)
          ⟨⟨_, Heap.get?_push_size _ rfl, rfl, rfl⟩, (isl2.push _)⟩ ?hS0 ?hR
        case hS0 =>
          have got : ((s.heap.push (noneS w)).push { cls := .type "list_iterator", data := .fields #[.ref src, .int 0 0] }).get? s.heap.objs.size
              = some (noneS w) := Heap.get?_push_of_some _ atS
          exact ⟨0, Nat.le_refl 0, setR_new_at got⟩
        case hR =>
          intro t1 c1 mv le1 done1
          obtain ⟨hp1, gg, dd1, tk1, oo1⟩ := t1
          have q1 : gg = s.gens := mv.gens
          have q2 : dd1 = s.drawn := mv.drawn
          have q3 : oo1 = s.os := mv.os
          subst q1; subst q2; subst q3
          show wpAny _ _ _ _ _ _
          refine wpAny_pure ?_
          show wpAny _ _ (ret Value.none) _ _ _
          rw [sz] at le1
          refine wpAny_pure ⟨rfl, hp1, tk1, c1, rfl, done1, le1, fun b o e => ?_⟩
          have u0 : b < s.heap.objs.size := Heap.lt_size e
          have u1 : b ≠ s.heap.objs.size := Nat.ne_of_lt u0
          have u2 : b ≠ (s.heap.push (noneS w)).objs.size := by
            rw [Heap.size_push]; exact Nat.ne_of_lt (Nat.lt_succ_of_lt u0)
          exact mv.heap b o (by simp only [List.mem_cons, List.mem_singleton, List.not_mem_nil, or_false, not_or]; exact ⟨u1, u2⟩) (Heap.get?_push_of_some _ (Heap.get?_push_of_some _ e))

      · cases ra2 with
        | error e => exact res2
        | ok fl2 =>
          cases fl2 with
          | ret r =>
            obtain ⟨rfl, hp1, tk, c1, rfl, done1, le1, kept1⟩ := res2
            repeat (any_goals (first | assumption | wp_step))
            exact hQ _ _ _ done1 le1 kept1
          | _ => exact res2.elim
    | _ => exact res.elim

end
end VE

namespace VE
open PySem PySem.Spec L2
open PyProof.Rows hiding St
/-! ### set(xs) of whole numbers: its length, its order -/
theorem meet_step (ns : List Int) (x : Int) : step_dedup ns x = if ns.any (· == x) then ns else ns ++ [x] := rfl
theorem metF : ∀ (xs acc : List Int), acc.Nodup → (xs.foldl step_dedup acc).Nodup ∧ ∀ k, k ∈ xs.foldl step_dedup acc ↔ k ∈ acc ∨ k ∈ xs
  | [], acc, h => ⟨h, fun k => by simp⟩
  | x :: r, acc, h => by
    have h2 : (step_dedup acc x).Nodup ∧ ∀ k, k ∈ step_dedup acc x ↔ k ∈ acc ∨ k = x := by
      rw [meet_step]
      split
      · rename_i hx
        rw [List.any_eq_true] at hx
        obtain ⟨y, hy, e⟩ := hx
        have e := eq_of_beq e
        subst e
        exact ⟨h, fun k => ⟨.inl, fun z => z.elim id fun e => e ▸ hy⟩⟩
      · rename_i hx
        refine ⟨?_, fun k => by simp⟩
        rw [List.nodup_append]
        refine ⟨h, by simp, fun a ha b hb e => hx ?_⟩
        have : b = x := by simpa using hb
        subst this
        exact List.any_eq_true.mpr ⟨a, ha, by simp [e]⟩
    obtain ⟨h3, h4⟩ := metF r _ h2.1
    refine ⟨h3, fun k => ?_⟩
    show k ∈ r.foldl step_dedup (step_dedup acc x) ↔ _
    rw [h4 k, h2.2 k, List.mem_cons, or_assoc]
theorem met_eq (ns : List Int) : firstMet (fun i => ns.getD i 0) ns.length = ns.foldl step_dedup [] := by
  unfold firstMet
  congr 1
  refine List.ext_getElem? fun i => ?_
  rw [List.getElem?_map]
  by_cases hi : i < ns.length
  · rw [List.getElem?_range hi, List.getElem?_eq_getElem hi, Option.map_some, List.getD_eq_getElem?_getD, List.getElem?_eq_getElem hi]
    rfl
  · rw [List.getElem?_eq_none (by rw [List.length_range]; omega), List.getElem?_eq_none (by omega)]
    rfl
theorem oneI_spec : ∀ ns : List Int, (oneI ns).Nodup ∧ ∀ k, k ∈ oneI ns ↔ k ∈ ns
  | [] => ⟨by simp [oneI], fun k => by simp [oneI]⟩
  | x :: r => by
    obtain ⟨h1, h2⟩ := oneI_spec r
    unfold oneI
    split
    · rename_i hx
      rw [decide_eq_true_eq] at hx
      refine ⟨h1, fun k => ?_⟩
      rw [h2 k, List.mem_cons]
      exact ⟨.inr, fun z => z.elim (fun e => e ▸ hx) id⟩
    · rename_i hx
      rw [decide_eq_true_eq] at hx
      exact ⟨List.nodup_cons.mpr ⟨fun z => hx ((h2 x).mp z), h1⟩, fun k => by rw [List.mem_cons, List.mem_cons, h2 k]⟩
theorem len_same {a b : List Int} (h1 : a.Nodup) (h2 : b.Nodup) (h : ∀ k, k ∈ a ↔ k ∈ b) : a.length = b.length :=
  ((List.perm_ext_iff_of_nodup h1 h2).mpr h).length_eq
theorem met_len (ns : List Int) : (firstMet (fun i => ns.getD i 0) ns.length).length = (oneI ns).length := by
  rw [met_eq]
  obtain ⟨h1, h2⟩ := metF ns [] .nil
  obtain ⟨h3, h4⟩ := oneI_spec ns
  exact len_same h1 h3 fun k => by rw [h2 k, h4 k]; simp
theorem sort_uniq : ∀ {a b : List Int}, a.Pairwise (· < ·) → b.Pairwise (· < ·) → (∀ k, k ∈ a ↔ k ∈ b) → a = b := fun {a b} h1 h2 h => by
  have n1 : a.Nodup := h1.imp fun h => Int.ne_of_lt h
  have n2 : b.Nodup := h2.imp fun h => Int.ne_of_lt h
  exact List.Perm.eq_of_pairwise (le := (· < ·)) (fun x y _ _ h1 h2 => by omega) h1 h2 ((List.perm_ext_iff_of_nodup n1 n2).mpr h)
theorem setR_len {w : World} {h : Heap} {a : Addr} {ns : List Int} {c : Nat} (R : SetR w h a (fun j => decide (j ∈ ns)) c) : c = (oneI ns).length := by
  obtain ⟨o, es, ep, t, _, _, _, _, hn, hm, _, _, rfl, _⟩ := R
  obtain ⟨h3, h4⟩ := oneI_spec ns
  have := len_same hn h3 fun k => by rw [← hm k, h4 k, decide_eq_true_eq]
  rw [List.length_map, Array.length_toList] at this
  exact this
theorem sort_permI : ∀ xs : List Int, (sortI xs).Perm xs
  | [] => .refl _
  | x :: r => (insI_perm x _).trans ((sort_permI r).cons x)
theorem sort_leI : ∀ xs : List Int, (sortI xs).Pairwise (· ≤ ·)
  | [] => .nil
  | x :: r => insI_sorted x _ (sort_leI r)
theorem sort_ltI {xs : List Int} (h : xs.Nodup) : (sortI xs).Pairwise (· < ·) := by
  have h1 := sort_leI xs
  have h2 : (sortI xs).Nodup := (sort_permI xs).nodup_iff.mpr h
  exact (h1.and h2).imp fun ⟨a, b⟩ => by omega
theorem reps_ints {K : PySem.W.Frag} {T : Addr → Prop} {H : Hp} : ∀ xs : List Int, Reps K T H (xs.map V.int) (xs.map PyData.int)
  | [] => .nil
  | x :: r => .cons (.int _) (reps_ints r)
section
variable {X : Cx} {m : Bool} {a : Expr} {ta : TE} {f : EF} {p p2 pos pos2 q : Pos}
def tSetI (K : PySem.W.Frag) (w : World) (ta : TE) : TE := fun σ H Q => ta σ H fun x H1 => ∃ (l : Addr) (ns : List Int), x = V.ref l ∧ SqL K H1 l (ns.map V.int) ∧ ns.length < 1000 ∧
  ∀ p, H1 p = none → Q (.ref p) (upd H1 p (SetO w p (fun k => decide (k ∈ ns)) (oneI ns).length))
theorem pe_setI (hg2 : Gl X "set") (hm2 : X.mg "set" = none) (ha : PE X a ta) (hc : X.calm = true)
    (na : starEach [a] X.env = (false, eval a X.env) :: starEach [] X.env) : PE X (.Call (.Name "set" p2) [a] [] q) (tSetI X.K X.w ta) := by
  refine ⟨fun pins s σ H Q I h => ?_⟩
  refine Call_ (ld_blt I hg2 hm2 boot_set ?_)
  refine PyProof.Rows.callWith_type1 (PyProof.Rows.args_cons (thn (ha.run pins s σ H _ I h) fun v s1 ⟨x, H1, I1, r1, q1⟩ => PyProof.Rows.args_nil ?_) na) na rfl
  obtain ⟨l, ns, rfl, hq, hl, q1⟩ := q1
  cases r1
  obtain ⟨its, r, pl, hz⟩ := I1.list hq
  refine call_set_lstI ns (I1.ok.hd hc) pl.isList (by simpa using RZ.intsAre_vals r) (by unfold scanBound; omega) fun h' tk c hS _ hk => ?_
  have hc := setR_len hS
  subst hc
  exact ⟨.ref s1.heap.objs.size, upd H1 s1.heap.objs.size (SetO X.w s1.heap.objs.size (fun k => decide (k ∈ ns)) (oneI ns).length), I1.laid hk (Nat.le_refl _) (setO_new hS), rfl, q1 _ (I1.hok.fresh (Nat.le_refl _))⟩
/-- len of a set -/
def rLenSet (w : World) : List V → Hp → VK → Prop := fun xs H Q => ∃ (p : Addr) (S : Int → Bool) (n : Nat), xs = [V.ref p] ∧ H p = some (SetO w p S n) ∧ n < 1000 ∧ Q (.int n) H
theorem cr_lenSet : CallR X (.builtin "len") (rLenSet X.w) := by
  intro pins s σ H xs us Q I r h
  obtain ⟨p, S, n, rfl, ha, hn, q⟩ := h
  have R := setO_get I ha
  rw [Vals.ref1 r]
  obtain ⟨o, es, ep, t, ho, hex, hd, _, _, _, _, hf, hsz, _⟩ := R
  exact call_len_set ho hex hd hf (by rw [hsz] <;> omega) ⟨.int n, H, I.tok _, ⟨_, by rw [hsz]⟩, q⟩
theorem oneI_le (ns : List Int) : (oneI ns).length ≤ ns.length := by
  induction ns with
  | nil => exact Nat.le_refl _
  | cons x r ih =>
    unfold oneI
    split
    · rw [List.length_cons]; omega
    · rw [List.length_cons, List.length_cons]; omega
/-- len(set(xs)) -/
theorem pv_lenSet {KK : PySem.W.Frag} {w : World} (hKK : X.K = KK) (hw : X.w = w) (hm : X.mg "len" = none) (hm2 : X.mg "set" = none) (q : PV X m a ta f) (hc : X.calm = true) (hg : Gl X "len") (hg2 : Gl X "set")
    (na : starEach [a] X.env = (false, eval a X.env) :: starEach [] X.env) (na2 : starEach [.Call (.Name "set" p2) [a] [] pos2] X.env = (false, eval (.Call (.Name "set" p2) [a] [] pos2) X.env) :: starEach [] X.env) (hpl : (backTo pos (starEach [] X.env)).any (·.1) = false) :
    PV X m (.Call (.Name "len" p) [.Call (.Name "set" p2) [a] [] pos2] [] pos) (tCB (rLenSet w) (tCons (tSetI KK w ta) L2.tNil)) (xUn fLenSet f) := by
  subst hKK; subst hw
  refine ⟨pe_callB cr_lenSet hg hm (by decide +kernel) (pa_cons (pe_setI hg2 hm2 q.pe hc na) pa_nil na2) (by decide) (by decide) na2 hpl, fun g env w σ H Q x w' hK I hf k => ?_⟩
  obtain ⟨y, w1, h1, h2⟩ := bind_some.mp hf
  obtain ⟨e1, rfl⟩ := lift_get h2
  refine q.vw _ env w σ H _ y _ hK I h1 fun v H1 k1 d1 r1 => ?_
  unfold fLenSet at e1
  split at e1
  · rename_i xs
    obtain ⟨ns, e2, e3⟩ := Option.bind_eq_some_iff.mp e1
    split at e3
    · rename_i hl
      cases e3
      cases r1 with
      | lst n e r =>
        obtain ⟨rfl, rfl⟩ := Reps.of_ints r e2
        refine ⟨_, ns, rfl, SqL.of e, hl, fun p hp => ?_⟩
        refine ⟨p, _, _, rfl, upd_same, Nat.lt_of_le_of_lt (oneI_le ns) hl, ?_⟩
        obtain ⟨k2, d2⟩ := (I.step k1 d1).new (o := SetO X.w p (fun k => decide (k ∈ ns)) (oneI ns).length) hp
        exact k _ _ (k1.trans k2) d2 (.int _)
    · cases e3
  · cases e1
theorem plv_sortSet {KK : PySem.W.Frag} {w : World} (hKK : X.K = KK) (hw : X.w = w) (hm : X.mg "sorted" = none) (hm2 : X.mg "set" = none) (q : PV X m a ta f) (hc : X.calm = true) (hg : Gl X "sorted") (hg2 : Gl X "set")
    (na : starEach [a] X.env = (false, eval a X.env) :: starEach [] X.env) (na2 : starEach [.Call (.Name "set" p2) [a] [] pos2] X.env = (false, eval (.Call (.Name "set" p2) [a] [] pos2) X.env) :: starEach [] X.env) (hpl : (backTo pos (starEach [] X.env)).any (·.1) = false) :
    PLV X m (.Call (.Name "sorted" p) [.Call (.Name "set" p2) [a] [] pos2] [] pos) (tCB (rSortedSet w) (tCons (tSetI KK w ta) L2.tNil)) (xSortSet f) := by
  subst hKK; subst hw
  refine ⟨pe_callB (cr_sortedSet hc) hg hm (by decide +kernel) (pa_cons (pe_setI hg2 hm2 q.pe hc na) pa_nil na2) (by decide) (by decide) na2 hpl, fun g env w σ H Q x w' hK I hf k => ?_⟩
  obtain ⟨y, w1, h1, h2⟩ := bind_some.mp hf
  obtain ⟨e1, rfl⟩ := lift_get h2
  refine q.vw _ env w σ H _ y _ hK I h1 fun v H1 k1 d1 r1 => ?_
  unfold fSortSet at e1
  split at e1
  · rename_i xs
    obtain ⟨ns, e2, e3⟩ := Option.bind_eq_some_iff.mp e1
    split at e3
    · rename_i hl
      rw [Bool.and_eq_true, decide_eq_true_eq, decide_eq_true_eq] at hl
      cases e3
      cases r1 with
      | lst n e r =>
        obtain ⟨rfl, rfl⟩ := Reps.of_ints r e2
        refine ⟨_, ns, rfl, SqL.of e, hl.1, fun p hp => ?_⟩
        refine ⟨p, _, _, rfl, upd_same, hl.2, fun os q hs hmem hlen hq => ?_⟩
        have I1 := I.step k1 d1
        obtain ⟨k2, d2⟩ := I1.new (o := SetO X.w p (fun k => decide (k ∈ ns)) (oneI ns).length) hp
        have I2 := I1.step k2 d2
        obtain ⟨k3, d3⟩ := I2.new (o := .lst (os.map V.int)) hq
        obtain ⟨n1, n2⟩ := oneI_spec ns
        have eo : os = sortI (oneI ns) := by
          refine sort_uniq hs (sort_ltI n1) fun j => ?_
          rw [hmem j, decide_eq_true_eq, (sort_permI _).mem_iff, n2 j]
        subst eo
        refine k q _ _ ?_ ((k1.trans k2).trans k3) d3 upd_same (reps_ints _)
        exact newAt I2 (k1.trans k2) hq
    · cases e3
  · cases e1
end
end VE

namespace VE
open PySem PySem.Spec L2
open PyProof.Rows hiding St
section
variable {X : Cx} {K : PySem.W.Frag} {m : Bool} {e c : Expr} {ta : TE} {tt : TT} {ts tu : TS} {f : EF} {fT : TF} {fs fu : SF} {pos : Pos}
/-- xs.extend(e) -/
theorem psv_ext {i : Nat} {x : Str} {px apos cpos : Pos} {KK : PySem.W.Frag} (hKK : X.K = KK) (p : PV X true e ta f) (hN : X.N[i]? = some x) (hv : visB X.env.scope x = true) (hd : dunB x = true)
    (hs : swapsWith (.Call (.Attribute (.Name x px) "extend" apos) [e] [] cpos) none pos.line X.env = pure false)
    (hbase : attributeBase (.Name x px) "extend" X.env (eval (.Name x px) X.env) = eval (.Name x px) X.env)
    (hfew : ((backTo cpos (starEach [e] X.env)).all (fun x => !x.1) && (backToKw cpos (keywordEach [] X.env)).all (fun x => x.1.isSome)
      && decide ([e].length + ([] : List Keyword).length + (if ([] : List Keyword).isEmpty then 0 else 1) < 30)) = true)
    (hline : (apos.endLine == cpos.line) = true) (hst : starEach [e] X.env = (false, eval e X.env) :: starEach [] X.env) (hplain : (backTo cpos (starEach [] X.env)).any (·.1) = false) :
    PSV X (.Expr (.Call (.Attribute (.Name x px) "extend" apos) [e] [] cpos) pos) (tDrop (tBM KK "list" rExtend (tVar i) (tCons ta tNil))) (sExt i f) := by
  subst hKK
  exact (show
    PSV X (.Expr (.Call (.Attribute (.Name x px) "extend" apos) [e] [] cpos) pos) (tDrop (tBM X.K "list" rExtend (tVar i) (tCons ta tNil))) (sExt i f) from
  ⟨ps_expr (pe_bm PySem.F.plainAttrs_list PySem.F.slot_list_extend PySem.F.type_list_extend mt_extend (pe_var hN (vis_of hv) (dun1 hd) (dun2 hd)) (pa_cons p.pe pa_nil hst) hbase hfew hline hst hplain) hs, fun g env w σ H D fl env' w' hK I hf F => by
    obtain ⟨y, w1, h1, h2⟩ := bind_some.mp hf
    cases q : env[i]? with
    | none => rw [q] at h2; cases h2
    | some s =>
      rw [q] at h2
      cases s with
      | ow b xs =>
        cases b with
        | true => cases y <;> cases h2
        | false =>
        obtain ⟨a, vs, ea, ha, ra, n0, nt⟩ := I.owL i xs q
        refine ⟨_, ea, .inl ⟨rfl, _, SqL.of ha⟩, ?_⟩
        refine p.vw _ env w σ H _ y _ hK I h1 fun v H1 k1 d1 r1 => ?_
        have I1 := I.step k1 d1
        obtain ⟨a', vs', ea', ha', ra', _, _⟩ := I1.owL i xs q
        rw [ea] at ea'
        cases ea'
        cases y with
        | list ys =>
          have h2 : (if xs.length + ys.length ≤ line then pure (Fl.nx, env.set i (.ow false (xs ++ ys))) else fail : M (Fl × En)) w1 = some ((fl, env'), w') := h2
          split at h2
          · rename_i hl
            obtain ⟨e, rfl⟩ := pure_get h2
            cases e
            cases r1 with
            | lst n1 e1 r1 =>
              refine ⟨a, _, vs', _, rfl, rfl, ha', e1, by rw [ra'.length, r1.length, ← line_eq]; exact hl, ?_⟩
              obtain ⟨I2, E2⟩ := I1.mut (ys := xs ++ ys) q ea rfl (ra'.append r1)
              exact F σ _ I2 ((Eff.of_keep I (env1 := env) (σ1 := σ) k1 fun _ h => h).trans E2)
          · cases h2
        | _ => cases h2
      | _ => cases y <;> cases h2⟩)
end
end VE

/-! dicts that a def alone holds -/
namespace VE
open PySem PySem.Spec L2
open PyProof.Rows hiding St
abbrev kvK (kvs : List (Int × V)) : List (Key × V) := kvs.map fun p => ((Sum.inl p.1 : Key), p.2)
theorem layV_len : ∀ kvs : List (Int × V), (layV kvs).length = 2 * kvs.length
  | [] => rfl
  | p :: r => by
    show (V.int p.1 :: p.2 :: layV r).length = _
    simp only [List.length_cons, layV_len r]; omega
section
variable {K : PySem.W.Frag} {T : Addr → Prop} {H : Hp}
theorem reps_lay : ∀ {kvs : List (Int × V)} {xs : List PyData}, Reps K T H (layV kvs) xs → (kvs = [] ∧ xs = []) ∨ ∃ p r y ys, kvs = p :: r ∧ xs = .int p.1 :: y :: ys ∧ Rep K T H p.2 y ∧ Reps K T H (layV r) ys
  | [], xs, h => by cases h; exact .inl ⟨rfl, rfl⟩
  | p :: r, xs, h => by
    have h : Reps K T H (V.int p.1 :: p.2 :: layV r) xs := h
    cases h with
    | cons h1 h2 =>
      cases h2 with
      | cons h2 h3 => cases h1; exact .inr ⟨p, r, _, _, rfl, rfl, h2, h3⟩
theorem lay_cons (p : Int × V) (r : List (Int × V)) : layV (p :: r) = .int p.1 :: p.2 :: layV r := rfl
theorem dval_ok : ∀ (kvs : List (Int × V)) {xs : List PyData} (k : Int), Reps K T H (layV kvs) xs → (valV (kvK kvs) (.inl k)).isSome = (dVal xs k).isSome ∧ ∀ y, dVal xs k = some y → ∃ v, valV (kvK kvs) (.inl k) = some v ∧ Rep K T H v y
  | [], xs, k, h => by cases h; exact ⟨rfl, fun y e => nomatch e⟩
  | p :: r, xs, k, h => by
    obtain ⟨e, _⟩ | ⟨p', r', y, ys, e, rfl, h2, h3⟩ := reps_lay h
    · cases e
    · cases e
      show (valV ((Sum.inl p.1, p.2) :: kvK r) (.inl k)).isSome = (if p.1 = k then some y else dVal ys k).isSome ∧ ∀ z, (if p.1 = k then some y else dVal ys k) = some z → ∃ v, valV ((Sum.inl p.1, p.2) :: kvK r) (.inl k) = some v ∧ Rep K T H v z
      by_cases c : p.1 = k
      · rw [if_pos c, valV_pos (show ((Sum.inl p.1 : Key), p.2).1 = Sum.inl k by rw [c])]
        exact ⟨rfl, fun z e => by cases e; exact ⟨_, rfl, h2⟩⟩
      · rw [if_neg c, valV_neg (show ¬ ((Sum.inl p.1 : Key), p.2).1 = Sum.inl k from fun z => c (by injection z))]
        exact dval_ok r k h3
theorem drepl_ok : ∀ (kvs : List (Int × V)) {xs : List PyData} (k : Int) {v : V} {y : PyData}, Reps K T H (layV kvs) xs → Rep K T H v y →
    ∃ kvs2, ((kvK kvs).map fun kv => if kv.1 = (Sum.inl k : Key) then (kv.1, v) else kv) = kvK kvs2 ∧ Reps K T H (layV kvs2) (dRepl xs k y)
  | [], xs, k, v, y, h, q => by cases h; exact ⟨[], rfl, .nil⟩
  | p :: r, xs, k, v, y, h, q => by
    obtain ⟨e, _⟩ | ⟨p', r', z, ys, e, rfl, h2, h3⟩ := reps_lay h
    · cases e
    · cases e
      obtain ⟨kvs2, e2, h4⟩ := drepl_ok r k h3 q
      refine ⟨(p.1, if p.1 = k then v else p.2) :: kvs2, ?_, ?_⟩
      · show (if (Sum.inl p.1 : Key) = Sum.inl k then ((Sum.inl p.1 : Key), v) else (Sum.inl p.1, p.2)) :: ((kvK r).map fun kv => if kv.1 = (Sum.inl k : Key) then (kv.1, v) else kv) = (Sum.inl p.1, if p.1 = k then v else p.2) :: kvK kvs2
        rw [e2]
        by_cases c : p.1 = k
        · rw [if_pos c, if_pos (by rw [c])]
        · rw [if_neg c, if_neg (fun z => c (by injection z))]
      · show Reps K T H (.int p.1 :: (if p.1 = k then v else p.2) :: layV kvs2) (.int p.1 :: (if p.1 = k then y else z) :: dRepl ys k y)
        refine .cons (.int _) (.cons ?_ h4)
        by_cases c : p.1 = k
        · rw [if_pos c, if_pos c]; exact q
        · rw [if_neg c, if_neg c]; exact h2
theorem layV_snoc (kvs : List (Int × V)) (k : Int) (v : V) : layV (kvs ++ [(k, v)]) = layV kvs ++ [.int k, v] := by
  unfold layV
  rw [List.flatMap_append]
  rfl
theorem dput_ok (kvs : List (Int × V)) {xs : List PyData} (k : Int) {v : V} {y : PyData} (h : Reps K T H (layV kvs) xs) (q : Rep K T H v y) : ∃ kvs2, putK (kvK kvs) (.inl k) v = kvK kvs2 ∧ Reps K T H (layV kvs2) (dPut xs k y) := by
  have e := (dval_ok kvs k h).1
  rw [← valV_any] at e
  unfold putK dPut
  rw [e]
  by_cases c : (dVal xs k).isSome = true
  · rw [if_pos c, if_pos c]; exact drepl_ok kvs k h q
  · rw [if_neg c, if_neg c]
    refine ⟨kvs ++ [(k, v)], by simp [kvK], ?_⟩
    rw [layV_snoc]
    exact h.append (.cons (.int _) (.cons q .nil))
theorem dkeys_ok : ∀ (kvs : List (Int × V)) {xs : List PyData}, Reps K T H (layV kvs) xs → dKeys xs = kvs.map (·.1)
  | [], xs, h => by cases h; rfl
  | p :: r, xs, h => by
    obtain ⟨e, _⟩ | ⟨p', r', z, ys, e, rfl, h2, h3⟩ := reps_lay h
    · cases e
    · cases e
      show p.1 :: dKeys ys = p.1 :: r.map (·.1)
      rw [dkeys_ok r h3]
/-- a thing that is no list, no tuple is leant on by nothing -/
theorem rd_fresh {p a : Addr} {u : HO} (n : ¬ Rd H p u) (e : Rd H a u) : a ≠ p := fun z => n (z ▸ e)
theorem TupAt.avoid {a p : Addr} {vs : List V} (n : ∀ vs, ¬ Rd H p (.tup vs)) (q : TupAt K T H a vs) : TupAt K (fun b => T b ∨ b = p) H a vs := by
  rcases q with ⟨h, q⟩ | q
  · exact .inl ⟨fun z => z.elim h (rd_fresh (n _) q), q⟩
  · exact .inr q
theorem LstAt.avoid {a p : Addr} {vs : List V} (n : ∀ vs, ¬ Rd H p (.lst vs)) (q : LstAt K T H a vs) : LstAt K (fun b => T b ∨ b = p) H a vs := by
  rcases q with ⟨h, q⟩ | q
  · exact .inl ⟨fun z => z.elim h (rd_fresh (n _) q), q⟩
  · exact .inr q
mutual
theorem Rep.avoid {p : Addr} (n : ∀ vs, ¬ Rd H p (.lst vs)) (n2 : ∀ vs, ¬ Rd H p (.tup vs)) : ∀ (x : PyData) {v : V}, Rep K T H v x → Rep K (fun b => T b ∨ b = p) H v x
  | .none, _, h => by cases h; exact .non
  | .bool b, _, h => by cases h; exact .bl b
  | .int i, _, h => by cases h; exact .int i
  | .str i, _, h => by cases h; exact .str i
  | .list xs, _, h => by
    cases h with
    | lst nt e r => exact .lst (fun q => q.elim nt (rd_fresh (n _) (.inl e))) e (Reps.avoid n n2 xs r)
  | .tuple xs, _, h => by
    cases h with
    | tup e r => exact .tup (e.avoid n2) (Reps.avoid n n2 xs r)
  | .dict _, _, h => by cases h
theorem Reps.avoid {p : Addr} (n : ∀ vs, ¬ Rd H p (.lst vs)) (n2 : ∀ vs, ¬ Rd H p (.tup vs)) : ∀ (xs : List PyData) {vs : List V}, Reps K T H vs xs → Reps K (fun b => T b ∨ b = p) H vs xs
  | [], _, h => by cases h; exact .nil
  | x :: xs, _, h => by
    cases h with
    | cons h1 h2 => exact .cons (Rep.avoid n n2 x h1) (Reps.avoid n n2 xs h2)
end
end
section
variable {K : PySem.W.Frag} {g g' : Gh K} {m : Bool} {env : En} {w w' : W} {σ : SS} {H H' : Hp}
theorem StOk.owD (I : StOk g env w σ H) (i : Nat) (xs : List PyData) (e : env[i]? = some (.ow true xs)) : ∃ a kvs, σ[i]? = some (some (.ref a)) ∧ H a = some (dkO kvs) ∧ Reps K (av g true env σ) H (layV kvs) xs ∧ g.H0 a = none ∧ ¬ g.T a := by
  obtain ⟨a, vs, q, ⟨o, h, kvs, rfl, rfl⟩, r⟩ := I.ow i true xs e
  exact ⟨a, kvs, q, h, r⟩
theorem StOk.dget (I : StOk g env w σ H) (i : Nat) (xs : List PyData) (k : Int) (e : env[i]? = some (.ow true xs)) :
    ∃ a o, σ[i]? = some (some (.ref a)) ∧ IsD H a ∧ DGet H a (.int k) o ∧ o.isSome = (dVal xs k).isSome ∧ ∀ y, dVal xs k = some y → ∃ v, o = some v ∧ Rep K (av g true env σ) H v y := by
  obtain ⟨a, kvs, q, h, r, _⟩ := I.owD i xs e
  exact ⟨a, _, q, .inl ⟨_, .inl h⟩, DGet.k (k := .inl k) h, (dval_ok kvs k r).1, (dval_ok kvs k r).2⟩
end
section
variable {X : Cx} {K : PySem.W.Frag} {m : Bool} {e a b c d tg : Expr} {ta tb tc td : TE} {f f1 f2 h k : EF} {body : List Stmt} {ft : GF} {gt : TG} {ts : TS} {fb : SF} {vs : List Nat} {pos : Pos}
/-- a slot that holds a dict, a key -/
theorem dkey {i : Nat} {env : En} {z : D} {α : Type} {F : List D → Int → M α} {w : W} {r : α × W}
    (h : withD i env z F w = some r) : ∃ xs k, env[i]? = some (.ow true xs) ∧ z = .int k ∧ F xs k w = some r := by
  unfold withD at h
  cases q : env[i]? with
  | none => rw [q] at h; cases h
  | some s =>
    rw [q] at h
    cases s with
    | ow b xs =>
      cases b with
      | false => cases h
      | true =>
        cases z with
        | int k => exact ⟨xs, k, rfl, rfl, h⟩
        | _ => cases h
    | _ => cases h
/-- if c then a else fail -/
theorem ite_get {α : Type} {c : Prop} [Decidable c] {a : M α} {w : W} {r : α × W} (h : (if c then a else fail : M α) w = some r) : c ∧ a w = some r := by
  by_cases q : c
  · rw [if_pos q] at h; exact ⟨q, h⟩
  · rw [if_neg q] at h; cases h
theorem vw_din {i : Nat} (p : VwE K false ta f) : VwE K m (tDIn ta (tVar i)) (xDIn i f) := fun g env w σ H Q x w' hK I hf q => by
  obtain ⟨z, w1, h1, h2⟩ := bind_some.mp hf
  obtain ⟨xs, j, e1, rfl, h3⟩ := dkey h2
  obtain ⟨rfl, rfl⟩ := pure_get h3
  refine p _ env w σ H _ _ _ hK I h1 fun v H1 k1 d1 r1 => ?_
  cases r1
  obtain ⟨a, o, ea, _, dg, es, _⟩ := (I.step k1 d1).dget i xs j e1
  refine ⟨_, ea, a, o, rfl, dg, ?_⟩
  rw [es]
  exact q _ H1 k1 d1 (.bl _)
theorem vw_dnotin {i : Nat} (p : VwE K false ta f) : VwE K m (tDNotIn ta (tVar i)) (xDNotIn i f) := fun g env w σ H Q x w' hK I hf q => by
  obtain ⟨z, w1, h1, h2⟩ := bind_some.mp hf
  obtain ⟨xs, j, e1, rfl, h3⟩ := dkey h2
  obtain ⟨rfl, rfl⟩ := pure_get h3
  refine p _ env w σ H _ _ _ hK I h1 fun v H1 k1 d1 r1 => ?_
  cases r1
  obtain ⟨a, o, ea, _, dg, es, _⟩ := (I.step k1 d1).dget i xs j e1
  refine ⟨_, ea, a, o, rfl, dg, ?_⟩
  rw [es]
  exact q _ H1 k1 d1 (.bl _)
theorem pv_din {i j : Nat} {x : Str} {px : Pos} (hr : Room j X.A) (p : PV X false a ta f) (hN : X.N[i]? = some x) (hv : visB X.env.scope x = true) (hd : dunB x = true) (hm : behindInMarks .In (.Name x px) = false) :
    PV X m (.Compare a [.In] [.Name x px] pos) (tDIn ta (tVar i)) (xDIn i f) := ⟨pe_cmp (pc_din (by have := hr.un; omega) p.pe (pe_var hN (vis_of hv) (dun1 hd) (dun2 hd))) hm, vw_din p.vw⟩
theorem pv_dnotin {i j : Nat} {x : Str} {px : Pos} (hr : Room j X.A) (p : PV X false a ta f) (hN : X.N[i]? = some x) (hv : visB X.env.scope x = true) (hd : dunB x = true) (hm : behindInMarks .NotIn (.Name x px) = false) :
    PV X m (.Compare a [.NotIn] [.Name x px] pos) (tDNotIn ta (tVar i)) (xDNotIn i f) := ⟨pe_cmp (pc_dnotin (by have := hr.un; omega) p.pe (pe_var hN (vis_of hv) (dun1 hd) (dun2 hd))) hm, vw_dnotin p.vw⟩
theorem pt_din {i j : Nat} {x : Str} {px : Pos} (hr : Room j X.A) (p : PV X false a ta f) (hN : X.N[i]? = some x) (hv : visB X.env.scope x = true) (hd : dunB x = true) (hm : behindInMarks .In (.Name x px) = false) :
    PTV X (.Compare a [.In] [.Name x px] pos) (tB (tDIn ta (tVar i))) (xTest (xDIn i f)) := ⟨pt_cmp (pc_din (by have := hr.un; omega) p.pe (pe_var hN (vis_of hv) (dun1 hd) (dun2 hd))) hm, vw_test (vw_din p.vw)⟩
theorem pt_dnotin {i j : Nat} {x : Str} {px : Pos} (hr : Room j X.A) (p : PV X false a ta f) (hN : X.N[i]? = some x) (hv : visB X.env.scope x = true) (hd : dunB x = true) (hm : behindInMarks .NotIn (.Name x px) = false) :
    PTV X (.Compare a [.NotIn] [.Name x px] pos) (tB (tDNotIn ta (tVar i))) (xTest (xDNotIn i f)) := ⟨pt_cmp (pc_dnotin (by have := hr.un; omega) p.pe (pe_var hN (vis_of hv) (dun1 hd) (dun2 hd))) hm, vw_test (vw_dnotin p.vw)⟩
theorem pv_dget1 {i j : Nat} {x : Str} {px apos cpos : Pos} (hr : Room j X.A) (p : PV X false e ta f) (hN : X.N[i]? = some x) (hv : visB X.env.scope x = true) (hd : dunB x = true) (hm : M1 X (.Name x px) "get" apos e cpos) :
    PV X m (.Call (.Attribute (.Name x px) "get" apos) [e] [] cpos) (tDGet1 (tVar i) ta) (xDGet1 i f) := ⟨pe_dget1 (by have := hr.un; omega) (pe_var hN (vis_of hv) (dun1 hd) (dun2 hd)) p.pe hm, fun g env w σ H Q y w' hK I hf q => by
  obtain ⟨z, w1, h1, h2⟩ := bind_some.mp hf
  obtain ⟨xs, j, e1, rfl, h3⟩ := dkey h2
  obtain ⟨rfl, rfl⟩ := pure_get h3
  obtain ⟨a0, o0, ea0, id0, _⟩ := I.dget i xs j e1
  refine ⟨_, ea0, a0, rfl, id0, ?_⟩
  refine p.vw _ env w σ H _ _ _ hK I h1 fun {g1} v H1 k1 d1 r1 => ?_
  cases r1
  obtain ⟨a, o, ea, _, dg, es, hv⟩ := (I.step k1 d1).dget i xs j e1
  rw [ea0] at ea
  cases ea
  refine ⟨o, dg, ?_⟩
  cases q2 : dVal xs j with
  | none =>
    rw [q2] at es q
    cases o with
    | none => exact q _ H1 k1 d1 .non
    | some _ => cases es
  | some y =>
    obtain ⟨u, rfl, ru⟩ := hv y q2
    rw [q2] at q
    exact q u H1 k1 d1 (ru.mon (fun _ _ _ e => e) fun _ => av_le)⟩
theorem pv_dget2 {i j : Nat} {x : Str} {px apos cpos : Pos} (hr : Room j X.A) (p : PV X false a ta f1) (p2 : PV X m b tb f2) (hN : X.N[i]? = some x) (hv : visB X.env.scope x = true) (hd : dunB x = true) (hm : M2 X (.Name x px) "get" apos a b cpos) :
    PV X m (.Call (.Attribute (.Name x px) "get" apos) [a, b] [] cpos) (tDGet2 (tVar i) ta tb) (xDGet2 i f1 f2) := ⟨pe_dget2 (by have := hr.un; omega) (pe_var hN (vis_of hv) (dun1 hd) (dun2 hd)) p.pe p2.pe hm, fun g env w σ H Q y w' hK I hf q => by
  obtain ⟨z, w1, h1, h2⟩ := bind_some.mp hf
  obtain ⟨y2, w2, h2, h3⟩ := bind_some.mp h2
  obtain ⟨xs, j, e1, rfl, h9⟩ := dkey h3
  obtain ⟨rfl, rfl⟩ := pure_get h9
  obtain ⟨a0, o0, ea0, id0, _⟩ := I.dget i xs j e1
  refine ⟨_, ea0, a0, rfl, id0, ?_⟩
  refine p.vw _ env w σ H _ _ _ hK I h1 fun {g1} v H1 k1 d1 r1 => ?_
  cases r1
  have I1 := I.step k1 d1
  refine p2.vw _ env w1 σ H1 _ _ _ hK I1 h2 fun {g2} v2 H2 k2 d2 r2 => ?_
  obtain ⟨a, o, ea, _, dg, es, hv⟩ := (I1.step k2 d2).dget i xs j e1
  rw [ea0] at ea
  cases ea
  refine ⟨o, dg, ?_⟩
  cases q2 : dVal xs j with
  | none =>
    rw [q2] at es q
    cases o with
    | none => exact q _ H2 (k1.trans k2) d2 r2
    | some _ => cases es
  | some y =>
    obtain ⟨u, rfl, ru⟩ := hv y q2
    rw [q2] at q
    exact q u H2 (k1.trans k2) d2 (ru.mon (fun _ _ _ e => e) fun _ => av_le)⟩
theorem pv_dix {i j : Nat} {x : Str} {px : Pos} (hr : Room j X.A) (p : PV X false e ta f) (hN : X.N[i]? = some x) (hv : visB X.env.scope x = true) (hd : dunB x = true) (hs : NoSl e) :
    PV X m (.Subscript (.Name x px) e pos) (tDGet (tVar i) ta) (xDIx i f) := ⟨pe_dget (by have := hr.un; omega) (pe_var hN (vis_of hv) (dun1 hd) (dun2 hd)) p.pe hs, fun g env w σ H Q y w' hK I hf q => by
  obtain ⟨z, w1, h1, h2⟩ := bind_some.mp hf
  obtain ⟨xs, j, e1, rfl, h3⟩ := dkey h2
  obtain ⟨e3, rfl⟩ := lift_get h3
  obtain ⟨a0, o0, ea0, id0, _⟩ := I.dget i xs j e1
  refine ⟨_, ea0, ?_⟩
  refine p.vw _ env w σ H _ _ _ hK I h1 fun {g1} v H1 k1 d1 r1 => ?_
  cases r1
  obtain ⟨a, o, ea, _, dg, es, hv⟩ := (I.step k1 d1).dget i xs j e1
  rw [ea0] at ea
  cases ea
  obtain ⟨u, rfl, ru⟩ := hv y e3
  exact ⟨a0, u, rfl, dg, q u H1 k1 d1 (ru.mon (fun _ _ _ e => e) fun _ => av_le)⟩⟩
/-- d[k] = e -/
theorem psv_dput {i j : Nat} {x : Str} {px spos : Pos} (hr : Room j X.A) (q : PV X false b tb k) (p : PV X true e ta f) (hN : X.N[i]? = some x) (hv : visB X.env.scope x = true) (hd : dunB x = true)
    (hs : swapsWith e (some (.Subscript (.Name x px) b spos)) pos.line X.env = pure false) :
    PSV X (.Assign [.Subscript (.Name x px) b spos] e pos) (L2.sDPut (tVar i) tb ta) (VE.sDPut i k f) :=
  ⟨ps_dput (by have := hr.un; omega) (pe_var hN (vis_of hv) (dun1 hd) (dun2 hd)) q.pe p.pe hs, fun g env w σ H D fl env' w' hK I hf F => by
    obtain ⟨y, w1, h1, h2⟩ := bind_some.mp hf
    obtain ⟨z, w2, h3, h4⟩ := bind_some.mp h2
    obtain ⟨xs, j, e1, rfl, h9⟩ := dkey h4
    refine p.vw _ env w σ H _ y _ hK I h1 fun v H1 k1 d1 r1 => ?_
    have I1 := I.step k1 d1
    obtain ⟨a0, kvs0, ea0, _⟩ := I1.owD i xs e1
    refine ⟨_, ea0, ?_⟩
    refine q.vw _ env _ σ H1 _ _ _ hK I1 h3 fun u H2 k2 d2 r2 => ?_
    have I2 := I1.step k2 d2
    cases r2
    obtain ⟨hl, h8⟩ := ite_get h9
    · obtain ⟨e, rfl⟩ := pure_get h8
      cases e
      obtain ⟨a, kvs, ea, ha, ra, _⟩ := I2.owD i xs e1
      rw [ea0] at ea
      cases ea
      obtain ⟨kvs2, ek, rk⟩ := dput_ok kvs j ra (r1.keep k2)
      refine ⟨a0, _, rfl, DPut.k (k := .inl j) ha ?_, ?_⟩
      · have := ra.length
        rw [layV_len] at this
        rw [List.length_map, ← line_eq]; omega
      · rw [ek]
        obtain ⟨I3, E3⟩ := I2.mut (bb := true) (ys := dPut xs j y) (us := layV kvs2) (o' := dkO kvs2) e1 ea0 ⟨kvs2, rfl, rfl⟩ rk
        exact F σ _ I3 ((Eff.of_keep I (env1 := env) (σ1 := σ) (k1.trans k2) fun _ h => h).trans E3)⟩
/-- d.setdefault(k, e) -/
theorem psv_dsetd {i : Nat} {x : Str} {px apos cpos : Pos} (q : PV X false b tb k) (p : PV X true e ta f) (hN : X.N[i]? = some x) (hv : visB X.env.scope x = true) (hd : dunB x = true) (hm : M2 X (.Name x px) "setdefault" apos b e cpos)
    (hs : swapsWith (.Call (.Attribute (.Name x px) "setdefault" apos) [b, e] [] cpos) none pos.line X.env = pure false) :
    PSV X (.Expr (.Call (.Attribute (.Name x px) "setdefault" apos) [b, e] [] cpos) pos) (tDrop (tDSetd (tVar i) tb ta)) (sDSetd i k f) :=
  ⟨ps_expr (pe_dsetd (pe_var hN (vis_of hv) (dun1 hd) (dun2 hd)) q.pe p.pe hm) hs, fun g env w σ H D fl env' w' hK I hf F => by
    obtain ⟨z, w1, h1, h2⟩ := bind_some.mp hf
    obtain ⟨y, w2, h3, h4⟩ := bind_some.mp h2
    obtain ⟨xs, j, e1, rfl, h9⟩ := dkey h4
    obtain ⟨a0, o0, ea0, id0, _⟩ := I.dget i xs j e1
    refine ⟨_, ea0, a0, rfl, id0, ?_⟩
    refine q.vw _ env w σ H _ _ _ hK I h1 fun u H1 k1 d1 r1 => ?_
    have I1 := I.step k1 d1
    refine p.vw _ env _ σ H1 _ _ _ hK I1 h3 fun v H2 k2 d2 r2 => ?_
    have I2 := I1.step k2 d2
    cases r1
    obtain ⟨hl, h8⟩ := ite_get h9
    · obtain ⟨e, rfl⟩ := pure_get h8
      cases e
      obtain ⟨a, kvs, ea, ha, ra, _⟩ := I2.owD i xs e1
      rw [ea0] at ea
      cases ea
      have es := (dval_ok kvs j ra).1
      refine ⟨kvK kvs, .inl j, ha, rfl, ?_, fun v0 hv0 => ?_, fun hn => ?_⟩
      · have := ra.length
        rw [layV_len] at this
        rw [List.length_map, ← line_eq]; omega
      · rw [hv0] at es
        rw [if_pos (show (dVal xs j).isSome = true from es.symm)] at F
        obtain ⟨I3, E3⟩ := I2.mut (bb := true) (ys := xs) (us := layV kvs) (o' := dkO kvs) e1 ea0 ⟨kvs, rfl, rfl⟩ ra
        have eH : upd H2 a0 (dkO kvs) = H2 := by
          funext c
          by_cases z : c = a0
          · subst z; rw [upd_same]; exact ha.symm
          · rw [upd_ne z]
        rw [eH] at I3 E3
        exact F σ _ I3 ((Eff.of_keep I (env1 := env) (σ1 := σ) (k1.trans k2) fun _ h => h).trans E3)
      · rw [hn] at es
        rw [if_neg (by rw [← es]; simp)] at F
        obtain ⟨kvs2, ek, rk⟩ := dput_ok kvs j ra r2
        rw [ek]
        obtain ⟨I3, E3⟩ := I2.mut (bb := true) (ys := dPut xs j y) (us := layV kvs2) (o' := dkO kvs2) e1 ea0 ⟨kvs2, rfl, rfl⟩ rk
        exact F σ _ I3 ((Eff.of_keep I (env1 := env) (σ1 := σ) (k1.trans k2) fun _ h => h).trans E3)⟩
/-- d = {} -/
theorem psv_dnew {i : Nat} {x : Str} {pos' dpos : Pos} (hN : X.N.Nodup) (hi : X.N[i]? = some x) (hx : locB X.env.scope x = true) (hs : swapsWith (.Dict [] [] dpos) (some (.Name x pos')) pos.line X.env = pure false) (hf : fnB X x = true) :
    PSV X (.Assign [.Name x pos'] (.Dict [] [] dpos) pos) (tAsg tDNewK (gName i)) (sDNew i) := ⟨ps_set hN hi (loc_of hx) pe_dnewK hs (fn_of' hf), fun g env w σ H D fl env' w' hK I hf F p hp => by
  obtain ⟨e, rfl⟩ := pure_get hf
  cases e
  obtain ⟨k1, d1⟩ := I.new (o := dkO []) hp
  obtain ⟨I1, E1⟩ := I.setOw (bb := true) (vs := []) (xs := []) (newAt I (Keep.refl _ _) hp) k1 d1 ⟨_, upd_same, [], rfl, rfl⟩ .nil i
  exact F _ _ I1 E1⟩
abbrev rSortDI : List V → Hp → VK → Prop := fun xs H Q => ∃ (a : Addr) (kvs : List (Key × V)) (ks : List Int), xs = [.ref a] ∧ Rd H a (.dK kvs) ∧ kvs.map (·.1) = ks.map Sum.inl ∧ ks.length < 64 ∧
    ∀ (ys : List Int) (p : Addr), ys.Perm ks → ys.Pairwise (· ≤ ·) → H p = none → Q (.ref p) (upd H p (.lst (ys.map V.int)))
/-- sorted(d) -/
theorem plv_sortD {i : Nat} {x : Str} {p px : Pos} (hc : X.calm = true) (hm : X.mg "sorted" = none) (hN : X.N[i]? = some x) (hv : visB X.env.scope x = true) (hd : dunB x = true) (hg : Gl X "sorted") (hst : starEach [.Name x px] X.env = (false, eval (.Name x px) X.env) :: starEach [] X.env) (hpl : (backTo pos (starEach [] X.env)).any (·.1) = false) :
    PLV X m (.Call (.Name "sorted" p) [.Name x px] [] pos) (tCB rSortDI (tCons (tVar i) tNil)) (xSortD i) :=
  ⟨pe_callB (call_sortedDI hc) hg hm (by decide +kernel) (pa_cons (pe_var hN (vis_of hv) (dun1 hd) (dun2 hd)) pa_nil hst) (by decide) (by decide) hst hpl, fun g env w σ H Q y w' hK I hf q => by
    unfold xSortD at hf
    cases e1 : env[i]? with
    | none => rw [e1] at hf; cases hf
    | some s =>
      rw [e1] at hf
      cases s with
      | ow bb xs =>
        cases bb with
        | false => cases hf
        | true =>
        obtain ⟨hl, hf⟩ := ite_get hf
        obtain ⟨rfl, rfl⟩ := pure_get hf
        obtain ⟨a, kvs, ea, ha, ra, _⟩ := I.owD i xs e1
        have ek := dkeys_ok kvs ra
        refine ⟨_, ea, a, kvK kvs, dKeys xs, rfl, .inl ha, by rw [ek]; simp [kvK], hl, fun ys p hp h2 hn => ?_⟩
        have e5 : ys = sortI (dKeys xs) := sorted_unique (hp.trans (sortI_perm _).symm) h2 (sortI_sorted _)
        rw [e5]
        obtain ⟨k2, d2⟩ := I.new (o := .lst ((sortI (dKeys xs)).map V.int)) hn
        exact q p _ _ (newAt I (Keep.refl _ _) hn) k2 d2 upd_same (Reps.ints_map _)
      | _ => cases hf⟩
end
end VE

/-! walks over dicts that a def alone holds; chains of three -/
namespace VE
open PySem PySem.Spec L2
open PyProof.Rows hiding St
def Gh.at {K : PySem.W.Frag} (g : Gh K) (a : Addr) : Gh K := { g with wd := a }
theorem noWalk_get {env : En} (h : noWalk env = true) (j : Nat) : env[j]? ≠ some (.st 9) := fun e => by
  unfold noWalk at h
  rw [List.all_eq_true] at h
  have := h _ (List.mem_of_getElem? e)
  cases this
section
variable {K : PySem.W.Frag} {g g' : Gh K} {m : Bool} {env : En} {w w' : W} {σ : SS} {H H' : Hp}
/-- the dict at i is walked -/
theorem StOk.lock (I : StOk g env w σ H) {i : Nat} {a : Addr} {xs : List PyData} {u : HO} (hi : env[i]? = some (.ow true xs)) (ha : σ[i]? = some (some (.ref a))) (hw : noWalk env = true) :
    StOk (g.at a) (env.set i (.st 9)) w σ (upd H a u) := by
  have own_a : ownA env σ a := ⟨i, true, xs, hi, ha⟩
  have na : ¬ g.T a := I.owNT own_a
  obtain ⟨a', kvs', ea, _, _, h0, _⟩ := I.owD i xs hi
  rw [ha] at ea
  cases ea
  have own' : ∀ b, ownA (env.set i (.st 9)) σ b → ownA env σ b := fun b ⟨j, b1, zs, h1, h2⟩ => by
    rcases set_get h1 with ⟨_, e⟩ | ⟨hj, h1⟩
    · cases e
    · exact ⟨j, b1, zs, h1, h2⟩
  have av' : ∀ b, av (g.at a) true (env.set i (.st 9)) σ b → av g true env σ b := fun b h => h.elim .inl fun q => .inr ⟨rfl, own' b q.2⟩
  have k : ∀ b o, ¬ av g true env σ b → H b = some o → upd H a u b = some o := fun b o n e => by
    rw [upd_ne (show b ≠ a from fun z => n (.inr ⟨rfl, by rw [z]; exact own_a⟩))]; exact e
  have live' : ∀ b, H b ≠ none → upd H a u b ≠ none := fun b e => by
    by_cases z : b = a
    · subst z; rw [upd_same]; simp
    · rw [upd_ne z]; exact e
  refine ⟨by rw [List.length_set, I.len], fun j y h => ?_, fun j b1 zs h => ?_, fun j kk h => ?_, fun j ns h => ?_, fun j j2 b1 b2 zs zs2 b h1 h2 h3 h4 => ?_, fun b h => live' b (I.live b h), ⟨fun b o n e => ?_, fun b e => live' b (I.keep.live b e)⟩, ?_⟩
  · rcases set_get h with ⟨rfl, e⟩ | ⟨hj, h⟩
    · cases e
    · obtain ⟨u, e, q⟩ := I.sh j y h
      exact ⟨u, e, q.mon k av'⟩
  · rcases set_get h with ⟨rfl, e⟩ | ⟨hj, h⟩
    · cases e
    · obtain ⟨b, vs, e, ⟨o, q, ho⟩, s, n, t⟩ := I.ow j b1 zs h
      refine ⟨b, vs, e, ⟨o, ?_, ho⟩, s.mon k av', n, t⟩
      rw [upd_ne (show b ≠ a from fun z => by subst z; exact hj (I.dist j i _ _ zs xs b h hi e ha))]
      exact q
  · rcases set_get h with ⟨rfl, e⟩ | ⟨hj, h⟩
    · cases e; exact ⟨fun z => absurd rfl z, fun _ => ha⟩
    · refine ⟨(I.st j kk h).1, fun z => ?_⟩
      subst z
      exact absurd h (noWalk_get hw j)
  · rcases set_get h with ⟨rfl, e⟩ | ⟨hj, h⟩
    · cases e
    · obtain ⟨b, e, s⟩ := I.fz j ns h
      exact ⟨b, e, s.mono k av'⟩
  · rcases set_get h1 with ⟨_, e⟩ | ⟨hj, h1⟩
    · cases e
    · rcases set_get h2 with ⟨_, e⟩ | ⟨hj2, h2⟩
      · cases e
      · exact I.dist j j2 b1 b2 zs zs2 b h1 h2 h3 h4
  · have e' := I.keep.at_ b o n e
    rw [upd_ne (show b ≠ a from fun z => by
      rw [z] at e
      have e : g.H0 a = some o := e
      rw [h0] at e; cases e)]
    exact e'
  · refine g.drk w H _ I.dr fun b z => ?_
    rw [upd_ne]
    intro e
    subst e
    exact na (g.zt b z)
/-- .. and is walked no more -/
theorem StOk.unlock {wd0 : Addr} (I : StOk g env w σ H) {i : Nat} {od : Obj} {xs : List PyData} {kvs : List (Int × V)} (hi : env[i]? = some (.st 9)) (hH : H g.wd = some (.frz od (dkO kvs))) (r : Reps K (av g true env σ) H (layV kvs) xs)
    (no : ¬ ownA env σ g.wd) (nt : ¬ g.T g.wd) (h0 : g.H0 g.wd = none) (hw : noWalk (env.set i .no) = true) : StOk (g.at wd0) (env.set i (.ow true xs)) w σ (upd H g.wd (dkO kvs)) := by
  have ha := (I.st i 9 hi).2 rfl
  have n1 : ∀ vs, ¬ Rd H g.wd (.lst vs) := fun vs z => by
    rcases z with z | ⟨o, z⟩ <;> (rw [hH] at z; cases z)
  have n2 : ∀ vs, ¬ Rd H g.wd (.tup vs) := fun vs z => by
    rcases z with z | ⟨o, z⟩ <;> (rw [hH] at z; cases z)
  have own' : ∀ b, ownA (env.set i (.ow true xs)) σ b → ownA env σ b ∨ b = g.wd := fun b ⟨j, b1, zs, h1, h2⟩ => by
    rcases set_get h1 with ⟨rfl, e⟩ | ⟨hj, h1⟩
    · rw [ha] at h2; cases h2; exact .inr rfl
    · exact .inl ⟨j, b1, zs, h1, h2⟩
  have av' : ∀ b, av (g.at wd0) true (env.set i (.ow true xs)) σ b → av g true env σ b ∨ b = g.wd := fun b h => h.elim (fun t => .inl (.inl t)) fun q => (own' b q.2).imp (fun z => .inr ⟨rfl, z⟩) id
  have k : ∀ b o, ¬ (av g true env σ b ∨ b = g.wd) → H b = some o → upd H g.wd (dkO kvs) b = some o := fun b o n e => by
    rw [upd_ne (show b ≠ g.wd from fun z => n (.inr z))]; exact e
  have live' : ∀ b, H b ≠ none → upd H g.wd (dkO kvs) b ≠ none := fun b e => by
    by_cases z : b = g.wd
    · subst z; rw [upd_same]; simp
    · rw [upd_ne z]; exact e
  refine ⟨by rw [List.length_set, I.len], fun j y h => ?_, fun j b1 zs h => ?_, fun j kk h => ?_, fun j ns h => ?_, fun j j2 b1 b2 zs zs2 b h1 h2 h3 h4 => ?_, fun b h => live' b (I.live b h), ⟨fun b o n e => ?_, fun b e => live' b (I.keep.live b e)⟩, ?_⟩
  · rcases set_get h with ⟨rfl, e⟩ | ⟨hj, h⟩
    · cases e
    · obtain ⟨u, e, q⟩ := I.sh j y h
      exact ⟨u, e, (Rep.avoid n1 n2 y q).mon k av'⟩
  · rcases set_get h with ⟨rfl, e⟩ | ⟨hj, h⟩
    · cases e
      exact ⟨g.wd, layV kvs, ha, ⟨_, upd_same, kvs, rfl, rfl⟩, (Reps.avoid n1 n2 xs r).mon k av', h0, nt⟩
    · obtain ⟨b, vs, e, ⟨o, q, ho⟩, s, n, t⟩ := I.ow j b1 zs h
      refine ⟨b, vs, e, ⟨o, ?_, ho⟩, (Reps.avoid n1 n2 zs s).mon k av', n, t⟩
      rw [upd_ne (show b ≠ g.wd from fun z => by subst z; exact no ⟨j, b1, zs, h, e⟩)]
      exact q
  · rcases set_get h with ⟨rfl, e⟩ | ⟨hj, h⟩
    · cases e
    · refine ⟨(I.st j kk h).1, fun z => ?_⟩
      subst z
      exact absurd (show (env.set i .no)[j]? = _ by rw [List.getElem?_set_ne (Ne.symm hj)]; exact h) (noWalk_get hw j)
  · rcases set_get h with ⟨rfl, e⟩ | ⟨hj, h⟩
    · cases e
    · obtain ⟨b, e, s⟩ := I.fz j ns h
      exact ⟨b, e, (s.avoid n1).mono k av'⟩
  · rcases set_get h1 with ⟨ej, _⟩ | ⟨hj, h1'⟩
    · rcases set_get h2 with ⟨ej2, _⟩ | ⟨hj2, h2'⟩
      · rw [ej, ej2]
      · rw [ej, ha] at h3; cases h3; exact absurd ⟨j2, b2, zs2, h2', h4⟩ no
    · rcases set_get h2 with ⟨ej2, _⟩ | ⟨hj2, h2'⟩
      · rw [ej2, ha] at h4; cases h4; exact absurd ⟨j, b1, zs, h1', h3⟩ no
      · exact I.dist j j2 b1 b2 zs zs2 b h1' h2' h3 h4
  · have e' := I.keep.at_ b o n e
    rw [upd_ne (show b ≠ g.wd from fun z => by
      rw [z] at e
      have e : g.H0 g.wd = some o := e
      rw [h0] at e; cases e)]
    exact e'
  · refine g.drk w H _ I.dr fun b z => ?_
    rw [upd_ne]
    intro e
    subst e
    exact nt (g.zt _ z)
theorem Reps.eff {env' : En} {σ' : SS} {vs : List V} {xs : List PyData} (r : Reps K (av g true env σ) H vs xs) (E : Eff g g' env σ H env' σ' H') : Reps K (av g' true env' σ') H' vs xs :=
  (Reps.tracked xs r).mon (fun b o n e => E.at_ b o (fun z => n (.inl (av_z z))) (fun z => n (.inl (.inr ⟨rfl, z⟩))) e) fun b z => by
    rcases z with z | ⟨_, z⟩
    · exact (E.t2 b z).imp .inl fun q => q.1
    · exact (E.own b z).imp (fun q => .inr ⟨rfl, q⟩) id
end
theorem endD_get {i : Nat} {xs : List D} {fl : Fl} {env : En} {w : W} {r : (Fl × En) × W} (h : endD i xs fl env w = some r) : fl = .nx ∧ env[i]? = some (.st 9) ∧ noWalk (env.set i .no) = true ∧ r = ((.nx, env.set i (.ow true xs)), w) := by
  obtain ⟨h1, h2⟩ := ite_get h
  rw [Bool.and_eq_true, Bool.and_eq_true] at h1
  obtain ⟨h3, h4⟩ := pure_get (y := r.1) (w' := r.2) h2
  refine ⟨?_, ?_, h1.2, by rw [h3, ← h4]⟩
  · cases fl <;> first | rfl | cases h1.1.1
  · have := h1.1.2
    revert this
    generalize env[i]? = o
    intro q
    unfold is9 at q
    split at q
    · rfl
    · cases q
section
variable {X : Cx} {K : PySem.W.Frag} {m : Bool} {e a b c d tg : Expr} {ta tb tc td : TE} {f f1 f2 h k : EF} {body : List Stmt} {ft : GF} {gt : TG} {ts : TS} {fb : SF} {vs : List Nat} {pos : Pos}
theorem wk_keys {A B : Addr → Prop} {H1 : Hp} {p : Addr} {od : Obj} {kvs : List (Int × V)} (n : ¬ A p) (e : H1 p = some (.frz od (dkO kvs))) : Wk K A B (Itk p od (kvK kvs)) ((kvs.map (·.1)).map .int) H1 := fun H2 k => by
  have e2 := k.at_ p _ n e
  refine ⟨fun i x hx => ?_, e2, by simp⟩
  rw [List.getElem?_map, List.getElem?_map] at hx
  cases q : kvs[i]? with
  | none => rw [q] at hx; cases hx
  | some kv =>
    rw [q] at hx
    cases hx
    refine ⟨⟨e2, by have := (List.getElem?_eq_some_iff.mp q).1; simpa using this⟩, fun v H3 y => ?_⟩
    obtain ⟨rfl, kk, v2, hk, rfl⟩ := y
    rw [List.getElem?_map, q] at hk
    cases hk
    exact ⟨Same.refl _, .int _⟩
theorem vw_forD {i : Nat} (pg : VwG K vs gt ft) (pb : VwS K ts fb) : VwS K (tLock (tFor (iKeys (tVar i)) gt ts)) (sForD i ft fb) := fun g env w σ H D fl envF wF hK I hf F => by
  unfold sForD at hf
  cases e1 : env[i]? with
  | none => rw [e1] at hf; cases hf
  | some s =>
    rw [e1] at hf
    cases s with
    | ow bb xs =>
      cases bb with
      | false => cases hf
      | true =>
        obtain ⟨hw, hf⟩ := ite_get hf
        obtain ⟨⟨fl2, env2⟩, w2, h1, h2⟩ := bind_some.mp hf
        obtain ⟨rfl, e2, hw2, h3⟩ := endD_get h2
        cases h3
        obtain ⟨a, kvs, ea, ha, ra, h0, nt⟩ := I.owD i xs e1
        refine ⟨a, dkO kvs, ha, trivial, fun od => ?_⟩
        have I2 := I.lock (u := .frz od (dkO kvs)) e1 ea hw
        have no2 : ¬ ownA (env.set i (.st 9)) σ a := fun ⟨j, b1, zs, q1, q2⟩ => by
          rcases set_get q1 with ⟨_, e⟩ | ⟨hj, q1⟩
          · cases e
          · exact hj (I.dist j i _ _ zs xs a q1 e1 q2 ea)
        have hk := dkeys_ok kvs ra
        refine ⟨_, ea, a, od, rfl, .inl ⟨kvK kvs, upd_same, ?_⟩⟩
        refine for_core (g1 := (g.at a)) (xs := (dKeys xs).map .int) pg pb I2 ?_ h1 ?_
        · rw [hk]
          exact wk_keys (fun z => z.elim nt fun q => no2 q.2) upd_same
        · intro g3 σ3 H3 I3 E3
          have hH : H3 a = some (.frz od (dkO kvs)) := E3.at_ a _ (fun z => nt (g.zt a z)) no2 upd_same
          have na3 : ¬ g3.T a := fun z => (E3.t2 a z).elim nt fun q => by have := q.1; rw [upd_same] at this; cases this
          have no3 : ¬ ownA env2 σ3 a := fun z => (E3.own a z).elim no2 fun q => by rw [upd_same] at q; cases q
          have ewd : g3.wd = a := E3.wd
          have r2 : Reps K (av (g.at a) true (env.set i (.st 9)) σ) (upd H a (.frz od (dkO kvs))) (layV kvs) xs := ra.mon (fun b o n e => by
              rw [upd_ne (show b ≠ a from fun z => n (.inr ⟨rfl, by rw [z]; exact ⟨i, true, xs, e1, ea⟩⟩))]; exact e) fun b z => z.imp id fun q => ⟨rfl, by
              obtain ⟨j, b1, zs, q1, q2⟩ := q.2
              rcases set_get q1 with ⟨_, e⟩ | ⟨hj, q1⟩
              · cases e
              · exact ⟨j, b1, zs, q1, q2⟩⟩
          have r3 := r2.eff E3
          have h03 : g3.H0 a = none := by rw [E3.h0]; exact h0
          subst ewd
          refine ⟨hH, F σ3 _ (I3.unlock (wd0 := g.wd) e2 hH r3 no3 na3 h03 hw2) ?_⟩
          refine ⟨fun b o nz no e => ?_, fun b e => ?_, fun b q => ?_, E3.t1, fun b t => ?_, E3.z1, fun b z => ?_, E3.h0, E3.sd, E3.kd, rfl⟩
          · have nb : b ≠ g3.wd := fun z => no (by rw [z]; exact ⟨i, true, xs, e1, ea⟩)
            rw [upd_ne nb]
            refine E3.at_ b o nz (fun q => no ?_) (by rw [upd_ne nb]; exact e)
            obtain ⟨j, b1, zs, q1, q2⟩ := q
            rcases set_get q1 with ⟨_, e⟩ | ⟨hj, q1⟩
            · cases e
            · exact ⟨j, b1, zs, q1, q2⟩
          · by_cases z : b = g3.wd
            · subst z; rw [upd_same]; simp
            · rw [upd_ne z]; exact E3.live b (by rw [upd_ne z]; exact e)
          · obtain ⟨j, b1, zs, q1, q2⟩ := q
            rcases set_get q1 with ⟨rfl, e⟩ | ⟨hj, q1⟩
            · have := (I3.st j 9 e2).2 rfl
              rw [this] at q2
              cases q2
              exact .inl ⟨j, true, xs, e1, ea⟩
            · rcases E3.own b ⟨j, b1, zs, q1, q2⟩ with ⟨j, b1, zs, q1, q2⟩ | q
              · rcases set_get q1 with ⟨_, e⟩ | ⟨hj, q1⟩
                · cases e
                · exact .inl ⟨j, b1, zs, q1, q2⟩
              · by_cases z : b = g3.wd
                · subst z; rw [upd_same] at q; cases q
                · rw [upd_ne z] at q; exact .inr q
          · rcases E3.t2 b t with t | q
            · exact .inl t
            · by_cases z : b = g3.wd
              · subst z; have := q.1; rw [upd_same] at this; cases this
              · have q1 := q.1; rw [upd_ne z] at q1; exact .inr ⟨q1, q.2⟩
          · rcases E3.z2 b z with t | q
            · exact .inl t
            · by_cases z : b = g3.wd
              · subst z; have := q.1; rw [upd_same] at this; cases this
              · have q1 := q.1; rw [upd_ne z] at q1; exact .inr ⟨q1, q.2⟩
    | _ => cases hf
/-- for g in d -/
theorem psv_forD {i : Nat} {x : Str} {px : Pos} (hc : X.calm = true) (hN : X.N[i]? = some x) (hv : visB X.env.scope x = true) (hd : dunB x = true) (hg : PGV X tg vs gt ft) (hb : PSsV X body ts fb) (hp : PassesOwn (model X.prog X.w) X.A X.env X.xe)
    (hs : ∀ v, foldedSetIterable (.Name x px) X.env v = pure v) : PSV X (.For tg (.Name x px) body [] pos) (tLock (tFor (iKeys (tVar i)) gt ts)) (sForD i ft fb) :=
  ⟨ps_lock (ps_for hp hc (pi_keys (pe_var hN (vis_of hv) (dun1 hd) (dun2 hd))) hg.pe hb.pe hs), vw_forD hg.vw hb.vw⟩
end
end VE
/-! ### a chain of three comparisons -/
namespace VE
open PySem PySem.Spec L2
open PyProof.Rows hiding St
def tChain3 (r r' r'' : R2) (ta tb tc td : TE) : TE := fun σ H Q => ta σ H fun x H1 => tb σ H1 fun y H2 => r x y H2 fun z H3 => ∃ k, z = .bl k ∧
  (if k = true then tc σ H3 fun x' H4 => r' y x' H4 fun z' H5 => ∃ k', z' = .bl k' ∧ (if k' = true then td σ H5 fun y' H6 => r'' x' y' H6 Q else Q (.bl false) H5) else Q (.bl false) H3)
section
variable {X : Cx} {K : PySem.W.Frag} {m : Bool} {a b c d : Expr} {ta tb tc td : TE} {f h k l : EF} {pos : Pos}
theorem pe_chain3 {op op' op'' : CmpOp} {r r' r'' : R2} (ho : OpR X (compareOp op) r) (ho' : OpR X (compareOp op') r') (ho'' : OpR X (compareOp op'') r'') (ha : PE X a ta) (hb : PE X b tb) (hc : PE X c tc) (hd : PE X d td)
    (hm : lastMarks [op, op', op''] [b, c, d] = false) : PE X (.Compare a [op, op', op''] [b, c, d] pos) (tChain3 r r' r'' ta tb tc td) := by
  refine ⟨fun pins s σ H Q I h => ?_⟩
  refine Compare_chain (thn (ha.run pins s σ H _ I h) fun v s1 ⟨x, H1, I1, r1, q1⟩ => chain_link (thn (hb.run pins s1 σ H1 _ I1 q1) fun u s2 ⟨y, H2, I2, r2, q2⟩ =>
    thn (ho pins s2 σ H2 x y v u _ I2 r1 r2 q2) fun d s3 ⟨z, H3, I3, r3, k, e, q3⟩ => ?_)) hm
  subst e
  cases r3
  refine wpAny_truthy_bool ?_
  cases k with
  | false => exact ite_ff ⟨.bl false, H3, I3, rfl, q3⟩
  | true =>
    refine ite_tt (chain_link (thn (hc.run pins s3 σ H3 _ I3 q3) fun w' s4 ⟨z', H4, I4, r4, q4⟩ => thn (ho' pins s4 σ H4 y z' u w' _ I4 r2 r4 q4) fun d5 s5 ⟨z5, H5, I5, r5, k5, e5, q5⟩ => ?_))
    subst e5
    cases r5
    refine wpAny_truthy_bool ?_
    cases k5 with
    | false => exact ite_ff ⟨.bl false, H5, I5, rfl, q5⟩
    | true => exact ite_tt (chain_last (thn (hd.run pins s5 σ H5 _ I5 q5) fun w6 s6 ⟨z6, H6, I6, r6, q6⟩ => ho'' pins s6 σ H6 z' z6 w' w6 Q I6 r4 r6 q6))
theorem vw_chain3 {r r' r'' : R2} {F F' F'' : PyData → PyData → Option PyData} (ho : OpV K r F) (ho' : OpV K r' F') (ho'' : OpV K r'' F'') (p : VwE K false ta f) (q : VwE K false tb h) (s : VwE K false tc k) (t : VwE K false td l) : VwE K m (tChain3 r r' r'' ta tb tc td) (xChain3 F F' F'' f h k l) := fun g env w σ H Q x w' hK I hf kk => by
  obtain ⟨y, w1, h1, h2⟩ := bind_some.mp hf
  obtain ⟨z, w2, h3, h4⟩ := bind_some.mp h2
  obtain ⟨b1, w3, h5, h6⟩ := bind_some.mp h4
  obtain ⟨e1, rfl⟩ := lift_get h5
  refine p _ env w σ H _ y _ hK I h1 fun v H1 k1 d1 r1 => ?_
  refine q _ env _ σ H1 _ z _ hK (I.step k1 d1) h3 fun v2 H2 k2 d2 r2 => ?_
  have I2 := (I.step k1 d1).step k2 d2
  obtain ⟨zz, ez, eb⟩ := Option.bind_eq_some_iff.mp e1
  refine ho (av _ false env σ) H2 v v2 y z zz _ (fun a t => I2.avLive t) (r1.keep k2) r2 ez fun t1 H3 s3 r3 => ?_
  have I3 := I2.step (Keep.of_same s3) (I2.same s3)
  have k3 := (k1.trans k2).trans (Keep.of_same s3)
  cases zz with
  | bool bb =>
    have : bb = b1 := by simpa [asB] using eb
    subst this
    cases r3
    refine ⟨bb, rfl, ?_⟩
    cases bb with
    | false =>
      rw [if_neg Bool.false_ne_true] at h6
      rw [if_neg Bool.false_ne_true]
      obtain ⟨rfl, rfl⟩ := pure_get h6
      exact kk _ H3 k3 I3.dr (.bl _)
    | true =>
      rw [if_pos rfl] at h6
      rw [if_pos rfl]
      obtain ⟨u, w4, h7, h8⟩ := bind_some.mp h6
      obtain ⟨b2, w5, h9, h10⟩ := bind_some.mp h8
      obtain ⟨e2, rfl⟩ := lift_get h9
      obtain ⟨z2, ez2, eb2⟩ := Option.bind_eq_some_iff.mp e2
      refine s _ env _ σ H3 _ u _ hK I3 h7 fun v4 H4 k4 d4 r4 => ?_
      have I4 := I3.step k4 d4
      refine ho' (av _ false env σ) H4 v2 v4 z u z2 _ (fun a t => I4.avLive t) (r2.keep ((Keep.of_same s3).trans k4)) r4 ez2 fun t5 H5 s5 r5 => ?_
      have I5 := I4.step (Keep.of_same s5) (I4.same s5)
      have k5 := (k3.trans k4).trans (Keep.of_same s5)
      cases z2 with
      | bool b3 =>
        have : b3 = b2 := by simpa [asB] using eb2
        subst this
        cases r5
        refine ⟨b3, rfl, ?_⟩
        cases b3 with
        | false =>
          rw [if_neg Bool.false_ne_true] at h10
          rw [if_neg Bool.false_ne_true]
          obtain ⟨rfl, rfl⟩ := pure_get h10
          exact kk _ H5 k5 I5.dr (.bl _)
        | true =>
          rw [if_pos rfl] at h10
          rw [if_pos rfl]
          obtain ⟨u6, w6, h11, h12⟩ := bind_some.mp h10
          obtain ⟨b6, w7, h13, h14⟩ := bind_some.mp h12
          obtain ⟨e6, rfl⟩ := lift_get h13
          obtain ⟨rfl, rfl⟩ := pure_get h14
          obtain ⟨z6, ez6, eb6⟩ := Option.bind_eq_some_iff.mp e6
          refine t _ env _ σ H5 _ u6 _ hK I5 h11 fun v6 H6 k6 d6 r6 => ?_
          have I6 := I5.step k6 d6
          refine ho'' (av _ false env σ) H6 v4 v6 u u6 z6 Q (fun a t => I6.avLive t) (r4.keep ((Keep.of_same s5).trans k6)) r6 ez6 fun t7 H7 s7 r7 => ?_
          cases z6 with
          | bool b7 =>
            have : b7 = b6 := by simpa [asB] using eb6
            subst this
            cases r7
            exact kk _ H7 ((k5.trans k6).trans (Keep.of_same s7)) (I6.same s7) (.bl _)
          | _ => simp [asB] at eb6
      | _ => simp [asB] at eb2
  | _ => simp [asB] at eb
theorem pv_chain3 {op op' op'' : CmpOp} {r r' r'' : R2} {F F' F'' : PyData → PyData → Option PyData} (hr : OpR X (compareOp op) r) (ho : OpV X.K r F) (hr' : OpR X (compareOp op') r') (ho' : OpV X.K r' F') (hr'' : OpR X (compareOp op'') r'') (ho'' : OpV X.K r'' F'')
    (p : PV X false a ta f) (q : PV X false b tb h) (s : PV X false c tc k) (t : PV X false d td l) (hm : lastMarks [op, op', op''] [b, c, d] = false) :
    PV X m (.Compare a [op, op', op''] [b, c, d] pos) (tChain3 r r' r'' ta tb tc td) (xChain3 F F' F'' f h k l) := ⟨pe_chain3 hr hr' hr'' p.pe q.pe s.pe t.pe hm, vw_chain3 ho ho' ho'' p.vw q.vw s.vw t.vw⟩
theorem pt_chain3 {op op' op'' : CmpOp} {r r' r'' : R2} (ho : OpR X (compareOp op) r) (ho' : OpR X (compareOp op') r') (ho'' : OpR X (compareOp op'') r'') (ha : PE X a ta) (hb : PE X b tb) (hc : PE X c tc) (hd : PE X d td)
    (hm : lastMarks [op, op', op''] [b, c, d] = false) : PT X (.Compare a [op, op', op''] [b, c, d] pos) (tTest (tChain3 r r' r'' ta tb tc td)) := by
  refine ⟨fun pins s σ H Q I h => ?_⟩
  refine isTrue_chain (thn (ha.run pins s σ H _ I h) fun v s1 ⟨x, H1, I1, r1, q1⟩ => test_link (thn (hb.run pins s1 σ H1 _ I1 q1) fun u s2 ⟨y, H2, I2, r2, q2⟩ =>
    thn (ho pins s2 σ H2 x y v u _ I2 r1 r2 q2) fun d s3 ⟨z, H3, I3, r3, k, e, q3⟩ => ?_)) hm
  subst e
  cases r3
  refine wpAny_truthy_bool ?_
  cases k with
  | false =>
    obtain ⟨k', e', q'⟩ := q3
    cases e'
    exact ite_ff ⟨H3, I3, q'⟩
  | true =>
    refine ite_tt (test_link (thn (hc.run pins s3 σ H3 _ I3 q3) fun w' s4 ⟨z', H4, I4, r4, q4⟩ => thn (ho' pins s4 σ H4 y z' u w' _ I4 r2 r4 q4) fun d5 s5 ⟨z5, H5, I5, r5, k5, e5, q5⟩ => ?_))
    subst e5
    cases r5
    refine wpAny_truthy_bool ?_
    cases k5 with
    | false =>
      obtain ⟨k', e', q'⟩ := q5
      cases e'
      exact ite_ff ⟨H5, I5, q'⟩
    | true =>
      refine ite_tt (test_last (thn (hd.run pins s5 σ H5 _ I5 q5) fun w6 s6 ⟨z6, H6, I6, r6, q6⟩ => thn (ho'' pins s6 σ H6 z' z6 w' w6 _ I6 r4 r6 q6) fun d7 s7 ⟨z7, H7, I7, r7, k7, e7, q7⟩ => ?_))
      subst e7
      cases r7
      exact wpAny_truthy_bool ⟨H7, I7, q7⟩
theorem pt_chain3V {op op' op'' : CmpOp} {r r' r'' : R2} {F F' F'' : PyData → PyData → Option PyData} (hr : OpR X (compareOp op) r) (ho : OpV X.K r F) (hr' : OpR X (compareOp op') r') (ho' : OpV X.K r' F') (hr'' : OpR X (compareOp op'') r'') (ho'' : OpV X.K r'' F'')
    (p : PV X false a ta f) (q : PV X false b tb h) (s : PV X false c tc k) (t : PV X false d td l) (hm : lastMarks [op, op', op''] [b, c, d] = false) :
    PTV X (.Compare a [op, op', op''] [b, c, d] pos) (tTest (tChain3 r r' r'' ta tb tc td)) (xTest (xChain3 F F' F'' f h k l)) := ⟨pt_chain3 hr hr' hr'' p.pe q.pe s.pe t.pe hm, vw_tTest (vw_chain3 ho ho' ho'' p.vw q.vw s.vw t.vw)⟩
end
end VE

namespace VE
open PySem
/-- windows_at(minute, width, step, low, turn) -/
def windows_atB : SF :=
    (sSeq (sAsg (xCall fMax (xCons (xC (.int 0)) (xCons (xOp fAdd (xOp fDiv (xOp fSub (xVar 0) (xVar 1)) (xVar 2)) (xC (.int 1))) xNil))) (gNm 3))
    (sRet (xAs (xComp [4] (iR2 (xCons (xVar 3) (xCons (xOp fAdd (xOp fDiv (xVar 0) (xVar 2)) (xC (.int 1))) xNil))) (gNm 4) tYesF (xOp fMul (xVar 4) (xVar 2))))))
def windows_atF : List D → Option D := runDef 3 2 (windows_atB)
/-- marks(events, lateness, found, top, minute) -/
def marksB : SF :=
    (sSeq (sOwn 2 (xLst xNil))
    (sSeq (sAsg (xC .none) (gNm 3))
    (sSeq (sFor (iLst (xVar 0)) (gNm 4) (sSeq (sAsg (xIf (xOr (xTest (xUn fIsN (xVar 3))) (xTest (xOp fGt (xVar 4) (xVar 3)))) (xVar 4) (xVar 3)) (gNm 3))
    (sApp 2 (xOp fSub (xVar 3) (xVar 1)))))
    (sRet (xVarO 2)))))
def marksF : List D → Option D := runDef 2 3 (marksB)
/-- counted(events, width, step, lateness, counts, closed, lost, mark, place, minute, start) -/
def countedB : SF :=
    (sSeq (sDNew 4)
    (sSeq (sDNew 5)
    (sSeq (sOwn 6 (xLst xNil))
    (sSeq (sAsg (xC .none) (gNm 7))
    (sSeq (sFor (iEnumV (xCons (xVar 0) xNil)) (gTp 2 (gsCons (gNm 8) (gsCons (gNm 9) gsNil))) (sSeq (sFor (iLst (xCall windows_atF (xCons (xVar 9) (xCons (xVar 1) (xCons (xVar 2) xNil))))) (gNm 10) (sIf (xOr (xTest (xDIn 5 (xVar 10))) (xAnd (xTest (xUn fNotN (xVar 7))) (xTest (xOp fLe (xOp fAdd (xVar 10) (xVar 1)) (xVar 7))))) (sSeq (sDSetd 5 (xVar 10) (xVar 8))
    (sApp 6 (xTup (xCons (xVar 8) (xCons (xVar 10) xNil))))) (sDPut 4 (xVar 10) (xOp fAdd (xDGet2 4 (xVar 10) (xC (.int 0))) (xC (.int 1))))))
    (sSeq (sAsg (xOp fIx (xCall marksF (xCons (xAs (xSlice (xVar 0) oNo (oSome (xOp fAdd (xVar 8) (xC (.int 1)))))) (xCons (xVar 3) xNil))) (xUn fNeg (xC (.int 1)))) (gNm 7))
    (sForD 4 (gNm 10) (sIf (xAnd (xTest (xOp fLe (xOp fAdd (xVar 10) (xVar 1)) (xVar 7))) (xTest (xDNotIn 5 (xVar 10)))) (sDPut 5 (xVar 10) (xVar 8)) sPass)))))
    (sRet (xTup (xCons (xAs (xComp [10] (iLst (xAs (xSortD 4))) (gNm 10) tYesF (xTup (xCons (xVar 10) (xCons (xDIx 4 (xVar 10)) (xCons (xDGet1 5 (xVar 10)) xNil)))))) (xCons (xVarO 6) xNil)))))))))
def countedF : List D → Option D := runDef 4 7 (countedB)
/-- least_lateness(events, width, step, best, top, place, minute, start, need) -/
def least_latenessB : SF :=
    (sSeq (sAsg (xTup (xCons (xC (.int 0)) (xCons (xC .none) (xCons (xC .none) xNil)))) (gNm 3))
    (sSeq (sAsg (xC .none) (gNm 4))
    (sSeq (sFor (iEnumV (xCons (xVar 0) xNil)) (gTp 2 (gsCons (gNm 5) (gsCons (gNm 6) gsNil))) (sSeq (sIf (xTest (xUn fNotN (xVar 4))) (sFor (iLst (xCall windows_atF (xCons (xVar 6) (xCons (xVar 1) (xCons (xVar 2) xNil))))) (gNm 7) (sSeq (sAsg (xOp fAdd (xOp fSub (xOp fIx (xVar 0) (xVar 4)) (xOp fAdd (xVar 7) (xVar 1))) (xC (.int 1))) (gNm 8))
    (sIf (xTest (xOp fGt (xVar 8) (xOp fIx (xVar 3) (xC (.int 0))))) (sAsg (xTup (xCons (xVar 8) (xCons (xVar 4) (xCons (xVar 5) xNil)))) (gNm 3)) sPass))) sPass)
    (sIf (xOr (xTest (xUn fIsN (xVar 4))) (xTest (xOp fGt (xVar 6) (xOp fIx (xVar 0) (xVar 4))))) (sAsg (xVar 5) (gNm 4)) sPass)))
    (sRet (xVar 3)))))
def least_latenessF : List D → Option D := runDef 3 6 (least_latenessB)
/-- least_lateness_fault(events, width, step, told, lateness, early, late, needs, start) -/
def least_lateness_faultB : SF :=
    (sSeq (sAsg (xVar 3) (gTp 3 (gsCons (gNm 4) (gsCons (gNm 5) (gsCons (gNm 6) gsNil)))))
    (sSeq (sIf (xOr (xTest (xOp fLt (xVar 4) (xC (.int 0)))) (xTruth (xOp fIx (xCall countedF (xCons (xVar 0) (xCons (xVar 1) (xCons (xVar 2) (xCons (xVar 4) xNil))))) (xC (.int 1))))) (sRet (xTup (xCons (xC (.str (Str.ofString "lost"))) xNil))) sPass)
    (sSeq (sIf (xOr (xTest (xUn fIsN (xVar 5))) (xTest (xUn fIsN (xVar 6)))) (sRet (xIf (xTest (xOp fEq (xVar 4) (xC (.int 0)))) (xC .none) (xTup (xCons (xC (.str (Str.ofString "places"))) xNil)))) sPass)
    (sSeq (sIf (xNot (xTest (xChain3 fLe fLt fLt (xC (.int 0)) (xVar 5) (xVar 6) (xCall fLen (xCons (xVar 0) xNil))))) (sRet (xTup (xCons (xC (.str (Str.ofString "places"))) xNil))) sPass)
    (sSeq (sAsg (xAs (xComp [8] (iLst (xCall windows_atF (xCons (xOp fIx (xVar 0) (xVar 6)) (xCons (xVar 1) (xCons (xVar 2) xNil))))) (gNm 8) tYesF (xOp fAdd (xOp fSub (xOp fIx (xVar 0) (xVar 5)) (xOp fAdd (xVar 8) (xVar 1))) (xC (.int 1))))) (gNm 7))
    (sRet (xIf (xAnd (xTruth (xVar 7)) (xTest (xOp fEq (xCall fMax (xCons (xVar 7) xNil)) (xVar 4)))) (xC .none) (xTup (xCons (xC (.str (Str.ofString "less"))) xNil)))))))))
def least_lateness_faultF : List D → Option D := runDef 4 5 (least_lateness_faultB)
/-- counted_fault(events, width, step, lateness, told, rows, lost, row, due, away, starts, at, start, many, place) -/
def counted_faultB : SF :=
    (sSeq (sAsg (xVar 4) (gTp 2 (gsCons (gNm 5) (gsCons (gNm 6) gsNil))))
    (sSeq (sIf (xTest (xOp fNe (xAs (xComp [7] (iLst (xVar 5)) (gNm 7) tYesF (xOp fIx (xVar 7) (xC (.int 0))))) (xAs (xSortSet (xAs (xComp [7] (iLst (xVar 5)) (gNm 7) tYesF (xOp fIx (xVar 7) (xC (.int 0))))))))) (sRet (xTup (xCons (xC (.str (Str.ofString "order"))) xNil))) sPass)
    (sSeq (sAsg (xCall countedF (xCons (xVar 0) (xCons (xVar 1) (xCons (xVar 2) (xCons (xVar 3) xNil))))) (gTp 2 (gsCons (gNm 8) (gsCons (gNm 9) gsNil))))
    (sSeq (sAsg (xAs (xComp [7] (iLst (xVar 8)) (gNm 7) tYesF (xOp fIx (xVar 7) (xC (.int 0))))) (gNm 10))
    (sSeq (sFor (iEnumV (xCons (xVar 5) xNil)) (gTp 2 (gsCons (gNm 11) (gsCons (gTp 3 (gsCons (gNm 12) (gsCons (gNm 13) (gsCons (gNm 14) gsNil)))) gsNil))) (sSeq (sIf (xTest (xOp fNotIn (xVar 12) (xVar 10))) (sRet (xTup (xCons (xC (.str (Str.ofString "window"))) (xCons (xVar 11) xNil)))) sPass)
    (sSeq (sIf (xTest (xOp fNe (xVar 13) (xOp fIx (xOp fIx (xVar 8) (xMeth fIndex (xVar 10) (xCons (xVar 12) xNil))) (xC (.int 1))))) (sRet (xTup (xCons (xC (.str (Str.ofString "count"))) (xCons (xVar 11) xNil)))) sPass)
    (sIf (xTest (xOp fNe (xVar 14) (xOp fIx (xOp fIx (xVar 8) (xMeth fIndex (xVar 10) (xCons (xVar 12) xNil))) (xC (.int 2))))) (sRet (xTup (xCons (xC (.str (Str.ofString "closed"))) (xCons (xVar 11) xNil)))) sPass))))
    (sSeq (sFor (iLst (xVar 10)) (gNm 12) (sIf (xTest (xOp fNotIn (xVar 12) (xAs (xComp [7] (iLst (xVar 5)) (gNm 7) tYesF (xOp fIx (xVar 7) (xC (.int 0))))))) (sRet (xTup (xCons (xC (.str (Str.ofString "missing"))) (xCons (xVar 12) xNil)))) sPass))
    (sRet (xIf (xTest (xOp fEq (xVar 6) (xVar 9))) (xC .none) (xTup (xCons (xC (.str (Str.ofString "lost"))) xNil))))))))))
def counted_faultF : List D → Option D := runDef 5 10 (counted_faultB)
/-- goes(rhythm, minute, word, start, marks, period, rests) -/
def goesB : SF :=
    (sSeq (sAsg (xVar 0) (gTp 5 (gsCons (gNm 2) (gsCons (gNm 3) (gsCons (gNm 4) (gsCons (gNm 5) (gsCons (gNm 6) gsNil)))))))
    (sSeq (sIf (xTest (xOp fLt (xVar 1) (xVar 3))) (sRet (xOp fIn (xVar 1) (xVar 4))) sPass)
    (sRet (xOp fIn (xOp fMod (xVar 1) (xVar 5)) (xVar 6)))))
def goesF : List D → Option D := runDef 2 5 (goesB)
/-- least(rhythm, word, start, marks, period, rests, short, some, rest, mark) -/
def leastB (n : Nat) : SF :=
    (sSeq (sAsg (xVar 0) (gTp 5 (gsCons (gNm 1) (gsCons (gNm 2) (gsCons (gNm 3) (gsCons (gNm 4) (gsCons (gNm 5) gsNil)))))))
    (sSeq (sFor (iR2 (xCons (xC (.int 1)) (xCons (xOp fAdd (xVar 4) (xC (.int 1))) xNil))) (gNm 6) (sIf (xTest (xOp fEq (xOp fMod (xVar 4) (xVar 6)) (xC (.int 0)))) (sSeq (sAsg (xAs (xComp [8] (iLst (xVar 5)) (gNm 8) (xTest (xOp fLt (xVar 8) (xVar 6))) (xVar 8))) (gNm 7))
    (sIf (xTest (xOp fEq (xVar 5) (xAs (xComp [8] (iR1 (xCons (xVar 4) xNil)) (gNm 8) (xTest (xOp fIn (xOp fMod (xVar 8) (xVar 6)) (xVar 7))) (xVar 8))))) (sSeq (sPar 4 5 (xCons (xVar 6) (xCons (xVar 7) xNil)))
    sBreak) sPass)) sPass))
    (sSeq (sAsg (xAs (xList (xVar 3))) (gNm 3))
    (sSeq (sWhile n (xAnd (xTest (xOp fGt (xVar 2) (xC (.int 0)))) (xTest (xOp fEq (xOp fIn (xOp fSub (xVar 2) (xC (.int 1))) (xVar 3)) (xOp fIn (xOp fMod (xOp fSub (xVar 2) (xC (.int 1))) (xVar 4)) (xVar 5))))) (sSeq (sAsg (xOp fSub (xVar 2) (xC (.int 1))) (gNm 2))
    (sAsg (xAs (xComp [9] (iLst (xVar 3)) (gNm 9) (xTest (xOp fLt (xVar 9) (xVar 2))) (xVar 9))) (gNm 3))))
    (sRet (xTup (xCons (xC (.str (Str.ofString "rhythm"))) (xCons (xVar 2) (xCons (xVar 3) (xCons (xVar 4) (xCons (xAs (xList (xVar 5))) xNil)))))))))))
def leastF (n : Nat) : List D → Option D := runDef 1 9 (leastB n)
/-- from_runs(first, period) -/
def from_runsB (n : Nat) : SF :=
    (sRet (xCall (leastF n) (xCons (xTup (xCons (xC (.str (Str.ofString "rhythm"))) (xCons (xVar 0) (xCons (xAs (xLst xNil)) (xCons (xVar 1) (xCons (xAs (xLst (xCons (xOp fMod (xVar 0) (xVar 1)) xNil))) xNil)))))) xNil)))
def from_runsF (n : Nat) : List D → Option D := runDef 2 0 (from_runsB n)
/-- nth(rhythm, number, word, start, marks, period, rests, left, row, rest) -/
def nthB : SF :=
    (sSeq (sAsg (xVar 0) (gTp 5 (gsCons (gNm 2) (gsCons (gNm 3) (gsCons (gNm 4) (gsCons (gNm 5) (gsCons (gNm 6) gsNil)))))))
    (sSeq (sIf (xTest (xOp fLt (xVar 1) (xCall fLen (xCons (xVar 4) xNil)))) (sRet (xOp fIx (xVar 4) (xVar 1))) sPass)
    (sSeq (sIf (xNot (xTruth (xVar 6))) (sRet (xC .none)) sPass)
    (sSeq (sAsg (xOp fSub (xVar 1) (xCall fLen (xCons (xVar 4) xNil))) (gNm 7))
    (sSeq (sAsg (xAs (xSorted (xAs (xComp [9] (iLst (xVar 6)) (gNm 9) tYesF (xOp fAdd (xVar 3) (xOp fMod (xOp fSub (xVar 9) (xVar 3)) (xVar 5))))))) (gNm 8))
    (sRet (xOp fAdd (xOp fIx (xVar 8) (xOp fMod (xVar 7) (xCall fLen (xCons (xVar 8) xNil)))) (xOp fMul (xVar 5) (xOp fDiv (xVar 7) (xCall fLen (xCons (xVar 8) xNil)))))))))))
def nthF : List D → Option D := runDef 2 8 (nthB)
/-- law(script, state, step, width, begins, k, minute, start, events, least_v, told, late), behind its first line -/
def lawB (n : Nat) : SF :=
    (sSeq (sAsg (xTup (xCons (xOp fAdd (xC (.int 1)) (xTake 1 (xC (.int 5)))) (xCons (xOp fAdd (xC (.int 1)) (xTake 1 (xC (.int 9)))) xNil))) (gTp 2 (gsCons (gNm 2) (gsCons (gNm 3) gsNil))))
    (sSeq (sAsg (xCall (from_runsF n) (xCons (xC (.int 0)) (xCons (xVar 2) xNil))) (gNm 4))
    (sSeq (sIf (xTest (xOp fNe (xAs (xComp [5] (iR1 (xCons (xC (.int 9)) xNil)) (gNm 5) tYesF (xCall nthF (xCons (xVar 4) (xCons (xVar 5) xNil))))) (xAs (xComp [5] (iR1 (xCons (xC (.int 9)) xNil)) (gNm 5) tYesF (xOp fMul (xVar 2) (xVar 5)))))) (sRet (xC (.bool false))) sPass)
    (sSeq (sFor (iR1 (xCons (xC (.int 31)) xNil)) (gNm 6) (sIf (xTest (xOp fNe (xCall windows_atF (xCons (xVar 6) (xCons (xVar 3) (xCons (xVar 2) xNil)))) (xAs (xComp [7] (iR1 (xCons (xOp fAdd (xVar 6) (xC (.int 1))) xNil)) (gNm 7) (xAnd (xTruth (xCall goesF (xCons (xVar 4) (xCons (xVar 7) xNil)))) (xTest (xOp fLt (xVar 6) (xOp fAdd (xVar 7) (xVar 3))))) (xVar 7))))) (sRet (xC (.bool false))) sPass))
    (sSeq (sAsg (xAs (xComp [5] (iR1 (xCons (xTake 1 (xC (.int 7))) xNil)) (gNm 5) tYesF (xTake 1 (xC (.int 31))))) (gNm 8))
    (sSeq (sAsg (xCall least_latenessF (xCons (xVar 8) (xCons (xVar 3) (xCons (xVar 2) xNil)))) (gNm 9))
    (sSeq (sAsg (xCall countedF (xCons (xVar 8) (xCons (xVar 3) (xCons (xVar 2) (xCons (xOp fIx (xVar 9) (xC (.int 0))) xNil))))) (gNm 10))
    (sSeq (sIf (xOr (xTest (xUn fNotN (xCall least_lateness_faultF (xCons (xVar 8) (xCons (xVar 3) (xCons (xVar 2) (xCons (xVar 9) xNil))))))) (xTest (xUn fNotN (xCall counted_faultF (xCons (xVar 8) (xCons (xVar 3) (xCons (xVar 2) (xCons (xOp fIx (xVar 9) (xC (.int 0))) (xCons (xVar 10) xNil))))))))) (sRet (xC (.bool false))) sPass)
    (sSeq (sOwn 11 (xLst (xCons (xC (.int 0)) xNil)))
    (sSeq (sFor (iR2 (xCons (xC (.int 1)) (xCons (xCall fLen (xCons (xVar 8) xNil)) xNil))) (gNm 5) (sExt 11 (xAs (xComp [7] (iLst (xCall windows_atF (xCons (xOp fIx (xVar 8) (xVar 5)) (xCons (xVar 3) (xCons (xVar 2) xNil))))) (gNm 7) tYesF (xOp fAdd (xOp fSub (xOp fSub (xCall fMax (xCons (xAs (xSlice (xVar 8) oNo (oSome (xVar 5)))) xNil)) (xVar 7)) (xVar 3)) (xC (.int 1)))))))
    (sRet (xAndV (xOp fEq (xOp fIx (xVar 9) (xC (.int 0))) (xCall fMax (xCons (xVarO 11) xNil))) (xOp fEq (xOp fEq (xOp fIx (xVar 9) (xC (.int 0))) (xC (.int 0))) (xUn fIsN (xOp fIx (xVar 9) (xC (.int 1)))))))))))))))))
end VE

/-! Ev: how mirrors are reckoned. -/
namespace VE
open PySem
theorem pb {α β : Type} (a : α) (k : α → M β) : ((pure a : M α) >>= k) = k a := pure_bind a k
theorem xVar_at {i : Nat} {env : En} {x : D} (h : env[i]? = some (.sh x)) : xVar i env = pure x := by unfold xVar; rw [h]
theorem xVarO_sh {i : Nat} {env : En} {x : D} (h : env[i]? = some (.sh x)) : xVarO i env = pure x := by unfold xVarO; rw [h]
theorem xVarO_ow {i : Nat} {env : En} {xs : List D} (h : env[i]? = some (.ow false xs)) : xVarO i env = pure (.list xs) := by unfold xVarO; rw [h]
/-- a comprehension over coded items -/
theorem compL_map {α : Type} {g : GF} {t : TF} {f : EF} {env : En} (enc : α → D) (p : α → Bool) (h : α → D) :
    ∀ xs : List α, (∀ x ∈ xs, ∃ env1, g (enc x) env = some env1 ∧ t env1 = pure (p x) ∧ (p x = true → f env1 = pure (h x))) → compL g t f env (xs.map enc) = pure ((xs.filter p).map h)
  | [], _ => rfl
  | x :: r, H => by
    obtain ⟨env1, h1, h2, h3⟩ := H x List.mem_cons_self
    have ih := compL_map enc p h r fun y hy => H y (List.mem_cons_of_mem _ hy)
    rw [List.map_cons, compL, h1, lift_some, pb, h2, pb]
    cases hp : p x with
    | false => rw [if_neg Bool.false_ne_true, ih, List.filter_cons_of_neg (by rw [hp]; exact Bool.false_ne_true)]
    | true => rw [if_pos rfl, h3 hp, pb, ih, pb, List.filter_cons_of_pos hp]; rfl
/-- .. without a test -/
theorem compL_all {α : Type} {g : GF} {f : EF} {env : En} (enc : α → D) (h : α → D) (xs : List α) (H : ∀ x ∈ xs, ∃ env1, g (enc x) env = some env1 ∧ f env1 = pure (h x)) : compL g tYesF f env (xs.map enc) = pure (xs.map h) := by
  rw [compL_map enc (fun _ => true) h xs fun x hx => ?_]
  · rw [List.filter_eq_self.mpr fun _ _ => rfl]
  · obtain ⟨e, h1, h2⟩ := H x hx
    exact ⟨e, h1, rfl, fun _ => h2⟩
/-- a loop by its invariant, every turn goes on -/
theorem for_inv {g : GF} {body : SF} (I : Nat → En → Prop) : ∀ (xs : List D) (k : Nat) (env : En), I k env →
    (∀ i x env, xs[i]? = some x → I (k + i) env → ∃ env1 fl env2, g x env = some env1 ∧ body env1 = pure (fl, env2) ∧ (fl = .nx ∨ fl = .ct) ∧ I (k + i + 1) env2) →
    ∃ env', sFor.go g body xs env = pure (.nx, env') ∧ I (k + xs.length) env'
  | [], k, env, h0, _ => ⟨env, rfl, h0⟩
  | x :: r, k, env, h0, H => by
    obtain ⟨env1, fl, env2, h1, h2, hfl, h3⟩ := H 0 x env rfl h0
    obtain ⟨env', h4, h5⟩ := for_inv I r (k + 1) env2 h3 fun i y e hy hI => by
      have := H (i + 1) y e (by simpa using hy) (by rw [show k + (i + 1) = k + 1 + i by omega]; exact hI)
      rw [show k + (i + 1) + 1 = k + 1 + i + 1 by omega] at this
      exact this
    refine ⟨env', ?_, by rw [show k + (x :: r).length = k + 1 + r.length by rw [List.length_cons]; omega]; exact h5⟩
    rw [sFor.go, h1, lift_some, pb, h2, pb]
    rcases hfl with rfl | rfl <;> exact h4
/-- a while by its invariant and a measure that its fuel covers -/
theorem while_inv {t : TF} {body : SF} (I : En → Prop) (μ : En → Nat) (J : En → Prop) (step : ∀ env, I env → (t env = pure false ∧ J env) ∨ (t env = pure true ∧ ∃ fl env2, body env = pure (fl, env2) ∧ (fl = .nx ∨ fl = .ct) ∧ I env2 ∧ μ env2 < μ env)) :
    ∀ (n : Nat) (env : En), I env → μ env < n → ∃ env', sWhile.go t body n env = pure (.nx, env') ∧ J env'
  | 0, _, _, h => absurd h (Nat.not_lt_zero _)
  | n + 1, env, hI, hm => by
    rcases step env hI with ⟨h1, hJ⟩ | ⟨h1, fl, env2, h2, hfl, hI2, hlt⟩
    · refine ⟨env, ?_, hJ⟩
      rw [sWhile.go, h1, pb, if_neg Bool.false_ne_true]
    · obtain ⟨env', h3, hJ⟩ := while_inv I μ J step n env2 hI2 (by omega)
      refine ⟨env', ?_, hJ⟩
      rw [sWhile.go, h1, pb, if_pos rfl, h2, pb]
      rcases hfl with rfl | rfl <;> exact h3
theorem runDef_rt {np nl : Nat} {body : SF} {xs : List D} {y : D} {env' : En} (hl : xs.length = np) (h : body (xs.map .sh ++ List.replicate nl .no) = pure (.rt y, env')) : runDef np nl body xs = some y := by
  unfold runDef
  rw [if_pos hl, h]
  rfl
theorem runDef_ex {np nl : Nat} {body : SF} {xs : List D} {y : D} (hl : xs.length = np) (h : ∃ env', body (xs.map .sh ++ List.replicate nl .no) = pure (.rt y, env')) : runDef np nl body xs = some y := by
  obtain ⟨e, h⟩ := h
  exact runDef_rt hl h
/-! ### values -/
def dI (xs : List Int) : D := .list (xs.map .int)
def dB (xs : List Bool) : D := .list (xs.map .bool)
theorem asInts_map (xs : List Int) : asInts (xs.map .int) = some xs := by
  induction xs with
  | nil => rfl
  | cons x r ih => rw [List.map_cons, asInts, ih]; rfl
theorem asBools_map (xs : List Bool) : asBools (xs.map .bool) = some xs := by
  induction xs with
  | nil => rfl
  | cons x r ih => rw [List.map_cons, asBools, ih]; rfl
theorem eqv_int (i j : Int) : PyData.eqv (.int i) (.int j) = decide (i = j) := by
  unfold PyData.eqv
  exact Bool.beq_eq_decide_eq _ _
theorem shp_int (i : Int) : shp (.int i) = true := rfl
theorem all_flat_ints (xs : List Int) : (xs.map PyData.int).all flat = true := by
  rw [List.all_map]
  exact List.all_eq_true.mpr fun _ _ => rfl
theorem any_eqv (x : Int) (xs : List Int) : ((xs.map PyData.int).any fun z => PyData.eqv z (.int x)) = decide (x ∈ xs) := by
  induction xs with
  | nil => rfl
  | cons y r ih =>
    rw [List.map_cons, List.any_cons, ih, eqv_int]
    by_cases h : y = x
    · subst h; simp
    · have h' : ¬ x = y := fun e => h e.symm
      simp [h, h']
theorem fIn_int (x : Int) (xs : List Int) : fIn (.int x) (.list (xs.map .int)) = some (.bool (decide (x ∈ xs))) := by
  unfold fIn items
  rw [Option.bind_some, all_flat_ints]
  show some (PyData.bool _) = _
  rw [any_eqv]
theorem fNotIn_int (x : Int) (xs : List Int) : fNotIn (.int x) (.list (xs.map .int)) = some (.bool (!decide (x ∈ xs))) := by
  unfold fNotIn items
  rw [Option.bind_some, all_flat_ints]
  show some (PyData.bool _) = _
  rw [any_eqv]
theorem fEq_int (i j : Int) : fEq (.int i) (.int j) = some (.bool (decide (i = j))) := by
  unfold fEq
  rw [shp_int, shp_int, eqv_int]
  rfl
theorem fNe_int (i j : Int) : fNe (.int i) (.int j) = some (.bool (!decide (i = j))) := by
  unfold fNe
  rw [shp_int, shp_int, eqv_int]
  rfl
theorem fSum_ints (xs : List Int) : fSum [.list (xs.map .int)] = some (.int xs.sum) := by
  show (asInts (xs.map .int)).map _ = _
  rw [asInts_map]
  rfl
theorem fAny_bools (xs : List Bool) : fAny [.list (xs.map .bool)] = some (.bool (xs.any id)) := by
  show (asBools (xs.map .bool)).map _ = _
  rw [asBools_map]
  rfl
theorem fLen_list (xs : List D) : fLen [.list xs] = some (.int xs.length) := rfl
theorem atI_nat {xs : List D} {j : Nat} {x : D} (h : xs[j]? = some x) : atI xs (j : Int) = some x := by
  have hl := (List.getElem?_eq_some_iff.mp h).1
  unfold atI ixN
  rw [if_pos (by omega), if_pos (by omega), Option.bind_some, Int.toNat_natCast, h]
theorem atI_of {xs : List D} {i : Int} {x : D} (h0 : 0 ≤ i) (h : xs[i.toNat]? = some x) : atI xs i = some x := by
  have e : i = ((i.toNat : Nat) : Int) := by omega
  rw [e]
  exact atI_nat h
theorem fMod_pos {i j : Int} (h : 0 < j) : fMod (.int i) (.int j) = some (.int (i % j)) := by
  unfold fMod
  exact if_pos h
theorem fDiv_pos {i j : Int} (h : 0 < j) (h2 : j < 1073741824) : fDiv (.int i) (.int j) = some (.int (i / j)) := by
  unfold fDiv
  exact if_pos ⟨h, h2⟩
theorem inW_of {i : Int} (h1 : -(2 ^ 64) < i) (h2 : i < 2 ^ 64) : inW i = true := by
  unfold inW
  rw [decide_eq_true h1, decide_eq_true h2]
  rfl
theorem fMul_l {i j : Int} (h : inW i = true) : fMul (.int i) (.int j) = some (.int (i * j)) := by
  show (if (inW i || inW j) = true then _ else _) = _
  rw [h]
  rfl
theorem fMul_r {i j : Int} (h : inW j = true) : fMul (.int i) (.int j) = some (.int (i * j)) := by
  show (if (inW i || inW j) = true then _ else _) = _
  rw [h, Bool.or_true]
  rfl
end VE

namespace VE
open PySem
/-! draws; statements in a row -/
theorem seq_pure {s r : SF} {env env1 : En} (h : s env = pure (.nx, env1)) : sSeq s r env = r env1 := by
  unfold sSeq
  rw [h, pb]
theorem seq_w {s r : SF} {env env1 : En} {w w1 : W} (h : s env w = some ((.nx, env1), w1)) : sSeq s r env w = r env1 w1 := by
  unfold sSeq
  show (s env >>= _) w = _
  show (StateT.bind (s env) _) w = _
  unfold StateT.bind
  rw [h]
  rfl
theorem bind_w {α β : Type} {x : M α} {k : α → M β} {w w1 : W} {a : α} (h : x w = some (a, w1)) : (x >>= k) w = k a w1 := by
  show (StateT.bind x k) w = _
  unfold StateT.bind
  rw [h]
  rfl
theorem take_ok {most : Int} (h1 : 0 < most) (h2 : most < 1073741824) {w : W} (hw : 0 < w.cells.length) : ∃ r w', takeW most w = some (r, w') ∧ 0 ≤ r ∧ r < most ∧ 0 < w'.cells.length := by
  have hn : 0 ≤ w.pos % (w.cells.length : Int) := Int.emod_nonneg _ (by omega)
  have hl : w.pos % (w.cells.length : Int) < w.cells.length := Int.emod_lt_of_pos _ (by omega)
  have hi : (w.pos % (w.cells.length : Int)).toNat < w.cells.length := by omega
  unfold takeW
  rw [if_pos ⟨h1, h2, hw⟩]
  dsimp only
  rw [List.getElem?_eq_getElem hi]
  dsimp only
  have mm : ∀ x : Int, 0 ≤ x % most ∧ x % most < most := fun x => ⟨Int.emod_nonneg _ (by omega), Int.emod_lt_of_pos _ h1⟩
  split
  · exact ⟨_, _, rfl, (mm _).1, (mm _).2, by simpa using hw⟩
  · exact ⟨_, _, rfl, (mm _).1, (mm _).2, hw⟩
theorem xTake_w {i : Nat} {f : EF} {env : En} {w w1 : W} {most r : Int} (hf : f env = pure (.int most)) (hs : env[i]? = some (.st 1)) (h : takeW most w = some (r, w1)) : xTake i f env w = some (.int r, w1) := by
  unfold xTake
  rw [hf, pb, hs]
  show (takeW most >>= _) w = _
  rw [bind_w h]
  rfl
/-- a comprehension that draws -/
theorem compL_w {α β : Type} {g : GF} {f : EF} {env : En} (enc : α → D) (dec : β → D) (R : α → β → Prop) (P : W → Prop) :
    ∀ (xs : List α) (w : W), P w → (∀ x ∈ xs, ∀ w, P w → ∃ env1 y w', g (enc x) env = some env1 ∧ f env1 w = some (dec y, w') ∧ R x y ∧ P w') →
    ∃ (ys : List β) (w' : W), compL g tYesF f env (xs.map enc) w = some (ys.map dec, w') ∧ ys.length = xs.length ∧ (∀ (i : Nat) x y, xs[i]? = some x → ys[i]? = some y → R x y) ∧ P w'
  | [], w, hw, _ => ⟨[], w, rfl, rfl, fun i x y h => by simp at h, hw⟩
  | x :: r, w, hw, H => by
    obtain ⟨env1, y, w1, h1, h2, h3, h4⟩ := H x List.mem_cons_self w hw
    obtain ⟨ys, w2, h5, h6, h7, h8⟩ := compL_w enc dec R P r w1 h4 fun z hz => H z (List.mem_cons_of_mem _ hz)
    refine ⟨y :: ys, w2, ?_, by rw [List.length_cons, List.length_cons, h6], fun i a b ha hb => ?_, h8⟩
    · rw [List.map_cons, compL, h1, lift_some, pb]
      have : tYesF env1 = pure true := rfl
      rw [this, pb, if_pos rfl, bind_w h2, bind_w h5]
      rfl
    · cases i with
      | zero => cases ha; cases hb; exact h3
      | succ i => exact h7 i a b (by simpa using ha) (by simpa using hb)
mutual
def same : D → D → Bool
  | .none, .none => true
  | .bool a, .bool b => a == b
  | .int a, .int b => a == b
  | .str a, .str b => a == b
  | .list xs, .list ys => sameL xs ys
  | .tuple xs, .tuple ys => sameL xs ys
  | _, _ => false
def sameL : List D → List D → Bool
  | [], [] => true
  | x :: xs, y :: ys => same x y && sameL xs ys
  | _, _ => false
end
mutual
theorem same_eq : ∀ (x y : D), same x y = true → x = y
  | .none, y, h => by cases y <;> simp [same] at h; rfl
  | .bool a, y, h => by cases y <;> simp [same] at h; rw [h]
  | .int a, y, h => by cases y <;> simp [same] at h; rw [h]
  | .str a, y, h => by cases y <;> simp [same] at h; rw [h]
  | .list xs, y, h => by
    cases y <;> simp only [same, Bool.false_eq_true] at h
    rw [sameL_eq _ _ h]
  | .tuple xs, y, h => by
    cases y <;> simp only [same, Bool.false_eq_true] at h
    rw [sameL_eq _ _ h]
  | .dict _, y, h => by cases y <;> simp [same] at h
theorem sameL_eq : ∀ (x y : List D), sameL x y = true → x = y
  | [], y, h => by cases y <;> simp [sameL] at h; rfl
  | x :: xs, y, h => by
    cases y with
    | nil => simp [sameL] at h
    | cons z zs =>
      simp only [sameL, Bool.and_eq_true] at h
      rw [same_eq _ _ h.1, sameL_eq _ _ h.2]
end
def sameO : Option D → D → Bool
  | some x, y => same x y
  | _, _ => false
theorem sameO_eq {x : Option D} {y : D} (h : sameO x y = true) : x = some y := by
  cases x with
  | none => cases h
  | some x => rw [same_eq x y h]
def allB : Nat → List (List Bool)
  | 0 => [[]]
  | n + 1 => (allB n).map (true :: ·) ++ (allB n).map (false :: ·)
theorem mem_allB : ∀ (l : List Bool), l ∈ allB l.length
  | [] => List.mem_cons_self
  | b :: l => by
    rw [List.length_cons, allB, List.mem_append, List.mem_map, List.mem_map]
    cases b with
    | true => exact .inl ⟨l, mem_allB l, rfl⟩
    | false => exact .inr ⟨l, mem_allB l, rfl⟩
theorem xComp_w {vs : List Nat} {it : IF} {g : GF} {t : TF} {f : EF} {env e : En} {xs ys : List D} {w w' : W} (h1 : it env = pure xs) (h2 : wipeE env vs = some e) (h3 : xs.length ≤ line) (h4 : compL g t f e xs w = some (ys, w')) : xComp vs it g t f env w = some (ys, w') := by
  unfold xComp
  rw [h1, pb, h2, lift_some, pb, if_pos h3]
  exact h4
theorem xComp_p {vs : List Nat} {it : IF} {g : GF} {t : TF} {f : EF} {env e : En} {xs ys : List D} (h1 : it env = pure xs) (h2 : wipeE env vs = some e) (h3 : xs.length ≤ line) (h4 : compL g t f e xs = pure ys) : xComp vs it g t f env = pure ys := by
  unfold xComp
  rw [h1, pb, h2, lift_some, pb, if_pos h3]
  exact h4
theorem asg_w {f : EF} {g : GF} {env env1 : En} {w w1 : W} {x : D} (h : f env w = some (x, w1)) (hg : g x env = some env1) : sAsg f g env w = some ((.nx, env1), w1) := by
  unfold sAsg
  rw [bind_w h, hg]
  rfl
theorem asg_p {f : EF} {g : GF} {env env1 : En} {x : D} (h : f env = pure x) (hg : g x env = some env1) : sAsg f g env = pure (.nx, env1) := by
  unfold sAsg
  rw [h, pb, hg]
  rfl
theorem xAs_w {f : LF} {env : En} {w w1 : W} {x : List D} (h : f env w = some (x, w1)) : xAs f env w = some (.list x, w1) := by
  unfold xAs
  rw [bind_w h]
  rfl
theorem xAs_p {f : LF} {env : En} {x : List D} (h : f env = pure x) : xAs f env = pure (.list x) := by
  unfold xAs
  rw [h]
  rfl
theorem xOp_w {F : D → D → Option D} {f g : EF} {env : En} {w w1 w2 : W} {a b c : D} (h1 : f env w = some (a, w1)) (h2 : g env w1 = some (b, w2)) (h3 : F a b = some c) : xOp F f g env w = some (c, w2) := by
  unfold xOp
  rw [bind_w h1, bind_w h2, h3]
  rfl
theorem if_skip {t : TF} {f : SF} {env : En} (h : t env = pure false) : sIf t f sPass env = pure (.nx, env) := by
  unfold sIf
  rw [h, pb]
  rfl
theorem cells_pos (ns : List Int) : 0 < (stateCells ns).length := by
  unfold stateCells
  dsimp only
  split
  · decide
  · omega
theorem fIndex_ints (xs : List Int) (y : Int) : fIndex (.list (xs.map .int)) [.int y] = (xs.findIdx? fun z => decide (z = y)).map fun (j : Nat) => PyData.int (j : Int) := by
  show (if (flat (.int y) && (xs.map PyData.int).all flat) = true then _ else _) = _
  rw [all_flat_ints]
  show ((xs.map PyData.int).findIdx? fun z => PyData.eqv z (.int y)).map _ = _
  rw [List.findIdx?_map]
  have e : ((fun z => PyData.eqv z (.int y)) ∘ PyData.int) = fun z => decide (z = y) := by
    funext z
    exact eqv_int z y
  rw [e]
theorem st_w {s r : SF} {env env1 : En} {w w1 : W} {fl : Fl} (h : s env w = some ((.nx, env1), w1)) (k : ∃ e w', r env1 w1 = some ((fl, e), w')) : ∃ e w', sSeq s r env w = some ((fl, e), w') := by
  rw [seq_w h]
  exact k
theorem st_p {s r : SF} {env env1 : En} {w : W} {fl : Fl} (h : s env = pure (.nx, env1)) (k : ∃ e w', r env1 w = some ((fl, e), w')) : ∃ e w', sSeq s r env w = some ((fl, e), w') := by
  rw [seq_pure h]
  exact k
theorem st_ret {f : EF} {env : En} {w : W} {x : D} (h : f env = pure x) : ∃ e w', sRet f env w = some ((.rt x, e), w') := by
  refine ⟨env, w, ?_⟩
  unfold sRet
  rw [h]
  rfl
theorem for_p {it : IF} {g : GF} {body : SF} {env env1 : En} {xs : List D} (h1 : it env = pure xs) (h2 : sFor.go g body xs env = pure (.nx, env1)) : sFor it g body env = pure (.nx, env1) := by
  unfold sFor
  rw [h1, pb]
  exact h2
theorem wipe_one {env : En} {v : Nat} {s : Slot} (h : env[v]? = some s) (n : ∀ b xs, s ≠ .ow b xs) : wipeE env [v] = some (env.set v .no) := by
  show (some env).bind _ = _
  rw [Option.bind_some, h]
  cases s with
  | ow b xs => exact absurd rfl (n b xs)
  | _ => rfl

end VE

/-! Rhy: rhythms, plain. -/
namespace VE
/-- how many of 0, 1, .. below m -/
def cnt (g : Int → Bool) : Nat → Nat
  | 0 => 0
  | m + 1 => cnt g m + (if g (m : Int) then 1 else 0)
theorem cnt_mono {g : Int → Bool} {a b : Nat} (h : a ≤ b) : cnt g a ≤ cnt g b := by
  induction h with
  | refl => exact Nat.le_refl _
  | step h ih => exact Nat.le_trans ih (by rw [cnt]; omega)
/-- a minute is told by how many lie ahead of it -/
theorem cnt_inj {g : Int → Bool} {a b : Nat} (ha : g a = true) (hb : g b = true) (e : cnt g a = cnt g b) : a = b := by
  rcases Nat.lt_trichotomy a b with h | h | h
  · have := cnt_mono (g := g) (show a + 1 ≤ b from h)
    rw [cnt, if_pos ha] at this
    omega
  · exact h
  · have := cnt_mono (g := g) (show b + 1 ≤ a from h)
    rw [cnt, if_pos hb] at this
    omega
theorem cnt_congr {g h : Int → Bool} {m : Nat} (e : ∀ j : Nat, j < m → g j = h j) : cnt g m = cnt h m := by
  induction m with
  | zero => rfl
  | succ m ih => rw [cnt, cnt, ih fun j hj => e j (by omega), e m (by omega)]
theorem div_of {p a x : Int} (hp : 0 < p) (h1 : p * a ≤ x) (h2 : x < p * a + p) : x / p = a := by
  have h3 : a ≤ x / p := by rw [Int.le_ediv_iff_mul_le hp, Int.mul_comm]; exact h1
  have h4 : x / p < a + 1 := by rw [Int.ediv_lt_iff_lt_mul hp, Int.mul_comm, Int.mul_add, Int.mul_one]; exact h2
  omega
/-- how often a rest has come below m -/
def qt (p r m : Int) : Int := (m - r + p - 1) / p
theorem qt_step {p r m : Int} (hp : 0 < p) (h0 : 0 ≤ r) (h1 : r < p) : qt p r (m + 1) = qt p r m + (if m % p = r then 1 else 0) := by
  have hm := Int.emod_nonneg m (show p ≠ 0 by omega)
  have hm2 := Int.emod_lt_of_pos m hp
  have e := Int.mul_ediv_add_emod m p
  generalize hb : m % p = b at hm hm2 e
  generalize ha : m / p = a at e
  have e1 : p * (a + 1) = p * a + p := by rw [Int.mul_add, Int.mul_one]
  unfold qt
  by_cases h : b = r
  · rw [if_pos h, div_of hp (a := a + 1) (by omega) (by omega), div_of hp (a := a) (by omega) (by omega)]
  · rw [if_neg h]
    by_cases hl : b < r
    · rw [div_of hp (a := a) (by omega) (by omega), div_of hp (a := a) (by omega) (by omega)]; omega
    · rw [div_of hp (a := a + 1) (by omega) (by omega), div_of hp (a := a + 1) (by omega) (by omega)]; omega
theorem qt_period {p r m : Int} (hp : 0 < p) : qt p r (m + p) = qt p r m + 1 := by
  unfold qt
  rw [show m + p - r + p - 1 = (m - r + p - 1) + p by omega]
  rw [Int.add_ediv_of_dvd_right ⟨1, (Int.mul_one p).symm⟩, Int.ediv_self (by omega)]
def sumL (f : Int → Int) : List Int → Int
  | [] => 0
  | x :: r => f x + sumL f r
theorem sumL_add (f g : Int → Int) (R : List Int) : sumL (fun r => f r + g r) R = sumL f R + sumL g R := by
  induction R with
  | nil => rfl
  | cons x r ih => simp only [sumL, ih]; omega
theorem sumL_congr {f g : Int → Int} {R : List Int} (h : ∀ r ∈ R, f r = g r) : sumL f R = sumL g R := by
  induction R with
  | nil => rfl
  | cons x r ih => rw [sumL, sumL, h x List.mem_cons_self, ih fun y hy => h y (List.mem_cons_of_mem _ hy)]
theorem sumL_one (R : List Int) (hn : R.Nodup) (x : Int) : sumL (fun r => if x = r then 1 else 0) R = if x ∈ R then 1 else 0 := by
  induction R with
  | nil => simp [sumL]
  | cons y r ih =>
    rw [List.nodup_cons] at hn
    rw [sumL, ih hn.2]
    by_cases h : x = y
    · subst h
      simp [hn.1]
    · simp [h]
theorem sumL_const (R : List Int) : sumL (fun _ => 1) R = R.length := by
  induction R with
  | nil => rfl
  | cons y r ih => rw [sumL, ih, List.length_cons]; omega
structure Rh where
  s : Int
  M : List Int
  p : Int
  R : List Int
structure Rh.Ok (r : Rh) : Prop where
  s0 : 0 ≤ r.s
  p0 : 0 < r.p
  mu : r.M.Pairwise (· < ·)
  mb : ∀ x ∈ r.M, 0 ≤ x ∧ x < r.s
  ru : r.R.Pairwise (· < ·)
  rb : ∀ x ∈ r.R, 0 ≤ x ∧ x < r.p
def Rh.goes (r : Rh) (m : Int) : Bool := if m < r.s then decide (m ∈ r.M) else decide (m % r.p ∈ r.R)
theorem nodup_of {L : List Int} (h : L.Pairwise (· < ·)) : L.Nodup := h.imp fun h => Int.ne_of_lt h
theorem filter_succ {L : List Int} (h : L.Nodup) (m : Int) : ((L.filter fun x => decide (x < m + 1)).length : Int) = (L.filter fun x => decide (x < m)).length + (if m ∈ L then 1 else 0) := by
  induction L with
  | nil => simp
  | cons x r ih =>
    rw [List.nodup_cons] at h
    have ih := ih h.2
    simp only [List.filter_cons]
    by_cases e : x = m
    · subst e
      simp only [show decide (x < x + 1) = true by (simp only [decide_eq_true_eq]; omega), show decide (x < x) = false by simp, if_true, Bool.false_eq_true, if_false, List.length_cons, List.mem_cons, true_or]
      rw [if_neg h.1] at ih
      omega
    · have e' : ¬ m = x := fun z => e z.symm
      simp only [List.mem_cons, e', false_or]
      by_cases hl : x < m
      · rw [show decide (x < m + 1) = true by simp; omega, show decide (x < m) = true by simp [hl]]
        simp only [if_true, List.length_cons]
        omega
      · rw [show decide (x < m + 1) = false by simp; omega, show decide (x < m) = false by simp; omega]
        simp only [Bool.false_eq_true, if_false]
        exact ih
/-- below its start -/
theorem Rh.Ok.cnt_low {r : Rh} (h : r.Ok) : ∀ m : Nat, (m : Int) ≤ r.s → (cnt r.goes m : Int) = (r.M.filter fun x => decide (x < (m : Int))).length
  | 0, _ => by
    have : (r.M.filter fun x => decide (x < ((0 : Nat) : Int))) = [] := List.filter_eq_nil_iff.mpr fun x hx => by
      have := (h.mb x hx).1
      simp; omega
    rw [this]; rfl
  | m + 1, hm => by
    have ih := h.cnt_low m (by omega)
    have := filter_succ (nodup_of h.mu) (m : Int)
    rw [cnt, show ((m + 1 : Nat) : Int) = (m : Int) + 1 by omega, this]
    have e : r.goes m = decide ((m : Int) ∈ r.M) := by unfold Rh.goes; rw [if_pos (by omega)]
    rw [e]
    by_cases hM : (m : Int) ∈ r.M
    · simp only [hM, decide_true, if_true]; omega
    · simp only [hM, decide_false, Bool.false_eq_true, if_false]; omega
theorem Rh.Ok.cnt_start {r : Rh} (h : r.Ok) : (cnt r.goes r.s.toNat : Int) = r.M.length := by
  have hs := h.s0
  rw [h.cnt_low _ (by omega)]
  rw [List.filter_eq_self.mpr fun x hx => by
    have := (h.mb x hx).2
    simp; omega]
/-- from its start on, in closed form -/
theorem Rh.Ok.cnt_high {r : Rh} (h : r.Ok) (k : Nat) : (cnt r.goes (r.s.toNat + k) : Int) = r.M.length + sumL (fun x => qt r.p x (r.s + k) - qt r.p x r.s) r.R := by
  have hs := h.s0
  induction k with
  | zero =>
    rw [Nat.add_zero, h.cnt_start]
    rw [sumL_congr (g := fun _ => 0) fun x _ => by simp]
    have : ∀ R : List Int, sumL (fun _ => 0) R = 0 := fun R => by
      induction R with
      | nil => rfl
      | cons y r ih => rw [sumL, ih]; rfl
    rw [this]; omega
  | succ k ih =>
    rw [show r.s.toNat + (k + 1) = (r.s.toNat + k) + 1 by omega, cnt]
    have e : r.goes ((r.s.toNat + k : Nat) : Int) = decide ((r.s + (k : Int)) % r.p ∈ r.R) := by
      unfold Rh.goes
      rw [if_neg (by omega), show ((r.s.toNat + k : Nat) : Int) = r.s + (k : Int) by omega]
    rw [e]
    have e2 : sumL (fun x => qt r.p x (r.s + ((k + 1 : Nat) : Int)) - qt r.p x r.s) r.R = sumL (fun x => (qt r.p x (r.s + (k : Int)) - qt r.p x r.s) + (if (r.s + (k : Int)) % r.p = x then 1 else 0)) r.R := sumL_congr fun x hx => by
      rw [show r.s + ((k + 1 : Nat) : Int) = (r.s + (k : Int)) + 1 by omega, qt_step h.p0 (h.rb x hx).1 (h.rb x hx).2]
      omega
    rw [e2, sumL_add, sumL_one _ (nodup_of h.ru)]
    by_cases hR : (r.s + (k : Int)) % r.p ∈ r.R
    · simp only [hR, decide_true, if_true]; omega
    · simp only [hR, decide_false, Bool.false_eq_true, if_false]; omega
theorem Rh.Ok.cnt_period {r : Rh} (h : r.Ok) (m : Nat) (hm : r.s ≤ m) : cnt r.goes (m + r.p.toNat) = cnt r.goes m + r.R.length := by
  have hs := h.s0
  have hp := h.p0
  obtain ⟨k, rfl⟩ : ∃ k, m = r.s.toNat + k := ⟨m - r.s.toNat, by omega⟩
  have h1 := h.cnt_high k
  have h2 := h.cnt_high (k + r.p.toNat)
  rw [show r.s.toNat + k + r.p.toNat = r.s.toNat + (k + r.p.toNat) by omega]
  have e : sumL (fun x => qt r.p x (r.s + ((k + r.p.toNat : Nat) : Int)) - qt r.p x r.s) r.R = sumL (fun x => (qt r.p x (r.s + (k : Int)) - qt r.p x r.s) + 1) r.R := sumL_congr fun x hx => by
    rw [show r.s + ((k + r.p.toNat : Nat) : Int) = (r.s + (k : Int)) + r.p by omega, qt_period hp]
    omega
  rw [e, sumL_add, sumL_const] at h2
  omega
theorem Rh.Ok.cnt_periods {r : Rh} (h : r.Ok) (m : Nat) (hm : r.s ≤ m) (q : Nat) : cnt r.goes (m + q * r.p.toNat) = cnt r.goes m + q * r.R.length := by
  induction q with
  | zero => simp
  | succ q ih =>
    rw [show m + (q + 1) * r.p.toNat = (m + q * r.p.toNat) + r.p.toNat by rw [Nat.succ_mul]; omega, h.cnt_period _ (by omega), ih, Nat.succ_mul]
    omega
/-- count_to, as it is told -/
def Rh.countT (r : Rh) (m : Int) : Int := if m ≤ r.s then (r.M.filter fun x => decide (x < m)).length else r.M.length + sumL (fun x => qt r.p x m - qt r.p x r.s) r.R
theorem Rh.Ok.count {r : Rh} (h : r.Ok) {m : Int} (hm : 0 ≤ m) : r.countT m = cnt r.goes m.toNat := by
  have hs := h.s0
  unfold Rh.countT
  split
  · rw [h.cnt_low _ (by omega), show ((m.toNat : Nat) : Int) = m by omega]
  · have := h.cnt_high (m - r.s).toNat
    rw [show r.s.toNat + (m - r.s).toNat = m.toNat by omega, show r.s + (((m - r.s).toNat : Nat) : Int) = m by omega] at this
    omega
/-! ### the n-th minute -/
def Rh.row (r : Rh) : List Int := sortI (r.R.map fun x => r.s + (x - r.s) % r.p)
def Rh.nthT (r : Rh) (k : Nat) : Option Int :=
  if h : k < r.M.length then some r.M[k]
  else if r.R = [] then none
  else (r.row[(k - r.M.length) % r.row.length]?).map fun x => x + r.p * (((k - r.M.length) / r.row.length : Nat) : Int)
theorem insP (x : Int) : ∀ xs : List Int, (insI x xs).Perm (x :: xs)
  | [] => .refl _
  | y :: r => by
    unfold insI
    split
    · exact .refl _
    · exact ((insP x r).cons y).trans (.swap x y r)
theorem insS (x : Int) : ∀ xs : List Int, xs.Pairwise (· ≤ ·) → (insI x xs).Pairwise (· ≤ ·)
  | [], _ => by simp [insI]
  | y :: r, h => by
    unfold insI
    rw [List.pairwise_cons] at h
    split
    · rename_i hc
      rw [List.pairwise_cons]
      refine ⟨fun z hz => ?_, List.pairwise_cons.mpr h⟩
      rcases List.mem_cons.mp hz with e | e
      · subst e; exact hc
      · exact Int.le_trans hc (h.1 z e)
    · rename_i hc
      rw [List.pairwise_cons]
      refine ⟨fun z hz => ?_, insS x r h.2⟩
      have := (insP x r).mem_iff.mp hz
      rcases List.mem_cons.mp this with e | e
      · subst e; omega
      · exact h.1 z e
theorem sortP : ∀ xs : List Int, (sortI xs).Perm xs
  | [] => .refl _
  | x :: r => (insP x _).trans ((sortP r).cons x)
theorem sortS : ∀ xs : List Int, (sortI xs).Pairwise (· ≤ ·)
  | [] => .nil
  | x :: r => insS x _ (sortS r)
theorem sort_lt {xs : List Int} (h : xs.Nodup) : (sortI xs).Pairwise (· < ·) := by
  have h1 := sortS xs
  have h2 : (sortI xs).Nodup := (sortP xs).nodup_iff.mpr h
  exact (h1.and h2).imp fun ⟨a, b⟩ => by omega
theorem shift_mem {s p t : Int} (hp : 0 < p) (h1 : s ≤ t) (h2 : t < s + p) (x : Int) (hx : 0 ≤ x) (hx2 : x < p) : s + (x - s) % p = t ↔ t % p = x := by
  constructor
  · intro e
    have : t % p = (s + (x - s) % p) % p := by rw [e]
    rw [this, Int.add_emod, Int.emod_emod, ← Int.add_emod, show s + (x - s) = x by omega, Int.emod_eq_of_lt hx hx2]
  · intro e
    have : (x - s) % p = t - s := by
      rw [← e, Int.sub_emod, Int.emod_emod, ← Int.sub_emod, Int.emod_eq_of_lt (by omega) (by omega)]
    omega
theorem Rh.Ok.row_lt {r : Rh} (h : r.Ok) : r.row.Pairwise (· < ·) := by
  refine sort_lt ?_
  have hn := nodup_of h.ru
  have hp := h.p0
  have hb := h.rb
  show (r.R.map _).Pairwise (· ≠ ·)
  rw [List.pairwise_map]
  refine List.Pairwise.imp_of_mem (fun {a b} ha hb' hne e => ?_) hn
  have h1 := hb a ha
  have h2 := hb b hb'
  have m1 := Int.emod_nonneg (b - r.s) (show r.p ≠ 0 by omega)
  have m2 := Int.emod_lt_of_pos (b - r.s) hp
  have e1 := (shift_mem (s := r.s) hp (t := r.s + (b - r.s) % r.p) (by omega) (by omega) a h1.1 h1.2).mp e
  have e2 := (shift_mem (s := r.s) hp (t := r.s + (b - r.s) % r.p) (by omega) (by omega) b h2.1 h2.2).mp rfl
  exact hne (e1.symm.trans e2)
theorem Rh.Ok.mem_row {r : Rh} (h : r.Ok) (t : Int) : t ∈ r.row ↔ r.s ≤ t ∧ t < r.s + r.p ∧ t % r.p ∈ r.R := by
  have hp := h.p0
  unfold Rh.row
  rw [(sortP _).mem_iff, List.mem_map]
  constructor
  · rintro ⟨x, hx, rfl⟩
    have m1 := Int.emod_nonneg (x - r.s) (show r.p ≠ 0 by omega)
    have m2 := Int.emod_lt_of_pos (x - r.s) hp
    refine ⟨by omega, by omega, ?_⟩
    rw [(shift_mem (s := r.s) hp (by omega) (by omega) x (h.rb x hx).1 (h.rb x hx).2).mp rfl]
    exact hx
  · rintro ⟨h1, h2, h3⟩
    exact ⟨_, h3, (shift_mem (s := r.s) hp h1 h2 _ (h.rb _ h3).1 (h.rb _ h3).2).mpr rfl⟩
theorem Rh.Ok.cnt_row {r : Rh} (h : r.Ok) (k : Nat) (hk : (k : Int) ≤ r.p) : (cnt r.goes (r.s.toNat + k) : Int) = r.M.length + (r.row.filter fun x => decide (x < r.s + k)).length := by
  have hs := h.s0
  induction k with
  | zero =>
    rw [Nat.add_zero, h.cnt_start]
    have : (r.row.filter fun x => decide (x < r.s + ((0 : Nat) : Int))) = [] := List.filter_eq_nil_iff.mpr fun x hx => by
      have := ((h.mem_row x).mp hx).1
      simp; omega
    rw [this]; simp
  | succ k ih =>
    have ih := ih (by omega)
    rw [show r.s.toNat + (k + 1) = (r.s.toNat + k) + 1 by omega, cnt, show r.s + ((k + 1 : Nat) : Int) = (r.s + (k : Int)) + 1 by omega, filter_succ (nodup_of h.row_lt)]
    have e : r.goes ((r.s.toNat + k : Nat) : Int) = decide ((r.s + (k : Int)) ∈ r.row) := by
      unfold Rh.goes
      rw [if_neg (by omega), show ((r.s.toNat + k : Nat) : Int) = r.s + (k : Int) by omega]
      apply decide_eq_decide.mpr
      rw [h.mem_row]
      constructor
      · intro q; exact ⟨by omega, by omega, q⟩
      · intro q; exact q.2.2
    rw [e]
    by_cases hR : (r.s + (k : Int)) ∈ r.row
    · simp only [hR, decide_true, if_true]; omega
    · simp only [hR, decide_false, Bool.false_eq_true, if_false]; omega
theorem filter_at {L : List Int} (h : L.Pairwise (· < ·)) : ∀ (i : Nat) (x : Int), L[i]? = some x → (L.filter fun y => decide (y < x)).length = i := by
  induction L with
  | nil => intro i x e; simp at e
  | cons a r ih =>
    intro i x e
    rw [List.pairwise_cons] at h
    cases i with
    | zero =>
      have : a = x := by simpa using e
      subst this
      have : (List.filter (fun y => decide (y < a)) (a :: r)) = [] := List.filter_eq_nil_iff.mpr fun y hy => by
        rcases List.mem_cons.mp hy with rfl | hy
        · simp
        · have := h.1 y hy; simp; omega
      rw [this]; rfl
    | succ i =>
      have e' : r[i]? = some x := by simpa using e
      have hx := h.1 x (List.mem_of_getElem? e')
      rw [List.filter_cons_of_pos (by simpa using hx), List.length_cons, ih h.2 i x e']
/-- THE n-th: it goes, and n lie ahead -/
theorem Rh.Ok.nth_spec {r : Rh} (h : r.Ok) {k : Nat} {t : Int} (e : r.nthT k = some t) : 0 ≤ t ∧ r.goes t = true ∧ cnt r.goes t.toNat = k := by
  have hs := h.s0
  have hp := h.p0
  unfold Rh.nthT at e
  split at e
  · rename_i hk
    cases e
    have hm := List.getElem_mem hk
    have hb := h.mb _ hm
    refine ⟨hb.1, ?_, ?_⟩
    · unfold Rh.goes
      rw [if_pos hb.2]; simpa using hm
    · have := h.cnt_low (r.M[k]).toNat (by omega)
      rw [show (((r.M[k]).toNat : Nat) : Int) = r.M[k] by omega, filter_at h.mu k _ (List.getElem?_eq_getElem hk)] at this
      omega
  · rename_i hk
    split at e
    · cases e
    · rename_i hR
      obtain ⟨x, hx, rfl⟩ := Option.map_eq_some_iff.mp e
      have hrl : r.row.length = r.R.length := by unfold Rh.row; rw [(sortP _).length_eq, List.length_map]
      have hpos : 0 < r.R.length := List.length_pos_iff.mpr hR
      generalize hq : (k - r.M.length) / r.row.length = q at *
      have hmem := (h.mem_row x).mp (List.mem_of_getElem? hx)
      have hx0 : (0 : Int) ≤ r.p * (q : Int) := Int.mul_nonneg (by omega) (by omega)
      have eN : (x + r.p * (q : Int)).toNat = x.toNat + q * r.p.toNat := by
        have : r.p * (q : Int) = ((q * r.p.toNat : Nat) : Int) := by
          rw [Int.natCast_mul, Int.mul_comm, show ((r.p.toNat : Nat) : Int) = r.p by omega]
        omega
      refine ⟨by omega, ?_, ?_⟩
      · unfold Rh.goes
        rw [if_neg (by omega), Int.add_mul_emod_self_left]
        simpa using hmem.2.2
      · rw [eN, h.cnt_periods _ (by omega)]
        have h1 := h.cnt_row (x - r.s).toNat (by omega)
        rw [show r.s.toNat + (x - r.s).toNat = x.toNat by omega, show r.s + (((x - r.s).toNat : Nat) : Int) = x by omega, filter_at h.row_lt _ x hx] at h1
        have h2 := Nat.div_add_mod (k - r.M.length) r.row.length
        rw [hq, hrl] at h2
        rw [hrl] at h1
        rw [Nat.mul_comm] at h2
        omega
theorem Rh.Ok.nth_some {r : Rh} (h : r.Ok) (hR : r.R ≠ []) (k : Nat) : ∃ t, r.nthT k = some t := by
  unfold Rh.nthT
  split
  · exact ⟨_, rfl⟩
  · have hrl : r.row.length = r.R.length := by unfold Rh.row; rw [(sortP _).length_eq, List.length_map]
    have hpos : 0 < r.R.length := List.length_pos_iff.mpr hR
    rw [List.getElem?_eq_getElem (Nat.mod_lt _ (by omega))]
    exact ⟨_, rfl⟩
/-- the minute that goes with n ahead is the n-th -/
theorem Rh.Ok.nth_eq {r : Rh} (h : r.Ok) (hR : r.R ≠ []) {k t : Nat} (hg : r.goes t = true) (hc : cnt r.goes t = k) : r.nthT k = some (t : Int) := by
  obtain ⟨u, e⟩ := h.nth_some hR k
  obtain ⟨h0, h1, h2⟩ := h.nth_spec e
  have : u.toNat = t := cnt_inj (g := r.goes) (by rw [show ((u.toNat : Nat) : Int) = u by omega]; exact h1) hg (h2.trans hc.symm)
  rw [e]
  congr 1
  omega
end VE

namespace VE
open PySem
/-! reckoning, piece by piece -/
theorem test_p {f : EF} {env : En} {b : Bool} (h : f env = pure (.bool b)) : xTest f env = pure b := by
  unfold xTest
  rw [h, pb]
  rfl
theorem truth_p {f : EF} {env : En} {x : D} {b : Bool} (h : f env = pure x) (hb : truth x = some b) : xTruth f env = pure b := by
  unfold xTruth
  rw [h, pb, hb]
  rfl
theorem op_p {F : D → D → Option D} {f g : EF} {env : En} {a b c : D} (h1 : f env = pure a) (h2 : g env = pure b) (h3 : F a b = some c) : xOp F f g env = pure c := by
  unfold xOp
  rw [h1, pb, h2, pb, h3]
  rfl
theorem un_p {F : D → Option D} {f : EF} {env : En} {a c : D} (h1 : f env = pure a) (h3 : F a = some c) : xUn F f env = pure c := by
  unfold xUn
  rw [h1, pb, h3]
  rfl
theorem cons_p {f : EF} {g : AF} {env : En} {a : D} {xs : List D} (h1 : f env = pure a) (h2 : g env = pure xs) : xCons f g env = pure (a :: xs) := by
  unfold xCons
  rw [h1, pb, h2]
  rfl
theorem nil_p {env : En} : xNil env = pure [] := rfl
theorem call_p {F : List D → Option D} {f : AF} {env : En} {xs : List D} {c : D} (h1 : f env = pure xs) (h3 : F xs = some c) : xCall F f env = pure c := by
  unfold xCall
  rw [h1, pb, h3]
  rfl
theorem if_then {t : TF} {f g : SF} {env : En} (h : t env = pure true) : sIf t f g env = f env := by
  unfold sIf
  rw [h, pb]
  rfl
theorem if_else {t : TF} {f g : SF} {env : En} (h : t env = pure false) : sIf t f g env = g env := by
  unfold sIf
  rw [h, pb]
  rfl
theorem and_f {t u : TF} {env : En} (h : t env = pure false) : xAnd t u env = pure false := by
  unfold xAnd
  rw [h, pb]
  rfl
theorem and_t {t u : TF} {env : En} {b : Bool} (h : t env = pure true) (h2 : u env = pure b) : xAnd t u env = pure b := by
  unfold xAnd
  rw [h, pb]
  exact h2
theorem or_f {t u : TF} {env : En} {b : Bool} (h : t env = pure false) (h2 : u env = pure b) : xOr t u env = pure b := by
  unfold xOr
  rw [h, pb]
  exact h2
theorem or_t {t u : TF} {env : En} (h : t env = pure true) : xOr t u env = pure true := by
  unfold xOr
  rw [h, pb]
  rfl
theorem not_p {t : TF} {env : En} {b : Bool} (h : t env = pure b) : xNot t env = pure (!b) := by
  unfold xNot
  rw [h, pb]

theorem rangeL0 (n : Nat) : rangeL 0 (n : Int) = (List.range n).map fun (k : Nat) => PyData.int (k : Int) := by
  unfold rangeL
  rw [Int.sub_zero, Int.toNat_natCast]
  congr 1
  funext k
  rw [Int.zero_add]
theorem rangeL0_get {n i : Nat} {x : D} (h : (rangeL 0 (n : Int))[i]? = some x) : x = .int (i : Int) ∧ i < n := by
  rw [rangeL0, List.getElem?_map] at h
  obtain ⟨k, h1, h2⟩ := Option.map_eq_some_iff.mp h
  rw [List.getElem?_range (by
    refine Nat.lt_of_not_le fun q => ?_
    rw [List.getElem?_eq_none (by rw [List.length_range]; exact q)] at h1
    cases h1)] at h1
  cases h1
  refine ⟨h2.symm, ?_⟩
  refine Nat.lt_of_not_le fun q => ?_
  rw [List.getElem?_eq_none (by rw [List.length_range]; exact q)] at h
  cases h
theorem small62_nat {n : Nat} (h : n ≤ 1000000) : small62 (n : Int) = true := by
  unfold small62
  rw [Bool.and_eq_true, decide_eq_true_eq, decide_eq_true_eq]
  omega

theorem eqvAll_ints : ∀ xs ys : List Int, PyData.eqvAll (xs.map .int) (ys.map .int) = decide (xs = ys)
  | [], [] => by simp [PyData.eqvAll]
  | [], y :: ys => by simp [PyData.eqvAll]
  | x :: xs, [] => by simp [PyData.eqvAll]
  | x :: xs, y :: ys => by
    rw [List.map_cons, List.map_cons, PyData.eqvAll, eqv_int, eqvAll_ints xs ys]
    by_cases h : x = y <;> by_cases h2 : xs = ys <;> simp [h, h2]
theorem shp_ints (xs : List Int) : shp (.list (xs.map .int)) = true := by
  have h1 : PyData.canLayAll0 (xs.map .int) = true := by
    induction xs with
    | nil => rw [List.map_nil, PyData.canLayAll0]
    | cons x r ih => rw [List.map_cons, PyData.canLayAll0, PyData.canLay0, ih]; rfl
  have h2 : PyData.depthAll (xs.map .int) = 0 := by
    clear h1
    induction xs with
    | nil => rw [List.map_nil, PyData.depthAll]
    | cons x r ih => rw [List.map_cons, PyData.depthAll, PyData.depth, ih]; rfl
  unfold shp SeqAt.shaped
  rw [PyData.canLay0, PyData.depth, h1, h2]
  rfl
theorem fEq_ints (xs ys : List Int) : fEq (.list (xs.map .int)) (.list (ys.map .int)) = some (.bool (decide (xs = ys))) := by
  unfold fEq
  rw [shp_ints xs, shp_ints ys]
  have e : PyData.eqv (.list (xs.map .int)) (.list (ys.map .int)) = decide (xs = ys) := by
    rw [PyData.eqv, eqvAll_ints]
  rw [e]
  rfl
/-- a loop that may break off -/
theorem for_brk {g : GF} {body : SF} (I : En → Prop) (J : En → Prop) : ∀ (xs : List D) (env : En), I env →
    (∀ x ∈ xs, ∀ env, I env → ∃ env1 fl env2, g x env = some env1 ∧ body env1 = pure (fl, env2) ∧ ((fl = .nx ∧ I env2) ∨ (fl = .bk ∧ J env2))) →
    ∃ env', sFor.go g body xs env = pure (.nx, env') ∧ (I env' ∨ J env')
  | [], env, h0, _ => ⟨env, rfl, .inl h0⟩
  | x :: r, env, h0, H => by
    obtain ⟨env1, fl, env2, h1, h2, h3⟩ := H x List.mem_cons_self env h0
    rcases h3 with ⟨rfl, h3⟩ | ⟨rfl, h3⟩
    · obtain ⟨env', h4, h5⟩ := for_brk I J r env2 h3 fun y hy => H y (List.mem_cons_of_mem _ hy)
      refine ⟨env', ?_, h5⟩
      rw [sFor.go, h1, lift_some, pb, h2, pb]
      exact h4
    · refine ⟨env2, ?_, .inr h3⟩
      rw [sFor.go, h1, lift_some, pb, h2, pb]
/-! rhythms without marks that start at 0 -/
def rz (p : Int) (R : List Int) : Rh := ⟨0, [], p, R⟩
theorem rz_ok {p : Int} {R : List Int} (hp : 0 < p) (hs : R.Pairwise (· < ·)) (hb : ∀ x ∈ R, 0 ≤ x ∧ x < p) : (rz p R).Ok := ⟨Int.le_refl _, hp, .nil, fun x hx => absurd hx (by simp [rz]), hs, hb⟩
theorem rz_goes (p : Int) (R : List Int) {m : Int} (hm : 0 ≤ m) : (rz p R).goes m = decide (m % p ∈ R) := by
  unfold Rh.goes rz
  rw [if_neg (by show ¬ m < 0; omega)]
/-- 0, 1, .. below n -/
def ups (n : Nat) : List Int := (List.range n).map fun (k : Nat) => (k : Int)
theorem rangeL_ups (n : Nat) : rangeL 0 (n : Int) = (ups n).map .int := by
  rw [rangeL0, ups, List.map_map]
  rfl
theorem mem_ups {n : Nat} {x : Int} : x ∈ ups n ↔ 0 ≤ x ∧ x < n := by
  unfold ups
  rw [List.mem_map]
  constructor
  · rintro ⟨k, hk, rfl⟩
    have := List.mem_range.mp hk
    omega
  · intro h
    exact ⟨x.toNat, List.mem_range.mpr (by omega), by omega⟩
theorem ups_lt (n : Nat) : (ups n).Pairwise (· < ·) := by
  unfold ups
  rw [List.pairwise_map]
  exact List.pairwise_lt_range.imp fun h => by omega
theorem ups_len (n : Nat) : (ups n).length = n := by simp [ups]
theorem ups_succ (n : Nat) : ups (n + 1) = ups n ++ [(n : Int)] := by
  unfold ups
  rw [List.range_succ, List.map_append]
  rfl
theorem lt_len {R : List Int} {p : Nat} (hs : R.Pairwise (· < ·)) (hb : ∀ x ∈ R, 0 ≤ x ∧ x < (p : Int)) : R.length ≤ p := by
  have h1 : R.Nodup := nodup_of hs
  have := List.Nodup.length_le_of_subset h1 (l₂ := ups p) fun x hx => mem_ups.mpr (hb x hx)
  rwa [ups_len] at this
theorem sp_p {s r : SF} {env env1 : En} {fl : Fl} (h : s env = pure (.nx, env1)) (k : ∃ e, r env1 = pure (fl, e)) : ∃ e, sSeq s r env = pure (fl, e) := by
  rw [seq_pure h]
  exact k
theorem sp_ret {f : EF} {env : En} {x : D} (h : f env = pure x) : ∃ e, sRet f env = pure (.rt x, e) := by
  refine ⟨env, ?_⟩
  unfold sRet
  rw [h]
  rfl
theorem fIn_ints' (x : Int) (xs : List Int) : fIn (.int x) (.list (xs.map .int)) = some (.bool (decide (x ∈ xs))) := fIn_int x xs

theorem and_p {t u : TF} {env : En} {a b : Bool} (h : t env = pure a) (h2 : a = true → u env = pure b) : xAnd t u env = pure (a && b) := by
  cases a with
  | true => rw [Bool.true_and]; exact and_t h (h2 rfl)
  | false => exact and_f h
theorem or_p {t u : TF} {env : En} {a b : Bool} (h : t env = pure a) (h2 : a = false → u env = pure b) : xOr t u env = pure (a || b) := by
  cases a with
  | false => rw [Bool.false_or]; exact or_f h (h2 rfl)
  | true => exact or_t h
theorem iR1_p {f : AF} {env : En} {j : Int} (h : f env = pure [.int j]) (hs : small62 j = true) : iR1 f env = pure (rangeL 0 j) := by
  unfold iR1
  rw [h, pb]
  show (if small62 j = true then _ else _) = _
  rw [if_pos hs]
theorem iLst_p {f : EF} {env : En} {xs : List D} (h : f env = pure (.list xs)) : iLst f env = pure xs := by
  unfold iLst
  rw [h, pb]
  rfl
/-! what can be gone through -/
def five : List Int := [1, 2, 3, 4, 5]
def nine : List Int := [1, 2, 3, 4, 5, 6, 7, 8, 9]
def winT (W S m : Int) : List Int := (ups (m + 1).toNat).filter fun s => decide (s % S = 0) && decide (m < s + W)
def bD (S : Int) : D := .tuple [.str (Str.ofString "rhythm"), .int 0, .list [], .int S, .list [.int 0]]
theorem win_all : (five.all fun S => nine.all fun W => (ups 31).all fun m => sameO (windows_atF [.int m, .int W, .int S]) (dI (winT W S m))) = true := by decide +kernel
theorem beg_all : (five.all fun S => sameO (from_runsF 300 [.int 0, .int S]) (bD S) && ((ups 9).all fun k => sameO (nthF [bD S, .int k]) (.int (S * k))) && ((ups 31).all fun k => sameO (goesF [bD S, .int k]) (.bool (decide (k % S = 0))))) = true := by decide +kernel
theorem mem_five {p : Int} (h0 : 1 ≤ p) (h1 : p ≤ 5) : p ∈ five := by
  have : p = 1 ∨ p = 2 ∨ p = 3 ∨ p = 4 ∨ p = 5 := by omega
  unfold five; simpa using this
theorem mem_nine {p : Int} (h0 : 1 ≤ p) (h1 : p ≤ 9) : p ∈ nine := by
  have : p = 1 ∨ p = 2 ∨ p = 3 ∨ p = 4 ∨ p = 5 ∨ p = 6 ∨ p = 7 ∨ p = 8 ∨ p = 9 := by omega
  unfold nine; simpa using this
section
variable {W S : Int} (hS : 1 ≤ S ∧ S ≤ 5) (hW : 1 ≤ W ∧ W ≤ 9)
include hS hW in
theorem win_run (m : Int) (h0 : 0 ≤ m) (h1 : m < 31) : windows_atF [.int m, .int W, .int S] = some (dI (winT W S m)) :=
  sameO_eq (List.all_eq_true.mp (List.all_eq_true.mp (List.all_eq_true.mp win_all S (mem_five hS.1 hS.2)) W (mem_nine hW.1 hW.2)) m (mem_ups.mpr ⟨h0, h1⟩))
include hS in
theorem beg_run : from_runsF 300 [.int 0, .int S] = some (bD S) ∧ (∀ k : Int, 0 ≤ k → k < 9 → nthF [bD S, .int k] = some (.int (S * k))) ∧ ∀ k : Int, 0 ≤ k → k < 31 → goesF [bD S, .int k] = some (.bool (decide (k % S = 0))) := by
  have h := List.all_eq_true.mp beg_all S (mem_five hS.1 hS.2)
  rw [Bool.and_eq_true, Bool.and_eq_true] at h
  exact ⟨sameO_eq h.1.1, fun k h0 h1 => sameO_eq (List.all_eq_true.mp h.1.2 k (mem_ups.mpr ⟨h0, h1⟩)), fun k h0 h1 => sameO_eq (List.all_eq_true.mp h.2 k (mem_ups.mpr ⟨h0, h1⟩))⟩
end
theorem win_mem {W S m s : Int} (h : s ∈ winT W S m) : 0 ≤ s ∧ s ≤ m ∧ m < s + W := by
  unfold winT at h
  rw [List.mem_filter, mem_ups, Bool.and_eq_true, decide_eq_true_eq, decide_eq_true_eq] at h
  omega
theorem win_len (W S m : Int) (h0 : 0 ≤ m) (h1 : m < 31) : (winT W S m).length ≤ 31 := by
  unfold winT
  have h2 := List.length_filter_le (fun s => decide (s % S = 0) && decide (m < s + W)) (ups (m + 1).toNat)
  rw [ups_len] at h2
  omega
/-! the greatest so far -/
def mx : List Int → Int
  | [] => 0
  | a :: r => maxI a r
theorem mx_snoc {xs : List Int} (h : xs ≠ []) (y : Int) : mx (xs ++ [y]) = if mx xs < y then y else mx xs := by
  cases xs with
  | nil => exact absurd rfl h
  | cons a r =>
    show List.foldl _ a (r ++ [y]) = _
    rw [List.foldl_append]
    rfl
theorem mx_one (y : Int) : mx [y] = y := rfl
theorem mx_ge : ∀ {xs : List Int} {y : Int}, y ∈ xs → y ≤ mx xs := by
  intro xs
  have key : ∀ (r : List Int) (a : Int), a ≤ maxI a r ∧ ∀ y ∈ r, y ≤ maxI a r := by
    intro r
    induction r with
    | nil => intro a; exact ⟨Int.le_refl _, fun _ h => by simp at h⟩
    | cons b r ih =>
      intro a
      have e : maxI a (b :: r) = maxI (if a < b then b else a) r := rfl
      rw [e]
      have := ih (if a < b then b else a)
      split at this
      · rename_i hc
        rw [if_pos hc]
        refine ⟨by omega, fun y hy => ?_⟩
        rcases List.mem_cons.mp hy with rfl | hy
        · exact this.1
        · exact this.2 y hy
      · rename_i hc
        rw [if_neg hc]
        refine ⟨this.1, fun y hy => ?_⟩
        rcases List.mem_cons.mp hy with rfl | hy
        · omega
        · exact this.2 y hy
  cases xs with
  | nil => intro y h; simp at h
  | cons a r =>
    intro y h
    rcases List.mem_cons.mp h with rfl | h
    · exact (key r _).1
    · exact (key r a).2 y h
theorem mx_mem : ∀ {xs : List Int}, xs ≠ [] → mx xs ∈ xs := by
  intro xs
  have key : ∀ (r : List Int) (a : Int), maxI a r ∈ a :: r := by
    intro r
    induction r with
    | nil => intro a; exact List.mem_cons_self
    | cons b r ih =>
      intro a
      have e : maxI a (b :: r) = maxI (if a < b then b else a) r := rfl
      rw [e]
      have := ih (if a < b then b else a)
      split at this
      · rename_i hc; rw [if_pos hc]; exact List.mem_cons_of_mem _ this
      · rename_i hc; rw [if_neg hc]
        rcases List.mem_cons.mp this with h | h
        · rw [h]; exact List.mem_cons_self
        · exact List.mem_cons_of_mem _ (List.mem_cons_of_mem _ h)
  cases xs with
  | nil => intro h; exact absurd rfl h
  | cons a r => intro _; exact key r a
theorem fMax_mx {xs : List Int} (h : xs ≠ []) : fMax [.list (xs.map .int)] = some (.int (mx xs)) := by
  cases xs with
  | nil => exact absurd rfl h
  | cons a r =>
    show (asInts ((a :: r).map .int)).bind _ = _
    rw [asInts_map]
    rfl
theorem take_snoc {E : List Int} {k : Nat} {x : Int} (h : E[k]? = some x) : E.take (k + 1) = E.take k ++ [x] := by
  rw [List.take_add_one, h]
  rfl
theorem take_ne {E : List Int} {k : Nat} (h0 : 0 < k) (h : k ≤ E.length) : E.take k ≠ [] := fun e => by
  have := congrArg List.length e
  rw [List.length_take, List.length_nil] at this
  omega
theorem dI_get {xs : List Int} {j : Nat} {x : Int} (h : xs[j]? = some x) : fIx (dI xs) (.int (j : Int)) = some (.int x) := atI_nat (by rw [List.getElem?_map, h]; rfl)
theorem enum_get : ∀ (xs : List D) (n k : Nat) (x : D), (enumD n xs)[k]? = some x → ∃ y, xs[k]? = some y ∧ x = .tuple [.int ((n + k : Nat) : Int), y]
  | [], n, k, x, h => by simp [enumD] at h
  | y :: r, n, 0, x, h => by
    have h : some (PyData.tuple [.int (n : Int), y]) = some x := h
    cases h
    exact ⟨y, rfl, rfl⟩
  | y :: r, n, k + 1, x, h => by
    obtain ⟨z, h1, h2⟩ := enum_get r (n + 1) k x h
    exact ⟨z, h1, by rw [h2, show n + 1 + k = n + (k + 1) by omega]⟩
theorem enum_lenE : ∀ (xs : List D) (n : Nat), (enumD n xs).length = xs.length
  | [], _ => rfl
  | _ :: r, n => by
    show (enumD (n + 1) r).length + 1 = _
    rw [enum_lenE r]; rfl
end VE

namespace VE
open PySem
theorem fAdd_int (i j : Int) : fAdd (.int i) (.int j) = some (.int (i + j)) := rfl
def needs (E : List Int) (W S : Int) (k : Nat) : List Int := (winT W S (E.getD k 0)).map fun s => mx (E.take k) - s - W + 1
/-- what the best says of the places before k -/
def BestS (E : List Int) (W S : Int) (k : Nat) (b : Int) (x : D) : Prop := (b = 0 ∧ x = .tuple [.int 0, .none, .none]) ∨ (0 < b ∧ ∃ t p : Nat, t < p ∧ p < k ∧ x = .tuple [.int b, .int (t : Int), .int (p : Int)] ∧ E[t]? = some (mx (E.take p)) ∧ b ∈ needs E W S p)
def Best (E : List Int) (W S : Int) (k : Nat) (b : Int) (x : D) : Prop := BestS E W S k b x ∧ ∀ j, 1 ≤ j → j < k → ∀ y ∈ needs E W S j, y ≤ b
def Top (E : List Int) (k : Nat) (x : D) : Prop := (k = 0 ∧ x = .none) ∨ ∃ t : Nat, t < k ∧ x = .int (t : Int) ∧ E[t]? = some (mx (E.take k))
theorem BestS.mono {E : List Int} {W S : Int} {k j : Nat} {b : Int} {x : D} (h : BestS E W S k b x) (q : k ≤ j) : BestS E W S j b x := h.imp id fun ⟨h1, t, p, h2, h3, h4⟩ => ⟨h1, t, p, h2, by omega, h4⟩
theorem BestS.ix {E : List Int} {W S : Int} {k : Nat} {b : Int} {x : D} (h : BestS E W S k b x) : fIx x (.int 0) = some (.int b) := by
  rcases h with ⟨rfl, rfl⟩ | ⟨_, t, p, _, _, rfl, _⟩
  · rfl
  · rfl
theorem BestS.nn {E : List Int} {W S : Int} {k : Nat} {b : Int} {x : D} (h : BestS E W S k b x) : 0 ≤ b := by
  rcases h with ⟨rfl, rfl⟩ | ⟨h, _⟩ <;> omega
theorem if_p {t : TF} {f g : SF} {env : En} {b : Bool} {r : M (Fl × En)} (h : t env = pure b) (h1 : b = true → f env = r) (h2 : b = false → g env = r) : sIf t f g env = r := by
  cases b with
  | true => rw [if_then h]; exact h1 rfl
  | false => rw [if_else h]; exact h2 rfl
section
variable {W S : Int} (hS : 1 ≤ S ∧ S ≤ 5) (hW : 1 ≤ W ∧ W ≤ 9) {E : List Int} (hE : ∀ x ∈ E, 0 ≤ x ∧ x < 31)
include hS hW hE in
theorem ll_inner (i t : Nat) (hi : i < E.length) (ht : t < i) (et : E[t]? = some (mx (E.take i))) (b : Int) (x : D) (z7 z8 : Slot) (hb : Best E W S i b x) :
    ∃ b' x' z7' z8', sFor (iLst (xCall windows_atF (xCons (xVar 6) (xCons (xVar 1) (xCons (xVar 2) xNil))))) (gNm 7) (sSeq (sAsg (xOp fAdd (xOp fSub (xOp fIx (xVar 0) (xVar 4)) (xOp fAdd (xVar 7) (xVar 1))) (xC (.int 1))) (gNm 8))
      (sIf (xTest (xOp fGt (xVar 8) (xOp fIx (xVar 3) (xC (.int 0))))) (sAsg (xTup (xCons (xVar 8) (xCons (xVar 4) (xCons (xVar 5) xNil)))) (gNm 3)) sPass))
      [.sh (dI E), .sh (.int W), .sh (.int S), .sh x, .sh (.int (t : Int)), .sh (.int (i : Int)), .sh (.int (E.getD i 0)), z7, z8] =
      pure (.nx, [.sh (dI E), .sh (.int W), .sh (.int S), .sh x', .sh (.int (t : Int)), .sh (.int (i : Int)), .sh (.int (E.getD i 0)), z7', z8']) ∧ Best E W S (i + 1) b' x' := by
  have hEi : 0 ≤ E.getD i 0 ∧ E.getD i 0 < 31 := by
    rw [List.getD_eq_getElem?_getD, List.getElem?_eq_getElem hi]
    exact hE _ (List.getElem_mem hi)
  obtain ⟨env', h1, b', x', z7', z8', rfl, h2, h3, h4⟩ := for_inv (g := gNm 7) (body := sSeq (sAsg (xOp fAdd (xOp fSub (xOp fIx (xVar 0) (xVar 4)) (xOp fAdd (xVar 7) (xVar 1))) (xC (.int 1))) (gNm 8))
      (sIf (xTest (xOp fGt (xVar 8) (xOp fIx (xVar 3) (xC (.int 0))))) (sAsg (xTup (xCons (xVar 8) (xCons (xVar 4) (xCons (xVar 5) xNil)))) (gNm 3)) sPass))
    (fun n env => ∃ b' x' z7' z8', env = [.sh (dI E), .sh (.int W), .sh (.int S), .sh x', .sh (.int (t : Int)), .sh (.int (i : Int)), .sh (.int (E.getD i 0)), z7', z8'] ∧ BestS E W S (i + 1) b' x' ∧ (∀ j, 1 ≤ j → j < i → ∀ y ∈ needs E W S j, y ≤ b') ∧ ∀ y ∈ (needs E W S i).take n, y ≤ b')
    ((winT W S (E.getD i 0)).map .int) 0 [.sh (dI E), .sh (.int W), .sh (.int S), .sh x, .sh (.int (t : Int)), .sh (.int (i : Int)), .sh (.int (E.getD i 0)), z7, z8] ⟨b, x, z7, z8, rfl, hb.1.mono (by omega), hb.2, fun y h => by simp at h⟩ (fun n s0 env hx ⟨b', x', z7', z8', hz, h2, h3, h4⟩ => by
      subst hz
      rw [Nat.zero_add] at h4 ⊢
      rw [List.getElem?_map] at hx
      obtain ⟨s, hs, rfl⟩ := Option.map_eq_some_iff.mp hx
      have hn : (needs E W S i)[n]? = some (mx (E.take i) - s - W + 1) := by unfold needs; rw [List.getElem?_map, hs]; rfl
      have en : mx (E.take i) - (s + W) + 1 = mx (E.take i) - s - W + 1 := by omega
      have e1 : (sAsg (xOp fAdd (xOp fSub (xOp fIx (xVar 0) (xVar 4)) (xOp fAdd (xVar 7) (xVar 1))) (xC (.int 1))) (gNm 8)) [.sh (dI E), .sh (.int W), .sh (.int S), .sh x', .sh (.int (t : Int)), .sh (.int (i : Int)), .sh (.int (E.getD i 0)), .sh (.int s), z8'] =
          pure (.nx, [.sh (dI E), .sh (.int W), .sh (.int S), .sh x', .sh (.int (t : Int)), .sh (.int (i : Int)), .sh (.int (E.getD i 0)), .sh (.int s), .sh (.int (mx (E.take i) - s - W + 1))]) :=
        asg_p (op_p (op_p (op_p rfl rfl (dI_get et)) (op_p rfl rfl rfl) rfl) rfl (by rw [fAdd_int, en])) rfl
      have e2 : (xTest (xOp fGt (xVar 8) (xOp fIx (xVar 3) (xC (.int 0))))) [.sh (dI E), .sh (.int W), .sh (.int S), .sh x', .sh (.int (t : Int)), .sh (.int (i : Int)), .sh (.int (E.getD i 0)), .sh (.int s), .sh (.int (mx (E.take i) - s - W + 1))] = pure (decide (b' < mx (E.take i) - s - W + 1)) :=
        test_p (op_p rfl (op_p rfl rfl h2.ix) rfl)
      have step : ∀ c : Int, b' ≤ c → mx (E.take i) - s - W + 1 ≤ c → ∀ y ∈ (needs E W S i).take (n + 1), y ≤ c := fun c c1 c2 y hy => by
        rw [take_snoc hn, List.mem_append, List.mem_singleton] at hy
        rcases hy with hy | rfl
        · exact Int.le_trans (h4 y hy) c1
        · exact c2
      by_cases c : b' < mx (E.take i) - s - W + 1
      · rw [decide_eq_true c] at e2
        refine ⟨_, .nx, _, rfl, (seq_pure e1).trans ((if_then e2).trans (asg_p (x := .tuple [.int (mx (E.take i) - s - W + 1), .int (t : Int), .int (i : Int)]) rfl rfl)), .inl rfl, mx (E.take i) - s - W + 1, _, _, _, rfl, .inr ⟨?_, t, i, ht, by omega, rfl, et, List.mem_of_getElem? hn⟩, fun j h5 h6 y h7 => Int.le_trans (h3 j h5 h6 y h7) (Int.le_of_lt c), step _ (Int.le_of_lt c) (Int.le_refl _)⟩
        have := h2.nn; omega
      · rw [decide_eq_false c] at e2
        exact ⟨_, .nx, _, rfl, (seq_pure e1).trans ((if_else e2).trans rfl), .inl rfl, b', x', _, _, rfl, h2, h3, step _ (Int.le_refl _) (by omega)⟩)
  refine ⟨b', x', z7', z8', for_p (iLst_p (call_p (cons_p rfl (cons_p rfl (cons_p rfl nil_p))) (win_run hS hW _ hEi.1 hEi.2))) h1, h2, fun j h5 h6 => ?_⟩
  by_cases e : j = i
  · subst e
    have el : 0 + ((winT W S (E.getD j 0)).map PyData.int).length = (needs E W S j).length := by unfold needs; rw [List.length_map, List.length_map]; omega
    rw [el, List.take_length] at h4
    exact h4
  · exact h3 j h5 (by omega)
include hS hW hE in
theorem ll_run : ∃ b x, least_latenessF [dI E, .int W, .int S] = some x ∧ Best E W S E.length b x := by
  obtain ⟨env', h1, b, x, top, z5, z6, z7, z8, rfl, hb, ht⟩ := for_inv (g := gTp 2 (gsCons (gNm 5) (gsCons (gNm 6) gsNil))) (body := sSeq (sIf (xTest (xUn fNotN (xVar 4))) (sFor (iLst (xCall windows_atF (xCons (xVar 6) (xCons (xVar 1) (xCons (xVar 2) xNil))))) (gNm 7) (sSeq (sAsg (xOp fAdd (xOp fSub (xOp fIx (xVar 0) (xVar 4)) (xOp fAdd (xVar 7) (xVar 1))) (xC (.int 1))) (gNm 8))
      (sIf (xTest (xOp fGt (xVar 8) (xOp fIx (xVar 3) (xC (.int 0))))) (sAsg (xTup (xCons (xVar 8) (xCons (xVar 4) (xCons (xVar 5) xNil)))) (gNm 3)) sPass))) sPass)
      (sIf (xOr (xTest (xUn fIsN (xVar 4))) (xTest (xOp fGt (xVar 6) (xOp fIx (xVar 0) (xVar 4))))) (sAsg (xVar 5) (gNm 4)) sPass))
    (fun k env => ∃ b x top z5 z6 z7 z8, env = [.sh (dI E), .sh (.int W), .sh (.int S), .sh x, .sh top, z5, z6, z7, z8] ∧ Best E W S k b x ∧ Top E k top)
    (enumD 0 (E.map .int)) 0 [.sh (dI E), .sh (.int W), .sh (.int S), .sh (.tuple [.int 0, .none, .none]), .sh .none, .no, .no, .no, .no] ⟨0, _, _, _, _, _, _, rfl, ⟨.inl ⟨rfl, rfl⟩, fun j h1 h2 => by omega⟩, .inl ⟨rfl, rfl⟩⟩ (fun i it env hx ⟨b, x, top, z5, z6, z7, z8, hz, hb, ht⟩ => by
      subst hz
      rw [Nat.zero_add] at hb ht ⊢
      obtain ⟨y, hy, rfl⟩ := enum_get _ _ _ _ hx
      rw [List.getElem?_map] at hy
      obtain ⟨e, he, rfl⟩ := Option.map_eq_some_iff.mp hy
      rw [Nat.zero_add]
      have hi : i < E.length := (List.getElem?_eq_some_iff.mp he).1
      have ee : E.getD i 0 = e := by rw [List.getD_eq_getElem?_getD, he]; rfl
      rcases ht with ⟨rfl, rfl⟩ | ⟨t, ht, rfl, et⟩
      · refine ⟨_, .nx, [.sh (dI E), .sh (.int W), .sh (.int S), .sh x, .sh (.int ((0 : Nat) : Int)), .sh (.int ((0 : Nat) : Int)), .sh (.int e), z7, z8], rfl, (seq_pure (if_skip (test_p rfl))).trans ((if_then (or_t (test_p rfl))).trans (asg_p rfl rfl)), .inl rfl, b, x, _, _, _, _, _, rfl, ⟨hb.1.mono (by omega), fun j h1 h2 => by omega⟩, .inr ⟨0, by omega, rfl, ?_⟩⟩
        rw [take_snoc he, he]
        rfl
      · obtain ⟨b', x', z7', z8', h1, hb'⟩ := ll_inner hS hW hE i t hi ht et b x z7 z8 hb
        rw [ee] at h1
        have e1 := (seq_pure (r := (sIf (xOr (xTest (xUn fIsN (xVar 4))) (xTest (xOp fGt (xVar 6) (xOp fIx (xVar 0) (xVar 4))))) (sAsg (xVar 5) (gNm 4)) sPass)) ((if_then (g := sPass) (t := xTest (xUn fNotN (xVar 4))) (test_p rfl)).trans h1))
        have e2 : (xOr (xTest (xUn fIsN (xVar 4))) (xTest (xOp fGt (xVar 6) (xOp fIx (xVar 0) (xVar 4))))) [.sh (dI E), .sh (.int W), .sh (.int S), .sh x', .sh (.int (t : Int)), .sh (.int (i : Int)), .sh (.int e), z7', z8'] = pure (decide (mx (E.take i) < e)) :=
          or_f (test_p rfl) (test_p (op_p rfl (op_p rfl rfl (dI_get et)) rfl))
        have ne : E.take i ≠ [] := take_ne (by omega) (by omega)
        by_cases c : mx (E.take i) < e
        · rw [decide_eq_true c] at e2
          refine ⟨_, .nx, _, rfl, e1.trans ((if_then e2).trans (asg_p rfl rfl)), .inl rfl, b', x', _, _, _, _, _, rfl, hb', .inr ⟨i, by omega, rfl, ?_⟩⟩
          rw [take_snoc he, mx_snoc ne, if_pos c, he]
        · rw [decide_eq_false c] at e2
          refine ⟨_, .nx, _, rfl, e1.trans ((if_else e2).trans rfl), .inl rfl, b', x', _, _, _, _, _, rfl, hb', .inr ⟨t, by omega, rfl, ?_⟩⟩
          rw [take_snoc he, mx_snoc ne, if_neg c, et])
  refine ⟨b, x, runDef_ex rfl ?_, ?_⟩
  · unfold least_latenessB
    refine sp_p (env1 := [.sh (dI E), .sh (.int W), .sh (.int S), .sh (.tuple [.int 0, .none, .none]), .no, .no, .no, .no, .no]) (asg_p rfl rfl) ?_
    refine sp_p (env1 := [.sh (dI E), .sh (.int W), .sh (.int S), .sh (.tuple [.int 0, .none, .none]), .sh .none, .no, .no, .no, .no]) (asg_p rfl rfl) ?_
    refine sp_p (for_p rfl h1) ?_
    exact sp_ret rfl
  · rw [enum_lenE, List.length_map, Nat.zero_add] at hb
    exact hb
end
end VE

namespace VE
open PySem
/-! dicts, reckoned -/
def dF (al : List (Int × Int)) : List D := al.flatMap fun p => [.int p.1, .int p.2]
def look (al : List (Int × Int)) (s : Int) : Option Int := (al.find? fun p => decide (p.1 = s)).map (·.2)
def putI (al : List (Int × Int)) (s v : Int) : List (Int × Int) := if (look al s).isSome then al.map (fun p => (p.1, if p.1 = s then v else p.2)) else al ++ [(s, v)]
theorem dF_cons (p : Int × Int) (r : List (Int × Int)) : dF (p :: r) = .int p.1 :: .int p.2 :: dF r := rfl
theorem dF_val (s : Int) : ∀ al : List (Int × Int), dVal (dF al) s = (look al s).map .int
  | [] => rfl
  | p :: r => by
    have ih := dF_val s r
    rw [dF_cons]
    show (if p.1 = s then some _ else dVal (dF r) s) = _
    unfold look at *
    by_cases c : p.1 = s
    · rw [if_pos c, List.find?_cons_of_pos (by simpa using c)]; rfl
    · rw [if_neg c, List.find?_cons_of_neg (by simpa using c)]; exact ih
theorem dF_keys : ∀ al : List (Int × Int), dKeys (dF al) = al.map (·.1)
  | [] => rfl
  | p :: r => by rw [dF_cons]; show p.1 :: dKeys (dF r) = _; rw [dF_keys r]; rfl
theorem dF_len : ∀ al : List (Int × Int), (dF al).length = 2 * al.length
  | [] => rfl
  | p :: r => by rw [dF_cons]; simp only [List.length_cons, dF_len r]; omega
theorem dF_repl (s v : Int) : ∀ al : List (Int × Int), dRepl (dF al) s (.int v) = dF (al.map fun p => (p.1, if p.1 = s then v else p.2))
  | [] => rfl
  | p :: r => by
    rw [dF_cons, List.map_cons, dF_cons]
    show PyData.int p.1 :: (if p.1 = s then PyData.int v else PyData.int p.2) :: dRepl (dF r) s (.int v) = _
    rw [dF_repl s v r]
    by_cases c : p.1 = s
    · simp only [if_pos c]
    · simp only [if_neg c]
theorem dF_put (al : List (Int × Int)) (s v : Int) : dPut (dF al) s (.int v) = dF (putI al s v) := by
  unfold dPut putI
  rw [dF_val, Option.isSome_map]
  by_cases c : (look al s).isSome = true
  · rw [if_pos c, if_pos c, dF_repl]
  · rw [if_neg c, if_neg c]
    unfold dF
    rw [List.flatMap_append]
    rfl
theorem look_some (s : Int) : ∀ al : List (Int × Int), (look al s).isSome = decide (s ∈ al.map (·.1))
  | [] => rfl
  | p :: r => by
    have ih := look_some s r
    unfold look at *
    by_cases c : p.1 = s
    · rw [List.find?_cons_of_pos (by simpa using c)]; simp [c]
    · rw [List.find?_cons_of_neg (by simpa using c), ih]
      have : ¬ s = p.1 := fun e => c e.symm
      simp [this]
theorem put_keys (al : List (Int × Int)) (s v : Int) : (putI al s v).map (·.1) = if s ∈ al.map (·.1) then al.map (·.1) else al.map (·.1) ++ [s] := by
  unfold putI
  rw [look_some]
  by_cases c : s ∈ al.map (·.1)
  · rw [if_pos c, decide_eq_true c, if_pos rfl, List.map_map]; rfl
  · rw [if_neg c, decide_eq_false c, if_neg Bool.false_ne_true, List.map_append]; rfl
theorem put_mem {al : List (Int × Int)} {s v : Int} {p : Int × Int} (h : p ∈ putI al s v) : p.1 = s ∨ ∃ q ∈ al, q.1 = p.1 := by
  unfold putI at h
  split at h
  · obtain ⟨q, h1, rfl⟩ := List.mem_map.mp h
    exact .inr ⟨q, h1, rfl⟩
  · rcases List.mem_append.mp h with h | h
    · exact .inr ⟨p, h, rfl⟩
    · rw [List.mem_singleton] at h; subst h; exact .inl rfl
def KeysOk (N : Nat) (al : List (Int × Int)) : Prop := (al.map (·.1)).Nodup ∧ ∀ s ∈ al.map (·.1), 0 ≤ s ∧ s < (N : Int)
theorem KeysOk.nil {N : Nat} : KeysOk N [] := ⟨.nil, fun _ h => by simp at h⟩
theorem KeysOk.len {N : Nat} {al : List (Int × Int)} (h : KeysOk N al) : al.length ≤ N := by
  have := List.Nodup.length_le_of_subset h.1 (l₂ := ups N) fun x hx => mem_ups.mpr (h.2 x hx)
  rwa [ups_len, List.length_map] at this
theorem KeysOk.put {N : Nat} {al : List (Int × Int)} (h : KeysOk N al) {s : Int} (v : Int) (hs : 0 ≤ s ∧ s < (N : Int)) : KeysOk N (putI al s v) := by
  unfold KeysOk
  rw [put_keys]
  by_cases c : s ∈ al.map (·.1)
  · rw [if_pos c]; exact h
  · rw [if_neg c]
    refine ⟨List.nodup_append.mpr ⟨h.1, by simp, fun a ha b hb => ?_⟩, fun x hx => ?_⟩
    · rw [List.mem_singleton] at hb
      rintro rfl
      exact c (hb ▸ ha)
    · rcases List.mem_append.mp hx with hx | hx
      · exact h.2 x hx
      · rw [List.mem_singleton] at hx; subst hx; exact hs
theorem withD_p {α : Type} {i : Nat} {env : En} {xs : List D} {k : Int} {F : List D → Int → M α} (h : env[i]? = some (.ow true xs)) : withD i env (.int k) F = F xs k := by
  unfold withD
  rw [h]
theorem din_p {i : Nat} {f : EF} {env : En} {al : List (Int × Int)} {s : Int} (h : f env = pure (.int s)) (h2 : env[i]? = some (.ow true (dF al))) : xDIn i f env = pure (.bool (decide (s ∈ al.map (·.1)))) := by
  unfold xDIn
  rw [h, pb, withD_p h2, dF_val, Option.isSome_map, look_some]
theorem dnotin_p {i : Nat} {f : EF} {env : En} {al : List (Int × Int)} {s : Int} (h : f env = pure (.int s)) (h2 : env[i]? = some (.ow true (dF al))) : xDNotIn i f env = pure (.bool (!decide (s ∈ al.map (·.1)))) := by
  unfold xDNotIn
  rw [h, pb, withD_p h2, dF_val, Option.isSome_map, look_some]
theorem dget2_p {i : Nat} {f g : EF} {env : En} {al : List (Int × Int)} {s v : Int} (h : f env = pure (.int s)) (h3 : g env = pure (.int v)) (h2 : env[i]? = some (.ow true (dF al))) : xDGet2 i f g env = pure (.int ((look al s).getD v)) := by
  unfold xDGet2
  rw [h, pb, h3, pb, withD_p h2, dF_val]
  cases look al s <;> rfl
theorem dget1_p {i : Nat} {f : EF} {env : En} {al : List (Int × Int)} {s : Int} (h : f env = pure (.int s)) (h2 : env[i]? = some (.ow true (dF al))) : xDGet1 i f env = pure (((look al s).map .int).getD .none) := by
  unfold xDGet1
  rw [h, pb, withD_p h2, dF_val]
theorem dix_p {i : Nat} {f : EF} {env : En} {al : List (Int × Int)} {s : Int} (h : f env = pure (.int s)) (h2 : env[i]? = some (.ow true (dF al))) (h3 : s ∈ al.map (·.1)) : xDIx i f env = pure (.int ((look al s).getD 0)) := by
  unfold xDIx
  rw [h, pb, withD_p h2, dF_val]
  have := look_some s al
  rw [decide_eq_true h3] at this
  cases q : look al s with
  | none => rw [q] at this; cases this
  | some v => rfl
theorem dput_p {i : Nat} {f g : EF} {env : En} {N : Nat} {al : List (Int × Int)} {s v : Int} (h : g env = pure (.int v)) (h3 : f env = pure (.int s)) (h2 : env[i]? = some (.ow true (dF al))) (hk : KeysOk N al) (hN : N ≤ 1000000) : sDPut i f g env = pure (.nx, env.set i (.ow true (dF (putI al s v)))) := by
  unfold sDPut
  rw [h, pb, h3, pb, withD_p h2, dF_put, if_pos]
  have := hk.len
  rw [dF_len]
  unfold line
  omega
theorem forD_p {i : Nat} {g : GF} {body : SF} {env env' : En} {xs : List D} (h : env[i]? = some (.ow true xs)) (hw : noWalk env = true) (hg : sFor.go g body ((dKeys xs).map .int) (env.set i (.st 9)) = pure (.nx, env')) (he : env'[i]? = some (.st 9)) (hw' : noWalk (env'.set i .no) = true) :
    sForD i g body env = pure (.nx, env'.set i (.ow true xs)) := by
  unfold sForD
  rw [h]
  show (if noWalk env = true then _ else _) = _
  rw [if_pos hw, hg, pb]
  show endD i xs .nx env' = _
  unfold endD
  rw [he]
  show (if (isNx .nx && is9 (some (.st 9)) && noWalk (env'.set i .no)) = true then _ else _) = _
  rw [if_pos (by rw [hw']; rfl)]
theorem app_p {i : Nat} {f : EF} {env : En} {xs : List D} {x : D} (h : f env = pure x) (h2 : env[i]? = some (.ow false xs)) (hl : xs.length < line) : sApp i f env = pure (.nx, env.set i (.ow false (xs ++ [x]))) := by
  unfold sApp
  rw [h, pb, h2]
  show (if xs.length < line then _ else _) = _
  rw [if_pos hl]
theorem sortD_p {i : Nat} {env : En} {N : Nat} {al : List (Int × Int)} (h2 : env[i]? = some (.ow true (dF al))) (hk : KeysOk N al) (hN : N < 64) : xSortD i env = pure ((sortI (al.map (·.1))).map .int) := by
  unfold xSortD
  rw [h2]
  show (if (dKeys (dF al)).length < 64 then _ else _) = _
  have := hk.len
  rw [dF_keys, if_pos (by rw [List.length_map]; omega)]
/-- a slot that holds nothing or a value -/
def pl (z : Slot) : Prop := z = .no ∨ ∃ x, z = .sh x
theorem pl.ow {z : Slot} (h : pl z) : ∀ b xs, z ≠ .ow b xs := by
  rcases h with rfl | ⟨x, rfl⟩ <;> exact fun _ _ e => nomatch e
theorem pl.no : pl .no := .inl rfl
theorem pl.sh {x : D} : pl (.sh x) := .inr ⟨x, rfl⟩
theorem tup_p {f : AF} {env : En} {xs : List D} (h : f env = pure xs) (hl : xs.length ≤ line) : xTup f env = pure (.tuple xs) := by
  unfold xTup
  rw [h, pb, if_pos hl]

theorem last_ix {ms : List Int} (y : Int) : fIx (dI (ms ++ [y])) (.int (-1)) = some (.int y) := by
  show atI ((ms ++ [y]).map .int) (-1) = _
  unfold atI ixN
  rw [if_neg (by decide), List.length_map, List.length_append, List.length_singleton, if_pos (by omega), Option.bind_some]
  rw [show (-1 + ((ms.length + 1 : Nat) : Int)).toNat = ms.length by omega, List.getElem?_map, List.getElem?_append_right (Nat.le_refl _), Nat.sub_self]
  rfl
theorem marks_run (E : List Int) (L : Int) (hl : E.length ≤ 1000) (h0 : 0 < E.length) : ∃ ms, marksF [dI E, .int L] = some (dI (ms ++ [mx E - L])) := by
  obtain ⟨env', h1, ms, top, z4, rfl, h2, h3⟩ := for_inv (g := gNm 4) (body := sSeq (sAsg (xIf (xOr (xTest (xUn fIsN (xVar 3))) (xTest (xOp fGt (xVar 4) (xVar 3)))) (xVar 4) (xVar 3)) (gNm 3)) (sApp 2 (xOp fSub (xVar 3) (xVar 1))))
    (fun k env => ∃ (ms : List Int) (top : D) (z4 : Slot), env = [.sh (dI E), .sh (.int L), .ow false (ms.map .int), .sh top, z4] ∧ ms.length = k ∧ ((k = 0 ∧ top = .none) ∨ (0 < k ∧ top = .int (mx (E.take k)) ∧ ∃ ms', ms = ms' ++ [mx (E.take k) - L])))
    (E.map .int) 0 [.sh (dI E), .sh (.int L), .ow false [], .sh .none, .no] ⟨[], _, _, rfl, rfl, .inl ⟨rfl, rfl⟩⟩ (fun i x env hx ⟨ms, top, z4, hz, h2, h3⟩ => by
      subst hz
      rw [Nat.zero_add] at h2 h3 ⊢
      have hil : i < E.length := by have := (List.getElem?_eq_some_iff.mp hx).1; rwa [List.length_map] at this
      rw [List.getElem?_map] at hx
      obtain ⟨e, he, rfl⟩ := Option.map_eq_some_iff.mp hx
      have e1 : (xIf (xOr (xTest (xUn fIsN (xVar 3))) (xTest (xOp fGt (xVar 4) (xVar 3)))) (xVar 4) (xVar 3)) [.sh (dI E), .sh (.int L), .ow false (ms.map .int), .sh top, .sh (.int e)] = pure (.int (mx (E.take (i + 1)))) := by
        rcases h3 with ⟨rfl, rfl⟩ | ⟨h0, rfl, _⟩
        · rw [take_snoc he]
          show (xIf _ _ _) _ = pure (.int e)
          unfold xIf
          rw [or_t (test_p rfl), pb]
          rfl
        · have e2 : (xOr (xTest (xUn fIsN (xVar 3))) (xTest (xOp fGt (xVar 4) (xVar 3)))) [.sh (dI E), .sh (.int L), .ow false (ms.map .int), .sh (.int (mx (E.take i))), .sh (.int e)] = pure (decide (mx (E.take i) < e)) := or_f (test_p rfl) (test_p (op_p rfl rfl rfl))
          unfold xIf
          rw [e2, pb, take_snoc he, mx_snoc (take_ne h0 (by omega))]
          by_cases c : mx (E.take i) < e
          · rw [if_pos c, if_pos (decide_eq_true c)]; rfl
          · rw [if_neg c, if_neg (by simpa using c)]; rfl
      refine ⟨_, .nx, [.sh (dI E), .sh (.int L), .ow false (ms.map .int ++ [.int (mx (E.take (i + 1)) - L)]), .sh (.int (mx (E.take (i + 1)))), .sh (.int e)], rfl, (seq_pure (asg_p e1 rfl)).trans (app_p (op_p rfl rfl rfl) rfl ?_), .inl rfl, ms ++ [mx (E.take (i + 1)) - L], _, _, by rw [List.map_append]; rfl, by rw [List.length_append, h2]; rfl, .inr ⟨by omega, rfl, _, rfl⟩⟩
      rw [List.length_map, h2]
      unfold line
      omega)
  rw [List.length_map, Nat.zero_add] at h3
  rcases h3 with ⟨h3, _⟩ | ⟨_, rfl, ms', h3⟩
  · omega
  · rw [List.take_length] at h3
    subst h3
    refine ⟨ms', runDef_ex rfl ?_⟩
    unfold marksB
    refine sp_p (env1 := [.sh (dI E), .sh (.int L), .ow false [], .no, .no]) rfl ?_
    refine sp_p (env1 := [.sh (dI E), .sh (.int L), .ow false [], .sh .none, .no]) (asg_p rfl rfl) ?_
    refine sp_p (for_p rfl h1) ?_
    exact sp_ret rfl
theorem cut_to {E : List Int} {i : Nat} (h : i ≤ E.length) : cut (E.map PyData.int) none (some (i : Int)) = (E.take i).map .int := by
  have e : cut (E.map PyData.int) none (some (i : Int)) = ((E.map PyData.int).drop 0).take ((if (i : Int) < 0 then ((i : Int) + ((E.map PyData.int).length : Int)).toNat else min (i : Int).toNat (E.map PyData.int).length) - 0) := rfl
  rw [e, if_neg (by omega), List.drop_zero, Nat.sub_zero, List.length_map, Int.toNat_natCast, Nat.min_eq_left h, List.map_take]
theorem slice_p {f h : EF} {env : En} {E : List Int} {i : Nat} (hf : f env = pure (dI E)) (hh : h env = pure (.int (i : Int))) (hi : i ≤ E.length) : xSlice f oNo (oSome h) env = pure ((E.take i).map .int) := by
  unfold xSlice oNo oSome
  rw [hf, pb, pb, hh, pb]
  show ((pure (some (i : Int)) : M (Option Int)) >>= _) = _
  rw [pb]
  show pure (cut (E.map .int) none (some (i : Int))) = _
  rw [cut_to hi]
section
variable {W S : Int} (hS : 1 ≤ S ∧ S ≤ 5) (hW : 1 ≤ W ∧ W ≤ 9) {E : List Int} (hE : ∀ x ∈ E, 0 ≤ x ∧ x < 31) (hl : E.length ≤ 1000) {L : Int} (hL : ∀ j, 1 ≤ j → j < E.length → ∀ y ∈ needs E W S j, y ≤ L)
def Mk (E : List Int) (W L : Int) (k : Nat) (mark : D) (bl : List (Int × Int)) : Prop := (k = 0 ∧ mark = .none ∧ bl = []) ∨ (0 < k ∧ mark = .int (mx (E.take k) - L) ∧ ∀ p ∈ bl, p.1 + W ≤ mx (E.take k) - L)
include hS hW hE hL in
/-- the first loop of a turn -/
theorem ct_one (i : Nat) (hi : i < E.length) (al bl : List (Int × Int)) (mark : D) (z10 : Slot) (ka : KeysOk 31 al) (hm : Mk E W L i mark bl) (pz : pl z10) :
    ∃ al' z10', sFor (iLst (xCall windows_atF (xCons (xVar 9) (xCons (xVar 1) (xCons (xVar 2) xNil))))) (gNm 10) (sIf (xOr (xTest (xDIn 5 (xVar 10))) (xAnd (xTest (xUn fNotN (xVar 7))) (xTest (xOp fLe (xOp fAdd (xVar 10) (xVar 1)) (xVar 7))))) (sSeq (sDSetd 5 (xVar 10) (xVar 8))
      (sApp 6 (xTup (xCons (xVar 8) (xCons (xVar 10) xNil))))) (sDPut 4 (xVar 10) (xOp fAdd (xDGet2 4 (xVar 10) (xC (.int 0))) (xC (.int 1)))))
      [.sh (dI E), .sh (.int W), .sh (.int S), .sh (.int L), .ow true (dF al), .ow true (dF bl), .ow false [], .sh mark, .sh (.int (i : Int)), .sh (.int (E.getD i 0)), z10] =
      pure (.nx, [.sh (dI E), .sh (.int W), .sh (.int S), .sh (.int L), .ow true (dF al'), .ow true (dF bl), .ow false [], .sh mark, .sh (.int (i : Int)), .sh (.int (E.getD i 0)), z10']) ∧ KeysOk 31 al' ∧ pl z10' := by
  have hEi : 0 ≤ E.getD i 0 ∧ E.getD i 0 < 31 := by
    rw [List.getD_eq_getElem?_getD, List.getElem?_eq_getElem hi]
    exact hE _ (List.getElem_mem hi)
  obtain ⟨env', h1, al', z10', rfl, h2, h3⟩ := for_inv (g := gNm 10) (body := sIf (xOr (xTest (xDIn 5 (xVar 10))) (xAnd (xTest (xUn fNotN (xVar 7))) (xTest (xOp fLe (xOp fAdd (xVar 10) (xVar 1)) (xVar 7))))) (sSeq (sDSetd 5 (xVar 10) (xVar 8))
      (sApp 6 (xTup (xCons (xVar 8) (xCons (xVar 10) xNil))))) (sDPut 4 (xVar 10) (xOp fAdd (xDGet2 4 (xVar 10) (xC (.int 0))) (xC (.int 1)))))
    (fun _ env => ∃ al' z10', env = [.sh (dI E), .sh (.int W), .sh (.int S), .sh (.int L), .ow true (dF al'), .ow true (dF bl), .ow false [], .sh mark, .sh (.int (i : Int)), .sh (.int (E.getD i 0)), z10'] ∧ KeysOk 31 al' ∧ pl z10')
    ((winT W S (E.getD i 0)).map .int) 0 _ ⟨al, z10, rfl, ka, pz⟩ (fun n s0 env hx ⟨al', z10', hz, h2, h3⟩ => by
      subst hz
      rw [List.getElem?_map] at hx
      obtain ⟨s, hs, rfl⟩ := Option.map_eq_some_iff.mp hx
      have hsm := List.mem_of_getElem? hs
      have hb := win_mem hsm
      have ef : (xOr (xTest (xDIn 5 (xVar 10))) (xAnd (xTest (xUn fNotN (xVar 7))) (xTest (xOp fLe (xOp fAdd (xVar 10) (xVar 1)) (xVar 7))))) [.sh (dI E), .sh (.int W), .sh (.int S), .sh (.int L), .ow true (dF al'), .ow true (dF bl), .ow false [], .sh mark, .sh (.int (i : Int)), .sh (.int (E.getD i 0)), .sh (.int s)] = pure false := by
        rcases hm with ⟨_, rfl, rfl⟩ | ⟨h0, rfl, hm⟩
        · exact or_f (test_p ((din_p (al := []) rfl rfl).trans (by simp))) (and_f (test_p rfl))
        · have hn : mx (E.take i) - s - W + 1 ≤ L := hL i h0 hi _ (List.mem_map.mpr ⟨s, hsm, rfl⟩)
          have e3 : (xTest (xOp fLe (xOp fAdd (xVar 10) (xVar 1)) (xVar 7))) [.sh (dI E), .sh (.int W), .sh (.int S), .sh (.int L), .ow true (dF al'), .ow true (dF bl), .ow false [], .sh (.int (mx (E.take i) - L)), .sh (.int (i : Int)), .sh (.int (E.getD i 0)), .sh (.int s)] = pure (decide (s + W ≤ mx (E.take i) - L)) := test_p (op_p (op_p rfl rfl rfl) rfl rfl)
          rw [decide_eq_false (by omega)] at e3
          have e4 := din_p (i := 5) (f := xVar 10) (env := [.sh (dI E), .sh (.int W), .sh (.int S), .sh (.int L), .ow true (dF al'), .ow true (dF bl), .ow false [], .sh (.int (mx (E.take i) - L)), .sh (.int (i : Int)), .sh (.int (E.getD i 0)), .sh (.int s)]) (al := bl) (s := s) rfl rfl
          rw [decide_eq_false (p := s ∈ bl.map (·.1)) (fun z => by
            obtain ⟨p, hp, rfl⟩ := List.mem_map.mp z
            have := hm p hp
            omega)] at e4
          exact or_f (test_p e4) (and_t (test_p rfl) e3)
      refine ⟨_, .nx, _, rfl, (if_else ef).trans (dput_p (op_p (dget2_p rfl rfl rfl) rfl rfl) rfl rfl h2 (by decide)), .inl rfl, _, _, rfl, h2.put _ ⟨hb.1, by omega⟩, .sh⟩)
  exact ⟨al', z10', for_p (iLst_p (call_p (cons_p rfl (cons_p rfl (cons_p rfl nil_p))) (win_run hS hW _ hEi.1 hEi.2))) h1, h2, h3⟩
/-- the second one -/
theorem ct_two (i : Nat) (e m : Int) (al bl : List (Int × Int)) (z10 : Slot) (ka : KeysOk 31 al) (kb : KeysOk 31 bl) (hb : ∀ p ∈ bl, p.1 + W ≤ m) (pz : pl z10) :
    ∃ bl' z10', sForD 4 (gNm 10) (sIf (xAnd (xTest (xOp fLe (xOp fAdd (xVar 10) (xVar 1)) (xVar 7))) (xTest (xDNotIn 5 (xVar 10)))) (sDPut 5 (xVar 10) (xVar 8)) sPass)
      [.sh (dI E), .sh (.int W), .sh (.int S), .sh (.int L), .ow true (dF al), .ow true (dF bl), .ow false [], .sh (.int m), .sh (.int (i : Int)), .sh (.int e), z10] =
      pure (.nx, [.sh (dI E), .sh (.int W), .sh (.int S), .sh (.int L), .ow true (dF al), .ow true (dF bl'), .ow false [], .sh (.int m), .sh (.int (i : Int)), .sh (.int e), z10']) ∧ KeysOk 31 bl' ∧ (∀ p ∈ bl', p.1 + W ≤ m) ∧ pl z10' := by
  obtain ⟨env', h1, bl', z10', rfl, h2, h3, h4⟩ := for_inv (g := gNm 10) (body := sIf (xAnd (xTest (xOp fLe (xOp fAdd (xVar 10) (xVar 1)) (xVar 7))) (xTest (xDNotIn 5 (xVar 10)))) (sDPut 5 (xVar 10) (xVar 8)) sPass)
    (fun _ env => ∃ bl' z10', env = [.sh (dI E), .sh (.int W), .sh (.int S), .sh (.int L), .st 9, .ow true (dF bl'), .ow false [], .sh (.int m), .sh (.int (i : Int)), .sh (.int e), z10'] ∧ KeysOk 31 bl' ∧ (∀ p ∈ bl', p.1 + W ≤ m) ∧ pl z10')
    ((al.map (·.1)).map .int) 0 [.sh (dI E), .sh (.int W), .sh (.int S), .sh (.int L), .st 9, .ow true (dF bl), .ow false [], .sh (.int m), .sh (.int (i : Int)), .sh (.int e), z10] ⟨bl, z10, rfl, kb, hb, pz⟩ (fun n s0 env hx ⟨bl', z10', hz, h2, h3, h4⟩ => by
      subst hz
      rw [List.getElem?_map] at hx
      obtain ⟨s, hs, rfl⟩ := Option.map_eq_some_iff.mp hx
      have hsb := ka.2 s (List.mem_of_getElem? hs)
      have ef : (xAnd (xTest (xOp fLe (xOp fAdd (xVar 10) (xVar 1)) (xVar 7))) (xTest (xDNotIn 5 (xVar 10)))) [.sh (dI E), .sh (.int W), .sh (.int S), .sh (.int L), .st 9, .ow true (dF bl'), .ow false [], .sh (.int m), .sh (.int (i : Int)), .sh (.int e), .sh (.int s)] = pure (decide (s + W ≤ m) && !decide (s ∈ bl'.map (·.1))) :=
        and_p (test_p (op_p (op_p rfl rfl rfl) rfl rfl)) fun _ => test_p (dnotin_p rfl rfl)
      by_cases c : s + W ≤ m ∧ s ∉ bl'.map (·.1)
      · rw [decide_eq_true c.1, decide_eq_false c.2] at ef
        refine ⟨_, .nx, _, rfl, (if_then ef).trans (dput_p rfl rfl rfl h2 (by decide)), .inl rfl, _, _, rfl, h2.put _ hsb, fun p hp => ?_, .sh⟩
        rcases put_mem hp with e | ⟨q, hq, e⟩
        · rw [e]; exact c.1
        · rw [← e]; exact h3 q hq
      · have ev : (decide (s + W ≤ m) && !decide (s ∈ bl'.map (·.1))) = false := by
          by_cases c1 : s + W ≤ m
          · have c2 : s ∈ bl'.map (·.1) := Classical.byContradiction fun z => c ⟨c1, z⟩
            rw [decide_eq_true c2]; simp
          · rw [decide_eq_false c1]; rfl
        rw [ev] at ef
        exact ⟨_, .nx, _, rfl, if_skip ef, .inl rfl, bl', _, rfl, h2, h3, .sh⟩)
  refine ⟨bl', z10', forD_p (env' := [.sh (dI E), .sh (.int W), .sh (.int S), .sh (.int L), .st 9, .ow true (dF bl'), .ow false [], .sh (.int m), .sh (.int (i : Int)), .sh (.int e), z10']) rfl ?_ (by rw [dF_keys]; exact h1) rfl ?_, h2, h3, h4⟩
  · rcases pz with rfl | ⟨x, rfl⟩ <;> rfl
  · rcases h4 with rfl | ⟨x, rfl⟩ <;> rfl
include hS hW hE hL hl in
theorem ct_run : ∃ (ks : List Int) (c : Int → Int) (p : Int → D), countedF [dI E, .int W, .int S, .int L] = some (.tuple [.list (ks.map fun s => .tuple [.int s, .int (c s), p s]), .list []]) ∧ ks.Pairwise (· < ·) ∧ (∀ s ∈ ks, 0 ≤ s ∧ s < 31) ∧ ∀ s, p s = .none ∨ ∃ i, p s = .int i := by
  obtain ⟨env', h1, al, bl, mark, z8, z9, z10, rfl, ka, kb, hm, p8, p9, p10⟩ := for_inv (g := gTp 2 (gsCons (gNm 8) (gsCons (gNm 9) gsNil))) (body := sSeq (sFor (iLst (xCall windows_atF (xCons (xVar 9) (xCons (xVar 1) (xCons (xVar 2) xNil))))) (gNm 10) (sIf (xOr (xTest (xDIn 5 (xVar 10))) (xAnd (xTest (xUn fNotN (xVar 7))) (xTest (xOp fLe (xOp fAdd (xVar 10) (xVar 1)) (xVar 7))))) (sSeq (sDSetd 5 (xVar 10) (xVar 8))
      (sApp 6 (xTup (xCons (xVar 8) (xCons (xVar 10) xNil))))) (sDPut 4 (xVar 10) (xOp fAdd (xDGet2 4 (xVar 10) (xC (.int 0))) (xC (.int 1))))))
      (sSeq (sAsg (xOp fIx (xCall marksF (xCons (xAs (xSlice (xVar 0) oNo (oSome (xOp fAdd (xVar 8) (xC (.int 1)))))) (xCons (xVar 3) xNil))) (xUn fNeg (xC (.int 1)))) (gNm 7))
      (sForD 4 (gNm 10) (sIf (xAnd (xTest (xOp fLe (xOp fAdd (xVar 10) (xVar 1)) (xVar 7))) (xTest (xDNotIn 5 (xVar 10)))) (sDPut 5 (xVar 10) (xVar 8)) sPass))))
    (fun k env => ∃ al bl mark z8 z9 z10, env = [.sh (dI E), .sh (.int W), .sh (.int S), .sh (.int L), .ow true (dF al), .ow true (dF bl), .ow false [], .sh mark, z8, z9, z10] ∧ KeysOk 31 al ∧ KeysOk 31 bl ∧ Mk E W L k mark bl ∧ pl z8 ∧ pl z9 ∧ pl z10)
    (enumD 0 (E.map .int)) 0 [.sh (dI E), .sh (.int W), .sh (.int S), .sh (.int L), .ow true (dF []), .ow true (dF []), .ow false [], .sh .none, .no, .no, .no] ⟨[], [], _, _, _, _, rfl, .nil, .nil, .inl ⟨rfl, rfl, rfl⟩, .no, .no, .no⟩ (fun i it env hx ⟨al, bl, mark, z8, z9, z10, hz, ka, kb, hm, p8, p9, p10⟩ => by
      subst hz
      rw [Nat.zero_add] at hm ⊢
      obtain ⟨y, hy, rfl⟩ := enum_get _ _ _ _ hx
      rw [List.getElem?_map] at hy
      obtain ⟨e, he, rfl⟩ := Option.map_eq_some_iff.mp hy
      rw [Nat.zero_add]
      have hi : i < E.length := (List.getElem?_eq_some_iff.mp he).1
      have ee : E.getD i 0 = e := by rw [List.getD_eq_getElem?_getD, he]; rfl
      obtain ⟨al', za, h1, ka', pa⟩ := ct_one hS hW hE hL i hi al bl mark z10 ka hm p10
      rw [ee] at h1
      obtain ⟨ms, hms⟩ := marks_run (E.take (i + 1)) L (by rw [List.length_take]; omega) (by rw [List.length_take]; omega)
      have hb : ∀ p ∈ bl, p.1 + W ≤ mx (E.take (i + 1)) - L := fun p hp => by
        rcases hm with ⟨_, _, rfl⟩ | ⟨h0, _, hm⟩
        · simp at hp
        · have := hm p hp
          rw [take_snoc he, mx_snoc (take_ne h0 (by omega))]
          split <;> omega
      obtain ⟨bl', zb, h2, kb', hb', pb'⟩ := ct_two (S := S) (E := E) (L := L) i e (mx (E.take (i + 1)) - L) al' bl za ka' kb hb pa
      have e2 : (sAsg (xOp fIx (xCall marksF (xCons (xAs (xSlice (xVar 0) oNo (oSome (xOp fAdd (xVar 8) (xC (.int 1)))))) (xCons (xVar 3) xNil))) (xUn fNeg (xC (.int 1)))) (gNm 7)) [.sh (dI E), .sh (.int W), .sh (.int S), .sh (.int L), .ow true (dF al'), .ow true (dF bl), .ow false [], .sh mark, .sh (.int (i : Int)), .sh (.int e), za] =
          pure (.nx, [.sh (dI E), .sh (.int W), .sh (.int S), .sh (.int L), .ow true (dF al'), .ow true (dF bl), .ow false [], .sh (.int (mx (E.take (i + 1)) - L)), .sh (.int (i : Int)), .sh (.int e), za]) :=
        asg_p (op_p (call_p (cons_p (xAs_p (slice_p (i := i + 1) rfl (op_p rfl rfl rfl) hi)) (cons_p rfl nil_p)) hms) (un_p rfl rfl) (last_ix _)) rfl
      exact ⟨_, .nx, _, rfl, (seq_pure h1).trans ((seq_pure e2).trans h2), .inl rfl, al', bl', _, _, _, _, rfl, ka', kb', .inr ⟨by omega, rfl, hb'⟩, .sh, .sh, pb'⟩)
  refine ⟨sortI (al.map (·.1)), fun s => (look al s).getD 0, fun s => ((look bl s).map .int).getD .none, runDef_ex rfl ?_, sort_lt ka.1, fun s hs => ka.2 s ((sortP _).mem_iff.mp hs), fun s => ?_⟩
  · unfold countedB
    refine sp_p (env1 := [.sh (dI E), .sh (.int W), .sh (.int S), .sh (.int L), .ow true (dF []), .no, .no, .no, .no, .no, .no]) rfl ?_
    refine sp_p (env1 := [.sh (dI E), .sh (.int W), .sh (.int S), .sh (.int L), .ow true (dF []), .ow true (dF []), .no, .no, .no, .no, .no]) rfl ?_
    refine sp_p (env1 := [.sh (dI E), .sh (.int W), .sh (.int S), .sh (.int L), .ow true (dF []), .ow true (dF []), .ow false [], .no, .no, .no, .no]) rfl ?_
    refine sp_p (env1 := [.sh (dI E), .sh (.int W), .sh (.int S), .sh (.int L), .ow true (dF []), .ow true (dF []), .ow false [], .sh .none, .no, .no, .no]) (asg_p rfl rfl) ?_
    refine sp_p (for_p rfl h1) ?_
    have hlen : (sortI (al.map (·.1))).length ≤ 31 := by rw [(sortP _).length_eq, List.length_map]; exact ka.len
    refine sp_ret (x := .tuple [.list ((sortI (al.map (·.1))).map fun s => .tuple [.int s, .int ((look al s).getD 0), ((look bl s).map .int).getD .none]), .list []]) ?_
    have ec : xComp [10] (iLst (xAs (xSortD 4))) (gNm 10) tYesF (xTup (xCons (xVar 10) (xCons (xDIx 4 (xVar 10)) (xCons (xDGet1 5 (xVar 10)) xNil)))) [.sh (dI E), .sh (.int W), .sh (.int S), .sh (.int L), .ow true (dF al), .ow true (dF bl), .ow false [], .sh mark, z8, z9, z10] = pure ((sortI (al.map (·.1))).map fun s => .tuple [.int s, .int ((look al s).getD 0), ((look bl s).map .int).getD .none]) := by
      refine xComp_p (iLst_p (xAs_p (sortD_p rfl ka (by decide)))) (wipe_one rfl p10.ow) (by rw [List.length_map]; unfold line; omega) (compL_all .int _ _ fun s hs => ⟨_, rfl, ?_⟩)
      exact tup_p (cons_p rfl (cons_p (dix_p rfl rfl ((sortP _).mem_iff.mp hs)) (cons_p (dget1_p rfl rfl) nil_p))) (show 3 ≤ line by decide)
    exact tup_p (cons_p (xAs_p ec) (cons_p rfl nil_p)) (show 2 ≤ line by decide)
  · show (((look bl s).map PyData.int).getD .none = .none) ∨ ∃ i, ((look bl s).map PyData.int).getD .none = .int i
    cases look bl s with
    | none => exact .inl rfl
    | some v => exact .inr ⟨v, rfl⟩
end
end VE

namespace VE
open PySem
theorem fNe_ints (xs ys : List Int) : fNe (.list (xs.map .int)) (.list (ys.map .int)) = some (.bool (!decide (xs = ys))) := by
  have h := fEq_ints xs ys
  unfold fEq at h
  unfold fNe
  split at h
  · rename_i c
    rw [if_pos c]
    have h : PyData.eqv (.list (xs.map .int)) (.list (ys.map .int)) = decide (xs = ys) := by injection h with h; injection h
    rw [h]
  · cases h
theorem seq_rt {s r : SF} {env env1 : En} {x : D} (h : s env = pure (.rt x, env1)) : sSeq s r env = pure (.rt x, env1) := by
  unfold sSeq
  rw [h, pb]
theorem sp_rt {s r : SF} {env : En} {x : D} (h : ∃ e, s env = pure (.rt x, e)) : ∃ e, sSeq s r env = pure (.rt x, e) := by
  obtain ⟨e, h⟩ := h
  exact ⟨e, seq_rt h⟩
theorem chain3_p {f g h k : EF} {env : En} {a b c d : Int} (h1 : f env = pure (.int a)) (h2 : g env = pure (.int b)) (h3 : h env = pure (.int c)) (h4 : k env = pure (.int d)) (q1 : a ≤ b) (q2 : b < c) (q3 : c < d) : xChain3 fLe fLt fLt f g h k env = pure (.bool true) := by
  unfold xChain3
  rw [h1, pb, h2, pb]
  show ((lift (some (decide (a ≤ b)))) >>= _) = _
  rw [lift_some, pb, if_pos (decide_eq_true q1), h3, pb]
  show ((lift (some (decide (b < c)))) >>= _) = _
  rw [lift_some, pb, if_pos (decide_eq_true q2), h4, pb]
  show ((lift (some (decide (c < d)))) >>= _) = _
  rw [lift_some, pb, decide_eq_true q3]
theorem ife_p {t : TF} {f g : EF} {env : En} {x : D} (h : t env = pure true) (h2 : f env = pure x) : xIf t f g env = pure x := by
  unfold xIf
  rw [h, pb]
  exact h2
theorem mx_eq {xs : List Int} {b : Int} (h : b ∈ xs) (h2 : ∀ y ∈ xs, y ≤ b) : mx xs = b := Int.le_antisymm (h2 _ (mx_mem (List.ne_nil_of_mem h))) (mx_ge h)
theorem find_at {ks : List Int} (hn : ks.Nodup) {i : Nat} {s : Int} (h : ks[i]? = some s) : (ks.findIdx? fun z => decide (z = s)) = some i := by
  rw [List.findIdx?_eq_some_iff_getElem]
  obtain ⟨hi, e⟩ := List.getElem?_eq_some_iff.mp h
  refine ⟨hi, by simpa using e, fun j hj => ?_⟩
  have hne : ks[j] ≠ ks[i] := List.pairwise_iff_getElem.mp hn j i (by omega) hi hj
  rw [e] at hne
  simpa using hne
theorem meth_p {F : D → List D → Option D} {f : EF} {g : AF} {env : En} {a c : D} {xs : List D} (h1 : f env = pure a) (h2 : g env = pure xs) (h3 : F a xs = some c) : xMeth F f g env = pure c := by
  unfold xMeth
  rw [h1, pb, h2, pb, h3]
  rfl
theorem sorted_self {ks : List Int} (h : ks.Pairwise (· < ·)) : sortI ks = ks :=
  (sortP ks).eq_of_pairwise (fun a b _ _ h3 h4 => Int.le_antisymm h3 h4) (sortS ks) (h.imp Int.le_of_lt)
theorem one_self : ∀ {ks : List Int}, ks.Nodup → oneI ks = ks
  | [], _ => rfl
  | x :: r, h => by
    rw [List.nodup_cons] at h
    unfold oneI
    rw [decide_eq_false h.1]
    show x :: oneI r = _
    rw [one_self h.2]
theorem sortset_self {ks : List Int} (h : ks.Pairwise (· < ·)) (hl : ks.length < 64) : fSortSet (dI ks) = some (ks.map .int) := by
  show (asInts (ks.map .int)).bind _ = _
  rw [asInts_map, Option.bind_some, one_self (nodup_of h), sorted_self h, if_pos]
  rw [decide_eq_true hl, Bool.and_true]
  exact decide_eq_true (by omega)
def rw3 (c : Int → Int) (p : Int → D) (s : Int) : D := .tuple [.int s, .int (c s), p s]
section
variable {W S : Int} (hS : 1 ≤ S ∧ S ≤ 5) (hW : 1 ≤ W ∧ W ≤ 9) {E : List Int} (hE : ∀ x ∈ E, 0 ≤ x ∧ x < 31)
include hS hW hE in
theorem lf_run (b : Int) (x : D) (rows : D) (hb : Best E W S E.length b x) (hc : countedF [dI E, .int W, .int S, .int b] = some (.tuple [rows, .list []])) : least_lateness_faultF [dI E, .int W, .int S, x] = some .none := by
  refine runDef_ex rfl ?_
  unfold least_lateness_faultB
  have h0 := hb.1.nn
  have e1 : ∀ (y z : D), (xOr (xTest (xOp fLt (xVar 4) (xC (.int 0)))) (xTruth (xOp fIx (xCall countedF (xCons (xVar 0) (xCons (xVar 1) (xCons (xVar 2) (xCons (xVar 4) xNil))))) (xC (.int 1))))) [.sh (dI E), .sh (.int W), .sh (.int S), .sh x, .sh (.int b), .sh y, .sh z, .no, .no] = pure false := fun y z => by
    have e3 : (xTest (xOp fLt (xVar 4) (xC (.int 0)))) [.sh (dI E), .sh (.int W), .sh (.int S), .sh x, .sh (.int b), .sh y, .sh z, .no, .no] = pure (decide (b < 0)) := test_p (op_p rfl rfl rfl)
    rw [decide_eq_false (by omega)] at e3
    exact or_f e3 (truth_p (op_p (call_p (cons_p rfl (cons_p rfl (cons_p rfl (cons_p rfl nil_p)))) hc) rfl rfl) rfl)
  rcases hb.1 with ⟨rfl, rfl⟩ | ⟨hp, t, p, htp, hpl, rfl, et, hm⟩
  · refine sp_p (env1 := [.sh (dI E), .sh (.int W), .sh (.int S), .sh (.tuple [.int 0, .none, .none]), .sh (.int 0), .sh .none, .sh .none, .no, .no]) (asg_p rfl rfl) ?_
    refine sp_p (if_skip (e1 _ _)) ?_
    refine sp_rt ?_
    rw [if_then (or_t (test_p rfl))]
    exact sp_ret (ife_p (test_p (op_p rfl rfl (fEq_int 0 0))) rfl)
  · refine sp_p (env1 := [.sh (dI E), .sh (.int W), .sh (.int S), .sh (.tuple [.int b, .int (t : Int), .int (p : Int)]), .sh (.int b), .sh (.int (t : Int)), .sh (.int (p : Int)), .no, .no]) (asg_p rfl rfl) ?_
    refine sp_p (if_skip (e1 _ _)) ?_
    refine sp_p (if_skip (or_f (test_p rfl) (test_p rfl))) ?_
    refine sp_p (if_skip (not_p (b := true) (test_p (chain3_p (d := (E.length : Int)) rfl rfl rfl (call_p (cons_p rfl nil_p) (by show some (PyData.int ((E.map PyData.int).length : Int)) = _; rw [List.length_map])) (by omega) (by omega) (by omega))))) ?_
    have ep : E[p]? = some (E.getD p 0) := by rw [List.getD_eq_getElem?_getD, List.getElem?_eq_getElem hpl]; rfl
    have hEp : 0 ≤ E.getD p 0 ∧ E.getD p 0 < 31 := hE _ (List.mem_of_getElem? ep)
    have hne : needs E W S p ≠ [] := List.ne_nil_of_mem hm
    refine sp_p (env1 := [.sh (dI E), .sh (.int W), .sh (.int S), .sh (.tuple [.int b, .int (t : Int), .int (p : Int)]), .sh (.int b), .sh (.int (t : Int)), .sh (.int (p : Int)), .sh (dI (needs E W S p)), .no]) (asg_p (xAs_p (xComp_p (iLst_p (call_p (cons_p (op_p rfl rfl (dI_get ep)) (cons_p rfl (cons_p rfl nil_p))) (win_run hS hW _ hEp.1 hEp.2))) rfl ?_ ?_)) rfl) ?_
    · rw [List.length_map]
      have := win_len W S _ hEp.1 hEp.2
      unfold line; omega
    · unfold needs
      rw [List.map_map]
      refine compL_all .int _ _ fun s hs => ⟨_, rfl, ?_⟩
      refine op_p (op_p (op_p rfl rfl (dI_get et)) (op_p rfl rfl rfl) rfl) rfl ?_
      rw [fAdd_int]
      show some (PyData.int (mx (E.take p) - (s + W) + 1)) = some (PyData.int (mx (E.take p) - s - W + 1))
      rw [show mx (E.take p) - (s + W) + 1 = mx (E.take p) - s - W + 1 by omega]
    · have hmx : mx (needs E W S p) = b := mx_eq hm fun y hy => hb.2 p (by omega) hpl y hy
      refine sp_ret (ife_p (and_t (truth_p (b := true) rfl ?_) (test_p (op_p (call_p (cons_p rfl nil_p) (fMax_mx hne)) rfl ?_))) rfl)
      · show some (!((needs E W S p).map PyData.int).isEmpty) = some true
        cases q : needs E W S p with
        | nil => exact absurd q hne
        | cons _ _ => rfl
      · rw [hmx, fEq_int, decide_eq_true rfl]
theorem fNe_same {x : D} (h : x = .none ∨ ∃ i, x = .int i) : fNe x x = some (.bool false) := by
  rcases h with rfl | ⟨i, rfl⟩
  · rfl
  · rw [fNe_int, decide_eq_true rfl]; rfl
theorem cf_run (L : Int) (ks : List Int) (c : Int → Int) (p : Int → D) (hks : ks.Pairwise (· < ·)) (hkb : ∀ s ∈ ks, 0 ≤ s ∧ s < 31) (hp : ∀ s, p s = .none ∨ ∃ i, p s = .int i)
    (hc : countedF [dI E, .int W, .int S, .int L] = some (.tuple [.list (ks.map (rw3 c p)), .list []])) : counted_faultF [dI E, .int W, .int S, .int L, .tuple [.list (ks.map (rw3 c p)), .list []]] = some .none := by
  have hl : ks.length ≤ 31 := lt_len hks hkb
  have hll : ks.length ≤ line := by unfold line; omega
  have hnd := nodup_of hks
  have ec : ∀ (env : En) (i : Nat) (s7 : Slot), env[i]? = some (.sh (.list (ks.map (rw3 c p)))) → env[7]? = some .no → env.length = 15 → (xComp [7] (iLst (xVar i)) (gNm 7) tYesF (xOp fIx (xVar 7) (xC (.int 0)))) env = pure (ks.map .int) := fun env i s7 h1 h2 h3 => by
    refine xComp_p (iLst_p (xVar_at h1)) (wipe_one h2 (fun _ _ e => nomatch e)) (by rw [List.length_map]; exact hll) (compL_all (rw3 c p) _ _ fun s hs => ⟨_, rfl, op_p (xVar_at (x := rw3 c p s) ?_) rfl rfl⟩)
    rw [List.getElem?_set_self (by rw [List.length_set]; omega)]
  refine runDef_ex rfl ?_
  unfold counted_faultB
  refine sp_p (env1 := [.sh (dI E), .sh (.int W), .sh (.int S), .sh (.int L), .sh (.tuple [.list (ks.map (rw3 c p)), .list []]), .sh (.list (ks.map (rw3 c p))), .sh (.list []), .no, .no, .no, .no, .no, .no, .no, .no]) (asg_p rfl rfl) ?_
  refine sp_p (if_skip (test_p (op_p (xAs_p (ec _ 5 .no rfl rfl rfl)) (xAs_p (x := ks.map .int) ?_) ?_))) ?_
  · unfold xSortSet
    rw [xAs_p (ec _ 5 .no rfl rfl rfl), pb]
    show lift (fSortSet (dI ks)) = _
    rw [sortset_self hks (by omega)]
    rfl
  · rw [fNe_ints, decide_eq_true rfl]; rfl
  refine sp_p (env1 := [.sh (dI E), .sh (.int W), .sh (.int S), .sh (.int L), .sh (.tuple [.list (ks.map (rw3 c p)), .list []]), .sh (.list (ks.map (rw3 c p))), .sh (.list []), .no, .sh (.list (ks.map (rw3 c p))), .sh (.list []), .no, .no, .no, .no, .no]) (asg_p (call_p (cons_p rfl (cons_p rfl (cons_p rfl (cons_p rfl nil_p)))) hc) rfl) ?_
  refine sp_p (env1 := [.sh (dI E), .sh (.int W), .sh (.int S), .sh (.int L), .sh (.tuple [.list (ks.map (rw3 c p)), .list []]), .sh (.list (ks.map (rw3 c p))), .sh (.list []), .no, .sh (.list (ks.map (rw3 c p))), .sh (.list []), .sh (dI ks), .no, .no, .no, .no]) (asg_p (xAs_p (ec _ 8 .no rfl rfl rfl)) rfl) ?_
  obtain ⟨env', h1, z11, z12, z13, z14, rfl⟩ := for_inv (g := gTp 2 (gsCons (gNm 11) (gsCons (gTp 3 (gsCons (gNm 12) (gsCons (gNm 13) (gsCons (gNm 14) gsNil)))) gsNil))) (body := sSeq (sIf (xTest (xOp fNotIn (xVar 12) (xVar 10))) (sRet (xTup (xCons (xC (.str (Str.ofString "window"))) (xCons (xVar 11) xNil)))) sPass)
    (sSeq (sIf (xTest (xOp fNe (xVar 13) (xOp fIx (xOp fIx (xVar 8) (xMeth fIndex (xVar 10) (xCons (xVar 12) xNil))) (xC (.int 1))))) (sRet (xTup (xCons (xC (.str (Str.ofString "count"))) (xCons (xVar 11) xNil)))) sPass)
    (sIf (xTest (xOp fNe (xVar 14) (xOp fIx (xOp fIx (xVar 8) (xMeth fIndex (xVar 10) (xCons (xVar 12) xNil))) (xC (.int 2))))) (sRet (xTup (xCons (xC (.str (Str.ofString "closed"))) (xCons (xVar 11) xNil)))) sPass)))
    (fun _ env => ∃ z11 z12 z13 z14, env = [.sh (dI E), .sh (.int W), .sh (.int S), .sh (.int L), .sh (.tuple [.list (ks.map (rw3 c p)), .list []]), .sh (.list (ks.map (rw3 c p))), .sh (.list []), .no, .sh (.list (ks.map (rw3 c p))), .sh (.list []), .sh (dI ks), z11, z12, z13, z14])
    (enumD 0 (ks.map (rw3 c p))) 0 [.sh (dI E), .sh (.int W), .sh (.int S), .sh (.int L), .sh (.tuple [.list (ks.map (rw3 c p)), .list []]), .sh (.list (ks.map (rw3 c p))), .sh (.list []), .no, .sh (.list (ks.map (rw3 c p))), .sh (.list []), .sh (dI ks), .no, .no, .no, .no] ⟨_, _, _, _, rfl⟩ (fun i it env hx ⟨z11, z12, z13, z14, hz⟩ => by
      subst hz
      obtain ⟨y, hy, rfl⟩ := enum_get _ _ _ _ hx
      rw [List.getElem?_map] at hy
      obtain ⟨s, hs, rfl⟩ := Option.map_eq_some_iff.mp hy
      rw [Nat.zero_add]
      have hsm := List.mem_of_getElem? hs
      let env1 : En := [.sh (dI E), .sh (.int W), .sh (.int S), .sh (.int L), .sh (.tuple [.list (ks.map (rw3 c p)), .list []]), .sh (.list (ks.map (rw3 c p))), .sh (.list []), .no, .sh (.list (ks.map (rw3 c p))), .sh (.list []), .sh (dI ks), .sh (.int (i : Int)), .sh (.int s), .sh (.int (c s)), .sh (p s)]
      have e1 : (xTest (xOp fNotIn (xVar 12) (xVar 10))) env1 = pure false := by
        refine test_p (op_p rfl rfl ?_)
        show fNotIn (.int s) (.list (ks.map .int)) = _
        rw [fNotIn_int, decide_eq_true hsm]; rfl
      have e2 : (xOp fIx (xVar 8) (xMeth fIndex (xVar 10) (xCons (xVar 12) xNil))) env1 = pure (rw3 c p s) := by
        refine op_p (b := .int (i : Int)) rfl (meth_p rfl (cons_p rfl nil_p) ?_) ?_
        · show fIndex (.list (ks.map .int)) [.int s] = _
          rw [fIndex_ints, find_at hnd hs]; rfl
        · exact atI_nat (by rw [List.getElem?_map, hs]; rfl)
      have e3 : (xTest (xOp fNe (xVar 13) (xOp fIx (xOp fIx (xVar 8) (xMeth fIndex (xVar 10) (xCons (xVar 12) xNil))) (xC (.int 1))))) env1 = pure false := test_p (op_p rfl (op_p e2 rfl rfl) (fNe_same (.inr ⟨_, rfl⟩)))
      have e4 : (xTest (xOp fNe (xVar 14) (xOp fIx (xOp fIx (xVar 8) (xMeth fIndex (xVar 10) (xCons (xVar 12) xNil))) (xC (.int 2))))) env1 = pure false := test_p (op_p rfl (op_p e2 rfl rfl) (fNe_same (hp s)))
      exact ⟨env1, .nx, env1, rfl, (seq_pure (if_skip e1)).trans ((seq_pure (if_skip e3)).trans (if_skip e4)), .inl rfl, _, _, _, _, rfl⟩)
  refine sp_p (for_p rfl h1) ?_
  obtain ⟨env', h2, z12', rfl⟩ := for_inv (g := gNm 12) (body := sIf (xTest (xOp fNotIn (xVar 12) (xAs (xComp [7] (iLst (xVar 5)) (gNm 7) tYesF (xOp fIx (xVar 7) (xC (.int 0))))))) (sRet (xTup (xCons (xC (.str (Str.ofString "missing"))) (xCons (xVar 12) xNil)))) sPass)
    (fun _ env => ∃ z12, env = [.sh (dI E), .sh (.int W), .sh (.int S), .sh (.int L), .sh (.tuple [.list (ks.map (rw3 c p)), .list []]), .sh (.list (ks.map (rw3 c p))), .sh (.list []), .no, .sh (.list (ks.map (rw3 c p))), .sh (.list []), .sh (dI ks), z11, z12, z13, z14])
    (ks.map .int) 0 _ ⟨z12, rfl⟩ (fun i it env hx ⟨z12, hz⟩ => by
      subst hz
      rw [List.getElem?_map] at hx
      obtain ⟨s, hs, rfl⟩ := Option.map_eq_some_iff.mp hx
      refine ⟨_, .nx, _, rfl, if_skip (test_p (op_p rfl (xAs_p (ec _ 5 .no rfl rfl rfl)) ?_)), .inl rfl, _, rfl⟩
      rw [fNotIn_int, decide_eq_true (List.mem_of_getElem? hs)]; rfl)
  refine sp_p (for_p (iLst_p rfl) h2) ?_
  exact sp_ret (ife_p (test_p (op_p rfl rfl (fEq_ints [] []))) rfl)
end
end VE

namespace VE
open PySem
theorem cons_w {f : EF} {g : AF} {env : En} {w w1 w2 : W} {a : D} {xs : List D} (h1 : f env w = some (a, w1)) (h2 : g env w1 = some (xs, w2)) : xCons f g env w = some (a :: xs, w2) := by
  unfold xCons
  rw [bind_w h1, bind_w h2]
  rfl
theorem tup_w {f : AF} {env : En} {w w1 : W} {xs : List D} (h : f env w = some (xs, w1)) (hl : xs.length ≤ line) : xTup f env w = some (.tuple xs, w1) := by
  unfold xTup
  rw [bind_w h, if_pos hl]
  rfl
theorem iR1_w {f : AF} {env : En} {w w1 : W} {j : Int} (h : f env w = some ([.int j], w1)) (hs : small62 j = true) : iR1 f env w = some (rangeL 0 j, w1) := by
  unfold iR1
  rw [bind_w h]
  show (if small62 j = true then (pure (rangeL 0 j) : M (List D)) else fail) w1 = _
  rw [if_pos hs]
  rfl
theorem xComp_ww {vs : List Nat} {it : IF} {g : GF} {t : TF} {f : EF} {env e : En} {xs ys : List D} {w w1 w' : W} (h1 : it env w = some (xs, w1)) (h2 : wipeE env vs = some e) (h3 : xs.length ≤ line) (h4 : compL g t f e xs w1 = some (ys, w')) : xComp vs it g t f env w = some (ys, w') := by
  unfold xComp
  rw [bind_w h1, h2, lift_some, pb, if_pos h3]
  exact h4
theorem ext_p {i : Nat} {f : EF} {env : En} {xs ys : List D} (h : f env = pure (.list ys)) (h2 : env[i]? = some (.ow false xs)) (hl : xs.length + ys.length ≤ line) : sExt i f env = pure (.nx, env.set i (.ow false (xs ++ ys))) := by
  unfold sExt
  rw [h, pb, h2]
  show (if xs.length + ys.length ≤ line then _ else _) = _
  rw [if_pos hl]
theorem range1_get {n i : Nat} {x : D} (h : (rangeL 1 (n : Int))[i]? = some x) : x = .int ((i + 1 : Nat) : Int) ∧ i + 1 < n := by
  unfold rangeL at h
  rw [List.getElem?_map] at h
  obtain ⟨k, h1, h2⟩ := Option.map_eq_some_iff.mp h
  have hk : i < ((n : Int) - 1).toNat := by
    have := (List.getElem?_eq_some_iff.mp h1).1
    rwa [List.length_range] at this
  rw [List.getElem?_range hk] at h1
  cases h1
  refine ⟨?_, by omega⟩
  rw [← h2]
  show PyData.int (1 + (i : Int)) = _
  rw [show (1 + (i : Int)) = ((i + 1 : Nat) : Int) by omega]
theorem range1_len (n : Nat) : (rangeL 1 (n : Int)).length = n - 1 := by
  unfold rangeL
  rw [List.length_map, List.length_range]
  omega
theorem iR2_p {f : AF} {env : En} {i j : Int} (h : f env = pure [.int i, .int j]) (hs : small62 i = true) (hs2 : small62 j = true) : iR2 f env = pure (rangeL i j) := by
  unfold iR2
  rw [h, pb]
  show (if (small62 i && small62 j) = true then _ else _) = _
  rw [hs, hs2]
  rfl
section
variable {W S : Int} (hS : 1 ≤ S ∧ S ≤ 5) (hW : 1 ≤ W ∧ W ≤ 9)
include hS hW in
/-- a minute's windows -/
theorem minute_run (ns : List Int) (m : Int) (h0 : 0 ≤ m) (h1 : m < 31) : (xTest (xOp fNe (xCall windows_atF (xCons (xVar 6) (xCons (xVar 3) (xCons (xVar 2) xNil)))) (xAs (xComp [7] (iR1 (xCons (xOp fAdd (xVar 6) (xC (.int 1))) xNil)) (gNm 7) (xAnd (xTruth (xCall goesF (xCons (xVar 4) (xCons (xVar 7) xNil)))) (xTest (xOp fLt (xVar 6) (xOp fAdd (xVar 7) (xVar 3))))) (xVar 7)))))
    [.fz ns, .st 1, .sh (.int S), .sh (.int W), .sh (bD S), .no, .sh (.int m), .no, .no, .no, .no, .no] = pure false := by
  obtain ⟨_, _, hg⟩ := beg_run hS
  have ec : xComp [7] (iR1 (xCons (xOp fAdd (xVar 6) (xC (.int 1))) xNil)) (gNm 7) (xAnd (xTruth (xCall goesF (xCons (xVar 4) (xCons (xVar 7) xNil)))) (xTest (xOp fLt (xVar 6) (xOp fAdd (xVar 7) (xVar 3))))) (xVar 7)
      [.fz ns, .st 1, .sh (.int S), .sh (.int W), .sh (bD S), .no, .sh (.int m), .no, .no, .no, .no, .no] = pure ((winT W S m).map .int) := by
    refine xComp_p (xs := (ups (m + 1).toNat).map .int) ?_ rfl ?_ ?_
    · rw [← rangeL_ups, show (((m + 1).toNat : Nat) : Int) = m + 1 by omega]
      exact iR1_p (cons_p (op_p rfl rfl rfl) nil_p) (by
        have := small62_nat (n := (m + 1).toNat) (by omega)
        rwa [show (((m + 1).toNat : Nat) : Int) = m + 1 by omega] at this)
    · rw [List.length_map, ups_len]; unfold line; omega
    · unfold winT
      refine compL_map .int (fun s => decide (s % S = 0) && decide (m < s + W)) .int _ fun s hs => ⟨_, rfl, ?_, fun _ => rfl⟩
      have hb := mem_ups.mp hs
      exact and_p (truth_p (call_p (cons_p rfl (cons_p rfl nil_p)) (hg s hb.1 (by omega))) rfl) fun _ => test_p (op_p rfl (op_p rfl rfl rfl) rfl)
  refine test_p (op_p (call_p (cons_p rfl (cons_p rfl (cons_p rfl nil_p))) (win_run hS hW m h0 h1)) (xAs_p ec) ?_)
  show fNe (.list _) _ = _
  rw [fNe_ints, decide_eq_true rfl]; rfl
end
theorem law_run (ns : List Int) (_ : ns.length ≤ 63) : ∃ env' w', lawB 300 ((Slot.fz ns :: List.replicate 11 Slot.no).set 1 (.st 1)) ⟨0, stateCells ns⟩ = some ((.rt (.bool true), env'), w') := by
  show ∃ env' w', lawB 300 [.fz ns, .st 1, .no, .no, .no, .no, .no, .no, .no, .no, .no, .no] ⟨0, stateCells ns⟩ = some ((.rt (.bool true), env'), w')
  unfold lawB
  -- the draws of step and width
  obtain ⟨s0, w1, e1, a0, a1, hw1⟩ := take_ok (show (0:Int) < 5 by decide) (by decide) (w := ⟨0, stateCells ns⟩) (cells_pos ns)
  obtain ⟨v0, w2, e2, b0, b1, hw2⟩ := take_ok (show (0:Int) < 9 by decide) (by decide) hw1
  obtain ⟨S, hSe⟩ : ∃ S, S = 1 + s0 := ⟨_, rfl⟩
  obtain ⟨W, hWe⟩ : ∃ W, W = 1 + v0 := ⟨_, rfl⟩
  have hS : 1 ≤ S ∧ S ≤ 5 := by omega
  have hW : 1 ≤ W ∧ W ≤ 9 := by omega
  refine st_w (env1 := [.fz ns, .st 1, .sh (.int S), .sh (.int W), .no, .no, .no, .no, .no, .no, .no, .no]) (asg_w (tup_w (xs := [.int S, .int W]) (cons_w (xOp_w rfl (xTake_w rfl rfl e1) (by rw [hSe]; rfl)) (cons_w (xOp_w rfl (xTake_w rfl rfl e2) (by rw [hWe]; rfl)) rfl)) (show 2 ≤ line by decide)) rfl) ?_
  obtain ⟨hb, hn, hg⟩ := beg_run hS
  refine st_p (env1 := [.fz ns, .st 1, .sh (.int S), .sh (.int W), .sh (bD S), .no, .no, .no, .no, .no, .no, .no]) (asg_p (call_p (cons_p rfl (cons_p rfl nil_p)) hb) rfl) ?_
  -- the first begins
  have hin : inW S = true := inW_of (by omega) (by omega)
  refine st_p (if_skip (test_p (op_p (xAs_p (xComp_p (xs := (ups 9).map .int) (ys := ((ups 9).map fun k => S * k).map .int) rfl rfl (by decide) ?_)) (xAs_p (xComp_p (xs := (ups 9).map .int) (ys := ((ups 9).map fun k => S * k).map .int) rfl rfl (by decide) ?_)) ?_))) ?_
  · rw [List.map_map]
    exact compL_all .int _ _ fun k hk => ⟨_, rfl, call_p (cons_p rfl (cons_p rfl nil_p)) (hn k (mem_ups.mp hk).1 (mem_ups.mp hk).2)⟩
  · rw [List.map_map]
    exact compL_all .int _ _ fun k hk => ⟨_, rfl, op_p rfl rfl (fMul_l hin)⟩
  · rw [fNe_ints, decide_eq_true rfl]; rfl
  -- the minutes
  obtain ⟨_, e4, z6, rfl, p6⟩ := for_inv (g := gNm 6) (body := sIf (xTest (xOp fNe (xCall windows_atF (xCons (xVar 6) (xCons (xVar 3) (xCons (xVar 2) xNil)))) (xAs (xComp [7] (iR1 (xCons (xOp fAdd (xVar 6) (xC (.int 1))) xNil)) (gNm 7) (xAnd (xTruth (xCall goesF (xCons (xVar 4) (xCons (xVar 7) xNil)))) (xTest (xOp fLt (xVar 6) (xOp fAdd (xVar 7) (xVar 3))))) (xVar 7))))) (sRet (xC (.bool false))) sPass)
    (fun _ env => ∃ z6, env = [.fz ns, .st 1, .sh (.int S), .sh (.int W), .sh (bD S), .no, z6, .no, .no, .no, .no, .no] ∧ pl z6) (rangeL 0 (31 : Nat)) 0 [.fz ns, .st 1, .sh (.int S), .sh (.int W), .sh (bD S), .no, .no, .no, .no, .no, .no, .no] ⟨_, rfl, .no⟩ (fun i x env hx ⟨z6, hz, _⟩ => by
      obtain ⟨rfl, hi⟩ := rangeL0_get hx
      subst hz
      exact ⟨_, .nx, _, rfl, if_skip (minute_run hS hW ns i (by omega) (by omega)), .inl rfl, _, rfl, .sh⟩)
  refine st_p (for_p rfl e4) ?_
  -- the events
  obtain ⟨n0, w3, e5, c0, c1, hw3⟩ := take_ok (show (0:Int) < 7 by decide) (by decide) hw2
  obtain ⟨E, w4, e6, hEl, hEr, hw4⟩ := compL_w (g := gNm 5) (f := xTake 1 (xC (.int 31))) (env := [.fz ns, .st 1, .sh (.int S), .sh (.int W), .sh (bD S), .no, z6, .no, .no, .no, .no, .no]) PyData.int PyData.int (fun _ (y : Int) => 0 ≤ y ∧ y < 31) (fun w => 0 < w.cells.length) (ups n0.toNat) w3 hw3 (fun x _ w hw => by
    obtain ⟨r, w', h1, h2, h3, h4⟩ := take_ok (show (0:Int) < 31 by decide) (by decide) hw
    exact ⟨_, r, w', rfl, xTake_w rfl rfl h1, ⟨h2, h3⟩, h4⟩)
  rw [ups_len] at hEl
  have hE : ∀ x ∈ E, 0 ≤ x ∧ x < 31 := fun x hx => by
    obtain ⟨i, hi, rfl⟩ := List.getElem_of_mem hx
    exact hEr i ((ups n0.toNat)[i]'(by rw [ups_len]; omega)) _ (List.getElem?_eq_getElem _) (List.getElem?_eq_getElem hi)
  have hn6 : E.length ≤ 6 := by omega
  refine st_w (env1 := [.fz ns, .st 1, .sh (.int S), .sh (.int W), .sh (bD S), .no, z6, .no, .sh (dI E), .no, .no, .no]) (asg_w (xAs_w (xComp_ww (xs := (ups n0.toNat).map .int) ?_ rfl (by rw [List.length_map, ups_len]; unfold line; omega) e6)) rfl) ?_
  · rw [← rangeL_ups, show ((n0.toNat : Nat) : Int) = n0 by omega]
    exact iR1_w (cons_w (xTake_w rfl rfl e5) rfl) (by
      have := small62_nat (n := n0.toNat) (by omega)
      rwa [show ((n0.toNat : Nat) : Int) = n0 by omega] at this)
  -- the least lateness
  obtain ⟨b, x, hx, hB⟩ := ll_run hS hW hE
  refine st_p (env1 := [.fz ns, .st 1, .sh (.int S), .sh (.int W), .sh (bD S), .no, z6, .no, .sh (dI E), .sh x, .no, .no]) (asg_p (call_p (cons_p rfl (cons_p rfl (cons_p rfl nil_p))) hx) rfl) ?_
  obtain ⟨ks, c, p, hc, hk1, hk2, hp⟩ := ct_run hS hW hE (by omega) (L := b) hB.2
  have hix := hB.1.ix
  refine st_p (env1 := [.fz ns, .st 1, .sh (.int S), .sh (.int W), .sh (bD S), .no, z6, .no, .sh (dI E), .sh x, .sh (.tuple [.list (ks.map (rw3 c p)), .list []]), .no]) (asg_p (call_p (cons_p rfl (cons_p rfl (cons_p rfl (cons_p (op_p rfl rfl hix) nil_p)))) hc) rfl) ?_
  have hlf := lf_run hS hW hE b x _ hB hc
  have hcf := cf_run b ks c p hk1 hk2 hp hc
  refine st_p (if_skip (or_f (test_p (un_p (call_p (cons_p rfl (cons_p rfl (cons_p rfl (cons_p rfl nil_p)))) hlf) rfl)) (test_p (un_p (call_p (cons_p rfl (cons_p rfl (cons_p rfl (cons_p (op_p rfl rfl hix) (cons_p rfl nil_p))))) hcf) rfl)))) ?_
  -- all lateness
  refine st_p (env1 := [.fz ns, .st 1, .sh (.int S), .sh (.int W), .sh (bD S), .no, z6, .no, .sh (dI E), .sh x, .sh (.tuple [.list (ks.map (rw3 c p)), .list []]), .ow false ([0].map .int)]) rfl ?_
  obtain ⟨_, e7, z5, late, rfl, q1, q2, q3, q4⟩ := for_inv (g := gNm 5) (body := sExt 11 (xAs (xComp [7] (iLst (xCall windows_atF (xCons (xOp fIx (xVar 8) (xVar 5)) (xCons (xVar 3) (xCons (xVar 2) xNil))))) (gNm 7) tYesF (xOp fAdd (xOp fSub (xOp fSub (xCall fMax (xCons (xAs (xSlice (xVar 8) oNo (oSome (xVar 5)))) xNil)) (xVar 7)) (xVar 3)) (xC (.int 1))))))
    (fun k env => ∃ z5 late, env = [.fz ns, .st 1, .sh (.int S), .sh (.int W), .sh (bD S), z5, z6, .no, .sh (dI E), .sh x, .sh (.tuple [.list (ks.map (rw3 c p)), .list []]), .ow false (late.map .int)] ∧ (0 : Int) ∈ late ∧ (∀ y ∈ late, y = 0 ∨ ∃ j, 1 ≤ j ∧ j < k + 1 ∧ y ∈ needs E W S j) ∧ (∀ j, 1 ≤ j → j < k + 1 → ∀ y ∈ needs E W S j, y ∈ late) ∧ late.length ≤ 1 + 31 * k)
    (rangeL 1 (E.length : Int)) 0 [.fz ns, .st 1, .sh (.int S), .sh (.int W), .sh (bD S), .no, z6, .no, .sh (dI E), .sh x, .sh (.tuple [.list (ks.map (rw3 c p)), .list []]), .ow false ([0].map .int)] ⟨_, [0], rfl, by simp, fun y hy => .inl (by simpa using hy), fun j h1 h2 => by omega, by simp⟩ (fun i it env hx2 ⟨z5, late, hz, q1, q2, q3, q4⟩ => by
      obtain ⟨rfl, hi⟩ := range1_get hx2
      subst hz
      rw [Nat.zero_add] at q2 q3 q4 ⊢
      have ei : E[i + 1]? = some (E.getD (i + 1) 0) := by rw [List.getD_eq_getElem?_getD, List.getElem?_eq_getElem hi]; rfl
      have hEi : 0 ≤ E.getD (i + 1) 0 ∧ E.getD (i + 1) 0 < 31 := hE _ (List.mem_of_getElem? ei)
      have hnl : (needs E W S (i + 1)).length ≤ 31 := by unfold needs; rw [List.length_map]; exact win_len W S _ hEi.1 hEi.2
      refine ⟨_, .nx, _, rfl, ext_p (xs := late.map .int) (ys := (needs E W S (i + 1)).map .int) (xAs_p (xComp_p (iLst_p (call_p (cons_p (op_p rfl rfl (dI_get ei)) (cons_p rfl (cons_p rfl nil_p))) (win_run hS hW _ hEi.1 hEi.2))) rfl ?_ ?_)) rfl ?_, .inl rfl, _, late ++ needs E W S (i + 1), by rw [List.map_append]; rfl, List.mem_append.mpr (.inl q1), fun y hy => ?_, fun j h1 h2 y hy => ?_, ?_⟩
      · rw [List.length_map]
        have := win_len W S _ hEi.1 hEi.2
        unfold line; omega
      · unfold needs
        rw [List.map_map]
        exact compL_all .int _ _ fun s hs => ⟨_, rfl, op_p (op_p (op_p (call_p (cons_p (xAs_p (slice_p rfl rfl (by omega))) nil_p) (fMax_mx (take_ne (by omega) (by omega)))) rfl rfl) rfl rfl) rfl rfl⟩
      · rw [List.length_map, List.length_map]; unfold line; omega
      · rcases List.mem_append.mp hy with hy | hy
        · rcases q2 y hy with h | ⟨j, h1, h2, h3⟩
          · exact .inl h
          · exact .inr ⟨j, h1, by omega, h3⟩
        · exact .inr ⟨i + 1, by omega, by omega, hy⟩
      · by_cases e : j = i + 1
        · subst e; exact List.mem_append.mpr (.inr hy)
        · exact List.mem_append.mpr (.inl (q3 j h1 (by omega) y hy))
      · rw [List.length_append]; omega)
  refine st_p (for_p (iR2_p (cons_p rfl (cons_p (call_p (cons_p rfl nil_p) (by show some (PyData.int ((E.map PyData.int).length : Int)) = _; rw [List.length_map])) nil_p)) (by decide) (small62_nat (by omega))) e7) ?_
  rw [range1_len, Nat.zero_add] at q2 q3
  have h0 := hB.1.nn
  have hmx : mx late = b := by
    refine mx_eq ?_ fun y hy => ?_
    · rcases hB.1 with ⟨rfl, _⟩ | ⟨hp, t, pp, htp, hpl, _, _, hm⟩
      · exact q1
      · exact q3 pp (by omega) (by omega) b hm
    · rcases q2 y hy with rfl | ⟨j, h1, h2, h3⟩
      · exact h0
      · exact hB.2 j h1 (by omega) y h3
  refine st_ret ?_
  have f1 : fEq (.int b) (.int b) = some (.bool true) := by rw [fEq_int, decide_eq_true rfl]
  have g1 : (xOp fEq (xOp fIx (xVar 9) (xC (.int 0))) (xCall fMax (xCons (xVarO 11) xNil))) [.fz ns, .st 1, .sh (.int S), .sh (.int W), .sh (bD S), z5, z6, .no, .sh (dI E), .sh x, .sh (.tuple [.list (ks.map (rw3 c p)), .list []]), .ow false (late.map .int)] = pure (.bool true) :=
    op_p (op_p rfl rfl hix) (call_p (cons_p rfl nil_p) (fMax_mx (List.ne_nil_of_mem q1))) (by rw [hmx]; exact f1)
  have g2 : (xOp fEq (xOp fEq (xOp fIx (xVar 9) (xC (.int 0))) (xC (.int 0))) (xUn fIsN (xOp fIx (xVar 9) (xC (.int 1))))) [.fz ns, .st 1, .sh (.int S), .sh (.int W), .sh (bD S), z5, z6, .no, .sh (dI E), .sh x, .sh (.tuple [.list (ks.map (rw3 c p)), .list []]), .ow false (late.map .int)] = pure (.bool true) := by
    rcases hB.1 with ⟨rfl, rfl⟩ | ⟨hp, t, pp, htp, hpl, rfl, _, hm⟩
    · exact op_p (op_p (op_p rfl rfl rfl) rfl (fEq_int 0 0)) (un_p (op_p rfl rfl rfl) rfl) rfl
    · refine op_p (op_p (op_p rfl rfl rfl) rfl (fEq_int b 0)) (un_p (op_p rfl rfl rfl) rfl) ?_
      rw [decide_eq_false (by omega)]
      rfl
  unfold xAndV
  rw [g1, pb]
  exact g2
end VE

namespace VE
open PySem PySem.Spec L2
open PyProof.Rows hiding St
def topS (i : Nat) : Stmt := PySem.Challenge.pw_jobsagain_k27_windows_as_rhythms.main.body.getD i (.Pass ⟨0, 0, 0, 0⟩)
section
variable {P : Program} {w : World} {K : PySem.W.Frag} {mg : Str → Option Value} {base : Heap}
abbrev s_windows_at : Stmt := topS 1
theorem sc_windows_at : FnScope ["minute", "width", "step", "low", "turn"] ["minute", "width", "step"] (defScope s_windows_at) := ⟨rfl, rfl, rfl, by decide +kernel, rfl, by decide +kernel, by decide +kernel⟩
theorem fn_windows_at {f : Addr} {fd : FuncData} (F : Fun K "windows_at" "windows_at" s_windows_at f fd) (m_max : mg "max" = none) (m_range : mg "range" = none) : FnOk P w K mg base CX0 1 f fd ["minute", "width", "step"] (vsp K (windows_atF)) :=
  fn_def (k := 0) (fb := windows_atB) F sc_windows_at rfl rfl fun cdv A outer s H E hr => ⟨_, by
    unfold windows_atB
    exact (pssv_cons (psv_set sc_windows_at.nd (pv_max (KK := K) rfl rfl m_max (pav_cons pv_int (pav_cons (pv_op (op_add.or op_cat) ov_add (pv_op op_fdiv ov_div (pv_op op_sub ov_sub (pv_var rfl rfl rfl) (pv_var rfl rfl rfl)) (pv_var rfl rfl rfl)) pv_int) pav_nil rfl) rfl) rfl rfl rfl) rfl rfl rfl rfl)
      (pssv_one (psv_ret (pv_as (plv_comp rfl sc_windows_at.nd (piv_range2 m_range (pav_cons (pv_var rfl rfl rfl) (pav_cons (pv_op (op_add.or op_cat) ov_add (pv_op op_fdiv ov_div (pv_var rfl rfl rfl) (pv_var rfl rfl rfl)) pv_int) pav_nil rfl) rfl) rfl rfl rfl) (blkOk_eq (own := [("turn", 4)]) (N := ["minute", "width", "step", "low", "turn"]) (sc := defScope s_windows_at) rfl rfl (by decide +kernel)) rfl (fun _ _ _ _ _ => (pgv_name sc_windows_at.nd rfl rfl rfl)) (fun _ _ _ _ _ => ptsv_nil) (fun _ _ _ _ _ => (pv_op op_mul ov_mul (pv_var rfl rfl rfl) (pv_var rfl rfl rfl))) (fun _ => rfl))))))⟩
abbrev s_marks : Stmt := topS 2
theorem sc_marks : FnScope ["events", "lateness", "found", "top", "minute"] ["events", "lateness"] (defScope s_marks) := ⟨rfl, rfl, rfl, by decide +kernel, rfl, by decide +kernel, by decide +kernel⟩
theorem fn_marks {f : Addr} {fd : FuncData} (F : Fun K "marks" "marks" s_marks f fd) : FnOk P w K mg base CX0 1 f fd ["events", "lateness"] (vsp K (marksF)) :=
  fn_def (k := 0) (fb := marksB) F sc_marks rfl rfl fun cdv A outer s H E hr => ⟨_, by
    unfold marksB
    exact (pssv_cons (psv_own sc_marks.nd (plv_lst pav_nil) rfl rfl rfl rfl)
      (pssv_cons (psv_set sc_marks.nd pv_non rfl rfl rfl rfl)
      (pssv_cons (psv_for rfl (piv_list (KK := K) rfl (pv_var rfl rfl rfl)) (pgv_name sc_marks.nd rfl rfl rfl) (pssv_cons (psv_set sc_marks.nd (pv_if (PWV.pt (pwv_or (pt_isN (pv_var rfl rfl rfl)) (pwv_or1 (pt_cmpV op_gt ov_gt (pv_var rfl rfl rfl) (pv_var rfl rfl rfl) (nomark _))))) (pv_var rfl rfl rfl) (pv_var rfl rfl rfl)) rfl rfl rfl rfl)
      (pssv_one (psv_app (KK := K) rfl (pv_op op_sub ov_sub (pv_var rfl rfl rfl) (pv_var rfl rfl rfl)) rfl rfl rfl rfl rfl rfl rfl rfl rfl))) PassesOwn.never (fun _ => rfl))
      (pssv_one (psv_ret (pv_varO rfl rfl rfl))))))⟩
abbrev s_counted : Stmt := topS 3
theorem sc_counted : FnScope ["events", "width", "step", "lateness", "counts", "closed", "lost", "mark", "place", "minute", "start"] ["events", "width", "step", "lateness"] (defScope s_counted) := ⟨rfl, rfl, rfl, by decide +kernel, rfl, by decide +kernel, by decide +kernel⟩
theorem fn_counted {f : Addr} {fd : FuncData} (F : Fun K "counted" "counted" s_counted f fd) (m_enumerate : mg "enumerate" = none) (m_sorted : mg "sorted" = none) (c_marks : Cal P w K mg base "marks" 1 (marksF)) (c_windows_at : Cal P w K mg base "windows_at" 1 (windows_atF)) : FnOk P w K mg base CX0 2 f fd ["events", "width", "step", "lateness"] (vsp K (countedF)) :=
  fn_def (k := 1) (fb := countedB) F sc_counted rfl rfl fun cdv A outer s H E hr => ⟨_, by
    unfold countedB
    exact (pssv_cons (psv_dnew sc_counted.nd rfl rfl rfl rfl)
      (pssv_cons (psv_dnew sc_counted.nd rfl rfl rfl rfl)
      (pssv_cons (psv_own sc_counted.nd (plv_lst pav_nil) rfl rfl rfl rfl)
      (pssv_cons (psv_set sc_counted.nd pv_non rfl rfl rfl rfl)
      (pssv_cons (psv_for rfl (piv_enum (KK := K) rfl m_enumerate (pav_cons (pv_var rfl rfl rfl) pav_nil rfl) rfl rfl) (pgv_tup (KK := K) rfl rfl (pgsv_cons (pgv_name sc_counted.nd rfl rfl rfl) (pgsv_cons (pgv_name sc_counted.nd rfl rfl rfl) pgsv_nil rfl) rfl) rfl rfl) (pssv_cons (psv_for rfl (piv_list (KK := K) rfl (pv_call (KK := K) rfl c_windows_at (hr.mono (by omega)) (pav_cons (pv_var rfl rfl rfl) (pav_cons (pv_var rfl rfl rfl) (pav_cons (pv_var rfl rfl rfl) pav_nil rfl) rfl) rfl) rfl rfl rfl rfl)) (pgv_name sc_counted.nd rfl rfl rfl) (pssv_one (psv_if (PWV.pt (pwv_or (pt_din hr (pv_var rfl rfl rfl) rfl rfl rfl rfl) (pwv_or1 (PWV.pt (pwv_and (pt_notN (pv_var rfl rfl rfl)) (pwv_and1 (pt_cmpV op_le ov_le (pv_op (op_add.or op_cat) ov_add (pv_var rfl rfl rfl) (pv_var rfl rfl rfl)) (pv_var rfl rfl rfl) (nomark _)))))))) (pssv_cons (psv_dsetd (pv_var rfl rfl rfl) (pv_var rfl rfl rfl) rfl rfl rfl ⟨rfl, rfl, rfl, rfl⟩ rfl)
      (pssv_one (psv_app (KK := K) rfl (pv_tup (pav_cons (pv_var rfl rfl rfl) (pav_cons (pv_var rfl rfl rfl) pav_nil rfl) rfl)) rfl rfl rfl rfl rfl rfl rfl rfl rfl))) (pssv_one (psv_dput hr (pv_var rfl rfl rfl) (pv_op (op_add.or op_cat) ov_add (pv_dget2 hr (pv_var rfl rfl rfl) pv_int rfl rfl rfl ⟨rfl, rfl, rfl, rfl⟩) pv_int) rfl rfl rfl rfl)))) PassesOwn.never (fun _ => rfl))
      (pssv_cons (psv_set sc_counted.nd (pv_ix (KK := K) rfl (pv_call (KK := K) rfl c_marks (hr.mono (by omega)) (pav_cons (pv_as (plv_slice (KK := K) rfl (pv_var rfl rfl rfl) pov_none (pov_some (pv_op (op_add.or op_cat) ov_add (pv_var rfl rfl rfl) pv_int)))) (pav_cons (pv_var rfl rfl rfl) pav_nil rfl) rfl) rfl rfl rfl rfl) (pv_neg pv_int) (fun _ _ => rfl)) rfl rfl rfl rfl)
      (pssv_one (psv_forD rfl rfl rfl rfl (pgv_name sc_counted.nd rfl rfl rfl) (pssv_one (psv_if (PWV.pt (pwv_and (pt_cmpV op_le ov_le (pv_op (op_add.or op_cat) ov_add (pv_var rfl rfl rfl) (pv_var rfl rfl rfl)) (pv_var rfl rfl rfl) (nomark _)) (pwv_and1 (pt_dnotin hr (pv_var rfl rfl rfl) rfl rfl rfl rfl)))) (pssv_one (psv_dput hr (pv_var rfl rfl rfl) (pv_var rfl rfl rfl) rfl rfl rfl rfl)) pssv_nil)) PassesOwn.never (fun _ => rfl))))) PassesOwn.never (fun _ => rfl))
      (pssv_one (psv_ret (pv_tup (pav_cons (pv_as (plv_comp rfl sc_counted.nd (piv_list (KK := K) rfl (pv_as (plv_sortD rfl m_sorted rfl rfl rfl rfl rfl rfl))) (blkOk_eq (own := [("start", 10)]) (N := ["events", "width", "step", "lateness", "counts", "closed", "lost", "mark", "place", "minute", "start"]) (sc := defScope s_counted) rfl rfl (by decide +kernel)) rfl (fun _ _ _ _ _ => (pgv_name sc_counted.nd rfl rfl rfl)) (fun _ _ _ _ _ => ptsv_nil) (fun _ _ _ _ _ => (pv_tup (pav_cons (pv_var rfl rfl rfl) (pav_cons (pv_dix hr (pv_var rfl rfl rfl) rfl rfl rfl (fun _ _ => rfl)) (pav_cons (pv_dget1 hr (pv_var rfl rfl rfl) rfl rfl rfl ⟨rfl, rfl, rfl, rfl⟩) pav_nil rfl) rfl) rfl))) (fun _ => rfl))) (pav_cons (pv_varO rfl rfl rfl) pav_nil rfl) rfl)))))))))⟩
abbrev s_least_lateness : Stmt := topS 4
theorem sc_least_lateness : FnScope ["events", "width", "step", "best", "top", "place", "minute", "start", "need"] ["events", "width", "step"] (defScope s_least_lateness) := ⟨rfl, rfl, rfl, by decide +kernel, rfl, by decide +kernel, by decide +kernel⟩
theorem fn_least_lateness {f : Addr} {fd : FuncData} (F : Fun K "least_lateness" "least_lateness" s_least_lateness f fd) (m_enumerate : mg "enumerate" = none) (c_windows_at : Cal P w K mg base "windows_at" 1 (windows_atF)) : FnOk P w K mg base CX0 2 f fd ["events", "width", "step"] (vsp K (least_latenessF)) :=
  fn_def (k := 1) (fb := least_latenessB) F sc_least_lateness rfl rfl fun cdv A outer s H E hr => ⟨_, by
    unfold least_latenessB
    exact (pssv_cons (psv_set sc_least_lateness.nd (pv_tup (pav_cons pv_int (pav_cons pv_non (pav_cons pv_non pav_nil rfl) rfl) rfl)) rfl rfl rfl rfl)
      (pssv_cons (psv_set sc_least_lateness.nd pv_non rfl rfl rfl rfl)
      (pssv_cons (psv_for rfl (piv_enum (KK := K) rfl m_enumerate (pav_cons (pv_var rfl rfl rfl) pav_nil rfl) rfl rfl) (pgv_tup (KK := K) rfl rfl (pgsv_cons (pgv_name sc_least_lateness.nd rfl rfl rfl) (pgsv_cons (pgv_name sc_least_lateness.nd rfl rfl rfl) pgsv_nil rfl) rfl) rfl rfl) (pssv_cons (psv_if (pt_notN (pv_var rfl rfl rfl)) (pssv_one (psv_for rfl (piv_list (KK := K) rfl (pv_call (KK := K) rfl c_windows_at (hr.mono (by omega)) (pav_cons (pv_var rfl rfl rfl) (pav_cons (pv_var rfl rfl rfl) (pav_cons (pv_var rfl rfl rfl) pav_nil rfl) rfl) rfl) rfl rfl rfl rfl)) (pgv_name sc_least_lateness.nd rfl rfl rfl) (pssv_cons (psv_set sc_least_lateness.nd (pv_op (op_add.or op_cat) ov_add (pv_op op_sub ov_sub (pv_ix (KK := K) rfl (pv_var rfl rfl rfl) (pv_var rfl rfl rfl) (fun _ _ => rfl)) (pv_op (op_add.or op_cat) ov_add (pv_var rfl rfl rfl) (pv_var rfl rfl rfl))) pv_int) rfl rfl rfl rfl)
      (pssv_one (psv_if (pt_cmpV op_gt ov_gt (pv_var rfl rfl rfl) (pv_ix (KK := K) rfl (pv_var rfl rfl rfl) pv_int (fun _ _ => rfl)) (nomark _)) (pssv_one (psv_set sc_least_lateness.nd (pv_tup (pav_cons (pv_var rfl rfl rfl) (pav_cons (pv_var rfl rfl rfl) (pav_cons (pv_var rfl rfl rfl) pav_nil rfl) rfl) rfl)) rfl rfl rfl rfl)) pssv_nil))) PassesOwn.never (fun _ => rfl))) pssv_nil)
      (pssv_one (psv_if (PWV.pt (pwv_or (pt_isN (pv_var rfl rfl rfl)) (pwv_or1 (pt_cmpV op_gt ov_gt (pv_var rfl rfl rfl) (pv_ix (KK := K) rfl (pv_var rfl rfl rfl) (pv_var rfl rfl rfl) (fun _ _ => rfl)) (nomark _))))) (pssv_one (psv_set sc_least_lateness.nd (pv_var rfl rfl rfl) rfl rfl rfl rfl)) pssv_nil))) PassesOwn.never (fun _ => rfl))
      (pssv_one (psv_ret (pv_var rfl rfl rfl))))))⟩
abbrev s_least_lateness_fault : Stmt := topS 5
theorem sc_least_lateness_fault : FnScope ["events", "width", "step", "told", "lateness", "early", "late", "needs", "start"] ["events", "width", "step", "told"] (defScope s_least_lateness_fault) := ⟨rfl, rfl, rfl, by decide +kernel, rfl, by decide +kernel, by decide +kernel⟩
theorem fn_least_lateness_fault {f : Addr} {fd : FuncData} (F : Fun K "least_lateness_fault" "least_lateness_fault" s_least_lateness_fault f fd) (m_len : mg "len" = none) (m_max : mg "max" = none) (c_counted : Cal P w K mg base "counted" 2 (countedF)) (c_windows_at : Cal P w K mg base "windows_at" 1 (windows_atF)) : FnOk P w K mg base CX0 3 f fd ["events", "width", "step", "told"] (vsp K (least_lateness_faultF)) :=
  fn_def (k := 2) (fb := least_lateness_faultB) F sc_least_lateness_fault rfl rfl fun cdv A outer s H E hr => ⟨_, by
    unfold least_lateness_faultB
    exact (pssv_cons (psv_asg (pv_var rfl rfl rfl) (pgv_tup (KK := K) rfl rfl (pgsv_cons (pgv_name sc_least_lateness_fault.nd rfl rfl rfl) (pgsv_cons (pgv_name sc_least_lateness_fault.nd rfl rfl rfl) (pgsv_cons (pgv_name sc_least_lateness_fault.nd rfl rfl rfl) pgsv_nil rfl) rfl) rfl) rfl rfl) rfl rfl rfl)
      (pssv_cons (psv_if (PWV.pt (pwv_or (pt_cmpV op_lt ov_lt (pv_var rfl rfl rfl) pv_int (nomark _)) (pwv_or1 (pt_tru (KK := K) rfl (pv_ix (KK := K) rfl (pv_call (KK := K) rfl c_counted (hr.mono (by omega)) (pav_cons (pv_var rfl rfl rfl) (pav_cons (pv_var rfl rfl rfl) (pav_cons (pv_var rfl rfl rfl) (pav_cons (pv_var rfl rfl rfl) pav_nil rfl) rfl) rfl) rfl) rfl rfl rfl rfl) pv_int (fun _ _ => rfl)) (fun _ => rfl))))) (pssv_one (psv_ret (pv_tup (pav_cons pv_str pav_nil rfl)))) pssv_nil)
      (pssv_cons (psv_if (PWV.pt (pwv_or (pt_isN (pv_var rfl rfl rfl)) (pwv_or1 (pt_isN (pv_var rfl rfl rfl))))) (pssv_one (psv_ret (pv_if (pt_cmpV (eqD' (KK := K) rfl hr.units) ov_eq (pv_var rfl rfl rfl) pv_int (nomark _)) pv_non (pv_tup (pav_cons pv_str pav_nil rfl))))) pssv_nil)
      (pssv_cons (psv_if (ptv_not (pt_chain3V op_le ov_le op_lt ov_lt op_lt ov_lt pv_int (pv_var rfl rfl rfl) (pv_var rfl rfl rfl) (pv_len (KK := K) rfl m_len (pav_cons (pv_var rfl rfl rfl) pav_nil rfl) rfl rfl rfl) (by with_unfolding_all rfl))) (pssv_one (psv_ret (pv_tup (pav_cons pv_str pav_nil rfl)))) pssv_nil)
      (pssv_cons (psv_setLc rfl sc_least_lateness_fault.nd (sw_true rfl rfl rfl (by decide +kernel)) (piv_list (KK := K) rfl (pv_call (KK := K) rfl c_windows_at (hr.mono (by omega)) (pav_cons (pv_ix (KK := K) rfl (pv_var rfl rfl rfl) (pv_var rfl rfl rfl) (fun _ _ => rfl)) (pav_cons (pv_var rfl rfl rfl) (pav_cons (pv_var rfl rfl rfl) pav_nil rfl) rfl) rfl) rfl rfl rfl rfl)) (blkOk_eq (own := [("start", 8)]) (N := ["events", "width", "step", "told", "lateness", "early", "late", "needs", "start"]) (sc := defScope s_least_lateness_fault) rfl rfl (by decide +kernel)) rfl (fun _ _ _ _ _ => (pgv_name sc_least_lateness_fault.nd rfl rfl rfl)) (fun _ _ _ _ _ => ptsv_nil) (fun _ _ _ _ _ => (pv_op (op_add.or op_cat) ov_add (pv_op op_sub ov_sub (pv_ix (KK := K) rfl (pv_var rfl rfl rfl) (pv_var rfl rfl rfl) (fun _ _ => rfl)) (pv_op (op_add.or op_cat) ov_add (pv_var rfl rfl rfl) (pv_var rfl rfl rfl))) pv_int)) (fun _ => rfl) rfl rfl)
      (pssv_one (psv_ret (pv_if (PWV.pt (pwv_and (pt_tru (KK := K) rfl (pv_var rfl rfl rfl) (fun _ => rfl)) (pwv_and1 (pt_cmpV (eqD' (KK := K) rfl hr.units) ov_eq (pv_max (KK := K) rfl rfl m_max (pav_cons (pv_var rfl rfl rfl) pav_nil rfl) rfl rfl rfl) (pv_var rfl rfl rfl) (nomark _))))) pv_non (pv_tup (pav_cons pv_str pav_nil rfl))))))))))⟩
abbrev s_counted_fault : Stmt := topS 6
theorem sc_counted_fault : FnScope ["events", "width", "step", "lateness", "told", "rows", "lost", "row", "due", "away", "starts", "at", "start", "many", "place"] ["events", "width", "step", "lateness", "told"] (defScope s_counted_fault) := ⟨rfl, rfl, rfl, by decide +kernel, rfl, by decide +kernel, by decide +kernel⟩
theorem fn_counted_fault {f : Addr} {fd : FuncData} (F : Fun K "counted_fault" "counted_fault" s_counted_fault f fd) (m_enumerate : mg "enumerate" = none) (m_set : mg "set" = none) (m_sorted : mg "sorted" = none) (c_counted : Cal P w K mg base "counted" 2 (countedF)) : FnOk P w K mg base CX0 3 f fd ["events", "width", "step", "lateness", "told"] (vsp K (counted_faultF)) :=
  fn_def (k := 2) (fb := counted_faultB) F sc_counted_fault rfl rfl fun cdv A outer s H E hr => ⟨_, by
    unfold counted_faultB
    exact (pssv_cons (psv_asg (pv_var rfl rfl rfl) (pgv_tup (KK := K) rfl rfl (pgsv_cons (pgv_name sc_counted_fault.nd rfl rfl rfl) (pgsv_cons (pgv_name sc_counted_fault.nd rfl rfl rfl) pgsv_nil rfl) rfl) rfl rfl) rfl rfl rfl)
      (pssv_cons (psv_if (pt_cmpV (neD' (KK := K) rfl hr.units) ov_ne (pv_as (plv_comp rfl sc_counted_fault.nd (piv_list (KK := K) rfl (pv_var rfl rfl rfl)) (blkOk_eq (own := [("row", 7)]) (N := ["events", "width", "step", "lateness", "told", "rows", "lost", "row", "due", "away", "starts", "at", "start", "many", "place"]) (sc := defScope s_counted_fault) rfl rfl (by decide +kernel)) rfl (fun _ _ _ _ _ => (pgv_name sc_counted_fault.nd rfl rfl rfl)) (fun _ _ _ _ _ => ptsv_nil) (fun _ _ _ _ _ => (pv_ix (KK := K) rfl (pv_var rfl rfl rfl) pv_int (fun _ _ => rfl))) (fun _ => rfl))) (pv_as (plv_sortSet (KK := K) (w := w) rfl rfl m_sorted m_set (pv_as (plv_comp rfl sc_counted_fault.nd (piv_list (KK := K) rfl (pv_var rfl rfl rfl)) (blkOk_eq (own := [("row", 7)]) (N := ["events", "width", "step", "lateness", "told", "rows", "lost", "row", "due", "away", "starts", "at", "start", "many", "place"]) (sc := defScope s_counted_fault) rfl rfl (by decide +kernel)) rfl (fun _ _ _ _ _ => (pgv_name sc_counted_fault.nd rfl rfl rfl)) (fun _ _ _ _ _ => ptsv_nil) (fun _ _ _ _ _ => (pv_ix (KK := K) rfl (pv_var rfl rfl rfl) pv_int (fun _ _ => rfl))) (fun _ => rfl))) rfl rfl rfl rfl rfl rfl)) (nomark _)) (pssv_one (psv_ret (pv_tup (pav_cons pv_str pav_nil rfl)))) pssv_nil)
      (pssv_cons (psv_asg (pv_call (KK := K) rfl c_counted (hr.mono (by omega)) (pav_cons (pv_var rfl rfl rfl) (pav_cons (pv_var rfl rfl rfl) (pav_cons (pv_var rfl rfl rfl) (pav_cons (pv_var rfl rfl rfl) pav_nil rfl) rfl) rfl) rfl) rfl rfl rfl rfl) (pgv_tup (KK := K) rfl rfl (pgsv_cons (pgv_name sc_counted_fault.nd rfl rfl rfl) (pgsv_cons (pgv_name sc_counted_fault.nd rfl rfl rfl) pgsv_nil rfl) rfl) rfl rfl) rfl rfl rfl)
      (pssv_cons (psv_setLc rfl sc_counted_fault.nd (sw_true rfl rfl rfl (by decide +kernel)) (piv_list (KK := K) rfl (pv_var rfl rfl rfl)) (blkOk_eq (own := [("row", 7)]) (N := ["events", "width", "step", "lateness", "told", "rows", "lost", "row", "due", "away", "starts", "at", "start", "many", "place"]) (sc := defScope s_counted_fault) rfl rfl (by decide +kernel)) rfl (fun _ _ _ _ _ => (pgv_name sc_counted_fault.nd rfl rfl rfl)) (fun _ _ _ _ _ => ptsv_nil) (fun _ _ _ _ _ => (pv_ix (KK := K) rfl (pv_var rfl rfl rfl) pv_int (fun _ _ => rfl))) (fun _ => rfl) rfl rfl)
      (pssv_cons (psv_for rfl (piv_enum (KK := K) rfl m_enumerate (pav_cons (pv_var rfl rfl rfl) pav_nil rfl) rfl rfl) (pgv_tup (KK := K) rfl rfl (pgsv_cons (pgv_name sc_counted_fault.nd rfl rfl rfl) (pgsv_cons (pgv_tup (KK := K) rfl rfl (pgsv_cons (pgv_name sc_counted_fault.nd rfl rfl rfl) (pgsv_cons (pgv_name sc_counted_fault.nd rfl rfl rfl) (pgsv_cons (pgv_name sc_counted_fault.nd rfl rfl rfl) pgsv_nil rfl) rfl) rfl) rfl rfl) pgsv_nil rfl) rfl) rfl rfl) (pssv_cons (psv_if (pt_cmpV (notIn' (KK := K) rfl) ov_notIn (pv_var rfl rfl rfl) (pv_var rfl rfl rfl) rfl) (pssv_one (psv_ret (pv_tup (pav_cons pv_str (pav_cons (pv_var rfl rfl rfl) pav_nil rfl) rfl)))) pssv_nil)
      (pssv_cons (psv_if (pt_cmpV (neD' (KK := K) rfl hr.units) ov_ne (pv_var rfl rfl rfl) (pv_ix (KK := K) rfl (pv_ix (KK := K) rfl (pv_var rfl rfl rfl) (pv_index (KK := K) rfl (pv_var rfl rfl rfl) (pav_cons (pv_var rfl rfl rfl) pav_nil rfl) rfl rfl rfl rfl rfl) (fun _ _ => rfl)) pv_int (fun _ _ => rfl)) (nomark _)) (pssv_one (psv_ret (pv_tup (pav_cons pv_str (pav_cons (pv_var rfl rfl rfl) pav_nil rfl) rfl)))) pssv_nil)
      (pssv_one (psv_if (pt_cmpV (neD' (KK := K) rfl hr.units) ov_ne (pv_var rfl rfl rfl) (pv_ix (KK := K) rfl (pv_ix (KK := K) rfl (pv_var rfl rfl rfl) (pv_index (KK := K) rfl (pv_var rfl rfl rfl) (pav_cons (pv_var rfl rfl rfl) pav_nil rfl) rfl rfl rfl rfl rfl) (fun _ _ => rfl)) pv_int (fun _ _ => rfl)) (nomark _)) (pssv_one (psv_ret (pv_tup (pav_cons pv_str (pav_cons (pv_var rfl rfl rfl) pav_nil rfl) rfl)))) pssv_nil)))) PassesOwn.never (fun _ => rfl))
      (pssv_cons (psv_for rfl (piv_list (KK := K) rfl (pv_var rfl rfl rfl)) (pgv_name sc_counted_fault.nd rfl rfl rfl) (pssv_one (psv_if (pt_cmpV (notIn' (KK := K) rfl) ov_notIn (pv_var rfl rfl rfl) (pv_as (plv_comp rfl sc_counted_fault.nd (piv_list (KK := K) rfl (pv_var rfl rfl rfl)) (blkOk_eq (own := [("row", 7)]) (N := ["events", "width", "step", "lateness", "told", "rows", "lost", "row", "due", "away", "starts", "at", "start", "many", "place"]) (sc := defScope s_counted_fault) rfl rfl (by decide +kernel)) rfl (fun _ _ _ _ _ => (pgv_name sc_counted_fault.nd rfl rfl rfl)) (fun _ _ _ _ _ => ptsv_nil) (fun _ _ _ _ _ => (pv_ix (KK := K) rfl (pv_var rfl rfl rfl) pv_int (fun _ _ => rfl))) (fun _ => rfl))) rfl) (pssv_one (psv_ret (pv_tup (pav_cons pv_str (pav_cons (pv_var rfl rfl rfl) pav_nil rfl) rfl)))) pssv_nil)) PassesOwn.never (fun _ => rfl))
      (pssv_one (psv_ret (pv_if (pt_cmpV (eqD' (KK := K) rfl hr.units) ov_eq (pv_var rfl rfl rfl) (pv_var rfl rfl rfl) (nomark _)) pv_non (pv_tup (pav_cons pv_str pav_nil rfl)))))))))))⟩
abbrev s_goes : Stmt := topS 8
theorem sc_goes : FnScope ["rhythm", "minute", "word", "start", "marks", "period", "rests"] ["rhythm", "minute"] (defScope s_goes) := ⟨rfl, rfl, rfl, by decide +kernel, rfl, by decide +kernel, by decide +kernel⟩
theorem fn_goes {f : Addr} {fd : FuncData} (F : Fun K "goes" "goes" s_goes f fd) : FnOk P w K mg base CX0 1 f fd ["rhythm", "minute"] (vsp K (goesF)) :=
  fn_def (k := 0) (fb := goesB) F sc_goes rfl rfl fun cdv A outer s H E hr => ⟨_, by
    unfold goesB
    exact (pssv_cons (psv_asg (pv_var rfl rfl rfl) (pgv_tup (KK := K) rfl rfl (pgsv_cons (pgv_name sc_goes.nd rfl rfl rfl) (pgsv_cons (pgv_name sc_goes.nd rfl rfl rfl) (pgsv_cons (pgv_name sc_goes.nd rfl rfl rfl) (pgsv_cons (pgv_name sc_goes.nd rfl rfl rfl) (pgsv_cons (pgv_name sc_goes.nd rfl rfl rfl) pgsv_nil rfl) rfl) rfl) rfl) rfl) rfl rfl) rfl rfl rfl)
      (pssv_cons (psv_if (pt_cmpV op_lt ov_lt (pv_var rfl rfl rfl) (pv_var rfl rfl rfl) (nomark _)) (pssv_one (psv_ret (pv_cmp (in' (KK := K) rfl) ov_in (pv_var rfl rfl rfl) (pv_var rfl rfl rfl) rfl))) pssv_nil)
      (pssv_one (psv_ret (pv_cmp (in' (KK := K) rfl) ov_in (pv_op op_mod ov_mod (pv_var rfl rfl rfl) (pv_var rfl rfl rfl)) (pv_var rfl rfl rfl) rfl)))))⟩
abbrev s_least : Stmt := topS 9
theorem sc_least : FnScope ["rhythm", "word", "start", "marks", "period", "rests", "short", "some", "rest", "mark"] ["rhythm"] (defScope s_least) := ⟨rfl, rfl, rfl, by decide +kernel, rfl, by decide +kernel, by decide +kernel⟩
theorem fn_least (n : Nat) {f : Addr} {fd : FuncData} (F : Fun K "least" "least" s_least f fd) (m_list : mg "list" = none) (m_range : mg "range" = none) : FnOk P w K mg base CX0 1 f fd ["rhythm"] (vsp K (leastF n)) :=
  fn_def (k := 0) (fb := leastB n) F sc_least rfl rfl fun cdv A outer s H E hr => ⟨_, by
    unfold leastB
    exact (pssv_cons (psv_asg (pv_var rfl rfl rfl) (pgv_tup (KK := K) rfl rfl (pgsv_cons (pgv_name sc_least.nd rfl rfl rfl) (pgsv_cons (pgv_name sc_least.nd rfl rfl rfl) (pgsv_cons (pgv_name sc_least.nd rfl rfl rfl) (pgsv_cons (pgv_name sc_least.nd rfl rfl rfl) (pgsv_cons (pgv_name sc_least.nd rfl rfl rfl) pgsv_nil rfl) rfl) rfl) rfl) rfl) rfl rfl) rfl rfl rfl)
      (pssv_cons (psv_for rfl (piv_range2 m_range (pav_cons pv_int (pav_cons (pv_op (op_add.or op_cat) ov_add (pv_var rfl rfl rfl) pv_int) pav_nil rfl) rfl) rfl rfl rfl) (pgv_name sc_least.nd rfl rfl rfl) (pssv_one (psv_if (pt_cmpV (eqD' (KK := K) rfl hr.units) ov_eq (pv_op op_mod ov_mod (pv_var rfl rfl rfl) (pv_var rfl rfl rfl)) pv_int (nomark _)) (pssv_cons (psv_set sc_least.nd (pv_as (plv_comp rfl sc_least.nd (piv_list (KK := K) rfl (pv_var rfl rfl rfl)) (blkOk_eq (own := [("rest", 8)]) (N := ["rhythm", "word", "start", "marks", "period", "rests", "short", "some", "rest", "mark"]) (sc := defScope s_least) rfl rfl (by decide +kernel)) rfl (fun _ _ _ _ _ => (pgv_name sc_least.nd rfl rfl rfl)) (fun _ _ _ _ _ => (ptsv_one (pt_cmpV op_lt ov_lt (pv_var rfl rfl rfl) (pv_var rfl rfl rfl) (nomark _)))) (fun _ _ _ _ _ => (pv_var rfl rfl rfl)) (fun _ => rfl))) rfl rfl rfl rfl)
      (pssv_one (psv_if (pt_cmpV (eqD' (KK := K) rfl hr.units) ov_eq (pv_var rfl rfl rfl) (pv_as (plv_comp rfl sc_least.nd (piv_range1 m_range (pav_cons (pv_var rfl rfl rfl) pav_nil rfl) rfl rfl) (blkOk_eq (own := [("rest", 8)]) (N := ["rhythm", "word", "start", "marks", "period", "rests", "short", "some", "rest", "mark"]) (sc := defScope s_least) rfl rfl (by decide +kernel)) rfl (fun _ _ _ _ _ => (pgv_name sc_least.nd rfl rfl rfl)) (fun _ _ _ _ _ => (ptsv_one (pt_cmpV (in' (KK := K) rfl) ov_in (pv_op op_mod ov_mod (pv_var rfl rfl rfl) (pv_var rfl rfl rfl)) (pv_var rfl rfl rfl) rfl))) (fun _ _ _ _ _ => (pv_var rfl rfl rfl)) (fun _ => rfl))) (nomark _)) (pssv_cons (psv_par rfl sc_least.nd (pav_cons (pv_var rfl rfl rfl) (pav_cons (pv_var rfl rfl rfl) pav_nil rfl) rfl) rfl rfl (by decide) rfl rfl rfl rfl)
      (pssv_one psv_break)) pssv_nil))) pssv_nil)) PassesOwn.never (fun _ => rfl))
      (pssv_cons (psv_set sc_least.nd (pv_as (plv_list (KK := K) rfl m_list (pv_var rfl rfl rfl) rfl rfl rfl)) rfl rfl rfl rfl)
      (pssv_cons (psv_while (PWV.pt (pwv_and (pt_cmpV op_gt ov_gt (pv_var rfl rfl rfl) pv_int (nomark _)) (pwv_and1 (pt_cmpV (eqD' (KK := K) rfl hr.units) ov_eq (pv_cmp (in' (KK := K) rfl) ov_in (pv_op op_sub ov_sub (pv_var rfl rfl rfl) pv_int) (pv_var rfl rfl rfl) rfl) (pv_cmp (in' (KK := K) rfl) ov_in (pv_op op_mod ov_mod (pv_op op_sub ov_sub (pv_var rfl rfl rfl) pv_int) (pv_var rfl rfl rfl)) (pv_var rfl rfl rfl) rfl) (nomark _))))) (pssv_cons (psv_set sc_least.nd (pv_op op_sub ov_sub (pv_var rfl rfl rfl) pv_int) rfl rfl rfl rfl)
      (pssv_one (psv_setLc rfl sc_least.nd (sw_true rfl rfl rfl (by decide +kernel)) (piv_list (KK := K) rfl (pv_var rfl rfl rfl)) (blkOk_eq (own := [("mark", 9)]) (N := ["rhythm", "word", "start", "marks", "period", "rests", "short", "some", "rest", "mark"]) (sc := defScope s_least) rfl rfl (by decide +kernel)) rfl (fun _ _ _ _ _ => (pgv_name sc_least.nd rfl rfl rfl)) (fun _ _ _ _ _ => (ptsv_one (pt_cmpV op_lt ov_lt (pv_var rfl rfl rfl) (pv_var rfl rfl rfl) (nomark _)))) (fun _ _ _ _ _ => (pv_var rfl rfl rfl)) (fun _ => rfl) rfl rfl))) PassesOwn.never)
      (pssv_one (psv_ret (pv_tup (pav_cons pv_str (pav_cons (pv_var rfl rfl rfl) (pav_cons (pv_var rfl rfl rfl) (pav_cons (pv_var rfl rfl rfl) (pav_cons (pv_as (plv_list (KK := K) rfl m_list (pv_var rfl rfl rfl) rfl rfl rfl)) pav_nil rfl) rfl) rfl) rfl) rfl))))))))⟩
abbrev s_from_runs : Stmt := topS 10
theorem sc_from_runs : FnScope ["first", "period"] ["first", "period"] (defScope s_from_runs) := ⟨rfl, rfl, rfl, by decide +kernel, rfl, by decide +kernel, by decide +kernel⟩
theorem fn_from_runs (n : Nat) {f : Addr} {fd : FuncData} (F : Fun K "from_runs" "from_runs" s_from_runs f fd) (c_least : Cal P w K mg base "least" 1 (leastF n)) : FnOk P w K mg base CX0 2 f fd ["first", "period"] (vsp K (from_runsF n)) :=
  fn_def (k := 1) (fb := from_runsB n) F sc_from_runs rfl rfl fun cdv A outer s H E hr => ⟨_, by
    unfold from_runsB
    exact (pssv_one (psv_ret (pv_call (KK := K) rfl c_least (hr.mono (by omega)) (pav_cons (pv_tup (pav_cons pv_str (pav_cons (pv_var rfl rfl rfl) (pav_cons (pv_as (plv_lst pav_nil)) (pav_cons (pv_var rfl rfl rfl) (pav_cons (pv_as (plv_lst (pav_cons (pv_op op_mod ov_mod (pv_var rfl rfl rfl) (pv_var rfl rfl rfl)) pav_nil rfl))) pav_nil rfl) rfl) rfl) rfl) rfl)) pav_nil rfl) rfl rfl rfl rfl)))⟩
abbrev s_nth : Stmt := topS 11
theorem sc_nth : FnScope ["rhythm", "number", "word", "start", "marks", "period", "rests", "left", "row", "rest"] ["rhythm", "number"] (defScope s_nth) := ⟨rfl, rfl, rfl, by decide +kernel, rfl, by decide +kernel, by decide +kernel⟩
theorem fn_nth {f : Addr} {fd : FuncData} (F : Fun K "nth" "nth" s_nth f fd) (m_len : mg "len" = none) (m_sorted : mg "sorted" = none) : FnOk P w K mg base CX0 1 f fd ["rhythm", "number"] (vsp K (nthF)) :=
  fn_def (k := 0) (fb := nthB) F sc_nth rfl rfl fun cdv A outer s H E hr => ⟨_, by
    unfold nthB
    exact (pssv_cons (psv_asg (pv_var rfl rfl rfl) (pgv_tup (KK := K) rfl rfl (pgsv_cons (pgv_name sc_nth.nd rfl rfl rfl) (pgsv_cons (pgv_name sc_nth.nd rfl rfl rfl) (pgsv_cons (pgv_name sc_nth.nd rfl rfl rfl) (pgsv_cons (pgv_name sc_nth.nd rfl rfl rfl) (pgsv_cons (pgv_name sc_nth.nd rfl rfl rfl) pgsv_nil rfl) rfl) rfl) rfl) rfl) rfl rfl) rfl rfl rfl)
      (pssv_cons (psv_if (pt_cmpV op_lt ov_lt (pv_var rfl rfl rfl) (pv_len (KK := K) rfl m_len (pav_cons (pv_var rfl rfl rfl) pav_nil rfl) rfl rfl rfl) (nomark _)) (pssv_one (psv_ret (pv_ix (KK := K) rfl (pv_var rfl rfl rfl) (pv_var rfl rfl rfl) (fun _ _ => rfl)))) pssv_nil)
      (pssv_cons (psv_if (ptv_not (pt_tru (KK := K) rfl (pv_var rfl rfl rfl) (fun _ => rfl))) (pssv_one (psv_ret pv_non)) pssv_nil)
      (pssv_cons (psv_set sc_nth.nd (pv_op op_sub ov_sub (pv_var rfl rfl rfl) (pv_len (KK := K) rfl m_len (pav_cons (pv_var rfl rfl rfl) pav_nil rfl) rfl rfl rfl)) rfl rfl rfl rfl)
      (pssv_cons (psv_set sc_nth.nd (pv_as (plv_sorted (KK := K) rfl m_sorted (pv_as (plv_comp rfl sc_nth.nd (piv_list (KK := K) rfl (pv_var rfl rfl rfl)) (blkOk_eq (own := [("rest", 9)]) (N := ["rhythm", "number", "word", "start", "marks", "period", "rests", "left", "row", "rest"]) (sc := defScope s_nth) rfl rfl (by decide +kernel)) rfl (fun _ _ _ _ _ => (pgv_name sc_nth.nd rfl rfl rfl)) (fun _ _ _ _ _ => ptsv_nil) (fun _ _ _ _ _ => (pv_op (op_add.or op_cat) ov_add (pv_var rfl rfl rfl) (pv_op op_mod ov_mod (pv_op op_sub ov_sub (pv_var rfl rfl rfl) (pv_var rfl rfl rfl)) (pv_var rfl rfl rfl)))) (fun _ => rfl))) rfl rfl rfl)) rfl rfl rfl rfl)
      (pssv_one (psv_ret (pv_op (op_add.or op_cat) ov_add (pv_ix (KK := K) rfl (pv_var rfl rfl rfl) (pv_op op_mod ov_mod (pv_var rfl rfl rfl) (pv_len (KK := K) rfl m_len (pav_cons (pv_var rfl rfl rfl) pav_nil rfl) rfl rfl rfl)) (fun _ _ => rfl)) (pv_op op_mul ov_mul (pv_var rfl rfl rfl) (pv_op op_fdiv ov_div (pv_var rfl rfl rfl) (pv_len (KK := K) rfl m_len (pav_cons (pv_var rfl rfl rfl) pav_nil rfl) rfl rfl rfl)))))))))))⟩
abbrev s__law_take : Stmt := topS 14
abbrev s__law_state : Stmt := topS 13
theorem sc__law_take : FnScope ["state", "most", "cells", "at", "cell", "mixed"] ["state", "most"] (defScope s__law_take) := ⟨rfl, rfl, rfl, by decide +kernel, rfl, by decide +kernel, by decide +kernel⟩
theorem sc__law_state : FnScope ["script", "cells", "cell"] ["script"] (defScope s__law_state) := ⟨rfl, rfl, rfl, by decide +kernel, rfl, by decide +kernel, by decide +kernel⟩
theorem fn_take {f : Addr} {fd : FuncData} (F : Fun K "_law_take" "_law_take" s__law_take f fd) (m_len : mg "len" = none) (m_int : mg "int" = none) : FnOk P w K mg base CX0 1 f fd ["state", "most"] (spTake K) := by
  refine F.ok sc__law_take (fun vs H Q E h => ?_) (fun cdv A outer s H vs Q E hr h => ?_)
  · obtain ⟨_, _, _, _, _, _, rfl, _⟩ := h; rfl
  obtain ⟨D, C, w0, most, r, w', rfl, hne, hD, hC, ht, q⟩ := h
  have nd := sc__law_take.nd
  refine ⟨_, pss_cons (ps_set (i := 2) nd rfl (.inl rfl) (pe_ix ix_list (pv 0) pe_int (fun _ _ => rfl)))
    (pss_cons (ps_set (i := 3) nd rfl (.inl rfl) (pe_op op_mod (pe_ix ix_list (pv 0) pe_int (fun _ _ => rfl)) (pe_callB call_len_seq (by rfl) m_len PySem.boot_len (pa_cons (pv 2) pa_nil))))
    (pss_cons (ps_set (i := 4) nd rfl (.inl rfl) (pe_ix ix_list (pv 2) (pv 3) (fun _ _ => rfl)))
    (pss_cons (ps_if (pt_cmpR op_ge (pv 4) pe_int (nomark _)) (pss_cons (ps_asg (pe_op op_fdiv (pv 4) (pv 1)) (pg_sub (pv 2) (pv 3) set_list)) (pss_one (ps_ret (pe_op op_mod (pv 4) (pv 1))))) pss_nil)
    (pss_cons (ps_asg (pe_op op_add (pe_ix ix_list (pv 0) pe_int (fun _ _ => rfl)) pe_int) (pg_sub (pv 0) pe_int set_list))
    (pss_cons (ps_set (i := 5) nd rfl (.inl rfl) (pe_op op_mod (pe_callTy call_int1 (by rfl) m_int (by decide +kernel) (pa_cons (pe_op op_add (pe_op op_mul (pv 4) pe_int) (pe_op op_mul (pe_ix ix_list (pv 0) pe_int (fun _ _ => rfl)) pe_int)) pa_nil)) pe_int))
    (pss_cons (ps_set (i := 5) nd rfl (.inl rfl) (pe_op op_mod (pe_callTy call_int1 (by rfl) m_int (by decide +kernel) (pa_cons (pe_op op_add (pe_op op_mul (pv 5) pe_int) (pe_op op_mul (pe_ix ix_list (pv 0) pe_int (fun _ _ => rfl)) pe_int)) pa_nil)) pe_int))
    (pss_one (ps_ret (pe_op op_mod (pe_op op_fdiv (pv 5) pe_int) (pv 1)))))))))), ?_⟩
  unfold takeW at ht
  split at ht
  rotate_left
  · cases ht
  rename_i hc
  obtain ⟨h0, h1, h2⟩ := hc
  dsimp only at ht
  split at ht
  · cases ht
  rename_i cell ecell
  have hcl : ((w0.cells.map V.int).length : Int) = (w0.cells.length : Int) := by rw [List.length_map]
  have hlen : (0 : Int) < (w0.cells.map V.int).length := by rw [hcl]; omega
  have hnn : 0 ≤ w0.pos % (w0.cells.length : Int) := Int.emod_nonneg _ (by omega)
  have eat : w0.pos % ((w0.cells.map V.int).length : Int) = (((w0.pos % (w0.cells.length : Int)).toNat : Nat) : Int) := by rw [hcl]; omega
  have gcell : (w0.cells.map V.int)[(w0.pos % (w0.cells.length : Int)).toNat]? = some (.int cell) := by rw [List.getElem?_map, ecell]; rfl
  -- cells = state[1]; at; cell
  refine ⟨.ref D, rfl, D, _, 1, .ref C, rfl, rfl, SqL.of hD, (by rfl), ?_⟩
  refine ⟨.ref D, rfl, D, _, 0, .int w0.pos, rfl, rfl, SqL.of hD, L2.atI_nat (j := 0) rfl, .ref C, rfl, C, _, rfl, .inl (SqL.of hC), w0.pos, _, rfl, rfl, hlen, ?_⟩
  refine ⟨.ref C, rfl, .int _, rfl, C, _, _, .int cell, rfl, rfl, SqL.of hC, ?_, ?_⟩
  · rw [eat]; exact L2.atI_nat gcell
  refine ⟨.int cell, rfl, cell, _, rfl, rfl, _, rfl, ?_⟩
  split at ht
  · rename_i hbig
    cases ht
    rw [decide_eq_true hbig]
    refine iteT ?_
    refine ⟨.int cell, rfl, .int most, rfl, cell, most, rfl, rfl, ⟨h0, h1⟩, .ref C, rfl, .int _, rfl, C, _, _, (w0.pos % (w0.cells.length : Int)).toNat, rfl, rfl, hC, ?_, ?_⟩
    · rw [eat]
      unfold L2.ixN
      have := (List.getElem?_eq_some_iff.mp gcell).1
      rw [if_pos (by omega), if_pos (by omega)]
      rfl
    refine ⟨.int cell, rfl, .int most, rfl, cell, most, rfl, rfl, h0, ?_⟩
    refine q _ (fun a o n1 n2 e => by rw [upd_ne n2]; exact e) (fun a e => ?_) (by rw [upd_ne hne]; exact hD) (by rw [upd_same, List.map_set])
    by_cases z : a = C
    · subst z; rw [upd_same]; simp
    · rw [upd_ne z]; exact e
  · rename_i hbig
    cases ht
    rw [decide_eq_false hbig]
    refine iteF ?_
    refine ⟨.ref D, rfl, D, _, 0, .int w0.pos, rfl, rfl, SqL.of hD, L2.atI_nat (j := 0) rfl, w0.pos, 1, rfl, rfl, .ref D, rfl, D, _, 0, 0, rfl, rfl, hD, rfl, ?_⟩
    have eD : (upd H D (.lst ([V.int w0.pos, .ref C].set 0 (.int (w0.pos + 1))))) D = some (.lst [.int (w0.pos + 1), .ref C]) := upd_same
    refine ⟨.int cell, rfl, cell, 48271, rfl, rfl, .inr (by omega), .ref D, rfl, D, _, 0, .int (w0.pos + 1), rfl, rfl, SqL.of eD, L2.atI_nat (j := 0) rfl, w0.pos + 1, 69621, rfl, rfl, .inr (by omega), _, _, rfl, rfl, .inl ⟨_, rfl, _, 2147483647, rfl, rfl, by omega, ?_⟩⟩
    refine ⟨_, rfl, _, 16807, rfl, rfl, .inr (by omega), .ref D, rfl, D, _, 0, .int (w0.pos + 1), rfl, rfl, SqL.of eD, L2.atI_nat (j := 0) rfl, w0.pos + 1, 7919, rfl, rfl, .inr (by omega), _, _, rfl, rfl, .inl ⟨_, rfl, _, 1000000007, rfl, rfl, by omega, ?_⟩⟩
    refine ⟨_, rfl, _, 7, rfl, rfl, ⟨by omega, by omega⟩, .int most, rfl, _, most, rfl, rfl, h0, ?_⟩
    refine q _ (fun a o n1 n2 e => by rw [upd_ne n1]; exact e) (fun a e => ?_) eD (by rw [upd_ne hne.symm]; exact hC)
    by_cases z : a = D
    · subst z; rw [upd_same]; simp
    · rw [upd_ne z]; exact e
theorem fn_state {f : Addr} {fd : FuncData} (F : Fun K "_law_state" "_law_state" s__law_state f fd) (m_abs : mg "abs" = none) (m_len : mg "len" = none) : FnOk P w K mg base CX0 1 f fd ["script"] (spState K) :=
  state_ok (st := s__law_state) F sc__law_state rfl fun cdv A outer s H E hr => ⟨_, _, by
    unfold stateB1
    exact (psv_ownLc rfl sc__law_state.nd (sw_true rfl rfl rfl (by decide +kernel)) (piv_list (KK := K) rfl (pv_as (plv_cutZ (KK := K) rfl rfl rfl rfl pov_none (pov_some pv_int)))) (blkOk_eq (own := [("cell", 2)]) (N := ["script", "cells", "cell"]) (sc := defScope s__law_state) rfl rfl (by decide +kernel)) rfl (fun _ _ _ _ _ => (pgv_name sc__law_state.nd rfl rfl rfl)) (fun _ _ _ _ _ => ptsv_nil) (fun _ _ _ _ _ => (pv_abs m_abs (pav_cons (pv_var rfl rfl rfl) pav_nil rfl) rfl rfl rfl)) (fun _ => rfl) rfl rfl), by
    unfold stateB2
    exact (psv_if (pt_cmpV (eqD' (KK := K) rfl hr.units) ov_eq (pv_len (KK := K) rfl m_len (pav_cons (pv_varO rfl rfl rfl) pav_nil rfl) rfl rfl rfl) pv_int (nomark _)) (pssv_one (psv_own sc__law_state.nd (plv_lst (pav_cons pv_int pav_nil rfl)) rfl rfl rfl rfl)) pssv_nil), ps_ret (pe_lst (pa_cons pe_int (pa_cons (pv 1) pa_nil)))⟩

abbrev s_law : Stmt := topS 15
theorem sc_law : FnScope ["script", "state", "step", "width", "begins", "k", "minute", "start", "events", "least_v", "told", "late"] ["script"] (defScope s_law) := ⟨rfl, rfl, rfl, by decide +kernel, rfl, by decide +kernel, by decide +kernel⟩
theorem fn_law (n : Nat) {f : Addr} {fd : FuncData} (F : Fun K "law" "law" s_law f fd) (c_state : CalS P w K mg base "_law_state" 1) (m_len : mg "len" = none) (m_max : mg "max" = none) (m_range : mg "range" = none) (c__law_take : CalT P w K mg base "_law_take" 1) (c_counted : Cal P w K mg base "counted" 2 (countedF)) (c_counted_fault : Cal P w K mg base "counted_fault" 3 (counted_faultF)) (c_from_runs : Cal P w K mg base "from_runs" 2 (from_runsF n)) (c_goes : Cal P w K mg base "goes" 1 (goesF)) (c_least_lateness : Cal P w K mg base "least_lateness" 2 (least_latenessF)) (c_least_lateness_fault : Cal P w K mg base "least_lateness_fault" 3 (least_lateness_faultF)) (c_nth : Cal P w K mg base "nth" 1 (nthF)) (c_windows_at : Cal P w K mg base "windows_at" 1 (windows_atF))
    (run : ∀ ns : List Int, ns.length ≤ 63 → ∃ env' w', lawB n ((Slot.fz ns :: List.replicate 11 Slot.no).set 1 (.st 1)) ⟨0, stateCells ns⟩ = some ((.rt (.bool true), env'), w')) : FnOk P w K mg base CX0 4 f fd ["script"] (spLaw K) :=
  law_ok (k := 3) (i := 1) (fb := lawB n) F sc_law rfl (by decide) (fun cdv A outer s H E hr => ⟨by
    obtain ⟨fa, fd, G, mgf, kp, bi⟩ := c_state.ex
    exact ps_set sc_law.nd rfl (.inr rfl) (pe_call G (hr.mono (by decide)) (by rfl) mgf kp bi .nil pass0 (pa_cons (pv 0) pa_nil)), _, by
    unfold lawB
    exact (pssv_cons (psv_asg (pv_tup (pav_cons (pv_op (op_add.or op_cat) ov_add pv_int (pv_take (KK := K) rfl c__law_take (hr.mono (by omega)) pv_int rfl rfl rfl rfl rfl rfl rfl rfl)) (pav_cons (pv_op (op_add.or op_cat) ov_add pv_int (pv_take (KK := K) rfl c__law_take (hr.mono (by omega)) pv_int rfl rfl rfl rfl rfl rfl rfl rfl)) pav_nil rfl) rfl)) (pgv_tup (KK := K) rfl rfl (pgsv_cons (pgv_name sc_law.nd rfl rfl rfl) (pgsv_cons (pgv_name sc_law.nd rfl rfl rfl) pgsv_nil rfl) rfl) rfl rfl) rfl rfl rfl)
      (pssv_cons (psv_set sc_law.nd (pv_call (KK := K) rfl c_from_runs (hr.mono (by omega)) (pav_cons pv_int (pav_cons (pv_var rfl rfl rfl) pav_nil rfl) rfl) rfl rfl rfl rfl) rfl rfl rfl rfl)
      (pssv_cons (psv_if (pt_cmpV (neD' (KK := K) rfl hr.units) ov_ne (pv_as (plv_comp rfl sc_law.nd (piv_range1 m_range (pav_cons pv_int pav_nil rfl) rfl rfl) (blkOk_eq (own := [("k", 5)]) (N := ["script", "state", "step", "width", "begins", "k", "minute", "start", "events", "least_v", "told", "late"]) (sc := defScope s_law) rfl rfl (by decide +kernel)) rfl (fun _ _ _ _ _ => (pgv_name sc_law.nd rfl rfl rfl)) (fun _ _ _ _ _ => ptsv_nil) (fun _ _ _ _ _ => (pv_call (KK := K) rfl c_nth (hr.mono (by omega)) (pav_cons (pv_var rfl rfl rfl) (pav_cons (pv_var rfl rfl rfl) pav_nil rfl) rfl) rfl rfl rfl rfl)) (fun _ => rfl))) (pv_as (plv_comp rfl sc_law.nd (piv_range1 m_range (pav_cons pv_int pav_nil rfl) rfl rfl) (blkOk_eq (own := [("k", 5)]) (N := ["script", "state", "step", "width", "begins", "k", "minute", "start", "events", "least_v", "told", "late"]) (sc := defScope s_law) rfl rfl (by decide +kernel)) rfl (fun _ _ _ _ _ => (pgv_name sc_law.nd rfl rfl rfl)) (fun _ _ _ _ _ => ptsv_nil) (fun _ _ _ _ _ => (pv_op op_mul ov_mul (pv_var rfl rfl rfl) (pv_var rfl rfl rfl))) (fun _ => rfl))) (nomark _)) (pssv_one (psv_ret pv_bl)) pssv_nil)
      (pssv_cons (psv_for rfl (piv_range1 m_range (pav_cons pv_int pav_nil rfl) rfl rfl) (pgv_name sc_law.nd rfl rfl rfl) (pssv_one (psv_if (pt_cmpV (neD' (KK := K) rfl hr.units) ov_ne (pv_call (KK := K) rfl c_windows_at (hr.mono (by omega)) (pav_cons (pv_var rfl rfl rfl) (pav_cons (pv_var rfl rfl rfl) (pav_cons (pv_var rfl rfl rfl) pav_nil rfl) rfl) rfl) rfl rfl rfl rfl) (pv_as (plv_comp rfl sc_law.nd (piv_range1 m_range (pav_cons (pv_op (op_add.or op_cat) ov_add (pv_var rfl rfl rfl) pv_int) pav_nil rfl) rfl rfl) (blkOk_eq (own := [("start", 7)]) (N := ["script", "state", "step", "width", "begins", "k", "minute", "start", "events", "least_v", "told", "late"]) (sc := defScope s_law) rfl rfl (by decide +kernel)) rfl (fun _ _ _ _ _ => (pgv_name sc_law.nd rfl rfl rfl)) (fun _ _ _ _ _ => (ptsv_one (PWV.pt (pwv_and (pt_tru (KK := K) rfl (pv_call (KK := K) rfl c_goes (hr.mono (by omega)) (pav_cons (pv_var rfl rfl rfl) (pav_cons (pv_var rfl rfl rfl) pav_nil rfl) rfl) rfl rfl rfl rfl) (fun _ => rfl)) (pwv_and1 (pt_cmpV op_lt ov_lt (pv_var rfl rfl rfl) (pv_op (op_add.or op_cat) ov_add (pv_var rfl rfl rfl) (pv_var rfl rfl rfl)) (nomark _))))))) (fun _ _ _ _ _ => (pv_var rfl rfl rfl)) (fun _ => rfl))) (nomark _)) (pssv_one (psv_ret pv_bl)) pssv_nil)) PassesOwn.never (fun _ => rfl))
      (pssv_cons (psv_set sc_law.nd (pv_as (plv_comp rfl sc_law.nd (piv_range1 m_range (pav_cons (pv_take (KK := K) rfl c__law_take (hr.mono (by omega)) pv_int rfl rfl rfl rfl rfl rfl rfl rfl) pav_nil rfl) rfl rfl) (blkOk_eq (own := [("k", 5)]) (N := ["script", "state", "step", "width", "begins", "k", "minute", "start", "events", "least_v", "told", "late"]) (sc := defScope s_law) rfl rfl (by decide +kernel)) rfl (fun _ _ _ _ _ => (pgv_name sc_law.nd rfl rfl rfl)) (fun _ _ _ _ _ => ptsv_nil) (fun _ _ _ _ _ => (pv_take (KK := K) rfl c__law_take (hr.mono (by omega)) pv_int rfl rfl rfl rfl rfl rfl rfl rfl)) (fun _ => rfl))) rfl rfl rfl rfl)
      (pssv_cons (psv_set sc_law.nd (pv_call (KK := K) rfl c_least_lateness (hr.mono (by omega)) (pav_cons (pv_var rfl rfl rfl) (pav_cons (pv_var rfl rfl rfl) (pav_cons (pv_var rfl rfl rfl) pav_nil rfl) rfl) rfl) rfl rfl rfl rfl) rfl rfl rfl rfl)
      (pssv_cons (psv_set sc_law.nd (pv_call (KK := K) rfl c_counted (hr.mono (by omega)) (pav_cons (pv_var rfl rfl rfl) (pav_cons (pv_var rfl rfl rfl) (pav_cons (pv_var rfl rfl rfl) (pav_cons (pv_ix (KK := K) rfl (pv_var rfl rfl rfl) pv_int (fun _ _ => rfl)) pav_nil rfl) rfl) rfl) rfl) rfl rfl rfl rfl) rfl rfl rfl rfl)
      (pssv_cons (psv_if (PWV.pt (pwv_or (pt_notN (pv_call (KK := K) rfl c_least_lateness_fault (hr.mono (by omega)) (pav_cons (pv_var rfl rfl rfl) (pav_cons (pv_var rfl rfl rfl) (pav_cons (pv_var rfl rfl rfl) (pav_cons (pv_var rfl rfl rfl) pav_nil rfl) rfl) rfl) rfl) rfl rfl rfl rfl)) (pwv_or1 (pt_notN (pv_call (KK := K) rfl c_counted_fault (hr.mono (by omega)) (pav_cons (pv_var rfl rfl rfl) (pav_cons (pv_var rfl rfl rfl) (pav_cons (pv_var rfl rfl rfl) (pav_cons (pv_ix (KK := K) rfl (pv_var rfl rfl rfl) pv_int (fun _ _ => rfl)) (pav_cons (pv_var rfl rfl rfl) pav_nil rfl) rfl) rfl) rfl) rfl) rfl rfl rfl rfl))))) (pssv_one (psv_ret pv_bl)) pssv_nil)
      (pssv_cons (psv_own sc_law.nd (plv_lst (pav_cons pv_int pav_nil rfl)) rfl rfl rfl rfl)
      (pssv_cons (psv_for rfl (piv_range2 m_range (pav_cons pv_int (pav_cons (pv_len (KK := K) rfl m_len (pav_cons (pv_var rfl rfl rfl) pav_nil rfl) rfl rfl rfl) pav_nil rfl) rfl) rfl rfl rfl) (pgv_name sc_law.nd rfl rfl rfl) (pssv_one (psv_ext (KK := K) rfl (pv_as (plv_comp rfl sc_law.nd (piv_list (KK := K) rfl (pv_call (KK := K) rfl c_windows_at (hr.mono (by omega)) (pav_cons (pv_ix (KK := K) rfl (pv_var rfl rfl rfl) (pv_var rfl rfl rfl) (fun _ _ => rfl)) (pav_cons (pv_var rfl rfl rfl) (pav_cons (pv_var rfl rfl rfl) pav_nil rfl) rfl) rfl) rfl rfl rfl rfl)) (blkOk_eq (own := [("start", 7)]) (N := ["script", "state", "step", "width", "begins", "k", "minute", "start", "events", "least_v", "told", "late"]) (sc := defScope s_law) rfl rfl (by decide +kernel)) rfl (fun _ _ _ _ _ => (pgv_name sc_law.nd rfl rfl rfl)) (fun _ _ _ _ _ => ptsv_nil) (fun _ _ _ _ _ => (pv_op (op_add.or op_cat) ov_add (pv_op op_sub ov_sub (pv_op op_sub ov_sub (pv_max (KK := K) rfl rfl m_max (pav_cons (pv_as (plv_slice (KK := K) rfl (pv_var rfl rfl rfl) pov_none (pov_some (pv_var rfl rfl rfl)))) pav_nil rfl) rfl rfl rfl) (pv_var rfl rfl rfl)) (pv_var rfl rfl rfl)) pv_int)) (fun _ => rfl))) rfl rfl rfl rfl rfl rfl rfl rfl rfl)) PassesOwn.never (fun _ => rfl))
      (pssv_one (psv_ret (pv_and (pv_cmp (eqD' (KK := K) rfl hr.units) ov_eq (pv_ix (KK := K) rfl (pv_var rfl rfl rfl) pv_int (fun _ _ => rfl)) (pv_max (KK := K) rfl rfl m_max (pav_cons (pv_varO rfl rfl rfl) pav_nil rfl) rfl rfl rfl) (nomark _)) (pv_one (pv_cmp (eqD' (KK := K) rfl hr.units) ov_eq (pv_cmp (eqD' (KK := K) rfl hr.units) ov_eq (pv_ix (KK := K) rfl (pv_var rfl rfl rfl) pv_int (fun _ _ => rfl)) pv_int (nomark _)) (pv_isN (pv_ix (KK := K) rfl (pv_var rfl rfl rfl) pv_int (fun _ _ => rfl))) (nomark _))))))))))))))))⟩) run
theorem all_mk {l : PySem.W.OpenLaw} {w : World} {K : PySem.W.Frag} {h : Heap} {mg : Str → Option Value} {fa f0 f1 f2 f3 f4 f5 f6 f7 f8 f9 f10 f11 f12 : Addr} (X : K.In h) (G : h.Ns mainGlobals mg) (hfa : mg "law" = some (.ref fa))
    {od0 an0 od1 an1 od2 an2 od3 an3 od4 an4 od5 an5 od6 an6 od7 an7 od8 an8 od9 an9 od10 an10 od11 an11 od12 an12 : Option Addr} {sl0 sl1 sl2 sl3 sl4 sl5 sl6 sl7 sl8 sl9 sl10 sl11 sl12 : Array (Option Value)} {oc0 kV0 dc0 pm0 cd0 ct0 oc1 kV1 dc1 pm1 cd1 ct1 oc2 kV2 dc2 pm2 cd2 ct2 oc3 kV3 dc3 pm3 cd3 ct3 oc4 kV4 dc4 pm4 cd4 ct4 oc5 kV5 dc5 pm5 cd5 ct5 oc6 kV6 dc6 pm6 cd6 ct6 oc7 kV7 dc7 pm7 cd7 ct7 oc8 kV8 dc8 pm8 cd8 ct8 oc9 kV9 dc9 pm9 cd9 ct9 oc10 kV10 dc10 pm10 cd10 ct10 oc11 kV11 dc11 pm11 cd11 ct11 oc12 kV12 dc12 pm12 cd12 ct12 : Value}
    (a0 : PySem.W.nsIn K mainGlobals "windows_at" = some (some (.ref f0))) (l0 : K.lookup f0 = some ⟨oc0, od0, .func (PySem.W.fnOf "windows_at" "windows_at" (defArgs s_windows_at) (defBody s_windows_at) (defScope s_windows_at) .none kV0 dc0 pm0 an0 cd0 ct0), sl0⟩) (c0 : PySem.W.codeIn K cd0 "windows_at" = true) (k0 : PySem.W.keepIn K (.ref f0) = true)
    (a1 : PySem.W.nsIn K mainGlobals "marks" = some (some (.ref f1))) (l1 : K.lookup f1 = some ⟨oc1, od1, .func (PySem.W.fnOf "marks" "marks" (defArgs s_marks) (defBody s_marks) (defScope s_marks) .none kV1 dc1 pm1 an1 cd1 ct1), sl1⟩) (c1 : PySem.W.codeIn K cd1 "marks" = true) (k1 : PySem.W.keepIn K (.ref f1) = true)
    (a2 : PySem.W.nsIn K mainGlobals "counted" = some (some (.ref f2))) (l2 : K.lookup f2 = some ⟨oc2, od2, .func (PySem.W.fnOf "counted" "counted" (defArgs s_counted) (defBody s_counted) (defScope s_counted) .none kV2 dc2 pm2 an2 cd2 ct2), sl2⟩) (c2 : PySem.W.codeIn K cd2 "counted" = true) (k2 : PySem.W.keepIn K (.ref f2) = true)
    (a3 : PySem.W.nsIn K mainGlobals "least_lateness" = some (some (.ref f3))) (l3 : K.lookup f3 = some ⟨oc3, od3, .func (PySem.W.fnOf "least_lateness" "least_lateness" (defArgs s_least_lateness) (defBody s_least_lateness) (defScope s_least_lateness) .none kV3 dc3 pm3 an3 cd3 ct3), sl3⟩) (c3 : PySem.W.codeIn K cd3 "least_lateness" = true) (k3 : PySem.W.keepIn K (.ref f3) = true)
    (a4 : PySem.W.nsIn K mainGlobals "least_lateness_fault" = some (some (.ref f4))) (l4 : K.lookup f4 = some ⟨oc4, od4, .func (PySem.W.fnOf "least_lateness_fault" "least_lateness_fault" (defArgs s_least_lateness_fault) (defBody s_least_lateness_fault) (defScope s_least_lateness_fault) .none kV4 dc4 pm4 an4 cd4 ct4), sl4⟩) (c4 : PySem.W.codeIn K cd4 "least_lateness_fault" = true) (k4 : PySem.W.keepIn K (.ref f4) = true)
    (a5 : PySem.W.nsIn K mainGlobals "counted_fault" = some (some (.ref f5))) (l5 : K.lookup f5 = some ⟨oc5, od5, .func (PySem.W.fnOf "counted_fault" "counted_fault" (defArgs s_counted_fault) (defBody s_counted_fault) (defScope s_counted_fault) .none kV5 dc5 pm5 an5 cd5 ct5), sl5⟩) (c5 : PySem.W.codeIn K cd5 "counted_fault" = true) (k5 : PySem.W.keepIn K (.ref f5) = true)
    (a6 : PySem.W.nsIn K mainGlobals "goes" = some (some (.ref f6))) (l6 : K.lookup f6 = some ⟨oc6, od6, .func (PySem.W.fnOf "goes" "goes" (defArgs s_goes) (defBody s_goes) (defScope s_goes) .none kV6 dc6 pm6 an6 cd6 ct6), sl6⟩) (c6 : PySem.W.codeIn K cd6 "goes" = true) (k6 : PySem.W.keepIn K (.ref f6) = true)
    (a7 : PySem.W.nsIn K mainGlobals "least" = some (some (.ref f7))) (l7 : K.lookup f7 = some ⟨oc7, od7, .func (PySem.W.fnOf "least" "least" (defArgs s_least) (defBody s_least) (defScope s_least) .none kV7 dc7 pm7 an7 cd7 ct7), sl7⟩) (c7 : PySem.W.codeIn K cd7 "least" = true) (k7 : PySem.W.keepIn K (.ref f7) = true)
    (a8 : PySem.W.nsIn K mainGlobals "from_runs" = some (some (.ref f8))) (l8 : K.lookup f8 = some ⟨oc8, od8, .func (PySem.W.fnOf "from_runs" "from_runs" (defArgs s_from_runs) (defBody s_from_runs) (defScope s_from_runs) .none kV8 dc8 pm8 an8 cd8 ct8), sl8⟩) (c8 : PySem.W.codeIn K cd8 "from_runs" = true) (k8 : PySem.W.keepIn K (.ref f8) = true)
    (a9 : PySem.W.nsIn K mainGlobals "nth" = some (some (.ref f9))) (l9 : K.lookup f9 = some ⟨oc9, od9, .func (PySem.W.fnOf "nth" "nth" (defArgs s_nth) (defBody s_nth) (defScope s_nth) .none kV9 dc9 pm9 an9 cd9 ct9), sl9⟩) (c9 : PySem.W.codeIn K cd9 "nth" = true) (k9 : PySem.W.keepIn K (.ref f9) = true)
    (a10 : PySem.W.nsIn K mainGlobals "_law_state" = some (some (.ref f10))) (l10 : K.lookup f10 = some ⟨oc10, od10, .func (PySem.W.fnOf "_law_state" "_law_state" (defArgs s__law_state) (defBody s__law_state) (defScope s__law_state) .none kV10 dc10 pm10 an10 cd10 ct10), sl10⟩) (c10 : PySem.W.codeIn K cd10 "_law_state" = true) (k10 : PySem.W.keepIn K (.ref f10) = true)
    (a11 : PySem.W.nsIn K mainGlobals "_law_take" = some (some (.ref f11))) (l11 : K.lookup f11 = some ⟨oc11, od11, .func (PySem.W.fnOf "_law_take" "_law_take" (defArgs s__law_take) (defBody s__law_take) (defScope s__law_take) .none kV11 dc11 pm11 an11 cd11 ct11), sl11⟩) (c11 : PySem.W.codeIn K cd11 "_law_take" = true) (k11 : PySem.W.keepIn K (.ref f11) = true)
    (a12 : PySem.W.nsIn K mainGlobals "law" = some (some (.ref f12))) (l12 : K.lookup f12 = some ⟨oc12, od12, .func (PySem.W.fnOf "law" "law" (defArgs s_law) (defBody s_law) (defScope s_law) .none kV12 dc12 pm12 an12 cd12 ct12), sl12⟩) (c12 : PySem.W.codeIn K cd12 "law" = true) (k12 : PySem.W.keepIn K (.ref f12) = true)
    (z_abs : PySem.W.nsIn K mainGlobals "abs" = some none)
    (z_enumerate : PySem.W.nsIn K mainGlobals "enumerate" = some none)
    (z_int : PySem.W.nsIn K mainGlobals "int" = some none)
    (z_len : PySem.W.nsIn K mainGlobals "len" = some none)
    (z_list : PySem.W.nsIn K mainGlobals "list" = some none)
    (z_max : PySem.W.nsIn K mainGlobals "max" = some none)
    (z_range : PySem.W.nsIn K mainGlobals "range" = some none)
    (z_set : PySem.W.nsIn K mainGlobals "set" = some none)
    (z_sorted : PySem.W.nsIn K mainGlobals "sorted" = some none)
    (n : Nat) (run : ∀ ns : List Int, ns.length ≤ 63 → ∃ env' w', lawB n ((Slot.fz ns :: List.replicate 11 Slot.no).set 1 (.st 1)) ⟨0, stateCells ns⟩ = some ((.rt (.bool true), env'), w')) :
    ∃ fd : FuncData, (∀ (s : Shared) (v : Value), BindsTo s fd ⟨[v], []⟩ [("script", v)]) ∧ ∀ base : Heap, K.In base → base.Ns mainGlobals mg → FnOk l.prog w K mg base CX0 4 fa fd ["script"] (spLaw K) := by
  have e := hfa.symm.trans (PySem.W.mg_of X G a12)
  cases e
  have m_abs := PySem.W.mg_none_of X G z_abs
  have m_enumerate := PySem.W.mg_none_of X G z_enumerate
  have m_int := PySem.W.mg_none_of X G z_int
  have m_len := PySem.W.mg_none_of X G z_len
  have m_list := PySem.W.mg_none_of X G z_list
  have m_max := PySem.W.mg_none_of X G z_max
  have m_range := PySem.W.mg_none_of X G z_range
  have m_set := PySem.W.mg_none_of X G z_set
  have m_sorted := PySem.W.mg_none_of X G z_sorted
  have F0 := fun_mk (st := s_windows_at) l0 c0 k0
  have F1 := fun_mk (st := s_marks) l1 c1 k1
  have F2 := fun_mk (st := s_counted) l2 c2 k2
  have F3 := fun_mk (st := s_least_lateness) l3 c3 k3
  have F4 := fun_mk (st := s_least_lateness_fault) l4 c4 k4
  have F5 := fun_mk (st := s_counted_fault) l5 c5 k5
  have F6 := fun_mk (st := s_goes) l6 c6 k6
  have F7 := fun_mk (st := s_least) l7 c7 k7
  have F8 := fun_mk (st := s_from_runs) l8 c8 k8
  have F9 := fun_mk (st := s_nth) l9 c9 k9
  have F10 := fun_mk (st := s__law_state) l10 c10 k10
  have F11 := fun_mk (st := s__law_take) l11 c11 k11
  have F12 := fun_mk (st := s_law) l12 c12 k12
  refine ⟨PySem.W.fnOf "law" "law" (defArgs s_law) (defBody s_law) (defScope s_law) .none kV12 dc12 pm12 an12 cd12 ct12, fun s v => .of_eq rfl, fun base _ _ => ?_⟩
  have c_windows_at : Cal l.prog w K mg base "windows_at" 1 (windows_atF) := cal_mk (fn_windows_at F0 m_max m_range) (PySem.W.mg_of X G a0) k0 (F0.binds (ps := ["minute", "width", "step"]) fun _ _ _ _ _ _ us hl => match us, hl with | [_, _, _], _ => rfl)
  have c_marks : Cal l.prog w K mg base "marks" 1 (marksF) := cal_mk (fn_marks F1) (PySem.W.mg_of X G a1) k1 (F1.binds (ps := ["events", "lateness"]) fun _ _ _ _ _ _ us hl => match us, hl with | [_, _], _ => rfl)
  have c_counted : Cal l.prog w K mg base "counted" 2 (countedF) := cal_mk (fn_counted F2 m_enumerate m_sorted c_marks c_windows_at) (PySem.W.mg_of X G a2) k2 (F2.binds (ps := ["events", "width", "step", "lateness"]) fun _ _ _ _ _ _ us hl => match us, hl with | [_, _, _, _], _ => rfl)
  have c_least_lateness : Cal l.prog w K mg base "least_lateness" 2 (least_latenessF) := cal_mk (fn_least_lateness F3 m_enumerate c_windows_at) (PySem.W.mg_of X G a3) k3 (F3.binds (ps := ["events", "width", "step"]) fun _ _ _ _ _ _ us hl => match us, hl with | [_, _, _], _ => rfl)
  have c_least_lateness_fault : Cal l.prog w K mg base "least_lateness_fault" 3 (least_lateness_faultF) := cal_mk (fn_least_lateness_fault F4 m_len m_max c_counted c_windows_at) (PySem.W.mg_of X G a4) k4 (F4.binds (ps := ["events", "width", "step", "told"]) fun _ _ _ _ _ _ us hl => match us, hl with | [_, _, _, _], _ => rfl)
  have c_counted_fault : Cal l.prog w K mg base "counted_fault" 3 (counted_faultF) := cal_mk (fn_counted_fault F5 m_enumerate m_set m_sorted c_counted) (PySem.W.mg_of X G a5) k5 (F5.binds (ps := ["events", "width", "step", "lateness", "told"]) fun _ _ _ _ _ _ us hl => match us, hl with | [_, _, _, _, _], _ => rfl)
  have c_goes : Cal l.prog w K mg base "goes" 1 (goesF) := cal_mk (fn_goes F6) (PySem.W.mg_of X G a6) k6 (F6.binds (ps := ["rhythm", "minute"]) fun _ _ _ _ _ _ us hl => match us, hl with | [_, _], _ => rfl)
  have c_least : Cal l.prog w K mg base "least" 1 (leastF n) := cal_mk (fn_least n F7 m_list m_range) (PySem.W.mg_of X G a7) k7 (F7.binds (ps := ["rhythm"]) fun _ _ _ _ _ _ us hl => match us, hl with | [_], _ => rfl)
  have c_from_runs : Cal l.prog w K mg base "from_runs" 2 (from_runsF n) := cal_mk (fn_from_runs n F8 c_least) (PySem.W.mg_of X G a8) k8 (F8.binds (ps := ["first", "period"]) fun _ _ _ _ _ _ us hl => match us, hl with | [_, _], _ => rfl)
  have c_nth : Cal l.prog w K mg base "nth" 1 (nthF) := cal_mk (fn_nth F9 m_len m_sorted) (PySem.W.mg_of X G a9) k9 (F9.binds (ps := ["rhythm", "number"]) fun _ _ _ _ _ _ us hl => match us, hl with | [_, _], _ => rfl)
  have c_state : CalS l.prog w K mg base "_law_state" 1 := ⟨_, _, fn_state F10 m_abs m_len, PySem.W.mg_of X G a10, k10, (F10.binds (ps := ["script"]) fun _ _ _ _ _ _ us hl => match us, hl with | [_], _ => rfl)⟩
  have c__law_take : CalT l.prog w K mg base "_law_take" 1 := ⟨_, _, fn_take F11 m_len m_int, PySem.W.mg_of X G a11, k11, (F11.binds (ps := ["state", "most"]) fun _ _ _ _ _ _ us hl => match us, hl with | [_, _], _ => rfl)⟩
  exact fn_law n F12 c_state m_len m_max m_range c__law_take c_counted c_counted_fault c_from_runs c_goes c_least_lateness c_least_lateness_fault c_nth c_windows_at run
end
end VE


open PySem PySem.W PyProof.Rows
set_option maxHeartbeats 0 in
theorem PySem.Challenge.cw_jobsagain_k27_windows_as_rhythms_holds : PySem.Challenge.rw_jobsagain_k27_windows_as_rhythms.Holds := by
  w_on; o_law; k_head; (case hw => w_witness2)
  k_fill
  refine L2.walk_of (l := PySem.Challenge.rw_jobsagain_k27_windows_as_rhythms) (n := 63) (k := 4) (x := "script") (CX := fun _ => L2.CX0) (sp := fun w => VE.spLaw _) rfl (by decide) rfl ⟨rfl, by decide, by decide⟩ (fun w h Y => PySem.W.kIn_of Y) ?F (fun _ _ a ns hl _ hS => ⟨a, ns, rfl, hS, hl, fun _ => rfl⟩) (fun _ _ _ _ _ h => h)
  case F =>
    intro w mg fa h KX G hmg
    refine' VE.all_mk KX G hmg ?a0 ?l0 ?c0 ?k0 ?a1 ?l1 ?c1 ?k1 ?a2 ?l2 ?c2 ?k2 ?a3 ?l3 ?c3 ?k3 ?a4 ?l4 ?c4 ?k4 ?a5 ?l5 ?c5 ?k5 ?a6 ?l6 ?c6 ?k6 ?a7 ?l7 ?c7 ?k7 ?a8 ?l8 ?c8 ?k8 ?a9 ?l9 ?c9 ?k9 ?a10 ?l10 ?c10 ?k10 ?a11 ?l11 ?c11 ?k11 ?a12 ?l12 ?c12 ?k12 ?z_abs ?z_enumerate ?z_int ?z_len ?z_list ?z_max ?z_range ?z_set ?z_sorted 300 VE.law_run
    (case a0 => k_is); (case l0 => k_is); (case c0 => k_is); (case k0 => k_is); (case a1 => k_is); (case l1 => k_is); (case c1 => k_is); (case k1 => k_is); (case a2 => k_is); (case l2 => k_is); (case c2 => k_is); (case k2 => k_is); (case a3 => k_is); (case l3 => k_is); (case c3 => k_is); (case k3 => k_is); (case a4 => k_is); (case l4 => k_is); (case c4 => k_is); (case k4 => k_is); (case a5 => k_is); (case l5 => k_is); (case c5 => k_is); (case k5 => k_is); (case a6 => k_is); (case l6 => k_is); (case c6 => k_is); (case k6 => k_is); (case a7 => k_is); (case l7 => k_is); (case c7 => k_is); (case k7 => k_is); (case a8 => k_is); (case l8 => k_is); (case c8 => k_is); (case k8 => k_is); (case a9 => k_is); (case l9 => k_is); (case c9 => k_is); (case k9 => k_is); (case a10 => k_is); (case l10 => k_is); (case c10 => k_is); (case k10 => k_is); (case a11 => k_is); (case l11 => k_is); (case c11 => k_is); (case k11 => k_is); (case a12 => k_is); (case l12 => k_is); (case c12 => k_is); (case k12 => k_is); (case z_abs => k_is); (case z_enumerate => k_is); (case z_int => k_is); (case z_len => k_is); (case z_list => k_is); (case z_max => k_is); (case z_range => k_is); (case z_set => k_is); (case z_sorted => k_is)

