import PyProof.Rows.All
import Wide.All
import OpenK.AllK
import Wide.FinOn
import PyProof.P3Statements
import PyProof.EqLayable
import HandS.ForMost
import HandS.SortInts
import HandS.Deep
import HandS.Conv
import PySem.Challenge.RW_jobsagain_k59_offsets_as_rhythms
set_option Elab.async false
set_option linter.all false
set_option maxRecDepth 100000
set_option maxHeartbeats 4000000
/-! Core: Python's values as trees, a def's slots, what expressions and statements do to them; no heap. -/
namespace VE
open PySem

abbrev D := PyData
/-- a slot of a def: no value; a value; a list that this def alone holds and may change; the law's draw state; the script -/
inductive Slot where
  | no
  | sh (x : D)
  | ow (xs : List D)
  | st (k : Nat)
  | fz (ns : List Int)
abbrev En := List Slot
/-- what the draws leave -/
structure W where
  pos : Int
  cells : List Int
abbrev M := StateT W Option
def fail {α : Type} : M α := fun _ => none
def lift {α : Type} (o : Option α) : M α := fun w => o.map fun a => (a, w)
@[simp] theorem lift_some {α : Type} (a : α) : lift (some a) = pure a := rfl
@[simp] theorem lift_none {α : Type} : lift (none : Option α) = fail := rfl
@[simp] theorem fail_bind {α β : Type} (f : α → M β) : (fail >>= f) = fail := rfl
theorem bind_some {α β : Type} {x : M α} {k : α → M β} {w : W} {r : β × W} : (x >>= k) w = some r ↔ ∃ a w1, x w = some (a, w1) ∧ k a w1 = some r := by
  show (StateT.bind x k w) = some r ↔ _
  unfold StateT.bind
  cases h : x w with
  | none => simp [bind, Option.bind]
  | some p =>
    obtain ⟨a, w1⟩ := p
    show k a w1 = some r ↔ _
    constructor
    · intro q; exact ⟨a, w1, rfl, q⟩
    · rintro ⟨a', w', e, q⟩; cases e; exact q
theorem lift_eq {α : Type} {o : Option α} {w : W} {r : α × W} : lift o w = some r ↔ o = some r.1 ∧ w = r.2 := by
  obtain ⟨a, w1⟩ := r
  cases o with
  | none => simp [lift]
  | some b =>
    show some (b, w) = some (a, w1) ↔ some b = some a ∧ w = w1
    constructor
    · intro h; cases h; exact ⟨rfl, rfl⟩
    · rintro ⟨h1, h2⟩; cases h1; cases h2; rfl
theorem pure_eq {α : Type} {a : α} {w : W} {r : α × W} : (pure a : M α) w = some r ↔ a = r.1 ∧ w = r.2 := by
  obtain ⟨b, w1⟩ := r
  show (some (a, w) : Option (α × W)) = some (b, w1) ↔ a = b ∧ w = w1
  constructor
  · intro h; cases h; exact ⟨rfl, rfl⟩
  · rintro ⟨h1, h2⟩; cases h1; cases h2; rfl

theorem lift_get {α : Type} {o : Option α} {w w' : W} {y : α} (h : lift o w = some (y, w')) : o = some y ∧ w' = w := by
  obtain ⟨h1, h2⟩ := lift_eq.mp h
  exact ⟨h1, h2.symm⟩
theorem pure_get {α : Type} {a : α} {w w' : W} {y : α} (h : (pure a : M α) w = some (y, w')) : a = y ∧ w' = w := by
  obtain ⟨h1, h2⟩ := pure_eq.mp h
  exact ⟨h1, h2.symm⟩
abbrev EF := En → M D
abbrev TF := En → M Bool
abbrev AF := En → M (List D)
/-- how a statement ends -/
inductive Fl where
  | nx | bk | ct
  | rt (x : D)
abbrev SF := En → M (Fl × En)

/-! ### expressions -/
/-- a value, not a list that may be changed -/
def xVar (i : Nat) : EF := fun env => match env[i]? with
  | some (.sh x) => pure x
  | _ => fail
/-- either -/
def xVarO (i : Nat) : EF := fun env => match env[i]? with
  | some (.sh x) => pure x
  | some (.ow xs) => pure (.list xs)
  | _ => fail
def xC (x : D) : EF := fun _ => pure x
def flat : D → Bool
  | .none => true
  | .bool _ => true
  | .int _ => true
  | .str _ => true
  | _ => false
def xFlat (f : EF) : EF := fun env => do
  let x ← f env
  if flat x then pure x else fail
def xOp (F : D → D → Option D) (f g : EF) : EF := fun env => do
  let a ← f env
  let b ← g env
  lift (F a b)
def xUn (F : D → Option D) (f : EF) : EF := fun env => do
  let a ← f env
  lift (F a)
def xCall (F : List D → Option D) (f : AF) : EF := fun env => do
  let xs ← f env
  lift (F xs)
def xNil : AF := fun _ => pure []
def xCons (f : EF) (g : AF) : AF := fun env => do
  let a ← f env
  let r ← g env
  pure (a :: r)
def asB : D → Option Bool
  | .bool b => some b
  | _ => none
/-- the value of a comparison, as a test -/
def xTest (f : EF) : TF := fun env => do
  let a ← f env
  lift (asB a)
def truth : D → Option Bool
  | .none => some false
  | .bool b => some b
  | .int i => some (i != 0)
  | .list xs => some (!xs.isEmpty)
  | .tuple xs => some (!xs.isEmpty)
  | _ => none
def xTruth (f : EF) : TF := fun env => do
  let a ← f env
  lift (truth a)
def xNot (f : TF) : TF := fun env => do
  let a ← f env
  pure (!a)
def xAnd (f g : TF) : TF := fun env => do
  let a ← f env
  if a then g env else pure false
def xOr (f g : TF) : TF := fun env => do
  let a ← f env
  if a then pure true else g env
def xNotV (f : EF) : EF := fun env => do
  let a ← f env
  match a with
  | .bool b => pure (.bool (!b))
  | _ => fail
def xAndV (f g : EF) : EF := fun env => do
  let a ← f env
  match a with
  | .bool b => if b then g env else pure (.bool false)
  | _ => fail
def xOrV (f g : EF) : EF := fun env => do
  let a ← f env
  match a with
  | .bool b => if b then pure (.bool true) else g env
  | _ => fail
def xIf (t : TF) (f g : EF) : EF := fun env => do
  let a ← t env
  if a then f env else g env
/-- a op b op' c -/
def xChain (F F' : D → D → Option D) (f g h : EF) : EF := fun env => do
  let a ← f env
  let b ← g env
  let k ← lift ((F a b).bind asB)
  if k then do
    let c ← h env
    let k' ← lift ((F' b c).bind asB)
    pure (.bool k')
  else pure (.bool false)
/-- the most items of a list -/
def line : Nat := 16777216
def xTup (f : AF) : EF := fun env => do
  let xs ← f env
  if xs.length ≤ line then pure (.tuple xs) else fail
/-- a new list -/
abbrev LF := En → M (List D)
def xLst (f : AF) : LF := fun env => do
  let xs ← f env
  if xs.length ≤ line then pure xs else fail
def xFlatL (f : LF) : LF := fun env => do
  let xs ← f env
  if xs.all flat then pure xs else fail
def xAs (f : LF) : EF := fun env => do
  let xs ← f env
  pure (.list xs)

/-! ### what is walked, targets -/
abbrev IF := En → M (List D)
abbrev GF := D → En → Option En
def items : D → Option (List D)
  | .list xs => some xs
  | .tuple xs => some xs
  | _ => none
def lstOf : D → Option (List D)
  | .list xs => some xs
  | _ => none
def tupOf : D → Option (List D)
  | .tuple xs => some xs
  | _ => none
def iLst (f : EF) : IF := fun env => do
  let x ← f env
  lift (lstOf x)
def iTupl (f : EF) : IF := fun env => do
  let x ← f env
  lift (tupOf x)
/-- the list that this def alone holds -/
def iOwn (i : Nat) : IF := fun env => match env[i]? with
  | some (.ow xs) => pure xs
  | _ => fail
def rangeL (lo hi : Int) : List D := (List.range (hi - lo).toNat).map fun (k : Nat) => PyData.int (lo + (k : Int))
def small62 (i : Int) : Bool := decide (-(2 ^ 62) ≤ i) && decide (i < 2 ^ 62)
def iR1 (f : AF) : IF := fun env => do
  let xs ← f env
  match xs with
  | [.int j] => if small62 j then pure (rangeL 0 j) else fail
  | _ => fail
def iR2 (f : AF) : IF := fun env => do
  let xs ← f env
  match xs with
  | [.int i, .int j] => if small62 i && small62 j then pure (rangeL i j) else fail
  | _ => fail
def gNm (i : Nat) : GF := fun x env => some (env.set i (.sh x))
abbrev GsF := List D → En → Option En
def gsNil : GsF := fun xs env => match xs with
  | [] => some env
  | _ => none
def gsCons (g : GF) (h : GsF) : GsF := fun xs env => match xs with
  | x :: r => (g x env).bind (h r)
  | _ => none
def gTp (n : Nat) (h : GsF) : GF := fun x env => match x with
  | .tuple xs => if xs.length = n then h xs env else none
  | _ => none
/-- some slots forgotten: none of them is a list that may be changed -/
def wipeE (env : En) : List Nat → Option En
  | [] => some env
  | v :: vs => (wipeE env vs).bind fun e => match e[v]? with
    | some (.ow _) => none
    | some _ => some (e.set v .no)
    | none => none
def compL (g : GF) (t : TF) (f : EF) (env : En) : List D → M (List D)
  | [] => pure []
  | x :: r => do
    let env1 ← lift (g x env)
    let b ← t env1
    if b then do
      let y ← f env1
      let ys ← compL g t f env r
      pure (y :: ys)
    else compL g t f env r
/-- [f for g in it if t] -/
def xComp (vs : List Nat) (it : IF) (g : GF) (t : TF) (f : EF) : LF := fun env => do
  let xs ← it env
  let e ← lift (wipeE env vs)
  if xs.length ≤ line then compL g t f e xs else fail
def tYesF : TF := fun _ => pure true

/-! ### statements -/
def sPass : SF := fun env => pure (.nx, env)
def sSeq (f g : SF) : SF := fun env => do
  let (fl, env1) ← f env
  match fl with
  | .nx => g env1
  | .bk => pure (.bk, env1)
  | .ct => pure (.ct, env1)
  | .rt x => pure (.rt x, env1)
def sBreak : SF := fun env => pure (.bk, env)
def sCont : SF := fun env => pure (.ct, env)
def sRet (f : EF) : SF := fun env => do
  let x ← f env
  pure (.rt x, env)
def sRetN : SF := fun env => pure (.rt .none, env)
def sIf (t : TF) (f g : SF) : SF := fun env => do
  let b ← t env
  if b then f env else g env
def sAsg (f : EF) (g : GF) : SF := fun env => do
  let x ← f env
  let env1 ← lift (g x env)
  pure (.nx, env1)
/-- name = a new list that this def may change -/
def sOwn (i : Nat) (f : LF) : SF := fun env => do
  let xs ← f env
  pure (.nx, env.set i (.ow xs))
def sExpr (f : EF) : SF := fun env => do
  let _ ← f env
  pure (.nx, env)
def sPar (i j : Nat) (f : AF) : SF := fun env => do
  let xs ← f env
  match xs with
  | [x, y] => pure (.nx, (env.set i (.sh x)).set j (.sh y))
  | _ => fail
/-- the list at i may be changed no more -/
def thaw (i : Nat) (env : En) : En := match env[i]? with
  | some (.ow xs) => env.set i (.sh (.list xs))
  | _ => env
def sThaw (i : Nat) (f : SF) : SF := fun env => f (thaw i env)
def sApp (i : Nat) (f : EF) : SF := fun env => do
  let x ← f env
  match env[i]? with
  | some (.ow xs) => if xs.length < line then pure (.nx, env.set i (.ow (xs ++ [x]))) else fail
  | _ => fail
def ixN (n : Nat) (i : Int) : Option Nat := if 0 ≤ i then (if i < n then some i.toNat else none) else if -(n : Int) ≤ i then some (i + n).toNat else none
/-- xs[k] = e -/
def sSet (i : Nat) (k f : EF) : SF := fun env => do
  let x ← f env
  let z ← k env
  match env[i]?, z with
  | some (.ow xs), .int z => match ixN xs.length z with
    | some j => pure (.nx, env.set i (.ow (xs.set j x)))
    | none => fail
  | _, _ => fail
def sFor (it : IF) (g : GF) (body : SF) : SF := fun env => do
  let xs ← it env
  go xs env
where
  go : List D → SF
  | [], env => pure (.nx, env)
  | x :: r, env => do
    let env1 ← lift (g x env)
    let (fl, env2) ← body env1
    match fl with
    | .nx => go r env2
    | .ct => go r env2
    | .bk => pure (.nx, env2)
    | .rt y => pure (.rt y, env2)
def sWhile (n : Nat) (t : TF) (body : SF) : SF := fun env => go n env
where
  go : Nat → SF
  | 0, _ => fail
  | n + 1, env => do
    let b ← t env
    if b then do
      let (fl, env2) ← body env
      match fl with
      | .nx => go n env2
      | .ct => go n env2
      | .bk => pure (.nx, env2)
      | .rt y => pure (.rt y, env2)
    else pure (.nx, env)

/-! ### the law's draws -/
def takeW (most : Int) : M Int := fun w =>
  if 0 < most ∧ most < 1073741824 ∧ 0 < w.cells.length then
    let a := (w.pos % (w.cells.length : Int)).toNat
    match w.cells[a]? with
    | none => none
    | some cell =>
      if 1000000000000000000 ≤ cell then some (cell % most, ⟨w.pos, w.cells.set a (cell / most)⟩)
      else
        let p := w.pos + 1
        let m1 := (cell * 48271 + p * 69621) % 2147483647
        let m2 := (m1 * 16807 + p * 7919) % 1000000007
        some (m2 / 7 % most, ⟨p, w.cells⟩)
  else none
/-- the call _law_take(state, f) -/
def xTake (i : Nat) (f : EF) : EF := fun env => do
  let y ← f env
  match env[i]?, y with
  | some (.st 1), .int most => do
    let r ← takeW most
    pure (.int r)
  | _, _ => fail
def stateCells (ns : List Int) : List Int :=
  let c := (ns.take 63).map fun i => if i < 0 then -i else i
  if c.length = 0 then [0] else c

/-! ### values -/
def fAdd : D → D → Option D
  | .int i, .int j => some (.int (i + j))
  | .list xs, .list ys => if xs.length + ys.length ≤ line then some (.list (xs ++ ys)) else none
  | _, _ => none
def fSub : D → D → Option D
  | .int i, .int j => some (.int (i - j))
  | _, _ => none
def inW (i : Int) : Bool := decide (-(2 ^ 64) < i) && decide (i < 2 ^ 64)
def fMul : D → D → Option D
  | .int i, .int j => if inW i || inW j then some (.int (i * j)) else none
  | _, _ => none
def fDiv : D → D → Option D
  | .int i, .int j => if 0 < j ∧ j < 1073741824 then some (.int (i / j)) else none
  | _, _ => none
def fMod : D → D → Option D
  | .int i, .int j => if 0 < j then some (.int (i % j)) else none
  | _, _ => none
def fNeg : D → Option D
  | .int i => some (.int (-i))
  | _ => none
def fLt : D → D → Option D
  | .int i, .int j => some (.bool (decide (i < j)))
  | _, _ => none
def fLe : D → D → Option D
  | .int i, .int j => some (.bool (decide (i ≤ j)))
  | _, _ => none
def fGt : D → D → Option D
  | .int i, .int j => some (.bool (decide (j < i)))
  | _, _ => none
def fGe : D → D → Option D
  | .int i, .int j => some (.bool (decide (j ≤ i)))
  | _, _ => none
def shp (x : D) : Bool := SeqAt.shaped x
def fEq (x y : D) : Option D := if shp x && shp y then some (.bool (PyData.eqv x y)) else none
def fNe (x y : D) : Option D := if shp x && shp y then some (.bool (!PyData.eqv x y)) else none
def isNone : D → Bool
  | .none => true
  | _ => false
def fIsN (x : D) : Option D := some (.bool (isNone x))
def fNotN (x : D) : Option D := some (.bool (!isNone x))
/-- x in xs, all flat -/
def fIn (x y : D) : Option D := (items y).bind fun ys => if flat x && ys.all flat then some (.bool (ys.any fun z => PyData.eqv z x)) else none
def fNotIn (x y : D) : Option D := (items y).bind fun ys => if flat x && ys.all flat then some (.bool (!ys.any fun z => PyData.eqv z x)) else none
def atI (xs : List D) (i : Int) : Option D := (ixN xs.length i).bind fun j => xs[j]?
def fIx : D → D → Option D
  | .list xs, .int i => atI xs i
  | .tuple xs, .int i => atI xs i
  | _, _ => none
def sIx (n d : Nat) : Option Int → Nat
  | none => d
  | some i => if i < 0 then (i + n).toNat else min i.toNat n
def cut (xs : List D) (lo hi : Option Int) : List D := (xs.drop (sIx xs.length 0 lo)).take (sIx xs.length xs.length hi - sIx xs.length 0 lo)
abbrev OF := En → M (Option Int)
def oNo : OF := fun _ => pure none
def oSome (f : EF) : OF := fun env => do
  let x ← f env
  match x with
  | .int i => pure (some i)
  | _ => fail
/-- script[l:h] -/
def xCutZ (i : Nat) (l h : OF) : LF := fun env => do
  let lo ← l env
  let hi ← h env
  match env[i]? with
  | some (.fz ns) => pure (cut (ns.map .int) lo hi)
  | _ => fail
def xSlice (f : EF) (l h : OF) : LF := fun env => do
  let x ← f env
  let lo ← l env
  let hi ← h env
  match x with
  | .list xs => pure (cut xs lo hi)
  | _ => fail
def asInts : List D → Option (List Int)
  | [] => some []
  | .int i :: r => (asInts r).map (i :: ·)
  | _ => none
def asBools : List D → Option (List Bool)
  | [] => some []
  | .bool i :: r => (asBools r).map (i :: ·)
  | _ => none
def fLen : List D → Option D
  | [.list xs] => some (.int xs.length)
  | [.tuple xs] => some (.int xs.length)
  | _ => none
def fSum : List D → Option D
  | [.list xs] => (asInts xs).map fun ns => .int ns.sum
  | _ => none
def fAbs : List D → Option D
  | [.int i] => some (.int (if i < 0 then -i else i))
  | _ => none
def fInt : List D → Option D
  | [.int i] => some (.int i)
  | [.bool k] => some (.int (if k then 1 else 0))
  | _ => none
def maxI (a : Int) (r : List Int) : Int := r.foldl (fun m x => if m < x then x else m) a
def minI (a : Int) (r : List Int) : Int := r.foldl (fun m x => if x < m then x else m) a
def fMax : List D → Option D
  | [.list xs] => (asInts xs).bind fun ns => match ns with
    | a :: r => some (.int (maxI a r))
    | [] => none
  | [.int i, .int j] => some (.int (if j > i then j else i))
  | _ => none
def fMin : List D → Option D
  | [.list xs] => (asInts xs).bind fun ns => match ns with
    | a :: r => some (.int (minI a r))
    | [] => none
  | [.int i, .int j] => some (.int (if j < i then j else i))
  | _ => none
def fAny : List D → Option D
  | [.list xs] => (asBools xs).map fun bs => .bool (bs.any id)
  | _ => none
def fAll : List D → Option D
  | [.list xs] => (asBools xs).map fun bs => .bool (bs.all id)
  | _ => none
/-- list(x), a new list -/
def fList : D → Option (List D)
  | .list xs => some xs
  | .tuple xs => some xs
  | _ => none
def xList (f : EF) : LF := fun env => do
  let x ← f env
  lift (fList x)
def insI (x : Int) : List Int → List Int
  | [] => [x]
  | y :: r => if x ≤ y then x :: y :: r else y :: insI x r
def sortI (xs : List Int) : List Int := xs.foldr insI []
def fSorted : D → Option (List D)
  | .list xs => (asInts xs).bind fun ns => if ns.length ≤ line then some ((sortI ns).map .int) else none
  | _ => none
def xSorted (f : EF) : LF := fun env => do
  let x ← f env
  lift (fSorted x)
/-- xs.index(y): the first one -/
def fIndex : D → List D → Option D
  | .list xs, [y] => if flat y && xs.all flat then (xs.findIdx? fun z => PyData.eqv z y).map fun (j : Nat) => PyData.int (j : Int) else none
  | _, _ => none
def xMeth (F : D → List D → Option D) (f : EF) (g : AF) : EF := fun env => do
  let x ← f env
  let ys ← g env
  lift (F x ys)

/-- a def: np parameters, nl other names -/
def runDef (np nl : Nat) (body : SF) (xs : List D) : Option D :=
  if xs.length = np then
    match body (xs.map .sh ++ List.replicate nl .no) ⟨0, []⟩ with
    | some ((.rt v, _), _) => some v
    | some ((.nx, _), _) => some .none
    | _ => none
  else none
/-- zip, enumerate -/
def zipD : List D → List D → List D
  | x :: xs, y :: ys => .tuple [x, y] :: zipD xs ys
  | _, _ => []
def enumD : Nat → List D → List D
  | n, x :: xs => .tuple [.int (n : Int), x] :: enumD (n + 1) xs
  | _, [] => []
def iZipV (fs : AF) : IF := fun env => do
  let vs ← fs env
  match vs with
  | [.list xs, .list ys] => pure (zipD xs ys)
  | _ => fail
def iEnumV (fs : AF) : IF := fun env => do
  let vs ← fs env
  match vs with
  | [.list xs] => pure (enumD 0 xs)
  | _ => fail
/-- x in xs, deep -/
def fInD : D → D → Option D
  | x, .list ys => if shp x && shp (.list ys) then some (.bool (ys.any fun z => PyData.eqv z x)) else none
  | _, _ => none
def fNotInD : D → D → Option D
  | x, .list ys => if shp x && shp (.list ys) then some (.bool (!ys.any fun z => PyData.eqv z x)) else none
  | _, _ => none
/-- list(range(n)) -/
def xListR1 (f : EF) : LF := fun env => do
  let x ← f env
  match x with
  | .int j => if decide (0 ≤ j) && decide (j ≤ 16777216) then pure (rangeL 0 j) else fail
  | _ => fail
end VE

/-! Lay: what Core says of a def holds in the model, over the hand layer. -/
namespace VE
open PySem PySem.Spec L2
open PyProof.Rows hiding St

abbrev SS := L2.St
theorem line_eq : line = sizeLine := by rw [sizeLine_eq]; rfl

/-! ### values in a heap -/
/-- a tuple at a, of the tracked heap beyond T, or of the written part -/
def TupAt (K : PySem.W.Frag) (T : Addr → Prop) (H : Hp) (a : Addr) (xs : List V) : Prop :=
  (¬ T a ∧ Rd H a (.tup xs)) ∨
    ∃ (o : Obj) (its : Array Value) (n : Nat), K.lookup a = some o ∧ o.cls = .type "tuple" ∧ o.data = .seq its n ∧ its.size ≤ sizeLine ∧ Vals xs its.toList
/-- a list that is read only, likewise -/
def LstAt (K : PySem.W.Frag) (T : Addr → Prop) (H : Hp) (a : Addr) (xs : List V) : Prop :=
  (¬ T a ∧ Rd H a (.lst xs)) ∨
    ∃ (o : Obj) (its : Array Value) (n : Nat), K.lookup a = some o ∧ o.cls = .type "list" ∧ o.dict = none ∧ o.data = .seq its n ∧ its.size ≤ sizeLine ∧ Vals xs its.toList
theorem LstAt.sq {K : PySem.W.Frag} {T : Addr → Prop} {H : Hp} {a : Addr} {xs : List V} (h : LstAt K T H a xs) : SqL K H a xs := h.elim (fun q => .inl q.2) .inr
theorem LstAt.mono {K : PySem.W.Frag} {T T' : Addr → Prop} {H H' : Hp} {a : Addr} {vs : List V} (k : ∀ a o, ¬ T a → H a = some o → H' a = some o) (t : ∀ a, T' a → T a) (q : LstAt K T H a vs) : LstAt K T' H' a vs := by
  rcases q with ⟨n, q | ⟨o, q⟩⟩ | q
  · exact .inl ⟨fun z => n (t _ z), .inl (k _ _ n q)⟩
  · exact .inl ⟨fun z => n (t _ z), .inr ⟨o, k _ _ n q⟩⟩
  · exact .inr q
theorem LstAt.fresh {K : PySem.W.Frag} {T : Addr → Prop} {H : Hp} {a p : Addr} {vs : List V} (hp : H p = none) (q : LstAt K T H a vs) : LstAt K (fun b => T b ∨ b = p) H a vs := by
  rcases q with ⟨n, q | ⟨o, q⟩⟩ | q
  · exact .inl ⟨fun z => z.elim n fun e => ne_of_none q hp e, .inl q⟩
  · exact .inl ⟨fun z => z.elim n fun e => ne_of_none q hp e, .inr ⟨o, q⟩⟩
  · exact .inr q
theorem TupAt.sq {K : PySem.W.Frag} {T : Addr → Prop} {H : Hp} {a : Addr} {xs : List V} (h : TupAt K T H a xs) : SqT K H a xs := h.elim (fun q => .inl q.2) .inr
mutual
inductive Rep (K : PySem.W.Frag) (T : Addr → Prop) (H : Hp) : V → PyData → Prop
  | non : Rep K T H .non .none
  | bl (b : Bool) : Rep K T H (.bl b) (.bool b)
  | int (i : Int) : Rep K T H (.int i) (.int i)
  | str (x : Str) : Rep K T H (.str x) (.str x)
  | lst {a : Addr} {vs : List V} {xs : List PyData} : ¬ T a → H a = some (.lst vs) → Reps K T H vs xs → Rep K T H (.ref a) (.list xs)
  | tup {a : Addr} {vs : List V} {xs : List PyData} : TupAt K T H a vs → Reps K T H vs xs → Rep K T H (.ref a) (.tuple xs)
inductive Reps (K : PySem.W.Frag) (T : Addr → Prop) (H : Hp) : List V → List PyData → Prop
  | nil : Reps K T H [] []
  | cons {v : V} {vs : List V} {x : PyData} {xs : List PyData} : Rep K T H v x → Reps K T H vs xs → Reps K T H (v :: vs) (x :: xs)
end
section
variable {K : PySem.W.Frag} {T T' : Addr → Prop} {H H' : Hp}
theorem TupAt.mono {a : Addr} {vs : List V} (k : ∀ a o, ¬ T a → H a = some o → H' a = some o) (t : ∀ a, T' a → T a) (q : TupAt K T H a vs) : TupAt K T' H' a vs := by
  rcases q with ⟨n, q | ⟨o, q⟩⟩ | q
  · exact .inl ⟨fun z => n (t _ z), .inl (k _ _ n q)⟩
  · exact .inl ⟨fun z => n (t _ z), .inr ⟨o, k _ _ n q⟩⟩
  · exact .inr q
theorem TupAt.fresh {a p : Addr} {vs : List V} (hp : H p = none) (q : TupAt K T H a vs) : TupAt K (fun b => T b ∨ b = p) H a vs := by
  rcases q with ⟨n, q | ⟨o, q⟩⟩ | q
  · exact .inl ⟨fun z => z.elim n fun e => ne_of_none q hp e, .inl q⟩
  · exact .inl ⟨fun z => z.elim n fun e => ne_of_none q hp e, .inr ⟨o, q⟩⟩
  · exact .inr q
mutual
theorem Rep.mono (k : ∀ a o, ¬ T a → H a = some o → H' a = some o) (t : ∀ a, T' a → T a) : ∀ (x : PyData) {v : V}, Rep K T H v x → Rep K T' H' v x
  | .none, _, h => by cases h; exact .non
  | .bool b, _, h => by cases h; exact .bl b
  | .int i, _, h => by cases h; exact .int i
  | .str i, _, h => by cases h; exact .str i
  | .list xs, _, h => by
    cases h with
    | lst n e r => exact .lst (fun q => n (t _ q)) (k _ _ n e) (Reps.mono k t xs r)
  | .tuple xs, _, h => by
    cases h with
    | tup e r => exact .tup (e.mono k t) (Reps.mono k t xs r)
  | .dict _, _, h => by cases h
theorem Reps.mono (k : ∀ a o, ¬ T a → H a = some o → H' a = some o) (t : ∀ a, T' a → T a) : ∀ (xs : List PyData) {vs : List V}, Reps K T H vs xs → Reps K T' H' vs xs
  | [], _, h => by cases h; exact .nil
  | x :: xs, _, h => by
    cases h with
    | cons h1 h2 => exact .cons (Rep.mono k t x h1) (Reps.mono k t xs h2)
end
mutual
theorem Rep.fresh {p : Addr} (hp : H p = none) : ∀ (x : PyData) {v : V}, Rep K T H v x → Rep K (fun b => T b ∨ b = p) H v x
  | .none, _, h => by cases h; exact .non
  | .bool b, _, h => by cases h; exact .bl b
  | .int i, _, h => by cases h; exact .int i
  | .str i, _, h => by cases h; exact .str i
  | .list xs, _, h => by
    cases h with
    | lst n e r => exact .lst (fun q => q.elim n fun z => ne_of_none e hp z) e (Reps.fresh hp xs r)
  | .tuple xs, _, h => by
    cases h with
    | tup e r => exact .tup (e.fresh hp) (Reps.fresh hp xs r)
  | .dict _, _, h => by cases h
theorem Reps.fresh {p : Addr} (hp : H p = none) : ∀ (xs : List PyData) {vs : List V}, Reps K T H vs xs → Reps K (fun b => T b ∨ b = p) H vs xs
  | [], _, h => by cases h; exact .nil
  | x :: xs, _, h => by
    cases h with
    | cons h1 h2 => exact .cons (Rep.fresh hp x h1) (Reps.fresh hp xs h2)
end
theorem Rep.mon {x : PyData} {v : V} (r : Rep K T H v x) (k : ∀ a o, ¬ T a → H a = some o → H' a = some o) (t : ∀ a, T' a → T a) : Rep K T' H' v x := Rep.mono k t x r
theorem Reps.mon {x : List PyData} {v : List V} (r : Reps K T H v x) (k : ∀ a o, ¬ T a → H a = some o → H' a = some o) (t : ∀ a, T' a → T a) : Reps K T' H' v x := Reps.mono k t x r
theorem Reps.length : ∀ {xs : List PyData} {vs : List V}, Reps K T H vs xs → vs.length = xs.length
  | [], _, h => by cases h; rfl
  | x :: xs, _, h => by
    cases h with
    | cons h1 h2 => rw [List.length_cons, List.length_cons, Reps.length h2]
theorem Reps.get : ∀ {xs : List PyData} {vs : List V} {i : Nat} {x : PyData}, Reps K T H vs xs → xs[i]? = some x → ∃ v, vs[i]? = some v ∧ Rep K T H v x
  | [], _, _, _, h, e => by simp at e
  | y :: xs, _, 0, x, h, e => by
    cases h with
    | cons h1 h2 =>
      have e' : y = x := by simpa using e
      subst e'
      exact ⟨_, rfl, h1⟩
  | y :: xs, _, i + 1, x, h, e => by
    cases h with
    | cons h1 h2 =>
      obtain ⟨v, q, r⟩ := Reps.get (i := i) (x := x) h2 (by simpa using e)
      exact ⟨v, by simpa using q, r⟩
theorem Reps.append : ∀ {xs ys : List PyData} {vs ws : List V}, Reps K T H vs xs → Reps K T H ws ys → Reps K T H (vs ++ ws) (xs ++ ys)
  | [], _, _, _, h, q => by cases h; exact q
  | x :: xs, _, _, _, h, q => by
    cases h with
    | cons h1 h2 => exact .cons h1 (Reps.append h2 q)
theorem Reps.set : ∀ {xs : List PyData} {vs : List V} (j : Nat) {v : V} {x : PyData}, Reps K T H vs xs → Rep K T H v x → Reps K T H (vs.set j v) (xs.set j x)
  | [], _, _, _, _, h, q => by cases h; exact .nil
  | y :: xs, _, 0, _, _, h, q => by
    cases h with
    | cons h1 h2 => exact .cons q h2
  | y :: xs, _, j + 1, _, _, h, q => by
    cases h with
    | cons h1 h2 => exact .cons h1 (Reps.set j h2 q)
theorem Reps.drop : ∀ {xs : List PyData} {vs : List V} (n : Nat), Reps K T H vs xs → Reps K T H (vs.drop n) (xs.drop n)
  | _, _, 0, h => h
  | [], _, n + 1, h => by cases h; exact .nil
  | x :: xs, _, n + 1, h => by
    cases h with
    | cons h1 h2 => exact Reps.drop n h2
theorem Reps.take : ∀ {xs : List PyData} {vs : List V} (n : Nat), Reps K T H vs xs → Reps K T H (vs.take n) (xs.take n)
  | _, _, 0, h => .nil
  | [], _, n + 1, h => by cases h; exact .nil
  | x :: xs, _, n + 1, h => by
    cases h with
    | cons h1 h2 => exact .cons h1 (Reps.take n h2)
theorem Rep.of_flat {v : V} {x : PyData} (h : Rep K T H v x) (f : flat x = true) : Rep K T' H' v x := by
  cases h with
  | non => exact .non
  | bl b => exact .bl b
  | int i => exact .int i
  | str s => exact .str s
  | lst => cases f
  | tup => cases f
theorem Reps.of_ints : ∀ {xs : List PyData} {ns : List Int} {vs : List V}, Reps K T H vs xs → asInts xs = some ns → vs = ns.map V.int ∧ xs = ns.map PyData.int
  | [], ns, _, h, e => by
    cases h
    have : ns = [] := by simpa [asInts] using e.symm
    subst this
    exact ⟨rfl, rfl⟩
  | .int i :: xs, ns, _, h, e => by
    cases h with
    | cons h1 h2 =>
      cases h1
      unfold asInts at e
      cases q : asInts xs with
      | none => rw [q] at e; simp at e
      | some ms =>
        rw [q] at e
        have e' : i :: ms = ns := by simpa using e
        subst e'
        obtain ⟨h3, h4⟩ := Reps.of_ints h2 q
        exact ⟨by rw [h3]; rfl, by rw [h4]; rfl⟩
  | .none :: xs, ns, _, h, e => by simp [asInts] at e
  | .bool _ :: xs, ns, _, h, e => by simp [asInts] at e
  | .str _ :: xs, ns, _, h, e => by simp [asInts] at e
  | .list _ :: xs, ns, _, h, e => by simp [asInts] at e
  | .tuple _ :: xs, ns, _, h, e => by simp [asInts] at e
  | .dict _ :: xs, ns, _, h, e => by simp [asInts] at e
theorem Reps.of_bools : ∀ {xs : List PyData} {ns : List Bool} {vs : List V}, Reps K T H vs xs → asBools xs = some ns → vs = ns.map V.bl ∧ xs = ns.map PyData.bool
  | [], ns, _, h, e => by
    cases h
    have : ns = [] := by simpa [asBools] using e.symm
    subst this
    exact ⟨rfl, rfl⟩
  | .bool i :: xs, ns, _, h, e => by
    cases h with
    | cons h1 h2 =>
      cases h1
      unfold asBools at e
      cases q : asBools xs with
      | none => rw [q] at e; simp at e
      | some ms =>
        rw [q] at e
        have e' : i :: ms = ns := by simpa using e
        subst e'
        obtain ⟨h3, h4⟩ := Reps.of_bools h2 q
        exact ⟨by rw [h3]; rfl, by rw [h4]; rfl⟩
  | .none :: xs, ns, _, h, e => by simp [asBools] at e
  | .int _ :: xs, ns, _, h, e => by simp [asBools] at e
  | .str _ :: xs, ns, _, h, e => by simp [asBools] at e
  | .list _ :: xs, ns, _, h, e => by simp [asBools] at e
  | .tuple _ :: xs, ns, _, h, e => by simp [asBools] at e
  | .dict _ :: xs, ns, _, h, e => by simp [asBools] at e
theorem Reps.ints_map : ∀ (ns : List Int), Reps K T H (ns.map V.int) (ns.map PyData.int)
  | [] => .nil
  | n :: r => .cons (.int n) (Reps.ints_map r)
mutual
theorem Rep.dp : ∀ (x : PyData) {v : V}, Rep K T H v x → Dp K H v x
  | .none, _, h => by cases h; exact .non
  | .bool b, _, h => by cases h; exact .bl b
  | .int i, _, h => by cases h; exact .int i
  | .str i, _, h => by cases h; exact .str i
  | .list xs, _, h => by
    cases h with
    | lst n e r => exact .lst (SqL.of e) (Reps.dp xs r)
  | .tuple xs, _, h => by
    cases h with
    | tup e r => exact .tup e.sq (Reps.dp xs r)
  | .dict _, _, h => by cases h
theorem Reps.dp : ∀ (xs : List PyData) {vs : List V}, Reps K T H vs xs → DpAll K H vs xs
  | [], _, h => by cases h; exact .nil
  | x :: xs, _, h => by
    cases h with
    | cons h1 h2 => exact .cons (Rep.dp x h1) (Reps.dp xs h2)
end
end

/-! ### what a def stands in -/
/-- Z: what the draws may change; T: what is not to be read; H0: the heap at the entry -/
structure Gh where
  K : PySem.W.Frag
  Z : Addr → Prop
  T : Addr → Prop
  H0 : Hp
  sd : Addr
  sc : Addr
  kd : Nat
  dr : W → Hp → Prop
  zt : ∀ a, Z a → T a
  drk : ∀ w H H', dr w H → (∀ a, Z a → H' a = H a) → dr w H'
  one : kd = 1 → (∀ a, Z a ↔ a = sd ∨ a = sc) ∧ sd ≠ sc ∧ ∀ w H, dr w H ↔ (H sd = some (.lst [.int w.pos, .ref sc]) ∧ H sc = some (.lst (w.cells.map V.int)))
  two : kd = 2 → (∀ a, Z a ↔ a = sd) ∧ ∀ w H, dr w H ↔ ∃ c, w.cells = [c] ∧ H sd = some (.lst [.int w.pos, .int c])
structure Keep (Z : Addr → Prop) (H H' : Hp) : Prop where
  at_ : ∀ a o, ¬ Z a → H a = some o → H' a = some o
  live : ∀ a, H a ≠ none → H' a ≠ none
theorem Keep.refl (Z : Addr → Prop) (H : Hp) : Keep Z H H := ⟨fun _ _ _ e => e, fun _ e => e⟩
theorem Keep.trans {Z : Addr → Prop} {H H1 H2 : Hp} (a : Keep Z H H1) (b : Keep Z H1 H2) : Keep Z H H2 :=
  ⟨fun c o n e => b.at_ c o n (a.at_ c o n e), fun c e => b.live c (a.live c e)⟩
theorem Keep.of_same {Z : Addr → Prop} {H H' : Hp} (s : Same H H') : Keep Z H H' :=
  ⟨fun a o _ e => s a o e, fun a e => by
    cases q : H a with
    | none => exact absurd q e
    | some o => rw [s a o q]; simp⟩
def ownA (env : En) (σ : SS) (a : Addr) : Prop := ∃ (i : Nat) (xs : List PyData), env[i]? = some (.ow xs) ∧ σ[i]? = some (some (.ref a))
/-- what a value may not lean on -/
def av (g : Gh) (m : Bool) (env : En) (σ : SS) : Addr → Prop := fun a => g.T a ∨ (m = true ∧ ownA env σ a)
structure StOk (g : Gh) (env : En) (w : W) (σ : SS) (H : Hp) : Prop where
  len : σ.length = env.length
  sh : ∀ (i : Nat) x, env[i]? = some (.sh x) → ∃ v, σ[i]? = some (some v) ∧ Rep g.K (av g true env σ) H v x
  ow : ∀ (i : Nat) xs, env[i]? = some (.ow xs) → ∃ a vs, σ[i]? = some (some (.ref a)) ∧ H a = some (.lst vs) ∧ Reps g.K (av g true env σ) H vs xs ∧ g.H0 a = none ∧ ¬ g.T a
  st : ∀ (i k : Nat), env[i]? = some (.st k) → σ[i]? = some (some (.ref g.sd)) ∧ g.kd = k
  fz : ∀ (i : Nat) ns, env[i]? = some (.fz ns) → ∃ a, σ[i]? = some (some (.ref a)) ∧ LstAt g.K (av g true env σ) H a (ns.map V.int)
  dist : ∀ (i j : Nat) xs ys a, env[i]? = some (.ow xs) → env[j]? = some (.ow ys) → σ[i]? = some (some (.ref a)) → σ[j]? = some (some (.ref a)) → i = j
  live : ∀ a, g.T a → H a ≠ none
  keep : Keep g.Z g.H0 H
  dr : g.dr w H
theorem seqL_mono {K : PySem.W.Frag} {H H' : Hp} {a : Addr} {vs : List V} (h : ∀ o, H a = some o → H' a = some o) (q : SqL K H a vs) : SqL K H' a vs := by
  rcases q with (q | ⟨o, q⟩) | q
  · exact .inl (.inl (h _ q))
  · exact .inl (.inr ⟨o, h _ q⟩)
  · exact .inr q
section
variable {g : Gh} {m : Bool} {env : En} {w w' : W} {σ : SS} {H H' : Hp}
theorem av_z {a : Addr} (h : g.Z a) : av g m env σ a := .inl (g.zt a h)
theorem av_le {a : Addr} (h : av g m env σ a) : av g true env σ a := h.elim .inl fun q => .inr ⟨rfl, q.2⟩
theorem av_false {a : Addr} (h : av g false env σ a) : g.T a := h.elim id fun q => nomatch q.1
theorem StOk.owNT (I : StOk g env w σ H) {a : Addr} (h : ownA env σ a) : ¬ g.T a := by
  obtain ⟨i, xs, e1, e2⟩ := h
  obtain ⟨b, vs, q, _, _, _, n⟩ := I.ow i xs e1
  rw [e2] at q
  cases q
  exact n
theorem StOk.owLive (I : StOk g env w σ H) {a : Addr} (h : ownA env σ a) : H a ≠ none := by
  obtain ⟨i, xs, e1, e2⟩ := h
  obtain ⟨b, vs, q, e, _, _, n⟩ := I.ow i xs e1
  rw [e2] at q
  cases q
  rw [e]; simp
theorem StOk.avLive (I : StOk g env w σ H) {a : Addr} (h : av g m env σ a) : H a ≠ none := by
  rcases h with h | ⟨_, h⟩
  · exact I.live a h
  · exact I.owLive h
/-- an expression was reckoned -/
theorem StOk.step (I : StOk g env w σ H) (k : Keep g.Z H H') (d : g.dr w' H') : StOk g env w' σ H' where
  len := I.len
  sh := fun i x e => by
    obtain ⟨v, q, r⟩ := I.sh i x e
    exact ⟨v, q, r.mon (fun a o n e => k.at_ a o (fun z => n (av_z z)) e) fun _ q => q⟩
  ow := fun i xs e => by
    obtain ⟨a, vs, q, h, r, n, t⟩ := I.ow i xs e
    exact ⟨a, vs, q, k.at_ a _ (fun z => t (g.zt a z)) h, r.mon (fun a o n e => k.at_ a o (fun z => n (av_z z)) e) (fun _ q => q), n, t⟩
  st := I.st
  fz := fun i ns e => by
    obtain ⟨a, q, s⟩ := I.fz i ns e
    exact ⟨a, q, s.mono (fun a o n e => k.at_ a o (fun z => n (av_z z)) e) fun _ z => z⟩
  dist := I.dist
  live := fun a t => k.live a (I.live a t)
  keep := I.keep.trans k
  dr := d
theorem StOk.same (I : StOk g env w σ H) (s : Same H H') : g.dr w H' := g.drk w H H' I.dr fun a z => by
  cases q : H a with
  | none => exact absurd q (I.live a (g.zt a z))
  | some o => exact s a o q
theorem Rep.keep {K : PySem.W.Frag} {x : PyData} {v : V} (r : Rep K (av g m env σ) H v x) (k : Keep g.Z H H') : Rep K (av g m env σ) H' v x :=
  r.mon (fun a o n e => k.at_ a o (fun z => n (av_z z)) e) fun _ q => q
theorem Reps.keep {K : PySem.W.Frag} {x : List PyData} {v : List V} (r : Reps K (av g m env σ) H v x) (k : Keep g.Z H H') : Reps K (av g m env σ) H' v x :=
  r.mon (fun a o n e => k.at_ a o (fun z => n (av_z z)) e) fun _ q => q
end

/-! ### judgements -/
/-- an expression's reading keeps what f says; m: the value leans on nothing that the def may change -/
def VwE (K : PySem.W.Frag) (m : Bool) (t : TE) (f : EF) : Prop :=
  ∀ (g : Gh) (env : En) (w : W) (σ : SS) (H : Hp) (Q : VK) (x : PyData) (w' : W), g.K = K → StOk g env w σ H → f env w = some (x, w') →
    (∀ v H', Keep g.Z H H' → g.dr w' H' → Rep K (av g m env σ) H' v x → Q v H') → t σ H Q
def VwT (K : PySem.W.Frag) (t : TT) (f : TF) : Prop :=
  ∀ (g : Gh) (env : En) (w : W) (σ : SS) (H : Hp) (Q : Bool → Hp → Prop) (b : Bool) (w' : W), g.K = K → StOk g env w σ H → f env w = some (b, w') →
    (∀ H', Keep g.Z H H' → g.dr w' H' → Q b H') → t σ H Q
def VwA (K : PySem.W.Frag) (m : Bool) (t : TA) (f : AF) : Prop :=
  ∀ (g : Gh) (env : En) (w : W) (σ : SS) (H : Hp) (Q : List V → Hp → Prop) (xs : List PyData) (w' : W), g.K = K → StOk g env w σ H → f env w = some (xs, w') →
    (∀ vs H', Keep g.Z H H' → g.dr w' H' → Reps K (av g m env σ) H' vs xs → Q vs H') → t σ H Q
/-- .. a new list -/
def VwL (K : PySem.W.Frag) (m : Bool) (t : TE) (f : LF) : Prop :=
  ∀ (g : Gh) (env : En) (w : W) (σ : SS) (H : Hp) (Q : VK) (xs : List PyData) (w' : W), g.K = K → StOk g env w σ H → f env w = some (xs, w') →
    (∀ p vs H', H p = none → Keep g.Z H H' → g.dr w' H' → H' p = some (.lst vs) → Reps K (fun a => av g m env σ a ∨ a = p) H' vs xs → Q (.ref p) H') → t σ H Q
structure PV (X : Cx) (m : Bool) (e : Expr) (t : TE) (f : EF) : Prop where
  pe : PE X e t
  vw : VwE X.K m t f
structure PTV (X : Cx) (e : Expr) (t : TT) (f : TF) : Prop where
  pe : PT X e t
  vw : VwT X.K t f
structure PWV (X : Cx) (e : Expr) (t : TT) (f : TF) : Prop where
  pe : PW X e t
  vw : VwT X.K t f
structure PAV (X : Cx) (m : Bool) (es : List Expr) (t : TA) (f : AF) : Prop where
  pe : PA X es t
  vw : VwA X.K m t f
structure PLV (X : Cx) (m : Bool) (e : Expr) (t : TE) (f : LF) : Prop where
  pe : PE X e t
  vw : VwL X.K m t f

section
variable {X : Cx} {m : Bool} {e a b c : Expr} {ta tb tc : TE} {f h k : EF} {pos : Pos}
/-- .. may be left out -/
theorem PV.weak (p : PV X true e ta f) : PV X m e ta f := ⟨p.pe, fun g env w σ H Q x w' hK I hf q =>
  p.vw g env w σ H Q x w' hK I hf fun v H' k d r => q v H' k d (r.mon (fun _ _ _ e => e) fun _ => av_le)⟩
theorem pv_flat (p : PV X false e ta f) : PV X m e ta (xFlat f) := ⟨p.pe, fun g env w σ H Q x w' hK I hf q => by
  obtain ⟨y, w1, h1, h2⟩ := bind_some.mp hf
  refine p.vw g env w σ H Q y _ hK I h1 fun v H' k d r => ?_
  by_cases fl : flat y = true
  · rw [if_pos fl] at h2
    obtain ⟨rfl, rfl⟩ := pure_get h2
    exact q v H' k d (r.of_flat fl)
  · rw [if_neg fl] at h2; cases h2⟩
theorem xVar_get {i : Nat} {env : En} {w w' : W} {x : PyData} (h : xVar i env w = some (x, w')) : env[i]? = some (.sh x) ∧ w' = w := by
  unfold xVar at h
  cases e : env[i]? with
  | none => rw [e] at h; cases h
  | some s =>
    rw [e] at h
    cases s with
    | sh y => obtain ⟨rfl, rfl⟩ := pure_get h; exact ⟨rfl, rfl⟩
    | _ => cases h
theorem xVarO_get {i : Nat} {env : En} {w w' : W} {x : PyData} (h : xVarO i env w = some (x, w')) : (env[i]? = some (.sh x) ∨ ∃ xs, env[i]? = some (.ow xs) ∧ x = .list xs) ∧ w' = w := by
  unfold xVarO at h
  cases e : env[i]? with
  | none => rw [e] at h; cases h
  | some s =>
    rw [e] at h
    cases s with
    | sh y => obtain ⟨rfl, rfl⟩ := pure_get h; exact ⟨.inl rfl, rfl⟩
    | ow xs => obtain ⟨rfl, rfl⟩ := pure_get h; exact ⟨.inr ⟨xs, rfl, rfl⟩, rfl⟩
    | _ => cases h
def visB (sc : Scope) (x : Str) : Bool := match sc.names.lookup x with
  | some .local => true
  | some .cell => true
  | some .free => true
  | _ => false
theorem vis_of {sc : Scope} {x : Str} (h : visB sc x = true) : Vis sc x := by
  unfold visB at h
  split at h
  · rename_i e; exact .inl e
  · rename_i e; exact .inr (.inl e)
  · rename_i e; exact .inr (.inr e)
  · cases h
def locB (sc : Scope) (x : Str) : Bool := match sc.names.lookup x with
  | some .local => true
  | some .cell => true
  | _ => false
theorem loc_of {sc : Scope} {x : Str} (h : locB sc x = true) : Loc sc x := by
  unfold locB at h
  split at h
  · rename_i e; exact .inl e
  · rename_i e; exact .inr e
  · cases h
def fnB (X : Cx) (x : Str) : Bool := X.fn x || (match X.env.scope.names.lookup x with
  | some .local => true
  | _ => false)
theorem fn_of' {X : Cx} {x : Str} (h : fnB X x = true) : X.fn x = true ∨ X.env.scope.names.lookup x = some .local := by
  unfold fnB at h
  rw [Bool.or_eq_true] at h
  rcases h with h | h
  · exact .inl h
  · split at h
    · rename_i e; exact .inr e
    · cases h
def dunB (x : Str) : Bool := !(x == ("__debug__" : Str)) && !(x == ("__classdict__" : Str))
theorem dun1 {x : Str} (h : dunB x = true) : (x == ("__debug__" : Str)) = false := by
  unfold dunB at h
  rw [Bool.and_eq_true, Bool.not_eq_true', Bool.not_eq_true'] at h
  exact h.1
theorem dun2 {x : Str} (h : dunB x = true) : (x == ("__classdict__" : Str)) = false := by
  unfold dunB at h
  rw [Bool.and_eq_true, Bool.not_eq_true', Bool.not_eq_true'] at h
  exact h.2
theorem vw_var {K : PySem.W.Frag} (i : Nat) : VwE K m (tVar i) (xVar i) := fun g env w σ H Q x w' hK I hf q => by
  subst hK
  obtain ⟨e, rfl⟩ := xVar_get hf
  obtain ⟨v, hv, r⟩ := I.sh i _ e
  exact ⟨v, hv, q v H (Keep.refl _ _) I.dr (r.mon (fun _ _ _ e => e) fun _ => av_le)⟩
theorem vw_varO {K : PySem.W.Frag} (i : Nat) : VwE K false (tVar i) (xVarO i) := fun g env w σ H Q x w' hK I hf q => by
  subst hK
  obtain ⟨e | ⟨xs, e, rfl⟩, rfl⟩ := xVarO_get hf
  · obtain ⟨v, hv, r⟩ := I.sh i _ e
    exact ⟨v, hv, q v H (Keep.refl _ _) I.dr (r.mon (fun _ _ _ e => e) fun _ => av_le)⟩
  · obtain ⟨a, vs, hv, ha, r, _, nt⟩ := I.ow i xs e
    exact ⟨_, hv, q _ H (Keep.refl _ _) I.dr (.lst (fun z => nt (av_false z)) ha (r.mon (fun _ _ _ e => e) fun _ => av_le))⟩
theorem pv_var {i : Nat} {x : Str} {pos : Pos} (hN : X.N[i]? = some x) (hv : visB X.env.scope x = true) (hd : dunB x = true) : PV X m (.Name x pos) (tVar i) (xVar i) := ⟨pe_var hN (vis_of hv) (dun1 hd) (dun2 hd), vw_var i⟩
theorem pv_varO {i : Nat} {x : Str} {pos : Pos} (hN : X.N[i]? = some x) (hv : visB X.env.scope x = true) (hd : dunB x = true) : PV X false (.Name x pos) (tVar i) (xVarO i) := ⟨pe_var hN (vis_of hv) (dun1 hd) (dun2 hd), vw_varO i⟩
theorem vw_const {v : V} {x : PyData} (hx : ∀ K T H, Rep K T H v x) : VwE X.K m (tC v) (xC x) := fun g env w σ H Q y w' hK I hf q => by
  obtain ⟨rfl, rfl⟩ := pure_get hf
  exact q v H (Keep.refl _ _) I.dr (hx _ _ _)
theorem pv_int {i j pos} : PV X m (.Constant (.int i) j pos) (tC (.int i)) (xC (.int i)) := ⟨pe_int, vw_const fun _ _ _ => .int i⟩
theorem pv_bl {i j pos} : PV X m (.Constant (.bool i) j pos) (tC (.bl i)) (xC (.bool i)) := ⟨pe_bl, vw_const fun _ _ _ => .bl i⟩
theorem pv_non {j pos} : PV X m (.Constant .none j pos) (tC .non) (xC .none) := ⟨pe_non, vw_const fun _ _ _ => .non⟩
theorem pv_str {i j pos} : PV X m (.Constant (.str i) j pos) (tC (.str i)) (xC (.str i)) := ⟨pe_str, vw_const fun _ _ _ => .str i⟩

/-! ### operators by values -/
def OpV (K : PySem.W.Frag) (r : R2) (F : PyData → PyData → Option PyData) : Prop :=
  ∀ (T : Addr → Prop) (H : Hp) (u v : V) (x y z : PyData) (Q : VK), (∀ a, T a → H a ≠ none) → Rep K T H u x → Rep K T H v y → F x y = some z → (∀ t H', Same H H' → Rep K T H' t z → Q t H') → r u v H Q
theorem vw_op {K : PySem.W.Frag} {r : R2} {F : PyData → PyData → Option PyData} (ho : OpV K r F) (p : VwE K m ta f) (q : VwE K m tb h) : VwE K m (tOp r ta tb) (xOp F f h) := fun g env w σ H Q x w' hK I hf k => by
  obtain ⟨y, w1, h1, h2⟩ := bind_some.mp hf
  obtain ⟨z, w2, h3, h4⟩ := bind_some.mp h2
  obtain ⟨e1, rfl⟩ := lift_get h4
  refine p g env w σ H _ y _ hK I h1 fun v H1 k1 d1 r1 => ?_
  refine q g env w1 σ H1 _ z _ hK (I.step k1 d1) h3 fun v2 H2 k2 d2 r2 => ?_
  have I2 := (I.step k1 d1).step k2 d2
  refine ho (av g m env σ) H2 v v2 y z x Q (fun a t => I2.avLive t) (r1.keep k2) r2 e1 fun t H' s r3 => ?_
  exact k t H' ((k1.trans k2).trans (Keep.of_same s)) (I2.same s) r3
theorem pv_op {op : Operator} {r : R2} {F : PyData → PyData → Option PyData} (hr : OpR X (binaryOp op) r) (ho : OpV X.K r F) (p : PV X m a ta f) (q : PV X m b tb h) : PV X m (.BinOp a op b pos) (tOp r ta tb) (xOp F f h) :=
  ⟨pe_op hr p.pe q.pe, vw_op ho p.vw q.vw⟩
theorem pv_cmp {op : CmpOp} {r : R2} {F : PyData → PyData → Option PyData} (hr : OpR X (compareOp op) r) (ho : OpV X.K r F) (p : PV X m a ta f) (q : PV X m b tb h) (hm : behindInMarks op b = false) : PV X m (.Compare a [op] [b] pos) (tOp r ta tb) (xOp F f h) :=
  ⟨pe_cmpR hr p.pe q.pe hm, vw_op ho p.vw q.vw⟩
theorem pt_cmpV {op : CmpOp} {r : R2} {F : PyData → PyData → Option PyData} (hr : OpR X (compareOp op) r) (ho : OpV X.K r F) (p : PV X false a ta f) (q : PV X false b tb h) (hm : behindInMarks op b = false) : PTV X (.Compare a [op] [b] pos) (tTest (tOp r ta tb)) (xTest (xOp F f h)) :=
  ⟨pt_cmpR hr p.pe q.pe hm, fun g env w σ H Q x w' hK I hf k => by
    obtain ⟨y, w1, h1, h2⟩ := bind_some.mp hf
    obtain ⟨e1, rfl⟩ := lift_get h2
    refine vw_op ho p.vw q.vw g env w σ H _ y _ hK I h1 fun v H1 k1 d1 r1 => ?_
    cases y with
    | bool c =>
      cases r1
      have e3 : c = x := by simpa [asB] using e1
      subst e3
      exact ⟨c, rfl, k H1 k1 d1⟩
    | _ => simp [asB] at e1⟩
theorem vw_un {K : PySem.W.Frag} {r : V → Hp → VK → Prop} {F : PyData → Option PyData} (ho : ∀ (T : Addr → Prop) (H : Hp) (u : V) (x z : PyData) (Q : VK), Rep K T H u x → F x = some z → (∀ t, Rep K T H t z → Q t H) → r u H Q) (p : VwE K m ta f) : VwE K m (tUn r ta) (xUn F f) := fun g env w σ H Q x w' hK I hf k => by
  obtain ⟨y, w1, h1, h2⟩ := bind_some.mp hf
  obtain ⟨e1, rfl⟩ := lift_get h2
  refine p g env w σ H _ y _ hK I h1 fun v H1 k1 d1 r1 => ?_
  exact ho _ H1 v y x Q r1 e1 fun t r2 => k t H1 k1 d1 r2
theorem pv_neg (p : PV X m a ta f) : PV X m (.UnaryOp .USub a pos) (tUn (rU fun i => .int (-i)) ta) (xUn fNeg f) := ⟨pe_un un_neg p.pe, vw_un (fun T H u x z Q r e q => by
  cases r with
  | int i => simp [fNeg] at e; subst e; exact ⟨i, rfl, q _ (.int _)⟩
  | _ => simp [fNeg] at e) p.vw⟩

theorem ov_int0 {K : PySem.W.Frag} {gi : Int → Int → V} {F : PyData → PyData → Option PyData} (hF : ∀ x y z, F x y = some z → ∃ i j, x = .int i ∧ y = .int j ∧ ∀ T H, Rep K T H (gi i j) z) : OpV K (rI0 gi) F := fun T H u v x y z Q lv r1 r2 e q => by
  obtain ⟨i, j, rfl, rfl, hz⟩ := hF x y z e
  cases r1; cases r2
  exact ⟨i, j, rfl, rfl, q _ H (Same.refl H) (hz T H)⟩
theorem ov_int {K : PySem.W.Frag} {C : Int → Int → Prop} {gi : Int → Int → V} {F : PyData → PyData → Option PyData} (hF : ∀ x y z, F x y = some z → ∃ i j, x = .int i ∧ y = .int j ∧ C i j ∧ ∀ T H, Rep K T H (gi i j) z) : OpV K (rI C gi) F := fun T H u v x y z Q lv r1 r2 e q => by
  obtain ⟨i, j, rfl, rfl, hc, hz⟩ := hF x y z e
  cases r1; cases r2
  exact ⟨i, j, rfl, rfl, hc, q _ H (Same.refl H) (hz T H)⟩
theorem ov_sub {K : PySem.W.Frag} : OpV K (rI0 fun i j => .int (i - j)) fSub := ov_int0 fun x y z e => by
  unfold fSub at e
  split at e
  · cases e; exact ⟨_, _, rfl, rfl, fun _ _ => .int _⟩
  · cases e
theorem ov_lt {K : PySem.W.Frag} : OpV K (rI0 fun i j => .bl (decide (i < j))) fLt := ov_int0 fun x y z e => by
  unfold fLt at e
  split at e
  · cases e; exact ⟨_, _, rfl, rfl, fun _ _ => .bl _⟩
  · cases e
theorem ov_le {K : PySem.W.Frag} : OpV K (rI0 fun i j => .bl (decide (i ≤ j))) fLe := ov_int0 fun x y z e => by
  unfold fLe at e
  split at e
  · cases e; exact ⟨_, _, rfl, rfl, fun _ _ => .bl _⟩
  · cases e
theorem ov_gt {K : PySem.W.Frag} : OpV K (rI0 fun i j => .bl (decide (j < i))) fGt := ov_int0 fun x y z e => by
  unfold fGt at e
  split at e
  · cases e; exact ⟨_, _, rfl, rfl, fun _ _ => .bl _⟩
  · cases e
theorem ov_ge {K : PySem.W.Frag} : OpV K (rI0 fun i j => .bl (decide (j ≤ i))) fGe := ov_int0 fun x y z e => by
  unfold fGe at e
  split at e
  · cases e; exact ⟨_, _, rfl, rfl, fun _ _ => .bl _⟩
  · cases e
theorem ov_mul {K : PySem.W.Frag} : OpV K (rI CMul fun i j => .int (i * j)) fMul := ov_int fun x y z e => by
  unfold fMul at e
  split at e
  · split at e
    · rename_i hc
      cases e
      refine ⟨_, _, rfl, rfl, ?_, fun _ _ => .int _⟩
      simp only [inW, Bool.or_eq_true, Bool.and_eq_true, decide_eq_true_eq] at hc
      exact hc
    · cases e
  · cases e
theorem ov_div {K : PySem.W.Frag} : OpV K (rI CDiv fun i j => .int (i / j)) fDiv := ov_int fun x y z e => by
  unfold fDiv at e
  split at e
  · split at e
    · rename_i hc
      cases e
      exact ⟨_, _, rfl, rfl, hc, fun _ _ => .int _⟩
    · cases e
  · cases e
theorem ov_mod {K : PySem.W.Frag} : OpV K (rI (fun _ j => 0 < j) fun i j => .int (i % j)) fMod := ov_int fun x y z e => by
  unfold fMod at e
  split at e
  · split at e
    · rename_i hc
      cases e
      exact ⟨_, _, rfl, rfl, hc, fun _ _ => .int _⟩
    · cases e
  · cases e
theorem upd_new {H : Hp} {p : Addr} {o : HO} (h : H p = none) : Same H (upd H p o) := fun b x e => by
  rw [upd_ne (ne_of_none e h)]
  exact e
theorem ov_add {K : PySem.W.Frag} : OpV K (fun x y H Q => rI0 (fun i j => .int (i + j)) x y H Q ∨ rCat x y H Q) fAdd := fun T H u v x y z Q lv r1 r2 e q => by
  unfold fAdd at e
  split at e
  · cases e
    cases r1; cases r2
    exact .inl ⟨_, _, rfl, rfl, q _ H (Same.refl H) (.int _)⟩
  · split at e
    · rename_i xs ys hl
      cases e
      cases r1 with
      | lst n1 a1 s1 =>
        cases r2 with
        | lst n2 a2 s2 =>
          refine .inr ⟨_, _, _, _, rfl, rfl, a1, a2, ?_, fun p hp => ?_⟩
          · rw [s1.length, s2.length, ← line_eq]; exact hl
          · refine q _ _ (upd_new hp) (.lst (fun z => lv p z hp) upd_same ?_)
            exact (s1.append s2).mon (fun a o n e => upd_new hp a o e) fun _ q => q
    · cases e
  · cases e
theorem ov_eq {K : PySem.W.Frag} : OpV K (rEqD K) fEq := fun T H u v x y z Q lv r1 r2 e q => by
  unfold fEq at e
  split at e
  · rename_i hc
    cases e
    simp only [shp, Bool.and_eq_true] at hc
    exact ⟨x, y, r1.dp, r2.dp, hc.1, hc.2, q _ H (Same.refl H) (.bl _)⟩
  · cases e
theorem ov_ne {K : PySem.W.Frag} : OpV K (rNeD K) fNe := fun T H u v x y z Q lv r1 r2 e q => by
  unfold fNe at e
  split at e
  · rename_i hc
    cases e
    simp only [shp, Bool.and_eq_true] at hc
    exact ⟨x, y, r1.dp, r2.dp, hc.1, hc.2, q _ H (Same.refl H) (.bl _)⟩
  · cases e
theorem isNone_rep {K : PySem.W.Frag} {T : Addr → Prop} {H : Hp} {v : V} {x : PyData} (r : Rep K T H v x) : decide (v = .non) = isNone x := by
  cases r <;> simp [isNone]
/-- a is None -/
theorem vw_isN {K : PySem.W.Frag} (p : VwE K false ta f) : VwE K m (tIsN ta) (xUn fIsN f) := fun g env w σ H Q x w' hK I hf k => by
  obtain ⟨y, w1, h1, h2⟩ := bind_some.mp hf
  obtain ⟨e1, rfl⟩ := lift_get h2
  refine p g env w σ H _ y _ hK I h1 fun v H1 k1 d1 r1 => ?_
  have e3 : .bool (isNone y) = x := by simpa [fIsN] using e1
  subst e3
  rw [isNone_rep r1]
  exact k _ H1 k1 d1 (.bl _)
theorem vw_notN {K : PySem.W.Frag} (p : VwE K false ta f) : VwE K m (tNotN ta) (xUn fNotN f) := fun g env w σ H Q x w' hK I hf k => by
  obtain ⟨y, w1, h1, h2⟩ := bind_some.mp hf
  obtain ⟨e1, rfl⟩ := lift_get h2
  refine p g env w σ H _ y _ hK I h1 fun v H1 k1 d1 r1 => ?_
  have e3 : .bool (!isNone y) = x := by simpa [fNotN] using e1
  subst e3
  rw [isNone_rep r1]
  exact k _ H1 k1 d1 (.bl _)
theorem pv_isN {j pos'} (p : PV X false a ta f) : PV X m (.Compare a [.Is] [.Constant .none j pos'] pos) (tIsN ta) (xUn fIsN f) := ⟨pe_cmp (pc_isN p.pe), vw_isN p.vw⟩
theorem pv_notN {j pos'} (p : PV X false a ta f) : PV X m (.Compare a [.IsNot] [.Constant .none j pos'] pos) (tNotN ta) (xUn fNotN f) := ⟨pe_cmp (pc_notN p.pe), vw_notN p.vw⟩
theorem vw_test {K : PySem.W.Frag} {t : TE} (p : VwE K false t f) : VwT K (tB t) (xTest f) := fun g env w σ H Q x w' hK I hf k => by
  obtain ⟨y, w1, h1, h2⟩ := bind_some.mp hf
  obtain ⟨e1, rfl⟩ := lift_get h2
  refine p g env w σ H _ y _ hK I h1 fun v H1 k1 d1 r1 => ?_
  cases y with
  | bool c =>
    cases r1
    have e3 : c = x := by simpa [asB] using e1
    subst e3
    exact ⟨c, rfl, k H1 k1 d1⟩
  | _ => simp [asB] at e1
theorem pt_isN {j pos'} (p : PV X false a ta f) : PTV X (.Compare a [.Is] [.Constant .none j pos'] pos) (tB (tIsN ta)) (xTest (xUn fIsN f)) := ⟨pt_cmp (pc_isN p.pe), vw_test (vw_isN p.vw)⟩
theorem pt_notN {j pos'} (p : PV X false a ta f) : PTV X (.Compare a [.IsNot] [.Constant .none j pos'] pos) (tB (tNotN ta)) (xTest (xUn fNotN f)) := ⟨pt_cmp (pc_notN p.pe), vw_test (vw_notN p.vw)⟩
/-- a value's truth -/
theorem truth_rep {K : PySem.W.Frag} {T : Addr → Prop} {H : Hp} {v : V} {x : PyData} {k : Bool} (r : Rep K T H v x) (e : truth x = some k) : TruV K v H k := by
  cases r with
  | non => simp [truth] at e; subst e; rfl
  | bl b => simp [truth] at e; subst e; rfl
  | int i => simp [truth] at e; subst e; rfl
  | str s => simp [truth] at e
  | lst n a r =>
    have e' : (!List.isEmpty _) = k := Option.some.inj e
    refine .inl ⟨_, SqL.of a, ?_⟩
    rw [← e']
    cases r <;> rfl
  | tup a r =>
    have e' : (!List.isEmpty _) = k := Option.some.inj e
    refine .inr (.inl ⟨_, a.sq, ?_⟩)
    rw [← e']
    cases r <;> rfl
theorem pt_tru {KK : PySem.W.Frag} (hKK : X.K = KK) (p : PV X false a ta f) (he : ∀ whole, isTrue a X.env whole = (do let v ← whole; standAt a.pos; holding [v] (truthy v))) :
    PTV X a (fun σ H Q => ta σ H fun x H' => ∃ k, TruV KK x H' k ∧ Q k H') (xTruth f) := by
  subst hKK
  exact (show
    PTV X a (fun σ H Q => ta σ H fun x H' => ∃ k, TruV X.K x H' k ∧ Q k H') (xTruth f) from  ⟨pt_truth p.pe he, fun g env w σ H Q x w' hK I hf k => by
  obtain ⟨y, w1, h1, h2⟩ := bind_some.mp hf
  obtain ⟨e1, rfl⟩ := lift_get h2
  exact p.vw g env w σ H _ y _ hK I h1 fun v H1 k1 d1 r1 => ⟨x, truth_rep r1 e1, k H1 k1 d1⟩⟩)

end
end VE

namespace VE
open PySem PySem.Spec L2
open PyProof.Rows hiding St
section
variable {X : Cx} {m : Bool} {e a b c : Expr} {rest : List Expr} {ta tb tc : TE} {tA tB' : TT} {f h k : EF} {fA fB : TF} {pos : Pos} {K : PySem.W.Frag}
/-! ### and, or, not -/
theorem PWV.pt (p : PWV X e tA fA) : PTV X e tA fA := ⟨p.pe.pt, p.vw⟩
theorem pwv_and1 (p : PTV X a tA fA) : PWV X (.BoolOp .And [a] pos) tA fA := ⟨pw_and1 p.pe, p.vw⟩
theorem pwv_or1 (p : PTV X a tA fA) : PWV X (.BoolOp .Or [a] pos) tA fA := ⟨pw_or1 p.pe, p.vw⟩
theorem vw_and (p : VwT K tA fA) (q : VwT K tB' fB) : VwT K (tAnd tA tB') (xAnd fA fB) := fun g env w σ H Q x w' hK I hf k => by
  obtain ⟨y, w1, h1, h2⟩ := bind_some.mp hf
  refine p g env w σ H _ y _ hK I h1 fun H1 k1 d1 => ?_
  cases y with
  | true => exact q g env _ σ H1 Q x _ hK (I.step k1 d1) h2 fun H' k2 d2 => k H' (k1.trans k2) d2
  | false =>
    obtain ⟨rfl, rfl⟩ := pure_get h2
    exact k H1 k1 d1
theorem vw_or (p : VwT K tA fA) (q : VwT K tB' fB) : VwT K (tOr tA tB') (xOr fA fB) := fun g env w σ H Q x w' hK I hf k => by
  obtain ⟨y, w1, h1, h2⟩ := bind_some.mp hf
  refine p g env w σ H _ y _ hK I h1 fun H1 k1 d1 => ?_
  cases y with
  | false => exact q g env _ σ H1 Q x _ hK (I.step k1 d1) h2 fun H' k2 d2 => k H' (k1.trans k2) d2
  | true =>
    obtain ⟨rfl, rfl⟩ := pure_get h2
    exact k H1 k1 d1
theorem pwv_and (p : PTV X a tA fA) (q : PWV X (.BoolOp .And (b :: rest) pos) tB' fB) : PWV X (.BoolOp .And (a :: b :: rest) pos) (tAnd tA tB') (xAnd fA fB) := ⟨pw_and p.pe q.pe, vw_and p.vw q.vw⟩
theorem pwv_or (p : PTV X a tA fA) (q : PWV X (.BoolOp .Or (b :: rest) pos) tB' fB) : PWV X (.BoolOp .Or (a :: b :: rest) pos) (tOr tA tB') (xOr fA fB) := ⟨pw_or p.pe q.pe, vw_or p.vw q.vw⟩
theorem ptv_not (p : PTV X a tA fA) : PTV X (.UnaryOp .Not a pos) (tNot tA) (xNot fA) := ⟨pt_not p.pe, fun g env w σ H Q x w' hK I hf k => by
  obtain ⟨y, w1, h1, h2⟩ := bind_some.mp hf
  obtain ⟨rfl, rfl⟩ := pure_get h2
  exact p.vw g env w σ H _ y _ hK I h1 fun H1 k1 d1 => k H1 k1 d1⟩
theorem pv_one {op} (p : PV X m a ta f) : PV X m (.BoolOp op [a] pos) ta f := ⟨pe_one p.pe, p.vw⟩
theorem pv_and (p : PV X false a ta f) (q : PV X m (.BoolOp .And (b :: rest) pos) tb h) : PV X m (.BoolOp .And (a :: b :: rest) pos) (tAndV ta tb) (xAndV f h) := ⟨pe_and p.pe q.pe, fun g env w σ H Q x w' hK I hf k => by
  obtain ⟨y, w1, h1, h2⟩ := bind_some.mp hf
  refine p.vw g env w σ H _ y _ hK I h1 fun v H1 k1 d1 r1 => ?_
  cases y with
  | bool c =>
    cases r1
    refine ⟨c, rfl, ?_⟩
    cases c with
    | true => exact q.vw g env _ σ H1 Q x _ hK (I.step k1 d1) h2 fun v2 H' k2 d2 r2 => k v2 H' (k1.trans k2) d2 r2
    | false =>
      obtain ⟨rfl, rfl⟩ := pure_get h2
      exact k _ H1 k1 d1 (.bl _)
  | _ => cases h2⟩
theorem pv_or (p : PV X false a ta f) (q : PV X m (.BoolOp .Or (b :: rest) pos) tb h) : PV X m (.BoolOp .Or (a :: b :: rest) pos) (tOrV ta tb) (xOrV f h) := ⟨pe_or p.pe q.pe, fun g env w σ H Q x w' hK I hf k => by
  obtain ⟨y, w1, h1, h2⟩ := bind_some.mp hf
  refine p.vw g env w σ H _ y _ hK I h1 fun v H1 k1 d1 r1 => ?_
  cases y with
  | bool c =>
    cases r1
    refine ⟨c, rfl, ?_⟩
    cases c with
    | false => exact q.vw g env _ σ H1 Q x _ hK (I.step k1 d1) h2 fun v2 H' k2 d2 r2 => k v2 H' (k1.trans k2) d2 r2
    | true =>
      obtain ⟨rfl, rfl⟩ := pure_get h2
      exact k _ H1 k1 d1 (.bl _)
  | _ => cases h2⟩
theorem pv_not (p : PV X false a ta f) : PV X m (.UnaryOp .Not a pos) (tNotV ta) (xNotV f) := ⟨pe_not p.pe, fun g env w σ H Q x w' hK I hf k => by
  obtain ⟨y, w1, h1, h2⟩ := bind_some.mp hf
  refine p.vw g env w σ H _ y _ hK I h1 fun v H1 k1 d1 r1 => ?_
  cases y with
  | bool c =>
    cases r1
    obtain ⟨rfl, rfl⟩ := pure_get h2
    exact ⟨c, rfl, k _ H1 k1 d1 (.bl _)⟩
  | _ => cases h2⟩
theorem pv_if (t : PTV X c tA fA) (p : PV X m a ta f) (q : PV X m b tb h) : PV X m (.IfExp c a b pos) (tIf tA ta tb) (xIf fA f h) := ⟨pe_ifExp t.pe p.pe q.pe, fun g env w σ H Q x w' hK I hf k => by
  obtain ⟨y, w1, h1, h2⟩ := bind_some.mp hf
  refine t.vw g env w σ H _ y _ hK I h1 fun H1 k1 d1 => ?_
  cases y with
  | true => exact p.vw g env _ σ H1 Q x _ hK (I.step k1 d1) h2 fun v2 H' k2 d2 r2 => k v2 H' (k1.trans k2) d2 r2
  | false => exact q.vw g env _ σ H1 Q x _ hK (I.step k1 d1) h2 fun v2 H' k2 d2 r2 => k v2 H' (k1.trans k2) d2 r2⟩

/-! ### a chain of two comparisons -/
theorem vw_chain {r r' : R2} {F F' : PyData → PyData → Option PyData} (ho : OpV K r F) (ho' : OpV K r' F') (p : VwE K false ta f) (q : VwE K false tb h) (s : VwE K false tc k) : VwE K m (tChain r r' ta tb tc) (xChain F F' f h k) := fun g env w σ H Q x w' hK I hf kk => by
  obtain ⟨y, w1, h1, h2⟩ := bind_some.mp hf
  obtain ⟨z, w2, h3, h4⟩ := bind_some.mp h2
  obtain ⟨b1, w3, h5, h6⟩ := bind_some.mp h4
  obtain ⟨e1, rfl⟩ := lift_get h5
  refine p g env w σ H _ y _ hK I h1 fun v H1 k1 d1 r1 => ?_
  refine q g env _ σ H1 _ z _ hK (I.step k1 d1) h3 fun v2 H2 k2 d2 r2 => ?_
  have I2 := (I.step k1 d1).step k2 d2
  obtain ⟨zz, ez, eb⟩ := Option.bind_eq_some_iff.mp e1
  refine ho (av g false env σ) H2 v v2 y z zz _ (fun a t => I2.avLive t) (r1.keep k2) r2 ez fun t H3 s3 r3 => ?_
  have I3 := I2.step (Keep.of_same s3) (I2.same s3)
  have k3 := (k1.trans k2).trans (Keep.of_same s3)
  cases zz with
  | bool bb =>
    have : bb = b1 := by simpa [asB] using eb
    subst this
    cases r3
    refine ⟨bb, rfl, ?_⟩
    cases bb with
    | false =>
      rw [if_neg Bool.false_ne_true] at h6
      rw [if_neg Bool.false_ne_true]
      obtain ⟨rfl, rfl⟩ := pure_get h6
      exact kk _ H3 k3 I3.dr (.bl _)
    | true =>
      rw [if_pos rfl] at h6
      rw [if_pos rfl]
      obtain ⟨u, w4, h7, h8⟩ := bind_some.mp h6
      obtain ⟨b2, w5, h9, h10⟩ := bind_some.mp h8
      obtain ⟨e2, rfl⟩ := lift_get h9
      obtain ⟨rfl, rfl⟩ := pure_get h10
      obtain ⟨z2, ez2, eb2⟩ := Option.bind_eq_some_iff.mp e2
      refine s g env _ σ H3 _ u _ hK I3 h7 fun v4 H4 k4 d4 r4 => ?_
      have I4 := I3.step k4 d4
      refine ho' (av g false env σ) H4 v2 v4 z u z2 Q (fun a t => I4.avLive t) (r2.keep ((Keep.of_same s3).trans k4)) r4 ez2 fun t5 H5 s5 r5 => ?_
      cases z2 with
      | bool b3 =>
        have : b3 = b2 := by simpa [asB] using eb2
        subst this
        cases r5
        exact kk _ H5 ((k3.trans k4).trans (Keep.of_same s5)) (I4.same s5) (.bl _)
      | _ => simp [asB] at eb2
  | _ => simp [asB] at eb
theorem pv_chain {op op' : CmpOp} {r r' : R2} {F F' : PyData → PyData → Option PyData} (hr : OpR X (compareOp op) r) (ho : OpV X.K r F) (hr' : OpR X (compareOp op') r') (ho' : OpV X.K r' F') (p : PV X false a ta f) (q : PV X false b tb h) (s : PV X false c tc k)
    (hm : lastMarks [op, op'] [b, c] = false) : PV X m (.Compare a [op, op'] [b, c] pos) (tChain r r' ta tb tc) (xChain F F' f h k) := ⟨pe_chain hr hr' p.pe q.pe s.pe hm, vw_chain ho ho' p.vw q.vw s.vw⟩
theorem vw_tTest {t : TE} (p : VwE K false t f) : VwT K (tTest t) (xTest f) := fun g env w σ H Q x w' hK I hf k => vw_test p g env w σ H Q x w' hK I hf k
theorem pt_chainV {op op' : CmpOp} {r r' : R2} {F F' : PyData → PyData → Option PyData} (hr : OpR X (compareOp op) r) (ho : OpV X.K r F) (hr' : OpR X (compareOp op') r') (ho' : OpV X.K r' F') (p : PV X false a ta f) (q : PV X false b tb h) (s : PV X false c tc k)
    (hm : lastMarks [op, op'] [b, c] = false) : PTV X (.Compare a [op, op'] [b, c] pos) (tTest (tChain r r' ta tb tc)) (xTest (xChain F F' f h k)) := ⟨pt_chain hr hr' p.pe q.pe s.pe hm, vw_tTest (vw_chain ho ho' p.vw q.vw s.vw)⟩

/-! ### arguments, displays -/
variable {es : List Expr} {tas tbs : TA} {fs hs : AF}
theorem pav_nil : PAV X m [] tNil xNil := ⟨pa_nil, fun g env w σ H Q x w' hK I hf k => by
  obtain ⟨rfl, rfl⟩ := pure_get hf
  exact k [] H (Keep.refl _ _) I.dr .nil⟩
theorem pav_cons (p : PV X m e ta f) (q : PAV X m es tas fs) (hst : starEach (e :: es) X.env = (false, eval e X.env) :: starEach es X.env) : PAV X m (e :: es) (tCons ta tas) (xCons f fs) := ⟨pa_cons p.pe q.pe hst, fun g env w σ H Q x w' hK I hf k => by
  obtain ⟨y, w1, h1, h2⟩ := bind_some.mp hf
  obtain ⟨ys, w2, h3, h4⟩ := bind_some.mp h2
  obtain ⟨rfl, rfl⟩ := pure_get h4
  refine p.vw g env w σ H _ y _ hK I h1 fun v H1 k1 d1 r1 => ?_
  refine q.vw g env _ σ H1 _ ys _ hK (I.step k1 d1) h3 fun vs H2 k2 d2 r2 => ?_
  exact k _ H2 (k1.trans k2) d2 (.cons (r1.keep k2) r2)⟩
theorem StOk.new {g : Gh} {env : En} {w : W} {σ : SS} {H : Hp} {o : HO} {p : Addr} (I : StOk g env w σ H) (hp : H p = none) : Keep g.Z H (upd H p o) ∧ g.dr w (upd H p o) := ⟨Keep.of_same (upd_new hp), I.same (upd_new hp)⟩
theorem pv_tup {x1} (p : PAV X m es tas fs) : PV X m (.Tuple es x1 pos) (tTup tas) (xTup fs) := ⟨pe_tup p.pe, fun g env w σ H Q x w' hK I hf k => by
  obtain ⟨ys, w1, h1, h2⟩ := bind_some.mp hf
  by_cases hl : ys.length ≤ line
  · rw [if_pos hl] at h2
    obtain ⟨rfl, rfl⟩ := pure_get h2
    refine p.vw g env w σ H _ ys _ hK I h1 fun vs H1 k1 d1 r1 => ⟨by rw [r1.length, ← line_eq]; exact hl, fun q hq => ?_⟩
    have I1 := I.step k1 d1
    obtain ⟨k2, d2⟩ := I1.new (o := .tup vs) hq
    exact k _ _ (k1.trans k2) d2 (.tup (.inl ⟨fun z => I1.avLive z hq, .inl upd_same⟩) (r1.keep k2))
  · rw [if_neg hl] at h2; cases h2⟩
theorem plv_lst (p : PAV X m es tas fs) : PLV X m (.List es pos) (tLst tas) (xLst fs) := ⟨pe_lst p.pe, fun g env w σ H Q x w' hK I hf k => by
  obtain ⟨ys, w1, h1, h2⟩ := bind_some.mp hf
  by_cases hl : ys.length ≤ line
  · rw [if_pos hl] at h2
    obtain ⟨rfl, rfl⟩ := pure_get h2
    refine p.vw g env w σ H _ ys _ hK I h1 fun vs H1 k1 d1 r1 => ⟨by rw [r1.length, ← line_eq]; exact hl, fun q hq => ?_⟩
    have I1 := I.step k1 d1
    obtain ⟨k2, d2⟩ := I1.new (o := .lst vs) hq
    refine k q vs _ ?_ (k1.trans k2) d2 upd_same ((Reps.fresh hq _ r1).mon (fun a o n e => upd_new hq a o e) fun _ z => z)
    cases z : H q with
    | none => rfl
    | some o => exact absurd hq (k1.live q (by rw [z]; simp))
  · rw [if_neg hl] at h2; cases h2⟩
theorem pv_as {t : TE} {fl : LF} (p : PLV X m e t fl) : PV X m e t (xAs fl) := ⟨p.pe, fun g env w σ H Q x w' hK I hf k => by
  obtain ⟨ys, w1, h1, h2⟩ := bind_some.mp hf
  obtain ⟨rfl, rfl⟩ := pure_get h2
  refine p.vw g env w σ H _ ys _ hK I h1 fun q vs H1 hq k1 d1 e1 r1 => ?_
  refine k _ H1 k1 d1 (.lst (fun z => I.avLive z hq) e1 (r1.mon (fun _ _ _ e => e) fun _ z => .inl z))⟩
theorem Reps.of_flats {T T' : Addr → Prop} {H H' : Hp} : ∀ {ys : List PyData} {vs : List V}, Reps K T H vs ys → ys.all VE.flat = true → Reps K T' H' vs ys
  | [], _, r, _ => by cases r; exact .nil
  | y :: ys, _, r, fl => by
    rw [List.all_cons, Bool.and_eq_true] at fl
    cases r with
    | cons r1 r2 => exact .cons (r1.of_flat fl.1) (Reps.of_flats r2 fl.2)
/-- a list that is new is so whatever was held -/
theorem PLV.flat {t : TE} {fl : LF} (p : PLV X false e t fl) : PLV X m e t (xFlatL fl) := ⟨p.pe, fun g env w σ H Q x w' hK I hf k => by
  obtain ⟨ys, w1, h1, h2⟩ := bind_some.mp hf
  by_cases hl : ys.all VE.flat = true
  · rw [if_pos hl] at h2
    obtain ⟨rfl, rfl⟩ := pure_get h2
    refine p.vw g env w σ H _ ys _ hK I h1 fun q vs H1 hq k1 d1 e1 r1 => k q vs H1 hq k1 d1 e1 ?_
    exact r1.of_flats hl
  · rw [if_neg hl] at h2; cases h2⟩

/-! ### items -/
theorem ixN_eq (n : Nat) (i : Int) : VE.ixN n i = L2.ixN n i := rfl
theorem atI_rep {T : Addr → Prop} {H : Hp} {vs : List V} {xs : List PyData} {i : Int} {x : PyData} (r : Reps K T H vs xs) (h : VE.atI xs i = some x) : ∃ v, L2.atI vs i = some v ∧ Rep K T H v x := by
  unfold VE.atI at h
  obtain ⟨j, h1, h2⟩ := Option.bind_eq_some_iff.mp h
  obtain ⟨v, e, q⟩ := r.get h2
  refine ⟨v, ?_, q⟩
  unfold L2.atI
  rw [r.length, ← ixN_eq, h1]
  exact e
theorem ov_ix : OpV K (fun x y H Q => rIxL K x y H Q ∨ rIxT K x y H Q) fIx := fun T H u v x y z Q lv r1 r2 e q => by
  unfold fIx at e
  split at e
  · cases r2
    cases r1 with
    | lst n a s =>
      obtain ⟨w, e1, e2⟩ := atI_rep s e
      exact .inl ⟨_, _, _, w, rfl, rfl, SqL.of a, e1, q w H (Same.refl H) e2⟩
  · cases r2
    cases r1 with
    | tup a s =>
      obtain ⟨w, e1, e2⟩ := atI_rep s e
      exact .inr ⟨_, _, _, w, rfl, rfl, a.sq, e1, q w H (Same.refl H) e2⟩
  · cases e
theorem pv_ix {KK : PySem.W.Frag} (hKK : X.K = KK) (p : PV X m a ta f) (q : PV X m b tb h) (hs : PlainIx b) : PV X m (.Subscript a b pos) (tOp (fun x y H Q => rIxL KK x y H Q ∨ rIxT KK x y H Q) ta tb) (xOp fIx f h) := by
  subst hKK
  exact (show PV X m (.Subscript a b pos) (tOp (fun x y H Q => rIxL X.K x y H Q ∨ rIxT X.K x y H Q) ta tb) (xOp fIx f h) from  ⟨pe_ix (ix_list.or ix_tup) p.pe q.pe hs, vw_op ov_ix p.vw q.vw⟩)

/-! ### in -/
theorem flat_rep {T : Addr → Prop} {H : Hp} {v : V} {x : PyData} (r : Rep K T H v x) (e : flat x = true) : flatV v = true := by
  cases r <;> first | rfl | cases e
theorem flats_rep {T : Addr → Prop} {H : Hp} : ∀ {xs : List PyData} {vs : List V}, Reps K T H vs xs → xs.all flat = true → vs.all flatV = true
  | [], _, r, _ => by cases r; rfl
  | x :: xs, _, r, e => by
    cases r with
    | cons r1 r2 =>
      rw [List.all_cons, Bool.and_eq_true] at e
      rw [List.all_cons, flat_rep r1 e.1, flats_rep r2 e.2]; rfl
theorem eqv_rep {T T' : Addr → Prop} {H : Hp} {v u : V} {x y : PyData} (r : Rep K T H v x) (s : Rep K T' H u y) (e1 : flat x = true) (e2 : flat y = true) : eqV v u = PyData.eqv x y := by
  cases r <;> cases s <;> first | rfl | cases e1 | cases e2 | simp [eqV, PyData.eqv]
theorem any_rep {T T' : Addr → Prop} {H : Hp} {u : V} {y : PyData} (s : Rep K T' H u y) (e2 : flat y = true) : ∀ {xs : List PyData} {vs : List V}, Reps K T H vs xs → xs.all flat = true → inV u vs = xs.any fun z => PyData.eqv z y
  | [], _, r, _ => by cases r; rfl
  | x :: xs, _, r, e => by
    cases r with
    | cons r1 r2 =>
      rw [List.all_cons, Bool.and_eq_true] at e
      have ih := any_rep s e2 r2 e.2
      unfold inV at ih ⊢
      rw [List.any_cons, List.any_cons, ih, eqv_rep r1 s e.1 e2]
theorem items_rep {T : Addr → Prop} {H : Hp} {v : V} {x : PyData} {xs : List PyData} (r : Rep K T H v x) (e : items x = some xs) : ∃ a vs, v = .ref a ∧ (SqL K H a vs ∨ SqT K H a vs) ∧ Reps K T H vs xs := by
  cases r with
  | lst n a s => simp [items] at e; subst e; exact ⟨_, _, rfl, .inl (SqL.of a), s⟩
  | tup a s => simp [items] at e; subst e; exact ⟨_, _, rfl, .inr a.sq, s⟩
  | _ => simp [items] at e
theorem ov_in : OpV K (rIn K false) fIn := fun T H u v x y z Q lv r1 r2 e q => by
  unfold fIn at e
  obtain ⟨ys, e1, e2⟩ := Option.bind_eq_some_iff.mp e
  split at e2
  · rename_i hc
    rw [Bool.and_eq_true] at hc
    obtain ⟨a, vs, rfl, hs, s⟩ := items_rep r2 e1
    cases e2
    refine ⟨a, vs, rfl, hs, flat_rep r1 hc.1, flats_rep s hc.2, ?_⟩
    rw [if_neg Bool.false_ne_true, any_rep r1 hc.1 s hc.2]
    exact q _ H (Same.refl H) (.bl _)
  · cases e2
theorem ov_notIn : OpV K (rIn K true) fNotIn := fun T H u v x y z Q lv r1 r2 e q => by
  unfold fNotIn at e
  obtain ⟨ys, e1, e2⟩ := Option.bind_eq_some_iff.mp e
  split at e2
  · rename_i hc
    rw [Bool.and_eq_true] at hc
    obtain ⟨a, vs, rfl, hs, s⟩ := items_rep r2 e1
    cases e2
    refine ⟨a, vs, rfl, hs, flat_rep r1 hc.1, flats_rep s hc.2, ?_⟩
    rw [if_pos rfl, any_rep r1 hc.1 s hc.2]
    exact q _ H (Same.refl H) (.bl _)
  · cases e2

/-! ### slices -/
structure POV (X : Cx) (e : Option Expr) (t : TO) (f : OF) : Prop where
  pe : PO X e t
  vw : ∀ (g : Gh) (env : En) (w : W) (σ : SS) (H : Hp) (Q : Option Int → Hp → Prop) (x : Option Int) (w' : W), g.K = X.K → StOk g env w σ H → f env w = some (x, w') →
    (∀ H', Keep g.Z H H' → g.dr w' H' → Q x H') → t σ H Q
theorem pov_none : POV X none tNoPart oNo := ⟨po_none, fun g env w σ H Q x w' hK I hf k => by
  obtain ⟨rfl, rfl⟩ := pure_get hf
  exact k H (Keep.refl _ _) I.dr⟩
theorem pov_some (p : PV X false e ta f) : POV X (some e) (tPart ta) (oSome f) := ⟨po_some p.pe, fun g env w σ H Q x w' hK I hf k => by
  obtain ⟨y, w1, h1, h2⟩ := bind_some.mp hf
  refine p.vw g env w σ H _ y _ hK I h1 fun v H1 k1 d1 r1 => ?_
  cases y with
  | int i =>
    cases r1
    obtain ⟨rfl, rfl⟩ := pure_get h2
    exact ⟨i, rfl, k H1 k1 d1⟩
  | _ => cases h2⟩
theorem cut_rep {T : Addr → Prop} {H : Hp} {vs : List V} {xs : List PyData} (lo hi : Option Int) (r : Reps K T H vs xs) : Reps K T H (cutV vs lo hi) (cut xs lo hi) := by
  unfold cutV cut
  have e : ∀ n d o, HT.sIx n d o = VE.sIx n d o := fun n d o => by
    cases o <;> rfl
  rw [r.length, e, e]
  exact (r.drop _).take _
theorem plv_slice {lo hi : Option Expr} {tl th : TO} {fl fh : OF} {p2 : Pos} {KK : PySem.W.Frag} (hKK : X.K = KK) (p : PV X m e ta f) (ql : POV X lo tl fl) (qh : POV X hi th fh) : PLV X m (.Subscript e (.Slice lo hi none p2) pos) (tSl (rSlL KK) ta tl th) (xSlice f fl fh) := by
  subst hKK
  exact (show PLV X m (.Subscript e (.Slice lo hi none p2) pos) (tSl (rSlL X.K) ta tl th) (xSlice f fl fh) from  ⟨pe_slice sl_list p.pe ql.pe qh.pe, fun g env w σ H Q x w' hK I hf k => by
  obtain ⟨y, w1, h1, h2⟩ := bind_some.mp hf
  obtain ⟨l, w2, h3, h4⟩ := bind_some.mp h2
  obtain ⟨u, w3, h5, h6⟩ := bind_some.mp h4
  refine p.vw g env w σ H _ y _ hK I h1 fun v H1 k1 d1 r1 => ?_
  refine ql.vw g env _ σ H1 _ l _ hK (I.step k1 d1) h3 fun H2 k2 d2 => ?_
  refine qh.vw g env _ σ H2 _ u _ hK ((I.step k1 d1).step k2 d2) h5 fun H3 k3 d3 => ?_
  have I3 := ((I.step k1 d1).step k2 d2).step k3 d3
  cases y with
  | list xs =>
    obtain ⟨rfl, rfl⟩ := pure_get h6
    have r3 := r1.keep (k2.trans k3)
    cases r3 with
    | lst n ha s =>
      refine ⟨_, _, rfl, SqL.of ha, fun q hq => ?_⟩
      obtain ⟨k4, d4⟩ := I3.new (o := .lst (cutV _ l u)) hq
      refine k q _ _ ?_ (((k1.trans k2).trans k3).trans k4) d4 upd_same ((Reps.fresh hq _ (cut_rep l u s)).mon (fun a o n e => upd_new hq a o e) fun _ z => z)
      cases z : H q with
      | none => rfl
      | some o => exact absurd hq (((k1.trans k2).trans k3).live q (by rw [z]; simp))
  | _ => cases h6⟩)

end
end VE

namespace VE
open PySem PySem.Spec L2
open PyProof.Rows hiding St
section
variable {X : Cx} {m : Bool} {e a b c : Expr} {rest es : List Expr} {ta tb tc : TE} {tas : TA} {tA tB' : TT} {f h k : EF} {fs : AF} {fA fB : TF} {pos : Pos} {K : PySem.W.Frag}
/-! ### calls of built-ins -/
def CalV (K : PySem.W.Frag) (r : List V → Hp → VK → Prop) (F : List PyData → Option PyData) : Prop :=
  ∀ (T : Addr → Prop) (H : Hp) (vs : List V) (xs : List PyData) (z : PyData) (Q : VK), (∀ a, T a → H a ≠ none) → Reps K T H vs xs → F xs = some z → (∀ t H', Same H H' → Rep K T H' t z → Q t H') → r vs H Q
theorem vw_callB {r : List V → Hp → VK → Prop} {F : List PyData → Option PyData} (ho : CalV K r F) (p : VwA K m tas fs) : VwE K m (tCB r tas) (xCall F fs) := fun g env w σ H Q x w' hK I hf k => by
  obtain ⟨ys, w1, h1, h2⟩ := bind_some.mp hf
  obtain ⟨e1, rfl⟩ := lift_get h2
  refine p g env w σ H _ ys _ hK I h1 fun vs H1 k1 d1 r1 => ?_
  have I1 := I.step k1 d1
  exact ho _ H1 vs ys x Q (fun a t => I1.avLive t) r1 e1 fun t H' s r2 => k t H' (k1.trans (Keep.of_same s)) (I1.same s) r2
theorem pv_callB {x : Str} {id : String} {p : Pos} {r : List V → Hp → VK → Prop} {F : List PyData → Option PyData} (hc : CallR X (.builtin id) r) (ho : CalV X.K r F) (hg : Gl X x) (hm : X.mg x = none) (hv : bootBuiltins x = some (.builtin id)) (ha : PAV X m (e :: es) tas fs) (hn : x ≠ "__name__") (hdb : (x == ("__debug__" : Str)) = false)
    (he : starEach (e :: es) X.env = (false, eval e X.env) :: starEach es X.env) (hpl : (backTo pos (starEach es X.env)).any (·.1) = false) : PV X m (.Call (.Name x p) (e :: es) [] pos) (tCB r tas) (xCall F fs) :=
  ⟨pe_callB hc hg hm hv ha.pe hn hdb he hpl, vw_callB ho ha.vw⟩
theorem pv_callTy {x : Str} {id : String} {p : Pos} {r : List V → Hp → VK → Prop} {F : List PyData → Option PyData} (hc : CallR X (.type id) r) (ho : CalV X.K r F) (hg : Gl X x) (hm : X.mg x = none) (hv : bootBuiltins x = some (.type id)) (ha : PAV X m (e :: es) tas fs) (hn : x ≠ "__name__") (hdb : (x == ("__debug__" : Str)) = false)
    (he : starEach (e :: es) X.env = (false, eval e X.env) :: starEach es X.env) (hpl : (backTo pos (starEach es X.env)).any (·.1) = false) : PV X m (.Call (.Name x p) (e :: es) [] pos) (tCB r tas) (xCall F fs) :=
  ⟨pe_callTy hc hg hm hv ha.pe hn hdb he hpl, vw_callB ho ha.vw⟩
theorem reps1 {T : Addr → Prop} {H : Hp} {vs : List V} {x : PyData} (r : Reps K T H vs [x]) : ∃ v, vs = [v] ∧ Rep K T H v x := by
  cases r with
  | cons r1 r2 => cases r2; exact ⟨_, rfl, r1⟩
theorem reps2 {T : Addr → Prop} {H : Hp} {vs : List V} {x y : PyData} (r : Reps K T H vs [x, y]) : ∃ v u, vs = [v, u] ∧ Rep K T H v x ∧ Rep K T H u y := by
  cases r with
  | cons r1 r2 =>
    cases r2 with
    | cons r2 r3 => cases r3; exact ⟨_, _, rfl, r1, r2⟩
theorem cv_len : CalV K (fun xs H Q => ∃ x n, xs = [x] ∧ LenV K x H n ∧ Q (.int n) H) fLen := fun T H vs xs z Q lv r e q => by
  unfold fLen at e
  split at e
  · obtain ⟨v, rfl, r'⟩ := reps1 r
    cases e
    cases r' with
    | lst n a s => exact ⟨_, _, rfl, .inl ⟨_, SqL.of a, rfl⟩, q _ H (Same.refl H) (by rw [s.length]; exact .int _)⟩
  · obtain ⟨v, rfl, r'⟩ := reps1 r
    cases e
    cases r' with
    | tup a s => exact ⟨_, _, rfl, .inr ⟨_, a.sq, rfl⟩, q _ H (Same.refl H) (by rw [s.length]; exact .int _)⟩
  · cases e
theorem cv_sum : CalV K (rSum K) fSum := fun T H vs xs z Q lv r e q => by
  unfold fSum at e
  split at e
  · obtain ⟨v, rfl, r'⟩ := reps1 r
    cases r' with
    | lst n a s =>
      obtain ⟨ns, e1, e2⟩ := Option.map_eq_some_iff.mp e
      subst e2
      obtain ⟨e3, e4⟩ := s.of_ints e1
      subst e3
      exact ⟨_, ns, rfl, SqL.of a, q _ H (Same.refl H) (.int _)⟩
  · cases e
theorem maxI_spec : ∀ (r : List Int) (a : Int), maxI a r ∈ a :: r ∧ ∀ y ∈ a :: r, y ≤ maxI a r
  | [], a => ⟨List.mem_cons_self, fun y hy => by simp at hy; subst hy; exact Int.le_refl _⟩
  | x :: r, a => by
    have e : maxI a (x :: r) = maxI (if a < x then x else a) r := rfl
    rw [e]
    obtain ⟨h1, h2⟩ := maxI_spec r (if a < x then x else a)
    constructor
    · rcases List.mem_cons.mp h1 with h | h
      · rw [h]; split <;> simp
      · exact List.mem_cons_of_mem _ (List.mem_cons_of_mem _ h)
    · intro y hy
      have h3 := h2 (if a < x then x else a) List.mem_cons_self
      rcases List.mem_cons.mp hy with h | h
      · subst h
        refine Int.le_trans ?_ h3
        split <;> omega
      · rcases List.mem_cons.mp h with h | h
        · subst h
          refine Int.le_trans ?_ h3
          split <;> omega
        · exact h2 y (List.mem_cons_of_mem _ h)
theorem minI_spec : ∀ (r : List Int) (a : Int), minI a r ∈ a :: r ∧ ∀ y ∈ a :: r, minI a r ≤ y
  | [], a => ⟨List.mem_cons_self, fun y hy => by simp at hy; subst hy; exact Int.le_refl _⟩
  | x :: r, a => by
    have e : minI a (x :: r) = minI (if x < a then x else a) r := rfl
    rw [e]
    obtain ⟨h1, h2⟩ := minI_spec r (if x < a then x else a)
    constructor
    · rcases List.mem_cons.mp h1 with h | h
      · rw [h]; split <;> simp
      · exact List.mem_cons_of_mem _ (List.mem_cons_of_mem _ h)
    · intro y hy
      have h3 := h2 (if x < a then x else a) List.mem_cons_self
      rcases List.mem_cons.mp hy with h | h
      · subst h
        refine Int.le_trans h3 ?_
        split <;> omega
      · rcases List.mem_cons.mp h with h | h
        · subst h
          refine Int.le_trans h3 ?_
          split <;> omega
        · exact h2 y (List.mem_cons_of_mem _ h)
theorem cv_max : CalV K (fun xs H Q => (∃ i j, xs = [.int i, .int j] ∧ Q (.int (if j > i then j else i)) H) ∨ rMax K xs H Q) fMax := fun T H vs xs z Q lv r e q => by
  unfold fMax at e
  split at e
  · obtain ⟨v, rfl, r'⟩ := reps1 r
    cases r' with
    | lst n a s =>
      obtain ⟨ns, e1, e2⟩ := Option.bind_eq_some_iff.mp e
      obtain ⟨e3, e4⟩ := s.of_ints e1
      subst e3
      cases ns with
      | nil => cases e2
      | cons b t =>
        cases e2
        refine .inr ⟨_, _, rfl, SqL.of a, Nat.succ_pos _, fun m hm hb => ?_⟩
        obtain ⟨h1, h2⟩ := maxI_spec t b
        have em : m = maxI b t := Int.le_antisymm (h2 m hm) (hb _ h1)
        rw [em]
        exact q _ H (Same.refl H) (.int _)
  · obtain ⟨v, u, rfl, r1, r2⟩ := reps2 r
    cases e
    cases r1; cases r2
    exact .inl ⟨_, _, rfl, q _ H (Same.refl H) (.int _)⟩
  · cases e
theorem cv_min : CalV K (fun xs H Q => (∃ i j, xs = [.int i, .int j] ∧ Q (.int (if j < i then j else i)) H) ∨ rMin K xs H Q) fMin := fun T H vs xs z Q lv r e q => by
  unfold fMin at e
  split at e
  · obtain ⟨v, rfl, r'⟩ := reps1 r
    cases r' with
    | lst n a s =>
      obtain ⟨ns, e1, e2⟩ := Option.bind_eq_some_iff.mp e
      obtain ⟨e3, e4⟩ := s.of_ints e1
      subst e3
      cases ns with
      | nil => cases e2
      | cons b t =>
        cases e2
        refine .inr ⟨_, _, rfl, SqL.of a, Nat.succ_pos _, fun m hm hb => ?_⟩
        obtain ⟨h1, h2⟩ := minI_spec t b
        have em : m = minI b t := Int.le_antisymm (hb _ h1) (h2 m hm)
        rw [em]
        exact q _ H (Same.refl H) (.int _)
  · obtain ⟨v, u, rfl, r1, r2⟩ := reps2 r
    cases e
    cases r1; cases r2
    exact .inl ⟨_, _, rfl, q _ H (Same.refl H) (.int _)⟩
  · cases e
theorem cv_any : CalV K (rAny K) fAny := fun T H vs xs z Q lv r e q => by
  unfold fAny at e
  split at e
  · obtain ⟨v, rfl, r'⟩ := reps1 r
    cases r' with
    | lst n a s =>
      obtain ⟨ns, e1, e2⟩ := Option.map_eq_some_iff.mp e
      subst e2
      obtain ⟨e3, e4⟩ := s.of_bools e1
      subst e3
      exact ⟨_, ns, rfl, SqL.of a, q _ H (Same.refl H) (.bl _)⟩
  · cases e
theorem cv_all : CalV K (rAll K) fAll := fun T H vs xs z Q lv r e q => by
  unfold fAll at e
  split at e
  · obtain ⟨v, rfl, r'⟩ := reps1 r
    cases r' with
    | lst n a s =>
      obtain ⟨ns, e1, e2⟩ := Option.map_eq_some_iff.mp e
      subst e2
      obtain ⟨e3, e4⟩ := s.of_bools e1
      subst e3
      exact ⟨_, ns, rfl, SqL.of a, q _ H (Same.refl H) (.bl _)⟩
  · cases e
theorem cv_abs : CalV K (fun xs H Q => ∃ i, xs = [.int i] ∧ Q (.int (if i < 0 then -i else i)) H) fAbs := fun T H vs xs z Q lv r e q => by
  unfold fAbs at e
  split at e
  · obtain ⟨v, rfl, r'⟩ := reps1 r
    cases e
    cases r'
    exact ⟨_, rfl, q _ H (Same.refl H) (.int _)⟩
  · cases e
theorem cv_int : CalV K (fun xs H Q => (∃ i, xs = [.int i] ∧ Q (.int i) H) ∨ ∃ k, xs = [.bl k] ∧ Q (.int (if k then 1 else 0)) H) fInt := fun T H vs xs z Q lv r e q => by
  unfold fInt at e
  split at e
  · obtain ⟨v, rfl, r'⟩ := reps1 r
    cases e
    cases r'
    exact .inl ⟨_, rfl, q _ H (Same.refl H) (.int _)⟩
  · obtain ⟨v, rfl, r'⟩ := reps1 r
    cases e
    cases r'
    exact .inr ⟨_, rfl, q _ H (Same.refl H) (.int _)⟩
  · cases e
theorem pv_len {p : Pos} {KK : PySem.W.Frag} (hKK : X.K = KK) (hm : X.mg "len" = none) (ha : PAV X m (e :: es) tas fs) (hg : Gl X "len") (he : starEach (e :: es) X.env = (false, eval e X.env) :: starEach es X.env) (hpl : (backTo pos (starEach es X.env)).any (·.1) = false) :
    PV X m (.Call (.Name "len" p) (e :: es) [] pos) (tCB (fun xs H Q => ∃ x n, xs = [x] ∧ LenV KK x H n ∧ Q (.int n) H) tas) (xCall fLen fs) := by
  subst hKK
  exact (show
    PV X m (.Call (.Name "len" p) (e :: es) [] pos) (tCB (fun xs H Q => ∃ x n, xs = [x] ∧ LenV X.K x H n ∧ Q (.int n) H) tas) (xCall fLen fs) from
  pv_callB call_len cv_len hg hm PySem.boot_len ha (by decide) (by decide) he hpl)

theorem pv_sum {p : Pos} {KK : PySem.W.Frag} (hKK : X.K = KK) (hc : X.calm = true) (hm : X.mg "sum" = none) (ha : PAV X m (e :: es) tas fs) (hg : Gl X "sum") (he : starEach (e :: es) X.env = (false, eval e X.env) :: starEach es X.env) (hpl : (backTo pos (starEach es X.env)).any (·.1) = false) :
    PV X m (.Call (.Name "sum" p) (e :: es) [] pos) (tCB (rSum KK) tas) (xCall fSum fs) := by
  subst hKK
  exact (show
    PV X m (.Call (.Name "sum" p) (e :: es) [] pos) (tCB (rSum X.K) tas) (xCall fSum fs) from
  pv_callB (cr_sum hc) cv_sum hg hm (by decide +kernel) ha (by decide) (by decide) he hpl)

theorem pv_max {p : Pos} {KK : PySem.W.Frag} (hKK : X.K = KK) (hc : X.calm = true) (hm : X.mg "max" = none) (ha : PAV X m (e :: es) tas fs) (hg : Gl X "max") (he : starEach (e :: es) X.env = (false, eval e X.env) :: starEach es X.env) (hpl : (backTo pos (starEach es X.env)).any (·.1) = false) :
    PV X m (.Call (.Name "max" p) (e :: es) [] pos) (tCB (fun xs H Q => (∃ i j, xs = [.int i, .int j] ∧ Q (.int (if j > i then j else i)) H) ∨ rMax KK xs H Q) tas) (xCall fMax fs) := by
  subst hKK
  exact (show
    PV X m (.Call (.Name "max" p) (e :: es) [] pos) (tCB (fun xs H Q => (∃ i j, xs = [.int i, .int j] ∧ Q (.int (if j > i then j else i)) H) ∨ rMax X.K xs H Q) tas) (xCall fMax fs) from
  pv_callB ((call_max2 hc).or (cr_max hc)) cv_max hg hm (by decide +kernel) ha (by decide) (by decide) he hpl)

theorem pv_min {p : Pos} {KK : PySem.W.Frag} (hKK : X.K = KK) (hc : X.calm = true) (hm : X.mg "min" = none) (ha : PAV X m (e :: es) tas fs) (hg : Gl X "min") (he : starEach (e :: es) X.env = (false, eval e X.env) :: starEach es X.env) (hpl : (backTo pos (starEach es X.env)).any (·.1) = false) :
    PV X m (.Call (.Name "min" p) (e :: es) [] pos) (tCB (fun xs H Q => (∃ i j, xs = [.int i, .int j] ∧ Q (.int (if j < i then j else i)) H) ∨ rMin KK xs H Q) tas) (xCall fMin fs) := by
  subst hKK
  exact (show
    PV X m (.Call (.Name "min" p) (e :: es) [] pos) (tCB (fun xs H Q => (∃ i j, xs = [.int i, .int j] ∧ Q (.int (if j < i then j else i)) H) ∨ rMin X.K xs H Q) tas) (xCall fMin fs) from
  pv_callB ((call_min2 hc).or (cr_min hc)) cv_min hg hm (by decide +kernel) ha (by decide) (by decide) he hpl)

theorem pv_any {p : Pos} {KK : PySem.W.Frag} (hKK : X.K = KK) (hc : X.calm = true) (hm : X.mg "any" = none) (ha : PAV X m (e :: es) tas fs) (hg : Gl X "any") (he : starEach (e :: es) X.env = (false, eval e X.env) :: starEach es X.env) (hpl : (backTo pos (starEach es X.env)).any (·.1) = false) :
    PV X m (.Call (.Name "any" p) (e :: es) [] pos) (tCB (rAny KK) tas) (xCall fAny fs) := by
  subst hKK
  exact (show
    PV X m (.Call (.Name "any" p) (e :: es) [] pos) (tCB (rAny X.K) tas) (xCall fAny fs) from
  pv_callB (cr_any hc) cv_any hg hm (by decide +kernel) ha (by decide) (by decide) he hpl)

theorem pv_all {p : Pos} {KK : PySem.W.Frag} (hKK : X.K = KK) (hc : X.calm = true) (hm : X.mg "all" = none) (ha : PAV X m (e :: es) tas fs) (hg : Gl X "all") (he : starEach (e :: es) X.env = (false, eval e X.env) :: starEach es X.env) (hpl : (backTo pos (starEach es X.env)).any (·.1) = false) :
    PV X m (.Call (.Name "all" p) (e :: es) [] pos) (tCB (rAll KK) tas) (xCall fAll fs) := by
  subst hKK
  exact (show
    PV X m (.Call (.Name "all" p) (e :: es) [] pos) (tCB (rAll X.K) tas) (xCall fAll fs) from
  pv_callB (cr_all hc) cv_all hg hm (by decide +kernel) ha (by decide) (by decide) he hpl)

theorem pv_abs {p : Pos} (hm : X.mg "abs" = none) (ha : PAV X m (e :: es) tas fs) (hg : Gl X "abs") (he : starEach (e :: es) X.env = (false, eval e X.env) :: starEach es X.env) (hpl : (backTo pos (starEach es X.env)).any (·.1) = false) :
    PV X m (.Call (.Name "abs" p) (e :: es) [] pos) (tCB (fun xs H Q => ∃ i, xs = [.int i] ∧ Q (.int (if i < 0 then -i else i)) H) tas) (xCall fAbs fs) :=
  pv_callB call_abs cv_abs hg hm (by decide +kernel) ha (by decide) (by decide) he hpl
theorem pv_intOf {p : Pos} (hm : X.mg "int" = none) (ha : PAV X m (e :: es) tas fs) (hg : Gl X "int") (he : starEach (e :: es) X.env = (false, eval e X.env) :: starEach es X.env) (hpl : (backTo pos (starEach es X.env)).any (·.1) = false) :
    PV X m (.Call (.Name "int" p) (e :: es) [] pos) (tCB (fun xs H Q => (∃ i, xs = [.int i] ∧ Q (.int i) H) ∨ ∃ k, xs = [.bl k] ∧ Q (.int (if k then 1 else 0)) H) tas) (xCall fInt fs) :=
  pv_callTy call_int1 cv_int hg hm (by decide +kernel) ha (by decide) (by decide) he hpl

/-! ### new lists from built-ins -/
def CalL (K : PySem.W.Frag) (r : List V → Hp → VK → Prop) (F : PyData → Option (List PyData)) : Prop :=
  ∀ (T : Addr → Prop) (H : Hp) (v : V) (x : PyData) (zs : List PyData) (Q : VK), Rep K T H v x → F x = some zs → (∀ p vs, H p = none → Reps K T H vs zs → Q (.ref p) (upd H p (.lst vs))) → r [v] H Q
theorem vw_callL {r : List V → Hp → VK → Prop} {F : PyData → Option (List PyData)} (ho : CalL K r F) (p : VwE K m ta f) : VwL K m (tCB r (tCons ta tNil)) (fun env => do let x ← f env; lift (F x)) := fun g env w σ H Q x w' hK I hf k => by
  obtain ⟨y, w1, h1, h2⟩ := bind_some.mp hf
  obtain ⟨e1, rfl⟩ := lift_get h2
  refine p g env w σ H _ y _ hK I h1 fun v H1 k1 d1 r1 => ?_
  have I1 := I.step k1 d1
  refine ho _ H1 v y x Q r1 e1 fun q vs hq r2 => ?_
  obtain ⟨k2, d2⟩ := I1.new (o := .lst vs) hq
  refine k q vs _ ?_ (k1.trans k2) d2 upd_same ((Reps.fresh hq _ r2).mon (fun a o n e => upd_new hq a o e) fun _ z => z)
  cases z : H q with
  | none => rfl
  | some o => exact absurd hq (k1.live q (by rw [z]; simp))
theorem cl_list : CalL K (fun xs H Q => ∃ p ys, xs = [.ref p] ∧ (SqL K H p ys ∨ SqT K H p ys) ∧ ∀ l, H l = none → Q (.ref l) (upd H l (.lst ys))) fList := fun T H v x zs Q r e q => by
  cases r with
  | lst n a s => cases e; exact ⟨_, _, rfl, .inl (SqL.of a), fun l hl => q l _ hl s⟩
  | tup a s => cases e; exact ⟨_, _, rfl, .inr a.sq, fun l hl => q l _ hl s⟩
  | _ => cases e
theorem plv_list {p : Pos} {KK : PySem.W.Frag} (hKK : X.K = KK) (hm : X.mg "list" = none) (q : PV X m e ta f) (hg : Gl X "list") (hst : starEach [e] X.env = (false, eval e X.env) :: starEach [] X.env) (hpl : (backTo pos (starEach [] X.env)).any (·.1) = false) :
    PLV X m (.Call (.Name "list" p) [e] [] pos) (tCB (fun xs H Q => ∃ p ys, xs = [.ref p] ∧ (SqL KK H p ys ∨ SqT KK H p ys) ∧ ∀ l, H l = none → Q (.ref l) (upd H l (.lst ys))) (tCons ta tNil)) (xList f) := by
  subst hKK
  exact (show
    PLV X m (.Call (.Name "list" p) [e] [] pos) (tCB (fun xs H Q => ∃ p ys, xs = [.ref p] ∧ (SqL X.K H p ys ∨ SqT X.K H p ys) ∧ ∀ l, H l = none → Q (.ref l) (upd H l (.lst ys))) (tCons ta tNil)) (xList f) from
  ⟨pe_callTy call_list_of hg hm (by decide +kernel) (pa_cons q.pe pa_nil hst) (by decide) (by decide) hst hpl, vw_callL cl_list q.vw⟩)

theorem insI_perm (x : Int) : ∀ xs : List Int, (insI x xs).Perm (x :: xs)
  | [] => .refl _
  | y :: r => by
    unfold insI
    split
    · exact .refl _
    · exact ((insI_perm x r).cons y).trans (.swap x y r)
theorem insI_sorted (x : Int) : ∀ xs : List Int, xs.Pairwise (· ≤ ·) → (insI x xs).Pairwise (· ≤ ·)
  | [], _ => by simp [insI]
  | y :: r, h => by
    unfold insI
    rw [List.pairwise_cons] at h
    split
    · rename_i hc
      rw [List.pairwise_cons]
      refine ⟨fun z hz => ?_, List.pairwise_cons.mpr h⟩
      rcases List.mem_cons.mp hz with e | e
      · subst e; exact hc
      · exact Int.le_trans hc (h.1 z e)
    · rename_i hc
      rw [List.pairwise_cons]
      refine ⟨fun z hz => ?_, insI_sorted x r h.2⟩
      have := (insI_perm x r).mem_iff.mp hz
      rcases List.mem_cons.mp this with e | e
      · subst e; omega
      · exact h.1 z e
theorem sortI_perm : ∀ xs : List Int, (sortI xs).Perm xs
  | [] => .refl _
  | x :: r => (insI_perm x _).trans ((sortI_perm r).cons x)
theorem sortI_sorted : ∀ xs : List Int, (sortI xs).Pairwise (· ≤ ·)
  | [] => .nil
  | x :: r => insI_sorted x _ (sortI_sorted r)
theorem sorted_unique : ∀ {xs ys : List Int}, xs.Perm ys → xs.Pairwise (· ≤ ·) → ys.Pairwise (· ≤ ·) → xs = ys := fun {xs ys} p h1 h2 =>
  p.eq_of_pairwise (fun a b _ _ h3 h4 => Int.le_antisymm h3 h4) h1 h2
theorem cl_sorted : CalL K (rSortedI K) fSorted := fun T H v x zs Q r e q => by
  cases r with
  | lst n a s =>
    obtain ⟨ns, e1, e2⟩ := Option.bind_eq_some_iff.mp e
    obtain ⟨e3, e4⟩ := s.of_ints e1
    subst e3
    split at e2
    · cases e2
      refine ⟨_, ns, rfl, SqL.of a, fun ns' p h1 h2 hp => ?_⟩
      have e5 : ns' = sortI ns := sorted_unique (h1.trans (sortI_perm ns).symm) h2 (sortI_sorted ns)
      rw [e5]
      exact q p _ hp (Reps.ints_map _)
    · cases e2
  | _ => cases e
theorem plv_sorted {p : Pos} {KK : PySem.W.Frag} (hKK : X.K = KK) (hm : X.mg "sorted" = none) (q : PV X m e ta f) (hg : Gl X "sorted") (hst : starEach [e] X.env = (false, eval e X.env) :: starEach [] X.env) (hpl : (backTo pos (starEach [] X.env)).any (·.1) = false) :
    PLV X m (.Call (.Name "sorted" p) [e] [] pos) (tCB (rSortedI KK) (tCons ta tNil)) (xSorted f) := by
  subst hKK
  exact (show
    PLV X m (.Call (.Name "sorted" p) [e] [] pos) (tCB (rSortedI X.K) (tCons ta tNil)) (xSorted f) from
  ⟨pe_callB cr_sortedI hg hm (by decide +kernel) (pa_cons q.pe pa_nil hst) (by decide) (by decide) hst hpl, vw_callL cl_sorted q.vw⟩)

/-! ### methods -/
theorem pv_index {apos : Pos} {KK : PySem.W.Frag} (hKK : X.K = KK) (p : PV X m a ta f) (q : PAV X m [b] tas fs)
    (hbase : attributeBase a "index" X.env (eval a X.env) = eval a X.env)
    (hfew : ((backTo pos (starEach [b] X.env)).all (fun x => !x.1) && (backToKw pos (keywordEach [] X.env)).all (fun x => x.1.isSome)
      && decide ([b].length + ([] : List Keyword).length + (if ([] : List Keyword).isEmpty then 0 else 1) < 30)) = true)
    (hline : (apos.endLine == pos.line) = true) (hs : starEach [b] X.env = (false, eval b X.env) :: starEach [] X.env) (hplain : (backTo pos (starEach [] X.env)).any (·.1) = false) :
    PV X m (.Call (.Attribute a "index" apos) [b] [] pos) (tBM KK "list" (rIndex KK) ta tas) (xMeth fIndex f fs) := by
  subst hKK
  exact (show
    PV X m (.Call (.Attribute a "index" apos) [b] [] pos) (tBM X.K "list" (rIndex X.K) ta tas) (xMeth fIndex f fs) from  ⟨pe_bm PySem.F.plainAttrs_list PySem.F.slot_list_index PySem.F.type_list_index mt_index p.pe q.pe hbase hfew hline hs hplain, fun g env w σ H Q x w' hK I hf k => by
  obtain ⟨y, w1, h1, h2⟩ := bind_some.mp hf
  obtain ⟨ys, w2, h3, h4⟩ := bind_some.mp h2
  obtain ⟨e1, rfl⟩ := lift_get h4
  refine p.vw g env w σ H _ y _ hK I h1 fun v H1 k1 d1 r1 => ?_
  unfold fIndex at e1
  split at e1
  · rename_i xs y2
    split at e1
    · rename_i hc
      rw [Bool.and_eq_true] at hc
      obtain ⟨j, e2, e3⟩ := Option.map_eq_some_iff.mp e1
      subst e3
      have ty : tyV X.K "list" v H1 := by
        cases r1 with
        | lst n a s => exact .inl ⟨rfl, _, SqL.of a⟩
      refine ⟨ty, ?_⟩
      refine q.vw g env _ σ H1 _ _ _ hK (I.step k1 d1) h3 fun vs H2 k2 d2 r2 => ?_
      have r1 := r1.keep k2
      obtain ⟨u, rfl, r2'⟩ := reps1 r2
      cases r1 with
      | lst n a s =>
        obtain ⟨hj, e4, e5⟩ := List.findIdx?_eq_some_iff_getElem.mp e2
        obtain ⟨z, e6, r6⟩ := s.get (List.getElem?_eq_getElem hj)
        refine ⟨_, _, u, j, z, rfl, rfl, SqL.of a, flat_rep r2' hc.1, flats_rep s hc.2, e6, ?_, fun mm z' hm hz => ?_, k _ H2 (k1.trans k2) d2 (.int _)⟩
        · rw [eqv_rep r6 r2' (List.all_eq_true.mp hc.2 _ (List.getElem_mem hj)) hc.1]
          exact e4
        · obtain ⟨z2, e7, r7⟩ := s.get (List.getElem?_eq_getElem (Nat.lt_trans hm hj))
          rw [e7] at hz
          cases hz
          rw [eqv_rep r7 r2' (List.all_eq_true.mp hc.2 _ (List.getElem_mem _)) hc.1]
          exact Bool.eq_false_iff.mpr (e5 mm hm)
    · cases e1
  · cases e1⟩)

/-! ### calls of the program's own defs -/
/-- a def's promise: called with values xs it hands back what F says, and all that stood stands -/
def vsp (K : PySem.W.Frag) (F : List PyData → Option PyData) : Sp := fun vs H Q _ => ∃ (T : Addr → Prop) (xs : List PyData) (y : PyData), (∀ a, T a → H a ≠ none) ∧ Reps K T H vs xs ∧ F xs = some y ∧
  ∀ v H', Same H H' → Rep K T H' v y → Q v H'
structure Cal (P : Program) (w : World) (K : PySem.W.Frag) (mg : Str → Option Value) (base : Heap) (x : Str) (k : Nat) (F : List PyData → Option PyData) : Prop where
  ex : ∃ (f : Addr) (fd : FuncData) (ps : List Str), FnOk P w K mg base CX0 k f fd ps (vsp K F) ∧ mg x = some (.ref f) ∧ PySem.W.keepIn K (.ref f) = true ∧ Binds K fd ps []
theorem pv_call {x : Str} {p : Pos} {n : Nat} {F : List PyData → Option PyData} {KK : PySem.W.Frag} (hKK : X.K = KK) (c : Cal X.prog X.w X.K X.mg X.base x n F) (hr : Room n X.A) (ha : PAV X m (e :: es) tas fs) (hg : Gl X x) (hdb : (x == ("__debug__" : Str)) = false)
    (he : starEach (e :: es) X.env = (false, eval e X.env) :: starEach es X.env) (hpl : (backTo pos (starEach es X.env)).any (·.1) = false) : PV X m (.Call (.Name x p) (e :: es) [] pos) (tCall (vsp KK F) [] E0 tas) (xCall F fs) := by
  subst hKK
  exact (show PV X m (.Call (.Name x p) (e :: es) [] pos) (tCall (vsp X.K F) [] E0 tas) (xCall F fs) from  by
  obtain ⟨fa, fd, ps, G, mgf, kp, bi⟩ := c.ex
  refine ⟨pe_call G hr hg mgf kp bi .nil pass0 ha.pe hdb he hpl, fun g env w σ H Q x w' hK I hf k => ?_⟩
  obtain ⟨ys, w1, h1, h2⟩ := bind_some.mp hf
  obtain ⟨e1, rfl⟩ := lift_get h2
  refine ha.vw g env w σ H _ ys _ hK I h1 fun vs H1 k1 d1 r1 => ?_
  have I1 := I.step k1 d1
  rw [List.append_nil]
  exact ⟨av g m env σ, ys, x, fun a t => I1.avLive t, r1, e1, fun v H' s r2 => k v H' (k1.trans (Keep.of_same s)) (I1.same s) r2⟩)

end
end VE

namespace VE
open PySem PySem.Spec L2
open PyProof.Rows hiding St
/-! ### what is walked -/
section
variable {K : PySem.W.Frag} {T T' : Addr → Prop} {H H' : Hp}
theorem TupAt.tracked {a : Addr} {vs : List V} (q : TupAt K T H a vs) : TupAt K (fun b => T b ∨ H b = none) H a vs := by
  rcases q with ⟨n, q | ⟨o, q⟩⟩ | q
  · exact .inl ⟨fun z => z.elim n fun e => (by rw [q] at e; cases e), .inl q⟩
  · exact .inl ⟨fun z => z.elim n fun e => (by rw [q] at e; cases e), .inr ⟨o, q⟩⟩
  · exact .inr q
mutual
theorem Rep.tracked : ∀ (x : PyData) {v : V}, Rep K T H v x → Rep K (fun b => T b ∨ H b = none) H v x
  | .none, _, h => by cases h; exact .non
  | .bool b, _, h => by cases h; exact .bl b
  | .int i, _, h => by cases h; exact .int i
  | .str i, _, h => by cases h; exact .str i
  | .list xs, _, h => by
    cases h with
    | lst n e r => exact .lst (fun q => q.elim n fun z => by rw [e] at z; cases z) e (Reps.tracked xs r)
  | .tuple xs, _, h => by
    cases h with
    | tup e r => exact .tup e.tracked (Reps.tracked xs r)
  | .dict _, _, h => by cases h
theorem Reps.tracked : ∀ (xs : List PyData) {vs : List V}, Reps K T H vs xs → Reps K (fun b => T b ∨ H b = none) H vs xs
  | [], _, h => by cases h; exact .nil
  | x :: xs, _, h => by
    cases h with
    | cons h1 h2 => exact .cons (Rep.tracked x h1) (Reps.tracked xs h2)
end
end
/-- an iterator that gives out xs, whatever happens to what A holds; the items lean on nothing of B -/
def Wk (K : PySem.W.Frag) (A B : Addr → Prop) (J : It) (xs : List PyData) (H1 : Hp) : Prop :=
  ∀ H2, Keep A H1 H2 → (∀ (i : Nat) x, xs[i]? = some x → J.go i H2 ∧ ∀ v H3, J.yld i H2 v H3 → Same H2 H3 ∧ Rep K (fun a => B a ∨ (H1 a = none ∧ H2 a ≠ none)) H3 v x) ∧ J.stop xs.length H2
def VwI (K : PySem.W.Frag) (m : Bool) (wi : TI) (f : IF) : Prop :=
  ∀ (g : Gh) (env : En) (w : W) (σ : SS) (H : Hp) (R : It → Hp → Prop) (xs : List PyData) (w' : W), g.K = K → StOk g env w σ H → f env w = some (xs, w') →
    (∀ J H', Keep g.Z H H' → g.dr w' H' → Wk K (av g m env σ) (av g true env σ) J xs H' → R J H') → wi σ H R
structure PIV (X : Cx) (m : Bool) (tg iter : Expr) (wi : TI) (f : IF) : Prop where
  pe : PI X tg iter wi
  vw : VwI X.K m wi f
section
variable {X : Cx} {m : Bool} {e a b c tg : Expr} {es : List Expr} {ta : TE} {tas : TA} {f : EF} {fs : AF} {p pos : Pos} {K : PySem.W.Frag}
theorem reps_stay {A B : Addr → Prop} {H1 H2 : Hp} {vs : List V} {xs : List PyData} (ab : ∀ a, A a → B a) (k : Keep A H1 H2) (r : Reps K B H1 vs xs) : Reps K (fun a => B a ∨ (H1 a = none ∧ H2 a ≠ none)) H2 vs xs :=
  (Reps.tracked xs r).mon (fun a o na ea => k.at_ a o (fun z => na (.inl (ab a z))) ea) fun a z => z.elim .inl fun q => .inr q.1
theorem wk_list {A B : Addr → Prop} {H1 : Hp} {p : Addr} {vs : List V} {xs : List PyData} (ab : ∀ a, A a → B a) (n : ¬ A p) (e : H1 p = some (.lst vs)) (r : Reps K B H1 vs xs) : Wk K A B (Itl K p) xs H1 := fun H2 k => by
  have e2 : H2 p = some (.lst vs) := k.at_ p _ n e
  have r2 := reps_stay ab k r
  refine ⟨fun i x hx => ?_, vs, SqL.of e2, by rw [r.length]; exact Nat.le_refl _⟩
  obtain ⟨v, hv, rv⟩ := r2.get hx
  refine ⟨⟨vs, v, SqL.of e2, hv⟩, fun u H3 y => ?_⟩
  obtain ⟨rfl, y⟩ := y
  have : u = v := Option.some.inj ((y vs (SqL.of e2)).symm.trans hv)
  subst this
  exact ⟨Same.refl _, rv⟩
theorem wk_tup {A B : Addr → Prop} {H1 : Hp} {p : Addr} {vs : List V} {xs : List PyData} (ab : ∀ a, A a → B a) (e : TupAt K A H1 p vs) (r : Reps K B H1 vs xs) : Wk K A B (Itt K p) xs H1 := fun H2 k => by
  have e2 : SqT K H2 p vs := (e.mono (fun a o n e => k.at_ a o n e) fun _ z => z).sq
  have r2 := reps_stay ab k r
  refine ⟨fun i x hx => ?_, vs, e2, by rw [r.length]; exact Nat.le_refl _⟩
  obtain ⟨v, hv, rv⟩ := r2.get hx
  refine ⟨⟨vs, v, e2, hv⟩, fun u H3 y => ?_⟩
  obtain ⟨rfl, y⟩ := y
  have : u = v := Option.some.inj ((y vs e2).symm.trans hv)
  subst this
  exact ⟨Same.refl _, rv⟩
theorem piv_list {KK : PySem.W.Frag} (hKK : X.K = KK) (q : PV X true e ta f) : PIV X m tg e (iList KK ta) (iLst f) := by
  subst hKK
  exact (show PIV X m tg e (iList X.K ta) (iLst f) from  ⟨pi_list q.pe, fun g env w σ H R xs w' hK I hf k => by
  obtain ⟨y, w1, h1, h2⟩ := bind_some.mp hf
  obtain ⟨e1, rfl⟩ := lift_get h2
  refine q.vw g env w σ H _ y _ hK I h1 fun v H1 k1 d1 r1 => ?_
  cases r1 with
  | lst n e r => cases e1; exact ⟨_, rfl, ⟨_, SqL.of e⟩, k _ H1 k1 d1 (wk_list (fun _ => av_le) (fun z => n (av_le z)) e r)⟩
  | _ => cases e1⟩)

theorem piv_tup {KK : PySem.W.Frag} (hKK : X.K = KK) (q : PV X true e ta f) : PIV X m tg e (iTup KK ta) (iTupl f) := by
  subst hKK
  exact (show PIV X m tg e (iTup X.K ta) (iTupl f) from  ⟨pi_tup q.pe, fun g env w σ H R xs w' hK I hf k => by
  obtain ⟨y, w1, h1, h2⟩ := bind_some.mp hf
  obtain ⟨e1, rfl⟩ := lift_get h2
  refine q.vw g env w σ H _ y _ hK I h1 fun v H1 k1 d1 r1 => ?_
  cases r1 with
  | tup e r => cases e1; exact ⟨_, rfl, ⟨_, e.sq⟩, k _ H1 k1 d1 (wk_tup (fun _ => av_le) (e.mono (fun _ _ _ e => e) fun _ => av_le) r)⟩
  | _ => cases e1⟩)

/-- over a list that the def may change, while it does not -/
theorem piv_own {i : Nat} {x : Str} {KK : PySem.W.Frag} (hKK : X.K = KK) (hN : X.N[i]? = some x) (hv : visB X.env.scope x = true) (hd : dunB x = true) : PIV X false tg (.Name x pos) (iList KK (tVar i)) (iOwn i) := by
  subst hKK
  exact (show PIV X false tg (.Name x pos) (iList X.K (tVar i)) (iOwn i) from  ⟨pi_list (pe_var hN (vis_of hv) (dun1 hd) (dun2 hd)), fun g env w σ H R xs w' hK I hf k => by
  unfold iOwn at hf
  cases e : env[i]? with
  | none => rw [e] at hf; cases hf
  | some s =>
    rw [e] at hf
    cases s with
    | ow ys =>
      obtain ⟨rfl, rfl⟩ := pure_get hf
      obtain ⟨a, vs, hv, ha, r, _, nt⟩ := I.ow i _ e
      have r : Reps X.K (av g true env σ) H vs ys := by rw [← hK]; exact r
      exact ⟨_, hv, _, rfl, ⟨_, SqL.of ha⟩, k _ H (Keep.refl _ _) I.dr (wk_list (fun _ => av_le) (fun z => nt (av_false z)) ha r)⟩
    | _ => cases hf⟩)

theorem wk_range {A B : Addr → Prop} {H1 : Hp} (lo hi : Int) : Wk K A B (Itr lo (hi - lo).toNat) (rangeL lo hi) H1 := fun H2 k => by
  have hl : (rangeL lo hi).length = (hi - lo).toNat := by simp [rangeL]
  refine ⟨fun i x hx => ?_, by show (hi - lo).toNat ≤ _; rw [hl]; exact Nat.le_refl _⟩
  have hi' : i < (hi - lo).toNat := by
    have := (List.getElem?_eq_some_iff.mp hx).1
    rw [hl] at this
    exact this
  refine ⟨hi', fun v H3 y => ?_⟩
  obtain ⟨rfl, rfl⟩ := y
  have ex : x = .int (lo + (i : Int)) := by
    unfold rangeL at hx
    rw [List.getElem?_map, List.getElem?_range hi'] at hx
    exact (Option.some.inj hx).symm
  subst ex
  exact ⟨Same.refl _, .int _⟩
theorem small62_of {i : Int} (h : small62 i = true) : -(2 ^ 62) ≤ i ∧ i < 2 ^ 62 := by
  simpa only [small62, Bool.and_eq_true, decide_eq_true_eq] using h
theorem piv_range1 (hm : X.mg "range" = none) (q : PAV X false [a] tas fs) (hg : Gl X "range") (hs : starEach [a] X.env = [(false, eval a X.env)]) : PIV X m tg (.Call (.Name "range" p) [a] [] pos) (iRng1 tas) (iR1 fs) := ⟨pi_range1 hg hm q.pe hs, fun g env w σ H R xs w' hK I hf k => by
  obtain ⟨ys, w1, h1, h2⟩ := bind_some.mp hf
  refine q.vw g env w σ H _ ys _ hK I h1 fun vs H1 k1 d1 r1 => ?_
  split at h2
  · rename_i j
    split at h2
    · rename_i hc
      obtain ⟨rfl, rfl⟩ := pure_get h2
      obtain ⟨v, rfl, r⟩ := reps1 r1
      cases r
      have hb := small62_of hc
      refine ⟨j, rfl, hb.1, hb.2, k _ H1 k1 d1 ?_⟩
      have hw := wk_range (K := X.K) (A := av g m env σ) (B := av g true env σ) (H1 := H1) 0 j
      rw [Int.sub_zero] at hw
      exact hw
    · cases h2
  · cases h2⟩
theorem piv_range2 (hm : X.mg "range" = none) (q : PAV X false [a, b] tas fs) (hg : Gl X "range") (hs : starEach [a, b] X.env = [(false, eval a X.env), (false, eval b X.env)]) (hs2 : starEach [b] X.env = [(false, eval b X.env)]) : PIV X m tg (.Call (.Name "range" p) [a, b] [] pos) (iRng2 tas) (iR2 fs) := ⟨pi_range2 hg hm q.pe hs hs2, fun g env w σ H R xs w' hK I hf k => by
  obtain ⟨ys, w1, h1, h2⟩ := bind_some.mp hf
  refine q.vw g env w σ H _ ys _ hK I h1 fun vs H1 k1 d1 r1 => ?_
  split at h2
  · rename_i i j
    split at h2
    · rename_i hc
      obtain ⟨rfl, rfl⟩ := pure_get h2
      obtain ⟨v, u, rfl, r, r'⟩ := reps2 r1
      cases r; cases r'
      rw [Bool.and_eq_true] at hc
      have hb := small62_of hc.1
      have hb2 := small62_of hc.2
      exact ⟨i, j, rfl, ⟨hb.1, hb.2, hb2.1, hb2.2⟩, k _ H1 k1 d1 (wk_range i j)⟩
    · cases h2
  · cases h2⟩
end

/-! ### targets -/
section
variable {g : Gh} {env : En} {w : W} {σ : SS} {H : Hp}
theorem set_get {α : Type} {l : List α} {i j : Nat} {s y : α} (h : (l.set i s)[j]? = some y) : (j = i ∧ y = s) ∨ (j ≠ i ∧ l[j]? = some y) := by
  by_cases e : j = i
  · subst e
    left
    by_cases hl : j < l.length
    · rw [List.getElem?_set_self hl] at h
      exact ⟨rfl, (Option.some.inj h).symm⟩
    · rw [List.getElem?_eq_none (by simpa using hl)] at h; cases h
  · right
    rw [List.getElem?_set_ne (Ne.symm e)] at h
    exact ⟨e, h⟩
theorem own_set_sh {i : Nat} {x : PyData} {v : V} {a : Addr} (h : ownA (env.set i (.sh x)) (σ.set i (some v)) a) : ownA env σ a := by
  obtain ⟨j, xs, h1, h2⟩ := h
  rcases set_get h1 with ⟨_, e⟩ | ⟨hj, h1⟩
  · cases e
  · rw [List.getElem?_set_ne (Ne.symm hj)] at h2
    exact ⟨j, xs, h1, h2⟩
theorem own_set_sh' {i : Nat} {x : PyData} {v : V} {a : Addr} (h : ownA env σ a) : ownA (env.set i (.sh x)) (σ.set i (some v)) a ∨ ∃ xs, env[i]? = some (.ow xs) := by
  obtain ⟨j, xs, h1, h2⟩ := h
  by_cases e : j = i
  · subst e; exact .inr ⟨xs, h1⟩
  · exact .inl ⟨j, xs, by rw [List.getElem?_set_ne (Ne.symm e)]; exact h1, by rw [List.getElem?_set_ne (Ne.symm e)]; exact h2⟩
theorem StOk.setSh (I : StOk g env w σ H) (i : Nat) {x : PyData} {v : V} (r : Rep g.K (av g true env σ) H v x) : StOk g (env.set i (.sh x)) w (σ.set i (some v)) H := by
  have av' : ∀ a, av g true (env.set i (.sh x)) (σ.set i (some v)) a → av g true env σ a := fun a h => h.elim .inl fun q => .inr ⟨rfl, own_set_sh q.2⟩
  refine ⟨by rw [List.length_set, List.length_set, I.len], fun j y h => ?_, fun j ys h => ?_, fun j kk h => ?_, fun j ns h => ?_, fun j j2 ys zs a h1 h2 h3 h4 => ?_, I.live, I.keep, I.dr⟩
  · rcases set_get h with ⟨rfl, e⟩ | ⟨hj, h⟩
    · cases e
      have hl : j < σ.length := by
        rw [I.len]
        have := (List.getElem?_eq_some_iff.mp h).1
        simpa using this
      exact ⟨v, by rw [List.getElem?_set_self hl], r.mon (fun _ _ _ e => e) av'⟩
    · obtain ⟨u, e, q⟩ := I.sh j y h
      exact ⟨u, by rw [List.getElem?_set_ne (Ne.symm hj)]; exact e, q.mon (fun _ _ _ e => e) av'⟩
  · rcases set_get h with ⟨rfl, e⟩ | ⟨hj, h⟩
    · cases e
    · obtain ⟨a, vs, e, q, s, n, t⟩ := I.ow j ys h
      exact ⟨a, vs, by rw [List.getElem?_set_ne (Ne.symm hj)]; exact e, q, s.mon (fun _ _ _ e => e) av', n, t⟩
  · rcases set_get h with ⟨rfl, e⟩ | ⟨hj, h⟩
    · cases e
    · rw [List.getElem?_set_ne (Ne.symm hj)]; exact I.st j kk h
  · rcases set_get h with ⟨rfl, e⟩ | ⟨hj, h⟩
    · cases e
    · obtain ⟨a, e, s⟩ := I.fz j ns h
      exact ⟨a, by rw [List.getElem?_set_ne (Ne.symm hj)]; exact e, s.mono (fun _ _ _ e => e) av'⟩
  · rcases set_get h1 with ⟨_, e⟩ | ⟨hj, h1⟩
    · cases e
    · rcases set_get h2 with ⟨_, e⟩ | ⟨hj2, h2⟩
      · cases e
      · rw [List.getElem?_set_ne (Ne.symm hj)] at h3
        rw [List.getElem?_set_ne (Ne.symm hj2)] at h4
        exact I.dist j j2 ys zs a h1 h2 h3 h4
/-- a slot that no longer counts -/
theorem StOk.setNo (I : StOk g env w σ H) (i : Nat) (o : Option V) (ho : ∀ xs, env[i]? ≠ some (.ow xs)) : StOk g (env.set i .no) w (σ.set i o) H := by
  have own' : ∀ a, ownA (env.set i .no) (σ.set i o) a → ownA env σ a := fun a ⟨j, xs, h1, h2⟩ => by
    rcases set_get h1 with ⟨_, e⟩ | ⟨hj, h1⟩
    · cases e
    · rw [List.getElem?_set_ne (Ne.symm hj)] at h2
      exact ⟨j, xs, h1, h2⟩
  have av' : ∀ a, av g true (env.set i .no) (σ.set i o) a → av g true env σ a := fun a h => h.elim .inl fun q => .inr ⟨rfl, own' a q.2⟩
  refine ⟨by rw [List.length_set, List.length_set, I.len], fun j y h => ?_, fun j ys h => ?_, fun j kk h => ?_, fun j ns h => ?_, fun j j2 ys zs a h1 h2 h3 h4 => ?_, I.live, I.keep, I.dr⟩
  · rcases set_get h with ⟨rfl, e⟩ | ⟨hj, h⟩
    · cases e
    · obtain ⟨u, e, q⟩ := I.sh j y h
      exact ⟨u, by rw [List.getElem?_set_ne (Ne.symm hj)]; exact e, q.mon (fun _ _ _ e => e) av'⟩
  · rcases set_get h with ⟨rfl, e⟩ | ⟨hj, h⟩
    · cases e
    · obtain ⟨a, vs, e, q, s, n, t⟩ := I.ow j ys h
      exact ⟨a, vs, by rw [List.getElem?_set_ne (Ne.symm hj)]; exact e, q, s.mon (fun _ _ _ e => e) av', n, t⟩
  · rcases set_get h with ⟨rfl, e⟩ | ⟨hj, h⟩
    · cases e
    · rw [List.getElem?_set_ne (Ne.symm hj)]; exact I.st j kk h
  · rcases set_get h with ⟨rfl, e⟩ | ⟨hj, h⟩
    · cases e
    · obtain ⟨a, e, s⟩ := I.fz j ns h
      exact ⟨a, by rw [List.getElem?_set_ne (Ne.symm hj)]; exact e, s.mono (fun _ _ _ e => e) av'⟩
  · rcases set_get h1 with ⟨_, e⟩ | ⟨hj, h1⟩
    · cases e
    · rcases set_get h2 with ⟨_, e⟩ | ⟨hj2, h2⟩
      · cases e
      · rw [List.getElem?_set_ne (Ne.symm hj)] at h3
        rw [List.getElem?_set_ne (Ne.symm hj2)] at h4
        exact I.dist j j2 ys zs a h1 h2 h3 h4
end
def VwG (K : PySem.W.Frag) (vs : List Nat) (t : TG) (f : GF) : Prop :=
  ∀ (g : Gh) (env : En) (w : W) (σ : SS) (H : Hp) (v : V) (x : PyData) (env' : En) (Q : SS → Hp → Prop), g.K = K → StOk g env w σ H → Rep K (av g true env σ) H v x → f x env = some env' →
    (∀ σ', StOk g env' w σ' H → (∀ a, ownA env' σ' a → ownA env σ a) → (∀ j, j ∉ vs → env'[j]? = env[j]? ∧ σ'[j]? = σ[j]?) → env'.length = env.length → Q σ' H) → t v σ H Q
def VwGs (K : PySem.W.Frag) (vs : List Nat) (t : TGs) (f : GsF) : Prop :=
  ∀ (g : Gh) (env : En) (w : W) (σ : SS) (H : Hp) (us : List V) (xs : List PyData) (env' : En) (Q : SS → Hp → Prop), g.K = K → StOk g env w σ H → Reps K (av g true env σ) H us xs → f xs env = some env' →
    (∀ σ', StOk g env' w σ' H → (∀ a, ownA env' σ' a → ownA env σ a) → (∀ j, j ∉ vs → env'[j]? = env[j]? ∧ σ'[j]? = σ[j]?) → env'.length = env.length → Q σ' H) → t us σ H Q
structure PGV (X : Cx) (tg : Expr) (vs : List Nat) (t : TG) (f : GF) : Prop where
  pe : PG X tg t
  vw : VwG X.K vs t f
structure PGsV (X : Cx) (tg : List Expr) (vs : List Nat) (t : TGs) (f : GsF) : Prop where
  pe : PGs X tg t
  vw : VwGs X.K vs t f
section
variable {X : Cx} {pos : Pos}
theorem vw_name {K : PySem.W.Frag} (i : Nat) : VwG K [i] (gName i) (gNm i) := fun g env w σ H v x env' Q hK I r hf k => by
  have r : Rep g.K (av g true env σ) H v x := by rw [hK]; exact r
  cases hf
  refine k _ (I.setSh i r) (fun a h => own_set_sh h) (fun j hj => ?_) (by rw [List.length_set])
  have hj' : i ≠ j := fun e => hj (by simp [e])
  exact ⟨List.getElem?_set_ne hj', List.getElem?_set_ne hj'⟩
theorem pgv_name {i : Nat} {x : Str} (hN : X.N.Nodup) (hi : X.N[i]? = some x) (hx : locB X.env.scope x = true) (hf : fnB X x = true) : PGV X (.Name x pos) [i] (gName i) (gNm i) :=
  ⟨pg_name hN hi (loc_of hx) (fn_of' hf), vw_name i⟩
theorem pgsv_nil : PGsV X [] [] gNil gsNil := ⟨pgs_nil, fun g env w σ H us xs env' Q hK I r hf k => by
  cases r with
  | nil => cases hf; exact ⟨rfl, k σ I (fun _ h => h) (fun _ _ => ⟨rfl, rfl⟩) rfl⟩
  | cons => cases hf⟩
theorem pgsv_cons {e : Expr} {es : List Expr} {t : TG} {u : TGs} {v1 v2 : List Nat} {f : GF} {fs : GsF} (p : PGV X e v1 t f) (q : PGsV X es v2 u fs)
    (hs : (assignEach (e :: es) X.env).map (·.2) = assign e X.env :: (assignEach es X.env).map (·.2)) : PGsV X (e :: es) (v1 ++ v2) (gCons t u) (gsCons f fs) := ⟨pgs_cons p.pe q.pe hs, fun g env w σ H us xs env' Q hK I r hf k => by
  cases r with
  | nil => cases hf
  | cons r1 r2 =>
    rename_i v vs x xs
    obtain ⟨env1, h1, h2⟩ := Option.bind_eq_some_iff.mp hf
    refine ⟨v, vs, rfl, p.vw g env w σ H v x env1 _ hK I r1 h1 fun σ1 I1 o1 s1 l1 => ?_⟩
    refine q.vw g env1 w σ1 H vs xs env' Q hK I1 (r2.mon (fun _ _ _ e => e) fun a h => h.elim .inl fun z => .inr ⟨rfl, o1 a z.2⟩) h2 fun σ2 I2 o2 s2 l2 => ?_
    refine k σ2 I2 (fun a h => o1 a (o2 a h)) (fun j hj => ?_) (l2.trans l1)
    rw [List.mem_append, not_or] at hj
    exact ⟨(s2 j hj.2).1.trans (s1 j hj.1).1, (s2 j hj.2).2.trans (s1 j hj.1).2⟩⟩
theorem pgv_tup {es : List Expr} {k : Nat} {vs : List Nat} {t : TGs} {n : Nat} {fs : GsF} {KK : PySem.W.Frag} (hKK : X.K = KK) (hc : X.calm = true) (p : PGsV X es vs t fs)
    (hn : (assignEach es X.env).length = n) (hst : (assignEach es X.env).findIdx? (·.1) = none) : PGV X (.Tuple es k pos) vs (gTup KK n t) (gTp n fs) := by
  subst hKK
  exact (show PGV X (.Tuple es k pos) vs (gTup X.K n t) (gTp n fs) from  ⟨pg_tup hc p.pe hn hst, fun g env w σ H v x env' Q hK I r hf k => by
  cases r with
  | tup a s =>
    rename_i us xs
    have hf : (if xs.length = n then fs xs env else none) = some env' := hf
    split at hf
    · rename_i hl
      exact ⟨_, _, rfl, a.sq, by rw [s.length]; exact hl, p.vw g env w σ H us xs env' Q hK I s hf k⟩
    · cases hf
  | _ => cases hf⟩)

end

/-! ### list comprehensions -/
theorem wipe_get (σ : SS) : ∀ (vs : List Nat) (j : Nat), j ∉ vs → (wipe σ vs)[j]? = σ[j]?
  | [], _, _ => rfl
  | v :: vs, j, h => by
    rw [List.mem_cons, not_or] at h
    show ((wipe σ vs).set v none)[j]? = _
    rw [List.getElem?_set_ne (Ne.symm h.1)]
    exact wipe_get σ vs j h.2
theorem wipe_in (σ : SS) : ∀ (vs : List Nat) (j : Nat), j ∈ vs → j < σ.length → (wipe σ vs)[j]? = some none
  | v :: vs, j, h, hl => by
    show ((wipe σ vs).set v none)[j]? = _
    by_cases e : v = j
    · subst e
      rw [List.getElem?_set_self (by rw [wipe_length]; exact hl)]
    · rw [List.getElem?_set_ne e]
      rcases List.mem_cons.mp h with h | h
      · exact absurd h.symm e
      · exact wipe_in σ vs j h hl
theorem wipe_same {σ σ' : SS} {vs : List Nat} (hl : σ'.length = σ.length) (h : ∀ j, j ∉ vs → σ'[j]? = (wipe σ vs)[j]?) : wipe σ' vs = wipe σ vs := by
  apply List.ext_getElem?
  intro j
  by_cases hj : j ∈ vs
  · by_cases hb : j < σ.length
    · rw [wipe_in σ' vs j hj (by omega), wipe_in σ vs j hj hb]
    · rw [List.getElem?_eq_none (by rw [wipe_length]; omega), List.getElem?_eq_none (by rw [wipe_length]; omega)]
  · rw [wipe_get σ' vs j hj]; exact h j hj
theorem wipeE_ok {g : Gh} {env : En} {w : W} {σ : SS} {H : Hp} (I : StOk g env w σ H) : ∀ (vs : List Nat) {env' : En}, wipeE env vs = some env' → StOk g env' w (wipe σ vs) H ∧ (∀ j, j ∉ vs → env'[j]? = env[j]?) ∧ (∀ j, j ∈ vs → ∀ xs, env[j]? ≠ some (.ow xs))
  | [], env', h => by cases h; exact ⟨I, fun _ _ => rfl, fun _ h => by simp at h⟩
  | v :: vs, env', h => by
    obtain ⟨e1, h1, h2⟩ := Option.bind_eq_some_iff.mp h
    obtain ⟨I1, s1, n1⟩ := wipeE_ok I vs h1
    have fin : ∀ s, e1[v]? = some s → (∀ xs, s ≠ .ow xs) → some (e1.set v .no) = some env' → StOk g env' w (wipe σ (v :: vs)) H ∧ (∀ j, j ∉ v :: vs → env'[j]? = env[j]?) ∧ (∀ j, j ∈ v :: vs → ∀ xs, env[j]? ≠ some (.ow xs)) := fun s hs hn he => by
      cases he
      refine ⟨I1.setNo v none (fun xs z => ?_), fun j hj => ?_, fun j hj xs z => ?_⟩
      · rw [hs] at z; exact hn xs (Option.some.inj z)
      · rw [List.mem_cons, not_or] at hj
        rw [List.getElem?_set_ne (Ne.symm hj.1)]
        exact s1 j hj.2
      · by_cases hv : j ∈ vs
        · exact n1 j hv xs z
        · have : j = v := (List.mem_cons.mp hj).resolve_right hv
          subst this
          rw [← s1 j hv, hs] at z
          exact hn xs (Option.some.inj z)
    cases q : e1[v]? with
    | none => rw [q] at h2; cases h2
    | some s =>
      rw [q] at h2
      cases s with
      | ow xs => cases h2
      | no => exact fin _ q (fun _ z => nomatch z) h2
      | sh x => exact fin _ q (fun _ z => nomatch z) h2
      | st k => exact fin _ q (fun _ z => nomatch z) h2
      | fz ns => exact fin _ q (fun _ z => nomatch z) h2
/-- one more address is not to be read -/
def Gh.but (g : Gh) (d : Addr) : Gh := { g with T := fun a => g.T a ∨ a = d, zt := fun a h => .inl (g.zt a h) }
theorem StOk.but {g : Gh} {env : En} {w : W} {σ : SS} {H : Hp} {D : Addr} {vs : List V} (I : StOk g env w σ H) (hD : H D = none) : StOk (g.but D) env w σ (upd H D (.lst vs)) := by
  obtain ⟨k, d⟩ := I.new (o := .lst vs) hD
  have J := I.step k d
  have av' : ∀ a, av (g.but D) true env σ a → av g true env σ a ∨ a = D := fun a h => by
    rcases h with (h | h) | ⟨_, h⟩
    · exact .inl (.inl h)
    · exact .inr h
    · exact .inl (.inr ⟨rfl, h⟩)
  have ownD : ∀ a, ownA env σ a → a ≠ D := fun a h z => by subst z; exact I.owLive h hD
  refine ⟨J.len, fun i x h => ?_, fun i xs h => ?_, J.st, fun i ns h => ?_, J.dist, fun a h => ?_, J.keep, J.dr⟩
  · obtain ⟨v, e, r⟩ := I.sh i x h
    exact ⟨v, e, (Rep.fresh hD x r).mon (fun a o n e => upd_new hD a o e) fun a z => av' a z⟩
  · obtain ⟨a, us, e, q, r, n, t⟩ := I.ow i xs h
    refine ⟨a, us, e, upd_new hD a _ q, (Reps.fresh hD xs r).mon (fun a o n e => upd_new hD a o e) (fun a z => av' a z), n, fun z => ?_⟩
    rcases z with z | z
    · exact t z
    · subst z; rw [hD] at q; cases q
  · obtain ⟨a, e, s⟩ := I.fz i ns h
    exact ⟨a, e, (s.fresh hD).mono (fun a o n e => upd_new hD a o e) fun a z => av' a z⟩
  · rcases h with h | h
    · exact J.live a h
    · subst h; rw [upd_same]; simp

theorem StOk.updBut {g : Gh} {env : En} {w : W} {σ : SS} {H : Hp} {D : Addr} {o : HO} (I : StOk (g.but D) env w σ H) (hz : ¬ g.Z D) (h0 : g.H0 D = none) : StOk (g.but D) env w σ (upd H D o) := by
  have k : ∀ a x, ¬ av (g.but D) true env σ a → H a = some x → upd H D o a = some x := fun a x n e => by
    rw [upd_ne (show a ≠ D from fun z => n (.inl (.inr z)))]; exact e
  refine ⟨I.len, fun i x h => ?_, fun i xs h => ?_, I.st, fun i ns h => ?_, I.dist, fun a h => ?_, ⟨fun a x n e => ?_, fun a e => ?_⟩, ?_⟩
  · obtain ⟨v, e, r⟩ := I.sh i x h
    exact ⟨v, e, r.mon k fun _ z => z⟩
  · obtain ⟨a, us, e, q, r, n, t⟩ := I.ow i xs h
    refine ⟨a, us, e, ?_, r.mon k (fun _ z => z), n, t⟩
    rw [upd_ne (show a ≠ D from fun z => t (.inr z))]; exact q
  · obtain ⟨a, e, s⟩ := I.fz i ns h
    exact ⟨a, e, s.mono k fun _ z => z⟩
  · by_cases z : a = D
    · subst z; rw [upd_same]; simp
    · rw [upd_ne z]; exact I.live a h
  · have e' := I.keep.at_ a x n e
    by_cases z : a = D
    · subst z
      have : g.H0 a = some x := e
      rw [h0] at this; cases this
    · rw [upd_ne z]; exact e'
  · by_cases z : a = D
    · subst z; rw [upd_same]; simp
    · rw [upd_ne z]; exact I.keep.live a e
  · refine (g.but D).drk w H _ I.dr fun a z => ?_
    rw [upd_ne]
    intro e
    subst e
    exact hz z
theorem compL_len {g : GF} {t : TF} {f : EF} {env : En} : ∀ (xs : List PyData) {w w' : W} {ys : List PyData}, compL g t f env xs w = some (ys, w') → ys.length ≤ xs.length
  | [], w, w', ys, h => by
    obtain ⟨rfl, rfl⟩ := pure_get h
    exact Nat.le_refl _
  | x :: r, w, w', ys, h => by
    obtain ⟨e1, w1, h1, h2⟩ := bind_some.mp h
    obtain ⟨b, w2, h3, h4⟩ := bind_some.mp h2
    cases b with
    | true =>
      obtain ⟨y, w3, h5, h6⟩ := bind_some.mp h4
      obtain ⟨zs, w4, h7, h8⟩ := bind_some.mp h6
      obtain ⟨rfl, rfl⟩ := pure_get h8
      have := compL_len r h7
      simp only [List.length_cons]; omega
    | false =>
      have := compL_len r h4
      simp only [List.length_cons]; omega
/-- a comprehension -/
theorem vw_comp {K : PySem.W.Frag} {m mi : Bool} {wi : TI} {fi : IF} {gt : TG} {ft : GF} {tt : TT} {fT : TF} {te : TE} {f : EF} {vs : List Nat} (pi : VwI K mi wi fi) (pg : VwG K vs gt ft) (pt : VwT K tt fT) (pe : VwE K m te f) :
    VwL K m (tLc wi gt tt te vs) (xComp vs fi ft fT f) := fun g env w σ H Q total wF hK I hf k => by
  obtain ⟨xs, w1, h1, h2⟩ := bind_some.mp hf
  obtain ⟨envB, w2, h3, h4⟩ := bind_some.mp h2
  obtain ⟨e3, rfl⟩ := lift_get h3
  by_cases hline : xs.length ≤ line
  rotate_left
  · rw [if_neg hline] at h4; cases h4
  rw [if_pos hline] at h4
  refine pi g env w σ H _ xs _ hK I h1 fun J H1 k1 d1 wk => ?_
  have I1 := I.step k1 d1
  intro D hD
  have hZ : ¬ g.Z D := fun z => I1.live D (g.zt D z) hD
  have hD0 : g.H0 D = none := by
    cases q : g.H0 D with
    | none => rfl
    | some o => exact absurd hD (I1.keep.live D (by rw [q]; simp))
  have hDs : H D = none := by
    cases q : H D with
    | none => rfl
    | some o => exact absurd hD (k1.live D (by rw [q]; simp))
  obtain ⟨IB, sB, nB⟩ := wipeE_ok (I1.but (vs := []) hD) vs e3
  have hmono : Keep g.Z H1 (upd H1 D (.lst [])) := Keep.of_same (upd_new hD)
  have ownB : ∀ a, ownA env σ a → ownA envB (wipe σ vs) a := fun a ⟨j, zs, q1, q2⟩ => by
    have hj : j ∉ vs := fun z => nB j z zs q1
    exact ⟨j, zs, by rw [sB j hj]; exact q1, by rw [wipe_get σ vs j hj]; exact q2⟩
  have ownB' : ∀ a, ownA envB (wipe σ vs) a → ownA env σ a := fun a ⟨j, zs, q1, q2⟩ => by
    have hj : j ∉ vs := fun hj => by
      by_cases hb : j < σ.length
      · rw [wipe_in σ vs j hj hb] at q2; cases q2
      · rw [List.getElem?_eq_none (by rw [wipe_length]; omega)] at q2; cases q2
    rw [sB j hj] at q1
    rw [wipe_get σ vs j hj] at q2
    exact ⟨j, zs, q1, q2⟩
  -- the invariant
  refine ⟨fun i n H' => n = xs.length - i ∧ i ≤ xs.length ∧ ∃ (wi : W) (acc : List PyData) (us : List V) (ys : List PyData), StOk (g.but D) envB wi (wipe σ vs) H' ∧ Keep (fun a => g.Z a ∨ a = D) H1 H' ∧ H' D = some (.lst us) ∧
    Reps K (av (g.but D) m envB (wipe σ vs)) H' us acc ∧ compL ft fT f envB (xs.drop i) wi = some (ys, wF) ∧ acc ++ ys = total ∧ acc.length ≤ i, ⟨xs.length, by simp, Nat.zero_le _, _, [], [], total, IB, ?_, upd_same, .nil, by rw [List.drop_zero]; exact h4, rfl, Nat.le_refl _⟩, ?_⟩
  · exact ⟨fun a o n e => hmono.at_ a o (fun z => n (.inl z)) e, hmono.live⟩
  rintro i n H2 ⟨rfl, hi, wi, acc, us, ys, I2, k2, eD, ra, hc, etot, hacc⟩
  -- what is walked stands
  have stay : ∀ a o, ¬ av g mi env σ a → H1 a = some o → H2 a = some o := fun a o n e => k2.at_ a o (fun z => z.elim (fun z => n (av_z z)) fun z => by subst z; rw [hD] at e; cases e) e
  obtain ⟨walk, stop⟩ := wk H2 ⟨stay, k2.live⟩
  by_cases hlt : i < xs.length
  · right
    obtain ⟨go, yl⟩ := walk i xs[i] (List.getElem?_eq_getElem hlt)
    have hdrop : xs.drop i = xs[i] :: xs.drop (i + 1) := List.drop_eq_getElem_cons hlt
    rw [hdrop] at hc
    obtain ⟨env1, w3, h5, h6⟩ := bind_some.mp hc
    obtain ⟨e5, rfl⟩ := lift_get h5
    obtain ⟨b, w4, h7, h8⟩ := bind_some.mp h6
    refine ⟨go, fun H' => ∃ m', m' < xs.length - i ∧ (m' = xs.length - (i + 1) ∧ i + 1 ≤ xs.length ∧ ∃ (wi : W) (acc : List PyData) (us : List V) (ys : List PyData), StOk (g.but D) envB wi (wipe σ vs) H' ∧ Keep (fun a => g.Z a ∨ a = D) H1 H' ∧ H' D = some (.lst us) ∧
      Reps K (av (g.but D) m envB (wipe σ vs)) H' us acc ∧ compL ft fT f envB (xs.drop (i + 1)) wi = some (ys, wF) ∧ acc ++ ys = total ∧ acc.length ≤ i + 1), fun _ h => h, fun v H3 y => ?_⟩
    obtain ⟨sm, rv⟩ := yl v H3 y
    have k3 : Keep g.Z H2 H3 := Keep.of_same sm
    have I3 := I2.step (Keep.of_same sm) (I2.same sm)
    have rv' : Rep K (av (g.but D) true envB (wipe σ vs)) H3 v xs[i] := rv.mon (fun _ _ _ e => e) fun a h => by
      rcases h with (h | h) | ⟨_, h⟩
      · exact .inl (.inl h)
      · subst h; exact .inr ⟨hD, by rw [eD]; simp⟩
      · exact .inl (.inr ⟨rfl, ownB' a h⟩)
    refine pg (g.but D) envB _ (wipe σ vs) H3 v xs[i] env1 _ hK I3 rv' e5 fun σ2 J3 o3 s3 l3 => ?_
    have hw : wipe σ2 vs = wipe σ vs := wipe_same (by rw [J3.len, l3, ← IB.len, wipe_length]) fun j hj => (s3 j hj).2
    refine ⟨hw, ?_⟩
    refine pt (g.but D) env1 _ σ2 H3 _ b _ hK J3 h7 fun H4 k4 d4 => ?_
    have J4 := J3.step k4 d4
    have I4 := I3.step k4 d4
    have k24 : Keep g.Z H2 H4 := k3.trans k4
    have eD4 : H4 D = some (.lst us) := k24.at_ D _ hZ eD
    have ra4 : Reps K (av (g.but D) m envB (wipe σ vs)) H4 us acc := ra.keep (g := g.but D) k24
    cases b with
    | false =>
      rw [if_neg Bool.false_ne_true] at h8
      rw [if_neg Bool.false_ne_true]
      exact ⟨xs.length - (i + 1), by omega, rfl, hlt, _, acc, us, ys, I4, k2.trans ⟨fun a o n e => k24.at_ a o (fun z => n (.inl z)) e, k24.live⟩, eD4, ra4, h8, etot, by omega⟩
    | true =>
      rw [if_pos rfl] at h8
      rw [if_pos rfl]
      obtain ⟨y, w5, h9, h10⟩ := bind_some.mp h8
      obtain ⟨zs, w6, h11, h12⟩ := bind_some.mp h10
      obtain ⟨rfl, rfl⟩ := pure_get h12
      refine pe (g.but D) env1 _ σ2 H4 _ y _ hK J4 h9 fun u H5 k5 d5 r5 => ?_
      have I5 := I4.step k5 d5
      have k25 : Keep g.Z H2 H5 := k24.trans k5
      have eD5 : H5 D = some (.lst us) := k25.at_ D _ hZ eD
      have ra5 : Reps K (av (g.but D) m envB (wipe σ vs)) H5 us acc := ra.keep (g := g.but D) k25
      refine ⟨us, eD5, ?_, ?_⟩
      · rw [ra.length, ← line_eq]; omega
      have kD : ∀ a o, ¬ av (g.but D) m envB (wipe σ vs) a → H5 a = some o → upd H5 D (.lst (us ++ [u])) a = some o := fun a o n e => by
        rw [upd_ne (show a ≠ D from fun z => n (.inl (.inr z)))]; exact e
      refine ⟨xs.length - (i + 1), by omega, rfl, hlt, _, acc ++ [y], us ++ [u], zs, I5.updBut hZ hD0, ?_, upd_same, ?_, h11, by rw [List.append_assoc]; exact etot, by rw [List.length_append]; simp; omega⟩
      · refine k2.trans ⟨fun a o n e => ?_, fun a e => ?_⟩
        · rw [upd_ne (show a ≠ D from fun z => n (.inr z))]
          exact k25.at_ a o (fun z => n (.inl z)) e
        · by_cases z : a = D
          · subst z; rw [upd_same]; simp
          · rw [upd_ne z]; exact k25.live a e
      · refine (ra5.mon kD fun _ z => z).append (.cons ((r5.mon (fun _ _ _ e => e) fun a z => ?_).mon kD fun _ z => z) .nil)
        rcases z with z | ⟨e, j, ws, q1, q2⟩
        · exact .inl z
        · have hj : j ∉ vs := fun hj => by
            by_cases hb : j < σ.length
            · rw [wipe_in σ vs j hj hb] at q2; cases q2
            · rw [List.getElem?_eq_none (by rw [wipe_length]; omega)] at q2; cases q2
          exact .inr ⟨e, j, ws, by rw [(s3 j hj).1]; exact q1, by rw [(s3 j hj).2]; exact q2⟩
  · left
    have e : i = xs.length := by omega
    subst e
    rw [List.drop_length] at hc
    obtain ⟨rfl, rfl⟩ := pure_get hc
    rw [List.append_nil] at etot
    subst etot
    refine ⟨stop, k D us H2 hDs ?_ I2.dr eD (ra.mon (fun _ _ _ e => e) fun a z => ?_)⟩
    · refine k1.trans ⟨fun a o n e => k2.at_ a o (fun z => z.elim n fun z => by subst z; rw [hD] at e; cases e) e, k2.live⟩
    · rcases z with z | z
      · rcases z with z | ⟨e, z⟩
        · exact .inl (.inl z)
        · exact .inr ⟨e, ownB a z⟩
      · exact .inl (.inr z)
end VE

namespace VE
open PySem PySem.Spec L2
open PyProof.Rows hiding St
/-! ### list comprehensions: the rules -/
structure PTsV (X : Cx) (ifs : List Expr) (t : TT) (f : TF) : Prop where
  pe : PTs X ifs t
  vw : VwT X.K t f
section
variable {X : Cx} {m : Bool} {pos : Pos}
theorem eqD' {KK : PySem.W.Frag} (hKK : X.K = KK) (hu : X.A.units + 64 < cLine) : OpR X (compareOp .Eq) (rEqD KK) := by
  subst hKK
  exact op_eqD hu
theorem neD' {KK : PySem.W.Frag} (hKK : X.K = KK) (hu : X.A.units + 64 < cLine) : OpR X (compareOp .NotEq) (rNeD KK) := by
  subst hKK
  exact op_neD hu
theorem in' {KK : PySem.W.Frag} (hKK : X.K = KK) : OpR X (compareOp .In) (rIn KK false) := by
  subst hKK
  exact op_in_seq
theorem notIn' {KK : PySem.W.Frag} (hKK : X.K = KK) : OpR X (compareOp .NotIn) (rIn KK true) := by
  subst hKK
  exact op_notIn_seq
theorem ptsv_nil : PTsV X [] tYes tYesF := ⟨pts_nil, fun g env w σ H Q b w' hK I hf k => by
  obtain ⟨rfl, rfl⟩ := pure_get hf
  exact k H (Keep.refl _ _) I.dr⟩
theorem ptsv_one {c : Expr} {t : TT} {f : TF} (p : PTV X c t f) : PTsV X [c] t f := ⟨pts_one p.pe, p.vw⟩
abbrev AnyBlk (X : Cx) (scope : Scope) (P : Cx → Prop) : Prop := ∀ (s : Shared) (H : Hp) (C : Addr) (cl : List (Str × Addr)) (fp : List Addr), P (X.blk s H scope (compEnvC scope cl C X.env) fp)
theorem plv_comp {elt tg iter : Expr} {ifs : List Expr} {scope : Scope} {own : List (Str × Nat)} {vs : List Nat} {wi : TI} {fi : IF} {gt : TG} {ft : GF} {tt : TT} {fT : TF} {te : TE} {f : EF} (hc : X.calm = true) (hN : X.N.Nodup) (hi : PIV X false tg iter wi fi) (ok : BlkOk X.N X.env.scope scope own) (hvs : own.map (·.2) = vs)
    (hg : AnyBlk X scope fun Y => PGV Y tg vs gt ft) (ht : AnyBlk X scope fun Y => PTsV Y ifs tt fT) (he : AnyBlk X scope fun Y => PV Y m elt te f) (hs : ∀ x, foldedSetIterable iter X.env x = pure x) :
    PLV X m (.ListComp elt [⟨tg, iter, ifs, 0⟩] scope pos) (tLc wi gt tt te vs) (xComp vs fi ft fT f) := by
  subst hvs
  exact ⟨pe_lc hc hN hi.pe ok (fun s H C cl fp => (hg s H C cl fp).pe) (fun s H C cl fp => (ht s H C cl fp).pe) (fun s H C cl fp => (he s H C cl fp).pe) hs,
    vw_comp hi.vw (hg {} (fun _ => none) 0 [] []).vw (ht {} (fun _ => none) 0 [] []).vw (he {} (fun _ => none) 0 [] []).vw⟩
end

/-! ### statements -/
/-- what a statement may have done -/
structure Eff (g : Gh) (env : En) (σ : SS) (H : Hp) (env' : En) (σ' : SS) (H' : Hp) : Prop where
  at_ : ∀ a o, ¬ g.Z a → ¬ ownA env σ a → H a = some o → H' a = some o
  live : ∀ a, H a ≠ none → H' a ≠ none
  own : ∀ a, ownA env' σ' a → ownA env σ a ∨ H a = none
section
variable {g : Gh} {env env1 env2 : En} {σ σ1 σ2 : SS} {H H1 H2 : Hp} {w w' : W}
theorem Eff.refl : Eff g env σ H env σ H := ⟨fun _ _ _ _ e => e, fun _ e => e, fun _ h => .inl h⟩
theorem Eff.trans (a : Eff g env σ H env1 σ1 H1) (b : Eff g env1 σ1 H1 env2 σ2 H2) : Eff g env σ H env2 σ2 H2 :=
  ⟨fun c o nz no e => b.at_ c o nz (fun z => (a.own c z).elim no fun q => by rw [q] at e; cases e) (a.at_ c o nz no e), fun c e => b.live c (a.live c e),
    fun c h => (b.own c h).elim (a.own c) fun q => by
      cases z : H c with
      | none => exact .inr rfl
      | some o => exact absurd q (a.live c (by rw [z]; simp))⟩
theorem Eff.of_keep (k : Keep g.Z H H1) (h : ∀ a, ownA env1 σ1 a → ownA env σ a) : Eff g env σ H env1 σ1 H1 := ⟨fun a o n _ e => k.at_ a o n e, k.live, fun a q => .inl (h a q)⟩
end
def Fin (g : Gh) (env : En) (σ : SS) (H : Hp) (D : Ends) (fl : Fl) (env' : En) (w' : W) : Prop :=
  match fl with
  | .nx => ∀ σ' H', StOk g env' w' σ' H' → Eff g env σ H env' σ' H' → D.nx σ' H'
  | .bk => ∀ σ' H', StOk g env' w' σ' H' → Eff g env σ H env' σ' H' → D.bk σ' H'
  | .ct => ∀ σ' H', StOk g env' w' σ' H' → Eff g env σ H env' σ' H' → D.ct σ' H'
  | .rt x => ∀ v H', Keep g.Z g.H0 H' → g.dr w' H' → Rep g.K g.T H' v x → D.rt v H'
theorem Fin.after {g : Gh} {env env1 : En} {σ σ1 : SS} {H H1 : Hp} {D : Ends} {fl : Fl} {env' : En} {w' : W} (F : Fin g env σ H D fl env' w') (e : Eff g env σ H env1 σ1 H1) : Fin g env1 σ1 H1 D fl env' w' := by
  cases fl with
  | nx => exact fun σ' H' I f => F σ' H' I (e.trans f)
  | bk => exact fun σ' H' I f => F σ' H' I (e.trans f)
  | ct => exact fun σ' H' I f => F σ' H' I (e.trans f)
  | rt x => exact F
def VwS (K : PySem.W.Frag) (t : TS) (f : SF) : Prop :=
  ∀ (g : Gh) (env : En) (w : W) (σ : SS) (H : Hp) (D : Ends) (fl : Fl) (env' : En) (w' : W), g.K = K → StOk g env w σ H → f env w = some ((fl, env'), w') → Fin g env σ H D fl env' w' → t D σ H
structure PSV (X : Cx) (st : Stmt) (t : TS) (f : SF) : Prop where
  pe : PS X st t
  vw : VwS X.K t f
structure PSsV (X : Cx) (st : List Stmt) (t : TS) (f : SF) : Prop where
  pe : PSs X st t
  vw : VwS X.K t f
section
variable {X : Cx} {K : PySem.W.Frag} {m : Bool} {e c : Expr} {st : Stmt} {rest sa sb : List Stmt} {ta : TE} {tt : TT} {ts tu : TS} {f : EF} {fT : TF} {fs fu : SF} {pos : Pos}
theorem vw_next : VwS K tNext sPass := fun g env w σ H D fl env' w' hK I hf F => by
  obtain ⟨e, rfl⟩ := pure_get hf
  cases e
  exact F σ H I Eff.refl
theorem psv_pass : PSV X (.Pass pos) tNext sPass := ⟨ps_pass, vw_next⟩
theorem psv_doc {x j pos'} : PSV X (.Expr (.Constant (.str x) j pos) pos') tNext sPass := ⟨ps_doc, vw_next⟩
theorem psv_break : PSV X (.Break pos) tBreak sBreak := ⟨ps_break, fun g env w σ H D fl env' w' hK I hf F => by
  obtain ⟨e, rfl⟩ := pure_get hf
  cases e
  exact F σ H I Eff.refl⟩
theorem psv_continue : PSV X (.Continue pos) tCont sCont := ⟨ps_continue, fun g env w σ H D fl env' w' hK I hf F => by
  obtain ⟨e, rfl⟩ := pure_get hf
  cases e
  exact F σ H I Eff.refl⟩
theorem pssv_nil : PSsV X [] tNext sPass := ⟨pss_nil, vw_next⟩
theorem pssv_cons (p : PSV X st ts fs) (q : PSsV X rest tu fu) : PSsV X (st :: rest) (tSeq ts tu) (sSeq fs fu) := ⟨pss_cons p.pe q.pe, fun g env w σ H D fl env' w' hK I hf F => by
  obtain ⟨⟨fl1, env1⟩, w1, h1, h2⟩ := bind_some.mp hf
  refine p.vw g env w σ H _ fl1 env1 w1 hK I h1 ?_
  cases fl1 with
  | nx => exact fun σ' H' I' ef => q.vw g env1 w1 σ' H' D fl env' w' hK I' h2 (F.after ef)
  | bk => obtain ⟨e, rfl⟩ := pure_get h2; cases e; exact F
  | ct => obtain ⟨e, rfl⟩ := pure_get h2; cases e; exact F
  | rt x => obtain ⟨e, rfl⟩ := pure_get h2; cases e; exact F⟩
theorem pssv_one (p : PSV X st ts fs) : PSsV X [st] ts fs := ⟨pss_one p.pe, p.vw⟩
theorem psv_ret (p : PV X false e ta f) : PSV X (.Return (some e) pos) (tRet ta) (sRet f) := ⟨ps_ret p.pe, fun g env w σ H D fl env' w' hK I hf F => by
  obtain ⟨x, w1, h1, h2⟩ := bind_some.mp hf
  obtain ⟨e, rfl⟩ := pure_get h2
  cases e
  exact p.vw g env w σ H _ x _ hK I h1 fun v H' k d r => F v H' (I.keep.trans k) d (by rw [hK]; exact r.mon (fun _ _ _ e => e) fun _ z => .inl z)⟩
theorem psv_retN : PSV X (.Return none pos) tRetN sRetN := ⟨ps_retN, fun g env w σ H D fl env' w' hK I hf F => by
  obtain ⟨e, rfl⟩ := pure_get hf
  cases e
  exact F .non H I.keep I.dr .non⟩
theorem psv_if (p : PTV X c tt fT) (q : PSsV X sa ts fs) (r : PSsV X sb tu fu) : PSV X (.If c sa sb pos) (tIfS tt ts tu) (sIf fT fs fu) := ⟨ps_if p.pe q.pe r.pe, fun g env w σ H D fl env' w' hK I hf F => by
  obtain ⟨b, w1, h1, h2⟩ := bind_some.mp hf
  refine p.vw g env w σ H _ b _ hK I h1 fun H1 k1 d1 => ?_
  have F1 := F.after (Eff.of_keep (env1 := env) (σ1 := σ) k1 fun _ h => h)
  cases b with
  | true => exact q.vw g env w1 σ H1 D fl env' w' hK (I.step k1 d1) h2 F1
  | false => exact r.vw g env w1 σ H1 D fl env' w' hK (I.step k1 d1) h2 F1⟩
theorem vw_asg {vs : List Nat} {gt : TG} {ft : GF} (p : VwE K true ta f) (q : VwG K vs gt ft) : VwS K (tAsg ta gt) (sAsg f ft) := fun g env w σ H D fl env' w' hK I hf F => by
  obtain ⟨x, w1, h1, h2⟩ := bind_some.mp hf
  obtain ⟨env1, w2, h3, h4⟩ := bind_some.mp h2
  obtain ⟨e3, rfl⟩ := lift_get h3
  obtain ⟨e, rfl⟩ := pure_get h4
  cases e
  refine p g env w σ H _ x _ hK I h1 fun v H1 k1 d1 r1 => ?_
  exact q g env _ σ H1 v x env' _ hK (I.step k1 d1) r1 e3 fun σ' I' o' _ _ => F σ' H1 I' (Eff.of_keep k1 o')
/-- target = e -/
theorem psv_asg {tg : Expr} {vs : List Nat} {gt : TG} {ft : GF} (p : PV X true e ta f) (q : PGV X tg vs gt ft) (hs : swapsWithSole [tg] e pos.line X.env = pure false) (hw : swappedStores [tg] e X.env = pure none)
    (h1 : (assignEach [tg] X.env).map (·.2) = [assign tg X.env]) : PSV X (.Assign [tg] e pos) (tAsg ta gt) (sAsg f ft) := ⟨ps_asg p.pe q.pe hs hw h1, vw_asg p.vw q.vw⟩
/-- name = e -/
theorem psv_set {i : Nat} {x : Str} {pos' : Pos} (hN : X.N.Nodup) (p : PV X true e ta f) (hi : X.N[i]? = some x) (hx : locB X.env.scope x = true) (hs : swapsWith e (some (.Name x pos')) pos.line X.env = pure false) (hf : fnB X x = true) :
    PSV X (.Assign [.Name x pos'] e pos) (tAsg ta (gName i)) (sAsg f (gNm i)) := ⟨ps_set hN hi (loc_of hx) p.pe hs (fn_of' hf), vw_asg p.vw (vw_name i)⟩
/-- name = [..] on one line -/
theorem psv_setLc {i : Nat} {y : Str} {py : Pos} {elt tg iter : Expr} {ifs : List Expr} {scope : Scope} {own : List (Str × Nat)} {vs : List Nat} {cpos : Pos} {wi : TI} {fi : IF} {gt : TG} {ft : GF} {te : TE} (hc : X.calm = true) (hN : X.N.Nodup) (hsw : swapsWith (.ListComp elt [⟨tg, iter, ifs, 0⟩] scope cpos) (some (.Name y py)) pos.line X.env = pure true)
    (hi : PIV X false tg iter wi fi) (ok : BlkOk X.N X.env.scope scope own) (hvs : own.map (·.2) = vs)
    (hg : AnyBlk X scope fun Y => PGV Y tg vs gt ft) (ht : AnyBlk X scope fun Y => PTsV Y ifs tt fT) (he : AnyBlk X scope fun Y => PV Y true elt te f) (hs : ∀ x, foldedSetIterable iter X.env x = pure x) (hy : X.N[i]? = some y) (hyl : X.env.scope.names.lookup y = some .local) :
    PSV X (.Assign [.Name y py] (.ListComp elt [⟨tg, iter, ifs, 0⟩] scope cpos) pos) (tAsg (tLc wi gt tt te vs) (gName i)) (sAsg (xAs (xComp vs fi ft fT f)) (gNm i)) := by
  subst hvs
  exact ⟨ps_setLc hc hN hy hyl hsw hi.pe ok (fun s H C cl fp => (hg s H C cl fp).pe) (fun s H C cl fp => (ht s H C cl fp).pe) (fun s H C cl fp => (he s H C cl fp).pe) hs,
    vw_asg (pv_as (plv_comp hc hN hi ok rfl hg ht he hs (pos := cpos))).vw (vw_name i)⟩
theorem psv_expr (p : PV X true e ta f) (hs : swapsWith e none pos.line X.env = pure false) : PSV X (.Expr e pos) (tDrop ta) (sExpr f) := ⟨ps_expr p.pe hs, fun g env w σ H D fl env' w' hK I hf F => by
  obtain ⟨x, w1, h1, h2⟩ := bind_some.mp hf
  obtain ⟨e, rfl⟩ := pure_get h2
  cases e
  exact p.vw g env w σ H _ x _ hK I h1 fun v H1 k1 d1 r1 => F σ H1 (I.step k1 d1) (Eff.of_keep k1 fun _ h => h)⟩
/-- a, b = e, e' -/
theorem psv_par {i j : Nat} {x y : Str} {a b : Expr} {tas : TA} {fas : AF} {px py pt : Pos} {kt k2 pt2} (hc : X.calm = true) (hN : X.N.Nodup) (p : PAV X true [a, b] tas fas) (hi : X.N[i]? = some x) (hj : X.N[j]? = some y) (hij : i ≠ j)
    (hx : X.env.scope.names.lookup x = some .local) (hy : X.env.scope.names.lookup y = some .local)
    (hw : swappedStores [.Tuple [.Name x px, .Name y py] kt pt] (.Tuple [a, b] k2 pt2) X.env = pure (some [x, y]))
    (hs : swapsWithSole [.Tuple [.Name x px, .Name y py] kt pt] (.Tuple [a, b] k2 pt2) pos.line X.env = pure false) :
    PSV X (.Assign [.Tuple [.Name x px, .Name y py] kt pt] (.Tuple [a, b] k2 pt2) pos) (tPar i j tas) (sPar i j fas) := ⟨ps_par hc hN hi hj hij hx hy p.pe hw hs, fun g env w σ H D fl env' w' hK I hf F => by
  obtain ⟨xs, w1, h1, h2⟩ := bind_some.mp hf
  refine p.vw g env w σ H _ xs _ hK I h1 fun vs H1 k1 d1 r1 => ?_
  split at h2
  · rename_i u v
    obtain ⟨e, rfl⟩ := pure_get h2
    cases e
    obtain ⟨a1, a2, rfl, r, r'⟩ := reps2 r1
    refine ⟨a1, a2, rfl, ?_⟩
    have I1 := I.step k1 d1
    have I2 := I1.setSh i (x := u) (v := a1) (by rw [hK]; exact r)
    have I3 := I2.setSh j (x := v) (v := a2) (by rw [hK]; exact r'.mon (fun _ _ _ e => e) fun a h => h.elim .inl fun z => .inr ⟨rfl, own_set_sh z.2⟩)
    exact F _ H1 I3 (Eff.of_keep k1 fun a h => own_set_sh (own_set_sh h))
  · cases h2⟩

/-! ### lists that the def changes -/
theorem own_thaw {i : Nat} {env : En} {σ : SS} {a : Addr} (h : ownA (thaw i env) σ a) : ownA env σ a := by
  unfold thaw at h
  split at h
  · obtain ⟨j, xs, h1, h2⟩ := h
    rcases set_get h1 with ⟨_, e⟩ | ⟨hj, h1⟩
    · cases e
    · exact ⟨j, xs, h1, h2⟩
  · exact h
theorem StOk.thaw {g : Gh} {env : En} {w : W} {σ : SS} {H : Hp} (I : StOk g env w σ H) (i : Nat) : StOk g (thaw i env) w σ H := by
  have av' : ∀ a, av g true (VE.thaw i env) σ a → av g true env σ a := fun a h => h.elim .inl fun q => .inr ⟨rfl, own_thaw q.2⟩
  have key : ∀ xs, env[i]? = some (.ow xs) → VE.thaw i env = env.set i (.sh (.list xs)) := fun xs e => by unfold VE.thaw; rw [e]
  cases q : env[i]? with
  | none => have e : VE.thaw i env = env := by unfold VE.thaw; rw [q]
            rw [e]; exact I
  | some s =>
    cases s with
    | ow xs =>
      have ek := key xs q
      rw [ek] at av'
      rw [ek]
      obtain ⟨a, vs, ea, ha, ra, na, ta⟩ := I.ow i xs q
      have nown : ¬ ownA (env.set i (.sh (.list xs))) σ a := fun ⟨j, ys, h1, h2⟩ => by
        rcases set_get h1 with ⟨_, e⟩ | ⟨hj, h1⟩
        · cases e
        · exact hj (I.dist j i ys xs a h1 q h2 ea)
      refine ⟨by rw [List.length_set, I.len], fun j y h => ?_, fun j ys h => ?_, fun j kk h => ?_, fun j ns h => ?_, fun j j2 ys zs a h1 h2 h3 h4 => ?_, I.live, I.keep, I.dr⟩
      · rcases set_get h with ⟨rfl, e⟩ | ⟨hj, h⟩
        · cases e
          exact ⟨_, ea, .lst (fun z => z.elim ta fun z => nown z.2) ha (ra.mon (fun _ _ _ e => e) av')⟩
        · obtain ⟨u, e, q⟩ := I.sh j y h
          exact ⟨u, e, q.mon (fun _ _ _ e => e) av'⟩
      · rcases set_get h with ⟨rfl, e⟩ | ⟨hj, h⟩
        · cases e
        · obtain ⟨a, vs, e, q, s, n, t⟩ := I.ow j ys h
          exact ⟨a, vs, e, q, s.mon (fun _ _ _ e => e) av', n, t⟩
      · rcases set_get h with ⟨rfl, e⟩ | ⟨hj, h⟩
        · cases e
        · exact I.st j kk h
      · rcases set_get h with ⟨rfl, e⟩ | ⟨hj, h⟩
        · cases e
        · obtain ⟨a, e, s⟩ := I.fz j ns h
          exact ⟨a, e, s.mono (fun _ _ _ e => e) av'⟩
      · rcases set_get h1 with ⟨_, e⟩ | ⟨hj, h1⟩
        · cases e
        · rcases set_get h2 with ⟨_, e⟩ | ⟨hj2, h2⟩
          · cases e
          · exact I.dist j j2 ys zs a h1 h2 h3 h4
    | _ =>
      have e : VE.thaw i env = env := by unfold VE.thaw; rw [q]
      rw [e]; exact I
/-- from here on the list at i is a value -/
theorem pssv_thaw {i : Nat} {sts : List Stmt} (p : PSsV X sts ts fs) : PSsV X sts ts (sThaw i fs) := ⟨p.pe, fun g env w σ H D fl env' w' hK I hf F =>
  p.vw g (thaw i env) w σ H D fl env' w' hK (I.thaw i) hf (F.after (Eff.of_keep (Keep.refl _ _) fun a h => own_thaw h))⟩
theorem StOk.setOw {g : Gh} {env : En} {w : W} {σ : SS} {H H' : Hp} {p : Addr} {vs : List V} {xs : List PyData} (I : StOk g env w σ H) (hp : H p = none) (k : Keep g.Z H H') (d : g.dr w' H') (hv : H' p = some (.lst vs)) (r : Reps g.K (fun a => av g true env σ a ∨ a = p) H' vs xs) (i : Nat) :
    StOk g (env.set i (.ow xs)) w' (σ.set i (some (.ref p))) H' ∧ Eff g env σ H (env.set i (.ow xs)) (σ.set i (some (.ref p))) H' := by
  have own' : ∀ a, ownA (env.set i (.ow xs)) (σ.set i (some (.ref p))) a → ownA env σ a ∨ a = p := fun a ⟨j, ys, h1, h2⟩ => by
    rcases set_get h1 with ⟨rfl, e⟩ | ⟨hj, h1⟩
    · rcases set_get h2 with ⟨_, e2⟩ | ⟨hj, _⟩
      · cases e2; exact .inr rfl
      · exact absurd rfl hj
    · rw [List.getElem?_set_ne (Ne.symm hj)] at h2
      exact .inl ⟨j, ys, h1, h2⟩
  have av' : ∀ a, av g true (env.set i (.ow xs)) (σ.set i (some (.ref p))) a → av g true env σ a ∨ a = p := fun a h => h.elim (fun z => .inl (.inl z)) fun q => (own' a q.2).elim (fun z => .inl (.inr ⟨rfl, z⟩)) .inr
  have I1 := I.step k d
  have h0 : g.H0 p = none := by
    cases q : g.H0 p with
    | none => rfl
    | some o => exact absurd hp (I.keep.live p (by rw [q]; simp))
  have nT : ¬ g.T p := fun z => I.live p z hp
  have carry : ∀ {x : PyData} {v : V}, Rep g.K (av g true env σ) H v x → Rep g.K (av g true (env.set i (.ow xs)) (σ.set i (some (.ref p)))) H' v x := fun {x v} r =>
    (Rep.fresh hp x r).mon (fun a o n e => k.at_ a o (fun z => n (.inl (av_z z))) e) av'
  have carrys : ∀ {x : List PyData} {v : List V}, Reps g.K (av g true env σ) H v x → Reps g.K (av g true (env.set i (.ow xs)) (σ.set i (some (.ref p)))) H' v x := fun {x v} r =>
    (Reps.fresh hp x r).mon (fun a o n e => k.at_ a o (fun z => n (.inl (av_z z))) e) av'
  refine ⟨⟨by rw [List.length_set, List.length_set, I.len], fun j y h => ?_, fun j ys h => ?_, fun j kk h => ?_, fun j ns h => ?_, fun j j2 ys zs a h1 h2 h3 h4 => ?_, I1.live, I1.keep, I1.dr⟩,
    ⟨fun a o n _ e => k.at_ a o n e, k.live, fun a h => (own' a h).imp id fun z => by rw [z]; exact hp⟩⟩
  · rcases set_get h with ⟨rfl, e⟩ | ⟨hj, h⟩
    · cases e
    · obtain ⟨u, e, q⟩ := I.sh j y h
      exact ⟨u, by rw [List.getElem?_set_ne (Ne.symm hj)]; exact e, carry q⟩
  · rcases set_get h with ⟨rfl, e⟩ | ⟨hj, h⟩
    · cases e
      have hl : j < σ.length := by
        rw [I.len]
        have := (List.getElem?_eq_some_iff.mp h).1
        simpa using this
      exact ⟨p, vs, by rw [List.getElem?_set_self hl], hv, r.mon (fun _ _ _ e => e) av', h0, nT⟩
    · obtain ⟨a, us, e, q, s, n, t⟩ := I.ow j ys h
      exact ⟨a, us, by rw [List.getElem?_set_ne (Ne.symm hj)]; exact e, k.at_ a _ (fun z => t (g.zt a z)) q, carrys s, n, t⟩
  · rcases set_get h with ⟨rfl, e⟩ | ⟨hj, h⟩
    · cases e
    · rw [List.getElem?_set_ne (Ne.symm hj)]; exact I.st j kk h
  · rcases set_get h with ⟨rfl, e⟩ | ⟨hj, h⟩
    · cases e
    · obtain ⟨a, e, s⟩ := I.fz j ns h
      exact ⟨a, by rw [List.getElem?_set_ne (Ne.symm hj)]; exact e, (s.fresh hp).mono (fun a o n e => k.at_ a o (fun z => n (.inl (av_z z))) e) av'⟩
  · rcases set_get h1 with ⟨e1, _⟩ | ⟨hj, h1'⟩
    · rcases set_get h2 with ⟨e2, _⟩ | ⟨hj2, h2'⟩
      · rw [e1, e2]
      · exfalso
        rw [e1] at h3
        rcases set_get h3 with ⟨_, e3⟩ | ⟨hj, _⟩
        · cases e3
          rw [List.getElem?_set_ne (Ne.symm hj2)] at h4
          exact I.owLive ⟨j2, zs, h2', h4⟩ hp
        · exact hj rfl
    · rcases set_get h2 with ⟨e2, _⟩ | ⟨hj2, h2'⟩
      · exfalso
        rw [e2] at h4
        rcases set_get h4 with ⟨_, e3⟩ | ⟨hj2, _⟩
        · cases e3
          rw [List.getElem?_set_ne (Ne.symm hj)] at h3
          exact I.owLive ⟨j, ys, h1', h3⟩ hp
        · exact hj2 rfl
      · rw [List.getElem?_set_ne (Ne.symm hj)] at h3
        rw [List.getElem?_set_ne (Ne.symm hj2)] at h4
        exact I.dist j j2 ys zs a h1' h2' h3 h4
theorem vw_own {fl : LF} (i : Nat) (p : VwL K true ta fl) : VwS K (tAsg ta (gName i)) (sOwn i fl) := fun g env w σ H D fl env' w' hK I hf F => by
  obtain ⟨xs, w1, h1, h2⟩ := bind_some.mp hf
  obtain ⟨e, rfl⟩ := pure_get h2
  cases e
  refine p g env w σ H _ xs _ hK I h1 fun p vs H1 hp k1 d1 e1 r1 => ?_
  obtain ⟨I1, E1⟩ := I.setOw hp k1 d1 e1 (by rw [hK]; exact r1) i
  exact F _ H1 I1 E1
/-- name = a new list that is changed later -/
theorem psv_own {i : Nat} {x : Str} {pos' : Pos} {fl : LF} (hN : X.N.Nodup) (p : PLV X true e ta fl) (hi : X.N[i]? = some x) (hx : locB X.env.scope x = true) (hs : swapsWith e (some (.Name x pos')) pos.line X.env = pure false) (hf : fnB X x = true) :
    PSV X (.Assign [.Name x pos'] e pos) (tAsg ta (gName i)) (sOwn i fl) := ⟨ps_set hN hi (loc_of hx) p.pe hs (fn_of' hf), vw_own i p.vw⟩
theorem psv_ownLc {i : Nat} {y : Str} {py : Pos} {elt tg iter : Expr} {ifs : List Expr} {scope : Scope} {own : List (Str × Nat)} {vs : List Nat} {cpos : Pos} {wi : TI} {fi : IF} {gt : TG} {ft : GF} {te : TE} (hc : X.calm = true) (hN : X.N.Nodup) (hsw : swapsWith (.ListComp elt [⟨tg, iter, ifs, 0⟩] scope cpos) (some (.Name y py)) pos.line X.env = pure true)
    (hi : PIV X false tg iter wi fi) (ok : BlkOk X.N X.env.scope scope own) (hvs : own.map (·.2) = vs)
    (hg : AnyBlk X scope fun Y => PGV Y tg vs gt ft) (ht : AnyBlk X scope fun Y => PTsV Y ifs tt fT) (he : AnyBlk X scope fun Y => PV Y true elt te f) (hs : ∀ x, foldedSetIterable iter X.env x = pure x) (hy : X.N[i]? = some y) (hyl : X.env.scope.names.lookup y = some .local) :
    PSV X (.Assign [.Name y py] (.ListComp elt [⟨tg, iter, ifs, 0⟩] scope cpos) pos) (tAsg (tLc wi gt tt te vs) (gName i)) (sOwn i (xComp vs fi ft fT f)) := by
  subst hvs
  exact ⟨ps_setLc hc hN hy hyl hsw hi.pe ok (fun s H C cl fp => (hg s H C cl fp).pe) (fun s H C cl fp => (ht s H C cl fp).pe) (fun s H C cl fp => (he s H C cl fp).pe) hs,
    vw_own i (plv_comp hc hN hi ok rfl hg ht he hs (pos := cpos)).vw⟩
/-- the list at i is changed -/
theorem StOk.mut {g : Gh} {env : En} {w : W} {σ : SS} {H : Hp} {i : Nat} {xs ys : List PyData} {a : Addr} {us : List V} (I : StOk g env w σ H) (hi : env[i]? = some (.ow xs)) (ha : σ[i]? = some (some (.ref a))) (r : Reps g.K (av g true env σ) H us ys) :
    StOk g (env.set i (.ow ys)) w σ (upd H a (.lst us)) ∧ Eff g env σ H (env.set i (.ow ys)) σ (upd H a (.lst us)) := by
  have own_a : ownA env σ a := ⟨i, xs, hi, ha⟩
  have na : ¬ g.T a := I.owNT own_a
  have own' : ∀ b, ownA (env.set i (.ow ys)) σ b → ownA env σ b := fun b ⟨j, zs, h1, h2⟩ => by
    rcases set_get h1 with ⟨rfl, e⟩ | ⟨hj, h1⟩
    · exact ⟨j, xs, hi, h2⟩
    · exact ⟨j, zs, h1, h2⟩
  have av' : ∀ b, av g true (env.set i (.ow ys)) σ b → av g true env σ b := fun b h => h.elim .inl fun q => .inr ⟨rfl, own' b q.2⟩
  have k : ∀ b o, ¬ av g true env σ b → H b = some o → upd H a (.lst us) b = some o := fun b o n e => by
    rw [upd_ne (show b ≠ a from fun z => n (.inr ⟨rfl, by rw [z]; exact own_a⟩))]; exact e
  have live' : ∀ b, H b ≠ none → upd H a (.lst us) b ≠ none := fun b e => by
    by_cases z : b = a
    · subst z; rw [upd_same]; simp
    · rw [upd_ne z]; exact e
  obtain ⟨a', vs', ea, hva, _, h0, _⟩ := I.ow i xs hi
  rw [ha] at ea
  cases ea
  refine ⟨⟨by rw [List.length_set, I.len], fun j y h => ?_, fun j zs h => ?_, fun j kk h => ?_, fun j ns h => ?_, fun j j2 zs zs2 b h1 h2 h3 h4 => ?_, fun b h => live' b (I.live b h), ⟨fun b o n e => ?_, fun b e => live' b (I.keep.live b e)⟩, ?_⟩,
    ⟨fun b o nz no e => ?_, live', fun b h => .inl (own' b h)⟩⟩
  · rcases set_get h with ⟨rfl, e⟩ | ⟨hj, h⟩
    · cases e
    · obtain ⟨u, e, q⟩ := I.sh j y h
      exact ⟨u, e, q.mon k av'⟩
  · rcases set_get h with ⟨rfl, e⟩ | ⟨hj, h⟩
    · cases e
      exact ⟨a, us, ha, upd_same, r.mon k av', h0, na⟩
    · obtain ⟨b, vs, e, q, s, n, t⟩ := I.ow j zs h
      refine ⟨b, vs, e, ?_, s.mon k av', n, t⟩
      rw [upd_ne (show b ≠ a from fun z => by subst z; exact hj (I.dist j i zs xs b h hi e ha))]
      exact q
  · rcases set_get h with ⟨rfl, e⟩ | ⟨hj, h⟩
    · cases e
    · exact I.st j kk h
  · rcases set_get h with ⟨rfl, e⟩ | ⟨hj, h⟩
    · cases e
    · obtain ⟨b, e, s⟩ := I.fz j ns h
      exact ⟨b, e, s.mono k av'⟩
  · have z1 : ∃ q1, env[j]? = some (.ow q1) := by
      rcases set_get h1 with ⟨rfl, e⟩ | ⟨hj, h1⟩
      · exact ⟨xs, hi⟩
      · exact ⟨zs, h1⟩
    have z2 : ∃ q1, env[j2]? = some (.ow q1) := by
      rcases set_get h2 with ⟨rfl, e⟩ | ⟨hj, h2⟩
      · exact ⟨xs, hi⟩
      · exact ⟨zs2, h2⟩
    obtain ⟨q1, z1⟩ := z1
    obtain ⟨q2, z2⟩ := z2
    exact I.dist j j2 q1 q2 b z1 z2 h3 h4
  · have e' := I.keep.at_ b o n e
    rw [upd_ne (show b ≠ a from fun z => by subst z; rw [h0] at e; cases e)]
    exact e'
  · refine g.drk w H _ I.dr fun b z => ?_
    rw [upd_ne]
    intro e
    subst e
    exact na (g.zt b z)
  · rw [upd_ne (show b ≠ a from fun z => no (by rw [z]; exact own_a))]; exact e
/-- xs.append(e) -/
theorem psv_app {i : Nat} {x : Str} {px apos cpos : Pos} {KK : PySem.W.Frag} (hKK : X.K = KK) (p : PV X true e ta f) (hN : X.N[i]? = some x) (hv : visB X.env.scope x = true) (hd : dunB x = true)
    (hs : swapsWith (.Call (.Attribute (.Name x px) "append" apos) [e] [] cpos) none pos.line X.env = pure false)
    (hbase : attributeBase (.Name x px) "append" X.env (eval (.Name x px) X.env) = eval (.Name x px) X.env)
    (hfew : ((backTo cpos (starEach [e] X.env)).all (fun x => !x.1) && (backToKw cpos (keywordEach [] X.env)).all (fun x => x.1.isSome)
      && decide ([e].length + ([] : List Keyword).length + (if ([] : List Keyword).isEmpty then 0 else 1) < 30)) = true)
    (hline : (apos.endLine == cpos.line) = true) (hst : starEach [e] X.env = (false, eval e X.env) :: starEach [] X.env) (hplain : (backTo cpos (starEach [] X.env)).any (·.1) = false) :
    PSV X (.Expr (.Call (.Attribute (.Name x px) "append" apos) [e] [] cpos) pos) (tDrop (tBM KK "list" rAppend (tVar i) (tCons ta tNil))) (sApp i f) := by
  subst hKK
  exact (show
    PSV X (.Expr (.Call (.Attribute (.Name x px) "append" apos) [e] [] cpos) pos) (tDrop (tBM X.K "list" rAppend (tVar i) (tCons ta tNil))) (sApp i f) from
  ⟨ps_expr (pe_bm PySem.F.plainAttrs_list PySem.F.slot_list_append PySem.F.type_list_append mt_append (pe_var hN (vis_of hv) (dun1 hd) (dun2 hd)) (pa_cons p.pe pa_nil hst) hbase hfew hline hst hplain) hs, fun g env w σ H D fl env' w' hK I hf F => by
    obtain ⟨y, w1, h1, h2⟩ := bind_some.mp hf
    cases q : env[i]? with
    | none => rw [q] at h2; cases h2
    | some s =>
      rw [q] at h2
      cases s with
      | ow xs =>
        obtain ⟨a, vs, ea, ha, ra, n0, nt⟩ := I.ow i xs q
        refine ⟨_, ea, .inl ⟨rfl, _, SqL.of ha⟩, ?_⟩
        refine p.vw g env w σ H _ y _ hK I h1 fun v H1 k1 d1 r1 => ?_
        have I1 := I.step k1 d1
        obtain ⟨a', vs', ea', ha', ra', _, _⟩ := I1.ow i xs q
        rw [ea] at ea'
        cases ea'
        have h2 : (if xs.length < line then pure (Fl.nx, env.set i (.ow (xs ++ [y]))) else fail : M (Fl × En)) w1 = some ((fl, env'), w') := h2
        split at h2
        · rename_i hl
          obtain ⟨e, rfl⟩ := pure_get h2
          cases e
          refine ⟨a, vs', v, rfl, rfl, ha', by rw [ra'.length, ← line_eq]; exact hl, ?_⟩
          obtain ⟨I2, E2⟩ := I1.mut (ys := xs ++ [y]) (us := vs' ++ [v]) q ea (ra'.append (.cons (by rw [hK]; exact r1) .nil))
          exact F σ _ I2 ((Eff.of_keep (env1 := env) (σ1 := σ) k1 fun _ h => h).trans E2)
        · cases h2
      | _ => cases h2⟩)

/-- xs[k] = e -/
theorem psv_setItem {i : Nat} {x : Str} {b : Expr} {tb : TE} {k : EF} {px spos : Pos} (q : PV X false b tb k) (p : PV X true e ta f) (hN : X.N[i]? = some x) (hv : visB X.env.scope x = true) (hd : dunB x = true)
    (ha : ∀ v, assign (.Subscript (.Name x px) b spos) X.env v = (do
      let ov ← holding [v] (eval (.Name x px) X.env)
      let iv ← holding [v, ov] (eval b X.env)
      standAt spos
      holding [v, ov, iv] (setItem ov iv v)
      release [v, ov, iv] []))
    (hs : swapsWithSole [.Subscript (.Name x px) b spos] e pos.line X.env = pure false) (hw : swappedStores [.Subscript (.Name x px) b spos] e X.env = pure none)
    (h1 : (assignEach [.Subscript (.Name x px) b spos] X.env).map (·.2) = [assign (.Subscript (.Name x px) b spos) X.env]) :
    PSV X (.Assign [.Subscript (.Name x px) b spos] e pos) (tAsg ta (gSub (tVar i) tb rSetL)) (sSet i k f) :=
  ⟨ps_asg p.pe (pg_sub (pe_var hN (vis_of hv) (dun1 hd) (dun2 hd)) q.pe set_list ha) hs hw h1, fun g env w σ H D fl env' w' hK I hf F => by
    obtain ⟨y, w1, h1, h2⟩ := bind_some.mp hf
    obtain ⟨z, w2, h3, h4⟩ := bind_some.mp h2
    refine p.vw g env w σ H _ y _ hK I h1 fun v H1 k1 d1 r1 => ?_
    have I1 := I.step k1 d1
    cases qq : env[i]? with
    | none => rw [qq] at h4; cases h4
    | some s =>
      rw [qq] at h4
      cases s with
      | ow xs =>
        obtain ⟨a, vs, ea, ha, ra, n0, nt⟩ := I1.ow i xs qq
        refine ⟨_, ea, ?_⟩
        refine q.vw g env _ σ H1 _ z _ hK I1 h3 fun u H2 k2 d2 r2 => ?_
        have I2 := I1.step k2 d2
        obtain ⟨a', vs', ea', ha', ra', _, _⟩ := I2.ow i xs qq
        rw [ea] at ea'
        cases ea'
        cases z with
        | int z =>
          cases r2
          have h4 : (match VE.ixN xs.length z with | some j => pure (Fl.nx, env.set i (.ow (xs.set j y))) | none => fail : M (Fl × En)) w2 = some ((fl, env'), w') := h4
          cases hj : VE.ixN xs.length z with
          | none => rw [hj] at h4; cases h4
          | some j =>
            rw [hj] at h4
            obtain ⟨e, rfl⟩ := pure_get h4
            cases e
            refine ⟨a, vs', z, j, rfl, rfl, ha', by rw [ra'.length]; exact hj, ?_⟩
            obtain ⟨I3, E3⟩ := I2.mut (ys := xs.set j y) (us := vs'.set j v) qq ea (ra'.set j (by rw [hK]; exact r1.keep k2))
            exact F σ _ I3 ((Eff.of_keep (env1 := env) (σ1 := σ) (k1.trans k2) fun _ h => h).trans E3)
        | _ => cases h4
      | _ => cases h4⟩
end
end VE

namespace VE
open PySem PySem.Spec L2
open PyProof.Rows hiding St
/-! ### loops -/
section
variable {X : Cx} {K : PySem.W.Frag} {m : Bool} {tg iter c : Expr} {body : List Stmt} {wi : TI} {fi : IF} {gt : TG} {ft : GF} {tt : TT} {fT : TF} {tb : TS} {fb : SF} {vs : List Nat} {pos : Pos}
theorem vw_for (pi : VwI K true wi fi) (pg : VwG K vs gt ft) (pb : VwS K tb fb) : VwS K (tFor wi gt tb) (sFor fi ft fb) := fun g env w σ H D fl envF wF hK I hf F => by
  obtain ⟨xs, w1, h1, h2⟩ := bind_some.mp hf
  refine pi g env w σ H _ xs _ hK I h1 fun J H1 k1 d1 wk => ?_
  have I1 := I.step k1 d1
  have F1 := F.after (Eff.of_keep (env1 := env) (σ1 := σ) k1 fun _ h => h)
  refine ⟨fun i n σ' H' => n = xs.length - i ∧ i ≤ xs.length ∧ ∃ (ei : En) (wi : W), StOk g ei wi σ' H' ∧ Eff g env σ H1 ei σ' H' ∧ sFor.go ft fb (xs.drop i) ei wi = some ((fl, envF), wF), ⟨xs.length, by simp, Nat.zero_le _, env, w1, I1, Eff.refl, by rw [List.drop_zero]; exact h2⟩, ?_⟩
  rintro i n σ2 H2 ⟨rfl, hi, ei, wi, I2, E2, hc⟩
  have stay : Keep (av g true env σ) H1 H2 := ⟨fun a o n e => E2.at_ a o (fun z => n (av_z z)) (fun z => n (.inr ⟨rfl, z⟩)) e, E2.live⟩
  obtain ⟨walk, stop⟩ := wk H2 stay
  by_cases hlt : i < xs.length
  · right
    obtain ⟨go, yl⟩ := walk i xs[i] (List.getElem?_eq_getElem hlt)
    have hdrop : xs.drop i = xs[i] :: xs.drop (i + 1) := List.drop_eq_getElem_cons hlt
    rw [hdrop] at hc
    unfold sFor.go at hc
    obtain ⟨env1, w3, h5, h6⟩ := bind_some.mp hc
    obtain ⟨e5, rfl⟩ := lift_get h5
    obtain ⟨⟨fl2, env2⟩, w4, h7, h8⟩ := bind_some.mp h6
    refine ⟨go, fun σ' H' => ∃ m', m' < xs.length - i ∧ (m' = xs.length - (i + 1) ∧ i + 1 ≤ xs.length ∧ ∃ (ei : En) (wi : W), StOk g ei wi σ' H' ∧ Eff g env σ H1 ei σ' H' ∧ sFor.go ft fb (xs.drop (i + 1)) ei wi = some ((fl, envF), wF)), fun _ _ h => h, fun v H3 y => ?_⟩
    obtain ⟨sm, rv⟩ := yl v H3 y
    have k3 : Keep g.Z H2 H3 := Keep.of_same sm
    have I3 := I2.step k3 (I2.same sm)
    have rv' : Rep K (av g true ei σ2) H3 v xs[i] := rv.mon (fun _ _ _ e => e) fun a h => by
      rcases h with h | ⟨_, h⟩
      · exact .inl (.inl h)
      · rcases E2.own a h with z | z
        · exact .inl (.inr ⟨rfl, z⟩)
        · exact .inr ⟨z, I2.owLive h⟩
    refine pg g ei _ σ2 H3 v xs[i] env1 _ hK I3 rv' e5 fun σ4 I4 o4 _ _ => ?_
    have E4 : Eff g env σ H1 env1 σ4 H3 := E2.trans (Eff.of_keep k3 o4)
    refine pb g env1 _ σ4 H3 _ fl2 env2 w4 hK I4 h7 ?_
    cases fl2 with
    | nx => exact fun σ' H' I' E' => ⟨xs.length - (i + 1), by omega, rfl, hlt, env2, w4, I', E4.trans E', h8⟩
    | ct => exact fun σ' H' I' E' => ⟨xs.length - (i + 1), by omega, rfl, hlt, env2, w4, I', E4.trans E', h8⟩
    | bk =>
      obtain ⟨e, rfl⟩ := pure_get h8
      cases e
      exact fun σ' H' I' E' => F1 σ' H' I' (E4.trans E')
    | rt x =>
      obtain ⟨e, rfl⟩ := pure_get h8
      cases e
      exact F1
  · left
    have e : i = xs.length := by omega
    subst e
    rw [List.drop_length] at hc
    unfold sFor.go at hc
    obtain ⟨e, rfl⟩ := pure_get hc
    cases e
    exact ⟨stop, F1 σ2 H2 I2 E2⟩
theorem psv_for (hc : X.calm = true) (hi : PIV X true tg iter wi fi) (hg : PGV X tg vs gt ft) (hb : PSsV X body tb fb) (hp : PassesOwn (model X.prog X.w) X.A X.env X.xe)
    (hs : ∀ x, foldedSetIterable iter X.env x = pure x) : PSV X (.For tg iter body [] pos) (tFor wi gt tb) (sFor fi ft fb) :=
  ⟨ps_for hp hc hi.pe hg.pe hb.pe hs, vw_for hi.vw hg.vw hb.vw⟩
theorem vw_while (n : Nat) (pt : VwT K tt fT) (pb : VwS K tb fb) : VwS K (tWhile tt tb) (sWhile n fT fb) := fun g env w σ H D fl envF wF hK I hf F => by
  refine ⟨fun n σ' H' => ∃ (ei : En) (wi : W), StOk g ei wi σ' H' ∧ Eff g env σ H ei σ' H' ∧ sWhile.go fT fb n ei wi = some ((fl, envF), wF), ⟨n, env, w, I, Eff.refl, hf⟩, ?_⟩
  rintro n σ2 H2 ⟨ei, wi, I2, E2, hc⟩
  cases n with
  | zero => cases hc
  | succ n =>
    unfold sWhile.go at hc
    obtain ⟨b, w1, h1, h2⟩ := bind_some.mp hc
    refine pt g ei wi σ2 H2 _ b _ hK I2 h1 fun H3 k3 d3 => ?_
    have I3 := I2.step k3 d3
    have E3 : Eff g env σ H ei σ2 H3 := E2.trans (Eff.of_keep k3 fun _ h => h)
    cases b with
    | false =>
      rw [if_neg Bool.false_ne_true] at h2
      rw [if_neg Bool.false_ne_true]
      obtain ⟨e, rfl⟩ := pure_get h2
      cases e
      exact F σ2 H3 I3 E3
    | true =>
      rw [if_pos rfl] at h2
      rw [if_pos rfl]
      obtain ⟨⟨fl2, env2⟩, w4, h7, h8⟩ := bind_some.mp h2
      refine ⟨fun σ' H' => ∃ m', m' < n + 1 ∧ ∃ (ei : En) (wi : W), StOk g ei wi σ' H' ∧ Eff g env σ H ei σ' H' ∧ sWhile.go fT fb m' ei wi = some ((fl, envF), wF), fun _ _ h => h, ?_⟩
      refine pb g ei w1 σ2 H3 _ fl2 env2 w4 hK I3 h7 ?_
      cases fl2 with
      | nx => exact fun σ' H' I' E' => ⟨n, Nat.lt_succ_self _, env2, w4, I', E3.trans E', h8⟩
      | ct => exact fun σ' H' I' E' => ⟨n, Nat.lt_succ_self _, env2, w4, I', E3.trans E', h8⟩
      | bk =>
        obtain ⟨e, rfl⟩ := pure_get h8
        cases e
        exact fun σ' H' I' E' => F σ' H' I' (E3.trans E')
      | rt x =>
        obtain ⟨e, rfl⟩ := pure_get h8
        cases e
        exact F
theorem psv_while {n : Nat} (hc : PTV X c tt fT) (hb : PSsV X body tb fb) (hp : PassesOwn (model X.prog X.w) X.A X.env X.xe) : PSV X (.While c body [] pos) (tWhile tt tb) (sWhile n fT fb) :=
  ⟨ps_while hp hc.pe hb.pe, vw_while n hc.vw hb.vw⟩
end

/-! ### a def -/
theorem start_get {N : List Str} {vs : List V} {i : Nat} {v : V} (h : vs[i]? = some v) : (L2.start N vs)[i]? = some (some v) := by
  unfold L2.start
  have hl := (List.getElem?_eq_some_iff.mp h).1
  rw [List.getElem?_append_left (by rw [List.length_map]; exact hl), List.getElem?_map, h]
  rfl
theorem stok_start {K : PySem.W.Frag} {T : Addr → Prop} {H : Hp} {vs : List V} {xs : List PyData} {N : List Str} {nl : Nat} (lv : ∀ a, T a → H a ≠ none) (r : Reps K T H vs xs) (hN : N.length - vs.length = nl) (w : W) :
    StOk { K := K, Z := fun _ => False, T := T, H0 := H, sd := 0, sc := 0, kd := 0, one := fun h => (nomatch h), two := fun h => (nomatch h), dr := fun _ _ => True, zt := fun _ h => h.elim, drk := fun _ _ _ _ _ => trivial } (xs.map Slot.sh ++ List.replicate nl Slot.no) w (L2.start N vs) H := by
  have slot : ∀ (i : Nat) s, (xs.map Slot.sh ++ List.replicate nl Slot.no)[i]? = some s → (∃ x, s = .sh x ∧ xs[i]? = some x) ∨ s = .no := fun i s h => by
    by_cases hi : i < xs.length
    · rw [List.getElem?_append_left (by rw [List.length_map]; exact hi), List.getElem?_map] at h
      cases q : xs[i]? with
      | none => rw [q] at h; cases h
      | some x => rw [q] at h; exact .inl ⟨x, (Option.some.inj h).symm, rfl⟩
    · rw [List.getElem?_append_right (by rw [List.length_map]; omega)] at h
      exact .inr (List.eq_of_mem_replicate (List.mem_of_getElem? h))
  have noown : ∀ a, ¬ ownA (xs.map Slot.sh ++ List.replicate nl Slot.no) (L2.start N vs) a := fun a ⟨i, ys, h, _⟩ => by
    rcases slot i _ h with ⟨x, e, _⟩ | e <;> cases e
  refine ⟨?_, fun i x h => ?_, fun i ys h => ?_, fun i kk h => ?_, fun i ns h => ?_, fun i j ys zs a h _ _ _ => ?_, lv, Keep.refl _ _, trivial⟩
  · unfold L2.start
    rw [List.length_append, List.length_append, List.length_map, List.length_map, List.length_replicate, List.length_replicate, r.length]
    rw [r.length] at hN
    omega
  · rcases slot i _ h with ⟨x', e, hx⟩ | e
    · cases e
      obtain ⟨v, hv, rv⟩ := r.get hx
      exact ⟨v, start_get hv, rv.mon (fun _ _ _ e => e) fun a z => z.elim id fun z => (noown a z.2).elim⟩
    · cases e
  · rcases slot i _ h with ⟨x, e, _⟩ | e <;> cases e
  · rcases slot i _ h with ⟨x, e, _⟩ | e <;> cases e
  · rcases slot i _ h with ⟨x, e, _⟩ | e <;> cases e
  · rcases slot i _ h with ⟨x, e, _⟩ | e <;> cases e
theorem runDef_get {np nl : Nat} {body : SF} {xs : List PyData} {y : PyData} (h : runDef np nl body xs = some y) :
    xs.length = np ∧ ∃ fl env' w', body (xs.map .sh ++ List.replicate nl .no) ⟨0, []⟩ = some ((fl, env'), w') ∧ (fl = .rt y ∨ (fl = .nx ∧ y = .none)) := by
  unfold runDef at h
  split at h
  · rename_i hl
    refine ⟨hl, ?_⟩
    split at h
    · rename_i v env' w' e
      cases h
      exact ⟨_, env', w', e, .inl rfl⟩
    · rename_i env' w' e
      cases h
      exact ⟨_, env', w', e, .inr ⟨rfl, rfl⟩⟩
    · cases h
  · cases h
section
variable {P : Program} {w : World} {K : PySem.W.Frag} {mg : Str → Option Value} {base : Heap}
/-- a def keeps the promise that its mirror makes -/
theorem fn_def {x qual : Str} {st : Stmt} {f : Addr} {fd : FuncData} {N ps : List Str} {k : Nat} {np nl : Nat} {fb : SF} (F : Fun K x qual st f fd) (S : FnScope N ps (defScope st)) (hnp : ps.length = np) (hnl : N.length - np = nl)
    (hb : ∀ (cdv : Value) (A : Around) (outer : List Env) (s : Shared) (H : Hp) (E : XK), Room k (A.deeper (envOfC qual (defScope st) s.heap.objs.size f cdv)) → ∃ t, PSsV (cxOf CX0 P w K mg base N qual (defScope st) f cdv A outer s H E).nox (defBody st) t fb) :
    FnOk P w K mg base CX0 (k + 1) f fd ps (vsp K (runDef np nl fb)) := by
  refine F.ok S (fun vs H Q E h => ?_) (fun cdv A outer s H vs Q E hr h => ?_)
  · obtain ⟨T, xs, y, _, r, hF, _⟩ := h
    rw [r.length, (runDef_get hF).1, hnp]
  · obtain ⟨t, p⟩ := hb cdv A outer s H E hr
    obtain ⟨T, xs, y, lv, r, hF, q⟩ := h
    obtain ⟨hl, fl, env', w', e, hfl⟩ := runDef_get hF
    refine ⟨t, p.pe, ?_⟩
    refine p.vw _ _ _ (L2.start N vs) H _ fl env' w' ?_ (stok_start lv r (by rw [r.length, hl]; exact hnl) ⟨0, []⟩) e ?_
    · rfl
    rcases hfl with rfl | ⟨rfl, rfl⟩
    · exact fun v H' k _ rv => q v H' (fun a o e => k.at_ a o (fun z => z) e) rv
    · exact fun σ' H' I' E' => q .non H' (fun a o e => I'.keep.at_ a o (fun z => z) e) .non
theorem cal_mk {x : Str} {f : Addr} {fd : FuncData} {ps : List Str} {k : Nat} {F : List PyData → Option PyData} (G : FnOk P w K mg base CX0 k f fd ps (vsp K F)) (hm : mg x = some (.ref f)) (hk : PySem.W.keepIn K (.ref f) = true) (hb : Binds K fd ps []) : Cal P w K mg base x k F := ⟨f, fd, ps, G, hm, hk, hb⟩
theorem Cal.mono {x : Str} {k j : Nat} {F : List PyData → Option PyData} (c : Cal P w K mg base x k F) (h : k ≤ j) : Cal P w K mg base x j F := by
  obtain ⟨f, fd, ps, G, a⟩ := c.ex
  exact ⟨f, fd, ps, G.mono h, a⟩
end
end VE

namespace VE
open PySem
/-! the first lines of _law_state -/
def stateB1 : SF := sOwn 1 (xComp [2] (iLst (xAs (xCutZ 0 oNo (oSome (xC (.int 63)))))) (gNm 2) tYesF (xCall fAbs (xCons (xVar 2) xNil)))
def stateB2 : SF := sIf (xTest (xOp fEq (xCall fLen (xCons (xVarO 1) xNil)) (xC (.int 0)))) (sOwn 1 (xLst (xCons (xC (.int 0)) xNil))) sPass
theorem state_comp (ns : List Int) (env : En) (a b : Slot) (he : env = [.fz ns, a, .no]) : ∀ xs : List Int, compL (gNm 2) tYesF (xCall fAbs (xCons (xVar 2) xNil)) env (xs.map .int) = pure ((xs.map fun i => if i < 0 then -i else i).map .int)
  | [] => rfl
  | x :: r => by
    subst he
    rw [List.map_cons, compL, state_comp ns _ a b rfl r]
    rfl
theorem cut63 (ns : List Int) : cut (ns.map PyData.int) none (some 63) = (ns.take 63).map PyData.int := by
  have e : cut (ns.map PyData.int) none (some 63) = ((ns.map PyData.int).drop 0).take (min 63 (ns.map PyData.int).length - 0) := rfl
  rw [e, List.drop_zero, Nat.sub_zero, List.length_map]
  by_cases h : ns.length ≤ 63
  · rw [Nat.min_eq_right h, List.take_of_length_le (by rw [List.length_map]; exact Nat.le_refl _), List.take_of_length_le h]
  · rw [Nat.min_eq_left (by omega), List.map_take]
theorem stt_bind {α β : Type} (a : α) (k : α → M β) : ((pure a : M α) >>= k) = k a := pure_bind a k
theorem state_run (ns : List Int) : (sSeq stateB1 stateB2) [.fz ns, .no, .no] = pure (.nx, [.fz ns, .ow ((stateCells ns).map .int), .no]) := by
  have h1 : stateB1 [.fz ns, .no, .no] = pure (.nx, [.fz ns, .ow (((ns.take 63).map fun i => if i < 0 then -i else i).map .int), .no]) := by
    have e0 : (iLst (xAs (xCutZ 0 oNo (oSome (xC (.int 63)))))) [.fz ns, .no, .no] = pure (cut (ns.map PyData.int) none (some 63)) := rfl
    have hl : ((ns.take 63).map PyData.int).length ≤ line := by
      rw [List.length_map, List.length_take]
      exact Nat.le_trans (Nat.min_le_left _ _) (by decide)
    unfold stateB1 sOwn xComp
    simp only [e0, stt_bind, cut63]
    have ew : wipeE [Slot.fz ns, .no, .no] [2] = some [.fz ns, .no, .no] := rfl
    rw [ew]
    simp only [lift_some, stt_bind, if_pos hl, state_comp ns [.fz ns, .no, .no] .no .no rfl]
    rfl
  unfold sSeq
  simp only [h1, stt_bind]
  unfold stateB2 sIf
  generalize hc : (ns.take 63).map (fun i => if i < 0 then -i else i) = c
  have ec : stateCells ns = if c.length = 0 then [0] else c := by unfold stateCells; rw [hc]
  rw [ec]
  cases c with
  | nil => rfl
  | cons x r =>
    have et : (xTest (xOp fEq (xCall fLen (xCons (xVarO 1) xNil)) (xC (.int 0)))) [.fz ns, .ow ((x :: r).map .int), .no] = pure false := by
      have : (xOp fEq (xCall fLen (xCons (xVarO 1) xNil)) (xC (.int 0))) [.fz ns, .ow ((x :: r).map .int), .no] = lift (fEq (.int ((x :: r).map PyData.int).length) (.int 0)) := rfl
      unfold xTest
      rw [this]
      have e2 : fEq (.int ((x :: r).map PyData.int).length) (.int 0) = some (.bool false) := by
        unfold fEq
        have s1 : (shp (.int ((x :: r).map PyData.int).length) && shp (.int 0)) = true := rfl
        rw [if_pos s1]
        have : PyData.eqv (.int ((x :: r).map PyData.int).length) (.int 0) = decide ((((x :: r).map PyData.int).length : Int) = 0) := by
          unfold PyData.eqv
          exact Bool.beq_eq_decide_eq _ _
        rw [this, decide_eq_false]
        rw [List.length_map, List.length_cons]
        omega
      rw [e2]
      rfl
    rw [if_neg (by rw [List.length_cons]; omega)]
    simp only [et, stt_bind]
    rfl
end VE

namespace VE
open PySem PySem.Spec L2
open PyProof.Rows hiding St
/-! ### the law's draws: _law_take(state, most) -/
def spTake (K : PySem.W.Frag) : Sp := fun vs H Q _ => ∃ (D C : Addr) (w : W) (most r : Int) (w' : W), vs = [.ref D, .int most] ∧ D ≠ C ∧ H D = some (.lst [.int w.pos, .ref C]) ∧ H C = some (.lst (w.cells.map V.int)) ∧
  takeW most w = some (r, w') ∧ ∀ H', (∀ a o, a ≠ D → a ≠ C → H a = some o → H' a = some o) → (∀ a, H a ≠ none → H' a ≠ none) → H' D = some (.lst [.int w'.pos, .ref C]) → H' C = some (.lst (w'.cells.map V.int)) → Q (.int r) H'
structure CalT (P : Program) (w : World) (K : PySem.W.Frag) (mg : Str → Option Value) (base : Heap) (x : Str) (k : Nat) : Prop where
  ex : ∃ (f : Addr) (fd : FuncData), FnOk P w K mg base CX0 k f fd ["state", "most"] (spTake K) ∧ mg x = some (.ref f) ∧ PySem.W.keepIn K (.ref f) = true ∧ Binds K fd ["state", "most"] []
theorem takeW_len {most : Int} {w w' : W} {r : Int} (h : takeW most w = some (r, w')) : w'.cells.length = w.cells.length := by
  unfold takeW at h
  split at h
  · dsimp only at h
    split at h
    · cases h
    · split at h
      · cases h; simp
      · cases h; rfl
  · cases h
section
variable {X : Cx} {m : Bool} {i : Nat} {ta : TE} {f : EF} {e : Expr} {pos p px : Pos} {K : PySem.W.Frag}
theorem pv_take {x y : Str} {n : Nat} {KK : PySem.W.Frag} (hKK : X.K = KK) (c : CalT X.prog X.w X.K X.mg X.base x n) (hr : Room n X.A) (q : PV X false e ta f) (hN : X.N[i]? = some y) (hv : visB X.env.scope y = true) (hd : dunB y = true) (hg : Gl X x) (hdb : (x == ("__debug__" : Str)) = false)
    (hst : starEach [e] X.env = (false, eval e X.env) :: starEach [] X.env) (he : starEach [.Name y px, e] X.env = (false, eval (.Name y px) X.env) :: starEach [e] X.env) (hpl : (backTo pos (starEach [e] X.env)).any (·.1) = false) :
    PV X m (.Call (.Name x p) [.Name y px, e] [] pos) (tCall (spTake KK) [] E0 (tCons (tVar i) (tCons ta tNil))) (xTake i f) := by
  subst hKK
  obtain ⟨fa, fd, G, mgf, kp, bi⟩ := c.ex
  refine ⟨pe_call G hr hg mgf kp bi .nil pass0 (pa_cons (pe_var hN (vis_of hv) (dun1 hd) (dun2 hd)) (pa_cons q.pe pa_nil hst) he) hdb he hpl, fun g env w σ H Q x w' hK I hf k => ?_⟩
  obtain ⟨z, w1, h1, h2⟩ := bind_some.mp hf
  cases es : env[i]? with
  | none => rw [es] at h2; cases h2
  | some s =>
    rw [es] at h2
    cases s with
    | st kk =>
      by_cases hk : kk = 1
      · subst hk
        cases z with
        | int most =>
          obtain ⟨r, w2, h3, h4⟩ := bind_some.mp (show (takeW most >>= fun r => pure (PyData.int r)) w1 = some (x, w') from h2)
          obtain ⟨rfl, rfl⟩ := pure_get h4
          obtain ⟨eσ, ek⟩ := I.st i 1 es
          obtain ⟨hZ, hne, hdr⟩ := g.one ek
          refine ⟨_, eσ, ?_⟩
          refine q.vw g env w σ H _ _ _ hK I h1 fun v H1 k1 d1 r1 => ?_
          cases r1
          obtain ⟨eD, eC⟩ := (hdr _ _).mp d1
          refine ⟨g.sd, g.sc, w1, most, r, _, rfl, hne, eD, eC, h3, fun H' hs hl e1 e2 => ?_⟩
          have I1 := I.step k1 d1
          refine k _ H' (k1.trans ⟨fun a o n ea => hs a o (fun z => n ((hZ a).mpr (.inl z))) (fun z => n ((hZ a).mpr (.inr z))) ea, hl⟩) ((hdr _ _).mpr ⟨e1, e2⟩) (.int _)
        | _ => cases h2
      · exfalso
        cases kk with
        | zero => cases z <;> cases h2
        | succ k =>
          cases k with
          | zero => exact hk rfl
          | succ k => cases z <;> cases h2
    | _ => cases h2
end

/-- the script cut, a new list -/
theorem plv_cutZ {X : Cx} {m : Bool} {i : Nat} {px pos p2 : Pos} {x : Str} {lo hi : Option Expr} {tl th : TO} {fl fh : OF} {KK : PySem.W.Frag} (hKK : X.K = KK) (hN : X.N[i]? = some x) (hv : visB X.env.scope x = true) (hd : dunB x = true) (ql : POV X lo tl fl) (qh : POV X hi th fh) :
    PLV X m (.Subscript (.Name x px) (.Slice lo hi none p2) pos) (tSl (rSlL KK) (tVar i) tl th) (xCutZ i fl fh) := by
  subst hKK
  refine ⟨pe_slice sl_list (pe_var hN (vis_of hv) (dun1 hd) (dun2 hd)) ql.pe qh.pe, fun g env w σ H Q x w' hK I hf k => ?_⟩
  obtain ⟨l, w2, h3, h4⟩ := bind_some.mp hf
  obtain ⟨u, w3, h5, h6⟩ := bind_some.mp h4
  cases es : env[i]? with
  | none => rw [es] at h6; cases h6
  | some s =>
    rw [es] at h6
    cases s with
    | fz ns =>
      obtain ⟨rfl, rfl⟩ := pure_get h6
      obtain ⟨a, ea, _⟩ := I.fz i ns es
      refine ⟨_, ea, ?_⟩
      refine ql.vw g env _ σ H _ l _ hK I h3 fun H2 k2 d2 => ?_
      refine qh.vw g env _ σ H2 _ u _ hK (I.step k2 d2) h5 fun H3 k3 d3 => ?_
      have I3 := (I.step k2 d2).step k3 d3
      obtain ⟨a', ea', la⟩ := I3.fz i ns es
      rw [ea] at ea'
      cases ea'
      refine ⟨_, _, rfl, by rw [← hK]; exact la.sq, fun q hq => ?_⟩
      obtain ⟨k4, d4⟩ := I3.new (o := .lst (cutV (ns.map V.int) l u)) hq
      refine k q _ _ ?_ ((k2.trans k3).trans k4) d4 upd_same (cut_rep l u (Reps.ints_map ns))
      cases z : H q with
      | none => rfl
      | some o => exact absurd hq ((k2.trans k3).live q (by rw [z]; simp))
    | _ => cases h6
/-- _law_state(script): a new list of 0 and a new list of cells -/
def spState (K : PySem.W.Frag) : Sp := fun vs H Q _ => ∃ (a : Addr) (ns : List Int), vs = [.ref a] ∧ SqL K H a (ns.map V.int) ∧ ns.length ≤ 63 ∧
  ∀ H' D C, Same H H' → H D = none → H C = none → D ≠ C → H' D = some (.lst [.int 0, .ref C]) → H' C = some (.lst ((stateCells ns).map V.int)) → Q (.ref D) H'
structure CalS (P : Program) (w : World) (K : PySem.W.Frag) (mg : Str → Option Value) (base : Heap) (x : Str) (k : Nat) : Prop where
  ex : ∃ (f : Addr) (fd : FuncData), FnOk P w K mg base CX0 k f fd ["script"] (spState K) ∧ mg x = some (.ref f) ∧ PySem.W.keepIn K (.ref f) = true ∧ Binds K fd ["script"] []
/-- a law's promise -/
def spLaw (K : PySem.W.Frag) : Sp := fun vs H Q _ => ∃ (a : Addr) (ns : List Int), vs = [.ref a] ∧ SqL K H a (ns.map V.int) ∧ ns.length ≤ 63 ∧ ∀ H', Q (.bl true) H'
end VE

namespace VE
open PySem PySem.Spec L2
open PyProof.Rows hiding St
section
variable {P : Program} {w : World} {K : PySem.W.Frag} {mg : Str → Option Value} {base : Heap}
theorem lstAt_of {K : PySem.W.Frag} {T : Addr → Prop} {H : Hp} {a : Addr} {vs : List V} (h : SqL K H a vs) (n : ∀ o, H a = some o → ¬ T a) : LstAt K T H a vs := by
  rcases h with h | h
  · rcases h with h | ⟨o, h⟩
    · exact .inl ⟨n _ h, .inl h⟩
    · exact .inl ⟨n _ h, .inr ⟨o, h⟩⟩
  · exact .inr h
/-- _law_state: its two first lines by the layer, its return by hand -/
theorem state_ok {f : Addr} {fd : FuncData} {st s1 s2 s3 : Stmt} (F : Fun K "_law_state" "_law_state" st f fd) (S : FnScope ["script", "cells", "cell"] ["script"] (defScope st)) (hb : defBody st = [s1, s2, s3])
    (h1 : ∀ (cdv : Value) (A : Around) (outer : List Env) (s : Shared) (H : Hp) (E : XK), Room 0 (A.deeper (envOfC "_law_state" (defScope st) s.heap.objs.size f cdv)) → ∃ t1 t2, PSV (cxOf CX0 P w K mg base ["script", "cells", "cell"] "_law_state" (defScope st) f cdv A outer s H E).nox s1 t1 stateB1 ∧ PSV (cxOf CX0 P w K mg base ["script", "cells", "cell"] "_law_state" (defScope st) f cdv A outer s H E).nox s2 t2 stateB2 ∧
      PS (cxOf CX0 P w K mg base ["script", "cells", "cell"] "_law_state" (defScope st) f cdv A outer s H E).nox s3 (tRet (tLst (tCons (tC (.int 0)) (tCons (tVar 1) tNil))))) :
    FnOk P w K mg base CX0 1 f fd ["script"] (spState K) := by
  refine F.ok S (fun vs H Q E h => ?_) (fun cdv A outer s H vs Q E hr h => ?_)
  · obtain ⟨_, _, rfl, _⟩ := h; rfl
  obtain ⟨t1, t2, p1, p2, p3⟩ := h1 cdv A outer s H E hr
  obtain ⟨a, ns, rfl, hS, hl, q⟩ := h
  rw [hb]
  refine ⟨_, pss_cons p1.pe (pss_cons p2.pe (pss_one p3)), ?_⟩
  have run := congrFun (state_run ns) ⟨0, []⟩
  have run : (sSeq stateB1 stateB2) [.fz ns, .no, .no] ⟨0, []⟩ = some ((.nx, [.fz ns, .ow ((stateCells ns).map .int), .no]), ⟨0, []⟩) := run
  obtain ⟨⟨fl1, env1⟩, w1, r1, r2⟩ := bind_some.mp run
  generalize hg : ({ K := K, Z := fun _ => False, T := fun _ => False, H0 := H, sd := 0, sc := 0, kd := 0, one := fun h => (nomatch h), two := fun h => (nomatch h), dr := fun _ _ => True, zt := fun _ h => h.elim, drk := fun _ _ _ _ _ => trivial } : Gh) = g
  have gK : g.K = K := by rw [← hg]
  have gH : g.H0 = H := by rw [← hg]
  have gZ : ∀ a, ¬ g.Z a := by intro a z; rw [← hg] at z; exact z
  have I0 : StOk g [.fz ns, .no, .no] ⟨0, []⟩ [some (.ref a), none, none] H := by
    subst hg
    refine ⟨rfl, fun i x h => ?_, fun i xs h => ?_, fun i k h => ?_, fun i ms h => ?_, fun i j xs ys b h => ?_, fun _ h => h.elim, Keep.refl _ _, trivial⟩
    · rcases i with _ | _ | _ | i <;> simp at h
    · rcases i with _ | _ | _ | i <;> simp at h
    · rcases i with _ | _ | _ | i <;> simp at h
    · rcases i with _ | _ | _ | i <;> simp at h
      subst h
      refine ⟨a, rfl, lstAt_of hS fun o _ z => ?_⟩
      rcases z with z | ⟨_, j, xs, z, _⟩
      · exact z
      · rcases j with _ | _ | _ | j <;> simp at z
    · rcases i with _ | _ | _ | i <;> simp at h
  refine p1.vw g _ _ [some (.ref a), none, none] H _ fl1 env1 w1 gK I0 r1 ?_
  cases fl1 with
  | nx =>
    intro σ1 H1 I1 E1
    refine p2.vw g env1 w1 σ1 H1 _ .nx _ ⟨0, []⟩ gK I1 r2 ?_
    intro σ2 H2 I2 E2
    obtain ⟨C, us, eC, hC, ru, nC, _⟩ := I2.ow 1 _ rfl
    have eu : us = (stateCells ns).map V.int := by
      have hi : asInts ((stateCells ns).map PyData.int) = some (stateCells ns) := by
        generalize stateCells ns = c
        induction c with
        | nil => rfl
        | cons x r ih => rw [List.map_cons, asInts, ih]; rfl
      exact (ru.of_ints hi).1
    subst eu
    refine ⟨_, eC, by show 2 ≤ sizeLine; rw [sizeLine_eq]; decide, fun D hD => ?_⟩
    have sm : Same H H2 := fun b o e => I2.keep.at_ b o (gZ b) (by rw [gH]; exact e)
    have ne : D ≠ C := fun z => by subst z; rw [hD] at hC; cases hC
    refine q _ D C (sm.trans (upd_new hD)) ?_ ?_ ne upd_same (by rw [upd_ne ne.symm]; exact hC)
    · cases z : H D with
      | none => rfl
      | some o => rw [sm D o z] at hD; cases hD
    · rw [← gH]; exact nC
  | bk => obtain ⟨e, _⟩ := pure_get r2; cases e
  | ct => obtain ⟨e, _⟩ := pure_get r2; cases e
  | rt x => obtain ⟨e, _⟩ := pure_get r2; cases e
def lawGh (K : PySem.W.Frag) (D C : Addr) (H : Hp) (hne : D ≠ C) : Gh :=
  { K := K, Z := fun b => b = D ∨ b = C, T := fun b => b = D ∨ b = C, H0 := H, sd := D, sc := C, kd := 1, dr := fun w H => H D = some (.lst [.int w.pos, .ref C]) ∧ H C = some (.lst (w.cells.map V.int)), zt := fun _ h => h, drk := fun w H1 H2 h e => ⟨by rw [e D (.inl rfl)]; exact h.1, by rw [e C (.inr rfl)]; exact h.2⟩, one := fun _ => ⟨fun _ => Iff.rfl, hne, fun _ _ => Iff.rfl⟩, two := fun h => absurd h (by decide) }
/-- a law that draws by _law_take -/
theorem law_ok {f : Addr} {fd : FuncData} {st s1 : Stmt} {rest : List Stmt} {N : List Str} {k i : Nat} {fb : SF} (F : Fun K "law" "law" st f fd) (S : FnScope N ["script"] (defScope st)) (hb : defBody st = s1 :: rest) (hi : 0 < i ∧ i < N.length)
    (h1 : ∀ (cdv : Value) (A : Around) (outer : List Env) (s : Shared) (H : Hp) (E : XK), Room k (A.deeper (envOfC "law" (defScope st) s.heap.objs.size f cdv)) →
      PS (cxOf CX0 P w K mg base N "law" (defScope st) f cdv A outer s H E).nox s1 (tAsg (tCall (spState K) [] E0 (tCons (tVar 0) tNil)) (gName i)) ∧ ∃ t, PSsV (cxOf CX0 P w K mg base N "law" (defScope st) f cdv A outer s H E).nox rest t fb)
    (run : ∀ ns : List Int, ns.length ≤ 63 → ∃ env' w', fb ((Slot.fz ns :: List.replicate (N.length - 1) Slot.no).set i (.st 1)) ⟨0, stateCells ns⟩ = some ((.rt (.bool true), env'), w')) :
    FnOk P w K mg base CX0 (k + 1) f fd ["script"] (spLaw K) := by
  refine F.ok S (fun vs H Q E h => ?_) (fun cdv A outer s H vs Q E hr h => ?_)
  · obtain ⟨_, _, rfl, _⟩ := h; rfl
  obtain ⟨p1, t, p2⟩ := h1 cdv A outer s H E hr
  obtain ⟨a, ns, rfl, hS, hl, q⟩ := h
  rw [hb]
  refine ⟨_, pss_cons p1 p2.pe, ?_⟩
  refine ⟨.ref a, rfl, a, ns, rfl, hS, hl, fun H' D C sm hD hC hne eD eC => ?_⟩
  obtain ⟨env', w', hrun⟩ := run ns hl
  have nD : ∀ o, H a = some o → a ≠ D := fun o e z => by subst z; rw [hD] at e; cases e
  have nC : ∀ o, H a = some o → a ≠ C := fun o e z => by subst z; rw [hC] at e; cases e
  have slot : ∀ (j : Nat) s, ((Slot.fz ns :: List.replicate (N.length - 1) Slot.no).set i (.st 1))[j]? = some s → (j = i ∧ s = .st 1) ∨ (j = 0 ∧ s = .fz ns) ∨ s = .no := fun j s h => by
    rcases set_get h with h | ⟨hj, h⟩
    · exact .inl h
    · cases j with
      | zero => exact .inr (.inl ⟨rfl, by simpa using h.symm⟩)
      | succ j =>
        rw [List.getElem?_cons_succ] at h
        exact .inr (.inr (List.eq_of_mem_replicate (List.mem_of_getElem? h)))
  have hst : L2.start N [.ref a] = some (.ref a) :: List.replicate (N.length - 1) none := rfl
  have noown : ∀ b, ¬ ownA ((Slot.fz ns :: List.replicate (N.length - 1) Slot.no).set i (.st 1)) ((L2.start N [.ref a]).set i (some (.ref D))) b := fun b ⟨j, xs, h, _⟩ => by
    rcases slot j _ h with ⟨_, e⟩ | ⟨_, e⟩ | e <;> cases e
  refine p2.vw (lawGh K D C H' hne) _ ⟨0, stateCells ns⟩ _ H' _ (.rt (.bool true)) env' w' rfl ?_ hrun ?_
  · refine ⟨?_, fun j x h => ?_, fun j xs h => ?_, fun j k h => ?_, fun j ms h => ?_, fun j j2 xs ys b h => ?_, fun b h => ?_, Keep.refl _ _, eD, eC⟩
    · rw [hst]; simp
    · rcases slot j _ h with ⟨_, e⟩ | ⟨_, e⟩ | e <;> cases e
    · rcases slot j _ h with ⟨_, e⟩ | ⟨_, e⟩ | e <;> cases e
    · rcases slot j _ h with ⟨e1, e⟩ | ⟨_, e⟩ | e
      · cases e
        subst e1
        refine ⟨?_, rfl⟩
        rw [List.getElem?_set_self (by rw [hst, List.length_cons, List.length_replicate]; omega)]
        rfl
      · cases e
      · cases e
    · rcases slot j _ h with ⟨_, e⟩ | ⟨e1, e⟩ | e
      · cases e
      · cases e
        subst e1
        refine ⟨a, ?_, (lstAt_of (T := av (lawGh K D C H' hne) true ((Slot.fz ns :: List.replicate (N.length - 1) Slot.no).set i (.st 1)) ((L2.start N [.ref a]).set i (some (.ref D)))) hS fun o e z => ?_).mono (fun b o _ e => sm b o e) fun _ z => z⟩
        · rw [List.getElem?_set_ne (by omega), hst]
          rfl
        · rcases z with (z | z) | ⟨_, z⟩
          · exact nD o e z
          · exact nC o e z
          · exact noown _ z
      · cases e
    · rcases slot j _ h with ⟨_, e⟩ | ⟨_, e⟩ | e <;> cases e
    · rcases h with h | h
      · subst h; rw [eD]; simp
      · subst h; rw [eC]; simp
  · intro v H'' _ _ rv
    cases rv
    exact q H''
end
end VE

namespace VE
open PySem PySem.Spec L2
open PyProof.Rows hiding St
section
variable {X : Cx} {m : Bool} {e a b c tg : Expr} {es elts : List Expr} {ta : TE} {tas : TA} {f : EF} {fs : AF} {p pos tpos : Pos} {kk : Nat} {K : PySem.W.Frag}
/-! ### enumerate, zip -/
theorem zip_at : ∀ {xs ys : List PyData} {i : Nat} {z : PyData}, (zipD xs ys)[i]? = some z → ∃ x y, xs[i]? = some x ∧ ys[i]? = some y ∧ z = .tuple [x, y]
  | [], _, i, z, h => by simp [zipD] at h
  | _ :: _, [], i, z, h => by simp [zipD] at h
  | x :: xs, y :: ys, 0, z, h => by
    simp only [zipD, List.getElem?_cons_zero, Option.some.injEq] at h
    exact ⟨x, y, rfl, rfl, h.symm⟩
  | x :: xs, y :: ys, i + 1, z, h => by
    simp only [zipD, List.getElem?_cons_succ] at h
    simpa using zip_at h
theorem zip_len : ∀ (xs ys : List PyData), (zipD xs ys).length = min xs.length ys.length
  | [], _ => by simp [zipD]
  | _ :: _, [] => by simp [zipD]
  | x :: xs, y :: ys => by simp [zipD, zip_len xs ys]
theorem enum_at : ∀ {xs : List PyData} {n i : Nat} {z : PyData}, (enumD n xs)[i]? = some z → ∃ x, xs[i]? = some x ∧ z = .tuple [.int ((n + i : Nat) : Int), x]
  | [], n, i, z, h => by simp [enumD] at h
  | x :: xs, n, 0, z, h => by
    simp only [enumD, List.getElem?_cons_zero, Option.some.injEq] at h
    exact ⟨x, rfl, h.symm⟩
  | x :: xs, n, i + 1, z, h => by
    simp only [enumD, List.getElem?_cons_succ] at h
    obtain ⟨y, h1, h2⟩ := enum_at h
    exact ⟨y, by simpa using h1, by rw [h2, show n + 1 + i = n + (i + 1) by omega]⟩
theorem enum_len : ∀ (n : Nat) (xs : List PyData), (enumD n xs).length = xs.length
  | n, [] => rfl
  | n, x :: xs => by simp [enumD, enum_len (n + 1) xs]
/-- a new tuple (v, u) at a place that nothing holds -/
theorem rep_new2 {A B : Addr → Prop} {H1 H2 : Hp} {T : Addr} {v u : V} {x y : PyData} (k : Keep A H1 H2) (lv : ∀ a, B a → H1 a ≠ none) (hT : H2 T = none)
    (r1 : Rep K (fun a => B a ∨ (H1 a = none ∧ H2 a ≠ none)) H2 v x) (r2 : Rep K (fun a => B a ∨ (H1 a = none ∧ H2 a ≠ none)) H2 u y) :
    Same H2 (upd H2 T (.tup [v, u])) ∧ Rep K (fun a => B a ∨ (H1 a = none ∧ H2 a ≠ none)) (upd H2 T (.tup [v, u])) (.ref T) (.tuple [x, y]) := by
  have s : Same H2 (upd H2 T (.tup [v, u])) := fun a o e => upd_new hT a o e
  refine ⟨s, .tup (.inl ⟨fun z => z.elim (fun z => k.live T (lv T z) hT) fun z => z.2 hT, .inl upd_same⟩) ?_⟩
  exact .cons (r1.mon (fun a o _ e => s a o e) fun _ z => z) (.cons (r2.mon (fun a o _ e => s a o e) fun _ z => z) .nil)
theorem wk_zip {A B : Addr → Prop} {H1 : Hp} {p q : Addr} {vs us : List V} {xs ys : List PyData} (ab : ∀ a, A a → B a) (lv : ∀ a, B a → H1 a ≠ none) (n : ¬ A p) (e : H1 p = some (.lst vs)) (r : Reps K B H1 vs xs)
    (n' : ¬ A q) (e' : H1 q = some (.lst us)) (r' : Reps K B H1 us ys) : Wk K A B (Itz K p q) (zipD xs ys) H1 := fun H2 k => by
  have e2 : H2 p = some (.lst vs) := k.at_ p _ n e
  have e3 : H2 q = some (.lst us) := k.at_ q _ n' e'
  have r2 := reps_stay ab k r
  have r3 := reps_stay ab k r'
  refine ⟨fun i z hz => ?_, vs, us, SqL.of e2, SqL.of e3, ?_⟩
  · obtain ⟨x, y, hx, hy, rfl⟩ := zip_at hz
    obtain ⟨v, hv, rv⟩ := r2.get hx
    obtain ⟨u, hu, ru⟩ := r3.get hy
    refine ⟨⟨vs, us, v, u, SqL.of e2, SqL.of e3, hv, hu⟩, fun w H3 yl => ?_⟩
    obtain ⟨T, v', u', rfl, hT, rfl, h1, h2⟩ := yl
    have : v' = v := Option.some.inj ((h1 vs (SqL.of e2)).symm.trans hv)
    subst this
    have : u' = u := Option.some.inj ((h2 us (SqL.of e3)).symm.trans hu)
    subst this
    exact rep_new2 k lv hT rv ru
  · rw [zip_len, ← r.length, ← r'.length]; omega
theorem wk_enum {A B : Addr → Prop} {H1 : Hp} {p : Addr} {vs : List V} {xs : List PyData} (ab : ∀ a, A a → B a) (lv : ∀ a, B a → H1 a ≠ none) (n : ¬ A p) (e : H1 p = some (.lst vs)) (r : Reps K B H1 vs xs) :
    Wk K A B (Ite K p) (enumD 0 xs) H1 := fun H2 k => by
  have e2 : H2 p = some (.lst vs) := k.at_ p _ n e
  have r2 := reps_stay ab k r
  refine ⟨fun i z hz => ?_, vs, SqL.of e2, ?_⟩
  · obtain ⟨x, hx, rfl⟩ := enum_at hz
    rw [Nat.zero_add]
    obtain ⟨v, hv, rv⟩ := r2.get hx
    refine ⟨⟨vs, v, SqL.of e2, hv⟩, fun w H3 yl => ?_⟩
    obtain ⟨T, v', rfl, hT, rfl, h1⟩ := yl
    have : v' = v := Option.some.inj ((h1 vs (SqL.of e2)).symm.trans hv)
    subst this
    exact rep_new2 k lv hT (.int _) rv
  · rw [enum_len, ← r.length]; exact Nat.le_refl _
theorem piv_enum {KK : PySem.W.Frag} (hKK : X.K = KK) (hm : X.mg "enumerate" = none) (q : PAV X true [a] tas fs) (hg : Gl X "enumerate") (hs : starEach [a] X.env = [(false, eval a X.env)]) :
    PIV X m (.Tuple elts kk tpos) (.Call (.Name "enumerate" p) [a] [] pos) (iEnum KK tas) (iEnumV fs) := by
  subst hKK
  exact (show PIV X m (.Tuple elts kk tpos) (.Call (.Name "enumerate" p) [a] [] pos) (iEnum X.K tas) (iEnumV fs) from ⟨pi_enum hg hm q.pe hs, fun g env w σ H R xs w' hK I hf k => by
  obtain ⟨ys, w1, h1, h2⟩ := bind_some.mp hf
  refine q.vw g env w σ H _ ys _ hK I h1 fun vs H1 k1 d1 r1 => ?_
  have I1 := I.step k1 d1
  split at h2
  · obtain ⟨rfl, rfl⟩ := pure_get h2
    obtain ⟨v, rfl, r⟩ := reps1 r1
    cases r with
    | lst n e r => exact ⟨_, _, rfl, SqL.of e, k _ H1 k1 d1 (wk_enum (fun _ => av_le) (fun a z => I1.avLive z) (fun z => n (av_le z)) e r)⟩
  · cases h2⟩)
theorem piv_zip {KK : PySem.W.Frag} (hKK : X.K = KK) (hm : X.mg "zip" = none) (q : PAV X true [a, b] tas fs) (hg : Gl X "zip") (hs : starEach [a, b] X.env = (false, eval a X.env) :: starEach [b] X.env) (hpl : (backTo pos (starEach [b] X.env)).any (·.1) = false) :
    PIV X m (.Tuple elts kk tpos) (.Call (.Name "zip" p) [a, b] [] pos) (iZip KK tas) (iZipV fs) := by
  subst hKK
  exact (show PIV X m (.Tuple elts kk tpos) (.Call (.Name "zip" p) [a, b] [] pos) (iZip X.K tas) (iZipV fs) from ⟨pi_zip hg hm q.pe hs hpl, fun g env w σ H R xs w' hK I hf k => by
  obtain ⟨ys, w1, h1, h2⟩ := bind_some.mp hf
  refine q.vw g env w σ H _ ys _ hK I h1 fun vs H1 k1 d1 r1 => ?_
  have I1 := I.step k1 d1
  split at h2
  · obtain ⟨rfl, rfl⟩ := pure_get h2
    obtain ⟨v, u, rfl, r, r'⟩ := reps2 r1
    cases r with
    | lst n e r => cases r' with
      | lst n' e' r' => exact ⟨_, _, _, _, rfl, SqL.of e, SqL.of e', k _ H1 k1 d1 (wk_zip (fun _ => av_le) (fun a z => I1.avLive z) (fun z => n (av_le z)) e r (fun z => n' (av_le z)) e' r')⟩
  · cases h2⟩)
/-! ### x in xs, deep -/
theorem ov_inD : OpV K (rInD K) fInD := fun T H u v x y z Q lv r1 r2 e q => by
  unfold fInD at e
  split at e
  · rename_i ys
    split at e
    · rename_i hc
      rw [Bool.and_eq_true] at hc
      cases e
      exact ⟨x, ys, r1.dp, r2.dp, hc.1, hc.2, q _ H (Same.refl H) (.bl _)⟩
    · cases e
  · cases e
theorem ov_notInD : OpV K (rNotInD K) fNotInD := fun T H u v x y z Q lv r1 r2 e q => by
  unfold fNotInD at e
  split at e
  · rename_i ys
    split at e
    · rename_i hc
      rw [Bool.and_eq_true] at hc
      cases e
      exact ⟨x, ys, r1.dp, r2.dp, hc.1, hc.2, q _ H (Same.refl H) (.bl _)⟩
    · cases e
  · cases e
theorem inD' {KK : PySem.W.Frag} {k : Nat} (hKK : X.K = KK) (hr : Room k X.A) : OpR X (compareOp .In) (rInD KK) := by
  subst hKK
  exact op_inD (by have := hr.un; omega)
theorem notInD' {KK : PySem.W.Frag} {k : Nat} (hKK : X.K = KK) (hr : Room k X.A) : OpR X (compareOp .NotIn) (rNotInD KK) := by
  subst hKK
  exact op_notInD (by have := hr.un; omega)
end
section
variable {P : Program} {w : World} {K : PySem.W.Frag} {mg : Str → Option Value} {base : Heap}
/-- a mirror that tells nothing binds a def to nothing -/
theorem fn_none {x qual : Str} {st : Stmt} {f : Addr} {fd : FuncData} {N ps : List Str} (F : Fun K x qual st f fd) (S : FnScope N ps (defScope st)) : FnOk P w K mg base CX0 1 f fd ps (vsp K fun _ => none) := by
  refine F.ok (k := 0) S (fun vs H Q E h => ?_) (fun cdv A outer s H vs Q E hr h => ?_)
  · obtain ⟨T, xs, y, _, _, hF, _⟩ := h
    cases hF
  · obtain ⟨T, xs, y, _, _, hF, _⟩ := h
    cases hF
end
end VE
namespace VE
open PySem PySem.Spec L2
open PyProof.Rows hiding St
section
variable {X : Cx} {m : Bool} {a : Expr} {ta : TE} {f : EF} {p pos p2 pos2 : Pos} {K : PySem.W.Frag}
theorem reps_rgV {T : Addr → Prop} {H : Hp} (i j : Int) : Reps K T H (rgV i j) (rangeL i j) := by
  unfold rgV rangeL
  induction List.range (j - i).toNat with
  | nil => exact .nil
  | cons x r ih => exact .cons (.int _) ih
theorem plv_listR1 (hc : X.calm = true) (hm : X.mg "list" = none) (hm2 : X.mg "range" = none) (q : PV X m a ta f) (hg : Gl X "list") (hg2 : Gl X "range") (na : starEach [.Call (.Name "range" p2) [a] [] pos2] X.env = (false, eval (.Call (.Name "range" p2) [a] [] pos2) X.env) :: starEach [] X.env) (na2 : starEach [a] X.env = [(false, eval a X.env)]) :
    PLV X m (.Call (.Name "list" p) [.Call (.Name "range" p2) [a] [] pos2] [] pos) (tLstRg (tRg1 ta)) (xListR1 f) := ⟨pe_listRg hc hg hm (prg_1 hg2 hm2 q.pe na2) na, fun g env w σ H Q x w' hK I hf k => by
  obtain ⟨y, w1, h1, h2⟩ := bind_some.mp hf
  refine q.vw g env w σ H _ y _ hK I h1 fun v H1 k1 d1 r1 => ?_
  split at h2
  · rename_i j
    split at h2
    · rename_i hj
      obtain ⟨rfl, rfl⟩ := pure_get h2
      cases r1
      rw [Bool.and_eq_true, decide_eq_true_eq, decide_eq_true_eq] at hj
      refine ⟨j, rfl, RgOk.of_le (by decide) hj.2 (by decide) hj.1, fun q hq => ?_⟩
      have I1 := I.step k1 d1
      obtain ⟨k2, d2⟩ := I1.new (o := .lst (rgV 0 j)) hq
      refine k q _ _ ?_ (k1.trans k2) d2 upd_same (reps_rgV 0 j)
      cases z : H q with
      | none => rfl
      | some o => exact absurd hq (k1.live q (by rw [z]; simp))
    · cases h2
  · cases h2⟩
end
end VE
namespace VE
open PySem PySem.Spec L2
open PyProof.Rows hiding St
theorem blkOk_eq {N N' : List Str} {sc sc' scope : Scope} {own : List (Str × Nat)} (h1 : N' = N) (h2 : sc' = sc) (h : blkC N sc scope own = true) : BlkOk N' sc' scope own := by
  subst h1; subst h2
  exact blkOk_by h
end VE

namespace VE
open PySem
/-- common(one, other) -/
def commonB (n : Nat) : SF :=
    (sSeq (sWhile n (xTest (xOp fGt (xVar 1) (xC (.int 0)))) (sPar 0 1 (xCons (xVar 1) (xCons (xOp fMod (xVar 0) (xVar 1)) xNil))))
    (sRet (xVar 0)))
def commonF (n : Nat) : List D → Option D := runDef 2 0 (commonB n)
/-- goes(rhythm, minute, word, start, marks, period, rests) -/
def goesB : SF :=
    (sSeq (sAsg (xVar 0) (gTp 5 (gsCons (gNm 2) (gsCons (gNm 3) (gsCons (gNm 4) (gsCons (gNm 5) (gsCons (gNm 6) gsNil)))))))
    (sSeq (sIf (xTest (xOp fLt (xVar 1) (xVar 3))) (sRet (xOp fIn (xVar 1) (xVar 4))) sPass)
    (sRet (xOp fIn (xOp fMod (xVar 1) (xVar 5)) (xVar 6)))))
def goesF : List D → Option D := runDef 2 5 (goesB)
/-- least(rhythm, word, start, marks, period, rests, short, some, rest, mark) -/
def leastB (n : Nat) : SF :=
    (sSeq (sAsg (xVar 0) (gTp 5 (gsCons (gNm 1) (gsCons (gNm 2) (gsCons (gNm 3) (gsCons (gNm 4) (gsCons (gNm 5) gsNil)))))))
    (sSeq (sFor (iR2 (xCons (xC (.int 1)) (xCons (xOp fAdd (xVar 4) (xC (.int 1))) xNil))) (gNm 6) (sIf (xTest (xOp fEq (xOp fMod (xVar 4) (xVar 6)) (xC (.int 0)))) (sSeq (sAsg (xAs (xComp [8] (iLst (xVar 5)) (gNm 8) (xTest (xOp fLt (xVar 8) (xVar 6))) (xVar 8))) (gNm 7))
    (sIf (xTest (xOp fEq (xVar 5) (xAs (xComp [8] (iR1 (xCons (xVar 4) xNil)) (gNm 8) (xTest (xOp fIn (xOp fMod (xVar 8) (xVar 6)) (xVar 7))) (xVar 8))))) (sSeq (sPar 4 5 (xCons (xVar 6) (xCons (xVar 7) xNil)))
    sBreak) sPass)) sPass))
    (sSeq (sAsg (xAs (xList (xVar 3))) (gNm 3))
    (sSeq (sWhile n (xAnd (xTest (xOp fGt (xVar 2) (xC (.int 0)))) (xTest (xOp fEq (xOp fIn (xOp fSub (xVar 2) (xC (.int 1))) (xVar 3)) (xOp fIn (xOp fMod (xOp fSub (xVar 2) (xC (.int 1))) (xVar 4)) (xVar 5))))) (sSeq (sAsg (xOp fSub (xVar 2) (xC (.int 1))) (gNm 2))
    (sAsg (xAs (xComp [9] (iLst (xVar 3)) (gNm 9) (xTest (xOp fLt (xVar 9) (xVar 2))) (xVar 9))) (gNm 3))))
    (sRet (xTup (xCons (xC (.str (Str.ofString "rhythm"))) (xCons (xVar 2) (xCons (xVar 3) (xCons (xVar 4) (xCons (xAs (xList (xVar 5))) xNil)))))))))))
def leastF (n : Nat) : List D → Option D := runDef 1 9 (leastB n)
/-- put_together(one, other, wanted, start, period, marks, minute, rests, rest) -/
def put_togetherB (n : Nat) : SF :=
    (sSeq (sAsg (xCall fMax (xCons (xOp fIx (xVar 0) (xC (.int 1))) (xCons (xOp fIx (xVar 1) (xC (.int 1))) xNil))) (gNm 3))
    (sSeq (sAsg (xOp fDiv (xOp fMul (xOp fIx (xVar 0) (xC (.int 3))) (xOp fIx (xVar 1) (xC (.int 3)))) (xCall (commonF n) (xCons (xOp fIx (xVar 0) (xC (.int 3))) (xCons (xOp fIx (xVar 1) (xC (.int 3))) xNil)))) (gNm 4))
    (sSeq (sAsg (xAs (xComp [6] (iR1 (xCons (xVar 3) xNil)) (gNm 6) (xTest (xOp fInD (xTup (xCons (xCall goesF (xCons (xVar 0) (xCons (xVar 6) xNil))) (xCons (xCall goesF (xCons (xVar 1) (xCons (xVar 6) xNil))) xNil))) (xVar 2))) (xVar 6))) (gNm 5))
    (sSeq (sOwn 7 (xLst xNil))
    (sSeq (sFor (iR1 (xCons (xVar 4) xNil)) (gNm 8) (sSeq (sAsg (xOp fAdd (xVar 3) (xOp fMod (xOp fSub (xVar 8) (xVar 3)) (xVar 4))) (gNm 6))
    (sIf (xTest (xOp fInD (xTup (xCons (xCall goesF (xCons (xVar 0) (xCons (xVar 6) xNil))) (xCons (xCall goesF (xCons (xVar 1) (xCons (xVar 6) xNil))) xNil))) (xVar 2))) (sApp 7 (xVar 8)) sPass)))
    (sRet (xCall (leastF n) (xCons (xTup (xCons (xC (.str (Str.ofString "rhythm"))) (xCons (xVar 3) (xCons (xVar 5) (xCons (xVar 4) (xCons (xVarO 7) xNil)))))) xNil))))))))
def put_togetherF (n : Nat) : List D → Option D := runDef 3 6 (put_togetherB n)
/-- both(one, other) -/
def bothB (n : Nat) : SF :=
    (sRet (xCall (put_togetherF n) (xCons (xVar 0) (xCons (xVar 1) (xCons (xAs (xLst (xCons (xTup (xCons (xC (.bool true)) (xCons (xC (.bool true)) xNil))) xNil))) xNil)))))
def bothF (n : Nat) : List D → Option D := runDef 2 0 (bothB n)
/-- any_of(one, other) -/
def any_ofB (n : Nat) : SF :=
    (sRet (xCall (put_togetherF n) (xCons (xVar 0) (xCons (xVar 1) (xCons (xAs (xLst (xCons (xTup (xCons (xC (.bool true)) (xCons (xC (.bool true)) xNil))) (xCons (xTup (xCons (xC (.bool true)) (xCons (xC (.bool false)) xNil))) (xCons (xTup (xCons (xC (.bool false)) (xCons (xC (.bool true)) xNil))) xNil))))) xNil)))))
def any_ofF (n : Nat) : List D → Option D := runDef 2 0 (any_ofB n)
/-- from_runs(first, period) -/
def from_runsB (n : Nat) : SF :=
    (sRet (xCall (leastF n) (xCons (xTup (xCons (xC (.str (Str.ofString "rhythm"))) (xCons (xVar 0) (xCons (xAs (xLst xNil)) (xCons (xVar 1) (xCons (xAs (xLst (xCons (xOp fMod (xVar 0) (xVar 1)) xNil))) xNil)))))) xNil)))
def from_runsF (n : Nat) : List D → Option D := runDef 2 0 (from_runsB n)
/-- count_to(rhythm, minute, word, start, marks, period, rests, mark, total, rest) -/
def count_toB : SF :=
    (sSeq (sAsg (xVar 0) (gTp 5 (gsCons (gNm 2) (gsCons (gNm 3) (gsCons (gNm 4) (gsCons (gNm 5) (gsCons (gNm 6) gsNil)))))))
    (sSeq (sIf (xTest (xOp fLe (xVar 1) (xVar 3))) (sRet (xCall fLen (xCons (xAs (xComp [7] (iLst (xVar 4)) (gNm 7) (xTest (xOp fLt (xVar 7) (xVar 1))) (xVar 7))) xNil))) sPass)
    (sSeq (sAsg (xCall fLen (xCons (xVar 4) xNil)) (gNm 8))
    (sSeq (sFor (iLst (xVar 6)) (gNm 9) (sAsg (xOp fSub (xOp fAdd (xVar 8) (xOp fDiv (xOp fSub (xOp fAdd (xOp fSub (xVar 1) (xVar 9)) (xVar 5)) (xC (.int 1))) (xVar 5))) (xOp fDiv (xOp fSub (xOp fAdd (xOp fSub (xVar 3) (xVar 9)) (xVar 5)) (xC (.int 1))) (xVar 5))) (gNm 8)))
    (sRet (xVar 8))))))
def count_toF : List D → Option D := runDef 2 8 (count_toB)
/-- nth(rhythm, number, word, start, marks, period, rests, left, row, rest) -/
def nthB : SF :=
    (sSeq (sAsg (xVar 0) (gTp 5 (gsCons (gNm 2) (gsCons (gNm 3) (gsCons (gNm 4) (gsCons (gNm 5) (gsCons (gNm 6) gsNil)))))))
    (sSeq (sIf (xTest (xOp fLt (xVar 1) (xCall fLen (xCons (xVar 4) xNil)))) (sRet (xOp fIx (xVar 4) (xVar 1))) sPass)
    (sSeq (sIf (xNot (xTruth (xVar 6))) (sRet (xC .none)) sPass)
    (sSeq (sAsg (xOp fSub (xVar 1) (xCall fLen (xCons (xVar 4) xNil))) (gNm 7))
    (sSeq (sAsg (xAs (xSorted (xAs (xComp [9] (iLst (xVar 6)) (gNm 9) tYesF (xOp fAdd (xVar 3) (xOp fMod (xOp fSub (xVar 9) (xVar 3)) (xVar 5))))))) (gNm 8))
    (sRet (xOp fAdd (xOp fIx (xVar 8) (xOp fMod (xVar 7) (xCall fLen (xCons (xVar 8) xNil)))) (xOp fMul (xVar 5) (xOp fDiv (xVar 7) (xCall fLen (xCons (xVar 8) xNil)))))))))))
def nthF : List D → Option D := runDef 2 8 (nthB)
/-- meet(one, other, step, minute, late, early) -/
def meetB (n : Nat) : SF :=
    (sSeq (sAsg (xCall (commonF n) (xCons (xOp fIx (xVar 0) (xC (.int 1))) (xCons (xOp fIx (xVar 1) (xC (.int 1))) xNil))) (gNm 2))
    (sSeq (sIf (xTest (xOp fNe (xOp fMod (xOp fSub (xOp fIx (xVar 0) (xC (.int 0))) (xOp fIx (xVar 1) (xC (.int 0)))) (xVar 2)) (xC (.int 0)))) (sRet (xC .none)) sPass)
    (sSeq (sAsg (xCall fMax (xCons (xOp fIx (xVar 0) (xC (.int 0))) (xCons (xOp fIx (xVar 1) (xC (.int 0))) xNil))) (gNm 3))
    (sSeq (sAsg (xIf (xTest (xOp fGe (xOp fIx (xVar 0) (xC (.int 0))) (xOp fIx (xVar 1) (xC (.int 0))))) (xTup (xCons (xVar 0) (xCons (xVar 1) xNil))) (xTup (xCons (xVar 1) (xCons (xVar 0) xNil)))) (gTp 2 (gsCons (gNm 4) (gsCons (gNm 5) gsNil))))
    (sSeq (sWhile n (xTest (xOp fNe (xOp fMod (xOp fSub (xVar 3) (xOp fIx (xVar 5) (xC (.int 0)))) (xOp fIx (xVar 5) (xC (.int 1)))) (xC (.int 0)))) (sAsg (xOp fAdd (xVar 3) (xOp fIx (xVar 4) (xC (.int 1)))) (gNm 3)))
    (sRet (xVar 3)))))))
def meetF (n : Nat) : List D → Option D := runDef 2 4 (meetB n)
/-- is_full(periods, whole, period) -/
def is_fullB (n : Nat) : SF :=
    (sSeq (sAsg (xC (.int 1)) (gNm 1))
    (sSeq (sFor (iLst (xVar 0)) (gNm 2) (sAsg (xOp fDiv (xOp fMul (xVar 1) (xVar 2)) (xCall (commonF n) (xCons (xVar 1) (xCons (xVar 2) xNil)))) (gNm 1)))
    (sRet (xOp fGt (xCall fSum (xCons (xAs (xComp [2] (iLst (xVar 0)) (gNm 2) tYesF (xOp fDiv (xVar 1) (xVar 2)))) xNil)) (xVar 1)))))
def is_fullF (n : Nat) : List D → Option D := runDef 1 2 (is_fullB n)
/-- clash(periods, offsets, at, other) -/
def clashB (n : Nat) : SF :=
    (sSeq (sAsg (xOp fSub (xCall fLen (xCons (xVar 1) xNil)) (xC (.int 1))) (gNm 2))
    (sSeq (sFor (iR1 (xCons (xVar 2) xNil)) (gNm 3) (sIf (xTest (xOp fEq (xOp fMod (xOp fSub (xOp fIx (xVar 1) (xVar 3)) (xOp fIx (xVar 1) (xVar 2))) (xCall (commonF n) (xCons (xOp fIx (xVar 0) (xVar 3)) (xCons (xOp fIx (xVar 0) (xVar 2)) xNil)))) (xC (.int 0)))) (sRet (xVar 3)) sPass))
    (sRet (xC .none))))
def clashF (n : Nat) : List D → Option D := runDef 2 2 (clashB n)
/-- choices(periods, at) -/
def choicesB : SF :=
    (sRet (xIf (xTest (xOp fEq (xVar 1) (xC (.int 0)))) (xAs (xLst (xCons (xC (.int 0)) xNil))) (xAs (xListR1 (xOp fIx (xVar 0) (xVar 1))))))
def choicesF : List D → Option D := runDef 2 0 (choicesB)
/-- search(periods, offsets, offset, more, found) -/
def searchB (n : Nat) (rec : List D → Option D) : SF :=
    (sSeq (sIf (xTest (xOp fEq (xCall fLen (xCons (xVar 1) xNil)) (xCall fLen (xCons (xVar 0) xNil)))) (sRet (xVar 1)) sPass)
    (sSeq (sFor (iLst (xCall choicesF (xCons (xVar 0) (xCons (xCall fLen (xCons (xVar 1) xNil)) xNil)))) (gNm 2) (sSeq (sAsg (xOp fAdd (xVar 1) (xAs (xLst (xCons (xVar 2) xNil)))) (gNm 3))
    (sIf (xTest (xUn fIsN (xCall (clashF n) (xCons (xVar 0) (xCons (xVar 3) xNil))))) (sSeq (sAsg (xCall rec (xCons (xVar 0) (xCons (xVar 3) xNil))) (gNm 4))
    (sIf (xTest (xUn fNotN (xVar 4))) (sRet (xVar 4)) sPass)) sPass)))
    (sRet (xC .none))))
def searchF (n : Nat) : Nat → List D → Option D
  | 0 => fun _ => none
  | m + 1 => runDef 2 3 (searchB n (searchF n m))
/-- prove(periods, offsets, other, offset) -/
def proveB (n : Nat) (rec : List D → Option D) : SF :=
    (sSeq (sIf (xTruth (xVar 1)) (sSeq (sAsg (xCall (clashF n) (xCons (xVar 0) (xCons (xVar 1) xNil))) (gNm 2))
    (sIf (xTest (xUn fNotN (xVar 2))) (sRet (xTup (xCons (xC (.str (Str.ofString "meet"))) (xCons (xVar 2) xNil)))) sPass)) sPass)
    (sRet (xTup (xCons (xC (.str (Str.ofString "each"))) (xCons (xAs (xComp [3] (iLst (xCall choicesF (xCons (xVar 0) (xCons (xCall fLen (xCons (xVar 1) xNil)) xNil)))) (gNm 3) tYesF (xCall rec (xCons (xVar 0) (xCons (xOp fAdd (xVar 1) (xAs (xLst (xCons (xVar 3) xNil)))) xNil))))) xNil)))))
def proveF (n : Nat) : Nat → List D → Option D
  | 0 => fun _ => none
  | m + 1 => runDef 2 2 (proveB n (proveF n m))
/-- spread(periods, found) -/
def spreadB (n : Nat) : SF :=
    (sSeq (sIf (xTruth (xCall (is_fullF n) (xCons (xVar 0) xNil))) (sRet (xTup (xCons (xC (.str (Str.ofString "never"))) (xCons (xTup (xCons (xC (.str (Str.ofString "full"))) xNil)) xNil)))) sPass)
    (sSeq (sAsg (xCall (searchF n 8) (xCons (xVar 0) (xCons (xAs (xLst xNil)) xNil))) (gNm 1))
    (sRet (xIf (xTest (xUn fIsN (xVar 1))) (xTup (xCons (xC (.str (Str.ofString "never"))) (xCons (xCall (proveF n 8) (xCons (xVar 0) (xCons (xAs (xLst xNil)) xNil))) xNil))) (xTup (xCons (xC (.str (Str.ofString "offsets"))) (xCons (xVar 1) xNil)))))))
def spreadF (n : Nat) : List D → Option D := runDef 1 1 (spreadB n)
/-- tree_fault(periods, offsets, tree, at, offset, below, fault) -/
def tree_faultB (n : Nat) (rec : List D → Option D) : SF :=
    (sSeq (sIf (xTest (xOp fEq (xOp fIx (xVar 2) (xC (.int 0))) (xC (.str (Str.ofString "full"))))) (sRet (xIf (xAnd (xNot (xTruth (xVar 1))) (xTruth (xCall (is_fullF n) (xCons (xVar 0) xNil)))) (xC .none) (xVar 1))) sPass)
    (sSeq (sIf (xTest (xOp fEq (xOp fIx (xVar 2) (xC (.int 0))) (xC (.str (Str.ofString "meet"))))) (sSeq (sAsg (xOp fSub (xCall fLen (xCons (xVar 1) xNil)) (xC (.int 1))) (gNm 3))
    (sSeq (sIf (xOr (xNot (xTest (xChain fLe fLt (xC (.int 0)) (xOp fIx (xVar 2) (xC (.int 1))) (xVar 3)))) (xTest (xOp fNe (xOp fMod (xOp fSub (xOp fIx (xVar 1) (xOp fIx (xVar 2) (xC (.int 1)))) (xOp fIx (xVar 1) (xVar 3))) (xCall (commonF n) (xCons (xOp fIx (xVar 0) (xOp fIx (xVar 2) (xC (.int 1)))) (xCons (xOp fIx (xVar 0) (xVar 3)) xNil)))) (xC (.int 0))))) (sRet (xVar 1)) sPass)
    (sRet (xC .none)))) sPass)
    (sSeq (sIf (xOr (xTest (xOp fEq (xCall fLen (xCons (xVar 1) xNil)) (xCall fLen (xCons (xVar 0) xNil)))) (xTest (xOp fNe (xCall fLen (xCons (xOp fIx (xVar 2) (xC (.int 1))) xNil)) (xCall fLen (xCons (xCall choicesF (xCons (xVar 0) (xCons (xCall fLen (xCons (xVar 1) xNil)) xNil))) xNil))))) (sRet (xVar 1)) sPass)
    (sSeq (sFor (iZipV (xCons (xCall choicesF (xCons (xVar 0) (xCons (xCall fLen (xCons (xVar 1) xNil)) xNil))) (xCons (xOp fIx (xVar 2) (xC (.int 1))) xNil))) (gTp 2 (gsCons (gNm 4) (gsCons (gNm 5) gsNil))) (sSeq (sAsg (xCall rec (xCons (xVar 0) (xCons (xOp fAdd (xVar 1) (xAs (xLst (xCons (xVar 4) xNil)))) (xCons (xVar 5) xNil)))) (gNm 6))
    (sIf (xTest (xUn fNotN (xVar 6))) (sRet (xVar 6)) sPass)))
    (sRet (xC .none))))))
def tree_faultF (n : Nat) : Nat → List D → Option D
  | 0 => fun _ => none
  | m + 1 => runDef 3 4 (tree_faultB n (tree_faultF n m))
/-- spread_fault(periods, told, fault, offsets, offset, period, at, other) -/
def spread_faultB (n : Nat) : SF :=
    (sSeq (sIf (xTest (xOp fEq (xOp fIx (xVar 1) (xC (.int 0))) (xC (.str (Str.ofString "never"))))) (sSeq (sAsg (xCall (tree_faultF n 8) (xCons (xVar 0) (xCons (xAs (xLst xNil)) (xCons (xOp fIx (xVar 1) (xC (.int 1))) xNil)))) (gNm 2))
    (sRet (xIf (xTest (xUn fIsN (xVar 2))) (xC .none) (xTup (xCons (xC (.str (Str.ofString "tree"))) (xCons (xVar 2) xNil)))))) sPass)
    (sSeq (sAsg (xOp fIx (xVar 1) (xC (.int 1))) (gNm 3))
    (sSeq (sIf (xOr (xTest (xOp fNe (xCall fLen (xCons (xVar 3) xNil)) (xCall fLen (xCons (xVar 0) xNil)))) (xNot (xTruth (xCall fAll (xCons (xAs (xComp [4, 5] (iZipV (xCons (xVar 3) (xCons (xVar 0) xNil))) (gTp 2 (gsCons (gNm 4) (gsCons (gNm 5) gsNil))) tYesF (xChain fLe fLt (xC (.int 0)) (xVar 4) (xVar 5)))) xNil))))) (sRet (xTup (xCons (xC (.str (Str.ofString "offsets"))) xNil))) sPass)
    (sSeq (sFor (iR1 (xCons (xCall fLen (xCons (xVar 3) xNil)) xNil)) (gNm 6) (sSeq (sAsg (xCall (clashF n) (xCons (xVar 0) (xCons (xAs (xSlice (xVar 3) oNo (oSome (xOp fAdd (xVar 6) (xC (.int 1)))))) xNil))) (gNm 7))
    (sIf (xTest (xUn fNotN (xVar 7))) (sRet (xTup (xCons (xC (.str (Str.ofString "meet"))) (xCons (xVar 7) (xCons (xVar 6) xNil))))) sPass)))
    (sRet (xC .none))))))
def spread_faultF (n : Nat) : List D → Option D := runDef 2 6 (spread_faultB n)
/-- law(script, state, periods, k, told, offsets, period, rows, i, j, shared, minute, first, whole, row, minutes), behind its first line -/
def lawB (n : Nat) : SF :=
    (sSeq (sAsg (xAs (xComp [3] (iR1 (xCons (xOp fAdd (xC (.int 1)) (xTake 1 (xC (.int 3)))) xNil)) (gNm 3) tYesF (xOp fAdd (xC (.int 1)) (xTake 1 (xC (.int 6)))))) (gNm 2))
    (sSeq (sAsg (xCall (spreadF n) (xCons (xVar 2) xNil)) (gNm 4))
    (sSeq (sIf (xTest (xUn fNotN (xCall (spread_faultF n) (xCons (xVar 2) (xCons (xVar 4) xNil))))) (sRet (xC (.bool false))) sPass)
    (sSeq (sAsg (xIf (xTest (xOp fEq (xOp fIx (xVar 4) (xC (.int 0))) (xC (.str (Str.ofString "offsets"))))) (xOp fIx (xVar 4) (xC (.int 1))) (xAs (xComp [6] (iLst (xVar 2)) (gNm 6) tYesF (xTake 1 (xVar 6))))) (gNm 5))
    (sSeq (sAsg (xAs (xComp [3] (iR1 (xCons (xCall fLen (xCons (xVar 2) xNil)) xNil)) (gNm 3) tYesF (xCall (from_runsF n) (xCons (xOp fIx (xVar 5) (xVar 3)) (xCons (xOp fIx (xVar 2) (xVar 3)) xNil))))) (gNm 7))
    (sSeq (sFor (iR1 (xCons (xCall fLen (xCons (xVar 2) xNil)) xNil)) (gNm 8) (sFor (iR1 (xCons (xVar 8) xNil)) (gNm 9) (sSeq (sAsg (xAs (xComp [11] (iR1 (xCons (xC (.int 72)) xNil)) (gNm 11) (xAnd (xTruth (xCall goesF (xCons (xOp fIx (xVar 7) (xVar 8)) (xCons (xVar 11) xNil)))) (xTruth (xCall goesF (xCons (xOp fIx (xVar 7) (xVar 9)) (xCons (xVar 11) xNil))))) (xVar 11))) (gNm 10))
    (sSeq (sAsg (xCall nthF (xCons (xCall (bothF n) (xCons (xOp fIx (xVar 7) (xVar 8)) (xCons (xOp fIx (xVar 7) (xVar 9)) xNil))) (xCons (xC (.int 0)) xNil))) (gNm 12))
    (sSeq (sIf (xOr (xTest (xOp fNe (xVar 12) (xIf (xTest (xOp fGt (xCall fLen (xCons (xVar 10) xNil)) (xC (.int 0)))) (xOp fIx (xVar 10) (xC (.int 0))) (xC .none)))) (xAnd (xTest (xOp fEq (xOp fIx (xVar 4) (xC (.int 0))) (xC (.str (Str.ofString "offsets"))))) (xTest (xUn fNotN (xVar 12))))) (sRet (xC (.bool false))) sPass)
    (sSeq (sIf (xTest (xOp fNe (xCall (meetF n) (xCons (xTup (xCons (xOp fIx (xVar 5) (xVar 8)) (xCons (xOp fIx (xVar 2) (xVar 8)) xNil))) (xCons (xTup (xCons (xOp fIx (xVar 5) (xVar 9)) (xCons (xOp fIx (xVar 2) (xVar 9)) xNil))) xNil))) (xVar 12))) (sRet (xC (.bool false))) sPass)
    (sIf (xTest (xOp fNe (xUn fNotN (xVar 12)) (xOp fEq (xOp fMul (xOp fDiv (xCall fAbs (xCons (xOp fSub (xOp fIx (xVar 5) (xVar 8)) (xOp fIx (xVar 5) (xVar 9))) xNil)) (xCall (commonF n) (xCons (xOp fIx (xVar 2) (xVar 8)) (xCons (xOp fIx (xVar 2) (xVar 9)) xNil)))) (xCall (commonF n) (xCons (xOp fIx (xVar 2) (xVar 8)) (xCons (xOp fIx (xVar 2) (xVar 9)) xNil)))) (xCall fAbs (xCons (xOp fSub (xOp fIx (xVar 5) (xVar 8)) (xOp fIx (xVar 5) (xVar 9))) xNil))))) (sRet (xC (.bool false))) sPass)))))))
    (sSeq (sAsg (xOp fIx (xVar 7) (xC (.int 0))) (gNm 13))
    (sSeq (sFor (iLst (xAs (xSlice (xVar 7) (oSome (xC (.int 1))) oNo))) (gNm 14) (sAsg (xCall (any_ofF n) (xCons (xVar 13) (xCons (xVar 14) xNil))) (gNm 13)))
    (sSeq (sAsg (xAs (xComp [11] (iR1 (xCons (xC (.int 60)) xNil)) (gNm 11) (xTest (xOp fGt (xCall fLen (xCons (xAs (xComp [14] (iLst (xVar 7)) (gNm 14) (xTruth (xCall goesF (xCons (xVar 14) (xCons (xVar 11) xNil)))) (xVar 14))) xNil)) (xC (.int 0)))) (xVar 11))) (gNm 15))
    (sSeq (sIf (xOr (xTest (xOp fNe (xCall count_toF (xCons (xVar 13) (xCons (xC (.int 60)) xNil))) (xCall fLen (xCons (xVar 15) xNil)))) (xTest (xOp fNe (xAs (xComp [3] (iR1 (xCons (xCall fLen (xCons (xVar 15) xNil)) xNil)) (gNm 3) tYesF (xCall nthF (xCons (xVar 13) (xCons (xVar 3) xNil))))) (xVar 15)))) (sRet (xC (.bool false))) sPass)
    (sRet (xOrV (xOp fNe (xOp fIx (xVar 4) (xC (.int 0))) (xC (.str (Str.ofString "offsets")))) (xOp fEq (xCall fLen (xCons (xVar 15) xNil)) (xCall fSum (xCons (xAs (xComp [6] (iLst (xVar 2)) (gNm 6) tYesF (xOp fDiv (xC (.int 60)) (xVar 6)))) xNil)))))))))))))))
end VE

/-! Ev: how mirrors are reckoned. -/
namespace VE
open PySem
theorem pb {α β : Type} (a : α) (k : α → M β) : ((pure a : M α) >>= k) = k a := pure_bind a k
theorem xVar_at {i : Nat} {env : En} {x : D} (h : env[i]? = some (.sh x)) : xVar i env = pure x := by unfold xVar; rw [h]
theorem xVarO_sh {i : Nat} {env : En} {x : D} (h : env[i]? = some (.sh x)) : xVarO i env = pure x := by unfold xVarO; rw [h]
theorem xVarO_ow {i : Nat} {env : En} {xs : List D} (h : env[i]? = some (.ow xs)) : xVarO i env = pure (.list xs) := by unfold xVarO; rw [h]
/-- a comprehension over coded items -/
theorem compL_map {α : Type} {g : GF} {t : TF} {f : EF} {env : En} (enc : α → D) (p : α → Bool) (h : α → D) :
    ∀ xs : List α, (∀ x ∈ xs, ∃ env1, g (enc x) env = some env1 ∧ t env1 = pure (p x) ∧ (p x = true → f env1 = pure (h x))) → compL g t f env (xs.map enc) = pure ((xs.filter p).map h)
  | [], _ => rfl
  | x :: r, H => by
    obtain ⟨env1, h1, h2, h3⟩ := H x List.mem_cons_self
    have ih := compL_map enc p h r fun y hy => H y (List.mem_cons_of_mem _ hy)
    rw [List.map_cons, compL, h1, lift_some, pb, h2, pb]
    cases hp : p x with
    | false => rw [if_neg Bool.false_ne_true, ih, List.filter_cons_of_neg (by rw [hp]; exact Bool.false_ne_true)]
    | true => rw [if_pos rfl, h3 hp, pb, ih, pb, List.filter_cons_of_pos hp]; rfl
/-- .. without a test -/
theorem compL_all {α : Type} {g : GF} {f : EF} {env : En} (enc : α → D) (h : α → D) (xs : List α) (H : ∀ x ∈ xs, ∃ env1, g (enc x) env = some env1 ∧ f env1 = pure (h x)) : compL g tYesF f env (xs.map enc) = pure (xs.map h) := by
  rw [compL_map enc (fun _ => true) h xs fun x hx => ?_]
  · rw [List.filter_eq_self.mpr fun _ _ => rfl]
  · obtain ⟨e, h1, h2⟩ := H x hx
    exact ⟨e, h1, rfl, fun _ => h2⟩
/-- a loop by its invariant, every turn goes on -/
theorem for_inv {g : GF} {body : SF} (I : Nat → En → Prop) : ∀ (xs : List D) (k : Nat) (env : En), I k env →
    (∀ i x env, xs[i]? = some x → I (k + i) env → ∃ env1 fl env2, g x env = some env1 ∧ body env1 = pure (fl, env2) ∧ (fl = .nx ∨ fl = .ct) ∧ I (k + i + 1) env2) →
    ∃ env', sFor.go g body xs env = pure (.nx, env') ∧ I (k + xs.length) env'
  | [], k, env, h0, _ => ⟨env, rfl, h0⟩
  | x :: r, k, env, h0, H => by
    obtain ⟨env1, fl, env2, h1, h2, hfl, h3⟩ := H 0 x env rfl h0
    obtain ⟨env', h4, h5⟩ := for_inv I r (k + 1) env2 h3 fun i y e hy hI => by
      have := H (i + 1) y e (by simpa using hy) (by rw [show k + (i + 1) = k + 1 + i by omega]; exact hI)
      rw [show k + (i + 1) + 1 = k + 1 + i + 1 by omega] at this
      exact this
    refine ⟨env', ?_, by rw [show k + (x :: r).length = k + 1 + r.length by rw [List.length_cons]; omega]; exact h5⟩
    rw [sFor.go, h1, lift_some, pb, h2, pb]
    rcases hfl with rfl | rfl <;> exact h4
/-- a while by its invariant and a measure that its fuel covers -/
theorem while_inv {t : TF} {body : SF} (I : En → Prop) (μ : En → Nat) (J : En → Prop) (step : ∀ env, I env → (t env = pure false ∧ J env) ∨ (t env = pure true ∧ ∃ fl env2, body env = pure (fl, env2) ∧ (fl = .nx ∨ fl = .ct) ∧ I env2 ∧ μ env2 < μ env)) :
    ∀ (n : Nat) (env : En), I env → μ env < n → ∃ env', sWhile.go t body n env = pure (.nx, env') ∧ J env'
  | 0, _, _, h => absurd h (Nat.not_lt_zero _)
  | n + 1, env, hI, hm => by
    rcases step env hI with ⟨h1, hJ⟩ | ⟨h1, fl, env2, h2, hfl, hI2, hlt⟩
    · refine ⟨env, ?_, hJ⟩
      rw [sWhile.go, h1, pb, if_neg Bool.false_ne_true]
    · obtain ⟨env', h3, hJ⟩ := while_inv I μ J step n env2 hI2 (by omega)
      refine ⟨env', ?_, hJ⟩
      rw [sWhile.go, h1, pb, if_pos rfl, h2, pb]
      rcases hfl with rfl | rfl <;> exact h3
theorem runDef_rt {np nl : Nat} {body : SF} {xs : List D} {y : D} {env' : En} (hl : xs.length = np) (h : body (xs.map .sh ++ List.replicate nl .no) = pure (.rt y, env')) : runDef np nl body xs = some y := by
  unfold runDef
  rw [if_pos hl, h]
  rfl
theorem runDef_ex {np nl : Nat} {body : SF} {xs : List D} {y : D} (hl : xs.length = np) (h : ∃ env', body (xs.map .sh ++ List.replicate nl .no) = pure (.rt y, env')) : runDef np nl body xs = some y := by
  obtain ⟨e, h⟩ := h
  exact runDef_rt hl h
/-! ### values -/
def dI (xs : List Int) : D := .list (xs.map .int)
def dB (xs : List Bool) : D := .list (xs.map .bool)
theorem asInts_map (xs : List Int) : asInts (xs.map .int) = some xs := by
  induction xs with
  | nil => rfl
  | cons x r ih => rw [List.map_cons, asInts, ih]; rfl
theorem asBools_map (xs : List Bool) : asBools (xs.map .bool) = some xs := by
  induction xs with
  | nil => rfl
  | cons x r ih => rw [List.map_cons, asBools, ih]; rfl
theorem eqv_int (i j : Int) : PyData.eqv (.int i) (.int j) = decide (i = j) := by
  unfold PyData.eqv
  exact Bool.beq_eq_decide_eq _ _
theorem shp_int (i : Int) : shp (.int i) = true := rfl
theorem all_flat_ints (xs : List Int) : (xs.map PyData.int).all flat = true := by
  rw [List.all_map]
  exact List.all_eq_true.mpr fun _ _ => rfl
theorem any_eqv (x : Int) (xs : List Int) : ((xs.map PyData.int).any fun z => PyData.eqv z (.int x)) = decide (x ∈ xs) := by
  induction xs with
  | nil => rfl
  | cons y r ih =>
    rw [List.map_cons, List.any_cons, ih, eqv_int]
    by_cases h : y = x
    · subst h; simp
    · have h' : ¬ x = y := fun e => h e.symm
      simp [h, h']
theorem fIn_int (x : Int) (xs : List Int) : fIn (.int x) (.list (xs.map .int)) = some (.bool (decide (x ∈ xs))) := by
  unfold fIn items
  rw [Option.bind_some, all_flat_ints]
  show some (PyData.bool _) = _
  rw [any_eqv]
theorem fNotIn_int (x : Int) (xs : List Int) : fNotIn (.int x) (.list (xs.map .int)) = some (.bool (!decide (x ∈ xs))) := by
  unfold fNotIn items
  rw [Option.bind_some, all_flat_ints]
  show some (PyData.bool _) = _
  rw [any_eqv]
theorem fEq_int (i j : Int) : fEq (.int i) (.int j) = some (.bool (decide (i = j))) := by
  unfold fEq
  rw [shp_int, shp_int, eqv_int]
  rfl
theorem fNe_int (i j : Int) : fNe (.int i) (.int j) = some (.bool (!decide (i = j))) := by
  unfold fNe
  rw [shp_int, shp_int, eqv_int]
  rfl
theorem fSum_ints (xs : List Int) : fSum [.list (xs.map .int)] = some (.int xs.sum) := by
  show (asInts (xs.map .int)).map _ = _
  rw [asInts_map]
  rfl
theorem fAny_bools (xs : List Bool) : fAny [.list (xs.map .bool)] = some (.bool (xs.any id)) := by
  show (asBools (xs.map .bool)).map _ = _
  rw [asBools_map]
  rfl
theorem fLen_list (xs : List D) : fLen [.list xs] = some (.int xs.length) := rfl
theorem atI_nat {xs : List D} {j : Nat} {x : D} (h : xs[j]? = some x) : atI xs (j : Int) = some x := by
  have hl := (List.getElem?_eq_some_iff.mp h).1
  unfold atI ixN
  rw [if_pos (by omega), if_pos (by omega), Option.bind_some, Int.toNat_natCast, h]
theorem atI_of {xs : List D} {i : Int} {x : D} (h0 : 0 ≤ i) (h : xs[i.toNat]? = some x) : atI xs i = some x := by
  have e : i = ((i.toNat : Nat) : Int) := by omega
  rw [e]
  exact atI_nat h
theorem fMod_pos {i j : Int} (h : 0 < j) : fMod (.int i) (.int j) = some (.int (i % j)) := by
  unfold fMod
  exact if_pos h
theorem fDiv_pos {i j : Int} (h : 0 < j) (h2 : j < 1073741824) : fDiv (.int i) (.int j) = some (.int (i / j)) := by
  unfold fDiv
  exact if_pos ⟨h, h2⟩
theorem inW_of {i : Int} (h1 : -(2 ^ 64) < i) (h2 : i < 2 ^ 64) : inW i = true := by
  unfold inW
  rw [decide_eq_true h1, decide_eq_true h2]
  rfl
theorem fMul_l {i j : Int} (h : inW i = true) : fMul (.int i) (.int j) = some (.int (i * j)) := by
  show (if (inW i || inW j) = true then _ else _) = _
  rw [h]
  rfl
theorem fMul_r {i j : Int} (h : inW j = true) : fMul (.int i) (.int j) = some (.int (i * j)) := by
  show (if (inW i || inW j) = true then _ else _) = _
  rw [h, Bool.or_true]
  rfl
end VE

namespace VE
open PySem
/-! draws; statements in a row -/
theorem seq_pure {s r : SF} {env env1 : En} (h : s env = pure (.nx, env1)) : sSeq s r env = r env1 := by
  unfold sSeq
  rw [h, pb]
theorem seq_w {s r : SF} {env env1 : En} {w w1 : W} (h : s env w = some ((.nx, env1), w1)) : sSeq s r env w = r env1 w1 := by
  unfold sSeq
  show (s env >>= _) w = _
  show (StateT.bind (s env) _) w = _
  unfold StateT.bind
  rw [h]
  rfl
theorem bind_w {α β : Type} {x : M α} {k : α → M β} {w w1 : W} {a : α} (h : x w = some (a, w1)) : (x >>= k) w = k a w1 := by
  show (StateT.bind x k) w = _
  unfold StateT.bind
  rw [h]
  rfl
theorem take_ok {most : Int} (h1 : 0 < most) (h2 : most < 1073741824) {w : W} (hw : 0 < w.cells.length) : ∃ r w', takeW most w = some (r, w') ∧ 0 ≤ r ∧ r < most ∧ 0 < w'.cells.length := by
  have hn : 0 ≤ w.pos % (w.cells.length : Int) := Int.emod_nonneg _ (by omega)
  have hl : w.pos % (w.cells.length : Int) < w.cells.length := Int.emod_lt_of_pos _ (by omega)
  have hi : (w.pos % (w.cells.length : Int)).toNat < w.cells.length := by omega
  unfold takeW
  rw [if_pos ⟨h1, h2, hw⟩]
  dsimp only
  rw [List.getElem?_eq_getElem hi]
  dsimp only
  have mm : ∀ x : Int, 0 ≤ x % most ∧ x % most < most := fun x => ⟨Int.emod_nonneg _ (by omega), Int.emod_lt_of_pos _ h1⟩
  split
  · exact ⟨_, _, rfl, (mm _).1, (mm _).2, by simpa using hw⟩
  · exact ⟨_, _, rfl, (mm _).1, (mm _).2, hw⟩
theorem xTake_w {i : Nat} {f : EF} {env : En} {w w1 : W} {most r : Int} (hf : f env = pure (.int most)) (hs : env[i]? = some (.st 1)) (h : takeW most w = some (r, w1)) : xTake i f env w = some (.int r, w1) := by
  unfold xTake
  rw [hf, pb, hs]
  show (takeW most >>= _) w = _
  rw [bind_w h]
  rfl
/-- a comprehension that draws -/
theorem compL_w {α β : Type} {g : GF} {f : EF} {env : En} (enc : α → D) (dec : β → D) (R : α → β → Prop) (P : W → Prop) :
    ∀ (xs : List α) (w : W), P w → (∀ x ∈ xs, ∀ w, P w → ∃ env1 y w', g (enc x) env = some env1 ∧ f env1 w = some (dec y, w') ∧ R x y ∧ P w') →
    ∃ (ys : List β) (w' : W), compL g tYesF f env (xs.map enc) w = some (ys.map dec, w') ∧ ys.length = xs.length ∧ (∀ (i : Nat) x y, xs[i]? = some x → ys[i]? = some y → R x y) ∧ P w'
  | [], w, hw, _ => ⟨[], w, rfl, rfl, fun i x y h => by simp at h, hw⟩
  | x :: r, w, hw, H => by
    obtain ⟨env1, y, w1, h1, h2, h3, h4⟩ := H x List.mem_cons_self w hw
    obtain ⟨ys, w2, h5, h6, h7, h8⟩ := compL_w enc dec R P r w1 h4 fun z hz => H z (List.mem_cons_of_mem _ hz)
    refine ⟨y :: ys, w2, ?_, by rw [List.length_cons, List.length_cons, h6], fun i a b ha hb => ?_, h8⟩
    · rw [List.map_cons, compL, h1, lift_some, pb]
      have : tYesF env1 = pure true := rfl
      rw [this, pb, if_pos rfl, bind_w h2, bind_w h5]
      rfl
    · cases i with
      | zero => cases ha; cases hb; exact h3
      | succ i => exact h7 i a b (by simpa using ha) (by simpa using hb)
mutual
def same : D → D → Bool
  | .none, .none => true
  | .bool a, .bool b => a == b
  | .int a, .int b => a == b
  | .str a, .str b => a == b
  | .list xs, .list ys => sameL xs ys
  | .tuple xs, .tuple ys => sameL xs ys
  | _, _ => false
def sameL : List D → List D → Bool
  | [], [] => true
  | x :: xs, y :: ys => same x y && sameL xs ys
  | _, _ => false
end
mutual
theorem same_eq : ∀ (x y : D), same x y = true → x = y
  | .none, y, h => by cases y <;> simp [same] at h; rfl
  | .bool a, y, h => by cases y <;> simp [same] at h; rw [h]
  | .int a, y, h => by cases y <;> simp [same] at h; rw [h]
  | .str a, y, h => by cases y <;> simp [same] at h; rw [h]
  | .list xs, y, h => by
    cases y <;> simp only [same, Bool.false_eq_true] at h
    rw [sameL_eq _ _ h]
  | .tuple xs, y, h => by
    cases y <;> simp only [same, Bool.false_eq_true] at h
    rw [sameL_eq _ _ h]
  | .dict _, y, h => by cases y <;> simp [same] at h
theorem sameL_eq : ∀ (x y : List D), sameL x y = true → x = y
  | [], y, h => by cases y <;> simp [sameL] at h; rfl
  | x :: xs, y, h => by
    cases y with
    | nil => simp [sameL] at h
    | cons z zs =>
      simp only [sameL, Bool.and_eq_true] at h
      rw [same_eq _ _ h.1, sameL_eq _ _ h.2]
end
def sameO : Option D → D → Bool
  | some x, y => same x y
  | _, _ => false
theorem sameO_eq {x : Option D} {y : D} (h : sameO x y = true) : x = some y := by
  cases x with
  | none => cases h
  | some x => rw [same_eq x y h]
def allB : Nat → List (List Bool)
  | 0 => [[]]
  | n + 1 => (allB n).map (true :: ·) ++ (allB n).map (false :: ·)
theorem mem_allB : ∀ (l : List Bool), l ∈ allB l.length
  | [] => List.mem_cons_self
  | b :: l => by
    rw [List.length_cons, allB, List.mem_append, List.mem_map, List.mem_map]
    cases b with
    | true => exact .inl ⟨l, mem_allB l, rfl⟩
    | false => exact .inr ⟨l, mem_allB l, rfl⟩
theorem xComp_w {vs : List Nat} {it : IF} {g : GF} {t : TF} {f : EF} {env e : En} {xs ys : List D} {w w' : W} (h1 : it env = pure xs) (h2 : wipeE env vs = some e) (h3 : xs.length ≤ line) (h4 : compL g t f e xs w = some (ys, w')) : xComp vs it g t f env w = some (ys, w') := by
  unfold xComp
  rw [h1, pb, h2, lift_some, pb, if_pos h3]
  exact h4
theorem xComp_p {vs : List Nat} {it : IF} {g : GF} {t : TF} {f : EF} {env e : En} {xs ys : List D} (h1 : it env = pure xs) (h2 : wipeE env vs = some e) (h3 : xs.length ≤ line) (h4 : compL g t f e xs = pure ys) : xComp vs it g t f env = pure ys := by
  unfold xComp
  rw [h1, pb, h2, lift_some, pb, if_pos h3]
  exact h4
theorem asg_w {f : EF} {g : GF} {env env1 : En} {w w1 : W} {x : D} (h : f env w = some (x, w1)) (hg : g x env = some env1) : sAsg f g env w = some ((.nx, env1), w1) := by
  unfold sAsg
  rw [bind_w h, hg]
  rfl
theorem asg_p {f : EF} {g : GF} {env env1 : En} {x : D} (h : f env = pure x) (hg : g x env = some env1) : sAsg f g env = pure (.nx, env1) := by
  unfold sAsg
  rw [h, pb, hg]
  rfl
theorem xAs_w {f : LF} {env : En} {w w1 : W} {x : List D} (h : f env w = some (x, w1)) : xAs f env w = some (.list x, w1) := by
  unfold xAs
  rw [bind_w h]
  rfl
theorem xAs_p {f : LF} {env : En} {x : List D} (h : f env = pure x) : xAs f env = pure (.list x) := by
  unfold xAs
  rw [h]
  rfl
theorem xOp_w {F : D → D → Option D} {f g : EF} {env : En} {w w1 w2 : W} {a b c : D} (h1 : f env w = some (a, w1)) (h2 : g env w1 = some (b, w2)) (h3 : F a b = some c) : xOp F f g env w = some (c, w2) := by
  unfold xOp
  rw [bind_w h1, bind_w h2, h3]
  rfl
theorem if_skip {t : TF} {f : SF} {env : En} (h : t env = pure false) : sIf t f sPass env = pure (.nx, env) := by
  unfold sIf
  rw [h, pb]
  rfl
theorem cells_pos (ns : List Int) : 0 < (stateCells ns).length := by
  unfold stateCells
  dsimp only
  split
  · decide
  · omega
theorem fIndex_ints (xs : List Int) (y : Int) : fIndex (.list (xs.map .int)) [.int y] = (xs.findIdx? fun z => decide (z = y)).map fun (j : Nat) => PyData.int (j : Int) := by
  show (if (flat (.int y) && (xs.map PyData.int).all flat) = true then _ else _) = _
  rw [all_flat_ints]
  show ((xs.map PyData.int).findIdx? fun z => PyData.eqv z (.int y)).map _ = _
  rw [List.findIdx?_map]
  have e : ((fun z => PyData.eqv z (.int y)) ∘ PyData.int) = fun z => decide (z = y) := by
    funext z
    exact eqv_int z y
  rw [e]
theorem st_w {s r : SF} {env env1 : En} {w w1 : W} {fl : Fl} (h : s env w = some ((.nx, env1), w1)) (k : ∃ e w', r env1 w1 = some ((fl, e), w')) : ∃ e w', sSeq s r env w = some ((fl, e), w') := by
  rw [seq_w h]
  exact k
theorem st_p {s r : SF} {env env1 : En} {w : W} {fl : Fl} (h : s env = pure (.nx, env1)) (k : ∃ e w', r env1 w = some ((fl, e), w')) : ∃ e w', sSeq s r env w = some ((fl, e), w') := by
  rw [seq_pure h]
  exact k
theorem st_ret {f : EF} {env : En} {w : W} {x : D} (h : f env = pure x) : ∃ e w', sRet f env w = some ((.rt x, e), w') := by
  refine ⟨env, w, ?_⟩
  unfold sRet
  rw [h]
  rfl
theorem for_p {it : IF} {g : GF} {body : SF} {env env1 : En} {xs : List D} (h1 : it env = pure xs) (h2 : sFor.go g body xs env = pure (.nx, env1)) : sFor it g body env = pure (.nx, env1) := by
  unfold sFor
  rw [h1, pb]
  exact h2
theorem wipe_one {env : En} {v : Nat} {s : Slot} (h : env[v]? = some s) (n : ∀ xs, s ≠ .ow xs) : wipeE env [v] = some (env.set v .no) := by
  show (some env).bind _ = _
  rw [Option.bind_some, h]
  cases s with
  | ow xs => exact absurd rfl (n xs)
  | _ => rfl

end VE

/-! Rhy: rhythms, plain. -/
namespace VE
/-- how many of 0, 1, .. below m -/
def cnt (g : Int → Bool) : Nat → Nat
  | 0 => 0
  | m + 1 => cnt g m + (if g (m : Int) then 1 else 0)
theorem cnt_mono {g : Int → Bool} {a b : Nat} (h : a ≤ b) : cnt g a ≤ cnt g b := by
  induction h with
  | refl => exact Nat.le_refl _
  | step h ih => exact Nat.le_trans ih (by rw [cnt]; omega)
/-- a minute is told by how many lie ahead of it -/
theorem cnt_inj {g : Int → Bool} {a b : Nat} (ha : g a = true) (hb : g b = true) (e : cnt g a = cnt g b) : a = b := by
  rcases Nat.lt_trichotomy a b with h | h | h
  · have := cnt_mono (g := g) (show a + 1 ≤ b from h)
    rw [cnt, if_pos ha] at this
    omega
  · exact h
  · have := cnt_mono (g := g) (show b + 1 ≤ a from h)
    rw [cnt, if_pos hb] at this
    omega
theorem cnt_congr {g h : Int → Bool} {m : Nat} (e : ∀ j : Nat, j < m → g j = h j) : cnt g m = cnt h m := by
  induction m with
  | zero => rfl
  | succ m ih => rw [cnt, cnt, ih fun j hj => e j (by omega), e m (by omega)]
theorem div_of {p a x : Int} (hp : 0 < p) (h1 : p * a ≤ x) (h2 : x < p * a + p) : x / p = a := by
  have h3 : a ≤ x / p := by rw [Int.le_ediv_iff_mul_le hp, Int.mul_comm]; exact h1
  have h4 : x / p < a + 1 := by rw [Int.ediv_lt_iff_lt_mul hp, Int.mul_comm, Int.mul_add, Int.mul_one]; exact h2
  omega
/-- how often a rest has come below m -/
def qt (p r m : Int) : Int := (m - r + p - 1) / p
theorem qt_step {p r m : Int} (hp : 0 < p) (h0 : 0 ≤ r) (h1 : r < p) : qt p r (m + 1) = qt p r m + (if m % p = r then 1 else 0) := by
  have hm := Int.emod_nonneg m (show p ≠ 0 by omega)
  have hm2 := Int.emod_lt_of_pos m hp
  have e := Int.mul_ediv_add_emod m p
  generalize hb : m % p = b at hm hm2 e
  generalize ha : m / p = a at e
  have e1 : p * (a + 1) = p * a + p := by rw [Int.mul_add, Int.mul_one]
  unfold qt
  by_cases h : b = r
  · rw [if_pos h, div_of hp (a := a + 1) (by omega) (by omega), div_of hp (a := a) (by omega) (by omega)]
  · rw [if_neg h]
    by_cases hl : b < r
    · rw [div_of hp (a := a) (by omega) (by omega), div_of hp (a := a) (by omega) (by omega)]; omega
    · rw [div_of hp (a := a + 1) (by omega) (by omega), div_of hp (a := a + 1) (by omega) (by omega)]; omega
theorem qt_period {p r m : Int} (hp : 0 < p) : qt p r (m + p) = qt p r m + 1 := by
  unfold qt
  rw [show m + p - r + p - 1 = (m - r + p - 1) + p by omega]
  rw [Int.add_ediv_of_dvd_right ⟨1, (Int.mul_one p).symm⟩, Int.ediv_self (by omega)]
def sumL (f : Int → Int) : List Int → Int
  | [] => 0
  | x :: r => f x + sumL f r
theorem sumL_add (f g : Int → Int) (R : List Int) : sumL (fun r => f r + g r) R = sumL f R + sumL g R := by
  induction R with
  | nil => rfl
  | cons x r ih => simp only [sumL, ih]; omega
theorem sumL_congr {f g : Int → Int} {R : List Int} (h : ∀ r ∈ R, f r = g r) : sumL f R = sumL g R := by
  induction R with
  | nil => rfl
  | cons x r ih => rw [sumL, sumL, h x List.mem_cons_self, ih fun y hy => h y (List.mem_cons_of_mem _ hy)]
theorem sumL_one (R : List Int) (hn : R.Nodup) (x : Int) : sumL (fun r => if x = r then 1 else 0) R = if x ∈ R then 1 else 0 := by
  induction R with
  | nil => simp [sumL]
  | cons y r ih =>
    rw [List.nodup_cons] at hn
    rw [sumL, ih hn.2]
    by_cases h : x = y
    · subst h
      simp [hn.1]
    · simp [h]
theorem sumL_const (R : List Int) : sumL (fun _ => 1) R = R.length := by
  induction R with
  | nil => rfl
  | cons y r ih => rw [sumL, ih, List.length_cons]; omega
structure Rh where
  s : Int
  M : List Int
  p : Int
  R : List Int
structure Rh.Ok (r : Rh) : Prop where
  s0 : 0 ≤ r.s
  p0 : 0 < r.p
  mu : r.M.Pairwise (· < ·)
  mb : ∀ x ∈ r.M, 0 ≤ x ∧ x < r.s
  ru : r.R.Pairwise (· < ·)
  rb : ∀ x ∈ r.R, 0 ≤ x ∧ x < r.p
def Rh.goes (r : Rh) (m : Int) : Bool := if m < r.s then decide (m ∈ r.M) else decide (m % r.p ∈ r.R)
theorem nodup_of {L : List Int} (h : L.Pairwise (· < ·)) : L.Nodup := h.imp fun h => Int.ne_of_lt h
theorem filter_succ {L : List Int} (h : L.Nodup) (m : Int) : ((L.filter fun x => decide (x < m + 1)).length : Int) = (L.filter fun x => decide (x < m)).length + (if m ∈ L then 1 else 0) := by
  induction L with
  | nil => simp
  | cons x r ih =>
    rw [List.nodup_cons] at h
    have ih := ih h.2
    simp only [List.filter_cons]
    by_cases e : x = m
    · subst e
      simp only [show decide (x < x + 1) = true by (simp only [decide_eq_true_eq]; omega), show decide (x < x) = false by simp, if_true, Bool.false_eq_true, if_false, List.length_cons, List.mem_cons, true_or]
      rw [if_neg h.1] at ih
      omega
    · have e' : ¬ m = x := fun z => e z.symm
      simp only [List.mem_cons, e', false_or]
      by_cases hl : x < m
      · rw [show decide (x < m + 1) = true by simp; omega, show decide (x < m) = true by simp [hl]]
        simp only [if_true, List.length_cons]
        omega
      · rw [show decide (x < m + 1) = false by simp; omega, show decide (x < m) = false by simp; omega]
        simp only [Bool.false_eq_true, if_false]
        exact ih
/-- below its start -/
theorem Rh.Ok.cnt_low {r : Rh} (h : r.Ok) : ∀ m : Nat, (m : Int) ≤ r.s → (cnt r.goes m : Int) = (r.M.filter fun x => decide (x < (m : Int))).length
  | 0, _ => by
    have : (r.M.filter fun x => decide (x < ((0 : Nat) : Int))) = [] := List.filter_eq_nil_iff.mpr fun x hx => by
      have := (h.mb x hx).1
      simp; omega
    rw [this]; rfl
  | m + 1, hm => by
    have ih := h.cnt_low m (by omega)
    have := filter_succ (nodup_of h.mu) (m : Int)
    rw [cnt, show ((m + 1 : Nat) : Int) = (m : Int) + 1 by omega, this]
    have e : r.goes m = decide ((m : Int) ∈ r.M) := by unfold Rh.goes; rw [if_pos (by omega)]
    rw [e]
    by_cases hM : (m : Int) ∈ r.M
    · simp only [hM, decide_true, if_true]; omega
    · simp only [hM, decide_false, Bool.false_eq_true, if_false]; omega
theorem Rh.Ok.cnt_start {r : Rh} (h : r.Ok) : (cnt r.goes r.s.toNat : Int) = r.M.length := by
  have hs := h.s0
  rw [h.cnt_low _ (by omega)]
  rw [List.filter_eq_self.mpr fun x hx => by
    have := (h.mb x hx).2
    simp; omega]
/-- from its start on, in closed form -/
theorem Rh.Ok.cnt_high {r : Rh} (h : r.Ok) (k : Nat) : (cnt r.goes (r.s.toNat + k) : Int) = r.M.length + sumL (fun x => qt r.p x (r.s + k) - qt r.p x r.s) r.R := by
  have hs := h.s0
  induction k with
  | zero =>
    rw [Nat.add_zero, h.cnt_start]
    rw [sumL_congr (g := fun _ => 0) fun x _ => by simp]
    have : ∀ R : List Int, sumL (fun _ => 0) R = 0 := fun R => by
      induction R with
      | nil => rfl
      | cons y r ih => rw [sumL, ih]; rfl
    rw [this]; omega
  | succ k ih =>
    rw [show r.s.toNat + (k + 1) = (r.s.toNat + k) + 1 by omega, cnt]
    have e : r.goes ((r.s.toNat + k : Nat) : Int) = decide ((r.s + (k : Int)) % r.p ∈ r.R) := by
      unfold Rh.goes
      rw [if_neg (by omega), show ((r.s.toNat + k : Nat) : Int) = r.s + (k : Int) by omega]
    rw [e]
    have e2 : sumL (fun x => qt r.p x (r.s + ((k + 1 : Nat) : Int)) - qt r.p x r.s) r.R = sumL (fun x => (qt r.p x (r.s + (k : Int)) - qt r.p x r.s) + (if (r.s + (k : Int)) % r.p = x then 1 else 0)) r.R := sumL_congr fun x hx => by
      rw [show r.s + ((k + 1 : Nat) : Int) = (r.s + (k : Int)) + 1 by omega, qt_step h.p0 (h.rb x hx).1 (h.rb x hx).2]
      omega
    rw [e2, sumL_add, sumL_one _ (nodup_of h.ru)]
    by_cases hR : (r.s + (k : Int)) % r.p ∈ r.R
    · simp only [hR, decide_true, if_true]; omega
    · simp only [hR, decide_false, Bool.false_eq_true, if_false]; omega
theorem Rh.Ok.cnt_period {r : Rh} (h : r.Ok) (m : Nat) (hm : r.s ≤ m) : cnt r.goes (m + r.p.toNat) = cnt r.goes m + r.R.length := by
  have hs := h.s0
  have hp := h.p0
  obtain ⟨k, rfl⟩ : ∃ k, m = r.s.toNat + k := ⟨m - r.s.toNat, by omega⟩
  have h1 := h.cnt_high k
  have h2 := h.cnt_high (k + r.p.toNat)
  rw [show r.s.toNat + k + r.p.toNat = r.s.toNat + (k + r.p.toNat) by omega]
  have e : sumL (fun x => qt r.p x (r.s + ((k + r.p.toNat : Nat) : Int)) - qt r.p x r.s) r.R = sumL (fun x => (qt r.p x (r.s + (k : Int)) - qt r.p x r.s) + 1) r.R := sumL_congr fun x hx => by
    rw [show r.s + ((k + r.p.toNat : Nat) : Int) = (r.s + (k : Int)) + r.p by omega, qt_period hp]
    omega
  rw [e, sumL_add, sumL_const] at h2
  omega
theorem Rh.Ok.cnt_periods {r : Rh} (h : r.Ok) (m : Nat) (hm : r.s ≤ m) (q : Nat) : cnt r.goes (m + q * r.p.toNat) = cnt r.goes m + q * r.R.length := by
  induction q with
  | zero => simp
  | succ q ih =>
    rw [show m + (q + 1) * r.p.toNat = (m + q * r.p.toNat) + r.p.toNat by rw [Nat.succ_mul]; omega, h.cnt_period _ (by omega), ih, Nat.succ_mul]
    omega
/-- count_to, as it is told -/
def Rh.countT (r : Rh) (m : Int) : Int := if m ≤ r.s then (r.M.filter fun x => decide (x < m)).length else r.M.length + sumL (fun x => qt r.p x m - qt r.p x r.s) r.R
theorem Rh.Ok.count {r : Rh} (h : r.Ok) {m : Int} (hm : 0 ≤ m) : r.countT m = cnt r.goes m.toNat := by
  have hs := h.s0
  unfold Rh.countT
  split
  · rw [h.cnt_low _ (by omega), show ((m.toNat : Nat) : Int) = m by omega]
  · have := h.cnt_high (m - r.s).toNat
    rw [show r.s.toNat + (m - r.s).toNat = m.toNat by omega, show r.s + (((m - r.s).toNat : Nat) : Int) = m by omega] at this
    omega
/-! ### the n-th minute -/
def Rh.row (r : Rh) : List Int := sortI (r.R.map fun x => r.s + (x - r.s) % r.p)
def Rh.nthT (r : Rh) (k : Nat) : Option Int :=
  if h : k < r.M.length then some r.M[k]
  else if r.R = [] then none
  else (r.row[(k - r.M.length) % r.row.length]?).map fun x => x + r.p * (((k - r.M.length) / r.row.length : Nat) : Int)
theorem insP (x : Int) : ∀ xs : List Int, (insI x xs).Perm (x :: xs)
  | [] => .refl _
  | y :: r => by
    unfold insI
    split
    · exact .refl _
    · exact ((insP x r).cons y).trans (.swap x y r)
theorem insS (x : Int) : ∀ xs : List Int, xs.Pairwise (· ≤ ·) → (insI x xs).Pairwise (· ≤ ·)
  | [], _ => by simp [insI]
  | y :: r, h => by
    unfold insI
    rw [List.pairwise_cons] at h
    split
    · rename_i hc
      rw [List.pairwise_cons]
      refine ⟨fun z hz => ?_, List.pairwise_cons.mpr h⟩
      rcases List.mem_cons.mp hz with e | e
      · subst e; exact hc
      · exact Int.le_trans hc (h.1 z e)
    · rename_i hc
      rw [List.pairwise_cons]
      refine ⟨fun z hz => ?_, insS x r h.2⟩
      have := (insP x r).mem_iff.mp hz
      rcases List.mem_cons.mp this with e | e
      · subst e; omega
      · exact h.1 z e
theorem sortP : ∀ xs : List Int, (sortI xs).Perm xs
  | [] => .refl _
  | x :: r => (insP x _).trans ((sortP r).cons x)
theorem sortS : ∀ xs : List Int, (sortI xs).Pairwise (· ≤ ·)
  | [] => .nil
  | x :: r => insS x _ (sortS r)
theorem sort_lt {xs : List Int} (h : xs.Nodup) : (sortI xs).Pairwise (· < ·) := by
  have h1 := sortS xs
  have h2 : (sortI xs).Nodup := (sortP xs).nodup_iff.mpr h
  exact (h1.and h2).imp fun ⟨a, b⟩ => by omega
theorem shift_mem {s p t : Int} (hp : 0 < p) (h1 : s ≤ t) (h2 : t < s + p) (x : Int) (hx : 0 ≤ x) (hx2 : x < p) : s + (x - s) % p = t ↔ t % p = x := by
  constructor
  · intro e
    have : t % p = (s + (x - s) % p) % p := by rw [e]
    rw [this, Int.add_emod, Int.emod_emod, ← Int.add_emod, show s + (x - s) = x by omega, Int.emod_eq_of_lt hx hx2]
  · intro e
    have : (x - s) % p = t - s := by
      rw [← e, Int.sub_emod, Int.emod_emod, ← Int.sub_emod, Int.emod_eq_of_lt (by omega) (by omega)]
    omega
theorem Rh.Ok.row_lt {r : Rh} (h : r.Ok) : r.row.Pairwise (· < ·) := by
  refine sort_lt ?_
  have hn := nodup_of h.ru
  have hp := h.p0
  have hb := h.rb
  show (r.R.map _).Pairwise (· ≠ ·)
  rw [List.pairwise_map]
  refine List.Pairwise.imp_of_mem (fun {a b} ha hb' hne e => ?_) hn
  have h1 := hb a ha
  have h2 := hb b hb'
  have m1 := Int.emod_nonneg (b - r.s) (show r.p ≠ 0 by omega)
  have m2 := Int.emod_lt_of_pos (b - r.s) hp
  have e1 := (shift_mem (s := r.s) hp (t := r.s + (b - r.s) % r.p) (by omega) (by omega) a h1.1 h1.2).mp e
  have e2 := (shift_mem (s := r.s) hp (t := r.s + (b - r.s) % r.p) (by omega) (by omega) b h2.1 h2.2).mp rfl
  exact hne (e1.symm.trans e2)
theorem Rh.Ok.mem_row {r : Rh} (h : r.Ok) (t : Int) : t ∈ r.row ↔ r.s ≤ t ∧ t < r.s + r.p ∧ t % r.p ∈ r.R := by
  have hp := h.p0
  unfold Rh.row
  rw [(sortP _).mem_iff, List.mem_map]
  constructor
  · rintro ⟨x, hx, rfl⟩
    have m1 := Int.emod_nonneg (x - r.s) (show r.p ≠ 0 by omega)
    have m2 := Int.emod_lt_of_pos (x - r.s) hp
    refine ⟨by omega, by omega, ?_⟩
    rw [(shift_mem (s := r.s) hp (by omega) (by omega) x (h.rb x hx).1 (h.rb x hx).2).mp rfl]
    exact hx
  · rintro ⟨h1, h2, h3⟩
    exact ⟨_, h3, (shift_mem (s := r.s) hp h1 h2 _ (h.rb _ h3).1 (h.rb _ h3).2).mpr rfl⟩
theorem Rh.Ok.cnt_row {r : Rh} (h : r.Ok) (k : Nat) (hk : (k : Int) ≤ r.p) : (cnt r.goes (r.s.toNat + k) : Int) = r.M.length + (r.row.filter fun x => decide (x < r.s + k)).length := by
  have hs := h.s0
  induction k with
  | zero =>
    rw [Nat.add_zero, h.cnt_start]
    have : (r.row.filter fun x => decide (x < r.s + ((0 : Nat) : Int))) = [] := List.filter_eq_nil_iff.mpr fun x hx => by
      have := ((h.mem_row x).mp hx).1
      simp; omega
    rw [this]; simp
  | succ k ih =>
    have ih := ih (by omega)
    rw [show r.s.toNat + (k + 1) = (r.s.toNat + k) + 1 by omega, cnt, show r.s + ((k + 1 : Nat) : Int) = (r.s + (k : Int)) + 1 by omega, filter_succ (nodup_of h.row_lt)]
    have e : r.goes ((r.s.toNat + k : Nat) : Int) = decide ((r.s + (k : Int)) ∈ r.row) := by
      unfold Rh.goes
      rw [if_neg (by omega), show ((r.s.toNat + k : Nat) : Int) = r.s + (k : Int) by omega]
      apply decide_eq_decide.mpr
      rw [h.mem_row]
      constructor
      · intro q; exact ⟨by omega, by omega, q⟩
      · intro q; exact q.2.2
    rw [e]
    by_cases hR : (r.s + (k : Int)) ∈ r.row
    · simp only [hR, decide_true, if_true]; omega
    · simp only [hR, decide_false, Bool.false_eq_true, if_false]; omega
theorem filter_at {L : List Int} (h : L.Pairwise (· < ·)) : ∀ (i : Nat) (x : Int), L[i]? = some x → (L.filter fun y => decide (y < x)).length = i := by
  induction L with
  | nil => intro i x e; simp at e
  | cons a r ih =>
    intro i x e
    rw [List.pairwise_cons] at h
    cases i with
    | zero =>
      have : a = x := by simpa using e
      subst this
      have : (List.filter (fun y => decide (y < a)) (a :: r)) = [] := List.filter_eq_nil_iff.mpr fun y hy => by
        rcases List.mem_cons.mp hy with rfl | hy
        · simp
        · have := h.1 y hy; simp; omega
      rw [this]; rfl
    | succ i =>
      have e' : r[i]? = some x := by simpa using e
      have hx := h.1 x (List.mem_of_getElem? e')
      rw [List.filter_cons_of_pos (by simpa using hx), List.length_cons, ih h.2 i x e']
/-- THE n-th: it goes, and n lie ahead -/
theorem Rh.Ok.nth_spec {r : Rh} (h : r.Ok) {k : Nat} {t : Int} (e : r.nthT k = some t) : 0 ≤ t ∧ r.goes t = true ∧ cnt r.goes t.toNat = k := by
  have hs := h.s0
  have hp := h.p0
  unfold Rh.nthT at e
  split at e
  · rename_i hk
    cases e
    have hm := List.getElem_mem hk
    have hb := h.mb _ hm
    refine ⟨hb.1, ?_, ?_⟩
    · unfold Rh.goes
      rw [if_pos hb.2]; simpa using hm
    · have := h.cnt_low (r.M[k]).toNat (by omega)
      rw [show (((r.M[k]).toNat : Nat) : Int) = r.M[k] by omega, filter_at h.mu k _ (List.getElem?_eq_getElem hk)] at this
      omega
  · rename_i hk
    split at e
    · cases e
    · rename_i hR
      obtain ⟨x, hx, rfl⟩ := Option.map_eq_some_iff.mp e
      have hrl : r.row.length = r.R.length := by unfold Rh.row; rw [(sortP _).length_eq, List.length_map]
      have hpos : 0 < r.R.length := List.length_pos_iff.mpr hR
      generalize hq : (k - r.M.length) / r.row.length = q at *
      have hmem := (h.mem_row x).mp (List.mem_of_getElem? hx)
      have hx0 : (0 : Int) ≤ r.p * (q : Int) := Int.mul_nonneg (by omega) (by omega)
      have eN : (x + r.p * (q : Int)).toNat = x.toNat + q * r.p.toNat := by
        have : r.p * (q : Int) = ((q * r.p.toNat : Nat) : Int) := by
          rw [Int.natCast_mul, Int.mul_comm, show ((r.p.toNat : Nat) : Int) = r.p by omega]
        omega
      refine ⟨by omega, ?_, ?_⟩
      · unfold Rh.goes
        rw [if_neg (by omega), Int.add_mul_emod_self_left]
        simpa using hmem.2.2
      · rw [eN, h.cnt_periods _ (by omega)]
        have h1 := h.cnt_row (x - r.s).toNat (by omega)
        rw [show r.s.toNat + (x - r.s).toNat = x.toNat by omega, show r.s + (((x - r.s).toNat : Nat) : Int) = x by omega, filter_at h.row_lt _ x hx] at h1
        have h2 := Nat.div_add_mod (k - r.M.length) r.row.length
        rw [hq, hrl] at h2
        rw [hrl] at h1
        rw [Nat.mul_comm] at h2
        omega
theorem Rh.Ok.nth_some {r : Rh} (h : r.Ok) (hR : r.R ≠ []) (k : Nat) : ∃ t, r.nthT k = some t := by
  unfold Rh.nthT
  split
  · exact ⟨_, rfl⟩
  · have hrl : r.row.length = r.R.length := by unfold Rh.row; rw [(sortP _).length_eq, List.length_map]
    have hpos : 0 < r.R.length := List.length_pos_iff.mpr hR
    rw [List.getElem?_eq_getElem (Nat.mod_lt _ (by omega))]
    exact ⟨_, rfl⟩
/-- the minute that goes with n ahead is the n-th -/
theorem Rh.Ok.nth_eq {r : Rh} (h : r.Ok) (hR : r.R ≠ []) {k t : Nat} (hg : r.goes t = true) (hc : cnt r.goes t = k) : r.nthT k = some (t : Int) := by
  obtain ⟨u, e⟩ := h.nth_some hR k
  obtain ⟨h0, h1, h2⟩ := h.nth_spec e
  have : u.toNat = t := cnt_inj (g := r.goes) (by rw [show ((u.toNat : Nat) : Int) = u by omega]; exact h1) hg (h2.trans hc.symm)
  rw [e]
  congr 1
  omega
end VE

namespace VE
open PySem
/-! reckoning, piece by piece -/
theorem test_p {f : EF} {env : En} {b : Bool} (h : f env = pure (.bool b)) : xTest f env = pure b := by
  unfold xTest
  rw [h, pb]
  rfl
theorem truth_p {f : EF} {env : En} {x : D} {b : Bool} (h : f env = pure x) (hb : truth x = some b) : xTruth f env = pure b := by
  unfold xTruth
  rw [h, pb, hb]
  rfl
theorem op_p {F : D → D → Option D} {f g : EF} {env : En} {a b c : D} (h1 : f env = pure a) (h2 : g env = pure b) (h3 : F a b = some c) : xOp F f g env = pure c := by
  unfold xOp
  rw [h1, pb, h2, pb, h3]
  rfl
theorem un_p {F : D → Option D} {f : EF} {env : En} {a c : D} (h1 : f env = pure a) (h3 : F a = some c) : xUn F f env = pure c := by
  unfold xUn
  rw [h1, pb, h3]
  rfl
theorem cons_p {f : EF} {g : AF} {env : En} {a : D} {xs : List D} (h1 : f env = pure a) (h2 : g env = pure xs) : xCons f g env = pure (a :: xs) := by
  unfold xCons
  rw [h1, pb, h2]
  rfl
theorem nil_p {env : En} : xNil env = pure [] := rfl
theorem call_p {F : List D → Option D} {f : AF} {env : En} {xs : List D} {c : D} (h1 : f env = pure xs) (h3 : F xs = some c) : xCall F f env = pure c := by
  unfold xCall
  rw [h1, pb, h3]
  rfl
theorem if_then {t : TF} {f g : SF} {env : En} (h : t env = pure true) : sIf t f g env = f env := by
  unfold sIf
  rw [h, pb]
  rfl
theorem if_else {t : TF} {f g : SF} {env : En} (h : t env = pure false) : sIf t f g env = g env := by
  unfold sIf
  rw [h, pb]
  rfl
theorem and_f {t u : TF} {env : En} (h : t env = pure false) : xAnd t u env = pure false := by
  unfold xAnd
  rw [h, pb]
  rfl
theorem and_t {t u : TF} {env : En} {b : Bool} (h : t env = pure true) (h2 : u env = pure b) : xAnd t u env = pure b := by
  unfold xAnd
  rw [h, pb]
  exact h2
theorem or_f {t u : TF} {env : En} {b : Bool} (h : t env = pure false) (h2 : u env = pure b) : xOr t u env = pure b := by
  unfold xOr
  rw [h, pb]
  exact h2
theorem or_t {t u : TF} {env : En} (h : t env = pure true) : xOr t u env = pure true := by
  unfold xOr
  rw [h, pb]
  rfl
theorem not_p {t : TF} {env : En} {b : Bool} (h : t env = pure b) : xNot t env = pure (!b) := by
  unfold xNot
  rw [h, pb]

theorem rangeL0 (n : Nat) : rangeL 0 (n : Int) = (List.range n).map fun (k : Nat) => PyData.int (k : Int) := by
  unfold rangeL
  rw [Int.sub_zero, Int.toNat_natCast]
  congr 1
  funext k
  rw [Int.zero_add]
theorem rangeL0_get {n i : Nat} {x : D} (h : (rangeL 0 (n : Int))[i]? = some x) : x = .int (i : Int) ∧ i < n := by
  rw [rangeL0, List.getElem?_map] at h
  obtain ⟨k, h1, h2⟩ := Option.map_eq_some_iff.mp h
  rw [List.getElem?_range (by
    refine Nat.lt_of_not_le fun q => ?_
    rw [List.getElem?_eq_none (by rw [List.length_range]; exact q)] at h1
    cases h1)] at h1
  cases h1
  refine ⟨h2.symm, ?_⟩
  refine Nat.lt_of_not_le fun q => ?_
  rw [List.getElem?_eq_none (by rw [List.length_range]; exact q)] at h
  cases h
theorem small62_nat {n : Nat} (h : n ≤ 1000000) : small62 (n : Int) = true := by
  unfold small62
  rw [Bool.and_eq_true, decide_eq_true_eq, decide_eq_true_eq]
  omega

/-! rhythms: what their mirrors hand back -/
def rhD (r : Rh) : D := .tuple [.str (Str.ofString "rhythm"), .int r.s, dI r.M, .int r.p, dI r.R]
theorem goes_run (r : Rh) (hp : 0 < r.p) (m : Int) : goesF [rhD r, .int m] = some (.bool (r.goes m)) := by
  refine runDef_rt (env' := [.sh (rhD r), .sh (.int m), .sh (.str (Str.ofString "rhythm")), .sh (.int r.s), .sh (dI r.M), .sh (.int r.p), .sh (dI r.R)]) rfl ?_
  unfold goesB
  unfold Rh.goes
  by_cases h : m < r.s
  · simp only [pb, fail_bind, lift_some, lift_none, xVar, xVarO, xC, xOp, xUn, xCall, xNil, xCons, xTest, xTruth, xNot, xAnd, xOr, xNotV, xAndV, xOrV, xIf, xChain, xTup, xLst, xAs, xFlat, xFlatL, iLst, iTupl, iOwn, iR1, iR2, gNm, gsNil, gsCons, gTp, sPass, sSeq, sBreak, sCont, sRet, sRetN, sIf, sAsg, sOwn, sExpr, sPar, sApp, thaw, sThaw, oNo, oSome, xSlice, xList, fList, lstOf, tupOf, asB, truth, fSub, fLt, fLe, fGt, fGe, fNeg, fIsN, fNotN, isNone, Option.bind_some, List.getElem?_cons_zero, List.getElem?_cons_succ, List.set_cons_zero, List.set_cons_succ, List.map_cons, List.map_nil, List.cons_append, List.nil_append, List.replicate_succ, List.replicate_zero, if_true, if_false, Bool.true_eq_false, Bool.false_eq_true, rhD, dI, List.length_cons, List.length_nil, Nat.zero_add, Nat.reduceAdd, fMod_pos hp, fIn_int, decide_eq_true h, if_pos h]
  · simp only [pb, fail_bind, lift_some, lift_none, xVar, xVarO, xC, xOp, xUn, xCall, xNil, xCons, xTest, xTruth, xNot, xAnd, xOr, xNotV, xAndV, xOrV, xIf, xChain, xTup, xLst, xAs, xFlat, xFlatL, iLst, iTupl, iOwn, iR1, iR2, gNm, gsNil, gsCons, gTp, sPass, sSeq, sBreak, sCont, sRet, sRetN, sIf, sAsg, sOwn, sExpr, sPar, sApp, thaw, sThaw, oNo, oSome, xSlice, xList, fList, lstOf, tupOf, asB, truth, fSub, fLt, fLe, fGt, fGe, fNeg, fIsN, fNotN, isNone, Option.bind_some, List.getElem?_cons_zero, List.getElem?_cons_succ, List.set_cons_zero, List.set_cons_succ, List.map_cons, List.map_nil, List.cons_append, List.nil_append, List.replicate_succ, List.replicate_zero, if_true, if_false, Bool.true_eq_false, Bool.false_eq_true, rhD, dI, List.length_cons, List.length_nil, Nat.zero_add, Nat.reduceAdd, fMod_pos hp, fIn_int, decide_eq_false h, if_neg h]
theorem fAdd_int (i j : Int) : fAdd (.int i) (.int j) = some (.int (i + j)) := rfl
theorem filter_lt_comp {g : GF} {t : TF} {f : EF} {env : En} (xs : List Int) (m : Int) (H : ∀ x ∈ xs, ∃ env1, g (.int x) env = some env1 ∧ t env1 = pure (decide (x < m)) ∧ (decide (x < m) = true → f env1 = pure (.int x))) : compL g t f env (xs.map .int) = pure ((xs.filter fun x => decide (x < m)).map .int) := compL_map .int _ .int xs H
theorem count_to_run (r : Rh) (hp : 0 < r.p) (hp2 : r.p < 1073741824) (hM : r.M.length ≤ line) (m : Int) : count_toF [rhD r, .int m] = some (.int (r.countT m)) := by
  unfold Rh.countT
  by_cases h : m ≤ r.s
  · refine runDef_rt (env' := [.sh (rhD r), .sh (.int m), .sh (.str (Str.ofString "rhythm")), .sh (.int r.s), .sh (dI r.M), .sh (.int r.p), .sh (dI r.R), .no, .no, .no]) rfl ?_
    unfold count_toB
    have hc : compL (gNm 7) (xTest (xOp fLt (xVar 7) (xVar 1))) (xVar 7) [.sh (rhD r), .sh (.int m), .sh (.str (Str.ofString "rhythm")), .sh (.int r.s), .sh (dI r.M), .sh (.int r.p), .sh (dI r.R), .no, .no, .no] (r.M.map .int) = pure ((r.M.filter fun x => decide (x < m)).map .int) :=
      filter_lt_comp r.M m fun x hx => ⟨_, rfl, rfl, fun _ => rfl⟩
    have hw : ∀ a b c d e f g h i : Slot, wipeE [a, b, c, d, e, f, g, .no, h, i] [7] = some [a, b, c, d, e, f, g, .no, h, i] := fun a b c d e f g h i => rfl
    simp only [rhD, dI] at hc
    simp only [pb, fail_bind, lift_some, lift_none, xVar, xVarO, xC, xOp, xUn, xCall, xNil, xCons, xTest, xTruth, xNot, xAnd, xOr, xNotV, xAndV, xOrV, xIf, xChain, xTup, xLst, xAs, xFlat, xFlatL, iLst, iTupl, iOwn, iR1, iR2, gNm, gsNil, gsCons, gTp, sPass, sSeq, sBreak, sCont, sRet, sRetN, sIf, sAsg, sOwn, sExpr, sPar, sApp, thaw, sThaw, oNo, oSome, xSlice, xList, fList, lstOf, tupOf, asB, truth, fSub, fLt, fLe, fGt, fGe, fNeg, fIsN, fNotN, isNone, Option.bind_some, List.getElem?_cons_zero, List.getElem?_cons_succ, List.set_cons_zero, List.set_cons_succ, List.map_cons, List.map_nil, List.cons_append, List.nil_append, List.replicate_succ, List.replicate_zero, if_true, if_false, Bool.true_eq_false, Bool.false_eq_true, rhD, dI, List.length_cons, List.length_nil, Nat.zero_add, Nat.reduceAdd, decide_eq_true h, xComp, hw, List.length_map, if_pos hM, hc, fLen_list, if_pos h]
  · -- the loop
    have lp : ∀ (a b c d e f g h' : Slot) (env : En) (hR : env = [a, .sh (.int m), c, .sh (.int r.s), e, .sh (.int r.p), g, h', .sh (.int r.M.length), .no]), ∃ env', sFor.go (gNm 9) (sAsg (xOp fSub (xOp fAdd (xVar 8) (xOp fDiv (xOp fSub (xOp fAdd (xOp fSub (xVar 1) (xVar 9)) (xVar 5)) (xC (.int 1))) (xVar 5))) (xOp fDiv (xOp fSub (xOp fAdd (xOp fSub (xVar 3) (xVar 9)) (xVar 5)) (xC (.int 1))) (xVar 5))) (gNm 8)) (r.R.map .int) env = pure (.nx, env') ∧ ∃ z, env' = [a, .sh (.int m), c, .sh (.int r.s), e, .sh (.int r.p), g, h', .sh (.int (r.M.length + sumL (fun x => qt r.p x m - qt r.p x r.s) r.R)), z] := by
      intro a b c d e f g h' env hR
      have gen : ∀ (R : List Int) (t : Int) (z : Slot), ∃ env', sFor.go (gNm 9) (sAsg (xOp fSub (xOp fAdd (xVar 8) (xOp fDiv (xOp fSub (xOp fAdd (xOp fSub (xVar 1) (xVar 9)) (xVar 5)) (xC (.int 1))) (xVar 5))) (xOp fDiv (xOp fSub (xOp fAdd (xOp fSub (xVar 3) (xVar 9)) (xVar 5)) (xC (.int 1))) (xVar 5))) (gNm 8)) (R.map .int) [a, .sh (.int m), c, .sh (.int r.s), e, .sh (.int r.p), g, h', .sh (.int t), z] = pure (.nx, env') ∧ ∃ z, env' = [a, .sh (.int m), c, .sh (.int r.s), e, .sh (.int r.p), g, h', .sh (.int (t + sumL (fun x => qt r.p x m - qt r.p x r.s) R)), z] := by
        intro R
        induction R with
        | nil => intro t z; exact ⟨_, rfl, z, by simp only [sumL, Int.add_zero]⟩
        | cons x R ih =>
          intro t z
          obtain ⟨env', h1, z', h2⟩ := ih (t + qt r.p x m - qt r.p x r.s) (.sh (.int x))
          refine ⟨env', ?_, z', by rw [h2, show t + qt r.p x m - qt r.p x r.s + sumL (fun x => qt r.p x m - qt r.p x r.s) R = t + sumL (fun x => qt r.p x m - qt r.p x r.s) (x :: R) by simp only [sumL]; omega]⟩
          rw [List.map_cons, sFor.go]
          simp only [pb, fail_bind, lift_some, lift_none, xVar, xVarO, xC, xOp, xUn, xCall, xNil, xCons, xTest, xTruth, xNot, xAnd, xOr, xNotV, xAndV, xOrV, xIf, xChain, xTup, xLst, xAs, xFlat, xFlatL, iLst, iTupl, iOwn, iR1, iR2, gNm, gsNil, gsCons, gTp, sPass, sSeq, sBreak, sCont, sRet, sRetN, sIf, sAsg, sOwn, sExpr, sPar, sApp, thaw, sThaw, oNo, oSome, xSlice, xList, fList, lstOf, tupOf, asB, truth, fSub, fLt, fLe, fGt, fGe, fNeg, fIsN, fNotN, isNone, Option.bind_some, List.getElem?_cons_zero, List.getElem?_cons_succ, List.set_cons_zero, List.set_cons_succ, List.map_cons, List.map_nil, List.cons_append, List.nil_append, List.replicate_succ, List.replicate_zero, if_true, if_false, Bool.true_eq_false, Bool.false_eq_true, fAdd_int, fDiv_pos hp hp2]
          exact h1
      rw [hR]
      exact gen r.R _ .no
    obtain ⟨env', e1, z, e2⟩ := lp (.sh (rhD r)) .no (.sh (.str (Str.ofString "rhythm"))) .no (.sh (dI r.M)) .no (.sh (dI r.R)) .no _ rfl
    subst e2
    refine runDef_ex rfl ?_
    unfold count_toB
    simp only [rhD, dI] at e1
    simp only [pb, fail_bind, lift_some, lift_none, xVar, xVarO, xC, xOp, xUn, xCall, xNil, xCons, xTest, xTruth, xNot, xAnd, xOr, xNotV, xAndV, xOrV, xIf, xChain, xTup, xLst, xAs, xFlat, xFlatL, iLst, iTupl, iOwn, iR1, iR2, gNm, gsNil, gsCons, gTp, sPass, sSeq, sBreak, sCont, sRet, sRetN, sIf, sAsg, sOwn, sExpr, sPar, sApp, thaw, sThaw, oNo, oSome, xSlice, xList, fList, lstOf, tupOf, asB, truth, fSub, fLt, fLe, fGt, fGe, fNeg, fIsN, fNotN, isNone, Option.bind_some, List.getElem?_cons_zero, List.getElem?_cons_succ, List.set_cons_zero, List.set_cons_succ, List.map_cons, List.map_nil, List.cons_append, List.nil_append, List.replicate_succ, List.replicate_zero, if_true, if_false, Bool.true_eq_false, Bool.false_eq_true, rhD, dI, List.length_cons, List.length_nil, Nat.zero_add, Nat.reduceAdd, decide_eq_false h, fLen_list, List.length_map, sFor, e1, if_neg h]
    exact ⟨_, rfl⟩
theorem nth_run (r : Rh) (h : r.Ok) (hp2 : r.p < 1073741824) (hM : r.M.length ≤ line) (hR : r.R.length < 1073741824) (hR2 : r.R.length ≤ line) (k : Nat) : nthF [rhD r, .int k] = some (match r.nthT k with | some t => .int t | none => .none) := by
  have hp := h.p0
  have hrl : r.row.length = r.R.length := by unfold Rh.row; rw [(sortP _).length_eq, List.length_map]
  have key : ∃ env', nthB [.sh (rhD r), .sh (.int k), .no, .no, .no, .no, .no, .no, .no, .no] = pure (.rt (match r.nthT k with | some t => .int t | none => .none), env') := by
    unfold nthB
    by_cases h1 : k < r.M.length
    · have e1 : ((k : Int) < r.M.length) := by omega
      have e2 : atI (r.M.map PyData.int) (k : Int) = some (.int r.M[k]) := atI_nat (by rw [List.getElem?_map, List.getElem?_eq_getElem h1]; rfl)
      have e3 : r.nthT k = some r.M[k] := by unfold Rh.nthT; rw [dif_pos h1]
      simp only [pb, fail_bind, lift_some, lift_none, xVar, xVarO, xC, xOp, xUn, xCall, xNil, xCons, xTest, xTruth, xNot, xAnd, xOr, xNotV, xAndV, xOrV, xIf, xChain, xTup, xLst, xAs, xFlat, xFlatL, iLst, iTupl, iOwn, iR1, iR2, gNm, gsNil, gsCons, gTp, sPass, sSeq, sBreak, sCont, sRet, sRetN, sIf, sAsg, sOwn, sExpr, sPar, sApp, thaw, sThaw, oNo, oSome, xSlice, xList, fList, lstOf, tupOf, asB, truth, fSub, fLt, fLe, fGt, fGe, fNeg, fIsN, fNotN, isNone, Option.bind_some, List.getElem?_cons_zero, List.getElem?_cons_succ, List.set_cons_zero, List.set_cons_succ, List.map_cons, List.map_nil, List.cons_append, List.nil_append, List.replicate_succ, List.replicate_zero, if_true, if_false, Bool.true_eq_false, Bool.false_eq_true, rhD, dI, List.length_cons, List.length_nil, Nat.zero_add, Nat.reduceAdd, fLen_list, List.length_map, decide_eq_true e1, fIx, e2, e3]
      exact ⟨_, rfl⟩
    · have e1 : ¬ ((k : Int) < r.M.length) := by omega
      by_cases h2 : r.R = []
      · have e3 : r.nthT k = none := by unfold Rh.nthT; rw [dif_neg h1, if_pos h2]
        simp only [pb, fail_bind, lift_some, lift_none, xVar, xVarO, xC, xOp, xUn, xCall, xNil, xCons, xTest, xTruth, xNot, xAnd, xOr, xNotV, xAndV, xOrV, xIf, xChain, xTup, xLst, xAs, xFlat, xFlatL, iLst, iTupl, iOwn, iR1, iR2, gNm, gsNil, gsCons, gTp, sPass, sSeq, sBreak, sCont, sRet, sRetN, sIf, sAsg, sOwn, sExpr, sPar, sApp, thaw, sThaw, oNo, oSome, xSlice, xList, fList, lstOf, tupOf, asB, truth, fSub, fLt, fLe, fGt, fGe, fNeg, fIsN, fNotN, isNone, Option.bind_some, List.getElem?_cons_zero, List.getElem?_cons_succ, List.set_cons_zero, List.set_cons_succ, List.map_cons, List.map_nil, List.cons_append, List.nil_append, List.replicate_succ, List.replicate_zero, if_true, if_false, Bool.true_eq_false, Bool.false_eq_true, rhD, dI, List.length_cons, List.length_nil, Nat.zero_add, Nat.reduceAdd, fLen_list, List.length_map, decide_eq_false e1, h2, e3, List.isEmpty_nil, Bool.not_true, Bool.not_false]
        exact ⟨_, rfl⟩
      · have hne : (r.R.map PyData.int).isEmpty = false := by
          cases q : r.R with
          | nil => exact absurd q h2
          | cons => rfl
        have hpos : 0 < r.R.length := List.length_pos_iff.mpr h2
        have hc : ∀ x8 : Slot, compL (gNm 9) tYesF (xOp fAdd (xVar 3) (xOp fMod (xOp fSub (xVar 9) (xVar 3)) (xVar 5))) [.sh (rhD r), .sh (.int k), .sh (.str (Str.ofString "rhythm")), .sh (.int r.s), .sh (dI r.M), .sh (.int r.p), .sh (dI r.R), .sh (.int ((k : Int) - r.M.length)), x8, .no] (r.R.map .int) = pure ((r.R.map fun x => r.s + (x - r.s) % r.p).map .int) := fun x8 => by
          rw [compL_all .int (fun x => .int (r.s + (x - r.s) % r.p)) r.R fun x hx => ⟨_, rfl, ?_⟩]
          · rw [List.map_map]; rfl
          · simp only [pb, fail_bind, lift_some, lift_none, xVar, xVarO, xC, xOp, xUn, xCall, xNil, xCons, xTest, xTruth, xNot, xAnd, xOr, xNotV, xAndV, xOrV, xIf, xChain, xTup, xLst, xAs, xFlat, xFlatL, iLst, iTupl, iOwn, iR1, iR2, gNm, gsNil, gsCons, gTp, sPass, sSeq, sBreak, sCont, sRet, sRetN, sIf, sAsg, sOwn, sExpr, sPar, sApp, thaw, sThaw, oNo, oSome, xSlice, xList, fList, lstOf, tupOf, asB, truth, fSub, fLt, fLe, fGt, fGe, fNeg, fIsN, fNotN, isNone, Option.bind_some, List.getElem?_cons_zero, List.getElem?_cons_succ, List.set_cons_zero, List.set_cons_succ, List.map_cons, List.map_nil, List.cons_append, List.nil_append, List.replicate_succ, List.replicate_zero, if_true, if_false, Bool.true_eq_false, Bool.false_eq_true, fAdd_int, fMod_pos hp]
        have hs : fSorted (.list ((r.R.map fun x => r.s + (x - r.s) % r.p).map PyData.int)) = some (r.row.map .int) := by
          show (asInts _).bind _ = _
          rw [asInts_map, Option.bind_some, if_pos (by rw [List.length_map]; exact hR2)]
          rfl
        have hl0 : (0 : Int) < r.row.length := by omega
        have hl1 : (r.row.length : Int) < 1073741824 := by omega
        have hkl : (k : Int) - r.M.length = ((k - r.M.length : Nat) : Int) := by omega
        have hmod : ((k - r.M.length) % r.row.length) < r.row.length := Nat.mod_lt _ (by omega)
        have hat : atI (r.row.map PyData.int) (((k - r.M.length : Nat) : Int) % (r.row.length : Int)) = some (.int r.row[(k - r.M.length) % r.row.length]) := by
          rw [← Int.natCast_emod]
          exact atI_nat (by rw [List.getElem?_map, List.getElem?_eq_getElem hmod]; rfl)
        have e3 : r.nthT k = some (r.row[(k - r.M.length) % r.row.length] + r.p * (((k - r.M.length) / r.row.length : Nat) : Int)) := by
          unfold Rh.nthT
          rw [dif_neg h1, if_neg h2, List.getElem?_eq_getElem hmod]
          rfl
        have hw : ∀ a b c d e f g h i : Slot, wipeE [a, b, c, d, e, f, g, h, i, .no] [9] = some [a, b, c, d, e, f, g, h, i, .no] := fun a b c d e f g h i => rfl
        have hdiv : ((k - r.M.length : Nat) : Int) / (r.row.length : Int) = (((k - r.M.length) / r.row.length : Nat) : Int) := by
          rw [Int.natCast_ediv]
        simp only [rhD, dI] at hc
        simp only [hkl] at hc
        simp only [pb, fail_bind, lift_some, lift_none, xVar, xVarO, xC, xOp, xUn, xCall, xNil, xCons, xTest, xTruth, xNot, xAnd, xOr, xNotV, xAndV, xOrV, xIf, xChain, xTup, xLst, xAs, xFlat, xFlatL, iLst, iTupl, iOwn, iR1, iR2, gNm, gsNil, gsCons, gTp, sPass, sSeq, sBreak, sCont, sRet, sRetN, sIf, sAsg, sOwn, sExpr, sPar, sApp, thaw, sThaw, oNo, oSome, xSlice, xList, fList, lstOf, tupOf, asB, truth, fSub, fLt, fLe, fGt, fGe, fNeg, fIsN, fNotN, isNone, Option.bind_some, List.getElem?_cons_zero, List.getElem?_cons_succ, List.set_cons_zero, List.set_cons_succ, List.map_cons, List.map_nil, List.cons_append, List.nil_append, List.replicate_succ, List.replicate_zero, if_true, if_false, Bool.true_eq_false, Bool.false_eq_true, rhD, dI, List.length_cons, List.length_nil, Nat.zero_add, Nat.reduceAdd, fLen_list, List.length_map, decide_eq_false e1, hne, Bool.not_true, Bool.not_false, xComp, hw, if_pos hR2, hkl, hc, xSorted, hs, fMod_pos hl0, fIx, hat, fDiv_pos hl0 hl1, hdiv, fMul_l (inW_of (show -(2 ^ 64) < r.p by omega) (show r.p < 2 ^ 64 by omega)), fAdd_int, e3]
        exact ⟨_, rfl⟩
  obtain ⟨env', e⟩ := key
  exact runDef_rt rfl e

theorem eqvAll_ints : ∀ xs ys : List Int, PyData.eqvAll (xs.map .int) (ys.map .int) = decide (xs = ys)
  | [], [] => by simp [PyData.eqvAll]
  | [], y :: ys => by simp [PyData.eqvAll]
  | x :: xs, [] => by simp [PyData.eqvAll]
  | x :: xs, y :: ys => by
    rw [List.map_cons, List.map_cons, PyData.eqvAll, eqv_int, eqvAll_ints xs ys]
    by_cases h : x = y <;> by_cases h2 : xs = ys <;> simp [h, h2]
theorem shp_ints (xs : List Int) : shp (.list (xs.map .int)) = true := by
  have h1 : PyData.canLayAll0 (xs.map .int) = true := by
    induction xs with
    | nil => rw [List.map_nil, PyData.canLayAll0]
    | cons x r ih => rw [List.map_cons, PyData.canLayAll0, PyData.canLay0, ih]; rfl
  have h2 : PyData.depthAll (xs.map .int) = 0 := by
    clear h1
    induction xs with
    | nil => rw [List.map_nil, PyData.depthAll]
    | cons x r ih => rw [List.map_cons, PyData.depthAll, PyData.depth, ih]; rfl
  unfold shp SeqAt.shaped
  rw [PyData.canLay0, PyData.depth, h1, h2]
  rfl
theorem fEq_ints (xs ys : List Int) : fEq (.list (xs.map .int)) (.list (ys.map .int)) = some (.bool (decide (xs = ys))) := by
  unfold fEq
  rw [shp_ints xs, shp_ints ys]
  have e : PyData.eqv (.list (xs.map .int)) (.list (ys.map .int)) = decide (xs = ys) := by
    rw [PyData.eqv, eqvAll_ints]
  rw [e]
  rfl
/-- a loop that may break off -/
theorem for_brk {g : GF} {body : SF} (I : En → Prop) (J : En → Prop) : ∀ (xs : List D) (env : En), I env →
    (∀ x ∈ xs, ∀ env, I env → ∃ env1 fl env2, g x env = some env1 ∧ body env1 = pure (fl, env2) ∧ ((fl = .nx ∧ I env2) ∨ (fl = .bk ∧ J env2))) →
    ∃ env', sFor.go g body xs env = pure (.nx, env') ∧ (I env' ∨ J env')
  | [], env, h0, _ => ⟨env, rfl, .inl h0⟩
  | x :: r, env, h0, H => by
    obtain ⟨env1, fl, env2, h1, h2, h3⟩ := H x List.mem_cons_self env h0
    rcases h3 with ⟨rfl, h3⟩ | ⟨rfl, h3⟩
    · obtain ⟨env', h4, h5⟩ := for_brk I J r env2 h3 fun y hy => H y (List.mem_cons_of_mem _ hy)
      refine ⟨env', ?_, h5⟩
      rw [sFor.go, h1, lift_some, pb, h2, pb]
      exact h4
    · refine ⟨env2, ?_, .inr h3⟩
      rw [sFor.go, h1, lift_some, pb, h2, pb]
/-! rhythms without marks that start at 0 -/
def rz (p : Int) (R : List Int) : Rh := ⟨0, [], p, R⟩
theorem rz_ok {p : Int} {R : List Int} (hp : 0 < p) (hs : R.Pairwise (· < ·)) (hb : ∀ x ∈ R, 0 ≤ x ∧ x < p) : (rz p R).Ok := ⟨Int.le_refl _, hp, .nil, fun x hx => absurd hx (by simp [rz]), hs, hb⟩
theorem rz_goes (p : Int) (R : List Int) {m : Int} (hm : 0 ≤ m) : (rz p R).goes m = decide (m % p ∈ R) := by
  unfold Rh.goes rz
  rw [if_neg (by show ¬ m < 0; omega)]
/-- 0, 1, .. below n -/
def ups (n : Nat) : List Int := (List.range n).map fun (k : Nat) => (k : Int)
theorem rangeL_ups (n : Nat) : rangeL 0 (n : Int) = (ups n).map .int := by
  rw [rangeL0, ups, List.map_map]
  rfl
theorem mem_ups {n : Nat} {x : Int} : x ∈ ups n ↔ 0 ≤ x ∧ x < n := by
  unfold ups
  rw [List.mem_map]
  constructor
  · rintro ⟨k, hk, rfl⟩
    have := List.mem_range.mp hk
    omega
  · intro h
    exact ⟨x.toNat, List.mem_range.mpr (by omega), by omega⟩
theorem ups_lt (n : Nat) : (ups n).Pairwise (· < ·) := by
  unfold ups
  rw [List.pairwise_map]
  exact List.pairwise_lt_range.imp fun h => by omega
theorem ups_len (n : Nat) : (ups n).length = n := by simp [ups]
theorem ups_succ (n : Nat) : ups (n + 1) = ups n ++ [(n : Int)] := by
  unfold ups
  rw [List.range_succ, List.map_append]
  rfl
theorem lt_len {R : List Int} {p : Nat} (hs : R.Pairwise (· < ·)) (hb : ∀ x ∈ R, 0 ≤ x ∧ x < (p : Int)) : R.length ≤ p := by
  have h1 : R.Nodup := nodup_of hs
  have := List.Nodup.length_le_of_subset h1 (l₂ := ups p) fun x hx => mem_ups.mpr (hb x hx)
  rwa [ups_len] at this
theorem sp_p {s r : SF} {env env1 : En} {fl : Fl} (h : s env = pure (.nx, env1)) (k : ∃ e, r env1 = pure (fl, e)) : ∃ e, sSeq s r env = pure (fl, e) := by
  rw [seq_pure h]
  exact k
theorem sp_ret {f : EF} {env : En} {x : D} (h : f env = pure x) : ∃ e, sRet f env = pure (.rt x, e) := by
  refine ⟨env, ?_⟩
  unfold sRet
  rw [h]
  rfl
theorem fIn_ints' (x : Int) (xs : List Int) : fIn (.int x) (.list (xs.map .int)) = some (.bool (decide (x ∈ xs))) := fIn_int x xs
/-- the greatest common part -/
theorem common_run (n : Nat) (a b : Int) (ha : 0 < a) (hb : 0 ≤ b) (hn : b.toNat < n) : ∃ g : Int, commonF n [.int a, .int b] = some (.int g) ∧ 0 < g ∧ g ≤ a ∧ g ∣ a ∧ g ∣ b := by
  obtain ⟨env', h1, h2⟩ := while_inv (t := xTest (xOp fGt (xVar 1) (xC (.int 0)))) (body := sPar 0 1 (xCons (xVar 1) (xCons (xOp fMod (xVar 0) (xVar 1)) xNil)))
    (fun env => ∃ x y : Int, env = [.sh (.int x), .sh (.int y)] ∧ 0 < x ∧ 0 ≤ y ∧ ∀ d, d ∣ x → d ∣ y → d ∣ a ∧ d ∣ b)
    (fun env => match env with | [_, .sh (.int y)] => y.toNat | _ => 0)
    (fun env => ∃ x : Int, env = [.sh (.int x), .sh (.int 0)] ∧ 0 < x ∧ x ∣ a ∧ x ∣ b)
    (fun env hI => by
      obtain ⟨x, y, rfl, hx, hy, hd⟩ := hI
      by_cases h : y > 0
      · refine .inr ⟨by simp only [pb, fail_bind, lift_some, lift_none, xVar, xVarO, xC, xOp, xUn, xCall, xNil, xCons, xTest, xTruth, xNot, xAnd, xOr, xNotV, xAndV, xOrV, xIf, xChain, xTup, xLst, xAs, xFlat, xFlatL, iLst, iTupl, iOwn, iR1, iR2, gNm, gsNil, gsCons, gTp, sPass, sSeq, sBreak, sCont, sRet, sRetN, sIf, sAsg, sOwn, sExpr, sPar, sApp, thaw, sThaw, oNo, oSome, xSlice, xList, fList, lstOf, tupOf, asB, truth, fSub, fLt, fLe, fGt, fGe, fNeg, fIsN, fNotN, isNone, Option.bind_some, List.getElem?_cons_zero, List.getElem?_cons_succ, List.set_cons_zero, List.set_cons_succ, List.map_cons, List.map_nil, List.cons_append, List.nil_append, List.replicate_succ, List.replicate_zero, if_true, if_false, Bool.true_eq_false, Bool.false_eq_true, decide_eq_true h], .nx, [.sh (.int y), .sh (.int (x % y))], by simp only [pb, fail_bind, lift_some, lift_none, xVar, xVarO, xC, xOp, xUn, xCall, xNil, xCons, xTest, xTruth, xNot, xAnd, xOr, xNotV, xAndV, xOrV, xIf, xChain, xTup, xLst, xAs, xFlat, xFlatL, iLst, iTupl, iOwn, iR1, iR2, gNm, gsNil, gsCons, gTp, sPass, sSeq, sBreak, sCont, sRet, sRetN, sIf, sAsg, sOwn, sExpr, sPar, sApp, thaw, sThaw, oNo, oSome, xSlice, xList, fList, lstOf, tupOf, asB, truth, fSub, fLt, fLe, fGt, fGe, fNeg, fIsN, fNotN, isNone, Option.bind_some, List.getElem?_cons_zero, List.getElem?_cons_succ, List.set_cons_zero, List.set_cons_succ, List.map_cons, List.map_nil, List.cons_append, List.nil_append, List.replicate_succ, List.replicate_zero, if_true, if_false, Bool.true_eq_false, Bool.false_eq_true, fMod_pos h], .inl rfl, ⟨y, x % y, rfl, h, Int.emod_nonneg _ (by omega), fun d h1 h2 => ?_⟩, ?_⟩
        · refine hd d ?_ h1
          have e := Int.mul_ediv_add_emod x y
          rw [← e]
          exact Int.dvd_add (Int.dvd_trans h1 (Int.dvd_mul_right _ _)) h2
        · have := Int.emod_lt_of_pos x h
          have := Int.emod_nonneg x (show y ≠ 0 by omega)
          show (x % y).toNat < y.toNat
          omega
      · have : y = 0 := by omega
        subst this
        exact .inl ⟨by simp only [pb, fail_bind, lift_some, lift_none, xVar, xVarO, xC, xOp, xUn, xCall, xNil, xCons, xTest, xTruth, xNot, xAnd, xOr, xNotV, xAndV, xOrV, xIf, xChain, xTup, xLst, xAs, xFlat, xFlatL, iLst, iTupl, iOwn, iR1, iR2, gNm, gsNil, gsCons, gTp, sPass, sSeq, sBreak, sCont, sRet, sRetN, sIf, sAsg, sOwn, sExpr, sPar, sApp, thaw, sThaw, oNo, oSome, xSlice, xList, fList, lstOf, tupOf, asB, truth, fSub, fLt, fLe, fGt, fGe, fNeg, fIsN, fNotN, isNone, Option.bind_some, List.getElem?_cons_zero, List.getElem?_cons_succ, List.set_cons_zero, List.set_cons_succ, List.map_cons, List.map_nil, List.cons_append, List.nil_append, List.replicate_succ, List.replicate_zero, if_true, if_false, Bool.true_eq_false, Bool.false_eq_true]; rfl, x, rfl, hx, (hd x (Int.dvd_refl _) (Int.dvd_zero _)).1, (hd x (Int.dvd_refl _) (Int.dvd_zero _)).2⟩)
    n [.sh (.int a), .sh (.int b)] ⟨a, b, rfl, ha, hb, fun d h1 h2 => ⟨h1, h2⟩⟩ hn
  obtain ⟨g, rfl, h3, h4, h5⟩ := h2
  refine ⟨g, runDef_ex rfl ?_, h3, Int.le_of_dvd ha h4, h4, h5⟩
  unfold commonB
  exact ⟨[.sh (.int g), .sh (.int 0)], (seq_pure h1).trans (by simp only [pb, fail_bind, lift_some, lift_none, xVar, xVarO, xC, xOp, xUn, xCall, xNil, xCons, xTest, xTruth, xNot, xAnd, xOr, xNotV, xAndV, xOrV, xIf, xChain, xTup, xLst, xAs, xFlat, xFlatL, iLst, iTupl, iOwn, iR1, iR2, gNm, gsNil, gsCons, gTp, sPass, sSeq, sBreak, sCont, sRet, sRetN, sIf, sAsg, sOwn, sExpr, sPar, sApp, thaw, sThaw, oNo, oSome, xSlice, xList, fList, lstOf, tupOf, asB, truth, fSub, fLt, fLe, fGt, fGe, fNeg, fIsN, fNotN, isNone, Option.bind_some, List.getElem?_cons_zero, List.getElem?_cons_succ, List.set_cons_zero, List.set_cons_succ, List.map_cons, List.map_nil, List.cons_append, List.nil_append, List.replicate_succ, List.replicate_zero, if_true, if_false, Bool.true_eq_false, Bool.false_eq_true])⟩
def rzD (p : Int) (R : List Int) : D := .tuple [.str (Str.ofString "rhythm"), .int 0, .list [], .int p, .list (R.map .int)]
theorem rhD_rz (p : Int) (R : List Int) : rhD (rz p R) = rzD p R := rfl
theorem least_z (n : Nat) (p : Nat) (R : List Int) (hn : 0 < n) (hp : 0 < p) (hp2 : p ≤ 1000000) (hs : R.Pairwise (· < ·)) (hb : ∀ x ∈ R, 0 ≤ x ∧ x < (p : Int)) :
    ∃ (p' : Nat) (R' : List Int), leastF n [rzD p R] = some (rzD p' R') ∧ 0 < p' ∧ p' ≤ p ∧ R'.Pairwise (· < ·) ∧ (∀ x ∈ R', 0 ≤ x ∧ x < (p' : Int)) ∧ ∀ m : Int, (m % (p' : Int) ∈ R') ↔ (m % (p : Int) ∈ R) := by
  have hlR : R.length ≤ line := Nat.le_trans (lt_len hs hb) (Nat.le_trans hp2 (by decide))
  obtain ⟨env', h1, h2⟩ := for_brk (g := gNm 6) (body := sIf (xTest (xOp fEq (xOp fMod (xVar 4) (xVar 6)) (xC (.int 0)))) (sSeq (sAsg (xAs (xComp [8] (iLst (xVar 5)) (gNm 8) (xTest (xOp fLt (xVar 8) (xVar 6))) (xVar 8))) (gNm 7))
    (sIf (xTest (xOp fEq (xVar 5) (xAs (xComp [8] (iR1 (xCons (xVar 4) xNil)) (gNm 8) (xTest (xOp fIn (xOp fMod (xVar 8) (xVar 6)) (xVar 7))) (xVar 8))))) (sSeq (sPar 4 5 (xCons (xVar 6) (xCons (xVar 7) xNil)))
    sBreak) sPass)) sPass)
    (fun env => ∃ z6 z7 : Slot, env = [.sh (rzD p R), .sh (.str (Str.ofString "rhythm")), .sh (.int 0), .sh (.list []), .sh (.int p), .sh (dI R), z6, z7, .no, .no])
    (fun env => ∃ (q : Nat) (z6 z7 : Slot), 0 < q ∧ q ≤ p ∧ (q : Int) ∣ (p : Int) ∧ R = (ups p).filter (fun x => decide (x % (q : Int) ∈ R.filter fun y => decide (y < (q : Int)))) ∧
      env = [.sh (rzD p R), .sh (.str (Str.ofString "rhythm")), .sh (.int 0), .sh (.list []), .sh (.int q), .sh (dI (R.filter fun y => decide (y < (q : Int)))), z6, z7, .no, .no])
    (rangeL 1 ((p : Int) + 1)) [.sh (rzD p R), .sh (.str (Str.ofString "rhythm")), .sh (.int 0), .sh (.list []), .sh (.int p), .sh (dI R), .no, .no, .no, .no] ⟨_, _, rfl⟩ (fun x hx env hI => by
      obtain ⟨z6, z7, rfl⟩ := hI
      unfold rangeL at hx
      obtain ⟨k, hk, rfl⟩ := List.mem_map.mp hx
      have hk := List.mem_range.mp hk
      obtain ⟨q, hq⟩ : ∃ q : Nat, (1 : Int) + (k : Int) = (q : Int) := ⟨1 + k, by omega⟩
      rw [hq]
      have hq0 : 0 < q := by omega
      have hqp : q ≤ p := by omega
      have hq' : (0 : Int) < (q : Int) := by omega
      by_cases hd : (p : Int) % (q : Int) = 0
      · have hc1 : compL (gNm 8) (xTest (xOp fLt (xVar 8) (xVar 6))) (xVar 8) [.sh (rzD p R), .sh (.str (Str.ofString "rhythm")), .sh (.int 0), .sh (.list []), .sh (.int p), .sh (dI R), .sh (.int q), z7, .no, .no] (R.map .int) = pure ((R.filter fun y => decide (y < (q : Int))).map .int) :=
          filter_lt_comp R q fun x hx => ⟨_, rfl, rfl, fun _ => rfl⟩
        have hc2 : compL (gNm 8) (xTest (xOp fIn (xOp fMod (xVar 8) (xVar 6)) (xVar 7))) (xVar 8) [.sh (rzD p R), .sh (.str (Str.ofString "rhythm")), .sh (.int 0), .sh (.list []), .sh (.int p), .sh (dI R), .sh (.int q), .sh (dI (R.filter fun y => decide (y < (q : Int)))), .no, .no] ((ups p).map .int) = pure (((ups p).filter (fun x => decide (x % (q : Int) ∈ R.filter fun y => decide (y < (q : Int))))).map .int) :=
          compL_map .int (fun x => decide (x % (q : Int) ∈ R.filter fun y => decide (y < (q : Int)))) .int (ups p) fun x hx => ⟨_, rfl, by simp only [pb, fail_bind, lift_some, lift_none, xVar, xVarO, xC, xOp, xUn, xCall, xNil, xCons, xTest, xTruth, xNot, xAnd, xOr, xNotV, xAndV, xOrV, xIf, xChain, xTup, xLst, xAs, xFlat, xFlatL, iLst, iTupl, iOwn, iR1, iR2, gNm, gsNil, gsCons, gTp, sPass, sSeq, sBreak, sCont, sRet, sRetN, sIf, sAsg, sOwn, sExpr, sPar, sApp, thaw, sThaw, oNo, oSome, xSlice, xList, fList, lstOf, tupOf, asB, truth, fSub, fLt, fLe, fGt, fGe, fNeg, fIsN, fNotN, isNone, Option.bind_some, List.getElem?_cons_zero, List.getElem?_cons_succ, List.set_cons_zero, List.set_cons_succ, List.map_cons, List.map_nil, List.cons_append, List.nil_append, List.replicate_succ, List.replicate_zero, if_true, if_false, Bool.true_eq_false, Bool.false_eq_true, dI, fMod_pos hq', fIn_int], fun _ => rfl⟩
        have e1 : sAsg (xAs (xComp [8] (iLst (xVar 5)) (gNm 8) (xTest (xOp fLt (xVar 8) (xVar 6))) (xVar 8))) (gNm 7) [.sh (rzD p R), .sh (.str (Str.ofString "rhythm")), .sh (.int 0), .sh (.list []), .sh (.int p), .sh (dI R), .sh (.int q), z7, .no, .no] = pure (.nx, [.sh (rzD p R), .sh (.str (Str.ofString "rhythm")), .sh (.int 0), .sh (.list []), .sh (.int p), .sh (dI R), .sh (.int q), .sh (dI (R.filter fun y => decide (y < (q : Int)))), .no, .no]) :=
          asg_p (xAs_p (xComp_p rfl rfl (by rw [List.length_map]; exact hlR) hc1)) rfl
        have e2 : xAs (xComp [8] (iR1 (xCons (xVar 4) xNil)) (gNm 8) (xTest (xOp fIn (xOp fMod (xVar 8) (xVar 6)) (xVar 7))) (xVar 8)) [.sh (rzD p R), .sh (.str (Str.ofString "rhythm")), .sh (.int 0), .sh (.list []), .sh (.int p), .sh (dI R), .sh (.int q), .sh (dI (R.filter fun y => decide (y < (q : Int)))), .no, .no] = pure (.list (((ups p).filter (fun x => decide (x % (q : Int) ∈ R.filter fun y => decide (y < (q : Int))))).map .int)) := by
          refine xAs_p (xComp_p (xs := rangeL 0 (p : Int)) ?_ rfl (by rw [rangeL_ups, List.length_map, ups_len]; exact Nat.le_trans hp2 (by decide)) ?_)
          · simp only [pb, fail_bind, lift_some, lift_none, xVar, xVarO, xC, xOp, xUn, xCall, xNil, xCons, xTest, xTruth, xNot, xAnd, xOr, xNotV, xAndV, xOrV, xIf, xChain, xTup, xLst, xAs, xFlat, xFlatL, iLst, iTupl, iOwn, iR1, iR2, gNm, gsNil, gsCons, gTp, sPass, sSeq, sBreak, sCont, sRet, sRetN, sIf, sAsg, sOwn, sExpr, sPar, sApp, thaw, sThaw, oNo, oSome, xSlice, xList, fList, lstOf, tupOf, asB, truth, fSub, fLt, fLe, fGt, fGe, fNeg, fIsN, fNotN, isNone, Option.bind_some, List.getElem?_cons_zero, List.getElem?_cons_succ, List.set_cons_zero, List.set_cons_succ, List.map_cons, List.map_nil, List.cons_append, List.nil_append, List.replicate_succ, List.replicate_zero, if_true, if_false, Bool.true_eq_false, Bool.false_eq_true, small62_nat hp2]
          · rw [rangeL_ups]; exact hc2
        by_cases hR : R = (ups p).filter (fun x => decide (x % (q : Int) ∈ R.filter fun y => decide (y < (q : Int))))
        · refine ⟨_, .bk, [.sh (rzD p R), .sh (.str (Str.ofString "rhythm")), .sh (.int 0), .sh (.list []), .sh (.int q), .sh (dI (R.filter fun y => decide (y < (q : Int)))), .sh (.int q), .sh (dI (R.filter fun y => decide (y < (q : Int)))), .no, .no], rfl, ?_, .inr ⟨rfl, q, _, _, hq0, hqp, Int.dvd_of_emod_eq_zero hd, hR, rfl⟩⟩
          have et : xTest (xOp fEq (xVar 5) (xAs (xComp [8] (iR1 (xCons (xVar 4) xNil)) (gNm 8) (xTest (xOp fIn (xOp fMod (xVar 8) (xVar 6)) (xVar 7))) (xVar 8)))) [.sh (rzD p R), .sh (.str (Str.ofString "rhythm")), .sh (.int 0), .sh (.list []), .sh (.int p), .sh (dI R), .sh (.int q), .sh (dI (R.filter fun y => decide (y < (q : Int)))), .no, .no] = pure true := by
            refine test_p (op_p rfl e2 ?_)
            rw [show dI R = .list (R.map .int) from rfl, fEq_ints]
            exact congrArg (fun b => some (PyData.bool b)) (decide_eq_true hR)
          exact (if_then (test_p (op_p (op_p rfl rfl (fMod_pos hq')) rfl ((fEq_int _ _).trans (congrArg (fun b => some (PyData.bool b)) (decide_eq_true hd)))))).trans ((seq_pure e1).trans ((if_then et).trans rfl))
        · refine ⟨_, .nx, [.sh (rzD p R), .sh (.str (Str.ofString "rhythm")), .sh (.int 0), .sh (.list []), .sh (.int p), .sh (dI R), .sh (.int q), .sh (dI (R.filter fun y => decide (y < (q : Int)))), .no, .no], rfl, ?_, .inl ⟨rfl, _, _, rfl⟩⟩
          have et : xTest (xOp fEq (xVar 5) (xAs (xComp [8] (iR1 (xCons (xVar 4) xNil)) (gNm 8) (xTest (xOp fIn (xOp fMod (xVar 8) (xVar 6)) (xVar 7))) (xVar 8)))) [.sh (rzD p R), .sh (.str (Str.ofString "rhythm")), .sh (.int 0), .sh (.list []), .sh (.int p), .sh (dI R), .sh (.int q), .sh (dI (R.filter fun y => decide (y < (q : Int)))), .no, .no] = pure false := by
            refine test_p (op_p rfl e2 ?_)
            rw [show dI R = .list (R.map .int) from rfl, fEq_ints]
            exact congrArg (fun b => some (PyData.bool b)) (decide_eq_false hR)
          exact (if_then (test_p (op_p (op_p rfl rfl (fMod_pos hq')) rfl ((fEq_int _ _).trans (congrArg (fun b => some (PyData.bool b)) (decide_eq_true hd)))))).trans ((seq_pure e1).trans ((if_else et).trans rfl))
      · refine ⟨_, .nx, [.sh (rzD p R), .sh (.str (Str.ofString "rhythm")), .sh (.int 0), .sh (.list []), .sh (.int p), .sh (dI R), .sh (.int q), z7, .no, .no], rfl, ?_, .inl ⟨rfl, _, _, rfl⟩⟩
        refine if_skip ?_
        simp only [pb, fail_bind, lift_some, lift_none, xVar, xVarO, xC, xOp, xUn, xCall, xNil, xCons, xTest, xTruth, xNot, xAnd, xOr, xNotV, xAndV, xOrV, xIf, xChain, xTup, xLst, xAs, xFlat, xFlatL, iLst, iTupl, iOwn, iR1, iR2, gNm, gsNil, gsCons, gTp, sPass, sSeq, sBreak, sCont, sRet, sRetN, sIf, sAsg, sOwn, sExpr, sPar, sApp, thaw, sThaw, oNo, oSome, xSlice, xList, fList, lstOf, tupOf, asB, truth, fSub, fLt, fLe, fGt, fGe, fNeg, fIsN, fNotN, isNone, Option.bind_some, List.getElem?_cons_zero, List.getElem?_cons_succ, List.set_cons_zero, List.set_cons_succ, List.map_cons, List.map_nil, List.cons_append, List.nil_append, List.replicate_succ, List.replicate_zero, if_true, if_false, Bool.true_eq_false, Bool.false_eq_true, fMod_pos hq', fEq_int, decide_eq_false hd])
  have fin : ∀ (q : Nat) (S : List Int) (z6 z7 : Slot), env' = [.sh (rzD p R), .sh (.str (Str.ofString "rhythm")), .sh (.int 0), .sh (.list []), .sh (.int q), .sh (dI S), z6, z7, .no, .no] → leastF n [rzD p R] = some (rzD q S) := by
    intro q S z6 z7 he
    subst he
    refine runDef_ex rfl ?_
    unfold leastB
    refine sp_p (env1 := [.sh (rzD p R), .sh (.str (Str.ofString "rhythm")), .sh (.int 0), .sh (.list []), .sh (.int p), .sh (dI R), .no, .no, .no, .no]) rfl ?_
    have hsm : small62 ((p : Int) + 1) = true := by
      unfold small62
      rw [Bool.and_eq_true, decide_eq_true_eq, decide_eq_true_eq]
      omega
    refine sp_p (for_p (xs := rangeL 1 ((p : Int) + 1)) ?_ h1) ?_
    · simp only [pb, fail_bind, lift_some, lift_none, xVar, xVarO, xC, xOp, xUn, xCall, xNil, xCons, xTest, xTruth, xNot, xAnd, xOr, xNotV, xAndV, xOrV, xIf, xChain, xTup, xLst, xAs, xFlat, xFlatL, iLst, iTupl, iOwn, iR1, iR2, gNm, gsNil, gsCons, gTp, sPass, sSeq, sBreak, sCont, sRet, sRetN, sIf, sAsg, sOwn, sExpr, sPar, sApp, thaw, sThaw, oNo, oSome, xSlice, xList, fList, lstOf, tupOf, asB, truth, fSub, fLt, fLe, fGt, fGe, fNeg, fIsN, fNotN, isNone, Option.bind_some, List.getElem?_cons_zero, List.getElem?_cons_succ, List.set_cons_zero, List.set_cons_succ, List.map_cons, List.map_nil, List.cons_append, List.nil_append, List.replicate_succ, List.replicate_zero, if_true, if_false, Bool.true_eq_false, Bool.false_eq_true, fAdd_int, hsm, show small62 1 = true from rfl, Bool.and_self]
    refine sp_p (env1 := [.sh (rzD p R), .sh (.str (Str.ofString "rhythm")), .sh (.int 0), .sh (.list []), .sh (.int q), .sh (dI S), z6, z7, .no, .no]) rfl ?_
    refine sp_p (env1 := [.sh (rzD p R), .sh (.str (Str.ofString "rhythm")), .sh (.int 0), .sh (.list []), .sh (.int q), .sh (dI S), z6, z7, .no, .no]) ?_ ?_
    · obtain ⟨k, rfl⟩ : ∃ k, n = k + 1 := ⟨n - 1, by omega⟩
      unfold sWhile sWhile.go
      simp only [pb, fail_bind, lift_some, lift_none, xVar, xVarO, xC, xOp, xUn, xCall, xNil, xCons, xTest, xTruth, xNot, xAnd, xOr, xNotV, xAndV, xOrV, xIf, xChain, xTup, xLst, xAs, xFlat, xFlatL, iLst, iTupl, iOwn, iR1, iR2, gNm, gsNil, gsCons, gTp, sPass, sSeq, sBreak, sCont, sRet, sRetN, sIf, sAsg, sOwn, sExpr, sPar, sApp, thaw, sThaw, oNo, oSome, xSlice, xList, fList, lstOf, tupOf, asB, truth, fSub, fLt, fLe, fGt, fGe, fNeg, fIsN, fNotN, isNone, Option.bind_some, List.getElem?_cons_zero, List.getElem?_cons_succ, List.set_cons_zero, List.set_cons_succ, List.map_cons, List.map_nil, List.cons_append, List.nil_append, List.replicate_succ, List.replicate_zero, if_true, if_false, Bool.true_eq_false, Bool.false_eq_true, show decide ((0 : Int) > 0) = false from rfl]
    · exact ⟨_, rfl⟩
  rcases h2 with ⟨z6, z7, he⟩ | ⟨q, z6, z7, hq0, hqp, hd, hR, he⟩
  · exact ⟨p, R, fin p R z6 z7 he, hp, Nat.le_refl _, hs, hb, fun m => Iff.rfl⟩
  · refine ⟨q, _, fin q _ z6 z7 he, hq0, hqp, hs.filter _, fun x hx => ?_, fun m => ?_⟩
    · rw [List.mem_filter, decide_eq_true_eq] at hx
      exact ⟨(hb x hx.1).1, hx.2⟩
    · have e1 : m % (p : Int) ∈ R ↔ m % (p : Int) ∈ (ups p).filter (fun x => decide (x % (q : Int) ∈ R.filter fun y => decide (y < (q : Int)))) := by rw [← hR]
      have h1 := Int.emod_nonneg m (show (p : Int) ≠ 0 by omega)
      have h2 := Int.emod_lt_of_pos m (show (0 : Int) < (p : Int) by omega)
      refine Iff.trans ?_ e1.symm
      constructor
      · intro h
        exact List.mem_filter.mpr ⟨mem_ups.mpr ⟨h1, h2⟩, decide_eq_true (by rw [Int.emod_emod_of_dvd m hd]; exact h)⟩
      · intro h
        have h3 := of_decide_eq_true (List.mem_filter.mp h).2
        rw [Int.emod_emod_of_dvd m hd] at h3
        exact h3
theorem goes_rz (p : Nat) (R : List Int) (hp : 0 < p) (m : Int) (hm : 0 ≤ m) : goesF [rzD p R, .int m] = some (.bool (decide (m % (p : Int) ∈ R))) := by
  have h := goes_run (rz p R) (show (0 : Int) < (p : Int) by omega) m
  rw [rz_goes _ _ hm] at h
  exact h
/-- two rhythms put together -/
theorem put_z (n p q : Nat) (R S : List Int) (Wd : D) (f : Bool → Bool → Bool) (hp : 0 < p) (hq : 0 < q) (hpq : p * q ≤ 1000000) (hn : q < n)
    (hW : ∀ a b, fInD (.tuple [.bool a, .bool b]) Wd = some (.bool (f a b))) :
    ∃ (r : Nat) (U : List Int), put_togetherF n [rzD p R, rzD q S, Wd] = some (rzD r U) ∧ 0 < r ∧ r ≤ p * q ∧ U.Pairwise (· < ·) ∧ (∀ x ∈ U, 0 ≤ x ∧ x < (r : Int)) ∧
      ∀ m : Int, 0 ≤ m → decide (m % (r : Int) ∈ U) = f (decide (m % (p : Int) ∈ R)) (decide (m % (q : Int) ∈ S)) := by
  obtain ⟨g, hg, hg0, hga, hgp, hgq⟩ := common_run n p q (by omega) (by omega) (by omega)
  obtain ⟨L, hL⟩ : ∃ L : Nat, (p : Int) * (q : Int) / g = (L : Int) := ⟨((p : Int) * (q : Int) / g).toNat, by
    have : 0 ≤ (p : Int) * (q : Int) / g := Int.ediv_nonneg (Int.mul_nonneg (by omega) (by omega)) (by omega)
    omega⟩
  have hpd : (p : Int) ∣ (L : Int) := by
    obtain ⟨k, hk⟩ := hgq
    exact ⟨k, by rw [← hL, hk, Int.mul_comm g k, ← Int.mul_assoc, Int.mul_ediv_cancel _ (by omega)]⟩
  have hqd : (q : Int) ∣ (L : Int) := by
    obtain ⟨k, hk⟩ := hgp
    exact ⟨k, by rw [← hL, hk, Int.mul_assoc, Int.mul_ediv_cancel_left _ (by omega), Int.mul_comm]⟩
  have hLm : g * (L : Int) = (p : Int) * (q : Int) := by
    rw [← hL, Int.mul_ediv_cancel' (Int.dvd_trans hgp (Int.dvd_mul_right _ _))]
  have hpq0 : (0 : Int) < (p : Int) * (q : Int) := Int.mul_pos (by omega) (by omega)
  have hL0 : 0 < L := by
    rcases Nat.eq_zero_or_pos L with h | h
    · rw [h] at hLm; simp at hLm; omega
    · exact h
  have hLle : L ≤ p * q := by
    have h1 : (L : Int) ≤ g * (L : Int) := by
      have := Int.mul_le_mul_of_nonneg_right (show (1 : Int) ≤ g by omega) (show (0 : Int) ≤ (L : Int) by omega)
      rwa [Int.one_mul] at this
    rw [hLm] at h1
    exact Int.ofNat_le.mp (by rw [Int.natCast_mul]; exact h1)
  have hLb : L ≤ 1000000 := Nat.le_trans hLle hpq
  obtain ⟨c, hc⟩ : ∃ c : Int → Bool, c = fun m => f (decide (m % (p : Int) ∈ R)) (decide (m % (q : Int) ∈ S)) := ⟨_, rfl⟩
  have hin : ∀ (m : Int) (hm : 0 ≤ m) (env : En) (e0 : env[0]? = some (.sh (rzD p R))) (e1 : env[1]? = some (.sh (rzD q S))) (e2 : env[2]? = some (.sh Wd)) (e6 : env[6]? = some (.sh (.int m))),
      xTest (xOp fInD (xTup (xCons (xCall goesF (xCons (xVar 0) (xCons (xVar 6) xNil))) (xCons (xCall goesF (xCons (xVar 1) (xCons (xVar 6) xNil))) xNil))) (xVar 2)) env = pure (c m) := fun m hm env e0 e1 e2 e6 => by
    refine test_p (op_p (a := .tuple [.bool (decide (m % (p : Int) ∈ R)), .bool (decide (m % (q : Int) ∈ S))]) ?_ (xVar_at e2) ?_)
    · unfold xTup
      rw [cons_p (call_p (cons_p (xVar_at e0) (cons_p (xVar_at e6) nil_p)) (goes_rz p R hp m hm)) (cons_p (call_p (cons_p (xVar_at e1) (cons_p (xVar_at e6) nil_p)) (goes_rz q S hq m hm)) nil_p), pb]
      rfl
    · rw [hW, hc]
  have hd : fDiv (.int ((p : Int) * (q : Int))) (.int g) = some (.int (L : Int)) := by
    rw [← hL]
    refine fDiv_pos hg0 ?_
    have : p ≤ p * q := Nat.le_mul_of_pos_right p hq
    omega
  have hm : fMul (.int p) (.int q) = some (.int ((p : Int) * (q : Int))) := fMul_l (inW_of (by omega) (by
    have : p ≤ p * q := Nat.le_mul_of_pos_right p hq
    omega))
  obtain ⟨env', h1, z6, z8, h2⟩ := for_inv (g := gNm 8) (body := sSeq (sAsg (xOp fAdd (xVar 3) (xOp fMod (xOp fSub (xVar 8) (xVar 3)) (xVar 4))) (gNm 6))
    (sIf (xTest (xOp fInD (xTup (xCons (xCall goesF (xCons (xVar 0) (xCons (xVar 6) xNil))) (xCons (xCall goesF (xCons (xVar 1) (xCons (xVar 6) xNil))) xNil))) (xVar 2))) (sApp 7 (xVar 8)) sPass))
    (fun k env => ∃ z6 z8 : Slot, env = [.sh (rzD p R), .sh (rzD q S), .sh Wd, .sh (.int 0), .sh (.int L), .sh (.list []), z6, .ow (((ups k).filter c).map .int), z8])
    (rangeL 0 (L : Int)) 0 [.sh (rzD p R), .sh (rzD q S), .sh Wd, .sh (.int 0), .sh (.int L), .sh (.list []), .no, .ow [], .no] ⟨_, _, rfl⟩ (fun i x env hx ⟨z6, z8, hz⟩ => by
      obtain ⟨rfl, hi⟩ := rangeL0_get hx
      subst hz
      rw [Nat.zero_add]
      have hmod : fMod (.int ((i : Int) - 0)) (.int (L : Int)) = some (.int (i : Int)) := by
        rw [fMod_pos (by omega), Int.sub_zero, Int.emod_eq_of_lt (by omega) (by omega)]
      have e1 : sAsg (xOp fAdd (xVar 3) (xOp fMod (xOp fSub (xVar 8) (xVar 3)) (xVar 4))) (gNm 6) [.sh (rzD p R), .sh (rzD q S), .sh Wd, .sh (.int 0), .sh (.int L), .sh (.list []), z6, .ow (((ups i).filter c).map .int), .sh (.int i)] = pure (.nx, [.sh (rzD p R), .sh (rzD q S), .sh Wd, .sh (.int 0), .sh (.int L), .sh (.list []), .sh (.int i), .ow (((ups i).filter c).map .int), .sh (.int i)]) := by
        refine asg_p (op_p rfl (op_p (op_p rfl rfl rfl) rfl hmod) (c := .int i) ?_) rfl
        rw [fAdd_int, Int.zero_add]
      have e2 := hin (i : Int) (by omega) [.sh (rzD p R), .sh (rzD q S), .sh Wd, .sh (.int 0), .sh (.int L), .sh (.list []), .sh (.int i), .ow (((ups i).filter c).map .int), .sh (.int i)] rfl rfl rfl rfl
      cases hci : c (i : Int) with
      | true =>
        rw [hci] at e2
        refine ⟨_, .nx, [.sh (rzD p R), .sh (rzD q S), .sh Wd, .sh (.int 0), .sh (.int L), .sh (.list []), .sh (.int i), .ow ((((ups i).filter c).map .int) ++ [.int i]), .sh (.int i)], rfl, (seq_pure e1).trans ((if_then e2).trans ?_), .inl rfl, .sh (.int i), .sh (.int i), ?_⟩
        · unfold sApp
          rw [xVar_at (x := .int i) rfl, pb]
          have hlen : (((ups i).filter c).map PyData.int).length < line := by
            rw [List.length_map]
            refine Nat.lt_of_le_of_lt (List.length_filter_le _ _) ?_
            rw [ups_len]
            exact Nat.lt_of_lt_of_le hi (Nat.le_trans hLb (by decide))
          show (if (((ups i).filter c).map PyData.int).length < line then _ else _) = _
          rw [if_pos hlen]
          rfl
        · rw [ups_succ, List.filter_append, List.map_append, List.filter_cons_of_pos hci]
          rfl
      | false =>
        rw [hci] at e2
        refine ⟨_, .nx, [.sh (rzD p R), .sh (rzD q S), .sh Wd, .sh (.int 0), .sh (.int L), .sh (.list []), .sh (.int i), .ow (((ups i).filter c).map .int), .sh (.int i)], rfl, (seq_pure e1).trans ((if_else e2).trans rfl), .inl rfl, .sh (.int i), .sh (.int i), ?_⟩
        rw [ups_succ, List.filter_append, List.filter_cons_of_neg (by rw [hci]; decide)]
        simp)
  rw [rangeL_ups, List.length_map, ups_len, Nat.zero_add] at h2
  subst h2
  have hs : ((ups L).filter c).Pairwise (· < ·) := (ups_lt L).filter _
  obtain ⟨r, U, h3, hr0, hrL, hU, hUb, hm2⟩ := least_z n L ((ups L).filter c) (by omega) hL0 hLb hs (fun x hx => mem_ups.mp (List.mem_filter.mp hx).1)
  refine ⟨r, U, runDef_ex rfl ?_, hr0, Nat.le_trans hrL hLle, hU, hUb, fun m hm => ?_⟩
  · unfold put_togetherB
    refine sp_p (env1 := [.sh (rzD p R), .sh (rzD q S), .sh Wd, .sh (.int 0), .no, .no, .no, .no, .no]) rfl ?_
    refine sp_p (env1 := [.sh (rzD p R), .sh (rzD q S), .sh Wd, .sh (.int 0), .sh (.int L), .no, .no, .no, .no]) ?_ ?_
    · exact asg_p (op_p (op_p (op_p rfl rfl rfl) (op_p rfl rfl rfl) hm) (call_p (cons_p (op_p rfl rfl rfl) (cons_p (op_p rfl rfl rfl) nil_p)) hg) hd) rfl
    refine sp_p (env1 := [.sh (rzD p R), .sh (rzD q S), .sh Wd, .sh (.int 0), .sh (.int L), .sh (.list []), .no, .no, .no]) rfl ?_
    refine sp_p (env1 := [.sh (rzD p R), .sh (rzD q S), .sh Wd, .sh (.int 0), .sh (.int L), .sh (.list []), .no, .ow [], .no]) rfl ?_
    refine sp_p (for_p (xs := rangeL 0 (L : Int)) ?_ h1) ?_
    · simp only [pb, fail_bind, lift_some, lift_none, xVar, xVarO, xC, xOp, xUn, xCall, xNil, xCons, xTest, xTruth, xNot, xAnd, xOr, xNotV, xAndV, xOrV, xIf, xChain, xTup, xLst, xAs, xFlat, xFlatL, iLst, iTupl, iOwn, iR1, iR2, gNm, gsNil, gsCons, gTp, sPass, sSeq, sBreak, sCont, sRet, sRetN, sIf, sAsg, sOwn, sExpr, sPar, sApp, thaw, sThaw, oNo, oSome, xSlice, xList, fList, lstOf, tupOf, asB, truth, fSub, fLt, fLe, fGt, fGe, fNeg, fIsN, fNotN, isNone, Option.bind_some, List.getElem?_cons_zero, List.getElem?_cons_succ, List.set_cons_zero, List.set_cons_succ, List.map_cons, List.map_nil, List.cons_append, List.nil_append, List.replicate_succ, List.replicate_zero, if_true, if_false, Bool.true_eq_false, Bool.false_eq_true, small62_nat hLb]
    · exact sp_ret (call_p (xs := [rzD L ((ups L).filter c)]) rfl h3)
  · have h4 := hm2 m
    have e : m % (L : Int) ∈ (ups L).filter c ↔ c m = true := by
      rw [List.mem_filter, mem_ups]
      have hx1 := Int.emod_nonneg m (show (L : Int) ≠ 0 by omega)
      have hx2 := Int.emod_lt_of_pos m (show (0 : Int) < (L : Int) by omega)
      have : c (m % (L : Int)) = c m := by
        rw [hc]
        show f (decide (m % (L : Int) % (p : Int) ∈ R)) (decide (m % (L : Int) % (q : Int) ∈ S)) = _
        rw [Int.emod_emod_of_dvd m hpd, Int.emod_emod_of_dvd m hqd]
      rw [this]
      exact ⟨fun h => h.2, fun h => ⟨⟨hx1, hx2⟩, h⟩⟩
    have h5 := h4.trans e
    have h6 : c m = f (decide (m % (p : Int) ∈ R)) (decide (m % (q : Int) ∈ S)) := by rw [hc]
    rw [← h6]
    cases hcm : c m with
    | true => exact decide_eq_true (h5.mpr hcm)
    | false => exact decide_eq_false fun h => by rw [h5.mp h] at hcm; cases hcm

end VE

namespace VE
open PySem
/-! the finite part -/
def goT (o p m : Int) : Bool := decide (m % p = o)
def firstT (o p q r : Int) : Option Int := (ups 36).find? fun m => goT o p m && goT q r m
def optD : Option Int → D
  | some t => .int t
  | none => .none
def absT (i : Int) : Int := if i < 0 then -i else i
def chkM (o p q r : Int) : Bool := sameO (meetF 300 [.tuple [.int o, .int p], .tuple [.int q, .int r]]) (optD (firstT o p q r)) && (sameO (commonF 300 [.int p, .int r]) (.int (Int.gcd p r)) && ((firstT o p q r).isSome == decide (absT (o - q) / (Int.gcd p r : Int) * (Int.gcd p r : Int) = absT (o - q))))
def minsT (ps os : List Int) : List Int := (ups 60).filter fun m => (os.zip ps).any fun x => goT x.1 x.2 m
def pairT : List (Int × Int) → Bool
  | [] => true
  | x :: r => (r.all fun y => (firstT y.1 y.2 x.1 x.2).isNone) && pairT r
def okO (ps os : List Int) : Bool := decide (os.length = ps.length) && ((os.zip ps).all fun x => decide (0 ≤ x.1) && decide (x.1 < x.2)) && pairT (os.zip ps) && decide (((minsT ps os).length : Int) = (ps.map fun p => 60 / p).sum)
def okX (ps : List Int) (x : D) : Bool := match x with
  | .list xs => match asInts xs with
    | some os => same x (dI os) && okO ps os
    | none => false
  | _ => false
def chkA (ps : List Int) : Bool := match spreadF 300 [dI ps] with
  | some (.tuple [.str s, x]) => sameO (spread_faultF 300 [dI ps, .tuple [.str s, x]]) .none && ((s == Str.ofString "never") || ((s == Str.ofString "offsets") && okX ps x))
  | _ => false
def six : List Int := [1, 2, 3, 4, 5, 6]
theorem chkM_1 : (six.all fun p => (ups p.toNat).all fun o => six.all fun r => (ups r.toNat).all fun q => chkM o p q r) = true := by decide +kernel
theorem chkA_1 : (six.all fun a => chkA [a]) = true := by decide +kernel
theorem chkA_2 : (six.all fun a => six.all fun b => chkA [a, b]) = true := by decide +kernel
theorem chkA_31 : (six.all fun b => six.all fun c => chkA [1, b, c]) = true := by decide +kernel
theorem chkA_32 : (six.all fun b => six.all fun c => chkA [2, b, c]) = true := by decide +kernel
theorem chkA_33 : (six.all fun b => six.all fun c => chkA [3, b, c]) = true := by decide +kernel
theorem chkA_34 : (six.all fun b => six.all fun c => chkA [4, b, c]) = true := by decide +kernel
theorem chkA_35 : (six.all fun b => six.all fun c => chkA [5, b, c]) = true := by decide +kernel
theorem chkA_36 : (six.all fun b => six.all fun c => chkA [6, b, c]) = true := by decide +kernel
theorem fr_all : (six.all fun p => (ups p.toNat).all fun o => sameO (from_runsF 300 [.int o, .int p]) (rzD p [o])) = true := by decide +kernel
theorem mem_six {p : Int} (h0 : 1 ≤ p) (h1 : p ≤ 6) : p ∈ six := by
  have : p = 1 ∨ p = 2 ∨ p = 3 ∨ p = 4 ∨ p = 5 ∨ p = 6 := by omega
  unfold six
  rcases this with h | h | h | h | h | h <;> subst h <;> decide
theorem chkA_all (ps : List Int) (hb : ∀ p ∈ ps, 1 ≤ p ∧ p ≤ 6) (h0 : 0 < ps.length) (h3 : ps.length ≤ 3) : chkA ps = true := by
  match ps, hb, h0, h3 with
  | [a], hb, _, _ => exact List.all_eq_true.mp chkA_1 a (mem_six (hb a (by simp)).1 (hb a (by simp)).2)
  | [a, b], hb, _, _ => exact List.all_eq_true.mp (List.all_eq_true.mp chkA_2 a (mem_six (hb a (by simp)).1 (hb a (by simp)).2)) b (mem_six (hb b (by simp)).1 (hb b (by simp)).2)
  | [a, b, c], hb, _, _ =>
    have hB := mem_six (hb b (by simp)).1 (hb b (by simp)).2
    have hC := mem_six (hb c (by simp)).1 (hb c (by simp)).2
    have hA := hb a (by simp)
    have : a = 1 ∨ a = 2 ∨ a = 3 ∨ a = 4 ∨ a = 5 ∨ a = 6 := by omega
    rcases this with h | h | h | h | h | h <;> subst h
    · exact List.all_eq_true.mp (List.all_eq_true.mp chkA_31 b hB) c hC
    · exact List.all_eq_true.mp (List.all_eq_true.mp chkA_32 b hB) c hC
    · exact List.all_eq_true.mp (List.all_eq_true.mp chkA_33 b hB) c hC
    · exact List.all_eq_true.mp (List.all_eq_true.mp chkA_34 b hB) c hC
    · exact List.all_eq_true.mp (List.all_eq_true.mp chkA_35 b hB) c hC
    · exact List.all_eq_true.mp (List.all_eq_true.mp chkA_36 b hB) c hC
theorem chkM_all (o p q r : Int) (h1 : 0 ≤ o ∧ o < p ∧ p ≤ 6) (h2 : 0 ≤ q ∧ q < r ∧ r ≤ 6) : chkM o p q r = true := by
  have := List.all_eq_true.mp chkM_1 p (mem_six (by omega) (by omega))
  have := List.all_eq_true.mp this o (mem_ups.mpr (by omega))
  have := List.all_eq_true.mp this r (mem_six (by omega) (by omega))
  exact List.all_eq_true.mp this q (mem_ups.mpr (by omega))
theorem fr_run (o p : Int) (h1 : 0 ≤ o ∧ o < p ∧ p ≤ 6) : from_runsF 300 [.int o, .int p] = some (rzD p [o]) := by
  have := List.all_eq_true.mp fr_all p (mem_six (by omega) (by omega))
  exact sameO_eq (List.all_eq_true.mp this o (mem_ups.mpr (by omega)))
end VE

namespace VE
open PySem
/-! counting -/
theorem cnt_ups (g : Int → Bool) (n : Nat) : cnt g n = ((ups n).filter g).length := by
  induction n with
  | zero => rfl
  | succ n ih =>
    rw [cnt, ups_succ, List.filter_append, List.length_append, ih]
    cases h : g (n : Int) with
    | true => rw [List.filter_cons_of_pos h]; rfl
    | false => rw [List.filter_cons_of_neg (by rw [h]; decide)]; rfl
theorem ups_cut (n m : Nat) (h : m ≤ n) : ((ups n).filter fun x => decide (x < (m : Int))) = ups m := by
  induction n with
  | zero =>
    have : m = 0 := by omega
    subst this
    rfl
  | succ n ih =>
    by_cases h2 : m = n + 1
    · subst h2
      exact List.filter_eq_self.mpr fun x hx => decide_eq_true (mem_ups.mp hx).2
    · rw [ups_succ, List.filter_append, ih (by omega), List.filter_cons_of_neg (by simp; omega)]
      simp
/-- the k-th of those below n that go has k ahead of it -/
theorem cnt_at (g : Int → Bool) (n k : Nat) (x : Int) (h : ((ups n).filter g)[k]? = some x) : 0 ≤ x ∧ x < n ∧ g x = true ∧ cnt g x.toNat = k := by
  have hm := List.mem_filter.mp (List.mem_of_getElem? h)
  have hu := mem_ups.mp hm.1
  refine ⟨hu.1, hu.2, hm.2, ?_⟩
  have h1 := filter_at ((ups_lt n).filter g) k x h
  rw [List.filter_filter] at h1
  have e : ((ups n).filter fun y => decide (y < x) && g y) = ((ups n).filter fun y => decide (y < x)).filter g := by
    rw [List.filter_filter]
    exact List.filter_congr fun y _ => Bool.and_comm _ _
  rw [e, show x = ((x.toNat : Nat) : Int) by omega, ups_cut n x.toNat (by omega)] at h1
  rw [cnt_ups]
  exact h1
theorem find_ups (g : Int → Bool) (n : Nat) (u : Int) (h0 : 0 ≤ u) (h1 : u < n) (hg : g u = true) (hm : ∀ m, 0 ≤ m → m < u → g m = false) : (ups n).find? g = some u := by
  induction n with
  | zero => omega
  | succ n ih =>
    rw [ups_succ, List.find?_append]
    by_cases h : u < n
    · rw [ih h]; rfl
    · have e : u = n := by omega
      have : (ups n).find? g = none := List.find?_eq_none.mpr fun x hx => by
        have := mem_ups.mp hx
        rw [hm x this.1 (by omega)]
        decide
      rw [this, ← e, List.find?_cons_of_pos hg]
      rfl
theorem find_ups_none (g : Int → Bool) (n : Nat) (hm : ∀ m, 0 ≤ m → g m = false) : (ups n).find? g = none := List.find?_eq_none.mpr fun x hx => by
  rw [hm x (mem_ups.mp hx).1]
  decide
/-- the first minute of a rhythm -/
theorem first_z (t : Nat) (U : List Int) (g : Int → Bool) (ht : 0 < t) (hU : U.Pairwise (· < ·)) (hb : ∀ x ∈ U, 0 ≤ x ∧ x < (t : Int)) (hg : ∀ m : Int, 0 ≤ m → decide (m % (t : Int) ∈ U) = g m) (n : Nat) (hn : t ≤ n) :
    (rz t U).nthT 0 = (ups n).find? g := by
  have ok : (rz t U).Ok := rz_ok (by omega) hU hb
  have hgo : ∀ m : Int, 0 ≤ m → (rz t U).goes m = g m := fun m hm => (rz_goes _ _ hm).trans (hg m hm)
  by_cases hR : U = []
  · subst hR
    rw [find_ups_none g n fun m hm => by rw [← hg m hm]; rfl]
    rfl
  · obtain ⟨u, e⟩ := ok.nth_some (show (rz t U).R ≠ [] from hR) 0
    obtain ⟨h0, h1, h2⟩ := ok.nth_spec e
    have hno : ∀ m : Int, 0 ≤ m → m < u → (rz t U).goes m = false := fun m hm hl => by
      cases hc : (rz t U).goes m with
      | false => rfl
      | true =>
        have := cnt_mono (g := (rz t U).goes) (show m.toNat + 1 ≤ u.toNat by omega)
        rw [cnt, show ((m.toNat : Nat) : Int) = m by omega, hc, if_pos rfl, h2] at this
        omega
    have hut : u < t := by
      refine Int.lt_of_not_ge fun h => ?_
      have e1 := Int.emod_nonneg u (show (t : Int) ≠ 0 by omega)
      have e2 := Int.emod_lt_of_pos u (show (0 : Int) < (t : Int) by omega)
      have := hno (u % (t : Int)) e1 (by omega)
      rw [rz_goes _ _ e1, Int.emod_emod_of_dvd u (Int.dvd_refl _), ← rz_goes _ _ h0, h1] at this
      cases this
    rw [e]
    refine (find_ups g n u h0 (by omega) (by rw [← hgo u h0]; exact h1) fun m hm hl => by rw [← hgo m hm]; exact hno m hm hl).symm
theorem shp_optD (x : Option Int) : fNe (optD x) (optD x) = some (.bool false) := by
  cases x with
  | none => rfl
  | some t =>
    show fNe (.int t) (.int t) = _
    rw [fNe_int, decide_eq_true rfl]
    rfl
theorem wand (a b : Bool) : fInD (.tuple [.bool a, .bool b]) (.list [.tuple [.bool true, .bool true]]) = some (.bool (a && b)) := by cases a <;> cases b <;> exact sameO_eq (by decide +kernel)
theorem wor (a b : Bool) : fInD (.tuple [.bool a, .bool b]) (.list [.tuple [.bool true, .bool true], .tuple [.bool true, .bool false], .tuple [.bool false, .bool true]]) = some (.bool (a || b)) := by cases a <;> cases b <;> exact sameO_eq (by decide +kernel)
theorem both_run (p q : Nat) (R S : List Int) (hp : 0 < p) (hq : 0 < q) (hpq : p * q ≤ 1000000) (hn : q < 300) :
    ∃ (r : Nat) (U : List Int), bothF 300 [rzD p R, rzD q S] = some (rzD r U) ∧ 0 < r ∧ r ≤ p * q ∧ U.Pairwise (· < ·) ∧ (∀ x ∈ U, 0 ≤ x ∧ x < (r : Int)) ∧
      ∀ m : Int, 0 ≤ m → decide (m % (r : Int) ∈ U) = (decide (m % (p : Int) ∈ R) && decide (m % (q : Int) ∈ S)) := by
  obtain ⟨r, U, h, h2⟩ := put_z 300 p q R S _ (fun a b => a && b) hp hq hpq hn wand
  refine ⟨r, U, runDef_ex rfl ?_, h2⟩
  unfold bothB
  exact sp_ret (call_p (xs := [rzD p R, rzD q S, .list [.tuple [.bool true, .bool true]]]) rfl h)
theorem any_of_run (p q : Nat) (R S : List Int) (hp : 0 < p) (hq : 0 < q) (hpq : p * q ≤ 1000000) (hn : q < 300) :
    ∃ (r : Nat) (U : List Int), any_ofF 300 [rzD p R, rzD q S] = some (rzD r U) ∧ 0 < r ∧ r ≤ p * q ∧ U.Pairwise (· < ·) ∧ (∀ x ∈ U, 0 ≤ x ∧ x < (r : Int)) ∧
      ∀ m : Int, 0 ≤ m → decide (m % (r : Int) ∈ U) = (decide (m % (p : Int) ∈ R) || decide (m % (q : Int) ∈ S)) := by
  obtain ⟨r, U, h, h2⟩ := put_z 300 p q R S _ (fun a b => a || b) hp hq hpq hn wor
  refine ⟨r, U, runDef_ex rfl ?_, h2⟩
  unfold any_ofB
  exact sp_ret (call_p (xs := [rzD p R, rzD q S, .list [.tuple [.bool true, .bool true], .tuple [.bool true, .bool false], .tuple [.bool false, .bool true]]]) rfl h)
theorem nth_z (t : Nat) (U : List Int) (ht : 0 < t) (ht2 : t ≤ 1000000) (hU : U.Pairwise (· < ·)) (hb : ∀ x ∈ U, 0 ≤ x ∧ x < (t : Int)) (k : Nat) : nthF [rzD t U, .int k] = some (optD ((rz t U).nthT k)) := by
  have hl := lt_len hU hb
  have h := nth_run (rz t U) (rz_ok (by omega) hU hb) (show (t : Int) < 1073741824 by omega) (Nat.zero_le _) (show U.length < 1073741824 by omega) (Nat.le_trans hl (Nat.le_trans ht2 (by decide))) k
  rw [← rhD_rz, h]
  cases (rz t U).nthT k <;> rfl
theorem count_z (t : Nat) (U : List Int) (ht : 0 < t) (ht2 : t ≤ 1000000) (hU : U.Pairwise (· < ·)) (hb : ∀ x ∈ U, 0 ≤ x ∧ x < (t : Int)) (n : Nat) : count_toF [rzD t U, .int n] = some (.int (((ups n).filter fun m => decide (m % (t : Int) ∈ U)).length : Int)) := by
  have ok : (rz t U).Ok := rz_ok (by omega) hU hb
  have h := count_to_run (rz t U) (show (0 : Int) < (t : Int) by omega) (show (t : Int) < 1073741824 by omega) (Nat.zero_le _) n
  rw [← rhD_rz, h, ok.count (by omega), Int.toNat_natCast, cnt_ups]
  congr 4
  exact List.filter_congr fun x hx => rz_goes _ _ (mem_ups.mp hx).1

end VE

namespace VE
open PySem
/-! the law -/
theorem xComp_ww {vs : List Nat} {it : IF} {g : GF} {t : TF} {f : EF} {env e : En} {xs ys : List D} {w w1 w' : W} (h1 : it env w = some (xs, w1)) (h2 : wipeE env vs = some e) (h3 : xs.length ≤ line) (h4 : compL g t f e xs w1 = some (ys, w')) : xComp vs it g t f env w = some (ys, w') := by
  unfold xComp
  rw [bind_w h1, h2, lift_some, pb, if_pos h3]
  exact h4
def fD (L : List (Int × Int)) : D := .list (L.map fun x => .int x.1)
def sD (L : List (Int × Int)) : D := .list (L.map fun x => .int x.2)
def rD (L : List (Int × Int)) : D := .list (L.map fun x => rzD x.2 [x.1])
def okL (L : List (Int × Int)) : Prop := ∀ x ∈ L, 0 ≤ x.1 ∧ x.1 < x.2 ∧ x.2 ≤ 6
theorem zip_maps (ps : List Int) : ∀ os : List Int, os.length = ps.length → (os.zip ps).map Prod.fst = os ∧ (os.zip ps).map Prod.snd = ps := by
  induction ps with
  | nil => intro os h; cases os with
    | nil => exact ⟨rfl, rfl⟩
    | cons a r => cases h
  | cons p ps ih => intro os h; cases os with
    | nil => cases h
    | cons o os =>
      have := ih os (by simpa using h)
      rw [List.zip_cons_cons, List.map_cons, List.map_cons, this.1, this.2]
      exact ⟨rfl, rfl⟩
theorem pair_get : ∀ (L : List (Int × Int)) (i j : Nat) (y x : Int × Int), pairT L = true → j < i → L[i]? = some y → L[j]? = some x → firstT y.1 y.2 x.1 x.2 = none
  | [], i, j, y, x, _, _, h, _ => by simp at h
  | z :: r, i, 0, y, x, hp, hji, hy, hx => by
    cases hx
    obtain ⟨k, rfl⟩ : ∃ k, i = k + 1 := ⟨i - 1, by omega⟩
    rw [pairT, Bool.and_eq_true] at hp
    have := List.all_eq_true.mp hp.1 y (List.mem_of_getElem? (by simpa using hy))
    exact Option.isNone_iff_eq_none.mp this
  | z :: r, i, j + 1, y, x, hp, hji, hy, hx => by
    obtain ⟨k, rfl⟩ : ∃ k, i = k + 1 := ⟨i - 1, by omega⟩
    rw [pairT, Bool.and_eq_true] at hp
    exact pair_get r k j y x hp.2 (by omega) (by simpa using hy) (by simpa using hx)
/-- what spread tells -/
theorem told_run (ps : List Int) (hb : ∀ p ∈ ps, 1 ≤ p ∧ p ≤ 6) (h0 : 0 < ps.length) (h3 : ps.length ≤ 3) :
    ∃ (s : Str) (x : D), spreadF 300 [dI ps] = some (.tuple [.str s, x]) ∧ spread_faultF 300 [dI ps, .tuple [.str s, x]] = some .none ∧
      (s = Str.ofString "never" ∨ (s = Str.ofString "offsets" ∧ ∃ os, x = dI os ∧ okO ps os = true)) := by
  have h := chkA_all ps hb h0 h3
  unfold chkA at h
  cases hs : spreadF 300 [dI ps] with
  | none => rw [hs] at h; cases h
  | some T =>
    rw [hs] at h
    split at h
    · rename_i s x e
      cases e
      rw [Bool.and_eq_true, Bool.or_eq_true, Bool.and_eq_true] at h
      refine ⟨s, x, rfl, sameO_eq h.1, ?_⟩
      rcases h.2 with h2 | ⟨h2, h4⟩
      · exact .inl (eq_of_beq h2)
      · refine .inr ⟨eq_of_beq h2, ?_⟩
        unfold okX at h4
        split at h4
        · split at h4
          · rename_i os _
            rw [Bool.and_eq_true] at h4
            exact ⟨os, same_eq _ _ h4.1, h4.2⟩
          · cases h4
        · cases h4
    · cases h
theorem row_get (L : List (Int × Int)) {i : Nat} {x : Int × Int} (h : L[i]? = some x) : fIx (rD L) (.int (i : Int)) = some (rzD x.2 [x.1]) := atI_nat (by rw [List.getElem?_map, h]; rfl)
theorem fst_get (L : List (Int × Int)) {i : Nat} {x : Int × Int} (h : L[i]? = some x) : fIx (fD L) (.int (i : Int)) = some (.int x.1) := atI_nat (by rw [List.getElem?_map, h]; rfl)
theorem snd_get (L : List (Int × Int)) {i : Nat} {x : Int × Int} (h : L[i]? = some x) : fIx (sD L) (.int (i : Int)) = some (.int x.2) := atI_nat (by rw [List.getElem?_map, h]; rfl)
theorem in_one (o p m : Int) : decide (m % p ∈ [o]) = goT o p m := decide_eq_decide.mpr List.mem_singleton
/-- two rows: the first minute of both -/
theorem pair_run (y x : Int × Int) (hy : 0 ≤ y.1 ∧ y.1 < y.2 ∧ y.2 ≤ 6) (hx : 0 ≤ x.1 ∧ x.1 < x.2 ∧ x.2 ≤ 6) :
    ∃ B, bothF 300 [rzD y.2 [y.1], rzD x.2 [x.1]] = some B ∧ nthF [B, .int 0] = some (optD (firstT y.1 y.2 x.1 x.2)) ∧ ((ups 72).find? fun m => goT y.1 y.2 m && goT x.1 x.2 m) = firstT y.1 y.2 x.1 x.2 := by
  obtain ⟨o, p⟩ := y
  obtain ⟨q, r⟩ := x
  obtain ⟨p, rfl⟩ : ∃ n : Nat, p = (n : Int) := ⟨p.toNat, by dsimp only at hy; omega⟩
  obtain ⟨r, rfl⟩ : ∃ n : Nat, r = (n : Int) := ⟨r.toNat, by dsimp only at hx; omega⟩
  dsimp only at hy hx ⊢
  have hpr : p * r ≤ 36 := Nat.mul_le_mul (show p ≤ 6 by omega) (show r ≤ 6 by omega)
  obtain ⟨t, U, h1, h2, h3, h4, h5, h6⟩ := both_run p r [o] [q] (by omega) (by omega) (by omega) (by omega)
  have h7 : ∀ m : Int, 0 ≤ m → decide (m % (t : Int) ∈ U) = (goT o p m && goT q r m) := fun m hm => by rw [h6 m hm, in_one, in_one]
  have e1 := first_z t U _ h2 h4 h5 h7 36 (by omega)
  have e2 := first_z t U _ h2 h4 h5 h7 72 (by omega)
  refine ⟨_, h1, ?_, e2.symm.trans e1⟩
  rw [show PyData.int 0 = .int ((0 : Nat) : Int) from rfl, nth_z t U h2 (by omega) h4 h5 0, e1]
  rfl

end VE

namespace VE
open PySem
theorem fNe_boolS (b : Bool) : fNe (.bool b) (.bool b) = some (.bool false) := by
  cases b <;> rfl
theorem xIf_p {t : TF} {f g : EF} {env : En} {b : Bool} {x : D} (h : t env = pure b) (h2 : (if b then f env else g env) = pure x) : xIf t f g env = pure x := by
  unfold xIf
  rw [h, pb]
  exact h2
theorem head_p (F : List Int) (env : En) (h10 : env[10]? = some (.sh (dI F))) : xIf (xTest (xOp fGt (xCall fLen (xCons (xVar 10) xNil)) (xC (.int 0)))) (xOp fIx (xVar 10) (xC (.int 0))) (xC .none) env = pure (optD F.head?) := by
  cases F with
  | nil => exact xIf_p (test_p (op_p (call_p (cons_p (xVar_at h10) nil_p) rfl) rfl rfl)) rfl
  | cons a r =>
    refine xIf_p (b := true) (test_p (op_p (call_p (cons_p (xVar_at h10) nil_p) rfl) rfl ?_)) ?_
    · show some (PyData.bool (decide ((((a :: r).map PyData.int).length : Int) > 0))) = _
      rw [decide_eq_true (by simp)]
    · exact op_p (xVar_at h10) rfl (show atI ((a :: r).map .int) ((0 : Nat) : Int) = some (.int a) from atI_nat rfl)
theorem goes_L (x : Int × Int) (hx : 0 ≤ x.1 ∧ x.1 < x.2 ∧ x.2 ≤ 6) (m : Int) (hm : 0 ≤ m) : goesF [rzD x.2 [x.1], .int m] = some (.bool (goT x.1 x.2 m)) := by
  obtain ⟨o, p⟩ := x
  obtain ⟨p, rfl⟩ : ∃ n : Nat, p = (n : Int) := ⟨p.toNat, by dsimp only at hx; omega⟩
  dsimp only at hx ⊢
  rw [goes_rz p [o] (by omega) m hm, in_one]
theorem fNotN_optD (o : Option Int) : fNotN (optD o) = some (.bool o.isSome) := by cases o <;> rfl
theorem pairs_step (ns : List Int) (L : List (Int × Int)) (hL : okL L) (s : Str) (xT : D) (hs : s = Str.ofString "never" ∨ (s = Str.ofString "offsets" ∧ pairT L = true)) (i j : Nat) (hji : j < i) (hi : i < L.length) (z10 z12 : Slot) :
    ∃ y10 y12, (sSeq (sAsg (xAs (xComp [11] (iR1 (xCons (xC (.int 72)) xNil)) (gNm 11) (xAnd (xTruth (xCall goesF (xCons (xOp fIx (xVar 7) (xVar 8)) (xCons (xVar 11) xNil)))) (xTruth (xCall goesF (xCons (xOp fIx (xVar 7) (xVar 9)) (xCons (xVar 11) xNil))))) (xVar 11))) (gNm 10))
    (sSeq (sAsg (xCall nthF (xCons (xCall (bothF 300) (xCons (xOp fIx (xVar 7) (xVar 8)) (xCons (xOp fIx (xVar 7) (xVar 9)) xNil))) (xCons (xC (.int 0)) xNil))) (gNm 12))
    (sSeq (sIf (xOr (xTest (xOp fNe (xVar 12) (xIf (xTest (xOp fGt (xCall fLen (xCons (xVar 10) xNil)) (xC (.int 0)))) (xOp fIx (xVar 10) (xC (.int 0))) (xC .none)))) (xAnd (xTest (xOp fEq (xOp fIx (xVar 4) (xC (.int 0))) (xC (.str (Str.ofString "offsets"))))) (xTest (xUn fNotN (xVar 12))))) (sRet (xC (.bool false))) sPass)
    (sSeq (sIf (xTest (xOp fNe (xCall (meetF 300) (xCons (xTup (xCons (xOp fIx (xVar 5) (xVar 8)) (xCons (xOp fIx (xVar 2) (xVar 8)) xNil))) (xCons (xTup (xCons (xOp fIx (xVar 5) (xVar 9)) (xCons (xOp fIx (xVar 2) (xVar 9)) xNil))) xNil))) (xVar 12))) (sRet (xC (.bool false))) sPass)
    (sIf (xTest (xOp fNe (xUn fNotN (xVar 12)) (xOp fEq (xOp fMul (xOp fDiv (xCall fAbs (xCons (xOp fSub (xOp fIx (xVar 5) (xVar 8)) (xOp fIx (xVar 5) (xVar 9))) xNil)) (xCall (commonF 300) (xCons (xOp fIx (xVar 2) (xVar 8)) (xCons (xOp fIx (xVar 2) (xVar 9)) xNil)))) (xCall (commonF 300) (xCons (xOp fIx (xVar 2) (xVar 8)) (xCons (xOp fIx (xVar 2) (xVar 9)) xNil)))) (xCall fAbs (xCons (xOp fSub (xOp fIx (xVar 5) (xVar 8)) (xOp fIx (xVar 5) (xVar 9))) xNil))))) (sRet (xC (.bool false))) sPass)))))
      [.fz ns, .st 1, .sh (sD L), .no, .sh (.tuple [.str s, xT]), .sh (fD L), .no, .sh (rD L), .sh (.int i), .sh (.int j), z10, .no, z12, .no, .no, .no] = pure (.nx, [.fz ns, .st 1, .sh (sD L), .no, .sh (.tuple [.str s, xT]), .sh (fD L), .no, .sh (rD L), .sh (.int i), .sh (.int j), .sh y10, .no, .sh y12, .no, .no, .no]) := by
  obtain ⟨y, hy⟩ : ∃ y, L[i]? = some y := ⟨_, List.getElem?_eq_getElem hi⟩
  obtain ⟨x, hx⟩ : ∃ x, L[j]? = some x := ⟨_, List.getElem?_eq_getElem (by omega)⟩
  have vy := hL y (List.mem_of_getElem? hy)
  have vx := hL x (List.mem_of_getElem? hx)
  obtain ⟨B, hB, hN, hF⟩ := pair_run y x vy vx
  have hM := chkM_all y.1 y.2 x.1 x.2 vy vx
  unfold chkM at hM
  rw [Bool.and_eq_true, Bool.and_eq_true] at hM
  obtain ⟨hmeet, hcom, hiff⟩ := hM
  have hmeet := sameO_eq hmeet
  have hcom := sameO_eq hcom
  have hiff := eq_of_beq hiff
  have hr1 := row_get L hy
  have hr2 := row_get L hx
  have hf1 := fst_get L hy
  have hf2 := fst_get L hx
  have hp1 := snd_get L hy
  have hp2 := snd_get L hx
  refine ⟨dI ((ups 72).filter fun m => goT y.1 y.2 m && goT x.1 x.2 m), optD (firstT y.1 y.2 x.1 x.2), ?_⟩
  refine (seq_pure (env1 := [.fz ns, .st 1, .sh (sD L), .no, .sh (.tuple [.str s, xT]), .sh (fD L), .no, .sh (rD L), .sh (.int i), .sh (.int j), .sh (dI ((ups 72).filter fun m => goT y.1 y.2 m && goT x.1 x.2 m)), .no, z12, .no, .no, .no]) (asg_p (xAs_p (xComp_p (xs := rangeL 0 ((72 : Nat) : Int)) rfl rfl (by rw [rangeL_ups, List.length_map, ups_len]; decide) ?_)) rfl)).trans ?_
  · rw [rangeL_ups]
    refine compL_map .int (fun m => goT y.1 y.2 m && goT x.1 x.2 m) .int (ups 72) fun m hm => ⟨_, rfl, ?_, fun _ => rfl⟩
    have h0 := (mem_ups.mp hm).1
    have g1 : xTruth (xCall goesF (xCons (xOp fIx (xVar 7) (xVar 8)) (xCons (xVar 11) xNil))) ([.fz ns, .st 1, .sh (sD L), .no, .sh (.tuple [.str s, xT]), .sh (fD L), .no, .sh (rD L), .sh (.int i), .sh (.int j), z10, .sh (.int m), z12, .no, .no, .no]) = pure (goT y.1 y.2 m) := truth_p (call_p (cons_p (op_p rfl rfl hr1) (cons_p rfl nil_p)) (goes_L y vy m h0)) rfl
    have g2 : xTruth (xCall goesF (xCons (xOp fIx (xVar 7) (xVar 9)) (xCons (xVar 11) xNil))) ([.fz ns, .st 1, .sh (sD L), .no, .sh (.tuple [.str s, xT]), .sh (fD L), .no, .sh (rD L), .sh (.int i), .sh (.int j), z10, .sh (.int m), z12, .no, .no, .no]) = pure (goT x.1 x.2 m) := truth_p (call_p (cons_p (op_p rfl rfl hr2) (cons_p rfl nil_p)) (goes_L x vx m h0)) rfl
    cases hg : goT y.1 y.2 m with
    | true => rw [hg] at g1; exact and_t g1 g2
    | false => rw [hg] at g1; exact and_f g1
  refine (seq_pure (env1 := [.fz ns, .st 1, .sh (sD L), .no, .sh (.tuple [.str s, xT]), .sh (fD L), .no, .sh (rD L), .sh (.int i), .sh (.int j), .sh (dI ((ups 72).filter fun m => goT y.1 y.2 m && goT x.1 x.2 m)), .no, .sh (optD (firstT y.1 y.2 x.1 x.2)), .no, .no, .no]) (asg_p (call_p (cons_p (call_p (cons_p (op_p rfl rfl hr1) (cons_p (op_p rfl rfl hr2) nil_p)) hB) (cons_p rfl nil_p)) hN) rfl)).trans ?_
  refine (seq_pure (if_skip (or_f (test_p (op_p rfl (head_p _ _ rfl) ?_)) ?_))).trans ?_
  · rw [List.head?_filter, hF]
    exact shp_optD _
  · rcases hs with rfl | ⟨rfl, hpt⟩
    · exact and_f (test_p (op_p (op_p rfl rfl rfl) rfl (sameO_eq (by decide +kernel))))
    · refine and_t (test_p (op_p (op_p rfl rfl rfl) rfl (sameO_eq (by decide +kernel)))) (test_p (un_p rfl ?_))
      rw [fNotN_optD, pair_get L i j y x hpt hji hy hx]
      rfl
  refine (seq_pure (if_skip (test_p (op_p (call_p (cons_p ?_ (cons_p ?_ nil_p)) hmeet) rfl (shp_optD _))))).trans ?_
  · unfold xTup
    rw [cons_p (op_p rfl rfl hf1) (cons_p (op_p rfl rfl hp1) nil_p), pb]
    rfl
  · unfold xTup
    rw [cons_p (op_p rfl rfl hf2) (cons_p (op_p rfl rfl hp2) nil_p), pb]
    rfl
  have hg0 : (0 : Int) < (Int.gcd y.2 x.2 : Int) := by
    have : Int.gcd y.2 x.2 ≠ 0 := fun h => by
      have := (Int.gcd_eq_zero_iff.mp h).1
      omega
    omega
  have hg1 : (Int.gcd y.2 x.2 : Int) ≤ y.2 := Int.le_of_dvd (by omega) (Int.gcd_dvd_left _ _)
  have ha : fAbs [.int (y.1 - x.1)] = some (.int (absT (y.1 - x.1))) := rfl
  refine if_skip (test_p (op_p (un_p rfl (fNotN_optD _)) (op_p (op_p (op_p (call_p (cons_p (op_p (op_p rfl rfl hf1) (op_p rfl rfl hf2) rfl) nil_p) ha) (call_p (cons_p (op_p rfl rfl hp1) (cons_p (op_p rfl rfl hp2) nil_p)) hcom) (fDiv_pos hg0 (by omega))) (call_p (cons_p (op_p rfl rfl hp1) (cons_p (op_p rfl rfl hp2) nil_p)) hcom) (fMul_r (inW_of (by omega) (by omega)))) (call_p (cons_p (op_p (op_p rfl rfl hf1) (op_p rfl rfl hf2) rfl) nil_p) ha) (fEq_int _ _)) ?_))
  rw [hiff]
  exact fNe_boolS _

end VE

namespace VE
open PySem
theorem comp2 {α : Type} (p : α → Bool) (h : α → D) {g : GF} {t : TF} {f : EF} {env : En} (xs : List α) (enc : α → D) (H : ∀ x ∈ xs, ∃ env1, g (enc x) env = some env1 ∧ t env1 = pure (p x) ∧ (p x = true → f env1 = pure (h x))) : compL g t f env (xs.map enc) = pure ((xs.filter p).map h) := compL_map enc p h xs H
theorem len_pos {α : Type} (L : List α) (p : α → Bool) : decide (((L.filter p).length : Int) > 0) = L.any p := by
  induction L with
  | nil => rfl
  | cons a r ih =>
    cases h : p a with
    | true => rw [List.filter_cons_of_pos h, List.any_cons, h]; simp
    | false => rw [List.filter_cons_of_neg (by rw [h]; decide), List.any_cons, h, ih]; rfl
theorem sum_run (ps : List Int) (hb : ∀ p ∈ ps, 1 ≤ p ∧ p ≤ 6) (env : En) : compL (gNm 6) tYesF (xOp fDiv (xC (.int 60)) (xVar 6)) env (ps.map .int) = pure ((ps.map fun p => 60 / p).map .int) ∨ env.length ≤ 6 := by
  by_cases he : env.length ≤ 6
  · exact .inr he
  · refine .inl ?_
    rw [compL_all .int (fun p => .int (60 / p)) ps fun p hp => ⟨_, rfl, ?_⟩]
    · rw [List.map_map]; rfl
    · have := hb p hp
      refine op_p rfl (xVar_at (x := .int p) ?_) (fDiv_pos (by omega) (by omega))
      rw [List.getElem?_set_self (by omega)]
theorem cut1 (x : D) (r : List D) : cut (x :: r) (some 1) none = r := by
  have e : sIx (x :: r).length 0 (some 1) = 1 := by
    show min 1 (r.length + 1) = 1
    omega
  have e2 : sIx (x :: r).length (x :: r).length none = (x :: r).length := rfl
  unfold cut
  rw [e, e2, List.drop_succ_cons, List.drop_zero, List.length_cons]
  exact List.take_of_length_le (by omega)
theorem fNe_ints (xs : List Int) : fNe (.list (xs.map .int)) (.list (xs.map .int)) = some (.bool false) := by
  have e : PyData.eqv (.list (xs.map .int)) (.list (xs.map .int)) = true := by
    rw [PyData.eqv, eqvAll_ints, decide_eq_true rfl]
  unfold fNe
  rw [shp_ints, e]
  rfl
theorem fNe_selfI (i : Int) : fNe (.int i) (.int i) = some (.bool false) := by
  rw [fNe_int, decide_eq_true rfl]
  rfl
theorem law_run (ns : List Int) (_ : ns.length ≤ 63) : ∃ env' w', lawB 300 ((Slot.fz ns :: List.replicate 15 Slot.no).set 1 (.st 1)) ⟨0, stateCells ns⟩ = some ((.rt (.bool true), env'), w') := by
  show ∃ env' w', lawB 300 [.fz ns, .st 1, .no, .no, .no, .no, .no, .no, .no, .no, .no, .no, .no, .no, .no, .no] ⟨0, stateCells ns⟩ = some ((.rt (.bool true), env'), w')
  unfold lawB
  -- the periods
  obtain ⟨c, w1, e1, c0, c1, hw1⟩ := take_ok (show (0:Int) < 3 by decide) (by decide) (w := ⟨0, stateCells ns⟩) (cells_pos ns)
  obtain ⟨n, hn⟩ : ∃ n : Nat, 1 + c = (n : Int) := ⟨(1 + c).toNat, by omega⟩
  obtain ⟨ps, w2, e2, hpl, hpb, hw2⟩ := compL_w (g := gNm 3) (f := xOp fAdd (xC (.int 1)) (xTake 1 (xC (.int 6)))) (env := [.fz ns, .st 1, .no, .no, .no, .no, .no, .no, .no, .no, .no, .no, .no, .no, .no, .no]) PyData.int PyData.int (fun _ p => 1 ≤ p ∧ p ≤ 6) (fun w => 0 < w.cells.length) (ups n) w1 hw1 (fun x _ w hw => by
    obtain ⟨r, w', h1, h2, h3, h4⟩ := take_ok (show (0:Int) < 6 by decide) (by decide) hw
    exact ⟨_, 1 + r, w', rfl, xOp_w (w1 := w) rfl (xTake_w rfl rfl h1) rfl, ⟨by omega, by omega⟩, h4⟩)
  have hb : ∀ p ∈ ps, 1 ≤ p ∧ p ≤ 6 := fun p hp => by
    obtain ⟨i, hi, rfl⟩ := List.getElem_of_mem hp
    have hi2 : i < (ups n).length := by rw [← hpl]; exact hi
    exact hpb i _ _ (List.getElem?_eq_getElem hi2) (List.getElem?_eq_getElem hi)
  rw [ups_len] at hpl
  refine st_w (env1 := [.fz ns, .st 1, .sh (dI ps), .no, .no, .no, .no, .no, .no, .no, .no, .no, .no, .no, .no, .no]) (asg_w (xAs_w (xComp_ww (xs := (ups n).map .int) (e := [.fz ns, .st 1, .no, .no, .no, .no, .no, .no, .no, .no, .no, .no, .no, .no, .no, .no]) (w1 := w1) ?_ rfl (by rw [List.length_map, ups_len]; unfold line; omega) e2)) rfl) ?_
  · have h1 : xCons (xOp fAdd (xC (.int 1)) (xTake 1 (xC (.int 3)))) xNil [.fz ns, .st 1, .no, .no, .no, .no, .no, .no, .no, .no, .no, .no, .no, .no, .no, .no] ⟨0, stateCells ns⟩ = some ([.int (n : Int)], w1) := by
      unfold xCons
      rw [bind_w (xOp_w (w1 := ⟨0, stateCells ns⟩) (c := .int (n : Int)) rfl (xTake_w rfl rfl e1) (by rw [fAdd_int, hn]))]
      rfl
    unfold iR1
    rw [bind_w h1]
    show (if small62 (n : Int) = true then _ else _ : M (List D)) w1 = _
    rw [if_pos (small62_nat (by omega)), rangeL_ups]
    rfl
  -- what is told
  obtain ⟨s, xT, hsp, hfl, hcase⟩ := told_run ps hb (by omega) (by omega)
  refine st_p (env1 := [.fz ns, .st 1, .sh (dI ps), .no, .sh (.tuple [.str s, xT]), .no, .no, .no, .no, .no, .no, .no, .no, .no, .no, .no]) (asg_p (call_p (cons_p rfl nil_p) hsp) rfl) ?_
  refine st_p (if_skip (test_p (un_p (call_p (cons_p rfl (cons_p rfl nil_p)) hfl) rfl))) ?_
  -- the offsets
  obtain ⟨os, w3, e3, hol, hob, hcase⟩ : ∃ (os : List Int) (w3 : W), xIf (xTest (xOp fEq (xOp fIx (xVar 4) (xC (.int 0))) (xC (.str (Str.ofString "offsets"))))) (xOp fIx (xVar 4) (xC (.int 1))) (xAs (xComp [6] (iLst (xVar 2)) (gNm 6) tYesF (xTake 1 (xVar 6)))) [.fz ns, .st 1, .sh (dI ps), .no, .sh (.tuple [.str s, xT]), .no, .no, .no, .no, .no, .no, .no, .no, .no, .no, .no] w2 = some (dI os, w3) ∧ os.length = ps.length ∧
      (∀ x ∈ os.zip ps, 0 ≤ x.1 ∧ x.1 < x.2) ∧ (s = Str.ofString "never" ∨ (s = Str.ofString "offsets" ∧ okO ps os = true)) := by
    rcases hcase with rfl | ⟨rfl, os, rfl, hok⟩
    · obtain ⟨os, w3, h1, h2, h3, _⟩ := compL_w (g := gNm 6) (f := xTake 1 (xVar 6)) (env := [.fz ns, .st 1, .sh (dI ps), .no, .sh (.tuple [.str (Str.ofString "never"), xT]), .no, .no, .no, .no, .no, .no, .no, .no, .no, .no, .no]) PyData.int PyData.int (fun p o => 0 ≤ o ∧ o < p) (fun w => 0 < w.cells.length) ps w2 hw2 (fun x hx w hw => by
        have := hb x hx
        obtain ⟨r, w', h1, h2, h3, h4⟩ := take_ok (show (0:Int) < x by omega) (by omega) hw
        exact ⟨_, r, w', rfl, xTake_w rfl rfl h1, ⟨h2, h3⟩, h4⟩)
      refine ⟨os, w3, ?_, h2, fun x hx => ?_, .inl rfl⟩
      · have ht : xTest (xOp fEq (xOp fIx (xVar 4) (xC (.int 0))) (xC (.str (Str.ofString "offsets")))) [.fz ns, .st 1, .sh (dI ps), .no, .sh (.tuple [.str (Str.ofString "never"), xT]), .no, .no, .no, .no, .no, .no, .no, .no, .no, .no, .no] = pure false := test_p (op_p (op_p rfl rfl rfl) rfl (sameO_eq (by decide +kernel)))
        unfold xIf
        rw [ht, pb]
        exact xAs_w (xComp_w rfl rfl (by rw [List.length_map]; unfold line; omega) h1)
      · obtain ⟨i, hi, rfl⟩ := List.getElem_of_mem hx
        rw [List.length_zip] at hi
        rw [List.getElem_zip]
        exact h3 i _ _ (List.getElem?_eq_getElem (by omega)) (List.getElem?_eq_getElem (by omega))
    · have hok2 := hok
      unfold okO at hok2
      rw [Bool.and_eq_true, Bool.and_eq_true, Bool.and_eq_true, decide_eq_true_eq] at hok2
      refine ⟨os, w2, ?_, hok2.1.1.1, fun x hx => ?_, .inr ⟨rfl, hok⟩⟩
      · have ht : xTest (xOp fEq (xOp fIx (xVar 4) (xC (.int 0))) (xC (.str (Str.ofString "offsets")))) [.fz ns, .st 1, .sh (dI ps), .no, .sh (.tuple [.str (Str.ofString "offsets"), dI os]), .no, .no, .no, .no, .no, .no, .no, .no, .no, .no, .no] = pure true := test_p (op_p (op_p rfl rfl rfl) rfl (sameO_eq (by decide +kernel)))
        unfold xIf
        rw [ht, pb]
        rfl
      · have := List.all_eq_true.mp hok2.1.1.2 x hx
        rw [Bool.and_eq_true, decide_eq_true_eq, decide_eq_true_eq] at this
        exact this
  refine st_w (env1 := [.fz ns, .st 1, .sh (dI ps), .no, .sh (.tuple [.str s, xT]), .sh (dI os), .no, .no, .no, .no, .no, .no, .no, .no, .no, .no]) (asg_w e3 rfl) ?_
  -- pairs
  obtain ⟨L, hLd⟩ : ∃ L, L = os.zip ps := ⟨_, rfl⟩
  obtain ⟨z1, z2⟩ := zip_maps ps os hol
  rw [← hLd] at z1 z2 hob
  have eS : dI ps = sD L := by rw [← z2]; unfold dI sD; rw [List.map_map]; rfl
  have eF : dI os = fD L := by rw [← z1]; unfold dI fD; rw [List.map_map]; rfl
  have hLn : L.length = ps.length := by rw [← z2, List.length_map]
  have hL : okL L := fun x hx => by
    have h1 := hob x hx
    have h2 := hb x.2 (by rw [← z2]; exact List.mem_map_of_mem hx)
    exact ⟨h1.1, h1.2, h2.2⟩
  have hcase2 : s = Str.ofString "never" ∨ (s = Str.ofString "offsets" ∧ pairT L = true) := by
    rcases hcase with h | ⟨h, hok⟩
    · exact .inl h
    · refine .inr ⟨h, ?_⟩
      unfold okO at hok
      rw [Bool.and_eq_true, Bool.and_eq_true] at hok
      rw [hLd]
      exact hok.1.2
  have hcnt : s = Str.ofString "never" ∨ (s = Str.ofString "offsets" ∧ (((ups 60).filter fun m => L.any fun x => goT x.1 x.2 m).length : Int) = (ps.map fun p => 60 / p).sum) := by
    rcases hcase with h | ⟨h, hok⟩
    · exact .inl h
    · refine .inr ⟨h, ?_⟩
      unfold okO at hok
      rw [Bool.and_eq_true] at hok
      have := of_decide_eq_true hok.2
      unfold minsT at this
      rw [hLd]
      exact this
  rw [eF, eS]
  have lenS : fLen [sD L] = some (.int ((L.length : Nat) : Int)) := by unfold sD; rw [fLen_list, List.length_map]
  -- the rows
  refine st_p (env1 := [.fz ns, .st 1, .sh (sD L), .no, .sh (.tuple [.str s, xT]), .sh (fD L), .no, .sh (rD L), .no, .no, .no, .no, .no, .no, .no, .no]) (asg_p (xAs_p (xComp_p (xs := rangeL 0 ((L.length : Nat) : Int)) ?_ rfl (by rw [rangeL_ups, List.length_map, ups_len]; unfold line; omega) ?_)) rfl) ?_
  · unfold iR1
    rw [cons_p (call_p (cons_p rfl nil_p) lenS) nil_p, pb]
    show (if small62 ((L.length : Nat) : Int) = true then _ else _) = _
    rw [if_pos (small62_nat (by omega))]
  · rw [rangeL0]
    rw [compL_all (fun (k : Nat) => PyData.int (k : Int)) (fun (k : Nat) => rzD (L.getD k (0, 1)).2 [(L.getD k (0, 1)).1]) (List.range L.length) fun k hk => ⟨_, rfl, ?_⟩]
    · congr 1
      refine List.ext_getElem? fun i => ?_
      rw [List.getElem?_map, List.getElem?_map]
      by_cases hi : i < L.length
      · rw [List.getElem?_range hi, List.getElem?_eq_getElem hi, Option.map_some, Option.map_some, List.getD_eq_getElem?_getD, List.getElem?_eq_getElem hi]
        rfl
      · rw [List.getElem?_eq_none (by rw [List.length_range]; omega), List.getElem?_eq_none (by omega)]
        rfl
    · have hk := List.mem_range.mp hk
      have hg : L[k]? = some L[k] := List.getElem?_eq_getElem hk
      rw [List.getD_eq_getElem?_getD, hg, Option.getD_some]
      exact call_p (cons_p (op_p rfl rfl (fst_get L hg)) (cons_p (op_p rfl rfl (snd_get L hg)) nil_p)) (fr_run _ _ (hL _ (List.getElem_mem hk)))
  -- the pairs
  obtain ⟨env5, e5, z8, z9, z10, z12, hE5⟩ := for_inv (g := gNm 8) (body := sFor (iR1 (xCons (xVar 8) xNil)) (gNm 9) _) (fun _ env => ∃ z8 z9 z10 z12 : Slot, env = [.fz ns, .st 1, .sh (sD L), .no, .sh (.tuple [.str s, xT]), .sh (fD L), .no, .sh (rD L), z8, z9, z10, .no, z12, .no, .no, .no]) (rangeL 0 ((L.length : Nat) : Int)) 0 [.fz ns, .st 1, .sh (sD L), .no, .sh (.tuple [.str s, xT]), .sh (fD L), .no, .sh (rD L), .no, .no, .no, .no, .no, .no, .no, .no] ⟨_, _, _, _, rfl⟩ (fun i x env hx ⟨z8, z9, z10, z12, hz⟩ => by
      obtain ⟨rfl, hi⟩ := rangeL0_get hx
      subst hz
      obtain ⟨env6, e6, y9, y10, y12, hE6⟩ := for_inv (g := gNm 9) (fun _ env => ∃ z9 z10 z12 : Slot, env = [.fz ns, .st 1, .sh (sD L), .no, .sh (.tuple [.str s, xT]), .sh (fD L), .no, .sh (rD L), .sh (.int i), z9, z10, .no, z12, .no, .no, .no]) (rangeL 0 (i : Int)) 0 [.fz ns, .st 1, .sh (sD L), .no, .sh (.tuple [.str s, xT]), .sh (fD L), .no, .sh (rD L), .sh (.int i), z9, z10, .no, z12, .no, .no, .no] ⟨_, _, _, rfl⟩ (fun j x env hx ⟨z9, z10, z12, hz⟩ => by
        obtain ⟨rfl, hj⟩ := rangeL0_get hx
        subst hz
        obtain ⟨y10, y12, h⟩ := pairs_step ns L hL s xT hcase2 i j hj hi z10 z12
        exact ⟨_, .nx, _, rfl, h, .inl rfl, _, _, _, rfl⟩)
      refine ⟨_, .nx, env6, rfl, for_p ?_ e6, .inl rfl, _, _, _, _, hE6⟩
      unfold iR1
      rw [cons_p (xVar_at (x := .int i) rfl) nil_p, pb]
      show (if small62 (i : Int) = true then _ else _) = _
      rw [if_pos (small62_nat (by omega))])
  subst hE5
  refine st_p (for_p ?_ e5) ?_
  · unfold iR1
    rw [cons_p (call_p (cons_p rfl nil_p) lenS) nil_p, pb]
    show (if small62 ((L.length : Nat) : Int) = true then _ else _) = _
    rw [if_pos (small62_nat (by omega))]
  -- all rows together
  obtain ⟨x0, Lr, hcons⟩ : ∃ x0 Lr, L = x0 :: Lr := by
    cases L with
    | nil => rw [List.length_nil] at hLn; omega
    | cons a r => exact ⟨a, r, rfl⟩
  have hx0 := hL x0 (by rw [hcons]; exact List.mem_cons_self)
  obtain ⟨p0, hp0⟩ : ∃ p0 : Nat, x0.2 = (p0 : Int) := ⟨x0.2.toNat, by omega⟩
  have hLr : Lr.length ≤ 2 := by rw [hcons, List.length_cons] at hLn; omega
  have hrow0 : fIx (rD L) (.int 0) = some (rzD p0 [x0.1]) := by
    have := row_get L (i := 0) (x := x0) (by rw [hcons]; rfl)
    rw [hp0] at this
    exact this
  refine st_p (env1 := [.fz ns, .st 1, .sh (sD L), .no, .sh (.tuple [.str s, xT]), .sh (fD L), .no, .sh (rD L), z8, z9, z10, .no, z12, .sh (rzD p0 [x0.1]), .no, .no]) (asg_p (op_p rfl rfl hrow0) rfl) ?_
  have six : ∀ i : Nat, i ≤ 3 → 6 ^ i * 6 ≤ 1000000 := fun i hi => by
    have : i = 0 ∨ i = 1 ∨ i = 2 ∨ i = 3 := by omega
    rcases this with h | h | h | h <;> subst h <;> decide
  obtain ⟨env7, e7, z14, t, U, hz14, ht0, htb, hU, hUb, hUg, hE7⟩ := for_inv (g := gNm 14) (body := sAsg (xCall (any_ofF 300) (xCons (xVar 13) (xCons (xVar 14) xNil))) (gNm 13)) (fun k env => ∃ (z14 : Slot) (t : Nat) (U : List Int), (∀ xs, z14 ≠ .ow xs) ∧ 0 < t ∧ t ≤ 6 ^ (k + 1) ∧ U.Pairwise (· < ·) ∧ (∀ x ∈ U, 0 ≤ x ∧ x < (t : Int)) ∧ (∀ m : Int, 0 ≤ m → decide (m % (t : Int) ∈ U) = ((x0 :: Lr).take (k + 1)).any fun x => goT x.1 x.2 m) ∧ env = [.fz ns, .st 1, .sh (sD L), .no, .sh (.tuple [.str s, xT]), .sh (fD L), .no, .sh (rD L), z8, z9, z10, .no, z12, .sh (rzD t U), z14, .no]) (Lr.map fun x => rzD x.2 [x.1]) 0 [.fz ns, .st 1, .sh (sD L), .no, .sh (.tuple [.str s, xT]), .sh (fD L), .no, .sh (rD L), z8, z9, z10, .no, z12, .sh (rzD p0 [x0.1]), .no, .no]
    ⟨.no, p0, [x0.1], (fun _ z => nomatch z), by omega, by omega, List.pairwise_singleton _ _, (fun x hx => by rw [List.mem_singleton.mp hx]; omega), (fun m hm => by rw [in_one, hp0.symm]; simp), rfl⟩ (fun i x env hx ⟨z14, t, U, _, ht0, htb, hU, hUb, hUg, hz⟩ => by
      subst hz
      rw [Nat.zero_add] at htb hUg ⊢
      rw [List.getElem?_map] at hx
      obtain ⟨y, hy, rfl⟩ := Option.map_eq_some_iff.mp hx
      have hi : i < Lr.length := (List.getElem?_eq_some_iff.mp hy).1
      have vy := hL y (by rw [hcons]; exact List.mem_cons_of_mem _ (List.mem_of_getElem? hy))
      obtain ⟨q, hq⟩ : ∃ q : Nat, y.2 = (q : Int) := ⟨y.2.toNat, by omega⟩
      have hb6 : t * q ≤ 6 ^ (i + 1) * 6 := Nat.mul_le_mul htb (by omega)
      have hb7 := six (i + 1) (by omega)
      obtain ⟨r, V, h1, h2, h3, h4, h5, h6⟩ := any_of_run t q U [y.1] ht0 (by omega) (by omega) (by omega)
      rw [hq]
      refine ⟨_, .nx, [.fz ns, .st 1, .sh (sD L), .no, .sh (.tuple [.str s, xT]), .sh (fD L), .no, .sh (rD L), z8, z9, z10, .no, z12, .sh (rzD r V), .sh (rzD q [y.1]), .no], rfl, asg_p (call_p (cons_p rfl (cons_p rfl nil_p)) h1) rfl, .inl rfl, _, r, V, (by intro _ z; cases z), h2, ?_, h4, h5, fun m hm => ?_, rfl⟩
      · rw [Nat.pow_succ]; omega
      · rw [h6 m hm, hUg m hm, in_one, show (x0 :: Lr).take (i + 1 + 1) = (x0 :: Lr).take (i + 1) ++ [y] by rw [List.take_add_one, List.getElem?_cons_succ, hy]; rfl, List.any_append, ← hq]
        simp)
  rw [List.length_map, Nat.zero_add] at htb hUg
  rw [List.take_of_length_le (by rw [List.length_cons]; omega)] at hUg
  subst hE7
  have htb2 : t ≤ 1000000 := by
    have h1 : 6 ^ (Lr.length + 1) ≤ 6 ^ 3 := Nat.pow_le_pow_right (by decide) (by omega)
    omega
  refine st_p (for_p ?_ e7) ?_
  · unfold iLst
    rw [show xAs (xSlice (xVar 7) (oSome (xC (.int 1))) oNo) [.fz ns, .st 1, .sh (sD L), .no, .sh (.tuple [.str s, xT]), .sh (fD L), .no, .sh (rD L), z8, z9, z10, .no, z12, .sh (rzD p0 [x0.1]), .no, .no] = pure (.list (cut (L.map fun x => rzD x.2 [x.1]) (some 1) none)) from rfl, pb, hcons, List.map_cons, cut1]
    rfl
  -- the minutes
  obtain ⟨Mn, hMn⟩ : ∃ Mn, Mn = (ups 60).filter fun m => L.any fun x => goT x.1 x.2 m := ⟨_, rfl⟩
  refine st_p (env1 := [.fz ns, .st 1, .sh (sD L), .no, .sh (.tuple [.str s, xT]), .sh (fD L), .no, .sh (rD L), z8, z9, z10, .no, z12, .sh (rzD t U), z14, .sh (dI Mn)]) (asg_p (xAs_p (xComp_p (xs := rangeL 0 ((60 : Nat) : Int)) rfl rfl (by rw [rangeL_ups, List.length_map, ups_len]; decide) ?_)) rfl) ?_
  · rw [rangeL_ups, hMn]
    refine compL_map .int (fun m => L.any fun x => goT x.1 x.2 m) .int (ups 60) fun m hm => ⟨_, rfl, ?_, fun _ => rfl⟩
    have h0 := (mem_ups.mp hm).1
    refine test_p (op_p (a := .int (((L.filter fun x => goT x.1 x.2 m).length : Nat) : Int)) (call_p (cons_p (xAs_p (xComp_p (xs := L.map fun x => rzD x.2 [x.1]) rfl (wipe_one rfl hz14) (by rw [List.length_map]; unfold line; omega) (comp2 (fun x => goT x.1 x.2 m) (fun x => rzD x.2 [x.1]) L (fun x => rzD x.2 [x.1]) fun x hx => ⟨_, rfl, truth_p (call_p (cons_p rfl (cons_p rfl nil_p)) (goes_L x (hL x hx) m h0)) rfl, fun _ => rfl⟩))) nil_p) ?_) rfl ?_)
    · rw [fLen_list, List.length_map]
    · exact congrArg (fun b => some (PyData.bool b)) (len_pos L _)
  have hfil : ((ups 60).filter fun m => decide (m % (t : Int) ∈ U)) = Mn := by
    rw [hMn]
    refine List.filter_congr fun m hm => ?_
    rw [hUg m (mem_ups.mp hm).1, hcons]
  have hct : count_toF [rzD t U, .int 60] = some (.int ((Mn.length : Nat) : Int)) := by
    have := count_z t U ht0 htb2 hU hUb 60
    rw [hfil] at this
    exact this
  have hlM : fLen [dI Mn] = some (.int ((Mn.length : Nat) : Int)) := by unfold dI; rw [fLen_list, List.length_map]
  have hMl : Mn.length ≤ 60 := by
    rw [hMn]
    refine Nat.le_trans (List.length_filter_le _ _) ?_
    rw [ups_len]
    exact Nat.le_refl _
  have hnth : ∀ k : Nat, (hk : k < Mn.length) → nthF [rzD t U, .int k] = some (.int Mn[k]) := fun k hk => by
    have hat : ((ups 60).filter (rz t U).goes)[k]? = some Mn[k] := by
      have : ((ups 60).filter (rz t U).goes) = Mn := by
        rw [← hfil]
        exact List.filter_congr fun m hm => rz_goes _ _ (mem_ups.mp hm).1
      rw [this]
      exact List.getElem?_eq_getElem hk
    obtain ⟨h0, h1, h2, h3⟩ := cnt_at _ 60 k _ hat
    have ok : (rz t U).Ok := rz_ok (by omega) hU hUb
    have hR : (rz t U).R ≠ [] := fun e => by
      rw [rz_goes _ _ h0] at h2
      have := of_decide_eq_true h2
      have e : U = [] := e
      rw [e] at this
      cases this
    have h4 := ok.nth_eq hR (k := k) (t := (Mn[k]).toNat) (by rw [show (((Mn[k]).toNat : Nat) : Int) = Mn[k] by omega]; exact h2) h3
    rw [nth_z t U ht0 htb2 hU hUb k, h4]
    show some (PyData.int _) = _
    rw [show (((Mn[k]).toNat : Nat) : Int) = Mn[k] by omega]
  refine st_p (if_skip (or_f (test_p (op_p (call_p (cons_p rfl (cons_p rfl nil_p)) hct) (call_p (cons_p rfl nil_p) hlM) (fNe_selfI _))) (test_p (op_p (xAs_p (xComp_p (xs := rangeL 0 ((Mn.length : Nat) : Int)) ?_ rfl (by rw [rangeL_ups, List.length_map, ups_len]; unfold line; omega) (ys := Mn.map .int) ?_)) rfl (fNe_ints Mn))))) ?_
  · unfold iR1
    rw [cons_p (call_p (cons_p rfl nil_p) hlM) nil_p, pb]
    show (if small62 ((Mn.length : Nat) : Int) = true then _ else _) = _
    rw [if_pos (small62_nat (by omega))]
  · rw [rangeL0]
    rw [compL_all (fun (k : Nat) => PyData.int (k : Int)) (fun (k : Nat) => PyData.int (Mn.getD k 0)) (List.range Mn.length) fun k hk => ⟨_, rfl, ?_⟩]
    · congr 1
      refine List.ext_getElem? fun i => ?_
      rw [List.getElem?_map, List.getElem?_map]
      by_cases hi : i < Mn.length
      · rw [List.getElem?_range hi, List.getElem?_eq_getElem hi, Option.map_some, Option.map_some, List.getD_eq_getElem?_getD, List.getElem?_eq_getElem hi]
        rfl
      · rw [List.getElem?_eq_none (by rw [List.length_range]; omega), List.getElem?_eq_none (by omega)]
        rfl
    · have hk := List.mem_range.mp hk
      rw [List.getD_eq_getElem?_getD, List.getElem?_eq_getElem hk, Option.getD_some]
      exact call_p (cons_p rfl (cons_p rfl nil_p)) (hnth k hk)
  -- the end
  refine st_ret ?_
  rcases hcnt with rfl | ⟨rfl, hcnt⟩
  · unfold xOrV
    rw [op_p (op_p rfl rfl rfl) rfl (c := .bool true) (sameO_eq (by decide +kernel)), pb]
    rfl
  · unfold xOrV
    rw [op_p (op_p rfl rfl rfl) rfl (c := .bool false) (sameO_eq (by decide +kernel)), pb]
    show xOp _ _ _ _ = _
    refine op_p (call_p (cons_p rfl nil_p) hlM) (call_p (cons_p (xAs_p (xComp_p (xs := ps.map .int) ?_ rfl (by rw [List.length_map]; unfold line; omega) ((sum_run ps hb _).resolve_right (by simp)))) nil_p) (fSum_ints _)) ?_
    · unfold iLst
      rw [xVar_at (x := sD L) rfl, ← eS, pb]
      rfl
    · rw [fEq_int, hMn, hcnt, decide_eq_true rfl]
end VE


namespace VE
open PySem PySem.Spec L2
open PyProof.Rows hiding St
def topS (i : Nat) : Stmt := PySem.Challenge.pw_jobsagain_k59_offsets_as_rhythms.main.body.getD i (.Pass ⟨0, 0, 0, 0⟩)
section
variable {P : Program} {w : World} {K : PySem.W.Frag} {mg : Str → Option Value} {base : Heap}
abbrev s_common : Stmt := topS 1
theorem sc_common : FnScope ["one", "other"] ["one", "other"] (defScope s_common) := ⟨rfl, rfl, rfl, by decide +kernel, rfl, by decide +kernel, by decide +kernel⟩
theorem fn_common (n : Nat) {f : Addr} {fd : FuncData} (F : Fun K "common" "common" s_common f fd) : FnOk P w K mg base CX0 1 f fd ["one", "other"] (vsp K (commonF n)) :=
  fn_def (k := 0) (fb := commonB n) F sc_common rfl rfl fun cdv A outer s H E hr => ⟨_, by
    unfold commonB
    exact (pssv_cons (psv_while (pt_cmpV op_gt ov_gt (pv_var rfl rfl rfl) pv_int (nomark _)) (pssv_one (psv_par rfl sc_common.nd (pav_cons (pv_var rfl rfl rfl) (pav_cons (pv_op op_mod ov_mod (pv_var rfl rfl rfl) (pv_var rfl rfl rfl)) pav_nil rfl) rfl) rfl rfl (by decide) rfl rfl rfl rfl)) PassesOwn.never)
      (pssv_one (psv_ret (pv_var rfl rfl rfl))))⟩
abbrev s_goes : Stmt := topS 2
theorem sc_goes : FnScope ["rhythm", "minute", "word", "start", "marks", "period", "rests"] ["rhythm", "minute"] (defScope s_goes) := ⟨rfl, rfl, rfl, by decide +kernel, rfl, by decide +kernel, by decide +kernel⟩
theorem fn_goes {f : Addr} {fd : FuncData} (F : Fun K "goes" "goes" s_goes f fd) : FnOk P w K mg base CX0 1 f fd ["rhythm", "minute"] (vsp K (goesF)) :=
  fn_def (k := 0) (fb := goesB) F sc_goes rfl rfl fun cdv A outer s H E hr => ⟨_, by
    unfold goesB
    exact (pssv_cons (psv_asg (pv_var rfl rfl rfl) (pgv_tup (KK := K) rfl rfl (pgsv_cons (pgv_name sc_goes.nd rfl rfl rfl) (pgsv_cons (pgv_name sc_goes.nd rfl rfl rfl) (pgsv_cons (pgv_name sc_goes.nd rfl rfl rfl) (pgsv_cons (pgv_name sc_goes.nd rfl rfl rfl) (pgsv_cons (pgv_name sc_goes.nd rfl rfl rfl) pgsv_nil rfl) rfl) rfl) rfl) rfl) rfl rfl) rfl rfl rfl)
      (pssv_cons (psv_if (pt_cmpV op_lt ov_lt (pv_var rfl rfl rfl) (pv_var rfl rfl rfl) (nomark _)) (pssv_one (psv_ret (pv_cmp (in' (KK := K) rfl) ov_in (pv_var rfl rfl rfl) (pv_var rfl rfl rfl) rfl))) pssv_nil)
      (pssv_one (psv_ret (pv_cmp (in' (KK := K) rfl) ov_in (pv_op op_mod ov_mod (pv_var rfl rfl rfl) (pv_var rfl rfl rfl)) (pv_var rfl rfl rfl) rfl)))))⟩
abbrev s_least : Stmt := topS 3
theorem sc_least : FnScope ["rhythm", "word", "start", "marks", "period", "rests", "short", "some", "rest", "mark"] ["rhythm"] (defScope s_least) := ⟨rfl, rfl, rfl, by decide +kernel, rfl, by decide +kernel, by decide +kernel⟩
theorem fn_least (n : Nat) {f : Addr} {fd : FuncData} (F : Fun K "least" "least" s_least f fd) (m_list : mg "list" = none) (m_range : mg "range" = none) : FnOk P w K mg base CX0 1 f fd ["rhythm"] (vsp K (leastF n)) :=
  fn_def (k := 0) (fb := leastB n) F sc_least rfl rfl fun cdv A outer s H E hr => ⟨_, by
    unfold leastB
    exact (pssv_cons (psv_asg (pv_var rfl rfl rfl) (pgv_tup (KK := K) rfl rfl (pgsv_cons (pgv_name sc_least.nd rfl rfl rfl) (pgsv_cons (pgv_name sc_least.nd rfl rfl rfl) (pgsv_cons (pgv_name sc_least.nd rfl rfl rfl) (pgsv_cons (pgv_name sc_least.nd rfl rfl rfl) (pgsv_cons (pgv_name sc_least.nd rfl rfl rfl) pgsv_nil rfl) rfl) rfl) rfl) rfl) rfl rfl) rfl rfl rfl)
      (pssv_cons (psv_for rfl (piv_range2 m_range (pav_cons pv_int (pav_cons (pv_op (op_add.or op_cat) ov_add (pv_var rfl rfl rfl) pv_int) pav_nil rfl) rfl) rfl rfl rfl) (pgv_name sc_least.nd rfl rfl rfl) (pssv_one (psv_if (pt_cmpV (eqD' (KK := K) rfl hr.units) ov_eq (pv_op op_mod ov_mod (pv_var rfl rfl rfl) (pv_var rfl rfl rfl)) pv_int (nomark _)) (pssv_cons (psv_set sc_least.nd (pv_as (plv_comp rfl sc_least.nd (piv_list (KK := K) rfl (pv_var rfl rfl rfl)) (blkOk_eq (own := [("rest", 8)]) (N := ["rhythm", "word", "start", "marks", "period", "rests", "short", "some", "rest", "mark"]) (sc := defScope s_least) rfl rfl (by decide +kernel)) rfl (fun _ _ _ _ _ => (pgv_name sc_least.nd rfl rfl rfl)) (fun _ _ _ _ _ => (ptsv_one (pt_cmpV op_lt ov_lt (pv_var rfl rfl rfl) (pv_var rfl rfl rfl) (nomark _)))) (fun _ _ _ _ _ => (pv_var rfl rfl rfl)) (fun _ => rfl))) rfl rfl rfl rfl)
      (pssv_one (psv_if (pt_cmpV (eqD' (KK := K) rfl hr.units) ov_eq (pv_var rfl rfl rfl) (pv_as (plv_comp rfl sc_least.nd (piv_range1 m_range (pav_cons (pv_var rfl rfl rfl) pav_nil rfl) rfl rfl) (blkOk_eq (own := [("rest", 8)]) (N := ["rhythm", "word", "start", "marks", "period", "rests", "short", "some", "rest", "mark"]) (sc := defScope s_least) rfl rfl (by decide +kernel)) rfl (fun _ _ _ _ _ => (pgv_name sc_least.nd rfl rfl rfl)) (fun _ _ _ _ _ => (ptsv_one (pt_cmpV (in' (KK := K) rfl) ov_in (pv_op op_mod ov_mod (pv_var rfl rfl rfl) (pv_var rfl rfl rfl)) (pv_var rfl rfl rfl) rfl))) (fun _ _ _ _ _ => (pv_var rfl rfl rfl)) (fun _ => rfl))) (nomark _)) (pssv_cons (psv_par rfl sc_least.nd (pav_cons (pv_var rfl rfl rfl) (pav_cons (pv_var rfl rfl rfl) pav_nil rfl) rfl) rfl rfl (by decide) rfl rfl rfl rfl)
      (pssv_one psv_break)) pssv_nil))) pssv_nil)) PassesOwn.never (fun _ => rfl))
      (pssv_cons (psv_set sc_least.nd (pv_as (plv_list (KK := K) rfl m_list (pv_var rfl rfl rfl) rfl rfl rfl)) rfl rfl rfl rfl)
      (pssv_cons (psv_while (PWV.pt (pwv_and (pt_cmpV op_gt ov_gt (pv_var rfl rfl rfl) pv_int (nomark _)) (pwv_and1 (pt_cmpV (eqD' (KK := K) rfl hr.units) ov_eq (pv_cmp (in' (KK := K) rfl) ov_in (pv_op op_sub ov_sub (pv_var rfl rfl rfl) pv_int) (pv_var rfl rfl rfl) rfl) (pv_cmp (in' (KK := K) rfl) ov_in (pv_op op_mod ov_mod (pv_op op_sub ov_sub (pv_var rfl rfl rfl) pv_int) (pv_var rfl rfl rfl)) (pv_var rfl rfl rfl) rfl) (nomark _))))) (pssv_cons (psv_set sc_least.nd (pv_op op_sub ov_sub (pv_var rfl rfl rfl) pv_int) rfl rfl rfl rfl)
      (pssv_one (psv_setLc rfl sc_least.nd (sw_true rfl rfl rfl (by decide +kernel)) (piv_list (KK := K) rfl (pv_var rfl rfl rfl)) (blkOk_eq (own := [("mark", 9)]) (N := ["rhythm", "word", "start", "marks", "period", "rests", "short", "some", "rest", "mark"]) (sc := defScope s_least) rfl rfl (by decide +kernel)) rfl (fun _ _ _ _ _ => (pgv_name sc_least.nd rfl rfl rfl)) (fun _ _ _ _ _ => (ptsv_one (pt_cmpV op_lt ov_lt (pv_var rfl rfl rfl) (pv_var rfl rfl rfl) (nomark _)))) (fun _ _ _ _ _ => (pv_var rfl rfl rfl)) (fun _ => rfl) rfl rfl))) PassesOwn.never)
      (pssv_one (psv_ret (pv_tup (pav_cons pv_str (pav_cons (pv_var rfl rfl rfl) (pav_cons (pv_var rfl rfl rfl) (pav_cons (pv_var rfl rfl rfl) (pav_cons (pv_as (plv_list (KK := K) rfl m_list (pv_var rfl rfl rfl) rfl rfl rfl)) pav_nil rfl) rfl) rfl) rfl) rfl))))))))⟩
abbrev s_put_together : Stmt := topS 4
theorem sc_put_together : FnScope ["one", "other", "wanted", "start", "period", "marks", "minute", "rests", "rest"] ["one", "other", "wanted"] (defScope s_put_together) := ⟨rfl, rfl, rfl, by decide +kernel, rfl, by decide +kernel, by decide +kernel⟩
theorem fn_put_together (n : Nat) {f : Addr} {fd : FuncData} (F : Fun K "put_together" "put_together" s_put_together f fd) (m_max : mg "max" = none) (m_range : mg "range" = none) (c_common : Cal P w K mg base "common" 1 (commonF n)) (c_goes : Cal P w K mg base "goes" 1 (goesF)) (c_least : Cal P w K mg base "least" 1 (leastF n)) : FnOk P w K mg base CX0 2 f fd ["one", "other", "wanted"] (vsp K (put_togetherF n)) :=
  fn_def (k := 1) (fb := put_togetherB n) F sc_put_together rfl rfl fun cdv A outer s H E hr => ⟨_, by
    unfold put_togetherB
    exact (pssv_cons (psv_set sc_put_together.nd (pv_max (KK := K) rfl rfl m_max (pav_cons (pv_ix (KK := K) rfl (pv_var rfl rfl rfl) pv_int (fun _ _ => rfl)) (pav_cons (pv_ix (KK := K) rfl (pv_var rfl rfl rfl) pv_int (fun _ _ => rfl)) pav_nil rfl) rfl) rfl rfl rfl) rfl rfl rfl rfl)
      (pssv_cons (psv_set sc_put_together.nd (pv_op op_fdiv ov_div (pv_op op_mul ov_mul (pv_ix (KK := K) rfl (pv_var rfl rfl rfl) pv_int (fun _ _ => rfl)) (pv_ix (KK := K) rfl (pv_var rfl rfl rfl) pv_int (fun _ _ => rfl))) (pv_call (KK := K) rfl c_common (hr.mono (by omega)) (pav_cons (pv_ix (KK := K) rfl (pv_var rfl rfl rfl) pv_int (fun _ _ => rfl)) (pav_cons (pv_ix (KK := K) rfl (pv_var rfl rfl rfl) pv_int (fun _ _ => rfl)) pav_nil rfl) rfl) rfl rfl rfl rfl)) rfl rfl rfl rfl)
      (pssv_cons (psv_setLc rfl sc_put_together.nd (sw_true rfl rfl rfl (by decide +kernel)) (piv_range1 m_range (pav_cons (pv_var rfl rfl rfl) pav_nil rfl) rfl rfl) (blkOk_eq (own := [("minute", 6)]) (N := ["one", "other", "wanted", "start", "period", "marks", "minute", "rests", "rest"]) (sc := defScope s_put_together) rfl rfl (by decide +kernel)) rfl (fun _ _ _ _ _ => (pgv_name sc_put_together.nd rfl rfl rfl)) (fun _ _ _ _ _ => (ptsv_one (pt_cmpV (inD' (KK := K) rfl hr) ov_inD (pv_tup (pav_cons (pv_call (KK := K) rfl c_goes (hr.mono (by omega)) (pav_cons (pv_var rfl rfl rfl) (pav_cons (pv_var rfl rfl rfl) pav_nil rfl) rfl) rfl rfl rfl rfl) (pav_cons (pv_call (KK := K) rfl c_goes (hr.mono (by omega)) (pav_cons (pv_var rfl rfl rfl) (pav_cons (pv_var rfl rfl rfl) pav_nil rfl) rfl) rfl rfl rfl rfl) pav_nil rfl) rfl)) (pv_var rfl rfl rfl) rfl))) (fun _ _ _ _ _ => (pv_var rfl rfl rfl)) (fun _ => rfl) rfl rfl)
      (pssv_cons (psv_own sc_put_together.nd (plv_lst pav_nil) rfl rfl rfl rfl)
      (pssv_cons (psv_for rfl (piv_range1 m_range (pav_cons (pv_var rfl rfl rfl) pav_nil rfl) rfl rfl) (pgv_name sc_put_together.nd rfl rfl rfl) (pssv_cons (psv_set sc_put_together.nd (pv_op (op_add.or op_cat) ov_add (pv_var rfl rfl rfl) (pv_op op_mod ov_mod (pv_op op_sub ov_sub (pv_var rfl rfl rfl) (pv_var rfl rfl rfl)) (pv_var rfl rfl rfl))) rfl rfl rfl rfl)
      (pssv_one (psv_if (pt_cmpV (inD' (KK := K) rfl hr) ov_inD (pv_tup (pav_cons (pv_call (KK := K) rfl c_goes (hr.mono (by omega)) (pav_cons (pv_var rfl rfl rfl) (pav_cons (pv_var rfl rfl rfl) pav_nil rfl) rfl) rfl rfl rfl rfl) (pav_cons (pv_call (KK := K) rfl c_goes (hr.mono (by omega)) (pav_cons (pv_var rfl rfl rfl) (pav_cons (pv_var rfl rfl rfl) pav_nil rfl) rfl) rfl rfl rfl rfl) pav_nil rfl) rfl)) (pv_var rfl rfl rfl) rfl) (pssv_one (psv_app (KK := K) rfl (pv_var rfl rfl rfl) rfl rfl rfl rfl rfl rfl rfl rfl rfl)) pssv_nil))) PassesOwn.never (fun _ => rfl))
      (pssv_one (psv_ret (pv_call (KK := K) rfl c_least (hr.mono (by omega)) (pav_cons (pv_tup (pav_cons pv_str (pav_cons (pv_var rfl rfl rfl) (pav_cons (pv_var rfl rfl rfl) (pav_cons (pv_var rfl rfl rfl) (pav_cons (pv_varO rfl rfl rfl) pav_nil rfl) rfl) rfl) rfl) rfl)) pav_nil rfl) rfl rfl rfl rfl))))))))⟩
abbrev s_both : Stmt := topS 5
theorem sc_both : FnScope ["one", "other"] ["one", "other"] (defScope s_both) := ⟨rfl, rfl, rfl, by decide +kernel, rfl, by decide +kernel, by decide +kernel⟩
theorem fn_both (n : Nat) {f : Addr} {fd : FuncData} (F : Fun K "both" "both" s_both f fd) (c_put_together : Cal P w K mg base "put_together" 2 (put_togetherF n)) : FnOk P w K mg base CX0 3 f fd ["one", "other"] (vsp K (bothF n)) :=
  fn_def (k := 2) (fb := bothB n) F sc_both rfl rfl fun cdv A outer s H E hr => ⟨_, by
    unfold bothB
    exact (pssv_one (psv_ret (pv_call (KK := K) rfl c_put_together (hr.mono (by omega)) (pav_cons (pv_var rfl rfl rfl) (pav_cons (pv_var rfl rfl rfl) (pav_cons (pv_as (plv_lst (pav_cons (pv_tup (pav_cons pv_bl (pav_cons pv_bl pav_nil rfl) rfl)) pav_nil rfl))) pav_nil rfl) rfl) rfl) rfl rfl rfl rfl)))⟩
abbrev s_any_of : Stmt := topS 6
theorem sc_any_of : FnScope ["one", "other"] ["one", "other"] (defScope s_any_of) := ⟨rfl, rfl, rfl, by decide +kernel, rfl, by decide +kernel, by decide +kernel⟩
theorem fn_any_of (n : Nat) {f : Addr} {fd : FuncData} (F : Fun K "any_of" "any_of" s_any_of f fd) (c_put_together : Cal P w K mg base "put_together" 2 (put_togetherF n)) : FnOk P w K mg base CX0 3 f fd ["one", "other"] (vsp K (any_ofF n)) :=
  fn_def (k := 2) (fb := any_ofB n) F sc_any_of rfl rfl fun cdv A outer s H E hr => ⟨_, by
    unfold any_ofB
    exact (pssv_one (psv_ret (pv_call (KK := K) rfl c_put_together (hr.mono (by omega)) (pav_cons (pv_var rfl rfl rfl) (pav_cons (pv_var rfl rfl rfl) (pav_cons (pv_as (plv_lst (pav_cons (pv_tup (pav_cons pv_bl (pav_cons pv_bl pav_nil rfl) rfl)) (pav_cons (pv_tup (pav_cons pv_bl (pav_cons pv_bl pav_nil rfl) rfl)) (pav_cons (pv_tup (pav_cons pv_bl (pav_cons pv_bl pav_nil rfl) rfl)) pav_nil rfl) rfl) rfl))) pav_nil rfl) rfl) rfl) rfl rfl rfl rfl)))⟩
abbrev s_from_runs : Stmt := topS 7
theorem sc_from_runs : FnScope ["first", "period"] ["first", "period"] (defScope s_from_runs) := ⟨rfl, rfl, rfl, by decide +kernel, rfl, by decide +kernel, by decide +kernel⟩
theorem fn_from_runs (n : Nat) {f : Addr} {fd : FuncData} (F : Fun K "from_runs" "from_runs" s_from_runs f fd) (c_least : Cal P w K mg base "least" 1 (leastF n)) : FnOk P w K mg base CX0 2 f fd ["first", "period"] (vsp K (from_runsF n)) :=
  fn_def (k := 1) (fb := from_runsB n) F sc_from_runs rfl rfl fun cdv A outer s H E hr => ⟨_, by
    unfold from_runsB
    exact (pssv_one (psv_ret (pv_call (KK := K) rfl c_least (hr.mono (by omega)) (pav_cons (pv_tup (pav_cons pv_str (pav_cons (pv_var rfl rfl rfl) (pav_cons (pv_as (plv_lst pav_nil)) (pav_cons (pv_var rfl rfl rfl) (pav_cons (pv_as (plv_lst (pav_cons (pv_op op_mod ov_mod (pv_var rfl rfl rfl) (pv_var rfl rfl rfl)) pav_nil rfl))) pav_nil rfl) rfl) rfl) rfl) rfl)) pav_nil rfl) rfl rfl rfl rfl)))⟩
abbrev s_count_to : Stmt := topS 8
theorem sc_count_to : FnScope ["rhythm", "minute", "word", "start", "marks", "period", "rests", "mark", "total", "rest"] ["rhythm", "minute"] (defScope s_count_to) := ⟨rfl, rfl, rfl, by decide +kernel, rfl, by decide +kernel, by decide +kernel⟩
theorem fn_count_to {f : Addr} {fd : FuncData} (F : Fun K "count_to" "count_to" s_count_to f fd) (m_len : mg "len" = none) : FnOk P w K mg base CX0 1 f fd ["rhythm", "minute"] (vsp K (count_toF)) :=
  fn_def (k := 0) (fb := count_toB) F sc_count_to rfl rfl fun cdv A outer s H E hr => ⟨_, by
    unfold count_toB
    exact (pssv_cons (psv_asg (pv_var rfl rfl rfl) (pgv_tup (KK := K) rfl rfl (pgsv_cons (pgv_name sc_count_to.nd rfl rfl rfl) (pgsv_cons (pgv_name sc_count_to.nd rfl rfl rfl) (pgsv_cons (pgv_name sc_count_to.nd rfl rfl rfl) (pgsv_cons (pgv_name sc_count_to.nd rfl rfl rfl) (pgsv_cons (pgv_name sc_count_to.nd rfl rfl rfl) pgsv_nil rfl) rfl) rfl) rfl) rfl) rfl rfl) rfl rfl rfl)
      (pssv_cons (psv_if (pt_cmpV op_le ov_le (pv_var rfl rfl rfl) (pv_var rfl rfl rfl) (nomark _)) (pssv_one (psv_ret (pv_len (KK := K) rfl m_len (pav_cons (pv_as (plv_comp rfl sc_count_to.nd (piv_list (KK := K) rfl (pv_var rfl rfl rfl)) (blkOk_eq (own := [("mark", 7)]) (N := ["rhythm", "minute", "word", "start", "marks", "period", "rests", "mark", "total", "rest"]) (sc := defScope s_count_to) rfl rfl (by decide +kernel)) rfl (fun _ _ _ _ _ => (pgv_name sc_count_to.nd rfl rfl rfl)) (fun _ _ _ _ _ => (ptsv_one (pt_cmpV op_lt ov_lt (pv_var rfl rfl rfl) (pv_var rfl rfl rfl) (nomark _)))) (fun _ _ _ _ _ => (pv_var rfl rfl rfl)) (fun _ => rfl))) pav_nil rfl) rfl rfl rfl))) pssv_nil)
      (pssv_cons (psv_set sc_count_to.nd (pv_len (KK := K) rfl m_len (pav_cons (pv_var rfl rfl rfl) pav_nil rfl) rfl rfl rfl) rfl rfl rfl rfl)
      (pssv_cons (psv_for rfl (piv_list (KK := K) rfl (pv_var rfl rfl rfl)) (pgv_name sc_count_to.nd rfl rfl rfl) (pssv_one (psv_set sc_count_to.nd (pv_op op_sub ov_sub (pv_op (op_add.or op_cat) ov_add (pv_var rfl rfl rfl) (pv_op op_fdiv ov_div (pv_op op_sub ov_sub (pv_op (op_add.or op_cat) ov_add (pv_op op_sub ov_sub (pv_var rfl rfl rfl) (pv_var rfl rfl rfl)) (pv_var rfl rfl rfl)) pv_int) (pv_var rfl rfl rfl))) (pv_op op_fdiv ov_div (pv_op op_sub ov_sub (pv_op (op_add.or op_cat) ov_add (pv_op op_sub ov_sub (pv_var rfl rfl rfl) (pv_var rfl rfl rfl)) (pv_var rfl rfl rfl)) pv_int) (pv_var rfl rfl rfl))) rfl rfl rfl rfl)) PassesOwn.never (fun _ => rfl))
      (pssv_one (psv_ret (pv_var rfl rfl rfl)))))))⟩
abbrev s_nth : Stmt := topS 9
theorem sc_nth : FnScope ["rhythm", "number", "word", "start", "marks", "period", "rests", "left", "row", "rest"] ["rhythm", "number"] (defScope s_nth) := ⟨rfl, rfl, rfl, by decide +kernel, rfl, by decide +kernel, by decide +kernel⟩
theorem fn_nth {f : Addr} {fd : FuncData} (F : Fun K "nth" "nth" s_nth f fd) (m_len : mg "len" = none) (m_sorted : mg "sorted" = none) : FnOk P w K mg base CX0 1 f fd ["rhythm", "number"] (vsp K (nthF)) :=
  fn_def (k := 0) (fb := nthB) F sc_nth rfl rfl fun cdv A outer s H E hr => ⟨_, by
    unfold nthB
    exact (pssv_cons (psv_asg (pv_var rfl rfl rfl) (pgv_tup (KK := K) rfl rfl (pgsv_cons (pgv_name sc_nth.nd rfl rfl rfl) (pgsv_cons (pgv_name sc_nth.nd rfl rfl rfl) (pgsv_cons (pgv_name sc_nth.nd rfl rfl rfl) (pgsv_cons (pgv_name sc_nth.nd rfl rfl rfl) (pgsv_cons (pgv_name sc_nth.nd rfl rfl rfl) pgsv_nil rfl) rfl) rfl) rfl) rfl) rfl rfl) rfl rfl rfl)
      (pssv_cons (psv_if (pt_cmpV op_lt ov_lt (pv_var rfl rfl rfl) (pv_len (KK := K) rfl m_len (pav_cons (pv_var rfl rfl rfl) pav_nil rfl) rfl rfl rfl) (nomark _)) (pssv_one (psv_ret (pv_ix (KK := K) rfl (pv_var rfl rfl rfl) (pv_var rfl rfl rfl) (fun _ _ => rfl)))) pssv_nil)
      (pssv_cons (psv_if (ptv_not (pt_tru (KK := K) rfl (pv_var rfl rfl rfl) (fun _ => rfl))) (pssv_one (psv_ret pv_non)) pssv_nil)
      (pssv_cons (psv_set sc_nth.nd (pv_op op_sub ov_sub (pv_var rfl rfl rfl) (pv_len (KK := K) rfl m_len (pav_cons (pv_var rfl rfl rfl) pav_nil rfl) rfl rfl rfl)) rfl rfl rfl rfl)
      (pssv_cons (psv_set sc_nth.nd (pv_as (plv_sorted (KK := K) rfl m_sorted (pv_as (plv_comp rfl sc_nth.nd (piv_list (KK := K) rfl (pv_var rfl rfl rfl)) (blkOk_eq (own := [("rest", 9)]) (N := ["rhythm", "number", "word", "start", "marks", "period", "rests", "left", "row", "rest"]) (sc := defScope s_nth) rfl rfl (by decide +kernel)) rfl (fun _ _ _ _ _ => (pgv_name sc_nth.nd rfl rfl rfl)) (fun _ _ _ _ _ => ptsv_nil) (fun _ _ _ _ _ => (pv_op (op_add.or op_cat) ov_add (pv_var rfl rfl rfl) (pv_op op_mod ov_mod (pv_op op_sub ov_sub (pv_var rfl rfl rfl) (pv_var rfl rfl rfl)) (pv_var rfl rfl rfl)))) (fun _ => rfl))) rfl rfl rfl)) rfl rfl rfl rfl)
      (pssv_one (psv_ret (pv_op (op_add.or op_cat) ov_add (pv_ix (KK := K) rfl (pv_var rfl rfl rfl) (pv_op op_mod ov_mod (pv_var rfl rfl rfl) (pv_len (KK := K) rfl m_len (pav_cons (pv_var rfl rfl rfl) pav_nil rfl) rfl rfl rfl)) (fun _ _ => rfl)) (pv_op op_mul ov_mul (pv_var rfl rfl rfl) (pv_op op_fdiv ov_div (pv_var rfl rfl rfl) (pv_len (KK := K) rfl m_len (pav_cons (pv_var rfl rfl rfl) pav_nil rfl) rfl rfl rfl)))))))))))⟩
abbrev s_meet : Stmt := topS 11
theorem sc_meet : FnScope ["one", "other", "step", "minute", "late", "early"] ["one", "other"] (defScope s_meet) := ⟨rfl, rfl, rfl, by decide +kernel, rfl, by decide +kernel, by decide +kernel⟩
theorem fn_meet (n : Nat) {f : Addr} {fd : FuncData} (F : Fun K "meet" "meet" s_meet f fd) (m_max : mg "max" = none) (c_common : Cal P w K mg base "common" 1 (commonF n)) : FnOk P w K mg base CX0 2 f fd ["one", "other"] (vsp K (meetF n)) :=
  fn_def (k := 1) (fb := meetB n) F sc_meet rfl rfl fun cdv A outer s H E hr => ⟨_, by
    unfold meetB
    exact (pssv_cons (psv_set sc_meet.nd (pv_call (KK := K) rfl c_common (hr.mono (by omega)) (pav_cons (pv_ix (KK := K) rfl (pv_var rfl rfl rfl) pv_int (fun _ _ => rfl)) (pav_cons (pv_ix (KK := K) rfl (pv_var rfl rfl rfl) pv_int (fun _ _ => rfl)) pav_nil rfl) rfl) rfl rfl rfl rfl) rfl rfl rfl rfl)
      (pssv_cons (psv_if (pt_cmpV (neD' (KK := K) rfl hr.units) ov_ne (pv_op op_mod ov_mod (pv_op op_sub ov_sub (pv_ix (KK := K) rfl (pv_var rfl rfl rfl) pv_int (fun _ _ => rfl)) (pv_ix (KK := K) rfl (pv_var rfl rfl rfl) pv_int (fun _ _ => rfl))) (pv_var rfl rfl rfl)) pv_int (nomark _)) (pssv_one (psv_ret pv_non)) pssv_nil)
      (pssv_cons (psv_set sc_meet.nd (pv_max (KK := K) rfl rfl m_max (pav_cons (pv_ix (KK := K) rfl (pv_var rfl rfl rfl) pv_int (fun _ _ => rfl)) (pav_cons (pv_ix (KK := K) rfl (pv_var rfl rfl rfl) pv_int (fun _ _ => rfl)) pav_nil rfl) rfl) rfl rfl rfl) rfl rfl rfl rfl)
      (pssv_cons (psv_asg (pv_if (pt_cmpV op_ge ov_ge (pv_ix (KK := K) rfl (pv_var rfl rfl rfl) pv_int (fun _ _ => rfl)) (pv_ix (KK := K) rfl (pv_var rfl rfl rfl) pv_int (fun _ _ => rfl)) (nomark _)) (pv_tup (pav_cons (pv_var rfl rfl rfl) (pav_cons (pv_var rfl rfl rfl) pav_nil rfl) rfl)) (pv_tup (pav_cons (pv_var rfl rfl rfl) (pav_cons (pv_var rfl rfl rfl) pav_nil rfl) rfl))) (pgv_tup (KK := K) rfl rfl (pgsv_cons (pgv_name sc_meet.nd rfl rfl rfl) (pgsv_cons (pgv_name sc_meet.nd rfl rfl rfl) pgsv_nil rfl) rfl) rfl rfl) rfl rfl rfl)
      (pssv_cons (psv_while (pt_cmpV (neD' (KK := K) rfl hr.units) ov_ne (pv_op op_mod ov_mod (pv_op op_sub ov_sub (pv_var rfl rfl rfl) (pv_ix (KK := K) rfl (pv_var rfl rfl rfl) pv_int (fun _ _ => rfl))) (pv_ix (KK := K) rfl (pv_var rfl rfl rfl) pv_int (fun _ _ => rfl))) pv_int (nomark _)) (pssv_one (psv_set sc_meet.nd (pv_op (op_add.or op_cat) ov_add (pv_var rfl rfl rfl) (pv_ix (KK := K) rfl (pv_var rfl rfl rfl) pv_int (fun _ _ => rfl))) rfl rfl rfl rfl)) PassesOwn.never)
      (pssv_one (psv_ret (pv_var rfl rfl rfl))))))))⟩
abbrev s_is_full : Stmt := topS 12
theorem sc_is_full : FnScope ["periods", "whole", "period"] ["periods"] (defScope s_is_full) := ⟨rfl, rfl, rfl, by decide +kernel, rfl, by decide +kernel, by decide +kernel⟩
theorem fn_is_full (n : Nat) {f : Addr} {fd : FuncData} (F : Fun K "is_full" "is_full" s_is_full f fd) (m_sum : mg "sum" = none) (c_common : Cal P w K mg base "common" 1 (commonF n)) : FnOk P w K mg base CX0 2 f fd ["periods"] (vsp K (is_fullF n)) :=
  fn_def (k := 1) (fb := is_fullB n) F sc_is_full rfl rfl fun cdv A outer s H E hr => ⟨_, by
    unfold is_fullB
    exact (pssv_cons (psv_set sc_is_full.nd pv_int rfl rfl rfl rfl)
      (pssv_cons (psv_for rfl (piv_list (KK := K) rfl (pv_var rfl rfl rfl)) (pgv_name sc_is_full.nd rfl rfl rfl) (pssv_one (psv_set sc_is_full.nd (pv_op op_fdiv ov_div (pv_op op_mul ov_mul (pv_var rfl rfl rfl) (pv_var rfl rfl rfl)) (pv_call (KK := K) rfl c_common (hr.mono (by omega)) (pav_cons (pv_var rfl rfl rfl) (pav_cons (pv_var rfl rfl rfl) pav_nil rfl) rfl) rfl rfl rfl rfl)) rfl rfl rfl rfl)) PassesOwn.never (fun _ => rfl))
      (pssv_one (psv_ret (pv_cmp op_gt ov_gt (pv_sum (KK := K) rfl rfl m_sum (pav_cons (pv_as (plv_comp rfl sc_is_full.nd (piv_list (KK := K) rfl (pv_var rfl rfl rfl)) (blkOk_eq (own := [("period", 2)]) (N := ["periods", "whole", "period"]) (sc := defScope s_is_full) rfl rfl (by decide +kernel)) rfl (fun _ _ _ _ _ => (pgv_name sc_is_full.nd rfl rfl rfl)) (fun _ _ _ _ _ => ptsv_nil) (fun _ _ _ _ _ => (pv_op op_fdiv ov_div (pv_var rfl rfl rfl) (pv_var rfl rfl rfl))) (fun _ => rfl))) pav_nil rfl) rfl rfl rfl) (pv_var rfl rfl rfl) (nomark _))))))⟩
abbrev s_clash : Stmt := topS 13
theorem sc_clash : FnScope ["periods", "offsets", "at", "other"] ["periods", "offsets"] (defScope s_clash) := ⟨rfl, rfl, rfl, by decide +kernel, rfl, by decide +kernel, by decide +kernel⟩
theorem fn_clash (n : Nat) {f : Addr} {fd : FuncData} (F : Fun K "clash" "clash" s_clash f fd) (m_len : mg "len" = none) (m_range : mg "range" = none) (c_common : Cal P w K mg base "common" 1 (commonF n)) : FnOk P w K mg base CX0 2 f fd ["periods", "offsets"] (vsp K (clashF n)) :=
  fn_def (k := 1) (fb := clashB n) F sc_clash rfl rfl fun cdv A outer s H E hr => ⟨_, by
    unfold clashB
    exact (pssv_cons (psv_set sc_clash.nd (pv_op op_sub ov_sub (pv_len (KK := K) rfl m_len (pav_cons (pv_var rfl rfl rfl) pav_nil rfl) rfl rfl rfl) pv_int) rfl rfl rfl rfl)
      (pssv_cons (psv_for rfl (piv_range1 m_range (pav_cons (pv_var rfl rfl rfl) pav_nil rfl) rfl rfl) (pgv_name sc_clash.nd rfl rfl rfl) (pssv_one (psv_if (pt_cmpV (eqD' (KK := K) rfl hr.units) ov_eq (pv_op op_mod ov_mod (pv_op op_sub ov_sub (pv_ix (KK := K) rfl (pv_var rfl rfl rfl) (pv_var rfl rfl rfl) (fun _ _ => rfl)) (pv_ix (KK := K) rfl (pv_var rfl rfl rfl) (pv_var rfl rfl rfl) (fun _ _ => rfl))) (pv_call (KK := K) rfl c_common (hr.mono (by omega)) (pav_cons (pv_ix (KK := K) rfl (pv_var rfl rfl rfl) (pv_var rfl rfl rfl) (fun _ _ => rfl)) (pav_cons (pv_ix (KK := K) rfl (pv_var rfl rfl rfl) (pv_var rfl rfl rfl) (fun _ _ => rfl)) pav_nil rfl) rfl) rfl rfl rfl rfl)) pv_int (nomark _)) (pssv_one (psv_ret (pv_var rfl rfl rfl))) pssv_nil)) PassesOwn.never (fun _ => rfl))
      (pssv_one (psv_ret pv_non))))⟩
abbrev s_choices : Stmt := topS 14
theorem sc_choices : FnScope ["periods", "at"] ["periods", "at"] (defScope s_choices) := ⟨rfl, rfl, rfl, by decide +kernel, rfl, by decide +kernel, by decide +kernel⟩
theorem fn_choices {f : Addr} {fd : FuncData} (F : Fun K "choices" "choices" s_choices f fd) (m_list : mg "list" = none) (m_range : mg "range" = none) : FnOk P w K mg base CX0 1 f fd ["periods", "at"] (vsp K (choicesF)) :=
  fn_def (k := 0) (fb := choicesB) F sc_choices rfl rfl fun cdv A outer s H E hr => ⟨_, by
    unfold choicesB
    exact (pssv_one (psv_ret (pv_if (pt_cmpV (eqD' (KK := K) rfl hr.units) ov_eq (pv_var rfl rfl rfl) pv_int (nomark _)) (pv_as (plv_lst (pav_cons pv_int pav_nil rfl))) (pv_as (plv_listR1 rfl m_list m_range (pv_ix (KK := K) rfl (pv_var rfl rfl rfl) (pv_var rfl rfl rfl) (fun _ _ => rfl)) rfl rfl rfl rfl)))))⟩
abbrev s_search : Stmt := topS 15
theorem sc_search : FnScope ["periods", "offsets", "offset", "more", "found"] ["periods", "offsets"] (defScope s_search) := ⟨rfl, rfl, rfl, by decide +kernel, rfl, by decide +kernel, by decide +kernel⟩
theorem fn_search (n : Nat) {f : Addr} {fd : FuncData} (F : Fun K "search" "search" s_search f fd) (hm : mg "search" = some (.ref f)) (hk : PySem.W.keepIn K (.ref f) = true) (hb : Binds K fd ["periods", "offsets"] []) (m_len : mg "len" = none) (c_choices : Cal P w K mg base "choices" 1 (choicesF)) (c_clash : Cal P w K mg base "clash" 2 (clashF n)) : ∀ m : Nat, FnOk P w K mg base CX0 (3 + m) f fd ["periods", "offsets"] (vsp K (searchF n m))
  | 0 => (fn_none F sc_search).mono (by omega)
  | m + 1 => by
    have c_search : Cal P w K mg base "search" (3 + m) (searchF n m) := cal_mk (fn_search n F hm hk hb m_len c_choices c_clash m) hm hk hb
    exact fn_def (k := 3 + m) (fb := searchB n (searchF n m)) F sc_search rfl rfl fun cdv A outer s H E hr => ⟨_, by
      unfold searchB
      exact (pssv_cons (psv_if (pt_cmpV (eqD' (KK := K) rfl hr.units) ov_eq (pv_len (KK := K) rfl m_len (pav_cons (pv_var rfl rfl rfl) pav_nil rfl) rfl rfl rfl) (pv_len (KK := K) rfl m_len (pav_cons (pv_var rfl rfl rfl) pav_nil rfl) rfl rfl rfl) (nomark _)) (pssv_one (psv_ret (pv_var rfl rfl rfl))) pssv_nil)
      (pssv_cons (psv_for rfl (piv_list (KK := K) rfl (pv_call (KK := K) rfl c_choices (hr.mono (by omega)) (pav_cons (pv_var rfl rfl rfl) (pav_cons (pv_len (KK := K) rfl m_len (pav_cons (pv_var rfl rfl rfl) pav_nil rfl) rfl rfl rfl) pav_nil rfl) rfl) rfl rfl rfl rfl)) (pgv_name sc_search.nd rfl rfl rfl) (pssv_cons (psv_set sc_search.nd (pv_op (op_add.or op_cat) ov_add (pv_var rfl rfl rfl) (pv_as (plv_lst (pav_cons (pv_var rfl rfl rfl) pav_nil rfl)))) rfl rfl rfl rfl)
      (pssv_one (psv_if (pt_isN (pv_call (KK := K) rfl c_clash (hr.mono (by omega)) (pav_cons (pv_var rfl rfl rfl) (pav_cons (pv_var rfl rfl rfl) pav_nil rfl) rfl) rfl rfl rfl rfl)) (pssv_cons (psv_set sc_search.nd (pv_call (KK := K) rfl c_search (hr.mono (by omega)) (pav_cons (pv_var rfl rfl rfl) (pav_cons (pv_var rfl rfl rfl) pav_nil rfl) rfl) rfl rfl rfl rfl) rfl rfl rfl rfl)
      (pssv_one (psv_if (pt_notN (pv_var rfl rfl rfl)) (pssv_one (psv_ret (pv_var rfl rfl rfl))) pssv_nil))) pssv_nil))) PassesOwn.never (fun _ => rfl))
      (pssv_one (psv_ret pv_non))))⟩
abbrev s_prove : Stmt := topS 16
theorem sc_prove : FnScope ["periods", "offsets", "other", "offset"] ["periods", "offsets"] (defScope s_prove) := ⟨rfl, rfl, rfl, by decide +kernel, rfl, by decide +kernel, by decide +kernel⟩
theorem fn_prove (n : Nat) {f : Addr} {fd : FuncData} (F : Fun K "prove" "prove" s_prove f fd) (hm : mg "prove" = some (.ref f)) (hk : PySem.W.keepIn K (.ref f) = true) (hb : Binds K fd ["periods", "offsets"] []) (m_len : mg "len" = none) (c_choices : Cal P w K mg base "choices" 1 (choicesF)) (c_clash : Cal P w K mg base "clash" 2 (clashF n)) : ∀ m : Nat, FnOk P w K mg base CX0 (3 + m) f fd ["periods", "offsets"] (vsp K (proveF n m))
  | 0 => (fn_none F sc_prove).mono (by omega)
  | m + 1 => by
    have c_prove : Cal P w K mg base "prove" (3 + m) (proveF n m) := cal_mk (fn_prove n F hm hk hb m_len c_choices c_clash m) hm hk hb
    exact fn_def (k := 3 + m) (fb := proveB n (proveF n m)) F sc_prove rfl rfl fun cdv A outer s H E hr => ⟨_, by
      unfold proveB
      exact (pssv_cons (psv_if (pt_tru (KK := K) rfl (pv_var rfl rfl rfl) (fun _ => rfl)) (pssv_cons (psv_set sc_prove.nd (pv_call (KK := K) rfl c_clash (hr.mono (by omega)) (pav_cons (pv_var rfl rfl rfl) (pav_cons (pv_var rfl rfl rfl) pav_nil rfl) rfl) rfl rfl rfl rfl) rfl rfl rfl rfl)
      (pssv_one (psv_if (pt_notN (pv_var rfl rfl rfl)) (pssv_one (psv_ret (pv_tup (pav_cons pv_str (pav_cons (pv_var rfl rfl rfl) pav_nil rfl) rfl)))) pssv_nil))) pssv_nil)
      (pssv_one (psv_ret (pv_tup (pav_cons pv_str (pav_cons (pv_as (plv_comp rfl sc_prove.nd (piv_list (KK := K) rfl (pv_call (KK := K) rfl c_choices (hr.mono (by omega)) (pav_cons (pv_var rfl rfl rfl) (pav_cons (pv_len (KK := K) rfl m_len (pav_cons (pv_var rfl rfl rfl) pav_nil rfl) rfl rfl rfl) pav_nil rfl) rfl) rfl rfl rfl rfl)) (blkOk_eq (own := [("offset", 3)]) (N := ["periods", "offsets", "other", "offset"]) (sc := defScope s_prove) rfl rfl (by decide +kernel)) rfl (fun _ _ _ _ _ => (pgv_name sc_prove.nd rfl rfl rfl)) (fun _ _ _ _ _ => ptsv_nil) (fun _ _ _ _ _ => (pv_call (KK := K) rfl c_prove (hr.mono (by omega)) (pav_cons (pv_var rfl rfl rfl) (pav_cons (pv_op (op_add.or op_cat) ov_add (pv_var rfl rfl rfl) (pv_as (plv_lst (pav_cons (pv_var rfl rfl rfl) pav_nil rfl)))) pav_nil rfl) rfl) rfl rfl rfl rfl)) (fun _ => rfl))) pav_nil rfl) rfl)))))⟩
abbrev s_spread : Stmt := topS 17
theorem sc_spread : FnScope ["periods", "found"] ["periods"] (defScope s_spread) := ⟨rfl, rfl, rfl, by decide +kernel, rfl, by decide +kernel, by decide +kernel⟩
theorem fn_spread (n : Nat) {f : Addr} {fd : FuncData} (F : Fun K "spread" "spread" s_spread f fd) (c_is_full : Cal P w K mg base "is_full" 2 (is_fullF n)) (c_prove : Cal P w K mg base "prove" 11 (proveF n 8)) (c_search : Cal P w K mg base "search" 11 (searchF n 8)) : FnOk P w K mg base CX0 12 f fd ["periods"] (vsp K (spreadF n)) :=
  fn_def (k := 11) (fb := spreadB n) F sc_spread rfl rfl fun cdv A outer s H E hr => ⟨_, by
    unfold spreadB
    exact (pssv_cons (psv_if (pt_tru (KK := K) rfl (pv_call (KK := K) rfl c_is_full (hr.mono (by omega)) (pav_cons (pv_var rfl rfl rfl) pav_nil rfl) rfl rfl rfl rfl) (fun _ => rfl)) (pssv_one (psv_ret (pv_tup (pav_cons pv_str (pav_cons (pv_tup (pav_cons pv_str pav_nil rfl)) pav_nil rfl) rfl)))) pssv_nil)
      (pssv_cons (psv_set sc_spread.nd (pv_call (KK := K) rfl c_search (hr.mono (by omega)) (pav_cons (pv_var rfl rfl rfl) (pav_cons (pv_as (plv_lst pav_nil)) pav_nil rfl) rfl) rfl rfl rfl rfl) rfl rfl rfl rfl)
      (pssv_one (psv_ret (pv_if (pt_isN (pv_var rfl rfl rfl)) (pv_tup (pav_cons pv_str (pav_cons (pv_call (KK := K) rfl c_prove (hr.mono (by omega)) (pav_cons (pv_var rfl rfl rfl) (pav_cons (pv_as (plv_lst pav_nil)) pav_nil rfl) rfl) rfl rfl rfl rfl) pav_nil rfl) rfl)) (pv_tup (pav_cons pv_str (pav_cons (pv_var rfl rfl rfl) pav_nil rfl) rfl)))))))⟩
abbrev s_tree_fault : Stmt := topS 18
theorem sc_tree_fault : FnScope ["periods", "offsets", "tree", "at", "offset", "below", "fault"] ["periods", "offsets", "tree"] (defScope s_tree_fault) := ⟨rfl, rfl, rfl, by decide +kernel, rfl, by decide +kernel, by decide +kernel⟩
theorem fn_tree_fault (n : Nat) {f : Addr} {fd : FuncData} (F : Fun K "tree_fault" "tree_fault" s_tree_fault f fd) (hm : mg "tree_fault" = some (.ref f)) (hk : PySem.W.keepIn K (.ref f) = true) (hb : Binds K fd ["periods", "offsets", "tree"] []) (m_len : mg "len" = none) (m_zip : mg "zip" = none) (c_choices : Cal P w K mg base "choices" 1 (choicesF)) (c_common : Cal P w K mg base "common" 1 (commonF n)) (c_is_full : Cal P w K mg base "is_full" 2 (is_fullF n)) : ∀ m : Nat, FnOk P w K mg base CX0 (3 + m) f fd ["periods", "offsets", "tree"] (vsp K (tree_faultF n m))
  | 0 => (fn_none F sc_tree_fault).mono (by omega)
  | m + 1 => by
    have c_tree_fault : Cal P w K mg base "tree_fault" (3 + m) (tree_faultF n m) := cal_mk (fn_tree_fault n F hm hk hb m_len m_zip c_choices c_common c_is_full m) hm hk hb
    exact fn_def (k := 3 + m) (fb := tree_faultB n (tree_faultF n m)) F sc_tree_fault rfl rfl fun cdv A outer s H E hr => ⟨_, by
      unfold tree_faultB
      exact (pssv_cons (psv_if (pt_cmpV (eqD' (KK := K) rfl hr.units) ov_eq (pv_ix (KK := K) rfl (pv_var rfl rfl rfl) pv_int (fun _ _ => rfl)) pv_str (nomark _)) (pssv_one (psv_ret (pv_if (PWV.pt (pwv_and (ptv_not (pt_tru (KK := K) rfl (pv_var rfl rfl rfl) (fun _ => rfl))) (pwv_and1 (pt_tru (KK := K) rfl (pv_call (KK := K) rfl c_is_full (hr.mono (by omega)) (pav_cons (pv_var rfl rfl rfl) pav_nil rfl) rfl rfl rfl rfl) (fun _ => rfl))))) pv_non (pv_var rfl rfl rfl)))) pssv_nil)
      (pssv_cons (psv_if (pt_cmpV (eqD' (KK := K) rfl hr.units) ov_eq (pv_ix (KK := K) rfl (pv_var rfl rfl rfl) pv_int (fun _ _ => rfl)) pv_str (nomark _)) (pssv_cons (psv_set sc_tree_fault.nd (pv_op op_sub ov_sub (pv_len (KK := K) rfl m_len (pav_cons (pv_var rfl rfl rfl) pav_nil rfl) rfl rfl rfl) pv_int) rfl rfl rfl rfl)
      (pssv_cons (psv_if (PWV.pt (pwv_or (ptv_not (pt_chainV op_le ov_le op_lt ov_lt pv_int (pv_ix (KK := K) rfl (pv_var rfl rfl rfl) pv_int (fun _ _ => rfl)) (pv_var rfl rfl rfl) (by with_unfolding_all rfl))) (pwv_or1 (pt_cmpV (neD' (KK := K) rfl hr.units) ov_ne (pv_op op_mod ov_mod (pv_op op_sub ov_sub (pv_ix (KK := K) rfl (pv_var rfl rfl rfl) (pv_ix (KK := K) rfl (pv_var rfl rfl rfl) pv_int (fun _ _ => rfl)) (fun _ _ => rfl)) (pv_ix (KK := K) rfl (pv_var rfl rfl rfl) (pv_var rfl rfl rfl) (fun _ _ => rfl))) (pv_call (KK := K) rfl c_common (hr.mono (by omega)) (pav_cons (pv_ix (KK := K) rfl (pv_var rfl rfl rfl) (pv_ix (KK := K) rfl (pv_var rfl rfl rfl) pv_int (fun _ _ => rfl)) (fun _ _ => rfl)) (pav_cons (pv_ix (KK := K) rfl (pv_var rfl rfl rfl) (pv_var rfl rfl rfl) (fun _ _ => rfl)) pav_nil rfl) rfl) rfl rfl rfl rfl)) pv_int (nomark _))))) (pssv_one (psv_ret (pv_var rfl rfl rfl))) pssv_nil)
      (pssv_one (psv_ret pv_non)))) pssv_nil)
      (pssv_cons (psv_if (PWV.pt (pwv_or (pt_cmpV (eqD' (KK := K) rfl hr.units) ov_eq (pv_len (KK := K) rfl m_len (pav_cons (pv_var rfl rfl rfl) pav_nil rfl) rfl rfl rfl) (pv_len (KK := K) rfl m_len (pav_cons (pv_var rfl rfl rfl) pav_nil rfl) rfl rfl rfl) (nomark _)) (pwv_or1 (pt_cmpV (neD' (KK := K) rfl hr.units) ov_ne (pv_len (KK := K) rfl m_len (pav_cons (pv_ix (KK := K) rfl (pv_var rfl rfl rfl) pv_int (fun _ _ => rfl)) pav_nil rfl) rfl rfl rfl) (pv_len (KK := K) rfl m_len (pav_cons (pv_call (KK := K) rfl c_choices (hr.mono (by omega)) (pav_cons (pv_var rfl rfl rfl) (pav_cons (pv_len (KK := K) rfl m_len (pav_cons (pv_var rfl rfl rfl) pav_nil rfl) rfl rfl rfl) pav_nil rfl) rfl) rfl rfl rfl rfl) pav_nil rfl) rfl rfl rfl) (nomark _))))) (pssv_one (psv_ret (pv_var rfl rfl rfl))) pssv_nil)
      (pssv_cons (psv_for rfl (piv_zip (KK := K) rfl m_zip (pav_cons (pv_call (KK := K) rfl c_choices (hr.mono (by omega)) (pav_cons (pv_var rfl rfl rfl) (pav_cons (pv_len (KK := K) rfl m_len (pav_cons (pv_var rfl rfl rfl) pav_nil rfl) rfl rfl rfl) pav_nil rfl) rfl) rfl rfl rfl rfl) (pav_cons (pv_ix (KK := K) rfl (pv_var rfl rfl rfl) pv_int (fun _ _ => rfl)) pav_nil rfl) rfl) rfl rfl rfl) (pgv_tup (KK := K) rfl rfl (pgsv_cons (pgv_name sc_tree_fault.nd rfl rfl rfl) (pgsv_cons (pgv_name sc_tree_fault.nd rfl rfl rfl) pgsv_nil rfl) rfl) rfl rfl) (pssv_cons (psv_set sc_tree_fault.nd (pv_call (KK := K) rfl c_tree_fault (hr.mono (by omega)) (pav_cons (pv_var rfl rfl rfl) (pav_cons (pv_op (op_add.or op_cat) ov_add (pv_var rfl rfl rfl) (pv_as (plv_lst (pav_cons (pv_var rfl rfl rfl) pav_nil rfl)))) (pav_cons (pv_var rfl rfl rfl) pav_nil rfl) rfl) rfl) rfl rfl rfl rfl) rfl rfl rfl rfl)
      (pssv_one (psv_if (pt_notN (pv_var rfl rfl rfl)) (pssv_one (psv_ret (pv_var rfl rfl rfl))) pssv_nil))) PassesOwn.never (fun _ => rfl))
      (pssv_one (psv_ret pv_non))))))⟩
abbrev s_spread_fault : Stmt := topS 19
theorem sc_spread_fault : FnScope ["periods", "told", "fault", "offsets", "offset", "period", "at", "other"] ["periods", "told"] (defScope s_spread_fault) := ⟨rfl, rfl, rfl, by decide +kernel, rfl, by decide +kernel, by decide +kernel⟩
theorem fn_spread_fault (n : Nat) {f : Addr} {fd : FuncData} (F : Fun K "spread_fault" "spread_fault" s_spread_fault f fd) (m_all : mg "all" = none) (m_len : mg "len" = none) (m_range : mg "range" = none) (m_zip : mg "zip" = none) (c_clash : Cal P w K mg base "clash" 2 (clashF n)) (c_tree_fault : Cal P w K mg base "tree_fault" 11 (tree_faultF n 8)) : FnOk P w K mg base CX0 12 f fd ["periods", "told"] (vsp K (spread_faultF n)) :=
  fn_def (k := 11) (fb := spread_faultB n) F sc_spread_fault rfl rfl fun cdv A outer s H E hr => ⟨_, by
    unfold spread_faultB
    exact (pssv_cons (psv_if (pt_cmpV (eqD' (KK := K) rfl hr.units) ov_eq (pv_ix (KK := K) rfl (pv_var rfl rfl rfl) pv_int (fun _ _ => rfl)) pv_str (nomark _)) (pssv_cons (psv_set sc_spread_fault.nd (pv_call (KK := K) rfl c_tree_fault (hr.mono (by omega)) (pav_cons (pv_var rfl rfl rfl) (pav_cons (pv_as (plv_lst pav_nil)) (pav_cons (pv_ix (KK := K) rfl (pv_var rfl rfl rfl) pv_int (fun _ _ => rfl)) pav_nil rfl) rfl) rfl) rfl rfl rfl rfl) rfl rfl rfl rfl)
      (pssv_one (psv_ret (pv_if (pt_isN (pv_var rfl rfl rfl)) pv_non (pv_tup (pav_cons pv_str (pav_cons (pv_var rfl rfl rfl) pav_nil rfl) rfl)))))) pssv_nil)
      (pssv_cons (psv_set sc_spread_fault.nd (pv_ix (KK := K) rfl (pv_var rfl rfl rfl) pv_int (fun _ _ => rfl)) rfl rfl rfl rfl)
      (pssv_cons (psv_if (PWV.pt (pwv_or (pt_cmpV (neD' (KK := K) rfl hr.units) ov_ne (pv_len (KK := K) rfl m_len (pav_cons (pv_var rfl rfl rfl) pav_nil rfl) rfl rfl rfl) (pv_len (KK := K) rfl m_len (pav_cons (pv_var rfl rfl rfl) pav_nil rfl) rfl rfl rfl) (nomark _)) (pwv_or1 (ptv_not (pt_tru (KK := K) rfl (pv_all (KK := K) rfl rfl m_all (pav_cons (pv_as (plv_comp rfl sc_spread_fault.nd (piv_zip (KK := K) rfl m_zip (pav_cons (pv_var rfl rfl rfl) (pav_cons (pv_var rfl rfl rfl) pav_nil rfl) rfl) rfl rfl rfl) (blkOk_eq (own := [("offset", 4), ("period", 5)]) (N := ["periods", "told", "fault", "offsets", "offset", "period", "at", "other"]) (sc := defScope s_spread_fault) rfl rfl (by decide +kernel)) rfl (fun _ _ _ _ _ => (pgv_tup (KK := K) rfl rfl (pgsv_cons (pgv_name sc_spread_fault.nd rfl rfl rfl) (pgsv_cons (pgv_name sc_spread_fault.nd rfl rfl rfl) pgsv_nil rfl) rfl) rfl rfl)) (fun _ _ _ _ _ => ptsv_nil) (fun _ _ _ _ _ => (pv_chain op_le ov_le op_lt ov_lt pv_int (pv_var rfl rfl rfl) (pv_var rfl rfl rfl) (by with_unfolding_all rfl))) (fun _ => rfl))) pav_nil rfl) rfl rfl rfl) (fun _ => rfl)))))) (pssv_one (psv_ret (pv_tup (pav_cons pv_str pav_nil rfl)))) pssv_nil)
      (pssv_cons (psv_for rfl (piv_range1 m_range (pav_cons (pv_len (KK := K) rfl m_len (pav_cons (pv_var rfl rfl rfl) pav_nil rfl) rfl rfl rfl) pav_nil rfl) rfl rfl) (pgv_name sc_spread_fault.nd rfl rfl rfl) (pssv_cons (psv_set sc_spread_fault.nd (pv_call (KK := K) rfl c_clash (hr.mono (by omega)) (pav_cons (pv_var rfl rfl rfl) (pav_cons (pv_as (plv_slice (KK := K) rfl (pv_var rfl rfl rfl) pov_none (pov_some (pv_op (op_add.or op_cat) ov_add (pv_var rfl rfl rfl) pv_int)))) pav_nil rfl) rfl) rfl rfl rfl rfl) rfl rfl rfl rfl)
      (pssv_one (psv_if (pt_notN (pv_var rfl rfl rfl)) (pssv_one (psv_ret (pv_tup (pav_cons pv_str (pav_cons (pv_var rfl rfl rfl) (pav_cons (pv_var rfl rfl rfl) pav_nil rfl) rfl) rfl)))) pssv_nil))) PassesOwn.never (fun _ => rfl))
      (pssv_one (psv_ret pv_non))))))⟩
abbrev s__law_take : Stmt := topS 22
abbrev s__law_state : Stmt := topS 21
theorem sc__law_take : FnScope ["state", "most", "cells", "at", "cell", "mixed"] ["state", "most"] (defScope s__law_take) := ⟨rfl, rfl, rfl, by decide +kernel, rfl, by decide +kernel, by decide +kernel⟩
theorem sc__law_state : FnScope ["script", "cells", "cell"] ["script"] (defScope s__law_state) := ⟨rfl, rfl, rfl, by decide +kernel, rfl, by decide +kernel, by decide +kernel⟩
theorem fn_take {f : Addr} {fd : FuncData} (F : Fun K "_law_take" "_law_take" s__law_take f fd) (m_len : mg "len" = none) (m_int : mg "int" = none) : FnOk P w K mg base CX0 1 f fd ["state", "most"] (spTake K) := by
  refine F.ok sc__law_take (fun vs H Q E h => ?_) (fun cdv A outer s H vs Q E hr h => ?_)
  · obtain ⟨_, _, _, _, _, _, rfl, _⟩ := h; rfl
  obtain ⟨D, C, w0, most, r, w', rfl, hne, hD, hC, ht, q⟩ := h
  have nd := sc__law_take.nd
  refine ⟨_, pss_cons (ps_set (i := 2) nd rfl (.inl rfl) (pe_ix ix_list (pv 0) pe_int (fun _ _ => rfl)))
    (pss_cons (ps_set (i := 3) nd rfl (.inl rfl) (pe_op op_mod (pe_ix ix_list (pv 0) pe_int (fun _ _ => rfl)) (pe_callB call_len_seq (by rfl) m_len PySem.boot_len (pa_cons (pv 2) pa_nil))))
    (pss_cons (ps_set (i := 4) nd rfl (.inl rfl) (pe_ix ix_list (pv 2) (pv 3) (fun _ _ => rfl)))
    (pss_cons (ps_if (pt_cmpR op_ge (pv 4) pe_int (nomark _)) (pss_cons (ps_asg (pe_op op_fdiv (pv 4) (pv 1)) (pg_sub (pv 2) (pv 3) set_list)) (pss_one (ps_ret (pe_op op_mod (pv 4) (pv 1))))) pss_nil)
    (pss_cons (ps_asg (pe_op op_add (pe_ix ix_list (pv 0) pe_int (fun _ _ => rfl)) pe_int) (pg_sub (pv 0) pe_int set_list))
    (pss_cons (ps_set (i := 5) nd rfl (.inl rfl) (pe_op op_mod (pe_callTy call_int1 (by rfl) m_int (by decide +kernel) (pa_cons (pe_op op_add (pe_op op_mul (pv 4) pe_int) (pe_op op_mul (pe_ix ix_list (pv 0) pe_int (fun _ _ => rfl)) pe_int)) pa_nil)) pe_int))
    (pss_cons (ps_set (i := 5) nd rfl (.inl rfl) (pe_op op_mod (pe_callTy call_int1 (by rfl) m_int (by decide +kernel) (pa_cons (pe_op op_add (pe_op op_mul (pv 5) pe_int) (pe_op op_mul (pe_ix ix_list (pv 0) pe_int (fun _ _ => rfl)) pe_int)) pa_nil)) pe_int))
    (pss_one (ps_ret (pe_op op_mod (pe_op op_fdiv (pv 5) pe_int) (pv 1)))))))))), ?_⟩
  unfold takeW at ht
  split at ht
  rotate_left
  · cases ht
  rename_i hc
  obtain ⟨h0, h1, h2⟩ := hc
  dsimp only at ht
  split at ht
  · cases ht
  rename_i cell ecell
  have hcl : ((w0.cells.map V.int).length : Int) = (w0.cells.length : Int) := by rw [List.length_map]
  have hlen : (0 : Int) < (w0.cells.map V.int).length := by rw [hcl]; omega
  have hnn : 0 ≤ w0.pos % (w0.cells.length : Int) := Int.emod_nonneg _ (by omega)
  have eat : w0.pos % ((w0.cells.map V.int).length : Int) = (((w0.pos % (w0.cells.length : Int)).toNat : Nat) : Int) := by rw [hcl]; omega
  have gcell : (w0.cells.map V.int)[(w0.pos % (w0.cells.length : Int)).toNat]? = some (.int cell) := by rw [List.getElem?_map, ecell]; rfl
  -- cells = state[1]; at; cell
  refine ⟨.ref D, rfl, D, _, 1, .ref C, rfl, rfl, SqL.of hD, (by rfl), ?_⟩
  refine ⟨.ref D, rfl, D, _, 0, .int w0.pos, rfl, rfl, SqL.of hD, L2.atI_nat (j := 0) rfl, .ref C, rfl, C, _, rfl, .inl (SqL.of hC), w0.pos, _, rfl, rfl, hlen, ?_⟩
  refine ⟨.ref C, rfl, .int _, rfl, C, _, _, .int cell, rfl, rfl, SqL.of hC, ?_, ?_⟩
  · rw [eat]; exact L2.atI_nat gcell
  refine ⟨.int cell, rfl, cell, _, rfl, rfl, _, rfl, ?_⟩
  split at ht
  · rename_i hbig
    cases ht
    rw [decide_eq_true hbig]
    refine iteT ?_
    refine ⟨.int cell, rfl, .int most, rfl, cell, most, rfl, rfl, ⟨h0, h1⟩, .ref C, rfl, .int _, rfl, C, _, _, (w0.pos % (w0.cells.length : Int)).toNat, rfl, rfl, hC, ?_, ?_⟩
    · rw [eat]
      unfold L2.ixN
      have := (List.getElem?_eq_some_iff.mp gcell).1
      rw [if_pos (by omega), if_pos (by omega)]
      rfl
    refine ⟨.int cell, rfl, .int most, rfl, cell, most, rfl, rfl, h0, ?_⟩
    refine q _ (fun a o n1 n2 e => by rw [upd_ne n2]; exact e) (fun a e => ?_) (by rw [upd_ne hne]; exact hD) (by rw [upd_same, List.map_set])
    by_cases z : a = C
    · subst z; rw [upd_same]; simp
    · rw [upd_ne z]; exact e
  · rename_i hbig
    cases ht
    rw [decide_eq_false hbig]
    refine iteF ?_
    refine ⟨.ref D, rfl, D, _, 0, .int w0.pos, rfl, rfl, SqL.of hD, L2.atI_nat (j := 0) rfl, w0.pos, 1, rfl, rfl, .ref D, rfl, D, _, 0, 0, rfl, rfl, hD, rfl, ?_⟩
    have eD : (upd H D (.lst ([V.int w0.pos, .ref C].set 0 (.int (w0.pos + 1))))) D = some (.lst [.int (w0.pos + 1), .ref C]) := upd_same
    refine ⟨.int cell, rfl, cell, 48271, rfl, rfl, .inr (by omega), .ref D, rfl, D, _, 0, .int (w0.pos + 1), rfl, rfl, SqL.of eD, L2.atI_nat (j := 0) rfl, w0.pos + 1, 69621, rfl, rfl, .inr (by omega), _, _, rfl, rfl, .inl ⟨_, rfl, _, 2147483647, rfl, rfl, by omega, ?_⟩⟩
    refine ⟨_, rfl, _, 16807, rfl, rfl, .inr (by omega), .ref D, rfl, D, _, 0, .int (w0.pos + 1), rfl, rfl, SqL.of eD, L2.atI_nat (j := 0) rfl, w0.pos + 1, 7919, rfl, rfl, .inr (by omega), _, _, rfl, rfl, .inl ⟨_, rfl, _, 1000000007, rfl, rfl, by omega, ?_⟩⟩
    refine ⟨_, rfl, _, 7, rfl, rfl, ⟨by omega, by omega⟩, .int most, rfl, _, most, rfl, rfl, h0, ?_⟩
    refine q _ (fun a o n1 n2 e => by rw [upd_ne n1]; exact e) (fun a e => ?_) eD (by rw [upd_ne hne.symm]; exact hC)
    by_cases z : a = D
    · subst z; rw [upd_same]; simp
    · rw [upd_ne z]; exact e
theorem fn_state {f : Addr} {fd : FuncData} (F : Fun K "_law_state" "_law_state" s__law_state f fd) (m_abs : mg "abs" = none) (m_len : mg "len" = none) : FnOk P w K mg base CX0 1 f fd ["script"] (spState K) :=
  state_ok (st := s__law_state) F sc__law_state rfl fun cdv A outer s H E hr => ⟨_, _, by
    unfold stateB1
    exact (psv_ownLc rfl sc__law_state.nd (sw_true rfl rfl rfl (by decide +kernel)) (piv_list (KK := K) rfl (pv_as (plv_cutZ (KK := K) rfl rfl rfl rfl pov_none (pov_some pv_int)))) (blkOk_eq (own := [("cell", 2)]) (N := ["script", "cells", "cell"]) (sc := defScope s__law_state) rfl rfl (by decide +kernel)) rfl (fun _ _ _ _ _ => (pgv_name sc__law_state.nd rfl rfl rfl)) (fun _ _ _ _ _ => ptsv_nil) (fun _ _ _ _ _ => (pv_abs m_abs (pav_cons (pv_var rfl rfl rfl) pav_nil rfl) rfl rfl rfl)) (fun _ => rfl) rfl rfl), by
    unfold stateB2
    exact (psv_if (pt_cmpV (eqD' (KK := K) rfl hr.units) ov_eq (pv_len (KK := K) rfl m_len (pav_cons (pv_varO rfl rfl rfl) pav_nil rfl) rfl rfl rfl) pv_int (nomark _)) (pssv_one (psv_own sc__law_state.nd (plv_lst (pav_cons pv_int pav_nil rfl)) rfl rfl rfl rfl)) pssv_nil), ps_ret (pe_lst (pa_cons pe_int (pa_cons (pv 1) pa_nil)))⟩

abbrev s_law : Stmt := topS 23
theorem sc_law : FnScope ["script", "state", "periods", "k", "told", "offsets", "period", "rows", "i", "j", "shared", "minute", "first", "whole", "row", "minutes"] ["script"] (defScope s_law) := ⟨rfl, rfl, rfl, by decide +kernel, rfl, by decide +kernel, by decide +kernel⟩
theorem fn_law (n : Nat) {f : Addr} {fd : FuncData} (F : Fun K "law" "law" s_law f fd) (c_state : CalS P w K mg base "_law_state" 1) (m_abs : mg "abs" = none) (m_len : mg "len" = none) (m_range : mg "range" = none) (m_sum : mg "sum" = none) (c__law_take : CalT P w K mg base "_law_take" 1) (c_any_of : Cal P w K mg base "any_of" 3 (any_ofF n)) (c_both : Cal P w K mg base "both" 3 (bothF n)) (c_common : Cal P w K mg base "common" 1 (commonF n)) (c_count_to : Cal P w K mg base "count_to" 1 (count_toF)) (c_from_runs : Cal P w K mg base "from_runs" 2 (from_runsF n)) (c_goes : Cal P w K mg base "goes" 1 (goesF)) (c_meet : Cal P w K mg base "meet" 2 (meetF n)) (c_nth : Cal P w K mg base "nth" 1 (nthF)) (c_spread : Cal P w K mg base "spread" 12 (spreadF n)) (c_spread_fault : Cal P w K mg base "spread_fault" 12 (spread_faultF n))
    (run : ∀ ns : List Int, ns.length ≤ 63 → ∃ env' w', lawB n ((Slot.fz ns :: List.replicate 15 Slot.no).set 1 (.st 1)) ⟨0, stateCells ns⟩ = some ((.rt (.bool true), env'), w')) : FnOk P w K mg base CX0 13 f fd ["script"] (spLaw K) :=
  law_ok (k := 12) (i := 1) (fb := lawB n) F sc_law rfl (by decide) (fun cdv A outer s H E hr => ⟨by
    obtain ⟨fa, fd, G, mgf, kp, bi⟩ := c_state.ex
    exact ps_set sc_law.nd rfl (.inr rfl) (pe_call G (hr.mono (by decide)) (by rfl) mgf kp bi .nil pass0 (pa_cons (pv 0) pa_nil)), _, by
    unfold lawB
    exact (pssv_cons (psv_set sc_law.nd (pv_as (plv_comp rfl sc_law.nd (piv_range1 m_range (pav_cons (pv_op (op_add.or op_cat) ov_add pv_int (pv_take (KK := K) rfl c__law_take (hr.mono (by omega)) pv_int rfl rfl rfl rfl rfl rfl rfl rfl)) pav_nil rfl) rfl rfl) (blkOk_eq (own := [("k", 3)]) (N := ["script", "state", "periods", "k", "told", "offsets", "period", "rows", "i", "j", "shared", "minute", "first", "whole", "row", "minutes"]) (sc := defScope s_law) rfl rfl (by decide +kernel)) rfl (fun _ _ _ _ _ => (pgv_name sc_law.nd rfl rfl rfl)) (fun _ _ _ _ _ => ptsv_nil) (fun _ _ _ _ _ => (pv_op (op_add.or op_cat) ov_add pv_int (pv_take (KK := K) rfl c__law_take (hr.mono (by omega)) pv_int rfl rfl rfl rfl rfl rfl rfl rfl))) (fun _ => rfl))) rfl rfl rfl rfl)
      (pssv_cons (psv_set sc_law.nd (pv_call (KK := K) rfl c_spread (hr.mono (by omega)) (pav_cons (pv_var rfl rfl rfl) pav_nil rfl) rfl rfl rfl rfl) rfl rfl rfl rfl)
      (pssv_cons (psv_if (pt_notN (pv_call (KK := K) rfl c_spread_fault (hr.mono (by omega)) (pav_cons (pv_var rfl rfl rfl) (pav_cons (pv_var rfl rfl rfl) pav_nil rfl) rfl) rfl rfl rfl rfl)) (pssv_one (psv_ret pv_bl)) pssv_nil)
      (pssv_cons (psv_set sc_law.nd (pv_if (pt_cmpV (eqD' (KK := K) rfl hr.units) ov_eq (pv_ix (KK := K) rfl (pv_var rfl rfl rfl) pv_int (fun _ _ => rfl)) pv_str (nomark _)) (pv_ix (KK := K) rfl (pv_var rfl rfl rfl) pv_int (fun _ _ => rfl)) (pv_as (plv_comp rfl sc_law.nd (piv_list (KK := K) rfl (pv_var rfl rfl rfl)) (blkOk_eq (own := [("period", 6)]) (N := ["script", "state", "periods", "k", "told", "offsets", "period", "rows", "i", "j", "shared", "minute", "first", "whole", "row", "minutes"]) (sc := defScope s_law) rfl rfl (by decide +kernel)) rfl (fun _ _ _ _ _ => (pgv_name sc_law.nd rfl rfl rfl)) (fun _ _ _ _ _ => ptsv_nil) (fun _ _ _ _ _ => (pv_take (KK := K) rfl c__law_take (hr.mono (by omega)) (pv_var rfl rfl rfl) rfl rfl rfl rfl rfl rfl rfl rfl)) (fun _ => rfl)))) rfl rfl rfl rfl)
      (pssv_cons (psv_set sc_law.nd (pv_as (plv_comp rfl sc_law.nd (piv_range1 m_range (pav_cons (pv_len (KK := K) rfl m_len (pav_cons (pv_var rfl rfl rfl) pav_nil rfl) rfl rfl rfl) pav_nil rfl) rfl rfl) (blkOk_eq (own := [("k", 3)]) (N := ["script", "state", "periods", "k", "told", "offsets", "period", "rows", "i", "j", "shared", "minute", "first", "whole", "row", "minutes"]) (sc := defScope s_law) rfl rfl (by decide +kernel)) rfl (fun _ _ _ _ _ => (pgv_name sc_law.nd rfl rfl rfl)) (fun _ _ _ _ _ => ptsv_nil) (fun _ _ _ _ _ => (pv_call (KK := K) rfl c_from_runs (hr.mono (by omega)) (pav_cons (pv_ix (KK := K) rfl (pv_var rfl rfl rfl) (pv_var rfl rfl rfl) (fun _ _ => rfl)) (pav_cons (pv_ix (KK := K) rfl (pv_var rfl rfl rfl) (pv_var rfl rfl rfl) (fun _ _ => rfl)) pav_nil rfl) rfl) rfl rfl rfl rfl)) (fun _ => rfl))) rfl rfl rfl rfl)
      (pssv_cons (psv_for rfl (piv_range1 m_range (pav_cons (pv_len (KK := K) rfl m_len (pav_cons (pv_var rfl rfl rfl) pav_nil rfl) rfl rfl rfl) pav_nil rfl) rfl rfl) (pgv_name sc_law.nd rfl rfl rfl) (pssv_one (psv_for rfl (piv_range1 m_range (pav_cons (pv_var rfl rfl rfl) pav_nil rfl) rfl rfl) (pgv_name sc_law.nd rfl rfl rfl) (pssv_cons (psv_setLc rfl sc_law.nd (sw_true rfl rfl rfl (by decide +kernel)) (piv_range1 m_range (pav_cons pv_int pav_nil rfl) rfl rfl) (blkOk_eq (own := [("minute", 11)]) (N := ["script", "state", "periods", "k", "told", "offsets", "period", "rows", "i", "j", "shared", "minute", "first", "whole", "row", "minutes"]) (sc := defScope s_law) rfl rfl (by decide +kernel)) rfl (fun _ _ _ _ _ => (pgv_name sc_law.nd rfl rfl rfl)) (fun _ _ _ _ _ => (ptsv_one (PWV.pt (pwv_and (pt_tru (KK := K) rfl (pv_call (KK := K) rfl c_goes (hr.mono (by omega)) (pav_cons (pv_ix (KK := K) rfl (pv_var rfl rfl rfl) (pv_var rfl rfl rfl) (fun _ _ => rfl)) (pav_cons (pv_var rfl rfl rfl) pav_nil rfl) rfl) rfl rfl rfl rfl) (fun _ => rfl)) (pwv_and1 (pt_tru (KK := K) rfl (pv_call (KK := K) rfl c_goes (hr.mono (by omega)) (pav_cons (pv_ix (KK := K) rfl (pv_var rfl rfl rfl) (pv_var rfl rfl rfl) (fun _ _ => rfl)) (pav_cons (pv_var rfl rfl rfl) pav_nil rfl) rfl) rfl rfl rfl rfl) (fun _ => rfl))))))) (fun _ _ _ _ _ => (pv_var rfl rfl rfl)) (fun _ => rfl) rfl rfl)
      (pssv_cons (psv_set sc_law.nd (pv_call (KK := K) rfl c_nth (hr.mono (by omega)) (pav_cons (pv_call (KK := K) rfl c_both (hr.mono (by omega)) (pav_cons (pv_ix (KK := K) rfl (pv_var rfl rfl rfl) (pv_var rfl rfl rfl) (fun _ _ => rfl)) (pav_cons (pv_ix (KK := K) rfl (pv_var rfl rfl rfl) (pv_var rfl rfl rfl) (fun _ _ => rfl)) pav_nil rfl) rfl) rfl rfl rfl rfl) (pav_cons pv_int pav_nil rfl) rfl) rfl rfl rfl rfl) rfl rfl rfl rfl)
      (pssv_cons (psv_if (PWV.pt (pwv_or (pt_cmpV (neD' (KK := K) rfl hr.units) ov_ne (pv_var rfl rfl rfl) (pv_if (pt_cmpV op_gt ov_gt (pv_len (KK := K) rfl m_len (pav_cons (pv_var rfl rfl rfl) pav_nil rfl) rfl rfl rfl) pv_int (nomark _)) (pv_ix (KK := K) rfl (pv_var rfl rfl rfl) pv_int (fun _ _ => rfl)) pv_non) (nomark _)) (pwv_or1 (PWV.pt (pwv_and (pt_cmpV (eqD' (KK := K) rfl hr.units) ov_eq (pv_ix (KK := K) rfl (pv_var rfl rfl rfl) pv_int (fun _ _ => rfl)) pv_str (nomark _)) (pwv_and1 (pt_notN (pv_var rfl rfl rfl)))))))) (pssv_one (psv_ret pv_bl)) pssv_nil)
      (pssv_cons (psv_if (pt_cmpV (neD' (KK := K) rfl hr.units) ov_ne (pv_call (KK := K) rfl c_meet (hr.mono (by omega)) (pav_cons (pv_tup (pav_cons (pv_ix (KK := K) rfl (pv_var rfl rfl rfl) (pv_var rfl rfl rfl) (fun _ _ => rfl)) (pav_cons (pv_ix (KK := K) rfl (pv_var rfl rfl rfl) (pv_var rfl rfl rfl) (fun _ _ => rfl)) pav_nil rfl) rfl)) (pav_cons (pv_tup (pav_cons (pv_ix (KK := K) rfl (pv_var rfl rfl rfl) (pv_var rfl rfl rfl) (fun _ _ => rfl)) (pav_cons (pv_ix (KK := K) rfl (pv_var rfl rfl rfl) (pv_var rfl rfl rfl) (fun _ _ => rfl)) pav_nil rfl) rfl)) pav_nil rfl) rfl) rfl rfl rfl rfl) (pv_var rfl rfl rfl) (nomark _)) (pssv_one (psv_ret pv_bl)) pssv_nil)
      (pssv_one (psv_if (pt_cmpV (neD' (KK := K) rfl hr.units) ov_ne (pv_notN (pv_var rfl rfl rfl)) (pv_cmp (eqD' (KK := K) rfl hr.units) ov_eq (pv_op op_mul ov_mul (pv_op op_fdiv ov_div (pv_abs m_abs (pav_cons (pv_op op_sub ov_sub (pv_ix (KK := K) rfl (pv_var rfl rfl rfl) (pv_var rfl rfl rfl) (fun _ _ => rfl)) (pv_ix (KK := K) rfl (pv_var rfl rfl rfl) (pv_var rfl rfl rfl) (fun _ _ => rfl))) pav_nil rfl) rfl rfl rfl) (pv_call (KK := K) rfl c_common (hr.mono (by omega)) (pav_cons (pv_ix (KK := K) rfl (pv_var rfl rfl rfl) (pv_var rfl rfl rfl) (fun _ _ => rfl)) (pav_cons (pv_ix (KK := K) rfl (pv_var rfl rfl rfl) (pv_var rfl rfl rfl) (fun _ _ => rfl)) pav_nil rfl) rfl) rfl rfl rfl rfl)) (pv_call (KK := K) rfl c_common (hr.mono (by omega)) (pav_cons (pv_ix (KK := K) rfl (pv_var rfl rfl rfl) (pv_var rfl rfl rfl) (fun _ _ => rfl)) (pav_cons (pv_ix (KK := K) rfl (pv_var rfl rfl rfl) (pv_var rfl rfl rfl) (fun _ _ => rfl)) pav_nil rfl) rfl) rfl rfl rfl rfl)) (pv_abs m_abs (pav_cons (pv_op op_sub ov_sub (pv_ix (KK := K) rfl (pv_var rfl rfl rfl) (pv_var rfl rfl rfl) (fun _ _ => rfl)) (pv_ix (KK := K) rfl (pv_var rfl rfl rfl) (pv_var rfl rfl rfl) (fun _ _ => rfl))) pav_nil rfl) rfl rfl rfl) (nomark _)) (nomark _)) (pssv_one (psv_ret pv_bl)) pssv_nil)))))) PassesOwn.never (fun _ => rfl))) PassesOwn.never (fun _ => rfl))
      (pssv_cons (psv_set sc_law.nd (pv_ix (KK := K) rfl (pv_var rfl rfl rfl) pv_int (fun _ _ => rfl)) rfl rfl rfl rfl)
      (pssv_cons (psv_for rfl (piv_list (KK := K) rfl (pv_as (plv_slice (KK := K) rfl (pv_var rfl rfl rfl) (pov_some pv_int) pov_none))) (pgv_name sc_law.nd rfl rfl rfl) (pssv_one (psv_set sc_law.nd (pv_call (KK := K) rfl c_any_of (hr.mono (by omega)) (pav_cons (pv_var rfl rfl rfl) (pav_cons (pv_var rfl rfl rfl) pav_nil rfl) rfl) rfl rfl rfl rfl) rfl rfl rfl rfl)) PassesOwn.never (fun _ => rfl))
      (pssv_cons (psv_setLc rfl sc_law.nd (sw_true rfl rfl rfl (by decide +kernel)) (piv_range1 m_range (pav_cons pv_int pav_nil rfl) rfl rfl) (blkOk_eq (own := [("minute", 11)]) (N := ["script", "state", "periods", "k", "told", "offsets", "period", "rows", "i", "j", "shared", "minute", "first", "whole", "row", "minutes"]) (sc := defScope s_law) rfl rfl (by decide +kernel)) rfl (fun _ _ _ _ _ => (pgv_name sc_law.nd rfl rfl rfl)) (fun _ _ _ _ _ => (ptsv_one (pt_cmpV op_gt ov_gt (pv_len (KK := K) rfl m_len (pav_cons (pv_as (plv_comp rfl sc_law.nd (piv_list (KK := K) rfl (pv_var rfl rfl rfl)) (blkOk_eq (own := [("row", 14)]) (N := ["script", "state", "periods", "k", "told", "offsets", "period", "rows", "i", "j", "shared", "minute", "first", "whole", "row", "minutes"]) (sc := ⟨.function, [(".0", .local), ("minute", .cell), ("len", .globalImplicit), ("rows", .cell)], false, false, []⟩) rfl rfl (by decide +kernel)) rfl (fun _ _ _ _ _ => (pgv_name sc_law.nd rfl rfl rfl)) (fun _ _ _ _ _ => (ptsv_one (pt_tru (KK := K) rfl (pv_call (KK := K) rfl c_goes (hr.mono (by omega)) (pav_cons (pv_var rfl rfl rfl) (pav_cons (pv_var rfl rfl rfl) pav_nil rfl) rfl) rfl rfl rfl rfl) (fun _ => rfl)))) (fun _ _ _ _ _ => (pv_var rfl rfl rfl)) (fun _ => rfl))) pav_nil rfl) rfl rfl rfl) pv_int (nomark _)))) (fun _ _ _ _ _ => (pv_var rfl rfl rfl)) (fun _ => rfl) rfl rfl)
      (pssv_cons (psv_if (PWV.pt (pwv_or (pt_cmpV (neD' (KK := K) rfl hr.units) ov_ne (pv_call (KK := K) rfl c_count_to (hr.mono (by omega)) (pav_cons (pv_var rfl rfl rfl) (pav_cons pv_int pav_nil rfl) rfl) rfl rfl rfl rfl) (pv_len (KK := K) rfl m_len (pav_cons (pv_var rfl rfl rfl) pav_nil rfl) rfl rfl rfl) (nomark _)) (pwv_or1 (pt_cmpV (neD' (KK := K) rfl hr.units) ov_ne (pv_as (plv_comp rfl sc_law.nd (piv_range1 m_range (pav_cons (pv_len (KK := K) rfl m_len (pav_cons (pv_var rfl rfl rfl) pav_nil rfl) rfl rfl rfl) pav_nil rfl) rfl rfl) (blkOk_eq (own := [("k", 3)]) (N := ["script", "state", "periods", "k", "told", "offsets", "period", "rows", "i", "j", "shared", "minute", "first", "whole", "row", "minutes"]) (sc := defScope s_law) rfl rfl (by decide +kernel)) rfl (fun _ _ _ _ _ => (pgv_name sc_law.nd rfl rfl rfl)) (fun _ _ _ _ _ => ptsv_nil) (fun _ _ _ _ _ => (pv_call (KK := K) rfl c_nth (hr.mono (by omega)) (pav_cons (pv_var rfl rfl rfl) (pav_cons (pv_var rfl rfl rfl) pav_nil rfl) rfl) rfl rfl rfl rfl)) (fun _ => rfl))) (pv_var rfl rfl rfl) (nomark _))))) (pssv_one (psv_ret pv_bl)) pssv_nil)
      (pssv_one (psv_ret (pv_or (pv_cmp (neD' (KK := K) rfl hr.units) ov_ne (pv_ix (KK := K) rfl (pv_var rfl rfl rfl) pv_int (fun _ _ => rfl)) pv_str (nomark _)) (pv_one (pv_cmp (eqD' (KK := K) rfl hr.units) ov_eq (pv_len (KK := K) rfl m_len (pav_cons (pv_var rfl rfl rfl) pav_nil rfl) rfl rfl rfl) (pv_sum (KK := K) rfl rfl m_sum (pav_cons (pv_as (plv_comp rfl sc_law.nd (piv_list (KK := K) rfl (pv_var rfl rfl rfl)) (blkOk_eq (own := [("period", 6)]) (N := ["script", "state", "periods", "k", "told", "offsets", "period", "rows", "i", "j", "shared", "minute", "first", "whole", "row", "minutes"]) (sc := defScope s_law) rfl rfl (by decide +kernel)) rfl (fun _ _ _ _ _ => (pgv_name sc_law.nd rfl rfl rfl)) (fun _ _ _ _ _ => ptsv_nil) (fun _ _ _ _ _ => (pv_op op_fdiv ov_div pv_int (pv_var rfl rfl rfl))) (fun _ => rfl))) pav_nil rfl) rfl rfl rfl) (nomark _))))))))))))))))⟩) run
theorem all_mk {l : PySem.W.OpenLaw} {w : World} {K : PySem.W.Frag} {h : Heap} {mg : Str → Option Value} {fa f0 f1 f2 f3 f4 f5 f6 f7 f8 f9 f10 f11 f12 f13 f14 f15 f16 f17 f18 f19 f20 : Addr} (X : K.In h) (G : h.Ns mainGlobals mg) (hfa : mg "law" = some (.ref fa))
    {od0 an0 od1 an1 od2 an2 od3 an3 od4 an4 od5 an5 od6 an6 od7 an7 od8 an8 od9 an9 od10 an10 od11 an11 od12 an12 od13 an13 od14 an14 od15 an15 od16 an16 od17 an17 od18 an18 od19 an19 od20 an20 : Option Addr} {sl0 sl1 sl2 sl3 sl4 sl5 sl6 sl7 sl8 sl9 sl10 sl11 sl12 sl13 sl14 sl15 sl16 sl17 sl18 sl19 sl20 : Array (Option Value)} {oc0 kV0 dc0 pm0 cd0 ct0 oc1 kV1 dc1 pm1 cd1 ct1 oc2 kV2 dc2 pm2 cd2 ct2 oc3 kV3 dc3 pm3 cd3 ct3 oc4 kV4 dc4 pm4 cd4 ct4 oc5 kV5 dc5 pm5 cd5 ct5 oc6 kV6 dc6 pm6 cd6 ct6 oc7 kV7 dc7 pm7 cd7 ct7 oc8 kV8 dc8 pm8 cd8 ct8 oc9 kV9 dc9 pm9 cd9 ct9 oc10 kV10 dc10 pm10 cd10 ct10 oc11 kV11 dc11 pm11 cd11 ct11 oc12 kV12 dc12 pm12 cd12 ct12 oc13 kV13 dc13 pm13 cd13 ct13 oc14 kV14 dc14 pm14 cd14 ct14 oc15 kV15 dc15 pm15 cd15 ct15 oc16 kV16 dc16 pm16 cd16 ct16 oc17 kV17 dc17 pm17 cd17 ct17 oc18 kV18 dc18 pm18 cd18 ct18 oc19 kV19 dc19 pm19 cd19 ct19 oc20 kV20 dc20 pm20 cd20 ct20 : Value}
    (a0 : PySem.W.nsIn K mainGlobals "common" = some (some (.ref f0))) (l0 : K.lookup f0 = some ⟨oc0, od0, .func (PySem.W.fnOf "common" "common" (defArgs s_common) (defBody s_common) (defScope s_common) .none kV0 dc0 pm0 an0 cd0 ct0), sl0⟩) (c0 : PySem.W.codeIn K cd0 "common" = true) (k0 : PySem.W.keepIn K (.ref f0) = true)
    (a1 : PySem.W.nsIn K mainGlobals "goes" = some (some (.ref f1))) (l1 : K.lookup f1 = some ⟨oc1, od1, .func (PySem.W.fnOf "goes" "goes" (defArgs s_goes) (defBody s_goes) (defScope s_goes) .none kV1 dc1 pm1 an1 cd1 ct1), sl1⟩) (c1 : PySem.W.codeIn K cd1 "goes" = true) (k1 : PySem.W.keepIn K (.ref f1) = true)
    (a2 : PySem.W.nsIn K mainGlobals "least" = some (some (.ref f2))) (l2 : K.lookup f2 = some ⟨oc2, od2, .func (PySem.W.fnOf "least" "least" (defArgs s_least) (defBody s_least) (defScope s_least) .none kV2 dc2 pm2 an2 cd2 ct2), sl2⟩) (c2 : PySem.W.codeIn K cd2 "least" = true) (k2 : PySem.W.keepIn K (.ref f2) = true)
    (a3 : PySem.W.nsIn K mainGlobals "put_together" = some (some (.ref f3))) (l3 : K.lookup f3 = some ⟨oc3, od3, .func (PySem.W.fnOf "put_together" "put_together" (defArgs s_put_together) (defBody s_put_together) (defScope s_put_together) .none kV3 dc3 pm3 an3 cd3 ct3), sl3⟩) (c3 : PySem.W.codeIn K cd3 "put_together" = true) (k3 : PySem.W.keepIn K (.ref f3) = true)
    (a4 : PySem.W.nsIn K mainGlobals "both" = some (some (.ref f4))) (l4 : K.lookup f4 = some ⟨oc4, od4, .func (PySem.W.fnOf "both" "both" (defArgs s_both) (defBody s_both) (defScope s_both) .none kV4 dc4 pm4 an4 cd4 ct4), sl4⟩) (c4 : PySem.W.codeIn K cd4 "both" = true) (k4 : PySem.W.keepIn K (.ref f4) = true)
    (a5 : PySem.W.nsIn K mainGlobals "any_of" = some (some (.ref f5))) (l5 : K.lookup f5 = some ⟨oc5, od5, .func (PySem.W.fnOf "any_of" "any_of" (defArgs s_any_of) (defBody s_any_of) (defScope s_any_of) .none kV5 dc5 pm5 an5 cd5 ct5), sl5⟩) (c5 : PySem.W.codeIn K cd5 "any_of" = true) (k5 : PySem.W.keepIn K (.ref f5) = true)
    (a6 : PySem.W.nsIn K mainGlobals "from_runs" = some (some (.ref f6))) (l6 : K.lookup f6 = some ⟨oc6, od6, .func (PySem.W.fnOf "from_runs" "from_runs" (defArgs s_from_runs) (defBody s_from_runs) (defScope s_from_runs) .none kV6 dc6 pm6 an6 cd6 ct6), sl6⟩) (c6 : PySem.W.codeIn K cd6 "from_runs" = true) (k6 : PySem.W.keepIn K (.ref f6) = true)
    (a7 : PySem.W.nsIn K mainGlobals "count_to" = some (some (.ref f7))) (l7 : K.lookup f7 = some ⟨oc7, od7, .func (PySem.W.fnOf "count_to" "count_to" (defArgs s_count_to) (defBody s_count_to) (defScope s_count_to) .none kV7 dc7 pm7 an7 cd7 ct7), sl7⟩) (c7 : PySem.W.codeIn K cd7 "count_to" = true) (k7 : PySem.W.keepIn K (.ref f7) = true)
    (a8 : PySem.W.nsIn K mainGlobals "nth" = some (some (.ref f8))) (l8 : K.lookup f8 = some ⟨oc8, od8, .func (PySem.W.fnOf "nth" "nth" (defArgs s_nth) (defBody s_nth) (defScope s_nth) .none kV8 dc8 pm8 an8 cd8 ct8), sl8⟩) (c8 : PySem.W.codeIn K cd8 "nth" = true) (k8 : PySem.W.keepIn K (.ref f8) = true)
    (a9 : PySem.W.nsIn K mainGlobals "meet" = some (some (.ref f9))) (l9 : K.lookup f9 = some ⟨oc9, od9, .func (PySem.W.fnOf "meet" "meet" (defArgs s_meet) (defBody s_meet) (defScope s_meet) .none kV9 dc9 pm9 an9 cd9 ct9), sl9⟩) (c9 : PySem.W.codeIn K cd9 "meet" = true) (k9 : PySem.W.keepIn K (.ref f9) = true)
    (a10 : PySem.W.nsIn K mainGlobals "is_full" = some (some (.ref f10))) (l10 : K.lookup f10 = some ⟨oc10, od10, .func (PySem.W.fnOf "is_full" "is_full" (defArgs s_is_full) (defBody s_is_full) (defScope s_is_full) .none kV10 dc10 pm10 an10 cd10 ct10), sl10⟩) (c10 : PySem.W.codeIn K cd10 "is_full" = true) (k10 : PySem.W.keepIn K (.ref f10) = true)
    (a11 : PySem.W.nsIn K mainGlobals "clash" = some (some (.ref f11))) (l11 : K.lookup f11 = some ⟨oc11, od11, .func (PySem.W.fnOf "clash" "clash" (defArgs s_clash) (defBody s_clash) (defScope s_clash) .none kV11 dc11 pm11 an11 cd11 ct11), sl11⟩) (c11 : PySem.W.codeIn K cd11 "clash" = true) (k11 : PySem.W.keepIn K (.ref f11) = true)
    (a12 : PySem.W.nsIn K mainGlobals "choices" = some (some (.ref f12))) (l12 : K.lookup f12 = some ⟨oc12, od12, .func (PySem.W.fnOf "choices" "choices" (defArgs s_choices) (defBody s_choices) (defScope s_choices) .none kV12 dc12 pm12 an12 cd12 ct12), sl12⟩) (c12 : PySem.W.codeIn K cd12 "choices" = true) (k12 : PySem.W.keepIn K (.ref f12) = true)
    (a13 : PySem.W.nsIn K mainGlobals "search" = some (some (.ref f13))) (l13 : K.lookup f13 = some ⟨oc13, od13, .func (PySem.W.fnOf "search" "search" (defArgs s_search) (defBody s_search) (defScope s_search) .none kV13 dc13 pm13 an13 cd13 ct13), sl13⟩) (c13 : PySem.W.codeIn K cd13 "search" = true) (k13 : PySem.W.keepIn K (.ref f13) = true)
    (a14 : PySem.W.nsIn K mainGlobals "prove" = some (some (.ref f14))) (l14 : K.lookup f14 = some ⟨oc14, od14, .func (PySem.W.fnOf "prove" "prove" (defArgs s_prove) (defBody s_prove) (defScope s_prove) .none kV14 dc14 pm14 an14 cd14 ct14), sl14⟩) (c14 : PySem.W.codeIn K cd14 "prove" = true) (k14 : PySem.W.keepIn K (.ref f14) = true)
    (a15 : PySem.W.nsIn K mainGlobals "spread" = some (some (.ref f15))) (l15 : K.lookup f15 = some ⟨oc15, od15, .func (PySem.W.fnOf "spread" "spread" (defArgs s_spread) (defBody s_spread) (defScope s_spread) .none kV15 dc15 pm15 an15 cd15 ct15), sl15⟩) (c15 : PySem.W.codeIn K cd15 "spread" = true) (k15 : PySem.W.keepIn K (.ref f15) = true)
    (a16 : PySem.W.nsIn K mainGlobals "tree_fault" = some (some (.ref f16))) (l16 : K.lookup f16 = some ⟨oc16, od16, .func (PySem.W.fnOf "tree_fault" "tree_fault" (defArgs s_tree_fault) (defBody s_tree_fault) (defScope s_tree_fault) .none kV16 dc16 pm16 an16 cd16 ct16), sl16⟩) (c16 : PySem.W.codeIn K cd16 "tree_fault" = true) (k16 : PySem.W.keepIn K (.ref f16) = true)
    (a17 : PySem.W.nsIn K mainGlobals "spread_fault" = some (some (.ref f17))) (l17 : K.lookup f17 = some ⟨oc17, od17, .func (PySem.W.fnOf "spread_fault" "spread_fault" (defArgs s_spread_fault) (defBody s_spread_fault) (defScope s_spread_fault) .none kV17 dc17 pm17 an17 cd17 ct17), sl17⟩) (c17 : PySem.W.codeIn K cd17 "spread_fault" = true) (k17 : PySem.W.keepIn K (.ref f17) = true)
    (a18 : PySem.W.nsIn K mainGlobals "_law_state" = some (some (.ref f18))) (l18 : K.lookup f18 = some ⟨oc18, od18, .func (PySem.W.fnOf "_law_state" "_law_state" (defArgs s__law_state) (defBody s__law_state) (defScope s__law_state) .none kV18 dc18 pm18 an18 cd18 ct18), sl18⟩) (c18 : PySem.W.codeIn K cd18 "_law_state" = true) (k18 : PySem.W.keepIn K (.ref f18) = true)
    (a19 : PySem.W.nsIn K mainGlobals "_law_take" = some (some (.ref f19))) (l19 : K.lookup f19 = some ⟨oc19, od19, .func (PySem.W.fnOf "_law_take" "_law_take" (defArgs s__law_take) (defBody s__law_take) (defScope s__law_take) .none kV19 dc19 pm19 an19 cd19 ct19), sl19⟩) (c19 : PySem.W.codeIn K cd19 "_law_take" = true) (k19 : PySem.W.keepIn K (.ref f19) = true)
    (a20 : PySem.W.nsIn K mainGlobals "law" = some (some (.ref f20))) (l20 : K.lookup f20 = some ⟨oc20, od20, .func (PySem.W.fnOf "law" "law" (defArgs s_law) (defBody s_law) (defScope s_law) .none kV20 dc20 pm20 an20 cd20 ct20), sl20⟩) (c20 : PySem.W.codeIn K cd20 "law" = true) (k20 : PySem.W.keepIn K (.ref f20) = true)
    (z_abs : PySem.W.nsIn K mainGlobals "abs" = some none)
    (z_all : PySem.W.nsIn K mainGlobals "all" = some none)
    (z_int : PySem.W.nsIn K mainGlobals "int" = some none)
    (z_len : PySem.W.nsIn K mainGlobals "len" = some none)
    (z_list : PySem.W.nsIn K mainGlobals "list" = some none)
    (z_max : PySem.W.nsIn K mainGlobals "max" = some none)
    (z_range : PySem.W.nsIn K mainGlobals "range" = some none)
    (z_sorted : PySem.W.nsIn K mainGlobals "sorted" = some none)
    (z_sum : PySem.W.nsIn K mainGlobals "sum" = some none)
    (z_zip : PySem.W.nsIn K mainGlobals "zip" = some none)
    (n : Nat) (run : ∀ ns : List Int, ns.length ≤ 63 → ∃ env' w', lawB n ((Slot.fz ns :: List.replicate 15 Slot.no).set 1 (.st 1)) ⟨0, stateCells ns⟩ = some ((.rt (.bool true), env'), w')) :
    ∃ fd : FuncData, (∀ (s : Shared) (v : Value), BindsTo s fd ⟨[v], []⟩ [("script", v)]) ∧ ∀ base : Heap, K.In base → base.Ns mainGlobals mg → FnOk l.prog w K mg base CX0 13 fa fd ["script"] (spLaw K) := by
  have e := hfa.symm.trans (PySem.W.mg_of X G a20)
  cases e
  have m_abs := PySem.W.mg_none_of X G z_abs
  have m_all := PySem.W.mg_none_of X G z_all
  have m_int := PySem.W.mg_none_of X G z_int
  have m_len := PySem.W.mg_none_of X G z_len
  have m_list := PySem.W.mg_none_of X G z_list
  have m_max := PySem.W.mg_none_of X G z_max
  have m_range := PySem.W.mg_none_of X G z_range
  have m_sorted := PySem.W.mg_none_of X G z_sorted
  have m_sum := PySem.W.mg_none_of X G z_sum
  have m_zip := PySem.W.mg_none_of X G z_zip
  have F0 := fun_mk (st := s_common) l0 c0 k0
  have F1 := fun_mk (st := s_goes) l1 c1 k1
  have F2 := fun_mk (st := s_least) l2 c2 k2
  have F3 := fun_mk (st := s_put_together) l3 c3 k3
  have F4 := fun_mk (st := s_both) l4 c4 k4
  have F5 := fun_mk (st := s_any_of) l5 c5 k5
  have F6 := fun_mk (st := s_from_runs) l6 c6 k6
  have F7 := fun_mk (st := s_count_to) l7 c7 k7
  have F8 := fun_mk (st := s_nth) l8 c8 k8
  have F9 := fun_mk (st := s_meet) l9 c9 k9
  have F10 := fun_mk (st := s_is_full) l10 c10 k10
  have F11 := fun_mk (st := s_clash) l11 c11 k11
  have F12 := fun_mk (st := s_choices) l12 c12 k12
  have F13 := fun_mk (st := s_search) l13 c13 k13
  have F14 := fun_mk (st := s_prove) l14 c14 k14
  have F15 := fun_mk (st := s_spread) l15 c15 k15
  have F16 := fun_mk (st := s_tree_fault) l16 c16 k16
  have F17 := fun_mk (st := s_spread_fault) l17 c17 k17
  have F18 := fun_mk (st := s__law_state) l18 c18 k18
  have F19 := fun_mk (st := s__law_take) l19 c19 k19
  have F20 := fun_mk (st := s_law) l20 c20 k20
  refine ⟨PySem.W.fnOf "law" "law" (defArgs s_law) (defBody s_law) (defScope s_law) .none kV20 dc20 pm20 an20 cd20 ct20, fun s v => .of_eq rfl, fun base _ _ => ?_⟩
  have c_common : Cal l.prog w K mg base "common" 1 (commonF n) := cal_mk (fn_common n F0) (PySem.W.mg_of X G a0) k0 (F0.binds (ps := ["one", "other"]) fun _ _ _ _ _ _ us hl => match us, hl with | [_, _], _ => rfl)
  have c_goes : Cal l.prog w K mg base "goes" 1 (goesF) := cal_mk (fn_goes F1) (PySem.W.mg_of X G a1) k1 (F1.binds (ps := ["rhythm", "minute"]) fun _ _ _ _ _ _ us hl => match us, hl with | [_, _], _ => rfl)
  have c_least : Cal l.prog w K mg base "least" 1 (leastF n) := cal_mk (fn_least n F2 m_list m_range) (PySem.W.mg_of X G a2) k2 (F2.binds (ps := ["rhythm"]) fun _ _ _ _ _ _ us hl => match us, hl with | [_], _ => rfl)
  have c_put_together : Cal l.prog w K mg base "put_together" 2 (put_togetherF n) := cal_mk (fn_put_together n F3 m_max m_range c_common c_goes c_least) (PySem.W.mg_of X G a3) k3 (F3.binds (ps := ["one", "other", "wanted"]) fun _ _ _ _ _ _ us hl => match us, hl with | [_, _, _], _ => rfl)
  have c_both : Cal l.prog w K mg base "both" 3 (bothF n) := cal_mk (fn_both n F4 c_put_together) (PySem.W.mg_of X G a4) k4 (F4.binds (ps := ["one", "other"]) fun _ _ _ _ _ _ us hl => match us, hl with | [_, _], _ => rfl)
  have c_any_of : Cal l.prog w K mg base "any_of" 3 (any_ofF n) := cal_mk (fn_any_of n F5 c_put_together) (PySem.W.mg_of X G a5) k5 (F5.binds (ps := ["one", "other"]) fun _ _ _ _ _ _ us hl => match us, hl with | [_, _], _ => rfl)
  have c_from_runs : Cal l.prog w K mg base "from_runs" 2 (from_runsF n) := cal_mk (fn_from_runs n F6 c_least) (PySem.W.mg_of X G a6) k6 (F6.binds (ps := ["first", "period"]) fun _ _ _ _ _ _ us hl => match us, hl with | [_, _], _ => rfl)
  have c_count_to : Cal l.prog w K mg base "count_to" 1 (count_toF) := cal_mk (fn_count_to F7 m_len) (PySem.W.mg_of X G a7) k7 (F7.binds (ps := ["rhythm", "minute"]) fun _ _ _ _ _ _ us hl => match us, hl with | [_, _], _ => rfl)
  have c_nth : Cal l.prog w K mg base "nth" 1 (nthF) := cal_mk (fn_nth F8 m_len m_sorted) (PySem.W.mg_of X G a8) k8 (F8.binds (ps := ["rhythm", "number"]) fun _ _ _ _ _ _ us hl => match us, hl with | [_, _], _ => rfl)
  have c_meet : Cal l.prog w K mg base "meet" 2 (meetF n) := cal_mk (fn_meet n F9 m_max c_common) (PySem.W.mg_of X G a9) k9 (F9.binds (ps := ["one", "other"]) fun _ _ _ _ _ _ us hl => match us, hl with | [_, _], _ => rfl)
  have c_is_full : Cal l.prog w K mg base "is_full" 2 (is_fullF n) := cal_mk (fn_is_full n F10 m_sum c_common) (PySem.W.mg_of X G a10) k10 (F10.binds (ps := ["periods"]) fun _ _ _ _ _ _ us hl => match us, hl with | [_], _ => rfl)
  have c_clash : Cal l.prog w K mg base "clash" 2 (clashF n) := cal_mk (fn_clash n F11 m_len m_range c_common) (PySem.W.mg_of X G a11) k11 (F11.binds (ps := ["periods", "offsets"]) fun _ _ _ _ _ _ us hl => match us, hl with | [_, _], _ => rfl)
  have c_choices : Cal l.prog w K mg base "choices" 1 (choicesF) := cal_mk (fn_choices F12 m_list m_range) (PySem.W.mg_of X G a12) k12 (F12.binds (ps := ["periods", "at"]) fun _ _ _ _ _ _ us hl => match us, hl with | [_, _], _ => rfl)
  have c_search : Cal l.prog w K mg base "search" 11 (searchF n 8) := cal_mk (fn_search n F13 (PySem.W.mg_of X G a13) k13 (F13.binds (ps := ["periods", "offsets"]) fun _ _ _ _ _ _ us hl => match us, hl with | [_, _], _ => rfl) m_len c_choices c_clash 8) (PySem.W.mg_of X G a13) k13 (F13.binds (ps := ["periods", "offsets"]) fun _ _ _ _ _ _ us hl => match us, hl with | [_, _], _ => rfl)
  have c_prove : Cal l.prog w K mg base "prove" 11 (proveF n 8) := cal_mk (fn_prove n F14 (PySem.W.mg_of X G a14) k14 (F14.binds (ps := ["periods", "offsets"]) fun _ _ _ _ _ _ us hl => match us, hl with | [_, _], _ => rfl) m_len c_choices c_clash 8) (PySem.W.mg_of X G a14) k14 (F14.binds (ps := ["periods", "offsets"]) fun _ _ _ _ _ _ us hl => match us, hl with | [_, _], _ => rfl)
  have c_spread : Cal l.prog w K mg base "spread" 12 (spreadF n) := cal_mk (fn_spread n F15 c_is_full c_prove c_search) (PySem.W.mg_of X G a15) k15 (F15.binds (ps := ["periods"]) fun _ _ _ _ _ _ us hl => match us, hl with | [_], _ => rfl)
  have c_tree_fault : Cal l.prog w K mg base "tree_fault" 11 (tree_faultF n 8) := cal_mk (fn_tree_fault n F16 (PySem.W.mg_of X G a16) k16 (F16.binds (ps := ["periods", "offsets", "tree"]) fun _ _ _ _ _ _ us hl => match us, hl with | [_, _, _], _ => rfl) m_len m_zip c_choices c_common c_is_full 8) (PySem.W.mg_of X G a16) k16 (F16.binds (ps := ["periods", "offsets", "tree"]) fun _ _ _ _ _ _ us hl => match us, hl with | [_, _, _], _ => rfl)
  have c_spread_fault : Cal l.prog w K mg base "spread_fault" 12 (spread_faultF n) := cal_mk (fn_spread_fault n F17 m_all m_len m_range m_zip c_clash c_tree_fault) (PySem.W.mg_of X G a17) k17 (F17.binds (ps := ["periods", "told"]) fun _ _ _ _ _ _ us hl => match us, hl with | [_, _], _ => rfl)
  have c_state : CalS l.prog w K mg base "_law_state" 1 := ⟨_, _, fn_state F18 m_abs m_len, PySem.W.mg_of X G a18, k18, (F18.binds (ps := ["script"]) fun _ _ _ _ _ _ us hl => match us, hl with | [_], _ => rfl)⟩
  have c__law_take : CalT l.prog w K mg base "_law_take" 1 := ⟨_, _, fn_take F19 m_len m_int, PySem.W.mg_of X G a19, k19, (F19.binds (ps := ["state", "most"]) fun _ _ _ _ _ _ us hl => match us, hl with | [_, _], _ => rfl)⟩
  exact fn_law n F20 c_state m_abs m_len m_range m_sum c__law_take c_any_of c_both c_common c_count_to c_from_runs c_goes c_meet c_nth c_spread c_spread_fault run
end
end VE


open PySem PySem.W PyProof.Rows
set_option maxHeartbeats 0 in
theorem PySem.Challenge.cw_jobsagain_k59_offsets_as_rhythms_holds : PySem.Challenge.rw_jobsagain_k59_offsets_as_rhythms.Holds := by
  w_on; o_law; k_head; (case hw => w_witness2)
  k_fill
  refine L2.walk_of (l := PySem.Challenge.rw_jobsagain_k59_offsets_as_rhythms) (n := 63) (k := 13) (x := "script") (CX := fun _ => L2.CX0) (sp := fun w => VE.spLaw _) rfl (by decide) rfl ⟨rfl, by decide, by decide⟩ (fun w h Y => PySem.W.kIn_of Y) ?F (fun _ _ a ns hl _ hS => ⟨a, ns, rfl, hS, hl, fun _ => rfl⟩) (fun _ _ _ _ _ h => h)
  case F =>
    intro w mg fa h KX G hmg
    refine' VE.all_mk KX G hmg ?a0 ?l0 ?c0 ?k0 ?a1 ?l1 ?c1 ?k1 ?a2 ?l2 ?c2 ?k2 ?a3 ?l3 ?c3 ?k3 ?a4 ?l4 ?c4 ?k4 ?a5 ?l5 ?c5 ?k5 ?a6 ?l6 ?c6 ?k6 ?a7 ?l7 ?c7 ?k7 ?a8 ?l8 ?c8 ?k8 ?a9 ?l9 ?c9 ?k9 ?a10 ?l10 ?c10 ?k10 ?a11 ?l11 ?c11 ?k11 ?a12 ?l12 ?c12 ?k12 ?a13 ?l13 ?c13 ?k13 ?a14 ?l14 ?c14 ?k14 ?a15 ?l15 ?c15 ?k15 ?a16 ?l16 ?c16 ?k16 ?a17 ?l17 ?c17 ?k17 ?a18 ?l18 ?c18 ?k18 ?a19 ?l19 ?c19 ?k19 ?a20 ?l20 ?c20 ?k20 ?z_abs ?z_all ?z_int ?z_len ?z_list ?z_max ?z_range ?z_sorted ?z_sum ?z_zip 300 VE.law_run
    (case a0 => k_is); (case l0 => k_is); (case c0 => k_is); (case k0 => k_is); (case a1 => k_is); (case l1 => k_is); (case c1 => k_is); (case k1 => k_is); (case a2 => k_is); (case l2 => k_is); (case c2 => k_is); (case k2 => k_is); (case a3 => k_is); (case l3 => k_is); (case c3 => k_is); (case k3 => k_is); (case a4 => k_is); (case l4 => k_is); (case c4 => k_is); (case k4 => k_is); (case a5 => k_is); (case l5 => k_is); (case c5 => k_is); (case k5 => k_is); (case a6 => k_is); (case l6 => k_is); (case c6 => k_is); (case k6 => k_is); (case a7 => k_is); (case l7 => k_is); (case c7 => k_is); (case k7 => k_is); (case a8 => k_is); (case l8 => k_is); (case c8 => k_is); (case k8 => k_is); (case a9 => k_is); (case l9 => k_is); (case c9 => k_is); (case k9 => k_is); (case a10 => k_is); (case l10 => k_is); (case c10 => k_is); (case k10 => k_is); (case a11 => k_is); (case l11 => k_is); (case c11 => k_is); (case k11 => k_is); (case a12 => k_is); (case l12 => k_is); (case c12 => k_is); (case k12 => k_is); (case a13 => k_is); (case l13 => k_is); (case c13 => k_is); (case k13 => k_is); (case a14 => k_is); (case l14 => k_is); (case c14 => k_is); (case k14 => k_is); (case a15 => k_is); (case l15 => k_is); (case c15 => k_is); (case k15 => k_is); (case a16 => k_is); (case l16 => k_is); (case c16 => k_is); (case k16 => k_is); (case a17 => k_is); (case l17 => k_is); (case c17 => k_is); (case k17 => k_is); (case a18 => k_is); (case l18 => k_is); (case c18 => k_is); (case k18 => k_is); (case a19 => k_is); (case l19 => k_is); (case c19 => k_is); (case k19 => k_is); (case a20 => k_is); (case l20 => k_is); (case c20 => k_is); (case k20 => k_is); (case z_abs => k_is); (case z_all => k_is); (case z_int => k_is); (case z_len => k_is); (case z_list => k_is); (case z_max => k_is); (case z_range => k_is); (case z_sorted => k_is); (case z_sum => k_is); (case z_zip => k_is)

