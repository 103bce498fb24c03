import PyProof.Rows.All
import Wide.All
import OpenK.AllK
import Wide.FinOn
import PyProof.P3Statements
import PyProof.EqLayable
import HandS.ForMost
import HandS.SortInts
import PySem.Challenge.RW_jobsagain_k28_weeks_as_rhythms
set_option Elab.async false
set_option linter.all false
set_option maxRecDepth 100000
set_option maxHeartbeats 4000000
/-! Core: Python's values as trees, a def's slots, what expressions and statements do to them; no heap. -/
namespace VE
open PySem

abbrev D := PyData
/-- a slot of a def: no value; a value; a list that this def alone holds and may change; the law's draw state; the script -/
inductive Slot where
  | no
  | sh (x : D)
  | ow (xs : List D)
  | st (k : Nat)
  | fz (ns : List Int)
abbrev En := List Slot
/-- what the draws leave -/
structure W where
  pos : Int
  cells : List Int
abbrev M := StateT W Option
def fail {α : Type} : M α := fun _ => none
def lift {α : Type} (o : Option α) : M α := fun w => o.map fun a => (a, w)
@[simp] theorem lift_some {α : Type} (a : α) : lift (some a) = pure a := rfl
@[simp] theorem lift_none {α : Type} : lift (none : Option α) = fail := rfl
@[simp] theorem fail_bind {α β : Type} (f : α → M β) : (fail >>= f) = fail := rfl
theorem bind_some {α β : Type} {x : M α} {k : α → M β} {w : W} {r : β × W} : (x >>= k) w = some r ↔ ∃ a w1, x w = some (a, w1) ∧ k a w1 = some r := by
  show (StateT.bind x k w) = some r ↔ _
  unfold StateT.bind
  cases h : x w with
  | none => simp [bind, Option.bind]
  | some p =>
    obtain ⟨a, w1⟩ := p
    show k a w1 = some r ↔ _
    constructor
    · intro q; exact ⟨a, w1, rfl, q⟩
    · rintro ⟨a', w', e, q⟩; cases e; exact q
theorem lift_eq {α : Type} {o : Option α} {w : W} {r : α × W} : lift o w = some r ↔ o = some r.1 ∧ w = r.2 := by
  obtain ⟨a, w1⟩ := r
  cases o with
  | none => simp [lift]
  | some b =>
    show some (b, w) = some (a, w1) ↔ some b = some a ∧ w = w1
    constructor
    · intro h; cases h; exact ⟨rfl, rfl⟩
    · rintro ⟨h1, h2⟩; cases h1; cases h2; rfl
theorem pure_eq {α : Type} {a : α} {w : W} {r : α × W} : (pure a : M α) w = some r ↔ a = r.1 ∧ w = r.2 := by
  obtain ⟨b, w1⟩ := r
  show (some (a, w) : Option (α × W)) = some (b, w1) ↔ a = b ∧ w = w1
  constructor
  · intro h; cases h; exact ⟨rfl, rfl⟩
  · rintro ⟨h1, h2⟩; cases h1; cases h2; rfl

theorem lift_get {α : Type} {o : Option α} {w w' : W} {y : α} (h : lift o w = some (y, w')) : o = some y ∧ w' = w := by
  obtain ⟨h1, h2⟩ := lift_eq.mp h
  exact ⟨h1, h2.symm⟩
theorem pure_get {α : Type} {a : α} {w w' : W} {y : α} (h : (pure a : M α) w = some (y, w')) : a = y ∧ w' = w := by
  obtain ⟨h1, h2⟩ := pure_eq.mp h
  exact ⟨h1, h2.symm⟩
abbrev EF := En → M D
abbrev TF := En → M Bool
abbrev AF := En → M (List D)
/-- how a statement ends -/
inductive Fl where
  | nx | bk | ct
  | rt (x : D)
abbrev SF := En → M (Fl × En)

/-! ### expressions -/
/-- a value, not a list that may be changed -/
def xVar (i : Nat) : EF := fun env => match env[i]? with
  | some (.sh x) => pure x
  | _ => fail
/-- either -/
def xVarO (i : Nat) : EF := fun env => match env[i]? with
  | some (.sh x) => pure x
  | some (.ow xs) => pure (.list xs)
  | _ => fail
def xC (x : D) : EF := fun _ => pure x
def flat : D → Bool
  | .none => true
  | .bool _ => true
  | .int _ => true
  | .str _ => true
  | _ => false
def xFlat (f : EF) : EF := fun env => do
  let x ← f env
  if flat x then pure x else fail
def xOp (F : D → D → Option D) (f g : EF) : EF := fun env => do
  let a ← f env
  let b ← g env
  lift (F a b)
def xUn (F : D → Option D) (f : EF) : EF := fun env => do
  let a ← f env
  lift (F a)
def xCall (F : List D → Option D) (f : AF) : EF := fun env => do
  let xs ← f env
  lift (F xs)
def xNil : AF := fun _ => pure []
def xCons (f : EF) (g : AF) : AF := fun env => do
  let a ← f env
  let r ← g env
  pure (a :: r)
def asB : D → Option Bool
  | .bool b => some b
  | _ => none
/-- the value of a comparison, as a test -/
def xTest (f : EF) : TF := fun env => do
  let a ← f env
  lift (asB a)
def truth : D → Option Bool
  | .none => some false
  | .bool b => some b
  | .int i => some (i != 0)
  | .list xs => some (!xs.isEmpty)
  | .tuple xs => some (!xs.isEmpty)
  | _ => none
def xTruth (f : EF) : TF := fun env => do
  let a ← f env
  lift (truth a)
def xNot (f : TF) : TF := fun env => do
  let a ← f env
  pure (!a)
def xAnd (f g : TF) : TF := fun env => do
  let a ← f env
  if a then g env else pure false
def xOr (f g : TF) : TF := fun env => do
  let a ← f env
  if a then pure true else g env
def xNotV (f : EF) : EF := fun env => do
  let a ← f env
  match a with
  | .bool b => pure (.bool (!b))
  | _ => fail
def xAndV (f g : EF) : EF := fun env => do
  let a ← f env
  match a with
  | .bool b => if b then g env else pure (.bool false)
  | _ => fail
def xOrV (f g : EF) : EF := fun env => do
  let a ← f env
  match a with
  | .bool b => if b then pure (.bool true) else g env
  | _ => fail
def xIf (t : TF) (f g : EF) : EF := fun env => do
  let a ← t env
  if a then f env else g env
/-- a op b op' c -/
def xChain (F F' : D → D → Option D) (f g h : EF) : EF := fun env => do
  let a ← f env
  let b ← g env
  let k ← lift ((F a b).bind asB)
  if k then do
    let c ← h env
    let k' ← lift ((F' b c).bind asB)
    pure (.bool k')
  else pure (.bool false)
/-- the most items of a list -/
def line : Nat := 16777216
def xTup (f : AF) : EF := fun env => do
  let xs ← f env
  if xs.length ≤ line then pure (.tuple xs) else fail
/-- a new list -/
abbrev LF := En → M (List D)
def xLst (f : AF) : LF := fun env => do
  let xs ← f env
  if xs.length ≤ line then pure xs else fail
def xFlatL (f : LF) : LF := fun env => do
  let xs ← f env
  if xs.all flat then pure xs else fail
def xAs (f : LF) : EF := fun env => do
  let xs ← f env
  pure (.list xs)

/-! ### what is walked, targets -/
abbrev IF := En → M (List D)
abbrev GF := D → En → Option En
def items : D → Option (List D)
  | .list xs => some xs
  | .tuple xs => some xs
  | _ => none
def lstOf : D → Option (List D)
  | .list xs => some xs
  | _ => none
def tupOf : D → Option (List D)
  | .tuple xs => some xs
  | _ => none
def iLst (f : EF) : IF := fun env => do
  let x ← f env
  lift (lstOf x)
def iTupl (f : EF) : IF := fun env => do
  let x ← f env
  lift (tupOf x)
/-- the list that this def alone holds -/
def iOwn (i : Nat) : IF := fun env => match env[i]? with
  | some (.ow xs) => pure xs
  | _ => fail
def rangeL (lo hi : Int) : List D := (List.range (hi - lo).toNat).map fun (k : Nat) => PyData.int (lo + (k : Int))
def small62 (i : Int) : Bool := decide (-(2 ^ 62) ≤ i) && decide (i < 2 ^ 62)
def iR1 (f : AF) : IF := fun env => do
  let xs ← f env
  match xs with
  | [.int j] => if small62 j then pure (rangeL 0 j) else fail
  | _ => fail
def iR2 (f : AF) : IF := fun env => do
  let xs ← f env
  match xs with
  | [.int i, .int j] => if small62 i && small62 j then pure (rangeL i j) else fail
  | _ => fail
def gNm (i : Nat) : GF := fun x env => some (env.set i (.sh x))
abbrev GsF := List D → En → Option En
def gsNil : GsF := fun xs env => match xs with
  | [] => some env
  | _ => none
def gsCons (g : GF) (h : GsF) : GsF := fun xs env => match xs with
  | x :: r => (g x env).bind (h r)
  | _ => none
def gTp (n : Nat) (h : GsF) : GF := fun x env => match x with
  | .tuple xs => if xs.length = n then h xs env else none
  | _ => none
/-- some slots forgotten: none of them is a list that may be changed -/
def wipeE (env : En) : List Nat → Option En
  | [] => some env
  | v :: vs => (wipeE env vs).bind fun e => match e[v]? with
    | some (.ow _) => none
    | some _ => some (e.set v .no)
    | none => none
def compL (g : GF) (t : TF) (f : EF) (env : En) : List D → M (List D)
  | [] => pure []
  | x :: r => do
    let env1 ← lift (g x env)
    let b ← t env1
    if b then do
      let y ← f env1
      let ys ← compL g t f env r
      pure (y :: ys)
    else compL g t f env r
/-- [f for g in it if t] -/
def xComp (vs : List Nat) (it : IF) (g : GF) (t : TF) (f : EF) : LF := fun env => do
  let xs ← it env
  let e ← lift (wipeE env vs)
  if xs.length ≤ line then compL g t f e xs else fail
def tYesF : TF := fun _ => pure true

/-! ### statements -/
def sPass : SF := fun env => pure (.nx, env)
def sSeq (f g : SF) : SF := fun env => do
  let (fl, env1) ← f env
  match fl with
  | .nx => g env1
  | .bk => pure (.bk, env1)
  | .ct => pure (.ct, env1)
  | .rt x => pure (.rt x, env1)
def sBreak : SF := fun env => pure (.bk, env)
def sCont : SF := fun env => pure (.ct, env)
def sRet (f : EF) : SF := fun env => do
  let x ← f env
  pure (.rt x, env)
def sRetN : SF := fun env => pure (.rt .none, env)
def sIf (t : TF) (f g : SF) : SF := fun env => do
  let b ← t env
  if b then f env else g env
def sAsg (f : EF) (g : GF) : SF := fun env => do
  let x ← f env
  let env1 ← lift (g x env)
  pure (.nx, env1)
/-- name = a new list that this def may change -/
def sOwn (i : Nat) (f : LF) : SF := fun env => do
  let xs ← f env
  pure (.nx, env.set i (.ow xs))
def sExpr (f : EF) : SF := fun env => do
  let _ ← f env
  pure (.nx, env)
def sPar (i j : Nat) (f : AF) : SF := fun env => do
  let xs ← f env
  match xs with
  | [x, y] => pure (.nx, (env.set i (.sh x)).set j (.sh y))
  | _ => fail
/-- the list at i may be changed no more -/
def thaw (i : Nat) (env : En) : En := match env[i]? with
  | some (.ow xs) => env.set i (.sh (.list xs))
  | _ => env
def sThaw (i : Nat) (f : SF) : SF := fun env => f (thaw i env)
def sApp (i : Nat) (f : EF) : SF := fun env => do
  let x ← f env
  match env[i]? with
  | some (.ow xs) => if xs.length < line then pure (.nx, env.set i (.ow (xs ++ [x]))) else fail
  | _ => fail
def ixN (n : Nat) (i : Int) : Option Nat := if 0 ≤ i then (if i < n then some i.toNat else none) else if -(n : Int) ≤ i then some (i + n).toNat else none
/-- xs[k] = e -/
def sSet (i : Nat) (k f : EF) : SF := fun env => do
  let x ← f env
  let z ← k env
  match env[i]?, z with
  | some (.ow xs), .int z => match ixN xs.length z with
    | some j => pure (.nx, env.set i (.ow (xs.set j x)))
    | none => fail
  | _, _ => fail
def sFor (it : IF) (g : GF) (body : SF) : SF := fun env => do
  let xs ← it env
  go xs env
where
  go : List D → SF
  | [], env => pure (.nx, env)
  | x :: r, env => do
    let env1 ← lift (g x env)
    let (fl, env2) ← body env1
    match fl with
    | .nx => go r env2
    | .ct => go r env2
    | .bk => pure (.nx, env2)
    | .rt y => pure (.rt y, env2)
def sWhile (n : Nat) (t : TF) (body : SF) : SF := fun env => go n env
where
  go : Nat → SF
  | 0, _ => fail
  | n + 1, env => do
    let b ← t env
    if b then do
      let (fl, env2) ← body env
      match fl with
      | .nx => go n env2
      | .ct => go n env2
      | .bk => pure (.nx, env2)
      | .rt y => pure (.rt y, env2)
    else pure (.nx, env)

/-! ### the law's draws -/
def takeW (most : Int) : M Int := fun w =>
  if 0 < most ∧ most < 1073741824 ∧ 0 < w.cells.length then
    let a := (w.pos % (w.cells.length : Int)).toNat
    match w.cells[a]? with
    | none => none
    | some cell =>
      if 1000000000000000000 ≤ cell then some (cell % most, ⟨w.pos, w.cells.set a (cell / most)⟩)
      else
        let p := w.pos + 1
        let m1 := (cell * 48271 + p * 69621) % 2147483647
        let m2 := (m1 * 16807 + p * 7919) % 1000000007
        some (m2 / 7 % most, ⟨p, w.cells⟩)
  else none
/-- the call _law_take(state, f) -/
def xTake (i : Nat) (f : EF) : EF := fun env => do
  let y ← f env
  match env[i]?, y with
  | some (.st 1), .int most => do
    let r ← takeW most
    pure (.int r)
  | _, _ => fail
def stateCells (ns : List Int) : List Int :=
  let c := (ns.take 63).map fun i => if i < 0 then -i else i
  if c.length = 0 then [0] else c

/-! ### values -/
def fAdd : D → D → Option D
  | .int i, .int j => some (.int (i + j))
  | .list xs, .list ys => if xs.length + ys.length ≤ line then some (.list (xs ++ ys)) else none
  | _, _ => none
def fSub : D → D → Option D
  | .int i, .int j => some (.int (i - j))
  | _, _ => none
def inW (i : Int) : Bool := decide (-(2 ^ 64) < i) && decide (i < 2 ^ 64)
def fMul : D → D → Option D
  | .int i, .int j => if inW i || inW j then some (.int (i * j)) else none
  | _, _ => none
def fDiv : D → D → Option D
  | .int i, .int j => if 0 < j ∧ j < 1073741824 then some (.int (i / j)) else none
  | _, _ => none
def fMod : D → D → Option D
  | .int i, .int j => if 0 < j then some (.int (i % j)) else none
  | _, _ => none
def fNeg : D → Option D
  | .int i => some (.int (-i))
  | _ => none
def fLt : D → D → Option D
  | .int i, .int j => some (.bool (decide (i < j)))
  | _, _ => none
def fLe : D → D → Option D
  | .int i, .int j => some (.bool (decide (i ≤ j)))
  | _, _ => none
def fGt : D → D → Option D
  | .int i, .int j => some (.bool (decide (j < i)))
  | _, _ => none
def fGe : D → D → Option D
  | .int i, .int j => some (.bool (decide (j ≤ i)))
  | _, _ => none
def shp (x : D) : Bool := SeqAt.shaped x
def fEq (x y : D) : Option D := if shp x && shp y then some (.bool (PyData.eqv x y)) else none
def fNe (x y : D) : Option D := if shp x && shp y then some (.bool (!PyData.eqv x y)) else none
def isNone : D → Bool
  | .none => true
  | _ => false
def fIsN (x : D) : Option D := some (.bool (isNone x))
def fNotN (x : D) : Option D := some (.bool (!isNone x))
/-- x in xs, all flat -/
def fIn (x y : D) : Option D := (items y).bind fun ys => if flat x && ys.all flat then some (.bool (ys.any fun z => PyData.eqv z x)) else none
def fNotIn (x y : D) : Option D := (items y).bind fun ys => if flat x && ys.all flat then some (.bool (!ys.any fun z => PyData.eqv z x)) else none
def atI (xs : List D) (i : Int) : Option D := (ixN xs.length i).bind fun j => xs[j]?
def fIx : D → D → Option D
  | .list xs, .int i => atI xs i
  | .tuple xs, .int i => atI xs i
  | _, _ => none
def sIx (n d : Nat) : Option Int → Nat
  | none => d
  | some i => if i < 0 then (i + n).toNat else min i.toNat n
def cut (xs : List D) (lo hi : Option Int) : List D := (xs.drop (sIx xs.length 0 lo)).take (sIx xs.length xs.length hi - sIx xs.length 0 lo)
abbrev OF := En → M (Option Int)
def oNo : OF := fun _ => pure none
def oSome (f : EF) : OF := fun env => do
  let x ← f env
  match x with
  | .int i => pure (some i)
  | _ => fail
/-- script[l:h] -/
def xCutZ (i : Nat) (l h : OF) : LF := fun env => do
  let lo ← l env
  let hi ← h env
  match env[i]? with
  | some (.fz ns) => pure (cut (ns.map .int) lo hi)
  | _ => fail
def xSlice (f : EF) (l h : OF) : LF := fun env => do
  let x ← f env
  let lo ← l env
  let hi ← h env
  match x with
  | .list xs => pure (cut xs lo hi)
  | _ => fail
def asInts : List D → Option (List Int)
  | [] => some []
  | .int i :: r => (asInts r).map (i :: ·)
  | _ => none
def asBools : List D → Option (List Bool)
  | [] => some []
  | .bool i :: r => (asBools r).map (i :: ·)
  | _ => none
def fLen : List D → Option D
  | [.list xs] => some (.int xs.length)
  | [.tuple xs] => some (.int xs.length)
  | _ => none
def fSum : List D → Option D
  | [.list xs] => (asInts xs).map fun ns => .int ns.sum
  | _ => none
def fAbs : List D → Option D
  | [.int i] => some (.int (if i < 0 then -i else i))
  | _ => none
def fInt : List D → Option D
  | [.int i] => some (.int i)
  | [.bool k] => some (.int (if k then 1 else 0))
  | _ => none
def maxI (a : Int) (r : List Int) : Int := r.foldl (fun m x => if m < x then x else m) a
def minI (a : Int) (r : List Int) : Int := r.foldl (fun m x => if x < m then x else m) a
def fMax : List D → Option D
  | [.list xs] => (asInts xs).bind fun ns => match ns with
    | a :: r => some (.int (maxI a r))
    | [] => none
  | [.int i, .int j] => some (.int (if j > i then j else i))
  | _ => none
def fMin : List D → Option D
  | [.list xs] => (asInts xs).bind fun ns => match ns with
    | a :: r => some (.int (minI a r))
    | [] => none
  | [.int i, .int j] => some (.int (if j < i then j else i))
  | _ => none
def fAny : List D → Option D
  | [.list xs] => (asBools xs).map fun bs => .bool (bs.any id)
  | _ => none
def fAll : List D → Option D
  | [.list xs] => (asBools xs).map fun bs => .bool (bs.all id)
  | _ => none
/-- list(x), a new list -/
def fList : D → Option (List D)
  | .list xs => some xs
  | .tuple xs => some xs
  | _ => none
def xList (f : EF) : LF := fun env => do
  let x ← f env
  lift (fList x)
def insI (x : Int) : List Int → List Int
  | [] => [x]
  | y :: r => if x ≤ y then x :: y :: r else y :: insI x r
def sortI (xs : List Int) : List Int := xs.foldr insI []
def fSorted : D → Option (List D)
  | .list xs => (asInts xs).bind fun ns => if ns.length ≤ line then some ((sortI ns).map .int) else none
  | _ => none
def xSorted (f : EF) : LF := fun env => do
  let x ← f env
  lift (fSorted x)
/-- xs.index(y): the first one -/
def fIndex : D → List D → Option D
  | .list xs, [y] => if flat y && xs.all flat then (xs.findIdx? fun z => PyData.eqv z y).map fun (j : Nat) => PyData.int (j : Int) else none
  | _, _ => none
def xMeth (F : D → List D → Option D) (f : EF) (g : AF) : EF := fun env => do
  let x ← f env
  let ys ← g env
  lift (F x ys)

/-- a def: np parameters, nl other names -/
def runDef (np nl : Nat) (body : SF) (xs : List D) : Option D :=
  if xs.length = np then
    match body (xs.map .sh ++ List.replicate nl .no) ⟨0, []⟩ with
    | some ((.rt v, _), _) => some v
    | some ((.nx, _), _) => some .none
    | _ => none
  else none
end VE

/-! Lay: what Core says of a def holds in the model, over the hand layer. -/
namespace VE
open PySem PySem.Spec L2
open PyProof.Rows hiding St

abbrev SS := L2.St
theorem line_eq : line = sizeLine := by rw [sizeLine_eq]; rfl

/-! ### values in a heap -/
/-- a tuple at a, of the tracked heap beyond T, or of the written part -/
def TupAt (K : PySem.W.Frag) (T : Addr → Prop) (H : Hp) (a : Addr) (xs : List V) : Prop :=
  (¬ T a ∧ Rd H a (.tup xs)) ∨
    ∃ (o : Obj) (its : Array Value) (n : Nat), K.lookup a = some o ∧ o.cls = .type "tuple" ∧ o.data = .seq its n ∧ its.size ≤ sizeLine ∧ Vals xs its.toList
/-- a list that is read only, likewise -/
def LstAt (K : PySem.W.Frag) (T : Addr → Prop) (H : Hp) (a : Addr) (xs : List V) : Prop :=
  (¬ T a ∧ Rd H a (.lst xs)) ∨
    ∃ (o : Obj) (its : Array Value) (n : Nat), K.lookup a = some o ∧ o.cls = .type "list" ∧ o.dict = none ∧ o.data = .seq its n ∧ its.size ≤ sizeLine ∧ Vals xs its.toList
theorem LstAt.sq {K : PySem.W.Frag} {T : Addr → Prop} {H : Hp} {a : Addr} {xs : List V} (h : LstAt K T H a xs) : SqL K H a xs := h.elim (fun q => .inl q.2) .inr
theorem LstAt.mono {K : PySem.W.Frag} {T T' : Addr → Prop} {H H' : Hp} {a : Addr} {vs : List V} (k : ∀ a o, ¬ T a → H a = some o → H' a = some o) (t : ∀ a, T' a → T a) (q : LstAt K T H a vs) : LstAt K T' H' a vs := by
  rcases q with ⟨n, q | ⟨o, q⟩⟩ | q
  · exact .inl ⟨fun z => n (t _ z), .inl (k _ _ n q)⟩
  · exact .inl ⟨fun z => n (t _ z), .inr ⟨o, k _ _ n q⟩⟩
  · exact .inr q
theorem LstAt.fresh {K : PySem.W.Frag} {T : Addr → Prop} {H : Hp} {a p : Addr} {vs : List V} (hp : H p = none) (q : LstAt K T H a vs) : LstAt K (fun b => T b ∨ b = p) H a vs := by
  rcases q with ⟨n, q | ⟨o, q⟩⟩ | q
  · exact .inl ⟨fun z => z.elim n fun e => ne_of_none q hp e, .inl q⟩
  · exact .inl ⟨fun z => z.elim n fun e => ne_of_none q hp e, .inr ⟨o, q⟩⟩
  · exact .inr q
theorem TupAt.sq {K : PySem.W.Frag} {T : Addr → Prop} {H : Hp} {a : Addr} {xs : List V} (h : TupAt K T H a xs) : SqT K H a xs := h.elim (fun q => .inl q.2) .inr
mutual
inductive Rep (K : PySem.W.Frag) (T : Addr → Prop) (H : Hp) : V → PyData → Prop
  | non : Rep K T H .non .none
  | bl (b : Bool) : Rep K T H (.bl b) (.bool b)
  | int (i : Int) : Rep K T H (.int i) (.int i)
  | str (x : Str) : Rep K T H (.str x) (.str x)
  | lst {a : Addr} {vs : List V} {xs : List PyData} : ¬ T a → H a = some (.lst vs) → Reps K T H vs xs → Rep K T H (.ref a) (.list xs)
  | tup {a : Addr} {vs : List V} {xs : List PyData} : TupAt K T H a vs → Reps K T H vs xs → Rep K T H (.ref a) (.tuple xs)
inductive Reps (K : PySem.W.Frag) (T : Addr → Prop) (H : Hp) : List V → List PyData → Prop
  | nil : Reps K T H [] []
  | cons {v : V} {vs : List V} {x : PyData} {xs : List PyData} : Rep K T H v x → Reps K T H vs xs → Reps K T H (v :: vs) (x :: xs)
end
section
variable {K : PySem.W.Frag} {T T' : Addr → Prop} {H H' : Hp}
theorem TupAt.mono {a : Addr} {vs : List V} (k : ∀ a o, ¬ T a → H a = some o → H' a = some o) (t : ∀ a, T' a → T a) (q : TupAt K T H a vs) : TupAt K T' H' a vs := by
  rcases q with ⟨n, q | ⟨o, q⟩⟩ | q
  · exact .inl ⟨fun z => n (t _ z), .inl (k _ _ n q)⟩
  · exact .inl ⟨fun z => n (t _ z), .inr ⟨o, k _ _ n q⟩⟩
  · exact .inr q
theorem TupAt.fresh {a p : Addr} {vs : List V} (hp : H p = none) (q : TupAt K T H a vs) : TupAt K (fun b => T b ∨ b = p) H a vs := by
  rcases q with ⟨n, q | ⟨o, q⟩⟩ | q
  · exact .inl ⟨fun z => z.elim n fun e => ne_of_none q hp e, .inl q⟩
  · exact .inl ⟨fun z => z.elim n fun e => ne_of_none q hp e, .inr ⟨o, q⟩⟩
  · exact .inr q
mutual
theorem Rep.mono (k : ∀ a o, ¬ T a → H a = some o → H' a = some o) (t : ∀ a, T' a → T a) : ∀ (x : PyData) {v : V}, Rep K T H v x → Rep K T' H' v x
  | .none, _, h => by cases h; exact .non
  | .bool b, _, h => by cases h; exact .bl b
  | .int i, _, h => by cases h; exact .int i
  | .str i, _, h => by cases h; exact .str i
  | .list xs, _, h => by
    cases h with
    | lst n e r => exact .lst (fun q => n (t _ q)) (k _ _ n e) (Reps.mono k t xs r)
  | .tuple xs, _, h => by
    cases h with
    | tup e r => exact .tup (e.mono k t) (Reps.mono k t xs r)
  | .dict _, _, h => by cases h
theorem Reps.mono (k : ∀ a o, ¬ T a → H a = some o → H' a = some o) (t : ∀ a, T' a → T a) : ∀ (xs : List PyData) {vs : List V}, Reps K T H vs xs → Reps K T' H' vs xs
  | [], _, h => by cases h; exact .nil
  | x :: xs, _, h => by
    cases h with
    | cons h1 h2 => exact .cons (Rep.mono k t x h1) (Reps.mono k t xs h2)
end
mutual
theorem Rep.fresh {p : Addr} (hp : H p = none) : ∀ (x : PyData) {v : V}, Rep K T H v x → Rep K (fun b => T b ∨ b = p) H v x
  | .none, _, h => by cases h; exact .non
  | .bool b, _, h => by cases h; exact .bl b
  | .int i, _, h => by cases h; exact .int i
  | .str i, _, h => by cases h; exact .str i
  | .list xs, _, h => by
    cases h with
    | lst n e r => exact .lst (fun q => q.elim n fun z => ne_of_none e hp z) e (Reps.fresh hp xs r)
  | .tuple xs, _, h => by
    cases h with
    | tup e r => exact .tup (e.fresh hp) (Reps.fresh hp xs r)
  | .dict _, _, h => by cases h
theorem Reps.fresh {p : Addr} (hp : H p = none) : ∀ (xs : List PyData) {vs : List V}, Reps K T H vs xs → Reps K (fun b => T b ∨ b = p) H vs xs
  | [], _, h => by cases h; exact .nil
  | x :: xs, _, h => by
    cases h with
    | cons h1 h2 => exact .cons (Rep.fresh hp x h1) (Reps.fresh hp xs h2)
end
theorem Rep.mon {x : PyData} {v : V} (r : Rep K T H v x) (k : ∀ a o, ¬ T a → H a = some o → H' a = some o) (t : ∀ a, T' a → T a) : Rep K T' H' v x := Rep.mono k t x r
theorem Reps.mon {x : List PyData} {v : List V} (r : Reps K T H v x) (k : ∀ a o, ¬ T a → H a = some o → H' a = some o) (t : ∀ a, T' a → T a) : Reps K T' H' v x := Reps.mono k t x r
theorem Reps.length : ∀ {xs : List PyData} {vs : List V}, Reps K T H vs xs → vs.length = xs.length
  | [], _, h => by cases h; rfl
  | x :: xs, _, h => by
    cases h with
    | cons h1 h2 => rw [List.length_cons, List.length_cons, Reps.length h2]
theorem Reps.get : ∀ {xs : List PyData} {vs : List V} {i : Nat} {x : PyData}, Reps K T H vs xs → xs[i]? = some x → ∃ v, vs[i]? = some v ∧ Rep K T H v x
  | [], _, _, _, h, e => by simp at e
  | y :: xs, _, 0, x, h, e => by
    cases h with
    | cons h1 h2 =>
      have e' : y = x := by simpa using e
      subst e'
      exact ⟨_, rfl, h1⟩
  | y :: xs, _, i + 1, x, h, e => by
    cases h with
    | cons h1 h2 =>
      obtain ⟨v, q, r⟩ := Reps.get (i := i) (x := x) h2 (by simpa using e)
      exact ⟨v, by simpa using q, r⟩
theorem Reps.append : ∀ {xs ys : List PyData} {vs ws : List V}, Reps K T H vs xs → Reps K T H ws ys → Reps K T H (vs ++ ws) (xs ++ ys)
  | [], _, _, _, h, q => by cases h; exact q
  | x :: xs, _, _, _, h, q => by
    cases h with
    | cons h1 h2 => exact .cons h1 (Reps.append h2 q)
theorem Reps.set : ∀ {xs : List PyData} {vs : List V} (j : Nat) {v : V} {x : PyData}, Reps K T H vs xs → Rep K T H v x → Reps K T H (vs.set j v) (xs.set j x)
  | [], _, _, _, _, h, q => by cases h; exact .nil
  | y :: xs, _, 0, _, _, h, q => by
    cases h with
    | cons h1 h2 => exact .cons q h2
  | y :: xs, _, j + 1, _, _, h, q => by
    cases h with
    | cons h1 h2 => exact .cons h1 (Reps.set j h2 q)
theorem Reps.drop : ∀ {xs : List PyData} {vs : List V} (n : Nat), Reps K T H vs xs → Reps K T H (vs.drop n) (xs.drop n)
  | _, _, 0, h => h
  | [], _, n + 1, h => by cases h; exact .nil
  | x :: xs, _, n + 1, h => by
    cases h with
    | cons h1 h2 => exact Reps.drop n h2
theorem Reps.take : ∀ {xs : List PyData} {vs : List V} (n : Nat), Reps K T H vs xs → Reps K T H (vs.take n) (xs.take n)
  | _, _, 0, h => .nil
  | [], _, n + 1, h => by cases h; exact .nil
  | x :: xs, _, n + 1, h => by
    cases h with
    | cons h1 h2 => exact .cons h1 (Reps.take n h2)
theorem Rep.of_flat {v : V} {x : PyData} (h : Rep K T H v x) (f : flat x = true) : Rep K T' H' v x := by
  cases h with
  | non => exact .non
  | bl b => exact .bl b
  | int i => exact .int i
  | str s => exact .str s
  | lst => cases f
  | tup => cases f
theorem Reps.of_ints : ∀ {xs : List PyData} {ns : List Int} {vs : List V}, Reps K T H vs xs → asInts xs = some ns → vs = ns.map V.int ∧ xs = ns.map PyData.int
  | [], ns, _, h, e => by
    cases h
    have : ns = [] := by simpa [asInts] using e.symm
    subst this
    exact ⟨rfl, rfl⟩
  | .int i :: xs, ns, _, h, e => by
    cases h with
    | cons h1 h2 =>
      cases h1
      unfold asInts at e
      cases q : asInts xs with
      | none => rw [q] at e; simp at e
      | some ms =>
        rw [q] at e
        have e' : i :: ms = ns := by simpa using e
        subst e'
        obtain ⟨h3, h4⟩ := Reps.of_ints h2 q
        exact ⟨by rw [h3]; rfl, by rw [h4]; rfl⟩
  | .none :: xs, ns, _, h, e => by simp [asInts] at e
  | .bool _ :: xs, ns, _, h, e => by simp [asInts] at e
  | .str _ :: xs, ns, _, h, e => by simp [asInts] at e
  | .list _ :: xs, ns, _, h, e => by simp [asInts] at e
  | .tuple _ :: xs, ns, _, h, e => by simp [asInts] at e
  | .dict _ :: xs, ns, _, h, e => by simp [asInts] at e
theorem Reps.of_bools : ∀ {xs : List PyData} {ns : List Bool} {vs : List V}, Reps K T H vs xs → asBools xs = some ns → vs = ns.map V.bl ∧ xs = ns.map PyData.bool
  | [], ns, _, h, e => by
    cases h
    have : ns = [] := by simpa [asBools] using e.symm
    subst this
    exact ⟨rfl, rfl⟩
  | .bool i :: xs, ns, _, h, e => by
    cases h with
    | cons h1 h2 =>
      cases h1
      unfold asBools at e
      cases q : asBools xs with
      | none => rw [q] at e; simp at e
      | some ms =>
        rw [q] at e
        have e' : i :: ms = ns := by simpa using e
        subst e'
        obtain ⟨h3, h4⟩ := Reps.of_bools h2 q
        exact ⟨by rw [h3]; rfl, by rw [h4]; rfl⟩
  | .none :: xs, ns, _, h, e => by simp [asBools] at e
  | .int _ :: xs, ns, _, h, e => by simp [asBools] at e
  | .str _ :: xs, ns, _, h, e => by simp [asBools] at e
  | .list _ :: xs, ns, _, h, e => by simp [asBools] at e
  | .tuple _ :: xs, ns, _, h, e => by simp [asBools] at e
  | .dict _ :: xs, ns, _, h, e => by simp [asBools] at e
theorem Reps.ints_map : ∀ (ns : List Int), Reps K T H (ns.map V.int) (ns.map PyData.int)
  | [] => .nil
  | n :: r => .cons (.int n) (Reps.ints_map r)
mutual
theorem Rep.dp : ∀ (x : PyData) {v : V}, Rep K T H v x → Dp K H v x
  | .none, _, h => by cases h; exact .non
  | .bool b, _, h => by cases h; exact .bl b
  | .int i, _, h => by cases h; exact .int i
  | .str i, _, h => by cases h; exact .str i
  | .list xs, _, h => by
    cases h with
    | lst n e r => exact .lst (SqL.of e) (Reps.dp xs r)
  | .tuple xs, _, h => by
    cases h with
    | tup e r => exact .tup e.sq (Reps.dp xs r)
  | .dict _, _, h => by cases h
theorem Reps.dp : ∀ (xs : List PyData) {vs : List V}, Reps K T H vs xs → DpAll K H vs xs
  | [], _, h => by cases h; exact .nil
  | x :: xs, _, h => by
    cases h with
    | cons h1 h2 => exact .cons (Rep.dp x h1) (Reps.dp xs h2)
end
end

/-! ### what a def stands in -/
/-- Z: what the draws may change; T: what is not to be read; H0: the heap at the entry -/
structure Gh where
  K : PySem.W.Frag
  Z : Addr → Prop
  T : Addr → Prop
  H0 : Hp
  sd : Addr
  sc : Addr
  kd : Nat
  dr : W → Hp → Prop
  zt : ∀ a, Z a → T a
  drk : ∀ w H H', dr w H → (∀ a, Z a → H' a = H a) → dr w H'
  one : kd = 1 → (∀ a, Z a ↔ a = sd ∨ a = sc) ∧ sd ≠ sc ∧ ∀ w H, dr w H ↔ (H sd = some (.lst [.int w.pos, .ref sc]) ∧ H sc = some (.lst (w.cells.map V.int)))
  two : kd = 2 → (∀ a, Z a ↔ a = sd) ∧ ∀ w H, dr w H ↔ ∃ c, w.cells = [c] ∧ H sd = some (.lst [.int w.pos, .int c])
structure Keep (Z : Addr → Prop) (H H' : Hp) : Prop where
  at_ : ∀ a o, ¬ Z a → H a = some o → H' a = some o
  live : ∀ a, H a ≠ none → H' a ≠ none
theorem Keep.refl (Z : Addr → Prop) (H : Hp) : Keep Z H H := ⟨fun _ _ _ e => e, fun _ e => e⟩
theorem Keep.trans {Z : Addr → Prop} {H H1 H2 : Hp} (a : Keep Z H H1) (b : Keep Z H1 H2) : Keep Z H H2 :=
  ⟨fun c o n e => b.at_ c o n (a.at_ c o n e), fun c e => b.live c (a.live c e)⟩
theorem Keep.of_same {Z : Addr → Prop} {H H' : Hp} (s : Same H H') : Keep Z H H' :=
  ⟨fun a o _ e => s a o e, fun a e => by
    cases q : H a with
    | none => exact absurd q e
    | some o => rw [s a o q]; simp⟩
def ownA (env : En) (σ : SS) (a : Addr) : Prop := ∃ (i : Nat) (xs : List PyData), env[i]? = some (.ow xs) ∧ σ[i]? = some (some (.ref a))
/-- what a value may not lean on -/
def av (g : Gh) (m : Bool) (env : En) (σ : SS) : Addr → Prop := fun a => g.T a ∨ (m = true ∧ ownA env σ a)
structure StOk (g : Gh) (env : En) (w : W) (σ : SS) (H : Hp) : Prop where
  len : σ.length = env.length
  sh : ∀ (i : Nat) x, env[i]? = some (.sh x) → ∃ v, σ[i]? = some (some v) ∧ Rep g.K (av g true env σ) H v x
  ow : ∀ (i : Nat) xs, env[i]? = some (.ow xs) → ∃ a vs, σ[i]? = some (some (.ref a)) ∧ H a = some (.lst vs) ∧ Reps g.K (av g true env σ) H vs xs ∧ g.H0 a = none ∧ ¬ g.T a
  st : ∀ (i k : Nat), env[i]? = some (.st k) → σ[i]? = some (some (.ref g.sd)) ∧ g.kd = k
  fz : ∀ (i : Nat) ns, env[i]? = some (.fz ns) → ∃ a, σ[i]? = some (some (.ref a)) ∧ LstAt g.K (av g true env σ) H a (ns.map V.int)
  dist : ∀ (i j : Nat) xs ys a, env[i]? = some (.ow xs) → env[j]? = some (.ow ys) → σ[i]? = some (some (.ref a)) → σ[j]? = some (some (.ref a)) → i = j
  live : ∀ a, g.T a → H a ≠ none
  keep : Keep g.Z g.H0 H
  dr : g.dr w H
theorem seqL_mono {K : PySem.W.Frag} {H H' : Hp} {a : Addr} {vs : List V} (h : ∀ o, H a = some o → H' a = some o) (q : SqL K H a vs) : SqL K H' a vs := by
  rcases q with (q | ⟨o, q⟩) | q
  · exact .inl (.inl (h _ q))
  · exact .inl (.inr ⟨o, h _ q⟩)
  · exact .inr q
section
variable {g : Gh} {m : Bool} {env : En} {w w' : W} {σ : SS} {H H' : Hp}
theorem av_z {a : Addr} (h : g.Z a) : av g m env σ a := .inl (g.zt a h)
theorem av_le {a : Addr} (h : av g m env σ a) : av g true env σ a := h.elim .inl fun q => .inr ⟨rfl, q.2⟩
theorem av_false {a : Addr} (h : av g false env σ a) : g.T a := h.elim id fun q => nomatch q.1
theorem StOk.owNT (I : StOk g env w σ H) {a : Addr} (h : ownA env σ a) : ¬ g.T a := by
  obtain ⟨i, xs, e1, e2⟩ := h
  obtain ⟨b, vs, q, _, _, _, n⟩ := I.ow i xs e1
  rw [e2] at q
  cases q
  exact n
theorem StOk.owLive (I : StOk g env w σ H) {a : Addr} (h : ownA env σ a) : H a ≠ none := by
  obtain ⟨i, xs, e1, e2⟩ := h
  obtain ⟨b, vs, q, e, _, _, n⟩ := I.ow i xs e1
  rw [e2] at q
  cases q
  rw [e]; simp
theorem StOk.avLive (I : StOk g env w σ H) {a : Addr} (h : av g m env σ a) : H a ≠ none := by
  rcases h with h | ⟨_, h⟩
  · exact I.live a h
  · exact I.owLive h
/-- an expression was reckoned -/
theorem StOk.step (I : StOk g env w σ H) (k : Keep g.Z H H') (d : g.dr w' H') : StOk g env w' σ H' where
  len := I.len
  sh := fun i x e => by
    obtain ⟨v, q, r⟩ := I.sh i x e
    exact ⟨v, q, r.mon (fun a o n e => k.at_ a o (fun z => n (av_z z)) e) fun _ q => q⟩
  ow := fun i xs e => by
    obtain ⟨a, vs, q, h, r, n, t⟩ := I.ow i xs e
    exact ⟨a, vs, q, k.at_ a _ (fun z => t (g.zt a z)) h, r.mon (fun a o n e => k.at_ a o (fun z => n (av_z z)) e) (fun _ q => q), n, t⟩
  st := I.st
  fz := fun i ns e => by
    obtain ⟨a, q, s⟩ := I.fz i ns e
    exact ⟨a, q, s.mono (fun a o n e => k.at_ a o (fun z => n (av_z z)) e) fun _ z => z⟩
  dist := I.dist
  live := fun a t => k.live a (I.live a t)
  keep := I.keep.trans k
  dr := d
theorem StOk.same (I : StOk g env w σ H) (s : Same H H') : g.dr w H' := g.drk w H H' I.dr fun a z => by
  cases q : H a with
  | none => exact absurd q (I.live a (g.zt a z))
  | some o => exact s a o q
theorem Rep.keep {K : PySem.W.Frag} {x : PyData} {v : V} (r : Rep K (av g m env σ) H v x) (k : Keep g.Z H H') : Rep K (av g m env σ) H' v x :=
  r.mon (fun a o n e => k.at_ a o (fun z => n (av_z z)) e) fun _ q => q
theorem Reps.keep {K : PySem.W.Frag} {x : List PyData} {v : List V} (r : Reps K (av g m env σ) H v x) (k : Keep g.Z H H') : Reps K (av g m env σ) H' v x :=
  r.mon (fun a o n e => k.at_ a o (fun z => n (av_z z)) e) fun _ q => q
end

/-! ### judgements -/
/-- an expression's reading keeps what f says; m: the value leans on nothing that the def may change -/
def VwE (K : PySem.W.Frag) (m : Bool) (t : TE) (f : EF) : Prop :=
  ∀ (g : Gh) (env : En) (w : W) (σ : SS) (H : Hp) (Q : VK) (x : PyData) (w' : W), g.K = K → StOk g env w σ H → f env w = some (x, w') →
    (∀ v H', Keep g.Z H H' → g.dr w' H' → Rep K (av g m env σ) H' v x → Q v H') → t σ H Q
def VwT (K : PySem.W.Frag) (t : TT) (f : TF) : Prop :=
  ∀ (g : Gh) (env : En) (w : W) (σ : SS) (H : Hp) (Q : Bool → Hp → Prop) (b : Bool) (w' : W), g.K = K → StOk g env w σ H → f env w = some (b, w') →
    (∀ H', Keep g.Z H H' → g.dr w' H' → Q b H') → t σ H Q
def VwA (K : PySem.W.Frag) (m : Bool) (t : TA) (f : AF) : Prop :=
  ∀ (g : Gh) (env : En) (w : W) (σ : SS) (H : Hp) (Q : List V → Hp → Prop) (xs : List PyData) (w' : W), g.K = K → StOk g env w σ H → f env w = some (xs, w') →
    (∀ vs H', Keep g.Z H H' → g.dr w' H' → Reps K (av g m env σ) H' vs xs → Q vs H') → t σ H Q
/-- .. a new list -/
def VwL (K : PySem.W.Frag) (m : Bool) (t : TE) (f : LF) : Prop :=
  ∀ (g : Gh) (env : En) (w : W) (σ : SS) (H : Hp) (Q : VK) (xs : List PyData) (w' : W), g.K = K → StOk g env w σ H → f env w = some (xs, w') →
    (∀ p vs H', H p = none → Keep g.Z H H' → g.dr w' H' → H' p = some (.lst vs) → Reps K (fun a => av g m env σ a ∨ a = p) H' vs xs → Q (.ref p) H') → t σ H Q
structure PV (X : Cx) (m : Bool) (e : Expr) (t : TE) (f : EF) : Prop where
  pe : PE X e t
  vw : VwE X.K m t f
structure PTV (X : Cx) (e : Expr) (t : TT) (f : TF) : Prop where
  pe : PT X e t
  vw : VwT X.K t f
structure PWV (X : Cx) (e : Expr) (t : TT) (f : TF) : Prop where
  pe : PW X e t
  vw : VwT X.K t f
structure PAV (X : Cx) (m : Bool) (es : List Expr) (t : TA) (f : AF) : Prop where
  pe : PA X es t
  vw : VwA X.K m t f
structure PLV (X : Cx) (m : Bool) (e : Expr) (t : TE) (f : LF) : Prop where
  pe : PE X e t
  vw : VwL X.K m t f

section
variable {X : Cx} {m : Bool} {e a b c : Expr} {ta tb tc : TE} {f h k : EF} {pos : Pos}
/-- .. may be left out -/
theorem PV.weak (p : PV X true e ta f) : PV X m e ta f := ⟨p.pe, fun g env w σ H Q x w' hK I hf q =>
  p.vw g env w σ H Q x w' hK I hf fun v H' k d r => q v H' k d (r.mon (fun _ _ _ e => e) fun _ => av_le)⟩
theorem pv_flat (p : PV X false e ta f) : PV X m e ta (xFlat f) := ⟨p.pe, fun g env w σ H Q x w' hK I hf q => by
  obtain ⟨y, w1, h1, h2⟩ := bind_some.mp hf
  refine p.vw g env w σ H Q y _ hK I h1 fun v H' k d r => ?_
  by_cases fl : flat y = true
  · rw [if_pos fl] at h2
    obtain ⟨rfl, rfl⟩ := pure_get h2
    exact q v H' k d (r.of_flat fl)
  · rw [if_neg fl] at h2; cases h2⟩
theorem xVar_get {i : Nat} {env : En} {w w' : W} {x : PyData} (h : xVar i env w = some (x, w')) : env[i]? = some (.sh x) ∧ w' = w := by
  unfold xVar at h
  cases e : env[i]? with
  | none => rw [e] at h; cases h
  | some s =>
    rw [e] at h
    cases s with
    | sh y => obtain ⟨rfl, rfl⟩ := pure_get h; exact ⟨rfl, rfl⟩
    | _ => cases h
theorem xVarO_get {i : Nat} {env : En} {w w' : W} {x : PyData} (h : xVarO i env w = some (x, w')) : (env[i]? = some (.sh x) ∨ ∃ xs, env[i]? = some (.ow xs) ∧ x = .list xs) ∧ w' = w := by
  unfold xVarO at h
  cases e : env[i]? with
  | none => rw [e] at h; cases h
  | some s =>
    rw [e] at h
    cases s with
    | sh y => obtain ⟨rfl, rfl⟩ := pure_get h; exact ⟨.inl rfl, rfl⟩
    | ow xs => obtain ⟨rfl, rfl⟩ := pure_get h; exact ⟨.inr ⟨xs, rfl, rfl⟩, rfl⟩
    | _ => cases h
def visB (sc : Scope) (x : Str) : Bool := match sc.names.lookup x with
  | some .local => true
  | some .cell => true
  | some .free => true
  | _ => false
theorem vis_of {sc : Scope} {x : Str} (h : visB sc x = true) : Vis sc x := by
  unfold visB at h
  split at h
  · rename_i e; exact .inl e
  · rename_i e; exact .inr (.inl e)
  · rename_i e; exact .inr (.inr e)
  · cases h
def locB (sc : Scope) (x : Str) : Bool := match sc.names.lookup x with
  | some .local => true
  | some .cell => true
  | _ => false
theorem loc_of {sc : Scope} {x : Str} (h : locB sc x = true) : Loc sc x := by
  unfold locB at h
  split at h
  · rename_i e; exact .inl e
  · rename_i e; exact .inr e
  · cases h
def fnB (X : Cx) (x : Str) : Bool := X.fn x || (match X.env.scope.names.lookup x with
  | some .local => true
  | _ => false)
theorem fn_of' {X : Cx} {x : Str} (h : fnB X x = true) : X.fn x = true ∨ X.env.scope.names.lookup x = some .local := by
  unfold fnB at h
  rw [Bool.or_eq_true] at h
  rcases h with h | h
  · exact .inl h
  · split at h
    · rename_i e; exact .inr e
    · cases h
def dunB (x : Str) : Bool := !(x == ("__debug__" : Str)) && !(x == ("__classdict__" : Str))
theorem dun1 {x : Str} (h : dunB x = true) : (x == ("__debug__" : Str)) = false := by
  unfold dunB at h
  rw [Bool.and_eq_true, Bool.not_eq_true', Bool.not_eq_true'] at h
  exact h.1
theorem dun2 {x : Str} (h : dunB x = true) : (x == ("__classdict__" : Str)) = false := by
  unfold dunB at h
  rw [Bool.and_eq_true, Bool.not_eq_true', Bool.not_eq_true'] at h
  exact h.2
theorem vw_var {K : PySem.W.Frag} (i : Nat) : VwE K m (tVar i) (xVar i) := fun g env w σ H Q x w' hK I hf q => by
  subst hK
  obtain ⟨e, rfl⟩ := xVar_get hf
  obtain ⟨v, hv, r⟩ := I.sh i _ e
  exact ⟨v, hv, q v H (Keep.refl _ _) I.dr (r.mon (fun _ _ _ e => e) fun _ => av_le)⟩
theorem vw_varO {K : PySem.W.Frag} (i : Nat) : VwE K false (tVar i) (xVarO i) := fun g env w σ H Q x w' hK I hf q => by
  subst hK
  obtain ⟨e | ⟨xs, e, rfl⟩, rfl⟩ := xVarO_get hf
  · obtain ⟨v, hv, r⟩ := I.sh i _ e
    exact ⟨v, hv, q v H (Keep.refl _ _) I.dr (r.mon (fun _ _ _ e => e) fun _ => av_le)⟩
  · obtain ⟨a, vs, hv, ha, r, _, nt⟩ := I.ow i xs e
    exact ⟨_, hv, q _ H (Keep.refl _ _) I.dr (.lst (fun z => nt (av_false z)) ha (r.mon (fun _ _ _ e => e) fun _ => av_le))⟩
theorem pv_var {i : Nat} {x : Str} {pos : Pos} (hN : X.N[i]? = some x) (hv : visB X.env.scope x = true) (hd : dunB x = true) : PV X m (.Name x pos) (tVar i) (xVar i) := ⟨pe_var hN (vis_of hv) (dun1 hd) (dun2 hd), vw_var i⟩
theorem pv_varO {i : Nat} {x : Str} {pos : Pos} (hN : X.N[i]? = some x) (hv : visB X.env.scope x = true) (hd : dunB x = true) : PV X false (.Name x pos) (tVar i) (xVarO i) := ⟨pe_var hN (vis_of hv) (dun1 hd) (dun2 hd), vw_varO i⟩
theorem vw_const {v : V} {x : PyData} (hx : ∀ K T H, Rep K T H v x) : VwE X.K m (tC v) (xC x) := fun g env w σ H Q y w' hK I hf q => by
  obtain ⟨rfl, rfl⟩ := pure_get hf
  exact q v H (Keep.refl _ _) I.dr (hx _ _ _)
theorem pv_int {i j pos} : PV X m (.Constant (.int i) j pos) (tC (.int i)) (xC (.int i)) := ⟨pe_int, vw_const fun _ _ _ => .int i⟩
theorem pv_bl {i j pos} : PV X m (.Constant (.bool i) j pos) (tC (.bl i)) (xC (.bool i)) := ⟨pe_bl, vw_const fun _ _ _ => .bl i⟩
theorem pv_non {j pos} : PV X m (.Constant .none j pos) (tC .non) (xC .none) := ⟨pe_non, vw_const fun _ _ _ => .non⟩
theorem pv_str {i j pos} : PV X m (.Constant (.str i) j pos) (tC (.str i)) (xC (.str i)) := ⟨pe_str, vw_const fun _ _ _ => .str i⟩

/-! ### operators by values -/
def OpV (K : PySem.W.Frag) (r : R2) (F : PyData → PyData → Option PyData) : Prop :=
  ∀ (T : Addr → Prop) (H : Hp) (u v : V) (x y z : PyData) (Q : VK), (∀ a, T a → H a ≠ none) → Rep K T H u x → Rep K T H v y → F x y = some z → (∀ t H', Same H H' → Rep K T H' t z → Q t H') → r u v H Q
theorem vw_op {K : PySem.W.Frag} {r : R2} {F : PyData → PyData → Option PyData} (ho : OpV K r F) (p : VwE K m ta f) (q : VwE K m tb h) : VwE K m (tOp r ta tb) (xOp F f h) := fun g env w σ H Q x w' hK I hf k => by
  obtain ⟨y, w1, h1, h2⟩ := bind_some.mp hf
  obtain ⟨z, w2, h3, h4⟩ := bind_some.mp h2
  obtain ⟨e1, rfl⟩ := lift_get h4
  refine p g env w σ H _ y _ hK I h1 fun v H1 k1 d1 r1 => ?_
  refine q g env w1 σ H1 _ z _ hK (I.step k1 d1) h3 fun v2 H2 k2 d2 r2 => ?_
  have I2 := (I.step k1 d1).step k2 d2
  refine ho (av g m env σ) H2 v v2 y z x Q (fun a t => I2.avLive t) (r1.keep k2) r2 e1 fun t H' s r3 => ?_
  exact k t H' ((k1.trans k2).trans (Keep.of_same s)) (I2.same s) r3
theorem pv_op {op : Operator} {r : R2} {F : PyData → PyData → Option PyData} (hr : OpR X (binaryOp op) r) (ho : OpV X.K r F) (p : PV X m a ta f) (q : PV X m b tb h) : PV X m (.BinOp a op b pos) (tOp r ta tb) (xOp F f h) :=
  ⟨pe_op hr p.pe q.pe, vw_op ho p.vw q.vw⟩
theorem pv_cmp {op : CmpOp} {r : R2} {F : PyData → PyData → Option PyData} (hr : OpR X (compareOp op) r) (ho : OpV X.K r F) (p : PV X m a ta f) (q : PV X m b tb h) (hm : behindInMarks op b = false) : PV X m (.Compare a [op] [b] pos) (tOp r ta tb) (xOp F f h) :=
  ⟨pe_cmpR hr p.pe q.pe hm, vw_op ho p.vw q.vw⟩
theorem pt_cmpV {op : CmpOp} {r : R2} {F : PyData → PyData → Option PyData} (hr : OpR X (compareOp op) r) (ho : OpV X.K r F) (p : PV X false a ta f) (q : PV X false b tb h) (hm : behindInMarks op b = false) : PTV X (.Compare a [op] [b] pos) (tTest (tOp r ta tb)) (xTest (xOp F f h)) :=
  ⟨pt_cmpR hr p.pe q.pe hm, fun g env w σ H Q x w' hK I hf k => by
    obtain ⟨y, w1, h1, h2⟩ := bind_some.mp hf
    obtain ⟨e1, rfl⟩ := lift_get h2
    refine vw_op ho p.vw q.vw g env w σ H _ y _ hK I h1 fun v H1 k1 d1 r1 => ?_
    cases y with
    | bool c =>
      cases r1
      have e3 : c = x := by simpa [asB] using e1
      subst e3
      exact ⟨c, rfl, k H1 k1 d1⟩
    | _ => simp [asB] at e1⟩
theorem vw_un {K : PySem.W.Frag} {r : V → Hp → VK → Prop} {F : PyData → Option PyData} (ho : ∀ (T : Addr → Prop) (H : Hp) (u : V) (x z : PyData) (Q : VK), Rep K T H u x → F x = some z → (∀ t, Rep K T H t z → Q t H) → r u H Q) (p : VwE K m ta f) : VwE K m (tUn r ta) (xUn F f) := fun g env w σ H Q x w' hK I hf k => by
  obtain ⟨y, w1, h1, h2⟩ := bind_some.mp hf
  obtain ⟨e1, rfl⟩ := lift_get h2
  refine p g env w σ H _ y _ hK I h1 fun v H1 k1 d1 r1 => ?_
  exact ho _ H1 v y x Q r1 e1 fun t r2 => k t H1 k1 d1 r2
theorem pv_neg (p : PV X m a ta f) : PV X m (.UnaryOp .USub a pos) (tUn (rU fun i => .int (-i)) ta) (xUn fNeg f) := ⟨pe_un un_neg p.pe, vw_un (fun T H u x z Q r e q => by
  cases r with
  | int i => simp [fNeg] at e; subst e; exact ⟨i, rfl, q _ (.int _)⟩
  | _ => simp [fNeg] at e) p.vw⟩

theorem ov_int0 {K : PySem.W.Frag} {gi : Int → Int → V} {F : PyData → PyData → Option PyData} (hF : ∀ x y z, F x y = some z → ∃ i j, x = .int i ∧ y = .int j ∧ ∀ T H, Rep K T H (gi i j) z) : OpV K (rI0 gi) F := fun T H u v x y z Q lv r1 r2 e q => by
  obtain ⟨i, j, rfl, rfl, hz⟩ := hF x y z e
  cases r1; cases r2
  exact ⟨i, j, rfl, rfl, q _ H (Same.refl H) (hz T H)⟩
theorem ov_int {K : PySem.W.Frag} {C : Int → Int → Prop} {gi : Int → Int → V} {F : PyData → PyData → Option PyData} (hF : ∀ x y z, F x y = some z → ∃ i j, x = .int i ∧ y = .int j ∧ C i j ∧ ∀ T H, Rep K T H (gi i j) z) : OpV K (rI C gi) F := fun T H u v x y z Q lv r1 r2 e q => by
  obtain ⟨i, j, rfl, rfl, hc, hz⟩ := hF x y z e
  cases r1; cases r2
  exact ⟨i, j, rfl, rfl, hc, q _ H (Same.refl H) (hz T H)⟩
theorem ov_sub {K : PySem.W.Frag} : OpV K (rI0 fun i j => .int (i - j)) fSub := ov_int0 fun x y z e => by
  unfold fSub at e
  split at e
  · cases e; exact ⟨_, _, rfl, rfl, fun _ _ => .int _⟩
  · cases e
theorem ov_lt {K : PySem.W.Frag} : OpV K (rI0 fun i j => .bl (decide (i < j))) fLt := ov_int0 fun x y z e => by
  unfold fLt at e
  split at e
  · cases e; exact ⟨_, _, rfl, rfl, fun _ _ => .bl _⟩
  · cases e
theorem ov_le {K : PySem.W.Frag} : OpV K (rI0 fun i j => .bl (decide (i ≤ j))) fLe := ov_int0 fun x y z e => by
  unfold fLe at e
  split at e
  · cases e; exact ⟨_, _, rfl, rfl, fun _ _ => .bl _⟩
  · cases e
theorem ov_gt {K : PySem.W.Frag} : OpV K (rI0 fun i j => .bl (decide (j < i))) fGt := ov_int0 fun x y z e => by
  unfold fGt at e
  split at e
  · cases e; exact ⟨_, _, rfl, rfl, fun _ _ => .bl _⟩
  · cases e
theorem ov_ge {K : PySem.W.Frag} : OpV K (rI0 fun i j => .bl (decide (j ≤ i))) fGe := ov_int0 fun x y z e => by
  unfold fGe at e
  split at e
  · cases e; exact ⟨_, _, rfl, rfl, fun _ _ => .bl _⟩
  · cases e
theorem ov_mul {K : PySem.W.Frag} : OpV K (rI CMul fun i j => .int (i * j)) fMul := ov_int fun x y z e => by
  unfold fMul at e
  split at e
  · split at e
    · rename_i hc
      cases e
      refine ⟨_, _, rfl, rfl, ?_, fun _ _ => .int _⟩
      simp only [inW, Bool.or_eq_true, Bool.and_eq_true, decide_eq_true_eq] at hc
      exact hc
    · cases e
  · cases e
theorem ov_div {K : PySem.W.Frag} : OpV K (rI CDiv fun i j => .int (i / j)) fDiv := ov_int fun x y z e => by
  unfold fDiv at e
  split at e
  · split at e
    · rename_i hc
      cases e
      exact ⟨_, _, rfl, rfl, hc, fun _ _ => .int _⟩
    · cases e
  · cases e
theorem ov_mod {K : PySem.W.Frag} : OpV K (rI (fun _ j => 0 < j) fun i j => .int (i % j)) fMod := ov_int fun x y z e => by
  unfold fMod at e
  split at e
  · split at e
    · rename_i hc
      cases e
      exact ⟨_, _, rfl, rfl, hc, fun _ _ => .int _⟩
    · cases e
  · cases e
theorem upd_new {H : Hp} {p : Addr} {o : HO} (h : H p = none) : Same H (upd H p o) := fun b x e => by
  rw [upd_ne (ne_of_none e h)]
  exact e
theorem ov_add {K : PySem.W.Frag} : OpV K (fun x y H Q => rI0 (fun i j => .int (i + j)) x y H Q ∨ rCat x y H Q) fAdd := fun T H u v x y z Q lv r1 r2 e q => by
  unfold fAdd at e
  split at e
  · cases e
    cases r1; cases r2
    exact .inl ⟨_, _, rfl, rfl, q _ H (Same.refl H) (.int _)⟩
  · split at e
    · rename_i xs ys hl
      cases e
      cases r1 with
      | lst n1 a1 s1 =>
        cases r2 with
        | lst n2 a2 s2 =>
          refine .inr ⟨_, _, _, _, rfl, rfl, a1, a2, ?_, fun p hp => ?_⟩
          · rw [s1.length, s2.length, ← line_eq]; exact hl
          · refine q _ _ (upd_new hp) (.lst (fun z => lv p z hp) upd_same ?_)
            exact (s1.append s2).mon (fun a o n e => upd_new hp a o e) fun _ q => q
    · cases e
  · cases e
theorem ov_eq {K : PySem.W.Frag} : OpV K (rEqD K) fEq := fun T H u v x y z Q lv r1 r2 e q => by
  unfold fEq at e
  split at e
  · rename_i hc
    cases e
    simp only [shp, Bool.and_eq_true] at hc
    exact ⟨x, y, r1.dp, r2.dp, hc.1, hc.2, q _ H (Same.refl H) (.bl _)⟩
  · cases e
theorem ov_ne {K : PySem.W.Frag} : OpV K (rNeD K) fNe := fun T H u v x y z Q lv r1 r2 e q => by
  unfold fNe at e
  split at e
  · rename_i hc
    cases e
    simp only [shp, Bool.and_eq_true] at hc
    exact ⟨x, y, r1.dp, r2.dp, hc.1, hc.2, q _ H (Same.refl H) (.bl _)⟩
  · cases e
theorem isNone_rep {K : PySem.W.Frag} {T : Addr → Prop} {H : Hp} {v : V} {x : PyData} (r : Rep K T H v x) : decide (v = .non) = isNone x := by
  cases r <;> simp [isNone]
/-- a is None -/
theorem vw_isN {K : PySem.W.Frag} (p : VwE K false ta f) : VwE K m (tIsN ta) (xUn fIsN f) := fun g env w σ H Q x w' hK I hf k => by
  obtain ⟨y, w1, h1, h2⟩ := bind_some.mp hf
  obtain ⟨e1, rfl⟩ := lift_get h2
  refine p g env w σ H _ y _ hK I h1 fun v H1 k1 d1 r1 => ?_
  have e3 : .bool (isNone y) = x := by simpa [fIsN] using e1
  subst e3
  rw [isNone_rep r1]
  exact k _ H1 k1 d1 (.bl _)
theorem vw_notN {K : PySem.W.Frag} (p : VwE K false ta f) : VwE K m (tNotN ta) (xUn fNotN f) := fun g env w σ H Q x w' hK I hf k => by
  obtain ⟨y, w1, h1, h2⟩ := bind_some.mp hf
  obtain ⟨e1, rfl⟩ := lift_get h2
  refine p g env w σ H _ y _ hK I h1 fun v H1 k1 d1 r1 => ?_
  have e3 : .bool (!isNone y) = x := by simpa [fNotN] using e1
  subst e3
  rw [isNone_rep r1]
  exact k _ H1 k1 d1 (.bl _)
theorem pv_isN {j pos'} (p : PV X false a ta f) : PV X m (.Compare a [.Is] [.Constant .none j pos'] pos) (tIsN ta) (xUn fIsN f) := ⟨pe_cmp (pc_isN p.pe), vw_isN p.vw⟩
theorem pv_notN {j pos'} (p : PV X false a ta f) : PV X m (.Compare a [.IsNot] [.Constant .none j pos'] pos) (tNotN ta) (xUn fNotN f) := ⟨pe_cmp (pc_notN p.pe), vw_notN p.vw⟩
theorem vw_test {K : PySem.W.Frag} {t : TE} (p : VwE K false t f) : VwT K (tB t) (xTest f) := fun g env w σ H Q x w' hK I hf k => by
  obtain ⟨y, w1, h1, h2⟩ := bind_some.mp hf
  obtain ⟨e1, rfl⟩ := lift_get h2
  refine p g env w σ H _ y _ hK I h1 fun v H1 k1 d1 r1 => ?_
  cases y with
  | bool c =>
    cases r1
    have e3 : c = x := by simpa [asB] using e1
    subst e3
    exact ⟨c, rfl, k H1 k1 d1⟩
  | _ => simp [asB] at e1
theorem pt_isN {j pos'} (p : PV X false a ta f) : PTV X (.Compare a [.Is] [.Constant .none j pos'] pos) (tB (tIsN ta)) (xTest (xUn fIsN f)) := ⟨pt_cmp (pc_isN p.pe), vw_test (vw_isN p.vw)⟩
theorem pt_notN {j pos'} (p : PV X false a ta f) : PTV X (.Compare a [.IsNot] [.Constant .none j pos'] pos) (tB (tNotN ta)) (xTest (xUn fNotN f)) := ⟨pt_cmp (pc_notN p.pe), vw_test (vw_notN p.vw)⟩
/-- a value's truth -/
theorem truth_rep {K : PySem.W.Frag} {T : Addr → Prop} {H : Hp} {v : V} {x : PyData} {k : Bool} (r : Rep K T H v x) (e : truth x = some k) : TruV K v H k := by
  cases r with
  | non => simp [truth] at e; subst e; rfl
  | bl b => simp [truth] at e; subst e; rfl
  | int i => simp [truth] at e; subst e; rfl
  | str s => simp [truth] at e
  | lst n a r =>
    have e' : (!List.isEmpty _) = k := Option.some.inj e
    refine .inl ⟨_, SqL.of a, ?_⟩
    rw [← e']
    cases r <;> rfl
  | tup a r =>
    have e' : (!List.isEmpty _) = k := Option.some.inj e
    refine .inr (.inl ⟨_, a.sq, ?_⟩)
    rw [← e']
    cases r <;> rfl
theorem pt_tru {KK : PySem.W.Frag} (hKK : X.K = KK) (p : PV X false a ta f) (he : ∀ whole, isTrue a X.env whole = (do let v ← whole; standAt a.pos; holding [v] (truthy v))) :
    PTV X a (fun σ H Q => ta σ H fun x H' => ∃ k, TruV KK x H' k ∧ Q k H') (xTruth f) := by
  subst hKK
  exact (show
    PTV X a (fun σ H Q => ta σ H fun x H' => ∃ k, TruV X.K x H' k ∧ Q k H') (xTruth f) from  ⟨pt_truth p.pe he, fun g env w σ H Q x w' hK I hf k => by
  obtain ⟨y, w1, h1, h2⟩ := bind_some.mp hf
  obtain ⟨e1, rfl⟩ := lift_get h2
  exact p.vw g env w σ H _ y _ hK I h1 fun v H1 k1 d1 r1 => ⟨x, truth_rep r1 e1, k H1 k1 d1⟩⟩)

end
end VE

namespace VE
open PySem PySem.Spec L2
open PyProof.Rows hiding St
section
variable {X : Cx} {m : Bool} {e a b c : Expr} {rest : List Expr} {ta tb tc : TE} {tA tB' : TT} {f h k : EF} {fA fB : TF} {pos : Pos} {K : PySem.W.Frag}
/-! ### and, or, not -/
theorem PWV.pt (p : PWV X e tA fA) : PTV X e tA fA := ⟨p.pe.pt, p.vw⟩
theorem pwv_and1 (p : PTV X a tA fA) : PWV X (.BoolOp .And [a] pos) tA fA := ⟨pw_and1 p.pe, p.vw⟩
theorem pwv_or1 (p : PTV X a tA fA) : PWV X (.BoolOp .Or [a] pos) tA fA := ⟨pw_or1 p.pe, p.vw⟩
theorem vw_and (p : VwT K tA fA) (q : VwT K tB' fB) : VwT K (tAnd tA tB') (xAnd fA fB) := fun g env w σ H Q x w' hK I hf k => by
  obtain ⟨y, w1, h1, h2⟩ := bind_some.mp hf
  refine p g env w σ H _ y _ hK I h1 fun H1 k1 d1 => ?_
  cases y with
  | true => exact q g env _ σ H1 Q x _ hK (I.step k1 d1) h2 fun H' k2 d2 => k H' (k1.trans k2) d2
  | false =>
    obtain ⟨rfl, rfl⟩ := pure_get h2
    exact k H1 k1 d1
theorem vw_or (p : VwT K tA fA) (q : VwT K tB' fB) : VwT K (tOr tA tB') (xOr fA fB) := fun g env w σ H Q x w' hK I hf k => by
  obtain ⟨y, w1, h1, h2⟩ := bind_some.mp hf
  refine p g env w σ H _ y _ hK I h1 fun H1 k1 d1 => ?_
  cases y with
  | false => exact q g env _ σ H1 Q x _ hK (I.step k1 d1) h2 fun H' k2 d2 => k H' (k1.trans k2) d2
  | true =>
    obtain ⟨rfl, rfl⟩ := pure_get h2
    exact k H1 k1 d1
theorem pwv_and (p : PTV X a tA fA) (q : PWV X (.BoolOp .And (b :: rest) pos) tB' fB) : PWV X (.BoolOp .And (a :: b :: rest) pos) (tAnd tA tB') (xAnd fA fB) := ⟨pw_and p.pe q.pe, vw_and p.vw q.vw⟩
theorem pwv_or (p : PTV X a tA fA) (q : PWV X (.BoolOp .Or (b :: rest) pos) tB' fB) : PWV X (.BoolOp .Or (a :: b :: rest) pos) (tOr tA tB') (xOr fA fB) := ⟨pw_or p.pe q.pe, vw_or p.vw q.vw⟩
theorem ptv_not (p : PTV X a tA fA) : PTV X (.UnaryOp .Not a pos) (tNot tA) (xNot fA) := ⟨pt_not p.pe, fun g env w σ H Q x w' hK I hf k => by
  obtain ⟨y, w1, h1, h2⟩ := bind_some.mp hf
  obtain ⟨rfl, rfl⟩ := pure_get h2
  exact p.vw g env w σ H _ y _ hK I h1 fun H1 k1 d1 => k H1 k1 d1⟩
theorem pv_one {op} (p : PV X m a ta f) : PV X m (.BoolOp op [a] pos) ta f := ⟨pe_one p.pe, p.vw⟩
theorem pv_and (p : PV X false a ta f) (q : PV X m (.BoolOp .And (b :: rest) pos) tb h) : PV X m (.BoolOp .And (a :: b :: rest) pos) (tAndV ta tb) (xAndV f h) := ⟨pe_and p.pe q.pe, fun g env w σ H Q x w' hK I hf k => by
  obtain ⟨y, w1, h1, h2⟩ := bind_some.mp hf
  refine p.vw g env w σ H _ y _ hK I h1 fun v H1 k1 d1 r1 => ?_
  cases y with
  | bool c =>
    cases r1
    refine ⟨c, rfl, ?_⟩
    cases c with
    | true => exact q.vw g env _ σ H1 Q x _ hK (I.step k1 d1) h2 fun v2 H' k2 d2 r2 => k v2 H' (k1.trans k2) d2 r2
    | false =>
      obtain ⟨rfl, rfl⟩ := pure_get h2
      exact k _ H1 k1 d1 (.bl _)
  | _ => cases h2⟩
theorem pv_or (p : PV X false a ta f) (q : PV X m (.BoolOp .Or (b :: rest) pos) tb h) : PV X m (.BoolOp .Or (a :: b :: rest) pos) (tOrV ta tb) (xOrV f h) := ⟨pe_or p.pe q.pe, fun g env w σ H Q x w' hK I hf k => by
  obtain ⟨y, w1, h1, h2⟩ := bind_some.mp hf
  refine p.vw g env w σ H _ y _ hK I h1 fun v H1 k1 d1 r1 => ?_
  cases y with
  | bool c =>
    cases r1
    refine ⟨c, rfl, ?_⟩
    cases c with
    | false => exact q.vw g env _ σ H1 Q x _ hK (I.step k1 d1) h2 fun v2 H' k2 d2 r2 => k v2 H' (k1.trans k2) d2 r2
    | true =>
      obtain ⟨rfl, rfl⟩ := pure_get h2
      exact k _ H1 k1 d1 (.bl _)
  | _ => cases h2⟩
theorem pv_not (p : PV X false a ta f) : PV X m (.UnaryOp .Not a pos) (tNotV ta) (xNotV f) := ⟨pe_not p.pe, fun g env w σ H Q x w' hK I hf k => by
  obtain ⟨y, w1, h1, h2⟩ := bind_some.mp hf
  refine p.vw g env w σ H _ y _ hK I h1 fun v H1 k1 d1 r1 => ?_
  cases y with
  | bool c =>
    cases r1
    obtain ⟨rfl, rfl⟩ := pure_get h2
    exact ⟨c, rfl, k _ H1 k1 d1 (.bl _)⟩
  | _ => cases h2⟩
theorem pv_if (t : PTV X c tA fA) (p : PV X m a ta f) (q : PV X m b tb h) : PV X m (.IfExp c a b pos) (tIf tA ta tb) (xIf fA f h) := ⟨pe_ifExp t.pe p.pe q.pe, fun g env w σ H Q x w' hK I hf k => by
  obtain ⟨y, w1, h1, h2⟩ := bind_some.mp hf
  refine t.vw g env w σ H _ y _ hK I h1 fun H1 k1 d1 => ?_
  cases y with
  | true => exact p.vw g env _ σ H1 Q x _ hK (I.step k1 d1) h2 fun v2 H' k2 d2 r2 => k v2 H' (k1.trans k2) d2 r2
  | false => exact q.vw g env _ σ H1 Q x _ hK (I.step k1 d1) h2 fun v2 H' k2 d2 r2 => k v2 H' (k1.trans k2) d2 r2⟩

/-! ### a chain of two comparisons -/
theorem vw_chain {r r' : R2} {F F' : PyData → PyData → Option PyData} (ho : OpV K r F) (ho' : OpV K r' F') (p : VwE K false ta f) (q : VwE K false tb h) (s : VwE K false tc k) : VwE K m (tChain r r' ta tb tc) (xChain F F' f h k) := fun g env w σ H Q x w' hK I hf kk => by
  obtain ⟨y, w1, h1, h2⟩ := bind_some.mp hf
  obtain ⟨z, w2, h3, h4⟩ := bind_some.mp h2
  obtain ⟨b1, w3, h5, h6⟩ := bind_some.mp h4
  obtain ⟨e1, rfl⟩ := lift_get h5
  refine p g env w σ H _ y _ hK I h1 fun v H1 k1 d1 r1 => ?_
  refine q g env _ σ H1 _ z _ hK (I.step k1 d1) h3 fun v2 H2 k2 d2 r2 => ?_
  have I2 := (I.step k1 d1).step k2 d2
  obtain ⟨zz, ez, eb⟩ := Option.bind_eq_some_iff.mp e1
  refine ho (av g false env σ) H2 v v2 y z zz _ (fun a t => I2.avLive t) (r1.keep k2) r2 ez fun t H3 s3 r3 => ?_
  have I3 := I2.step (Keep.of_same s3) (I2.same s3)
  have k3 := (k1.trans k2).trans (Keep.of_same s3)
  cases zz with
  | bool bb =>
    have : bb = b1 := by simpa [asB] using eb
    subst this
    cases r3
    refine ⟨bb, rfl, ?_⟩
    cases bb with
    | false =>
      rw [if_neg Bool.false_ne_true] at h6
      rw [if_neg Bool.false_ne_true]
      obtain ⟨rfl, rfl⟩ := pure_get h6
      exact kk _ H3 k3 I3.dr (.bl _)
    | true =>
      rw [if_pos rfl] at h6
      rw [if_pos rfl]
      obtain ⟨u, w4, h7, h8⟩ := bind_some.mp h6
      obtain ⟨b2, w5, h9, h10⟩ := bind_some.mp h8
      obtain ⟨e2, rfl⟩ := lift_get h9
      obtain ⟨rfl, rfl⟩ := pure_get h10
      obtain ⟨z2, ez2, eb2⟩ := Option.bind_eq_some_iff.mp e2
      refine s g env _ σ H3 _ u _ hK I3 h7 fun v4 H4 k4 d4 r4 => ?_
      have I4 := I3.step k4 d4
      refine ho' (av g false env σ) H4 v2 v4 z u z2 Q (fun a t => I4.avLive t) (r2.keep ((Keep.of_same s3).trans k4)) r4 ez2 fun t5 H5 s5 r5 => ?_
      cases z2 with
      | bool b3 =>
        have : b3 = b2 := by simpa [asB] using eb2
        subst this
        cases r5
        exact kk _ H5 ((k3.trans k4).trans (Keep.of_same s5)) (I4.same s5) (.bl _)
      | _ => simp [asB] at eb2
  | _ => simp [asB] at eb
theorem pv_chain {op op' : CmpOp} {r r' : R2} {F F' : PyData → PyData → Option PyData} (hr : OpR X (compareOp op) r) (ho : OpV X.K r F) (hr' : OpR X (compareOp op') r') (ho' : OpV X.K r' F') (p : PV X false a ta f) (q : PV X false b tb h) (s : PV X false c tc k)
    (hm : lastMarks [op, op'] [b, c] = false) : PV X m (.Compare a [op, op'] [b, c] pos) (tChain r r' ta tb tc) (xChain F F' f h k) := ⟨pe_chain hr hr' p.pe q.pe s.pe hm, vw_chain ho ho' p.vw q.vw s.vw⟩
theorem vw_tTest {t : TE} (p : VwE K false t f) : VwT K (tTest t) (xTest f) := fun g env w σ H Q x w' hK I hf k => vw_test p g env w σ H Q x w' hK I hf k
theorem pt_chainV {op op' : CmpOp} {r r' : R2} {F F' : PyData → PyData → Option PyData} (hr : OpR X (compareOp op) r) (ho : OpV X.K r F) (hr' : OpR X (compareOp op') r') (ho' : OpV X.K r' F') (p : PV X false a ta f) (q : PV X false b tb h) (s : PV X false c tc k)
    (hm : lastMarks [op, op'] [b, c] = false) : PTV X (.Compare a [op, op'] [b, c] pos) (tTest (tChain r r' ta tb tc)) (xTest (xChain F F' f h k)) := ⟨pt_chain hr hr' p.pe q.pe s.pe hm, vw_tTest (vw_chain ho ho' p.vw q.vw s.vw)⟩

/-! ### arguments, displays -/
variable {es : List Expr} {tas tbs : TA} {fs hs : AF}
theorem pav_nil : PAV X m [] tNil xNil := ⟨pa_nil, fun g env w σ H Q x w' hK I hf k => by
  obtain ⟨rfl, rfl⟩ := pure_get hf
  exact k [] H (Keep.refl _ _) I.dr .nil⟩
theorem pav_cons (p : PV X m e ta f) (q : PAV X m es tas fs) (hst : starEach (e :: es) X.env = (false, eval e X.env) :: starEach es X.env) : PAV X m (e :: es) (tCons ta tas) (xCons f fs) := ⟨pa_cons p.pe q.pe hst, fun g env w σ H Q x w' hK I hf k => by
  obtain ⟨y, w1, h1, h2⟩ := bind_some.mp hf
  obtain ⟨ys, w2, h3, h4⟩ := bind_some.mp h2
  obtain ⟨rfl, rfl⟩ := pure_get h4
  refine p.vw g env w σ H _ y _ hK I h1 fun v H1 k1 d1 r1 => ?_
  refine q.vw g env _ σ H1 _ ys _ hK (I.step k1 d1) h3 fun vs H2 k2 d2 r2 => ?_
  exact k _ H2 (k1.trans k2) d2 (.cons (r1.keep k2) r2)⟩
theorem StOk.new {g : Gh} {env : En} {w : W} {σ : SS} {H : Hp} {o : HO} {p : Addr} (I : StOk g env w σ H) (hp : H p = none) : Keep g.Z H (upd H p o) ∧ g.dr w (upd H p o) := ⟨Keep.of_same (upd_new hp), I.same (upd_new hp)⟩
theorem pv_tup {x1} (p : PAV X m es tas fs) : PV X m (.Tuple es x1 pos) (tTup tas) (xTup fs) := ⟨pe_tup p.pe, fun g env w σ H Q x w' hK I hf k => by
  obtain ⟨ys, w1, h1, h2⟩ := bind_some.mp hf
  by_cases hl : ys.length ≤ line
  · rw [if_pos hl] at h2
    obtain ⟨rfl, rfl⟩ := pure_get h2
    refine p.vw g env w σ H _ ys _ hK I h1 fun vs H1 k1 d1 r1 => ⟨by rw [r1.length, ← line_eq]; exact hl, fun q hq => ?_⟩
    have I1 := I.step k1 d1
    obtain ⟨k2, d2⟩ := I1.new (o := .tup vs) hq
    exact k _ _ (k1.trans k2) d2 (.tup (.inl ⟨fun z => I1.avLive z hq, .inl upd_same⟩) (r1.keep k2))
  · rw [if_neg hl] at h2; cases h2⟩
theorem plv_lst (p : PAV X m es tas fs) : PLV X m (.List es pos) (tLst tas) (xLst fs) := ⟨pe_lst p.pe, fun g env w σ H Q x w' hK I hf k => by
  obtain ⟨ys, w1, h1, h2⟩ := bind_some.mp hf
  by_cases hl : ys.length ≤ line
  · rw [if_pos hl] at h2
    obtain ⟨rfl, rfl⟩ := pure_get h2
    refine p.vw g env w σ H _ ys _ hK I h1 fun vs H1 k1 d1 r1 => ⟨by rw [r1.length, ← line_eq]; exact hl, fun q hq => ?_⟩
    have I1 := I.step k1 d1
    obtain ⟨k2, d2⟩ := I1.new (o := .lst vs) hq
    refine k q vs _ ?_ (k1.trans k2) d2 upd_same ((Reps.fresh hq _ r1).mon (fun a o n e => upd_new hq a o e) fun _ z => z)
    cases z : H q with
    | none => rfl
    | some o => exact absurd hq (k1.live q (by rw [z]; simp))
  · rw [if_neg hl] at h2; cases h2⟩
theorem pv_as {t : TE} {fl : LF} (p : PLV X m e t fl) : PV X m e t (xAs fl) := ⟨p.pe, fun g env w σ H Q x w' hK I hf k => by
  obtain ⟨ys, w1, h1, h2⟩ := bind_some.mp hf
  obtain ⟨rfl, rfl⟩ := pure_get h2
  refine p.vw g env w σ H _ ys _ hK I h1 fun q vs H1 hq k1 d1 e1 r1 => ?_
  refine k _ H1 k1 d1 (.lst (fun z => I.avLive z hq) e1 (r1.mon (fun _ _ _ e => e) fun _ z => .inl z))⟩
theorem Reps.of_flats {T T' : Addr → Prop} {H H' : Hp} : ∀ {ys : List PyData} {vs : List V}, Reps K T H vs ys → ys.all VE.flat = true → Reps K T' H' vs ys
  | [], _, r, _ => by cases r; exact .nil
  | y :: ys, _, r, fl => by
    rw [List.all_cons, Bool.and_eq_true] at fl
    cases r with
    | cons r1 r2 => exact .cons (r1.of_flat fl.1) (Reps.of_flats r2 fl.2)
/-- a list that is new is so whatever was held -/
theorem PLV.flat {t : TE} {fl : LF} (p : PLV X false e t fl) : PLV X m e t (xFlatL fl) := ⟨p.pe, fun g env w σ H Q x w' hK I hf k => by
  obtain ⟨ys, w1, h1, h2⟩ := bind_some.mp hf
  by_cases hl : ys.all VE.flat = true
  · rw [if_pos hl] at h2
    obtain ⟨rfl, rfl⟩ := pure_get h2
    refine p.vw g env w σ H _ ys _ hK I h1 fun q vs H1 hq k1 d1 e1 r1 => k q vs H1 hq k1 d1 e1 ?_
    exact r1.of_flats hl
  · rw [if_neg hl] at h2; cases h2⟩

/-! ### items -/
theorem ixN_eq (n : Nat) (i : Int) : VE.ixN n i = L2.ixN n i := rfl
theorem atI_rep {T : Addr → Prop} {H : Hp} {vs : List V} {xs : List PyData} {i : Int} {x : PyData} (r : Reps K T H vs xs) (h : VE.atI xs i = some x) : ∃ v, L2.atI vs i = some v ∧ Rep K T H v x := by
  unfold VE.atI at h
  obtain ⟨j, h1, h2⟩ := Option.bind_eq_some_iff.mp h
  obtain ⟨v, e, q⟩ := r.get h2
  refine ⟨v, ?_, q⟩
  unfold L2.atI
  rw [r.length, ← ixN_eq, h1]
  exact e
theorem ov_ix : OpV K (fun x y H Q => rIxL K x y H Q ∨ rIxT K x y H Q) fIx := fun T H u v x y z Q lv r1 r2 e q => by
  unfold fIx at e
  split at e
  · cases r2
    cases r1 with
    | lst n a s =>
      obtain ⟨w, e1, e2⟩ := atI_rep s e
      exact .inl ⟨_, _, _, w, rfl, rfl, SqL.of a, e1, q w H (Same.refl H) e2⟩
  · cases r2
    cases r1 with
    | tup a s =>
      obtain ⟨w, e1, e2⟩ := atI_rep s e
      exact .inr ⟨_, _, _, w, rfl, rfl, a.sq, e1, q w H (Same.refl H) e2⟩
  · cases e
theorem pv_ix {KK : PySem.W.Frag} (hKK : X.K = KK) (p : PV X m a ta f) (q : PV X m b tb h) (hs : PlainIx b) : PV X m (.Subscript a b pos) (tOp (fun x y H Q => rIxL KK x y H Q ∨ rIxT KK x y H Q) ta tb) (xOp fIx f h) := by
  subst hKK
  exact (show PV X m (.Subscript a b pos) (tOp (fun x y H Q => rIxL X.K x y H Q ∨ rIxT X.K x y H Q) ta tb) (xOp fIx f h) from  ⟨pe_ix (ix_list.or ix_tup) p.pe q.pe hs, vw_op ov_ix p.vw q.vw⟩)

/-! ### in -/
theorem flat_rep {T : Addr → Prop} {H : Hp} {v : V} {x : PyData} (r : Rep K T H v x) (e : flat x = true) : flatV v = true := by
  cases r <;> first | rfl | cases e
theorem flats_rep {T : Addr → Prop} {H : Hp} : ∀ {xs : List PyData} {vs : List V}, Reps K T H vs xs → xs.all flat = true → vs.all flatV = true
  | [], _, r, _ => by cases r; rfl
  | x :: xs, _, r, e => by
    cases r with
    | cons r1 r2 =>
      rw [List.all_cons, Bool.and_eq_true] at e
      rw [List.all_cons, flat_rep r1 e.1, flats_rep r2 e.2]; rfl
theorem eqv_rep {T T' : Addr → Prop} {H : Hp} {v u : V} {x y : PyData} (r : Rep K T H v x) (s : Rep K T' H u y) (e1 : flat x = true) (e2 : flat y = true) : eqV v u = PyData.eqv x y := by
  cases r <;> cases s <;> first | rfl | cases e1 | cases e2 | simp [eqV, PyData.eqv]
theorem any_rep {T T' : Addr → Prop} {H : Hp} {u : V} {y : PyData} (s : Rep K T' H u y) (e2 : flat y = true) : ∀ {xs : List PyData} {vs : List V}, Reps K T H vs xs → xs.all flat = true → inV u vs = xs.any fun z => PyData.eqv z y
  | [], _, r, _ => by cases r; rfl
  | x :: xs, _, r, e => by
    cases r with
    | cons r1 r2 =>
      rw [List.all_cons, Bool.and_eq_true] at e
      have ih := any_rep s e2 r2 e.2
      unfold inV at ih ⊢
      rw [List.any_cons, List.any_cons, ih, eqv_rep r1 s e.1 e2]
theorem items_rep {T : Addr → Prop} {H : Hp} {v : V} {x : PyData} {xs : List PyData} (r : Rep K T H v x) (e : items x = some xs) : ∃ a vs, v = .ref a ∧ (SqL K H a vs ∨ SqT K H a vs) ∧ Reps K T H vs xs := by
  cases r with
  | lst n a s => simp [items] at e; subst e; exact ⟨_, _, rfl, .inl (SqL.of a), s⟩
  | tup a s => simp [items] at e; subst e; exact ⟨_, _, rfl, .inr a.sq, s⟩
  | _ => simp [items] at e
theorem ov_in : OpV K (rIn K false) fIn := fun T H u v x y z Q lv r1 r2 e q => by
  unfold fIn at e
  obtain ⟨ys, e1, e2⟩ := Option.bind_eq_some_iff.mp e
  split at e2
  · rename_i hc
    rw [Bool.and_eq_true] at hc
    obtain ⟨a, vs, rfl, hs, s⟩ := items_rep r2 e1
    cases e2
    refine ⟨a, vs, rfl, hs, flat_rep r1 hc.1, flats_rep s hc.2, ?_⟩
    rw [if_neg Bool.false_ne_true, any_rep r1 hc.1 s hc.2]
    exact q _ H (Same.refl H) (.bl _)
  · cases e2
theorem ov_notIn : OpV K (rIn K true) fNotIn := fun T H u v x y z Q lv r1 r2 e q => by
  unfold fNotIn at e
  obtain ⟨ys, e1, e2⟩ := Option.bind_eq_some_iff.mp e
  split at e2
  · rename_i hc
    rw [Bool.and_eq_true] at hc
    obtain ⟨a, vs, rfl, hs, s⟩ := items_rep r2 e1
    cases e2
    refine ⟨a, vs, rfl, hs, flat_rep r1 hc.1, flats_rep s hc.2, ?_⟩
    rw [if_pos rfl, any_rep r1 hc.1 s hc.2]
    exact q _ H (Same.refl H) (.bl _)
  · cases e2

/-! ### slices -/
structure POV (X : Cx) (e : Option Expr) (t : TO) (f : OF) : Prop where
  pe : PO X e t
  vw : ∀ (g : Gh) (env : En) (w : W) (σ : SS) (H : Hp) (Q : Option Int → Hp → Prop) (x : Option Int) (w' : W), g.K = X.K → StOk g env w σ H → f env w = some (x, w') →
    (∀ H', Keep g.Z H H' → g.dr w' H' → Q x H') → t σ H Q
theorem pov_none : POV X none tNoPart oNo := ⟨po_none, fun g env w σ H Q x w' hK I hf k => by
  obtain ⟨rfl, rfl⟩ := pure_get hf
  exact k H (Keep.refl _ _) I.dr⟩
theorem pov_some (p : PV X false e ta f) : POV X (some e) (tPart ta) (oSome f) := ⟨po_some p.pe, fun g env w σ H Q x w' hK I hf k => by
  obtain ⟨y, w1, h1, h2⟩ := bind_some.mp hf
  refine p.vw g env w σ H _ y _ hK I h1 fun v H1 k1 d1 r1 => ?_
  cases y with
  | int i =>
    cases r1
    obtain ⟨rfl, rfl⟩ := pure_get h2
    exact ⟨i, rfl, k H1 k1 d1⟩
  | _ => cases h2⟩
theorem cut_rep {T : Addr → Prop} {H : Hp} {vs : List V} {xs : List PyData} (lo hi : Option Int) (r : Reps K T H vs xs) : Reps K T H (cutV vs lo hi) (cut xs lo hi) := by
  unfold cutV cut
  have e : ∀ n d o, HT.sIx n d o = VE.sIx n d o := fun n d o => by
    cases o <;> rfl
  rw [r.length, e, e]
  exact (r.drop _).take _
theorem plv_slice {lo hi : Option Expr} {tl th : TO} {fl fh : OF} {p2 : Pos} {KK : PySem.W.Frag} (hKK : X.K = KK) (p : PV X m e ta f) (ql : POV X lo tl fl) (qh : POV X hi th fh) : PLV X m (.Subscript e (.Slice lo hi none p2) pos) (tSl (rSlL KK) ta tl th) (xSlice f fl fh) := by
  subst hKK
  exact (show PLV X m (.Subscript e (.Slice lo hi none p2) pos) (tSl (rSlL X.K) ta tl th) (xSlice f fl fh) from  ⟨pe_slice sl_list p.pe ql.pe qh.pe, fun g env w σ H Q x w' hK I hf k => by
  obtain ⟨y, w1, h1, h2⟩ := bind_some.mp hf
  obtain ⟨l, w2, h3, h4⟩ := bind_some.mp h2
  obtain ⟨u, w3, h5, h6⟩ := bind_some.mp h4
  refine p.vw g env w σ H _ y _ hK I h1 fun v H1 k1 d1 r1 => ?_
  refine ql.vw g env _ σ H1 _ l _ hK (I.step k1 d1) h3 fun H2 k2 d2 => ?_
  refine qh.vw g env _ σ H2 _ u _ hK ((I.step k1 d1).step k2 d2) h5 fun H3 k3 d3 => ?_
  have I3 := ((I.step k1 d1).step k2 d2).step k3 d3
  cases y with
  | list xs =>
    obtain ⟨rfl, rfl⟩ := pure_get h6
    have r3 := r1.keep (k2.trans k3)
    cases r3 with
    | lst n ha s =>
      refine ⟨_, _, rfl, SqL.of ha, fun q hq => ?_⟩
      obtain ⟨k4, d4⟩ := I3.new (o := .lst (cutV _ l u)) hq
      refine k q _ _ ?_ (((k1.trans k2).trans k3).trans k4) d4 upd_same ((Reps.fresh hq _ (cut_rep l u s)).mon (fun a o n e => upd_new hq a o e) fun _ z => z)
      cases z : H q with
      | none => rfl
      | some o => exact absurd hq (((k1.trans k2).trans k3).live q (by rw [z]; simp))
  | _ => cases h6⟩)

end
end VE

namespace VE
open PySem PySem.Spec L2
open PyProof.Rows hiding St
section
variable {X : Cx} {m : Bool} {e a b c : Expr} {rest es : List Expr} {ta tb tc : TE} {tas : TA} {tA tB' : TT} {f h k : EF} {fs : AF} {fA fB : TF} {pos : Pos} {K : PySem.W.Frag}
/-! ### calls of built-ins -/
def CalV (K : PySem.W.Frag) (r : List V → Hp → VK → Prop) (F : List PyData → Option PyData) : Prop :=
  ∀ (T : Addr → Prop) (H : Hp) (vs : List V) (xs : List PyData) (z : PyData) (Q : VK), (∀ a, T a → H a ≠ none) → Reps K T H vs xs → F xs = some z → (∀ t H', Same H H' → Rep K T H' t z → Q t H') → r vs H Q
theorem vw_callB {r : List V → Hp → VK → Prop} {F : List PyData → Option PyData} (ho : CalV K r F) (p : VwA K m tas fs) : VwE K m (tCB r tas) (xCall F fs) := fun g env w σ H Q x w' hK I hf k => by
  obtain ⟨ys, w1, h1, h2⟩ := bind_some.mp hf
  obtain ⟨e1, rfl⟩ := lift_get h2
  refine p g env w σ H _ ys _ hK I h1 fun vs H1 k1 d1 r1 => ?_
  have I1 := I.step k1 d1
  exact ho _ H1 vs ys x Q (fun a t => I1.avLive t) r1 e1 fun t H' s r2 => k t H' (k1.trans (Keep.of_same s)) (I1.same s) r2
theorem pv_callB {x : Str} {id : String} {p : Pos} {r : List V → Hp → VK → Prop} {F : List PyData → Option PyData} (hc : CallR X (.builtin id) r) (ho : CalV X.K r F) (hg : Gl X x) (hm : X.mg x = none) (hv : bootBuiltins x = some (.builtin id)) (ha : PAV X m (e :: es) tas fs) (hn : x ≠ "__name__") (hdb : (x == ("__debug__" : Str)) = false)
    (he : starEach (e :: es) X.env = (false, eval e X.env) :: starEach es X.env) (hpl : (backTo pos (starEach es X.env)).any (·.1) = false) : PV X m (.Call (.Name x p) (e :: es) [] pos) (tCB r tas) (xCall F fs) :=
  ⟨pe_callB hc hg hm hv ha.pe hn hdb he hpl, vw_callB ho ha.vw⟩
theorem pv_callTy {x : Str} {id : String} {p : Pos} {r : List V → Hp → VK → Prop} {F : List PyData → Option PyData} (hc : CallR X (.type id) r) (ho : CalV X.K r F) (hg : Gl X x) (hm : X.mg x = none) (hv : bootBuiltins x = some (.type id)) (ha : PAV X m (e :: es) tas fs) (hn : x ≠ "__name__") (hdb : (x == ("__debug__" : Str)) = false)
    (he : starEach (e :: es) X.env = (false, eval e X.env) :: starEach es X.env) (hpl : (backTo pos (starEach es X.env)).any (·.1) = false) : PV X m (.Call (.Name x p) (e :: es) [] pos) (tCB r tas) (xCall F fs) :=
  ⟨pe_callTy hc hg hm hv ha.pe hn hdb he hpl, vw_callB ho ha.vw⟩
theorem reps1 {T : Addr → Prop} {H : Hp} {vs : List V} {x : PyData} (r : Reps K T H vs [x]) : ∃ v, vs = [v] ∧ Rep K T H v x := by
  cases r with
  | cons r1 r2 => cases r2; exact ⟨_, rfl, r1⟩
theorem reps2 {T : Addr → Prop} {H : Hp} {vs : List V} {x y : PyData} (r : Reps K T H vs [x, y]) : ∃ v u, vs = [v, u] ∧ Rep K T H v x ∧ Rep K T H u y := by
  cases r with
  | cons r1 r2 =>
    cases r2 with
    | cons r2 r3 => cases r3; exact ⟨_, _, rfl, r1, r2⟩
theorem cv_len : CalV K (fun xs H Q => ∃ x n, xs = [x] ∧ LenV K x H n ∧ Q (.int n) H) fLen := fun T H vs xs z Q lv r e q => by
  unfold fLen at e
  split at e
  · obtain ⟨v, rfl, r'⟩ := reps1 r
    cases e
    cases r' with
    | lst n a s => exact ⟨_, _, rfl, .inl ⟨_, SqL.of a, rfl⟩, q _ H (Same.refl H) (by rw [s.length]; exact .int _)⟩
  · obtain ⟨v, rfl, r'⟩ := reps1 r
    cases e
    cases r' with
    | tup a s => exact ⟨_, _, rfl, .inr ⟨_, a.sq, rfl⟩, q _ H (Same.refl H) (by rw [s.length]; exact .int _)⟩
  · cases e
theorem cv_sum : CalV K (rSum K) fSum := fun T H vs xs z Q lv r e q => by
  unfold fSum at e
  split at e
  · obtain ⟨v, rfl, r'⟩ := reps1 r
    cases r' with
    | lst n a s =>
      obtain ⟨ns, e1, e2⟩ := Option.map_eq_some_iff.mp e
      subst e2
      obtain ⟨e3, e4⟩ := s.of_ints e1
      subst e3
      exact ⟨_, ns, rfl, SqL.of a, q _ H (Same.refl H) (.int _)⟩
  · cases e
theorem maxI_spec : ∀ (r : List Int) (a : Int), maxI a r ∈ a :: r ∧ ∀ y ∈ a :: r, y ≤ maxI a r
  | [], a => ⟨List.mem_cons_self, fun y hy => by simp at hy; subst hy; exact Int.le_refl _⟩
  | x :: r, a => by
    have e : maxI a (x :: r) = maxI (if a < x then x else a) r := rfl
    rw [e]
    obtain ⟨h1, h2⟩ := maxI_spec r (if a < x then x else a)
    constructor
    · rcases List.mem_cons.mp h1 with h | h
      · rw [h]; split <;> simp
      · exact List.mem_cons_of_mem _ (List.mem_cons_of_mem _ h)
    · intro y hy
      have h3 := h2 (if a < x then x else a) List.mem_cons_self
      rcases List.mem_cons.mp hy with h | h
      · subst h
        refine Int.le_trans ?_ h3
        split <;> omega
      · rcases List.mem_cons.mp h with h | h
        · subst h
          refine Int.le_trans ?_ h3
          split <;> omega
        · exact h2 y (List.mem_cons_of_mem _ h)
theorem minI_spec : ∀ (r : List Int) (a : Int), minI a r ∈ a :: r ∧ ∀ y ∈ a :: r, minI a r ≤ y
  | [], a => ⟨List.mem_cons_self, fun y hy => by simp at hy; subst hy; exact Int.le_refl _⟩
  | x :: r, a => by
    have e : minI a (x :: r) = minI (if x < a then x else a) r := rfl
    rw [e]
    obtain ⟨h1, h2⟩ := minI_spec r (if x < a then x else a)
    constructor
    · rcases List.mem_cons.mp h1 with h | h
      · rw [h]; split <;> simp
      · exact List.mem_cons_of_mem _ (List.mem_cons_of_mem _ h)
    · intro y hy
      have h3 := h2 (if x < a then x else a) List.mem_cons_self
      rcases List.mem_cons.mp hy with h | h
      · subst h
        refine Int.le_trans h3 ?_
        split <;> omega
      · rcases List.mem_cons.mp h with h | h
        · subst h
          refine Int.le_trans h3 ?_
          split <;> omega
        · exact h2 y (List.mem_cons_of_mem _ h)
theorem cv_max : CalV K (fun xs H Q => (∃ i j, xs = [.int i, .int j] ∧ Q (.int (if j > i then j else i)) H) ∨ rMax K xs H Q) fMax := fun T H vs xs z Q lv r e q => by
  unfold fMax at e
  split at e
  · obtain ⟨v, rfl, r'⟩ := reps1 r
    cases r' with
    | lst n a s =>
      obtain ⟨ns, e1, e2⟩ := Option.bind_eq_some_iff.mp e
      obtain ⟨e3, e4⟩ := s.of_ints e1
      subst e3
      cases ns with
      | nil => cases e2
      | cons b t =>
        cases e2
        refine .inr ⟨_, _, rfl, SqL.of a, Nat.succ_pos _, fun m hm hb => ?_⟩
        obtain ⟨h1, h2⟩ := maxI_spec t b
        have em : m = maxI b t := Int.le_antisymm (h2 m hm) (hb _ h1)
        rw [em]
        exact q _ H (Same.refl H) (.int _)
  · obtain ⟨v, u, rfl, r1, r2⟩ := reps2 r
    cases e
    cases r1; cases r2
    exact .inl ⟨_, _, rfl, q _ H (Same.refl H) (.int _)⟩
  · cases e
theorem cv_min : CalV K (fun xs H Q => (∃ i j, xs = [.int i, .int j] ∧ Q (.int (if j < i then j else i)) H) ∨ rMin K xs H Q) fMin := fun T H vs xs z Q lv r e q => by
  unfold fMin at e
  split at e
  · obtain ⟨v, rfl, r'⟩ := reps1 r
    cases r' with
    | lst n a s =>
      obtain ⟨ns, e1, e2⟩ := Option.bind_eq_some_iff.mp e
      obtain ⟨e3, e4⟩ := s.of_ints e1
      subst e3
      cases ns with
      | nil => cases e2
      | cons b t =>
        cases e2
        refine .inr ⟨_, _, rfl, SqL.of a, Nat.succ_pos _, fun m hm hb => ?_⟩
        obtain ⟨h1, h2⟩ := minI_spec t b
        have em : m = minI b t := Int.le_antisymm (hb _ h1) (h2 m hm)
        rw [em]
        exact q _ H (Same.refl H) (.int _)
  · obtain ⟨v, u, rfl, r1, r2⟩ := reps2 r
    cases e
    cases r1; cases r2
    exact .inl ⟨_, _, rfl, q _ H (Same.refl H) (.int _)⟩
  · cases e
theorem cv_any : CalV K (rAny K) fAny := fun T H vs xs z Q lv r e q => by
  unfold fAny at e
  split at e
  · obtain ⟨v, rfl, r'⟩ := reps1 r
    cases r' with
    | lst n a s =>
      obtain ⟨ns, e1, e2⟩ := Option.map_eq_some_iff.mp e
      subst e2
      obtain ⟨e3, e4⟩ := s.of_bools e1
      subst e3
      exact ⟨_, ns, rfl, SqL.of a, q _ H (Same.refl H) (.bl _)⟩
  · cases e
theorem cv_all : CalV K (rAll K) fAll := fun T H vs xs z Q lv r e q => by
  unfold fAll at e
  split at e
  · obtain ⟨v, rfl, r'⟩ := reps1 r
    cases r' with
    | lst n a s =>
      obtain ⟨ns, e1, e2⟩ := Option.map_eq_some_iff.mp e
      subst e2
      obtain ⟨e3, e4⟩ := s.of_bools e1
      subst e3
      exact ⟨_, ns, rfl, SqL.of a, q _ H (Same.refl H) (.bl _)⟩
  · cases e
theorem cv_abs : CalV K (fun xs H Q => ∃ i, xs = [.int i] ∧ Q (.int (if i < 0 then -i else i)) H) fAbs := fun T H vs xs z Q lv r e q => by
  unfold fAbs at e
  split at e
  · obtain ⟨v, rfl, r'⟩ := reps1 r
    cases e
    cases r'
    exact ⟨_, rfl, q _ H (Same.refl H) (.int _)⟩
  · cases e
theorem cv_int : CalV K (fun xs H Q => (∃ i, xs = [.int i] ∧ Q (.int i) H) ∨ ∃ k, xs = [.bl k] ∧ Q (.int (if k then 1 else 0)) H) fInt := fun T H vs xs z Q lv r e q => by
  unfold fInt at e
  split at e
  · obtain ⟨v, rfl, r'⟩ := reps1 r
    cases e
    cases r'
    exact .inl ⟨_, rfl, q _ H (Same.refl H) (.int _)⟩
  · obtain ⟨v, rfl, r'⟩ := reps1 r
    cases e
    cases r'
    exact .inr ⟨_, rfl, q _ H (Same.refl H) (.int _)⟩
  · cases e
theorem pv_len {p : Pos} {KK : PySem.W.Frag} (hKK : X.K = KK) (hm : X.mg "len" = none) (ha : PAV X m (e :: es) tas fs) (hg : Gl X "len") (he : starEach (e :: es) X.env = (false, eval e X.env) :: starEach es X.env) (hpl : (backTo pos (starEach es X.env)).any (·.1) = false) :
    PV X m (.Call (.Name "len" p) (e :: es) [] pos) (tCB (fun xs H Q => ∃ x n, xs = [x] ∧ LenV KK x H n ∧ Q (.int n) H) tas) (xCall fLen fs) := by
  subst hKK
  exact (show
    PV X m (.Call (.Name "len" p) (e :: es) [] pos) (tCB (fun xs H Q => ∃ x n, xs = [x] ∧ LenV X.K x H n ∧ Q (.int n) H) tas) (xCall fLen fs) from
  pv_callB call_len cv_len hg hm PySem.boot_len ha (by decide) (by decide) he hpl)

theorem pv_sum {p : Pos} {KK : PySem.W.Frag} (hKK : X.K = KK) (hc : X.calm = true) (hm : X.mg "sum" = none) (ha : PAV X m (e :: es) tas fs) (hg : Gl X "sum") (he : starEach (e :: es) X.env = (false, eval e X.env) :: starEach es X.env) (hpl : (backTo pos (starEach es X.env)).any (·.1) = false) :
    PV X m (.Call (.Name "sum" p) (e :: es) [] pos) (tCB (rSum KK) tas) (xCall fSum fs) := by
  subst hKK
  exact (show
    PV X m (.Call (.Name "sum" p) (e :: es) [] pos) (tCB (rSum X.K) tas) (xCall fSum fs) from
  pv_callB (cr_sum hc) cv_sum hg hm (by decide +kernel) ha (by decide) (by decide) he hpl)

theorem pv_max {p : Pos} {KK : PySem.W.Frag} (hKK : X.K = KK) (hc : X.calm = true) (hm : X.mg "max" = none) (ha : PAV X m (e :: es) tas fs) (hg : Gl X "max") (he : starEach (e :: es) X.env = (false, eval e X.env) :: starEach es X.env) (hpl : (backTo pos (starEach es X.env)).any (·.1) = false) :
    PV X m (.Call (.Name "max" p) (e :: es) [] pos) (tCB (fun xs H Q => (∃ i j, xs = [.int i, .int j] ∧ Q (.int (if j > i then j else i)) H) ∨ rMax KK xs H Q) tas) (xCall fMax fs) := by
  subst hKK
  exact (show
    PV X m (.Call (.Name "max" p) (e :: es) [] pos) (tCB (fun xs H Q => (∃ i j, xs = [.int i, .int j] ∧ Q (.int (if j > i then j else i)) H) ∨ rMax X.K xs H Q) tas) (xCall fMax fs) from
  pv_callB ((call_max2 hc).or (cr_max hc)) cv_max hg hm (by decide +kernel) ha (by decide) (by decide) he hpl)

theorem pv_min {p : Pos} {KK : PySem.W.Frag} (hKK : X.K = KK) (hc : X.calm = true) (hm : X.mg "min" = none) (ha : PAV X m (e :: es) tas fs) (hg : Gl X "min") (he : starEach (e :: es) X.env = (false, eval e X.env) :: starEach es X.env) (hpl : (backTo pos (starEach es X.env)).any (·.1) = false) :
    PV X m (.Call (.Name "min" p) (e :: es) [] pos) (tCB (fun xs H Q => (∃ i j, xs = [.int i, .int j] ∧ Q (.int (if j < i then j else i)) H) ∨ rMin KK xs H Q) tas) (xCall fMin fs) := by
  subst hKK
  exact (show
    PV X m (.Call (.Name "min" p) (e :: es) [] pos) (tCB (fun xs H Q => (∃ i j, xs = [.int i, .int j] ∧ Q (.int (if j < i then j else i)) H) ∨ rMin X.K xs H Q) tas) (xCall fMin fs) from
  pv_callB ((call_min2 hc).or (cr_min hc)) cv_min hg hm (by decide +kernel) ha (by decide) (by decide) he hpl)

theorem pv_any {p : Pos} {KK : PySem.W.Frag} (hKK : X.K = KK) (hc : X.calm = true) (hm : X.mg "any" = none) (ha : PAV X m (e :: es) tas fs) (hg : Gl X "any") (he : starEach (e :: es) X.env = (false, eval e X.env) :: starEach es X.env) (hpl : (backTo pos (starEach es X.env)).any (·.1) = false) :
    PV X m (.Call (.Name "any" p) (e :: es) [] pos) (tCB (rAny KK) tas) (xCall fAny fs) := by
  subst hKK
  exact (show
    PV X m (.Call (.Name "any" p) (e :: es) [] pos) (tCB (rAny X.K) tas) (xCall fAny fs) from
  pv_callB (cr_any hc) cv_any hg hm (by decide +kernel) ha (by decide) (by decide) he hpl)

theorem pv_all {p : Pos} {KK : PySem.W.Frag} (hKK : X.K = KK) (hc : X.calm = true) (hm : X.mg "all" = none) (ha : PAV X m (e :: es) tas fs) (hg : Gl X "all") (he : starEach (e :: es) X.env = (false, eval e X.env) :: starEach es X.env) (hpl : (backTo pos (starEach es X.env)).any (·.1) = false) :
    PV X m (.Call (.Name "all" p) (e :: es) [] pos) (tCB (rAll KK) tas) (xCall fAll fs) := by
  subst hKK
  exact (show
    PV X m (.Call (.Name "all" p) (e :: es) [] pos) (tCB (rAll X.K) tas) (xCall fAll fs) from
  pv_callB (cr_all hc) cv_all hg hm (by decide +kernel) ha (by decide) (by decide) he hpl)

theorem pv_abs {p : Pos} (hm : X.mg "abs" = none) (ha : PAV X m (e :: es) tas fs) (hg : Gl X "abs") (he : starEach (e :: es) X.env = (false, eval e X.env) :: starEach es X.env) (hpl : (backTo pos (starEach es X.env)).any (·.1) = false) :
    PV X m (.Call (.Name "abs" p) (e :: es) [] pos) (tCB (fun xs H Q => ∃ i, xs = [.int i] ∧ Q (.int (if i < 0 then -i else i)) H) tas) (xCall fAbs fs) :=
  pv_callB call_abs cv_abs hg hm (by decide +kernel) ha (by decide) (by decide) he hpl
theorem pv_intOf {p : Pos} (hm : X.mg "int" = none) (ha : PAV X m (e :: es) tas fs) (hg : Gl X "int") (he : starEach (e :: es) X.env = (false, eval e X.env) :: starEach es X.env) (hpl : (backTo pos (starEach es X.env)).any (·.1) = false) :
    PV X m (.Call (.Name "int" p) (e :: es) [] pos) (tCB (fun xs H Q => (∃ i, xs = [.int i] ∧ Q (.int i) H) ∨ ∃ k, xs = [.bl k] ∧ Q (.int (if k then 1 else 0)) H) tas) (xCall fInt fs) :=
  pv_callTy call_int1 cv_int hg hm (by decide +kernel) ha (by decide) (by decide) he hpl

/-! ### new lists from built-ins -/
def CalL (K : PySem.W.Frag) (r : List V → Hp → VK → Prop) (F : PyData → Option (List PyData)) : Prop :=
  ∀ (T : Addr → Prop) (H : Hp) (v : V) (x : PyData) (zs : List PyData) (Q : VK), Rep K T H v x → F x = some zs → (∀ p vs, H p = none → Reps K T H vs zs → Q (.ref p) (upd H p (.lst vs))) → r [v] H Q
theorem vw_callL {r : List V → Hp → VK → Prop} {F : PyData → Option (List PyData)} (ho : CalL K r F) (p : VwE K m ta f) : VwL K m (tCB r (tCons ta tNil)) (fun env => do let x ← f env; lift (F x)) := fun g env w σ H Q x w' hK I hf k => by
  obtain ⟨y, w1, h1, h2⟩ := bind_some.mp hf
  obtain ⟨e1, rfl⟩ := lift_get h2
  refine p g env w σ H _ y _ hK I h1 fun v H1 k1 d1 r1 => ?_
  have I1 := I.step k1 d1
  refine ho _ H1 v y x Q r1 e1 fun q vs hq r2 => ?_
  obtain ⟨k2, d2⟩ := I1.new (o := .lst vs) hq
  refine k q vs _ ?_ (k1.trans k2) d2 upd_same ((Reps.fresh hq _ r2).mon (fun a o n e => upd_new hq a o e) fun _ z => z)
  cases z : H q with
  | none => rfl
  | some o => exact absurd hq (k1.live q (by rw [z]; simp))
theorem cl_list : CalL K (fun xs H Q => ∃ p ys, xs = [.ref p] ∧ (SqL K H p ys ∨ SqT K H p ys) ∧ ∀ l, H l = none → Q (.ref l) (upd H l (.lst ys))) fList := fun T H v x zs Q r e q => by
  cases r with
  | lst n a s => cases e; exact ⟨_, _, rfl, .inl (SqL.of a), fun l hl => q l _ hl s⟩
  | tup a s => cases e; exact ⟨_, _, rfl, .inr a.sq, fun l hl => q l _ hl s⟩
  | _ => cases e
theorem plv_list {p : Pos} {KK : PySem.W.Frag} (hKK : X.K = KK) (hm : X.mg "list" = none) (q : PV X m e ta f) (hg : Gl X "list") (hst : starEach [e] X.env = (false, eval e X.env) :: starEach [] X.env) (hpl : (backTo pos (starEach [] X.env)).any (·.1) = false) :
    PLV X m (.Call (.Name "list" p) [e] [] pos) (tCB (fun xs H Q => ∃ p ys, xs = [.ref p] ∧ (SqL KK H p ys ∨ SqT KK H p ys) ∧ ∀ l, H l = none → Q (.ref l) (upd H l (.lst ys))) (tCons ta tNil)) (xList f) := by
  subst hKK
  exact (show
    PLV X m (.Call (.Name "list" p) [e] [] pos) (tCB (fun xs H Q => ∃ p ys, xs = [.ref p] ∧ (SqL X.K H p ys ∨ SqT X.K H p ys) ∧ ∀ l, H l = none → Q (.ref l) (upd H l (.lst ys))) (tCons ta tNil)) (xList f) from
  ⟨pe_callTy call_list_of hg hm (by decide +kernel) (pa_cons q.pe pa_nil hst) (by decide) (by decide) hst hpl, vw_callL cl_list q.vw⟩)

theorem insI_perm (x : Int) : ∀ xs : List Int, (insI x xs).Perm (x :: xs)
  | [] => .refl _
  | y :: r => by
    unfold insI
    split
    · exact .refl _
    · exact ((insI_perm x r).cons y).trans (.swap x y r)
theorem insI_sorted (x : Int) : ∀ xs : List Int, xs.Pairwise (· ≤ ·) → (insI x xs).Pairwise (· ≤ ·)
  | [], _ => by simp [insI]
  | y :: r, h => by
    unfold insI
    rw [List.pairwise_cons] at h
    split
    · rename_i hc
      rw [List.pairwise_cons]
      refine ⟨fun z hz => ?_, List.pairwise_cons.mpr h⟩
      rcases List.mem_cons.mp hz with e | e
      · subst e; exact hc
      · exact Int.le_trans hc (h.1 z e)
    · rename_i hc
      rw [List.pairwise_cons]
      refine ⟨fun z hz => ?_, insI_sorted x r h.2⟩
      have := (insI_perm x r).mem_iff.mp hz
      rcases List.mem_cons.mp this with e | e
      · subst e; omega
      · exact h.1 z e
theorem sortI_perm : ∀ xs : List Int, (sortI xs).Perm xs
  | [] => .refl _
  | x :: r => (insI_perm x _).trans ((sortI_perm r).cons x)
theorem sortI_sorted : ∀ xs : List Int, (sortI xs).Pairwise (· ≤ ·)
  | [] => .nil
  | x :: r => insI_sorted x _ (sortI_sorted r)
theorem sorted_unique : ∀ {xs ys : List Int}, xs.Perm ys → xs.Pairwise (· ≤ ·) → ys.Pairwise (· ≤ ·) → xs = ys := fun {xs ys} p h1 h2 =>
  p.eq_of_pairwise (fun a b _ _ h3 h4 => Int.le_antisymm h3 h4) h1 h2
theorem cl_sorted : CalL K (rSortedI K) fSorted := fun T H v x zs Q r e q => by
  cases r with
  | lst n a s =>
    obtain ⟨ns, e1, e2⟩ := Option.bind_eq_some_iff.mp e
    obtain ⟨e3, e4⟩ := s.of_ints e1
    subst e3
    split at e2
    · cases e2
      refine ⟨_, ns, rfl, SqL.of a, fun ns' p h1 h2 hp => ?_⟩
      have e5 : ns' = sortI ns := sorted_unique (h1.trans (sortI_perm ns).symm) h2 (sortI_sorted ns)
      rw [e5]
      exact q p _ hp (Reps.ints_map _)
    · cases e2
  | _ => cases e
theorem plv_sorted {p : Pos} {KK : PySem.W.Frag} (hKK : X.K = KK) (hm : X.mg "sorted" = none) (q : PV X m e ta f) (hg : Gl X "sorted") (hst : starEach [e] X.env = (false, eval e X.env) :: starEach [] X.env) (hpl : (backTo pos (starEach [] X.env)).any (·.1) = false) :
    PLV X m (.Call (.Name "sorted" p) [e] [] pos) (tCB (rSortedI KK) (tCons ta tNil)) (xSorted f) := by
  subst hKK
  exact (show
    PLV X m (.Call (.Name "sorted" p) [e] [] pos) (tCB (rSortedI X.K) (tCons ta tNil)) (xSorted f) from
  ⟨pe_callB cr_sortedI hg hm (by decide +kernel) (pa_cons q.pe pa_nil hst) (by decide) (by decide) hst hpl, vw_callL cl_sorted q.vw⟩)

/-! ### methods -/
theorem pv_index {apos : Pos} {KK : PySem.W.Frag} (hKK : X.K = KK) (p : PV X m a ta f) (q : PAV X m [b] tas fs)
    (hbase : attributeBase a "index" X.env (eval a X.env) = eval a X.env)
    (hfew : ((backTo pos (starEach [b] X.env)).all (fun x => !x.1) && (backToKw pos (keywordEach [] X.env)).all (fun x => x.1.isSome)
      && decide ([b].length + ([] : List Keyword).length + (if ([] : List Keyword).isEmpty then 0 else 1) < 30)) = true)
    (hline : (apos.endLine == pos.line) = true) (hs : starEach [b] X.env = (false, eval b X.env) :: starEach [] X.env) (hplain : (backTo pos (starEach [] X.env)).any (·.1) = false) :
    PV X m (.Call (.Attribute a "index" apos) [b] [] pos) (tBM KK "list" (rIndex KK) ta tas) (xMeth fIndex f fs) := by
  subst hKK
  exact (show
    PV X m (.Call (.Attribute a "index" apos) [b] [] pos) (tBM X.K "list" (rIndex X.K) ta tas) (xMeth fIndex f fs) from  ⟨pe_bm PySem.F.plainAttrs_list PySem.F.slot_list_index PySem.F.type_list_index mt_index p.pe q.pe hbase hfew hline hs hplain, fun g env w σ H Q x w' hK I hf k => by
  obtain ⟨y, w1, h1, h2⟩ := bind_some.mp hf
  obtain ⟨ys, w2, h3, h4⟩ := bind_some.mp h2
  obtain ⟨e1, rfl⟩ := lift_get h4
  refine p.vw g env w σ H _ y _ hK I h1 fun v H1 k1 d1 r1 => ?_
  unfold fIndex at e1
  split at e1
  · rename_i xs y2
    split at e1
    · rename_i hc
      rw [Bool.and_eq_true] at hc
      obtain ⟨j, e2, e3⟩ := Option.map_eq_some_iff.mp e1
      subst e3
      have ty : tyV X.K "list" v H1 := by
        cases r1 with
        | lst n a s => exact .inl ⟨rfl, _, SqL.of a⟩
      refine ⟨ty, ?_⟩
      refine q.vw g env _ σ H1 _ _ _ hK (I.step k1 d1) h3 fun vs H2 k2 d2 r2 => ?_
      have r1 := r1.keep k2
      obtain ⟨u, rfl, r2'⟩ := reps1 r2
      cases r1 with
      | lst n a s =>
        obtain ⟨hj, e4, e5⟩ := List.findIdx?_eq_some_iff_getElem.mp e2
        obtain ⟨z, e6, r6⟩ := s.get (List.getElem?_eq_getElem hj)
        refine ⟨_, _, u, j, z, rfl, rfl, SqL.of a, flat_rep r2' hc.1, flats_rep s hc.2, e6, ?_, fun mm z' hm hz => ?_, k _ H2 (k1.trans k2) d2 (.int _)⟩
        · rw [eqv_rep r6 r2' (List.all_eq_true.mp hc.2 _ (List.getElem_mem hj)) hc.1]
          exact e4
        · obtain ⟨z2, e7, r7⟩ := s.get (List.getElem?_eq_getElem (Nat.lt_trans hm hj))
          rw [e7] at hz
          cases hz
          rw [eqv_rep r7 r2' (List.all_eq_true.mp hc.2 _ (List.getElem_mem _)) hc.1]
          exact Bool.eq_false_iff.mpr (e5 mm hm)
    · cases e1
  · cases e1⟩)

/-! ### calls of the program's own defs -/
/-- a def's promise: called with values xs it hands back what F says, and all that stood stands -/
def vsp (K : PySem.W.Frag) (F : List PyData → Option PyData) : Sp := fun vs H Q _ => ∃ (T : Addr → Prop) (xs : List PyData) (y : PyData), (∀ a, T a → H a ≠ none) ∧ Reps K T H vs xs ∧ F xs = some y ∧
  ∀ v H', Same H H' → Rep K T H' v y → Q v H'
structure Cal (P : Program) (w : World) (K : PySem.W.Frag) (mg : Str → Option Value) (base : Heap) (x : Str) (k : Nat) (F : List PyData → Option PyData) : Prop where
  ex : ∃ (f : Addr) (fd : FuncData) (ps : List Str), FnOk P w K mg base CX0 k f fd ps (vsp K F) ∧ mg x = some (.ref f) ∧ PySem.W.keepIn K (.ref f) = true ∧ Binds K fd ps []
theorem pv_call {x : Str} {p : Pos} {n : Nat} {F : List PyData → Option PyData} {KK : PySem.W.Frag} (hKK : X.K = KK) (c : Cal X.prog X.w X.K X.mg X.base x n F) (hr : Room n X.A) (ha : PAV X m (e :: es) tas fs) (hg : Gl X x) (hdb : (x == ("__debug__" : Str)) = false)
    (he : starEach (e :: es) X.env = (false, eval e X.env) :: starEach es X.env) (hpl : (backTo pos (starEach es X.env)).any (·.1) = false) : PV X m (.Call (.Name x p) (e :: es) [] pos) (tCall (vsp KK F) [] E0 tas) (xCall F fs) := by
  subst hKK
  exact (show PV X m (.Call (.Name x p) (e :: es) [] pos) (tCall (vsp X.K F) [] E0 tas) (xCall F fs) from  by
  obtain ⟨fa, fd, ps, G, mgf, kp, bi⟩ := c.ex
  refine ⟨pe_call G hr hg mgf kp bi .nil pass0 ha.pe hdb he hpl, fun g env w σ H Q x w' hK I hf k => ?_⟩
  obtain ⟨ys, w1, h1, h2⟩ := bind_some.mp hf
  obtain ⟨e1, rfl⟩ := lift_get h2
  refine ha.vw g env w σ H _ ys _ hK I h1 fun vs H1 k1 d1 r1 => ?_
  have I1 := I.step k1 d1
  rw [List.append_nil]
  exact ⟨av g m env σ, ys, x, fun a t => I1.avLive t, r1, e1, fun v H' s r2 => k v H' (k1.trans (Keep.of_same s)) (I1.same s) r2⟩)

end
end VE

namespace VE
open PySem PySem.Spec L2
open PyProof.Rows hiding St
/-! ### what is walked -/
section
variable {K : PySem.W.Frag} {T T' : Addr → Prop} {H H' : Hp}
theorem TupAt.tracked {a : Addr} {vs : List V} (q : TupAt K T H a vs) : TupAt K (fun b => T b ∨ H b = none) H a vs := by
  rcases q with ⟨n, q | ⟨o, q⟩⟩ | q
  · exact .inl ⟨fun z => z.elim n fun e => (by rw [q] at e; cases e), .inl q⟩
  · exact .inl ⟨fun z => z.elim n fun e => (by rw [q] at e; cases e), .inr ⟨o, q⟩⟩
  · exact .inr q
mutual
theorem Rep.tracked : ∀ (x : PyData) {v : V}, Rep K T H v x → Rep K (fun b => T b ∨ H b = none) H v x
  | .none, _, h => by cases h; exact .non
  | .bool b, _, h => by cases h; exact .bl b
  | .int i, _, h => by cases h; exact .int i
  | .str i, _, h => by cases h; exact .str i
  | .list xs, _, h => by
    cases h with
    | lst n e r => exact .lst (fun q => q.elim n fun z => by rw [e] at z; cases z) e (Reps.tracked xs r)
  | .tuple xs, _, h => by
    cases h with
    | tup e r => exact .tup e.tracked (Reps.tracked xs r)
  | .dict _, _, h => by cases h
theorem Reps.tracked : ∀ (xs : List PyData) {vs : List V}, Reps K T H vs xs → Reps K (fun b => T b ∨ H b = none) H vs xs
  | [], _, h => by cases h; exact .nil
  | x :: xs, _, h => by
    cases h with
    | cons h1 h2 => exact .cons (Rep.tracked x h1) (Reps.tracked xs h2)
end
end
/-- an iterator that gives out xs, whatever happens to what A holds; the items lean on nothing of B -/
def Wk (K : PySem.W.Frag) (A B : Addr → Prop) (J : It) (xs : List PyData) (H1 : Hp) : Prop :=
  ∀ H2, Keep A H1 H2 → (∀ (i : Nat) x, xs[i]? = some x → J.go i H2 ∧ ∀ v H3, J.yld i H2 v H3 → Same H2 H3 ∧ Rep K (fun a => B a ∨ (H1 a = none ∧ H2 a ≠ none)) H3 v x) ∧ J.stop xs.length H2
def VwI (K : PySem.W.Frag) (m : Bool) (wi : TI) (f : IF) : Prop :=
  ∀ (g : Gh) (env : En) (w : W) (σ : SS) (H : Hp) (R : It → Hp → Prop) (xs : List PyData) (w' : W), g.K = K → StOk g env w σ H → f env w = some (xs, w') →
    (∀ J H', Keep g.Z H H' → g.dr w' H' → Wk K (av g m env σ) (av g true env σ) J xs H' → R J H') → wi σ H R
structure PIV (X : Cx) (m : Bool) (tg iter : Expr) (wi : TI) (f : IF) : Prop where
  pe : PI X tg iter wi
  vw : VwI X.K m wi f
section
variable {X : Cx} {m : Bool} {e a b c tg : Expr} {es : List Expr} {ta : TE} {tas : TA} {f : EF} {fs : AF} {p pos : Pos} {K : PySem.W.Frag}
theorem reps_stay {A B : Addr → Prop} {H1 H2 : Hp} {vs : List V} {xs : List PyData} (ab : ∀ a, A a → B a) (k : Keep A H1 H2) (r : Reps K B H1 vs xs) : Reps K (fun a => B a ∨ (H1 a = none ∧ H2 a ≠ none)) H2 vs xs :=
  (Reps.tracked xs r).mon (fun a o na ea => k.at_ a o (fun z => na (.inl (ab a z))) ea) fun a z => z.elim .inl fun q => .inr q.1
theorem wk_list {A B : Addr → Prop} {H1 : Hp} {p : Addr} {vs : List V} {xs : List PyData} (ab : ∀ a, A a → B a) (n : ¬ A p) (e : H1 p = some (.lst vs)) (r : Reps K B H1 vs xs) : Wk K A B (Itl K p) xs H1 := fun H2 k => by
  have e2 : H2 p = some (.lst vs) := k.at_ p _ n e
  have r2 := reps_stay ab k r
  refine ⟨fun i x hx => ?_, vs, SqL.of e2, by rw [r.length]; exact Nat.le_refl _⟩
  obtain ⟨v, hv, rv⟩ := r2.get hx
  refine ⟨⟨vs, v, SqL.of e2, hv⟩, fun u H3 y => ?_⟩
  obtain ⟨rfl, y⟩ := y
  have : u = v := Option.some.inj ((y vs (SqL.of e2)).symm.trans hv)
  subst this
  exact ⟨Same.refl _, rv⟩
theorem wk_tup {A B : Addr → Prop} {H1 : Hp} {p : Addr} {vs : List V} {xs : List PyData} (ab : ∀ a, A a → B a) (e : TupAt K A H1 p vs) (r : Reps K B H1 vs xs) : Wk K A B (Itt K p) xs H1 := fun H2 k => by
  have e2 : SqT K H2 p vs := (e.mono (fun a o n e => k.at_ a o n e) fun _ z => z).sq
  have r2 := reps_stay ab k r
  refine ⟨fun i x hx => ?_, vs, e2, by rw [r.length]; exact Nat.le_refl _⟩
  obtain ⟨v, hv, rv⟩ := r2.get hx
  refine ⟨⟨vs, v, e2, hv⟩, fun u H3 y => ?_⟩
  obtain ⟨rfl, y⟩ := y
  have : u = v := Option.some.inj ((y vs e2).symm.trans hv)
  subst this
  exact ⟨Same.refl _, rv⟩
theorem piv_list {KK : PySem.W.Frag} (hKK : X.K = KK) (q : PV X true e ta f) : PIV X m tg e (iList KK ta) (iLst f) := by
  subst hKK
  exact (show PIV X m tg e (iList X.K ta) (iLst f) from  ⟨pi_list q.pe, fun g env w σ H R xs w' hK I hf k => by
  obtain ⟨y, w1, h1, h2⟩ := bind_some.mp hf
  obtain ⟨e1, rfl⟩ := lift_get h2
  refine q.vw g env w σ H _ y _ hK I h1 fun v H1 k1 d1 r1 => ?_
  cases r1 with
  | lst n e r => cases e1; exact ⟨_, rfl, ⟨_, SqL.of e⟩, k _ H1 k1 d1 (wk_list (fun _ => av_le) (fun z => n (av_le z)) e r)⟩
  | _ => cases e1⟩)

theorem piv_tup {KK : PySem.W.Frag} (hKK : X.K = KK) (q : PV X true e ta f) : PIV X m tg e (iTup KK ta) (iTupl f) := by
  subst hKK
  exact (show PIV X m tg e (iTup X.K ta) (iTupl f) from  ⟨pi_tup q.pe, fun g env w σ H R xs w' hK I hf k => by
  obtain ⟨y, w1, h1, h2⟩ := bind_some.mp hf
  obtain ⟨e1, rfl⟩ := lift_get h2
  refine q.vw g env w σ H _ y _ hK I h1 fun v H1 k1 d1 r1 => ?_
  cases r1 with
  | tup e r => cases e1; exact ⟨_, rfl, ⟨_, e.sq⟩, k _ H1 k1 d1 (wk_tup (fun _ => av_le) (e.mono (fun _ _ _ e => e) fun _ => av_le) r)⟩
  | _ => cases e1⟩)

/-- over a list that the def may change, while it does not -/
theorem piv_own {i : Nat} {x : Str} {KK : PySem.W.Frag} (hKK : X.K = KK) (hN : X.N[i]? = some x) (hv : visB X.env.scope x = true) (hd : dunB x = true) : PIV X false tg (.Name x pos) (iList KK (tVar i)) (iOwn i) := by
  subst hKK
  exact (show PIV X false tg (.Name x pos) (iList X.K (tVar i)) (iOwn i) from  ⟨pi_list (pe_var hN (vis_of hv) (dun1 hd) (dun2 hd)), fun g env w σ H R xs w' hK I hf k => by
  unfold iOwn at hf
  cases e : env[i]? with
  | none => rw [e] at hf; cases hf
  | some s =>
    rw [e] at hf
    cases s with
    | ow ys =>
      obtain ⟨rfl, rfl⟩ := pure_get hf
      obtain ⟨a, vs, hv, ha, r, _, nt⟩ := I.ow i _ e
      have r : Reps X.K (av g true env σ) H vs ys := by rw [← hK]; exact r
      exact ⟨_, hv, _, rfl, ⟨_, SqL.of ha⟩, k _ H (Keep.refl _ _) I.dr (wk_list (fun _ => av_le) (fun z => nt (av_false z)) ha r)⟩
    | _ => cases hf⟩)

theorem wk_range {A B : Addr → Prop} {H1 : Hp} (lo hi : Int) : Wk K A B (Itr lo (hi - lo).toNat) (rangeL lo hi) H1 := fun H2 k => by
  have hl : (rangeL lo hi).length = (hi - lo).toNat := by simp [rangeL]
  refine ⟨fun i x hx => ?_, by show (hi - lo).toNat ≤ _; rw [hl]; exact Nat.le_refl _⟩
  have hi' : i < (hi - lo).toNat := by
    have := (List.getElem?_eq_some_iff.mp hx).1
    rw [hl] at this
    exact this
  refine ⟨hi', fun v H3 y => ?_⟩
  obtain ⟨rfl, rfl⟩ := y
  have ex : x = .int (lo + (i : Int)) := by
    unfold rangeL at hx
    rw [List.getElem?_map, List.getElem?_range hi'] at hx
    exact (Option.some.inj hx).symm
  subst ex
  exact ⟨Same.refl _, .int _⟩
theorem small62_of {i : Int} (h : small62 i = true) : -(2 ^ 62) ≤ i ∧ i < 2 ^ 62 := by
  simpa only [small62, Bool.and_eq_true, decide_eq_true_eq] using h
theorem piv_range1 (hm : X.mg "range" = none) (q : PAV X false [a] tas fs) (hg : Gl X "range") (hs : starEach [a] X.env = [(false, eval a X.env)]) : PIV X m tg (.Call (.Name "range" p) [a] [] pos) (iRng1 tas) (iR1 fs) := ⟨pi_range1 hg hm q.pe hs, fun g env w σ H R xs w' hK I hf k => by
  obtain ⟨ys, w1, h1, h2⟩ := bind_some.mp hf
  refine q.vw g env w σ H _ ys _ hK I h1 fun vs H1 k1 d1 r1 => ?_
  split at h2
  · rename_i j
    split at h2
    · rename_i hc
      obtain ⟨rfl, rfl⟩ := pure_get h2
      obtain ⟨v, rfl, r⟩ := reps1 r1
      cases r
      have hb := small62_of hc
      refine ⟨j, rfl, hb.1, hb.2, k _ H1 k1 d1 ?_⟩
      have hw := wk_range (K := X.K) (A := av g m env σ) (B := av g true env σ) (H1 := H1) 0 j
      rw [Int.sub_zero] at hw
      exact hw
    · cases h2
  · cases h2⟩
theorem piv_range2 (hm : X.mg "range" = none) (q : PAV X false [a, b] tas fs) (hg : Gl X "range") (hs : starEach [a, b] X.env = [(false, eval a X.env), (false, eval b X.env)]) (hs2 : starEach [b] X.env = [(false, eval b X.env)]) : PIV X m tg (.Call (.Name "range" p) [a, b] [] pos) (iRng2 tas) (iR2 fs) := ⟨pi_range2 hg hm q.pe hs hs2, fun g env w σ H R xs w' hK I hf k => by
  obtain ⟨ys, w1, h1, h2⟩ := bind_some.mp hf
  refine q.vw g env w σ H _ ys _ hK I h1 fun vs H1 k1 d1 r1 => ?_
  split at h2
  · rename_i i j
    split at h2
    · rename_i hc
      obtain ⟨rfl, rfl⟩ := pure_get h2
      obtain ⟨v, u, rfl, r, r'⟩ := reps2 r1
      cases r; cases r'
      rw [Bool.and_eq_true] at hc
      have hb := small62_of hc.1
      have hb2 := small62_of hc.2
      exact ⟨i, j, rfl, ⟨hb.1, hb.2, hb2.1, hb2.2⟩, k _ H1 k1 d1 (wk_range i j)⟩
    · cases h2
  · cases h2⟩
end

/-! ### targets -/
section
variable {g : Gh} {env : En} {w : W} {σ : SS} {H : Hp}
theorem set_get {α : Type} {l : List α} {i j : Nat} {s y : α} (h : (l.set i s)[j]? = some y) : (j = i ∧ y = s) ∨ (j ≠ i ∧ l[j]? = some y) := by
  by_cases e : j = i
  · subst e
    left
    by_cases hl : j < l.length
    · rw [List.getElem?_set_self hl] at h
      exact ⟨rfl, (Option.some.inj h).symm⟩
    · rw [List.getElem?_eq_none (by simpa using hl)] at h; cases h
  · right
    rw [List.getElem?_set_ne (Ne.symm e)] at h
    exact ⟨e, h⟩
theorem own_set_sh {i : Nat} {x : PyData} {v : V} {a : Addr} (h : ownA (env.set i (.sh x)) (σ.set i (some v)) a) : ownA env σ a := by
  obtain ⟨j, xs, h1, h2⟩ := h
  rcases set_get h1 with ⟨_, e⟩ | ⟨hj, h1⟩
  · cases e
  · rw [List.getElem?_set_ne (Ne.symm hj)] at h2
    exact ⟨j, xs, h1, h2⟩
theorem own_set_sh' {i : Nat} {x : PyData} {v : V} {a : Addr} (h : ownA env σ a) : ownA (env.set i (.sh x)) (σ.set i (some v)) a ∨ ∃ xs, env[i]? = some (.ow xs) := by
  obtain ⟨j, xs, h1, h2⟩ := h
  by_cases e : j = i
  · subst e; exact .inr ⟨xs, h1⟩
  · exact .inl ⟨j, xs, by rw [List.getElem?_set_ne (Ne.symm e)]; exact h1, by rw [List.getElem?_set_ne (Ne.symm e)]; exact h2⟩
theorem StOk.setSh (I : StOk g env w σ H) (i : Nat) {x : PyData} {v : V} (r : Rep g.K (av g true env σ) H v x) : StOk g (env.set i (.sh x)) w (σ.set i (some v)) H := by
  have av' : ∀ a, av g true (env.set i (.sh x)) (σ.set i (some v)) a → av g true env σ a := fun a h => h.elim .inl fun q => .inr ⟨rfl, own_set_sh q.2⟩
  refine ⟨by rw [List.length_set, List.length_set, I.len], fun j y h => ?_, fun j ys h => ?_, fun j kk h => ?_, fun j ns h => ?_, fun j j2 ys zs a h1 h2 h3 h4 => ?_, I.live, I.keep, I.dr⟩
  · rcases set_get h with ⟨rfl, e⟩ | ⟨hj, h⟩
    · cases e
      have hl : j < σ.length := by
        rw [I.len]
        have := (List.getElem?_eq_some_iff.mp h).1
        simpa using this
      exact ⟨v, by rw [List.getElem?_set_self hl], r.mon (fun _ _ _ e => e) av'⟩
    · obtain ⟨u, e, q⟩ := I.sh j y h
      exact ⟨u, by rw [List.getElem?_set_ne (Ne.symm hj)]; exact e, q.mon (fun _ _ _ e => e) av'⟩
  · rcases set_get h with ⟨rfl, e⟩ | ⟨hj, h⟩
    · cases e
    · obtain ⟨a, vs, e, q, s, n, t⟩ := I.ow j ys h
      exact ⟨a, vs, by rw [List.getElem?_set_ne (Ne.symm hj)]; exact e, q, s.mon (fun _ _ _ e => e) av', n, t⟩
  · rcases set_get h with ⟨rfl, e⟩ | ⟨hj, h⟩
    · cases e
    · rw [List.getElem?_set_ne (Ne.symm hj)]; exact I.st j kk h
  · rcases set_get h with ⟨rfl, e⟩ | ⟨hj, h⟩
    · cases e
    · obtain ⟨a, e, s⟩ := I.fz j ns h
      exact ⟨a, by rw [List.getElem?_set_ne (Ne.symm hj)]; exact e, s.mono (fun _ _ _ e => e) av'⟩
  · rcases set_get h1 with ⟨_, e⟩ | ⟨hj, h1⟩
    · cases e
    · rcases set_get h2 with ⟨_, e⟩ | ⟨hj2, h2⟩
      · cases e
      · rw [List.getElem?_set_ne (Ne.symm hj)] at h3
        rw [List.getElem?_set_ne (Ne.symm hj2)] at h4
        exact I.dist j j2 ys zs a h1 h2 h3 h4
/-- a slot that no longer counts -/
theorem StOk.setNo (I : StOk g env w σ H) (i : Nat) (o : Option V) (ho : ∀ xs, env[i]? ≠ some (.ow xs)) : StOk g (env.set i .no) w (σ.set i o) H := by
  have own' : ∀ a, ownA (env.set i .no) (σ.set i o) a → ownA env σ a := fun a ⟨j, xs, h1, h2⟩ => by
    rcases set_get h1 with ⟨_, e⟩ | ⟨hj, h1⟩
    · cases e
    · rw [List.getElem?_set_ne (Ne.symm hj)] at h2
      exact ⟨j, xs, h1, h2⟩
  have av' : ∀ a, av g true (env.set i .no) (σ.set i o) a → av g true env σ a := fun a h => h.elim .inl fun q => .inr ⟨rfl, own' a q.2⟩
  refine ⟨by rw [List.length_set, List.length_set, I.len], fun j y h => ?_, fun j ys h => ?_, fun j kk h => ?_, fun j ns h => ?_, fun j j2 ys zs a h1 h2 h3 h4 => ?_, I.live, I.keep, I.dr⟩
  · rcases set_get h with ⟨rfl, e⟩ | ⟨hj, h⟩
    · cases e
    · obtain ⟨u, e, q⟩ := I.sh j y h
      exact ⟨u, by rw [List.getElem?_set_ne (Ne.symm hj)]; exact e, q.mon (fun _ _ _ e => e) av'⟩
  · rcases set_get h with ⟨rfl, e⟩ | ⟨hj, h⟩
    · cases e
    · obtain ⟨a, vs, e, q, s, n, t⟩ := I.ow j ys h
      exact ⟨a, vs, by rw [List.getElem?_set_ne (Ne.symm hj)]; exact e, q, s.mon (fun _ _ _ e => e) av', n, t⟩
  · rcases set_get h with ⟨rfl, e⟩ | ⟨hj, h⟩
    · cases e
    · rw [List.getElem?_set_ne (Ne.symm hj)]; exact I.st j kk h
  · rcases set_get h with ⟨rfl, e⟩ | ⟨hj, h⟩
    · cases e
    · obtain ⟨a, e, s⟩ := I.fz j ns h
      exact ⟨a, by rw [List.getElem?_set_ne (Ne.symm hj)]; exact e, s.mono (fun _ _ _ e => e) av'⟩
  · rcases set_get h1 with ⟨_, e⟩ | ⟨hj, h1⟩
    · cases e
    · rcases set_get h2 with ⟨_, e⟩ | ⟨hj2, h2⟩
      · cases e
      · rw [List.getElem?_set_ne (Ne.symm hj)] at h3
        rw [List.getElem?_set_ne (Ne.symm hj2)] at h4
        exact I.dist j j2 ys zs a h1 h2 h3 h4
end
def VwG (K : PySem.W.Frag) (vs : List Nat) (t : TG) (f : GF) : Prop :=
  ∀ (g : Gh) (env : En) (w : W) (σ : SS) (H : Hp) (v : V) (x : PyData) (env' : En) (Q : SS → Hp → Prop), g.K = K → StOk g env w σ H → Rep K (av g true env σ) H v x → f x env = some env' →
    (∀ σ', StOk g env' w σ' H → (∀ a, ownA env' σ' a → ownA env σ a) → (∀ j, j ∉ vs → env'[j]? = env[j]? ∧ σ'[j]? = σ[j]?) → env'.length = env.length → Q σ' H) → t v σ H Q
def VwGs (K : PySem.W.Frag) (vs : List Nat) (t : TGs) (f : GsF) : Prop :=
  ∀ (g : Gh) (env : En) (w : W) (σ : SS) (H : Hp) (us : List V) (xs : List PyData) (env' : En) (Q : SS → Hp → Prop), g.K = K → StOk g env w σ H → Reps K (av g true env σ) H us xs → f xs env = some env' →
    (∀ σ', StOk g env' w σ' H → (∀ a, ownA env' σ' a → ownA env σ a) → (∀ j, j ∉ vs → env'[j]? = env[j]? ∧ σ'[j]? = σ[j]?) → env'.length = env.length → Q σ' H) → t us σ H Q
structure PGV (X : Cx) (tg : Expr) (vs : List Nat) (t : TG) (f : GF) : Prop where
  pe : PG X tg t
  vw : VwG X.K vs t f
structure PGsV (X : Cx) (tg : List Expr) (vs : List Nat) (t : TGs) (f : GsF) : Prop where
  pe : PGs X tg t
  vw : VwGs X.K vs t f
section
variable {X : Cx} {pos : Pos}
theorem vw_name {K : PySem.W.Frag} (i : Nat) : VwG K [i] (gName i) (gNm i) := fun g env w σ H v x env' Q hK I r hf k => by
  have r : Rep g.K (av g true env σ) H v x := by rw [hK]; exact r
  cases hf
  refine k _ (I.setSh i r) (fun a h => own_set_sh h) (fun j hj => ?_) (by rw [List.length_set])
  have hj' : i ≠ j := fun e => hj (by simp [e])
  exact ⟨List.getElem?_set_ne hj', List.getElem?_set_ne hj'⟩
theorem pgv_name {i : Nat} {x : Str} (hN : X.N.Nodup) (hi : X.N[i]? = some x) (hx : locB X.env.scope x = true) (hf : fnB X x = true) : PGV X (.Name x pos) [i] (gName i) (gNm i) :=
  ⟨pg_name hN hi (loc_of hx) (fn_of' hf), vw_name i⟩
theorem pgsv_nil : PGsV X [] [] gNil gsNil := ⟨pgs_nil, fun g env w σ H us xs env' Q hK I r hf k => by
  cases r with
  | nil => cases hf; exact ⟨rfl, k σ I (fun _ h => h) (fun _ _ => ⟨rfl, rfl⟩) rfl⟩
  | cons => cases hf⟩
theorem pgsv_cons {e : Expr} {es : List Expr} {t : TG} {u : TGs} {v1 v2 : List Nat} {f : GF} {fs : GsF} (p : PGV X e v1 t f) (q : PGsV X es v2 u fs)
    (hs : (assignEach (e :: es) X.env).map (·.2) = assign e X.env :: (assignEach es X.env).map (·.2)) : PGsV X (e :: es) (v1 ++ v2) (gCons t u) (gsCons f fs) := ⟨pgs_cons p.pe q.pe hs, fun g env w σ H us xs env' Q hK I r hf k => by
  cases r with
  | nil => cases hf
  | cons r1 r2 =>
    rename_i v vs x xs
    obtain ⟨env1, h1, h2⟩ := Option.bind_eq_some_iff.mp hf
    refine ⟨v, vs, rfl, p.vw g env w σ H v x env1 _ hK I r1 h1 fun σ1 I1 o1 s1 l1 => ?_⟩
    refine q.vw g env1 w σ1 H vs xs env' Q hK I1 (r2.mon (fun _ _ _ e => e) fun a h => h.elim .inl fun z => .inr ⟨rfl, o1 a z.2⟩) h2 fun σ2 I2 o2 s2 l2 => ?_
    refine k σ2 I2 (fun a h => o1 a (o2 a h)) (fun j hj => ?_) (l2.trans l1)
    rw [List.mem_append, not_or] at hj
    exact ⟨(s2 j hj.2).1.trans (s1 j hj.1).1, (s2 j hj.2).2.trans (s1 j hj.1).2⟩⟩
theorem pgv_tup {es : List Expr} {k : Nat} {vs : List Nat} {t : TGs} {n : Nat} {fs : GsF} {KK : PySem.W.Frag} (hKK : X.K = KK) (hc : X.calm = true) (p : PGsV X es vs t fs)
    (hn : (assignEach es X.env).length = n) (hst : (assignEach es X.env).findIdx? (·.1) = none) : PGV X (.Tuple es k pos) vs (gTup KK n t) (gTp n fs) := by
  subst hKK
  exact (show PGV X (.Tuple es k pos) vs (gTup X.K n t) (gTp n fs) from  ⟨pg_tup hc p.pe hn hst, fun g env w σ H v x env' Q hK I r hf k => by
  cases r with
  | tup a s =>
    rename_i us xs
    have hf : (if xs.length = n then fs xs env else none) = some env' := hf
    split at hf
    · rename_i hl
      exact ⟨_, _, rfl, a.sq, by rw [s.length]; exact hl, p.vw g env w σ H us xs env' Q hK I s hf k⟩
    · cases hf
  | _ => cases hf⟩)

end

/-! ### list comprehensions -/
theorem wipe_get (σ : SS) : ∀ (vs : List Nat) (j : Nat), j ∉ vs → (wipe σ vs)[j]? = σ[j]?
  | [], _, _ => rfl
  | v :: vs, j, h => by
    rw [List.mem_cons, not_or] at h
    show ((wipe σ vs).set v none)[j]? = _
    rw [List.getElem?_set_ne (Ne.symm h.1)]
    exact wipe_get σ vs j h.2
theorem wipe_in (σ : SS) : ∀ (vs : List Nat) (j : Nat), j ∈ vs → j < σ.length → (wipe σ vs)[j]? = some none
  | v :: vs, j, h, hl => by
    show ((wipe σ vs).set v none)[j]? = _
    by_cases e : v = j
    · subst e
      rw [List.getElem?_set_self (by rw [wipe_length]; exact hl)]
    · rw [List.getElem?_set_ne e]
      rcases List.mem_cons.mp h with h | h
      · exact absurd h.symm e
      · exact wipe_in σ vs j h hl
theorem wipe_same {σ σ' : SS} {vs : List Nat} (hl : σ'.length = σ.length) (h : ∀ j, j ∉ vs → σ'[j]? = (wipe σ vs)[j]?) : wipe σ' vs = wipe σ vs := by
  apply List.ext_getElem?
  intro j
  by_cases hj : j ∈ vs
  · by_cases hb : j < σ.length
    · rw [wipe_in σ' vs j hj (by omega), wipe_in σ vs j hj hb]
    · rw [List.getElem?_eq_none (by rw [wipe_length]; omega), List.getElem?_eq_none (by rw [wipe_length]; omega)]
  · rw [wipe_get σ' vs j hj]; exact h j hj
theorem wipeE_ok {g : Gh} {env : En} {w : W} {σ : SS} {H : Hp} (I : StOk g env w σ H) : ∀ (vs : List Nat) {env' : En}, wipeE env vs = some env' → StOk g env' w (wipe σ vs) H ∧ (∀ j, j ∉ vs → env'[j]? = env[j]?) ∧ (∀ j, j ∈ vs → ∀ xs, env[j]? ≠ some (.ow xs))
  | [], env', h => by cases h; exact ⟨I, fun _ _ => rfl, fun _ h => by simp at h⟩
  | v :: vs, env', h => by
    obtain ⟨e1, h1, h2⟩ := Option.bind_eq_some_iff.mp h
    obtain ⟨I1, s1, n1⟩ := wipeE_ok I vs h1
    have fin : ∀ s, e1[v]? = some s → (∀ xs, s ≠ .ow xs) → some (e1.set v .no) = some env' → StOk g env' w (wipe σ (v :: vs)) H ∧ (∀ j, j ∉ v :: vs → env'[j]? = env[j]?) ∧ (∀ j, j ∈ v :: vs → ∀ xs, env[j]? ≠ some (.ow xs)) := fun s hs hn he => by
      cases he
      refine ⟨I1.setNo v none (fun xs z => ?_), fun j hj => ?_, fun j hj xs z => ?_⟩
      · rw [hs] at z; exact hn xs (Option.some.inj z)
      · rw [List.mem_cons, not_or] at hj
        rw [List.getElem?_set_ne (Ne.symm hj.1)]
        exact s1 j hj.2
      · by_cases hv : j ∈ vs
        · exact n1 j hv xs z
        · have : j = v := (List.mem_cons.mp hj).resolve_right hv
          subst this
          rw [← s1 j hv, hs] at z
          exact hn xs (Option.some.inj z)
    cases q : e1[v]? with
    | none => rw [q] at h2; cases h2
    | some s =>
      rw [q] at h2
      cases s with
      | ow xs => cases h2
      | no => exact fin _ q (fun _ z => nomatch z) h2
      | sh x => exact fin _ q (fun _ z => nomatch z) h2
      | st k => exact fin _ q (fun _ z => nomatch z) h2
      | fz ns => exact fin _ q (fun _ z => nomatch z) h2
/-- one more address is not to be read -/
def Gh.but (g : Gh) (d : Addr) : Gh := { g with T := fun a => g.T a ∨ a = d, zt := fun a h => .inl (g.zt a h) }
theorem StOk.but {g : Gh} {env : En} {w : W} {σ : SS} {H : Hp} {D : Addr} {vs : List V} (I : StOk g env w σ H) (hD : H D = none) : StOk (g.but D) env w σ (upd H D (.lst vs)) := by
  obtain ⟨k, d⟩ := I.new (o := .lst vs) hD
  have J := I.step k d
  have av' : ∀ a, av (g.but D) true env σ a → av g true env σ a ∨ a = D := fun a h => by
    rcases h with (h | h) | ⟨_, h⟩
    · exact .inl (.inl h)
    · exact .inr h
    · exact .inl (.inr ⟨rfl, h⟩)
  have ownD : ∀ a, ownA env σ a → a ≠ D := fun a h z => by subst z; exact I.owLive h hD
  refine ⟨J.len, fun i x h => ?_, fun i xs h => ?_, J.st, fun i ns h => ?_, J.dist, fun a h => ?_, J.keep, J.dr⟩
  · obtain ⟨v, e, r⟩ := I.sh i x h
    exact ⟨v, e, (Rep.fresh hD x r).mon (fun a o n e => upd_new hD a o e) fun a z => av' a z⟩
  · obtain ⟨a, us, e, q, r, n, t⟩ := I.ow i xs h
    refine ⟨a, us, e, upd_new hD a _ q, (Reps.fresh hD xs r).mon (fun a o n e => upd_new hD a o e) (fun a z => av' a z), n, fun z => ?_⟩
    rcases z with z | z
    · exact t z
    · subst z; rw [hD] at q; cases q
  · obtain ⟨a, e, s⟩ := I.fz i ns h
    exact ⟨a, e, (s.fresh hD).mono (fun a o n e => upd_new hD a o e) fun a z => av' a z⟩
  · rcases h with h | h
    · exact J.live a h
    · subst h; rw [upd_same]; simp

theorem StOk.updBut {g : Gh} {env : En} {w : W} {σ : SS} {H : Hp} {D : Addr} {o : HO} (I : StOk (g.but D) env w σ H) (hz : ¬ g.Z D) (h0 : g.H0 D = none) : StOk (g.but D) env w σ (upd H D o) := by
  have k : ∀ a x, ¬ av (g.but D) true env σ a → H a = some x → upd H D o a = some x := fun a x n e => by
    rw [upd_ne (show a ≠ D from fun z => n (.inl (.inr z)))]; exact e
  refine ⟨I.len, fun i x h => ?_, fun i xs h => ?_, I.st, fun i ns h => ?_, I.dist, fun a h => ?_, ⟨fun a x n e => ?_, fun a e => ?_⟩, ?_⟩
  · obtain ⟨v, e, r⟩ := I.sh i x h
    exact ⟨v, e, r.mon k fun _ z => z⟩
  · obtain ⟨a, us, e, q, r, n, t⟩ := I.ow i xs h
    refine ⟨a, us, e, ?_, r.mon k (fun _ z => z), n, t⟩
    rw [upd_ne (show a ≠ D from fun z => t (.inr z))]; exact q
  · obtain ⟨a, e, s⟩ := I.fz i ns h
    exact ⟨a, e, s.mono k fun _ z => z⟩
  · by_cases z : a = D
    · subst z; rw [upd_same]; simp
    · rw [upd_ne z]; exact I.live a h
  · have e' := I.keep.at_ a x n e
    by_cases z : a = D
    · subst z
      have : g.H0 a = some x := e
      rw [h0] at this; cases this
    · rw [upd_ne z]; exact e'
  · by_cases z : a = D
    · subst z; rw [upd_same]; simp
    · rw [upd_ne z]; exact I.keep.live a e
  · refine (g.but D).drk w H _ I.dr fun a z => ?_
    rw [upd_ne]
    intro e
    subst e
    exact hz z
theorem compL_len {g : GF} {t : TF} {f : EF} {env : En} : ∀ (xs : List PyData) {w w' : W} {ys : List PyData}, compL g t f env xs w = some (ys, w') → ys.length ≤ xs.length
  | [], w, w', ys, h => by
    obtain ⟨rfl, rfl⟩ := pure_get h
    exact Nat.le_refl _
  | x :: r, w, w', ys, h => by
    obtain ⟨e1, w1, h1, h2⟩ := bind_some.mp h
    obtain ⟨b, w2, h3, h4⟩ := bind_some.mp h2
    cases b with
    | true =>
      obtain ⟨y, w3, h5, h6⟩ := bind_some.mp h4
      obtain ⟨zs, w4, h7, h8⟩ := bind_some.mp h6
      obtain ⟨rfl, rfl⟩ := pure_get h8
      have := compL_len r h7
      simp only [List.length_cons]; omega
    | false =>
      have := compL_len r h4
      simp only [List.length_cons]; omega
/-- a comprehension -/
theorem vw_comp {K : PySem.W.Frag} {m mi : Bool} {wi : TI} {fi : IF} {gt : TG} {ft : GF} {tt : TT} {fT : TF} {te : TE} {f : EF} {vs : List Nat} (pi : VwI K mi wi fi) (pg : VwG K vs gt ft) (pt : VwT K tt fT) (pe : VwE K m te f) :
    VwL K m (tLc wi gt tt te vs) (xComp vs fi ft fT f) := fun g env w σ H Q total wF hK I hf k => by
  obtain ⟨xs, w1, h1, h2⟩ := bind_some.mp hf
  obtain ⟨envB, w2, h3, h4⟩ := bind_some.mp h2
  obtain ⟨e3, rfl⟩ := lift_get h3
  by_cases hline : xs.length ≤ line
  rotate_left
  · rw [if_neg hline] at h4; cases h4
  rw [if_pos hline] at h4
  refine pi g env w σ H _ xs _ hK I h1 fun J H1 k1 d1 wk => ?_
  have I1 := I.step k1 d1
  intro D hD
  have hZ : ¬ g.Z D := fun z => I1.live D (g.zt D z) hD
  have hD0 : g.H0 D = none := by
    cases q : g.H0 D with
    | none => rfl
    | some o => exact absurd hD (I1.keep.live D (by rw [q]; simp))
  have hDs : H D = none := by
    cases q : H D with
    | none => rfl
    | some o => exact absurd hD (k1.live D (by rw [q]; simp))
  obtain ⟨IB, sB, nB⟩ := wipeE_ok (I1.but (vs := []) hD) vs e3
  have hmono : Keep g.Z H1 (upd H1 D (.lst [])) := Keep.of_same (upd_new hD)
  have ownB : ∀ a, ownA env σ a → ownA envB (wipe σ vs) a := fun a ⟨j, zs, q1, q2⟩ => by
    have hj : j ∉ vs := fun z => nB j z zs q1
    exact ⟨j, zs, by rw [sB j hj]; exact q1, by rw [wipe_get σ vs j hj]; exact q2⟩
  have ownB' : ∀ a, ownA envB (wipe σ vs) a → ownA env σ a := fun a ⟨j, zs, q1, q2⟩ => by
    have hj : j ∉ vs := fun hj => by
      by_cases hb : j < σ.length
      · rw [wipe_in σ vs j hj hb] at q2; cases q2
      · rw [List.getElem?_eq_none (by rw [wipe_length]; omega)] at q2; cases q2
    rw [sB j hj] at q1
    rw [wipe_get σ vs j hj] at q2
    exact ⟨j, zs, q1, q2⟩
  -- the invariant
  refine ⟨fun i n H' => n = xs.length - i ∧ i ≤ xs.length ∧ ∃ (wi : W) (acc : List PyData) (us : List V) (ys : List PyData), StOk (g.but D) envB wi (wipe σ vs) H' ∧ Keep (fun a => g.Z a ∨ a = D) H1 H' ∧ H' D = some (.lst us) ∧
    Reps K (av (g.but D) m envB (wipe σ vs)) H' us acc ∧ compL ft fT f envB (xs.drop i) wi = some (ys, wF) ∧ acc ++ ys = total ∧ acc.length ≤ i, ⟨xs.length, by simp, Nat.zero_le _, _, [], [], total, IB, ?_, upd_same, .nil, by rw [List.drop_zero]; exact h4, rfl, Nat.le_refl _⟩, ?_⟩
  · exact ⟨fun a o n e => hmono.at_ a o (fun z => n (.inl z)) e, hmono.live⟩
  rintro i n H2 ⟨rfl, hi, wi, acc, us, ys, I2, k2, eD, ra, hc, etot, hacc⟩
  -- what is walked stands
  have stay : ∀ a o, ¬ av g mi env σ a → H1 a = some o → H2 a = some o := fun a o n e => k2.at_ a o (fun z => z.elim (fun z => n (av_z z)) fun z => by subst z; rw [hD] at e; cases e) e
  obtain ⟨walk, stop⟩ := wk H2 ⟨stay, k2.live⟩
  by_cases hlt : i < xs.length
  · right
    obtain ⟨go, yl⟩ := walk i xs[i] (List.getElem?_eq_getElem hlt)
    have hdrop : xs.drop i = xs[i] :: xs.drop (i + 1) := List.drop_eq_getElem_cons hlt
    rw [hdrop] at hc
    obtain ⟨env1, w3, h5, h6⟩ := bind_some.mp hc
    obtain ⟨e5, rfl⟩ := lift_get h5
    obtain ⟨b, w4, h7, h8⟩ := bind_some.mp h6
    refine ⟨go, fun H' => ∃ m', m' < xs.length - i ∧ (m' = xs.length - (i + 1) ∧ i + 1 ≤ xs.length ∧ ∃ (wi : W) (acc : List PyData) (us : List V) (ys : List PyData), StOk (g.but D) envB wi (wipe σ vs) H' ∧ Keep (fun a => g.Z a ∨ a = D) H1 H' ∧ H' D = some (.lst us) ∧
      Reps K (av (g.but D) m envB (wipe σ vs)) H' us acc ∧ compL ft fT f envB (xs.drop (i + 1)) wi = some (ys, wF) ∧ acc ++ ys = total ∧ acc.length ≤ i + 1), fun _ h => h, fun v H3 y => ?_⟩
    obtain ⟨sm, rv⟩ := yl v H3 y
    have k3 : Keep g.Z H2 H3 := Keep.of_same sm
    have I3 := I2.step (Keep.of_same sm) (I2.same sm)
    have rv' : Rep K (av (g.but D) true envB (wipe σ vs)) H3 v xs[i] := rv.mon (fun _ _ _ e => e) fun a h => by
      rcases h with (h | h) | ⟨_, h⟩
      · exact .inl (.inl h)
      · subst h; exact .inr ⟨hD, by rw [eD]; simp⟩
      · exact .inl (.inr ⟨rfl, ownB' a h⟩)
    refine pg (g.but D) envB _ (wipe σ vs) H3 v xs[i] env1 _ hK I3 rv' e5 fun σ2 J3 o3 s3 l3 => ?_
    have hw : wipe σ2 vs = wipe σ vs := wipe_same (by rw [J3.len, l3, ← IB.len, wipe_length]) fun j hj => (s3 j hj).2
    refine ⟨hw, ?_⟩
    refine pt (g.but D) env1 _ σ2 H3 _ b _ hK J3 h7 fun H4 k4 d4 => ?_
    have J4 := J3.step k4 d4
    have I4 := I3.step k4 d4
    have k24 : Keep g.Z H2 H4 := k3.trans k4
    have eD4 : H4 D = some (.lst us) := k24.at_ D _ hZ eD
    have ra4 : Reps K (av (g.but D) m envB (wipe σ vs)) H4 us acc := ra.keep (g := g.but D) k24
    cases b with
    | false =>
      rw [if_neg Bool.false_ne_true] at h8
      rw [if_neg Bool.false_ne_true]
      exact ⟨xs.length - (i + 1), by omega, rfl, hlt, _, acc, us, ys, I4, k2.trans ⟨fun a o n e => k24.at_ a o (fun z => n (.inl z)) e, k24.live⟩, eD4, ra4, h8, etot, by omega⟩
    | true =>
      rw [if_pos rfl] at h8
      rw [if_pos rfl]
      obtain ⟨y, w5, h9, h10⟩ := bind_some.mp h8
      obtain ⟨zs, w6, h11, h12⟩ := bind_some.mp h10
      obtain ⟨rfl, rfl⟩ := pure_get h12
      refine pe (g.but D) env1 _ σ2 H4 _ y _ hK J4 h9 fun u H5 k5 d5 r5 => ?_
      have I5 := I4.step k5 d5
      have k25 : Keep g.Z H2 H5 := k24.trans k5
      have eD5 : H5 D = some (.lst us) := k25.at_ D _ hZ eD
      have ra5 : Reps K (av (g.but D) m envB (wipe σ vs)) H5 us acc := ra.keep (g := g.but D) k25
      refine ⟨us, eD5, ?_, ?_⟩
      · rw [ra.length, ← line_eq]; omega
      have kD : ∀ a o, ¬ av (g.but D) m envB (wipe σ vs) a → H5 a = some o → upd H5 D (.lst (us ++ [u])) a = some o := fun a o n e => by
        rw [upd_ne (show a ≠ D from fun z => n (.inl (.inr z)))]; exact e
      refine ⟨xs.length - (i + 1), by omega, rfl, hlt, _, acc ++ [y], us ++ [u], zs, I5.updBut hZ hD0, ?_, upd_same, ?_, h11, by rw [List.append_assoc]; exact etot, by rw [List.length_append]; simp; omega⟩
      · refine k2.trans ⟨fun a o n e => ?_, fun a e => ?_⟩
        · rw [upd_ne (show a ≠ D from fun z => n (.inr z))]
          exact k25.at_ a o (fun z => n (.inl z)) e
        · by_cases z : a = D
          · subst z; rw [upd_same]; simp
          · rw [upd_ne z]; exact k25.live a e
      · refine (ra5.mon kD fun _ z => z).append (.cons ((r5.mon (fun _ _ _ e => e) fun a z => ?_).mon kD fun _ z => z) .nil)
        rcases z with z | ⟨e, j, ws, q1, q2⟩
        · exact .inl z
        · have hj : j ∉ vs := fun hj => by
            by_cases hb : j < σ.length
            · rw [wipe_in σ vs j hj hb] at q2; cases q2
            · rw [List.getElem?_eq_none (by rw [wipe_length]; omega)] at q2; cases q2
          exact .inr ⟨e, j, ws, by rw [(s3 j hj).1]; exact q1, by rw [(s3 j hj).2]; exact q2⟩
  · left
    have e : i = xs.length := by omega
    subst e
    rw [List.drop_length] at hc
    obtain ⟨rfl, rfl⟩ := pure_get hc
    rw [List.append_nil] at etot
    subst etot
    refine ⟨stop, k D us H2 hDs ?_ I2.dr eD (ra.mon (fun _ _ _ e => e) fun a z => ?_)⟩
    · refine k1.trans ⟨fun a o n e => k2.at_ a o (fun z => z.elim n fun z => by subst z; rw [hD] at e; cases e) e, k2.live⟩
    · rcases z with z | z
      · rcases z with z | ⟨e, z⟩
        · exact .inl (.inl z)
        · exact .inr ⟨e, ownB a z⟩
      · exact .inl (.inr z)
end VE

namespace VE
open PySem PySem.Spec L2
open PyProof.Rows hiding St
/-! ### list comprehensions: the rules -/
structure PTsV (X : Cx) (ifs : List Expr) (t : TT) (f : TF) : Prop where
  pe : PTs X ifs t
  vw : VwT X.K t f
section
variable {X : Cx} {m : Bool} {pos : Pos}
theorem eqD' {KK : PySem.W.Frag} (hKK : X.K = KK) (hu : X.A.units + 64 < cLine) : OpR X (compareOp .Eq) (rEqD KK) := by
  subst hKK
  exact op_eqD hu
theorem neD' {KK : PySem.W.Frag} (hKK : X.K = KK) (hu : X.A.units + 64 < cLine) : OpR X (compareOp .NotEq) (rNeD KK) := by
  subst hKK
  exact op_neD hu
theorem in' {KK : PySem.W.Frag} (hKK : X.K = KK) : OpR X (compareOp .In) (rIn KK false) := by
  subst hKK
  exact op_in_seq
theorem notIn' {KK : PySem.W.Frag} (hKK : X.K = KK) : OpR X (compareOp .NotIn) (rIn KK true) := by
  subst hKK
  exact op_notIn_seq
theorem ptsv_nil : PTsV X [] tYes tYesF := ⟨pts_nil, fun g env w σ H Q b w' hK I hf k => by
  obtain ⟨rfl, rfl⟩ := pure_get hf
  exact k H (Keep.refl _ _) I.dr⟩
theorem ptsv_one {c : Expr} {t : TT} {f : TF} (p : PTV X c t f) : PTsV X [c] t f := ⟨pts_one p.pe, p.vw⟩
abbrev AnyBlk (X : Cx) (scope : Scope) (P : Cx → Prop) : Prop := ∀ (s : Shared) (H : Hp) (C : Addr) (cl : List (Str × Addr)) (fp : List Addr), P (X.blk s H scope (compEnvC scope cl C X.env) fp)
theorem plv_comp {elt tg iter : Expr} {ifs : List Expr} {scope : Scope} {own : List (Str × Nat)} {vs : List Nat} {wi : TI} {fi : IF} {gt : TG} {ft : GF} {tt : TT} {fT : TF} {te : TE} {f : EF} (hc : X.calm = true) (hN : X.N.Nodup) (hi : PIV X false tg iter wi fi) (ok : BlkOk X.N X.env.scope scope own) (hvs : own.map (·.2) = vs)
    (hg : AnyBlk X scope fun Y => PGV Y tg vs gt ft) (ht : AnyBlk X scope fun Y => PTsV Y ifs tt fT) (he : AnyBlk X scope fun Y => PV Y m elt te f) (hs : ∀ x, foldedSetIterable iter X.env x = pure x) :
    PLV X m (.ListComp elt [⟨tg, iter, ifs, 0⟩] scope pos) (tLc wi gt tt te vs) (xComp vs fi ft fT f) := by
  subst hvs
  exact ⟨pe_lc hc hN hi.pe ok (fun s H C cl fp => (hg s H C cl fp).pe) (fun s H C cl fp => (ht s H C cl fp).pe) (fun s H C cl fp => (he s H C cl fp).pe) hs,
    vw_comp hi.vw (hg {} (fun _ => none) 0 [] []).vw (ht {} (fun _ => none) 0 [] []).vw (he {} (fun _ => none) 0 [] []).vw⟩
end

/-! ### statements -/
/-- what a statement may have done -/
structure Eff (g : Gh) (env : En) (σ : SS) (H : Hp) (env' : En) (σ' : SS) (H' : Hp) : Prop where
  at_ : ∀ a o, ¬ g.Z a → ¬ ownA env σ a → H a = some o → H' a = some o
  live : ∀ a, H a ≠ none → H' a ≠ none
  own : ∀ a, ownA env' σ' a → ownA env σ a ∨ H a = none
section
variable {g : Gh} {env env1 env2 : En} {σ σ1 σ2 : SS} {H H1 H2 : Hp} {w w' : W}
theorem Eff.refl : Eff g env σ H env σ H := ⟨fun _ _ _ _ e => e, fun _ e => e, fun _ h => .inl h⟩
theorem Eff.trans (a : Eff g env σ H env1 σ1 H1) (b : Eff g env1 σ1 H1 env2 σ2 H2) : Eff g env σ H env2 σ2 H2 :=
  ⟨fun c o nz no e => b.at_ c o nz (fun z => (a.own c z).elim no fun q => by rw [q] at e; cases e) (a.at_ c o nz no e), fun c e => b.live c (a.live c e),
    fun c h => (b.own c h).elim (a.own c) fun q => by
      cases z : H c with
      | none => exact .inr rfl
      | some o => exact absurd q (a.live c (by rw [z]; simp))⟩
theorem Eff.of_keep (k : Keep g.Z H H1) (h : ∀ a, ownA env1 σ1 a → ownA env σ a) : Eff g env σ H env1 σ1 H1 := ⟨fun a o n _ e => k.at_ a o n e, k.live, fun a q => .inl (h a q)⟩
end
def Fin (g : Gh) (env : En) (σ : SS) (H : Hp) (D : Ends) (fl : Fl) (env' : En) (w' : W) : Prop :=
  match fl with
  | .nx => ∀ σ' H', StOk g env' w' σ' H' → Eff g env σ H env' σ' H' → D.nx σ' H'
  | .bk => ∀ σ' H', StOk g env' w' σ' H' → Eff g env σ H env' σ' H' → D.bk σ' H'
  | .ct => ∀ σ' H', StOk g env' w' σ' H' → Eff g env σ H env' σ' H' → D.ct σ' H'
  | .rt x => ∀ v H', Keep g.Z g.H0 H' → g.dr w' H' → Rep g.K g.T H' v x → D.rt v H'
theorem Fin.after {g : Gh} {env env1 : En} {σ σ1 : SS} {H H1 : Hp} {D : Ends} {fl : Fl} {env' : En} {w' : W} (F : Fin g env σ H D fl env' w') (e : Eff g env σ H env1 σ1 H1) : Fin g env1 σ1 H1 D fl env' w' := by
  cases fl with
  | nx => exact fun σ' H' I f => F σ' H' I (e.trans f)
  | bk => exact fun σ' H' I f => F σ' H' I (e.trans f)
  | ct => exact fun σ' H' I f => F σ' H' I (e.trans f)
  | rt x => exact F
def VwS (K : PySem.W.Frag) (t : TS) (f : SF) : Prop :=
  ∀ (g : Gh) (env : En) (w : W) (σ : SS) (H : Hp) (D : Ends) (fl : Fl) (env' : En) (w' : W), g.K = K → StOk g env w σ H → f env w = some ((fl, env'), w') → Fin g env σ H D fl env' w' → t D σ H
structure PSV (X : Cx) (st : Stmt) (t : TS) (f : SF) : Prop where
  pe : PS X st t
  vw : VwS X.K t f
structure PSsV (X : Cx) (st : List Stmt) (t : TS) (f : SF) : Prop where
  pe : PSs X st t
  vw : VwS X.K t f
section
variable {X : Cx} {K : PySem.W.Frag} {m : Bool} {e c : Expr} {st : Stmt} {rest sa sb : List Stmt} {ta : TE} {tt : TT} {ts tu : TS} {f : EF} {fT : TF} {fs fu : SF} {pos : Pos}
theorem vw_next : VwS K tNext sPass := fun g env w σ H D fl env' w' hK I hf F => by
  obtain ⟨e, rfl⟩ := pure_get hf
  cases e
  exact F σ H I Eff.refl
theorem psv_pass : PSV X (.Pass pos) tNext sPass := ⟨ps_pass, vw_next⟩
theorem psv_doc {x j pos'} : PSV X (.Expr (.Constant (.str x) j pos) pos') tNext sPass := ⟨ps_doc, vw_next⟩
theorem psv_break : PSV X (.Break pos) tBreak sBreak := ⟨ps_break, fun g env w σ H D fl env' w' hK I hf F => by
  obtain ⟨e, rfl⟩ := pure_get hf
  cases e
  exact F σ H I Eff.refl⟩
theorem psv_continue : PSV X (.Continue pos) tCont sCont := ⟨ps_continue, fun g env w σ H D fl env' w' hK I hf F => by
  obtain ⟨e, rfl⟩ := pure_get hf
  cases e
  exact F σ H I Eff.refl⟩
theorem pssv_nil : PSsV X [] tNext sPass := ⟨pss_nil, vw_next⟩
theorem pssv_cons (p : PSV X st ts fs) (q : PSsV X rest tu fu) : PSsV X (st :: rest) (tSeq ts tu) (sSeq fs fu) := ⟨pss_cons p.pe q.pe, fun g env w σ H D fl env' w' hK I hf F => by
  obtain ⟨⟨fl1, env1⟩, w1, h1, h2⟩ := bind_some.mp hf
  refine p.vw g env w σ H _ fl1 env1 w1 hK I h1 ?_
  cases fl1 with
  | nx => exact fun σ' H' I' ef => q.vw g env1 w1 σ' H' D fl env' w' hK I' h2 (F.after ef)
  | bk => obtain ⟨e, rfl⟩ := pure_get h2; cases e; exact F
  | ct => obtain ⟨e, rfl⟩ := pure_get h2; cases e; exact F
  | rt x => obtain ⟨e, rfl⟩ := pure_get h2; cases e; exact F⟩
theorem pssv_one (p : PSV X st ts fs) : PSsV X [st] ts fs := ⟨pss_one p.pe, p.vw⟩
theorem psv_ret (p : PV X false e ta f) : PSV X (.Return (some e) pos) (tRet ta) (sRet f) := ⟨ps_ret p.pe, fun g env w σ H D fl env' w' hK I hf F => by
  obtain ⟨x, w1, h1, h2⟩ := bind_some.mp hf
  obtain ⟨e, rfl⟩ := pure_get h2
  cases e
  exact p.vw g env w σ H _ x _ hK I h1 fun v H' k d r => F v H' (I.keep.trans k) d (by rw [hK]; exact r.mon (fun _ _ _ e => e) fun _ z => .inl z)⟩
theorem psv_retN : PSV X (.Return none pos) tRetN sRetN := ⟨ps_retN, fun g env w σ H D fl env' w' hK I hf F => by
  obtain ⟨e, rfl⟩ := pure_get hf
  cases e
  exact F .non H I.keep I.dr .non⟩
theorem psv_if (p : PTV X c tt fT) (q : PSsV X sa ts fs) (r : PSsV X sb tu fu) : PSV X (.If c sa sb pos) (tIfS tt ts tu) (sIf fT fs fu) := ⟨ps_if p.pe q.pe r.pe, fun g env w σ H D fl env' w' hK I hf F => by
  obtain ⟨b, w1, h1, h2⟩ := bind_some.mp hf
  refine p.vw g env w σ H _ b _ hK I h1 fun H1 k1 d1 => ?_
  have F1 := F.after (Eff.of_keep (env1 := env) (σ1 := σ) k1 fun _ h => h)
  cases b with
  | true => exact q.vw g env w1 σ H1 D fl env' w' hK (I.step k1 d1) h2 F1
  | false => exact r.vw g env w1 σ H1 D fl env' w' hK (I.step k1 d1) h2 F1⟩
theorem vw_asg {vs : List Nat} {gt : TG} {ft : GF} (p : VwE K true ta f) (q : VwG K vs gt ft) : VwS K (tAsg ta gt) (sAsg f ft) := fun g env w σ H D fl env' w' hK I hf F => by
  obtain ⟨x, w1, h1, h2⟩ := bind_some.mp hf
  obtain ⟨env1, w2, h3, h4⟩ := bind_some.mp h2
  obtain ⟨e3, rfl⟩ := lift_get h3
  obtain ⟨e, rfl⟩ := pure_get h4
  cases e
  refine p g env w σ H _ x _ hK I h1 fun v H1 k1 d1 r1 => ?_
  exact q g env _ σ H1 v x env' _ hK (I.step k1 d1) r1 e3 fun σ' I' o' _ _ => F σ' H1 I' (Eff.of_keep k1 o')
/-- target = e -/
theorem psv_asg {tg : Expr} {vs : List Nat} {gt : TG} {ft : GF} (p : PV X true e ta f) (q : PGV X tg vs gt ft) (hs : swapsWithSole [tg] e pos.line X.env = pure false) (hw : swappedStores [tg] e X.env = pure none)
    (h1 : (assignEach [tg] X.env).map (·.2) = [assign tg X.env]) : PSV X (.Assign [tg] e pos) (tAsg ta gt) (sAsg f ft) := ⟨ps_asg p.pe q.pe hs hw h1, vw_asg p.vw q.vw⟩
/-- name = e -/
theorem psv_set {i : Nat} {x : Str} {pos' : Pos} (hN : X.N.Nodup) (p : PV X true e ta f) (hi : X.N[i]? = some x) (hx : locB X.env.scope x = true) (hs : swapsWith e (some (.Name x pos')) pos.line X.env = pure false) (hf : fnB X x = true) :
    PSV X (.Assign [.Name x pos'] e pos) (tAsg ta (gName i)) (sAsg f (gNm i)) := ⟨ps_set hN hi (loc_of hx) p.pe hs (fn_of' hf), vw_asg p.vw (vw_name i)⟩
/-- name = [..] on one line -/
theorem psv_setLc {i : Nat} {y : Str} {py : Pos} {elt tg iter : Expr} {ifs : List Expr} {scope : Scope} {own : List (Str × Nat)} {vs : List Nat} {cpos : Pos} {wi : TI} {fi : IF} {gt : TG} {ft : GF} {te : TE} (hc : X.calm = true) (hN : X.N.Nodup) (hsw : swapsWith (.ListComp elt [⟨tg, iter, ifs, 0⟩] scope cpos) (some (.Name y py)) pos.line X.env = pure true)
    (hi : PIV X false tg iter wi fi) (ok : BlkOk X.N X.env.scope scope own) (hvs : own.map (·.2) = vs)
    (hg : AnyBlk X scope fun Y => PGV Y tg vs gt ft) (ht : AnyBlk X scope fun Y => PTsV Y ifs tt fT) (he : AnyBlk X scope fun Y => PV Y true elt te f) (hs : ∀ x, foldedSetIterable iter X.env x = pure x) (hy : X.N[i]? = some y) (hyl : X.env.scope.names.lookup y = some .local) :
    PSV X (.Assign [.Name y py] (.ListComp elt [⟨tg, iter, ifs, 0⟩] scope cpos) pos) (tAsg (tLc wi gt tt te vs) (gName i)) (sAsg (xAs (xComp vs fi ft fT f)) (gNm i)) := by
  subst hvs
  exact ⟨ps_setLc hc hN hy hyl hsw hi.pe ok (fun s H C cl fp => (hg s H C cl fp).pe) (fun s H C cl fp => (ht s H C cl fp).pe) (fun s H C cl fp => (he s H C cl fp).pe) hs,
    vw_asg (pv_as (plv_comp hc hN hi ok rfl hg ht he hs (pos := cpos))).vw (vw_name i)⟩
theorem psv_expr (p : PV X true e ta f) (hs : swapsWith e none pos.line X.env = pure false) : PSV X (.Expr e pos) (tDrop ta) (sExpr f) := ⟨ps_expr p.pe hs, fun g env w σ H D fl env' w' hK I hf F => by
  obtain ⟨x, w1, h1, h2⟩ := bind_some.mp hf
  obtain ⟨e, rfl⟩ := pure_get h2
  cases e
  exact p.vw g env w σ H _ x _ hK I h1 fun v H1 k1 d1 r1 => F σ H1 (I.step k1 d1) (Eff.of_keep k1 fun _ h => h)⟩
/-- a, b = e, e' -/
theorem psv_par {i j : Nat} {x y : Str} {a b : Expr} {tas : TA} {fas : AF} {px py pt : Pos} {kt k2 pt2} (hc : X.calm = true) (hN : X.N.Nodup) (p : PAV X true [a, b] tas fas) (hi : X.N[i]? = some x) (hj : X.N[j]? = some y) (hij : i ≠ j)
    (hx : X.env.scope.names.lookup x = some .local) (hy : X.env.scope.names.lookup y = some .local)
    (hw : swappedStores [.Tuple [.Name x px, .Name y py] kt pt] (.Tuple [a, b] k2 pt2) X.env = pure (some [x, y]))
    (hs : swapsWithSole [.Tuple [.Name x px, .Name y py] kt pt] (.Tuple [a, b] k2 pt2) pos.line X.env = pure false) :
    PSV X (.Assign [.Tuple [.Name x px, .Name y py] kt pt] (.Tuple [a, b] k2 pt2) pos) (tPar i j tas) (sPar i j fas) := ⟨ps_par hc hN hi hj hij hx hy p.pe hw hs, fun g env w σ H D fl env' w' hK I hf F => by
  obtain ⟨xs, w1, h1, h2⟩ := bind_some.mp hf
  refine p.vw g env w σ H _ xs _ hK I h1 fun vs H1 k1 d1 r1 => ?_
  split at h2
  · rename_i u v
    obtain ⟨e, rfl⟩ := pure_get h2
    cases e
    obtain ⟨a1, a2, rfl, r, r'⟩ := reps2 r1
    refine ⟨a1, a2, rfl, ?_⟩
    have I1 := I.step k1 d1
    have I2 := I1.setSh i (x := u) (v := a1) (by rw [hK]; exact r)
    have I3 := I2.setSh j (x := v) (v := a2) (by rw [hK]; exact r'.mon (fun _ _ _ e => e) fun a h => h.elim .inl fun z => .inr ⟨rfl, own_set_sh z.2⟩)
    exact F _ H1 I3 (Eff.of_keep k1 fun a h => own_set_sh (own_set_sh h))
  · cases h2⟩

/-! ### lists that the def changes -/
theorem own_thaw {i : Nat} {env : En} {σ : SS} {a : Addr} (h : ownA (thaw i env) σ a) : ownA env σ a := by
  unfold thaw at h
  split at h
  · obtain ⟨j, xs, h1, h2⟩ := h
    rcases set_get h1 with ⟨_, e⟩ | ⟨hj, h1⟩
    · cases e
    · exact ⟨j, xs, h1, h2⟩
  · exact h
theorem StOk.thaw {g : Gh} {env : En} {w : W} {σ : SS} {H : Hp} (I : StOk g env w σ H) (i : Nat) : StOk g (thaw i env) w σ H := by
  have av' : ∀ a, av g true (VE.thaw i env) σ a → av g true env σ a := fun a h => h.elim .inl fun q => .inr ⟨rfl, own_thaw q.2⟩
  have key : ∀ xs, env[i]? = some (.ow xs) → VE.thaw i env = env.set i (.sh (.list xs)) := fun xs e => by unfold VE.thaw; rw [e]
  cases q : env[i]? with
  | none => have e : VE.thaw i env = env := by unfold VE.thaw; rw [q]
            rw [e]; exact I
  | some s =>
    cases s with
    | ow xs =>
      have ek := key xs q
      rw [ek] at av'
      rw [ek]
      obtain ⟨a, vs, ea, ha, ra, na, ta⟩ := I.ow i xs q
      have nown : ¬ ownA (env.set i (.sh (.list xs))) σ a := fun ⟨j, ys, h1, h2⟩ => by
        rcases set_get h1 with ⟨_, e⟩ | ⟨hj, h1⟩
        · cases e
        · exact hj (I.dist j i ys xs a h1 q h2 ea)
      refine ⟨by rw [List.length_set, I.len], fun j y h => ?_, fun j ys h => ?_, fun j kk h => ?_, fun j ns h => ?_, fun j j2 ys zs a h1 h2 h3 h4 => ?_, I.live, I.keep, I.dr⟩
      · rcases set_get h with ⟨rfl, e⟩ | ⟨hj, h⟩
        · cases e
          exact ⟨_, ea, .lst (fun z => z.elim ta fun z => nown z.2) ha (ra.mon (fun _ _ _ e => e) av')⟩
        · obtain ⟨u, e, q⟩ := I.sh j y h
          exact ⟨u, e, q.mon (fun _ _ _ e => e) av'⟩
      · rcases set_get h with ⟨rfl, e⟩ | ⟨hj, h⟩
        · cases e
        · obtain ⟨a, vs, e, q, s, n, t⟩ := I.ow j ys h
          exact ⟨a, vs, e, q, s.mon (fun _ _ _ e => e) av', n, t⟩
      · rcases set_get h with ⟨rfl, e⟩ | ⟨hj, h⟩
        · cases e
        · exact I.st j kk h
      · rcases set_get h with ⟨rfl, e⟩ | ⟨hj, h⟩
        · cases e
        · obtain ⟨a, e, s⟩ := I.fz j ns h
          exact ⟨a, e, s.mono (fun _ _ _ e => e) av'⟩
      · rcases set_get h1 with ⟨_, e⟩ | ⟨hj, h1⟩
        · cases e
        · rcases set_get h2 with ⟨_, e⟩ | ⟨hj2, h2⟩
          · cases e
          · exact I.dist j j2 ys zs a h1 h2 h3 h4
    | _ =>
      have e : VE.thaw i env = env := by unfold VE.thaw; rw [q]
      rw [e]; exact I
/-- from here on the list at i is a value -/
theorem pssv_thaw {i : Nat} {sts : List Stmt} (p : PSsV X sts ts fs) : PSsV X sts ts (sThaw i fs) := ⟨p.pe, fun g env w σ H D fl env' w' hK I hf F =>
  p.vw g (thaw i env) w σ H D fl env' w' hK (I.thaw i) hf (F.after (Eff.of_keep (Keep.refl _ _) fun a h => own_thaw h))⟩
theorem StOk.setOw {g : Gh} {env : En} {w : W} {σ : SS} {H H' : Hp} {p : Addr} {vs : List V} {xs : List PyData} (I : StOk g env w σ H) (hp : H p = none) (k : Keep g.Z H H') (d : g.dr w' H') (hv : H' p = some (.lst vs)) (r : Reps g.K (fun a => av g true env σ a ∨ a = p) H' vs xs) (i : Nat) :
    StOk g (env.set i (.ow xs)) w' (σ.set i (some (.ref p))) H' ∧ Eff g env σ H (env.set i (.ow xs)) (σ.set i (some (.ref p))) H' := by
  have own' : ∀ a, ownA (env.set i (.ow xs)) (σ.set i (some (.ref p))) a → ownA env σ a ∨ a = p := fun a ⟨j, ys, h1, h2⟩ => by
    rcases set_get h1 with ⟨rfl, e⟩ | ⟨hj, h1⟩
    · rcases set_get h2 with ⟨_, e2⟩ | ⟨hj, _⟩
      · cases e2; exact .inr rfl
      · exact absurd rfl hj
    · rw [List.getElem?_set_ne (Ne.symm hj)] at h2
      exact .inl ⟨j, ys, h1, h2⟩
  have av' : ∀ a, av g true (env.set i (.ow xs)) (σ.set i (some (.ref p))) a → av g true env σ a ∨ a = p := fun a h => h.elim (fun z => .inl (.inl z)) fun q => (own' a q.2).elim (fun z => .inl (.inr ⟨rfl, z⟩)) .inr
  have I1 := I.step k d
  have h0 : g.H0 p = none := by
    cases q : g.H0 p with
    | none => rfl
    | some o => exact absurd hp (I.keep.live p (by rw [q]; simp))
  have nT : ¬ g.T p := fun z => I.live p z hp
  have carry : ∀ {x : PyData} {v : V}, Rep g.K (av g true env σ) H v x → Rep g.K (av g true (env.set i (.ow xs)) (σ.set i (some (.ref p)))) H' v x := fun {x v} r =>
    (Rep.fresh hp x r).mon (fun a o n e => k.at_ a o (fun z => n (.inl (av_z z))) e) av'
  have carrys : ∀ {x : List PyData} {v : List V}, Reps g.K (av g true env σ) H v x → Reps g.K (av g true (env.set i (.ow xs)) (σ.set i (some (.ref p)))) H' v x := fun {x v} r =>
    (Reps.fresh hp x r).mon (fun a o n e => k.at_ a o (fun z => n (.inl (av_z z))) e) av'
  refine ⟨⟨by rw [List.length_set, List.length_set, I.len], fun j y h => ?_, fun j ys h => ?_, fun j kk h => ?_, fun j ns h => ?_, fun j j2 ys zs a h1 h2 h3 h4 => ?_, I1.live, I1.keep, I1.dr⟩,
    ⟨fun a o n _ e => k.at_ a o n e, k.live, fun a h => (own' a h).imp id fun z => by rw [z]; exact hp⟩⟩
  · rcases set_get h with ⟨rfl, e⟩ | ⟨hj, h⟩
    · cases e
    · obtain ⟨u, e, q⟩ := I.sh j y h
      exact ⟨u, by rw [List.getElem?_set_ne (Ne.symm hj)]; exact e, carry q⟩
  · rcases set_get h with ⟨rfl, e⟩ | ⟨hj, h⟩
    · cases e
      have hl : j < σ.length := by
        rw [I.len]
        have := (List.getElem?_eq_some_iff.mp h).1
        simpa using this
      exact ⟨p, vs, by rw [List.getElem?_set_self hl], hv, r.mon (fun _ _ _ e => e) av', h0, nT⟩
    · obtain ⟨a, us, e, q, s, n, t⟩ := I.ow j ys h
      exact ⟨a, us, by rw [List.getElem?_set_ne (Ne.symm hj)]; exact e, k.at_ a _ (fun z => t (g.zt a z)) q, carrys s, n, t⟩
  · rcases set_get h with ⟨rfl, e⟩ | ⟨hj, h⟩
    · cases e
    · rw [List.getElem?_set_ne (Ne.symm hj)]; exact I.st j kk h
  · rcases set_get h with ⟨rfl, e⟩ | ⟨hj, h⟩
    · cases e
    · obtain ⟨a, e, s⟩ := I.fz j ns h
      exact ⟨a, by rw [List.getElem?_set_ne (Ne.symm hj)]; exact e, (s.fresh hp).mono (fun a o n e => k.at_ a o (fun z => n (.inl (av_z z))) e) av'⟩
  · rcases set_get h1 with ⟨e1, _⟩ | ⟨hj, h1'⟩
    · rcases set_get h2 with ⟨e2, _⟩ | ⟨hj2, h2'⟩
      · rw [e1, e2]
      · exfalso
        rw [e1] at h3
        rcases set_get h3 with ⟨_, e3⟩ | ⟨hj, _⟩
        · cases e3
          rw [List.getElem?_set_ne (Ne.symm hj2)] at h4
          exact I.owLive ⟨j2, zs, h2', h4⟩ hp
        · exact hj rfl
    · rcases set_get h2 with ⟨e2, _⟩ | ⟨hj2, h2'⟩
      · exfalso
        rw [e2] at h4
        rcases set_get h4 with ⟨_, e3⟩ | ⟨hj2, _⟩
        · cases e3
          rw [List.getElem?_set_ne (Ne.symm hj)] at h3
          exact I.owLive ⟨j, ys, h1', h3⟩ hp
        · exact hj2 rfl
      · rw [List.getElem?_set_ne (Ne.symm hj)] at h3
        rw [List.getElem?_set_ne (Ne.symm hj2)] at h4
        exact I.dist j j2 ys zs a h1' h2' h3 h4
theorem vw_own {fl : LF} (i : Nat) (p : VwL K true ta fl) : VwS K (tAsg ta (gName i)) (sOwn i fl) := fun g env w σ H D fl env' w' hK I hf F => by
  obtain ⟨xs, w1, h1, h2⟩ := bind_some.mp hf
  obtain ⟨e, rfl⟩ := pure_get h2
  cases e
  refine p g env w σ H _ xs _ hK I h1 fun p vs H1 hp k1 d1 e1 r1 => ?_
  obtain ⟨I1, E1⟩ := I.setOw hp k1 d1 e1 (by rw [hK]; exact r1) i
  exact F _ H1 I1 E1
/-- name = a new list that is changed later -/
theorem psv_own {i : Nat} {x : Str} {pos' : Pos} {fl : LF} (hN : X.N.Nodup) (p : PLV X true e ta fl) (hi : X.N[i]? = some x) (hx : locB X.env.scope x = true) (hs : swapsWith e (some (.Name x pos')) pos.line X.env = pure false) (hf : fnB X x = true) :
    PSV X (.Assign [.Name x pos'] e pos) (tAsg ta (gName i)) (sOwn i fl) := ⟨ps_set hN hi (loc_of hx) p.pe hs (fn_of' hf), vw_own i p.vw⟩
theorem psv_ownLc {i : Nat} {y : Str} {py : Pos} {elt tg iter : Expr} {ifs : List Expr} {scope : Scope} {own : List (Str × Nat)} {vs : List Nat} {cpos : Pos} {wi : TI} {fi : IF} {gt : TG} {ft : GF} {te : TE} (hc : X.calm = true) (hN : X.N.Nodup) (hsw : swapsWith (.ListComp elt [⟨tg, iter, ifs, 0⟩] scope cpos) (some (.Name y py)) pos.line X.env = pure true)
    (hi : PIV X false tg iter wi fi) (ok : BlkOk X.N X.env.scope scope own) (hvs : own.map (·.2) = vs)
    (hg : AnyBlk X scope fun Y => PGV Y tg vs gt ft) (ht : AnyBlk X scope fun Y => PTsV Y ifs tt fT) (he : AnyBlk X scope fun Y => PV Y true elt te f) (hs : ∀ x, foldedSetIterable iter X.env x = pure x) (hy : X.N[i]? = some y) (hyl : X.env.scope.names.lookup y = some .local) :
    PSV X (.Assign [.Name y py] (.ListComp elt [⟨tg, iter, ifs, 0⟩] scope cpos) pos) (tAsg (tLc wi gt tt te vs) (gName i)) (sOwn i (xComp vs fi ft fT f)) := by
  subst hvs
  exact ⟨ps_setLc hc hN hy hyl hsw hi.pe ok (fun s H C cl fp => (hg s H C cl fp).pe) (fun s H C cl fp => (ht s H C cl fp).pe) (fun s H C cl fp => (he s H C cl fp).pe) hs,
    vw_own i (plv_comp hc hN hi ok rfl hg ht he hs (pos := cpos)).vw⟩
/-- the list at i is changed -/
theorem StOk.mut {g : Gh} {env : En} {w : W} {σ : SS} {H : Hp} {i : Nat} {xs ys : List PyData} {a : Addr} {us : List V} (I : StOk g env w σ H) (hi : env[i]? = some (.ow xs)) (ha : σ[i]? = some (some (.ref a))) (r : Reps g.K (av g true env σ) H us ys) :
    StOk g (env.set i (.ow ys)) w σ (upd H a (.lst us)) ∧ Eff g env σ H (env.set i (.ow ys)) σ (upd H a (.lst us)) := by
  have own_a : ownA env σ a := ⟨i, xs, hi, ha⟩
  have na : ¬ g.T a := I.owNT own_a
  have own' : ∀ b, ownA (env.set i (.ow ys)) σ b → ownA env σ b := fun b ⟨j, zs, h1, h2⟩ => by
    rcases set_get h1 with ⟨rfl, e⟩ | ⟨hj, h1⟩
    · exact ⟨j, xs, hi, h2⟩
    · exact ⟨j, zs, h1, h2⟩
  have av' : ∀ b, av g true (env.set i (.ow ys)) σ b → av g true env σ b := fun b h => h.elim .inl fun q => .inr ⟨rfl, own' b q.2⟩
  have k : ∀ b o, ¬ av g true env σ b → H b = some o → upd H a (.lst us) b = some o := fun b o n e => by
    rw [upd_ne (show b ≠ a from fun z => n (.inr ⟨rfl, by rw [z]; exact own_a⟩))]; exact e
  have live' : ∀ b, H b ≠ none → upd H a (.lst us) b ≠ none := fun b e => by
    by_cases z : b = a
    · subst z; rw [upd_same]; simp
    · rw [upd_ne z]; exact e
  obtain ⟨a', vs', ea, hva, _, h0, _⟩ := I.ow i xs hi
  rw [ha] at ea
  cases ea
  refine ⟨⟨by rw [List.length_set, I.len], fun j y h => ?_, fun j zs h => ?_, fun j kk h => ?_, fun j ns h => ?_, fun j j2 zs zs2 b h1 h2 h3 h4 => ?_, fun b h => live' b (I.live b h), ⟨fun b o n e => ?_, fun b e => live' b (I.keep.live b e)⟩, ?_⟩,
    ⟨fun b o nz no e => ?_, live', fun b h => .inl (own' b h)⟩⟩
  · rcases set_get h with ⟨rfl, e⟩ | ⟨hj, h⟩
    · cases e
    · obtain ⟨u, e, q⟩ := I.sh j y h
      exact ⟨u, e, q.mon k av'⟩
  · rcases set_get h with ⟨rfl, e⟩ | ⟨hj, h⟩
    · cases e
      exact ⟨a, us, ha, upd_same, r.mon k av', h0, na⟩
    · obtain ⟨b, vs, e, q, s, n, t⟩ := I.ow j zs h
      refine ⟨b, vs, e, ?_, s.mon k av', n, t⟩
      rw [upd_ne (show b ≠ a from fun z => by subst z; exact hj (I.dist j i zs xs b h hi e ha))]
      exact q
  · rcases set_get h with ⟨rfl, e⟩ | ⟨hj, h⟩
    · cases e
    · exact I.st j kk h
  · rcases set_get h with ⟨rfl, e⟩ | ⟨hj, h⟩
    · cases e
    · obtain ⟨b, e, s⟩ := I.fz j ns h
      exact ⟨b, e, s.mono k av'⟩
  · have z1 : ∃ q1, env[j]? = some (.ow q1) := by
      rcases set_get h1 with ⟨rfl, e⟩ | ⟨hj, h1⟩
      · exact ⟨xs, hi⟩
      · exact ⟨zs, h1⟩
    have z2 : ∃ q1, env[j2]? = some (.ow q1) := by
      rcases set_get h2 with ⟨rfl, e⟩ | ⟨hj, h2⟩
      · exact ⟨xs, hi⟩
      · exact ⟨zs2, h2⟩
    obtain ⟨q1, z1⟩ := z1
    obtain ⟨q2, z2⟩ := z2
    exact I.dist j j2 q1 q2 b z1 z2 h3 h4
  · have e' := I.keep.at_ b o n e
    rw [upd_ne (show b ≠ a from fun z => by subst z; rw [h0] at e; cases e)]
    exact e'
  · refine g.drk w H _ I.dr fun b z => ?_
    rw [upd_ne]
    intro e
    subst e
    exact na (g.zt b z)
  · rw [upd_ne (show b ≠ a from fun z => no (by rw [z]; exact own_a))]; exact e
/-- xs.append(e) -/
theorem psv_app {i : Nat} {x : Str} {px apos cpos : Pos} {KK : PySem.W.Frag} (hKK : X.K = KK) (p : PV X true e ta f) (hN : X.N[i]? = some x) (hv : visB X.env.scope x = true) (hd : dunB x = true)
    (hs : swapsWith (.Call (.Attribute (.Name x px) "append" apos) [e] [] cpos) none pos.line X.env = pure false)
    (hbase : attributeBase (.Name x px) "append" X.env (eval (.Name x px) X.env) = eval (.Name x px) X.env)
    (hfew : ((backTo cpos (starEach [e] X.env)).all (fun x => !x.1) && (backToKw cpos (keywordEach [] X.env)).all (fun x => x.1.isSome)
      && decide ([e].length + ([] : List Keyword).length + (if ([] : List Keyword).isEmpty then 0 else 1) < 30)) = true)
    (hline : (apos.endLine == cpos.line) = true) (hst : starEach [e] X.env = (false, eval e X.env) :: starEach [] X.env) (hplain : (backTo cpos (starEach [] X.env)).any (·.1) = false) :
    PSV X (.Expr (.Call (.Attribute (.Name x px) "append" apos) [e] [] cpos) pos) (tDrop (tBM KK "list" rAppend (tVar i) (tCons ta tNil))) (sApp i f) := by
  subst hKK
  exact (show
    PSV X (.Expr (.Call (.Attribute (.Name x px) "append" apos) [e] [] cpos) pos) (tDrop (tBM X.K "list" rAppend (tVar i) (tCons ta tNil))) (sApp i f) from
  ⟨ps_expr (pe_bm PySem.F.plainAttrs_list PySem.F.slot_list_append PySem.F.type_list_append mt_append (pe_var hN (vis_of hv) (dun1 hd) (dun2 hd)) (pa_cons p.pe pa_nil hst) hbase hfew hline hst hplain) hs, fun g env w σ H D fl env' w' hK I hf F => by
    obtain ⟨y, w1, h1, h2⟩ := bind_some.mp hf
    cases q : env[i]? with
    | none => rw [q] at h2; cases h2
    | some s =>
      rw [q] at h2
      cases s with
      | ow xs =>
        obtain ⟨a, vs, ea, ha, ra, n0, nt⟩ := I.ow i xs q
        refine ⟨_, ea, .inl ⟨rfl, _, SqL.of ha⟩, ?_⟩
        refine p.vw g env w σ H _ y _ hK I h1 fun v H1 k1 d1 r1 => ?_
        have I1 := I.step k1 d1
        obtain ⟨a', vs', ea', ha', ra', _, _⟩ := I1.ow i xs q
        rw [ea] at ea'
        cases ea'
        have h2 : (if xs.length < line then pure (Fl.nx, env.set i (.ow (xs ++ [y]))) else fail : M (Fl × En)) w1 = some ((fl, env'), w') := h2
        split at h2
        · rename_i hl
          obtain ⟨e, rfl⟩ := pure_get h2
          cases e
          refine ⟨a, vs', v, rfl, rfl, ha', by rw [ra'.length, ← line_eq]; exact hl, ?_⟩
          obtain ⟨I2, E2⟩ := I1.mut (ys := xs ++ [y]) (us := vs' ++ [v]) q ea (ra'.append (.cons (by rw [hK]; exact r1) .nil))
          exact F σ _ I2 ((Eff.of_keep (env1 := env) (σ1 := σ) k1 fun _ h => h).trans E2)
        · cases h2
      | _ => cases h2⟩)

/-- xs[k] = e -/
theorem psv_setItem {i : Nat} {x : Str} {b : Expr} {tb : TE} {k : EF} {px spos : Pos} (q : PV X false b tb k) (p : PV X true e ta f) (hN : X.N[i]? = some x) (hv : visB X.env.scope x = true) (hd : dunB x = true)
    (ha : ∀ v, assign (.Subscript (.Name x px) b spos) X.env v = (do
      let ov ← holding [v] (eval (.Name x px) X.env)
      let iv ← holding [v, ov] (eval b X.env)
      standAt spos
      holding [v, ov, iv] (setItem ov iv v)
      release [v, ov, iv] []))
    (hs : swapsWithSole [.Subscript (.Name x px) b spos] e pos.line X.env = pure false) (hw : swappedStores [.Subscript (.Name x px) b spos] e X.env = pure none)
    (h1 : (assignEach [.Subscript (.Name x px) b spos] X.env).map (·.2) = [assign (.Subscript (.Name x px) b spos) X.env]) :
    PSV X (.Assign [.Subscript (.Name x px) b spos] e pos) (tAsg ta (gSub (tVar i) tb rSetL)) (sSet i k f) :=
  ⟨ps_asg p.pe (pg_sub (pe_var hN (vis_of hv) (dun1 hd) (dun2 hd)) q.pe set_list ha) hs hw h1, fun g env w σ H D fl env' w' hK I hf F => by
    obtain ⟨y, w1, h1, h2⟩ := bind_some.mp hf
    obtain ⟨z, w2, h3, h4⟩ := bind_some.mp h2
    refine p.vw g env w σ H _ y _ hK I h1 fun v H1 k1 d1 r1 => ?_
    have I1 := I.step k1 d1
    cases qq : env[i]? with
    | none => rw [qq] at h4; cases h4
    | some s =>
      rw [qq] at h4
      cases s with
      | ow xs =>
        obtain ⟨a, vs, ea, ha, ra, n0, nt⟩ := I1.ow i xs qq
        refine ⟨_, ea, ?_⟩
        refine q.vw g env _ σ H1 _ z _ hK I1 h3 fun u H2 k2 d2 r2 => ?_
        have I2 := I1.step k2 d2
        obtain ⟨a', vs', ea', ha', ra', _, _⟩ := I2.ow i xs qq
        rw [ea] at ea'
        cases ea'
        cases z with
        | int z =>
          cases r2
          have h4 : (match VE.ixN xs.length z with | some j => pure (Fl.nx, env.set i (.ow (xs.set j y))) | none => fail : M (Fl × En)) w2 = some ((fl, env'), w') := h4
          cases hj : VE.ixN xs.length z with
          | none => rw [hj] at h4; cases h4
          | some j =>
            rw [hj] at h4
            obtain ⟨e, rfl⟩ := pure_get h4
            cases e
            refine ⟨a, vs', z, j, rfl, rfl, ha', by rw [ra'.length]; exact hj, ?_⟩
            obtain ⟨I3, E3⟩ := I2.mut (ys := xs.set j y) (us := vs'.set j v) qq ea (ra'.set j (by rw [hK]; exact r1.keep k2))
            exact F σ _ I3 ((Eff.of_keep (env1 := env) (σ1 := σ) (k1.trans k2) fun _ h => h).trans E3)
        | _ => cases h4
      | _ => cases h4⟩
end
end VE

namespace VE
open PySem PySem.Spec L2
open PyProof.Rows hiding St
/-! ### loops -/
section
variable {X : Cx} {K : PySem.W.Frag} {m : Bool} {tg iter c : Expr} {body : List Stmt} {wi : TI} {fi : IF} {gt : TG} {ft : GF} {tt : TT} {fT : TF} {tb : TS} {fb : SF} {vs : List Nat} {pos : Pos}
theorem vw_for (pi : VwI K true wi fi) (pg : VwG K vs gt ft) (pb : VwS K tb fb) : VwS K (tFor wi gt tb) (sFor fi ft fb) := fun g env w σ H D fl envF wF hK I hf F => by
  obtain ⟨xs, w1, h1, h2⟩ := bind_some.mp hf
  refine pi g env w σ H _ xs _ hK I h1 fun J H1 k1 d1 wk => ?_
  have I1 := I.step k1 d1
  have F1 := F.after (Eff.of_keep (env1 := env) (σ1 := σ) k1 fun _ h => h)
  refine ⟨fun i n σ' H' => n = xs.length - i ∧ i ≤ xs.length ∧ ∃ (ei : En) (wi : W), StOk g ei wi σ' H' ∧ Eff g env σ H1 ei σ' H' ∧ sFor.go ft fb (xs.drop i) ei wi = some ((fl, envF), wF), ⟨xs.length, by simp, Nat.zero_le _, env, w1, I1, Eff.refl, by rw [List.drop_zero]; exact h2⟩, ?_⟩
  rintro i n σ2 H2 ⟨rfl, hi, ei, wi, I2, E2, hc⟩
  have stay : Keep (av g true env σ) H1 H2 := ⟨fun a o n e => E2.at_ a o (fun z => n (av_z z)) (fun z => n (.inr ⟨rfl, z⟩)) e, E2.live⟩
  obtain ⟨walk, stop⟩ := wk H2 stay
  by_cases hlt : i < xs.length
  · right
    obtain ⟨go, yl⟩ := walk i xs[i] (List.getElem?_eq_getElem hlt)
    have hdrop : xs.drop i = xs[i] :: xs.drop (i + 1) := List.drop_eq_getElem_cons hlt
    rw [hdrop] at hc
    unfold sFor.go at hc
    obtain ⟨env1, w3, h5, h6⟩ := bind_some.mp hc
    obtain ⟨e5, rfl⟩ := lift_get h5
    obtain ⟨⟨fl2, env2⟩, w4, h7, h8⟩ := bind_some.mp h6
    refine ⟨go, fun σ' H' => ∃ m', m' < xs.length - i ∧ (m' = xs.length - (i + 1) ∧ i + 1 ≤ xs.length ∧ ∃ (ei : En) (wi : W), StOk g ei wi σ' H' ∧ Eff g env σ H1 ei σ' H' ∧ sFor.go ft fb (xs.drop (i + 1)) ei wi = some ((fl, envF), wF)), fun _ _ h => h, fun v H3 y => ?_⟩
    obtain ⟨sm, rv⟩ := yl v H3 y
    have k3 : Keep g.Z H2 H3 := Keep.of_same sm
    have I3 := I2.step k3 (I2.same sm)
    have rv' : Rep K (av g true ei σ2) H3 v xs[i] := rv.mon (fun _ _ _ e => e) fun a h => by
      rcases h with h | ⟨_, h⟩
      · exact .inl (.inl h)
      · rcases E2.own a h with z | z
        · exact .inl (.inr ⟨rfl, z⟩)
        · exact .inr ⟨z, I2.owLive h⟩
    refine pg g ei _ σ2 H3 v xs[i] env1 _ hK I3 rv' e5 fun σ4 I4 o4 _ _ => ?_
    have E4 : Eff g env σ H1 env1 σ4 H3 := E2.trans (Eff.of_keep k3 o4)
    refine pb g env1 _ σ4 H3 _ fl2 env2 w4 hK I4 h7 ?_
    cases fl2 with
    | nx => exact fun σ' H' I' E' => ⟨xs.length - (i + 1), by omega, rfl, hlt, env2, w4, I', E4.trans E', h8⟩
    | ct => exact fun σ' H' I' E' => ⟨xs.length - (i + 1), by omega, rfl, hlt, env2, w4, I', E4.trans E', h8⟩
    | bk =>
      obtain ⟨e, rfl⟩ := pure_get h8
      cases e
      exact fun σ' H' I' E' => F1 σ' H' I' (E4.trans E')
    | rt x =>
      obtain ⟨e, rfl⟩ := pure_get h8
      cases e
      exact F1
  · left
    have e : i = xs.length := by omega
    subst e
    rw [List.drop_length] at hc
    unfold sFor.go at hc
    obtain ⟨e, rfl⟩ := pure_get hc
    cases e
    exact ⟨stop, F1 σ2 H2 I2 E2⟩
theorem psv_for (hc : X.calm = true) (hi : PIV X true tg iter wi fi) (hg : PGV X tg vs gt ft) (hb : PSsV X body tb fb) (hp : PassesOwn (model X.prog X.w) X.A X.env X.xe)
    (hs : ∀ x, foldedSetIterable iter X.env x = pure x) : PSV X (.For tg iter body [] pos) (tFor wi gt tb) (sFor fi ft fb) :=
  ⟨ps_for hp hc hi.pe hg.pe hb.pe hs, vw_for hi.vw hg.vw hb.vw⟩
theorem vw_while (n : Nat) (pt : VwT K tt fT) (pb : VwS K tb fb) : VwS K (tWhile tt tb) (sWhile n fT fb) := fun g env w σ H D fl envF wF hK I hf F => by
  refine ⟨fun n σ' H' => ∃ (ei : En) (wi : W), StOk g ei wi σ' H' ∧ Eff g env σ H ei σ' H' ∧ sWhile.go fT fb n ei wi = some ((fl, envF), wF), ⟨n, env, w, I, Eff.refl, hf⟩, ?_⟩
  rintro n σ2 H2 ⟨ei, wi, I2, E2, hc⟩
  cases n with
  | zero => cases hc
  | succ n =>
    unfold sWhile.go at hc
    obtain ⟨b, w1, h1, h2⟩ := bind_some.mp hc
    refine pt g ei wi σ2 H2 _ b _ hK I2 h1 fun H3 k3 d3 => ?_
    have I3 := I2.step k3 d3
    have E3 : Eff g env σ H ei σ2 H3 := E2.trans (Eff.of_keep k3 fun _ h => h)
    cases b with
    | false =>
      rw [if_neg Bool.false_ne_true] at h2
      rw [if_neg Bool.false_ne_true]
      obtain ⟨e, rfl⟩ := pure_get h2
      cases e
      exact F σ2 H3 I3 E3
    | true =>
      rw [if_pos rfl] at h2
      rw [if_pos rfl]
      obtain ⟨⟨fl2, env2⟩, w4, h7, h8⟩ := bind_some.mp h2
      refine ⟨fun σ' H' => ∃ m', m' < n + 1 ∧ ∃ (ei : En) (wi : W), StOk g ei wi σ' H' ∧ Eff g env σ H ei σ' H' ∧ sWhile.go fT fb m' ei wi = some ((fl, envF), wF), fun _ _ h => h, ?_⟩
      refine pb g ei w1 σ2 H3 _ fl2 env2 w4 hK I3 h7 ?_
      cases fl2 with
      | nx => exact fun σ' H' I' E' => ⟨n, Nat.lt_succ_self _, env2, w4, I', E3.trans E', h8⟩
      | ct => exact fun σ' H' I' E' => ⟨n, Nat.lt_succ_self _, env2, w4, I', E3.trans E', h8⟩
      | bk =>
        obtain ⟨e, rfl⟩ := pure_get h8
        cases e
        exact fun σ' H' I' E' => F σ' H' I' (E3.trans E')
      | rt x =>
        obtain ⟨e, rfl⟩ := pure_get h8
        cases e
        exact F
theorem psv_while {n : Nat} (hc : PTV X c tt fT) (hb : PSsV X body tb fb) (hp : PassesOwn (model X.prog X.w) X.A X.env X.xe) : PSV X (.While c body [] pos) (tWhile tt tb) (sWhile n fT fb) :=
  ⟨ps_while hp hc.pe hb.pe, vw_while n hc.vw hb.vw⟩
end

/-! ### a def -/
theorem start_get {N : List Str} {vs : List V} {i : Nat} {v : V} (h : vs[i]? = some v) : (L2.start N vs)[i]? = some (some v) := by
  unfold L2.start
  have hl := (List.getElem?_eq_some_iff.mp h).1
  rw [List.getElem?_append_left (by rw [List.length_map]; exact hl), List.getElem?_map, h]
  rfl
theorem stok_start {K : PySem.W.Frag} {T : Addr → Prop} {H : Hp} {vs : List V} {xs : List PyData} {N : List Str} {nl : Nat} (lv : ∀ a, T a → H a ≠ none) (r : Reps K T H vs xs) (hN : N.length - vs.length = nl) (w : W) :
    StOk { K := K, Z := fun _ => False, T := T, H0 := H, sd := 0, sc := 0, kd := 0, one := fun h => (nomatch h), two := fun h => (nomatch h), dr := fun _ _ => True, zt := fun _ h => h.elim, drk := fun _ _ _ _ _ => trivial } (xs.map Slot.sh ++ List.replicate nl Slot.no) w (L2.start N vs) H := by
  have slot : ∀ (i : Nat) s, (xs.map Slot.sh ++ List.replicate nl Slot.no)[i]? = some s → (∃ x, s = .sh x ∧ xs[i]? = some x) ∨ s = .no := fun i s h => by
    by_cases hi : i < xs.length
    · rw [List.getElem?_append_left (by rw [List.length_map]; exact hi), List.getElem?_map] at h
      cases q : xs[i]? with
      | none => rw [q] at h; cases h
      | some x => rw [q] at h; exact .inl ⟨x, (Option.some.inj h).symm, rfl⟩
    · rw [List.getElem?_append_right (by rw [List.length_map]; omega)] at h
      exact .inr (List.eq_of_mem_replicate (List.mem_of_getElem? h))
  have noown : ∀ a, ¬ ownA (xs.map Slot.sh ++ List.replicate nl Slot.no) (L2.start N vs) a := fun a ⟨i, ys, h, _⟩ => by
    rcases slot i _ h with ⟨x, e, _⟩ | e <;> cases e
  refine ⟨?_, fun i x h => ?_, fun i ys h => ?_, fun i kk h => ?_, fun i ns h => ?_, fun i j ys zs a h _ _ _ => ?_, lv, Keep.refl _ _, trivial⟩
  · unfold L2.start
    rw [List.length_append, List.length_append, List.length_map, List.length_map, List.length_replicate, List.length_replicate, r.length]
    rw [r.length] at hN
    omega
  · rcases slot i _ h with ⟨x', e, hx⟩ | e
    · cases e
      obtain ⟨v, hv, rv⟩ := r.get hx
      exact ⟨v, start_get hv, rv.mon (fun _ _ _ e => e) fun a z => z.elim id fun z => (noown a z.2).elim⟩
    · cases e
  · rcases slot i _ h with ⟨x, e, _⟩ | e <;> cases e
  · rcases slot i _ h with ⟨x, e, _⟩ | e <;> cases e
  · rcases slot i _ h with ⟨x, e, _⟩ | e <;> cases e
  · rcases slot i _ h with ⟨x, e, _⟩ | e <;> cases e
theorem runDef_get {np nl : Nat} {body : SF} {xs : List PyData} {y : PyData} (h : runDef np nl body xs = some y) :
    xs.length = np ∧ ∃ fl env' w', body (xs.map .sh ++ List.replicate nl .no) ⟨0, []⟩ = some ((fl, env'), w') ∧ (fl = .rt y ∨ (fl = .nx ∧ y = .none)) := by
  unfold runDef at h
  split at h
  · rename_i hl
    refine ⟨hl, ?_⟩
    split at h
    · rename_i v env' w' e
      cases h
      exact ⟨_, env', w', e, .inl rfl⟩
    · rename_i env' w' e
      cases h
      exact ⟨_, env', w', e, .inr ⟨rfl, rfl⟩⟩
    · cases h
  · cases h
section
variable {P : Program} {w : World} {K : PySem.W.Frag} {mg : Str → Option Value} {base : Heap}
/-- a def keeps the promise that its mirror makes -/
theorem fn_def {x qual : Str} {st : Stmt} {f : Addr} {fd : FuncData} {N ps : List Str} {k : Nat} {np nl : Nat} {fb : SF} (F : Fun K x qual st f fd) (S : FnScope N ps (defScope st)) (hnp : ps.length = np) (hnl : N.length - np = nl)
    (hb : ∀ (cdv : Value) (A : Around) (outer : List Env) (s : Shared) (H : Hp) (E : XK), Room k (A.deeper (envOfC qual (defScope st) s.heap.objs.size f cdv)) → ∃ t, PSsV (cxOf CX0 P w K mg base N qual (defScope st) f cdv A outer s H E).nox (defBody st) t fb) :
    FnOk P w K mg base CX0 (k + 1) f fd ps (vsp K (runDef np nl fb)) := by
  refine F.ok S (fun vs H Q E h => ?_) (fun cdv A outer s H vs Q E hr h => ?_)
  · obtain ⟨T, xs, y, _, r, hF, _⟩ := h
    rw [r.length, (runDef_get hF).1, hnp]
  · obtain ⟨t, p⟩ := hb cdv A outer s H E hr
    obtain ⟨T, xs, y, lv, r, hF, q⟩ := h
    obtain ⟨hl, fl, env', w', e, hfl⟩ := runDef_get hF
    refine ⟨t, p.pe, ?_⟩
    refine p.vw _ _ _ (L2.start N vs) H _ fl env' w' ?_ (stok_start lv r (by rw [r.length, hl]; exact hnl) ⟨0, []⟩) e ?_
    · rfl
    rcases hfl with rfl | ⟨rfl, rfl⟩
    · exact fun v H' k _ rv => q v H' (fun a o e => k.at_ a o (fun z => z) e) rv
    · exact fun σ' H' I' E' => q .non H' (fun a o e => I'.keep.at_ a o (fun z => z) e) .non
theorem cal_mk {x : Str} {f : Addr} {fd : FuncData} {ps : List Str} {k : Nat} {F : List PyData → Option PyData} (G : FnOk P w K mg base CX0 k f fd ps (vsp K F)) (hm : mg x = some (.ref f)) (hk : PySem.W.keepIn K (.ref f) = true) (hb : Binds K fd ps []) : Cal P w K mg base x k F := ⟨f, fd, ps, G, hm, hk, hb⟩
theorem Cal.mono {x : Str} {k j : Nat} {F : List PyData → Option PyData} (c : Cal P w K mg base x k F) (h : k ≤ j) : Cal P w K mg base x j F := by
  obtain ⟨f, fd, ps, G, a⟩ := c.ex
  exact ⟨f, fd, ps, G.mono h, a⟩
end
end VE

namespace VE
open PySem
/-! the first lines of _law_state -/
def stateB1 : SF := sOwn 1 (xComp [2] (iLst (xAs (xCutZ 0 oNo (oSome (xC (.int 63)))))) (gNm 2) tYesF (xCall fAbs (xCons (xVar 2) xNil)))
def stateB2 : SF := sIf (xTest (xOp fEq (xCall fLen (xCons (xVarO 1) xNil)) (xC (.int 0)))) (sOwn 1 (xLst (xCons (xC (.int 0)) xNil))) sPass
theorem state_comp (ns : List Int) (env : En) (a b : Slot) (he : env = [.fz ns, a, .no]) : ∀ xs : List Int, compL (gNm 2) tYesF (xCall fAbs (xCons (xVar 2) xNil)) env (xs.map .int) = pure ((xs.map fun i => if i < 0 then -i else i).map .int)
  | [] => rfl
  | x :: r => by
    subst he
    rw [List.map_cons, compL, state_comp ns _ a b rfl r]
    rfl
theorem cut63 (ns : List Int) : cut (ns.map PyData.int) none (some 63) = (ns.take 63).map PyData.int := by
  have e : cut (ns.map PyData.int) none (some 63) = ((ns.map PyData.int).drop 0).take (min 63 (ns.map PyData.int).length - 0) := rfl
  rw [e, List.drop_zero, Nat.sub_zero, List.length_map]
  by_cases h : ns.length ≤ 63
  · rw [Nat.min_eq_right h, List.take_of_length_le (by rw [List.length_map]; exact Nat.le_refl _), List.take_of_length_le h]
  · rw [Nat.min_eq_left (by omega), List.map_take]
theorem stt_bind {α β : Type} (a : α) (k : α → M β) : ((pure a : M α) >>= k) = k a := pure_bind a k
theorem state_run (ns : List Int) : (sSeq stateB1 stateB2) [.fz ns, .no, .no] = pure (.nx, [.fz ns, .ow ((stateCells ns).map .int), .no]) := by
  have h1 : stateB1 [.fz ns, .no, .no] = pure (.nx, [.fz ns, .ow (((ns.take 63).map fun i => if i < 0 then -i else i).map .int), .no]) := by
    have e0 : (iLst (xAs (xCutZ 0 oNo (oSome (xC (.int 63)))))) [.fz ns, .no, .no] = pure (cut (ns.map PyData.int) none (some 63)) := rfl
    have hl : ((ns.take 63).map PyData.int).length ≤ line := by
      rw [List.length_map, List.length_take]
      exact Nat.le_trans (Nat.min_le_left _ _) (by decide)
    unfold stateB1 sOwn xComp
    simp only [e0, stt_bind, cut63]
    have ew : wipeE [Slot.fz ns, .no, .no] [2] = some [.fz ns, .no, .no] := rfl
    rw [ew]
    simp only [lift_some, stt_bind, if_pos hl, state_comp ns [.fz ns, .no, .no] .no .no rfl]
    rfl
  unfold sSeq
  simp only [h1, stt_bind]
  unfold stateB2 sIf
  generalize hc : (ns.take 63).map (fun i => if i < 0 then -i else i) = c
  have ec : stateCells ns = if c.length = 0 then [0] else c := by unfold stateCells; rw [hc]
  rw [ec]
  cases c with
  | nil => rfl
  | cons x r =>
    have et : (xTest (xOp fEq (xCall fLen (xCons (xVarO 1) xNil)) (xC (.int 0)))) [.fz ns, .ow ((x :: r).map .int), .no] = pure false := by
      have : (xOp fEq (xCall fLen (xCons (xVarO 1) xNil)) (xC (.int 0))) [.fz ns, .ow ((x :: r).map .int), .no] = lift (fEq (.int ((x :: r).map PyData.int).length) (.int 0)) := rfl
      unfold xTest
      rw [this]
      have e2 : fEq (.int ((x :: r).map PyData.int).length) (.int 0) = some (.bool false) := by
        unfold fEq
        have s1 : (shp (.int ((x :: r).map PyData.int).length) && shp (.int 0)) = true := rfl
        rw [if_pos s1]
        have : PyData.eqv (.int ((x :: r).map PyData.int).length) (.int 0) = decide ((((x :: r).map PyData.int).length : Int) = 0) := by
          unfold PyData.eqv
          exact Bool.beq_eq_decide_eq _ _
        rw [this, decide_eq_false]
        rw [List.length_map, List.length_cons]
        omega
      rw [e2]
      rfl
    rw [if_neg (by rw [List.length_cons]; omega)]
    simp only [et, stt_bind]
    rfl
end VE

namespace VE
open PySem PySem.Spec L2
open PyProof.Rows hiding St
/-! ### the law's draws: _law_take(state, most) -/
def spTake (K : PySem.W.Frag) : Sp := fun vs H Q _ => ∃ (D C : Addr) (w : W) (most r : Int) (w' : W), vs = [.ref D, .int most] ∧ D ≠ C ∧ H D = some (.lst [.int w.pos, .ref C]) ∧ H C = some (.lst (w.cells.map V.int)) ∧
  takeW most w = some (r, w') ∧ ∀ H', (∀ a o, a ≠ D → a ≠ C → H a = some o → H' a = some o) → (∀ a, H a ≠ none → H' a ≠ none) → H' D = some (.lst [.int w'.pos, .ref C]) → H' C = some (.lst (w'.cells.map V.int)) → Q (.int r) H'
structure CalT (P : Program) (w : World) (K : PySem.W.Frag) (mg : Str → Option Value) (base : Heap) (x : Str) (k : Nat) : Prop where
  ex : ∃ (f : Addr) (fd : FuncData), FnOk P w K mg base CX0 k f fd ["state", "most"] (spTake K) ∧ mg x = some (.ref f) ∧ PySem.W.keepIn K (.ref f) = true ∧ Binds K fd ["state", "most"] []
theorem takeW_len {most : Int} {w w' : W} {r : Int} (h : takeW most w = some (r, w')) : w'.cells.length = w.cells.length := by
  unfold takeW at h
  split at h
  · dsimp only at h
    split at h
    · cases h
    · split at h
      · cases h; simp
      · cases h; rfl
  · cases h
section
variable {X : Cx} {m : Bool} {i : Nat} {ta : TE} {f : EF} {e : Expr} {pos p px : Pos} {K : PySem.W.Frag}
theorem pv_take {x y : Str} {n : Nat} {KK : PySem.W.Frag} (hKK : X.K = KK) (c : CalT X.prog X.w X.K X.mg X.base x n) (hr : Room n X.A) (q : PV X false e ta f) (hN : X.N[i]? = some y) (hv : visB X.env.scope y = true) (hd : dunB y = true) (hg : Gl X x) (hdb : (x == ("__debug__" : Str)) = false)
    (hst : starEach [e] X.env = (false, eval e X.env) :: starEach [] X.env) (he : starEach [.Name y px, e] X.env = (false, eval (.Name y px) X.env) :: starEach [e] X.env) (hpl : (backTo pos (starEach [e] X.env)).any (·.1) = false) :
    PV X m (.Call (.Name x p) [.Name y px, e] [] pos) (tCall (spTake KK) [] E0 (tCons (tVar i) (tCons ta tNil))) (xTake i f) := by
  subst hKK
  obtain ⟨fa, fd, G, mgf, kp, bi⟩ := c.ex
  refine ⟨pe_call G hr hg mgf kp bi .nil pass0 (pa_cons (pe_var hN (vis_of hv) (dun1 hd) (dun2 hd)) (pa_cons q.pe pa_nil hst) he) hdb he hpl, fun g env w σ H Q x w' hK I hf k => ?_⟩
  obtain ⟨z, w1, h1, h2⟩ := bind_some.mp hf
  cases es : env[i]? with
  | none => rw [es] at h2; cases h2
  | some s =>
    rw [es] at h2
    cases s with
    | st kk =>
      by_cases hk : kk = 1
      · subst hk
        cases z with
        | int most =>
          obtain ⟨r, w2, h3, h4⟩ := bind_some.mp (show (takeW most >>= fun r => pure (PyData.int r)) w1 = some (x, w') from h2)
          obtain ⟨rfl, rfl⟩ := pure_get h4
          obtain ⟨eσ, ek⟩ := I.st i 1 es
          obtain ⟨hZ, hne, hdr⟩ := g.one ek
          refine ⟨_, eσ, ?_⟩
          refine q.vw g env w σ H _ _ _ hK I h1 fun v H1 k1 d1 r1 => ?_
          cases r1
          obtain ⟨eD, eC⟩ := (hdr _ _).mp d1
          refine ⟨g.sd, g.sc, w1, most, r, _, rfl, hne, eD, eC, h3, fun H' hs hl e1 e2 => ?_⟩
          have I1 := I.step k1 d1
          refine k _ H' (k1.trans ⟨fun a o n ea => hs a o (fun z => n ((hZ a).mpr (.inl z))) (fun z => n ((hZ a).mpr (.inr z))) ea, hl⟩) ((hdr _ _).mpr ⟨e1, e2⟩) (.int _)
        | _ => cases h2
      · exfalso
        cases kk with
        | zero => cases z <;> cases h2
        | succ k =>
          cases k with
          | zero => exact hk rfl
          | succ k => cases z <;> cases h2
    | _ => cases h2
end

/-- the script cut, a new list -/
theorem plv_cutZ {X : Cx} {m : Bool} {i : Nat} {px pos p2 : Pos} {x : Str} {lo hi : Option Expr} {tl th : TO} {fl fh : OF} {KK : PySem.W.Frag} (hKK : X.K = KK) (hN : X.N[i]? = some x) (hv : visB X.env.scope x = true) (hd : dunB x = true) (ql : POV X lo tl fl) (qh : POV X hi th fh) :
    PLV X m (.Subscript (.Name x px) (.Slice lo hi none p2) pos) (tSl (rSlL KK) (tVar i) tl th) (xCutZ i fl fh) := by
  subst hKK
  refine ⟨pe_slice sl_list (pe_var hN (vis_of hv) (dun1 hd) (dun2 hd)) ql.pe qh.pe, fun g env w σ H Q x w' hK I hf k => ?_⟩
  obtain ⟨l, w2, h3, h4⟩ := bind_some.mp hf
  obtain ⟨u, w3, h5, h6⟩ := bind_some.mp h4
  cases es : env[i]? with
  | none => rw [es] at h6; cases h6
  | some s =>
    rw [es] at h6
    cases s with
    | fz ns =>
      obtain ⟨rfl, rfl⟩ := pure_get h6
      obtain ⟨a, ea, _⟩ := I.fz i ns es
      refine ⟨_, ea, ?_⟩
      refine ql.vw g env _ σ H _ l _ hK I h3 fun H2 k2 d2 => ?_
      refine qh.vw g env _ σ H2 _ u _ hK (I.step k2 d2) h5 fun H3 k3 d3 => ?_
      have I3 := (I.step k2 d2).step k3 d3
      obtain ⟨a', ea', la⟩ := I3.fz i ns es
      rw [ea] at ea'
      cases ea'
      refine ⟨_, _, rfl, by rw [← hK]; exact la.sq, fun q hq => ?_⟩
      obtain ⟨k4, d4⟩ := I3.new (o := .lst (cutV (ns.map V.int) l u)) hq
      refine k q _ _ ?_ ((k2.trans k3).trans k4) d4 upd_same (cut_rep l u (Reps.ints_map ns))
      cases z : H q with
      | none => rfl
      | some o => exact absurd hq ((k2.trans k3).live q (by rw [z]; simp))
    | _ => cases h6
/-- _law_state(script): a new list of 0 and a new list of cells -/
def spState (K : PySem.W.Frag) : Sp := fun vs H Q _ => ∃ (a : Addr) (ns : List Int), vs = [.ref a] ∧ SqL K H a (ns.map V.int) ∧ ns.length ≤ 63 ∧
  ∀ H' D C, Same H H' → H D = none → H C = none → D ≠ C → H' D = some (.lst [.int 0, .ref C]) → H' C = some (.lst ((stateCells ns).map V.int)) → Q (.ref D) H'
structure CalS (P : Program) (w : World) (K : PySem.W.Frag) (mg : Str → Option Value) (base : Heap) (x : Str) (k : Nat) : Prop where
  ex : ∃ (f : Addr) (fd : FuncData), FnOk P w K mg base CX0 k f fd ["script"] (spState K) ∧ mg x = some (.ref f) ∧ PySem.W.keepIn K (.ref f) = true ∧ Binds K fd ["script"] []
/-- a law's promise -/
def spLaw (K : PySem.W.Frag) : Sp := fun vs H Q _ => ∃ (a : Addr) (ns : List Int), vs = [.ref a] ∧ SqL K H a (ns.map V.int) ∧ ns.length ≤ 63 ∧ ∀ H', Q (.bl true) H'
end VE

namespace VE
open PySem PySem.Spec L2
open PyProof.Rows hiding St
section
variable {P : Program} {w : World} {K : PySem.W.Frag} {mg : Str → Option Value} {base : Heap}
theorem lstAt_of {K : PySem.W.Frag} {T : Addr → Prop} {H : Hp} {a : Addr} {vs : List V} (h : SqL K H a vs) (n : ∀ o, H a = some o → ¬ T a) : LstAt K T H a vs := by
  rcases h with h | h
  · rcases h with h | ⟨o, h⟩
    · exact .inl ⟨n _ h, .inl h⟩
    · exact .inl ⟨n _ h, .inr ⟨o, h⟩⟩
  · exact .inr h
/-- _law_state: its two first lines by the layer, its return by hand -/
theorem state_ok {f : Addr} {fd : FuncData} {st s1 s2 s3 : Stmt} (F : Fun K "_law_state" "_law_state" st f fd) (S : FnScope ["script", "cells", "cell"] ["script"] (defScope st)) (hb : defBody st = [s1, s2, s3])
    (h1 : ∀ (cdv : Value) (A : Around) (outer : List Env) (s : Shared) (H : Hp) (E : XK), Room 0 (A.deeper (envOfC "_law_state" (defScope st) s.heap.objs.size f cdv)) → ∃ t1 t2, PSV (cxOf CX0 P w K mg base ["script", "cells", "cell"] "_law_state" (defScope st) f cdv A outer s H E).nox s1 t1 stateB1 ∧ PSV (cxOf CX0 P w K mg base ["script", "cells", "cell"] "_law_state" (defScope st) f cdv A outer s H E).nox s2 t2 stateB2 ∧
      PS (cxOf CX0 P w K mg base ["script", "cells", "cell"] "_law_state" (defScope st) f cdv A outer s H E).nox s3 (tRet (tLst (tCons (tC (.int 0)) (tCons (tVar 1) tNil))))) :
    FnOk P w K mg base CX0 1 f fd ["script"] (spState K) := by
  refine F.ok S (fun vs H Q E h => ?_) (fun cdv A outer s H vs Q E hr h => ?_)
  · obtain ⟨_, _, rfl, _⟩ := h; rfl
  obtain ⟨t1, t2, p1, p2, p3⟩ := h1 cdv A outer s H E hr
  obtain ⟨a, ns, rfl, hS, hl, q⟩ := h
  rw [hb]
  refine ⟨_, pss_cons p1.pe (pss_cons p2.pe (pss_one p3)), ?_⟩
  have run := congrFun (state_run ns) ⟨0, []⟩
  have run : (sSeq stateB1 stateB2) [.fz ns, .no, .no] ⟨0, []⟩ = some ((.nx, [.fz ns, .ow ((stateCells ns).map .int), .no]), ⟨0, []⟩) := run
  obtain ⟨⟨fl1, env1⟩, w1, r1, r2⟩ := bind_some.mp run
  generalize hg : ({ K := K, Z := fun _ => False, T := fun _ => False, H0 := H, sd := 0, sc := 0, kd := 0, one := fun h => (nomatch h), two := fun h => (nomatch h), dr := fun _ _ => True, zt := fun _ h => h.elim, drk := fun _ _ _ _ _ => trivial } : Gh) = g
  have gK : g.K = K := by rw [← hg]
  have gH : g.H0 = H := by rw [← hg]
  have gZ : ∀ a, ¬ g.Z a := by intro a z; rw [← hg] at z; exact z
  have I0 : StOk g [.fz ns, .no, .no] ⟨0, []⟩ [some (.ref a), none, none] H := by
    subst hg
    refine ⟨rfl, fun i x h => ?_, fun i xs h => ?_, fun i k h => ?_, fun i ms h => ?_, fun i j xs ys b h => ?_, fun _ h => h.elim, Keep.refl _ _, trivial⟩
    · rcases i with _ | _ | _ | i <;> simp at h
    · rcases i with _ | _ | _ | i <;> simp at h
    · rcases i with _ | _ | _ | i <;> simp at h
    · rcases i with _ | _ | _ | i <;> simp at h
      subst h
      refine ⟨a, rfl, lstAt_of hS fun o _ z => ?_⟩
      rcases z with z | ⟨_, j, xs, z, _⟩
      · exact z
      · rcases j with _ | _ | _ | j <;> simp at z
    · rcases i with _ | _ | _ | i <;> simp at h
  refine p1.vw g _ _ [some (.ref a), none, none] H _ fl1 env1 w1 gK I0 r1 ?_
  cases fl1 with
  | nx =>
    intro σ1 H1 I1 E1
    refine p2.vw g env1 w1 σ1 H1 _ .nx _ ⟨0, []⟩ gK I1 r2 ?_
    intro σ2 H2 I2 E2
    obtain ⟨C, us, eC, hC, ru, nC, _⟩ := I2.ow 1 _ rfl
    have eu : us = (stateCells ns).map V.int := by
      have hi : asInts ((stateCells ns).map PyData.int) = some (stateCells ns) := by
        generalize stateCells ns = c
        induction c with
        | nil => rfl
        | cons x r ih => rw [List.map_cons, asInts, ih]; rfl
      exact (ru.of_ints hi).1
    subst eu
    refine ⟨_, eC, by show 2 ≤ sizeLine; rw [sizeLine_eq]; decide, fun D hD => ?_⟩
    have sm : Same H H2 := fun b o e => I2.keep.at_ b o (gZ b) (by rw [gH]; exact e)
    have ne : D ≠ C := fun z => by subst z; rw [hD] at hC; cases hC
    refine q _ D C (sm.trans (upd_new hD)) ?_ ?_ ne upd_same (by rw [upd_ne ne.symm]; exact hC)
    · cases z : H D with
      | none => rfl
      | some o => rw [sm D o z] at hD; cases hD
    · rw [← gH]; exact nC
  | bk => obtain ⟨e, _⟩ := pure_get r2; cases e
  | ct => obtain ⟨e, _⟩ := pure_get r2; cases e
  | rt x => obtain ⟨e, _⟩ := pure_get r2; cases e
def lawGh (K : PySem.W.Frag) (D C : Addr) (H : Hp) (hne : D ≠ C) : Gh :=
  { K := K, Z := fun b => b = D ∨ b = C, T := fun b => b = D ∨ b = C, H0 := H, sd := D, sc := C, kd := 1, dr := fun w H => H D = some (.lst [.int w.pos, .ref C]) ∧ H C = some (.lst (w.cells.map V.int)), zt := fun _ h => h, drk := fun w H1 H2 h e => ⟨by rw [e D (.inl rfl)]; exact h.1, by rw [e C (.inr rfl)]; exact h.2⟩, one := fun _ => ⟨fun _ => Iff.rfl, hne, fun _ _ => Iff.rfl⟩, two := fun h => absurd h (by decide) }
/-- a law that draws by _law_take -/
theorem law_ok {f : Addr} {fd : FuncData} {st s1 : Stmt} {rest : List Stmt} {N : List Str} {k i : Nat} {fb : SF} (F : Fun K "law" "law" st f fd) (S : FnScope N ["script"] (defScope st)) (hb : defBody st = s1 :: rest) (hi : 0 < i ∧ i < N.length)
    (h1 : ∀ (cdv : Value) (A : Around) (outer : List Env) (s : Shared) (H : Hp) (E : XK), Room k (A.deeper (envOfC "law" (defScope st) s.heap.objs.size f cdv)) →
      PS (cxOf CX0 P w K mg base N "law" (defScope st) f cdv A outer s H E).nox s1 (tAsg (tCall (spState K) [] E0 (tCons (tVar 0) tNil)) (gName i)) ∧ ∃ t, PSsV (cxOf CX0 P w K mg base N "law" (defScope st) f cdv A outer s H E).nox rest t fb)
    (run : ∀ ns : List Int, ns.length ≤ 63 → ∃ env' w', fb ((Slot.fz ns :: List.replicate (N.length - 1) Slot.no).set i (.st 1)) ⟨0, stateCells ns⟩ = some ((.rt (.bool true), env'), w')) :
    FnOk P w K mg base CX0 (k + 1) f fd ["script"] (spLaw K) := by
  refine F.ok S (fun vs H Q E h => ?_) (fun cdv A outer s H vs Q E hr h => ?_)
  · obtain ⟨_, _, rfl, _⟩ := h; rfl
  obtain ⟨p1, t, p2⟩ := h1 cdv A outer s H E hr
  obtain ⟨a, ns, rfl, hS, hl, q⟩ := h
  rw [hb]
  refine ⟨_, pss_cons p1 p2.pe, ?_⟩
  refine ⟨.ref a, rfl, a, ns, rfl, hS, hl, fun H' D C sm hD hC hne eD eC => ?_⟩
  obtain ⟨env', w', hrun⟩ := run ns hl
  have nD : ∀ o, H a = some o → a ≠ D := fun o e z => by subst z; rw [hD] at e; cases e
  have nC : ∀ o, H a = some o → a ≠ C := fun o e z => by subst z; rw [hC] at e; cases e
  have slot : ∀ (j : Nat) s, ((Slot.fz ns :: List.replicate (N.length - 1) Slot.no).set i (.st 1))[j]? = some s → (j = i ∧ s = .st 1) ∨ (j = 0 ∧ s = .fz ns) ∨ s = .no := fun j s h => by
    rcases set_get h with h | ⟨hj, h⟩
    · exact .inl h
    · cases j with
      | zero => exact .inr (.inl ⟨rfl, by simpa using h.symm⟩)
      | succ j =>
        rw [List.getElem?_cons_succ] at h
        exact .inr (.inr (List.eq_of_mem_replicate (List.mem_of_getElem? h)))
  have hst : L2.start N [.ref a] = some (.ref a) :: List.replicate (N.length - 1) none := rfl
  have noown : ∀ b, ¬ ownA ((Slot.fz ns :: List.replicate (N.length - 1) Slot.no).set i (.st 1)) ((L2.start N [.ref a]).set i (some (.ref D))) b := fun b ⟨j, xs, h, _⟩ => by
    rcases slot j _ h with ⟨_, e⟩ | ⟨_, e⟩ | e <;> cases e
  refine p2.vw (lawGh K D C H' hne) _ ⟨0, stateCells ns⟩ _ H' _ (.rt (.bool true)) env' w' rfl ?_ hrun ?_
  · refine ⟨?_, fun j x h => ?_, fun j xs h => ?_, fun j k h => ?_, fun j ms h => ?_, fun j j2 xs ys b h => ?_, fun b h => ?_, Keep.refl _ _, eD, eC⟩
    · rw [hst]; simp
    · rcases slot j _ h with ⟨_, e⟩ | ⟨_, e⟩ | e <;> cases e
    · rcases slot j _ h with ⟨_, e⟩ | ⟨_, e⟩ | e <;> cases e
    · rcases slot j _ h with ⟨e1, e⟩ | ⟨_, e⟩ | e
      · cases e
        subst e1
        refine ⟨?_, rfl⟩
        rw [List.getElem?_set_self (by rw [hst, List.length_cons, List.length_replicate]; omega)]
        rfl
      · cases e
      · cases e
    · rcases slot j _ h with ⟨_, e⟩ | ⟨e1, e⟩ | e
      · cases e
      · cases e
        subst e1
        refine ⟨a, ?_, (lstAt_of (T := av (lawGh K D C H' hne) true ((Slot.fz ns :: List.replicate (N.length - 1) Slot.no).set i (.st 1)) ((L2.start N [.ref a]).set i (some (.ref D)))) hS fun o e z => ?_).mono (fun b o _ e => sm b o e) fun _ z => z⟩
        · rw [List.getElem?_set_ne (by omega), hst]
          rfl
        · rcases z with (z | z) | ⟨_, z⟩
          · exact nD o e z
          · exact nC o e z
          · exact noown _ z
      · cases e
    · rcases slot j _ h with ⟨_, e⟩ | ⟨_, e⟩ | e <;> cases e
    · rcases h with h | h
      · subst h; rw [eD]; simp
      · subst h; rw [eC]; simp
  · intro v H'' _ _ rv
    cases rv
    exact q H''
end
end VE

namespace VE
open PySem
/-- works_on(week, feasts, day) -/
def works_onB : SF :=
    (sRet (xAndV (xOp fIx (xVar 0) (xOp fMod (xVar 2) (xC (.int 7)))) (xOp fNotIn (xVar 2) (xVar 1))))
def works_onF : List D → Option D := runDef 3 0 (works_onB)
/-- before(week, day, whole, mark) -/
def beforeB : SF :=
    (sSeq (sAsg (xCall fSum (xCons (xAs (xComp [3] (iLst (xVar 0)) (gNm 3) (xTruth (xVar 3)) (xC (.int 1)))) xNil)) (gNm 2))
    (sRet (xOp fAdd (xOp fMul (xOp fDiv (xVar 1) (xC (.int 7))) (xVar 2)) (xCall fSum (xCons (xAs (xComp [3] (iLst (xAs (xSlice (xVar 0) oNo (oSome (xOp fMod (xVar 1) (xC (.int 7))))))) (gNm 3) (xTruth (xVar 3)) (xC (.int 1)))) xNil)))))
def beforeF : List D → Option D := runDef 2 2 (beforeB)
/-- count(week, feasts, first, last, off, feast) -/
def countB : SF :=
    (sSeq (sAsg (xCall fLen (xCons (xAs (xComp [5] (iLst (xVar 1)) (gNm 5) (xAnd (xTest (xChain fLe fLt (xVar 2) (xVar 5) (xVar 3))) (xTruth (xOp fIx (xVar 0) (xOp fMod (xVar 5) (xC (.int 7)))))) (xVar 5))) xNil)) (gNm 4))
    (sRet (xOp fSub (xOp fSub (xCall beforeF (xCons (xVar 0) (xCons (xVar 3) xNil))) (xCall beforeF (xCons (xVar 0) (xCons (xVar 2) xNil)))) (xVar 4))))
def countF : List D → Option D := runDef 4 2 (countB)
/-- nth_day(week, feasts, day, many, low, high, middle) -/
def nth_dayB (n : Nat) : SF :=
    (sSeq (sIf (xNot (xTruth (xCall fAny (xCons (xVar 0) xNil)))) (sRet (xC .none)) sPass)
    (sSeq (sPar 4 5 (xCons (xVar 2) (xCons (xOp fAdd (xVar 2) (xC (.int 1))) xNil)))
    (sSeq (sWhile n (xTest (xOp fLe (xCall countF (xCons (xVar 0) (xCons (xVar 1) (xCons (xVar 2) (xCons (xVar 5) xNil))))) (xVar 3))) (sAsg (xOp fAdd (xVar 2) (xOp fMul (xC (.int 2)) (xOp fSub (xVar 5) (xVar 2)))) (gNm 5)))
    (sSeq (sWhile n (xTest (xOp fGt (xOp fSub (xVar 5) (xVar 4)) (xC (.int 1)))) (sSeq (sAsg (xOp fDiv (xOp fAdd (xVar 4) (xVar 5)) (xC (.int 2))) (gNm 6))
    (sIf (xTest (xOp fLe (xCall countF (xCons (xVar 0) (xCons (xVar 1) (xCons (xVar 2) (xCons (xVar 6) xNil))))) (xVar 3))) (sAsg (xVar 6) (gNm 4)) (sAsg (xVar 6) (gNm 5)))))
    (sRet (xVar 4))))))
def nth_dayF (n : Nat) : List D → Option D := runDef 4 3 (nth_dayB n)
/-- next_day(week, feasts, day) -/
def next_dayB (n : Nat) : SF :=
    (sRet (xCall (nth_dayF n) (xCons (xVar 0) (xCons (xVar 1) (xCons (xVar 2) (xCons (xC (.int 0)) xNil))))))
def next_dayF (n : Nat) : List D → Option D := runDef 3 0 (next_dayB n)
/-- last_day(week, feasts, day) -/
def last_dayB (n : Nat) : SF :=
    (sSeq (sIf (xNot (xTruth (xCall fAny (xCons (xVar 0) xNil)))) (sRet (xC .none)) sPass)
    (sSeq (sWhile n (xNot (xTruth (xCall works_onF (xCons (xVar 0) (xCons (xVar 1) (xCons (xVar 2) xNil)))))) (sAsg (xOp fSub (xVar 2) (xC (.int 1))) (gNm 2)))
    (sRet (xVar 2))))
def last_dayF (n : Nat) : List D → Option D := runDef 3 0 (last_dayB n)
/-- goes(rhythm, minute, word, start, marks, period, rests) -/
def goesB : SF :=
    (sSeq (sAsg (xVar 0) (gTp 5 (gsCons (gNm 2) (gsCons (gNm 3) (gsCons (gNm 4) (gsCons (gNm 5) (gsCons (gNm 6) gsNil)))))))
    (sSeq (sIf (xTest (xOp fLt (xVar 1) (xVar 3))) (sRet (xOp fIn (xVar 1) (xVar 4))) sPass)
    (sRet (xOp fIn (xOp fMod (xVar 1) (xVar 5)) (xVar 6)))))
def goesF : List D → Option D := runDef 2 5 (goesB)
/-- least(rhythm, word, start, marks, period, rests, short, some, rest, mark) -/
def leastB (n : Nat) : SF :=
    (sSeq (sAsg (xVar 0) (gTp 5 (gsCons (gNm 1) (gsCons (gNm 2) (gsCons (gNm 3) (gsCons (gNm 4) (gsCons (gNm 5) gsNil)))))))
    (sSeq (sFor (iR2 (xCons (xC (.int 1)) (xCons (xOp fAdd (xVar 4) (xC (.int 1))) xNil))) (gNm 6) (sIf (xTest (xOp fEq (xOp fMod (xVar 4) (xVar 6)) (xC (.int 0)))) (sSeq (sAsg (xAs (xComp [8] (iLst (xVar 5)) (gNm 8) (xTest (xOp fLt (xVar 8) (xVar 6))) (xVar 8))) (gNm 7))
    (sIf (xTest (xOp fEq (xVar 5) (xAs (xComp [8] (iR1 (xCons (xVar 4) xNil)) (gNm 8) (xTest (xOp fIn (xOp fMod (xVar 8) (xVar 6)) (xVar 7))) (xVar 8))))) (sSeq (sPar 4 5 (xCons (xVar 6) (xCons (xVar 7) xNil)))
    sBreak) sPass)) sPass))
    (sSeq (sAsg (xAs (xList (xVar 3))) (gNm 3))
    (sSeq (sWhile n (xAnd (xTest (xOp fGt (xVar 2) (xC (.int 0)))) (xTest (xOp fEq (xOp fIn (xOp fSub (xVar 2) (xC (.int 1))) (xVar 3)) (xOp fIn (xOp fMod (xOp fSub (xVar 2) (xC (.int 1))) (xVar 4)) (xVar 5))))) (sSeq (sAsg (xOp fSub (xVar 2) (xC (.int 1))) (gNm 2))
    (sAsg (xAs (xComp [9] (iLst (xVar 3)) (gNm 9) (xTest (xOp fLt (xVar 9) (xVar 2))) (xVar 9))) (gNm 3))))
    (sRet (xTup (xCons (xC (.str (Str.ofString "rhythm"))) (xCons (xVar 2) (xCons (xVar 3) (xCons (xVar 4) (xCons (xAs (xList (xVar 5))) xNil)))))))))))
def leastF (n : Nat) : List D → Option D := runDef 1 9 (leastB n)
/-- count_to(rhythm, minute, word, start, marks, period, rests, mark, total, rest) -/
def count_toB : SF :=
    (sSeq (sAsg (xVar 0) (gTp 5 (gsCons (gNm 2) (gsCons (gNm 3) (gsCons (gNm 4) (gsCons (gNm 5) (gsCons (gNm 6) gsNil)))))))
    (sSeq (sIf (xTest (xOp fLe (xVar 1) (xVar 3))) (sRet (xCall fLen (xCons (xAs (xComp [7] (iLst (xVar 4)) (gNm 7) (xTest (xOp fLt (xVar 7) (xVar 1))) (xVar 7))) xNil))) sPass)
    (sSeq (sAsg (xCall fLen (xCons (xVar 4) xNil)) (gNm 8))
    (sSeq (sFor (iLst (xVar 6)) (gNm 9) (sAsg (xOp fSub (xOp fAdd (xVar 8) (xOp fDiv (xOp fSub (xOp fAdd (xOp fSub (xVar 1) (xVar 9)) (xVar 5)) (xC (.int 1))) (xVar 5))) (xOp fDiv (xOp fSub (xOp fAdd (xOp fSub (xVar 3) (xVar 9)) (xVar 5)) (xC (.int 1))) (xVar 5))) (gNm 8)))
    (sRet (xVar 8))))))
def count_toF : List D → Option D := runDef 2 8 (count_toB)
/-- nth(rhythm, number, word, start, marks, period, rests, left, row, rest) -/
def nthB : SF :=
    (sSeq (sAsg (xVar 0) (gTp 5 (gsCons (gNm 2) (gsCons (gNm 3) (gsCons (gNm 4) (gsCons (gNm 5) (gsCons (gNm 6) gsNil)))))))
    (sSeq (sIf (xTest (xOp fLt (xVar 1) (xCall fLen (xCons (xVar 4) xNil)))) (sRet (xOp fIx (xVar 4) (xVar 1))) sPass)
    (sSeq (sIf (xNot (xTruth (xVar 6))) (sRet (xC .none)) sPass)
    (sSeq (sAsg (xOp fSub (xVar 1) (xCall fLen (xCons (xVar 4) xNil))) (gNm 7))
    (sSeq (sAsg (xAs (xSorted (xAs (xComp [9] (iLst (xVar 6)) (gNm 9) tYesF (xOp fAdd (xVar 3) (xOp fMod (xOp fSub (xVar 9) (xVar 3)) (xVar 5))))))) (gNm 8))
    (sRet (xOp fAdd (xOp fIx (xVar 8) (xOp fMod (xVar 7) (xCall fLen (xCons (xVar 8) xNil)))) (xOp fMul (xVar 5) (xOp fDiv (xVar 7) (xCall fLen (xCons (xVar 8) xNil)))))))))))
def nthF : List D → Option D := runDef 2 8 (nthB)
/-- longest_pause(rhythm, word, start, marks, period, rests, best, number, here, pause) -/
def longest_pauseB (n : Nat) : SF :=
    (sSeq (sAsg (xCall (leastF n) (xCons (xVar 0) xNil)) (gTp 5 (gsCons (gNm 1) (gsCons (gNm 2) (gsCons (gNm 3) (gsCons (gNm 4) (gsCons (gNm 5) gsNil)))))))
    (sSeq (sIf (xNot (xTruth (xVar 5))) (sRet (xC .none)) sPass)
    (sSeq (sAsg (xC .none) (gNm 6))
    (sSeq (sFor (iR1 (xCons (xOp fAdd (xCall fLen (xCons (xVar 3) xNil)) (xOp fMul (xC (.int 2)) (xCall fLen (xCons (xVar 5) xNil)))) xNil)) (gNm 7) (sSeq (sAsg (xCall nthF (xCons (xTup (xCons (xVar 1) (xCons (xVar 2) (xCons (xVar 3) (xCons (xVar 4) (xCons (xVar 5) xNil)))))) (xCons (xVar 7) xNil))) (gNm 8))
    (sSeq (sAsg (xOp fSub (xOp fSub (xCall nthF (xCons (xTup (xCons (xVar 1) (xCons (xVar 2) (xCons (xVar 3) (xCons (xVar 4) (xCons (xVar 5) xNil)))))) (xCons (xOp fAdd (xVar 7) (xC (.int 1))) xNil))) (xVar 8)) (xC (.int 1))) (gNm 9))
    (sIf (xOr (xTest (xUn fIsN (xVar 6))) (xTest (xOp fGt (xVar 9) (xOp fIx (xVar 6) (xC (.int 0)))))) (sAsg (xTup (xCons (xVar 9) (xCons (xVar 8) xNil))) (gNm 6)) sPass))))
    (sRet (xVar 6))))))
def longest_pauseF (n : Nat) : List D → Option D := runDef 1 9 (longest_pauseB n)
/-- law(script, state, week, k, spot, rhythm, day, first, last, ahead, many, before_v, days, pauses), behind its first line -/
def lawB (n : Nat) : SF :=
    (sSeq (sAsg (xAs (xComp [3] (iR1 (xCons (xC (.int 7)) xNil)) (gNm 3) tYesF (xOp fEq (xTake 1 (xC (.int 2))) (xC (.int 0))))) (gNm 2))
    (sSeq (sAsg (xTake 1 (xC (.int 7))) (gNm 4))
    (sSeq (sAsg (xAs (xComp [3] (iR1 (xCons (xC (.int 7)) xNil)) (gNm 3) tYesF (xOrV (xOp fIx (xVar 2) (xVar 3)) (xOp fEq (xVar 3) (xVar 4))))) (gNm 2))
    (sSeq (sAsg (xCall (leastF n) (xCons (xTup (xCons (xC (.str (Str.ofString "rhythm"))) (xCons (xC (.int 0)) (xCons (xAs (xLst xNil)) (xCons (xC (.int 7)) (xCons (xAs (xComp [3] (iR1 (xCons (xC (.int 7)) xNil)) (gNm 3) (xTruth (xOp fIx (xVar 2) (xVar 3))) (xVar 3))) xNil)))))) xNil)) (gNm 5))
    (sSeq (sFor (iR1 (xCons (xC (.int 40)) xNil)) (gNm 6) (sIf (xTest (xOp fNe (xCall works_onF (xCons (xVar 2) (xCons (xAs (xLst xNil)) (xCons (xVar 6) xNil)))) (xCall goesF (xCons (xVar 5) (xCons (xVar 6) xNil))))) (sRet (xC (.bool false))) sPass))
    (sSeq (sAsg (xTake 1 (xC (.int 20))) (gNm 7))
    (sSeq (sAsg (xOp fAdd (xVar 7) (xTake 1 (xC (.int 20)))) (gNm 8))
    (sSeq (sAsg (xCall count_toF (xCons (xVar 5) (xCons (xVar 7) xNil))) (gNm 9))
    (sSeq (sIf (xTest (xOp fNe (xCall countF (xCons (xVar 2) (xCons (xAs (xLst xNil)) (xCons (xVar 7) (xCons (xVar 8) xNil))))) (xOp fSub (xCall count_toF (xCons (xVar 5) (xCons (xVar 8) xNil))) (xVar 9)))) (sRet (xC (.bool false))) sPass)
    (sSeq (sFor (iR1 (xCons (xC (.int 6)) xNil)) (gNm 10) (sIf (xTest (xOp fNe (xCall (nth_dayF n) (xCons (xVar 2) (xCons (xAs (xLst xNil)) (xCons (xVar 7) (xCons (xVar 10) xNil))))) (xCall nthF (xCons (xVar 5) (xCons (xOp fAdd (xVar 9) (xVar 10)) xNil))))) (sRet (xC (.bool false))) sPass))
    (sSeq (sIf (xTest (xOp fNe (xCall (next_dayF n) (xCons (xVar 2) (xCons (xAs (xLst xNil)) (xCons (xVar 7) xNil)))) (xCall nthF (xCons (xVar 5) (xCons (xVar 9) xNil))))) (sRet (xC (.bool false))) sPass)
    (sSeq (sAsg (xAs (xComp [6] (iR1 (xCons (xOp fAdd (xVar 7) (xC (.int 1))) xNil)) (gNm 6) (xTruth (xCall goesF (xCons (xVar 5) (xCons (xVar 6) xNil)))) (xVar 6))) (gNm 11))
    (sSeq (sIf (xAnd (xTest (xOp fGt (xCall fLen (xCons (xVar 11) xNil)) (xC (.int 0)))) (xTest (xOp fNe (xCall (last_dayF n) (xCons (xVar 2) (xCons (xAs (xLst xNil)) (xCons (xVar 7) xNil)))) (xOp fIx (xVar 11) (xUn fNeg (xC (.int 1))))))) (sRet (xC (.bool false))) sPass)
    (sSeq (sAsg (xAs (xComp [6] (iR1 (xCons (xC (.int 60)) xNil)) (gNm 6) (xTruth (xOp fIx (xVar 2) (xOp fMod (xCall fInt (xCons (xVar 6) xNil)) (xC (.int 7))))) (xVar 6))) (gNm 12))
    (sSeq (sAsg (xAs (xComp [3] (iR1 (xCons (xC (.int 7)) xNil)) (gNm 3) tYesF (xOp fSub (xOp fSub (xOp fIx (xVar 12) (xOp fAdd (xVar 3) (xC (.int 1)))) (xOp fIx (xVar 12) (xVar 3))) (xC (.int 1))))) (gNm 13))
    (sRet (xOp fEq (xCall (longest_pauseF n) (xCons (xVar 5) xNil)) (xTup (xCons (xCall fMax (xCons (xVar 13) xNil)) (xCons (xOp fIx (xVar 12) (xMeth fIndex (xVar 13) (xCons (xCall fMax (xCons (xVar 13) xNil)) xNil))) xNil))))))))))))))))))))
end VE

/-! Ev: how mirrors are reckoned. -/
namespace VE
open PySem
theorem pb {α β : Type} (a : α) (k : α → M β) : ((pure a : M α) >>= k) = k a := pure_bind a k
theorem xVar_at {i : Nat} {env : En} {x : D} (h : env[i]? = some (.sh x)) : xVar i env = pure x := by unfold xVar; rw [h]
theorem xVarO_sh {i : Nat} {env : En} {x : D} (h : env[i]? = some (.sh x)) : xVarO i env = pure x := by unfold xVarO; rw [h]
theorem xVarO_ow {i : Nat} {env : En} {xs : List D} (h : env[i]? = some (.ow xs)) : xVarO i env = pure (.list xs) := by unfold xVarO; rw [h]
/-- a comprehension over coded items -/
theorem compL_map {α : Type} {g : GF} {t : TF} {f : EF} {env : En} (enc : α → D) (p : α → Bool) (h : α → D) :
    ∀ xs : List α, (∀ x ∈ xs, ∃ env1, g (enc x) env = some env1 ∧ t env1 = pure (p x) ∧ (p x = true → f env1 = pure (h x))) → compL g t f env (xs.map enc) = pure ((xs.filter p).map h)
  | [], _ => rfl
  | x :: r, H => by
    obtain ⟨env1, h1, h2, h3⟩ := H x List.mem_cons_self
    have ih := compL_map enc p h r fun y hy => H y (List.mem_cons_of_mem _ hy)
    rw [List.map_cons, compL, h1, lift_some, pb, h2, pb]
    cases hp : p x with
    | false => rw [if_neg Bool.false_ne_true, ih, List.filter_cons_of_neg (by rw [hp]; exact Bool.false_ne_true)]
    | true => rw [if_pos rfl, h3 hp, pb, ih, pb, List.filter_cons_of_pos hp]; rfl
/-- .. without a test -/
theorem compL_all {α : Type} {g : GF} {f : EF} {env : En} (enc : α → D) (h : α → D) (xs : List α) (H : ∀ x ∈ xs, ∃ env1, g (enc x) env = some env1 ∧ f env1 = pure (h x)) : compL g tYesF f env (xs.map enc) = pure (xs.map h) := by
  rw [compL_map enc (fun _ => true) h xs fun x hx => ?_]
  · rw [List.filter_eq_self.mpr fun _ _ => rfl]
  · obtain ⟨e, h1, h2⟩ := H x hx
    exact ⟨e, h1, rfl, fun _ => h2⟩
/-- a loop by its invariant, every turn goes on -/
theorem for_inv {g : GF} {body : SF} (I : Nat → En → Prop) : ∀ (xs : List D) (k : Nat) (env : En), I k env →
    (∀ i x env, xs[i]? = some x → I (k + i) env → ∃ env1 fl env2, g x env = some env1 ∧ body env1 = pure (fl, env2) ∧ (fl = .nx ∨ fl = .ct) ∧ I (k + i + 1) env2) →
    ∃ env', sFor.go g body xs env = pure (.nx, env') ∧ I (k + xs.length) env'
  | [], k, env, h0, _ => ⟨env, rfl, h0⟩
  | x :: r, k, env, h0, H => by
    obtain ⟨env1, fl, env2, h1, h2, hfl, h3⟩ := H 0 x env rfl h0
    obtain ⟨env', h4, h5⟩ := for_inv I r (k + 1) env2 h3 fun i y e hy hI => by
      have := H (i + 1) y e (by simpa using hy) (by rw [show k + (i + 1) = k + 1 + i by omega]; exact hI)
      rw [show k + (i + 1) + 1 = k + 1 + i + 1 by omega] at this
      exact this
    refine ⟨env', ?_, by rw [show k + (x :: r).length = k + 1 + r.length by rw [List.length_cons]; omega]; exact h5⟩
    rw [sFor.go, h1, lift_some, pb, h2, pb]
    rcases hfl with rfl | rfl <;> exact h4
/-- a while by its invariant and a measure that its fuel covers -/
theorem while_inv {t : TF} {body : SF} (I : En → Prop) (μ : En → Nat) (J : En → Prop) (step : ∀ env, I env → (t env = pure false ∧ J env) ∨ (t env = pure true ∧ ∃ fl env2, body env = pure (fl, env2) ∧ (fl = .nx ∨ fl = .ct) ∧ I env2 ∧ μ env2 < μ env)) :
    ∀ (n : Nat) (env : En), I env → μ env < n → ∃ env', sWhile.go t body n env = pure (.nx, env') ∧ J env'
  | 0, _, _, h => absurd h (Nat.not_lt_zero _)
  | n + 1, env, hI, hm => by
    rcases step env hI with ⟨h1, hJ⟩ | ⟨h1, fl, env2, h2, hfl, hI2, hlt⟩
    · refine ⟨env, ?_, hJ⟩
      rw [sWhile.go, h1, pb, if_neg Bool.false_ne_true]
    · obtain ⟨env', h3, hJ⟩ := while_inv I μ J step n env2 hI2 (by omega)
      refine ⟨env', ?_, hJ⟩
      rw [sWhile.go, h1, pb, if_pos rfl, h2, pb]
      rcases hfl with rfl | rfl <;> exact h3
theorem runDef_rt {np nl : Nat} {body : SF} {xs : List D} {y : D} {env' : En} (hl : xs.length = np) (h : body (xs.map .sh ++ List.replicate nl .no) = pure (.rt y, env')) : runDef np nl body xs = some y := by
  unfold runDef
  rw [if_pos hl, h]
  rfl
theorem runDef_ex {np nl : Nat} {body : SF} {xs : List D} {y : D} (hl : xs.length = np) (h : ∃ env', body (xs.map .sh ++ List.replicate nl .no) = pure (.rt y, env')) : runDef np nl body xs = some y := by
  obtain ⟨e, h⟩ := h
  exact runDef_rt hl h
/-! ### values -/
def dI (xs : List Int) : D := .list (xs.map .int)
def dB (xs : List Bool) : D := .list (xs.map .bool)
theorem asInts_map (xs : List Int) : asInts (xs.map .int) = some xs := by
  induction xs with
  | nil => rfl
  | cons x r ih => rw [List.map_cons, asInts, ih]; rfl
theorem asBools_map (xs : List Bool) : asBools (xs.map .bool) = some xs := by
  induction xs with
  | nil => rfl
  | cons x r ih => rw [List.map_cons, asBools, ih]; rfl
theorem eqv_int (i j : Int) : PyData.eqv (.int i) (.int j) = decide (i = j) := by
  unfold PyData.eqv
  exact Bool.beq_eq_decide_eq _ _
theorem shp_int (i : Int) : shp (.int i) = true := rfl
theorem all_flat_ints (xs : List Int) : (xs.map PyData.int).all flat = true := by
  rw [List.all_map]
  exact List.all_eq_true.mpr fun _ _ => rfl
theorem any_eqv (x : Int) (xs : List Int) : ((xs.map PyData.int).any fun z => PyData.eqv z (.int x)) = decide (x ∈ xs) := by
  induction xs with
  | nil => rfl
  | cons y r ih =>
    rw [List.map_cons, List.any_cons, ih, eqv_int]
    by_cases h : y = x
    · subst h; simp
    · have h' : ¬ x = y := fun e => h e.symm
      simp [h, h']
theorem fIn_int (x : Int) (xs : List Int) : fIn (.int x) (.list (xs.map .int)) = some (.bool (decide (x ∈ xs))) := by
  unfold fIn items
  rw [Option.bind_some, all_flat_ints]
  show some (PyData.bool _) = _
  rw [any_eqv]
theorem fNotIn_int (x : Int) (xs : List Int) : fNotIn (.int x) (.list (xs.map .int)) = some (.bool (!decide (x ∈ xs))) := by
  unfold fNotIn items
  rw [Option.bind_some, all_flat_ints]
  show some (PyData.bool _) = _
  rw [any_eqv]
theorem fEq_int (i j : Int) : fEq (.int i) (.int j) = some (.bool (decide (i = j))) := by
  unfold fEq
  rw [shp_int, shp_int, eqv_int]
  rfl
theorem fNe_int (i j : Int) : fNe (.int i) (.int j) = some (.bool (!decide (i = j))) := by
  unfold fNe
  rw [shp_int, shp_int, eqv_int]
  rfl
theorem fSum_ints (xs : List Int) : fSum [.list (xs.map .int)] = some (.int xs.sum) := by
  show (asInts (xs.map .int)).map _ = _
  rw [asInts_map]
  rfl
theorem fAny_bools (xs : List Bool) : fAny [.list (xs.map .bool)] = some (.bool (xs.any id)) := by
  show (asBools (xs.map .bool)).map _ = _
  rw [asBools_map]
  rfl
theorem fLen_list (xs : List D) : fLen [.list xs] = some (.int xs.length) := rfl
theorem atI_nat {xs : List D} {j : Nat} {x : D} (h : xs[j]? = some x) : atI xs (j : Int) = some x := by
  have hl := (List.getElem?_eq_some_iff.mp h).1
  unfold atI ixN
  rw [if_pos (by omega), if_pos (by omega), Option.bind_some, Int.toNat_natCast, h]
theorem atI_of {xs : List D} {i : Int} {x : D} (h0 : 0 ≤ i) (h : xs[i.toNat]? = some x) : atI xs i = some x := by
  have e : i = ((i.toNat : Nat) : Int) := by omega
  rw [e]
  exact atI_nat h
theorem fMod_pos {i j : Int} (h : 0 < j) : fMod (.int i) (.int j) = some (.int (i % j)) := by
  unfold fMod
  exact if_pos h
theorem fDiv_pos {i j : Int} (h : 0 < j) (h2 : j < 1073741824) : fDiv (.int i) (.int j) = some (.int (i / j)) := by
  unfold fDiv
  exact if_pos ⟨h, h2⟩
theorem inW_of {i : Int} (h1 : -(2 ^ 64) < i) (h2 : i < 2 ^ 64) : inW i = true := by
  unfold inW
  rw [decide_eq_true h1, decide_eq_true h2]
  rfl
theorem fMul_l {i j : Int} (h : inW i = true) : fMul (.int i) (.int j) = some (.int (i * j)) := by
  show (if (inW i || inW j) = true then _ else _) = _
  rw [h]
  rfl
theorem fMul_r {i j : Int} (h : inW j = true) : fMul (.int i) (.int j) = some (.int (i * j)) := by
  show (if (inW i || inW j) = true then _ else _) = _
  rw [h, Bool.or_true]
  rfl
end VE

namespace VE
open PySem
/-! draws; statements in a row -/
theorem seq_pure {s r : SF} {env env1 : En} (h : s env = pure (.nx, env1)) : sSeq s r env = r env1 := by
  unfold sSeq
  rw [h, pb]
theorem seq_w {s r : SF} {env env1 : En} {w w1 : W} (h : s env w = some ((.nx, env1), w1)) : sSeq s r env w = r env1 w1 := by
  unfold sSeq
  show (s env >>= _) w = _
  show (StateT.bind (s env) _) w = _
  unfold StateT.bind
  rw [h]
  rfl
theorem bind_w {α β : Type} {x : M α} {k : α → M β} {w w1 : W} {a : α} (h : x w = some (a, w1)) : (x >>= k) w = k a w1 := by
  show (StateT.bind x k) w = _
  unfold StateT.bind
  rw [h]
  rfl
theorem take_ok {most : Int} (h1 : 0 < most) (h2 : most < 1073741824) {w : W} (hw : 0 < w.cells.length) : ∃ r w', takeW most w = some (r, w') ∧ 0 ≤ r ∧ r < most ∧ 0 < w'.cells.length := by
  have hn : 0 ≤ w.pos % (w.cells.length : Int) := Int.emod_nonneg _ (by omega)
  have hl : w.pos % (w.cells.length : Int) < w.cells.length := Int.emod_lt_of_pos _ (by omega)
  have hi : (w.pos % (w.cells.length : Int)).toNat < w.cells.length := by omega
  unfold takeW
  rw [if_pos ⟨h1, h2, hw⟩]
  dsimp only
  rw [List.getElem?_eq_getElem hi]
  dsimp only
  have mm : ∀ x : Int, 0 ≤ x % most ∧ x % most < most := fun x => ⟨Int.emod_nonneg _ (by omega), Int.emod_lt_of_pos _ h1⟩
  split
  · exact ⟨_, _, rfl, (mm _).1, (mm _).2, by simpa using hw⟩
  · exact ⟨_, _, rfl, (mm _).1, (mm _).2, hw⟩
theorem xTake_w {i : Nat} {f : EF} {env : En} {w w1 : W} {most r : Int} (hf : f env = pure (.int most)) (hs : env[i]? = some (.st 1)) (h : takeW most w = some (r, w1)) : xTake i f env w = some (.int r, w1) := by
  unfold xTake
  rw [hf, pb, hs]
  show (takeW most >>= _) w = _
  rw [bind_w h]
  rfl
/-- a comprehension that draws -/
theorem compL_w {α β : Type} {g : GF} {f : EF} {env : En} (enc : α → D) (dec : β → D) (R : α → β → Prop) (P : W → Prop) :
    ∀ (xs : List α) (w : W), P w → (∀ x ∈ xs, ∀ w, P w → ∃ env1 y w', g (enc x) env = some env1 ∧ f env1 w = some (dec y, w') ∧ R x y ∧ P w') →
    ∃ (ys : List β) (w' : W), compL g tYesF f env (xs.map enc) w = some (ys.map dec, w') ∧ ys.length = xs.length ∧ (∀ (i : Nat) x y, xs[i]? = some x → ys[i]? = some y → R x y) ∧ P w'
  | [], w, hw, _ => ⟨[], w, rfl, rfl, fun i x y h => by simp at h, hw⟩
  | x :: r, w, hw, H => by
    obtain ⟨env1, y, w1, h1, h2, h3, h4⟩ := H x List.mem_cons_self w hw
    obtain ⟨ys, w2, h5, h6, h7, h8⟩ := compL_w enc dec R P r w1 h4 fun z hz => H z (List.mem_cons_of_mem _ hz)
    refine ⟨y :: ys, w2, ?_, by rw [List.length_cons, List.length_cons, h6], fun i a b ha hb => ?_, h8⟩
    · rw [List.map_cons, compL, h1, lift_some, pb]
      have : tYesF env1 = pure true := rfl
      rw [this, pb, if_pos rfl, bind_w h2, bind_w h5]
      rfl
    · cases i with
      | zero => cases ha; cases hb; exact h3
      | succ i => exact h7 i a b (by simpa using ha) (by simpa using hb)
mutual
def same : D → D → Bool
  | .none, .none => true
  | .bool a, .bool b => a == b
  | .int a, .int b => a == b
  | .str a, .str b => a == b
  | .list xs, .list ys => sameL xs ys
  | .tuple xs, .tuple ys => sameL xs ys
  | _, _ => false
def sameL : List D → List D → Bool
  | [], [] => true
  | x :: xs, y :: ys => same x y && sameL xs ys
  | _, _ => false
end
mutual
theorem same_eq : ∀ (x y : D), same x y = true → x = y
  | .none, y, h => by cases y <;> simp [same] at h; rfl
  | .bool a, y, h => by cases y <;> simp [same] at h; rw [h]
  | .int a, y, h => by cases y <;> simp [same] at h; rw [h]
  | .str a, y, h => by cases y <;> simp [same] at h; rw [h]
  | .list xs, y, h => by
    cases y <;> simp only [same, Bool.false_eq_true] at h
    rw [sameL_eq _ _ h]
  | .tuple xs, y, h => by
    cases y <;> simp only [same, Bool.false_eq_true] at h
    rw [sameL_eq _ _ h]
  | .dict _, y, h => by cases y <;> simp [same] at h
theorem sameL_eq : ∀ (x y : List D), sameL x y = true → x = y
  | [], y, h => by cases y <;> simp [sameL] at h; rfl
  | x :: xs, y, h => by
    cases y with
    | nil => simp [sameL] at h
    | cons z zs =>
      simp only [sameL, Bool.and_eq_true] at h
      rw [same_eq _ _ h.1, sameL_eq _ _ h.2]
end
def sameO : Option D → D → Bool
  | some x, y => same x y
  | _, _ => false
theorem sameO_eq {x : Option D} {y : D} (h : sameO x y = true) : x = some y := by
  cases x with
  | none => cases h
  | some x => rw [same_eq x y h]
def allB : Nat → List (List Bool)
  | 0 => [[]]
  | n + 1 => (allB n).map (true :: ·) ++ (allB n).map (false :: ·)
theorem mem_allB : ∀ (l : List Bool), l ∈ allB l.length
  | [] => List.mem_cons_self
  | b :: l => by
    rw [List.length_cons, allB, List.mem_append, List.mem_map, List.mem_map]
    cases b with
    | true => exact .inl ⟨l, mem_allB l, rfl⟩
    | false => exact .inr ⟨l, mem_allB l, rfl⟩
theorem xComp_w {vs : List Nat} {it : IF} {g : GF} {t : TF} {f : EF} {env e : En} {xs ys : List D} {w w' : W} (h1 : it env = pure xs) (h2 : wipeE env vs = some e) (h3 : xs.length ≤ line) (h4 : compL g t f e xs w = some (ys, w')) : xComp vs it g t f env w = some (ys, w') := by
  unfold xComp
  rw [h1, pb, h2, lift_some, pb, if_pos h3]
  exact h4
theorem xComp_p {vs : List Nat} {it : IF} {g : GF} {t : TF} {f : EF} {env e : En} {xs ys : List D} (h1 : it env = pure xs) (h2 : wipeE env vs = some e) (h3 : xs.length ≤ line) (h4 : compL g t f e xs = pure ys) : xComp vs it g t f env = pure ys := by
  unfold xComp
  rw [h1, pb, h2, lift_some, pb, if_pos h3]
  exact h4
theorem asg_w {f : EF} {g : GF} {env env1 : En} {w w1 : W} {x : D} (h : f env w = some (x, w1)) (hg : g x env = some env1) : sAsg f g env w = some ((.nx, env1), w1) := by
  unfold sAsg
  rw [bind_w h, hg]
  rfl
theorem asg_p {f : EF} {g : GF} {env env1 : En} {x : D} (h : f env = pure x) (hg : g x env = some env1) : sAsg f g env = pure (.nx, env1) := by
  unfold sAsg
  rw [h, pb, hg]
  rfl
theorem xAs_w {f : LF} {env : En} {w w1 : W} {x : List D} (h : f env w = some (x, w1)) : xAs f env w = some (.list x, w1) := by
  unfold xAs
  rw [bind_w h]
  rfl
theorem xAs_p {f : LF} {env : En} {x : List D} (h : f env = pure x) : xAs f env = pure (.list x) := by
  unfold xAs
  rw [h]
  rfl
theorem xOp_w {F : D → D → Option D} {f g : EF} {env : En} {w w1 w2 : W} {a b c : D} (h1 : f env w = some (a, w1)) (h2 : g env w1 = some (b, w2)) (h3 : F a b = some c) : xOp F f g env w = some (c, w2) := by
  unfold xOp
  rw [bind_w h1, bind_w h2, h3]
  rfl
theorem if_skip {t : TF} {f : SF} {env : En} (h : t env = pure false) : sIf t f sPass env = pure (.nx, env) := by
  unfold sIf
  rw [h, pb]
  rfl
theorem cells_pos (ns : List Int) : 0 < (stateCells ns).length := by
  unfold stateCells
  dsimp only
  split
  · decide
  · omega
theorem fIndex_ints (xs : List Int) (y : Int) : fIndex (.list (xs.map .int)) [.int y] = (xs.findIdx? fun z => decide (z = y)).map fun (j : Nat) => PyData.int (j : Int) := by
  show (if (flat (.int y) && (xs.map PyData.int).all flat) = true then _ else _) = _
  rw [all_flat_ints]
  show ((xs.map PyData.int).findIdx? fun z => PyData.eqv z (.int y)).map _ = _
  rw [List.findIdx?_map]
  have e : ((fun z => PyData.eqv z (.int y)) ∘ PyData.int) = fun z => decide (z = y) := by
    funext z
    exact eqv_int z y
  rw [e]
theorem st_w {s r : SF} {env env1 : En} {w w1 : W} {fl : Fl} (h : s env w = some ((.nx, env1), w1)) (k : ∃ e w', r env1 w1 = some ((fl, e), w')) : ∃ e w', sSeq s r env w = some ((fl, e), w') := by
  rw [seq_w h]
  exact k
theorem st_p {s r : SF} {env env1 : En} {w : W} {fl : Fl} (h : s env = pure (.nx, env1)) (k : ∃ e w', r env1 w = some ((fl, e), w')) : ∃ e w', sSeq s r env w = some ((fl, e), w') := by
  rw [seq_pure h]
  exact k
theorem st_ret {f : EF} {env : En} {w : W} {x : D} (h : f env = pure x) : ∃ e w', sRet f env w = some ((.rt x, e), w') := by
  refine ⟨env, w, ?_⟩
  unfold sRet
  rw [h]
  rfl
theorem for_p {it : IF} {g : GF} {body : SF} {env env1 : En} {xs : List D} (h1 : it env = pure xs) (h2 : sFor.go g body xs env = pure (.nx, env1)) : sFor it g body env = pure (.nx, env1) := by
  unfold sFor
  rw [h1, pb]
  exact h2
theorem wipe_one {env : En} {v : Nat} {s : Slot} (h : env[v]? = some s) (n : ∀ xs, s ≠ .ow xs) : wipeE env [v] = some (env.set v .no) := by
  show (some env).bind _ = _
  rw [Option.bind_some, h]
  cases s with
  | ow xs => exact absurd rfl (n xs)
  | _ => rfl

end VE

/-! Rhy: rhythms, plain. -/
namespace VE
/-- how many of 0, 1, .. below m -/
def cnt (g : Int → Bool) : Nat → Nat
  | 0 => 0
  | m + 1 => cnt g m + (if g (m : Int) then 1 else 0)
theorem cnt_mono {g : Int → Bool} {a b : Nat} (h : a ≤ b) : cnt g a ≤ cnt g b := by
  induction h with
  | refl => exact Nat.le_refl _
  | step h ih => exact Nat.le_trans ih (by rw [cnt]; omega)
/-- a minute is told by how many lie ahead of it -/
theorem cnt_inj {g : Int → Bool} {a b : Nat} (ha : g a = true) (hb : g b = true) (e : cnt g a = cnt g b) : a = b := by
  rcases Nat.lt_trichotomy a b with h | h | h
  · have := cnt_mono (g := g) (show a + 1 ≤ b from h)
    rw [cnt, if_pos ha] at this
    omega
  · exact h
  · have := cnt_mono (g := g) (show b + 1 ≤ a from h)
    rw [cnt, if_pos hb] at this
    omega
theorem cnt_congr {g h : Int → Bool} {m : Nat} (e : ∀ j : Nat, j < m → g j = h j) : cnt g m = cnt h m := by
  induction m with
  | zero => rfl
  | succ m ih => rw [cnt, cnt, ih fun j hj => e j (by omega), e m (by omega)]
theorem div_of {p a x : Int} (hp : 0 < p) (h1 : p * a ≤ x) (h2 : x < p * a + p) : x / p = a := by
  have h3 : a ≤ x / p := by rw [Int.le_ediv_iff_mul_le hp, Int.mul_comm]; exact h1
  have h4 : x / p < a + 1 := by rw [Int.ediv_lt_iff_lt_mul hp, Int.mul_comm, Int.mul_add, Int.mul_one]; exact h2
  omega
/-- how often a rest has come below m -/
def qt (p r m : Int) : Int := (m - r + p - 1) / p
theorem qt_step {p r m : Int} (hp : 0 < p) (h0 : 0 ≤ r) (h1 : r < p) : qt p r (m + 1) = qt p r m + (if m % p = r then 1 else 0) := by
  have hm := Int.emod_nonneg m (show p ≠ 0 by omega)
  have hm2 := Int.emod_lt_of_pos m hp
  have e := Int.mul_ediv_add_emod m p
  generalize hb : m % p = b at hm hm2 e
  generalize ha : m / p = a at e
  have e1 : p * (a + 1) = p * a + p := by rw [Int.mul_add, Int.mul_one]
  unfold qt
  by_cases h : b = r
  · rw [if_pos h, div_of hp (a := a + 1) (by omega) (by omega), div_of hp (a := a) (by omega) (by omega)]
  · rw [if_neg h]
    by_cases hl : b < r
    · rw [div_of hp (a := a) (by omega) (by omega), div_of hp (a := a) (by omega) (by omega)]; omega
    · rw [div_of hp (a := a + 1) (by omega) (by omega), div_of hp (a := a + 1) (by omega) (by omega)]; omega
theorem qt_period {p r m : Int} (hp : 0 < p) : qt p r (m + p) = qt p r m + 1 := by
  unfold qt
  rw [show m + p - r + p - 1 = (m - r + p - 1) + p by omega]
  rw [Int.add_ediv_of_dvd_right ⟨1, (Int.mul_one p).symm⟩, Int.ediv_self (by omega)]
def sumL (f : Int → Int) : List Int → Int
  | [] => 0
  | x :: r => f x + sumL f r
theorem sumL_add (f g : Int → Int) (R : List Int) : sumL (fun r => f r + g r) R = sumL f R + sumL g R := by
  induction R with
  | nil => rfl
  | cons x r ih => simp only [sumL, ih]; omega
theorem sumL_congr {f g : Int → Int} {R : List Int} (h : ∀ r ∈ R, f r = g r) : sumL f R = sumL g R := by
  induction R with
  | nil => rfl
  | cons x r ih => rw [sumL, sumL, h x List.mem_cons_self, ih fun y hy => h y (List.mem_cons_of_mem _ hy)]
theorem sumL_one (R : List Int) (hn : R.Nodup) (x : Int) : sumL (fun r => if x = r then 1 else 0) R = if x ∈ R then 1 else 0 := by
  induction R with
  | nil => simp [sumL]
  | cons y r ih =>
    rw [List.nodup_cons] at hn
    rw [sumL, ih hn.2]
    by_cases h : x = y
    · subst h
      simp [hn.1]
    · simp [h]
theorem sumL_const (R : List Int) : sumL (fun _ => 1) R = R.length := by
  induction R with
  | nil => rfl
  | cons y r ih => rw [sumL, ih, List.length_cons]; omega
structure Rh where
  s : Int
  M : List Int
  p : Int
  R : List Int
structure Rh.Ok (r : Rh) : Prop where
  s0 : 0 ≤ r.s
  p0 : 0 < r.p
  mu : r.M.Pairwise (· < ·)
  mb : ∀ x ∈ r.M, 0 ≤ x ∧ x < r.s
  ru : r.R.Pairwise (· < ·)
  rb : ∀ x ∈ r.R, 0 ≤ x ∧ x < r.p
def Rh.goes (r : Rh) (m : Int) : Bool := if m < r.s then decide (m ∈ r.M) else decide (m % r.p ∈ r.R)
theorem nodup_of {L : List Int} (h : L.Pairwise (· < ·)) : L.Nodup := h.imp fun h => Int.ne_of_lt h
theorem filter_succ {L : List Int} (h : L.Nodup) (m : Int) : ((L.filter fun x => decide (x < m + 1)).length : Int) = (L.filter fun x => decide (x < m)).length + (if m ∈ L then 1 else 0) := by
  induction L with
  | nil => simp
  | cons x r ih =>
    rw [List.nodup_cons] at h
    have ih := ih h.2
    simp only [List.filter_cons]
    by_cases e : x = m
    · subst e
      simp only [show decide (x < x + 1) = true by (simp only [decide_eq_true_eq]; omega), show decide (x < x) = false by simp, if_true, Bool.false_eq_true, if_false, List.length_cons, List.mem_cons, true_or]
      rw [if_neg h.1] at ih
      omega
    · have e' : ¬ m = x := fun z => e z.symm
      simp only [List.mem_cons, e', false_or]
      by_cases hl : x < m
      · rw [show decide (x < m + 1) = true by simp; omega, show decide (x < m) = true by simp [hl]]
        simp only [if_true, List.length_cons]
        omega
      · rw [show decide (x < m + 1) = false by simp; omega, show decide (x < m) = false by simp; omega]
        simp only [Bool.false_eq_true, if_false]
        exact ih
/-- below its start -/
theorem Rh.Ok.cnt_low {r : Rh} (h : r.Ok) : ∀ m : Nat, (m : Int) ≤ r.s → (cnt r.goes m : Int) = (r.M.filter fun x => decide (x < (m : Int))).length
  | 0, _ => by
    have : (r.M.filter fun x => decide (x < ((0 : Nat) : Int))) = [] := List.filter_eq_nil_iff.mpr fun x hx => by
      have := (h.mb x hx).1
      simp; omega
    rw [this]; rfl
  | m + 1, hm => by
    have ih := h.cnt_low m (by omega)
    have := filter_succ (nodup_of h.mu) (m : Int)
    rw [cnt, show ((m + 1 : Nat) : Int) = (m : Int) + 1 by omega, this]
    have e : r.goes m = decide ((m : Int) ∈ r.M) := by unfold Rh.goes; rw [if_pos (by omega)]
    rw [e]
    by_cases hM : (m : Int) ∈ r.M
    · simp only [hM, decide_true, if_true]; omega
    · simp only [hM, decide_false, Bool.false_eq_true, if_false]; omega
theorem Rh.Ok.cnt_start {r : Rh} (h : r.Ok) : (cnt r.goes r.s.toNat : Int) = r.M.length := by
  have hs := h.s0
  rw [h.cnt_low _ (by omega)]
  rw [List.filter_eq_self.mpr fun x hx => by
    have := (h.mb x hx).2
    simp; omega]
/-- from its start on, in closed form -/
theorem Rh.Ok.cnt_high {r : Rh} (h : r.Ok) (k : Nat) : (cnt r.goes (r.s.toNat + k) : Int) = r.M.length + sumL (fun x => qt r.p x (r.s + k) - qt r.p x r.s) r.R := by
  have hs := h.s0
  induction k with
  | zero =>
    rw [Nat.add_zero, h.cnt_start]
    rw [sumL_congr (g := fun _ => 0) fun x _ => by simp]
    have : ∀ R : List Int, sumL (fun _ => 0) R = 0 := fun R => by
      induction R with
      | nil => rfl
      | cons y r ih => rw [sumL, ih]; rfl
    rw [this]; omega
  | succ k ih =>
    rw [show r.s.toNat + (k + 1) = (r.s.toNat + k) + 1 by omega, cnt]
    have e : r.goes ((r.s.toNat + k : Nat) : Int) = decide ((r.s + (k : Int)) % r.p ∈ r.R) := by
      unfold Rh.goes
      rw [if_neg (by omega), show ((r.s.toNat + k : Nat) : Int) = r.s + (k : Int) by omega]
    rw [e]
    have e2 : sumL (fun x => qt r.p x (r.s + ((k + 1 : Nat) : Int)) - qt r.p x r.s) r.R = sumL (fun x => (qt r.p x (r.s + (k : Int)) - qt r.p x r.s) + (if (r.s + (k : Int)) % r.p = x then 1 else 0)) r.R := sumL_congr fun x hx => by
      rw [show r.s + ((k + 1 : Nat) : Int) = (r.s + (k : Int)) + 1 by omega, qt_step h.p0 (h.rb x hx).1 (h.rb x hx).2]
      omega
    rw [e2, sumL_add, sumL_one _ (nodup_of h.ru)]
    by_cases hR : (r.s + (k : Int)) % r.p ∈ r.R
    · simp only [hR, decide_true, if_true]; omega
    · simp only [hR, decide_false, Bool.false_eq_true, if_false]; omega
theorem Rh.Ok.cnt_period {r : Rh} (h : r.Ok) (m : Nat) (hm : r.s ≤ m) : cnt r.goes (m + r.p.toNat) = cnt r.goes m + r.R.length := by
  have hs := h.s0
  have hp := h.p0
  obtain ⟨k, rfl⟩ : ∃ k, m = r.s.toNat + k := ⟨m - r.s.toNat, by omega⟩
  have h1 := h.cnt_high k
  have h2 := h.cnt_high (k + r.p.toNat)
  rw [show r.s.toNat + k + r.p.toNat = r.s.toNat + (k + r.p.toNat) by omega]
  have e : sumL (fun x => qt r.p x (r.s + ((k + r.p.toNat : Nat) : Int)) - qt r.p x r.s) r.R = sumL (fun x => (qt r.p x (r.s + (k : Int)) - qt r.p x r.s) + 1) r.R := sumL_congr fun x hx => by
    rw [show r.s + ((k + r.p.toNat : Nat) : Int) = (r.s + (k : Int)) + r.p by omega, qt_period hp]
    omega
  rw [e, sumL_add, sumL_const] at h2
  omega
theorem Rh.Ok.cnt_periods {r : Rh} (h : r.Ok) (m : Nat) (hm : r.s ≤ m) (q : Nat) : cnt r.goes (m + q * r.p.toNat) = cnt r.goes m + q * r.R.length := by
  induction q with
  | zero => simp
  | succ q ih =>
    rw [show m + (q + 1) * r.p.toNat = (m + q * r.p.toNat) + r.p.toNat by rw [Nat.succ_mul]; omega, h.cnt_period _ (by omega), ih, Nat.succ_mul]
    omega
/-- count_to, as it is told -/
def Rh.countT (r : Rh) (m : Int) : Int := if m ≤ r.s then (r.M.filter fun x => decide (x < m)).length else r.M.length + sumL (fun x => qt r.p x m - qt r.p x r.s) r.R
theorem Rh.Ok.count {r : Rh} (h : r.Ok) {m : Int} (hm : 0 ≤ m) : r.countT m = cnt r.goes m.toNat := by
  have hs := h.s0
  unfold Rh.countT
  split
  · rw [h.cnt_low _ (by omega), show ((m.toNat : Nat) : Int) = m by omega]
  · have := h.cnt_high (m - r.s).toNat
    rw [show r.s.toNat + (m - r.s).toNat = m.toNat by omega, show r.s + (((m - r.s).toNat : Nat) : Int) = m by omega] at this
    omega
/-! ### the n-th minute -/
def Rh.row (r : Rh) : List Int := sortI (r.R.map fun x => r.s + (x - r.s) % r.p)
def Rh.nthT (r : Rh) (k : Nat) : Option Int :=
  if h : k < r.M.length then some r.M[k]
  else if r.R = [] then none
  else (r.row[(k - r.M.length) % r.row.length]?).map fun x => x + r.p * (((k - r.M.length) / r.row.length : Nat) : Int)
theorem insP (x : Int) : ∀ xs : List Int, (insI x xs).Perm (x :: xs)
  | [] => .refl _
  | y :: r => by
    unfold insI
    split
    · exact .refl _
    · exact ((insP x r).cons y).trans (.swap x y r)
theorem insS (x : Int) : ∀ xs : List Int, xs.Pairwise (· ≤ ·) → (insI x xs).Pairwise (· ≤ ·)
  | [], _ => by simp [insI]
  | y :: r, h => by
    unfold insI
    rw [List.pairwise_cons] at h
    split
    · rename_i hc
      rw [List.pairwise_cons]
      refine ⟨fun z hz => ?_, List.pairwise_cons.mpr h⟩
      rcases List.mem_cons.mp hz with e | e
      · subst e; exact hc
      · exact Int.le_trans hc (h.1 z e)
    · rename_i hc
      rw [List.pairwise_cons]
      refine ⟨fun z hz => ?_, insS x r h.2⟩
      have := (insP x r).mem_iff.mp hz
      rcases List.mem_cons.mp this with e | e
      · subst e; omega
      · exact h.1 z e
theorem sortP : ∀ xs : List Int, (sortI xs).Perm xs
  | [] => .refl _
  | x :: r => (insP x _).trans ((sortP r).cons x)
theorem sortS : ∀ xs : List Int, (sortI xs).Pairwise (· ≤ ·)
  | [] => .nil
  | x :: r => insS x _ (sortS r)
theorem sort_lt {xs : List Int} (h : xs.Nodup) : (sortI xs).Pairwise (· < ·) := by
  have h1 := sortS xs
  have h2 : (sortI xs).Nodup := (sortP xs).nodup_iff.mpr h
  exact (h1.and h2).imp fun ⟨a, b⟩ => by omega
theorem shift_mem {s p t : Int} (hp : 0 < p) (h1 : s ≤ t) (h2 : t < s + p) (x : Int) (hx : 0 ≤ x) (hx2 : x < p) : s + (x - s) % p = t ↔ t % p = x := by
  constructor
  · intro e
    have : t % p = (s + (x - s) % p) % p := by rw [e]
    rw [this, Int.add_emod, Int.emod_emod, ← Int.add_emod, show s + (x - s) = x by omega, Int.emod_eq_of_lt hx hx2]
  · intro e
    have : (x - s) % p = t - s := by
      rw [← e, Int.sub_emod, Int.emod_emod, ← Int.sub_emod, Int.emod_eq_of_lt (by omega) (by omega)]
    omega
theorem Rh.Ok.row_lt {r : Rh} (h : r.Ok) : r.row.Pairwise (· < ·) := by
  refine sort_lt ?_
  have hn := nodup_of h.ru
  have hp := h.p0
  have hb := h.rb
  show (r.R.map _).Pairwise (· ≠ ·)
  rw [List.pairwise_map]
  refine List.Pairwise.imp_of_mem (fun {a b} ha hb' hne e => ?_) hn
  have h1 := hb a ha
  have h2 := hb b hb'
  have m1 := Int.emod_nonneg (b - r.s) (show r.p ≠ 0 by omega)
  have m2 := Int.emod_lt_of_pos (b - r.s) hp
  have e1 := (shift_mem (s := r.s) hp (t := r.s + (b - r.s) % r.p) (by omega) (by omega) a h1.1 h1.2).mp e
  have e2 := (shift_mem (s := r.s) hp (t := r.s + (b - r.s) % r.p) (by omega) (by omega) b h2.1 h2.2).mp rfl
  exact hne (e1.symm.trans e2)
theorem Rh.Ok.mem_row {r : Rh} (h : r.Ok) (t : Int) : t ∈ r.row ↔ r.s ≤ t ∧ t < r.s + r.p ∧ t % r.p ∈ r.R := by
  have hp := h.p0
  unfold Rh.row
  rw [(sortP _).mem_iff, List.mem_map]
  constructor
  · rintro ⟨x, hx, rfl⟩
    have m1 := Int.emod_nonneg (x - r.s) (show r.p ≠ 0 by omega)
    have m2 := Int.emod_lt_of_pos (x - r.s) hp
    refine ⟨by omega, by omega, ?_⟩
    rw [(shift_mem (s := r.s) hp (by omega) (by omega) x (h.rb x hx).1 (h.rb x hx).2).mp rfl]
    exact hx
  · rintro ⟨h1, h2, h3⟩
    exact ⟨_, h3, (shift_mem (s := r.s) hp h1 h2 _ (h.rb _ h3).1 (h.rb _ h3).2).mpr rfl⟩
theorem Rh.Ok.cnt_row {r : Rh} (h : r.Ok) (k : Nat) (hk : (k : Int) ≤ r.p) : (cnt r.goes (r.s.toNat + k) : Int) = r.M.length + (r.row.filter fun x => decide (x < r.s + k)).length := by
  have hs := h.s0
  induction k with
  | zero =>
    rw [Nat.add_zero, h.cnt_start]
    have : (r.row.filter fun x => decide (x < r.s + ((0 : Nat) : Int))) = [] := List.filter_eq_nil_iff.mpr fun x hx => by
      have := ((h.mem_row x).mp hx).1
      simp; omega
    rw [this]; simp
  | succ k ih =>
    have ih := ih (by omega)
    rw [show r.s.toNat + (k + 1) = (r.s.toNat + k) + 1 by omega, cnt, show r.s + ((k + 1 : Nat) : Int) = (r.s + (k : Int)) + 1 by omega, filter_succ (nodup_of h.row_lt)]
    have e : r.goes ((r.s.toNat + k : Nat) : Int) = decide ((r.s + (k : Int)) ∈ r.row) := by
      unfold Rh.goes
      rw [if_neg (by omega), show ((r.s.toNat + k : Nat) : Int) = r.s + (k : Int) by omega]
      apply decide_eq_decide.mpr
      rw [h.mem_row]
      constructor
      · intro q; exact ⟨by omega, by omega, q⟩
      · intro q; exact q.2.2
    rw [e]
    by_cases hR : (r.s + (k : Int)) ∈ r.row
    · simp only [hR, decide_true, if_true]; omega
    · simp only [hR, decide_false, Bool.false_eq_true, if_false]; omega
theorem filter_at {L : List Int} (h : L.Pairwise (· < ·)) : ∀ (i : Nat) (x : Int), L[i]? = some x → (L.filter fun y => decide (y < x)).length = i := by
  induction L with
  | nil => intro i x e; simp at e
  | cons a r ih =>
    intro i x e
    rw [List.pairwise_cons] at h
    cases i with
    | zero =>
      have : a = x := by simpa using e
      subst this
      have : (List.filter (fun y => decide (y < a)) (a :: r)) = [] := List.filter_eq_nil_iff.mpr fun y hy => by
        rcases List.mem_cons.mp hy with rfl | hy
        · simp
        · have := h.1 y hy; simp; omega
      rw [this]; rfl
    | succ i =>
      have e' : r[i]? = some x := by simpa using e
      have hx := h.1 x (List.mem_of_getElem? e')
      rw [List.filter_cons_of_pos (by simpa using hx), List.length_cons, ih h.2 i x e']
/-- THE n-th: it goes, and n lie ahead -/
theorem Rh.Ok.nth_spec {r : Rh} (h : r.Ok) {k : Nat} {t : Int} (e : r.nthT k = some t) : 0 ≤ t ∧ r.goes t = true ∧ cnt r.goes t.toNat = k := by
  have hs := h.s0
  have hp := h.p0
  unfold Rh.nthT at e
  split at e
  · rename_i hk
    cases e
    have hm := List.getElem_mem hk
    have hb := h.mb _ hm
    refine ⟨hb.1, ?_, ?_⟩
    · unfold Rh.goes
      rw [if_pos hb.2]; simpa using hm
    · have := h.cnt_low (r.M[k]).toNat (by omega)
      rw [show (((r.M[k]).toNat : Nat) : Int) = r.M[k] by omega, filter_at h.mu k _ (List.getElem?_eq_getElem hk)] at this
      omega
  · rename_i hk
    split at e
    · cases e
    · rename_i hR
      obtain ⟨x, hx, rfl⟩ := Option.map_eq_some_iff.mp e
      have hrl : r.row.length = r.R.length := by unfold Rh.row; rw [(sortP _).length_eq, List.length_map]
      have hpos : 0 < r.R.length := List.length_pos_iff.mpr hR
      generalize hq : (k - r.M.length) / r.row.length = q at *
      have hmem := (h.mem_row x).mp (List.mem_of_getElem? hx)
      have hx0 : (0 : Int) ≤ r.p * (q : Int) := Int.mul_nonneg (by omega) (by omega)
      have eN : (x + r.p * (q : Int)).toNat = x.toNat + q * r.p.toNat := by
        have : r.p * (q : Int) = ((q * r.p.toNat : Nat) : Int) := by
          rw [Int.natCast_mul, Int.mul_comm, show ((r.p.toNat : Nat) : Int) = r.p by omega]
        omega
      refine ⟨by omega, ?_, ?_⟩
      · unfold Rh.goes
        rw [if_neg (by omega), Int.add_mul_emod_self_left]
        simpa using hmem.2.2
      · rw [eN, h.cnt_periods _ (by omega)]
        have h1 := h.cnt_row (x - r.s).toNat (by omega)
        rw [show r.s.toNat + (x - r.s).toNat = x.toNat by omega, show r.s + (((x - r.s).toNat : Nat) : Int) = x by omega, filter_at h.row_lt _ x hx] at h1
        have h2 := Nat.div_add_mod (k - r.M.length) r.row.length
        rw [hq, hrl] at h2
        rw [hrl] at h1
        rw [Nat.mul_comm] at h2
        omega
theorem Rh.Ok.nth_some {r : Rh} (h : r.Ok) (hR : r.R ≠ []) (k : Nat) : ∃ t, r.nthT k = some t := by
  unfold Rh.nthT
  split
  · exact ⟨_, rfl⟩
  · have hrl : r.row.length = r.R.length := by unfold Rh.row; rw [(sortP _).length_eq, List.length_map]
    have hpos : 0 < r.R.length := List.length_pos_iff.mpr hR
    rw [List.getElem?_eq_getElem (Nat.mod_lt _ (by omega))]
    exact ⟨_, rfl⟩
/-- the minute that goes with n ahead is the n-th -/
theorem Rh.Ok.nth_eq {r : Rh} (h : r.Ok) (hR : r.R ≠ []) {k t : Nat} (hg : r.goes t = true) (hc : cnt r.goes t = k) : r.nthT k = some (t : Int) := by
  obtain ⟨u, e⟩ := h.nth_some hR k
  obtain ⟨h0, h1, h2⟩ := h.nth_spec e
  have : u.toNat = t := cnt_inj (g := r.goes) (by rw [show ((u.toNat : Nat) : Int) = u by omega]; exact h1) hg (h2.trans hc.symm)
  rw [e]
  congr 1
  omega
end VE

namespace VE
open PySem
/-! rhythms: what their mirrors hand back -/
def rhD (r : Rh) : D := .tuple [.str (Str.ofString "rhythm"), .int r.s, dI r.M, .int r.p, dI r.R]
theorem goes_run (r : Rh) (hp : 0 < r.p) (m : Int) : goesF [rhD r, .int m] = some (.bool (r.goes m)) := by
  refine runDef_rt (env' := [.sh (rhD r), .sh (.int m), .sh (.str (Str.ofString "rhythm")), .sh (.int r.s), .sh (dI r.M), .sh (.int r.p), .sh (dI r.R)]) rfl ?_
  unfold goesB
  unfold Rh.goes
  by_cases h : m < r.s
  · simp only [pb, fail_bind, lift_some, lift_none, xVar, xVarO, xC, xOp, xUn, xCall, xNil, xCons, xTest, xTruth, xNot, xAnd, xOr, xNotV, xAndV, xOrV, xIf, xChain, xTup, xLst, xAs, xFlat, xFlatL, iLst, iTupl, iOwn, iR1, iR2, gNm, gsNil, gsCons, gTp, sPass, sSeq, sBreak, sCont, sRet, sRetN, sIf, sAsg, sOwn, sExpr, sPar, sApp, thaw, sThaw, oNo, oSome, xSlice, xList, fList, lstOf, tupOf, asB, truth, fSub, fLt, fLe, fGt, fGe, fNeg, fIsN, fNotN, isNone, Option.bind_some, List.getElem?_cons_zero, List.getElem?_cons_succ, List.set_cons_zero, List.set_cons_succ, List.map_cons, List.map_nil, List.cons_append, List.nil_append, List.replicate_succ, List.replicate_zero, if_true, if_false, Bool.true_eq_false, Bool.false_eq_true, rhD, dI, List.length_cons, List.length_nil, Nat.zero_add, Nat.reduceAdd, fMod_pos hp, fIn_int, decide_eq_true h, if_pos h]
  · simp only [pb, fail_bind, lift_some, lift_none, xVar, xVarO, xC, xOp, xUn, xCall, xNil, xCons, xTest, xTruth, xNot, xAnd, xOr, xNotV, xAndV, xOrV, xIf, xChain, xTup, xLst, xAs, xFlat, xFlatL, iLst, iTupl, iOwn, iR1, iR2, gNm, gsNil, gsCons, gTp, sPass, sSeq, sBreak, sCont, sRet, sRetN, sIf, sAsg, sOwn, sExpr, sPar, sApp, thaw, sThaw, oNo, oSome, xSlice, xList, fList, lstOf, tupOf, asB, truth, fSub, fLt, fLe, fGt, fGe, fNeg, fIsN, fNotN, isNone, Option.bind_some, List.getElem?_cons_zero, List.getElem?_cons_succ, List.set_cons_zero, List.set_cons_succ, List.map_cons, List.map_nil, List.cons_append, List.nil_append, List.replicate_succ, List.replicate_zero, if_true, if_false, Bool.true_eq_false, Bool.false_eq_true, rhD, dI, List.length_cons, List.length_nil, Nat.zero_add, Nat.reduceAdd, fMod_pos hp, fIn_int, decide_eq_false h, if_neg h]
theorem fAdd_int (i j : Int) : fAdd (.int i) (.int j) = some (.int (i + j)) := rfl
theorem filter_lt_comp {g : GF} {t : TF} {f : EF} {env : En} (xs : List Int) (m : Int) (H : ∀ x ∈ xs, ∃ env1, g (.int x) env = some env1 ∧ t env1 = pure (decide (x < m)) ∧ (decide (x < m) = true → f env1 = pure (.int x))) : compL g t f env (xs.map .int) = pure ((xs.filter fun x => decide (x < m)).map .int) := compL_map .int _ .int xs H
theorem count_to_run (r : Rh) (hp : 0 < r.p) (hp2 : r.p < 1073741824) (hM : r.M.length ≤ line) (m : Int) : count_toF [rhD r, .int m] = some (.int (r.countT m)) := by
  unfold Rh.countT
  by_cases h : m ≤ r.s
  · refine runDef_rt (env' := [.sh (rhD r), .sh (.int m), .sh (.str (Str.ofString "rhythm")), .sh (.int r.s), .sh (dI r.M), .sh (.int r.p), .sh (dI r.R), .no, .no, .no]) rfl ?_
    unfold count_toB
    have hc : compL (gNm 7) (xTest (xOp fLt (xVar 7) (xVar 1))) (xVar 7) [.sh (rhD r), .sh (.int m), .sh (.str (Str.ofString "rhythm")), .sh (.int r.s), .sh (dI r.M), .sh (.int r.p), .sh (dI r.R), .no, .no, .no] (r.M.map .int) = pure ((r.M.filter fun x => decide (x < m)).map .int) :=
      filter_lt_comp r.M m fun x hx => ⟨_, rfl, rfl, fun _ => rfl⟩
    have hw : ∀ a b c d e f g h i : Slot, wipeE [a, b, c, d, e, f, g, .no, h, i] [7] = some [a, b, c, d, e, f, g, .no, h, i] := fun a b c d e f g h i => rfl
    simp only [rhD, dI] at hc
    simp only [pb, fail_bind, lift_some, lift_none, xVar, xVarO, xC, xOp, xUn, xCall, xNil, xCons, xTest, xTruth, xNot, xAnd, xOr, xNotV, xAndV, xOrV, xIf, xChain, xTup, xLst, xAs, xFlat, xFlatL, iLst, iTupl, iOwn, iR1, iR2, gNm, gsNil, gsCons, gTp, sPass, sSeq, sBreak, sCont, sRet, sRetN, sIf, sAsg, sOwn, sExpr, sPar, sApp, thaw, sThaw, oNo, oSome, xSlice, xList, fList, lstOf, tupOf, asB, truth, fSub, fLt, fLe, fGt, fGe, fNeg, fIsN, fNotN, isNone, Option.bind_some, List.getElem?_cons_zero, List.getElem?_cons_succ, List.set_cons_zero, List.set_cons_succ, List.map_cons, List.map_nil, List.cons_append, List.nil_append, List.replicate_succ, List.replicate_zero, if_true, if_false, Bool.true_eq_false, Bool.false_eq_true, rhD, dI, List.length_cons, List.length_nil, Nat.zero_add, Nat.reduceAdd, decide_eq_true h, xComp, hw, List.length_map, if_pos hM, hc, fLen_list, if_pos h]
  · -- the loop
    have lp : ∀ (a b c d e f g h' : Slot) (env : En) (hR : env = [a, .sh (.int m), c, .sh (.int r.s), e, .sh (.int r.p), g, h', .sh (.int r.M.length), .no]), ∃ env', sFor.go (gNm 9) (sAsg (xOp fSub (xOp fAdd (xVar 8) (xOp fDiv (xOp fSub (xOp fAdd (xOp fSub (xVar 1) (xVar 9)) (xVar 5)) (xC (.int 1))) (xVar 5))) (xOp fDiv (xOp fSub (xOp fAdd (xOp fSub (xVar 3) (xVar 9)) (xVar 5)) (xC (.int 1))) (xVar 5))) (gNm 8)) (r.R.map .int) env = pure (.nx, env') ∧ ∃ z, env' = [a, .sh (.int m), c, .sh (.int r.s), e, .sh (.int r.p), g, h', .sh (.int (r.M.length + sumL (fun x => qt r.p x m - qt r.p x r.s) r.R)), z] := by
      intro a b c d e f g h' env hR
      have gen : ∀ (R : List Int) (t : Int) (z : Slot), ∃ env', sFor.go (gNm 9) (sAsg (xOp fSub (xOp fAdd (xVar 8) (xOp fDiv (xOp fSub (xOp fAdd (xOp fSub (xVar 1) (xVar 9)) (xVar 5)) (xC (.int 1))) (xVar 5))) (xOp fDiv (xOp fSub (xOp fAdd (xOp fSub (xVar 3) (xVar 9)) (xVar 5)) (xC (.int 1))) (xVar 5))) (gNm 8)) (R.map .int) [a, .sh (.int m), c, .sh (.int r.s), e, .sh (.int r.p), g, h', .sh (.int t), z] = pure (.nx, env') ∧ ∃ z, env' = [a, .sh (.int m), c, .sh (.int r.s), e, .sh (.int r.p), g, h', .sh (.int (t + sumL (fun x => qt r.p x m - qt r.p x r.s) R)), z] := by
        intro R
        induction R with
        | nil => intro t z; exact ⟨_, rfl, z, by simp only [sumL, Int.add_zero]⟩
        | cons x R ih =>
          intro t z
          obtain ⟨env', h1, z', h2⟩ := ih (t + qt r.p x m - qt r.p x r.s) (.sh (.int x))
          refine ⟨env', ?_, z', by rw [h2, show t + qt r.p x m - qt r.p x r.s + sumL (fun x => qt r.p x m - qt r.p x r.s) R = t + sumL (fun x => qt r.p x m - qt r.p x r.s) (x :: R) by simp only [sumL]; omega]⟩
          rw [List.map_cons, sFor.go]
          simp only [pb, fail_bind, lift_some, lift_none, xVar, xVarO, xC, xOp, xUn, xCall, xNil, xCons, xTest, xTruth, xNot, xAnd, xOr, xNotV, xAndV, xOrV, xIf, xChain, xTup, xLst, xAs, xFlat, xFlatL, iLst, iTupl, iOwn, iR1, iR2, gNm, gsNil, gsCons, gTp, sPass, sSeq, sBreak, sCont, sRet, sRetN, sIf, sAsg, sOwn, sExpr, sPar, sApp, thaw, sThaw, oNo, oSome, xSlice, xList, fList, lstOf, tupOf, asB, truth, fSub, fLt, fLe, fGt, fGe, fNeg, fIsN, fNotN, isNone, Option.bind_some, List.getElem?_cons_zero, List.getElem?_cons_succ, List.set_cons_zero, List.set_cons_succ, List.map_cons, List.map_nil, List.cons_append, List.nil_append, List.replicate_succ, List.replicate_zero, if_true, if_false, Bool.true_eq_false, Bool.false_eq_true, fAdd_int, fDiv_pos hp hp2]
          exact h1
      rw [hR]
      exact gen r.R _ .no
    obtain ⟨env', e1, z, e2⟩ := lp (.sh (rhD r)) .no (.sh (.str (Str.ofString "rhythm"))) .no (.sh (dI r.M)) .no (.sh (dI r.R)) .no _ rfl
    subst e2
    refine runDef_ex rfl ?_
    unfold count_toB
    simp only [rhD, dI] at e1
    simp only [pb, fail_bind, lift_some, lift_none, xVar, xVarO, xC, xOp, xUn, xCall, xNil, xCons, xTest, xTruth, xNot, xAnd, xOr, xNotV, xAndV, xOrV, xIf, xChain, xTup, xLst, xAs, xFlat, xFlatL, iLst, iTupl, iOwn, iR1, iR2, gNm, gsNil, gsCons, gTp, sPass, sSeq, sBreak, sCont, sRet, sRetN, sIf, sAsg, sOwn, sExpr, sPar, sApp, thaw, sThaw, oNo, oSome, xSlice, xList, fList, lstOf, tupOf, asB, truth, fSub, fLt, fLe, fGt, fGe, fNeg, fIsN, fNotN, isNone, Option.bind_some, List.getElem?_cons_zero, List.getElem?_cons_succ, List.set_cons_zero, List.set_cons_succ, List.map_cons, List.map_nil, List.cons_append, List.nil_append, List.replicate_succ, List.replicate_zero, if_true, if_false, Bool.true_eq_false, Bool.false_eq_true, rhD, dI, List.length_cons, List.length_nil, Nat.zero_add, Nat.reduceAdd, decide_eq_false h, fLen_list, List.length_map, sFor, e1, if_neg h]
    exact ⟨_, rfl⟩
theorem nth_run (r : Rh) (h : r.Ok) (hp2 : r.p < 1073741824) (hM : r.M.length ≤ line) (hR : r.R.length < 1073741824) (hR2 : r.R.length ≤ line) (k : Nat) : nthF [rhD r, .int k] = some (match r.nthT k with | some t => .int t | none => .none) := by
  have hp := h.p0
  have hrl : r.row.length = r.R.length := by unfold Rh.row; rw [(sortP _).length_eq, List.length_map]
  have key : ∃ env', nthB [.sh (rhD r), .sh (.int k), .no, .no, .no, .no, .no, .no, .no, .no] = pure (.rt (match r.nthT k with | some t => .int t | none => .none), env') := by
    unfold nthB
    by_cases h1 : k < r.M.length
    · have e1 : ((k : Int) < r.M.length) := by omega
      have e2 : atI (r.M.map PyData.int) (k : Int) = some (.int r.M[k]) := atI_nat (by rw [List.getElem?_map, List.getElem?_eq_getElem h1]; rfl)
      have e3 : r.nthT k = some r.M[k] := by unfold Rh.nthT; rw [dif_pos h1]
      simp only [pb, fail_bind, lift_some, lift_none, xVar, xVarO, xC, xOp, xUn, xCall, xNil, xCons, xTest, xTruth, xNot, xAnd, xOr, xNotV, xAndV, xOrV, xIf, xChain, xTup, xLst, xAs, xFlat, xFlatL, iLst, iTupl, iOwn, iR1, iR2, gNm, gsNil, gsCons, gTp, sPass, sSeq, sBreak, sCont, sRet, sRetN, sIf, sAsg, sOwn, sExpr, sPar, sApp, thaw, sThaw, oNo, oSome, xSlice, xList, fList, lstOf, tupOf, asB, truth, fSub, fLt, fLe, fGt, fGe, fNeg, fIsN, fNotN, isNone, Option.bind_some, List.getElem?_cons_zero, List.getElem?_cons_succ, List.set_cons_zero, List.set_cons_succ, List.map_cons, List.map_nil, List.cons_append, List.nil_append, List.replicate_succ, List.replicate_zero, if_true, if_false, Bool.true_eq_false, Bool.false_eq_true, rhD, dI, List.length_cons, List.length_nil, Nat.zero_add, Nat.reduceAdd, fLen_list, List.length_map, decide_eq_true e1, fIx, e2, e3]
      exact ⟨_, rfl⟩
    · have e1 : ¬ ((k : Int) < r.M.length) := by omega
      by_cases h2 : r.R = []
      · have e3 : r.nthT k = none := by unfold Rh.nthT; rw [dif_neg h1, if_pos h2]
        simp only [pb, fail_bind, lift_some, lift_none, xVar, xVarO, xC, xOp, xUn, xCall, xNil, xCons, xTest, xTruth, xNot, xAnd, xOr, xNotV, xAndV, xOrV, xIf, xChain, xTup, xLst, xAs, xFlat, xFlatL, iLst, iTupl, iOwn, iR1, iR2, gNm, gsNil, gsCons, gTp, sPass, sSeq, sBreak, sCont, sRet, sRetN, sIf, sAsg, sOwn, sExpr, sPar, sApp, thaw, sThaw, oNo, oSome, xSlice, xList, fList, lstOf, tupOf, asB, truth, fSub, fLt, fLe, fGt, fGe, fNeg, fIsN, fNotN, isNone, Option.bind_some, List.getElem?_cons_zero, List.getElem?_cons_succ, List.set_cons_zero, List.set_cons_succ, List.map_cons, List.map_nil, List.cons_append, List.nil_append, List.replicate_succ, List.replicate_zero, if_true, if_false, Bool.true_eq_false, Bool.false_eq_true, rhD, dI, List.length_cons, List.length_nil, Nat.zero_add, Nat.reduceAdd, fLen_list, List.length_map, decide_eq_false e1, h2, e3, List.isEmpty_nil, Bool.not_true, Bool.not_false]
        exact ⟨_, rfl⟩
      · have hne : (r.R.map PyData.int).isEmpty = false := by
          cases q : r.R with
          | nil => exact absurd q h2
          | cons => rfl
        have hpos : 0 < r.R.length := List.length_pos_iff.mpr h2
        have hc : ∀ x8 : Slot, compL (gNm 9) tYesF (xOp fAdd (xVar 3) (xOp fMod (xOp fSub (xVar 9) (xVar 3)) (xVar 5))) [.sh (rhD r), .sh (.int k), .sh (.str (Str.ofString "rhythm")), .sh (.int r.s), .sh (dI r.M), .sh (.int r.p), .sh (dI r.R), .sh (.int ((k : Int) - r.M.length)), x8, .no] (r.R.map .int) = pure ((r.R.map fun x => r.s + (x - r.s) % r.p).map .int) := fun x8 => by
          rw [compL_all .int (fun x => .int (r.s + (x - r.s) % r.p)) r.R fun x hx => ⟨_, rfl, ?_⟩]
          · rw [List.map_map]; rfl
          · simp only [pb, fail_bind, lift_some, lift_none, xVar, xVarO, xC, xOp, xUn, xCall, xNil, xCons, xTest, xTruth, xNot, xAnd, xOr, xNotV, xAndV, xOrV, xIf, xChain, xTup, xLst, xAs, xFlat, xFlatL, iLst, iTupl, iOwn, iR1, iR2, gNm, gsNil, gsCons, gTp, sPass, sSeq, sBreak, sCont, sRet, sRetN, sIf, sAsg, sOwn, sExpr, sPar, sApp, thaw, sThaw, oNo, oSome, xSlice, xList, fList, lstOf, tupOf, asB, truth, fSub, fLt, fLe, fGt, fGe, fNeg, fIsN, fNotN, isNone, Option.bind_some, List.getElem?_cons_zero, List.getElem?_cons_succ, List.set_cons_zero, List.set_cons_succ, List.map_cons, List.map_nil, List.cons_append, List.nil_append, List.replicate_succ, List.replicate_zero, if_true, if_false, Bool.true_eq_false, Bool.false_eq_true, fAdd_int, fMod_pos hp]
        have hs : fSorted (.list ((r.R.map fun x => r.s + (x - r.s) % r.p).map PyData.int)) = some (r.row.map .int) := by
          show (asInts _).bind _ = _
          rw [asInts_map, Option.bind_some, if_pos (by rw [List.length_map]; exact hR2)]
          rfl
        have hl0 : (0 : Int) < r.row.length := by omega
        have hl1 : (r.row.length : Int) < 1073741824 := by omega
        have hkl : (k : Int) - r.M.length = ((k - r.M.length : Nat) : Int) := by omega
        have hmod : ((k - r.M.length) % r.row.length) < r.row.length := Nat.mod_lt _ (by omega)
        have hat : atI (r.row.map PyData.int) (((k - r.M.length : Nat) : Int) % (r.row.length : Int)) = some (.int r.row[(k - r.M.length) % r.row.length]) := by
          rw [← Int.natCast_emod]
          exact atI_nat (by rw [List.getElem?_map, List.getElem?_eq_getElem hmod]; rfl)
        have e3 : r.nthT k = some (r.row[(k - r.M.length) % r.row.length] + r.p * (((k - r.M.length) / r.row.length : Nat) : Int)) := by
          unfold Rh.nthT
          rw [dif_neg h1, if_neg h2, List.getElem?_eq_getElem hmod]
          rfl
        have hw : ∀ a b c d e f g h i : Slot, wipeE [a, b, c, d, e, f, g, h, i, .no] [9] = some [a, b, c, d, e, f, g, h, i, .no] := fun a b c d e f g h i => rfl
        have hdiv : ((k - r.M.length : Nat) : Int) / (r.row.length : Int) = (((k - r.M.length) / r.row.length : Nat) : Int) := by
          rw [Int.natCast_ediv]
        simp only [rhD, dI] at hc
        simp only [hkl] at hc
        simp only [pb, fail_bind, lift_some, lift_none, xVar, xVarO, xC, xOp, xUn, xCall, xNil, xCons, xTest, xTruth, xNot, xAnd, xOr, xNotV, xAndV, xOrV, xIf, xChain, xTup, xLst, xAs, xFlat, xFlatL, iLst, iTupl, iOwn, iR1, iR2, gNm, gsNil, gsCons, gTp, sPass, sSeq, sBreak, sCont, sRet, sRetN, sIf, sAsg, sOwn, sExpr, sPar, sApp, thaw, sThaw, oNo, oSome, xSlice, xList, fList, lstOf, tupOf, asB, truth, fSub, fLt, fLe, fGt, fGe, fNeg, fIsN, fNotN, isNone, Option.bind_some, List.getElem?_cons_zero, List.getElem?_cons_succ, List.set_cons_zero, List.set_cons_succ, List.map_cons, List.map_nil, List.cons_append, List.nil_append, List.replicate_succ, List.replicate_zero, if_true, if_false, Bool.true_eq_false, Bool.false_eq_true, rhD, dI, List.length_cons, List.length_nil, Nat.zero_add, Nat.reduceAdd, fLen_list, List.length_map, decide_eq_false e1, hne, Bool.not_true, Bool.not_false, xComp, hw, if_pos hR2, hkl, hc, xSorted, hs, fMod_pos hl0, fIx, hat, fDiv_pos hl0 hl1, hdiv, fMul_l (inW_of (show -(2 ^ 64) < r.p by omega) (show r.p < 2 ^ 64 by omega)), fAdd_int, e3]
        exact ⟨_, rfl⟩
  obtain ⟨env', e⟩ := key
  exact runDef_rt rfl e

/-! weeks -/
def wk (W : List Bool) (d : Int) : Bool := W.getD (d % 7).toNat false
def rests0 (W : List Bool) : List Int := ((List.range 7).filter fun (k : Nat) => W.getD k false).map fun (k : Nat) => (k : Int)
def rT (W : List Bool) : Rh := if W.all id then ⟨0, [], 1, [0]⟩ else ⟨0, [], 7, rests0 W⟩
theorem least_run (W : List Bool) (hl : W.length = 7) (hw : W.any id = true) : leastF 300 [.tuple [.str (Str.ofString "rhythm"), .int 0, .list [], .int 7, .list ((rests0 W).map .int)]] = some (rhD (rT W)) := by
  have h : ((allB 7).all fun W => !W.any id || sameO (leastF 300 [.tuple [.str (Str.ofString "rhythm"), .int 0, .list [], .int 7, .list ((rests0 W).map .int)]]) (rhD (rT W))) = true := by decide +kernel
  have hm : W ∈ allB 7 := by rw [← hl]; exact mem_allB W
  have h2 := List.all_eq_true.mp h W hm
  rw [hw] at h2
  exact sameO_eq h2
def daysT (W : List Bool) : List Int := ((List.range 60).filter fun (k : Nat) => wk W (k : Int)).map fun (k : Nat) => (k : Int)
def pausT (W : List Bool) : List Int := (List.range 7).map fun (k : Nat) => (daysT W).getD (k + 1) 0 - (daysT W).getD k 0 - 1
def mxT : List Int → Int
  | [] => 0
  | a :: r => maxI a r
def chkP (W : List Bool) : Bool := decide (8 ≤ (daysT W).length) && match (pausT W).findIdx? (fun z => decide (z = mxT (pausT W))) with
  | some j => decide (j < 8) && sameO (longest_pauseF 300 [rhD (rT W)]) (.tuple [.int (mxT (pausT W)), .int ((daysT W).getD j 0)])
  | none => false
theorem chkP_0 : ((allB 4).all fun W => !(false :: false :: false :: W).any id || chkP (false :: false :: false :: W)) = true := by decide +kernel
theorem chkP_1 : ((allB 4).all fun W => !(false :: false :: true :: W).any id || chkP (false :: false :: true :: W)) = true := by decide +kernel
theorem chkP_2 : ((allB 4).all fun W => !(false :: true :: false :: W).any id || chkP (false :: true :: false :: W)) = true := by decide +kernel
theorem chkP_3 : ((allB 4).all fun W => !(false :: true :: true :: W).any id || chkP (false :: true :: true :: W)) = true := by decide +kernel
theorem chkP_4 : ((allB 4).all fun W => !(true :: false :: false :: W).any id || chkP (true :: false :: false :: W)) = true := by decide +kernel
theorem chkP_5 : ((allB 4).all fun W => !(true :: false :: true :: W).any id || chkP (true :: false :: true :: W)) = true := by decide +kernel
theorem chkP_6 : ((allB 4).all fun W => !(true :: true :: false :: W).any id || chkP (true :: true :: false :: W)) = true := by decide +kernel
theorem chkP_7 : ((allB 4).all fun W => !(true :: true :: true :: W).any id || chkP (true :: true :: true :: W)) = true := by decide +kernel
theorem chkP_c (a b c : Bool) : ((allB 4).all fun W => !(a :: b :: c :: W).any id || chkP (a :: b :: c :: W)) = true := by
  cases a <;> cases b <;> cases c
  · exact chkP_0
  · exact chkP_1
  · exact chkP_2
  · exact chkP_3
  · exact chkP_4
  · exact chkP_5
  · exact chkP_6
  · exact chkP_7
theorem chkP_all (W : List Bool) (hl : W.length = 7) (hw : W.any id = true) : chkP W = true := by
  obtain ⟨a, b, c, W', rfl⟩ : ∃ a b c W', W = a :: b :: c :: W' := by
    match W, hl with
    | a :: b :: c :: W', _ => exact ⟨a, b, c, W', rfl⟩
  have hm : W' ∈ allB 4 := by
    rw [show 4 = W'.length by simp only [List.length_cons] at hl; omega]
    exact mem_allB W'
  have h2 := List.all_eq_true.mp (chkP_c a b c) W' hm
  rw [hw] at h2
  exact h2
end VE

namespace VE
open PySem
theorem rests0_mem (W : List Bool) (x : Int) : x ∈ rests0 W ↔ 0 ≤ x ∧ x < 7 ∧ W.getD x.toNat false = true := by
  unfold rests0
  rw [List.mem_map]
  constructor
  · rintro ⟨k, hk, rfl⟩
    rw [List.mem_filter, List.mem_range] at hk
    exact ⟨by omega, by omega, by simpa using hk.2⟩
  · rintro ⟨h1, h2, h3⟩
    exact ⟨x.toNat, List.mem_filter.mpr ⟨List.mem_range.mpr (by omega), by simpa using h3⟩, by omega⟩
theorem rT_ok (W : List Bool) : (rT W).Ok := by
  unfold rT
  split
  · exact ⟨Int.le_refl _, by decide, .nil, fun _ h => by simp at h, by simp, fun x h => by simp at h; subst h; decide⟩
  · refine ⟨Int.le_refl _, show (0 : Int) < 7 by decide, .nil, fun _ h => by simp at h, ?_, fun x h => ⟨((rests0_mem W x).mp h).1, ((rests0_mem W x).mp h).2.1⟩⟩
    show (rests0 W).Pairwise _
    unfold rests0
    rw [List.pairwise_map]
    exact (List.pairwise_lt_range.filter _).imp fun h => by omega
theorem rT_goes (W : List Bool) (hl : W.length = 7) {d : Int} (hd : 0 ≤ d) : (rT W).goes d = wk W d := by
  have h0 : 0 ≤ d % 7 := Int.emod_nonneg _ (by decide)
  have h1 : d % 7 < 7 := Int.emod_lt_of_pos _ (by decide)
  unfold rT Rh.goes wk
  split
  · rename_i ha
    rw [if_neg (show ¬ d < 0 by omega)]
    have : d % 1 = 0 := Int.emod_one d
    rw [List.getD_eq_getElem?_getD, List.getElem?_eq_getElem (by omega)]
    have := List.all_eq_true.mp ha _ (List.getElem_mem (show (d % 7).toNat < W.length by omega))
    simp only [Int.emod_one, List.mem_singleton, decide_true, Option.getD_some]
    exact this.symm
  · rw [if_neg (show ¬ d < 0 by omega)]
    have e : (d % 7 ∈ rests0 W) ↔ W.getD (d % 7).toNat false = true := by
      rw [rests0_mem]; exact ⟨fun h => h.2.2, fun h => ⟨h0, h1, h⟩⟩
    cases hq : W.getD (d % 7).toNat false with
    | true => exact decide_eq_true (e.mpr hq)
    | false => exact decide_eq_false fun z => by rw [e.mp z] at hq; cases hq
theorem rT_ne (W : List Bool) (hl : W.length = 7) (hw : W.any id = true) : (rT W).R ≠ [] := by
  unfold rT
  split
  · simp
  · intro h
    have h : rests0 W = [] := h
    obtain ⟨b, hb, hb2⟩ := List.any_eq_true.mp hw
    obtain ⟨i, hi, rfl⟩ := List.getElem_of_mem hb
    have : (i : Int) ∈ rests0 W := (rests0_mem W i).mpr ⟨by omega, by omega, by rw [Int.toNat_natCast, List.getD_eq_getElem?_getD, List.getElem?_eq_getElem hi]; exact hb2⟩
    rw [h] at this
    simp at this
theorem rT_small (W : List Bool) : (rT W).p < 1073741824 ∧ (rT W).M.length ≤ line ∧ (rT W).R.length < 1073741824 ∧ (rT W).R.length ≤ line ∧ (rT W).s = 0 ∧ (rT W).M = [] := by
  have hr : (rests0 W).length ≤ 7 := by
    unfold rests0
    rw [List.length_map]
    exact Nat.le_trans (List.length_filter_le _ _) (by simp)
  unfold rT
  split
  · exact ⟨by decide, by decide, by decide, by decide, rfl, rfl⟩
  · exact ⟨show (7 : Int) < 1073741824 by decide, show 0 ≤ line by decide, by show (rests0 W).length < _; omega, by show (rests0 W).length ≤ line; unfold line; omega, rfl, rfl⟩
/-! works_on, before, count -/
theorem wk_at (W : List Bool) (hl : W.length = 7) (d : Int) : atI (W.map PyData.bool) (d % 7) = some (.bool (wk W d)) := by
  have h0 : 0 ≤ d % 7 := Int.emod_nonneg _ (by decide)
  have h1 : d % 7 < 7 := Int.emod_lt_of_pos _ (by decide)
  refine atI_of h0 ?_
  unfold wk
  rw [List.getElem?_map, List.getElem?_eq_getElem (by omega), List.getD_eq_getElem?_getD, List.getElem?_eq_getElem (by omega)]
  rfl
theorem fNotIn_nil (x : Int) : fNotIn (.int x) (.list []) = some (.bool true) := rfl
theorem works_run (W : List Bool) (hl : W.length = 7) (d : Int) : works_onF [dB W, .list [], .int d] = some (.bool (wk W d)) := by
  refine runDef_ex rfl ?_
  have e := wk_at W hl d
  unfold works_onB
  cases hq : wk W d with
  | true =>
    rw [hq] at e
    simp only [pb, fail_bind, lift_some, lift_none, xVar, xVarO, xC, xOp, xUn, xCall, xNil, xCons, xTest, xTruth, xNot, xAnd, xOr, xNotV, xAndV, xOrV, xIf, xChain, xTup, xLst, xAs, xFlat, xFlatL, iLst, iTupl, iOwn, iR1, iR2, gNm, gsNil, gsCons, gTp, sPass, sSeq, sBreak, sCont, sRet, sRetN, sIf, sAsg, sOwn, sExpr, sPar, sApp, thaw, sThaw, oNo, oSome, xSlice, xList, fList, lstOf, tupOf, asB, truth, fSub, fLt, fLe, fGt, fGe, fNeg, fIsN, fNotN, isNone, Option.bind_some, List.getElem?_cons_zero, List.getElem?_cons_succ, List.set_cons_zero, List.set_cons_succ, List.map_cons, List.map_nil, List.cons_append, List.nil_append, List.replicate_succ, List.replicate_zero, if_true, if_false, Bool.true_eq_false, Bool.false_eq_true, dB, fMod_pos (show (0:Int) < 7 by decide), fIx, e, fNotIn_nil]
    exact ⟨_, rfl⟩
  | false =>
    rw [hq] at e
    simp only [pb, fail_bind, lift_some, lift_none, xVar, xVarO, xC, xOp, xUn, xCall, xNil, xCons, xTest, xTruth, xNot, xAnd, xOr, xNotV, xAndV, xOrV, xIf, xChain, xTup, xLst, xAs, xFlat, xFlatL, iLst, iTupl, iOwn, iR1, iR2, gNm, gsNil, gsCons, gTp, sPass, sSeq, sBreak, sCont, sRet, sRetN, sIf, sAsg, sOwn, sExpr, sPar, sApp, thaw, sThaw, oNo, oSome, xSlice, xList, fList, lstOf, tupOf, asB, truth, fSub, fLt, fLe, fGt, fGe, fNeg, fIsN, fNotN, isNone, Option.bind_some, List.getElem?_cons_zero, List.getElem?_cons_succ, List.set_cons_zero, List.set_cons_succ, List.map_cons, List.map_nil, List.cons_append, List.nil_append, List.replicate_succ, List.replicate_zero, if_true, if_false, Bool.true_eq_false, Bool.false_eq_true, dB, fMod_pos (show (0:Int) < 7 by decide), fIx, e, fNotIn_nil]
    exact ⟨_, rfl⟩
def ones (W : List Bool) : Int := (W.filter id).length
def befT (W : List Bool) (d : Int) : Int := d / 7 * ones W + ones (W.take (d % 7).toNat)
theorem ones_sum (W : List Bool) : ((W.filter id).map fun _ => (1 : Int)).sum = ones W := by
  unfold ones
  induction W with
  | nil => rfl
  | cons b r ih =>
    cases b with
    | true => simp only [List.filter_cons, id, if_true, List.map_cons, List.sum_cons, ih, List.length_cons]; omega
    | false => simp only [List.filter_cons, id, Bool.false_eq_true, if_false, ih]
theorem comp_ones (g : GF) (f : EF) (t : TF) (env : En) (W : List Bool) (H : ∀ b, ∃ env1, g (.bool b) env = some env1 ∧ t env1 = pure b ∧ f env1 = pure (.int 1)) : compL g t f env (W.map .bool) = pure (((W.filter id).map fun _ => (1 : Int)).map .int) := by
  rw [compL_map .bool id (fun _ => .int 1) W fun b _ => ?_]
  · rw [List.map_map]; rfl
  · obtain ⟨e, h1, h2, h3⟩ := H b
    exact ⟨e, h1, h2, fun _ => h3⟩
theorem cut_take (W : List Bool) (hl : W.length = 7) (d : Int) : cut (W.map PyData.bool) none (some (d % 7)) = (W.take (d % 7).toNat).map .bool := by
  have h0 : 0 ≤ d % 7 := Int.emod_nonneg _ (by decide)
  have h1 : d % 7 < 7 := Int.emod_lt_of_pos _ (by decide)
  have e : cut (W.map PyData.bool) none (some (d % 7)) = ((W.map PyData.bool).drop 0).take ((if d % 7 < 0 then (d % 7 + ((W.map PyData.bool).length : Int)).toNat else min (d % 7).toNat (W.map PyData.bool).length) - 0) := rfl
  rw [e, if_neg (by omega), List.drop_zero, Nat.sub_zero, List.length_map, Nat.min_eq_left (by omega), List.map_take]
theorem ones_le (W : List Bool) : 0 ≤ ones W ∧ ones W ≤ W.length := by
  unfold ones
  exact ⟨by omega, by have := List.length_filter_le id W; omega⟩
theorem before_run (W : List Bool) (hl : W.length = 7) (d : Int) : beforeF [dB W, .int d] = some (.int (befT W d)) := by
  refine runDef_ex rfl ?_
  have hline : ∀ V : List Bool, V.length ≤ 7 → V.length ≤ line := fun V h => Nat.le_trans h (by decide)
  have hw : ∀ a b c : Slot, wipeE [a, b, c, .no] [3] = some [a, b, c, .no] := fun a b c => rfl
  have hc : ∀ (a b c : Slot) (V : List Bool), compL (gNm 3) (xTruth (xVar 3)) (xC (.int 1)) [a, b, c, .no] (V.map .bool) = pure (((V.filter id).map fun _ => (1 : Int)).map .int) := fun a b c V => comp_ones _ _ _ _ V fun b => ⟨_, rfl, rfl, rfl⟩
  have ho := ones_le W
  have hin : inW (ones W) = true := inW_of (by omega) (by omega)
  unfold beforeB
  simp only [pb, fail_bind, lift_some, lift_none, xVar, xVarO, xC, xOp, xUn, xCall, xNil, xCons, xTest, xTruth, xNot, xAnd, xOr, xNotV, xAndV, xOrV, xIf, xChain, xTup, xLst, xAs, xFlat, xFlatL, iLst, iTupl, iOwn, iR1, iR2, gNm, gsNil, gsCons, gTp, sPass, sSeq, sBreak, sCont, sRet, sRetN, sIf, sAsg, sOwn, sExpr, sPar, sApp, thaw, sThaw, oNo, oSome, xSlice, xList, fList, lstOf, tupOf, asB, truth, fSub, fLt, fLe, fGt, fGe, fNeg, fIsN, fNotN, isNone, Option.bind_some, List.getElem?_cons_zero, List.getElem?_cons_succ, List.set_cons_zero, List.set_cons_succ, List.map_cons, List.map_nil, List.cons_append, List.nil_append, List.replicate_succ, List.replicate_zero, if_true, if_false, Bool.true_eq_false, Bool.false_eq_true, dB, xComp, hw, hc, List.length_map, if_pos (hline W (by omega)), fSum_ints, ones_sum, fDiv_pos (show (0:Int) < 7 by decide) (by decide), fMul_r hin, fMod_pos (show (0:Int) < 7 by decide), cut_take W hl, if_pos (hline (W.take (d % 7).toNat) (by rw [List.length_take]; omega)), fAdd_int]
  exact ⟨_, rfl⟩
theorem count_run (W : List Bool) (hl : W.length = 7) (a b : Int) : countF [dB W, .list [], .int a, .int b] = some (.int (befT W b - befT W a - 0)) := by
  refine runDef_ex rfl ?_
  have hb := before_run W hl
  simp only [dB] at hb
  unfold countB
  simp only [pb, fail_bind, lift_some, lift_none, xVar, xVarO, xC, xOp, xUn, xCall, xNil, xCons, xTest, xTruth, xNot, xAnd, xOr, xNotV, xAndV, xOrV, xIf, xChain, xTup, xLst, xAs, xFlat, xFlatL, iLst, iTupl, iOwn, iR1, iR2, gNm, gsNil, gsCons, gTp, sPass, sSeq, sBreak, sCont, sRet, sRetN, sIf, sAsg, sOwn, sExpr, sPar, sApp, thaw, sThaw, oNo, oSome, xSlice, xList, fList, lstOf, tupOf, asB, truth, fSub, fLt, fLe, fGt, fGe, fNeg, fIsN, fNotN, isNone, Option.bind_some, List.getElem?_cons_zero, List.getElem?_cons_succ, List.set_cons_zero, List.set_cons_succ, List.map_cons, List.map_nil, List.cons_append, List.nil_append, List.replicate_succ, List.replicate_zero, if_true, if_false, Bool.true_eq_false, Bool.false_eq_true, dB, xComp, compL, wipeE, List.length_nil, if_pos (show 0 ≤ line by decide), fLen_list, hb]
  exact ⟨_, rfl⟩
theorem ones_succ (W : List Bool) (k : Nat) (hk : k < W.length) : ones (W.take (k + 1)) = ones (W.take k) + (if W.getD k false then 1 else 0) := by
  rw [List.take_add_one, List.getElem?_eq_getElem hk, List.getD_eq_getElem?_getD, List.getElem?_eq_getElem hk]
  unfold ones
  rw [List.filter_append, List.length_append]
  simp only [Option.toList_some, Option.getD_some]
  cases W[k] <;> simp
theorem befT_step (W : List Bool) (hl : W.length = 7) (d : Int) : befT W (d + 1) = befT W d + (if wk W d then 1 else 0) := by
  have h0 : 0 ≤ d % 7 := Int.emod_nonneg _ (by decide)
  have h1 : d % 7 < 7 := Int.emod_lt_of_pos _ (by decide)
  have hs := ones_succ W (d % 7).toNat (by omega)
  unfold befT wk
  by_cases h6 : d % 7 = 6
  · have e1 : (d + 1) / 7 = d / 7 + 1 := by omega
    have e2 : (d + 1) % 7 = 0 := by omega
    have e3 : W.take ((d % 7).toNat + 1) = W := List.take_of_length_le (by omega)
    rw [e3] at hs
    rw [e1, e2, Int.add_mul, Int.one_mul]
    simp only [Int.toNat_zero, List.take_zero]
    have : ones ([] : List Bool) = 0 := rfl
    rw [this]
    omega
  · have e1 : (d + 1) / 7 = d / 7 := by omega
    have e2 : ((d + 1) % 7).toNat = (d % 7).toNat + 1 := by omega
    rw [e1, e2, hs]
    omega
theorem befT_cnt (W : List Bool) (hl : W.length = 7) (d : Nat) : befT W d = cnt (wk W) d := by
  induction d with
  | zero =>
    have e1 : ((0 : Nat) : Int) / 7 = 0 := by decide
    have e2 : (((0 : Nat) : Int) % 7).toNat = 0 := by decide
    unfold befT
    rw [e1, e2, Int.zero_mul]
    rfl
  | succ d ih =>
    rw [show ((d + 1 : Nat) : Int) = (d : Int) + 1 by omega, befT_step W hl, ih, cnt]
    split <;> omega
theorem wk_period (W : List Bool) (d : Int) : wk W (d + 7) = wk W d := by
  unfold wk
  rw [Int.add_emod_right]
theorem ones_pos (W : List Bool) (hw : W.any id = true) : 1 ≤ ones W := by
  obtain ⟨b, hb, hb2⟩ := List.any_eq_true.mp hw
  unfold ones
  have : 0 < (W.filter id).length := List.length_pos_iff.mpr (List.ne_nil_of_mem (List.mem_filter.mpr ⟨hb, hb2⟩))
  omega
theorem befT_period (W : List Bool) (d : Int) (k : Nat) : befT W (d + 7 * k) = befT W d + k * ones W := by
  unfold befT
  rw [Int.add_mul_emod_self_left, Int.add_mul_ediv_left _ _ (by decide), Int.add_mul]
  omega
theorem befT_mono (W : List Bool) (hl : W.length = 7) {a b : Nat} (h : a ≤ b) : befT W a ≤ befT W b := by
  rw [befT_cnt W hl, befT_cnt W hl]
  have := cnt_mono (g := wk W) h
  omega

theorem nth_day_run (W : List Bool) (hl : W.length = 7) (hw : W.any id = true) (day many : Nat) (hm : many ≤ 5) : ∃ low : Nat, nth_dayF 300 [dB W, .list [], .int day, .int many] = some (.int low) ∧ wk W low = true ∧ cnt (wk W) low = cnt (wk W) day + many := by
  have hc := count_run W hl
  simp only [dB] at hc
  have hp := ones_pos W hw
  have ho := ones_le W
  -- the first loop
  have L1 : ∃ env', sWhile.go (xTest (xOp fLe (xCall countF (xCons (xVar 0) (xCons (xVar 1) (xCons (xVar 2) (xCons (xVar 5) xNil))))) (xVar 3))) (sAsg (xOp fAdd (xVar 2) (xOp fMul (xC (.int 2)) (xOp fSub (xVar 5) (xVar 2)))) (gNm 5)) 300 [.sh (dB W), .sh (.list []), .sh (.int day), .sh (.int many), .sh (.int day), .sh (.int ((day : Int) + 1)), .no] = pure (.nx, env') ∧
      ∃ high : Nat, env' = [.sh (dB W), .sh (.list []), .sh (.int day), .sh (.int many), .sh (.int day), .sh (.int high), .no] ∧ day < high ∧ high ≤ day + 100 ∧ (many : Int) < befT W high - befT W day := by
    refine while_inv (fun env => ∃ high : Nat, env = [.sh (dB W), .sh (.list []), .sh (.int day), .sh (.int many), .sh (.int day), .sh (.int high), .no] ∧ day < high ∧ high ≤ day + 100)
      (fun env => match env with | [_, _, _, _, _, .sh (.int h), _] => (day + 200 - h).toNat | _ => 0) _ (fun env hI => ?_) 300 _ ⟨day + 1, rfl, by omega, by omega⟩ (by
        show ((day : Int) + 200 - ((day : Int) + 1)).toNat < 300
        omega)
    obtain ⟨high, rfl, h1, h2⟩ := hI
    by_cases h : befT W high - befT W day ≤ many
    · right
      have hlt : high < day + 42 := by
        refine Nat.lt_of_not_le fun hge => ?_
        have m1 := befT_mono W hl hge
        have m2 := befT_period W day 6
        rw [show ((day + 42 : Nat) : Int) = (day : Int) + 7 * ((6 : Nat) : Int) by omega, m2] at m1
        have : (6 : Int) ≤ ((6 : Nat) : Int) * ones W := by omega
        omega
      refine ⟨?_, _, [.sh (dB W), .sh (.list []), .sh (.int day), .sh (.int many), .sh (.int day), .sh (.int ((day + 2 * (high - day) : Nat) : Int)), .no], ?_, .inl rfl, ⟨day + 2 * (high - day), rfl, by omega, by omega⟩, ?_⟩
      · simp only [pb, fail_bind, lift_some, lift_none, xVar, xVarO, xC, xOp, xUn, xCall, xNil, xCons, xTest, xTruth, xNot, xAnd, xOr, xNotV, xAndV, xOrV, xIf, xChain, xTup, xLst, xAs, xFlat, xFlatL, iLst, iTupl, iOwn, iR1, iR2, gNm, gsNil, gsCons, gTp, sPass, sSeq, sBreak, sCont, sRet, sRetN, sIf, sAsg, sOwn, sExpr, sPar, sApp, thaw, sThaw, oNo, oSome, xSlice, xList, fList, lstOf, tupOf, asB, truth, fSub, fLt, fLe, fGt, fGe, fNeg, fIsN, fNotN, isNone, Option.bind_some, List.getElem?_cons_zero, List.getElem?_cons_succ, List.set_cons_zero, List.set_cons_succ, List.map_cons, List.map_nil, List.cons_append, List.nil_append, List.replicate_succ, List.replicate_zero, if_true, if_false, Bool.true_eq_false, Bool.false_eq_true, dB, hc, Int.sub_zero, decide_eq_true h]
      · have e : (day : Int) + 2 * ((high : Int) - day) = ((day + 2 * (high - day) : Nat) : Int) := by omega
        simp only [pb, fail_bind, lift_some, lift_none, xVar, xVarO, xC, xOp, xUn, xCall, xNil, xCons, xTest, xTruth, xNot, xAnd, xOr, xNotV, xAndV, xOrV, xIf, xChain, xTup, xLst, xAs, xFlat, xFlatL, iLst, iTupl, iOwn, iR1, iR2, gNm, gsNil, gsCons, gTp, sPass, sSeq, sBreak, sCont, sRet, sRetN, sIf, sAsg, sOwn, sExpr, sPar, sApp, thaw, sThaw, oNo, oSome, xSlice, xList, fList, lstOf, tupOf, asB, truth, fSub, fLt, fLe, fGt, fGe, fNeg, fIsN, fNotN, isNone, Option.bind_some, List.getElem?_cons_zero, List.getElem?_cons_succ, List.set_cons_zero, List.set_cons_succ, List.map_cons, List.map_nil, List.cons_append, List.nil_append, List.replicate_succ, List.replicate_zero, if_true, if_false, Bool.true_eq_false, Bool.false_eq_true, fMul_l (inW_of (show -(2 ^ 64) < (2 : Int) by decide) (by decide)), fAdd_int, e]
      · show ((day : Int) + 200 - ((day + 2 * (high - day) : Nat) : Int)).toNat < ((day : Int) + 200 - (high : Int)).toNat
        omega
    · left
      refine ⟨?_, high, rfl, h1, h2, by omega⟩
      simp only [pb, fail_bind, lift_some, lift_none, xVar, xVarO, xC, xOp, xUn, xCall, xNil, xCons, xTest, xTruth, xNot, xAnd, xOr, xNotV, xAndV, xOrV, xIf, xChain, xTup, xLst, xAs, xFlat, xFlatL, iLst, iTupl, iOwn, iR1, iR2, gNm, gsNil, gsCons, gTp, sPass, sSeq, sBreak, sCont, sRet, sRetN, sIf, sAsg, sOwn, sExpr, sPar, sApp, thaw, sThaw, oNo, oSome, xSlice, xList, fList, lstOf, tupOf, asB, truth, fSub, fLt, fLe, fGt, fGe, fNeg, fIsN, fNotN, isNone, Option.bind_some, List.getElem?_cons_zero, List.getElem?_cons_succ, List.set_cons_zero, List.set_cons_succ, List.map_cons, List.map_nil, List.cons_append, List.nil_append, List.replicate_succ, List.replicate_zero, if_true, if_false, Bool.true_eq_false, Bool.false_eq_true, dB, hc, Int.sub_zero, decide_eq_false h]
  obtain ⟨e1, hr1, high, rfl, g1, g2, g3⟩ := L1
  -- the second loop
  have L2 : ∃ env', sWhile.go (xTest (xOp fGt (xOp fSub (xVar 5) (xVar 4)) (xC (.int 1)))) (sSeq (sAsg (xOp fDiv (xOp fAdd (xVar 4) (xVar 5)) (xC (.int 2))) (gNm 6)) (sIf (xTest (xOp fLe (xCall countF (xCons (xVar 0) (xCons (xVar 1) (xCons (xVar 2) (xCons (xVar 6) xNil))))) (xVar 3))) (sAsg (xVar 6) (gNm 4)) (sAsg (xVar 6) (gNm 5)))) 300 [.sh (dB W), .sh (.list []), .sh (.int day), .sh (.int many), .sh (.int day), .sh (.int high), .no] = pure (.nx, env') ∧
      ∃ (low : Nat) (z : Slot), env' = [.sh (dB W), .sh (.list []), .sh (.int day), .sh (.int many), .sh (.int low), .sh (.int ((low + 1 : Nat) : Int)), z] ∧ befT W low - befT W day ≤ many ∧ (many : Int) < befT W ((low + 1 : Nat) : Int) - befT W day := by
    refine while_inv (fun env => ∃ (low hi : Nat) (z : Slot), env = [.sh (dB W), .sh (.list []), .sh (.int day), .sh (.int many), .sh (.int low), .sh (.int hi), z] ∧ low < hi ∧ hi ≤ low + 100 ∧ befT W low - befT W day ≤ many ∧ (many : Int) < befT W hi - befT W day)
      (fun env => match env with | [_, _, _, _, .sh (.int l), .sh (.int h), _] => (h - l).toNat | _ => 0) _ (fun env hI => ?_) 300 _ ⟨day, high, _, rfl, g1, g2, by omega, g3⟩ (by
        show ((high : Int) - (day : Int)).toNat < 300
        omega)
    obtain ⟨low, hi, z, rfl, h1, h2, h3, h4⟩ := hI
    by_cases h : hi = low + 1
    · left
      subst h
      refine ⟨?_, low, z, rfl, h3, h4⟩
      have : ¬ (1 : Int) < ((low + 1 : Nat) : Int) - low := by omega
      simp only [pb, fail_bind, lift_some, lift_none, xVar, xVarO, xC, xOp, xUn, xCall, xNil, xCons, xTest, xTruth, xNot, xAnd, xOr, xNotV, xAndV, xOrV, xIf, xChain, xTup, xLst, xAs, xFlat, xFlatL, iLst, iTupl, iOwn, iR1, iR2, gNm, gsNil, gsCons, gTp, sPass, sSeq, sBreak, sCont, sRet, sRetN, sIf, sAsg, sOwn, sExpr, sPar, sApp, thaw, sThaw, oNo, oSome, xSlice, xList, fList, lstOf, tupOf, asB, truth, fSub, fLt, fLe, fGt, fGe, fNeg, fIsN, fNotN, isNone, Option.bind_some, List.getElem?_cons_zero, List.getElem?_cons_succ, List.set_cons_zero, List.set_cons_succ, List.map_cons, List.map_nil, List.cons_append, List.nil_append, List.replicate_succ, List.replicate_zero, if_true, if_false, Bool.true_eq_false, Bool.false_eq_true, decide_eq_false this]
    · right
      have hgt : (1 : Int) < (hi : Int) - low := by omega
      have hmid : ((low : Int) + hi) / 2 = (((low + hi) / 2 : Nat) : Int) := by omega
      refine ⟨by simp only [pb, fail_bind, lift_some, lift_none, xVar, xVarO, xC, xOp, xUn, xCall, xNil, xCons, xTest, xTruth, xNot, xAnd, xOr, xNotV, xAndV, xOrV, xIf, xChain, xTup, xLst, xAs, xFlat, xFlatL, iLst, iTupl, iOwn, iR1, iR2, gNm, gsNil, gsCons, gTp, sPass, sSeq, sBreak, sCont, sRet, sRetN, sIf, sAsg, sOwn, sExpr, sPar, sApp, thaw, sThaw, oNo, oSome, xSlice, xList, fList, lstOf, tupOf, asB, truth, fSub, fLt, fLe, fGt, fGe, fNeg, fIsN, fNotN, isNone, Option.bind_some, List.getElem?_cons_zero, List.getElem?_cons_succ, List.set_cons_zero, List.set_cons_succ, List.map_cons, List.map_nil, List.cons_append, List.nil_append, List.replicate_succ, List.replicate_zero, if_true, if_false, Bool.true_eq_false, Bool.false_eq_true, decide_eq_true hgt], ?_⟩
      by_cases hc2 : befT W (((low + hi) / 2 : Nat) : Int) - befT W day ≤ many
      · refine ⟨_, [.sh (dB W), .sh (.list []), .sh (.int day), .sh (.int many), .sh (.int (((low + hi) / 2 : Nat) : Int)), .sh (.int hi), .sh (.int (((low + hi) / 2 : Nat) : Int))], ?_, .inl rfl, ⟨(low + hi) / 2, hi, _, rfl, by omega, by omega, hc2, h4⟩, ?_⟩
        · simp only [pb, fail_bind, lift_some, lift_none, xVar, xVarO, xC, xOp, xUn, xCall, xNil, xCons, xTest, xTruth, xNot, xAnd, xOr, xNotV, xAndV, xOrV, xIf, xChain, xTup, xLst, xAs, xFlat, xFlatL, iLst, iTupl, iOwn, iR1, iR2, gNm, gsNil, gsCons, gTp, sPass, sSeq, sBreak, sCont, sRet, sRetN, sIf, sAsg, sOwn, sExpr, sPar, sApp, thaw, sThaw, oNo, oSome, xSlice, xList, fList, lstOf, tupOf, asB, truth, fSub, fLt, fLe, fGt, fGe, fNeg, fIsN, fNotN, isNone, Option.bind_some, List.getElem?_cons_zero, List.getElem?_cons_succ, List.set_cons_zero, List.set_cons_succ, List.map_cons, List.map_nil, List.cons_append, List.nil_append, List.replicate_succ, List.replicate_zero, if_true, if_false, Bool.true_eq_false, Bool.false_eq_true, dB, fAdd_int, fDiv_pos (show (0:Int) < 2 by decide) (by decide), hmid, hc, Int.sub_zero, decide_eq_true hc2]
        · show ((hi : Int) - (((low + hi) / 2 : Nat) : Int)).toNat < ((hi : Int) - low).toNat
          omega
      · refine ⟨_, [.sh (dB W), .sh (.list []), .sh (.int day), .sh (.int many), .sh (.int low), .sh (.int (((low + hi) / 2 : Nat) : Int)), .sh (.int (((low + hi) / 2 : Nat) : Int))], ?_, .inl rfl, ⟨low, (low + hi) / 2, _, rfl, by omega, by omega, h3, by omega⟩, ?_⟩
        · simp only [pb, fail_bind, lift_some, lift_none, xVar, xVarO, xC, xOp, xUn, xCall, xNil, xCons, xTest, xTruth, xNot, xAnd, xOr, xNotV, xAndV, xOrV, xIf, xChain, xTup, xLst, xAs, xFlat, xFlatL, iLst, iTupl, iOwn, iR1, iR2, gNm, gsNil, gsCons, gTp, sPass, sSeq, sBreak, sCont, sRet, sRetN, sIf, sAsg, sOwn, sExpr, sPar, sApp, thaw, sThaw, oNo, oSome, xSlice, xList, fList, lstOf, tupOf, asB, truth, fSub, fLt, fLe, fGt, fGe, fNeg, fIsN, fNotN, isNone, Option.bind_some, List.getElem?_cons_zero, List.getElem?_cons_succ, List.set_cons_zero, List.set_cons_succ, List.map_cons, List.map_nil, List.cons_append, List.nil_append, List.replicate_succ, List.replicate_zero, if_true, if_false, Bool.true_eq_false, Bool.false_eq_true, dB, fAdd_int, fDiv_pos (show (0:Int) < 2 by decide) (by decide), hmid, hc, Int.sub_zero, decide_eq_false hc2]
        · show ((((low + hi) / 2 : Nat) : Int) - low).toNat < ((hi : Int) - low).toNat
          omega
  obtain ⟨e2, hr2, low, z, rfl, g4, g5⟩ := L2
  have hstep := befT_step W hl low
  rw [show ((low + 1 : Nat) : Int) = (low : Int) + 1 by omega] at g5
  have hg : wk W low = true := by
    cases hq : wk W low with
    | true => rfl
    | false => rw [hq] at hstep; simp only [Bool.false_eq_true, if_false] at hstep; omega
  rw [hg] at hstep
  simp only [if_true] at hstep
  refine ⟨low, ?_, hg, ?_⟩
  · refine runDef_ex rfl ?_
    have hany := fAny_bools W
    rw [hw] at hany
    simp only [dB] at hr1 hr2
    unfold nth_dayB
    simp only [pb, fail_bind, lift_some, lift_none, xVar, xVarO, xC, xOp, xUn, xCall, xNil, xCons, xTest, xTruth, xNot, xAnd, xOr, xNotV, xAndV, xOrV, xIf, xChain, xTup, xLst, xAs, xFlat, xFlatL, iLst, iTupl, iOwn, iR1, iR2, gNm, gsNil, gsCons, gTp, sPass, sSeq, sBreak, sCont, sRet, sRetN, sIf, sAsg, sOwn, sExpr, sPar, sApp, thaw, sThaw, oNo, oSome, xSlice, xList, fList, lstOf, tupOf, asB, truth, fSub, fLt, fLe, fGt, fGe, fNeg, fIsN, fNotN, isNone, Option.bind_some, List.getElem?_cons_zero, List.getElem?_cons_succ, List.set_cons_zero, List.set_cons_succ, List.map_cons, List.map_nil, List.cons_append, List.nil_append, List.replicate_succ, List.replicate_zero, if_true, if_false, Bool.true_eq_false, Bool.false_eq_true, dB, hany, Bool.not_true, fAdd_int, sWhile, hr1, hr2]
    exact ⟨_, rfl⟩
  · have c1 := befT_cnt W hl low
    have c2 := befT_cnt W hl day
    omega
theorem next_day_run (W : List Bool) (hl : W.length = 7) (hw : W.any id = true) (day : Nat) : ∃ low : Nat, next_dayF 300 [dB W, .list [], .int day] = some (.int low) ∧ wk W low = true ∧ cnt (wk W) low = cnt (wk W) day := by
  obtain ⟨low, h1, h2, h3⟩ := nth_day_run W hl hw day 0 (by decide)
  refine ⟨low, ?_, h2, h3⟩
  refine runDef_ex rfl ?_
  simp only [dB] at h1
  unfold next_dayB
  rw [show ((0 : Nat) : Int) = 0 from rfl] at h1
  simp only [pb, fail_bind, lift_some, lift_none, xVar, xVarO, xC, xOp, xUn, xCall, xNil, xCons, xTest, xTruth, xNot, xAnd, xOr, xNotV, xAndV, xOrV, xIf, xChain, xTup, xLst, xAs, xFlat, xFlatL, iLst, iTupl, iOwn, iR1, iR2, gNm, gsNil, gsCons, gTp, sPass, sSeq, sBreak, sCont, sRet, sRetN, sIf, sAsg, sOwn, sExpr, sPar, sApp, thaw, sThaw, oNo, oSome, xSlice, xList, fList, lstOf, tupOf, asB, truth, fSub, fLt, fLe, fGt, fGe, fNeg, fIsN, fNotN, isNone, Option.bind_some, List.getElem?_cons_zero, List.getElem?_cons_succ, List.set_cons_zero, List.set_cons_succ, List.map_cons, List.map_nil, List.cons_append, List.nil_append, List.replicate_succ, List.replicate_zero, if_true, if_false, Bool.true_eq_false, Bool.false_eq_true, dB, h1]
  exact ⟨_, rfl⟩
theorem last_day_run (W : List Bool) (hl : W.length = 7) (hw : W.any id = true) (day t : Nat) (ht : t ≤ day) (hd : day < 200) (hg : wk W t = true) (hno : ∀ j : Nat, t < j → j ≤ day → wk W j = false) : last_dayF 300 [dB W, .list [], .int day] = some (.int t) := by
  have hwr := works_run W hl
  simp only [dB] at hwr
  have L : ∃ env', sWhile.go (xNot (xTruth (xCall works_onF (xCons (xVar 0) (xCons (xVar 1) (xCons (xVar 2) xNil)))))) (sAsg (xOp fSub (xVar 2) (xC (.int 1))) (gNm 2)) 300 [.sh (dB W), .sh (.list []), .sh (.int day)] = pure (.nx, env') ∧ env' = [.sh (dB W), .sh (.list []), .sh (.int t)] := by
    refine while_inv (fun env => ∃ d : Nat, env = [.sh (dB W), .sh (.list []), .sh (.int d)] ∧ t ≤ d ∧ d ≤ day)
      (fun env => match env with | [_, _, .sh (.int d)] => d.toNat | _ => 0) _ (fun env hI => ?_) 300 _ ⟨day, rfl, ht, Nat.le_refl _⟩ (by
        show ((day : Int)).toNat < 300
        omega)
    obtain ⟨d, rfl, h1, h2⟩ := hI
    by_cases h : d = t
    · subst h
      left
      refine ⟨?_, rfl⟩
      simp only [pb, fail_bind, lift_some, lift_none, xVar, xVarO, xC, xOp, xUn, xCall, xNil, xCons, xTest, xTruth, xNot, xAnd, xOr, xNotV, xAndV, xOrV, xIf, xChain, xTup, xLst, xAs, xFlat, xFlatL, iLst, iTupl, iOwn, iR1, iR2, gNm, gsNil, gsCons, gTp, sPass, sSeq, sBreak, sCont, sRet, sRetN, sIf, sAsg, sOwn, sExpr, sPar, sApp, thaw, sThaw, oNo, oSome, xSlice, xList, fList, lstOf, tupOf, asB, truth, fSub, fLt, fLe, fGt, fGe, fNeg, fIsN, fNotN, isNone, Option.bind_some, List.getElem?_cons_zero, List.getElem?_cons_succ, List.set_cons_zero, List.set_cons_succ, List.map_cons, List.map_nil, List.cons_append, List.nil_append, List.replicate_succ, List.replicate_zero, if_true, if_false, Bool.true_eq_false, Bool.false_eq_true, dB, hwr, hg, Bool.not_true]
    · right
      refine ⟨?_, _, [.sh (dB W), .sh (.list []), .sh (.int ((d - 1 : Nat) : Int))], ?_, .inl rfl, ⟨d - 1, rfl, by omega, by omega⟩, ?_⟩
      · simp only [pb, fail_bind, lift_some, lift_none, xVar, xVarO, xC, xOp, xUn, xCall, xNil, xCons, xTest, xTruth, xNot, xAnd, xOr, xNotV, xAndV, xOrV, xIf, xChain, xTup, xLst, xAs, xFlat, xFlatL, iLst, iTupl, iOwn, iR1, iR2, gNm, gsNil, gsCons, gTp, sPass, sSeq, sBreak, sCont, sRet, sRetN, sIf, sAsg, sOwn, sExpr, sPar, sApp, thaw, sThaw, oNo, oSome, xSlice, xList, fList, lstOf, tupOf, asB, truth, fSub, fLt, fLe, fGt, fGe, fNeg, fIsN, fNotN, isNone, Option.bind_some, List.getElem?_cons_zero, List.getElem?_cons_succ, List.set_cons_zero, List.set_cons_succ, List.map_cons, List.map_nil, List.cons_append, List.nil_append, List.replicate_succ, List.replicate_zero, if_true, if_false, Bool.true_eq_false, Bool.false_eq_true, dB, hwr, hno d (by omega) h2, Bool.not_false]
      · have e : (d : Int) - 1 = ((d - 1 : Nat) : Int) := by omega
        simp only [pb, fail_bind, lift_some, lift_none, xVar, xVarO, xC, xOp, xUn, xCall, xNil, xCons, xTest, xTruth, xNot, xAnd, xOr, xNotV, xAndV, xOrV, xIf, xChain, xTup, xLst, xAs, xFlat, xFlatL, iLst, iTupl, iOwn, iR1, iR2, gNm, gsNil, gsCons, gTp, sPass, sSeq, sBreak, sCont, sRet, sRetN, sIf, sAsg, sOwn, sExpr, sPar, sApp, thaw, sThaw, oNo, oSome, xSlice, xList, fList, lstOf, tupOf, asB, truth, fSub, fLt, fLe, fGt, fGe, fNeg, fIsN, fNotN, isNone, Option.bind_some, List.getElem?_cons_zero, List.getElem?_cons_succ, List.set_cons_zero, List.set_cons_succ, List.map_cons, List.map_nil, List.cons_append, List.nil_append, List.replicate_succ, List.replicate_zero, if_true, if_false, Bool.true_eq_false, Bool.false_eq_true, e]
      · show (((d - 1 : Nat) : Int)).toNat < ((d : Int)).toNat
        omega
  obtain ⟨e, hr, rfl⟩ := L
  refine runDef_ex rfl ?_
  have hany := fAny_bools W
  rw [hw] at hany
  simp only [dB] at hr
  unfold last_dayB
  simp only [pb, fail_bind, lift_some, lift_none, xVar, xVarO, xC, xOp, xUn, xCall, xNil, xCons, xTest, xTruth, xNot, xAnd, xOr, xNotV, xAndV, xOrV, xIf, xChain, xTup, xLst, xAs, xFlat, xFlatL, iLst, iTupl, iOwn, iR1, iR2, gNm, gsNil, gsCons, gTp, sPass, sSeq, sBreak, sCont, sRet, sRetN, sIf, sAsg, sOwn, sExpr, sPar, sApp, thaw, sThaw, oNo, oSome, xSlice, xList, fList, lstOf, tupOf, asB, truth, fSub, fLt, fLe, fGt, fGe, fNeg, fIsN, fNotN, isNone, Option.bind_some, List.getElem?_cons_zero, List.getElem?_cons_succ, List.set_cons_zero, List.set_cons_succ, List.map_cons, List.map_nil, List.cons_append, List.nil_append, List.replicate_succ, List.replicate_zero, if_true, if_false, Bool.true_eq_false, Bool.false_eq_true, dB, hany, Bool.not_true, sWhile, hr]
  exact ⟨_, rfl⟩

/-! the law -/
theorem week_draw (ns : List Int) (w : W) (hw : 0 < w.cells.length) : ∃ (bs : List Bool) (w' : W), (xComp [3] (iR1 (xCons (xC (.int 7)) xNil)) (gNm 3) tYesF (xOp fEq (xTake 1 (xC (.int 2))) (xC (.int 0)))) [.fz ns, .st 1, .no, .no, .no, .no, .no, .no, .no, .no, .no, .no, .no, .no] w = some (bs.map .bool, w') ∧ bs.length = 7 ∧ 0 < w'.cells.length := by
  obtain ⟨ys, w', h1, h2, _, h4⟩ := compL_w (g := gNm 3) (f := xOp fEq (xTake 1 (xC (.int 2))) (xC (.int 0))) (env := [.fz ns, .st 1, .no, .no, .no, .no, .no, .no, .no, .no, .no, .no, .no, .no]) (fun (k : Nat) => PyData.int (0 + (k : Int))) PyData.bool (fun _ _ => True) (fun w => 0 < w.cells.length) (List.range 7) w hw fun k _ w hw => by
    obtain ⟨r, w1, e, _, _, h⟩ := take_ok (show (0:Int) < 2 by decide) (by decide) hw
    exact ⟨_, decide (r = 0), w1, rfl, xOp_w (xTake_w rfl rfl e) rfl (fEq_int r 0), trivial, h⟩
  exact ⟨ys, w', xComp_w rfl rfl (by decide) h1, by rw [h2]; rfl, h4⟩
def weekT (bs : List Bool) (spot : Int) : List Bool := (List.range 7).map fun (k : Nat) => bs.getD k false || decide (((k : Int)) = spot)
theorem range7_at {bs : List Bool} (hl : bs.length = 7) {k : Nat} (hk : k < 7) : atI (bs.map PyData.bool) (0 + (k : Int)) = some (.bool (bs.getD k false)) := by
  rw [Int.zero_add]
  refine atI_nat ?_
  rw [List.getElem?_map, List.getElem?_eq_getElem (by omega), List.getD_eq_getElem?_getD, List.getElem?_eq_getElem (by omega)]
  rfl
theorem week_or (ns : List Int) (bs : List Bool) (hl : bs.length = 7) (spot : Int) : (xComp [3] (iR1 (xCons (xC (.int 7)) xNil)) (gNm 3) tYesF (xOrV (xOp fIx (xVar 2) (xVar 3)) (xOp fEq (xVar 3) (xVar 4)))) [.fz ns, .st 1, .sh (dB bs), .no, .sh (.int spot), .no, .no, .no, .no, .no, .no, .no, .no, .no] = pure ((weekT bs spot).map .bool) := by
  refine xComp_p rfl rfl (by decide) ?_
  have := compL_all (g := gNm 3) (f := xOrV (xOp fIx (xVar 2) (xVar 3)) (xOp fEq (xVar 3) (xVar 4))) (env := [.fz ns, .st 1, .sh (dB bs), .no, .sh (.int spot), .no, .no, .no, .no, .no, .no, .no, .no, .no]) (fun (k : Nat) => PyData.int (0 + (k : Int))) (fun (k : Nat) => PyData.bool (bs.getD k false || decide (((k : Int)) = spot))) (List.range 7) fun k hk => ⟨_, rfl, by
    have hat := range7_at hl (List.mem_range.mp hk)
    have e0 : (0 : Int) + (k : Int) = k := Int.zero_add _
    rw [e0] at hat ⊢
    cases hq : bs.getD k false with
    | true =>
      rw [hq] at hat
      simp only [pb, fail_bind, lift_some, lift_none, xVar, xVarO, xC, xOp, xUn, xCall, xNil, xCons, xTest, xTruth, xNot, xAnd, xOr, xNotV, xAndV, xOrV, xIf, xChain, xTup, xLst, xAs, xFlat, xFlatL, iLst, iTupl, iOwn, iR1, iR2, gNm, gsNil, gsCons, gTp, sPass, sSeq, sBreak, sCont, sRet, sRetN, sIf, sAsg, sOwn, sExpr, sPar, sApp, thaw, sThaw, oNo, oSome, xSlice, xList, fList, lstOf, tupOf, asB, truth, fSub, fLt, fLe, fGt, fGe, fNeg, fIsN, fNotN, isNone, Option.bind_some, List.getElem?_cons_zero, List.getElem?_cons_succ, List.set_cons_zero, List.set_cons_succ, List.map_cons, List.map_nil, List.cons_append, List.nil_append, List.replicate_succ, List.replicate_zero, if_true, if_false, Bool.true_eq_false, Bool.false_eq_true, dB, fIx, hat, Bool.true_or]
    | false =>
      rw [hq] at hat
      simp only [pb, fail_bind, lift_some, lift_none, xVar, xVarO, xC, xOp, xUn, xCall, xNil, xCons, xTest, xTruth, xNot, xAnd, xOr, xNotV, xAndV, xOrV, xIf, xChain, xTup, xLst, xAs, xFlat, xFlatL, iLst, iTupl, iOwn, iR1, iR2, gNm, gsNil, gsCons, gTp, sPass, sSeq, sBreak, sCont, sRet, sRetN, sIf, sAsg, sOwn, sExpr, sPar, sApp, thaw, sThaw, oNo, oSome, xSlice, xList, fList, lstOf, tupOf, asB, truth, fSub, fLt, fLe, fGt, fGe, fNeg, fIsN, fNotN, isNone, Option.bind_some, List.getElem?_cons_zero, List.getElem?_cons_succ, List.set_cons_zero, List.set_cons_succ, List.map_cons, List.map_nil, List.cons_append, List.nil_append, List.replicate_succ, List.replicate_zero, if_true, if_false, Bool.true_eq_false, Bool.false_eq_true, dB, fIx, hat, fEq_int, Bool.false_or]⟩
  rw [show rangeL 0 7 = (List.range 7).map fun (k : Nat) => PyData.int (0 + (k : Int)) from rfl]
  refine this.trans ?_
  unfold weekT
  rw [List.map_map]
  rfl
theorem rests_comp (ns : List Int) (W : List Bool) (hl : W.length = 7) (a4 : Slot) : (xComp [3] (iR1 (xCons (xC (.int 7)) xNil)) (gNm 3) (xTruth (xOp fIx (xVar 2) (xVar 3))) (xVar 3)) [.fz ns, .st 1, .sh (dB W), .no, a4, .no, .no, .no, .no, .no, .no, .no, .no, .no] = pure ((rests0 W).map .int) := by
  refine xComp_p rfl rfl (by decide) ?_
  rw [show rangeL 0 7 = (List.range 7).map fun (k : Nat) => PyData.int (0 + (k : Int)) from rfl]
  refine (compL_map (fun (k : Nat) => PyData.int (0 + (k : Int))) (fun k => W.getD k false) (fun (k : Nat) => PyData.int (0 + (k : Int))) (List.range 7) fun k hk => ⟨_, rfl, by
    have hat := range7_at hl (List.mem_range.mp hk)
    simp only [pb, fail_bind, lift_some, lift_none, xVar, xVarO, xC, xOp, xUn, xCall, xNil, xCons, xTest, xTruth, xNot, xAnd, xOr, xNotV, xAndV, xOrV, xIf, xChain, xTup, xLst, xAs, xFlat, xFlatL, iLst, iTupl, iOwn, iR1, iR2, gNm, gsNil, gsCons, gTp, sPass, sSeq, sBreak, sCont, sRet, sRetN, sIf, sAsg, sOwn, sExpr, sPar, sApp, thaw, sThaw, oNo, oSome, xSlice, xList, fList, lstOf, tupOf, asB, truth, fSub, fLt, fLe, fGt, fGe, fNeg, fIsN, fNotN, isNone, Option.bind_some, List.getElem?_cons_zero, List.getElem?_cons_succ, List.set_cons_zero, List.set_cons_succ, List.map_cons, List.map_nil, List.cons_append, List.nil_append, List.replicate_succ, List.replicate_zero, if_true, if_false, Bool.true_eq_false, Bool.false_eq_true, dB, fIx, hat], fun _ => rfl⟩).trans ?_
  unfold rests0
  rw [List.map_map]
  congr 2
  funext k
  simp

theorem rangeL0 (n : Nat) : rangeL 0 (n : Int) = (List.range n).map fun (k : Nat) => PyData.int (k : Int) := by
  unfold rangeL
  rw [Int.sub_zero, Int.toNat_natCast]
  congr 1
  funext k
  rw [Int.zero_add]
theorem rangeL0_get {n i : Nat} {x : D} (h : (rangeL 0 (n : Int))[i]? = some x) : x = .int (i : Int) ∧ i < n := by
  rw [rangeL0, List.getElem?_map] at h
  obtain ⟨k, h1, h2⟩ := Option.map_eq_some_iff.mp h
  rw [List.getElem?_range (by
    refine Nat.lt_of_not_le fun q => ?_
    rw [List.getElem?_eq_none (by rw [List.length_range]; exact q)] at h1
    cases h1)] at h1
  cases h1
  refine ⟨h2.symm, ?_⟩
  refine Nat.lt_of_not_le fun q => ?_
  rw [List.getElem?_eq_none (by rw [List.length_range]; exact q)] at h
  cases h
theorem small62_nat {n : Nat} (h : n ≤ 1000000) : small62 (n : Int) = true := by
  unfold small62
  rw [Bool.and_eq_true, decide_eq_true_eq, decide_eq_true_eq]
  omega
theorem fNe_bool (b : Bool) : fNe (.bool b) (.bool b) = some (.bool false) := by
  cases b <;> rfl
theorem fNe_self (i : Int) : fNe (.int i) (.int i) = some (.bool false) := by
  rw [fNe_int, decide_eq_true rfl]
  rfl
theorem fInt_int (i : Int) : fInt [.int i] = some (.int i) := rfl
theorem fEq_pair (a b : Int) : fEq (.tuple [.int a, .int b]) (.tuple [.int a, .int b]) = some (.bool true) := by
  unfold fEq
  have s : shp (.tuple [.int a, .int b]) = true := rfl
  rw [s]
  have e : PyData.eqv (.tuple [.int a, .int b]) (.tuple [.int a, .int b]) = true := by
    simp [PyData.eqv, PyData.eqvAll]
  rw [e]
  rfl
theorem atI_neg1 {xs : List D} {x : D} (h : xs.getLast? = some x) : atI xs (-1) = some x := by
  have hne : xs ≠ [] := fun e => by subst e; simp at h
  have hl := List.length_pos_iff.mpr hne
  rw [List.getLast?_eq_getElem?] at h
  unfold atI ixN
  rw [if_neg (by omega), if_pos (by omega), Option.bind_some]
  rw [show ((-1 : Int) + (xs.length : Int)).toNat = xs.length - 1 by omega]
  exact h
theorem last_max {F : List Nat} (h : F.Pairwise (· < ·)) {t : Nat} (e : F.getLast? = some t) : ∀ x ∈ F, x ≤ t := by
  intro x hx
  obtain ⟨i, hi, rfl⟩ := List.getElem_of_mem hx
  rw [List.getLast?_eq_getElem?] at e
  have hlen := (List.getElem?_eq_some_iff.mp e).1
  have e2 := (List.getElem?_eq_some_iff.mp e).2
  by_cases q : i = F.length - 1
  · subst q; omega
  · have := List.pairwise_iff_getElem.mp h i (F.length - 1) hi hlen (by omega)
    omega

end VE

namespace VE
open PySem
theorem week_any (bs : List Bool) (spot : Int) (h0 : 0 ≤ spot) (h1 : spot < 7) : (weekT bs spot).length = 7 ∧ (weekT bs spot).any id = true := by
  unfold weekT
  refine ⟨by simp, List.any_eq_true.mpr ⟨true, List.mem_map.mpr ⟨spot.toNat, List.mem_range.mpr (by omega), ?_⟩, rfl⟩⟩
  rw [show ((spot.toNat : Nat) : Int) = spot by omega, decide_eq_true rfl, Bool.or_true]
theorem law_run (ns : List Int) (_ : ns.length ≤ 63) : ∃ env' w', lawB 300 ((Slot.fz ns :: List.replicate 13 Slot.no).set 1 (.st 1)) ⟨0, stateCells ns⟩ = some ((.rt (.bool true), env'), w') := by
  show ∃ env' w', lawB 300 [.fz ns, .st 1, .no, .no, .no, .no, .no, .no, .no, .no, .no, .no, .no, .no] ⟨0, stateCells ns⟩ = some ((.rt (.bool true), env'), w')
  unfold lawB
  -- the draws of the week
  obtain ⟨bs, w1, e1, hbs, hw1⟩ := week_draw ns ⟨0, stateCells ns⟩ (cells_pos ns)
  refine st_w (env1 := [.fz ns, .st 1, .sh (dB bs), .no, .no, .no, .no, .no, .no, .no, .no, .no, .no, .no]) (asg_w (xAs_w e1) rfl) ?_
  obtain ⟨spot, w2, e2, s0, s1, hw2⟩ := take_ok (show (0:Int) < 7 by decide) (by decide) hw1
  refine st_w (env1 := [.fz ns, .st 1, .sh (dB bs), .no, .sh (.int spot), .no, .no, .no, .no, .no, .no, .no, .no, .no]) (asg_w (xTake_w rfl rfl e2) rfl) ?_
  refine st_p (env1 := [.fz ns, .st 1, .sh (dB (weekT bs spot)), .no, .sh (.int spot), .no, .no, .no, .no, .no, .no, .no, .no, .no]) (asg_p (xAs_p (week_or ns bs hbs spot)) rfl) ?_
  obtain ⟨hl, hw⟩ := week_any bs spot s0 s1
  generalize hW : weekT bs spot = W at hl hw
  have hok := rT_ok W
  obtain ⟨hp2, hM, hR1, hR2, hs0, hM0⟩ := rT_small W
  have hp := hok.p0
  have hne := rT_ne W hl hw
  -- the rhythm
  have hle := least_run W hl hw
  have hrc := rests_comp ns W hl (.sh (.int spot))
  refine st_p (env1 := [.fz ns, .st 1, .sh (dB W), .no, .sh (.int spot), .sh (rhD (rT W)), .no, .no, .no, .no, .no, .no, .no, .no]) (asg_p (x := rhD (rT W)) ?_ rfl) ?_
  · simp only [xCall, xCons, xTup, xAs, hrc, xNil, xLst, xC, pb, List.length_nil, List.length_cons, if_pos (show 0 ≤ line by decide), if_pos (show 0 + 1 + 1 + 1 + 1 + 1 ≤ line by decide), hle, lift_some]
  -- forty days
  have hg : ∀ d : Nat, (rT W).goes d = wk W d := fun d => rT_goes W hl (by omega)
  have hwr := works_run W hl
  have hgr := goes_run (rT W) hp
  obtain ⟨_, e4, z6, rfl, n6⟩ := for_inv (g := gNm 6) (body := sIf (xTest (xOp fNe (xCall works_onF (xCons (xVar 2) (xCons (xAs (xLst xNil)) (xCons (xVar 6) xNil)))) (xCall goesF (xCons (xVar 5) (xCons (xVar 6) xNil))))) (sRet (xC (.bool false))) sPass) (fun _ env => ∃ z, env = [.fz ns, .st 1, .sh (dB W), .no, .sh (.int spot), .sh (rhD (rT W)), z, .no, .no, .no, .no, .no, .no, .no] ∧ ∀ xs, z ≠ .ow xs) (rangeL 0 (40 : Nat)) 0 [.fz ns, .st 1, .sh (dB W), .no, .sh (.int spot), .sh (rhD (rT W)), .no, .no, .no, .no, .no, .no, .no, .no] ⟨_, rfl, fun _ z => nomatch z⟩ (fun i x env hx ⟨z, hz, _⟩ => by
      obtain ⟨rfl, hi⟩ := rangeL0_get hx
      subst hz
      refine ⟨_, .nx, _, rfl, if_skip ?_, .inl rfl, _, rfl, fun _ z => nomatch z⟩
      simp only [pb, fail_bind, lift_some, lift_none, xVar, xVarO, xC, xOp, xUn, xCall, xNil, xCons, xTest, xTruth, xNot, xAnd, xOr, xNotV, xAndV, xOrV, xIf, xChain, xTup, xLst, xAs, xFlat, xFlatL, iLst, iTupl, iOwn, iR1, iR2, gNm, gsNil, gsCons, gTp, sPass, sSeq, sBreak, sCont, sRet, sRetN, sIf, sAsg, sOwn, sExpr, sPar, sApp, thaw, sThaw, oNo, oSome, xSlice, xList, fList, lstOf, tupOf, asB, truth, fSub, fLt, fLe, fGt, fGe, fNeg, fIsN, fNotN, isNone, Option.bind_some, List.getElem?_cons_zero, List.getElem?_cons_succ, List.set_cons_zero, List.set_cons_succ, List.map_cons, List.map_nil, List.cons_append, List.nil_append, List.replicate_succ, List.replicate_zero, if_true, if_false, Bool.true_eq_false, Bool.false_eq_true, List.length_nil, if_pos (show 0 ≤ line by decide), hwr, hgr, hg, fNe_bool])
  refine st_p (for_p rfl e4) ?_
  -- the first and the last day
  obtain ⟨fi, w3, e5, f0, f1, hw3⟩ := take_ok (show (0:Int) < 20 by decide) (by decide) hw2
  obtain ⟨f, rfl⟩ : ∃ f : Nat, fi = (f : Int) := ⟨fi.toNat, by omega⟩
  refine st_w (env1 := [.fz ns, .st 1, .sh (dB W), .no, .sh (.int spot), .sh (rhD (rT W)), z6, .sh (.int f), .no, .no, .no, .no, .no, .no]) (asg_w (xTake_w rfl rfl e5) rfl) ?_
  obtain ⟨gi, w4, e6, g0, g1, hw4⟩ := take_ok (show (0:Int) < 20 by decide) (by decide) hw3
  obtain ⟨gap, rfl⟩ : ∃ g : Nat, gi = (g : Int) := ⟨gi.toNat, by omega⟩
  refine st_w (env1 := [.fz ns, .st 1, .sh (dB W), .no, .sh (.int spot), .sh (rhD (rT W)), z6, .sh (.int f), .sh (.int (f + gap)), .no, .no, .no, .no, .no]) (asg_w (xOp_w (a := .int f) rfl (xTake_w rfl rfl e6) (fAdd_int _ _)) rfl) ?_
  have ect : ∀ m : Nat, count_toF [rhD (rT W), .int m] = some (.int (cnt (wk W) m)) := fun m => by
    rw [count_to_run _ hp hp2 hM, hok.count (by omega), Int.toNat_natCast, cnt_congr fun j _ => hg j]
  refine st_p (env1 := [.fz ns, .st 1, .sh (dB W), .no, .sh (.int spot), .sh (rhD (rT W)), z6, .sh (.int f), .sh (.int (f + gap)), .sh (.int (cnt (wk W) f)), .no, .no, .no, .no]) (asg_p (x := .int (cnt (wk W) f)) (by simp only [pb, fail_bind, lift_some, lift_none, xVar, xVarO, xC, xOp, xUn, xCall, xNil, xCons, xTest, xTruth, xNot, xAnd, xOr, xNotV, xAndV, xOrV, xIf, xChain, xTup, xLst, xAs, xFlat, xFlatL, iLst, iTupl, iOwn, iR1, iR2, gNm, gsNil, gsCons, gTp, sPass, sSeq, sBreak, sCont, sRet, sRetN, sIf, sAsg, sOwn, sExpr, sPar, sApp, thaw, sThaw, oNo, oSome, xSlice, xList, fList, lstOf, tupOf, asB, truth, fSub, fLt, fLe, fGt, fGe, fNeg, fIsN, fNotN, isNone, Option.bind_some, List.getElem?_cons_zero, List.getElem?_cons_succ, List.set_cons_zero, List.set_cons_succ, List.map_cons, List.map_nil, List.cons_append, List.nil_append, List.replicate_succ, List.replicate_zero, if_true, if_false, Bool.true_eq_false, Bool.false_eq_true, ect]) rfl) ?_
  -- as many days
  have hcr := count_run W hl
  refine st_p (if_skip (by
    have c1 := befT_cnt W hl f
    have c2 := befT_cnt W hl (f + gap)
    have e : (f : Int) + gap = ((f + gap : Nat) : Int) := by omega
    simp only [pb, fail_bind, lift_some, lift_none, xVar, xVarO, xC, xOp, xUn, xCall, xNil, xCons, xTest, xTruth, xNot, xAnd, xOr, xNotV, xAndV, xOrV, xIf, xChain, xTup, xLst, xAs, xFlat, xFlatL, iLst, iTupl, iOwn, iR1, iR2, gNm, gsNil, gsCons, gTp, sPass, sSeq, sBreak, sCont, sRet, sRetN, sIf, sAsg, sOwn, sExpr, sPar, sApp, thaw, sThaw, oNo, oSome, xSlice, xList, fList, lstOf, tupOf, asB, truth, fSub, fLt, fLe, fGt, fGe, fNeg, fIsN, fNotN, isNone, Option.bind_some, List.getElem?_cons_zero, List.getElem?_cons_succ, List.set_cons_zero, List.set_cons_succ, List.map_cons, List.map_nil, List.cons_append, List.nil_append, List.replicate_succ, List.replicate_zero, if_true, if_false, Bool.true_eq_false, Bool.false_eq_true, List.length_nil, if_pos (show 0 ≤ line by decide), e, hcr, ect, c1, c2, Int.sub_zero, fNe_self])) ?_
  have enth : ∀ (k t : Nat), wk W t = true → cnt (wk W) t = k → nthF [rhD (rT W), .int k] = some (.int t) := fun k t h1 h2 => by
    rw [nth_run _ hok hp2 hM hR1 hR2, hok.nth_eq hne (t := t) (by rw [hg]; exact h1) (by rw [cnt_congr fun j _ => hg j]; exact h2)]
  -- the n-th one
  obtain ⟨_, e7, z10, rfl⟩ := for_inv (g := gNm 10) (body := sIf (xTest (xOp fNe (xCall (nth_dayF 300) (xCons (xVar 2) (xCons (xAs (xLst xNil)) (xCons (xVar 7) (xCons (xVar 10) xNil))))) (xCall nthF (xCons (xVar 5) (xCons (xOp fAdd (xVar 9) (xVar 10)) xNil))))) (sRet (xC (.bool false))) sPass) (fun _ env => ∃ z, env = [.fz ns, .st 1, .sh (dB W), .no, .sh (.int spot), .sh (rhD (rT W)), z6, .sh (.int f), .sh (.int (f + gap)), .sh (.int (cnt (wk W) f)), z, .no, .no, .no]) (rangeL 0 (6 : Nat)) 0 [.fz ns, .st 1, .sh (dB W), .no, .sh (.int spot), .sh (rhD (rT W)), z6, .sh (.int f), .sh (.int (f + gap)), .sh (.int (cnt (wk W) f)), .no, .no, .no, .no] ⟨_, rfl⟩ (fun i x env hx ⟨z, hz⟩ => by
      obtain ⟨rfl, hi⟩ := rangeL0_get hx
      subst hz
      obtain ⟨low, h1, h2, h3⟩ := nth_day_run W hl hw f i (by omega)
      have h4 := enth _ low h2 h3
      have e : ((cnt (wk W) f : Nat) : Int) + (i : Int) = ((cnt (wk W) f + i : Nat) : Int) := by omega
      refine ⟨_, .nx, _, rfl, if_skip ?_, .inl rfl, _, rfl⟩
      simp only [pb, fail_bind, lift_some, lift_none, xVar, xVarO, xC, xOp, xUn, xCall, xNil, xCons, xTest, xTruth, xNot, xAnd, xOr, xNotV, xAndV, xOrV, xIf, xChain, xTup, xLst, xAs, xFlat, xFlatL, iLst, iTupl, iOwn, iR1, iR2, gNm, gsNil, gsCons, gTp, sPass, sSeq, sBreak, sCont, sRet, sRetN, sIf, sAsg, sOwn, sExpr, sPar, sApp, thaw, sThaw, oNo, oSome, xSlice, xList, fList, lstOf, tupOf, asB, truth, fSub, fLt, fLe, fGt, fGe, fNeg, fIsN, fNotN, isNone, Option.bind_some, List.getElem?_cons_zero, List.getElem?_cons_succ, List.set_cons_zero, List.set_cons_succ, List.map_cons, List.map_nil, List.cons_append, List.nil_append, List.replicate_succ, List.replicate_zero, if_true, if_false, Bool.true_eq_false, Bool.false_eq_true, List.length_nil, if_pos (show 0 ≤ line by decide), h1, fAdd_int, e, h4, fNe_self])
  refine st_p (for_p rfl e7) ?_
  -- the next one
  refine st_p (if_skip (by
    obtain ⟨low, h1, h2, h3⟩ := next_day_run W hl hw f
    have h4 := enth _ low h2 h3
    simp only [pb, fail_bind, lift_some, lift_none, xVar, xVarO, xC, xOp, xUn, xCall, xNil, xCons, xTest, xTruth, xNot, xAnd, xOr, xNotV, xAndV, xOrV, xIf, xChain, xTup, xLst, xAs, xFlat, xFlatL, iLst, iTupl, iOwn, iR1, iR2, gNm, gsNil, gsCons, gTp, sPass, sSeq, sBreak, sCont, sRet, sRetN, sIf, sAsg, sOwn, sExpr, sPar, sApp, thaw, sThaw, oNo, oSome, xSlice, xList, fList, lstOf, tupOf, asB, truth, fSub, fLt, fLe, fGt, fGe, fNeg, fIsN, fNotN, isNone, Option.bind_some, List.getElem?_cons_zero, List.getElem?_cons_succ, List.set_cons_zero, List.set_cons_succ, List.map_cons, List.map_nil, List.cons_append, List.nil_append, List.replicate_succ, List.replicate_zero, if_true, if_false, Bool.true_eq_false, Bool.false_eq_true, List.length_nil, if_pos (show 0 ≤ line by decide), h1, h4, fNe_self])) ?_
  -- the last one
  have hdn : ∀ m : Nat, (List.range m).map (fun (k : Nat) => PyData.int (k : Int)) = rangeL 0 (m : Int) := fun m => (rangeL0 m).symm
  obtain ⟨F, hF⟩ : ∃ F : List Nat, F = (List.range (f + 1)).filter fun (k : Nat) => wk W (k : Int) := ⟨_, rfl⟩
  refine st_p (env1 := [.fz ns, .st 1, .sh (dB W), .no, .sh (.int spot), .sh (rhD (rT W)), z6, .sh (.int f), .sh (.int (f + gap)), .sh (.int (cnt (wk W) f)), z10, .sh (.list (F.map fun (k : Nat) => PyData.int (k : Int))), .no, .no]) (asg_p (x := .list (F.map fun (k : Nat) => PyData.int (k : Int))) (xAs_p ?_) rfl) ?_
  · refine xComp_p (xs := rangeL 0 ((f + 1 : Nat) : Int)) (e := [.fz ns, .st 1, .sh (dB W), .no, .sh (.int spot), .sh (rhD (rT W)), .no, .sh (.int f), .sh (.int (f + gap)), .sh (.int (cnt (wk W) f)), z10, .no, .no, .no]) ?_ ?_ ?_ ?_
    · have e : (f : Int) + 1 = ((f + 1 : Nat) : Int) := by omega
      simp only [pb, fail_bind, lift_some, lift_none, xVar, xVarO, xC, xOp, xUn, xCall, xNil, xCons, xTest, xTruth, xNot, xAnd, xOr, xNotV, xAndV, xOrV, xIf, xChain, xTup, xLst, xAs, xFlat, xFlatL, iLst, iTupl, iOwn, iR1, iR2, gNm, gsNil, gsCons, gTp, sPass, sSeq, sBreak, sCont, sRet, sRetN, sIf, sAsg, sOwn, sExpr, sPar, sApp, thaw, sThaw, oNo, oSome, xSlice, xList, fList, lstOf, tupOf, asB, truth, fSub, fLt, fLe, fGt, fGe, fNeg, fIsN, fNotN, isNone, Option.bind_some, List.getElem?_cons_zero, List.getElem?_cons_succ, List.set_cons_zero, List.set_cons_succ, List.map_cons, List.map_nil, List.cons_append, List.nil_append, List.replicate_succ, List.replicate_zero, if_true, if_false, Bool.true_eq_false, Bool.false_eq_true, fAdd_int, e, small62_nat (show f + 1 ≤ 1000000 by omega)]
    · exact wipe_one rfl n6
    · rw [rangeL0, List.length_map, List.length_range]
      unfold line
      omega
    · rw [rangeL0, hF]
      exact compL_map (fun (k : Nat) => PyData.int (k : Int)) (fun (k : Nat) => wk W (k : Int)) (fun (k : Nat) => PyData.int (k : Int)) (List.range (f + 1)) fun k hk => ⟨_, rfl, by simp only [pb, fail_bind, lift_some, lift_none, xVar, xVarO, xC, xOp, xUn, xCall, xNil, xCons, xTest, xTruth, xNot, xAnd, xOr, xNotV, xAndV, xOrV, xIf, xChain, xTup, xLst, xAs, xFlat, xFlatL, iLst, iTupl, iOwn, iR1, iR2, gNm, gsNil, gsCons, gTp, sPass, sSeq, sBreak, sCont, sRet, sRetN, sIf, sAsg, sOwn, sExpr, sPar, sApp, thaw, sThaw, oNo, oSome, xSlice, xList, fList, lstOf, tupOf, asB, truth, fSub, fLt, fLe, fGt, fGe, fNeg, fIsN, fNotN, isNone, Option.bind_some, List.getElem?_cons_zero, List.getElem?_cons_succ, List.set_cons_zero, List.set_cons_succ, List.map_cons, List.map_nil, List.cons_append, List.nil_append, List.replicate_succ, List.replicate_zero, if_true, if_false, Bool.true_eq_false, Bool.false_eq_true, hgr, hg], fun _ => rfl⟩
  have mem_F : ∀ k : Nat, k ∈ F ↔ k ≤ f ∧ wk W k = true := fun k => by
    rw [hF, List.mem_filter, List.mem_range]
    exact ⟨fun h => ⟨by omega, h.2⟩, fun h => ⟨by omega, h.2⟩⟩
  have lt_F : F.Pairwise (· < ·) := by rw [hF]; exact List.pairwise_lt_range.filter _
  refine st_p (if_skip ?_) ?_
  · cases hq : F.getLast? with
    | none =>
      have hn : F = [] := List.getLast?_eq_none_iff.mp hq
      subst hn
      simp only [pb, fail_bind, lift_some, lift_none, xVar, xVarO, xC, xOp, xUn, xCall, xNil, xCons, xTest, xTruth, xNot, xAnd, xOr, xNotV, xAndV, xOrV, xIf, xChain, xTup, xLst, xAs, xFlat, xFlatL, iLst, iTupl, iOwn, iR1, iR2, gNm, gsNil, gsCons, gTp, sPass, sSeq, sBreak, sCont, sRet, sRetN, sIf, sAsg, sOwn, sExpr, sPar, sApp, thaw, sThaw, oNo, oSome, xSlice, xList, fList, lstOf, tupOf, asB, truth, fSub, fLt, fLe, fGt, fGe, fNeg, fIsN, fNotN, isNone, Option.bind_some, List.getElem?_cons_zero, List.getElem?_cons_succ, List.set_cons_zero, List.set_cons_succ, List.map_cons, List.map_nil, List.cons_append, List.nil_append, List.replicate_succ, List.replicate_zero, if_true, if_false, Bool.true_eq_false, Bool.false_eq_true, fLen_list, List.length_nil, show decide ((0 : Int) < ((0 : Nat) : Int)) = false from rfl]
    | some t =>
      have hmem := (mem_F t).mp (List.mem_of_getLast? hq)
      have hno : ∀ j : Nat, t < j → j ≤ f → wk W j = false := fun j h1 h2 => by
        cases hj : wk W j with
        | false => rfl
        | true =>
          have := last_max lt_F hq j ((mem_F j).mpr ⟨h2, hj⟩)
          omega
      have hld := last_day_run W hl hw f t hmem.1 (by omega) hmem.2 hno
      have hat : atI (F.map fun (k : Nat) => PyData.int (k : Int)) (-1) = some (.int t) := atI_neg1 (by rw [List.getLast?_map, hq]; rfl)
      have hpos : decide ((0 : Int) < ((F.map fun (k : Nat) => PyData.int (k : Int)).length : Int)) = true := by
        rw [decide_eq_true_eq, List.length_map]
        have : F ≠ [] := fun e => by rw [e] at hq; cases hq
        have := List.length_pos_iff.mpr this
        omega
      simp only [pb, fail_bind, lift_some, lift_none, xVar, xVarO, xC, xOp, xUn, xCall, xNil, xCons, xTest, xTruth, xNot, xAnd, xOr, xNotV, xAndV, xOrV, xIf, xChain, xTup, xLst, xAs, xFlat, xFlatL, iLst, iTupl, iOwn, iR1, iR2, gNm, gsNil, gsCons, gTp, sPass, sSeq, sBreak, sCont, sRet, sRetN, sIf, sAsg, sOwn, sExpr, sPar, sApp, thaw, sThaw, oNo, oSome, xSlice, xList, fList, lstOf, tupOf, asB, truth, fSub, fLt, fLe, fGt, fGe, fNeg, fIsN, fNotN, isNone, Option.bind_some, List.getElem?_cons_zero, List.getElem?_cons_succ, List.set_cons_zero, List.set_cons_succ, List.map_cons, List.map_nil, List.cons_append, List.nil_append, List.replicate_succ, List.replicate_zero, if_true, if_false, Bool.true_eq_false, Bool.false_eq_true, fLen_list, hpos, List.length_nil, if_pos (show 0 ≤ line by decide), hld, fIx, hat, fNe_self]
  -- the pauses
  have hwa := wk_at W hl
  refine st_p (env1 := [.fz ns, .st 1, .sh (dB W), .no, .sh (.int spot), .sh (rhD (rT W)), z6, .sh (.int f), .sh (.int (f + gap)), .sh (.int (cnt (wk W) f)), z10, .sh (.list (F.map fun (k : Nat) => PyData.int (k : Int))), .sh (dI (daysT W)), .no]) (asg_p (x := dI (daysT W)) (xAs_p ?_) rfl) ?_
  · refine xComp_p (xs := rangeL 0 ((60 : Nat) : Int)) rfl (wipe_one rfl n6) (by rw [rangeL0, List.length_map, List.length_range]; decide) ?_
    rw [rangeL0]
    refine (compL_map (fun (k : Nat) => PyData.int (k : Int)) (fun (k : Nat) => wk W (k : Int)) (fun (k : Nat) => PyData.int (k : Int)) (List.range 60) fun k hk => ⟨_, rfl, by simp only [List.set_cons_succ, List.set_cons_zero, pb, fail_bind, lift_some, lift_none, xVar, xVarO, xC, xOp, xUn, xCall, xNil, xCons, xTest, xTruth, xNot, xAnd, xOr, xNotV, xAndV, xOrV, xIf, xChain, xTup, xLst, xAs, xFlat, xFlatL, iLst, iTupl, iOwn, iR1, iR2, gNm, gsNil, gsCons, gTp, sPass, sSeq, sBreak, sCont, sRet, sRetN, sIf, sAsg, sOwn, sExpr, sPar, sApp, thaw, sThaw, oNo, oSome, xSlice, xList, fList, lstOf, tupOf, asB, truth, fSub, fLt, fLe, fGt, fGe, fNeg, fIsN, fNotN, isNone, Option.bind_some, List.getElem?_cons_zero, List.getElem?_cons_succ, List.set_cons_zero, List.set_cons_succ, List.map_cons, List.map_nil, List.cons_append, List.nil_append, List.replicate_succ, List.replicate_zero, if_true, if_false, Bool.true_eq_false, Bool.false_eq_true, dB, fInt_int, fMod_pos (show (0:Int) < 7 by decide), fIx, hwa], fun _ => rfl⟩).trans ?_
    unfold daysT
    rw [List.map_map]
    rfl
  have hck := chkP_all W hl hw
  unfold chkP at hck
  rw [Bool.and_eq_true, decide_eq_true_eq] at hck
  obtain ⟨h8, hck⟩ := hck
  have hday : ∀ k : Nat, k < 8 → atI ((daysT W).map PyData.int) (k : Int) = some (.int ((daysT W).getD k 0)) := fun k hk => atI_nat (by
    rw [List.getElem?_map, List.getElem?_eq_getElem (by omega), List.getD_eq_getElem?_getD, List.getElem?_eq_getElem (by omega)]
    rfl)
  refine st_p (env1 := [.fz ns, .st 1, .sh (dB W), .no, .sh (.int spot), .sh (rhD (rT W)), z6, .sh (.int f), .sh (.int (f + gap)), .sh (.int (cnt (wk W) f)), z10, .sh (.list (F.map fun (k : Nat) => PyData.int (k : Int))), .sh (dI (daysT W)), .sh (dI (pausT W))]) (asg_p (x := dI (pausT W)) (xAs_p ?_) rfl) ?_
  · refine xComp_p (xs := rangeL 0 ((7 : Nat) : Int)) rfl rfl (by decide) ?_
    rw [rangeL0]
    refine (compL_all (fun (k : Nat) => PyData.int (k : Int)) (fun (k : Nat) => PyData.int ((daysT W).getD (k + 1) 0 - (daysT W).getD k 0 - 1)) (List.range 7) fun k hk => ⟨_, rfl, by
      have hk := List.mem_range.mp hk
      have e : (k : Int) + 1 = ((k + 1 : Nat) : Int) := by omega
      simp only [List.set_cons_succ, List.set_cons_zero, pb, fail_bind, lift_some, lift_none, xVar, xVarO, xC, xOp, xUn, xCall, xNil, xCons, xTest, xTruth, xNot, xAnd, xOr, xNotV, xAndV, xOrV, xIf, xChain, xTup, xLst, xAs, xFlat, xFlatL, iLst, iTupl, iOwn, iR1, iR2, gNm, gsNil, gsCons, gTp, sPass, sSeq, sBreak, sCont, sRet, sRetN, sIf, sAsg, sOwn, sExpr, sPar, sApp, thaw, sThaw, oNo, oSome, xSlice, xList, fList, lstOf, tupOf, asB, truth, fSub, fLt, fLe, fGt, fGe, fNeg, fIsN, fNotN, isNone, Option.bind_some, List.getElem?_cons_zero, List.getElem?_cons_succ, List.set_cons_zero, List.set_cons_succ, List.map_cons, List.map_nil, List.cons_append, List.nil_append, List.replicate_succ, List.replicate_zero, if_true, if_false, Bool.true_eq_false, Bool.false_eq_true, dI, fAdd_int, e, fIx, hday k (by omega), hday (k + 1) (by omega)]⟩).trans ?_
    unfold pausT
    rw [List.map_map]
    rfl
  have hmx : fMax [.list ((pausT W).map .int)] = some (.int (mxT (pausT W))) := by
    have : (pausT W) ≠ [] := by unfold pausT; simp
    cases hq : pausT W with
    | nil => exact absurd hq this
    | cons a r =>
      unfold fMax
      simp only [asInts_map, Option.bind_some]
      rfl
  cases hix : (pausT W).findIdx? (fun z => decide (z = mxT (pausT W))) with
  | none => rw [hix] at hck; cases hck
  | some j =>
    rw [hix] at hck
    have hck : (decide (j < 8) && sameO (longest_pauseF 300 [rhD (rT W)]) (.tuple [.int (mxT (pausT W)), .int ((daysT W).getD j 0)])) = true := hck
    rw [Bool.and_eq_true, decide_eq_true_eq] at hck
    have hlp := sameO_eq hck.2
    have hin := fIndex_ints (pausT W) (mxT (pausT W))
    rw [hix] at hin
    refine st_ret ?_
    simp only [pb, fail_bind, lift_some, lift_none, xVar, xVarO, xC, xOp, xUn, xCall, xNil, xCons, xTest, xTruth, xNot, xAnd, xOr, xNotV, xAndV, xOrV, xIf, xChain, xTup, xLst, xAs, xFlat, xFlatL, iLst, iTupl, iOwn, iR1, iR2, gNm, gsNil, gsCons, gTp, sPass, sSeq, sBreak, sCont, sRet, sRetN, sIf, sAsg, sOwn, sExpr, sPar, sApp, thaw, sThaw, oNo, oSome, xSlice, xList, fList, lstOf, tupOf, asB, truth, fSub, fLt, fLe, fGt, fGe, fNeg, fIsN, fNotN, isNone, Option.bind_some, List.getElem?_cons_zero, List.getElem?_cons_succ, List.set_cons_zero, List.set_cons_succ, List.map_cons, List.map_nil, List.cons_append, List.nil_append, List.replicate_succ, List.replicate_zero, if_true, if_false, Bool.true_eq_false, Bool.false_eq_true, dI, hlp, hmx, xMeth, hin, Option.map_some, fIx, hday j hck.1, List.length_cons, List.length_nil, if_pos (show 0 + 1 + 1 ≤ line by decide), fEq_pair]
end VE


namespace VE
open PySem PySem.Spec L2
open PyProof.Rows hiding St
def topS (i : Nat) : Stmt := PySem.Challenge.pw_jobsagain_k28_weeks_as_rhythms.main.body.getD i (.Pass ⟨0, 0, 0, 0⟩)
section
variable {P : Program} {w : World} {K : PySem.W.Frag} {mg : Str → Option Value} {base : Heap}
abbrev s_works_on : Stmt := topS 1
theorem sc_works_on : FnScope ["week", "feasts", "day"] ["week", "feasts", "day"] (defScope s_works_on) := ⟨rfl, rfl, rfl, by decide +kernel, rfl, by decide +kernel, by decide +kernel⟩
theorem fn_works_on {f : Addr} {fd : FuncData} (F : Fun K "works_on" "works_on" s_works_on f fd) : FnOk P w K mg base CX0 1 f fd ["week", "feasts", "day"] (vsp K (works_onF)) :=
  fn_def (k := 0) (fb := works_onB) F sc_works_on rfl rfl fun cdv A outer s H E hr => ⟨_, by
    unfold works_onB
    exact (pssv_one (psv_ret (pv_and (pv_ix (KK := K) rfl (pv_var rfl rfl rfl) (pv_op op_mod ov_mod (pv_var rfl rfl rfl) pv_int) (fun _ _ => rfl)) (pv_one (pv_cmp (notIn' (KK := K) rfl) ov_notIn (pv_var rfl rfl rfl) (pv_var rfl rfl rfl) rfl)))))⟩
abbrev s_before : Stmt := topS 2
theorem sc_before : FnScope ["week", "day", "whole", "mark"] ["week", "day"] (defScope s_before) := ⟨rfl, rfl, rfl, by decide +kernel, rfl, by decide +kernel, by decide +kernel⟩
theorem fn_before {f : Addr} {fd : FuncData} (F : Fun K "before" "before" s_before f fd) (m_sum : mg "sum" = none) : FnOk P w K mg base CX0 1 f fd ["week", "day"] (vsp K (beforeF)) :=
  fn_def (k := 0) (fb := beforeB) F sc_before rfl rfl fun cdv A outer s H E hr => ⟨_, by
    unfold beforeB
    exact (pssv_cons (psv_set sc_before.nd (pv_sum (KK := K) rfl rfl m_sum (pav_cons (pv_as (plv_comp rfl sc_before.nd (piv_list (KK := K) rfl (pv_var rfl rfl rfl)) (blkOk_by (own := [("mark", 3)]) (N := ["week", "day", "whole", "mark"]) (sc := defScope s_before) (by decide +kernel)) rfl (fun _ _ _ _ _ => (pgv_name sc_before.nd rfl rfl rfl)) (fun _ _ _ _ _ => (ptsv_one (pt_tru (KK := K) rfl (pv_var rfl rfl rfl) (fun _ => rfl)))) (fun _ _ _ _ _ => pv_int) (fun _ => rfl))) pav_nil rfl) rfl rfl rfl) rfl rfl rfl rfl)
      (pssv_one (psv_ret (pv_op (op_add.or op_cat) ov_add (pv_op op_mul ov_mul (pv_op op_fdiv ov_div (pv_var rfl rfl rfl) pv_int) (pv_var rfl rfl rfl)) (pv_sum (KK := K) rfl rfl m_sum (pav_cons (pv_as (plv_comp rfl sc_before.nd (piv_list (KK := K) rfl (pv_as (plv_slice (KK := K) rfl (pv_var rfl rfl rfl) pov_none (pov_some (pv_op op_mod ov_mod (pv_var rfl rfl rfl) pv_int))))) (blkOk_by (own := [("mark", 3)]) (N := ["week", "day", "whole", "mark"]) (sc := defScope s_before) (by decide +kernel)) rfl (fun _ _ _ _ _ => (pgv_name sc_before.nd rfl rfl rfl)) (fun _ _ _ _ _ => (ptsv_one (pt_tru (KK := K) rfl (pv_var rfl rfl rfl) (fun _ => rfl)))) (fun _ _ _ _ _ => pv_int) (fun _ => rfl))) pav_nil rfl) rfl rfl rfl)))))⟩
abbrev s_count : Stmt := topS 3
theorem sc_count : FnScope ["week", "feasts", "first", "last", "off", "feast"] ["week", "feasts", "first", "last"] (defScope s_count) := ⟨rfl, rfl, rfl, by decide +kernel, rfl, by decide +kernel, by decide +kernel⟩
theorem fn_count {f : Addr} {fd : FuncData} (F : Fun K "count" "count" s_count f fd) (m_len : mg "len" = none) (c_before : Cal P w K mg base "before" 1 (beforeF)) : FnOk P w K mg base CX0 2 f fd ["week", "feasts", "first", "last"] (vsp K (countF)) :=
  fn_def (k := 1) (fb := countB) F sc_count rfl rfl fun cdv A outer s H E hr => ⟨_, by
    unfold countB
    exact (pssv_cons (psv_set sc_count.nd (pv_len (KK := K) rfl m_len (pav_cons (pv_as (plv_comp rfl sc_count.nd (piv_list (KK := K) rfl (pv_var rfl rfl rfl)) (blkOk_by (own := [("feast", 5)]) (N := ["week", "feasts", "first", "last", "off", "feast"]) (sc := defScope s_count) (by decide +kernel)) rfl (fun _ _ _ _ _ => (pgv_name sc_count.nd rfl rfl rfl)) (fun _ _ _ _ _ => (ptsv_one (PWV.pt (pwv_and (pt_chainV op_le ov_le op_lt ov_lt (pv_var rfl rfl rfl) (pv_var rfl rfl rfl) (pv_var rfl rfl rfl) (by with_unfolding_all rfl)) (pwv_and1 (pt_tru (KK := K) rfl (pv_ix (KK := K) rfl (pv_var rfl rfl rfl) (pv_op op_mod ov_mod (pv_var rfl rfl rfl) pv_int) (fun _ _ => rfl)) (fun _ => rfl))))))) (fun _ _ _ _ _ => (pv_var rfl rfl rfl)) (fun _ => rfl))) pav_nil rfl) rfl rfl rfl) rfl rfl rfl rfl)
      (pssv_one (psv_ret (pv_op op_sub ov_sub (pv_op op_sub ov_sub (pv_call (KK := K) rfl c_before (hr.mono (by decide)) (pav_cons (pv_var rfl rfl rfl) (pav_cons (pv_var rfl rfl rfl) pav_nil rfl) rfl) rfl rfl rfl rfl) (pv_call (KK := K) rfl c_before (hr.mono (by decide)) (pav_cons (pv_var rfl rfl rfl) (pav_cons (pv_var rfl rfl rfl) pav_nil rfl) rfl) rfl rfl rfl rfl)) (pv_var rfl rfl rfl)))))⟩
abbrev s_nth_day : Stmt := topS 5
theorem sc_nth_day : FnScope ["week", "feasts", "day", "many", "low", "high", "middle"] ["week", "feasts", "day", "many"] (defScope s_nth_day) := ⟨rfl, rfl, rfl, by decide +kernel, rfl, by decide +kernel, by decide +kernel⟩
theorem fn_nth_day (n : Nat) {f : Addr} {fd : FuncData} (F : Fun K "nth_day" "nth_day" s_nth_day f fd) (m_any : mg "any" = none) (c_count : Cal P w K mg base "count" 2 (countF)) : FnOk P w K mg base CX0 3 f fd ["week", "feasts", "day", "many"] (vsp K (nth_dayF n)) :=
  fn_def (k := 2) (fb := nth_dayB n) F sc_nth_day rfl rfl fun cdv A outer s H E hr => ⟨_, by
    unfold nth_dayB
    exact (pssv_cons (psv_if (ptv_not (pt_tru (KK := K) rfl (pv_any (KK := K) rfl rfl m_any (pav_cons (pv_var rfl rfl rfl) pav_nil rfl) rfl rfl rfl) (fun _ => rfl))) (pssv_one (psv_ret pv_non)) pssv_nil)
      (pssv_cons (psv_par rfl sc_nth_day.nd (pav_cons (pv_var rfl rfl rfl) (pav_cons (pv_op (op_add.or op_cat) ov_add (pv_var rfl rfl rfl) pv_int) pav_nil rfl) rfl) rfl rfl (by decide) rfl rfl rfl rfl)
      (pssv_cons (psv_while (pt_cmpV op_le ov_le (pv_call (KK := K) rfl c_count (hr.mono (by decide)) (pav_cons (pv_var rfl rfl rfl) (pav_cons (pv_var rfl rfl rfl) (pav_cons (pv_var rfl rfl rfl) (pav_cons (pv_var rfl rfl rfl) pav_nil rfl) rfl) rfl) rfl) rfl rfl rfl rfl) (pv_var rfl rfl rfl) (nomark _)) (pssv_one (psv_set sc_nth_day.nd (pv_op (op_add.or op_cat) ov_add (pv_var rfl rfl rfl) (pv_op op_mul ov_mul pv_int (pv_op op_sub ov_sub (pv_var rfl rfl rfl) (pv_var rfl rfl rfl)))) rfl rfl rfl rfl)) PassesOwn.never)
      (pssv_cons (psv_while (pt_cmpV op_gt ov_gt (pv_op op_sub ov_sub (pv_var rfl rfl rfl) (pv_var rfl rfl rfl)) pv_int (nomark _)) (pssv_cons (psv_set sc_nth_day.nd (pv_op op_fdiv ov_div (pv_op (op_add.or op_cat) ov_add (pv_var rfl rfl rfl) (pv_var rfl rfl rfl)) pv_int) rfl rfl rfl rfl)
      (pssv_one (psv_if (pt_cmpV op_le ov_le (pv_call (KK := K) rfl c_count (hr.mono (by decide)) (pav_cons (pv_var rfl rfl rfl) (pav_cons (pv_var rfl rfl rfl) (pav_cons (pv_var rfl rfl rfl) (pav_cons (pv_var rfl rfl rfl) pav_nil rfl) rfl) rfl) rfl) rfl rfl rfl rfl) (pv_var rfl rfl rfl) (nomark _)) (pssv_one (psv_set sc_nth_day.nd (pv_var rfl rfl rfl) rfl rfl rfl rfl)) (pssv_one (psv_set sc_nth_day.nd (pv_var rfl rfl rfl) rfl rfl rfl rfl))))) PassesOwn.never)
      (pssv_one (psv_ret (pv_var rfl rfl rfl)))))))⟩
abbrev s_next_day : Stmt := topS 4
theorem sc_next_day : FnScope ["week", "feasts", "day"] ["week", "feasts", "day"] (defScope s_next_day) := ⟨rfl, rfl, rfl, by decide +kernel, rfl, by decide +kernel, by decide +kernel⟩
theorem fn_next_day (n : Nat) {f : Addr} {fd : FuncData} (F : Fun K "next_day" "next_day" s_next_day f fd) (c_nth_day : Cal P w K mg base "nth_day" 3 (nth_dayF n)) : FnOk P w K mg base CX0 4 f fd ["week", "feasts", "day"] (vsp K (next_dayF n)) :=
  fn_def (k := 3) (fb := next_dayB n) F sc_next_day rfl rfl fun cdv A outer s H E hr => ⟨_, by
    unfold next_dayB
    exact (pssv_one (psv_ret (pv_call (KK := K) rfl c_nth_day (hr.mono (by decide)) (pav_cons (pv_var rfl rfl rfl) (pav_cons (pv_var rfl rfl rfl) (pav_cons (pv_var rfl rfl rfl) (pav_cons pv_int pav_nil rfl) rfl) rfl) rfl) rfl rfl rfl rfl)))⟩
abbrev s_last_day : Stmt := topS 6
theorem sc_last_day : FnScope ["week", "feasts", "day"] ["week", "feasts", "day"] (defScope s_last_day) := ⟨rfl, rfl, rfl, by decide +kernel, rfl, by decide +kernel, by decide +kernel⟩
theorem fn_last_day (n : Nat) {f : Addr} {fd : FuncData} (F : Fun K "last_day" "last_day" s_last_day f fd) (m_any : mg "any" = none) (c_works_on : Cal P w K mg base "works_on" 1 (works_onF)) : FnOk P w K mg base CX0 2 f fd ["week", "feasts", "day"] (vsp K (last_dayF n)) :=
  fn_def (k := 1) (fb := last_dayB n) F sc_last_day rfl rfl fun cdv A outer s H E hr => ⟨_, by
    unfold last_dayB
    exact (pssv_cons (psv_if (ptv_not (pt_tru (KK := K) rfl (pv_any (KK := K) rfl rfl m_any (pav_cons (pv_var rfl rfl rfl) pav_nil rfl) rfl rfl rfl) (fun _ => rfl))) (pssv_one (psv_ret pv_non)) pssv_nil)
      (pssv_cons (psv_while (ptv_not (pt_tru (KK := K) rfl (pv_call (KK := K) rfl c_works_on (hr.mono (by decide)) (pav_cons (pv_var rfl rfl rfl) (pav_cons (pv_var rfl rfl rfl) (pav_cons (pv_var rfl rfl rfl) pav_nil rfl) rfl) rfl) rfl rfl rfl rfl) (fun _ => rfl))) (pssv_one (psv_set sc_last_day.nd (pv_op op_sub ov_sub (pv_var rfl rfl rfl) pv_int) rfl rfl rfl rfl)) PassesOwn.never)
      (pssv_one (psv_ret (pv_var rfl rfl rfl)))))⟩
abbrev s_goes : Stmt := topS 8
theorem sc_goes : FnScope ["rhythm", "minute", "word", "start", "marks", "period", "rests"] ["rhythm", "minute"] (defScope s_goes) := ⟨rfl, rfl, rfl, by decide +kernel, rfl, by decide +kernel, by decide +kernel⟩
theorem fn_goes {f : Addr} {fd : FuncData} (F : Fun K "goes" "goes" s_goes f fd) : FnOk P w K mg base CX0 1 f fd ["rhythm", "minute"] (vsp K (goesF)) :=
  fn_def (k := 0) (fb := goesB) F sc_goes rfl rfl fun cdv A outer s H E hr => ⟨_, by
    unfold goesB
    exact (pssv_cons (psv_asg (pv_var rfl rfl rfl) (pgv_tup (KK := K) rfl rfl (pgsv_cons (pgv_name sc_goes.nd rfl rfl rfl) (pgsv_cons (pgv_name sc_goes.nd rfl rfl rfl) (pgsv_cons (pgv_name sc_goes.nd rfl rfl rfl) (pgsv_cons (pgv_name sc_goes.nd rfl rfl rfl) (pgsv_cons (pgv_name sc_goes.nd rfl rfl rfl) pgsv_nil rfl) rfl) rfl) rfl) rfl) rfl rfl) rfl rfl rfl)
      (pssv_cons (psv_if (pt_cmpV op_lt ov_lt (pv_var rfl rfl rfl) (pv_var rfl rfl rfl) (nomark _)) (pssv_one (psv_ret (pv_cmp (in' (KK := K) rfl) ov_in (pv_var rfl rfl rfl) (pv_var rfl rfl rfl) rfl))) pssv_nil)
      (pssv_one (psv_ret (pv_cmp (in' (KK := K) rfl) ov_in (pv_op op_mod ov_mod (pv_var rfl rfl rfl) (pv_var rfl rfl rfl)) (pv_var rfl rfl rfl) rfl)))))⟩
abbrev s_least : Stmt := topS 9
theorem sc_least : FnScope ["rhythm", "word", "start", "marks", "period", "rests", "short", "some", "rest", "mark"] ["rhythm"] (defScope s_least) := ⟨rfl, rfl, rfl, by decide +kernel, rfl, by decide +kernel, by decide +kernel⟩
theorem fn_least (n : Nat) {f : Addr} {fd : FuncData} (F : Fun K "least" "least" s_least f fd) (m_list : mg "list" = none) (m_range : mg "range" = none) : FnOk P w K mg base CX0 1 f fd ["rhythm"] (vsp K (leastF n)) :=
  fn_def (k := 0) (fb := leastB n) F sc_least rfl rfl fun cdv A outer s H E hr => ⟨_, by
    unfold leastB
    exact (pssv_cons (psv_asg (pv_var rfl rfl rfl) (pgv_tup (KK := K) rfl rfl (pgsv_cons (pgv_name sc_least.nd rfl rfl rfl) (pgsv_cons (pgv_name sc_least.nd rfl rfl rfl) (pgsv_cons (pgv_name sc_least.nd rfl rfl rfl) (pgsv_cons (pgv_name sc_least.nd rfl rfl rfl) (pgsv_cons (pgv_name sc_least.nd rfl rfl rfl) pgsv_nil rfl) rfl) rfl) rfl) rfl) rfl rfl) rfl rfl rfl)
      (pssv_cons (psv_for rfl (piv_range2 m_range (pav_cons pv_int (pav_cons (pv_op (op_add.or op_cat) ov_add (pv_var rfl rfl rfl) pv_int) pav_nil rfl) rfl) rfl rfl rfl) (pgv_name sc_least.nd rfl rfl rfl) (pssv_one (psv_if (pt_cmpV (eqD' (KK := K) rfl hr.units) ov_eq (pv_op op_mod ov_mod (pv_var rfl rfl rfl) (pv_var rfl rfl rfl)) pv_int (nomark _)) (pssv_cons (psv_set sc_least.nd (pv_as (plv_comp rfl sc_least.nd (piv_list (KK := K) rfl (pv_var rfl rfl rfl)) (blkOk_by (own := [("rest", 8)]) (N := ["rhythm", "word", "start", "marks", "period", "rests", "short", "some", "rest", "mark"]) (sc := defScope s_least) (by decide +kernel)) rfl (fun _ _ _ _ _ => (pgv_name sc_least.nd rfl rfl rfl)) (fun _ _ _ _ _ => (ptsv_one (pt_cmpV op_lt ov_lt (pv_var rfl rfl rfl) (pv_var rfl rfl rfl) (nomark _)))) (fun _ _ _ _ _ => (pv_var rfl rfl rfl)) (fun _ => rfl))) rfl rfl rfl rfl)
      (pssv_one (psv_if (pt_cmpV (eqD' (KK := K) rfl hr.units) ov_eq (pv_var rfl rfl rfl) (pv_as (plv_comp rfl sc_least.nd (piv_range1 m_range (pav_cons (pv_var rfl rfl rfl) pav_nil rfl) rfl rfl) (blkOk_by (own := [("rest", 8)]) (N := ["rhythm", "word", "start", "marks", "period", "rests", "short", "some", "rest", "mark"]) (sc := defScope s_least) (by decide +kernel)) rfl (fun _ _ _ _ _ => (pgv_name sc_least.nd rfl rfl rfl)) (fun _ _ _ _ _ => (ptsv_one (pt_cmpV (in' (KK := K) rfl) ov_in (pv_op op_mod ov_mod (pv_var rfl rfl rfl) (pv_var rfl rfl rfl)) (pv_var rfl rfl rfl) rfl))) (fun _ _ _ _ _ => (pv_var rfl rfl rfl)) (fun _ => rfl))) (nomark _)) (pssv_cons (psv_par rfl sc_least.nd (pav_cons (pv_var rfl rfl rfl) (pav_cons (pv_var rfl rfl rfl) pav_nil rfl) rfl) rfl rfl (by decide) rfl rfl rfl rfl)
      (pssv_one psv_break)) pssv_nil))) pssv_nil)) PassesOwn.never (fun _ => rfl))
      (pssv_cons (psv_set sc_least.nd (pv_as (plv_list (KK := K) rfl m_list (pv_var rfl rfl rfl) rfl rfl rfl)) rfl rfl rfl rfl)
      (pssv_cons (psv_while (PWV.pt (pwv_and (pt_cmpV op_gt ov_gt (pv_var rfl rfl rfl) pv_int (nomark _)) (pwv_and1 (pt_cmpV (eqD' (KK := K) rfl hr.units) ov_eq (pv_cmp (in' (KK := K) rfl) ov_in (pv_op op_sub ov_sub (pv_var rfl rfl rfl) pv_int) (pv_var rfl rfl rfl) rfl) (pv_cmp (in' (KK := K) rfl) ov_in (pv_op op_mod ov_mod (pv_op op_sub ov_sub (pv_var rfl rfl rfl) pv_int) (pv_var rfl rfl rfl)) (pv_var rfl rfl rfl) rfl) (nomark _))))) (pssv_cons (psv_set sc_least.nd (pv_op op_sub ov_sub (pv_var rfl rfl rfl) pv_int) rfl rfl rfl rfl)
      (pssv_one (psv_setLc rfl sc_least.nd (sw_true rfl rfl rfl (by decide +kernel)) (piv_list (KK := K) rfl (pv_var rfl rfl rfl)) (blkOk_by (own := [("mark", 9)]) (N := ["rhythm", "word", "start", "marks", "period", "rests", "short", "some", "rest", "mark"]) (sc := defScope s_least) (by decide +kernel)) rfl (fun _ _ _ _ _ => (pgv_name sc_least.nd rfl rfl rfl)) (fun _ _ _ _ _ => (ptsv_one (pt_cmpV op_lt ov_lt (pv_var rfl rfl rfl) (pv_var rfl rfl rfl) (nomark _)))) (fun _ _ _ _ _ => (pv_var rfl rfl rfl)) (fun _ => rfl) rfl rfl))) PassesOwn.never)
      (pssv_one (psv_ret (pv_tup (pav_cons pv_str (pav_cons (pv_var rfl rfl rfl) (pav_cons (pv_var rfl rfl rfl) (pav_cons (pv_var rfl rfl rfl) (pav_cons (pv_as (plv_list (KK := K) rfl m_list (pv_var rfl rfl rfl) rfl rfl rfl)) pav_nil rfl) rfl) rfl) rfl) rfl))))))))⟩
abbrev s_count_to : Stmt := topS 10
theorem sc_count_to : FnScope ["rhythm", "minute", "word", "start", "marks", "period", "rests", "mark", "total", "rest"] ["rhythm", "minute"] (defScope s_count_to) := ⟨rfl, rfl, rfl, by decide +kernel, rfl, by decide +kernel, by decide +kernel⟩
theorem fn_count_to {f : Addr} {fd : FuncData} (F : Fun K "count_to" "count_to" s_count_to f fd) (m_len : mg "len" = none) : FnOk P w K mg base CX0 1 f fd ["rhythm", "minute"] (vsp K (count_toF)) :=
  fn_def (k := 0) (fb := count_toB) F sc_count_to rfl rfl fun cdv A outer s H E hr => ⟨_, by
    unfold count_toB
    exact (pssv_cons (psv_asg (pv_var rfl rfl rfl) (pgv_tup (KK := K) rfl rfl (pgsv_cons (pgv_name sc_count_to.nd rfl rfl rfl) (pgsv_cons (pgv_name sc_count_to.nd rfl rfl rfl) (pgsv_cons (pgv_name sc_count_to.nd rfl rfl rfl) (pgsv_cons (pgv_name sc_count_to.nd rfl rfl rfl) (pgsv_cons (pgv_name sc_count_to.nd rfl rfl rfl) pgsv_nil rfl) rfl) rfl) rfl) rfl) rfl rfl) rfl rfl rfl)
      (pssv_cons (psv_if (pt_cmpV op_le ov_le (pv_var rfl rfl rfl) (pv_var rfl rfl rfl) (nomark _)) (pssv_one (psv_ret (pv_len (KK := K) rfl m_len (pav_cons (pv_as (plv_comp rfl sc_count_to.nd (piv_list (KK := K) rfl (pv_var rfl rfl rfl)) (blkOk_by (own := [("mark", 7)]) (N := ["rhythm", "minute", "word", "start", "marks", "period", "rests", "mark", "total", "rest"]) (sc := defScope s_count_to) (by decide +kernel)) rfl (fun _ _ _ _ _ => (pgv_name sc_count_to.nd rfl rfl rfl)) (fun _ _ _ _ _ => (ptsv_one (pt_cmpV op_lt ov_lt (pv_var rfl rfl rfl) (pv_var rfl rfl rfl) (nomark _)))) (fun _ _ _ _ _ => (pv_var rfl rfl rfl)) (fun _ => rfl))) pav_nil rfl) rfl rfl rfl))) pssv_nil)
      (pssv_cons (psv_set sc_count_to.nd (pv_len (KK := K) rfl m_len (pav_cons (pv_var rfl rfl rfl) pav_nil rfl) rfl rfl rfl) rfl rfl rfl rfl)
      (pssv_cons (psv_for rfl (piv_list (KK := K) rfl (pv_var rfl rfl rfl)) (pgv_name sc_count_to.nd rfl rfl rfl) (pssv_one (psv_set sc_count_to.nd (pv_op op_sub ov_sub (pv_op (op_add.or op_cat) ov_add (pv_var rfl rfl rfl) (pv_op op_fdiv ov_div (pv_op op_sub ov_sub (pv_op (op_add.or op_cat) ov_add (pv_op op_sub ov_sub (pv_var rfl rfl rfl) (pv_var rfl rfl rfl)) (pv_var rfl rfl rfl)) pv_int) (pv_var rfl rfl rfl))) (pv_op op_fdiv ov_div (pv_op op_sub ov_sub (pv_op (op_add.or op_cat) ov_add (pv_op op_sub ov_sub (pv_var rfl rfl rfl) (pv_var rfl rfl rfl)) (pv_var rfl rfl rfl)) pv_int) (pv_var rfl rfl rfl))) rfl rfl rfl rfl)) PassesOwn.never (fun _ => rfl))
      (pssv_one (psv_ret (pv_var rfl rfl rfl)))))))⟩
abbrev s_nth : Stmt := topS 11
theorem sc_nth : FnScope ["rhythm", "number", "word", "start", "marks", "period", "rests", "left", "row", "rest"] ["rhythm", "number"] (defScope s_nth) := ⟨rfl, rfl, rfl, by decide +kernel, rfl, by decide +kernel, by decide +kernel⟩
theorem fn_nth {f : Addr} {fd : FuncData} (F : Fun K "nth" "nth" s_nth f fd) (m_len : mg "len" = none) (m_sorted : mg "sorted" = none) : FnOk P w K mg base CX0 1 f fd ["rhythm", "number"] (vsp K (nthF)) :=
  fn_def (k := 0) (fb := nthB) F sc_nth rfl rfl fun cdv A outer s H E hr => ⟨_, by
    unfold nthB
    exact (pssv_cons (psv_asg (pv_var rfl rfl rfl) (pgv_tup (KK := K) rfl rfl (pgsv_cons (pgv_name sc_nth.nd rfl rfl rfl) (pgsv_cons (pgv_name sc_nth.nd rfl rfl rfl) (pgsv_cons (pgv_name sc_nth.nd rfl rfl rfl) (pgsv_cons (pgv_name sc_nth.nd rfl rfl rfl) (pgsv_cons (pgv_name sc_nth.nd rfl rfl rfl) pgsv_nil rfl) rfl) rfl) rfl) rfl) rfl rfl) rfl rfl rfl)
      (pssv_cons (psv_if (pt_cmpV op_lt ov_lt (pv_var rfl rfl rfl) (pv_len (KK := K) rfl m_len (pav_cons (pv_var rfl rfl rfl) pav_nil rfl) rfl rfl rfl) (nomark _)) (pssv_one (psv_ret (pv_ix (KK := K) rfl (pv_var rfl rfl rfl) (pv_var rfl rfl rfl) (fun _ _ => rfl)))) pssv_nil)
      (pssv_cons (psv_if (ptv_not (pt_tru (KK := K) rfl (pv_var rfl rfl rfl) (fun _ => rfl))) (pssv_one (psv_ret pv_non)) pssv_nil)
      (pssv_cons (psv_set sc_nth.nd (pv_op op_sub ov_sub (pv_var rfl rfl rfl) (pv_len (KK := K) rfl m_len (pav_cons (pv_var rfl rfl rfl) pav_nil rfl) rfl rfl rfl)) rfl rfl rfl rfl)
      (pssv_cons (psv_set sc_nth.nd (pv_as (plv_sorted (KK := K) rfl m_sorted (pv_as (plv_comp rfl sc_nth.nd (piv_list (KK := K) rfl (pv_var rfl rfl rfl)) (blkOk_by (own := [("rest", 9)]) (N := ["rhythm", "number", "word", "start", "marks", "period", "rests", "left", "row", "rest"]) (sc := defScope s_nth) (by decide +kernel)) rfl (fun _ _ _ _ _ => (pgv_name sc_nth.nd rfl rfl rfl)) (fun _ _ _ _ _ => ptsv_nil) (fun _ _ _ _ _ => (pv_op (op_add.or op_cat) ov_add (pv_var rfl rfl rfl) (pv_op op_mod ov_mod (pv_op op_sub ov_sub (pv_var rfl rfl rfl) (pv_var rfl rfl rfl)) (pv_var rfl rfl rfl)))) (fun _ => rfl))) rfl rfl rfl)) rfl rfl rfl rfl)
      (pssv_one (psv_ret (pv_op (op_add.or op_cat) ov_add (pv_ix (KK := K) rfl (pv_var rfl rfl rfl) (pv_op op_mod ov_mod (pv_var rfl rfl rfl) (pv_len (KK := K) rfl m_len (pav_cons (pv_var rfl rfl rfl) pav_nil rfl) rfl rfl rfl)) (fun _ _ => rfl)) (pv_op op_mul ov_mul (pv_var rfl rfl rfl) (pv_op op_fdiv ov_div (pv_var rfl rfl rfl) (pv_len (KK := K) rfl m_len (pav_cons (pv_var rfl rfl rfl) pav_nil rfl) rfl rfl rfl)))))))))))⟩
abbrev s_longest_pause : Stmt := topS 12
theorem sc_longest_pause : FnScope ["rhythm", "word", "start", "marks", "period", "rests", "best", "number", "here", "pause"] ["rhythm"] (defScope s_longest_pause) := ⟨rfl, rfl, rfl, by decide +kernel, rfl, by decide +kernel, by decide +kernel⟩
theorem fn_longest_pause (n : Nat) {f : Addr} {fd : FuncData} (F : Fun K "longest_pause" "longest_pause" s_longest_pause f fd) (m_len : mg "len" = none) (m_range : mg "range" = none) (c_least : Cal P w K mg base "least" 1 (leastF n)) (c_nth : Cal P w K mg base "nth" 1 (nthF)) : FnOk P w K mg base CX0 2 f fd ["rhythm"] (vsp K (longest_pauseF n)) :=
  fn_def (k := 1) (fb := longest_pauseB n) F sc_longest_pause rfl rfl fun cdv A outer s H E hr => ⟨_, by
    unfold longest_pauseB
    exact (pssv_cons (psv_asg (pv_call (KK := K) rfl c_least (hr.mono (by decide)) (pav_cons (pv_var rfl rfl rfl) pav_nil rfl) rfl rfl rfl rfl) (pgv_tup (KK := K) rfl rfl (pgsv_cons (pgv_name sc_longest_pause.nd rfl rfl rfl) (pgsv_cons (pgv_name sc_longest_pause.nd rfl rfl rfl) (pgsv_cons (pgv_name sc_longest_pause.nd rfl rfl rfl) (pgsv_cons (pgv_name sc_longest_pause.nd rfl rfl rfl) (pgsv_cons (pgv_name sc_longest_pause.nd rfl rfl rfl) pgsv_nil rfl) rfl) rfl) rfl) rfl) rfl rfl) rfl rfl rfl)
      (pssv_cons (psv_if (ptv_not (pt_tru (KK := K) rfl (pv_var rfl rfl rfl) (fun _ => rfl))) (pssv_one (psv_ret pv_non)) pssv_nil)
      (pssv_cons (psv_set sc_longest_pause.nd pv_non rfl rfl rfl rfl)
      (pssv_cons (psv_for rfl (piv_range1 m_range (pav_cons (pv_op (op_add.or op_cat) ov_add (pv_len (KK := K) rfl m_len (pav_cons (pv_var rfl rfl rfl) pav_nil rfl) rfl rfl rfl) (pv_op op_mul ov_mul pv_int (pv_len (KK := K) rfl m_len (pav_cons (pv_var rfl rfl rfl) pav_nil rfl) rfl rfl rfl))) pav_nil rfl) rfl rfl) (pgv_name sc_longest_pause.nd rfl rfl rfl) (pssv_cons (psv_set sc_longest_pause.nd (pv_call (KK := K) rfl c_nth (hr.mono (by decide)) (pav_cons (pv_tup (pav_cons (pv_var rfl rfl rfl) (pav_cons (pv_var rfl rfl rfl) (pav_cons (pv_var rfl rfl rfl) (pav_cons (pv_var rfl rfl rfl) (pav_cons (pv_var rfl rfl rfl) pav_nil rfl) rfl) rfl) rfl) rfl)) (pav_cons (pv_var rfl rfl rfl) pav_nil rfl) rfl) rfl rfl rfl rfl) rfl rfl rfl rfl)
      (pssv_cons (psv_set sc_longest_pause.nd (pv_op op_sub ov_sub (pv_op op_sub ov_sub (pv_call (KK := K) rfl c_nth (hr.mono (by decide)) (pav_cons (pv_tup (pav_cons (pv_var rfl rfl rfl) (pav_cons (pv_var rfl rfl rfl) (pav_cons (pv_var rfl rfl rfl) (pav_cons (pv_var rfl rfl rfl) (pav_cons (pv_var rfl rfl rfl) pav_nil rfl) rfl) rfl) rfl) rfl)) (pav_cons (pv_op (op_add.or op_cat) ov_add (pv_var rfl rfl rfl) pv_int) pav_nil rfl) rfl) rfl rfl rfl rfl) (pv_var rfl rfl rfl)) pv_int) rfl rfl rfl rfl)
      (pssv_one (psv_if (PWV.pt (pwv_or (pt_isN (pv_var rfl rfl rfl)) (pwv_or1 (pt_cmpV op_gt ov_gt (pv_var rfl rfl rfl) (pv_ix (KK := K) rfl (pv_var rfl rfl rfl) pv_int (fun _ _ => rfl)) (nomark _))))) (pssv_one (psv_set sc_longest_pause.nd (pv_tup (pav_cons (pv_var rfl rfl rfl) (pav_cons (pv_var rfl rfl rfl) pav_nil rfl) rfl)) rfl rfl rfl rfl)) pssv_nil)))) PassesOwn.never (fun _ => rfl))
      (pssv_one (psv_ret (pv_var rfl rfl rfl)))))))⟩
abbrev s__law_take : Stmt := topS 15
abbrev s__law_state : Stmt := topS 14
theorem sc__law_take : FnScope ["state", "most", "cells", "at", "cell", "mixed"] ["state", "most"] (defScope s__law_take) := ⟨rfl, rfl, rfl, by decide +kernel, rfl, by decide +kernel, by decide +kernel⟩
theorem sc__law_state : FnScope ["script", "cells", "cell"] ["script"] (defScope s__law_state) := ⟨rfl, rfl, rfl, by decide +kernel, rfl, by decide +kernel, by decide +kernel⟩
theorem fn_take {f : Addr} {fd : FuncData} (F : Fun K "_law_take" "_law_take" s__law_take f fd) (m_len : mg "len" = none) (m_int : mg "int" = none) : FnOk P w K mg base CX0 1 f fd ["state", "most"] (spTake K) := by
  refine F.ok sc__law_take (fun vs H Q E h => ?_) (fun cdv A outer s H vs Q E hr h => ?_)
  · obtain ⟨_, _, _, _, _, _, rfl, _⟩ := h; rfl
  obtain ⟨D, C, w0, most, r, w', rfl, hne, hD, hC, ht, q⟩ := h
  have nd := sc__law_take.nd
  refine ⟨_, pss_cons (ps_set (i := 2) nd rfl (.inl rfl) (pe_ix ix_list (pv 0) pe_int (fun _ _ => rfl)))
    (pss_cons (ps_set (i := 3) nd rfl (.inl rfl) (pe_op op_mod (pe_ix ix_list (pv 0) pe_int (fun _ _ => rfl)) (pe_callB call_len_seq (by rfl) m_len PySem.boot_len (pa_cons (pv 2) pa_nil))))
    (pss_cons (ps_set (i := 4) nd rfl (.inl rfl) (pe_ix ix_list (pv 2) (pv 3) (fun _ _ => rfl)))
    (pss_cons (ps_if (pt_cmpR op_ge (pv 4) pe_int (nomark _)) (pss_cons (ps_asg (pe_op op_fdiv (pv 4) (pv 1)) (pg_sub (pv 2) (pv 3) set_list)) (pss_one (ps_ret (pe_op op_mod (pv 4) (pv 1))))) pss_nil)
    (pss_cons (ps_asg (pe_op op_add (pe_ix ix_list (pv 0) pe_int (fun _ _ => rfl)) pe_int) (pg_sub (pv 0) pe_int set_list))
    (pss_cons (ps_set (i := 5) nd rfl (.inl rfl) (pe_op op_mod (pe_callTy call_int1 (by rfl) m_int (by decide +kernel) (pa_cons (pe_op op_add (pe_op op_mul (pv 4) pe_int) (pe_op op_mul (pe_ix ix_list (pv 0) pe_int (fun _ _ => rfl)) pe_int)) pa_nil)) pe_int))
    (pss_cons (ps_set (i := 5) nd rfl (.inl rfl) (pe_op op_mod (pe_callTy call_int1 (by rfl) m_int (by decide +kernel) (pa_cons (pe_op op_add (pe_op op_mul (pv 5) pe_int) (pe_op op_mul (pe_ix ix_list (pv 0) pe_int (fun _ _ => rfl)) pe_int)) pa_nil)) pe_int))
    (pss_one (ps_ret (pe_op op_mod (pe_op op_fdiv (pv 5) pe_int) (pv 1)))))))))), ?_⟩
  unfold takeW at ht
  split at ht
  rotate_left
  · cases ht
  rename_i hc
  obtain ⟨h0, h1, h2⟩ := hc
  dsimp only at ht
  split at ht
  · cases ht
  rename_i cell ecell
  have hcl : ((w0.cells.map V.int).length : Int) = (w0.cells.length : Int) := by rw [List.length_map]
  have hlen : (0 : Int) < (w0.cells.map V.int).length := by rw [hcl]; omega
  have hnn : 0 ≤ w0.pos % (w0.cells.length : Int) := Int.emod_nonneg _ (by omega)
  have eat : w0.pos % ((w0.cells.map V.int).length : Int) = (((w0.pos % (w0.cells.length : Int)).toNat : Nat) : Int) := by rw [hcl]; omega
  have gcell : (w0.cells.map V.int)[(w0.pos % (w0.cells.length : Int)).toNat]? = some (.int cell) := by rw [List.getElem?_map, ecell]; rfl
  -- cells = state[1]; at; cell
  refine ⟨.ref D, rfl, D, _, 1, .ref C, rfl, rfl, SqL.of hD, (by rfl), ?_⟩
  refine ⟨.ref D, rfl, D, _, 0, .int w0.pos, rfl, rfl, SqL.of hD, L2.atI_nat (j := 0) rfl, .ref C, rfl, C, _, rfl, .inl (SqL.of hC), w0.pos, _, rfl, rfl, hlen, ?_⟩
  refine ⟨.ref C, rfl, .int _, rfl, C, _, _, .int cell, rfl, rfl, SqL.of hC, ?_, ?_⟩
  · rw [eat]; exact L2.atI_nat gcell
  refine ⟨.int cell, rfl, cell, _, rfl, rfl, _, rfl, ?_⟩
  split at ht
  · rename_i hbig
    cases ht
    rw [decide_eq_true hbig]
    refine iteT ?_
    refine ⟨.int cell, rfl, .int most, rfl, cell, most, rfl, rfl, ⟨h0, h1⟩, .ref C, rfl, .int _, rfl, C, _, _, (w0.pos % (w0.cells.length : Int)).toNat, rfl, rfl, hC, ?_, ?_⟩
    · rw [eat]
      unfold L2.ixN
      have := (List.getElem?_eq_some_iff.mp gcell).1
      rw [if_pos (by omega), if_pos (by omega)]
      rfl
    refine ⟨.int cell, rfl, .int most, rfl, cell, most, rfl, rfl, h0, ?_⟩
    refine q _ (fun a o n1 n2 e => by rw [upd_ne n2]; exact e) (fun a e => ?_) (by rw [upd_ne hne]; exact hD) (by rw [upd_same, List.map_set])
    by_cases z : a = C
    · subst z; rw [upd_same]; simp
    · rw [upd_ne z]; exact e
  · rename_i hbig
    cases ht
    rw [decide_eq_false hbig]
    refine iteF ?_
    refine ⟨.ref D, rfl, D, _, 0, .int w0.pos, rfl, rfl, SqL.of hD, L2.atI_nat (j := 0) rfl, w0.pos, 1, rfl, rfl, .ref D, rfl, D, _, 0, 0, rfl, rfl, hD, rfl, ?_⟩
    have eD : (upd H D (.lst ([V.int w0.pos, .ref C].set 0 (.int (w0.pos + 1))))) D = some (.lst [.int (w0.pos + 1), .ref C]) := upd_same
    refine ⟨.int cell, rfl, cell, 48271, rfl, rfl, .inr (by omega), .ref D, rfl, D, _, 0, .int (w0.pos + 1), rfl, rfl, SqL.of eD, L2.atI_nat (j := 0) rfl, w0.pos + 1, 69621, rfl, rfl, .inr (by omega), _, _, rfl, rfl, .inl ⟨_, rfl, _, 2147483647, rfl, rfl, by omega, ?_⟩⟩
    refine ⟨_, rfl, _, 16807, rfl, rfl, .inr (by omega), .ref D, rfl, D, _, 0, .int (w0.pos + 1), rfl, rfl, SqL.of eD, L2.atI_nat (j := 0) rfl, w0.pos + 1, 7919, rfl, rfl, .inr (by omega), _, _, rfl, rfl, .inl ⟨_, rfl, _, 1000000007, rfl, rfl, by omega, ?_⟩⟩
    refine ⟨_, rfl, _, 7, rfl, rfl, ⟨by omega, by omega⟩, .int most, rfl, _, most, rfl, rfl, h0, ?_⟩
    refine q _ (fun a o n1 n2 e => by rw [upd_ne n1]; exact e) (fun a e => ?_) eD (by rw [upd_ne hne.symm]; exact hC)
    by_cases z : a = D
    · subst z; rw [upd_same]; simp
    · rw [upd_ne z]; exact e
theorem fn_state {f : Addr} {fd : FuncData} (F : Fun K "_law_state" "_law_state" s__law_state f fd) (m_abs : mg "abs" = none) (m_len : mg "len" = none) : FnOk P w K mg base CX0 1 f fd ["script"] (spState K) :=
  state_ok (st := s__law_state) F sc__law_state rfl fun cdv A outer s H E hr => ⟨_, _, by
    unfold stateB1
    exact (psv_ownLc rfl sc__law_state.nd (sw_true rfl rfl rfl (by decide +kernel)) (piv_list (KK := K) rfl (pv_as (plv_cutZ (KK := K) rfl rfl rfl rfl pov_none (pov_some pv_int)))) (blkOk_by (own := [("cell", 2)]) (N := ["script", "cells", "cell"]) (sc := defScope s__law_state) (by decide +kernel)) rfl (fun _ _ _ _ _ => (pgv_name sc__law_state.nd rfl rfl rfl)) (fun _ _ _ _ _ => ptsv_nil) (fun _ _ _ _ _ => (pv_abs m_abs (pav_cons (pv_var rfl rfl rfl) pav_nil rfl) rfl rfl rfl)) (fun _ => rfl) rfl rfl), by
    unfold stateB2
    exact (psv_if (pt_cmpV (eqD' (KK := K) rfl hr.units) ov_eq (pv_len (KK := K) rfl m_len (pav_cons (pv_varO rfl rfl rfl) pav_nil rfl) rfl rfl rfl) pv_int (nomark _)) (pssv_one (psv_own sc__law_state.nd (plv_lst (pav_cons pv_int pav_nil rfl)) rfl rfl rfl rfl)) pssv_nil), ps_ret (pe_lst (pa_cons pe_int (pa_cons (pv 1) pa_nil)))⟩

abbrev s_law : Stmt := topS 16
theorem sc_law : FnScope ["script", "state", "week", "k", "spot", "rhythm", "day", "first", "last", "ahead", "many", "before_v", "days", "pauses"] ["script"] (defScope s_law) := ⟨rfl, rfl, rfl, by decide +kernel, rfl, by decide +kernel, by decide +kernel⟩
theorem fn_law (n : Nat) {f : Addr} {fd : FuncData} (F : Fun K "law" "law" s_law f fd) (c_state : CalS P w K mg base "_law_state" 1) (m_int : mg "int" = none) (m_len : mg "len" = none) (m_max : mg "max" = none) (m_range : mg "range" = none) (c__law_take : CalT P w K mg base "_law_take" 1) (c_count : Cal P w K mg base "count" 2 (countF)) (c_count_to : Cal P w K mg base "count_to" 1 (count_toF)) (c_goes : Cal P w K mg base "goes" 1 (goesF)) (c_last_day : Cal P w K mg base "last_day" 2 (last_dayF n)) (c_least : Cal P w K mg base "least" 1 (leastF n)) (c_longest_pause : Cal P w K mg base "longest_pause" 2 (longest_pauseF n)) (c_next_day : Cal P w K mg base "next_day" 4 (next_dayF n)) (c_nth : Cal P w K mg base "nth" 1 (nthF)) (c_nth_day : Cal P w K mg base "nth_day" 3 (nth_dayF n)) (c_works_on : Cal P w K mg base "works_on" 1 (works_onF))
    (run : ∀ ns : List Int, ns.length ≤ 63 → ∃ env' w', lawB n ((Slot.fz ns :: List.replicate 13 Slot.no).set 1 (.st 1)) ⟨0, stateCells ns⟩ = some ((.rt (.bool true), env'), w')) : FnOk P w K mg base CX0 5 f fd ["script"] (spLaw K) :=
  law_ok (k := 4) (i := 1) (fb := lawB n) F sc_law rfl (by decide) (fun cdv A outer s H E hr => ⟨by
    obtain ⟨fa, fd, G, mgf, kp, bi⟩ := c_state.ex
    exact ps_set sc_law.nd rfl (.inr rfl) (pe_call G (hr.mono (by decide)) (by rfl) mgf kp bi .nil pass0 (pa_cons (pv 0) pa_nil)), _, by
    unfold lawB
    exact (pssv_cons (psv_set sc_law.nd (pv_as (plv_comp rfl sc_law.nd (piv_range1 m_range (pav_cons pv_int pav_nil rfl) rfl rfl) (blkOk_by (own := [("k", 3)]) (N := ["script", "state", "week", "k", "spot", "rhythm", "day", "first", "last", "ahead", "many", "before_v", "days", "pauses"]) (sc := defScope s_law) (by decide +kernel)) rfl (fun _ _ _ _ _ => (pgv_name sc_law.nd rfl rfl rfl)) (fun _ _ _ _ _ => ptsv_nil) (fun _ _ _ _ _ => (pv_cmp (eqD' (KK := K) rfl hr.units) ov_eq (pv_take (KK := K) rfl c__law_take (hr.mono (by decide)) pv_int rfl rfl rfl rfl rfl rfl rfl rfl) pv_int (nomark _))) (fun _ => rfl))) rfl rfl rfl rfl)
      (pssv_cons (psv_set sc_law.nd (pv_take (KK := K) rfl c__law_take (hr.mono (by decide)) pv_int rfl rfl rfl rfl rfl rfl rfl rfl) rfl rfl rfl rfl)
      (pssv_cons (psv_set sc_law.nd (pv_as (plv_comp rfl sc_law.nd (piv_range1 m_range (pav_cons pv_int pav_nil rfl) rfl rfl) (blkOk_by (own := [("k", 3)]) (N := ["script", "state", "week", "k", "spot", "rhythm", "day", "first", "last", "ahead", "many", "before_v", "days", "pauses"]) (sc := defScope s_law) (by decide +kernel)) rfl (fun _ _ _ _ _ => (pgv_name sc_law.nd rfl rfl rfl)) (fun _ _ _ _ _ => ptsv_nil) (fun _ _ _ _ _ => (pv_or (pv_ix (KK := K) rfl (pv_var rfl rfl rfl) (pv_var rfl rfl rfl) (fun _ _ => rfl)) (pv_one (pv_cmp (eqD' (KK := K) rfl hr.units) ov_eq (pv_var rfl rfl rfl) (pv_var rfl rfl rfl) (nomark _))))) (fun _ => rfl))) rfl rfl rfl rfl)
      (pssv_cons (psv_set sc_law.nd (pv_call (KK := K) rfl c_least (hr.mono (by decide)) (pav_cons (pv_tup (pav_cons pv_str (pav_cons pv_int (pav_cons (pv_as (plv_lst pav_nil)) (pav_cons pv_int (pav_cons (pv_as (plv_comp rfl sc_law.nd (piv_range1 m_range (pav_cons pv_int pav_nil rfl) rfl rfl) (blkOk_by (own := [("k", 3)]) (N := ["script", "state", "week", "k", "spot", "rhythm", "day", "first", "last", "ahead", "many", "before_v", "days", "pauses"]) (sc := defScope s_law) (by decide +kernel)) rfl (fun _ _ _ _ _ => (pgv_name sc_law.nd rfl rfl rfl)) (fun _ _ _ _ _ => (ptsv_one (pt_tru (KK := K) rfl (pv_ix (KK := K) rfl (pv_var rfl rfl rfl) (pv_var rfl rfl rfl) (fun _ _ => rfl)) (fun _ => rfl)))) (fun _ _ _ _ _ => (pv_var rfl rfl rfl)) (fun _ => rfl))) pav_nil rfl) rfl) rfl) rfl) rfl)) pav_nil rfl) rfl rfl rfl rfl) rfl rfl rfl rfl)
      (pssv_cons (psv_for rfl (piv_range1 m_range (pav_cons pv_int pav_nil rfl) rfl rfl) (pgv_name sc_law.nd rfl rfl rfl) (pssv_one (psv_if (pt_cmpV (neD' (KK := K) rfl hr.units) ov_ne (pv_call (KK := K) rfl c_works_on (hr.mono (by decide)) (pav_cons (pv_var rfl rfl rfl) (pav_cons (pv_as (plv_lst pav_nil)) (pav_cons (pv_var rfl rfl rfl) pav_nil rfl) rfl) rfl) rfl rfl rfl rfl) (pv_call (KK := K) rfl c_goes (hr.mono (by decide)) (pav_cons (pv_var rfl rfl rfl) (pav_cons (pv_var rfl rfl rfl) pav_nil rfl) rfl) rfl rfl rfl rfl) (nomark _)) (pssv_one (psv_ret pv_bl)) pssv_nil)) PassesOwn.never (fun _ => rfl))
      (pssv_cons (psv_set sc_law.nd (pv_take (KK := K) rfl c__law_take (hr.mono (by decide)) pv_int rfl rfl rfl rfl rfl rfl rfl rfl) rfl rfl rfl rfl)
      (pssv_cons (psv_set sc_law.nd (pv_op (op_add.or op_cat) ov_add (pv_var rfl rfl rfl) (pv_take (KK := K) rfl c__law_take (hr.mono (by decide)) pv_int rfl rfl rfl rfl rfl rfl rfl rfl)) rfl rfl rfl rfl)
      (pssv_cons (psv_set sc_law.nd (pv_call (KK := K) rfl c_count_to (hr.mono (by decide)) (pav_cons (pv_var rfl rfl rfl) (pav_cons (pv_var rfl rfl rfl) pav_nil rfl) rfl) rfl rfl rfl rfl) rfl rfl rfl rfl)
      (pssv_cons (psv_if (pt_cmpV (neD' (KK := K) rfl hr.units) ov_ne (pv_call (KK := K) rfl c_count (hr.mono (by decide)) (pav_cons (pv_var rfl rfl rfl) (pav_cons (pv_as (plv_lst pav_nil)) (pav_cons (pv_var rfl rfl rfl) (pav_cons (pv_var rfl rfl rfl) pav_nil rfl) rfl) rfl) rfl) rfl rfl rfl rfl) (pv_op op_sub ov_sub (pv_call (KK := K) rfl c_count_to (hr.mono (by decide)) (pav_cons (pv_var rfl rfl rfl) (pav_cons (pv_var rfl rfl rfl) pav_nil rfl) rfl) rfl rfl rfl rfl) (pv_var rfl rfl rfl)) (nomark _)) (pssv_one (psv_ret pv_bl)) pssv_nil)
      (pssv_cons (psv_for rfl (piv_range1 m_range (pav_cons pv_int pav_nil rfl) rfl rfl) (pgv_name sc_law.nd rfl rfl rfl) (pssv_one (psv_if (pt_cmpV (neD' (KK := K) rfl hr.units) ov_ne (pv_call (KK := K) rfl c_nth_day (hr.mono (by decide)) (pav_cons (pv_var rfl rfl rfl) (pav_cons (pv_as (plv_lst pav_nil)) (pav_cons (pv_var rfl rfl rfl) (pav_cons (pv_var rfl rfl rfl) pav_nil rfl) rfl) rfl) rfl) rfl rfl rfl rfl) (pv_call (KK := K) rfl c_nth (hr.mono (by decide)) (pav_cons (pv_var rfl rfl rfl) (pav_cons (pv_op (op_add.or op_cat) ov_add (pv_var rfl rfl rfl) (pv_var rfl rfl rfl)) pav_nil rfl) rfl) rfl rfl rfl rfl) (nomark _)) (pssv_one (psv_ret pv_bl)) pssv_nil)) PassesOwn.never (fun _ => rfl))
      (pssv_cons (psv_if (pt_cmpV (neD' (KK := K) rfl hr.units) ov_ne (pv_call (KK := K) rfl c_next_day (hr.mono (by decide)) (pav_cons (pv_var rfl rfl rfl) (pav_cons (pv_as (plv_lst pav_nil)) (pav_cons (pv_var rfl rfl rfl) pav_nil rfl) rfl) rfl) rfl rfl rfl rfl) (pv_call (KK := K) rfl c_nth (hr.mono (by decide)) (pav_cons (pv_var rfl rfl rfl) (pav_cons (pv_var rfl rfl rfl) pav_nil rfl) rfl) rfl rfl rfl rfl) (nomark _)) (pssv_one (psv_ret pv_bl)) pssv_nil)
      (pssv_cons (psv_setLc rfl sc_law.nd (sw_true rfl rfl rfl (by decide +kernel)) (piv_range1 m_range (pav_cons (pv_op (op_add.or op_cat) ov_add (pv_var rfl rfl rfl) pv_int) pav_nil rfl) rfl rfl) (blkOk_by (own := [("day", 6)]) (N := ["script", "state", "week", "k", "spot", "rhythm", "day", "first", "last", "ahead", "many", "before_v", "days", "pauses"]) (sc := defScope s_law) (by decide +kernel)) rfl (fun _ _ _ _ _ => (pgv_name sc_law.nd rfl rfl rfl)) (fun _ _ _ _ _ => (ptsv_one (pt_tru (KK := K) rfl (pv_call (KK := K) rfl c_goes (hr.mono (by decide)) (pav_cons (pv_var rfl rfl rfl) (pav_cons (pv_var rfl rfl rfl) pav_nil rfl) rfl) rfl rfl rfl rfl) (fun _ => rfl)))) (fun _ _ _ _ _ => (pv_var rfl rfl rfl)) (fun _ => rfl) rfl rfl)
      (pssv_cons (psv_if (PWV.pt (pwv_and (pt_cmpV op_gt ov_gt (pv_len (KK := K) rfl m_len (pav_cons (pv_var rfl rfl rfl) pav_nil rfl) rfl rfl rfl) pv_int (nomark _)) (pwv_and1 (pt_cmpV (neD' (KK := K) rfl hr.units) ov_ne (pv_call (KK := K) rfl c_last_day (hr.mono (by decide)) (pav_cons (pv_var rfl rfl rfl) (pav_cons (pv_as (plv_lst pav_nil)) (pav_cons (pv_var rfl rfl rfl) pav_nil rfl) rfl) rfl) rfl rfl rfl rfl) (pv_ix (KK := K) rfl (pv_var rfl rfl rfl) (pv_neg pv_int) (fun _ _ => rfl)) (nomark _))))) (pssv_one (psv_ret pv_bl)) pssv_nil)
      (pssv_cons (psv_set sc_law.nd (pv_as (plv_comp rfl sc_law.nd (piv_range1 m_range (pav_cons pv_int pav_nil rfl) rfl rfl) (blkOk_by (own := [("day", 6)]) (N := ["script", "state", "week", "k", "spot", "rhythm", "day", "first", "last", "ahead", "many", "before_v", "days", "pauses"]) (sc := defScope s_law) (by decide +kernel)) rfl (fun _ _ _ _ _ => (pgv_name sc_law.nd rfl rfl rfl)) (fun _ _ _ _ _ => (ptsv_one (pt_tru (KK := K) rfl (pv_ix (KK := K) rfl (pv_var rfl rfl rfl) (pv_op op_mod ov_mod (pv_intOf m_int (pav_cons (pv_var rfl rfl rfl) pav_nil rfl) rfl rfl rfl) pv_int) (fun _ _ => rfl)) (fun _ => rfl)))) (fun _ _ _ _ _ => (pv_var rfl rfl rfl)) (fun _ => rfl))) rfl rfl rfl rfl)
      (pssv_cons (psv_setLc rfl sc_law.nd (sw_true rfl rfl rfl (by decide +kernel)) (piv_range1 m_range (pav_cons pv_int pav_nil rfl) rfl rfl) (blkOk_by (own := [("k", 3)]) (N := ["script", "state", "week", "k", "spot", "rhythm", "day", "first", "last", "ahead", "many", "before_v", "days", "pauses"]) (sc := defScope s_law) (by decide +kernel)) rfl (fun _ _ _ _ _ => (pgv_name sc_law.nd rfl rfl rfl)) (fun _ _ _ _ _ => ptsv_nil) (fun _ _ _ _ _ => (pv_op op_sub ov_sub (pv_op op_sub ov_sub (pv_ix (KK := K) rfl (pv_var rfl rfl rfl) (pv_op (op_add.or op_cat) ov_add (pv_var rfl rfl rfl) pv_int) (fun _ _ => rfl)) (pv_ix (KK := K) rfl (pv_var rfl rfl rfl) (pv_var rfl rfl rfl) (fun _ _ => rfl))) pv_int)) (fun _ => rfl) rfl rfl)
      (pssv_one (psv_ret (pv_cmp (eqD' (KK := K) rfl hr.units) ov_eq (pv_call (KK := K) rfl c_longest_pause (hr.mono (by decide)) (pav_cons (pv_var rfl rfl rfl) pav_nil rfl) rfl rfl rfl rfl) (pv_tup (pav_cons (pv_max (KK := K) rfl rfl m_max (pav_cons (pv_var rfl rfl rfl) pav_nil rfl) rfl rfl rfl) (pav_cons (pv_ix (KK := K) rfl (pv_var rfl rfl rfl) (pv_index (KK := K) rfl (pv_var rfl rfl rfl) (pav_cons (pv_max (KK := K) rfl rfl m_max (pav_cons (pv_var rfl rfl rfl) pav_nil rfl) rfl rfl rfl) pav_nil rfl) rfl rfl rfl rfl rfl) (fun _ _ => rfl)) pav_nil rfl) rfl)) (nomark _)))))))))))))))))))⟩) run
theorem all_mk {l : PySem.W.OpenLaw} {w : World} {K : PySem.W.Frag} {h : Heap} {mg : Str → Option Value} {fa f0 f1 f2 f3 f4 f5 f6 f7 f8 f9 f10 f11 f12 f13 : Addr} (X : K.In h) (G : h.Ns mainGlobals mg) (hfa : mg "law" = some (.ref fa))
    {od0 an0 od1 an1 od2 an2 od3 an3 od4 an4 od5 an5 od6 an6 od7 an7 od8 an8 od9 an9 od10 an10 od11 an11 od12 an12 od13 an13 : Option Addr} {sl0 sl1 sl2 sl3 sl4 sl5 sl6 sl7 sl8 sl9 sl10 sl11 sl12 sl13 : Array (Option Value)} {oc0 kV0 dc0 pm0 cd0 ct0 oc1 kV1 dc1 pm1 cd1 ct1 oc2 kV2 dc2 pm2 cd2 ct2 oc3 kV3 dc3 pm3 cd3 ct3 oc4 kV4 dc4 pm4 cd4 ct4 oc5 kV5 dc5 pm5 cd5 ct5 oc6 kV6 dc6 pm6 cd6 ct6 oc7 kV7 dc7 pm7 cd7 ct7 oc8 kV8 dc8 pm8 cd8 ct8 oc9 kV9 dc9 pm9 cd9 ct9 oc10 kV10 dc10 pm10 cd10 ct10 oc11 kV11 dc11 pm11 cd11 ct11 oc12 kV12 dc12 pm12 cd12 ct12 oc13 kV13 dc13 pm13 cd13 ct13 : Value}
    (a0 : PySem.W.nsIn K mainGlobals "works_on" = some (some (.ref f0))) (l0 : K.lookup f0 = some ⟨oc0, od0, .func (PySem.W.fnOf "works_on" "works_on" (defArgs s_works_on) (defBody s_works_on) (defScope s_works_on) .none kV0 dc0 pm0 an0 cd0 ct0), sl0⟩) (c0 : PySem.W.codeIn K cd0 "works_on" = true) (k0 : PySem.W.keepIn K (.ref f0) = true)
    (a1 : PySem.W.nsIn K mainGlobals "before" = some (some (.ref f1))) (l1 : K.lookup f1 = some ⟨oc1, od1, .func (PySem.W.fnOf "before" "before" (defArgs s_before) (defBody s_before) (defScope s_before) .none kV1 dc1 pm1 an1 cd1 ct1), sl1⟩) (c1 : PySem.W.codeIn K cd1 "before" = true) (k1 : PySem.W.keepIn K (.ref f1) = true)
    (a2 : PySem.W.nsIn K mainGlobals "count" = some (some (.ref f2))) (l2 : K.lookup f2 = some ⟨oc2, od2, .func (PySem.W.fnOf "count" "count" (defArgs s_count) (defBody s_count) (defScope s_count) .none kV2 dc2 pm2 an2 cd2 ct2), sl2⟩) (c2 : PySem.W.codeIn K cd2 "count" = true) (k2 : PySem.W.keepIn K (.ref f2) = true)
    (a3 : PySem.W.nsIn K mainGlobals "nth_day" = some (some (.ref f3))) (l3 : K.lookup f3 = some ⟨oc3, od3, .func (PySem.W.fnOf "nth_day" "nth_day" (defArgs s_nth_day) (defBody s_nth_day) (defScope s_nth_day) .none kV3 dc3 pm3 an3 cd3 ct3), sl3⟩) (c3 : PySem.W.codeIn K cd3 "nth_day" = true) (k3 : PySem.W.keepIn K (.ref f3) = true)
    (a4 : PySem.W.nsIn K mainGlobals "next_day" = some (some (.ref f4))) (l4 : K.lookup f4 = some ⟨oc4, od4, .func (PySem.W.fnOf "next_day" "next_day" (defArgs s_next_day) (defBody s_next_day) (defScope s_next_day) .none kV4 dc4 pm4 an4 cd4 ct4), sl4⟩) (c4 : PySem.W.codeIn K cd4 "next_day" = true) (k4 : PySem.W.keepIn K (.ref f4) = true)
    (a5 : PySem.W.nsIn K mainGlobals "last_day" = some (some (.ref f5))) (l5 : K.lookup f5 = some ⟨oc5, od5, .func (PySem.W.fnOf "last_day" "last_day" (defArgs s_last_day) (defBody s_last_day) (defScope s_last_day) .none kV5 dc5 pm5 an5 cd5 ct5), sl5⟩) (c5 : PySem.W.codeIn K cd5 "last_day" = true) (k5 : PySem.W.keepIn K (.ref f5) = true)
    (a6 : PySem.W.nsIn K mainGlobals "goes" = some (some (.ref f6))) (l6 : K.lookup f6 = some ⟨oc6, od6, .func (PySem.W.fnOf "goes" "goes" (defArgs s_goes) (defBody s_goes) (defScope s_goes) .none kV6 dc6 pm6 an6 cd6 ct6), sl6⟩) (c6 : PySem.W.codeIn K cd6 "goes" = true) (k6 : PySem.W.keepIn K (.ref f6) = true)
    (a7 : PySem.W.nsIn K mainGlobals "least" = some (some (.ref f7))) (l7 : K.lookup f7 = some ⟨oc7, od7, .func (PySem.W.fnOf "least" "least" (defArgs s_least) (defBody s_least) (defScope s_least) .none kV7 dc7 pm7 an7 cd7 ct7), sl7⟩) (c7 : PySem.W.codeIn K cd7 "least" = true) (k7 : PySem.W.keepIn K (.ref f7) = true)
    (a8 : PySem.W.nsIn K mainGlobals "count_to" = some (some (.ref f8))) (l8 : K.lookup f8 = some ⟨oc8, od8, .func (PySem.W.fnOf "count_to" "count_to" (defArgs s_count_to) (defBody s_count_to) (defScope s_count_to) .none kV8 dc8 pm8 an8 cd8 ct8), sl8⟩) (c8 : PySem.W.codeIn K cd8 "count_to" = true) (k8 : PySem.W.keepIn K (.ref f8) = true)
    (a9 : PySem.W.nsIn K mainGlobals "nth" = some (some (.ref f9))) (l9 : K.lookup f9 = some ⟨oc9, od9, .func (PySem.W.fnOf "nth" "nth" (defArgs s_nth) (defBody s_nth) (defScope s_nth) .none kV9 dc9 pm9 an9 cd9 ct9), sl9⟩) (c9 : PySem.W.codeIn K cd9 "nth" = true) (k9 : PySem.W.keepIn K (.ref f9) = true)
    (a10 : PySem.W.nsIn K mainGlobals "longest_pause" = some (some (.ref f10))) (l10 : K.lookup f10 = some ⟨oc10, od10, .func (PySem.W.fnOf "longest_pause" "longest_pause" (defArgs s_longest_pause) (defBody s_longest_pause) (defScope s_longest_pause) .none kV10 dc10 pm10 an10 cd10 ct10), sl10⟩) (c10 : PySem.W.codeIn K cd10 "longest_pause" = true) (k10 : PySem.W.keepIn K (.ref f10) = true)
    (a11 : PySem.W.nsIn K mainGlobals "_law_state" = some (some (.ref f11))) (l11 : K.lookup f11 = some ⟨oc11, od11, .func (PySem.W.fnOf "_law_state" "_law_state" (defArgs s__law_state) (defBody s__law_state) (defScope s__law_state) .none kV11 dc11 pm11 an11 cd11 ct11), sl11⟩) (c11 : PySem.W.codeIn K cd11 "_law_state" = true) (k11 : PySem.W.keepIn K (.ref f11) = true)
    (a12 : PySem.W.nsIn K mainGlobals "_law_take" = some (some (.ref f12))) (l12 : K.lookup f12 = some ⟨oc12, od12, .func (PySem.W.fnOf "_law_take" "_law_take" (defArgs s__law_take) (defBody s__law_take) (defScope s__law_take) .none kV12 dc12 pm12 an12 cd12 ct12), sl12⟩) (c12 : PySem.W.codeIn K cd12 "_law_take" = true) (k12 : PySem.W.keepIn K (.ref f12) = true)
    (a13 : PySem.W.nsIn K mainGlobals "law" = some (some (.ref f13))) (l13 : K.lookup f13 = some ⟨oc13, od13, .func (PySem.W.fnOf "law" "law" (defArgs s_law) (defBody s_law) (defScope s_law) .none kV13 dc13 pm13 an13 cd13 ct13), sl13⟩) (c13 : PySem.W.codeIn K cd13 "law" = true) (k13 : PySem.W.keepIn K (.ref f13) = true)
    (z_abs : PySem.W.nsIn K mainGlobals "abs" = some none)
    (z_any : PySem.W.nsIn K mainGlobals "any" = some none)
    (z_int : PySem.W.nsIn K mainGlobals "int" = some none)
    (z_len : PySem.W.nsIn K mainGlobals "len" = some none)
    (z_list : PySem.W.nsIn K mainGlobals "list" = some none)
    (z_max : PySem.W.nsIn K mainGlobals "max" = some none)
    (z_range : PySem.W.nsIn K mainGlobals "range" = some none)
    (z_sorted : PySem.W.nsIn K mainGlobals "sorted" = some none)
    (z_sum : PySem.W.nsIn K mainGlobals "sum" = some none)
    (n : Nat) (run : ∀ ns : List Int, ns.length ≤ 63 → ∃ env' w', lawB n ((Slot.fz ns :: List.replicate 13 Slot.no).set 1 (.st 1)) ⟨0, stateCells ns⟩ = some ((.rt (.bool true), env'), w')) :
    ∃ fd : FuncData, (∀ (s : Shared) (v : Value), BindsTo s fd ⟨[v], []⟩ [("script", v)]) ∧ ∀ base : Heap, K.In base → base.Ns mainGlobals mg → FnOk l.prog w K mg base CX0 5 fa fd ["script"] (spLaw K) := by
  have e := hfa.symm.trans (PySem.W.mg_of X G a13)
  cases e
  have m_abs := PySem.W.mg_none_of X G z_abs
  have m_any := PySem.W.mg_none_of X G z_any
  have m_int := PySem.W.mg_none_of X G z_int
  have m_len := PySem.W.mg_none_of X G z_len
  have m_list := PySem.W.mg_none_of X G z_list
  have m_max := PySem.W.mg_none_of X G z_max
  have m_range := PySem.W.mg_none_of X G z_range
  have m_sorted := PySem.W.mg_none_of X G z_sorted
  have m_sum := PySem.W.mg_none_of X G z_sum
  have F0 := fun_mk (st := s_works_on) l0 c0 k0
  have F1 := fun_mk (st := s_before) l1 c1 k1
  have F2 := fun_mk (st := s_count) l2 c2 k2
  have F3 := fun_mk (st := s_nth_day) l3 c3 k3
  have F4 := fun_mk (st := s_next_day) l4 c4 k4
  have F5 := fun_mk (st := s_last_day) l5 c5 k5
  have F6 := fun_mk (st := s_goes) l6 c6 k6
  have F7 := fun_mk (st := s_least) l7 c7 k7
  have F8 := fun_mk (st := s_count_to) l8 c8 k8
  have F9 := fun_mk (st := s_nth) l9 c9 k9
  have F10 := fun_mk (st := s_longest_pause) l10 c10 k10
  have F11 := fun_mk (st := s__law_state) l11 c11 k11
  have F12 := fun_mk (st := s__law_take) l12 c12 k12
  have F13 := fun_mk (st := s_law) l13 c13 k13
  refine ⟨PySem.W.fnOf "law" "law" (defArgs s_law) (defBody s_law) (defScope s_law) .none kV13 dc13 pm13 an13 cd13 ct13, fun s v => .of_eq rfl, fun base _ _ => ?_⟩
  have c_works_on : Cal l.prog w K mg base "works_on" 1 (works_onF) := cal_mk (fn_works_on F0) (PySem.W.mg_of X G a0) k0 (F0.binds (ps := ["week", "feasts", "day"]) fun _ _ _ _ _ _ us hl => match us, hl with | [_, _, _], _ => rfl)
  have c_before : Cal l.prog w K mg base "before" 1 (beforeF) := cal_mk (fn_before F1 m_sum) (PySem.W.mg_of X G a1) k1 (F1.binds (ps := ["week", "day"]) fun _ _ _ _ _ _ us hl => match us, hl with | [_, _], _ => rfl)
  have c_count : Cal l.prog w K mg base "count" 2 (countF) := cal_mk (fn_count F2 m_len c_before) (PySem.W.mg_of X G a2) k2 (F2.binds (ps := ["week", "feasts", "first", "last"]) fun _ _ _ _ _ _ us hl => match us, hl with | [_, _, _, _], _ => rfl)
  have c_nth_day : Cal l.prog w K mg base "nth_day" 3 (nth_dayF n) := cal_mk (fn_nth_day n F3 m_any c_count) (PySem.W.mg_of X G a3) k3 (F3.binds (ps := ["week", "feasts", "day", "many"]) fun _ _ _ _ _ _ us hl => match us, hl with | [_, _, _, _], _ => rfl)
  have c_next_day : Cal l.prog w K mg base "next_day" 4 (next_dayF n) := cal_mk (fn_next_day n F4 c_nth_day) (PySem.W.mg_of X G a4) k4 (F4.binds (ps := ["week", "feasts", "day"]) fun _ _ _ _ _ _ us hl => match us, hl with | [_, _, _], _ => rfl)
  have c_last_day : Cal l.prog w K mg base "last_day" 2 (last_dayF n) := cal_mk (fn_last_day n F5 m_any c_works_on) (PySem.W.mg_of X G a5) k5 (F5.binds (ps := ["week", "feasts", "day"]) fun _ _ _ _ _ _ us hl => match us, hl with | [_, _, _], _ => rfl)
  have c_goes : Cal l.prog w K mg base "goes" 1 (goesF) := cal_mk (fn_goes F6) (PySem.W.mg_of X G a6) k6 (F6.binds (ps := ["rhythm", "minute"]) fun _ _ _ _ _ _ us hl => match us, hl with | [_, _], _ => rfl)
  have c_least : Cal l.prog w K mg base "least" 1 (leastF n) := cal_mk (fn_least n F7 m_list m_range) (PySem.W.mg_of X G a7) k7 (F7.binds (ps := ["rhythm"]) fun _ _ _ _ _ _ us hl => match us, hl with | [_], _ => rfl)
  have c_count_to : Cal l.prog w K mg base "count_to" 1 (count_toF) := cal_mk (fn_count_to F8 m_len) (PySem.W.mg_of X G a8) k8 (F8.binds (ps := ["rhythm", "minute"]) fun _ _ _ _ _ _ us hl => match us, hl with | [_, _], _ => rfl)
  have c_nth : Cal l.prog w K mg base "nth" 1 (nthF) := cal_mk (fn_nth F9 m_len m_sorted) (PySem.W.mg_of X G a9) k9 (F9.binds (ps := ["rhythm", "number"]) fun _ _ _ _ _ _ us hl => match us, hl with | [_, _], _ => rfl)
  have c_longest_pause : Cal l.prog w K mg base "longest_pause" 2 (longest_pauseF n) := cal_mk (fn_longest_pause n F10 m_len m_range c_least c_nth) (PySem.W.mg_of X G a10) k10 (F10.binds (ps := ["rhythm"]) fun _ _ _ _ _ _ us hl => match us, hl with | [_], _ => rfl)
  have c_state : CalS l.prog w K mg base "_law_state" 1 := ⟨_, _, fn_state F11 m_abs m_len, PySem.W.mg_of X G a11, k11, (F11.binds (ps := ["script"]) fun _ _ _ _ _ _ us hl => match us, hl with | [_], _ => rfl)⟩
  have c__law_take : CalT l.prog w K mg base "_law_take" 1 := ⟨_, _, fn_take F12 m_len m_int, PySem.W.mg_of X G a12, k12, (F12.binds (ps := ["state", "most"]) fun _ _ _ _ _ _ us hl => match us, hl with | [_, _], _ => rfl)⟩
  exact fn_law n F13 c_state m_int m_len m_max m_range c__law_take c_count c_count_to c_goes c_last_day c_least c_longest_pause c_next_day c_nth c_nth_day c_works_on run
end
end VE


open PySem PySem.W PyProof.Rows
set_option maxHeartbeats 0 in
theorem PySem.Challenge.cw_jobsagain_k28_weeks_as_rhythms_holds : PySem.Challenge.rw_jobsagain_k28_weeks_as_rhythms.Holds := by
  w_on; o_law; k_head; (case hw => w_witness2)
  k_fill
  refine L2.walk_of (l := PySem.Challenge.rw_jobsagain_k28_weeks_as_rhythms) (n := 63) (k := 5) (x := "script") (CX := fun _ => L2.CX0) (sp := fun w => VE.spLaw _) rfl (by decide) rfl ⟨rfl, by decide, by decide⟩ (fun w h Y => PySem.W.kIn_of Y) ?F (fun _ _ a ns hl _ hS => ⟨a, ns, rfl, hS, hl, fun _ => rfl⟩) (fun _ _ _ _ _ h => h)
  case F =>
    intro w mg fa h KX G hmg
    refine' VE.all_mk KX G hmg ?a0 ?l0 ?c0 ?k0 ?a1 ?l1 ?c1 ?k1 ?a2 ?l2 ?c2 ?k2 ?a3 ?l3 ?c3 ?k3 ?a4 ?l4 ?c4 ?k4 ?a5 ?l5 ?c5 ?k5 ?a6 ?l6 ?c6 ?k6 ?a7 ?l7 ?c7 ?k7 ?a8 ?l8 ?c8 ?k8 ?a9 ?l9 ?c9 ?k9 ?a10 ?l10 ?c10 ?k10 ?a11 ?l11 ?c11 ?k11 ?a12 ?l12 ?c12 ?k12 ?a13 ?l13 ?c13 ?k13 ?z_abs ?z_any ?z_int ?z_len ?z_list ?z_max ?z_range ?z_sorted ?z_sum 300 VE.law_run
    (case a0 => k_is); (case l0 => k_is); (case c0 => k_is); (case k0 => k_is); (case a1 => k_is); (case l1 => k_is); (case c1 => k_is); (case k1 => k_is); (case a2 => k_is); (case l2 => k_is); (case c2 => k_is); (case k2 => k_is); (case a3 => k_is); (case l3 => k_is); (case c3 => k_is); (case k3 => k_is); (case a4 => k_is); (case l4 => k_is); (case c4 => k_is); (case k4 => k_is); (case a5 => k_is); (case l5 => k_is); (case c5 => k_is); (case k5 => k_is); (case a6 => k_is); (case l6 => k_is); (case c6 => k_is); (case k6 => k_is); (case a7 => k_is); (case l7 => k_is); (case c7 => k_is); (case k7 => k_is); (case a8 => k_is); (case l8 => k_is); (case c8 => k_is); (case k8 => k_is); (case a9 => k_is); (case l9 => k_is); (case c9 => k_is); (case k9 => k_is); (case a10 => k_is); (case l10 => k_is); (case c10 => k_is); (case k10 => k_is); (case a11 => k_is); (case l11 => k_is); (case c11 => k_is); (case k11 => k_is); (case a12 => k_is); (case l12 => k_is); (case c12 => k_is); (case k12 => k_is); (case a13 => k_is); (case l13 => k_is); (case c13 => k_is); (case k13 => k_is); (case z_abs => k_is); (case z_any => k_is); (case z_int => k_is); (case z_len => k_is); (case z_list => k_is); (case z_max => k_is); (case z_range => k_is); (case z_sorted => k_is); (case z_sum => k_is)

