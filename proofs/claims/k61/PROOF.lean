import PyProof.Rows.All
import PySem.Str
import PyProof.ReprReads
import PyProof.EqLayable
import HandS.ForMost
import HandS.Exc
import HandS.IsInst
import HandS.TupAny
import HandS.TupMul
import HandS.Style
import HandS.Deep
import HandS.Zip
import PyProof.ReprRoads
import KE.GoesMore
import HandS.Ends
import HandS.HeadEnd
import HandS.Defaults
import HandS.Head0
import HandS.Head1
import HandS.Head2
import HandS.HeadHook1
import HandS.HeadHook2
import PyProof.Rows.RegFStrParts
import PyProof.Rows.ReprShort
import KE.KStateDown
import PySem.Challenge.RW_knownstops_k61_any_values_as_lines
-- MiA
set_option linter.all false
/-! Mi, part A: a small language for the law texts, its values and its evaluator (plain Lean; nothing of the machine). -/
namespace Mi
open PySem (Str PyData)

/-- a value: scalars and tuples are trees, what can change is told by the number of its cell -/
inductive D where
  | non | bl (b : Bool) | int (i : Int) | str (x : Str) | tup (xs : List D) | ref (n : Nat)
  deriving Inhabited

mutual
def D.beq : D → D → Bool
  | .non, .non => true
  | .bl a, .bl b => a == b
  | .int a, .int b => decide (a = b)
  | .str a, .str b => decide (a = b)
  | .tup a, .tup b => D.beqs a b
  | .ref a, .ref b => a == b
  | _, _ => false
def D.beqs : List D → List D → Bool
  | [], [] => true
  | a :: as, b :: bs => D.beq a b && D.beqs as bs
  | _, _ => false
end
mutual
theorem D.beq_iff : ∀ (a b : D), D.beq a b = true ↔ a = b
  | .non, b => by cases b <;> simp [D.beq]
  | .bl x, b => by cases b <;> simp [D.beq]
  | .int x, b => by cases b <;> simp [D.beq]
  | .str x, b => by cases b <;> simp [D.beq]
  | .ref x, b => by cases b <;> simp [D.beq]
  | .tup x, b => by
    cases b with
    | tup y => simp only [D.beq, D.tup.injEq]; exact D.beqs_iff x y
    | _ => simp [D.beq]
theorem D.beqs_iff : ∀ (a b : List D), D.beqs a b = true ↔ a = b
  | [], b => by cases b <;> simp [D.beqs]
  | a :: as, b => by
    cases b with
    | nil => simp [D.beqs]
    | cons b bs => simp only [D.beqs, Bool.and_eq_true, List.cons.injEq, D.beq_iff a b, D.beqs_iff as bs]
end
instance : DecidableEq D := fun a b => if h : D.beq a b = true then isTrue ((D.beq_iff a b).mp h) else isFalse fun e => h ((D.beq_iff a b).mpr e)

/-- the kinds of keys that a dict has: ints and texts; flat tuples of these; nested tuples -/
inductive DK where
  | k | t | n
  deriving DecidableEq, Inhabited
/-- what stands in a cell -/
inductive Cell where
  | lst (xs : List D)
  | ro (xs : List D)
  | dic (k : DK) (kvs : List (D × D))
  | set (k : DK) (xs : List D)
  | ins (c : Str) (fs : List (Str × D))
  deriving DecidableEq, Inhabited
abbrev Sto := List Cell
/-- an exception: its class, its fields -/
structure Exc where
  cls : Str
  fs : List (Str × D)
  deriving DecidableEq, Inhabited
inductive Res (α : Type) where
  | ok (a : α) (S : Sto)
  | exc (x : Exc) (S : Sto)
  | bad
abbrev M (α : Type) := Sto → Res α
@[inline] def M.pure {α : Type} (a : α) : M α := fun S => .ok a S
@[inline] def M.bind {α β : Type} (m : M α) (f : α → M β) : M β := fun S => match m S with
  | .ok a S' => f a S'
  | .exc x S' => .exc x S'
  | .bad => .bad
instance : Monad M where
  pure := M.pure
  bind := M.bind
theorem M.assoc {α β γ : Type} (m : M α) (f : α → M β) (g : β → M γ) : ((m >>= f) >>= g) = (m >>= fun a => f a >>= g) := by
  funext S
  show M.bind (M.bind m f) g S = M.bind m (fun a => M.bind (f a) g) S
  unfold M.bind
  cases m S <;> rfl
theorem M.left {α β : Type} (a : α) (f : α → M β) : ((Pure.pure a : M α) >>= f) = f a := rfl
theorem M.right {α : Type} (m : M α) : (m >>= fun a => (Pure.pure a : M α)) = m := by
  funext S
  show M.bind m (fun a => M.pure a) S = m S
  unfold M.bind M.pure
  cases m S <;> rfl
def bad {α : Type} : M α := fun _ => .bad
def orBad {α : Type} : Option α → M α
  | some a => pure a
  | none => bad

/-- a value, or a list that stands nowhere yet -/
inductive V2 where
  | d (x : D) | l (xs : List D)
  deriving Inhabited

/-! ### the language -/
inductive Bop where
  | add | sub | mul | fdiv | mod | pow
  deriving DecidableEq, Inhabited
inductive Cop where
  | eq | ne | lt | le | gt | ge | is | isn | mem | nmem
  deriving DecidableEq, Inhabited
/-- built-in functions, called by name -/
inductive Blt where
  | len | abs | min | max | sum | all | any | sorted | tuple | list | set | dict | int | repr | divmod
  deriving DecidableEq, Inhabited
inductive Mth where
  | append | extend | pop | get | setdefault | update | index | count
  deriving DecidableEq, Inhabited
inductive Ty where
  | int | bool | str | tuple | list
  deriving DecidableEq, Inhabited
mutual
inductive E where
  | non | bl (b : Bool) | int (i : Int) | str (x : Str)
  | var (i : Nat) | glb (x : Str)
  | tup (es : Es) | lst (es : Es)
  | bin (o : Bop) (a b : E) | neg (a : E) | not (a : E) | and (es : Es) | or (es : Es)
  | cmp (o : Cop) (a b : E) | cmp2 (o p : Cop) (a b c : E) | ite (c a b : E)
  | idx (a i : E) | slc (a : E) (lo hi : Oe) | rev (a : E)
  | call (f : Str) (es : Es) (ks : List Str) (kes : Es)
  | blt (f : Blt) (es : Es)
  | mth (m : Mth) (a : E) (es : Es)
  | isi (a : E) (ts : List Ty)
  | lc (e : E) (t : T) (it : It) (c : Oe) (own : List Nat)
  | lc2 (e : E) (t : T) (it : It) (c : Oe) (t2 : T) (it2 : It) (c2 : Oe) (own own2 : List Nat)
  | dic (k : DK) (kvs : Es)
inductive Es where
  | nil | cons (e : E) (es : Es)
inductive Oe where
  | none | some (e : E)
inductive It where
  | val (e : E) | rng1 (a : E) | rng2 (a b : E) | enum (e : E) | zip (a b : E)
inductive T where
  | name (i : Nat) | tup (ts : Ts) | sub (a i : E)
inductive Ts where
  | nil | cons (t : T) (ts : Ts)
end
mutual
inductive Sm where
  | asg (t : T) (e : E) | aug (i : Nat) (o : Bop) (e : E) | exp (e : E) | ret (e : E) | retn
  | ife (c : E) (a b : Ss) | forr (t : T) (it : It) (b : Ss) | whl (c : E) (b : Ss)
  | brk | cnt | pss | rais (c : Str) (es : Es)
inductive Ss where
  | nil | cons (s : Sm) (ss : Ss)
end
def Ts.len : Ts → Nat
  | .nil => 0
  | .cons _ ts => ts.len + 1
/-- a def: its parameters, how many names it has, its body -/
structure Fn where
  ps : List Str
  nn : Nat
  body : Ss

/-! ### values -/
abbrev Rho := List (Option D)
def Rho.get (ρ : Rho) (i : Nat) : M D := fun S => match ρ[i]? with
  | some (some d) => .ok d S
  | _ => .bad
def alloc (c : Cell) : M D := fun S => .ok (.ref S.length) (S ++ [c])
def toD : V2 → M D
  | .d x => pure x
  | .l xs => alloc (.lst xs)
def Cell.lst? : Cell → Option (List D)
  | .lst xs | .ro xs => some xs
  | _ => none
def listAt (n : Nat) : M (List D) := fun S => match S[n]? with
  | some c => (match c.lst? with | some xs => .ok xs S | none => .bad)
  | none => .bad
/-- a list -/
def toL : V2 → M (List D)
  | .l xs => pure xs
  | .d (.ref n) => listAt n
  | _ => bad
/-- a list's cell, to be written -/
def lstAt (n : Nat) : M (List D) := fun S => match S[n]? with
  | some (.lst xs) => .ok xs S
  | _ => .bad
def toLm : V2 → M (List D)
  | .l xs => pure xs
  | .d (.ref n) => lstAt n
  | _ => bad
/-- a list or a tuple -/
def toSeq : V2 → M (List D)
  | .d (.tup xs) => pure xs
  | v => toL v
/-- the longest list -/
def most : Nat := 16777216
def chk (b : Bool) : M Unit := fun S => if b then .ok () S else .bad

/-- as data: of bounded depth -/
def allPy (f : D → Option PyData) : List D → Option (List PyData)
  | [] => some []
  | x :: xs => match f x, allPy f xs with
    | some p, some ps => some (p :: ps)
    | _, _ => none
def toPy (S : Sto) : Nat → D → Option PyData
  | 0, _ => none
  | _ + 1, .non => some .none
  | _ + 1, .bl b => some (.bool b)
  | _ + 1, .int i => some (.int i)
  | _ + 1, .str x => some (.str x)
  | n + 1, .tup xs => (allPy (toPy S n) xs).map .tuple
  | n + 1, .ref a => match S[a]? with
    | some (.lst xs) => (allPy (toPy S n) xs).map .list
    | some (.ro xs) => (allPy (toPy S n) xs).map .list
    | some (.dic _ []) => some (.dict [])
    | _ => none
/-- how deep data may be -/
def deep : Nat := 40
def v2Py (v : V2) : M PyData := fun S => match v with
  | .d x => (match toPy S deep x with | some p => .ok p S | none => .bad)
  | .l xs => (match allPy (toPy S deep) xs with | some ps => .ok (.list ps) S | none => .bad)

/-! ### operations -/
def scal : D → D → Bool
  | .non, .non => true | .non, .int _ => true | .int _, .non => true | .non, .bl _ => true | .bl _, .non => true | .non, .str _ => true | .str _, .non => true
  | .int _, .int _ => true | .bl _, .bl _ => true | .str _, .str _ => true
  | .int _, .str _ => true | .str _, .int _ => true | .bl _, .str _ => true | .str _, .bl _ => true
  | _, _ => false
def okPy (p : PyData) : Bool := PySem.SeqAt.shaped p
/-- == -/
def eqData (a b : V2) : M Bool := do
  let p ← v2Py a
  let q ← v2Py b
  chk (okPy p && okPy q)
  pure (PyData.eqv p q)
def eqV (a b : V2) : M Bool := match a, b with
  | .d x, .d y => if scal x y then pure (decide (x = y)) else eqData (.d x) (.d y)
  | a, b => eqData a b
/-- x in a list or a tuple -/
def memV (x : V2) (ys : List D) : M Bool := do
  let p ← v2Py x
  let q ← v2Py (.l ys)
  chk (okPy p && okPy q)
  match q with
  | .list qs => pure (qs.any fun z => PyData.eqv z p)
  | _ => bad
def small (i : Int) : Bool := decide (-(2 ^ 64) < i ∧ i < 2 ^ 64)
def binV (o : Bop) (a b : V2) : M V2 := match o, a, b with
  | .add, .d (.int i), .d (.int j) => pure (.d (.int (i + j)))
  | .add, .d (.str x), .d (.str y) => do chk (decide (x.length + y.length ≤ most)); pure (.d (.str (x ++ y)))
  | .add, .d (.tup xs), .d (.tup ys) => do chk (decide (xs.length + ys.length ≤ most)); pure (.d (.tup (xs ++ ys)))
  | .add, a, b => do
    let xs ← toLm a
    let ys ← toLm b
    chk (decide (xs.length + ys.length ≤ most))
    pure (.l (xs ++ ys))
  | .sub, .d (.int i), .d (.int j) => pure (.d (.int (i - j)))
  | .mul, .d (.int i), .d (.int j) => do chk (small i || small j); pure (.d (.int (i * j)))
  | .mul, .d (.tup xs), .d (.int k) => do chk (decide (xs.length ≤ 1000 ∧ -1000 ≤ k ∧ k ≤ 1000)); pure (.d (.tup (List.replicate k.toNat xs).flatten))
  | .mul, a, .d (.int k) => do
    let xs ← toLm a
    chk (decide (-1000 ≤ k ∧ k ≤ 1000000 ∧ xs.length * k.toNat ≤ most))
    pure (.l (List.replicate k.toNat xs).flatten)
  | .fdiv, .d (.int i), .d (.int j) => do chk (decide (0 < j ∧ j < 1073741824)); pure (.d (.int (i / j)))
  | .mod, .d (.int i), .d (.int j) => do chk (decide (0 < j)); pure (.d (.int (i % j)))
  | .pow, .d (.int i), .d (.int j) => do chk (decide (0 ≤ j ∧ j ≤ 1000000 ∧ i.natAbs < 2 ^ 64)); pure (.d (.int (i ^ j.toNat)))
  | _, _, _ => bad
/-! dicts -/
def plainK : D → Bool
  | .int _ | .str _ => true
  | _ => false
mutual
def nestK : D → Bool
  | .non | .int _ | .str _ => true
  | .tup xs => nestKs xs
  | _ => false
def nestKs : List D → Bool
  | [] => true
  | x :: xs => nestK x && nestKs xs
end
/-- a key of such a dict -/
def keyOk : DK → D → Bool
  | .k, d => plainK d
  | .t, .tup xs => xs.all plainK
  | .n, .tup xs => nestKs xs
  | _, _ => false
def dget : List (D × D) → D → Option D
  | [], _ => none
  | (a, v) :: r, k => if a = k then some v else dget r k
def dput (kvs : List (D × D)) (k v : D) : List (D × D) :=
  if kvs.any (fun p => decide (p.1 = k)) then kvs.map (fun p => if p.1 = k then (p.1, v) else p) else kvs ++ [(k, v)]
/-- the dict at a place -/
def dicAt (n : Nat) : M (DK × List (D × D)) := fun S => match S[n]? with
  | some (.dic k kvs) => .ok (k, kvs) S
  | _ => .bad
def isDic (n : Nat) : M Bool := fun S => match S[n]? with
  | some (.dic _ _) => .ok true S
  | _ => .ok false S
def cmpI (o : Cop) (i j : Int) : Option Bool := match o with
  | .lt => some (decide (i < j))
  | .le => some (decide (i ≤ j))
  | .gt => some (decide (j < i))
  | .ge => some (decide (j ≤ i))
  | _ => none
/-- x in a list, a tuple, a dict -/
def inSeq (a b : V2) : M Bool := do let ys ← toSeq b; memV a ys
def inDic (x : D) (n : Nat) : M Bool := do
  let p ← dicAt n
  chk (keyOk p.1 x)
  pure (dget p.2 x).isSome
def inV (a b : V2) : M Bool := match a, b with
  | .d x, .d (.ref n) => do
    let c ← isDic n
    if c then inDic x n else inSeq (.d x) (.d (.ref n))
  | a, b => inSeq a b
def cmpInt (o : Cop) (a b : V2) : M Bool := match a, b with
  | .d (.int i), .d (.int j) => orBad (cmpI o i j)
  | _, _ => bad
def cmpV (o : Cop) (a b : V2) : M Bool := match o with
  | .eq => eqV a b
  | .ne => do let r ← eqV a b; pure (!r)
  | .is => (match a, b with
    | .d x, .d .non => pure (decide (x = .non))
    | .d (.bl x), .d (.bl y) => pure (decide (x = y))
    | _, _ => bad)
  | .isn => (match a, b with
    | .d x, .d .non => pure (!decide (x = .non))
    | .d (.bl x), .d (.bl y) => pure (!decide (x = y))
    | _, _ => bad)
  | .mem => inV a b
  | .nmem => do let r ← inV a b; pure (!r)
  | .lt => cmpInt .lt a b
  | .le => cmpInt .le a b
  | .gt => cmpInt .gt a b
  | .ge => cmpInt .ge a b
def ixAt {α : Type} (xs : List α) (i : Int) : Option α :=
  if 0 ≤ i then (if i < xs.length then xs[i.toNat]? else none) else if -(xs.length : Int) ≤ i then xs[(i + xs.length).toNat]? else none
def idxSeq (a i : V2) : M V2 := match i with
  | .d (.int k) => do
    let xs ← toSeq a
    let x ← orBad (ixAt xs k)
    pure (.d x)
  | _ => bad
def idxDic (n : Nat) (x : D) : M V2 := do
  let p ← dicAt n
  chk (keyOk p.1 x)
  let v ← orBad (dget p.2 x)
  pure (.d v)
def idxV (a i : V2) : M V2 := match a, i with
  | .d (.ref n), .d x => do
    let c ← isDic n
    if c then idxDic n x else idxSeq (.d (.ref n)) (.d x)
  | a, i => idxSeq a i
def sIx (n d : Nat) : Option Int → Nat
  | none => d
  | some v => if v < 0 then (v + (n : Int)).toNat else min v.toNat n
def cut {α : Type} (xs : List α) (lo hi : Option Int) : List α := (xs.drop (sIx xs.length 0 lo)).take (sIx xs.length xs.length hi - sIx xs.length 0 lo)
def slcV (a : V2) (lo hi : Option Int) : M V2 := match a with
  | .d (.tup xs) => pure (.d (.tup (cut xs lo hi)))
  | a => do let xs ← toL a; pure (.l (cut xs lo hi))
def revV (a : V2) : M V2 := match a with
  | .d (.tup xs) => pure (.d (.tup xs.reverse))
  | a => do let xs ← toL a; pure (.l xs.reverse)
def bools : List D → Option (List Bool)
  | [] => some []
  | .bl b :: r => (bools r).map (b :: ·)
  | _ :: _ => none
def intsD : List D → Option (List Int)
  | [] => some []
  | .int i :: r => (intsD r).map (i :: ·)
  | _ :: _ => none
def isTy (S : Sto) : D → Ty → Option Bool
  | .non, _ => some false
  | .bl _, t => some (t == .bool || t == .int)
  | .int _, t => some (t == .int)
  | .str _, t => some (t == .str)
  | .tup _, t => some (t == .tuple)
  | .ref n, t => match S[n]? with
    | some (.lst _) => some (t == .list)
    | some (.dic _ _) => some false
    | some (.set _ _) => some false
    | _ => none
def isAny (S : Sto) (x : D) : List Ty → Option Bool
  | [] => some false
  | t :: r => (isTy S x t).bind fun b => if b then some true else isAny S x r
def isiV (a : V2) (ts : List Ty) : M Bool := fun S => match a with
  | .d x => (match isAny S x ts with | some b => .ok b S | none => .bad)
  | .l _ => .bad
/-- repr -/
def reprV (a : V2) : M V2 := do
  let p ← v2Py a
  chk (p.showable && !p.hasDict && decide (p.shown.length ≤ most))
  pure (.d (.str p.shown))
def bltV (f : Blt) (vs : List V2) : M V2 := match f, vs with
  | .len, [a] => (match a with
    | .d (.str x) => do chk (decide (x.length ≤ most)); pure (.d (.int x.length))
    | a => do let xs ← toSeq a; pure (.d (.int xs.length)))
  | .abs, [.d (.int i)] => pure (.d (.int (if i < 0 then -i else i)))
  | .int, [.d (.int i)] => pure (.d (.int i))
  | .min, [.d (.int i), .d (.int j)] => pure (.d (.int (if j < i then j else i)))
  | .max, [.d (.int i), .d (.int j)] => pure (.d (.int (if j > i then j else i)))
  | .divmod, [.d (.int i), .d (.int j)] => do chk (decide (0 < j ∧ j < 1073741824)); pure (.d (.tup [.int (i / j), .int (i % j)]))
  | .all, [a] => do let xs ← toL a; let bs ← orBad (bools xs); pure (.d (.bl (bs.all id)))
  | .any, [a] => do let xs ← toL a; let bs ← orBad (bools xs); pure (.d (.bl (bs.any id)))
  | .sum, [a] => do let xs ← toL a; let is ← orBad (intsD xs); pure (.d (.int is.sum))
  | .tuple, [a] => do let xs ← toSeq a; pure (.d (.tup xs))
  | .list, [a] => do let xs ← toSeq a; pure (.l xs)
  | .repr, [a] => reprV a
  | _, _ => bad
def put (n : Nat) (c : Cell) : M Unit := fun S => .ok () (S.set n c)
def mthV (m : Mth) (a : D) (vs : List V2) : M V2 := match m, a, vs with
  | .append, .ref n, [.d x] => do
    let xs ← lstAt n
    chk (decide (xs.length < most))
    put n (.lst (xs ++ [x]))
    pure (.d .non)
  | .extend, .ref n, [v] => do
    let xs ← lstAt n
    let ys ← toLm v
    chk (decide (xs.length + ys.length ≤ most))
    put n (.lst (xs ++ ys))
    pure (.d .non)
  | .pop, .ref n, [] => do
    let xs ← lstAt n
    let x ← orBad xs.getLast?
    put n (.lst xs.dropLast)
    pure (.d x)
  | .get, .ref n, [.d x, .d y] => do
    let p ← dicAt n
    chk (keyOk p.1 x)
    pure (.d ((dget p.2 x).getD y))
  | _, _, _ => bad
/-- the thing whose method is called is of that kind -/
def rcv (m : Mth) (a : D) : M Unit := match m, a with
  | .append, .ref n => do let _ ← lstAt n; pure ()
  | .extend, .ref n => do let _ ← lstAt n; pure ()
  | .pop, .ref n => do let _ ← lstAt n; pure ()
  | .get, .ref n => do let _ ← dicAt n; pure ()
  | _, _ => bad
/-- a[i] = x -/
def setDic (n : Nat) (y x : D) : M Unit := do
  let p ← dicAt n
  chk (keyOk p.1 y && decide (p.2.length < most))
  put n (.dic p.1 (dput p.2 y x))
def setLst (n : Nat) (y x : D) : M Unit := match y with
  | .int k => do
    let xs ← lstAt n
    chk (decide (0 ≤ k ∧ k < xs.length))
    put n (.lst (xs.set k.toNat x))
  | _ => bad
def setV (a i : V2) (x : D) : M Unit := match a, i with
  | .d (.ref n), .d y => do
    let c ← isDic n
    if c then setDic n y x else setLst n y x
  | _, _ => bad

/-! ### what a loop walks -/
/-- the items, and the cells that must stay -/
structure Src where
  items : List D
  watch : List (Nat × List D)
def Src.ok (w : List (Nat × List D)) (S : Sto) : Bool := w.all fun p => match S[p.1]? with
  | some c => decide (c.lst? = some p.2)
  | none => false
def watching (w : List (Nat × List D)) : M Unit := fun S => if Src.ok w S then .ok () S else .bad
def srcOf : V2 → M Src
  | .d (.tup xs) => pure ⟨xs, []⟩
  | .l xs => pure ⟨xs, []⟩
  | .d (.ref n) => do let xs ← listAt n; pure ⟨xs, [(n, xs)]⟩
  | _ => bad
def isT : V2 → Bool
  | .d (.tup _) => true
  | _ => false
def enumFrom (k : Nat) : List D → List D
  | [] => []
  | x :: xs => .tup [.int k, x] :: enumFrom (k + 1) xs
def zipD : List D → List D → List D
  | x :: xs, y :: ys => .tup [x, y] :: zipD xs ys
  | _, _ => []
def range (lo : Int) : Nat → List D
  | 0 => []
  | n + 1 => .int lo :: range (lo + 1) n

/-! ### flow -/
inductive Fl where
  | nx (ρ : Rho) | rt (v : V2) | bk (ρ : Rho) | ct (ρ : Rho)
def forL (body : D → Rho → M Fl) (w : List (Nat × List D)) : List D → Rho → M Fl
  | [], ρ => do watching w; pure (.nx ρ)
  | x :: xs, ρ => do
    watching w
    let f ← body x ρ
    match f with
    | .nx ρ' | .ct ρ' => forL body w xs ρ'
    | .bk ρ' => pure (.nx ρ')
    | .rt v => pure (.rt v)
def whileL (c : Rho → M Bool) (body : Rho → M Fl) : Nat → Rho → M Fl
  | 0, _ => bad
  | n + 1, ρ => do
    let b ← c ρ
    if b then do
      let f ← body ρ
      match f with
      | .nx ρ' | .ct ρ' => whileL c body n ρ'
      | .bk ρ' => pure (.nx ρ')
      | .rt v => pure (.rt v)
    else pure (.nx ρ)
/-- the items of a comprehension: one gives none, one or more -/
def compL (item : D → M (List D)) (w : List (Nat × List D)) : List D → M (List D)
  | [] => do watching w; pure []
  | x :: xs => do
    watching w
    let ys ← item x
    let zs ← compL item w xs
    pure (ys ++ zs)
def truth : V2 → M Bool
  | .d (.bl b) => pure b
  | _ => bad
def wipe (ρ : Rho) : List Nat → Rho
  | [] => ρ
  | v :: vs => (wipe ρ vs).set v none

/-- a display's keys and values -/
def pairs (k : DK) : List D → Option (List (D × D))
  | [] => some []
  | x :: y :: r => if keyOk k x then (pairs k r).map fun kvs => (x, y) :: kvs else none
  | _ => none
def pairsIn (k : DK) (xs : List D) : Option (List (D × D)) := (pairs k xs).map fun ps => ps.foldl (fun d p => dput d p.1 p.2) []
/-- the calls of defs: positional values, names of keywords, their values -/
abbrev Orc := Str → List D → List Str → List D → M V2
structure Cxt where
  glob : Str → Option D
  call : Orc
  fuel : Nat

mutual
def ev (C : Cxt) : E → Rho → M V2
  | .non, _ => pure (.d .non)
  | .bl b, _ => pure (.d (.bl b))
  | .int i, _ => pure (.d (.int i))
  | .str x, _ => pure (.d (.str x))
  | .var i, ρ => do let x ← ρ.get i; pure (.d x)
  | .glb x, _ => do let d ← orBad (C.glob x); pure (.d d)
  | .tup es, ρ => do let xs ← evD C es ρ; pure (.d (.tup xs))
  | .lst es, ρ => do let xs ← evD C es ρ; pure (.l xs)
  | .bin o a b, ρ => do let x ← ev C a ρ; let y ← ev C b ρ; binV o x y
  | .neg a, ρ => do
    let x ← ev C a ρ
    match x with
    | .d (.int i) => pure (.d (.int (-i)))
    | _ => bad
  | .not a, ρ => do let x ← ev C a ρ; let b ← truth x; pure (.d (.bl (!b)))
  | .and es, ρ => do let b ← evAnd C es ρ; pure (.d (.bl b))
  | .or es, ρ => do let b ← evOr C es ρ; pure (.d (.bl b))
  | .cmp o a b, ρ => do let x ← ev C a ρ; let y ← ev C b ρ; let r ← cmpV o x y; pure (.d (.bl r))
  | .cmp2 o p a b c, ρ => do
    let x ← ev C a ρ
    let y ← ev C b ρ
    let r ← cmpV o x y
    if r then do let z ← ev C c ρ; let r2 ← cmpV p y z; pure (.d (.bl r2)) else pure (.d (.bl false))
  | .ite c a b, ρ => do
    let x ← ev C c ρ
    let t ← truth x
    if t then ev C a ρ else ev C b ρ
  | .idx a i, ρ => do let x ← ev C a ρ; let y ← ev C i ρ; idxV x y
  | .slc a lo hi, ρ => do let x ← ev C a ρ; let l ← evO C lo ρ; let h ← evO C hi ρ; slcV x l h
  | .rev a, ρ => do let x ← ev C a ρ; revV x
  | .call f es ks kes, ρ => do let xs ← evD C es ρ; let ys ← evD C kes ρ; C.call f xs ks ys
  | .blt f es, ρ => do let vs ← evV C es ρ; bltV f vs
  | .mth m a es, ρ => do
    let x ← ev C a ρ
    match x with
    | .d a => do
      rcv m a
      let vs ← (if m = .append then (do let xs ← evD C es ρ; pure (xs.map .d)) else evV C es ρ)
      mthV m a vs
    | .l _ => bad
  | .isi a ts, ρ => do let x ← ev C a ρ; let b ← isiV x ts; pure (.d (.bl b))
  | .lc e t it c own, ρ => do
    let s ← evI C it ρ
    chk (decide (s.items.length ≤ most))
    let xs ← compL (fun x => do
      let ρ' ← asg C t x (wipe ρ own)
      let b ← evC C c ρ'
      if b then do let v ← ev C e ρ'; let y ← toD v; pure [y] else pure []) s.watch s.items
    pure (.l xs)
  | .lc2 e t it c t2 it2 c2 own own2, ρ => do
    let s ← evI C it ρ
    chk (decide (s.items.length ≤ 4096))
    let xs ← compL (fun x => do
      let ρ' ← asg C t x (wipe ρ own)
      let b ← evC C c ρ'
      if b then do
        let s2 ← evI C it2 ρ'
        chk (decide (s2.items.length ≤ 4096))
        compL (fun x2 => do
          let ρ'' ← asg C t2 x2 (wipe ρ' own2)
          let b2 ← evC C c2 ρ''
          if b2 then do let v ← ev C e ρ''; let y ← toD v; pure [y] else pure []) s2.watch s2.items
      else pure []) s.watch s.items
    pure (.l xs)
  | .dic k es, ρ => do
    let xs ← evD C es ρ
    let kvs ← orBad (pairsIn k xs)
    let d ← alloc (.dic k kvs)
    pure (.d d)
/-- displays' items, arguments: a new list among them is laid -/
def evD (C : Cxt) : Es → Rho → M (List D)
  | .nil, _ => pure []
  | .cons e es, ρ => do let v ← ev C e ρ; let x ← toD v; let xs ← evD C es ρ; pure (x :: xs)
/-- arguments of built-in functions -/
def evV (C : Cxt) : Es → Rho → M (List V2)
  | .nil, _ => pure []
  | .cons e es, ρ => do let v ← ev C e ρ; let vs ← evV C es ρ; pure (v :: vs)
def evAnd (C : Cxt) : Es → Rho → M Bool
  | .nil, _ => pure true
  | .cons e es, ρ => do let v ← ev C e ρ; let b ← truth v; if b then evAnd C es ρ else pure false
def evOr (C : Cxt) : Es → Rho → M Bool
  | .nil, _ => pure false
  | .cons e es, ρ => do let v ← ev C e ρ; let b ← truth v; if b then pure true else evOr C es ρ
def evO (C : Cxt) : Oe → Rho → M (Option Int)
  | .none, _ => pure none
  | .some e, ρ => do
    let v ← ev C e ρ
    match v with
    | .d (.int i) => pure (some i)
    | _ => bad
/-- a comprehension's test -/
def evC (C : Cxt) : Oe → Rho → M Bool
  | .none, _ => pure true
  | .some e, ρ => do let v ← ev C e ρ; truth v
def evI (C : Cxt) : It → Rho → M Src
  | .val e, ρ => do let v ← ev C e ρ; srcOf v
  | .rng1 a, ρ => do
    let v ← ev C a ρ
    match v with
    | .d (.int j) => do chk (decide (-(2 ^ 62) ≤ j ∧ j < 2 ^ 62)); pure ⟨range 0 j.toNat, []⟩
    | _ => bad
  | .rng2 a b, ρ => do
    let v ← ev C a ρ
    let u ← ev C b ρ
    match v, u with
    | .d (.int i), .d (.int j) => do chk (decide (-(2 ^ 62) ≤ i ∧ i < 2 ^ 62 ∧ -(2 ^ 62) ≤ j ∧ j < 2 ^ 62)); pure ⟨range i (j - i).toNat, []⟩
    | _, _ => bad
  | .enum e, ρ => do let v ← ev C e ρ; let s ← srcOf v; pure ⟨enumFrom 0 s.items, s.watch⟩
  | .zip a b, ρ => do
    let v ← ev C a ρ
    let u ← ev C b ρ
    let s ← srcOf v
    let r ← srcOf u
    chk (isT v == isT u)
    pure ⟨zipD s.items r.items, s.watch ++ r.watch⟩
def asg (C : Cxt) : T → D → Rho → M Rho
  | .name i, x, ρ => pure (ρ.set i (some x))
  | .tup ts, x, ρ => (match x with
    | .tup xs => do chk (decide (xs.length = ts.len)); asgs C ts xs ρ
    | _ => bad)
  | .sub a i, x, ρ => do let v ← ev C a ρ; let u ← ev C i ρ; setV v u x; pure ρ
def asgs (C : Cxt) : Ts → List D → Rho → M Rho
  | .nil, [], ρ => pure ρ
  | .cons t ts, x :: xs, ρ => do let ρ' ← asg C t x ρ; asgs C ts xs ρ'
  | _, _, _ => bad
end

mutual
def ex (C : Cxt) : Sm → Rho → M Fl
  | .asg t e, ρ => do let v ← ev C e ρ; let x ← toD v; let ρ' ← asg C t x ρ; pure (.nx ρ')
  | .aug i o e, ρ => do
    let x ← ρ.get i
    let v ← ev C e ρ
    match o, x, v with
    | .add, .int a, .d (.int b) => pure (.nx (ρ.set i (some (.int (a + b)))))
    | _, _, _ => bad
  | .exp e, ρ => do let _ ← ev C e ρ; pure (.nx ρ)
  | .ret e, ρ => do let v ← ev C e ρ; pure (.rt v)
  | .retn, _ => pure (.rt (.d .non))
  | .ife c a b, ρ => do let v ← ev C c ρ; let t ← truth v; if t then exs C a ρ else exs C b ρ
  | .forr t it b, ρ => do
    let s ← evI C it ρ
    forL (fun x ρ' => do let ρ'' ← asg C t x ρ'; exs C b ρ'') s.watch s.items ρ
  | .whl c b, ρ => whileL (fun ρ' => do let v ← ev C c ρ'; truth v) (exs C b) C.fuel ρ
  | .brk, ρ => pure (.bk ρ)
  | .cnt, ρ => pure (.ct ρ)
  | .pss, ρ => pure (.nx ρ)
  | .rais _ _, _ => bad
def exs (C : Cxt) : Ss → Rho → M Fl
  | .nil, ρ => pure (.nx ρ)
  | .cons s ss, ρ => do
    let f ← ex C s ρ
    match f with
    | .nx ρ' => exs C ss ρ'
    | f => pure f
end

/-! ### defs -/
mutual
def below (n : Nat) : D → Bool
  | .ref k => decide (k < n)
  | .tup xs => belows n xs
  | _ => true
def belows (n : Nat) : List D → Bool
  | [] => true
  | x :: xs => below n x && belows n xs
end
def Cell.below (n : Nat) : Cell → Bool
  | .lst xs | .ro xs | .set _ xs => belows n xs
  | .dic _ kvs => kvs.all fun p => Mi.below n p.1 && Mi.below n p.2
  | .ins _ fs => fs.all fun p => Mi.below n p.2
/-- the cells that stood are as they were, or name none of the later ones -/
def oldOk (S S' : Sto) : Bool := (List.range S.length).all fun i => match S'[i]? with
  | some c => decide (S[i]? = some c) || c.below S.length
  | none => false
/-- behind a def: its own cells go, if nothing names them -/
def tidy (S : Sto) (v : V2) (S' : Sto) : Res V2 :=
  if oldOk S S' then
    match v with
    | .d (.ref k) =>
      if k < S.length then .ok v (S'.take S.length)
      else (match S'[k]? with
        | some (.lst xs) => if belows S.length xs then .ok (.l xs) (S'.take S.length) else .ok v S'
        | _ => .ok v S')
    | .d x => if below S.length x then .ok v (S'.take S.length) else .ok v S'
    | .l xs => if belows S.length xs then .ok v (S'.take S.length) else .ok v S'
  else .ok v S'
/-- the parameters' values: positional ones, then by names -/
def lookAll {α : Type} (l : List (Str × α)) : List Str → Option (List α)
  | [] => some []
  | p :: ps => match l.lookup p, lookAll l ps with
    | some x, some xs => some (x :: xs)
    | _, _ => none
def kwOk (ps : List Str) : List Str → List Str → Bool
  | _, [] => true
  | have_, k :: ks => ps.contains k && !have_.contains k && kwOk ps (have_ ++ [k]) ks
def bindA {α : Type} (ps : List Str) (xs : List α) (ks : List Str) (ys : List α) : Option (List α) :=
  if decide (xs.length ≤ ps.length) && (ks.length == ys.length) && kwOk ps (ps.take xs.length) ks then lookAll (ps.zip xs ++ ks.zip ys) ps else none
def enter (ps : List D) (n : Nat) : Rho := ps.map some ++ List.replicate (n - ps.length) none
structure Prog where
  fn : Str → Option Fn
  glob : Str → Option D
def callF (P : Prog) (w : Nat) : Nat → Orc
  | 0, _, _, _, _ => bad
  | n + 1, f, xs, ks, ys => match P.fn f with
    | none => bad
    | some fn => match bindA fn.ps xs ks ys with
      | none => bad
      | some vs => fun S => match exs ⟨P.glob, callF P w n, w⟩ fn.body (enter vs fn.nn) S with
        | .ok (.rt v) S' => tidy S v S'
        | .ok (.nx _) S' => tidy S (.d .non) S'
        | .ok _ _ => .bad
        | .exc x S' => .exc x S'
        | .bad => .bad

end Mi

-- MiB
set_option Elab.async false
set_option linter.all false
set_option maxRecDepth 100000
/-! Mi, part B: how values and cells stand in the abstract heap; readings by the evaluator. -/
namespace Mi
open PySem L2
abbrev Frag := PySem.W.Frag

mutual
/-- d stands as v -/
inductive RD (K : Frag) (H : Hp) (μ : List Addr) : D → V → Prop
  | non : RD K H μ .non .non
  | bl (b : Bool) : RD K H μ (.bl b) (.bl b)
  | int (i : Int) : RD K H μ (.int i) (.int i)
  | str (x : Str) : RD K H μ (.str x) (.str x)
  | tup {a : Addr} {ds : List D} {vs : List V} : SqT K H a vs → RDs K H μ ds vs → RD K H μ (.tup ds) (.ref a)
  | ref {n : Nat} {a : Addr} : μ[n]? = some a → RD K H μ (.ref n) (.ref a)
inductive RDs (K : Frag) (H : Hp) (μ : List Addr) : List D → List V → Prop
  | nil : RDs K H μ [] []
  | cons {d : D} {v : V} {ds : List D} {vs : List V} : RD K H μ d v → RDs K H μ ds vs → RDs K H μ (d :: ds) (v :: vs)
end
/-- a key -/
def keyD : Key → D
  | .inl i => .int i
  | .inr x => .str x
inductive RKV (K : Frag) (H : Hp) (μ : List Addr) {κ : Type} (f : κ → D) : List (D × D) → List (κ × V) → Prop
  | nil : RKV K H μ f [] []
  | cons {k : κ} {d : D} {v : V} {ds : List (D × D)} {vs : List (κ × V)} : RD K H μ d v → RKV K H μ f ds vs → RKV K H μ f ((f k, d) :: ds) ((k, v) :: vs)
/-- a cell's content stands at a -/
def RC (K : Frag) (H : Hp) (μ : List Addr) (a : Addr) : Cell → Prop
  | .lst xs => ∃ vs, H a = some (.lst vs) ∧ RDs K H μ xs vs
  | .ro xs => ∃ vs, Rd H a (.lst vs) ∧ RDs K H μ xs vs
  | .dic .k kvs => ∃ ps : List (Key × V), H a = some (.dK ps) ∧ RKV K H μ keyD kvs ps
  | _ => False
structure RS (K : Frag) (H : Hp) (μ : List Addr) (S : Sto) : Prop where
  len : μ.length = S.length
  nd : μ.Nodup
  cell : ∀ (n : Nat) (c : Cell) (a : Addr), S[n]? = some c → μ[n]? = some a → RC K H μ a c
/-- what may have come to pass between two heaps -/
structure Mon (μ : List Addr) (H : Hp) (μ' : List Addr) (H' : Hp) : Prop where
  pre : μ <+: μ'
  tup : ∀ a xs, H a = some (.tup xs) → H' a = some (.tup xs)
  frz : ∀ a o u, H a = some (.frz o u) → H' a = some (.frz o u)
structure Ext (μ : List Addr) (H : Hp) (μ' : List Addr) (H' : Hp) : Prop extends Mon μ H μ' H' where
  keep : ∀ a o, H a = some o → a ∉ μ → H' a = some o
  new : ∀ a, a ∈ μ' → a ∉ μ → H a = none
  dom : ∀ a, H' a = none → H a = none

theorem Ext.refl {μ : List Addr} {H : Hp} : Ext μ H μ H := ⟨⟨List.prefix_refl _, fun _ _ e => e, fun _ _ _ e => e⟩, fun _ _ e _ => e, fun _ h n => absurd h n, fun _ e => e⟩
theorem Ext.mem {μ μ' : List Addr} {H H' : Hp} (x : Ext μ H μ' H') {a : Addr} (h : a ∈ μ) : a ∈ μ' := x.pre.subset h
theorem Ext.out {μ μ' : List Addr} {H H' : Hp} (x : Ext μ H μ' H') {a : Addr} {o : HO} (e : H a = some o) (h : a ∉ μ) : a ∉ μ' := fun z => by
  have := x.new a z h
  rw [e] at this; cases this
theorem Ext.trans {μ μ1 μ2 : List Addr} {H H1 H2 : Hp} (x : Ext μ H μ1 H1) (y : Ext μ1 H1 μ2 H2) : Ext μ H μ2 H2 where
  pre := x.pre.trans y.pre
  tup := fun a xs e => y.tup a xs (x.tup a xs e)
  frz := fun a o u e => y.frz a o u (x.frz a o u e)
  keep := fun a o e h => y.keep a o (x.keep a o e h) (x.out e h)
  new := fun a h n => by
    by_cases q : a ∈ μ1
    · exact x.new a q n
    · exact x.dom a (y.new a h q)
  dom := fun a e => x.dom a (y.dom a e)
theorem Mon.get {μ μ' : List Addr} {H H' : Hp} (x : Mon μ H μ' H') {n : Nat} {a : Addr} (e : μ[n]? = some a) : μ'[n]? = some a := by
  obtain ⟨t, rfl⟩ := x.pre
  rw [List.getElem?_append_left (by
    have := List.getElem?_eq_some_iff.mp e
    exact this.1)]
  exact e
theorem SqT.ext {K : Frag} {μ μ' : List Addr} {H H' : Hp} (x : Mon μ H μ' H') {a : Addr} {vs : List V} (h : SqT K H a vs) : SqT K H' a vs := by
  rcases h with (h | ⟨o, h⟩) | h
  · exact .inl (.inl (x.tup a vs h))
  · exact .inl (.inr ⟨o, x.frz a o _ h⟩)
  · exact .inr h
mutual
theorem RD.mono {K : Frag} {μ μ' : List Addr} {H H' : Hp} (x : Mon μ H μ' H') : ∀ {d : D} {v : V}, RD K H μ d v → RD K H' μ' d v
  | _, _, .non => .non
  | _, _, .bl b => .bl b
  | _, _, .int i => .int i
  | _, _, .str y => .str y
  | _, _, .tup h r => .tup (SqT.ext x h) (RDs.mono x r)
  | _, _, .ref h => .ref (x.get h)
theorem RDs.mono {K : Frag} {μ μ' : List Addr} {H H' : Hp} (x : Mon μ H μ' H') : ∀ {d : List D} {v : List V}, RDs K H μ d v → RDs K H' μ' d v
  | _, _, .nil => .nil
  | _, _, .cons h r => .cons (RD.mono x h) (RDs.mono x r)
end
theorem RKV.mono {K : Frag} {μ μ' : List Addr} {H H' : Hp} {κ : Type} {f : κ → D} (x : Mon μ H μ' H') {d : List (D × D)} {v : List (κ × V)} (h : RKV K H μ f d v) : RKV K H' μ' f d v := by
  induction h with
  | nil => exact .nil
  | cons h _ ih => exact .cons (h.mono x) ih
theorem RDs.length {K : Frag} {H : Hp} {μ : List Addr} : ∀ {ds : List D} {vs : List V}, RDs K H μ ds vs → ds.length = vs.length
  | _, _, .nil => rfl
  | _, _, .cons _ r => by rw [List.length_cons, List.length_cons, RDs.length r]
theorem RDs.get {K : Frag} {H : Hp} {μ : List Addr} : ∀ {ds : List D} {vs : List V} {i : Nat} {v : V}, RDs K H μ ds vs → vs[i]? = some v → ∃ d, ds[i]? = some d ∧ RD K H μ d v
  | _, _, i, _, .nil, e => by simp at e
  | _, _, 0, _, .cons h _, e => by
    simp only [List.getElem?_cons_zero, Option.some.injEq] at e
    subst e
    exact ⟨_, rfl, h⟩
  | _, _, i + 1, _, .cons _ r, e => by
    obtain ⟨d, h1, h2⟩ := RDs.get r (i := i) (by simpa using e)
    exact ⟨d, by simpa using h1, h2⟩
theorem RDs.get' {K : Frag} {H : Hp} {μ : List Addr} : ∀ {ds : List D} {vs : List V} {i : Nat} {d : D}, RDs K H μ ds vs → ds[i]? = some d → ∃ v, vs[i]? = some v ∧ RD K H μ d v
  | _, _, i, _, .nil, e => by simp at e
  | _, _, 0, _, .cons h _, e => by
    simp only [List.getElem?_cons_zero, Option.some.injEq] at e
    subst e
    exact ⟨_, rfl, h⟩
  | _, _, i + 1, _, .cons _ r, e => by
    obtain ⟨d, h1, h2⟩ := RDs.get' r (i := i) (by simpa using e)
    exact ⟨d, by simpa using h1, h2⟩
theorem RDs.app {K : Frag} {H : Hp} {μ : List Addr} {ds es : List D} {vs ws : List V} (h : RDs K H μ ds vs) (g : RDs K H μ es ws) : RDs K H μ (ds ++ es) (vs ++ ws) := by
  match h with
  | .nil => exact g
  | .cons a r => exact .cons a (RDs.app r g)
theorem RDs.rev {K : Frag} {H : Hp} {μ : List Addr} {ds : List D} {vs : List V} (h : RDs K H μ ds vs) : RDs K H μ ds.reverse vs.reverse := by
  match h with
  | .nil => exact .nil
  | .cons a r =>
    rw [List.reverse_cons, List.reverse_cons]
    exact RDs.app (RDs.rev r) (.cons a .nil)
theorem RDs.take {K : Frag} {H : Hp} {μ : List Addr} : ∀ (n : Nat) {ds : List D} {vs : List V}, RDs K H μ ds vs → RDs K H μ (ds.take n) (vs.take n)
  | 0, _, _, _ => .nil
  | _ + 1, _, _, .nil => .nil
  | n + 1, _, _, .cons a r => .cons a (RDs.take n r)
theorem RDs.drop {K : Frag} {H : Hp} {μ : List Addr} : ∀ (n : Nat) {ds : List D} {vs : List V}, RDs K H μ ds vs → RDs K H μ (ds.drop n) (vs.drop n)
  | 0, _, _, r => r
  | _ + 1, _, _, .nil => .nil
  | n + 1, _, _, .cons _ r => RDs.drop n r
theorem RDs.set {K : Frag} {H : Hp} {μ : List Addr} {d : D} {v : V} (h : RD K H μ d v) : ∀ (n : Nat) {ds : List D} {vs : List V}, RDs K H μ ds vs → RDs K H μ (ds.set n d) (vs.set n v)
  | _, _, _, .nil => .nil
  | 0, _, _, .cons _ r => .cons h r
  | n + 1, _, _, .cons a r => .cons a (RDs.set h n r)
theorem RDs.rep {K : Frag} {H : Hp} {μ : List Addr} {ds : List D} {vs : List V} (h : RDs K H μ ds vs) : ∀ n, RDs K H μ (List.replicate n ds).flatten (List.replicate n vs).flatten
  | 0 => .nil
  | n + 1 => by
    rw [List.replicate_succ, List.replicate_succ, List.flatten_cons, List.flatten_cons]
    exact h.app (RDs.rep h n)

theorem RC.ext {K : Frag} {μ μ' : List Addr} {H H' : Hp} (x : Mon μ H μ' H') {a : Addr} {c : Cell} (same : H' a = H a) (h : RC K H μ a c) : RC K H' μ' a c := by
  cases c with
  | lst xs =>
    obtain ⟨vs, e, r⟩ := h
    exact ⟨vs, same.trans e, r.mono x⟩
  | ro xs =>
    obtain ⟨vs, e, r⟩ := h
    refine ⟨vs, ?_, r.mono x⟩
    rcases e with e | ⟨o, e⟩
    · exact .inl (same.trans e)
    · exact .inr ⟨o, same.trans e⟩
  | dic k kvs =>
    cases k with
    | k =>
      obtain ⟨ps, e, r⟩ := h
      exact ⟨ps, same.trans e, r.mono x⟩
    | _ => exact h
  | _ => exact h
theorem RC.some {K : Frag} {μ : List Addr} {H : Hp} {a : Addr} {c : Cell} (h : RC K H μ a c) : ∃ o, H a = some o := by
  cases c with
  | lst xs => obtain ⟨vs, e, r⟩ := h; exact ⟨_, e⟩
  | ro xs =>
    obtain ⟨vs, e | ⟨o, e⟩, r⟩ := h
    · exact ⟨_, e⟩
    · exact ⟨_, e⟩
  | dic k kvs =>
    cases k with
    | k => obtain ⟨ps, e, r⟩ := h; exact ⟨_, e⟩
    | _ => exact h.elim
  | _ => exact h.elim
theorem RS.get {K : Frag} {μ : List Addr} {H : Hp} {S : Sto} (r : RS K H μ S) {n : Nat} {c : Cell} (e : S[n]? = some c) : ∃ a, μ[n]? = some a ∧ RC K H μ a c := by
  have h : n < μ.length := by rw [r.len]; exact (List.getElem?_eq_some_iff.mp e).1
  exact ⟨μ[n], List.getElem?_eq_getElem h, r.cell n c _ e (List.getElem?_eq_getElem h)⟩
theorem RS.mem {K : Frag} {μ : List Addr} {H : Hp} {S : Sto} (r : RS K H μ S) {a : Addr} (h : a ∈ μ) : ∃ o, H a = some o := by
  obtain ⟨n, hn⟩ := List.getElem?_of_mem h
  have hl : n < S.length := by rw [← r.len]; exact (List.getElem?_eq_some_iff.mp hn).1
  exact (r.cell n _ a (List.getElem?_eq_getElem hl) hn).some

/-- an object is laid that is no cell (a tuple, a list on its way) -/
theorem Ext.lay {μ : List Addr} {H : Hp} {p : Addr} {o : HO} (h : H p = none) : Ext μ H μ (upd H p o) where
  pre := List.prefix_refl _
  tup := fun a xs e => by rw [upd_ne (ne_of_none e h)]; exact e
  frz := fun a o u e => by rw [upd_ne (ne_of_none e h)]; exact e
  keep := fun a o e _ => by rw [upd_ne (ne_of_none e h)]; exact e
  new := fun a h n => absurd h n
  dom := fun a e => by
    by_cases q : a = p
    · rw [q]; exact h
    · rw [upd_ne q] at e; exact e
theorem RS.lay {K : Frag} {μ : List Addr} {H : Hp} {S : Sto} {p : Addr} {o : HO} (r : RS K H μ S) (h : H p = none) : RS K (upd H p o) μ S := by
  refine ⟨r.len, r.nd, fun n c a e1 e2 => ?_⟩
  have q := r.cell n c a e1 e2
  obtain ⟨ob, e3⟩ := q.some
  exact q.ext (Ext.lay h).toMon (upd_ne (ne_of_none e3 h))
theorem Mon.more {μ : List Addr} {H : Hp} {l : List Addr} : Mon μ H (μ ++ l) H := ⟨List.prefix_append _ _, fun _ _ e => e, fun _ _ _ e => e⟩
/-- a list on its way becomes a cell -/
theorem Ext.push {μ0 μ : List Addr} {H0 H : Hp} {p : Addr} (x : Ext μ0 H0 μ H) (h0 : H0 p = none) : Ext μ0 H0 (μ ++ [p]) H where
  pre := x.pre.trans (List.prefix_append _ _)
  tup := x.tup
  frz := x.frz
  keep := x.keep
  new := fun a hm n => by
    rcases List.mem_append.mp hm with z | z
    · exact x.new a z n
    · rw [List.mem_singleton.mp z]; exact h0
  dom := x.dom
theorem RS.push {K : Frag} {μ : List Addr} {H : Hp} {S : Sto} {p : Addr} {c : Cell} (r : RS K H μ S) (hp : p ∉ μ) (h : RC K H μ p c) : RS K H (μ ++ [p]) (S ++ [c]) := by
  refine ⟨by rw [List.length_append, List.length_append, r.len]; rfl, ?_, fun n c' a e1 e2 => ?_⟩
  · rw [List.nodup_append]
    refine ⟨r.nd, by simp, fun a ha b hb => ?_⟩
    rw [List.mem_singleton.mp hb]
    intro z
    rw [z] at ha
    exact hp ha
  · by_cases hn : n < S.length
    · rw [List.getElem?_append_left hn] at e1
      rw [List.getElem?_append_left (by rw [r.len]; exact hn)] at e2
      exact (r.cell n c' a e1 e2).ext Mon.more rfl
    · rw [List.getElem?_append_right (by omega)] at e1
      rw [List.getElem?_append_right (by rw [r.len]; omega)] at e2
      rw [r.len] at e2
      have hz : n - S.length = 0 := by
        have := (List.getElem?_eq_some_iff.mp e1).1
        simp only [List.length_singleton] at this
        omega
      rw [hz] at e1 e2
      simp only [List.getElem?_cons_zero, Option.some.injEq] at e1 e2
      subst e1 e2
      exact h.ext Mon.more rfl
/-- a cell is written -/
theorem Ext.write {μ : List Addr} {H : Hp} {a : Addr} {o o' : HO} (h : a ∈ μ) (e : H a = some o) (mu : Mut (some o)) : Ext μ H μ (upd H a o') where
  pre := List.prefix_refl _
  tup := fun b xs z => by
    by_cases q : b = a
    · rw [q, e] at z; cases z; exact mu.elim
    · rw [upd_ne q]; exact z
  frz := fun b ob u z => by
    by_cases q : b = a
    · rw [q, e] at z; cases z; exact mu.elim
    · rw [upd_ne q]; exact z
  keep := fun b ob z n => by
    have q : b ≠ a := fun z => n (z ▸ h)
    rw [upd_ne q]; exact z
  new := fun b h n => absurd h n
  dom := fun b z => by
    by_cases q : b = a
    · rw [q, upd_same] at z; cases z
    · rw [upd_ne q] at z; exact z
theorem RS.write {K : Frag} {μ : List Addr} {H : Hp} {S : Sto} {n : Nat} {a : Addr} {c : Cell} {o o' : HO} (r : RS K H μ S) (hn : μ[n]? = some a) (e : H a = some o) (mu : Mut (some o))
    (h : RC K (upd H a o') μ a c) : RS K (upd H a o') μ (S.set n c) := by
  have hm : a ∈ μ := List.mem_of_getElem? hn
  refine ⟨by rw [List.length_set]; exact r.len, r.nd, fun m c' b e1 e2 => ?_⟩
  by_cases q : m = n
  · subst q
    rw [hn] at e2
    cases e2
    have hl : m < S.length := by rw [← r.len]; exact (List.getElem?_eq_some_iff.mp hn).1
    rw [List.getElem?_set_self hl] at e1
    cases e1
    exact h
  · rw [List.getElem?_set_ne (Ne.symm q)] at e1
    have nb : b ≠ a := fun z => by
      subst z
      obtain ⟨h1, g1⟩ := List.getElem?_eq_some_iff.mp hn
      obtain ⟨h2, g2⟩ := List.getElem?_eq_some_iff.mp e2
      exact q ((List.getElem_inj r.nd).mp (g2.trans g1.symm))
    exact (r.cell m c' b e1 e2).ext (Ext.write hm e mu).toMon (upd_ne nb)

/-! ### readings -/
/-- a value, or a list on its way, stands as v; it was not there in H0 -/
def RV (K : Frag) (H : Hp) (μ : List Addr) (H0 : Hp) : V2 → V → Prop
  | .d x, v => RD K H μ x v
  | .l xs, v => ∃ p vs, v = .ref p ∧ H p = some (.lst vs) ∧ p ∉ μ ∧ RDs K H μ xs vs ∧ H0 p = none
/-- the same, read -/
def RW (K : Frag) (H : Hp) (μ : List Addr) : V2 → V → Prop
  | .d x, v => RD K H μ x v
  | .l xs, v => ∃ p vs, v = .ref p ∧ H p = some (.lst vs) ∧ p ∉ μ ∧ RDs K H μ xs vs
theorem RV.rw {K : Frag} {H H0 : Hp} {μ : List Addr} {a : V2} {v : V} (h : RV K H μ H0 a v) : RW K H μ a v := by
  cases a with
  | d x => exact h
  | l xs => obtain ⟨p, vs, h1, h2, h3, h4, _⟩ := h; exact ⟨p, vs, h1, h2, h3, h4⟩
theorem RW.ext {K : Frag} {H H' : Hp} {μ μ' : List Addr} (x : Ext μ H μ' H') {a : V2} {v : V} (h : RW K H μ a v) : RW K H' μ' a v := by
  cases a with
  | d y => exact RD.mono x.toMon h
  | l xs =>
    obtain ⟨p, vs, h1, h2, h3, h4⟩ := h
    exact ⟨p, vs, h1, x.keep p _ h2 h3, x.out h2 h3, h4.mono x.toMon⟩
theorem RV.base {K : Frag} {H H0 H1 : Hp} {μ : List Addr} (d : ∀ a, H1 a = none → H0 a = none) {a : V2} {v : V} (h : RV K H μ H1 a v) : RV K H μ H0 a v := by
  cases a with
  | d x => exact h
  | l xs => obtain ⟨p, vs, h1, h2, h3, h4, h5⟩ := h; exact ⟨p, vs, h1, h2, h3, h4, d p h5⟩
/-- the names' values -/
structure RE (K : Frag) (H : Hp) (μ : List Addr) (ρ : Rho) (σ : St) : Prop where
  len : ρ.length = σ.length
  at_ : ∀ (i : Nat) (d : D), ρ[i]? = some (some d) → ∃ v, σ[i]? = some (some v) ∧ RD K H μ d v
theorem RE.mono {K : Frag} {H H' : Hp} {μ μ' : List Addr} (x : Mon μ H μ' H') {ρ : Rho} {σ : St} (r : RE K H μ ρ σ) : RE K H' μ' ρ σ :=
  ⟨r.len, fun i d e => let ⟨v, h1, h2⟩ := r.at_ i d e; ⟨v, h1, h2.mono x⟩⟩
theorem RE.set {K : Frag} {H : Hp} {μ : List Addr} {ρ : Rho} {σ : St} (r : RE K H μ ρ σ) (i : Nat) {d : D} {v : V} (h : RD K H μ d v) : RE K H μ (ρ.set i (some d)) (σ.set i (some v)) := by
  refine ⟨by rw [List.length_set, List.length_set]; exact r.len, fun j e hj => ?_⟩
  by_cases q : i = j
  · subst q
    have hl : i < ρ.length := by
      have := (List.getElem?_eq_some_iff.mp hj).1
      rwa [List.length_set] at this
    rw [List.getElem?_set_self hl] at hj
    cases hj
    exact ⟨v, List.getElem?_set_self (by rw [← r.len]; exact hl), h⟩
  · rw [List.getElem?_set_ne q] at hj
    obtain ⟨u, h1, h2⟩ := r.at_ j e hj
    exact ⟨u, by rw [List.getElem?_set_ne q]; exact h1, h2⟩
/-- the same σ with a slot forgotten on this side -/
theorem RE.none {K : Frag} {H : Hp} {μ : List Addr} {ρ : Rho} {σ : St} (r : RE K H μ ρ σ) (i : Nat) : RE K H μ (ρ.set i none) (σ.set i none) := by
  refine ⟨by rw [List.length_set, List.length_set]; exact r.len, fun j e hj => ?_⟩
  by_cases q : i = j
  · subst q
    by_cases hl : i < ρ.length
    · rw [List.getElem?_set_self hl] at hj; cases hj
    · rw [List.getElem?_eq_none (by rw [List.length_set]; omega)] at hj; cases hj
  · rw [List.getElem?_set_ne q] at hj
    obtain ⟨u, h1, h2⟩ := r.at_ j e hj
    exact ⟨u, by rw [List.getElem?_set_ne q]; exact h1, h2⟩
theorem RE.wipe {K : Frag} {H : Hp} {μ : List Addr} {ρ : Rho} {σ : St} (r : RE K H μ ρ σ) : ∀ vs : List Nat, RE K H μ (Mi.wipe ρ vs) (L2.wipe σ vs)
  | [] => r
  | v :: vs => (RE.wipe r vs).none v

/-- what an exception asks: the frame's slots, cells, heap, it -/
abbrev XW := St → List Addr → Hp → Sto → Exc → Prop
/-- what an answer promises -/
def Post {α : Type} (K : Frag) (ok : List Addr → Hp → Sto → α → Prop) (ex : List Addr → Hp → Sto → Exc → Prop) (μ : List Addr) (H : Hp) : Res α → Prop
  | .ok a S => ∀ μ' H', Ext μ H μ' H' → RS K H' μ' S → ok μ' H' S a
  | .exc e S => ∀ μ' H', Ext μ H μ' H' → RS K H' μ' S → ex μ' H' S e
  | .bad => False
theorem Post.shift {α : Type} {K : Frag} {ok : List Addr → Hp → Sto → α → Prop} {ex : List Addr → Hp → Sto → Exc → Prop} {μ μ1 : List Addr} {H H1 : Hp} (x : Ext μ H μ1 H1) {r : Res α}
    (h : Post K ok ex μ H r) : Post K ok ex μ1 H1 r := by
  cases r with
  | ok a S => exact fun μ' H' y => h μ' H' (x.trans y)
  | exc e S => exact fun μ' H' y => h μ' H' (x.trans y)
  | bad => exact h
theorem Post.imp {α : Type} {K : Frag} {ok ok' : List Addr → Hp → Sto → α → Prop} {ex : List Addr → Hp → Sto → Exc → Prop} {μ : List Addr} {H : Hp} {r : Res α}
    (h : Post K ok ex μ H r) (f : ∀ μ' H' S a, Ext μ H μ' H' → ok μ' H' S a → ok' μ' H' S a) : Post K ok' ex μ H r := by
  cases r with
  | ok a S => exact fun μ' H' y rs => f μ' H' S a y (h μ' H' y rs)
  | exc e S => exact h
  | bad => exact h
/-- one after another -/
theorem Post.bind {α β : Type} {K : Frag} {ok : List Addr → Hp → Sto → β → Prop} {ex : List Addr → Hp → Sto → Exc → Prop} {μ : List Addr} {H : Hp} {m : M α} {f : α → M β} {S : Sto}
    (h : Post K ok ex μ H ((m >>= f) S)) : Post K (fun μ1 H1 S1 a => Post K ok ex μ1 H1 (f a S1)) ex μ H (m S) := by
  have e : (m >>= f) S = M.bind m f S := rfl
  rw [e] at h
  unfold M.bind at h
  cases q : m S with
  | ok a S' =>
    rw [q] at h
    exact fun μ' H' x rs => Post.shift x h
  | exc x S' =>
    rw [q] at h
    exact h
  | bad =>
    rw [q] at h
    exact h
theorem Post.pure {α : Type} {K : Frag} {ok : List Addr → Hp → Sto → α → Prop} {ex : List Addr → Hp → Sto → Exc → Prop} {μ : List Addr} {H : Hp} {a : α} {S : Sto}
    (h : Post K ok ex μ H ((Pure.pure a : M α) S)) : ∀ μ' H', Ext μ H μ' H' → RS K H' μ' S → ok μ' H' S a := h

/-- an expression's reading: evaluated by m; what an exception asks is ex -/
def okV (K : Frag) (H : Hp) (Q : VK) : List Addr → Hp → Sto → V2 → Prop := fun μ' H' _ a => ∀ v, RV K H' μ' H a v → Q v H'
def teM (K : Frag) (ex : XW) (m : Rho → M V2) : TE := fun σ H Q => ∃ μ S ρ, RS K H μ S ∧ RE K H μ ρ σ ∧ Post K (okV K H Q) (ex σ) μ H (m ρ S)
/-- a test's -/
def ttM (K : Frag) (ex : XW) (m : Rho → M Bool) : TT := fun σ H Q => ∃ μ S ρ, RS K H μ S ∧ RE K H μ ρ σ ∧ Post K (fun _ H' _ b => Q b H') (ex σ) μ H (m ρ S)
/-- arguments', all laid -/
def taD (K : Frag) (ex : XW) (m : Rho → M (List D)) : TA := fun σ H Q => ∃ μ S ρ, RS K H μ S ∧ RE K H μ ρ σ ∧ Post K (fun μ' H' _ ds => ∀ vs, RDs K H' μ' ds vs → Q vs H') (ex σ) μ H (m ρ S)
inductive RWs (K : Frag) (H : Hp) (μ : List Addr) : List V2 → List V → Prop
  | nil : RWs K H μ [] []
  | cons {d : V2} {v : V} {ds : List V2} {vs : List V} : RW K H μ d v → RWs K H μ ds vs → RWs K H μ (d :: ds) (v :: vs)
def taV (K : Frag) (ex : XW) (m : Rho → M (List V2)) : TA := fun σ H Q => ∃ μ S ρ, RS K H μ S ∧ RE K H μ ρ σ ∧ Post K (fun μ' H' _ ds => ∀ vs, RWs K H' μ' ds vs → Q vs H') (ex σ) μ H (m ρ S)

theorem PE.imp {X : Cx} {e : PySem.Expr} {t t' : TE} (h : PE X e t) (f : ∀ σ H Q, t' σ H Q → t σ H Q) : PE X e t' := ⟨fun pins s σ H Q I q => h.run pins s σ H Q I (f σ H Q q)⟩
theorem PT.imp {X : Cx} {e : PySem.Expr} {t t' : TT} (h : PT X e t) (f : ∀ σ H Q, t' σ H Q → t σ H Q) : PT X e t' := ⟨fun pins s σ H Q I q => h.run pins s σ H Q I (f σ H Q q)⟩
theorem PW.imp {X : Cx} {e : PySem.Expr} {t t' : TT} (h : PW X e t) (f : ∀ σ H Q, t' σ H Q → t σ H Q) : PW X e t' := ⟨fun w pins s σ H Q I q => h.run w pins s σ H Q I (f σ H Q q)⟩
theorem PA.imp {X : Cx} {e : List PySem.Expr} {t t' : TA} (h : PA X e t) (f : ∀ σ H Q, t' σ H Q → t σ H Q) : PA X e t' := ⟨fun p pins s σ H Q I q => h.run p pins s σ H Q I (f σ H Q q)⟩
theorem PS.imp {X : Cx} {e : PySem.Stmt} {t t' : TS} (h : PS X e t) (f : ∀ D σ H, t' D σ H → t D σ H) : PS X e t' := ⟨fun pins s σ H D I q => h.run pins s σ H D I (f D σ H q)⟩
theorem PSs.imp {X : Cx} {e : List PySem.Stmt} {t t' : TS} (h : PSs X e t) (f : ∀ D σ H, t' D σ H → t D σ H) : PSs X e t' := ⟨fun pins s σ H D I q => h.run pins s σ H D I (f D σ H q)⟩

section
variable {K : Frag} {ex : XW} {σ : St} {H : Hp}
/-- evaluate m, then go on with f: m's reading -/
theorem te_bind {α : Type} {ok : List Addr → Hp → Sto → α → Prop} {μ : List Addr} {S : Sto} {ρ : Rho} {m : Rho → M V2} {f : V2 → M α} {Q : VK} (rs : RS K H μ S) (re : RE K H μ ρ σ)
    (h : Post K ok (ex σ) μ H ((m ρ >>= f) S))
    (g : ∀ μ1 H1 S1 a v, Ext μ H μ1 H1 → RS K H1 μ1 S1 → RE K H1 μ1 ρ σ → RV K H1 μ1 H a v → Post K ok (ex σ) μ1 H1 (f a S1) → Q v H1) : teM K ex m σ H Q := by
  refine ⟨μ, S, ρ, rs, re, ?_⟩
  have hb := h.bind
  cases q : m ρ S with
  | ok a S1 =>
    rw [q] at hb
    exact fun μ1 H1 x rs1 v rv => g μ1 H1 S1 a v x rs1 (re.mono x.toMon) rv (hb μ1 H1 x rs1)
  | exc e S1 =>
    rw [q] at hb
    exact hb
  | bad =>
    rw [q] at hb
    exact hb
theorem tt_bind {α : Type} {ok : List Addr → Hp → Sto → α → Prop} {μ : List Addr} {S : Sto} {ρ : Rho} {m : Rho → M Bool} {f : Bool → M α} {Q : Bool → Hp → Prop} (rs : RS K H μ S) (re : RE K H μ ρ σ)
    (h : Post K ok (ex σ) μ H ((m ρ >>= f) S))
    (g : ∀ μ1 H1 S1 a, Ext μ H μ1 H1 → RS K H1 μ1 S1 → RE K H1 μ1 ρ σ → Post K ok (ex σ) μ1 H1 (f a S1) → Q a H1) : ttM K ex m σ H Q := by
  refine ⟨μ, S, ρ, rs, re, ?_⟩
  have hb := h.bind
  cases q : m ρ S with
  | ok a S1 =>
    rw [q] at hb
    exact fun μ1 H1 x rs1 => g μ1 H1 S1 a x rs1 (re.mono x.toMon) (hb μ1 H1 x rs1)
  | exc e S1 =>
    rw [q] at hb
    exact hb
  | bad =>
    rw [q] at hb
    exact hb
theorem ta_bind {α : Type} {ok : List Addr → Hp → Sto → α → Prop} {μ : List Addr} {S : Sto} {ρ : Rho} {m : Rho → M (List D)} {f : List D → M α} {Q : List V → Hp → Prop} (rs : RS K H μ S) (re : RE K H μ ρ σ)
    (h : Post K ok (ex σ) μ H ((m ρ >>= f) S))
    (g : ∀ μ1 H1 S1 a v, Ext μ H μ1 H1 → RS K H1 μ1 S1 → RE K H1 μ1 ρ σ → RDs K H1 μ1 a v → Post K ok (ex σ) μ1 H1 (f a S1) → Q v H1) : taD K ex m σ H Q := by
  refine ⟨μ, S, ρ, rs, re, ?_⟩
  have hb := h.bind
  cases q : m ρ S with
  | ok a S1 =>
    rw [q] at hb
    exact fun μ1 H1 x rs1 v rv => g μ1 H1 S1 a v x rs1 (re.mono x.toMon) rv (hb μ1 H1 x rs1)
  | exc e S1 =>
    rw [q] at hb
    exact hb
  | bad =>
    rw [q] at hb
    exact hb
theorem tv_bind {α : Type} {ok : List Addr → Hp → Sto → α → Prop} {μ : List Addr} {S : Sto} {ρ : Rho} {m : Rho → M (List V2)} {f : List V2 → M α} {Q : List V → Hp → Prop} (rs : RS K H μ S) (re : RE K H μ ρ σ)
    (h : Post K ok (ex σ) μ H ((m ρ >>= f) S))
    (g : ∀ μ1 H1 S1 a v, Ext μ H μ1 H1 → RS K H1 μ1 S1 → RE K H1 μ1 ρ σ → RWs K H1 μ1 a v → Post K ok (ex σ) μ1 H1 (f a S1) → Q v H1) : taV K ex m σ H Q := by
  refine ⟨μ, S, ρ, rs, re, ?_⟩
  have hb := h.bind
  cases q : m ρ S with
  | ok a S1 =>
    rw [q] at hb
    exact fun μ1 H1 x rs1 v rv => g μ1 H1 S1 a v x rs1 (re.mono x.toMon) rv (hb μ1 H1 x rs1)
  | exc e S1 =>
    rw [q] at hb
    exact hb
  | bad =>
    rw [q] at hb
    exact hb
/-- the end of a value -/
theorem post_d {μ : List Addr} {x : D} {S : Sto} {Q : VK} {v : V} (rs : RS K H μ S) (h : Post K (okV K H Q) (ex σ) μ H ((Pure.pure (.d x) : M V2) S)) (r : RD K H μ x v) : Q v H :=
  h μ H Ext.refl rs v r
end
end Mi

-- MiC
set_option Elab.async false
set_option linter.all false
set_option maxRecDepth 100000
/-! Mi, part C: the operations by values. -/
namespace Mi
open PySem L2 PyProof.Rows

/-- a computation that changes no cell and raises nothing -/
def Reader {α : Type} (m : M α) : Prop := ∀ S, m S = .bad ∨ ∃ a, m S = .ok a S
theorem Reader.pure {α : Type} (a : α) : Reader (Pure.pure a : M α) := fun S => .inr ⟨a, rfl⟩
theorem Reader.bad {α : Type} : Reader (Mi.bad : M α) := fun _ => .inl rfl
theorem Reader.bind {α β : Type} {m : M α} {f : α → M β} (h : Reader m) (g : ∀ a, Reader (f a)) : Reader (m >>= f) := fun S => by
  have e : (m >>= f) S = M.bind m f S := rfl
  rw [e]
  unfold M.bind
  rcases h S with h | ⟨a, h⟩
  · rw [h]; exact .inl rfl
  · rw [h]; exact g a S
theorem Reader.orBad {α : Type} (o : Option α) : Reader (Mi.orBad o) := by
  cases o with
  | none => exact Reader.bad
  | some a => exact Reader.pure a
theorem Reader.chk (b : Bool) : Reader (Mi.chk b) := fun S => by
  unfold Mi.chk
  cases b with
  | true => exact .inr ⟨(), rfl⟩
  | false => exact .inl rfl
theorem Reader.listAt (n : Nat) : Reader (Mi.listAt n) := fun S => by
  unfold Mi.listAt
  split
  · split
    · exact .inr ⟨_, rfl⟩
    · exact .inl rfl
  · exact .inl rfl
theorem Reader.lstAt (n : Nat) : Reader (Mi.lstAt n) := fun S => by
  unfold Mi.lstAt
  split
  · exact .inr ⟨_, rfl⟩
  · exact .inl rfl
theorem Reader.dicAt (n : Nat) : Reader (Mi.dicAt n) := fun S => by
  unfold Mi.dicAt
  split
  · exact .inr ⟨_, rfl⟩
  · exact .inl rfl
theorem Reader.isDic (n : Nat) : Reader (Mi.isDic n) := fun S => by
  unfold Mi.isDic
  split
  · exact .inr ⟨_, rfl⟩
  · exact .inr ⟨_, rfl⟩
theorem Reader.toL (v : V2) : Reader (Mi.toL v) := by
  unfold Mi.toL
  split
  · exact Reader.pure _
  · exact Reader.listAt _
  · exact Reader.bad
theorem Reader.toLm (v : V2) : Reader (Mi.toLm v) := by
  unfold Mi.toLm
  split
  · exact Reader.pure _
  · exact Reader.lstAt _
  · exact Reader.bad
theorem Reader.toSeq (v : V2) : Reader (Mi.toSeq v) := by
  unfold Mi.toSeq
  split
  · exact Reader.pure _
  · exact Reader.toL _
theorem Reader.v2Py (v : V2) : Reader (Mi.v2Py v) := fun S => by
  unfold Mi.v2Py
  split
  · split
    · exact .inr ⟨_, rfl⟩
    · exact .inl rfl
  · split
    · exact .inr ⟨_, rfl⟩
    · exact .inl rfl
theorem Reader.isiV (a : V2) (ts : List Ty) : Reader (Mi.isiV a ts) := fun S => by
  unfold Mi.isiV
  split
  · split
    · exact .inr ⟨_, rfl⟩
    · exact .inl rfl
  · exact .inl rfl
/-- what a reader's answer gives -/
theorem Post.read {α β : Type} {K : Frag} {ok : List Addr → Hp → Sto → β → Prop} {ex : List Addr → Hp → Sto → Exc → Prop} {μ : List Addr} {H : Hp} {m : M α} {f : α → M β} {S : Sto} (r : Reader m)
    (h : Post K ok ex μ H ((m >>= f) S)) : ∃ a, m S = .ok a S ∧ Post K ok ex μ H (f a S) := by
  have e : (m >>= f) S = M.bind m f S := rfl
  rw [e] at h
  unfold M.bind at h
  rcases r S with q | ⟨a, q⟩
  · rw [q] at h; exact h.elim
  · rw [q] at h; exact ⟨a, q, h⟩
theorem Post.chk {β : Type} {K : Frag} {ok : List Addr → Hp → Sto → β → Prop} {ex : List Addr → Hp → Sto → Exc → Prop} {μ : List Addr} {H : Hp} {b : Bool} {f : Unit → M β} {S : Sto}
    (h : Post K ok ex μ H ((Mi.chk b >>= f) S)) : b = true ∧ Post K ok ex μ H (f () S) := by
  obtain ⟨a, e, q⟩ := h.read (Reader.chk b)
  cases b with
  | true => exact ⟨rfl, q⟩
  | false => cases e
theorem Post.orBad {α β : Type} {K : Frag} {ok : List Addr → Hp → Sto → β → Prop} {ex : List Addr → Hp → Sto → Exc → Prop} {μ : List Addr} {H : Hp} {o : Option α} {f : α → M β} {S : Sto}
    (h : Post K ok ex μ H ((Mi.orBad o >>= f) S)) : ∃ a, o = some a ∧ Post K ok ex μ H (f a S) := by
  obtain ⟨a, e, q⟩ := h.read (Reader.orBad o)
  cases o with
  | none => cases e
  | some b =>
    have : b = a := by
      have e' : (Res.ok b S : Res α) = .ok a S := e
      injection e'
    subst this
    exact ⟨b, rfl, q⟩
theorem Post.noBad {α : Type} {K : Frag} {ok : List Addr → Hp → Sto → α → Prop} {ex : List Addr → Hp → Sto → Exc → Prop} {μ : List Addr} {H : Hp} {S : Sto} (h : Post K ok ex μ H ((Mi.bad : M α) S)) : False := h

/-! ### what is read -/
section
variable {K : Frag} {H : Hp} {μ : List Addr} {S : Sto} {v : V}
theorem RW.toLm {a : V2} {xs : List D} {S' : Sto} (rs : RS K H μ S) (r : RW K H μ a v) (e : Mi.toLm a S = .ok xs S') : ∃ p vs, v = .ref p ∧ H p = some (.lst vs) ∧ RDs K H μ xs vs := by
  cases a with
  | l ys =>
    have e' : (Res.ok ys S : Res (List D)) = .ok xs S' := e
    injection e' with e1 _
    subst e1
    obtain ⟨p, vs, h1, h2, _, h4⟩ := r
    exact ⟨p, vs, h1, h2, h4⟩
  | d x =>
    cases x with
    | ref n =>
      have e' : Mi.lstAt n S = .ok xs S' := e
      unfold Mi.lstAt at e'
      cases r with
      | ref hn =>
        cases q : S[n]? with
        | none => rw [q] at e'; cases e'
        | some c =>
          rw [q] at e'
          cases c with
          | lst ys =>
            injection e' with e1 _
            subst e1
            obtain ⟨vs, h1, h2⟩ := rs.cell n _ _ q hn
            exact ⟨_, vs, rfl, h1, h2⟩
          | _ => cases e'
    | _ => cases e
theorem RW.toL {a : V2} {xs : List D} {S' : Sto} (rs : RS K H μ S) (r : RW K H μ a v) (e : Mi.toL a S = .ok xs S') : ∃ p vs, v = .ref p ∧ Rd H p (.lst vs) ∧ RDs K H μ xs vs := by
  cases a with
  | l ys =>
    have e' : (Res.ok ys S : Res (List D)) = .ok xs S' := e
    injection e' with e1 _
    subst e1
    obtain ⟨p, vs, h1, h2, _, h4⟩ := r
    exact ⟨p, vs, h1, .inl h2, h4⟩
  | d x =>
    cases x with
    | ref n =>
      have e' : Mi.listAt n S = .ok xs S' := e
      unfold Mi.listAt at e'
      cases r with
      | ref hn =>
        cases q : S[n]? with
        | none => rw [q] at e'; cases e'
        | some c =>
          rw [q] at e'
          cases c with
          | lst ys =>
            injection e' with e1 _
            subst e1
            obtain ⟨vs, h1, h2⟩ := rs.cell n _ _ q hn
            exact ⟨_, vs, rfl, .inl h1, h2⟩
          | ro ys =>
            injection e' with e1 _
            subst e1
            obtain ⟨vs, h1, h2⟩ := rs.cell n _ _ q hn
            exact ⟨_, vs, rfl, h1, h2⟩
          | _ => cases e'
    | _ => cases e
theorem RW.toSeq {a : V2} {xs : List D} {S' : Sto} (rs : RS K H μ S) (r : RW K H μ a v) (e : Mi.toSeq a S = .ok xs S') : ∃ p vs, v = .ref p ∧ (SqL K H p vs ∨ SqT K H p vs) ∧ RDs K H μ xs vs := by
  unfold Mi.toSeq at e
  split at e
  · rename_i ys
    have e' : (Res.ok ys S : Res (List D)) = .ok xs S' := e
    injection e' with e1 _
    subst e1
    cases r with
    | tup h1 h2 => exact ⟨_, _, rfl, .inr h1, h2⟩
  · obtain ⟨p, vs, h1, h2, h3⟩ := r.toL rs e
    exact ⟨p, vs, h1, .inl (.inl h2), h3⟩
end

/-! ### a tuple, repeated: the ways that HandS.TupMul leaves out -/
theorem tuple_mulS (l : Addr) (items : Array Value) (n : Nat) (dd : Option Addr) (sl : Array (Option Value)) (x : Int) (u : Tok) (c0 : (decide (x < -(2 ^ 63)) || decide (x ≥ 2 ^ 63)) = false) (c1 : (items.isEmpty || x == 1) = true) :
    Meets (Builtin.«tuple.__mul__» ⟨[.ref l, .int x u], []⟩) (fun _ R s => s.heap.get? l = some { cls := .type "tuple", dict := dd, data := .seq items n, slots := sl } ∧
      R (.ok (.ret (Value.ref l))) s) :=
  .of_wp fun prog w A R s h => by
    obtain ⟨hp, g, d, tk, os⟩ := s
    obtain ⟨hl, h⟩ := h
    have f1 := AutoSeq1.idx_int
    wp_walk using wpAny_loadPart' hl
    repeat (first
      | (refine wpAny_ite_false (decide_eq_false (by rw [c0]; exact Bool.false_ne_true)) ?_; wp_walk using wpAny_loadPart' hl)
      | (refine wpAny_ite_true (decide_eq_true (by rw [c1])) ?_; wp_walk using wpAny_loadPart' hl))
    exact ⟨_, rfl, h⟩
theorem tuple_mul0 (l : Addr) (items : Array Value) (n : Nat) (dd : Option Addr) (sl : Array (Option Value)) (x : Int) (u : Tok) (c0 : (decide (x < -(2 ^ 63)) || decide (x ≥ 2 ^ 63)) = false) (c1 : (items.isEmpty || x == 1) = false) (c2 : (decide (x ≤ 0) || items.isEmpty) = true) :
    Meets (Builtin.«tuple.__mul__» ⟨[.ref l, .int x u], []⟩) (fun _ R s => s.heap.get? l = some { cls := .type "tuple", dict := dd, data := .seq items n, slots := sl } ∧
      R (.ok (.ret (Value.ref s.heap.objs.size))) { s with heap := s.heap.push { cls := Value.type "tuple", data := Data.seq #[] }, toks := s.toks }) :=
  .of_wp fun prog w A R s h => by
    obtain ⟨hp, g, d, tk, os⟩ := s
    obtain ⟨hl, h⟩ := h
    have f1 := AutoSeq1.idx_int
    wp_walk using wpAny_loadPart' hl
    repeat (first
      | (refine wpAny_ite_false (decide_eq_false (by rw [c0]; exact Bool.false_ne_true)) ?_; wp_walk using wpAny_loadPart' hl)
      | (refine wpAny_ite_false (decide_eq_false (by rw [c1]; exact Bool.false_ne_true)) ?_; wp_walk using wpAny_loadPart' hl)
      | (refine wpAny_ite_true (decide_eq_true (by rw [c2])) ?_; wp_walk using wpAny_loadPart' hl))
    exact ⟨_, rfl, h⟩
/-! ### + - * // % ** -/
def rRepA (K : Frag) : R2 := fun x y H Q => ∃ l k xs, x = .ref l ∧ y = .int k ∧ SqT K H l xs ∧ xs.length ≤ 1000 ∧ -1000 ≤ k ∧ k ≤ 1000 ∧
  (xs = [] ∨ k = 1 → Q (.ref l) H) ∧ (¬ (xs = [] ∨ k = 1) → ∀ p, H p = none → Q (.ref p) (upd H p (.tup (List.replicate k.toNat xs).flatten)))
theorem op_repA {X : Cx} : OpR X (binaryOp .Mult) (rRepA X.K) := by
  intro pins s σ H x y v u Q I rx ry h
  obtain ⟨l, k, xs, rfl, rfl, hT, hz, h1, h2, q1, q2⟩ := h
  by_cases hk : 2 ≤ k ∧ xs ≠ []
  · have hn : ¬ (xs = [] ∨ k = 1) := by
      rintro (z | z)
      · exact hk.2 z
      · omega
    exact op_repT pins s σ H _ _ v u Q I rx ry ⟨l, k, xs, rfl, rfl, hT, hk.2, hk.1, h2, hz, q2 hn⟩
  · cases rx
    obtain ⟨t, rfl⟩ := ry
    obtain ⟨its, r, ⟨⟨cls, dd, data, sl⟩, ho, hc, n, hd⟩, hs⟩ := I.tuple hT
    simp only at hc hd
    subst hc hd
    have hle : its.length = xs.length := r.length.symm
    have c0 : (decide (k < -(2 ^ 63)) || decide (k ≥ 2 ^ 63)) = false := by
      rw [decide_eq_false (by omega), decide_eq_false (by omega)] <;> rfl
    by_cases hn : xs = [] ∨ k = 1
    · have c1 : (its.toArray.isEmpty || k == 1) = true := by
        rcases hn with z | z
        · subst z
          have : its = [] := List.eq_nil_of_length_eq_zero (by simpa using hle)
          rw [this]
          rfl
        · rw [z]
          simp
      refine wpAny_binaryOp_repeat_ref (T := "tuple") (U := "int") (by decide) ⟨_, ho, rfl⟩ (fun s' => typeIs_int s' k t) noFill_tuple_mul F.fills_int_mul F.slot_int_rmul repeat_tuple F.slot_int_index.lookup
        (call_meets F.slot_int_rmul (typeIs_int s k t) F.entry_int_rmul (F.args_int_rmul_2 _ _) (int_rmul_tuple k t l its.toArray n dd sl)
          ⟨ho, rfl, ⟨_, ho, rfl⟩, call_meets F.slot_tuple_mul ⟨_, ho, rfl⟩ F.entry_tuple_mul (F.args_tuple_mul_2 _ _) (tuple_mulS l its.toArray n dd sl k t c0 c1) ⟨ho, ?_⟩⟩)
      exact ⟨.ref l, H, I, rfl, q1 hn⟩
    · have hx : xs ≠ [] := fun z => hn (.inl z)
      have hk0 : k ≤ 0 := by
        have a1 : ¬ 2 ≤ k := fun z => hk ⟨z, hx⟩
        have a2 : k ≠ 1 := fun z => hn (.inr z)
        omega
      have hi : its.toArray.isEmpty = false := by
        cases its with
        | nil => exact absurd (List.eq_nil_of_length_eq_zero (by simpa using hle.symm)) hx
        | cons a b => rfl
      have c1 : (its.toArray.isEmpty || k == 1) = false := by
        rw [hi, Bool.false_or]
        exact beq_eq_false_iff_ne.mpr (by omega)
      have c2 : (decide (k ≤ 0) || its.toArray.isEmpty) = true := by
        rw [decide_eq_true hk0]
        rfl
      refine wpAny_binaryOp_repeat_ref (T := "tuple") (U := "int") (by decide) ⟨_, ho, rfl⟩ (fun s' => typeIs_int s' k t) noFill_tuple_mul F.fills_int_mul F.slot_int_rmul repeat_tuple F.slot_int_index.lookup
        (call_meets F.slot_int_rmul (typeIs_int s k t) F.entry_int_rmul (F.args_int_rmul_2 _ _) (int_rmul_tuple k t l its.toArray n dd sl)
          ⟨ho, rfl, ⟨_, ho, rfl⟩, call_meets F.slot_tuple_mul ⟨_, ho, rfl⟩ F.entry_tuple_mul (F.args_tuple_mul_2 _ _) (tuple_mul0 l its.toArray n dd sl k t c0 c1 c2) ⟨ho, ?_⟩⟩)
      have e0 : (List.replicate k.toNat xs).flatten = [] := by
        have : k.toNat = 0 := by omega
        rw [this]
        rfl
      have q3 := q2 hn s.heap.objs.size (I.hok.fresh (Nat.le_refl _))
      rw [e0] at q3
      refine ⟨.ref s.heap.objs.size, _, I.laid (t' := s.toks) (o := .tup []) (fun b ob q => Heap.get?_push_of_some _ q) (Nat.le_refl _) ?_, rfl, q3⟩
      exact ⟨Nat.zero_le _, [], .nil, IsTup.new _ _⟩
theorem rep_same {α : Type} {xs : List α} {k : Int} (h : xs = [] ∨ k = 1) : (List.replicate k.toNat xs).flatten = xs := by
  rcases h with h | h
  · subst h; simp
  · subst h; simp
def opOf : Bop → Operator
  | .add => .Add
  | .sub => .Sub
  | .mul => .Mult
  | .fdiv => .FloorDiv
  | .mod => .Mod
  | .pow => .Pow
/-- a two-place operation on values, by g -/
def rM2 (K : Frag) (g : V2 → V2 → M V2) : R2 := fun x y H Q => ∃ ex μ S a b, RS K H μ S ∧ RW K H μ a x ∧ RW K H μ b y ∧ Post K (okV K H Q) ex μ H (g a b S)
section
variable {X : Cx}
theorem most_eq : most = sizeLine := by rw [sizeLine_eq]; rfl
/-- the end of a new list -/
theorem post_l {K : Frag} {ex : List Addr → Hp → Sto → Exc → Prop} {μ : List Addr} {H : Hp} {xs : List D} {S : Sto} {Q : VK} {vs : List V} (rs : RS K H μ S) (h : Post K (okV K H Q) ex μ H ((Pure.pure (.l xs) : M V2) S)) (r : RDs K H μ xs vs) :
    ∀ p, H p = none → Q (.ref p) (upd H p (.lst vs)) := fun p hp => by
  have hm : p ∉ μ := fun z => by
    obtain ⟨o, e⟩ := rs.mem z
    rw [hp] at e; cases e
  exact h μ _ (Ext.lay hp) (rs.lay hp) _ ⟨p, vs, rfl, upd_same, hm, r.mono (Ext.lay hp).toMon, hp⟩
theorem post_d' {K : Frag} {ex : List Addr → Hp → Sto → Exc → Prop} {μ : List Addr} {H : Hp} {x : D} {S : Sto} {Q : VK} {v : V} (rs : RS K H μ S) (h : Post K (okV K H Q) ex μ H ((Pure.pure (.d x) : M V2) S)) (r : RD K H μ x v) : Q v H :=
  h μ H Ext.refl rs v r
/-- the end of a new tuple -/
theorem post_t {K : Frag} {ex : List Addr → Hp → Sto → Exc → Prop} {μ : List Addr} {H : Hp} {xs : List D} {S : Sto} {Q : VK} {vs : List V} (rs : RS K H μ S) (h : Post K (okV K H Q) ex μ H ((Pure.pure (.d (.tup xs)) : M V2) S)) (r : RDs K H μ xs vs) :
    ∀ p, H p = none → Q (.ref p) (upd H p (.tup vs)) := fun p hp =>
  h μ _ (Ext.lay hp) (rs.lay hp) _ (.tup (.inl (.inl upd_same)) (r.mono (Ext.lay hp).toMon))
theorem op_bin (hu : X.A.units + 64 < cLine) (o : Bop) : OpR X (binaryOp (opOf o)) (rM2 X.K (binV o)) := by
  intro pins s σ H x y v u Q I rx ry ⟨ex, μ, S, a, b, rs, ra, rb, h⟩
  unfold binV at h
  split at h
  · cases ra; cases rb
    exact op_add pins s σ H _ _ v u Q I rx ry ⟨_, _, rfl, rfl, post_d' rs h (.int _)⟩
  · cases ra; cases rb
    obtain ⟨hc, h⟩ := h.chk
    exact op_add_str pins s σ H _ _ v u Q I rx ry ⟨_, _, rfl, rfl, by rw [← most_eq]; exact of_decide_eq_true hc, post_d' rs h (.str _)⟩
  · rename_i xs ys
    obtain ⟨hc, h⟩ := h.chk
    have hc := of_decide_eq_true hc
    cases ra with
    | tup t1 r1 =>
      cases rb with
      | tup t2 r2 =>
        refine op_catA pins s σ H _ _ v u Q I rx ry ⟨_, _, _, _, rfl, rfl, t1, t2, by rw [← r1.length, ← r2.length, ← most_eq]; exact hc, fun e => ?_, fun _ e => ?_, fun _ _ => post_t rs h (r1.app r2)⟩
        · subst e
          cases r1
          exact post_d' rs h (.tup t2 r2)
        · subst e
          cases r2
          rw [List.append_nil] at h
          exact post_d' rs h (.tup t1 r1)
  · obtain ⟨xs, e1, h⟩ := h.read (Reader.toLm _)
    obtain ⟨ys, e2, h⟩ := h.read (Reader.toLm _)
    obtain ⟨hc, h⟩ := h.chk
    have hc := of_decide_eq_true hc
    obtain ⟨p, vs, rfl, hp, r1⟩ := ra.toLm rs e1
    obtain ⟨q, ws, rfl, hq, r2⟩ := rb.toLm rs e2
    exact op_cat pins s σ H _ _ v u Q I rx ry ⟨p, q, vs, ws, rfl, rfl, hp, hq, by rw [← r1.length, ← r2.length, ← most_eq]; exact hc, post_l rs h (r1.app r2)⟩
  · cases ra; cases rb
    exact op_sub pins s σ H _ _ v u Q I rx ry ⟨_, _, rfl, rfl, post_d' rs h (.int _)⟩
  · cases ra; cases rb
    obtain ⟨hc, h⟩ := h.chk
    refine op_mul pins s σ H _ _ v u Q I rx ry ⟨_, _, rfl, rfl, ?_, post_d' rs h (.int _)⟩
    rcases (Bool.or_eq_true _ _).mp hc with hc | hc
    · exact .inl (of_decide_eq_true hc)
    · exact .inr (of_decide_eq_true hc)
  · obtain ⟨hc, h⟩ := h.chk
    obtain ⟨h1, h2, h3⟩ := of_decide_eq_true hc
    cases ra with
    | tup t1 r1 =>
      cases rb
      refine op_repA pins s σ H _ _ v u Q I rx ry ⟨_, _, _, rfl, rfl, t1, by rw [← r1.length]; exact h1, h2, h3, fun z => ?_, fun _ => post_t rs h (r1.rep _)⟩
      rw [rep_same (z.imp_left fun e => by subst e; cases r1; rfl)] at h
      exact post_d' rs h (.tup t1 r1)
  · obtain ⟨xs, e1, h⟩ := h.read (Reader.toLm _)
    obtain ⟨hc, h⟩ := h.chk
    obtain ⟨h1, h2, h3⟩ := of_decide_eq_true hc
    obtain ⟨p, vs, rfl, hp, r1⟩ := ra.toLm rs e1
    cases rb
    exact op_rep pins s σ H _ _ v u Q I rx ry ⟨p, _, vs, rfl, rfl, hp, by omega, by omega, by rw [← r1.length, ← most_eq]; exact h3, post_l rs h (r1.rep _)⟩
  · cases ra; cases rb
    obtain ⟨hc, h⟩ := h.chk
    exact op_fdiv pins s σ H _ _ v u Q I rx ry ⟨_, _, rfl, rfl, (by have z := of_decide_eq_true hc; exact z), post_d' rs h (.int _)⟩
  · cases ra; cases rb
    obtain ⟨hc, h⟩ := h.chk
    exact op_mod pins s σ H _ _ v u Q I rx ry ⟨_, _, rfl, rfl, of_decide_eq_true hc, post_d' rs h (.int _)⟩
  · cases ra; cases rb
    obtain ⟨hc, h⟩ := h.chk
    exact op_pow pins s σ H _ _ v u Q I rx ry ⟨_, _, rfl, rfl, (by have z := of_decide_eq_true hc; exact z), post_d' rs h (.int _)⟩
  · exact h.elim
end
end Mi

-- MiD
set_option Elab.async false
set_option linter.all false
set_option maxRecDepth 100000
namespace Mi
open PySem L2 PyProof.Rows

/-! ### as data -/
theorem Option.map_some' {α β : Type} {f : α → β} {o : Option α} {b : β} (h : o.map f = some b) : ∃ a, o = some a ∧ f a = b := by
  cases o with
  | none => cases h
  | some a => exact ⟨a, rfl, Option.some.inj h⟩
theorem allPy_dp {K : Frag} {H : Hp} {μ : List Addr} {f : D → Option PyData} (g : ∀ d p v, f d = some p → p.hasDict = false → RD K H μ d v → Dp K H v p) :
    ∀ (xs : List D) (ps : List PyData) (vs : List V), allPy f xs = some ps → PyData.hasDictAll ps = false → RDs K H μ xs vs → DpAll K H vs ps
  | [], ps, vs, e, _, r => by
    cases r
    cases e
    exact .nil
  | x :: xs, ps, vs, e, h, r => by
    unfold allPy at e
    cases r with
    | cons r1 r2 =>
      split at e
      · rename_i p qs e1 e2
        cases e
        have h' : p.hasDict = false ∧ PyData.hasDictAll qs = false := by simpa [PyData.hasDictAll] using h
        exact .cons (g x p _ e1 h'.1 r1) (allPy_dp g xs qs _ e2 h'.2 r2)
      · cases e
theorem toPy_dp {K : Frag} {H : Hp} {μ : List Addr} {S : Sto} (rs : RS K H μ S) : ∀ (n : Nat) (d : D) (p : PyData) (v : V), toPy S n d = some p → p.hasDict = false → RD K H μ d v → Dp K H v p
  | 0, _, _, _, e, _, _ => by cases e
  | n + 1, .non, _, _, e, _, r => by cases e; cases r; exact .non
  | n + 1, .bl b, _, _, e, _, r => by cases e; cases r; exact .bl b
  | n + 1, .int i, _, _, e, _, r => by cases e; cases r; exact .int i
  | n + 1, .str x, _, _, e, _, r => by cases e; cases r; exact .str x
  | n + 1, .tup xs, p, v, e, h, r => by
    obtain ⟨ps, e1, rfl⟩ := Option.map_some' (show (allPy (toPy S n) xs).map PyData.tuple = some p from e)
    cases r with
    | tup t rr => exact .tup t (allPy_dp (fun d p v => toPy_dp rs n d p v) xs ps _ e1 (by simpa [PyData.hasDict] using h) rr)
  | n + 1, .ref a, p, v, e, h, r => by
    cases r with
    | ref hn =>
      unfold toPy at e
      cases q : S[a]? with
      | none => rw [q] at e; cases e
      | some c =>
        rw [q] at e
        have rc := rs.cell a c _ q hn
        cases c with
        | lst xs =>
          obtain ⟨ps, e1, rfl⟩ := Option.map_some' e
          obtain ⟨vs, h1, h2⟩ := rc
          exact .lst (.inl (.inl h1)) (allPy_dp (fun d p v => toPy_dp rs n d p v) xs ps _ e1 (by simpa [PyData.hasDict] using h) h2)
        | ro xs =>
          obtain ⟨ps, e1, rfl⟩ := Option.map_some' e
          obtain ⟨vs, h1, h2⟩ := rc
          exact .lst (.inl h1) (allPy_dp (fun d p v => toPy_dp rs n d p v) xs ps _ e1 (by simpa [PyData.hasDict] using h) h2)
        | dic k kvs =>
          cases kvs with
          | nil => cases e; simp [PyData.hasDict] at h
          | cons _ _ => cases e
        | _ => cases e
theorem v2Py_dp {K : Frag} {H : Hp} {μ : List Addr} {S S' : Sto} (rs : RS K H μ S) {a : V2} {p : PyData} {v : V} (e : v2Py a S = .ok p S') (h : p.hasDict = false) (r : RW K H μ a v) : Dp K H v p := by
  unfold v2Py at e
  cases a with
  | d x =>
    simp only at e
    split at e
    · rename_i q e1
      injection e with e2 _
      subst e2
      exact toPy_dp rs deep x _ v e1 h r
    · cases e
  | l xs =>
    simp only at e
    split at e
    · rename_i q e1
      injection e with e2 _
      subst e2
      obtain ⟨p, vs, rfl, h1, _, h4⟩ := r
      exact .lst (.inl (.inl h1)) (allPy_dp (fun d p v => toPy_dp rs deep d p v) xs _ _ e1 (by simpa [PyData.hasDict] using h) h4)
    · cases e
theorem okPy_hd {p : PyData} (h : okPy p = true) : p.hasDict = false := PyData.hasDict_of_canLay p (SeqAt.canLay_of_shaped h)
theorem allPy_depth {f : D → Option PyData} {n : Nat} (g : ∀ d p, f d = some p → p.depth ≤ n) : ∀ (xs : List D) (ps : List PyData), allPy f xs = some ps → PyData.depthAll ps ≤ n
  | [], ps, e => by cases e; simp [PyData.depthAll]
  | x :: xs, ps, e => by
    unfold allPy at e
    split at e
    · rename_i p qs e1 e2
      cases e
      have h1 := g x p e1
      have h2 := allPy_depth g xs qs e2
      simp only [PyData.depthAll]
      omega
    · cases e
theorem toPy_depth {S : Sto} : ∀ (n : Nat) (d : D) (p : PyData), toPy S n d = some p → p.depth ≤ n
  | 0, _, _, e => by cases e
  | n + 1, .non, _, e => by cases e; simp [PyData.depth]
  | n + 1, .bl b, _, e => by cases e; simp [PyData.depth]
  | n + 1, .int b, _, e => by cases e; simp [PyData.depth]
  | n + 1, .str b, _, e => by cases e; simp [PyData.depth]
  | n + 1, .tup xs, p, e => by
    obtain ⟨ps, e1, rfl⟩ := Option.map_some' (show (allPy (toPy S n) xs).map PyData.tuple = some p from e)
    have := allPy_depth (fun d p => toPy_depth n d p) xs ps e1
    simp only [PyData.depth]
    omega
  | n + 1, .ref a, p, e => by
    unfold toPy at e
    split at e
    · rename_i xs _
      obtain ⟨ps, e1, rfl⟩ := Option.map_some' e
      have := allPy_depth (fun d p => toPy_depth n d p) xs ps e1
      simp only [PyData.depth]
      omega
    · rename_i xs _
      obtain ⟨ps, e1, rfl⟩ := Option.map_some' e
      have := allPy_depth (fun d p => toPy_depth n d p) xs ps e1
      simp only [PyData.depth]
      omega
    · cases e
      simp [PyData.depth, PyData.depthKv]
    · cases e
theorem v2Py_depth {S S' : Sto} {a : V2} {p : PyData} (e : v2Py a S = .ok p S') : p.depth ≤ deep + 1 := by
  unfold v2Py at e
  cases a with
  | d x =>
    simp only at e
    split at e
    · rename_i q e1
      injection e with e2 _
      subst e2
      exact Nat.le_succ_of_le (toPy_depth deep x _ e1)
    · cases e
  | l xs =>
    simp only at e
    split at e
    · rename_i q e1
      injection e with e2 _
      subst e2
      have := allPy_depth (fun d p => toPy_depth deep d p) xs _ e1
      simp only [PyData.depth]
      omega
    · cases e

/-! ### comparisons -/
def cOf : Cop → CmpOp
  | .eq => .Eq
  | .ne => .NotEq
  | .lt => .Lt
  | .le => .LtE
  | .gt => .Gt
  | .ge => .GtE
  | .is => .Is
  | .isn => .IsNot
  | .mem => .In
  | .nmem => .NotIn
/-- a comparison by g -/
def rMB (K : Frag) (g : V2 → V2 → M Bool) : R2 := fun x y H Q => ∃ ex μ S a b, RS K H μ S ∧ RW K H μ a x ∧ RW K H μ b y ∧ Post K (fun _ H' _ r => Q (.bl r) H') ex μ H (g a b S)
section
variable {X : Cx}
theorem scal_rd {K : Frag} {H : Hp} {μ : List Addr} {a b : D} {x y : V} (h : Mi.scal a b = true) (ra : RD K H μ a x) (rb : RD K H μ b y) : L2.scal x y = true ∧ decide (a = b) = decide (x = y) := by
  cases a <;> cases b <;> first | (cases h; done) | (cases ra; cases rb; exact ⟨rfl, by simp⟩)
/-- what eqV gives -/
def EqOk (K : Frag) (H : Hp) (x y : V) (r : Bool) : Prop := (L2.scal x y = true ∧ r = decide (x = y)) ∨ ∃ p q, Dp K H x p ∧ Dp K H y q ∧ SeqAt.shaped p = true ∧ SeqAt.shaped q = true ∧ r = PyData.eqv p q
theorem eqData_post {K : Frag} {H : Hp} {μ : List Addr} {S : Sto} {ex : List Addr → Hp → Sto → Exc → Prop} {α : Type} {ok : List Addr → Hp → Sto → α → Prop} {a b : V2} {x y : V} {f : Bool → M α} (rs : RS K H μ S) (ra : RW K H μ a x) (rb : RW K H μ b y)
    (h : Post K ok ex μ H ((eqData a b >>= f) S)) : ∃ r, Post K ok ex μ H (f r S) ∧ EqOk K H x y r := by
  unfold eqData at h
  rw [M.assoc] at h
  obtain ⟨p, e1, h⟩ := h.read (Reader.v2Py a)
  rw [M.assoc] at h
  obtain ⟨q, e2, h⟩ := h.read (Reader.v2Py b)
  rw [M.assoc] at h
  obtain ⟨hc, h⟩ := h.chk
  obtain ⟨c1, c2⟩ := (Bool.and_eq_true _ _).mp hc
  exact ⟨_, h, .inr ⟨p, q, v2Py_dp rs e1 (okPy_hd c1) ra, v2Py_dp rs e2 (okPy_hd c2) rb, c1, c2, rfl⟩⟩
theorem eqV_post {K : Frag} {H : Hp} {μ : List Addr} {S : Sto} {ex : List Addr → Hp → Sto → Exc → Prop} {α : Type} {ok : List Addr → Hp → Sto → α → Prop} {a b : V2} {x y : V} {f : Bool → M α} (rs : RS K H μ S) (ra : RW K H μ a x) (rb : RW K H μ b y)
    (h : Post K ok ex μ H ((Mi.eqV a b >>= f) S)) : ∃ r, Post K ok ex μ H (f r S) ∧ EqOk K H x y r := by
  unfold Mi.eqV at h
  split at h
  · rename_i x' y'
    by_cases hs : Mi.scal x' y' = true
    · rw [if_pos hs] at h
      obtain ⟨s1, s2⟩ := scal_rd hs ra rb
      exact ⟨_, h, .inl ⟨s1, s2⟩⟩
    · rw [if_neg hs] at h
      exact eqData_post rs ra rb h
  · exact eqData_post rs ra rb h
/-! dicts with plain keys -/
theorem keyD_inj {k j : Key} (h : keyD k = keyD j) : k = j := by
  cases k <;> cases j <;> simp [keyD] at h <;> rw [h]
theorem plainK_key {d : D} (h : plainK d = true) : ∃ k, d = keyD k := by
  cases d with
  | int i => exact ⟨.inl i, rfl⟩
  | str x => exact ⟨.inr x, rfl⟩
  | _ => cases h
theorem RD.key {K : Frag} {H : Hp} {μ : List Addr} {k : Key} {v : V} (r : RD K H μ (keyD k) v) : v = kV k := by
  cases k with
  | inl i => cases r; rfl
  | inr x => cases r; rfl
theorem RKV.get {K : Frag} {H : Hp} {μ : List Addr} {kvs : List (D × D)} {ps : List (Key × V)} (r : RKV K H μ keyD kvs ps) (k : Key) :
    match dget kvs (keyD k) with
    | some d => ∃ v, valV ps k = some v ∧ RD K H μ d v
    | none => valV ps k = none := by
  induction r with
  | nil => exact rfl
  | @cons j d v ds vs h _ ih =>
    unfold dget
    by_cases e : j = k
    · subst e
      rw [if_pos rfl]
      exact ⟨v, valV_pos rfl, h⟩
    · rw [if_neg (fun z => e (keyD_inj z)), valV_neg (p := (j, v)) e]
      exact ih
theorem RKV.any {K : Frag} {H : Hp} {μ : List Addr} {kvs : List (D × D)} {ps : List (Key × V)} (r : RKV K H μ keyD kvs ps) (k : Key) : kvs.any (fun p => decide (p.1 = keyD k)) = ps.any (fun kv => decide (kv.1 = k)) := by
  induction r with
  | nil => rfl
  | @cons j d v ds vs h _ ih =>
    rw [List.any_cons, List.any_cons, ih]
    congr 1
    by_cases e : j = k
    · rw [e]; simp
    · rw [decide_eq_false e, decide_eq_false (fun z => e (keyD_inj z))]
theorem RKV.mapK {K : Frag} {H : Hp} {μ : List Addr} {kvs : List (D × D)} {ps : List (Key × V)} (r : RKV K H μ keyD kvs ps) (k : Key) {d : D} {v : V} (h : RD K H μ d v) :
    RKV K H μ keyD (kvs.map (fun p => if p.1 = keyD k then (p.1, d) else p)) (ps.map (fun kv => if kv.1 = k then (kv.1, v) else kv)) := by
  induction r with
  | nil => exact .nil
  | @cons j d' v' ds vs h' _ ih =>
    rw [List.map_cons, List.map_cons]
    by_cases e : j = k
    · subst e
      rw [if_pos rfl, if_pos rfl]
      exact .cons h ih
    · rw [if_neg (fun z => e (keyD_inj z)), if_neg e]
      exact .cons h' ih
theorem RKV.snoc {K : Frag} {H : Hp} {μ : List Addr} {kvs : List (D × D)} {ps : List (Key × V)} (r : RKV K H μ keyD kvs ps) (k : Key) {d : D} {v : V} (h : RD K H μ d v) : RKV K H μ keyD (kvs ++ [(keyD k, d)]) (ps ++ [(k, v)]) := by
  induction r with
  | nil => exact .cons h .nil
  | cons h' _ ih => exact .cons h' ih
theorem RKV.put {K : Frag} {H : Hp} {μ : List Addr} {kvs : List (D × D)} {ps : List (Key × V)} (r : RKV K H μ keyD kvs ps) (k : Key) {d : D} {v : V} (h : RD K H μ d v) : RKV K H μ keyD (dput kvs (keyD k) d) (putK ps k v) := by
  unfold dput putK
  rw [r.any k]
  split
  · exact r.mapK k h
  · exact r.snoc k h
theorem RKV.length {K : Frag} {H : Hp} {μ : List Addr} {kvs : List (D × D)} {ps : List (Key × V)} (r : RKV K H μ keyD kvs ps) : kvs.length = ps.length := by
  induction r with
  | nil => rfl
  | cons _ _ ih => rw [List.length_cons, List.length_cons, ih]
/-- the dict that a name's cell is -/
theorem dic_at {K : Frag} {H : Hp} {μ : List Addr} {S S' : Sto} (rs : RS K H μ S) {n : Nat} {k : DK} {kvs : List (D × D)} {v : V} (e : dicAt n S = .ok (k, kvs) S') (r : RD K H μ (.ref n) v) :
    ∃ a ps, v = .ref a ∧ μ[n]? = some a ∧ S[n]? = some (.dic k kvs) ∧ k = .k ∧ H a = some (.dK ps) ∧ RKV K H μ keyD kvs ps := by
  cases r with
  | ref hn =>
    unfold dicAt at e
    cases q : S[n]? with
    | none => rw [q] at e; cases e
    | some c =>
      rw [q] at e
      cases c with
      | dic k' kvs' =>
        injection e with e1 _
        cases e1
        have rc := rs.cell n _ _ q hn
        cases k with
        | k =>
          obtain ⟨ps, h1, h2⟩ := rc
          exact ⟨_, ps, rfl, hn, rfl, rfl, h1, h2⟩
        | _ => exact rc.elim
      | _ => cases e
theorem memV_post {K : Frag} {H : Hp} {μ : List Addr} {S : Sto} {ex : List Addr → Hp → Sto → Exc → Prop} {α : Type} {ok : List Addr → Hp → Sto → α → Prop} {a : V2} {ys : List D} {x : V} {f : Bool → M α} (rs : RS K H μ S) (ra : RW K H μ a x)
    {p : Addr} {vs : List V} (hs : SqL K H p vs ∨ SqT K H p vs) (r : RDs K H μ ys vs) (h : Post K ok ex μ H ((memV a ys >>= f) S)) :
    ∃ d ds, Dp K H x d ∧ (Dp K H (.ref p) (.list ds) ∨ Dp K H (.ref p) (.tuple ds)) ∧ SeqAt.shaped d = true ∧ SeqAt.shaped (.list ds) = true ∧ Post K ok ex μ H (f (ds.any fun z => PyData.eqv z d) S) := by
  unfold memV at h
  rw [M.assoc] at h
  obtain ⟨d, e1, h⟩ := h.read (Reader.v2Py a)
  rw [M.assoc] at h
  obtain ⟨q, e2, h⟩ := h.read (Reader.v2Py (.l ys))
  rw [M.assoc] at h
  obtain ⟨hc, h⟩ := h.chk
  obtain ⟨c1, c2⟩ := (Bool.and_eq_true _ _).mp hc
  have e2' : v2Py (.l ys) S = .ok q S := e2
  unfold v2Py at e2'
  simp only at e2'
  cases q2 : allPy (toPy S deep) ys with
  | none => rw [q2] at e2'; cases e2'
  | some ds =>
    rw [q2] at e2'
    injection e2' with e3 _
    subst e3
    have hd : PyData.hasDictAll ds = false := by have := okPy_hd c2; simpa [PyData.hasDict] using this
    have da := allPy_dp (fun d p v => toPy_dp rs deep d p v) ys ds vs q2 hd r
    refine ⟨d, ds, v2Py_dp rs e1 (okPy_hd c1) ra, ?_, c1, c2, h⟩
    rcases hs with hs | hs
    · exact .inl (.lst hs da)
    · exact .inr (.tup hs da)
theorem in_seq_ok (hu : X.A.units + 65 < cLine) {pins : List (Addr × Obj)} {s : Shared} {σ : L2.St} {H : Hp} {x y : V} {v u : Value} {Q : VK} (I : L2.Inv X pins σ H s) (rx : RelV x v) (ry : RelV y u) {d : PyData} {ds : List PyData}
    (hd : Dp X.K H x d) (he : Dp X.K H y (.list ds) ∨ Dp X.K H y (.tuple ds)) (sd : SeqAt.shaped d = true) (se : SeqAt.shaped (.list ds) = true) (q : Q (.bl (ds.any fun z => PyData.eqv z d)) H) :
    wpAny (model X.prog X.w) X.A (compareOp .In v u) (EP X pins σ Q) X.xe s := by
  obtain ⟨as, r1⟩ := Dp.reads I d x v hd rx
  rcases he with he | he
  · exact op_inD hu pins s σ H x y v u Q I rx ry ⟨d, ds, hd, he, sd, se, q⟩
  · obtain ⟨bs, r2⟩ := Dp.reads I (.tuple ds) y u he ry
    exact SeqAt.in_tuple_reads r2 r1 (SeqAt.canLay_of_shaped se) (SeqAt.canLay_of_shaped sd) (room_in_shaped sd hu) ⟨.bl _, H, I, rfl, q⟩
theorem notIn_seq_ok (hu : X.A.units + 65 < cLine) {pins : List (Addr × Obj)} {s : Shared} {σ : L2.St} {H : Hp} {x y : V} {v u : Value} {Q : VK} (I : L2.Inv X pins σ H s) (rx : RelV x v) (ry : RelV y u) {d : PyData} {ds : List PyData}
    (hd : Dp X.K H x d) (he : Dp X.K H y (.list ds) ∨ Dp X.K H y (.tuple ds)) (sd : SeqAt.shaped d = true) (se : SeqAt.shaped (.list ds) = true) (q : Q (.bl (!ds.any fun z => PyData.eqv z d)) H) :
    wpAny (model X.prog X.w) X.A (compareOp .NotIn v u) (EP X pins σ Q) X.xe s := by
  obtain ⟨as, r1⟩ := Dp.reads I d x v hd rx
  rcases he with he | he
  · exact op_notInD hu pins s σ H x y v u Q I rx ry ⟨d, ds, hd, he, sd, se, q⟩
  · obtain ⟨bs, r2⟩ := Dp.reads I (.tuple ds) y u he ry
    exact SeqAt.notIn_tuple_reads r2 r1 (SeqAt.canLay_of_shaped se) (SeqAt.canLay_of_shaped sd) (room_in_shaped sd hu) ⟨.bl _, H, I, rfl, q⟩
/-- what inV gives -/
def InOk (K : Frag) (H : Hp) (x y : V) (r : Bool) : Prop := (∃ d ds, Dp K H x d ∧ (Dp K H y (.list ds) ∨ Dp K H y (.tuple ds)) ∧ SeqAt.shaped d = true ∧ SeqAt.shaped (.list ds) = true ∧ r = ds.any fun z => PyData.eqv z d) ∨
      ∃ p o, y = .ref p ∧ DGet H p x o ∧ r = o.isSome
theorem inSeq_post {K : Frag} {H : Hp} {μ : List Addr} {S : Sto} {ex : List Addr → Hp → Sto → Exc → Prop} {α : Type} {ok : List Addr → Hp → Sto → α → Prop} {a b : V2} {x y : V} {f : Bool → M α} (rs : RS K H μ S) (ra : RW K H μ a x) (rb : RW K H μ b y)
    (h : Post K ok ex μ H ((inSeq a b >>= f) S)) : ∃ r, Post K ok ex μ H (f r S) ∧ InOk K H x y r := by
  unfold inSeq at h
  rw [M.assoc] at h
  obtain ⟨ys, e1, h⟩ := h.read (Reader.toSeq b)
  obtain ⟨p, vs, rfl, hs, r⟩ := rb.toSeq rs e1
  obtain ⟨d, ds, h1, h2, h3, h4, h5⟩ := memV_post rs ra hs r h
  exact ⟨_, h5, .inl ⟨d, ds, h1, h2, h3, h4, rfl⟩⟩
theorem inV_post {K : Frag} {H : Hp} {μ : List Addr} {S : Sto} {ex : List Addr → Hp → Sto → Exc → Prop} {α : Type} {ok : List Addr → Hp → Sto → α → Prop} {a b : V2} {x y : V} {f : Bool → M α} (rs : RS K H μ S) (ra : RW K H μ a x) (rb : RW K H μ b y)
    (h : Post K ok ex μ H ((inV a b >>= f) S)) : ∃ r, Post K ok ex μ H (f r S) ∧ InOk K H x y r := by
  unfold inV at h
  split at h
  · rename_i x' n
    rw [M.assoc] at h
    obtain ⟨c, e0, h⟩ := h.read (Reader.isDic n)
    cases c with
    | false => exact inSeq_post rs ra rb h
    | true =>
      rw [if_pos rfl] at h
      unfold inDic at h
      rw [M.assoc] at h
      obtain ⟨⟨k, kvs⟩, e1, h⟩ := h.read (Reader.dicAt n)
      rw [M.assoc] at h
      obtain ⟨hc, h⟩ := h.chk
      obtain ⟨p, ps, rfl, _, _, rfl, h1, h2⟩ := dic_at rs e1 rb
      obtain ⟨k, rfl⟩ := plainK_key hc
      have g := h2.get k
      refine ⟨_, h, .inr ⟨p, valV ps k, rfl, ?_, ?_⟩⟩
      · rw [RD.key ra]
        exact DGet.k h1
      · cases q : dget kvs (keyD k) with
        | none => rw [q] at g; rw [g]; rfl
        | some d =>
          rw [q] at g
          obtain ⟨v, g1, _⟩ := g
          rw [g1]; rfl
  · exact inSeq_post rs ra rb h
theorem cmpInt_post {K : Frag} {H : Hp} {μ : List Addr} {S : Sto} {ex : List Addr → Hp → Sto → Exc → Prop} {a b : V2} {x y : V} {Q : VK} {o : Cop} (rs : RS K H μ S) (ra : RW K H μ a x) (rb : RW K H μ b y)
    (h : Post K (fun _ H' _ r => Q (.bl r) H') ex μ H (cmpInt o a b S)) : ∃ i j r, x = .int i ∧ y = .int j ∧ cmpI o i j = some r ∧ Q (.bl r) H := by
  unfold cmpInt at h
  split at h
  · rename_i i j
    cases ra; cases rb
    cases q : cmpI o i j with
    | none => rw [q] at h; exact h.elim
    | some r =>
      rw [q] at h
      exact ⟨i, j, r, rfl, rfl, q, h μ H Ext.refl rs⟩
  · exact h.elim
theorem op_cmp (hu : X.A.units + 65 < cLine) (o : Cop) : OpR X (compareOp (cOf o)) (rMB X.K (cmpV o)) := by
  intro pins s σ H x y v u Q I rx ry ⟨ex, μ, S, a, b, rs, ra, rb, h⟩
  cases o with
  | eq =>
    have h : Post X.K (fun _ H' _ r => Q (.bl r) H') ex μ H (Mi.eqV a b S) := h
    rw [← M.right (Mi.eqV a b)] at h
    obtain ⟨r, q, z⟩ := eqV_post rs ra rb h
    have q := q μ H Ext.refl rs
    rcases z with ⟨z1, rfl⟩ | ⟨d, e, z1, z2, z3, z4, rfl⟩
    · exact op_eq pins s σ H x y v u Q I rx ry ⟨z1, q⟩
    · exact op_eqD (by omega) pins s σ H x y v u Q I rx ry ⟨d, e, z1, z2, z3, z4, q⟩
  | ne =>
    have h : Post X.K (fun _ H' _ r => Q (.bl r) H') ex μ H ((Mi.eqV a b >>= fun r => pure (!r)) S) := h
    obtain ⟨r, q, z⟩ := eqV_post rs ra rb h
    have q := q μ H Ext.refl rs
    rcases z with ⟨z1, rfl⟩ | ⟨d, e, z1, z2, z3, z4, rfl⟩
    · exact op_ne pins s σ H x y v u Q I rx ry ⟨z1, q⟩
    · exact op_neD (by omega) pins s σ H x y v u Q I rx ry ⟨d, e, z1, z2, z3, z4, q⟩
  | lt =>
    obtain ⟨i, j, r, rfl, rfl, e, q⟩ := cmpInt_post (o := .lt) rs ra rb h
    cases e
    exact op_lt pins s σ H _ _ v u Q I rx ry ⟨i, j, rfl, rfl, q⟩
  | le =>
    obtain ⟨i, j, r, rfl, rfl, e, q⟩ := cmpInt_post (o := .le) rs ra rb h
    cases e
    exact op_le pins s σ H _ _ v u Q I rx ry ⟨i, j, rfl, rfl, q⟩
  | gt =>
    obtain ⟨i, j, r, rfl, rfl, e, q⟩ := cmpInt_post (o := .gt) rs ra rb h
    cases e
    exact op_gt pins s σ H _ _ v u Q I rx ry ⟨i, j, rfl, rfl, q⟩
  | ge =>
    obtain ⟨i, j, r, rfl, rfl, e, q⟩ := cmpInt_post (o := .ge) rs ra rb h
    cases e
    exact op_ge pins s σ H _ _ v u Q I rx ry ⟨i, j, rfl, rfl, q⟩
  | is =>
    unfold cmpV at h
    simp only at h
    split at h
    · rename_i x'
      cases rb
      have q := h μ H Ext.refl rs
      refine op_isN pins s σ H x _ v u Q I rx ry ⟨rfl, ?_⟩
      have e : decide (x' = D.non) = decide (x = V.non) := by cases ra <;> simp
      rw [← e]; exact q
    · rename_i x' y'
      cases ra; cases rb
      exact op_isBl pins s σ H _ _ v u Q I rx ry ⟨x', y', rfl, rfl, h μ H Ext.refl rs⟩
    · exact h.elim
  | isn =>
    unfold cmpV at h
    simp only at h
    split at h
    · rename_i x'
      cases rb
      have q := h μ H Ext.refl rs
      refine op_notN pins s σ H x _ v u Q I rx ry ⟨rfl, ?_⟩
      have e : decide (x' = D.non) = decide (x = V.non) := by cases ra <;> simp
      rw [← e]; exact q
    · rename_i x' y'
      cases ra; cases rb
      exact op_notBl pins s σ H _ _ v u Q I rx ry ⟨x', y', rfl, rfl, h μ H Ext.refl rs⟩
    · exact h.elim
  | mem =>
    have h : Post X.K (fun _ H' _ r => Q (.bl r) H') ex μ H (inV a b S) := h
    rw [← M.right (inV a b)] at h
    obtain ⟨r, q, z⟩ := inV_post rs ra rb h
    have q := q μ H Ext.refl rs
    rcases z with ⟨d, ds, z1, z2, z3, z4, rfl⟩ | ⟨p, o, rfl, g, rfl⟩
    · exact in_seq_ok hu I rx ry z1 z2 z3 z4 q
    · cases ry
      exact d_in (by omega) I g rx fun s3 I3 => ⟨.bl o.isSome, H, I3, rfl, q⟩
  | nmem =>
    have h : Post X.K (fun _ H' _ r => Q (.bl r) H') ex μ H ((inV a b >>= fun r => pure (!r)) S) := h
    obtain ⟨r, q, z⟩ := inV_post rs ra rb h
    have q := q μ H Ext.refl rs
    rcases z with ⟨d, ds, z1, z2, z3, z4, rfl⟩ | ⟨p, o, rfl, g, rfl⟩
    · exact notIn_seq_ok hu I rx ry z1 z2 z3 z4 q
    · cases ry
      exact d_notIn (by omega) I g rx fun s3 I3 => ⟨.bl (!o.isSome), H, I3, rfl, q⟩
end
end Mi

-- MiE
set_option Elab.async false
set_option linter.all false
set_option maxRecDepth 100000
/-! Mi, part E: subscripts, slices, built-in functions, methods by values. -/
namespace Mi
open PySem L2 PyProof.Rows

theorem ixAt_eq {α : Type} (xs : List α) (i : Int) : ixAt xs i = atI xs i := by
  unfold ixAt atI ixN
  by_cases h : 0 ≤ i
  · rw [if_pos h, if_pos h]
    by_cases h1 : i < xs.length
    · rw [if_pos h1, if_pos h1]; rfl
    · rw [if_neg h1, if_neg h1]; rfl
  · rw [if_neg h, if_neg h]
    by_cases h1 : -(xs.length : Int) ≤ i
    · rw [if_pos h1, if_pos h1]; rfl
    · rw [if_neg h1, if_neg h1]; rfl
theorem RDs.atI {K : Frag} {H : Hp} {μ : List Addr} {ds : List D} {vs : List V} {i : Int} {d : D} (r : RDs K H μ ds vs) (h : ixAt ds i = some d) : ∃ v, L2.atI vs i = some v ∧ RD K H μ d v := by
  rw [ixAt_eq] at h
  unfold L2.atI at h ⊢
  rw [← r.length]
  cases e : ixN ds.length i with
  | none => rw [e] at h; cases h
  | some j =>
    rw [e] at h
    exact r.get' h

/-! ### a tuple, read backwards -/
section
variable {prog : Program} {w : World} {A : Around} {E : Value → Shared → Prop} {s : Shared}
open HT in
theorem sliceApplied_rev {sl : Addr} {n : Nat} {k : Tok} {Q : Int × Int × Nat → Shared → Prop} (hs : s.heap.IsSliceOf sl .none .none (.int (-1) k)) (h : Q ((n : Int) - 1, -1, n) s) :
    wpAny (model prog w) A (Builtin.Slice.sliceApplied (.ref sl) (pure (n : Int))) Q E s := by
  obtain ⟨os, hos, hcs, hds⟩ := id hs
  have hp : Builtin.Slice.slicePlaces ((n : Int) - 1) (-1) (-1) = n := by
    unfold Builtin.Slice.slicePlaces
    have h1 : ¬ ((-1 : Int) > 0) := by omega
    simp only [h1, if_false]
    by_cases h2 : (n : Int) - 1 > -1
    · simp only [h2, if_true]
      rw [show (-(-1 : Int)) = 1 by decide, Int.ediv_one]
      omega
    · simp only [h2, if_false]
      omega
  unfold Builtin.Slice.sliceApplied Builtin.Slice.sliceFields
  refine wpAny_bind (wpAny_bind (wpAny_field hos hds (x := .none) rfl (wpAny_bind (wpAny_field hos hds (x := .none) rfl (wpAny_bind (wpAny_field hos hds (x := .int (-1) k) rfl (wpAny_pure ?_)))))))
  refine wpAny_bind (slicePart_int ?_)
  show wpAny _ _ (if ((-1 : Int) == 0) = true then _ else _) _ _ s
  rw [if_neg (by decide)]
  refine wpAny_bind (slicePart_none (wpAny_bind (slicePart_none (wpAny_bind (wpAny_pure ?_)))))
  show wpAny _ _ (pure ((n : Int) - 1, (-1 : Int), Builtin.Slice.slicePlaces ((n : Int) - 1) (-1) (-1))) _ _ s
  rw [hp]
  exact wpAny_pure h
theorem pick_rev (xs : Array Value) : ((List.range xs.size).filterMap fun (m : Nat) => xs[((xs.size : Int) - 1 + (m : Int) * (-1)).toNat]?).toArray = xs.toList.reverse.toArray := by
  have e : (fun (m : Nat) => xs[((xs.size : Int) - 1 + (m : Int) * (-1)).toNat]?) = (fun k => xs[k]?) ∘ fun m => xs.size - 1 - m := by
    funext m
    have : ((xs.size : Int) - 1 + (m : Int) * (-1)).toNat = xs.size - 1 - m := by omega
    show xs[((xs.size : Int) - 1 + (m : Int) * (-1)).toNat]? = xs[xs.size - 1 - m]?
    rw [this]
  rw [e, ← List.filterMap_map, PySem.W.krv_range, List.filterMap_reverse, PySem.W.krv_all]
open HT in
theorem getItem_tuple_rev {t sl : Addr} {items : Array Value} {k : Tok} {Q : Value → Shared → Prop} (ht : IsTup s.heap t items) (hs : s.heap.IsSliceOf sl .none .none (.int (-1) k))
    (h : Q (.ref s.heap.objs.size) { s with heap := s.heap.push { cls := .type "tuple", data := .seq items.toList.reverse.toArray } })
    (hsz : items.size ≤ sizeLine) : wpAny (model prog w) A (getItem (.ref t) (.ref sl)) Q E s := by
  have htake : sizeOk (.seq items.toList.reverse.toArray) := by
    show items.toList.reverse.toArray.size ≤ sizeLine
    rw [List.size_toArray, List.length_reverse, Array.length_toList]
    exact hsz
  obtain ⟨os, hos, hcs, hds⟩ := id hs
  have hTs : s.TypeIs (.ref sl) "slice" := ⟨os, hos, hcs⟩
  unfold getItem
  try with_reducible refine wpAny_holding ?_
  first | refine wpAny_bind (wpAny_pure ?_) | skip
  refine wpAny_bind (wpAny_sequenceKey ht.typeIs (by decide) ?_)
  refine wpAny_bind (wpAny_callSpecial?_slot (name := Str.ofString "__getitem__") ht.typeIs PyProof.Rows.slot_tuple_getitem
    (wpAny_call_entry PyProof.Rows.slot_tuple_getitem ht.typeIs entry_tuple_getitem ?_ (args_tuple_getitem _ _)))
  show wpAny _ _ (Builtin.Tuple.tupleItemsOf (.ref t) >>= _) _ _ s
  refine wpAny_bind (tupleItemsOf_ ht ?_)
  refine wpAny_bind (wpAny_typeOf hTs ?_)
  rw [if_pos (by decide)]
  refine wpAny_bind (sliceApplied_rev hs ?_)
  have hno : ¬ (((items.size : Int) - 1 == 0 && (-1 : Int) == 1 && items.size == items.size) = true) := by
    rw [show ((-1 : Int) == 1) = false by decide, Bool.and_false, Bool.false_and]
    exact Bool.false_ne_true
  show wpAny _ _ (if ((items.size : Int) - 1 == 0 && (-1 : Int) == 1 && items.size == items.size) = true then _ else _) _ _ s
  rw [if_neg hno, pick_rev]
  first
    | exact wpAny_bind (m := Builtin.Tuple.tupleExact _) (wpAny_newObj_type (wpAny_pure ⟨_, rfl, wpAny_pure h⟩) htake)
    | exact wpAny_bind (m := Builtin.Tuple.tupleExact _) (wpAny_newObj_type (wpAny_bind (wpAny_pure (wpAny_pure ⟨_, rfl, wpAny_pure h⟩))) htake)
    | exact wpAny_bind (wpAny_bind (m := Builtin.Tuple.tupleExact _) (wpAny_newObj_type (wpAny_pure (wpAny_pure ⟨_, rfl, wpAny_pure h⟩)) htake))
    | exact wpAny_bind (wpAny_bind (m := Builtin.Tuple.tupleExact _) (wpAny_newObj_type (wpAny_pure ⟨_, rfl, wpAny_pure h⟩) htake))
end
section
variable {X : Cx}
/-- a[::-1], by values -/
def tRev (K : PySem.W.Frag) (te : TE) : TE := fun σ H Q => te σ H fun x H1 => ∃ a xs, x = .ref a ∧ ((SqL K H1 a xs ∧ ∀ p, H1 p = none → Q (.ref p) (upd H1 p (.lst xs.reverse))) ∨ (SqT K H1 a xs ∧ ∀ p, H1 p = none → Q (.ref p) (upd H1 p (.tup xs.reverse))))
theorem pe_rev {e : Expr} {te : TE} {k : Nat} {p1 p2 p3 pos : Pos} (he : PE X e te) : PE X (.Subscript e (.Slice none none (some (.UnaryOp .USub (.Constant (.int 1) k p1) p2)) p3) pos) (tRev X.K te) := by
  refine ⟨fun pins s σ H Q I h => ?_⟩
  refine Subscript_ (thn (he.run pins s σ H _ I h) fun v s1 ⟨x, H1, I1, r1, q1⟩ => ?_)
  obtain ⟨a, xs, ex, hx⟩ := q1
  subst ex
  cases r1
  have hst : PO X (some (.UnaryOp .USub (.Constant (.int 1) k p1) p2)) (tPart (tUn (rU fun i => .int (-i)) (tC (.int 1)))) := po_some (pe_un un_neg pe_int)
  refine wpAny_Slice (thn (po_none.run pins s1 σ H1 (fun o H2 => o = none ∧ H2 = H1) I1 ⟨rfl, rfl⟩) fun vl s2 ⟨l, H2, I2, pl, el, e2⟩ => ?_)
  subst el e2
  refine thn (po_none.run pins s2 σ H2 (fun o H3 => o = none ∧ H3 = H2) I2 ⟨rfl, rfl⟩) fun vu s3 ⟨u, H3, I3, pu, eu, e3⟩ => ?_
  subst eu e3
  refine thn (hst.run pins s3 σ H3 (fun o H4 => o = some (-1) ∧ H4 = H3) I3 ⟨1, rfl, -1, rfl, rfl, rfl⟩) fun vs s4 ⟨o, H4, I4, ps, eo, e4⟩ => ?_
  subst eo e4
  have I5 : L2.Inv X pins σ H4 { s4 with heap := s4.heap.push { cls := .type "slice", data := .fields #[vl, vu, vs] } } := I4.kept (t' := s4.toks) fun b ob q => Heap.get?_push_of_some _ q
  show wpAny (model X.prog X.w) X.A (subscriptTail e (.Slice none none (some (.UnaryOp .USub (.Constant (.int 1) k p1) p2)) p3) (.ref a) (.ref s4.heap.objs.size)) (EP X pins σ Q) X.xe { s4 with heap := s4.heap.push { cls := .type "slice", data := .fields #[vl, vu, vs] } }
  rcases hx with ⟨hx, q⟩ | ⟨hx, q⟩
  · obtain ⟨its, r, ht, hz⟩ := I5.list hx
    have hlen := r.length
    refine tail_any (ops := [.ref a, .ref s4.heap.objs.size]) ht.isList.typeIs (PySem.slot_list_getitem.lookup) ?_ (by with_unfolding_all rfl)
    refine wpAny_getItem_list_slice ht.isList (Heap.IsSliceOf.new _ vl vu vs) pl pu ps (by decide) ?_ (by rw [List.size_toArray]; omega)
    rw [PySem.W.krv_pick]
    refine ⟨.ref _, _, I5.laid (t' := s4.toks) (o := .lst xs.reverse) (fun b ob q => Heap.get?_push_of_some _ q) (Nat.le_refl _) ?_, rfl, q _ (I5.hok.fresh (Nat.le_refl _))⟩
    exact ⟨by rw [List.length_reverse]; exact hz, _, 0, r.reverse, Heap.get?_push_size _ rfl⟩
  · obtain ⟨its, r, ht, hz⟩ := I5.tuple hx
    have hlen := r.length
    cases pl
    cases pu
    cases ps with
    | int _ t0 =>
      refine tail_any (ops := [.ref a, .ref s4.heap.objs.size]) ht.typeIs (PyProof.Rows.slot_tuple_getitem.lookup) ?_ (by with_unfolding_all rfl)
      refine getItem_tuple_rev ht (Heap.IsSliceOf.new _ .none .none (.int (-1) t0)) ?_ (by rw [List.size_toArray]; omega)
      refine ⟨.ref _, _, I5.laid (t' := s4.toks) (o := .tup xs.reverse) (fun b ob q => Heap.get?_push_of_some _ q) (Nat.le_refl _) ?_, rfl, q _ (I5.hok.fresh (Nat.le_refl _))⟩
      exact ⟨by rw [List.length_reverse]; exact hz, _, r.reverse, IsTup.new _ _⟩
end

/-! ### slices -/
theorem sIx_eq (n d : Nat) (o : Option Int) : Mi.sIx n d o = HT.sIx n d o := by
  cases o <;> rfl
theorem RDs.cut {K : Frag} {H : Hp} {μ : List Addr} {ds : List D} {vs : List V} (r : RDs K H μ ds vs) (lo hi : Option Int) : RDs K H μ (cut ds lo hi) (cutV vs lo hi) := by
  unfold Mi.cut cutV
  rw [sIx_eq, sIx_eq, r.length]
  exact (r.drop _).take _
theorem cut_whole {α : Type} {xs : List α} {lo hi : Option Int} (h : HT.sIx xs.length 0 lo = 0 ∧ HT.sIx xs.length xs.length hi = xs.length) : cut xs lo hi = xs := by
  unfold Mi.cut
  rw [sIx_eq, sIx_eq, h.1, h.2]
  simp
def rSlM (K : Frag) (g : V2 → Option Int → Option Int → M V2) : V → Option Int → Option Int → Hp → VK → Prop := fun x lo hi H Q => ∃ ex μ S a, RS K H μ S ∧ RW K H μ a x ∧ Post K (okV K H Q) ex μ H (g a lo hi S)
theorem sl_slc {X : Cx} : SlR X (rSlM X.K slcV) := by
  intro pins s σ H x v vl vu lo hi sl Q I rx hs pl pu ⟨ex, μ, S, a, rs, ra, h⟩
  unfold slcV at h
  split at h
  · cases ra with
    | tup t1 r1 =>
      refine sl_tupA pins s σ H _ v vl vu lo hi sl Q I rx hs pl pu ⟨_, _, rfl, t1, fun z => ?_, fun _ => post_t rs h (r1.cut lo hi)⟩
      rw [← r1.length] at z
      rw [cut_whole z] at h
      exact post_d' rs h (.tup t1 r1)
  · obtain ⟨xs, e1, h⟩ := h.read (Reader.toL _)
    obtain ⟨p, vs, rfl, hp, r1⟩ := ra.toL rs e1
    exact sl_list pins s σ H _ v vl vu lo hi sl Q I rx hs pl pu ⟨p, vs, rfl, .inl hp, post_l rs h (r1.cut lo hi)⟩
section
variable {X : Cx}
def rIxD : R2 := fun x y H Q => ∃ a v, x = .ref a ∧ DGet H a y (some v) ∧ Q v H
theorem ix_dict (hu : X.A.units + 1 < cLine) : IxR X rIxD := by
  intro value slice pins s σ H x y v u Q I rx ry h hs
  obtain ⟨a, z, rfl, g, q⟩ := h
  cases rx
  exact tail_any (dict_typeIs I g) PySem.F.slot_dict_getitem.lookup (d_getItem hu I g ry fun w' s' I' r' => ⟨_, H, I', r', q⟩) hs
theorem ix_idx (hu : X.A.units + 64 < cLine) : IxR X (rM2 X.K idxV) := by
  intro value slice pins s σ H x y v u Q I rx ry ⟨ex, μ, S, a, b, rs, ra, rb, h⟩ hs
  have sq : ∀ {a b : V2}, RW X.K H μ a x → RW X.K H μ b y → Post X.K (okV X.K H Q) ex μ H (idxSeq a b S) → wpAny (model X.prog X.w) X.A (subscriptTail value slice v u) (EP X pins σ Q) X.xe s := by
    intro a b ra rb h
    unfold idxSeq at h
    split at h
    · obtain ⟨xs, e1, h⟩ := h.read (Reader.toSeq _)
      obtain ⟨d, e2, h⟩ := h.orBad
      obtain ⟨p, vs, rfl, hq, r⟩ := ra.toSeq rs e1
      cases rb
      obtain ⟨z, e3, r3⟩ := r.atI e2
      rcases hq with hq | hq
      · exact ix_list value slice pins s σ H _ _ v u Q I rx ry ⟨p, vs, _, z, rfl, rfl, hq, e3, post_d' rs h r3⟩ hs
      · exact ix_tup value slice pins s σ H _ _ v u Q I rx ry ⟨p, vs, _, z, rfl, rfl, hq, e3, post_d' rs h r3⟩ hs
    · exact h.elim
  unfold idxV at h
  split at h
  · rename_i n d
    obtain ⟨c, e1, h⟩ := h.read (Reader.isDic _)
    split at h
    · unfold idxDic at h
      obtain ⟨p, e2, h⟩ := h.read (Reader.dicAt _)
      obtain ⟨k, kvs⟩ := p
      obtain ⟨hc, h⟩ := h.chk
      obtain ⟨w, e3, h9⟩ := h.orBad
      obtain ⟨ad, ps, rfl, hn, hS, rfl, hp, rk⟩ := dic_at rs e2 ra
      obtain ⟨ky, rfl⟩ := plainK_key hc
      obtain rfl := RD.key rb
      have g := rk.get ky
      have e3 : dget kvs (keyD ky) = some w := e3
      rw [e3] at g
      obtain ⟨z, g1, g2⟩ := g
      exact ix_dict (by omega) value slice pins s σ H _ _ v u Q I rx ry ⟨ad, z, rfl, g1 ▸ DGet.k hp, post_d' rs h9 g2⟩ hs
    · exact sq ra rb h
  · exact sq ra rb h
end

/-! ### built-in functions -/
/-- the function as a value -/
def fnOf : Blt → Value
  | .tuple => .type "tuple"
  | .list => .type "list"
  | .set => .type "set"
  | .dict => .type "dict"
  | .int => .type "int"
  | .len => .builtin "len"
  | .abs => .builtin "abs"
  | .min => .builtin "min"
  | .max => .builtin "max"
  | .sum => .builtin "sum"
  | .all => .builtin "all"
  | .any => .builtin "any"
  | .sorted => .builtin "sorted"
  | .repr => .builtin "repr"
  | .divmod => .builtin "divmod"
/-- a call by values, by g -/
def rMs (K : Frag) (g : List V2 → M V2) : List V → Hp → VK → Prop := fun xs H Q => ∃ ex μ S as, RS K H μ S ∧ RWs K H μ as xs ∧ Post K (okV K H Q) ex μ H (g as S)
theorem RWs.one {K : Frag} {H : Hp} {μ : List Addr} {a : V2} {vs : List V} (r : RWs K H μ [a] vs) : ∃ v, vs = [v] ∧ RW K H μ a v := by
  cases r with
  | cons h t => cases t; exact ⟨_, rfl, h⟩
theorem RWs.two {K : Frag} {H : Hp} {μ : List Addr} {a b : V2} {vs : List V} (r : RWs K H μ [a, b] vs) : ∃ v u, vs = [v, u] ∧ RW K H μ a v ∧ RW K H μ b u := by
  cases r with
  | cons h t =>
    obtain ⟨u, rfl, h2⟩ := t.one
    exact ⟨_, _, rfl, h, h2⟩
theorem RWs.nil' {K : Frag} {H : Hp} {μ : List Addr} {vs : List V} (r : RWs K H μ [] vs) : vs = [] := by
  cases r; rfl
theorem RDs.bools {K : Frag} {H : Hp} {μ : List Addr} : ∀ {ds : List D} {vs : List V} {bs : List Bool}, RDs K H μ ds vs → bools ds = some bs → vs = bs.map V.bl
  | _, _, bs, .nil, e => by
    simp only [Mi.bools, Option.some.injEq] at e
    subst e; rfl
  | _, _, bs, .cons (d := d) (ds := ds) h r, e => by
    cases d with
    | bl b =>
      simp only [Mi.bools] at e
      obtain ⟨cs, e1, rfl⟩ := Mi.Option.map_some' e
      cases h
      rw [RDs.bools r e1]; rfl
    | _ => cases e
theorem RDs.intsD {K : Frag} {H : Hp} {μ : List Addr} : ∀ {ds : List D} {vs : List V} {bs : List Int}, RDs K H μ ds vs → Mi.intsD ds = some bs → vs = bs.map V.int
  | _, _, bs, .nil, e => by
    simp only [Mi.intsD, Option.some.injEq] at e
    subst e; rfl
  | _, _, bs, .cons (d := d) (ds := ds) h r, e => by
    cases d with
    | int b =>
      simp only [Mi.intsD] at e
      obtain ⟨cs, e1, rfl⟩ := Mi.Option.map_some' e
      cases h
      rw [RDs.intsD r e1]; rfl
    | _ => cases e
/-- what a def's own frame brings beside the laws' bounds -/
structure Gs (X : Cx) : Prop where
  un : X.A.units + 80 < cLine
  calm : X.calm = true
  gs : X.A.guards = some []
theorem dp_repr {X : Cx} (G : Gs X) {pins : List (Addr × Obj)} {s : Shared} {σ : L2.St} {H : Hp} {x : V} {v : Value} {p : PyData} {Q : VK} (I : L2.Inv X pins σ H s) (rx : RelV x v) (d : Dp X.K H x p) (hd : p.hasDict = false) (hp : p.depth ≤ 60) (hs : p.showable = true)
    (hz : p.shown.length ≤ sizeLine) (q : Q (.str p.shown) H) : wpAny (model X.prog X.w) X.A (call (.builtin "repr") [v]) (EP X pins σ Q) X.xe s := by
  have hu := G.un
  obtain ⟨as, r⟩ := d.reads I _ _ _ rx
  have cell : ∀ a, v = .ref a → wpAny (model X.prog X.w) X.A (call (.builtin "repr") [v]) (EP X pins σ Q) X.xe s := by
    rintro a rfl
    exact repr_of_reads' r hs (fun z => by rw [hd] at z; cases z) G.gs (by omega) (fun _ _ e => e) (fun h' u tk hk => ⟨.str p.shown, H, I.kept hk, ⟨u, rfl⟩, q⟩) hz
  cases p with
  | none =>
    cases d
    cases rx
    exact PySem.P.repr_of_none ⟨.str _, H, I.tok _, ⟨_, rfl⟩, q⟩
  | bool b =>
    cases d
    cases rx
    exact PySem.P.repr_of_bool ⟨.str _, H, I.tok _, ⟨_, rfl⟩, by cases b <;> exact q⟩
  | int i =>
    cases d
    obtain ⟨t, rfl⟩ := rx
    exact PySem.P.repr_of_int (of_decide_eq_true hs) ⟨.str _, H, I.tok _, ⟨_, rfl⟩, q⟩
  | str z =>
    cases d
    obtain ⟨t, rfl⟩ := rx
    exact PySem.P.repr_of_str ⟨.str _, H, I.tok _, ⟨_, rfl⟩, q⟩ hz
  | list ds =>
    cases d with
    | lst h1 h2 => cases rx; exact cell _ rfl
  | tuple ds =>
    cases d with
    | tup h1 h2 => cases rx; exact cell _ rfl
  | dict kvs => cases d
theorem call_blt {X : Cx} (G : Gs X) (f : Blt) : CallR X (fnOf f) (rMs X.K (bltV f)) := by
  intro pins s σ H xs us Q I r ⟨ex, μ, S, as, rs, ra, h⟩
  unfold bltV at h
  split at h
  · obtain ⟨x, rfl, r1⟩ := ra.one
    split at h
    · obtain ⟨hc, h⟩ := h.chk
      cases r1
      exact call_len pins s σ H _ us Q I r ⟨.str _, _, rfl, ⟨by rw [← most_eq]; exact of_decide_eq_true hc, rfl⟩, post_d' rs h (.int _)⟩
    · obtain ⟨ys, e1, h⟩ := h.read (Reader.toSeq _)
      obtain ⟨p, vs, rfl, hq, r3⟩ := r1.toSeq rs e1
      rw [r3.length] at h
      refine call_len pins s σ H _ us Q I r ⟨_, vs.length, rfl, ?_, post_d' rs h (.int _)⟩
      rcases hq with hq | hq
      · exact .inl ⟨vs, hq, rfl⟩
      · exact .inr ⟨vs, hq, rfl⟩
  · obtain ⟨x, rfl, r1⟩ := ra.one
    cases r1
    exact call_abs pins s σ H _ us Q I r ⟨_, rfl, post_d' rs h (.int _)⟩
  · obtain ⟨x, rfl, r1⟩ := ra.one
    cases r1
    exact call_int1 pins s σ H _ us Q I r (.inl ⟨_, rfl, post_d' rs h (.int _)⟩)
  · obtain ⟨x, y, rfl, r1, r2⟩ := ra.two
    cases r1; cases r2
    exact call_min2 G.calm pins s σ H _ us Q I r ⟨_, _, rfl, post_d' rs h (.int _)⟩
  · obtain ⟨x, y, rfl, r1, r2⟩ := ra.two
    cases r1; cases r2
    exact call_max2 G.calm pins s σ H _ us Q I r ⟨_, _, rfl, post_d' rs h (.int _)⟩
  · obtain ⟨x, y, rfl, r1, r2⟩ := ra.two
    cases r1; cases r2
    obtain ⟨hc, h⟩ := h.chk
    exact call_divmod pins s σ H _ us Q I r ⟨_, _, rfl, (by have z := of_decide_eq_true hc; exact z), post_t rs h (.cons (.int _) (.cons (.int _) .nil))⟩
  · obtain ⟨x, rfl, r1⟩ := ra.one
    obtain ⟨ys, e1, h⟩ := h.read (Reader.toL _)
    obtain ⟨bs, e2, h⟩ := h.orBad
    obtain ⟨p, vs, rfl, hp, r3⟩ := r1.toL rs e1
    obtain rfl := r3.bools e2
    exact cr_all G.calm pins s σ H _ us Q I r ⟨p, bs, rfl, .inl hp, post_d' rs h (.bl _)⟩
  · obtain ⟨x, rfl, r1⟩ := ra.one
    obtain ⟨ys, e1, h⟩ := h.read (Reader.toL _)
    obtain ⟨bs, e2, h⟩ := h.orBad
    obtain ⟨p, vs, rfl, hp, r3⟩ := r1.toL rs e1
    obtain rfl := r3.bools e2
    exact cr_any G.calm pins s σ H _ us Q I r ⟨p, bs, rfl, .inl hp, post_d' rs h (.bl _)⟩
  · obtain ⟨x, rfl, r1⟩ := ra.one
    obtain ⟨ys, e1, h⟩ := h.read (Reader.toL _)
    obtain ⟨bs, e2, h⟩ := h.orBad
    obtain ⟨p, vs, rfl, hp, r3⟩ := r1.toL rs e1
    obtain rfl := r3.intsD e2
    exact cr_sum G.calm pins s σ H _ us Q I r ⟨p, bs, rfl, .inl hp, post_d' rs h (.int _)⟩
  · obtain ⟨x, rfl, r1⟩ := ra.one
    obtain ⟨ys, e1, h⟩ := h.read (Reader.toSeq _)
    obtain ⟨p, vs, rfl, hq, r3⟩ := r1.toSeq rs e1
    refine call_tuple_of pins s σ H _ us Q I r ⟨p, vs, rfl, ?_⟩
    rcases hq with hq | hq
    · exact .inl ⟨hq, post_t rs h r3⟩
    · exact .inr ⟨hq, post_d' rs h (.tup hq r3)⟩
  · obtain ⟨x, rfl, r1⟩ := ra.one
    obtain ⟨ys, e1, h⟩ := h.read (Reader.toSeq _)
    obtain ⟨p, vs, rfl, hq, r3⟩ := r1.toSeq rs e1
    exact call_list_of pins s σ H _ us Q I r ⟨p, vs, rfl, hq, post_l rs h r3⟩
  · obtain ⟨x, rfl, r1⟩ := ra.one
    obtain ⟨u, rfl, rx⟩ := vals1 r
    unfold reprV at h
    obtain ⟨p, e1, h⟩ := h.read (Reader.v2Py _)
    obtain ⟨hc, h⟩ := h.chk
    simp only [Bool.and_eq_true, Bool.not_eq_true', decide_eq_true_eq] at hc
    obtain ⟨⟨h1, h2⟩, h3⟩ := hc
    have hd := v2Py_depth e1
    exact dp_repr G I rx (v2Py_dp rs e1 h2 r1) h2 (Nat.le_trans hd (by decide)) h1 (by rw [← most_eq]; exact h3) (post_d' rs h (.str _))
  · exact h.elim

/-! ### isinstance -/
def tyN : Ty → String
  | .int => "int"
  | .bool => "bool"
  | .str => "str"
  | .tuple => "tuple"
  | .list => "list"
def clsN (S : Sto) : D → String
  | .non => "NoneType"
  | .bl _ => "bool"
  | .int _ => "int"
  | .str _ => "str"
  | .tup _ => "tuple"
  | .ref n => match S[n]? with
    | some (.lst _) => "list"
    | some (.ro _) => "list"
    | some (.dic _ _) => "dict"
    | some (.set _ _) => "set"
    | _ => "object"
theorem kNon (t : Ty) : kitB "NoneType" (tyN t) = some false := by cases t <;> decide +kernel
theorem kBl (t : Ty) : kitB "bool" (tyN t) = some (t == .bool || t == .int) := by cases t <;> decide +kernel
theorem kInt (t : Ty) : kitB "int" (tyN t) = some (t == .int) := by cases t <;> decide +kernel
theorem kStr (t : Ty) : kitB "str" (tyN t) = some (t == .str) := by cases t <;> decide +kernel
theorem kTup (t : Ty) : kitB "tuple" (tyN t) = some (t == .tuple) := by cases t <;> decide +kernel
theorem kLst (t : Ty) : kitB "list" (tyN t) = some (t == .list) := by cases t <;> decide +kernel
theorem kDic (t : Ty) : kitB "dict" (tyN t) = some false := by cases t <;> decide +kernel
theorem isTy_ok {K : Frag} {H : Hp} {μ : List Addr} {S : Sto} (rs : RS K H μ S) {d : D} {x : V} (r : RD K H μ d x) {t : Ty} {b : Bool} (e : isTy S d t = some b) : TyX K H x (.type (clsN S d)) ∧ kitB (clsN S d) (tyN t) = some b := by
  cases r with
  | non => cases e; exact ⟨.base .non, kNon t⟩
  | bl c => cases e; exact ⟨.base (.bl c), kBl t⟩
  | int c => cases e; exact ⟨.base (.int c), kInt t⟩
  | str c => cases e; exact ⟨.base (.str c), kStr t⟩
  | tup h _ =>
    cases e
    refine ⟨?_, kTup t⟩
    rcases h with (h | ⟨o, h⟩) | h
    · exact .base (.tup h)
    · exact .fTuple h
    · obtain ⟨o, its, n, h1, h2, _⟩ := h
      exact .kTuple h1 h2
  | @ref n a h =>
    have e : (match S[n]? with
      | some (Cell.lst xs) => some (t == Ty.list)
      | some (Cell.dic k kvs) => some false
      | some (Cell.set k xs) => some false
      | x => none) = some b := e
    have ec : clsN S (.ref n) = (match S[n]? with
      | some (.lst _) => "list"
      | some (.ro _) => "list"
      | some (.dic _ _) => "dict"
      | some (.set _ _) => "set"
      | _ => "object") := rfl
    rw [ec]
    cases q : S[n]? with
    | none => rw [q] at e; cases e
    | some c =>
      rw [q] at e
      have rc := rs.cell n _ _ q h
      cases c with
      | lst ys =>
        cases e
        obtain ⟨vs, h1, _⟩ := rc
        exact ⟨.base (.lst h1), kLst t⟩
      | ro ys => cases e
      | dic k kvs =>
        cases e
        cases k with
        | k =>
          obtain ⟨ps, h1, _⟩ := rc
          exact ⟨.base (.dK h1), kDic t⟩
        | _ => exact rc.elim
      | set k ys => exact rc.elim
      | ins c fs => cases e
theorem isAny_ok {K : Frag} {H : Hp} {μ : List Addr} {S : Sto} (rs : RS K H μ S) {d : D} {x : V} (r : RD K H μ d x) : ∀ {ts : List Ty} {b : Bool}, isAny S d ts = some b → ts ≠ [] → TyX K H x (.type (clsN S d)) ∧ PySem.W.kitAny K (.type (clsN S d)) (ts.map fun t => Value.type (tyN t)) = some b
  | [], _, _, h => absurd rfl h
  | t :: ts, b, e, _ => by
    unfold isAny at e
    cases q : isTy S d t with
    | none => rw [q] at e; cases e
    | some c =>
      rw [q] at e
      obtain ⟨h1, h2⟩ := isTy_ok rs r q
      cases c with
      | true =>
        cases e
        exact ⟨h1, kitAny_cons (kit_ty h2) (fun z => nomatch z) fun _ => rfl⟩
      | false =>
        have e : isAny S d ts = some b := e
        cases ts with
        | nil =>
          cases e
          exact ⟨h1, kitAny_cons (kit_ty h2) (fun _ => rfl) (fun z => nomatch z)⟩
        | cons t2 ts2 =>
          obtain ⟨h3, h4⟩ := isAny_ok rs r e (List.cons_ne_nil _ _)
          exact ⟨h1, kitAny_cons (kit_ty h2) (fun _ => h4) (fun z => nomatch z)⟩
/-- isinstance by values: one class; a tuple of classes that has just been laid -/
def rIsM (K : Frag) (ts : List Ty) : List V → Hp → VK → Prop := fun xs H Q => ∃ ex μ S a x y, xs = [x, y] ∧ RS K H μ S ∧ RW K H μ a x ∧
  ((∃ t, ts = [t] ∧ y = .ty (tyN t)) ∨ (ts ≠ [] ∧ ∃ tp, y = .ref tp ∧ H tp = some (.tup (ts.map fun t => V.ty (tyN t))))) ∧ Post K (fun _ H' _ r => Q (.bl r) H') ex μ H (isiV a ts S)
theorem clsVs : ∀ ts : List Ty, Paired ClsV (ts.map fun t => V.ty (tyN t)) (ts.map fun t => Value.type (tyN t))
  | [] => .nil
  | _ :: ts => .cons (.ty _) (clsVs ts)
theorem kitAny1 {K : Frag} {t c : Value} {b : Bool} (h : PySem.W.kitAny K t [c] = some b) : PySem.W.kitOne K t c = some b := by
  unfold PySem.W.kitAny at h
  cases q : PySem.W.kitOne K t c with
  | none => rw [q] at h; cases h
  | some d =>
    rw [q] at h
    cases d with
    | true => exact h
    | false => exact h
theorem call_isM {X : Cx} (ts : List Ty) : CallR X (.builtin "isinstance") (rIsM X.K ts) := by
  intro pins s σ H xs us Q I r ⟨ex, μ, S, a, x, y, hxs, rs, ra, hy, h⟩
  subst hxs
  unfold isiV at h
  split at h
  · rename_i d
    cases q : isAny S d ts with
    | none => rw [q] at h; exact h.elim
    | some b =>
      rw [q] at h
      have qq : Q (.bl b) H := h μ H Ext.refl rs
      rcases hy with ⟨t, rfl, rfl⟩ | ⟨hne, tp, rfl, hT⟩
      · obtain ⟨h1, h2⟩ := isAny_ok rs ra q (List.cons_ne_nil _ _)
        exact call_isi pins s σ H _ us Q I r ⟨x, .ty (tyN t), _, _, b, rfl, .ty _, h1, kitAny1 h2, qq⟩
      · obtain ⟨h1, h2⟩ := isAny_ok rs ra q hne
        exact call_isiT pins s σ H _ us Q I r ⟨x, tp, _, _, _, b, rfl, hT, clsVs ts, h1, h2, qq⟩
  · exact h.elim
end Mi

-- MiF
set_option Elab.async false
set_option linter.all false
set_option maxRecDepth 100000
/-! Mi, part F: methods, item assignment by values; the checks of the text; expressions. -/
namespace Mi
open PySem L2 PyProof.Rows

/-! ### methods -/
def mthT : Mth → String
  | .append | .extend | .pop | .index | .count => "list"
  | _ => "dict"
def mthN : Mth → Str
  | .append => "append"
  | .extend => "extend"
  | .pop => "pop"
  | .index => "index"
  | .count => "count"
  | .get => "get"
  | .setdefault => "setdefault"
  | .update => "update"
def mthId : Mth → String
  | .append => "list.append"
  | .extend => "list.extend"
  | .pop => "list.pop"
  | .index => "list.index"
  | .count => "list.count"
  | .get => "dict.get"
  | .setdefault => "dict.setdefault"
  | .update => "dict.update"
theorem lst_at {K : Frag} {H : Hp} {μ : List Addr} {S S' : Sto} (rs : RS K H μ S) {n : Nat} {xs : List D} {v : V} (e : lstAt n S = .ok xs S') (r : RD K H μ (.ref n) v) :
    ∃ a vs, v = .ref a ∧ μ[n]? = some a ∧ S[n]? = some (.lst xs) ∧ H a = some (.lst vs) ∧ RDs K H μ xs vs := by
  cases r with
  | ref hn =>
    unfold Mi.lstAt at e
    cases q : S[n]? with
    | none => rw [q] at e; cases e
    | some c =>
      rw [q] at e
      cases c with
      | lst ys =>
        injection e with e1 _
        subst e1
        obtain ⟨vs, h1, h2⟩ := rs.cell n _ _ q hn
        exact ⟨_, vs, rfl, hn, rfl, h1, h2⟩
      | _ => cases e
/-- a cell is written, a value comes -/
theorem post_put {K : Frag} {ex : List Addr → Hp → Sto → Exc → Prop} {α : Type} {ok : List Addr → Hp → Sto → α → Prop} {μ : List Addr} {H : Hp} {x : α} {S : Sto} {n : Nat} {a : Addr} {c : Cell} {o o' : HO} (rs : RS K H μ S)
    (h : Post K ok ex μ H ((put n c >>= fun _ => (Pure.pure x : M α)) S)) (hn : μ[n]? = some a) (e : H a = some o) (mu : Mut (some o)) (hc : RC K (upd H a o') μ a c) : ok μ (upd H a o') (S.set n c) x :=
  h μ _ (Ext.write (List.mem_of_getElem? hn) e mu) (rs.write hn e mu hc)
def rMth (K : Frag) (m : Mth) : V → List V → Hp → VK → Prop := fun x xs H Q => ∃ ex μ S a as, RS K H μ S ∧ RD K H μ a x ∧ RWs K H μ as xs ∧ Post K (okV K H Q) ex μ H (mthV m a as S)
theorem RDs.last {K : Frag} {H : Hp} {μ : List Addr} {ds : List D} {vs : List V} {d : D} (r : RDs K H μ ds vs) (h : ds.getLast? = some d) : ∃ v, vs[vs.length - 1]? = some v ∧ RD K H μ d v := by
  rw [List.getLast?_eq_getElem?] at h
  rw [← r.length]
  exact r.get' h
theorem RDs.dropLast {K : Frag} {H : Hp} {μ : List Addr} {ds : List D} {vs : List V} (r : RDs K H μ ds vs) : RDs K H μ ds.dropLast vs.dropLast := by
  rw [List.dropLast_eq_take, List.dropLast_eq_take, ← r.length]
  exact r.take _
theorem mt_m {X : Cx} (hu : X.A.units + 1 < cLine) (m : Mth) : MtR X (mthId m) (rMth X.K m) := by
  intro pins s σ H x xs v us Q I rx rxs ⟨ex, μ, S, a, as, rs, ra, ras, h⟩
  unfold mthV at h
  split at h
  · obtain ⟨ys, e1, h⟩ := h.read (Reader.lstAt _)
    obtain ⟨hc, h⟩ := h.chk
    have hc := of_decide_eq_true hc
    obtain ⟨p, vs, hx, hn, hS, hp, r1⟩ := lst_at rs e1 ra
    obtain ⟨w, hw, rw1⟩ := ras.one
    subst hx hw
    refine mt_append pins s σ H _ _ v us Q I rx rxs ⟨p, vs, w, rfl, rfl, hp, by rw [← r1.length, ← most_eq]; exact hc, ?_⟩
    refine post_put rs h hn hp trivial ⟨_, upd_same, ?_⟩ _ .non
    exact (r1.app (.cons rw1 .nil)).mono (Ext.write (List.mem_of_getElem? hn) hp trivial).toMon
  · obtain ⟨ys, e1, h⟩ := h.read (Reader.lstAt _)
    obtain ⟨zs, e2, h⟩ := h.read (Reader.toLm _)
    obtain ⟨hc, h⟩ := h.chk
    have hc := of_decide_eq_true hc
    obtain ⟨p, vs, hx, hn, hS, hp, r1⟩ := lst_at rs e1 ra
    obtain ⟨w, hw, rw1⟩ := ras.one
    obtain ⟨q, ws, hw2, hq, r2⟩ := rw1.toLm rs e2
    subst hx hw hw2
    refine mt_extend pins s σ H _ _ v us Q I rx rxs ⟨p, q, vs, ws, rfl, rfl, hp, hq, by rw [← r1.length, ← r2.length, ← most_eq]; exact hc, ?_⟩
    refine post_put rs h hn hp trivial ⟨_, upd_same, ?_⟩ _ .non
    exact (r1.app r2).mono (Ext.write (List.mem_of_getElem? hn) hp trivial).toMon
  · obtain ⟨ys, e1, h⟩ := h.read (Reader.lstAt _)
    obtain ⟨d, e2, h⟩ := h.orBad
    obtain ⟨p, vs, hx, hn, hS, hp, r1⟩ := lst_at rs e1 ra
    obtain ⟨z, h1, h2⟩ := r1.last e2
    have hxs := ras.nil'
    subst hx hxs
    have mon := (Ext.write (o' := .lst vs.dropLast) (List.mem_of_getElem? hn) hp trivial).toMon
    refine mt_pop pins s σ H _ _ v us Q I rx rxs ⟨p, vs, z, rfl, rfl, hp, h1, ?_⟩
    exact post_put rs h hn hp trivial ⟨_, upd_same, r1.dropLast.mono mon⟩ _ (h2.mono mon)
  · rename_i n k w
    obtain ⟨⟨dk, kvs⟩, e1, h⟩ := h.read (Reader.dicAt _)
    obtain ⟨hc, h⟩ := h.chk
    obtain ⟨ad, ps, hx, hn, hS, hk, hp, rk⟩ := dic_at rs e1 ra
    obtain ⟨v1, v2, hxs, rb, rc⟩ := ras.two
    subst hx hxs hk
    obtain ⟨ky, rfl⟩ := plainK_key hc
    have hb := RD.key rb
    subst hb
    obtain ⟨u1, u2, rfl, rr1, rr2⟩ := vals2 rxs
    cases rx
    have g := rk.get ky
    refine d_get2 hu I (DGet.k hp) rr1 rr2 fun w' s' I' rw' => ⟨_, H, I', rw', ?_⟩
    have h : Post X.K (okV X.K H Q) ex μ H ((Pure.pure (.d ((dget kvs (keyD ky)).getD w)) : M V2) S) := h
    cases e : dget kvs (keyD ky) with
    | none =>
      rw [e] at g h
      rw [g]
      exact post_d' rs h rc
    | some d =>
      rw [e] at g h
      obtain ⟨z, g1, g2⟩ := g
      rw [g1]
      exact post_d' rs h g2
  · exact h.elim
theorem rcv_ty {K : Frag} {H : Hp} {μ : List Addr} {S : Sto} {ex : List Addr → Hp → Sto → Exc → Prop} {α : Type} {ok : List Addr → Hp → Sto → α → Prop} {m : Mth} {a : D} {x : V} {f : Unit → M α} (rs : RS K H μ S) (ra : RD K H μ a x)
    (h : Post K ok ex μ H ((rcv m a >>= f) S)) : tyV K (mthT m) x H ∧ Post K ok ex μ H (f () S) := by
  unfold rcv at h
  split at h
  · rw [M.assoc] at h
    obtain ⟨ys, e1, h⟩ := h.read (Reader.lstAt _)
    obtain ⟨p, vs, hx, hn, hS, hp, r1⟩ := lst_at rs e1 ra
    subst hx
    exact ⟨.inl ⟨rfl, vs, .inl (.inl hp)⟩, h⟩
  · rw [M.assoc] at h
    obtain ⟨ys, e1, h⟩ := h.read (Reader.lstAt _)
    obtain ⟨p, vs, hx, hn, hS, hp, r1⟩ := lst_at rs e1 ra
    subst hx
    exact ⟨.inl ⟨rfl, vs, .inl (.inl hp)⟩, h⟩
  · rw [M.assoc] at h
    obtain ⟨ys, e1, h⟩ := h.read (Reader.lstAt _)
    obtain ⟨p, vs, hx, hn, hS, hp, r1⟩ := lst_at rs e1 ra
    subst hx
    exact ⟨.inl ⟨rfl, vs, .inl (.inl hp)⟩, h⟩
  · rw [M.assoc] at h
    obtain ⟨⟨dk, kvs⟩, e1, h⟩ := h.read (Reader.dicAt _)
    obtain ⟨ad, ps, hx, hn, hS, hk, hp, rk⟩ := dic_at rs e1 ra
    subst hx
    exact ⟨.inr (.inr (.inl ⟨rfl, .inl ⟨ps, hp⟩⟩)), h⟩
  · exact h.elim
def okM : Mth → Bool
  | .append | .extend | .pop | .get => true
  | _ => false
theorem m_pa {m : Mth} (h : okM m = true) : PlainAttrs (mthT m) := by
  cases m <;> first | exact PySem.F.plainAttrs_list | exact PySem.F.plainAttrs_dict | cases h
theorem m_slot {m : Mth} (h : okM m = true) : PySem.Slot (mthT m) (mthN m) (mthId m) := by
  cases m with
  | append => exact PySem.F.slot_list_append
  | extend => exact PySem.F.slot_list_extend
  | pop => exact PySem.F.slot_list_pop
  | get => exact PySem.F.slot_dict_get
  | _ => cases h
theorem m_ty {m : Mth} (h : okM m = true) : typeOf (.builtin (mthId m)) = pure (.type "method_descriptor") := by
  cases m with
  | append => exact PySem.F.type_list_append
  | extend => exact PySem.F.type_list_extend
  | pop => exact PySem.F.type_list_pop
  | get => exact PySem.F.type_dict_get
  | _ => cases h

/-! ### a[i] = x -/
def rSetM (K : Frag) : TSet := fun o i v H Q => ∃ ex μ S a b d, RS K H μ S ∧ RW K H μ a o ∧ RW K H μ b i ∧ RD K H μ d v ∧ Post K (fun _ H' _ _ => Q H') ex μ H (setV a b d S)
theorem post_put1 {K : Frag} {ex : List Addr → Hp → Sto → Exc → Prop} {Q : Hp → Prop} {μ : List Addr} {H : Hp} {S : Sto} {n : Nat} {a : Addr} {c : Cell} {o o' : HO} (rs : RS K H μ S)
    (h : Post K (fun _ H' _ _ => Q H') ex μ H (put n c S)) (hn : μ[n]? = some a) (e : H a = some o) (mu : Mut (some o)) (hc : RC K (upd H a o') μ a c) : Q (upd H a o') :=
  h μ _ (Ext.write (List.mem_of_getElem? hn) e mu) (rs.write hn e mu hc)
theorem set_m {X : Cx} (hu : X.A.units + 1 < cLine) : PSet X (rSetM X.K) := by
  intro pins s σ H o i v ov iv u Q I ro ri rv ⟨ex, μ, S, a, b, d, rs, ra, rb, rd, h⟩
  unfold setV at h
  split at h
  · rename_i n y
    obtain ⟨c, e1, h⟩ := h.read (Reader.isDic _)
    split at h
    · unfold setDic at h
      obtain ⟨⟨dk, kvs⟩, e1, h⟩ := h.read (Reader.dicAt _)
      obtain ⟨hc, h⟩ := h.chk
      rw [Bool.and_eq_true] at hc
      obtain ⟨hc, hz⟩ := hc
      have hz := of_decide_eq_true hz
      obtain ⟨ad, ps, hx, hn, hS, hk, hp, rk⟩ := dic_at rs e1 ra
      subst hx hk
      obtain ⟨ky, hky⟩ := plainK_key hc
      subst hky
      have hb := RD.key rb
      subst hb
      cases ro
      have mon := (Ext.write (o' := .dK (putK ps ky v)) (List.mem_of_getElem? hn) hp trivial).toMon
      refine d_setItem (H' := upd H ad (.dK (putK ps ky v))) hu I (DPut.k hp (by rw [← rk.length, ← most_eq]; exact hz)) ri rv fun s' I' => ⟨_, I', ?_⟩
      exact post_put1 rs h hn hp trivial ⟨_, upd_same, (rk.put ky rd).mono mon⟩
    · unfold setLst at h
      split at h
      · rename_i k _
        obtain ⟨xs, e2, h⟩ := h.read (Reader.lstAt _)
        obtain ⟨hc, h⟩ := h.chk
        obtain ⟨h0, h1⟩ := of_decide_eq_true hc
        obtain ⟨p, vs, hx, hn, hS, hp, r1⟩ := lst_at rs e2 ra
        subst hx
        cases rb
        have mon := (Ext.write (o' := .lst (vs.set k.toNat v)) (List.mem_of_getElem? hn) hp trivial).toMon
        have hj : ixN vs.length k = some k.toNat := by
          unfold ixN
          rw [if_pos h0, if_pos (by rw [← r1.length]; exact h1)]
        refine set_list pins s σ H _ _ v ov iv u Q I ro ri rv ⟨p, vs, k, k.toNat, rfl, rfl, hp, hj, ?_⟩
        exact post_put1 rs h hn hp trivial ⟨_, upd_same, (r1.set rd _).mono mon⟩
      · exact h.elim
  · exact h.elim

/-! ### what stands around a def's code -/
/-- nothing is promised of exceptions yet -/
def exF : XW := fun _ _ _ _ _ => False
/-- a def, called: its value, its promise (positional values, the keywords' names, their values) -/
structure CallG (X : Cx) (f : Str) (m : List D → List Str → List D → M V2) : Prop where
  ex : ∃ a, X.mg f = some (.ref a) ∧ PySem.W.keepIn X.K (.ref a) = true ∧ ∀ (pins : List (Addr × Obj)) (s : Shared) (σ : L2.St) (H : Hp) (us ws : List Value) (vs zs : List V) (ks : List Str) (Q : VK) (μ : List Addr) (S : Sto) (xs ys : List D), L2.Inv X pins σ H s → Vals vs us → Vals zs ws →
    RS X.K H μ S → RDs X.K H μ xs vs → RDs X.K H μ ys zs → Post X.K (okV X.K H Q) (exF σ) μ H (m xs ks ys S) → wpAny (model X.prog X.w) X.A (call (.ref a) us (ks.zip ws)) (EP X pins σ Q) X.xe s
/-- how a call ends -/
def CR0 (outer : List Env) (P : Program) (w : World) (H : Hp) (s : Shared) (Q : VK) (r : Result) (s' : Shared) : Prop := match r with
  | .ok (.ret u) => CE outer P w H s Q u s'
  | _ => False
/-- a def, whoever calls it -/
def FnG (P : Program) (w : World) (K : Frag) (mg : Str → Option Value) (base : Heap) (n : Nat) (f : Str) (m : List D → List Str → List D → M V2) : Prop :=
  ∃ a, mg f = some (.ref a) ∧ PySem.W.keepIn K (.ref a) = true ∧ ∀ (A : Around) (outer : List Env) (s : Shared) (H : Hp) (us ws : List Value) (vs zs : List V) (ks : List Str) (Q : VK) (μ : List Addr) (S : Sto) (xs ys : List D),
    Room n A → A.guards = some [] → Env0 P w K mg base A outer s H → Vals vs us → Vals zs ws → RS K H μ S → RDs K H μ xs vs → RDs K H μ ys zs → Post K (okV K H Q) (exF []) μ H (m xs ks ys S) →
    codeAny (model P w) A (.call (.ref a) ⟨us, ks.zip ws⟩) (CR0 outer P w H s Q) s
theorem callG_of {X : Cx} {n : Nat} {f : Str} {m : List D → List Str → List D → M V2} (F : FnG X.prog X.w X.K X.mg X.base n f m) (hr : Room n X.A) (hg : X.A.guards = some []) : CallG X f m := by
  obtain ⟨a, hm, hk, run⟩ := F
  refine ⟨a, hm, hk, fun pins s σ H us ws vs zs ks Q μ S xs ys I r rz rs r1 r2 h => ?_⟩
  refine wpAny_call (codeAny_mono (run X.A X.stack s H us ws vs zs ks Q μ S xs ys hr hg I.env0 r rz rs r1 r2 h) fun r s' hq => ?_)
  cases r with
  | error e => exact hq.elim
  | ok fl =>
    cases fl with
    | ret u => exact I.after hq
    | next => exact hq.elim
    | brk => exact hq.elim
    | cont => exact hq.elim
structure Sig where
  N : List Str
  C : Cxt
  fns : List Str
def bltN : Blt → Str
  | .tuple => "tuple"
  | .list => "list"
  | .set => "set"
  | .dict => "dict"
  | .int => "int"
  | .len => "len"
  | .abs => "abs"
  | .min => "min"
  | .max => "max"
  | .sum => "sum"
  | .all => "all"
  | .any => "any"
  | .sorted => "sorted"
  | .repr => "repr"
  | .divmod => "divmod"
/-- the built-in names that the text may use -/
def bltNs : List Str := ["tuple", "list", "set", "dict", "int", "len", "abs", "min", "max", "sum", "all", "any", "sorted", "repr", "divmod", "isinstance", "bool", "str", "range", "enumerate", "zip"]
structure Good (Γ : Sig) (sc : Scope) (X : Cx) : Prop where
  N : X.N = Γ.N
  nd : Γ.N.Nodup
  sc : X.env.scope = sc
  gs : Gs X
  own : PassesOwn (model X.prog X.w) X.A X.env X.xe
  glob : ∀ x d, Γ.C.glob x = some d → ∃ v u, X.mg x = some u ∧ RelV v u ∧ ∀ H μ, RD X.K H μ d v
  blt : ∀ x, x ∈ bltNs → X.mg x = none
  call : ∀ f, f ∈ Γ.fns → ∃ n, Room n X.A ∧ FnG X.prog X.w X.K X.mg X.base n f (Γ.C.call f)

/-! ### small facts of the text -/
def notStar : Expr → Bool
  | .Starred .. => false
  | _ => true
theorem star_cons {e : Expr} (h : notStar e = true) (es : List Expr) (env : Env) : starEach (e :: es) env = (false, eval e env) :: starEach es env := by
  cases e <;> first | rfl | cases h
theorem star_any {env : Env} {pos : Pos} : ∀ {es : List Expr}, es.all notStar = true → (backTo pos (starEach es env)).any (·.1) = false
  | [], _ => rfl
  | e :: es, h => by
    rw [List.all_cons, Bool.and_eq_true] at h
    rw [star_cons h.1]
    show (false || (backTo pos (starEach es env)).any (·.1)) = false
    rw [star_any h.2]; rfl
theorem star_all {env : Env} {pos : Pos} : ∀ {es : List Expr}, es.all notStar = true → (backTo pos (starEach es env)).all (fun x => !x.1) = true
  | [], _ => rfl
  | e :: es, h => by
    rw [List.all_cons, Bool.and_eq_true] at h
    rw [star_cons h.1]
    show (true && (backTo pos (starEach es env)).all (fun x => !x.1)) = true
    rw [star_all h.2]; rfl
def notCall0 : Expr → Bool
  | .Call _ [] [] _ => false
  | _ => true
theorem attr_base {o : Expr} (h : notCall0 o = true) (a : Str) (env : Env) (wh : Sem Value) : attributeBase o a env wh = wh := by
  cases o with
  | Call f as ks p =>
    cases as with
    | nil =>
      cases ks with
      | nil => cases h
      | cons k ks => cases f <;> rfl
    | cons a as => cases f <;> rfl
  | _ => rfl
def notSlice : Expr → Bool
  | .Slice .. => false
  | _ => true
theorem plain_ix {b : Expr} (h : notSlice b = true) : PlainIx b := fun o i => by
  cases b <;> first | rfl | cases h
def isVis (sc : Scope) (x : Str) : Bool := match sc.names.lookup x with
  | some .local | some .cell | some .free => true
  | _ => false
theorem vis_of {sc : Scope} {x : Str} (h : isVis sc x = true) : Vis sc x := by
  unfold isVis at h
  split at h
  · exact .inl (by assumption)
  · exact .inr (.inl (by assumption))
  · exact .inr (.inr (by assumption))
  · cases h
def isGl (sc : Scope) (x : Str) : Bool := match sc.names.lookup x with
  | some .globalImplicit => true
  | _ => false
theorem gl_of {Γ : Sig} {sc : Scope} {X : Cx} (G : Good Γ sc X) {x : Str} (h : isGl sc x = true) : Gl X x := by
  unfold isGl at h
  split at h
  · rename_i e
    rw [← G.sc] at e
    exact e
  · cases h
end Mi

-- MiG
set_option Elab.async false
set_option linter.all false
set_option maxRecDepth 100000
/-! Mi, part G: readings composed. -/
namespace Mi
open PySem L2 PyProof.Rows

theorem Post.imp' {α : Type} {K : Frag} {ok ok' : List Addr → Hp → Sto → α → Prop} {ex : List Addr → Hp → Sto → Exc → Prop} {μ : List Addr} {H : Hp} {r : Res α}
    (h : Post K ok ex μ H r) (f : ∀ μ' H' S a, Ext μ H μ' H' → RS K H' μ' S → ok μ' H' S a → ok' μ' H' S a) : Post K ok' ex μ H r := by
  cases r with
  | ok a S => exact fun μ' H' y rs => f μ' H' S a y rs (h μ' H' y rs)
  | exc e S => exact h
  | bad => exact h
section
variable {K : Frag} {ex : XW} {σ : L2.St} {H : Hp}
theorem Post.base {μ' : List Addr} {H' H1 : Hp} {ex : List Addr → Hp → Sto → Exc → Prop} {Q : VK} {r : Res V2} (h : Post K (okV K H Q) ex μ' H' r) (d : ∀ a, H1 a = none → H a = none) : Post K (okV K H1 Q) ex μ' H' r :=
  h.imp fun μ'' H'' S a _ q v rv => q v (rv.base d)
/-- a value, laid if it is a list on its way, then f -/
theorem td_bind {α : Type} {ok : List Addr → Hp → Sto → α → Prop} {μ : List Addr} {S : Sto} {ρ : Rho} {m : Rho → M V2} {f : D → M α} {Q : VK} (rs : RS K H μ S) (re : RE K H μ ρ σ)
    (h : Post K ok (ex σ) μ H ((m ρ >>= fun v => toD v >>= f) S))
    (g : ∀ μ1 H1 S1 a v, Ext μ H μ1 H1 → RS K H1 μ1 S1 → RE K H1 μ1 ρ σ → RD K H1 μ1 a v → Post K ok (ex σ) μ1 H1 (f a S1) → Q v H1) : teM K ex m σ H Q := by
  refine ⟨μ, S, ρ, rs, re, ?_⟩
  have e : (m ρ >>= fun v => toD v >>= f) S = M.bind (m ρ) (fun v => toD v >>= f) S := rfl
  rw [e] at h
  unfold M.bind at h
  cases q : m ρ S with
  | ok a S1 =>
    rw [q] at h
    intro μ1 H1 x rs1 v rv
    cases a with
    | d y => exact g μ1 H1 S1 y v x rs1 (re.mono x.toMon) rv (Post.shift x h)
    | l xs =>
      obtain ⟨p, vs, hv, hp, hm, r1, h0⟩ := rv
      subst hv
      have x' := x.push h0
      have h : Post K ok (ex σ) μ H (f (.ref S1.length) (S1 ++ [.lst xs])) := h
      have rc : RC K H1 μ1 p (.lst xs) := ⟨vs, hp, r1⟩
      refine g (μ1 ++ [p]) H1 (S1 ++ [.lst xs]) (.ref S1.length) _ x' (rs1.push hm rc) (re.mono x'.toMon) (.ref ?_) (Post.shift x' h)
      rw [← rs1.len]
      simp
  | exc y S1 =>
    rw [q] at h
    exact h
  | bad =>
    rw [q] at h
    exact h
/-- m's answer is known -/
theorem ta_bind' {α : Type} {ok : List Addr → Hp → Sto → α → Prop} {μ : List Addr} {S : Sto} {ρ : Rho} {m : Rho → M (List D)} {f : List D → M α} {Q : List V → Hp → Prop} (rs : RS K H μ S) (re : RE K H μ ρ σ)
    (h : Post K ok (ex σ) μ H ((m ρ >>= f) S))
    (g : ∀ μ1 H1 S1 a v, m ρ S = .ok a S1 → Ext μ H μ1 H1 → RS K H1 μ1 S1 → RE K H1 μ1 ρ σ → RDs K H1 μ1 a v → Post K ok (ex σ) μ1 H1 (f a S1) → Q v H1) : taD K ex m σ H Q := by
  refine ⟨μ, S, ρ, rs, re, ?_⟩
  have hb := h.bind
  cases q : m ρ S with
  | ok a S1 =>
    rw [q] at hb
    exact fun μ1 H1 x rs1 v rv => g μ1 H1 S1 a v q x rs1 (re.mono x.toMon) rv (hb μ1 H1 x rs1)
  | exc e S1 =>
    rw [q] at hb
    exact hb
  | bad =>
    rw [q] at hb
    exact hb
/-- slices' parts -/
def toM (K : Frag) (ex : XW) (m : Rho → M (Option Int)) : TO := fun σ H Q => ∃ μ S ρ, RS K H μ S ∧ RE K H μ ρ σ ∧ Post K (fun _ H' _ o => Q o H') (ex σ) μ H (m ρ S)
theorem to_bind {α : Type} {ok : List Addr → Hp → Sto → α → Prop} {μ : List Addr} {S : Sto} {ρ : Rho} {m : Rho → M (Option Int)} {f : Option Int → M α} {Q : Option Int → Hp → Prop} (rs : RS K H μ S) (re : RE K H μ ρ σ)
    (h : Post K ok (ex σ) μ H ((m ρ >>= f) S))
    (g : ∀ μ1 H1 S1 a, Ext μ H μ1 H1 → RS K H1 μ1 S1 → RE K H1 μ1 ρ σ → Post K ok (ex σ) μ1 H1 (f a S1) → Q a H1) : toM K ex m σ H Q := by
  refine ⟨μ, S, ρ, rs, re, ?_⟩
  have hb := h.bind
  cases q : m ρ S with
  | ok a S1 =>
    rw [q] at hb
    exact fun μ1 H1 x rs1 => g μ1 H1 S1 a x rs1 (re.mono x.toMon) (hb μ1 H1 x rs1)
  | exc e S1 =>
    rw [q] at hb
    exact hb
  | bad =>
    rw [q] at hb
    exact hb
theorem Post.bad {α : Type} {ok : List Addr → Hp → Sto → α → Prop} {ex : List Addr → Hp → Sto → Exc → Prop} {μ : List Addr} {P : Prop} {S : Sto} (h : Post K ok ex μ H ((Mi.bad : M α) S)) : P := h.elim

/-! ### leaves -/
theorem te_var {i : Nat} {Q : VK} (h : teM K ex (fun ρ => do let x ← ρ.get i; Pure.pure (.d x)) σ H Q) : tVar i σ H Q := by
  obtain ⟨μ, S, ρ, rs, re, h⟩ := h
  have h : Post K (okV K H Q) (ex σ) μ H (M.bind (ρ.get i) (fun x => Pure.pure (V2.d x)) S) := h
  unfold M.bind Rho.get at h
  cases q : ρ[i]? with
  | none => rw [q] at h; exact h.elim
  | some o =>
    rw [q] at h
    cases o with
    | none => exact h.elim
    | some d =>
      obtain ⟨v, h1, h2⟩ := re.at_ i d q
      exact ⟨v, h1, post_d rs h h2⟩
theorem te_const {d : D} {v : V} {Q : VK} (r : ∀ μ, RD K H μ d v) (h : teM K ex (fun _ => Pure.pure (.d d)) σ H Q) : tC v σ H Q := by
  obtain ⟨μ, S, ρ, rs, re, h⟩ := h
  exact post_d rs h (r μ)
theorem te_glob {o : Option D} {v : V} {Q : VK} (r : ∀ d, o = some d → ∀ H μ, RD K H μ d v) (h : teM K ex (fun _ => do let d ← orBad o; Pure.pure (.d d)) σ H Q) : tC v σ H Q := by
  obtain ⟨μ, S, ρ, rs, re, h⟩ := h
  obtain ⟨d, e, h⟩ := h.orBad
  exact post_d rs h (r d e H μ)

/-! ### two values, one value -/
variable {Q : VK} {m m1 m2 m3 : Rho → M V2}
theorem te_bin {g : V2 → V2 → M V2} (h : teM K ex (fun ρ => do let x ← m1 ρ; let y ← m2 ρ; g x y) σ H Q) : tOp (rM2 K g) (teM K ex m1) (teM K ex m2) σ H Q := by
  obtain ⟨μ, S, ρ, rs, re, h⟩ := h
  refine te_bind rs re h fun μ1 H1 S1 a v x1 rs1 re1 rv1 h1 => te_bind rs1 re1 h1 fun μ2 H2 S2 b u x2 rs2 re2 rv2 h2 => ?_
  exact ⟨_, μ2, S2, a, b, rs2, rv1.rw.ext x2, rv2.rw, h2.base fun c e => (x1.trans x2).dom c e⟩
theorem te_cmp {g : V2 → V2 → M Bool} (h : teM K ex (fun ρ => do let x ← m1 ρ; let y ← m2 ρ; let r ← g x y; Pure.pure (.d (.bl r))) σ H Q) : tOp (rMB K g) (teM K ex m1) (teM K ex m2) σ H Q := by
  obtain ⟨μ, S, ρ, rs, re, h⟩ := h
  refine te_bind rs re h fun μ1 H1 S1 a v x1 rs1 re1 rv1 h1 => te_bind rs1 re1 h1 fun μ2 H2 S2 b u x2 rs2 re2 rv2 h2 => ?_
  refine ⟨_, μ2, S2, a, b, rs2, rv1.rw.ext x2, rv2.rw, h2.bind.imp' fun μ3 H3 S3 r x3 rs3 q => post_d' rs3 (q.base fun c e => (x1.trans (x2.trans x3)).dom c e) (.bl r)⟩
theorem te_neg (h : teM K ex (fun ρ => do
    let x ← m ρ
    match x with
    | .d (.int i) => Pure.pure (.d (.int (-i)))
    | _ => Mi.bad) σ H Q) : tUn (rU fun i => .int (-i)) (teM K ex m) σ H Q := by
  obtain ⟨μ, S, ρ, rs, re, h⟩ := h
  refine te_bind rs re h fun μ1 H1 S1 a v x1 rs1 re1 rv1 h1 => ?_
  split at h1
  · cases rv1
    exact ⟨_, rfl, post_d' rs1 (h1.base fun c e => x1.dom c e) (.int _)⟩
  · exact h1.elim
theorem truth_of {α : Type} {ok : List Addr → Hp → Sto → α → Prop} {ex : List Addr → Hp → Sto → Exc → Prop} {μ : List Addr} {a : V2} {f : Bool → M α} {S : Sto} (h : Post K ok ex μ H ((truth a >>= f) S)) : ∃ b, a = .d (.bl b) ∧ Post K ok ex μ H (f b S) := by
  unfold truth at h
  split at h
  · exact ⟨_, rfl, h⟩
  · exact h.elim
theorem te_not (h : teM K ex (fun ρ => do let x ← m ρ; let b ← truth x; Pure.pure (.d (.bl (!b)))) σ H Q) : tNotV (teM K ex m) σ H Q := by
  obtain ⟨μ, S, ρ, rs, re, h⟩ := h
  refine te_bind rs re h fun μ1 H1 S1 a v x1 rs1 re1 rv1 h1 => ?_
  obtain ⟨b, rfl, h1⟩ := truth_of h1
  cases rv1
  exact ⟨b, rfl, post_d' rs1 (h1.base fun c e => x1.dom c e) (.bl _)⟩
/-- a test by a value -/
theorem tt_val {Qb : Bool → Hp → Prop} (h : ttM K ex (fun ρ => m ρ >>= truth) σ H Qb) : tB (teM K ex m) σ H Qb := by
  obtain ⟨μ, S, ρ, rs, re, h⟩ := h
  refine te_bind rs re h fun μ1 H1 S1 a v x1 rs1 re1 rv1 h1 => ?_
  rw [← M.right (truth a)] at h1
  obtain ⟨b, rfl, h1⟩ := truth_of h1
  cases rv1
  exact ⟨b, rfl, h1 μ1 H1 Ext.refl rs1⟩
theorem tt_tst {t : TE} {Qb : Bool → Hp → Prop} (f : ∀ Q, teM K ex m σ H Q → t σ H Q) (h : ttM K ex (fun ρ => m ρ >>= truth) σ H Qb) : tTest t σ H Qb := f _ (tt_val h)
/-- a chain -/
theorem te_chain {g g2 : V2 → V2 → M Bool} (h : teM K ex (fun ρ => do
    let x ← m1 ρ
    let y ← m2 ρ
    let r ← g x y
    if r then do let z ← m3 ρ; let r2 ← g2 y z; Pure.pure (.d (.bl r2)) else Pure.pure (.d (.bl false))) σ H Q) : tChain (rMB K g) (rMB K g2) (teM K ex m1) (teM K ex m2) (teM K ex m3) σ H Q := by
  obtain ⟨μ, S, ρ, rs, re, h⟩ := h
  refine te_bind rs re h fun μ1 H1 S1 a v x1 rs1 re1 rv1 h1 => te_bind rs1 re1 h1 fun μ2 H2 S2 b u x2 rs2 re2 rv2 h2 => ?_
  refine ⟨_, μ2, S2, a, b, rs2, rv1.rw.ext x2, rv2.rw, h2.bind.imp' fun μ3 H3 S3 r x3 rs3 q => ⟨r, rfl, ?_⟩⟩
  have re3 := re2.mono x3.toMon
  have x123 := x1.trans (x2.trans x3)
  cases r with
  | true =>
    rw [if_pos rfl] at q ⊢
    refine te_bind rs3 re3 q fun μ4 H4 S4 c t x4 rs4 re4 rv4 h4 => ?_
    refine ⟨_, μ4, S4, b, c, rs4, rv2.rw.ext (x3.trans x4), rv4.rw, h4.bind.imp' fun μ5 H5 S5 r x5 rs5 q => post_d' rs5 (q.base fun c e => (x123.trans (x4.trans x5)).dom c e) (.bl r)⟩
  | false =>
    rw [if_neg Bool.false_ne_true] at q ⊢
    exact post_d' rs3 (q.base fun c e => x123.dom c e) (.bl _)
theorem te_ite (h : teM K ex (fun ρ => do
    let x ← m1 ρ
    let t ← truth x
    if t then m2 ρ else m3 ρ) σ H Q) : tIf (ttM K ex (fun ρ => m1 ρ >>= truth)) (teM K ex m2) (teM K ex m3) σ H Q := by
  obtain ⟨μ, S, ρ, rs, re, h⟩ := h
  have h : Post K (okV K H Q) (ex σ) μ H (((m1 ρ >>= truth) >>= fun t => if t then m2 ρ else m3 ρ) S) := by rw [M.assoc]; exact h
  refine tt_bind (m := fun ρ => m1 ρ >>= truth) rs re h fun μ1 H1 S1 t x1 rs1 re1 h1 => ?_
  cases t with
  | true =>
    rw [if_pos rfl] at h1 ⊢
    exact ⟨μ1, S1, ρ, rs1, re1, h1.base fun c e => x1.dom c e⟩
  | false =>
    rw [if_neg Bool.false_ne_true] at h1 ⊢
    exact ⟨μ1, S1, ρ, rs1, re1, h1.base fun c e => x1.dom c e⟩
theorem tt_ite {Qb : Bool → Hp → Prop} (h : ttM K ex (fun ρ => (do
    let x ← m1 ρ
    let t ← truth x
    if t then m2 ρ else m3 ρ) >>= truth) σ H Qb) : (ttM K ex (fun ρ => m1 ρ >>= truth)) σ H fun c H1 => if c = true then ttM K ex (fun ρ => m2 ρ >>= truth) σ H1 Qb else ttM K ex (fun ρ => m3 ρ >>= truth) σ H1 Qb := by
  obtain ⟨μ, S, ρ, rs, re, h⟩ := h
  have h : Post K (fun _ H' _ b => Qb b H') (ex σ) μ H (((m1 ρ >>= truth) >>= fun t => (if t then m2 ρ else m3 ρ) >>= truth) S) := by
    have e : ((m1 ρ >>= truth) >>= fun t => (if t then m2 ρ else m3 ρ) >>= truth) = ((do
      let x ← m1 ρ
      let t ← truth x
      if t then m2 ρ else m3 ρ) >>= truth) := by rw [M.assoc, M.assoc]; congr 1; funext x; rw [M.assoc]
    rw [e]; exact h
  refine tt_bind (m := fun ρ => m1 ρ >>= truth) rs re h fun μ1 H1 S1 t x1 rs1 re1 h1 => ?_
  cases t with
  | true =>
    rw [if_pos rfl] at h1 ⊢
    exact ⟨μ1, S1, ρ, rs1, re1, h1⟩
  | false =>
    rw [if_neg Bool.false_ne_true] at h1 ⊢
    exact ⟨μ1, S1, ρ, rs1, re1, h1⟩
theorem tt_not {Qb : Bool → Hp → Prop} (h : ttM K ex (fun ρ => (do let x ← m ρ; let b ← truth x; Pure.pure (V2.d (.bl (!b)))) >>= truth) σ H Qb) : tNot (ttM K ex (fun ρ => m ρ >>= truth)) σ H Qb := by
  obtain ⟨μ, S, ρ, rs, re, h⟩ := h
  refine ⟨μ, S, ρ, rs, re, ?_⟩
  have e : ((do let x ← m ρ; let b ← truth x; Pure.pure (V2.d (.bl (!b)))) >>= truth) = ((m ρ >>= truth) >>= fun b => (Pure.pure (!b) : M Bool)) := by
    rw [M.assoc, M.assoc]; congr 1; funext x; rw [M.assoc]; rfl
  have h : Post K (fun _ H' _ b => Qb b H') (ex σ) μ H (((m ρ >>= truth) >>= fun b => (Pure.pure (!b) : M Bool)) S) := by rw [← e]; exact h
  exact h.bind.imp' fun μ1 H1 S1 b x1 rs1 q => q μ1 H1 Ext.refl rs1
/-! ### slices, backwards -/
theorem te_slc {lo hi : Rho → M (Option Int)} {g : V2 → Option Int → Option Int → M V2} (h : teM K ex (fun ρ => do let x ← m ρ; let l ← lo ρ; let u ← hi ρ; g x l u) σ H Q) : tSl (rSlM K g) (teM K ex m) (toM K ex lo) (toM K ex hi) σ H Q := by
  obtain ⟨μ, S, ρ, rs, re, h⟩ := h
  refine te_bind rs re h fun μ1 H1 S1 a v x1 rs1 re1 rv1 h1 => to_bind rs1 re1 h1 fun μ2 H2 S2 l x2 rs2 re2 h2 => to_bind rs2 re2 h2 fun μ3 H3 S3 u x3 rs3 re3 h3 => ?_
  exact ⟨_, μ3, S3, a, rs3, rv1.rw.ext (x2.trans x3), h3.base fun c e => (x1.trans (x2.trans x3)).dom c e⟩
theorem te_rev (h : teM K ex (fun ρ => do let x ← m ρ; revV x) σ H Q) : tRev K (teM K ex m) σ H Q := by
  obtain ⟨μ, S, ρ, rs, re, h⟩ := h
  refine te_bind rs re h fun μ1 H1 S1 a v x1 rs1 re1 rv1 h1 => ?_
  have h1 := h1.base fun c e => x1.dom c e
  unfold revV at h1
  split at h1
  · cases rv1 with
    | tup t1 r1 => exact ⟨_, _, rfl, .inr ⟨t1, post_t rs1 h1 r1.rev⟩⟩
  · obtain ⟨xs, e1, h1⟩ := h1.read (Reader.toL _)
    obtain ⟨p, vs, rfl, hp, r1⟩ := rv1.rw.toL rs1 e1
    exact ⟨_, _, rfl, .inl ⟨.inl hp, post_l rs1 h1 r1.rev⟩⟩
theorem to_none {Qo : Option Int → Hp → Prop} (h : toM K ex (fun _ => Pure.pure none) σ H Qo) : tNoPart σ H Qo := by
  obtain ⟨μ, S, ρ, rs, re, h⟩ := h
  exact h μ H Ext.refl rs
theorem to_some {Qo : Option Int → Hp → Prop} (h : toM K ex (fun ρ => do
    let v ← m ρ
    match v with
    | .d (.int i) => Pure.pure (some i)
    | _ => Mi.bad) σ H Qo) : tPart (teM K ex m) σ H Qo := by
  obtain ⟨μ, S, ρ, rs, re, h⟩ := h
  refine te_bind rs re h fun μ1 H1 S1 a v x1 rs1 re1 rv1 h1 => ?_
  split at h1
  · cases rv1
    exact ⟨_, rfl, h1 μ1 H1 Ext.refl rs1⟩
  · exact h1.elim

/-! ### arguments, displays -/
theorem ta_nilD {Ql : List V → Hp → Prop} (h : taD K ex (fun _ => Pure.pure []) σ H Ql) : tNil σ H Ql := by
  obtain ⟨μ, S, ρ, rs, re, h⟩ := h
  exact h μ H Ext.refl rs [] .nil
theorem ta_consD {Ql : List V → Hp → Prop} {mr : Rho → M (List D)} (h : taD K ex (fun ρ => do let v ← m ρ; let x ← toD v; let xs ← mr ρ; Pure.pure (x :: xs)) σ H Ql) : tCons (teM K ex m) (taD K ex mr) σ H Ql := by
  obtain ⟨μ, S, ρ, rs, re, h⟩ := h
  refine td_bind rs re h fun μ1 H1 S1 a v x1 rs1 re1 r1 h1 => ta_bind rs1 re1 h1 fun μ2 H2 S2 as vs x2 rs2 re2 r2 h2 => ?_
  exact h2 μ2 H2 Ext.refl rs2 _ (.cons (r1.mono x2.toMon) r2)
theorem ta_nilV {Ql : List V → Hp → Prop} (h : taV K ex (fun _ => Pure.pure []) σ H Ql) : tNil σ H Ql := by
  obtain ⟨μ, S, ρ, rs, re, h⟩ := h
  exact h μ H Ext.refl rs [] .nil
theorem ta_consV {Ql : List V → Hp → Prop} {mr : Rho → M (List V2)} (h : taV K ex (fun ρ => do let v ← m ρ; let xs ← mr ρ; Pure.pure (v :: xs)) σ H Ql) : tCons (teM K ex m) (taV K ex mr) σ H Ql := by
  obtain ⟨μ, S, ρ, rs, re, h⟩ := h
  refine te_bind rs re h fun μ1 H1 S1 a v x1 rs1 re1 r1 h1 => tv_bind rs1 re1 h1 fun μ2 H2 S2 as vs x2 rs2 re2 r2 h2 => ?_
  exact h2 μ2 H2 Ext.refl rs2 _ (.cons (r1.rw.ext x2) r2)
theorem te_tup {ms : Rho → M (List D)} {n : Nat} (hn : ∀ ρ S xs S', ms ρ S = .ok xs S' → xs.length = n) (hz : n ≤ sizeLine) (h : teM K ex (fun ρ => do let xs ← ms ρ; Pure.pure (.d (.tup xs))) σ H Q) : tTup (taD K ex ms) σ H Q := by
  obtain ⟨μ, S, ρ, rs, re, h⟩ := h
  refine ta_bind' rs re h fun μ1 H1 S1 as vs e x1 rs1 re1 r1 h1 => ⟨by rw [← r1.length, hn _ _ _ _ e]; exact hz, ?_⟩
  exact post_t rs1 (h1.base fun c e => x1.dom c e) r1
theorem te_lst {ms : Rho → M (List D)} {n : Nat} (hn : ∀ ρ S xs S', ms ρ S = .ok xs S' → xs.length = n) (hz : n ≤ sizeLine) (h : teM K ex (fun ρ => do let xs ← ms ρ; Pure.pure (.l xs)) σ H Q) : tLst (taD K ex ms) σ H Q := by
  obtain ⟨μ, S, ρ, rs, re, h⟩ := h
  refine ta_bind' rs re h fun μ1 H1 S1 as vs e x1 rs1 re1 r1 h1 => ⟨by rw [← r1.length, hn _ _ _ _ e]; exact hz, ?_⟩
  exact post_l rs1 (h1.base fun c e => x1.dom c e) r1
/-! ### calls of built-in functions, methods -/
theorem te_blt {ms : Rho → M (List V2)} {g : List V2 → M V2} (h : teM K ex (fun ρ => do let vs ← ms ρ; g vs) σ H Q) : tCB (rMs K g) (taV K ex ms) σ H Q := by
  obtain ⟨μ, S, ρ, rs, re, h⟩ := h
  exact tv_bind rs re h fun μ1 H1 S1 as vs x1 rs1 re1 r1 h1 => ⟨_, μ1, S1, as, rs1, r1, h1.base fun c e => x1.dom c e⟩
end
end Mi

-- MiH
set_option Elab.async false
set_option linter.all false
set_option maxRecDepth 100000
/-! Mi, part H: targets, what a loop walks, comprehensions. -/
namespace Mi
open PySem L2 PyProof.Rows

/-! ### targets -/
/-- outside vs the slots are the same -/
def Keep (vs : List Nat) (σ σ' : L2.St) : Prop := σ'.length = σ.length ∧ ∀ i, i ∉ vs → σ'[i]? = σ[i]?
theorem Keep.refl {vs : List Nat} {σ : L2.St} : Keep vs σ σ := ⟨rfl, fun _ _ => rfl⟩
theorem Keep.trans {vs ws : List Nat} {σ σ1 σ2 : L2.St} (a : Keep vs σ σ1) (b : Keep ws σ1 σ2) : Keep (vs ++ ws) σ σ2 :=
  ⟨b.1.trans a.1, fun i h => (b.2 i fun z => h (List.mem_append_right _ z)).trans (a.2 i fun z => h (List.mem_append_left _ z))⟩
theorem Keep.mono {vs ws : List Nat} {σ σ1 : L2.St} (a : Keep vs σ σ1) (h : ∀ i ∈ vs, i ∈ ws) : Keep ws σ σ1 := ⟨a.1, fun i hi => a.2 i fun z => hi (h i z)⟩
theorem wipe_get (σ : L2.St) : ∀ (vs : List Nat) (i : Nat), (L2.wipe σ vs)[i]? = if i ∈ vs ∧ i < σ.length then some none else σ[i]?
  | [], i => by simp [L2.wipe]
  | v :: vs, i => by
    have hl := wipe_length σ vs
    unfold L2.wipe
    by_cases q : v = i
    · subst q
      by_cases hv : v < σ.length
      · rw [List.getElem?_set_self (by rw [hl]; exact hv), if_pos ⟨List.mem_cons_self, hv⟩]
      · rw [List.getElem?_eq_none (by rw [List.length_set, hl]; omega), if_neg (fun z => hv z.2), List.getElem?_eq_none (by omega)]
    · rw [List.getElem?_set_ne q, wipe_get σ vs i]
      have e : (i ∈ v :: vs ∧ i < σ.length) ↔ (i ∈ vs ∧ i < σ.length) := by
        constructor
        · rintro ⟨h, h2⟩
          rcases List.mem_cons.mp h with z | z
          · exact absurd z.symm q
          · exact ⟨z, h2⟩
        · rintro ⟨h, h2⟩
          exact ⟨List.mem_cons_of_mem _ h, h2⟩
      by_cases w : i ∈ vs ∧ i < σ.length
      · rw [if_pos w, if_pos (e.mpr w)]
      · rw [if_neg w, if_neg (fun z => w (e.mp z))]
theorem Keep.wipe {vs : List Nat} {σ σ' : L2.St} (k : Keep vs (L2.wipe σ vs) σ') : L2.wipe σ' vs = L2.wipe σ vs := by
  have hl := wipe_length σ vs
  have hl' : σ'.length = σ.length := k.1.trans hl
  apply List.ext_getElem?
  intro i
  rw [wipe_get, wipe_get, hl']
  by_cases w : i ∈ vs ∧ i < σ.length
  · rw [if_pos w, if_pos w]
  · rw [if_neg w, if_neg w]
    by_cases hi : i ∈ vs
    · have : ¬ i < σ.length := fun z => w ⟨hi, z⟩
      rw [List.getElem?_eq_none (by omega), List.getElem?_eq_none (by omega)]
    · rw [k.2 i hi, wipe_get, if_neg w]
/-- a store into a target, by m -/
def tgM (K : Frag) (ex : XW) (vs : List Nat) (m : D → Rho → M Rho) : TG := fun v σ H Q => ∃ μ S ρ d, RS K H μ S ∧ RE K H μ ρ σ ∧ RD K H μ d v ∧ Post K (fun μ' H' _ ρ' => ∀ σ', RE K H' μ' ρ' σ' → Keep vs σ σ' → Q σ' H') (ex σ) μ H (m d ρ S)
def tgsM (K : Frag) (ex : XW) (vs : List Nat) (m : List D → Rho → M Rho) : TGs := fun v σ H Q => ∃ μ S ρ d, RS K H μ S ∧ RE K H μ ρ σ ∧ RDs K H μ d v ∧ Post K (fun μ' H' _ ρ' => ∀ σ', RE K H' μ' ρ' σ' → Keep vs σ σ' → Q σ' H') (ex σ) μ H (m d ρ S)
section
variable {K : Frag} {ex : XW} {σ : L2.St} {H : Hp} {v : V} {Q : L2.St → Hp → Prop}
theorem tg_name {i : Nat} (h : tgM K ex [i] (fun d ρ => Pure.pure (ρ.set i (some d))) v σ H Q) : gName i v σ H Q := by
  obtain ⟨μ, S, ρ, d, rs, re, r, h⟩ := h
  refine h μ H Ext.refl rs _ (re.set i r) ⟨List.length_set .., fun j hj => ?_⟩
  have : i ≠ j := fun z => hj (by rw [z]; exact List.mem_singleton_self _)
  rw [List.getElem?_set_ne this]
theorem tg_tup {vs : List Nat} {ms : List D → Rho → M Rho} {n : Nat} (h : tgM K ex vs (fun d ρ => match d with
    | .tup xs => do chk (decide (xs.length = n)); ms xs ρ
    | _ => Mi.bad) v σ H Q) : gTup K n (tgsM K ex vs ms) v σ H Q := by
  obtain ⟨μ, S, ρ, d, rs, re, r, h⟩ := h
  cases r with
  | tup t1 r1 =>
    obtain ⟨hc, h⟩ := h.chk
    refine ⟨_, _, rfl, t1, ?_, μ, S, ρ, _, rs, re, r1, h⟩
    rw [← r1.length]
    exact of_decide_eq_true hc
  | _ => exact h.elim
theorem tgs_nil {us : List V} (h : tgsM K ex [] (fun d ρ => match d with
    | [] => Pure.pure ρ
    | _ => Mi.bad) us σ H Q) : gNil us σ H Q := by
  obtain ⟨μ, S, ρ, d, rs, re, r, h⟩ := h
  cases r with
  | nil => exact ⟨rfl, h μ H Ext.refl rs σ re Keep.refl⟩
  | cons _ _ => exact h.elim
theorem tgs_cons {vs ws : List Nat} {m : D → Rho → M Rho} {ms : List D → Rho → M Rho} {us : List V} (hex : ∀ σ', ex σ' = ex σ) (h : tgsM K ex (vs ++ ws) (fun d ρ => match d with
    | x :: xs => do let ρ' ← m x ρ; ms xs ρ'
    | _ => Mi.bad) us σ H Q) : gCons (tgM K ex vs m) (tgsM K ex ws ms) us σ H Q := by
  obtain ⟨μ, S, ρ, d, rs, re, r, h⟩ := h
  cases r with
  | nil => exact h.elim
  | cons r1 r2 =>
    have h := Post.bind h
    refine ⟨_, _, rfl, μ, S, ρ, _, rs, re, r1, h.imp' fun μ1 H1 S1 ρ1 x1 rs1 q σ1 re1 k1 => ⟨μ1, S1, ρ1, _, rs1, re1, r2.mono x1.toMon, ?_⟩⟩
    rw [hex σ1]
    exact q.imp' fun μ2 H2 S2 ρ2 x2 rs2 q2 σ2 re2 k2 => q2 σ2 re2 (k1.trans k2)
theorem tg_sub {m1 m2 : Rho → M V2} {g : V2 → V2 → D → M Unit} {t : TSet} (hs : ∀ o i v H Q, (∃ ex μ S a b d, RS K H μ S ∧ RW K H μ a o ∧ RW K H μ b i ∧ RD K H μ d v ∧ Post K (fun _ H' _ _ => Q H') ex μ H (g a b d S)) → t o i v H Q)
    (h : tgM K ex [] (fun d ρ => do let a ← m1 ρ; let b ← m2 ρ; g a b d; Pure.pure ρ) v σ H Q) : gSub (teM K ex m1) (teM K ex m2) t v σ H Q := by
  obtain ⟨μ, S, ρ, d, rs, re, r, h⟩ := h
  refine te_bind rs re h fun μ1 H1 S1 a u x1 rs1 re1 rv1 h1 => te_bind rs1 re1 h1 fun μ2 H2 S2 b w x2 rs2 re2 rv2 h2 => hs _ _ _ _ _ ⟨ex σ, μ2, S2, a, b, d, rs2, rv1.rw.ext x2, rv2.rw, r.mono (x1.trans x2).toMon, ?_⟩
  exact h2.bind.imp' fun μ3 H3 S3 _ x3 rs3 q => q μ3 H3 Ext.refl rs3 σ (re2.mono x3.toMon) Keep.refl
end

/-! ### what is walked -/
/-- J walks the items, as long as the watched cells stay -/
def Wk (K : Frag) (J : L2.It) (s : Src) (μ : List Addr) (H : Hp) : Prop := ∀ μ' H' S', Ext μ H μ' H' → RS K H' μ' S' → Src.ok s.watch S' = true →
  (∀ i d, s.items[i]? = some d → J.go i H' ∧ ∀ x H2, J.yld i H' x H2 → Ext μ' H' μ' H2 ∧ RS K H2 μ' S' ∧ RD K H2 μ' d x) ∧ J.stop s.items.length H'
theorem Wk.ext {K : Frag} {J : L2.It} {s : Src} {μ μ1 : List Addr} {H H1 : Hp} (w : Wk K J s μ H) (x : Ext μ H μ1 H1) : Wk K J s μ1 H1 := fun μ' H' S' y => w μ' H' S' (x.trans y)
def tiM (K : Frag) (ex : XW) (m : Rho → M Src) : TI := fun σ H R => ∃ μ S ρ, RS K H μ S ∧ RE K H μ ρ σ ∧ Post K (fun μ' H' _ s => ∀ J, Wk K J s μ' H' → R J H') (ex σ) μ H (m ρ S)
section
variable {K : Frag} {ex : XW} {σ : L2.St} {H : Hp} {μ : List Addr} {S : Sto}
theorem Src.ok_one {n : Nat} {ds : List D} {S' : Sto} {w : List (Nat × List D)} (h : Src.ok w S' = true) (m : (n, ds) ∈ w) : ∃ c, S'[n]? = some c ∧ c.lst? = some ds := by
  unfold Src.ok at h
  rw [List.all_eq_true] at h
  have q := h _ m
  dsimp only at q
  split at q
  · rename_i c e
    exact ⟨c, e, of_decide_eq_true q⟩
  · cases q
theorem getElem?_len {α β : Type} {xs : List α} {ys : List β} (h : xs.length = ys.length) {i : Nat} {a : α} (e : xs[i]? = some a) : ∃ b, ys[i]? = some b := by
  have : i < ys.length := by rw [← h]; exact (List.getElem?_eq_some_iff.mp e).1
  exact ⟨ys[i], List.getElem?_eq_getElem this⟩
theorem wk_list {a : Addr} {ds : List D} {w : List (Nat × List D)} (hs : ∀ μ' H' S', Ext μ H μ' H' → RS K H' μ' S' → Src.ok w S' = true → ∃ vs, SqL K H' a vs ∧ RDs K H' μ' ds vs) : Wk K (Itl K a) ⟨ds, w⟩ μ H := fun μ' H' S' x rs ok => by
  obtain ⟨vs, h1, r⟩ := hs μ' H' S' x rs ok
  refine ⟨fun i d e => ?_, ⟨vs, h1, by rw [← r.length]; exact Nat.le_refl _⟩⟩
  obtain ⟨v, ev, rv⟩ := r.get' e
  refine ⟨⟨vs, v, h1, ev⟩, fun y H2 ⟨e2, y2⟩ => ?_⟩
  subst e2
  have q := y2 vs h1
  rw [ev] at q
  cases q
  exact ⟨Ext.refl, rs, rv⟩
theorem wk_tup {a : Addr} {ds : List D} {w : List (Nat × List D)} (hs : ∀ μ' H' S', Ext μ H μ' H' → RS K H' μ' S' → Src.ok w S' = true → ∃ vs, SqT K H' a vs ∧ RDs K H' μ' ds vs) : Wk K (Itt K a) ⟨ds, w⟩ μ H := fun μ' H' S' x rs ok => by
  obtain ⟨vs, h1, r⟩ := hs μ' H' S' x rs ok
  refine ⟨fun i d e => ?_, ⟨vs, h1, by rw [← r.length]; exact Nat.le_refl _⟩⟩
  obtain ⟨v, ev, rv⟩ := r.get' e
  refine ⟨⟨vs, v, h1, ev⟩, fun y H2 ⟨e2, y2⟩ => ?_⟩
  subst e2
  have q := y2 vs h1
  rw [ev] at q
  cases q
  exact ⟨Ext.refl, rs, rv⟩
theorem range_get : ∀ (n : Nat) (lo : Int) (i : Nat), (range lo n)[i]? = if i < n then some (.int (lo + i)) else none
  | 0, lo, i => by simp [range]
  | n + 1, lo, 0 => by simp [range]
  | n + 1, lo, i + 1 => by
    unfold range
    rw [List.getElem?_cons_succ, range_get n (lo + 1) i]
    by_cases h : i < n
    · rw [if_pos h, if_pos (by omega)]
      congr 2
      omega
    · rw [if_neg h, if_neg (by omega)]
theorem range_len : ∀ (n : Nat) (lo : Int), (range lo n).length = n
  | 0, _ => rfl
  | n + 1, lo => by unfold range; rw [List.length_cons, range_len n]
theorem wk_range {lo : Int} {n : Nat} {w : List (Nat × List D)} : Wk K (Itr lo n) ⟨range lo n, w⟩ μ H := fun μ' H' S' x rs ok => by
  refine ⟨fun i d e => ?_, ?_⟩
  · have e : (range lo n)[i]? = some d := e
    rw [range_get] at e
    by_cases h : i < n
    · rw [if_pos h] at e
      cases e
      refine ⟨h, fun y H2 ⟨e2, y2⟩ => ?_⟩
      subst e2 y2
      exact ⟨Ext.refl, rs, .int _⟩
    · rw [if_neg h] at e; cases e
  · show n ≤ (range lo n).length
    rw [range_len]
    exact Nat.le_refl _
theorem enumFrom_get : ∀ (ds : List D) (k i : Nat), (enumFrom k ds)[i]? = ds[i]?.map fun d => .tup [.int ((k + i : Nat) : Int), d]
  | [], k, i => by simp [enumFrom]
  | d :: ds, k, 0 => by simp [enumFrom]
  | d :: ds, k, i + 1 => by
    unfold enumFrom
    rw [List.getElem?_cons_succ, List.getElem?_cons_succ, enumFrom_get ds (k + 1) i]
    congr 1
    funext d
    congr 3
    congr 1
    omega
theorem enumFrom_len : ∀ (ds : List D) (k : Nat), (enumFrom k ds).length = ds.length
  | [], _ => rfl
  | d :: ds, k => by unfold enumFrom; rw [List.length_cons, List.length_cons, enumFrom_len ds]
theorem wk_enum {a : Addr} {ds : List D} {w : List (Nat × List D)} (hs : ∀ μ' H' S', Ext μ H μ' H' → RS K H' μ' S' → Src.ok w S' = true → ∃ vs, SqL K H' a vs ∧ RDs K H' μ' ds vs) : Wk K (Ite K a) ⟨enumFrom 0 ds, w⟩ μ H := fun μ' H' S' x rs ok => by
  obtain ⟨vs, h1, r⟩ := hs μ' H' S' x rs ok
  refine ⟨fun i d e => ?_, ⟨vs, h1, by show vs.length ≤ (enumFrom 0 ds).length; rw [enumFrom_len, ← r.length]; exact Nat.le_refl _⟩⟩
  have e : (enumFrom 0 ds)[i]? = some d := e
  rw [enumFrom_get] at e
  obtain ⟨d', e1, e2⟩ := Option.map_eq_some_iff.mp e
  subst e2
  obtain ⟨v, ev, rv⟩ := r.get' e1
  refine ⟨⟨vs, v, h1, ev⟩, fun y H2 ⟨T, z, hy, hT, hH, hz⟩ => ?_⟩
  have q := hz vs h1
  rw [ev] at q
  cases q
  subst hy hH
  refine ⟨Ext.lay hT, rs.lay hT, .tup (.inl (.inl upd_same)) (.cons ?_ (.cons (rv.mono (Ext.lay hT).toMon) .nil))⟩
  rw [Nat.zero_add]
  exact .int _
theorem zipD_get : ∀ (ds es : List D) (i : Nat) (d : D), (zipD ds es)[i]? = some d → ∃ x y, ds[i]? = some x ∧ es[i]? = some y ∧ d = .tup [x, y]
  | [], _, i, d, e => by unfold zipD at e; simp at e
  | _ :: _, [], i, d, e => by unfold zipD at e; simp at e
  | x :: xs, y :: ys, 0, d, e => by
    unfold zipD at e
    cases e
    exact ⟨x, y, rfl, rfl, rfl⟩
  | x :: xs, y :: ys, i + 1, d, e => by
    unfold zipD at e
    exact zipD_get xs ys i d e
theorem zipD_len : ∀ (ds es : List D), (zipD ds es).length = min ds.length es.length
  | [], es => by unfold zipD; simp
  | _ :: _, [] => by unfold zipD; simp
  | x :: xs, y :: ys => by unfold zipD; rw [List.length_cons, zipD_len xs ys, List.length_cons, List.length_cons]; omega
theorem wk_zip {a b : Addr} {ds es : List D} {w : List (Nat × List D)} (hs : ∀ μ' H' S', Ext μ H μ' H' → RS K H' μ' S' → Src.ok w S' = true → ∃ vs us, SqL K H' a vs ∧ SqL K H' b us ∧ RDs K H' μ' ds vs ∧ RDs K H' μ' es us) : Wk K (Itz K a b) ⟨zipD ds es, w⟩ μ H := fun μ' H' S' x rs ok => by
  obtain ⟨vs, us, h1, h2, r1, r2⟩ := hs μ' H' S' x rs ok
  refine ⟨fun i d e => ?_, ⟨vs, us, h1, h2, ?_⟩⟩
  · obtain ⟨p, q, e1, e2, e3⟩ := zipD_get _ _ _ _ e
    subst e3
    obtain ⟨v, ev, rv⟩ := r1.get' e1
    obtain ⟨u, eu, ru⟩ := r2.get' e2
    refine ⟨⟨vs, us, v, u, h1, h2, ev, eu⟩, fun y H2 ⟨T, z, z2, hy, hT, hH, hz, hz2⟩ => ?_⟩
    have q1 := hz vs h1
    have q2 := hz2 us h2
    rw [ev] at q1
    rw [eu] at q2
    cases q1
    cases q2
    subst hy hH
    exact ⟨Ext.lay hT, rs.lay hT, .tup (.inl (.inl upd_same)) (.cons (rv.mono (Ext.lay hT).toMon) (.cons (ru.mono (Ext.lay hT).toMon) .nil))⟩
  · show vs.length ≤ (zipD ds es).length ∨ us.length ≤ (zipD ds es).length
    rw [zipD_len, r1.length, r2.length]
    omega
theorem wk_zipT {a b : Addr} {ds es : List D} {w : List (Nat × List D)} (hs : ∀ μ' H' S', Ext μ H μ' H' → RS K H' μ' S' → Src.ok w S' = true → ∃ vs us, SqT K H' a vs ∧ SqT K H' b us ∧ RDs K H' μ' ds vs ∧ RDs K H' μ' es us) : Wk K (RZ.ItzT K a b) ⟨zipD ds es, w⟩ μ H := fun μ' H' S' x rs ok => by
  obtain ⟨vs, us, h1, h2, r1, r2⟩ := hs μ' H' S' x rs ok
  refine ⟨fun i d e => ?_, ⟨vs, us, h1, h2, ?_⟩⟩
  · obtain ⟨p, q, e1, e2, e3⟩ := zipD_get _ _ _ _ e
    subst e3
    obtain ⟨v, ev, rv⟩ := r1.get' e1
    obtain ⟨u, eu, ru⟩ := r2.get' e2
    refine ⟨⟨vs, us, v, u, h1, h2, ev, eu⟩, fun y H2 ⟨T, z, z2, hy, hT, hH, hz, hz2⟩ => ?_⟩
    have q1 := hz vs h1
    have q2 := hz2 us h2
    rw [ev] at q1
    rw [eu] at q2
    cases q1
    cases q2
    subst hy hH
    exact ⟨Ext.lay hT, rs.lay hT, .tup (.inl (.inl upd_same)) (.cons (rv.mono (Ext.lay hT).toMon) (.cons (ru.mono (Ext.lay hT).toMon) .nil))⟩
  · show vs.length ≤ (zipD ds es).length ∨ us.length ≤ (zipD ds es).length
    rw [zipD_len, r1.length, r2.length]
    omega
/-- what a value gives to walk -/
inductive SrcV (K : Frag) (H : Hp) (μ : List Addr) (v : V) (s : Src) : Bool → Prop
  | lst {a : Addr} {vs : List V} : v = .ref a → SqL K H a vs → RDs K H μ s.items vs → (∀ μ' H' S' w, (∀ p ∈ s.watch, p ∈ w) → Ext μ H μ' H' → RS K H' μ' S' → Src.ok w S' = true → ∃ vs, SqL K H' a vs ∧ RDs K H' μ' s.items vs) → SrcV K H μ v s false
  | tup {a : Addr} {vs : List V} : v = .ref a → SqT K H a vs → RDs K H μ s.items vs → (∀ μ' H' S' w, (∀ p ∈ s.watch, p ∈ w) → Ext μ H μ' H' → RS K H' μ' S' → Src.ok w S' = true → ∃ vs, SqT K H' a vs ∧ RDs K H' μ' s.items vs) → SrcV K H μ v s true
theorem Reader.srcOf (a : V2) : Reader (Mi.srcOf a) := by
  unfold Mi.srcOf
  split
  · exact Reader.pure _
  · exact Reader.pure _
  · exact (Reader.listAt _).bind fun _ => Reader.pure _
  · exact Reader.bad
theorem srcOf_v {a : V2} {v : V} {s : Src} {S' : Sto} (rs : RS K H μ S) (r : RW K H μ a v) (e : srcOf a S = .ok s S') : SrcV K H μ v s (isT a) := by
  unfold srcOf at e
  split at e
  · cases e
    cases r with
    | tup t1 r1 => exact .tup rfl t1 r1 fun μ' H' S'' w _ x rs' _ => ⟨_, SqT.ext x.toMon t1, r1.mono x.toMon⟩
  · cases e
    obtain ⟨p, vs, h1, h2, h3, h4⟩ := r
    exact .lst h1 (.inl (.inl h2)) h4 fun μ' H' S'' w _ x rs' _ => ⟨_, .inl (.inl (x.keep p _ h2 h3)), h4.mono x.toMon⟩
  · rename_i n
    have e' : M.bind (listAt n) (fun xs => (Pure.pure (⟨xs, [(n, xs)]⟩ : Src) : M Src)) S = .ok s S' := e
    unfold M.bind at e'
    have hl := Reader.listAt n S
    cases q : listAt n S with
    | ok xs S1 =>
      rw [q] at e'
      cases e'
      obtain ⟨p, vs, hv, hp, r1⟩ := RW.toL (a := .d (.ref n)) rs r q
      subst hv
      refine .lst rfl (.inl hp) r1 fun μ' H' S'' w sub x rs' ok => ?_
      cases r with
      | ref hn =>
        obtain ⟨c, e1, hc⟩ := Src.ok_one ok (sub _ (List.mem_singleton_self _))
        have rc := rs'.cell _ _ _ e1 (x.toMon.get hn)
        cases c with
        | lst ys =>
          cases hc
          obtain ⟨vs, h1, h2⟩ := rc
          exact ⟨vs, .inl (.inl h1), h2⟩
        | ro ys =>
          cases hc
          obtain ⟨vs, h1, h2⟩ := rc
          exact ⟨vs, .inl h1, h2⟩
        | _ => cases hc
    | exc y S1 => rw [q] at e'; cases e'
    | bad => rw [q] at e'; cases e'
  · cases e
end
end Mi

-- MiI
set_option Elab.async false
set_option linter.all false
set_option maxRecDepth 100000
/-! Mi, part I: statements, loops, comprehensions composed. -/
namespace Mi
open PySem L2 PyProof.Rows

/-- what a flow asks -/
def okF (K : Frag) (H0 : Hp) (D : Ends) : List Addr → Hp → Sto → Fl → Prop := fun μ' H' _ f => match f with
  | .nx ρ' => ∀ σ', RE K H' μ' ρ' σ' → D.nx σ' H'
  | .bk ρ' => ∀ σ', RE K H' μ' ρ' σ' → D.bk σ' H'
  | .ct ρ' => ∀ σ', RE K H' μ' ρ' σ' → D.ct σ' H'
  | .rt v => ∀ x, RV K H' μ' H0 v x → D.rt x H'
def tsM (K : Frag) (m : Rho → M Fl) : TS := fun D σ H => ∃ μ S ρ, RS K H μ S ∧ RE K H μ ρ σ ∧ Post K (okF K H D) (exF σ) μ H (m ρ S)
section
variable {K : Frag} {σ : L2.St} {H : Hp} {D : Ends}
theorem Post.baseF {μ' : List Addr} {H' H1 : Hp} {ex : List Addr → Hp → Sto → Exc → Prop} {r : Res Fl} (h : Post K (okF K H D) ex μ' H' r) (d : ∀ a, H1 a = none → H a = none) : Post K (okF K H1 D) ex μ' H' r :=
  h.imp fun μ'' H'' S f _ q => by
    cases f with
    | rt v => exact fun x rv => q x (rv.base d)
    | _ => exact q
theorem ti_bind {α : Type} {ok : List Addr → Hp → Sto → α → Prop} {ex : XW} {μ : List Addr} {S : Sto} {ρ : Rho} {m : Rho → M Src} {f : Src → M α} {R : L2.It → Hp → Prop} (rs : RS K H μ S) (re : RE K H μ ρ σ)
    (h : Post K ok (ex σ) μ H ((m ρ >>= f) S))
    (g : ∀ μ1 H1 S1 s J, Ext μ H μ1 H1 → RS K H1 μ1 S1 → RE K H1 μ1 ρ σ → Wk K J s μ1 H1 → Post K ok (ex σ) μ1 H1 (f s S1) → R J H1) : tiM K ex m σ H R := by
  refine ⟨μ, S, ρ, rs, re, ?_⟩
  have hb := h.bind
  cases q : m ρ S with
  | ok a S1 =>
    rw [q] at hb
    exact fun μ1 H1 x rs1 J w => g μ1 H1 S1 a J x rs1 (re.mono x.toMon) w (hb μ1 H1 x rs1)
  | exc e S1 =>
    rw [q] at hb
    exact hb
  | bad =>
    rw [q] at hb
    exact hb
theorem watching_of {α : Type} {ok : List Addr → Hp → Sto → α → Prop} {ex : List Addr → Hp → Sto → Exc → Prop} {μ : List Addr} {w : List (Nat × List Mi.D)} {f : Unit → M α} {S : Sto} (h : Post K ok ex μ H ((watching w >>= f) S)) : Src.ok w S = true ∧ Post K ok ex μ H (f () S) := by
  have h : Post K ok ex μ H (M.bind (watching w) f S) := h
  unfold M.bind watching at h
  cases q : Src.ok w S with
  | true => rw [q] at h; exact ⟨rfl, h⟩
  | false => rw [q] at h; exact h.elim
theorem drop_cons {α : Type} {xs : List α} {i : Nat} (h : i < xs.length) : xs.drop i = xs[i] :: xs.drop (i + 1) := List.drop_eq_getElem_cons h
/-- for -/
theorem ts_for {mi : Rho → M Src} {vs : List Nat} {mg : Mi.D → Rho → M Rho} {mb : Rho → M Fl} (h : tsM K (fun ρ => do let s ← mi ρ; forL (fun x ρ' => do let ρ'' ← mg x ρ'; mb ρ'') s.watch s.items ρ) D σ H) :
    tFor (tiM K exF mi) (tgM K exF vs mg) (tsM K mb) D σ H := by
  obtain ⟨μ, S, ρ, rs, re, h⟩ := h
  refine ti_bind rs re h fun μ1 H1 S1 s J x1 rs1 re1 wk h1 => ?_
  refine ⟨fun i m σ' H' => m = s.items.length - i ∧ i ≤ s.items.length ∧ ∃ μ' S' ρ', Ext μ1 H1 μ' H' ∧ RS K H' μ' S' ∧ RE K H' μ' ρ' σ' ∧ Post K (okF K H D) (exF σ) μ' H' (forL (fun x ρ' => do let ρ'' ← mg x ρ'; mb ρ'') s.watch (s.items.drop i) ρ' S'), ⟨s.items.length, by simp, Nat.zero_le _, μ1, S1, ρ, Ext.refl, rs1, re1, h1⟩, ?_⟩
  rintro i m σ2 H2 ⟨rfl, hi, μ2, S2, ρ2, x2, rs2, re2, h2⟩
  by_cases hlt : i < s.items.length
  · rw [drop_cons hlt] at h2
    obtain ⟨ok, h2⟩ := watching_of h2
    obtain ⟨wk1, _⟩ := wk μ2 H2 S2 x2 rs2 ok
    obtain ⟨go, yl⟩ := wk1 i _ (List.getElem?_eq_getElem hlt)
    refine .inr ⟨go, fun σ' H' => ∃ μ' S' ρ', Ext μ1 H1 μ' H' ∧ RS K H' μ' S' ∧ RE K H' μ' ρ' σ' ∧ Post K (okF K H D) (exF σ) μ' H' (forL (fun x ρ' => do let ρ'' ← mg x ρ'; mb ρ'') s.watch (s.items.drop (i + 1)) ρ' S'),
      fun σ' H' q => ⟨s.items.length - (i + 1), by omega, rfl, hlt, q⟩, fun v H3 y => ?_⟩
    obtain ⟨x3, rs3, r3⟩ := yl v H3 y
    have h3 := Post.shift x3 h2
    rw [M.assoc] at h3
    refine ⟨μ2, S2, ρ2, _, rs3, re2.mono x3.toMon, r3, h3.bind.imp' fun μ4 H4 S4 ρ4 x4 rs4 q σ4 re4 k4 => ⟨μ4, S4, ρ4, rs4, re4, q.bind.imp' fun μ5 H5 S5 f x5 rs5 q5 => ?_⟩⟩
    have x15 := x2.trans (x3.trans (x4.trans x5))
    cases f with
    | nx ρ5 => exact fun σ5 re5 => ⟨μ5, S5, ρ5, x15, rs5, re5, q5⟩
    | ct ρ5 => exact fun σ5 re5 => ⟨μ5, S5, ρ5, x15, rs5, re5, q5⟩
    | bk ρ5 => exact fun σ5 re5 => q5 μ5 H5 Ext.refl rs5 σ5 re5
    | rt v => exact fun z rz => q5 μ5 H5 Ext.refl rs5 z (rz.base fun c e => (x1.trans (x2.trans (x3.trans x4))).dom c e)
  · have e : i = s.items.length := by omega
    subst e
    rw [List.drop_length] at h2
    obtain ⟨ok, h2⟩ := watching_of h2
    obtain ⟨_, st⟩ := wk μ2 H2 S2 x2 rs2 ok
    exact .inl ⟨st, h2 μ2 H2 Ext.refl rs2 σ2 re2⟩
/-- while -/
theorem ts_while {mc : Rho → M Bool} {mb : Rho → M Fl} {n : Nat} (h : tsM K (whileL mc mb n) D σ H) : tWhile (ttM K exF mc) (tsM K mb) D σ H := by
  obtain ⟨μ, S, ρ, rs, re, h⟩ := h
  refine ⟨fun m σ' H' => ∃ μ' S' ρ', Ext μ H μ' H' ∧ RS K H' μ' S' ∧ RE K H' μ' ρ' σ' ∧ Post K (okF K H D) (exF σ) μ' H' (whileL mc mb m ρ' S'), ⟨n, μ, S, ρ, Ext.refl, rs, re, h⟩, ?_⟩
  rintro m σ1 H1 ⟨μ1, S1, ρ1, x1, rs1, re1, h1⟩
  cases m with
  | zero => exact h1.elim
  | succ m =>
    refine tt_bind (ex := exF) rs1 re1 h1 fun μ2 H2 S2 b x2 rs2 re2 h2 => ?_
    cases b with
    | false =>
      rw [if_neg Bool.false_ne_true] at h2 ⊢
      exact h2 μ2 H2 Ext.refl rs2 σ1 re2
    | true =>
      rw [if_pos rfl] at h2 ⊢
      refine ⟨fun σ' H' => ∃ μ' S' ρ', Ext μ H μ' H' ∧ RS K H' μ' S' ∧ RE K H' μ' ρ' σ' ∧ Post K (okF K H D) (exF σ) μ' H' (whileL mc mb m ρ' S'), fun σ' H' q => ⟨m, Nat.lt_succ_self _, q⟩,
        μ2, S2, ρ1, rs2, re2, h2.bind.imp' fun μ5 H5 S5 f x5 rs5 q5 => ?_⟩
      have x15 := x1.trans (x2.trans x5)
      cases f with
      | nx ρ5 => exact fun σ5 re5 => ⟨μ5, S5, ρ5, x15, rs5, re5, q5⟩
      | ct ρ5 => exact fun σ5 re5 => ⟨μ5, S5, ρ5, x15, rs5, re5, q5⟩
      | bk ρ5 => exact fun σ5 re5 => q5 μ5 H5 Ext.refl rs5 σ5 re5
      | rt v => exact fun z rz => q5 μ5 H5 Ext.refl rs5 z (rz.base fun c e => (x1.trans x2).dom c e)
/-! ### plain statements -/
variable {m : Rho → M V2}
theorem ts_nil (h : tsM K (fun ρ => Pure.pure (.nx ρ)) D σ H) : tNext D σ H := by
  obtain ⟨μ, S, ρ, rs, re, h⟩ := h
  exact h μ H Ext.refl rs σ re
theorem ts_seq {m1 m2 : Rho → M Fl} (h : tsM K (fun ρ => do
    let f ← m1 ρ
    match f with
    | .nx ρ' => m2 ρ'
    | f => Pure.pure f) D σ H) : tSeq (tsM K m1) (tsM K m2) D σ H := by
  obtain ⟨μ, S, ρ, rs, re, h⟩ := h
  refine ⟨μ, S, ρ, rs, re, h.bind.imp' fun μ1 H1 S1 f x1 rs1 q => ?_⟩
  cases f with
  | nx ρ1 => exact fun σ1 re1 => ⟨μ1, S1, ρ1, rs1, re1, q.baseF fun c e => x1.dom c e⟩
  | ct ρ1 => exact q μ1 H1 Ext.refl rs1
  | bk ρ1 => exact q μ1 H1 Ext.refl rs1
  | rt v => exact q μ1 H1 Ext.refl rs1
theorem ts_ret (h : tsM K (fun ρ => do let v ← m ρ; Pure.pure (.rt v)) D σ H) : tRet (teM K exF m) D σ H := by
  obtain ⟨μ, S, ρ, rs, re, h⟩ := h
  exact te_bind rs re h fun μ1 H1 S1 a v x1 rs1 re1 rv1 h1 => h1 μ1 H1 Ext.refl rs1 v rv1
theorem ts_retn (h : tsM K (fun _ => Pure.pure (.rt (.d .non))) D σ H) : tRetN D σ H := by
  obtain ⟨μ, S, ρ, rs, re, h⟩ := h
  exact h μ H Ext.refl rs .non .non
theorem ts_exp (h : tsM K (fun ρ => do let _ ← m ρ; Pure.pure (.nx ρ)) D σ H) : tDrop (teM K exF m) D σ H := by
  obtain ⟨μ, S, ρ, rs, re, h⟩ := h
  exact te_bind rs re h fun μ1 H1 S1 a v x1 rs1 re1 rv1 h1 => h1 μ1 H1 Ext.refl rs1 σ re1
theorem ts_if {m1 m2 : Rho → M Fl} (h : tsM K (fun ρ => do let v ← m ρ; let t ← truth v; if t then m1 ρ else m2 ρ) D σ H) : tIfS (ttM K exF (fun ρ => m ρ >>= truth)) (tsM K m1) (tsM K m2) D σ H := by
  obtain ⟨μ, S, ρ, rs, re, h⟩ := h
  have h : Post K (okF K H D) (exF σ) μ H (((m ρ >>= truth) >>= fun t => if t then m1 ρ else m2 ρ) S) := by rw [M.assoc]; exact h
  refine tt_bind (ex := exF) (m := fun ρ => m ρ >>= truth) rs re h fun μ1 H1 S1 t x1 rs1 re1 h1 => ?_
  cases t with
  | true =>
    rw [if_pos rfl] at h1 ⊢
    exact ⟨μ1, S1, ρ, rs1, re1, h1.baseF fun c e => x1.dom c e⟩
  | false =>
    rw [if_neg Bool.false_ne_true] at h1 ⊢
    exact ⟨μ1, S1, ρ, rs1, re1, h1.baseF fun c e => x1.dom c e⟩
theorem ts_brk (h : tsM K (fun ρ => Pure.pure (.bk ρ)) D σ H) : tBreak D σ H := by
  obtain ⟨μ, S, ρ, rs, re, h⟩ := h
  exact h μ H Ext.refl rs σ re
theorem ts_cnt (h : tsM K (fun ρ => Pure.pure (.ct ρ)) D σ H) : tCont D σ H := by
  obtain ⟨μ, S, ρ, rs, re, h⟩ := h
  exact h μ H Ext.refl rs σ re
theorem ts_bad (h : tsM K (fun _ => Mi.bad) D σ H) : tNever D σ H := by
  obtain ⟨μ, S, ρ, rs, re, h⟩ := h
  exact h.elim
theorem ts_asg {vs : List Nat} {mg : Mi.D → Rho → M Rho} (h : tsM K (fun ρ => do let v ← m ρ; let x ← toD v; let ρ' ← mg x ρ; Pure.pure (.nx ρ')) D σ H) : tAsg (teM K exF m) (tgM K exF vs mg) D σ H := by
  obtain ⟨μ, S, ρ, rs, re, h⟩ := h
  refine td_bind rs re h fun μ1 H1 S1 a v x1 rs1 re1 r1 h1 => ⟨μ1, S1, ρ, a, rs1, re1, r1, h1.bind.imp' fun μ2 H2 S2 ρ2 x2 rs2 q σ2 re2 _ => q μ2 H2 Ext.refl rs2 σ2 re2⟩
end
end Mi

-- MiJ
set_option Elab.async false
set_option linter.all false
set_option maxRecDepth 100000
/-! Mi, part J: comprehensions composed. -/
namespace Mi
open PySem L2 PyProof.Rows

section
variable {K : Frag} {σ : L2.St} {H : Hp}
/-- as Post.bind, the base kept -/
theorem Post.bind0 {α β : Type} {ok : List Addr → Hp → Sto → β → Prop} {ex : List Addr → Hp → Sto → Exc → Prop} {μ : List Addr} {m : M α} {f : α → M β} {S : Sto}
    (h : Post K ok ex μ H ((m >>= f) S)) : Post K (fun _ _ S1 a => Post K ok ex μ H (f a S1)) ex μ H (m S) := by
  have h : Post K ok ex μ H (M.bind m f S) := h
  unfold M.bind at h
  cases q : m S with
  | ok a S' => rw [q] at h; exact fun _ _ _ _ => h
  | exc x S' => rw [q] at h; exact h
  | bad => rw [q] at h; exact h
/-- a value, laid if it is a list on its way; the base kept -/
theorem td_bind0 {α : Type} {ex : XW} {ok : List Addr → Hp → Sto → α → Prop} {μb μ : List Addr} {Hb : Hp} {S : Sto} {ρ : Rho} {m : Rho → M V2} {f : D → M α} {Q : VK} (rs : RS K H μ S) (re : RE K H μ ρ σ) (xb : Ext μb Hb μ H)
    (h : Post K ok (ex σ) μb Hb ((m ρ >>= fun v => toD v >>= f) S))
    (g : ∀ μ1 H1 S1 a v, Ext μ H μ1 H1 → RS K H1 μ1 S1 → RE K H1 μ1 ρ σ → RD K H1 μ1 a v → Post K ok (ex σ) μb Hb (f a S1) → Q v H1) : teM K ex m σ H Q := by
  refine ⟨μ, S, ρ, rs, re, ?_⟩
  have h : Post K ok (ex σ) μb Hb (M.bind (m ρ) (fun v => toD v >>= f) S) := h
  unfold M.bind at h
  cases q : m ρ S with
  | ok a S1 =>
    rw [q] at h
    intro μ1 H1 x rs1 v rv
    cases a with
    | d y => exact g μ1 H1 S1 y v x rs1 (re.mono x.toMon) rv h
    | l xs =>
      obtain ⟨p, vs, hv, hp, hm, r1, h0⟩ := rv
      subst hv
      have x' := x.push h0
      have h : Post K ok (ex σ) μb Hb (f (.ref S1.length) (S1 ++ [.lst xs])) := h
      have rc : RC K H1 μ1 p (.lst xs) := ⟨vs, hp, r1⟩
      refine g (μ1 ++ [p]) H1 (S1 ++ [.lst xs]) (.ref S1.length) _ x' (rs1.push hm rc) (re.mono x'.toMon) (.ref ?_) h
      rw [← rs1.len]
      simp
  | exc y S1 =>
    rw [q] at h
    exact Post.shift xb h
  | bad =>
    rw [q] at h
    exact h
/-- the new list grows -/
theorem Mon.grow {μ : List Addr} {p : Addr} {acc : List V} {o : HO} (e : H p = some (.lst acc)) : Mon μ H μ (upd H p o) :=
  ⟨List.prefix_refl _, fun a xs z => by rw [upd_ne (ne_of z e (fun q => nomatch q))]; exact z, fun a ob u z => by rw [upd_ne (ne_of z e (fun q => nomatch q))]; exact z⟩
theorem RS.grow {μ : List Addr} {S : Sto} {p : Addr} {acc : List V} {o : HO} (rs : RS K H μ S) (e : H p = some (.lst acc)) (hn : p ∉ μ) : RS K (upd H p o) μ S :=
  ⟨rs.len, rs.nd, fun n c a e1 e2 => (rs.cell n c a e1 e2).ext (Mon.grow e) (upd_ne fun z => hn (z ▸ List.mem_of_getElem? e2))⟩
theorem Ext.grow {μ μ1 : List Addr} {H1 : Hp} {p : Addr} {acc : List V} {o : HO} (x : Ext μ H μ1 H1) (h0 : H p = none) (e : H1 p = some (.lst acc)) : Ext μ H μ1 (upd H1 p o) := by
  have m := Mon.grow (μ := μ1) (o := o) e
  refine ⟨⟨x.pre, fun a xs z => m.tup a xs (x.tup a xs z), fun a ob u z => m.frz a ob u (x.frz a ob u z)⟩, fun a ob z hn => ?_, x.new, fun a z => ?_⟩
  · rw [upd_ne (ne_of_none z h0)]; exact x.keep a ob z hn
  · by_cases q : a = p
    · rw [q]; exact h0
    · rw [upd_ne q] at z; exact x.dom a z
theorem te_lc {mi : Rho → M Src} {vs ws : List Nat} {mg : D → Rho → M Rho} {mc : Rho → M Bool} {me : Rho → M V2} {Q : VK} (hw : ∀ i ∈ ws, i ∈ vs) (h : teM K exF (fun ρ => do
    let s ← mi ρ
    chk (decide (s.items.length ≤ most))
    let xs ← compL (fun x => do
      let ρ' ← mg x (wipe ρ vs)
      let b ← mc ρ'
      if b then do let v ← me ρ'; let y ← toD v; Pure.pure [y] else Pure.pure []) s.watch s.items
    Pure.pure (.l xs)) σ H Q) : tLc (tiM K exF mi) (tgM K exF ws mg) (ttM K exF mc) (teM K exF me) vs σ H Q := by
  obtain ⟨μ, S, ρ, rs, re, h⟩ := h
  refine ti_bind rs re h fun μ1 H1 S1 s J x1 rs1 re1 wk h1 => ?_
  obtain ⟨hlen, h1⟩ := h1.chk
  have hlen := of_decide_eq_true hlen
  intro p hp
  have hpμ : p ∉ μ1 := fun z => by
    obtain ⟨o, e⟩ := rs1.mem z
    rw [hp] at e; cases e
  generalize hitem : (fun x => do
      let ρ' ← mg x (wipe ρ vs)
      let b ← mc ρ'
      if b then do let v ← me ρ'; let y ← toD v; Pure.pure [y] else Pure.pure [] : D → M (List D)) = item at h1
  refine ⟨fun i m H' => m = s.items.length - i ∧ i ≤ s.items.length ∧ ∃ μ' S' done acc, Ext μ1 H1 μ' H' ∧ RS K H' μ' S' ∧ H' p = some (.lst acc) ∧ p ∉ μ' ∧ RDs K H' μ' done acc ∧ done.length ≤ i ∧
    Post K (okV K H Q) (exF σ) μ1 H1 ((compL item s.watch (s.items.drop i) >>= fun xs => (Pure.pure (.l (done ++ xs)) : M V2)) S'), ⟨s.items.length, by simp, Nat.zero_le _, μ1, S1, [], [], Ext.lay hp, rs1.lay hp, upd_same, hpμ, .nil, Nat.le_refl _, h1⟩, ?_⟩
  rintro i m H2 ⟨rfl, hi, μ2, S2, done, acc, x2, rs2, hp2, hp2m, r2, hdl, h2⟩
  by_cases hlt : i < s.items.length
  · rw [drop_cons hlt] at h2
    have h2 : Post K (okV K H Q) (exF σ) μ1 H1 ((watching s.watch >>= fun _ => ((item s.items[i] >>= fun ys => compL item s.watch (s.items.drop (i + 1)) >>= fun zs => (Pure.pure (ys ++ zs) : M (List D))) >>= fun xs => (Pure.pure (.l (done ++ xs)) : M V2))) S2) := by
      rw [← M.assoc]; exact h2
    obtain ⟨ok, h2⟩ := watching_of h2
    obtain ⟨wk1, _⟩ := wk μ2 H2 S2 x2 rs2 ok
    obtain ⟨go, yl⟩ := wk1 i _ (List.getElem?_eq_getElem hlt)
    refine .inr ⟨go, fun H' => ∃ μ' S' done acc, Ext μ1 H1 μ' H' ∧ RS K H' μ' S' ∧ H' p = some (.lst acc) ∧ p ∉ μ' ∧ RDs K H' μ' done acc ∧ done.length ≤ i + 1 ∧
      Post K (okV K H Q) (exF σ) μ1 H1 ((compL item s.watch (s.items.drop (i + 1)) >>= fun xs => (Pure.pure (.l (done ++ xs)) : M V2)) S'), fun H' q => ⟨s.items.length - (i + 1), by omega, rfl, hlt, q⟩, fun v H3 y => ?_⟩
    obtain ⟨x3, rs3, r3⟩ := yl v H3 y
    have x23 := x2.trans x3
    rw [← hitem] at h2
    have h2 : Post K (okV K H Q) (exF σ) μ1 H1 ((mg s.items[i] (wipe ρ vs) >>= fun ρ' => mc ρ' >>= fun b => ((if b then (me ρ' >>= fun v => toD v >>= fun y => (Pure.pure [y] : M (List D))) else Pure.pure []) >>= fun ys => compL item s.watch (s.items.drop (i + 1)) >>= fun zs => (Pure.pure (ys ++ zs) : M (List D))) >>= fun xs => (Pure.pure (.l (done ++ xs)) : M V2)) S2) := by
      rw [hitem] at h2
      have e : (mg s.items[i] (wipe ρ vs) >>= fun ρ' => mc ρ' >>= fun b => ((if b then (me ρ' >>= fun v => toD v >>= fun y => (Pure.pure [y] : M (List D))) else Pure.pure []) >>= fun ys => compL item s.watch (s.items.drop (i + 1)) >>= fun zs => (Pure.pure (ys ++ zs) : M (List D))) >>= fun xs => (Pure.pure (.l (done ++ xs)) : M V2))
          = ((item s.items[i] >>= fun ys => compL item s.watch (s.items.drop (i + 1)) >>= fun zs => (Pure.pure (ys ++ zs) : M (List D))) >>= fun xs => (Pure.pure (.l (done ++ xs)) : M V2)) := by
        rw [← hitem, M.assoc, M.assoc]
        congr 1
        funext ρ'
        rw [M.assoc]
        congr 1
        funext b
        rw [M.assoc]
      rw [e]
      exact h2
    refine ⟨μ2, S2, wipe ρ vs, _, rs3, (re1.mono x23.toMon).wipe vs, r3, (Post.shift x23 h2.bind0).imp' fun μ4 H4 S4 ρ4 x4 rs4 q σ4 re4 k4 => ⟨(k4.mono hw).wipe, ?_⟩⟩
    have x24 := x23.trans x4
    have hp3 := x3.keep p _ hp2 hp2m
    have hp3m := x3.out hp2 hp2m
    have hp4 := x4.keep p _ hp3 hp3m
    have hp4m := x4.out hp3 hp3m
    refine ⟨μ4, S4, ρ4, rs4, re4, (Post.shift x24 q.bind0).imp' fun μ5 H5 S5 b x5 rs5 q => ?_⟩
    have x25 := x24.trans x5
    have hp5 := x5.keep p _ hp4 hp4m
    have hp5m := x5.out hp4 hp4m
    have mon25 := (x3.trans (x4.trans x5)).toMon
    cases b with
    | true =>
      rw [if_pos rfl] at q
      dsimp only
      rw [if_pos rfl]
      have q : Post K (okV K H Q) (exF σ) μ1 H1 ((me ρ4 >>= fun v => toD v >>= fun y => (compL item s.watch (s.items.drop (i + 1)) >>= fun zs => (Pure.pure (.l ((done ++ [y]) ++ zs)) : M V2))) S5) := by
        have e : (me ρ4 >>= fun v => toD v >>= fun y => (compL item s.watch (s.items.drop (i + 1)) >>= fun zs => (Pure.pure (.l ((done ++ [y]) ++ zs)) : M V2)))
          = (((me ρ4 >>= fun v => toD v >>= fun y => (Pure.pure [y] : M (List D))) >>= fun ys => compL item s.watch (s.items.drop (i + 1)) >>= fun zs => (Pure.pure (ys ++ zs) : M (List D))) >>= fun xs => (Pure.pure (.l (done ++ xs)) : M V2)) := by
          rw [M.assoc, M.assoc]
          congr 1
          funext v
          rw [M.assoc]
          congr 1
          funext y
          show _ = ((compL item s.watch (s.items.drop (i + 1)) >>= fun zs => (Pure.pure ([y] ++ zs) : M (List D))) >>= fun xs => (Pure.pure (.l (done ++ xs)) : M V2))
          rw [M.assoc]
          congr 1
          funext zs
          rw [List.append_assoc]
          rfl
        rw [e]; exact q
      refine td_bind0 (ex := exF) rs5 (re4.mono x5.toMon) x25 q fun μ6 H6 S6 y w x6 rs6 re6 r6 q => ?_
      have hp6 := x6.keep p _ hp5 hp5m
      have hp6m := x6.out hp5 hp5m
      have g := Mon.grow (μ := μ6) (o := .lst (acc ++ [w])) hp6
      refine ⟨acc, hp6, by rw [← r2.length, ← most_eq]; omega, μ6, S6, done ++ [y], acc ++ [w], (x25.trans x6).grow hp hp6, rs6.grow hp6 hp6m, upd_same, hp6m, ?_, ?_, q⟩
      · exact ((r2.mono mon25).mono x6.toMon).mono g |>.app (.cons (r6.mono g) .nil)
      · rw [List.length_append, List.length_singleton]; omega
    | false =>
      rw [if_neg Bool.false_ne_true] at q
      dsimp only
      rw [if_neg Bool.false_ne_true]
      refine ⟨μ5, S5, done, acc, x25, rs5, hp5, hp5m, r2.mono mon25, Nat.le_succ_of_le hdl, ?_⟩
      have e : (compL item s.watch (s.items.drop (i + 1)) >>= fun xs => (Pure.pure (.l (done ++ xs)) : M V2)) = (((Pure.pure [] : M (List D)) >>= fun ys => compL item s.watch (s.items.drop (i + 1)) >>= fun zs => (Pure.pure (ys ++ zs) : M (List D))) >>= fun xs => (Pure.pure (.l (done ++ xs)) : M V2)) := by
        rw [M.left, M.assoc]
        rfl
      rw [e]
      exact q
  · have e : i = s.items.length := by omega
    subst e
    rw [List.drop_length] at h2
    have h2 : Post K (okV K H Q) (exF σ) μ1 H1 ((watching s.watch >>= fun _ => (Pure.pure (.l (done ++ [])) : M V2)) S2) := by
      have e : (watching s.watch >>= fun _ => (Pure.pure (.l (done ++ [])) : M V2)) = (compL item s.watch [] >>= fun xs => (Pure.pure (.l (done ++ xs)) : M V2)) := by
        show _ = ((watching s.watch >>= fun _ => (Pure.pure [] : M (List D))) >>= fun xs => (Pure.pure (.l (done ++ xs)) : M V2))
        rw [M.assoc]
        rfl
      rw [e]; exact h2
    obtain ⟨ok, h2⟩ := watching_of h2
    obtain ⟨_, st⟩ := wk μ2 H2 S2 x2 rs2 ok
    refine .inl ⟨st, h2 μ2 H2 x2 rs2 _ ⟨p, acc, rfl, hp2, hp2m, ?_, x1.dom p hp⟩⟩
    rw [List.append_nil]
    exact r2
end
end Mi

-- MiK
set_option Elab.async false
set_option linter.all false
set_option maxRecDepth 100000
/-! Mi, part K: enumerate of a tuple; the iterators of a source. -/
namespace Mi
open PySem L2 PyProof.Rows
open AutoSeq1 (wpAny_loadPart')

theorem meets_enumerate_newT (l : Addr) (items : Array Value) (n : Nat) (dct : Option Addr) (sl : Array (Option Value)) :
    Meets (Builtin.«enumerate.__new__» ⟨[.type "enumerate", .ref l], []⟩) (fun _ R s => s.heap.get? l = some { cls := .type "tuple", dict := dct, data := .seq items n, slots := sl } ∧
      R (.ok (.ret (.ref (s.heap.push { cls := .type "tuple_iterator", data := .fields #[.ref l, .int 0 0] }).objs.size)))
        { s with heap := (s.heap.push { cls := .type "tuple_iterator", data := .fields #[.ref l, .int 0 0] }).push { cls := .type "enumerate", data := .fields #[.none, .bool false, .ref s.heap.objs.size, rawInt 0, .none, .none] } }) :=
  .of_wp fun prog w A R s h => by
    obtain ⟨hp, g, d, tk, os⟩ := s; obtain ⟨hl, h⟩ := h
    have hsub := sub_enumerate
    have hL : Heap.IsTuple (Shared.heap ⟨hp, g, d, tk, os⟩) l items := ⟨_, hl, rfl, n, rfl⟩
    wp_walk using wpAny_loadPart' hl
    refine wpAny_stack_any fun st => wpAny_pure ?_
    split
    · rename_i c _ _ _ _ _
      cases (c == Value.type "enumerate")
      · wp_walk using wpAny_loadPart' hl, wpAny_pyIter_tuple hL
        exact ⟨_, rfl, h⟩
      · wp_walk using wpAny_loadPart' hl, wpAny_pyIter_tuple hL
        exact ⟨_, rfl, h⟩
    · wp_walk using wpAny_loadPart' hl, wpAny_pyIter_tuple hL
      exact ⟨_, rfl, h⟩
section
variable {prog : Program} {w : World} {A : Around} {E : Value → Shared → Prop} {s : Shared}
theorem call_enumerate_tuple {l : Addr} {items : Array Value} {Q : Value → Shared → Prop} (hL : IsTup s.heap l items)
    (h : ∀ h', IsEnum h' (s.heap.objs.size + 1) s.heap.objs.size 0 .none → h'.IsTupleIter s.heap.objs.size l 0 → h'.objs.size = s.heap.objs.size + 2 →
      (∀ b o, s.heap.get? b = some o → h'.get? b = some o) → Q (.ref (s.heap.objs.size + 1)) { s with heap := h' }) :
    wpAny (model prog w) A (call (.type "enumerate") [.ref l]) Q E s := by
  obtain ⟨⟨c, dct, dt, sl⟩, hl, hc, n, hd⟩ := hL
  replace hc : c = .type "tuple" := hc
  replace hd : dt = .seq items n := hd
  subst hc hd
  refine callType_new F.called_enumerate (by decide) (F.typeCall_enumerate_1 _) (F.newCall_enumerate_1 _) (fun obj => F.args_object_init_2 obj _) F.entry_enumerate_new
    (meets_enumerate_newT l items n dct sl) ⟨hl, ?_⟩
  have hz : (s.heap.push { cls := .type "tuple_iterator", data := .fields #[.ref l, .int 0 0] }).objs.size = s.heap.objs.size + 1 := Heap.size_push ..
  show _ ∧ _
  rw [hz]
  have he : IsEnum ((s.heap.push { cls := .type "tuple_iterator", data := .fields #[.ref l, .int 0 0] }).push
      { cls := .type "enumerate", data := .fields #[.none, .bool false, .ref s.heap.objs.size, rawInt 0, .none, .none] }) (s.heap.objs.size + 1) s.heap.objs.size 0 .none := by
    have := Heap.get?_push_size (s.heap.push { cls := .type "tuple_iterator", data := .fields #[.ref l, .int 0 0] })
      (o := { cls := .type "enumerate", data := .fields #[.none, .bool false, .ref s.heap.objs.size, rawInt 0, .none, .none] }) rfl
    rw [hz] at this; exact this
  refine ⟨⟨_, he, rfl⟩, h _ he ⟨_, Heap.get?_push_of_some _ (Heap.get?_push_size _ rfl), rfl, rfl⟩ (by rw [Heap.size_push, hz]) fun b o x => Heap.get?_push_of_some _ (Heap.get?_push_of_some _ x)⟩
theorem pyNext_enumT_end {e it l : Addr} {i : Nat} {items : Array Value} {old : Value} {Q : Option Value → Shared → Prop} (hh : A.handled = none)
    (he : IsEnum s.heap e it i old) (hit : s.heap.IsTupleIter it l i) (hl : IsTup s.heap l items) (hx : items[i]? = none)
    (hQ : ∀ h', Heap.ExtBut it s.heap h' → Q none { s with heap := h' }) : wpAny (model prog w) A (pyNext (.ref e)) Q E s := by
  have hT : s.TypeIs (.ref e) "enumerate" := ⟨_, he, rfl⟩
  unfold pyNext
  refine wpAny_bind (wpAny_attempt (wpAny_callSpecial?_slot (name := Str.ofString "__next__") hT F.slot_enumerate_next
    (wpAny_call_entry F.slot_enumerate_next hT F.entry_enumerate_next ?_ (F.args_enumerate_next_1 _))))
  show wpAny _ _ (field (.ref e) 2 >>= _) _ _ _
  refine wpAny_bind (wpAny_field he rfl (x := .ref it) rfl ?_)
  refine wpAny_bind (wpAny_nextOf_tuple_end hh hit hl hx fun h' x he' hx' => ?_)
  obtain ⟨o, ho, hc⟩ := hx'
  refine wpAny_bind (wpAny_isInstance (T := "StopIteration") (b := true) ⟨o, ho, hc⟩ isSubtype_stop ?_)
  exact wpAny_pure (hQ _ he')
end
/-- the tuple at a, each item in a new pair -/
def IteT (K : Frag) (a : Addr) : L2.It :=
  ⟨fun i H => ∃ (xs : List V) (x : V), SqT K H a xs ∧ xs[i]? = some x, fun i H v H' => ∃ T x, v = .ref T ∧ H T = none ∧ H' = upd H T (.tup [.int (i : Nat), x]) ∧ ∀ xs, SqT K H a xs → xs[i]? = some x, fun i H => ∃ xs : List V, SqT K H a xs ∧ xs.length ≤ i⟩
theorem turn_enumT {P : Program} {w : World} {K : Frag} {elts : List Expr} {kk : Nat} {tpos : Pos} (a e it : Addr) :
    Turn P w K (.Tuple elts kk tpos) (IteT K a) [e, it] e (fun i h => (∃ old, IsEnum h e it ((i : Nat) : Int) old) ∧ h.IsTupleIter it a i ∧ e ≠ it) where
  mem := by simp
  obj := fun i h st b hb => by
    obtain ⟨⟨old, he⟩, ⟨o, ho, hc, hd⟩, _⟩ := st
    have e' : b = e ∨ b = it := by simpa using hb
    rcases e' with z | z
    · rw [z]; exact ⟨_, he, fun v q => nomatch q⟩
    · rw [z]; exact ⟨o, ho, fun v q => by rw [hd] at q; cases q⟩
  keep := fun i h h' st k => let ⟨⟨old, he⟩, hi, hne⟩ := st; ⟨⟨old, k e (by simp) _ he⟩, hi.at fun o q => k it (by simp) o q, hne⟩
  item := by
    intro X hP hw hK hc i pins s σ H E I hf st hg
    subst hP hw hK
    obtain ⟨⟨old, he⟩, hit, hne⟩ := st
    obtain ⟨xs, x, hq, hx⟩ := hg
    obtain ⟨its, rv, p, hz⟩ := I.tuple hq
    obtain ⟨u, hu, ru⟩ := rv.get hx
    have hel : e < s.heap.objs.size := Heap.lt_size he
    have hil : it < s.heap.objs.size := by obtain ⟨_, q, _⟩ := hit; exact Heap.lt_size q
    obtain ⟨oa, ha, ca, na, da⟩ := id p
    have hae : a ≠ it := fun z => by
      obtain ⟨o1, e1, c1, _⟩ := hit
      rw [z, e1] at ha
      cases ha
      rw [c1] at ca
      exact absurd ca (by decide)
    have hea : e ≠ a := fun z => by
      have he2 := he
      unfold IsEnum at he2
      rw [z, ha] at he2
      have : oa.cls = Value.type "enumerate" := by cases he2; rfl
      rw [ca] at this
      exact absurd this (by decide)
    have hix : i < its.toArray.size := by
      have := (List.getElem?_eq_some_iff.mp hu).1
      simpa using this
    have D := Draws.tuple (prog := X.prog) (w := X.w) (A := X.A.in1) (I.ok.hd hc) it a hae its.toArray
    refine wpAny_pyNext_enum_itemD D he ⟨hit, p⟩ hix hne (by simp [hne, hea]) fun x' h' tk hp ho hst' hT hsz hk => ?_
    obtain ⟨hit', _⟩ := hst'
    have ex : x' = u := by
      have q : its.toArray[i]? = some x' := hp
      rw [show its.toArray[i]? = its[i]? by simp, hu] at q
      cases q; rfl
    subst ex
    refine ⟨_, rfl, wpAny_letOwnedTupleGo_enum (s := { s with heap := h', toks := tk + 1 }) ho fun h'' he' sb => ?_⟩
    have hT2 : h''.get? s.heap.objs.size = some { cls := .type "tuple", data := .seq #[.int i tk, x'] } := (sb.2 _ (Nat.ne_of_gt hel)).trans hT
    have new : ObjOk X.prog X.w (upd H s.heap.objs.size (.tup [.int (i : Nat), x])) h'' s.heap.objs.size (.tup [.int (i : Nat), x]) :=
      ⟨by show 2 ≤ sizeLine; decide, [.int i tk, x'], .cons ⟨_, rfl⟩ (.cons ru .nil), ⟨_, hT2, rfl, _, rfl⟩⟩
    have I1 : L2.Inv X pins σ (upd H s.heap.objs.size (.tup [.int (i : Nat), x])) { s with heap := h'', toks := tk + 1 } :=
      I.turnedNew (ch := [e, it]) (fun b ob hb q => (sb.2 b (fun z => hb (by simp [z]))).trans (hk b ob (fun z => hb (by simp [z])) (fun z => hb (by simp [z])) q)) hf (Nat.le_refl _) new
    refine ⟨.ref s.heap.objs.size, _, I1, rfl, ⟨_, x, rfl, I.hok.fresh (Nat.le_refl _), rfl, fun ys hy => by rw [I.tuple_inj hy hq]; exact hx⟩, ⟨⟨x', ?_⟩, hit'.at fun o q => (sb.2 it (Ne.symm hne)).trans q, hne⟩, fun b hb => ?_⟩
    · have e1 : ((i + 1 : Nat) : Int) = (i : Int) + 1 := by omega
      rw [e1]; exact he'
    · have hb' : b < s.heap.objs.size := by
        have e' : b = e ∨ b = it := by simpa using hb
        rcases e' with z | z
        · rw [z]; exact hel
        · rw [z]; exact hil
      rw [upd_ne (Nat.ne_of_lt hb')]
      exact (hf b hb).1
  done := by
    intro X hP hw hK hc i pins s σ H E I hf st hg
    subst hP hw hK
    obtain ⟨⟨old, he⟩, hit, hne⟩ := st
    obtain ⟨xs, hq, hx⟩ := hg
    obtain ⟨its, rv, p, hz⟩ := I.tuple hq
    obtain ⟨f0, f1, f2, f3, f4, f5⟩ := hf it (by simp)
    have hl := rv.length
    exact pyNext_enumT_end (I.ok.hd hc) he hit p (by simp; omega) fun h' eb => ⟨rfl, I.turned (t' := s.toks) (fun b o hb q => eb b o hb q) f0 f1 f3 f4 f5⟩
  self := fun A i s Q E st h => let ⟨⟨_, he⟩, _⟩ := st; wpAny_pyIter_enum he h

/-! ### the iterators -/
section
variable {X : Cx} {tg : Expr}
def iVal (K : Frag) (tl : TE) : TI := fun σ H R => tl σ H fun x H1 => ∃ a, x = .ref a ∧ (((∃ xs, SqL K H1 a xs) ∧ R (Itl K a) H1) ∨ ((∃ xs, SqT K H1 a xs) ∧ R (Itt K a) H1))
theorem pi_val {l : Expr} {tl : TE} (hl : PE X l tl) : PI X tg l (iVal X.K tl) := by
  refine ⟨fun pins s σ H R I h => ?_⟩
  refine thn (hl.run pins s σ H _ I h) fun v s1 ⟨x, H1, I1, r1, q1⟩ => ?_
  obtain ⟨a, e, q⟩ := q1
  subst e
  cases r1
  have fp : ∀ b, b ∈ [s1.heap.objs.size] → FpOk X pins H1 b := fun b hb => by
    have e : b = s1.heap.objs.size := by simpa using hb
    subst e
    exact I1.fpOk (Nat.le_refl _) (I1.hok.fresh (Nat.le_refl _))
  rcases q with ⟨⟨xs, hq⟩, q⟩ | ⟨⟨xs, hq⟩, q⟩
  · obtain ⟨its, rv, p, hz⟩ := I1.list hq
    refine wpAny_pyIter_list p.isList ?_
    exact ⟨s1.heap.objs.size, [s1.heap.objs.size], _, _, H1, rfl, I1.kept (t' := s1.toks) fun b o e => Heap.get?_push_of_some _ e, turn_list a _, ⟨_, Heap.get?_push_size _ rfl, rfl, rfl⟩, fp, q⟩
  · obtain ⟨its, rv, p, hz⟩ := I1.tuple hq
    refine wpAny_pyIter_tuple (show s1.heap.IsTuple a its.toArray from p) ?_
    exact ⟨s1.heap.objs.size, [s1.heap.objs.size], _, _, H1, rfl, I1.kept (t' := s1.toks) fun b o e => Heap.get?_push_of_some _ e, turn_tuple a _, ⟨_, Heap.get?_push_size _ rfl, rfl, rfl⟩, fp, q⟩
def iEnumA (K : Frag) (ta : TA) : TI := fun σ H R => ta σ H fun vs H1 => ∃ a, vs = [.ref a] ∧ (((∃ xs, SqL K H1 a xs) ∧ R (Ite K a) H1) ∨ ((∃ xs, SqT K H1 a xs) ∧ R (IteT K a) H1))
theorem pi_enumA {e : Expr} {ta : TA} {p pos tpos : Pos} {elts : List Expr} {kk : Nat} (hg : Gl X "enumerate") (hm : X.mg "enumerate" = none) (ha : PA X [e] ta) (hs : starEach [e] X.env = [(false, eval e X.env)]) :
    PI X (.Tuple elts kk tpos) (.Call (.Name "enumerate" p) [e] [] pos) (iEnumA X.K ta) := by
  refine ⟨fun pins s σ H R I h => ?_⟩
  refine Call_ (ld_blt I hg hm boot_enumerate (PyProof.Rows.callWith_type1 (thn (ha.run pos pins s σ H _ I h) fun us s1 ⟨vs, H1, I1, r1, q1⟩ => ?_) hs rfl))
  obtain ⟨a, ex, q⟩ := q1
  subst ex
  have fp : ∀ b, b ∈ [s1.heap.objs.size + 1, s1.heap.objs.size] → FpOk X pins H1 b := fun b hb => by
    have e' : b = s1.heap.objs.size + 1 ∨ b = s1.heap.objs.size := by simpa using hb
    have hle : s1.heap.objs.size ≤ b := by
      rcases e' with z | z
      · rw [z]; exact Nat.le_add_right _ _
      · rw [z]; exact Nat.le_refl _
    exact I1.fpOk hle (I1.hok.fresh hle)
  cases r1 with
  | cons r rr =>
    cases rr
    cases r
    rcases q with ⟨⟨xs, hq⟩, q⟩ | ⟨⟨xs, hq⟩, q⟩
    · obtain ⟨its, rv, p', hz⟩ := I1.list hq
      refine call_enumerate_list p'.isList fun h' he hit hsz hk => wpAny_pyIter_enum he ?_
      have I2 : L2.Inv X pins σ H1 { s1 with heap := h' } := I1.kept (t' := s1.toks) hk
      exact ⟨s1.heap.objs.size + 1, [s1.heap.objs.size + 1, s1.heap.objs.size], _, _, H1, rfl, I2, turn_enum a (s1.heap.objs.size + 1) s1.heap.objs.size, ⟨⟨.none, he⟩, hit, Nat.succ_ne_self _⟩, fp, q⟩
    · obtain ⟨its, rv, p', hz⟩ := I1.tuple hq
      refine call_enumerate_tuple p' fun h' he hit hsz hk => wpAny_pyIter_enum he ?_
      have I2 : L2.Inv X pins σ H1 { s1 with heap := h' } := I1.kept (t' := s1.toks) hk
      exact ⟨s1.heap.objs.size + 1, [s1.heap.objs.size + 1, s1.heap.objs.size], _, _, H1, rfl, I2, turn_enumT a (s1.heap.objs.size + 1) s1.heap.objs.size, ⟨⟨.none, he⟩, hit, Nat.succ_ne_self _⟩, fp, q⟩
end
section
variable {K : Frag} {σ : L2.St} {H : Hp} {R : L2.It → Hp → Prop} {m m1 m2 : Rho → M V2}
theorem wk_enumT {μ : List Addr} {a : Addr} {ds : List D} {w : List (Nat × List D)} (hs : ∀ μ' H' S', Ext μ H μ' H' → RS K H' μ' S' → Src.ok w S' = true → ∃ vs, SqT K H' a vs ∧ RDs K H' μ' ds vs) : Wk K (IteT K a) ⟨enumFrom 0 ds, w⟩ μ H := fun μ' H' S' x rs ok => by
  obtain ⟨vs, h1, r⟩ := hs μ' H' S' x rs ok
  refine ⟨fun i d e => ?_, ⟨vs, h1, by show vs.length ≤ (enumFrom 0 ds).length; rw [enumFrom_len, ← r.length]; exact Nat.le_refl _⟩⟩
  have e : (enumFrom 0 ds)[i]? = some d := e
  rw [enumFrom_get] at e
  obtain ⟨d', e1, e2⟩ := Option.map_eq_some_iff.mp e
  subst e2
  obtain ⟨v, ev, rv⟩ := r.get' e1
  refine ⟨⟨vs, v, h1, ev⟩, fun y H2 ⟨T, z, hy, hT, hH, hz⟩ => ?_⟩
  have q := hz vs h1
  rw [ev] at q
  cases q
  subst hy hH
  refine ⟨Ext.lay hT, rs.lay hT, .tup (.inl (.inl upd_same)) (.cons ?_ (.cons (rv.mono (Ext.lay hT).toMon) .nil))⟩
  rw [Nat.zero_add]
  exact .int _
theorem ti_val (h : tiM K exF (fun ρ => do let v ← m ρ; srcOf v) σ H R) : iVal K (teM K exF m) σ H R := by
  obtain ⟨μ, S, ρ, rs, re, h⟩ := h
  refine te_bind rs re h fun μ1 H1 S1 a v x1 rs1 re1 rv1 h1 => ?_
  rw [← M.right (srcOf a)] at h1
  obtain ⟨s, e, h1⟩ := h1.read (Reader.srcOf a)
  have h1 := h1 μ1 H1 Ext.refl rs1
  have sv := srcOf_v rs1 rv1.rw e
  generalize isT a = z at sv
  cases sv with
  | lst hv hq r st => exact ⟨_, hv, .inl ⟨⟨_, hq⟩, h1 _ (wk_list fun μ' H' S' x rs' ok => st μ' H' S' s.watch (fun _ z => z) x rs' ok)⟩⟩
  | tup hv hq r st => exact ⟨_, hv, .inr ⟨⟨_, hq⟩, h1 _ (wk_tup fun μ' H' S' x rs' ok => st μ' H' S' s.watch (fun _ z => z) x rs' ok)⟩⟩
theorem ti_enum (h : tiM K exF (fun ρ => do let v ← m ρ; let s ← srcOf v; Pure.pure ⟨enumFrom 0 s.items, s.watch⟩) σ H R) : iEnumA K (tCons (teM K exF m) tNil) σ H R := by
  obtain ⟨μ, S, ρ, rs, re, h⟩ := h
  refine te_bind rs re h fun μ1 H1 S1 a v x1 rs1 re1 rv1 h1 => ?_
  obtain ⟨s, e, h1⟩ := h1.read (Reader.srcOf a)
  have h1 := h1 μ1 H1 Ext.refl rs1
  have sv := srcOf_v rs1 rv1.rw e
  generalize isT a = z at sv
  cases sv with
  | lst hv hq r st => exact ⟨_, by rw [hv], .inl ⟨⟨_, hq⟩, h1 _ (wk_enum fun μ' H' S' x rs' ok => st μ' H' S' s.watch (fun _ z => z) x rs' ok)⟩⟩
  | tup hv hq r st => exact ⟨_, by rw [hv], .inr ⟨⟨_, hq⟩, h1 _ (wk_enumT fun μ' H' S' x rs' ok => st μ' H' S' s.watch (fun _ z => z) x rs' ok)⟩⟩
theorem ti_rng1 (h : tiM K exF (fun ρ => do
    let v ← m ρ
    match v with
    | .d (.int j) => do chk (decide (-(2 ^ 62) ≤ j ∧ j < 2 ^ 62)); Pure.pure ⟨range 0 j.toNat, []⟩
    | _ => Mi.bad) σ H R) : iRng1 (tCons (teM K exF m) tNil) σ H R := by
  obtain ⟨μ, S, ρ, rs, re, h⟩ := h
  refine te_bind rs re h fun μ1 H1 S1 a v x1 rs1 re1 rv1 h1 => ?_
  split at h1
  · obtain ⟨hc, h1⟩ := h1.chk
    obtain ⟨c1, c2⟩ := of_decide_eq_true hc
    cases rv1
    exact ⟨_, rfl, c1, c2, h1 μ1 H1 Ext.refl rs1 _ wk_range⟩
  · exact h1.elim
theorem ti_rng2 (h : tiM K exF (fun ρ => do
    let v ← m1 ρ
    let u ← m2 ρ
    match v, u with
    | .d (.int i), .d (.int j) => do chk (decide (-(2 ^ 62) ≤ i ∧ i < 2 ^ 62 ∧ -(2 ^ 62) ≤ j ∧ j < 2 ^ 62)); Pure.pure ⟨range i (j - i).toNat, []⟩
    | _, _ => Mi.bad) σ H R) : iRng2 (tCons (teM K exF m1) (tCons (teM K exF m2) tNil)) σ H R := by
  obtain ⟨μ, S, ρ, rs, re, h⟩ := h
  refine te_bind rs re h fun μ1 H1 S1 a v x1 rs1 re1 rv1 h1 => te_bind rs1 re1 h1 fun μ2 H2 S2 b u x2 rs2 re2 rv2 h2 => ?_
  split at h2
  · obtain ⟨hc, h2⟩ := h2.chk
    have c := of_decide_eq_true hc
    cases rv1
    cases rv2
    exact ⟨_, _, rfl, c, h2 μ2 H2 Ext.refl rs2 _ wk_range⟩
  · exact h2.elim
theorem Src.ok_sub {w w' : List (Nat × List D)} {S : Sto} (h : Src.ok (w ++ w') S = true) : Src.ok w S = true ∧ Src.ok w' S = true := by
  unfold Src.ok at h ⊢
  rw [List.all_append, Bool.and_eq_true] at h
  exact h
theorem ti_zip (h : tiM K exF (fun ρ => do
    let v ← m1 ρ
    let u ← m2 ρ
    let s ← srcOf v
    let r ← srcOf u
    chk (isT v == isT u)
    Pure.pure ⟨zipD s.items r.items, s.watch ++ r.watch⟩) σ H R) : RZ.iZipA K (tCons (teM K exF m1) (tCons (teM K exF m2) tNil)) σ H R := by
  obtain ⟨μ, S, ρ, rs, re, h⟩ := h
  refine te_bind rs re h fun μ1 H1 S1 a v x1 rs1 re1 rv1 h1 => te_bind rs1 re1 h1 fun μ2 H2 S2 b u x2 rs2 re2 rv2 h2 => ?_
  obtain ⟨s, e1, h2⟩ := h2.read (Reader.srcOf a)
  obtain ⟨r, e2, h2⟩ := h2.read (Reader.srcOf b)
  obtain ⟨hc, h2⟩ := h2.chk
  have h2 := h2 μ2 H2 Ext.refl rs2
  have sv := srcOf_v rs2 (rv1.rw.ext x2) e1
  have su := srcOf_v rs2 rv2.rw e2
  have hc := eq_of_beq hc
  rw [hc] at sv
  cases q : isT b <;> rw [q] at sv su
  · cases sv with
    | lst hv hq r st =>
      cases su with
      | lst hv2 hq2 r2 st2 =>
        refine ⟨_, _, _, _, by rw [hv, hv2], .inl ⟨hq, hq2, h2 _ (wk_zip fun μ' H' S' x rs' ok => ?_)⟩⟩
        obtain ⟨vs, q1, q2⟩ := st μ' H' S' _ (fun _ z => List.mem_append_left _ z) x rs' ok
        obtain ⟨us, q3, q4⟩ := st2 μ' H' S' _ (fun _ z => List.mem_append_right _ z) x rs' ok
        exact ⟨vs, us, q1, q3, q2, q4⟩
  · cases sv with
    | tup hv hq r st =>
      cases su with
      | tup hv2 hq2 r2 st2 =>
        refine ⟨_, _, _, _, by rw [hv, hv2], .inr ⟨hq, hq2, h2 _ (wk_zipT fun μ' H' S' x rs' ok => ?_)⟩⟩
        obtain ⟨vs, q1, q2⟩ := st μ' H' S' _ (fun _ z => List.mem_append_left _ z) x rs' ok
        obtain ⟨us, q3, q4⟩ := st2 μ' H' S' _ (fun _ z => List.mem_append_right _ z) x rs' ok
        exact ⟨vs, us, q1, q3, q2, q4⟩
end
end Mi

-- MiL
set_option Elab.async false
set_option linter.all false
set_option maxRecDepth 100000
/-! Mi, part L: the text is what the mini text says: the check; that it is sound, expressions. -/
namespace Mi
open PySem L2 PyProof.Rows

/-- in the lookup: no name of Python's own -/
def okName (x : Str) : Bool := !(x == ("__debug__" : Str)) && !(x == ("__classdict__" : Str)) && !decide (x = ("__name__" : Str))
def plainTest : Expr → Bool
  | .UnaryOp .Not .. | .BoolOp .. | .IfExp .. | .Compare .. => false
  | _ => true
theorem pt_plain {X : Cx} {e : Expr} {t : TE} (h : PE X e t) (hp : plainTest e = true) : PT X e (tB t) := by
  refine pt_val h ?_
  intro w
  cases e with
  | UnaryOp op a p => cases op <;> first | rfl | cases hp
  | BoolOp _ _ _ => cases hp
  | IfExp _ _ _ _ => cases hp
  | Compare _ _ _ _ => cases hp
  | _ => rfl
def noSet : Expr → Bool
  | .Set .. => false
  | _ => true
theorem noSet_fold {e : Expr} (h : noSet e = true) (env : Env) (x : Value) : foldedSetIterable e env x = pure x := by
  cases e <;> first | rfl | cases h
def tyE (sc : Scope) : List Ty → List Expr → Bool
  | [], [] => true
  | t :: ts, .Name x _ :: xs => decide (x = (Str.ofString (tyN t))) && isGl sc x && tyE sc ts xs
  | _, _ => false
def fnE : Blt → Str → Bool := fun f x => decide (x = bltN f)
def sameOp : Bop → Operator → Bool
  | .add, .Add | .sub, .Sub | .mul, .Mult | .fdiv, .FloorDiv | .mod, .Mod | .pow, .Pow => true
  | _, _ => false
theorem sameOp_eq {o : Bop} {p : Operator} (h : sameOp o p = true) : opOf o = p := by
  cases o <;> cases p <;> first | rfl | cases h
def sameC : Cop → CmpOp → Bool
  | .eq, .Eq | .ne, .NotEq | .lt, .Lt | .le, .LtE | .gt, .Gt | .ge, .GtE | .is, .Is | .isn, .IsNot | .mem, .In | .nmem, .NotIn => true
  | _, _ => false
theorem sameC_eq {o : Cop} {p : CmpOp} (h : sameC o p = true) : cOf o = p := by
  cases o <;> cases p <;> first | rfl | cases h
/-- the keywords' names, their values -/
def kwE : List Str → List Keyword → Bool
  | [], [] => true
  | x :: ks, ⟨some y, _, _⟩ :: kws => decide (x = y) && kwE ks kws
  | _, _ => false
def kwV (kws : List Keyword) : List Expr := kws.map fun k => k.value
def own2 (N : List Str) (own : List Nat) : List (Str × Nat) := own.map fun i => (N[i]?.getD "", i)
theorem own2_snd (N : List Str) (own : List Nat) : (own2 N own).map (·.2) = own := by
  unfold own2
  rw [List.map_map]
  exact List.map_id _
mutual
/-- the names that a target stores -/
def T.names : T → List Nat
  | .name i => [i]
  | .tup ts => ts.names
  | .sub _ _ => []
def Ts.names : Ts → List Nat
  | .nil => []
  | .cons t ts => t.names ++ ts.names
end
def isLoc (sc : Scope) (x : Str) : Bool := match sc.names.lookup x with
  | some .local => true
  | _ => false
/-- a display's pairs -/
def pairE : List (Option Expr) → List Expr → List Expr
  | some k :: ks, v :: vs => k :: v :: pairE ks vs
  | _, _ => []
def isTupE : Expr → Bool
  | .Tuple .. => true
  | _ => false
/-- a name as an item of a target, or in a comprehension: it is stored there, a local or a cell of its own -/
def okStore (sc : Scope) (fnc : Str → Bool) (x : Str) : Bool := match sc.names.lookup x with
  | some .local => true
  | some .cell => fnc x
  | _ => false

mutual
def isE (Γ : Sig) (sc : Scope) : E → Expr → Bool
  | .non, .Constant .none _ _ => true
  | .bl b, .Constant (.bool c) _ _ => b == c
  | .int i, .Constant (.int j) _ _ => decide (i = j)
  | .str x, .Constant (.str y) _ _ => decide (x = y)
  | .var i, .Name x _ => decide (Γ.N[i]? = some x) && isVis sc x && okName x
  | .glb x, .Name y _ => decide (x = y) && isGl sc x && okName x
  | .tup es, .Tuple xs _ _ => isEs Γ sc es xs && decide (xs.length ≤ 1000)
  | .lst es, .List xs _ => isEs Γ sc es xs && decide (xs.length ≤ 1000)
  | .bin o a b, .BinOp x p y _ => sameOp o p && isE Γ sc a x && isE Γ sc b y
  | .neg a, .UnaryOp .USub x _ => isE Γ sc a x
  | .not a, .UnaryOp .Not x _ => isE Γ sc a x
  | .and es, .BoolOp .And xs _ => !xs.isEmpty && isEs Γ sc es xs
  | .or es, .BoolOp .Or xs _ => !xs.isEmpty && isEs Γ sc es xs
  | .cmp o a b, .Compare x [p] [y] _ => sameC o p && isE Γ sc a x && isE Γ sc b y && !behindInMarks p y
  | .cmp2 o o2 a b c, .Compare x [p, p2] [y, z] _ => sameC o p && sameC o2 p2 && isE Γ sc a x && isE Γ sc b y && isE Γ sc c z && !lastMarks [p, p2] [y, z]
  | .ite c a b, .IfExp x y z _ => isE Γ sc c x && isE Γ sc a y && isE Γ sc b z
  | .idx a i, .Subscript x y _ => isE Γ sc a x && isE Γ sc i y && notSlice y
  | .slc a lo hi, .Subscript x (.Slice l u none _) _ => isE Γ sc a x && isO Γ sc lo l && isO Γ sc hi u
  | .rev a, .Subscript x (.Slice none none (some (.UnaryOp .USub (.Constant (.int j) _ _) _)) _) _ => isE Γ sc a x && decide (j = 1)
  | .call f es ks kes, .Call (.Name y _) xs kws _ => decide (f = y) && Γ.fns.contains f && isGl sc f && okName f && isEs Γ sc es xs && kwE ks kws && isEs Γ sc kes (kwV kws)
  | .blt f es, .Call (.Name y _) xs [] _ => fnE f y && isGl sc y && isEs Γ sc es xs && !xs.isEmpty
  | .mth m a es, .Call (.Attribute o y ap) xs [] cp => okM m && decide (y = mthN m) && notCall0 o && (ap.endLine == cp.line) && isE Γ sc a o && isEs Γ sc es xs && decide (xs.length < 30)
  | .isi a ts, .Call (.Name y _) xs [] _ => (match xs with
    | [x, c] => decide (y = "isinstance") && isGl sc y && notStar x && isE Γ sc a x && (match c with
      | .Name z _ => (match ts with | [t] => decide (z = Str.ofString (tyN t)) && isGl sc z | _ => false)
      | .Tuple zs _ _ => !zs.isEmpty && tyE sc ts zs && decide (zs.length ≤ 1000)
      | _ => false)
    | _ => false)
  | .lc e t it c own, .ListComp x gs scope _ => (match gs with
    | [⟨tg, iter, ifs, 0⟩] => blkC Γ.N sc scope (own2 Γ.N own) && noSet iter && t.names.all (fun i => own.contains i) && isI Γ sc it tg iter && isG Γ (relS scope sc) (fun x => scope.names.lookup x == some .cell) t tg && isC Γ (relS scope sc) c ifs && isE Γ (relS scope sc) e x
    | _ => false)
  | .dic k es, .Dict ks vs _ => (match k with | .k => true | _ => false) && !ks.isEmpty && decide (ks.length ≤ 15) && (ks.length == vs.length) && ks.all (·.isSome) && isEs Γ sc es (pairE ks vs)
  | _, _ => false
def isEs (Γ : Sig) (sc : Scope) : Es → List Expr → Bool
  | .nil, [] => true
  | .cons e es, x :: xs => notStar x && isE Γ sc e x && isEs Γ sc es xs
  | _, _ => false
def isO (Γ : Sig) (sc : Scope) : Oe → Option Expr → Bool
  | .none, none => true
  | .some e, some x => isE Γ sc e x
  | _, _ => false
def isC (Γ : Sig) (sc : Scope) : Oe → List Expr → Bool
  | .none, [] => true
  | .some e, [x] => isE Γ sc e x
  | _, _ => false
def isI (Γ : Sig) (sc : Scope) : It → Expr → Expr → Bool
  | .val e, _, x => isE Γ sc e x
  | .rng1 a, _, x => (match x with
    | .Call (.Name y _) [x] [] _ => decide (y = "range") && isGl sc y && notStar x && isE Γ sc a x
    | _ => false)
  | .rng2 a b, _, x => (match x with
    | .Call (.Name y _) [x, z] [] _ => decide (y = "range") && isGl sc y && notStar x && notStar z && isE Γ sc a x && isE Γ sc b z
    | _ => false)
  | .enum e, tg, x => isTupE tg && (match x with
    | .Call (.Name y _) [x] [] _ => decide (y = "enumerate") && isGl sc y && notStar x && isE Γ sc e x
    | _ => false)
  | .zip a b, tg, x => isTupE tg && (match x with
    | .Call (.Name y _) [x, z] [] _ => decide (y = "zip") && isGl sc y && notStar x && notStar z && isE Γ sc a x && isE Γ sc b z
    | _ => false)
def isG (Γ : Sig) (sc : Scope) (fnc : Str → Bool) : T → Expr → Bool
  | .name i, .Name x _ => decide (Γ.N[i]? = some x) && okStore sc fnc x
  | .tup ts, .Tuple xs _ _ => isGs Γ sc fnc ts xs
  | .sub a i, .Subscript x y _ => isE Γ sc a x && isE Γ sc i y && notSlice y
  | _, _ => false
def isGs (Γ : Sig) (sc : Scope) (fnc : Str → Bool) : Ts → List Expr → Bool
  | .nil, [] => true
  | .cons t ts, x :: xs => notStar x && isG Γ sc fnc t x && isGs Γ sc fnc ts xs
  | _, _ => false
end
end Mi

-- MiM
set_option Elab.async false
set_option linter.all false
set_option maxRecDepth 100000
/-! Mi, part M: the check is sound, expressions. -/
namespace Mi
open PySem L2 PyProof.Rows

theorem and2 {a b : Bool} (h : (a && b) = true) : a = true ∧ b = true := by rwa [Bool.and_eq_true] at h
theorem and3 {a b c : Bool} (h : (a && b && c) = true) : a = true ∧ b = true ∧ c = true := by
  rw [Bool.and_eq_true, Bool.and_eq_true] at h; exact ⟨h.1.1, h.1.2, h.2⟩
theorem and4 {a b c d : Bool} (h : (a && b && c && d) = true) : a = true ∧ b = true ∧ c = true ∧ d = true := by
  obtain ⟨h, h4⟩ := and2 h; obtain ⟨h1, h2, h3⟩ := and3 h; exact ⟨h1, h2, h3, h4⟩
theorem okName_d {x : Str} (h : okName x = true) : (x == ("__debug__" : Str)) = false ∧ (x == ("__classdict__" : Str)) = false ∧ x ≠ "__name__" := by
  unfold okName at h
  obtain ⟨h1, h2, h3⟩ := and3 h
  refine ⟨by simpa using h1, by simpa using h2, fun z => ?_⟩
  rw [decide_eq_true z] at h3
  cases h3
variable {Γ : Sig}

section
variable {K : Frag} {ex : XW} {σ : L2.St} {H : Hp} {Q : VK} {m : Rho → M V2}
theorem te_and1 {o : Bool} (h : teM K ex (fun ρ => (do let v ← m ρ; let b ← truth v; if b then (Pure.pure true : M Bool) else Pure.pure false) >>= fun b => (Pure.pure (.d (.bl b)) : M V2)) σ H Q) : teM K ex m σ H Q := by
  obtain ⟨μ, S, ρ, rs, re, h⟩ := h
  dsimp only at h
  rw [M.assoc] at h
  refine te_bind rs re h fun μ1 H1 S1 a v x1 rs1 re1 rv1 h1 => ?_
  rw [M.assoc] at h1
  obtain ⟨b, rfl, h1⟩ := truth_of h1
  cases rv1
  cases b
  · exact post_d' rs1 (h1.base fun c e => x1.dom c e) (.bl _)
  · exact post_d' rs1 (h1.base fun c e => x1.dom c e) (.bl _)
theorem te_or1 (h : teM K ex (fun ρ => (do let v ← m ρ; let b ← truth v; if b then (Pure.pure true : M Bool) else Pure.pure false) >>= fun b => (Pure.pure (.d (.bl b)) : M V2)) σ H Q) : teM K ex m σ H Q := te_and1 (o := true) h
theorem te_and {mb : Rho → M Bool} (h : teM K ex (fun ρ => (do let v ← m ρ; let b ← truth v; if b then mb ρ else Pure.pure false) >>= fun b => (Pure.pure (.d (.bl b)) : M V2)) σ H Q) :
    tAndV (teM K ex m) (teM K ex (fun ρ => mb ρ >>= fun b => (Pure.pure (.d (.bl b)) : M V2))) σ H Q := by
  obtain ⟨μ, S, ρ, rs, re, h⟩ := h
  dsimp only at h
  rw [M.assoc] at h
  refine te_bind rs re h fun μ1 H1 S1 a v x1 rs1 re1 rv1 h1 => ?_
  rw [M.assoc] at h1
  obtain ⟨b, rfl, h1⟩ := truth_of h1
  cases rv1
  refine ⟨b, rfl, ?_⟩
  cases b
  · exact post_d' rs1 (h1.base fun c e => x1.dom c e) (.bl _)
  · exact ⟨μ1, S1, ρ, rs1, re1, h1.base fun c e => x1.dom c e⟩
theorem te_or {mb : Rho → M Bool} (h : teM K ex (fun ρ => (do let v ← m ρ; let b ← truth v; if b then Pure.pure true else mb ρ) >>= fun b => (Pure.pure (.d (.bl b)) : M V2)) σ H Q) :
    tOrV (teM K ex m) (teM K ex (fun ρ => mb ρ >>= fun b => (Pure.pure (.d (.bl b)) : M V2))) σ H Q := by
  obtain ⟨μ, S, ρ, rs, re, h⟩ := h
  dsimp only at h
  rw [M.assoc] at h
  refine te_bind rs re h fun μ1 H1 S1 a v x1 rs1 re1 rv1 h1 => ?_
  rw [M.assoc] at h1
  obtain ⟨b, rfl, h1⟩ := truth_of h1
  cases rv1
  refine ⟨b, rfl, ?_⟩
  cases b
  · exact ⟨μ1, S1, ρ, rs1, re1, h1.base fun c e => x1.dom c e⟩
  · exact post_d' rs1 (h1.base fun c e => x1.dom c e) (.bl _)
variable {Qb : Bool → Hp → Prop}
theorem tt_bl {mb : Rho → M Bool} (h : ttM K ex (fun ρ => (mb ρ >>= fun b => (Pure.pure (.d (.bl b)) : M V2)) >>= truth) σ H Qb) : ttM K ex mb σ H Qb := by
  obtain ⟨μ, S, ρ, rs, re, h⟩ := h
  refine ⟨μ, S, ρ, rs, re, ?_⟩
  have e : ((mb ρ >>= fun b => (Pure.pure (.d (.bl b)) : M V2)) >>= truth) = mb ρ := by
    rw [M.assoc]
    exact M.right _
  dsimp only at h
  rw [e] at h; exact h
theorem tt_and1 (h : ttM K ex (fun ρ => do let v ← m ρ; let b ← truth v; if b then (Pure.pure true : M Bool) else Pure.pure false) σ H Qb) : ttM K ex (fun ρ => m ρ >>= truth) σ H Qb := by
  obtain ⟨μ, S, ρ, rs, re, h⟩ := h
  refine ⟨μ, S, ρ, rs, re, ?_⟩
  have e : (do let v ← m ρ; let b ← truth v; if b then (Pure.pure true : M Bool) else Pure.pure false) = m ρ >>= truth := by
    show (m ρ >>= fun v => truth v >>= fun b => _) = _
    congr 1
    funext v
    have e2 : (fun b : Bool => if b = true then (Pure.pure true : M Bool) else Pure.pure false) = fun b => Pure.pure b := by
      funext b; cases b <;> rfl
    rw [e2, M.right]
  dsimp only at h ⊢
  rw [← e]; exact h
theorem tt_and {mb : Rho → M Bool} (h : ttM K ex (fun ρ => do let v ← m ρ; let b ← truth v; if b then mb ρ else Pure.pure false) σ H Qb) : tAnd (ttM K ex (fun ρ => m ρ >>= truth)) (ttM K ex mb) σ H Qb := by
  obtain ⟨μ, S, ρ, rs, re, h⟩ := h
  have h : Post K (fun _ H' _ b => Qb b H') (ex σ) μ H (((m ρ >>= truth) >>= fun b => if b then mb ρ else Pure.pure false) S) := by rw [M.assoc]; exact h
  refine tt_bind (m := fun ρ => m ρ >>= truth) rs re h fun μ1 H1 S1 t x1 rs1 re1 h1 => ?_
  cases t
  · exact h1 μ1 H1 Ext.refl rs1
  · exact ⟨μ1, S1, ρ, rs1, re1, h1⟩
theorem tt_or {mb : Rho → M Bool} (h : ttM K ex (fun ρ => do let v ← m ρ; let b ← truth v; if b then Pure.pure true else mb ρ) σ H Qb) : tOr (ttM K ex (fun ρ => m ρ >>= truth)) (ttM K ex mb) σ H Qb := by
  obtain ⟨μ, S, ρ, rs, re, h⟩ := h
  have h : Post K (fun _ H' _ b => Qb b H') (ex σ) μ H (((m ρ >>= truth) >>= fun b => if b then Pure.pure true else mb ρ) S) := by rw [M.assoc]; exact h
  refine tt_bind (m := fun ρ => m ρ >>= truth) rs re h fun μ1 H1 S1 t x1 rs1 re1 h1 => ?_
  cases t
  · exact ⟨μ1, S1, ρ, rs1, re1, h1⟩
  · exact h1 μ1 H1 Ext.refl rs1
theorem tt_cmp {g : V2 → V2 → M Bool} {m1 m2 : Rho → M V2} (h : ttM K ex (fun ρ => (do let x ← m1 ρ; let y ← m2 ρ; let r ← g x y; Pure.pure (V2.d (.bl r))) >>= truth) σ H Qb) : tTest (tOp (rMB K g) (teM K ex m1) (teM K ex m2)) σ H Qb :=
  tt_tst (m := fun ρ => do let x ← m1 ρ; let y ← m2 ρ; let r ← g x y; Pure.pure (V2.d (.bl r))) (fun _ => te_cmp) h
theorem taD_taV {ms : Rho → M (List D)} {Ql : List V → Hp → Prop} (h : taV K ex (fun ρ => do let xs ← ms ρ; Pure.pure (xs.map V2.d)) σ H Ql) : taD K ex ms σ H Ql := by
  obtain ⟨μ, S, ρ, rs, re, h⟩ := h
  refine ta_bind rs re h fun μ1 H1 S1 as vs x1 rs1 re1 r1 h1 => h1 μ1 H1 Ext.refl rs1 _ ?_
  have go : ∀ {as : List D} {vs : List V}, RDs K H1 μ1 as vs → RWs K H1 μ1 (as.map V2.d) vs := by
    intro as
    induction as with
    | nil => intro vs r; cases r; exact .nil
    | cons a as ih =>
      intro vs r
      cases r with
      | cons h t => exact .cons h (ih t)
  exact go r1
/-- a method's call -/
theorem te_mth {mt : Mth} {ms : Rho → M (List V2)} (h : teM K ex (fun ρ => do
    let x ← m ρ
    match x with
    | .d a => do
      rcv mt a
      let vs ← ms ρ
      mthV mt a vs
    | .l _ => Mi.bad) σ H Q) : tBM K (mthT mt) (rMth K mt) (teM K ex m) (taV K ex ms) σ H Q := by
  obtain ⟨μ, S, ρ, rs, re, h⟩ := h
  refine te_bind rs re h fun μ1 H1 S1 a v x1 rs1 re1 rv1 h1 => ?_
  cases a with
  | l xs => exact h1.elim
  | d a =>
    obtain ⟨ty, h1⟩ := rcv_ty rs1 rv1 h1
    refine ⟨ty, tv_bind rs1 re1 h1 fun μ2 H2 S2 as vs x2 rs2 re2 r2 h2 => ?_⟩
    exact ⟨_, μ2, S2, a, as, rs2, RD.mono x2.toMon rv1, r2, h2.base fun c e => (x1.trans x2).dom c e⟩
theorem te_mth0 {mt : Mth} (h : teM K ex (fun ρ => do
    let x ← m ρ
    match x with
    | .d a => do
      rcv mt a
      let vs ← (Pure.pure [] : M (List V2))
      mthV mt a vs
    | .l _ => Mi.bad) σ H Q) : tBM0 K (mthT mt) (rMth K mt) (teM K ex m) σ H Q := by
  obtain ⟨μ, S, ρ, rs, re, h⟩ := h
  refine te_bind rs re h fun μ1 H1 S1 a v x1 rs1 re1 rv1 h1 => ?_
  cases a with
  | l xs => exact h1.elim
  | d a =>
    obtain ⟨ty, h1⟩ := rcv_ty rs1 rv1 h1
    exact ⟨ty, _, μ1, S1, a, [], rs1, rv1, .nil, h1.base fun c e => x1.dom c e⟩
/-- classes, as arguments -/
def taTy (ts : List Ty) : TA := fun _ H Q => Q (ts.map fun t => V.ty (tyN t)) H
theorem te_isi1 {t : Ty} (h : teM K ex (fun ρ => do let x ← m ρ; let b ← isiV x [t]; Pure.pure (.d (.bl b))) σ H Q) : tCB (rIsM K [t]) (tCons (teM K ex m) (tCons (tC (.ty (tyN t))) tNil)) σ H Q := by
  obtain ⟨μ, S, ρ, rs, re, h⟩ := h
  refine te_bind rs re h fun μ1 H1 S1 a v x1 rs1 re1 rv1 h1 => ?_
  refine ⟨_, μ1, S1, a, v, _, rfl, rs1, rv1.rw, .inl ⟨t, rfl, rfl⟩, h1.bind.imp' fun μ3 H3 S3 r x3 rs3 q => post_d' rs3 (q.base fun c e => (x1.trans x3).dom c e) (.bl r)⟩
theorem te_isiT {ts : List Ty} (hne : ts ≠ []) (hz : ts.length ≤ sizeLine) (h : teM K ex (fun ρ => do let x ← m ρ; let b ← isiV x ts; Pure.pure (.d (.bl b))) σ H Q) : tCB (rIsM K ts) (tCons (teM K ex m) (tCons (tTup (taTy ts)) tNil)) σ H Q := by
  obtain ⟨μ, S, ρ, rs, re, h⟩ := h
  refine te_bind rs re h fun μ1 H1 S1 a v x1 rs1 re1 rv1 h1 => ⟨by rw [List.length_map]; exact hz, fun p hp => ?_⟩
  have x2 : Ext μ1 H1 μ1 (upd H1 p (.tup (ts.map fun t => V.ty (tyN t)))) := Ext.lay hp
  refine ⟨_, μ1, S1, a, v, _, rfl, rs1.lay hp, rv1.rw.ext x2, .inr ⟨hne, p, rfl, upd_same⟩, (Post.shift x2 h1).bind.imp' fun μ3 H3 S3 r x3 rs3 q => post_d' rs3 (q.base fun c e => (x1.trans (x2.trans x3)).dom c e) (.bl r)⟩
end
theorem ne_nil_of {α : Type} {xs : List α} (h : (!xs.isEmpty) = true) : xs ≠ [] := fun z => by rw [z] at h; cases h
theorem isEs_star {Γ : Sig} {sc : Scope} : ∀ {es : Es} {xs : List Expr}, isEs Γ sc es xs = true → xs.all notStar = true
  | .nil, [], _ => rfl
  | .cons e es, x :: xs, h => by
    obtain ⟨h1, h2, h3⟩ := and3 h
    rw [List.all_cons, h1, isEs_star h3]; rfl
  | .nil, _ :: _, h => by cases h
  | .cons _ _, [], h => by cases h
/-- how many -/
def Es.len : Es → Nat
  | .nil => 0
  | .cons _ es => es.len + 1
theorem isEs_len {Γ : Sig} {sc : Scope} : ∀ {es : Es} {xs : List Expr}, isEs Γ sc es xs = true → xs.length = es.len
  | .nil, [], _ => rfl
  | .cons e es, x :: xs, h => by
    obtain ⟨h1, h2, h3⟩ := and3 h
    show xs.length + 1 = es.len + 1
    rw [isEs_len h3]
  | .nil, _ :: _, h => by cases h
  | .cons _ _, [], h => by cases h
theorem M.bind_ok {α β : Type} {m : M α} {f : α → M β} {S S' : Sto} {b : β} (h : (m >>= f) S = .ok b S') : ∃ a S1, m S = .ok a S1 ∧ f a S1 = .ok b S' := by
  have h : M.bind m f S = .ok b S' := h
  unfold M.bind at h
  cases q : m S with
  | ok a S1 => rw [q] at h; exact ⟨a, S1, rfl, h⟩
  | exc e S1 => rw [q] at h; cases h
  | bad => rw [q] at h; cases h
theorem evD_len {C : Cxt} : ∀ (es : Es) {ρ : Rho} {S S' : Sto} {xs : List D}, evD C es ρ S = .ok xs S' → xs.length = es.len
  | .nil, ρ, S, S', xs, h => by
    have h : (Res.ok [] S : Res (List D)) = .ok xs S' := h
    cases h; rfl
  | .cons e es, ρ, S, S', xs, h => by
    have h : ((ev C e ρ >>= fun v => toD v >>= fun x => evD C es ρ >>= fun xs => (Pure.pure (x :: xs) : M (List D))) S) = .ok xs S' := h
    obtain ⟨v, S1, _, h⟩ := M.bind_ok h
    obtain ⟨x, S2, _, h⟩ := M.bind_ok h
    obtain ⟨ys, S3, h2, h⟩ := M.bind_ok h
    have h : (Res.ok (x :: ys) S3 : Res (List D)) = .ok xs S' := h
    cases h
    show ys.length + 1 = es.len + 1
    rw [evD_len es h2]

/-! ### calls of defs -/
theorem kw_all {env : Env} {pos : Pos} : ∀ {ks : List Str} {kws : List Keyword}, kwE ks kws = true → (backToKw pos (keywordEach kws env)).all (·.1.isSome) = true ∧ (backToKw pos (keywordEach kws env)).filterMap (·.1) = ks ∧ (backToKw pos (keywordEach kws env)).any (·.1.isNone) = false
  | [], [], _ => ⟨rfl, rfl, rfl⟩
  | x :: ks, ⟨some y, v, p⟩ :: kws, h => by
    obtain ⟨h1, h2⟩ := and2 h
    have e := of_decide_eq_true h1
    subst e
    obtain ⟨a, b, c⟩ := kw_all (env := env) (pos := pos) h2
    refine ⟨?_, ?_, ?_⟩
    · show (true && (backToKw pos (keywordEach kws env)).all (·.1.isSome)) = true
      rw [a]; rfl
    · show x :: (backToKw pos (keywordEach kws env)).filterMap (·.1) = _
      rw [b]
    · show (false || (backToKw pos (keywordEach kws env)).any (·.1.isNone)) = false
      rw [c]; rfl
  | [], _ :: _, h => by cases h
  | _ :: _, [], h => by cases h
  | _ :: _, ⟨none, _, _⟩ :: _, h => by cases h
section
variable {X : Cx} {f : Str} {g : List D → List Str → List D → M V2} {ms mk : Rho → M (List D)} {p pos : Pos} {kws : List Keyword} {ks : List Str}
theorem pe_callM {e : Expr} {es : List Expr} (c : CallG X f g) (hg : Gl X f) (hd : (f == ("__debug__" : Str)) = false) (ha : PA X (e :: es) (taD X.K exF ms)) (hk : PK X kws (taD X.K exF mk)) (hs : (e :: es).all notStar = true) (hks : kwE ks kws = true) :
    PE X (.Call (.Name f p) (e :: es) kws pos) (teM X.K exF (fun ρ => do let xs ← ms ρ; let ys ← mk ρ; g xs ks ys)) := by
  obtain ⟨a, hm, hkeep, run⟩ := c.ex
  obtain ⟨k1, k2, k3⟩ := kw_all (env := X.env) (pos := pos) hks
  refine ⟨fun pins s σ H Q I ⟨μ, S, ρ, rs, re, h⟩ => ?_⟩
  refine wpAny_Call_Name_kw (ld_glob I hg hm ?_ hd)
  have hs1 : notStar e = true := by rw [List.all_cons, Bool.and_eq_true] at hs; exact hs.1
  refine PySem.W.callWith_KW (h₀ := X.base) I.ok.mod.kin hkeep k1 (thn (ha.run pos pins s σ H (fun vs H1 => ∃ μ1 S1 xs, Ext μ H μ1 H1 ∧ RS X.K H1 μ1 S1 ∧ RE X.K H1 μ1 ρ σ ∧ RDs X.K H1 μ1 xs vs ∧ Post X.K (okV X.K H Q) (exF σ) μ1 H1 ((mk ρ >>= fun ys => g xs ks ys) S1)) I
    (ta_bind rs re h fun μ1 H1 S1 xs vs x1 rs1 re1 r1 h1 => ⟨μ1, S1, xs, x1, rs1, re1, r1, h1⟩)) fun us s1 ⟨vs, H1, I1, r, μ1, S1, xs, x1, rs1, re1, r1, h1⟩ => ?_) (by rw [star_any hs, k3]; rfl) (star_cons hs1 es _)
  refine thn (hk.run pos pins s1 σ H1 (fun zs H2 => ∃ μ2 S2 ys, Ext μ1 H1 μ2 H2 ∧ RS X.K H2 μ2 S2 ∧ RDs X.K H2 μ2 ys zs ∧ Post X.K (okV X.K H Q) (exF σ) μ2 H2 (g xs ks ys S2)) I1
    (ta_bind rs1 re1 h1 fun μ2 H2 S2 ys zs x2 rs2 re2 r2 h2 => ⟨μ2, S2, ys, x2, rs2, r2, h2⟩)) fun ws s2 ⟨zs, H2, I2, rz, μ2, S2, ys, x2, rs2, r2, h2⟩ => ⟨I2.kIn, ?_⟩
  rw [k2]
  exact run pins s2 σ H2 us ws vs zs ks Q μ2 S2 xs ys I2 r rz rs2 (r1.mono x2.toMon) r2 (h2.base fun c e => (x1.trans x2).dom c e)
theorem pe_callM0 (c : CallG X f g) (hg : Gl X f) (hd : (f == ("__debug__" : Str)) = false) (hk : PK X kws (taD X.K exF mk)) (hks : kwE ks kws = true) :
    PE X (.Call (.Name f p) [] kws pos) (teM X.K exF (fun ρ => do let xs ← (Pure.pure [] : M (List D)); let ys ← mk ρ; g xs ks ys)) := by
  obtain ⟨a, hm, hkeep, run⟩ := c.ex
  obtain ⟨k1, k2, k3⟩ := kw_all (env := X.env) (pos := pos) hks
  refine ⟨fun pins s σ H Q I ⟨μ, S, ρ, rs, re, h⟩ => ?_⟩
  refine wpAny_Call_Name_kw (ld_glob I hg hm ?_ hd)
  refine PySem.W.callWith_KW0 (h₀ := X.base) I.ok.mod.kin hkeep k1 (thn (hk.run pos pins s σ H (fun zs H2 => ∃ μ2 S2 ys, Ext μ H μ2 H2 ∧ RS X.K H2 μ2 S2 ∧ RDs X.K H2 μ2 ys zs ∧ Post X.K (okV X.K H Q) (exF σ) μ2 H2 (g [] ks ys S2)) I
    (ta_bind rs re h fun μ2 H2 S2 ys zs x2 rs2 re2 r2 h2 => ⟨μ2, S2, ys, x2, rs2, r2, h2⟩)) fun ws s2 ⟨zs, H2, I2, rz, μ2, S2, ys, x2, rs2, r2, h2⟩ => ⟨I2.kIn, ?_⟩) (by rw [k3]; rfl)
  rw [k2]
  exact run pins s2 σ H2 [] ws [] zs ks Q μ2 S2 [] ys I2 .nil rz rs2 .nil r2 (h2.base fun c e => x2.dom c e)
theorem pk_cons' {te : TE} {t : TA} {nm : Option Str} {v : Expr} {kp : Pos} (ha : PE X v te) (hr : PK X kws t) : PK X (⟨nm, v, kp⟩ :: kws) (tCons te t) := pk_cons ha hr
end
end Mi

-- MiN
set_option Elab.async false
set_option linter.all false
set_option maxRecDepth 100000
/-! Mi, part N: dict displays; the check is sound: the theorem for expressions. -/
namespace Mi
open PySem L2 PyProof.Rows

section
variable {K : Frag} {σ : L2.St} {H : Hp}
theorem Mon.growM {μ : List Addr} {p : Addr} {o o' : HO} (e : H p = some o) (mu : Mut (some o)) : Mon μ H μ (upd H p o') := by
  refine ⟨List.prefix_refl _, fun a xs z => ?_, fun a ob u z => ?_⟩
  · have q : a ≠ p := fun w => by rw [w, e] at z; cases z; exact mu.elim
    rw [upd_ne q]; exact z
  · have q : a ≠ p := fun w => by rw [w, e] at z; cases z; exact mu.elim
    rw [upd_ne q]; exact z
theorem RS.growM {μ : List Addr} {S : Sto} {p : Addr} {o o' : HO} (rs : RS K H μ S) (e : H p = some o) (mu : Mut (some o)) (hn : p ∉ μ) : RS K (upd H p o') μ S :=
  ⟨rs.len, rs.nd, fun n c a e1 e2 => (rs.cell n c a e1 e2).ext (Mon.growM e mu) (upd_ne fun z => hn (z ▸ List.mem_of_getElem? e2))⟩
theorem Ext.growM {μ μ1 : List Addr} {H1 : Hp} {p : Addr} {o o' : HO} (x : Ext μ H μ1 H1) (h0 : H p = none) (e : H1 p = some o) (mu : Mut (some o)) : Ext μ H μ1 (upd H1 p o') := by
  have m := Mon.growM (μ := μ1) (o' := o') e mu
  refine ⟨⟨x.pre, fun a xs z => m.tup a xs (x.tup a xs z), fun a ob u z => m.frz a ob u (x.frz a ob u z)⟩, fun a ob z hn => ?_, x.new, fun a z => ?_⟩
  · rw [upd_ne (ne_of_none z h0)]; exact x.keep a ob z hn
  · by_cases q : a = p
    · rw [q]; exact h0
    · rw [upd_ne q] at z; exact x.dom a z
/-- the pairs' readings -/
def trsOf (K : Frag) (C : Cxt) : Es → List (TE × TE)
  | .cons a (.cons b es) => (teM K exF (ev C a), teM K exF (ev C b)) :: trsOf K C es
  | _ => []
def even : Es → Bool
  | .nil => true
  | .cons _ .nil => false
  | .cons _ (.cons _ es) => even es
def flat2 (ps : List (V × V)) : List V := ps.flatMap fun p => [p.1, p.2]
theorem te_pairs {C : Cxt} : ∀ (es : Es) {μ : List Addr} {S : Sto} {ρ : Rho} {H : Hp} {ok : List Addr → Hp → Sto → List D → Prop} {R : List (V × V) → Hp → Prop}, even es = true → RS K H μ S → RE K H μ ρ σ →
    Post K (fun μ' H' S' ds => ∀ ps, RDs K H' μ' ds (flat2 ps) → R ps H') (exF σ) μ H (evD C es ρ S) → tPairs (trsOf K C es) σ H R
  | .nil, μ, S, ρ, H, _, R, _, rs, re, h => h μ H Ext.refl rs [] .nil
  | .cons _ .nil, _, _, _, _, _, _, h, _, _, _ => by cases h
  | .cons a (.cons b es), μ, S, ρ, H, okk, R, hev, rs, re, h => by
    have h : Post K (fun μ' H' S' ds => ∀ ps, RDs K H' μ' ds (flat2 ps) → R ps H') (exF σ) μ H ((ev C a ρ >>= fun v => toD v >>= fun x => (ev C b ρ >>= fun v => toD v >>= fun y => evD C es ρ >>= fun xs => (Pure.pure (y :: xs) : M (List D))) >>= fun xs => (Pure.pure (x :: xs) : M (List D))) S) := h
    refine td_bind (ex := exF) rs re h fun μ1 H1 S1 x v x1 rs1 re1 r1 h1 => ?_
    rw [M.assoc] at h1
    have h1 : Post K (fun μ' H' S' ds => ∀ ps, RDs K H' μ' ds (flat2 ps) → R ps H') (exF σ) μ1 H1 ((ev C b ρ >>= fun v => toD v >>= fun y => (evD C es ρ >>= fun xs => (Pure.pure (x :: y :: xs) : M (List D)))) S1) := by
      have e : (ev C b ρ >>= fun v => toD v >>= fun y => (evD C es ρ >>= fun xs => (Pure.pure (x :: y :: xs) : M (List D)))) = (ev C b ρ >>= fun a => (toD a >>= fun y => evD C es ρ >>= fun xs => (Pure.pure (y :: xs) : M (List D))) >>= fun xs => (Pure.pure (x :: xs) : M (List D))) := by
        congr 1; funext v; rw [M.assoc]; congr 1; funext y; rw [M.assoc]; rfl
      rw [e]; exact h1
    refine td_bind (ex := exF) rs1 re1 h1 fun μ2 H2 S2 y u x2 rs2 re2 r2 h2 => ?_
    refine te_pairs es (ok := okk) (by exact hev) rs2 re2 (h2.bind.imp' fun μ3 H3 S3 ds x3 rs3 q ps rp => ?_)
    exact q μ3 H3 Ext.refl rs3 ((v, u) :: ps) (.cons (r1.mono (x2.trans x3).toMon) (.cons (r2.mono x3.toMon) rp))
theorem pairs_rd {μ : List Addr} : ∀ {ds : List D} {kvs : List (D × D)} {ps : List (V × V)}, pairs .k ds = some kvs → RDs K H μ ds (flat2 ps) → ∃ zs : List (Key × V), ps = zs.map (fun kv => (kV kv.1, kv.2)) ∧ RKV K H μ keyD kvs zs
  | [], kvs, ps, h, r => by
    cases h
    cases ps with
    | nil => exact ⟨[], rfl, .nil⟩
    | cons p ps => cases r
  | [x], kvs, ps, h, r => by cases h
  | x :: y :: ds, kvs, ps, h, r => by
    unfold pairs at h
    cases q : keyOk .k x with
    | false => rw [q] at h; cases h
    | true =>
      rw [q] at h
      obtain ⟨ks, h1, h2⟩ := Mi.Option.map_some' h
      subst h2
      cases ps with
      | nil => cases r
      | cons p ps =>
        cases r with
        | cons r1 r =>
          cases r with
          | cons r2 r =>
            obtain ⟨zs, e1, e2⟩ := pairs_rd h1 r
            obtain ⟨ky, e3⟩ := plainK_key q
            subst e3
            have hk := RD.key r1
            obtain ⟨pa, pb⟩ := p
            dsimp only at hk
            subst hk
            refine ⟨(ky, pb) :: zs, ?_, .cons r2 e2⟩
            rw [List.map_cons, ← e1]
theorem RKV.merge {μ : List Addr} {kvs : List (D × D)} {zs : List (Key × V)} (h : RKV K H μ keyD kvs zs) : ∀ {acc : List (D × D)} {as : List (Key × V)}, RKV K H μ keyD acc as → RKV K H μ keyD (kvs.foldl (fun d p => dput d p.1 p.2) acc) (mergeK as zs) := by
  induction h with
  | nil => exact fun r => r
  | cons h t ih => exact fun r => ih (r.put _ h)
theorem te_dic {C : Cxt} {es : Es} {n : Nat} {Q : VK} (hev : even es = true) (hn : es.len = 2 * n) (h15 : n ≤ 15) (h : teM K exF (fun ρ => do
    let xs ← evD C es ρ
    let kvs ← orBad (pairsIn .k xs)
    let d ← alloc (.dic .k kvs)
    Pure.pure (.d d)) σ H Q) : tDisp (trsOf K C es) σ H Q := by
  obtain ⟨μ, S, ρ, rs, re, h⟩ := h
  intro p hp
  have x0 : Ext μ H μ (upd H p (.dK [])) := Ext.lay hp
  have hpm : p ∉ μ := fun z => by
    obtain ⟨o, e⟩ := rs.mem z
    rw [hp] at e; cases e
  refine te_pairs es (ok := fun _ _ _ _ => True) hev (rs.lay hp) (re.mono x0.toMon) ?_
  have h0 := Post.shift x0 h.bind0
  have hlen : ∀ xs S', evD C es ρ S = .ok xs S' → xs.length = 2 * n := fun xs S' e => by rw [evD_len es e, hn]
  cases qq : evD C es ρ S with
  | bad => rw [qq] at h0; exact h0
  | exc e S' => rw [qq] at h0; exact h0
  | ok ds S' =>
    rw [qq] at h0
    intro μ2 H2 x2 rs2 ps r2
    have h2 := h0 μ2 H2 x2 rs2
    obtain ⟨kvs, e1, h2⟩ := h2.orBad
    unfold pairsIn at e1
    obtain ⟨ks, e2, e3⟩ := Mi.Option.map_some' e1
    obtain ⟨zs, e4, e5⟩ := pairs_rd e2 r2
    have hp2 : H2 p = some (.dK []) := x2.keep p _ upd_same hpm
    have hp2m : p ∉ μ2 := x2.out upd_same hpm
    have x02 := x0.trans x2
    refine ⟨hp2, zs, e4, ?_, ?_⟩
    · have l1 := r2.length
      rw [hlen ds S' qq, e4] at l1
      have l2 : (flat2 (zs.map fun kv => (kV kv.1, kv.2))).length = 2 * zs.length := by
        clear e4 e5 l1
        induction zs with
        | nil => rfl
        | cons z zs ih =>
          show (flat2 (zs.map fun kv => (kV kv.1, kv.2))).length + 1 + 1 = 2 * (zs.length + 1)
          rw [ih]; omega
      rw [l2] at l1
      omega
    · have g := Mon.growM (μ := μ2) (o' := .dK (mergeK [] zs)) hp2 trivial
      have x3 := x02.growM (o' := .dK (mergeK [] zs)) hp hp2 trivial
      have rs3 := rs2.growM (o' := .dK (mergeK [] zs)) hp2 trivial hp2m
      have rk : RKV K (upd H2 p (.dK (mergeK [] zs))) μ2 keyD kvs (mergeK [] zs) := by
        rw [← e3]
        exact (RKV.merge e5 .nil).mono g
      have rc : RC K (upd H2 p (.dK (mergeK [] zs))) μ2 p (.dic .k kvs) := ⟨_, upd_same, rk⟩
      have rs4 := rs3.push hp2m rc
      have x4 := x3.push hp
      refine h2 (μ2 ++ [p]) _ x4 rs4 _ (RD.ref ?_)
      rw [← rs2.len]
      simp
end
end Mi

-- MiO
set_option Elab.async false
set_option linter.all false
set_option maxRecDepth 100000
set_option maxHeartbeats 8000000
/-! Mi, part O: the check is sound: the theorem for expressions. -/
namespace Mi
open PySem L2 PyProof.Rows

theorem pairE_len : ∀ {ks : List (Option Expr)} {vs : List Expr}, ks.length = vs.length → ks.all (·.isSome) = true → (pairE ks vs).length = 2 * ks.length
  | [], [], _, _ => rfl
  | some k :: ks, v :: vs, h, a => by
    have h : ks.length = vs.length := by simpa using h
    have a : ks.all (·.isSome) = true := by simpa using a
    show (pairE ks vs).length + 1 + 1 = 2 * (ks.length + 1)
    rw [pairE_len h a]; omega
  | none :: _, _, _, a => by simp at a
  | [], _ :: _, h, _ => by cases h
  | some _ :: _, [], h, _ => by cases h
theorem even_of : ∀ {es : Es} {n : Nat}, es.len = 2 * n → even es = true
  | .nil, _, _ => rfl
  | .cons _ .nil, n, h => by
    have h : 1 = 2 * n := h
    omega
  | .cons _ (.cons _ es), n, h => by
    have h : es.len + 1 + 1 = 2 * n := h
    exact even_of (es := es) (n := n - 1) (by omega)
theorem blt_in {f : Blt} : bltN f ∈ bltNs := by cases f <;> decide
theorem pe_bltM {X : Cx} {f : Blt} {e : Expr} {es : List Expr} {ms : Rho → M (List V2)} {p pos : Pos} (G : Gs X) (hg : Gl X (bltN f)) (hm : X.mg (bltN f) = none) (ha : PA X (e :: es) (taV X.K exF ms)) (hs : (e :: es).all notStar = true) :
    PE X (.Call (.Name (bltN f) p) (e :: es) [] pos) (tCB (rMs X.K (bltV f)) (taV X.K exF ms)) := by
  have hs1 : notStar e = true := by rw [List.all_cons, Bool.and_eq_true] at hs; exact hs.1
  have hs2 : es.all notStar = true := by rw [List.all_cons, Bool.and_eq_true] at hs; exact hs.2
  have c := call_blt G f
  cases f with
  | tuple => exact pe_callTy c hg hm rfl ha (by decide) (by decide) (star_cons hs1 es _) (star_any hs2)
  | list => exact pe_callTy c hg hm rfl ha (by decide) (by decide) (star_cons hs1 es _) (star_any hs2)
  | set => exact pe_callTy c hg hm rfl ha (by decide) (by decide) (star_cons hs1 es _) (star_any hs2)
  | dict => exact pe_callTy c hg hm rfl ha (by decide) (by decide) (star_cons hs1 es _) (star_any hs2)
  | int => exact pe_callTy c hg hm rfl ha (by decide) (by decide) (star_cons hs1 es _) (star_any hs2)
  | len => exact pe_callB c hg hm rfl ha (by decide) (by decide) (star_cons hs1 es _) (star_any hs2)
  | abs => exact pe_callB c hg hm rfl ha (by decide) (by decide) (star_cons hs1 es _) (star_any hs2)
  | min => exact pe_callB c hg hm rfl ha (by decide) (by decide) (star_cons hs1 es _) (star_any hs2)
  | max => exact pe_callB c hg hm rfl ha (by decide) (by decide) (star_cons hs1 es _) (star_any hs2)
  | sum => exact pe_callB c hg hm rfl ha (by decide) (by decide) (star_cons hs1 es _) (star_any hs2)
  | all => exact pe_callB c hg hm rfl ha (by decide) (by decide) (star_cons hs1 es _) (star_any hs2)
  | any => exact pe_callB c hg hm rfl ha (by decide) (by decide) (star_cons hs1 es _) (star_any hs2)
  | sorted => exact pe_callB c hg hm rfl ha (by decide) (by decide) (star_cons hs1 es _) (star_any hs2)
  | repr => exact pe_callB c hg hm rfl ha (by decide) (by decide) (star_cons hs1 es _) (star_any hs2)
  | divmod => exact pe_callB c hg hm rfl ha (by decide) (by decide) (star_cons hs1 es _) (star_any hs2)
theorem ty_boot (t : Ty) : bootBuiltins (Str.ofString (tyN t)) = some (.type (tyN t)) := by cases t <;> rfl
theorem ty_in (t : Ty) : (Str.ofString (tyN t)) ∈ bltNs := by cases t <;> decide
theorem ty_nn (t : Ty) : (Str.ofString (tyN t)) ≠ "__name__" := by cases t <;> decide
theorem ty_nd (t : Ty) : (Str.ofString (tyN t) == ("__debug__" : Str)) = false := by cases t <;> decide
theorem pe_ty {Γ : Sig} {sc : Scope} {X : Cx} (G : Good Γ sc X) {t : Ty} {p : Pos} (h : isGl sc (Str.ofString (tyN t)) = true) : PE X (.Name (Str.ofString (tyN t)) p) (tC (.ty (tyN t))) :=
  pe_bltn (gl_of G h) (G.blt _ (ty_in t)) (ty_boot t) rfl (ty_nn t) (ty_nd t)
theorem pa_ty {Γ : Sig} {sc : Scope} {X : Cx} (G : Good Γ sc X) : ∀ {ts : List Ty} {xs : List Expr}, tyE sc ts xs = true → PA X xs (taTy ts)
  | [], [], _ => pa_nil
  | t :: ts, x :: xs, h => by
    cases x with
    | Name y p =>
      obtain ⟨h1, h2, h3⟩ := and3 h
      have e := of_decide_eq_true h1
      subst e
      exact PA.imp (pa_cons (pe_ty G h2) (pa_ty G h3) rfl) fun σ H Q q => q
    | _ => cases h
  | [], _ :: _, h => by cases h
  | _ :: _, [], h => by cases h
theorem tyE_ne {sc : Scope} {ts : List Ty} {xs : List Expr} (h : tyE sc ts xs = true) (hx : xs ≠ []) : ts ≠ [] := fun z => by
  subst z
  cases xs with
  | nil => exact hx rfl
  | cons x xs => cases h
theorem tyE_len {sc : Scope} : ∀ {ts : List Ty} {xs : List Expr}, tyE sc ts xs = true → ts.length = xs.length
  | [], [], _ => rfl
  | t :: ts, x :: xs, h => by
    cases x with
    | Name y p =>
      obtain ⟨h1, h2, h3⟩ := and3 h
      rw [List.length_cons, List.length_cons, tyE_len h3]
    | _ => cases h
  | [], _ :: _, h => by cases h
  | _ :: _, [], h => by cases h
theorem size1000 {n : Nat} (h : n ≤ 1000) : n ≤ sizeLine := by rw [← most_eq]; unfold most; omega
/-- the good context goes on within a comprehension's block -/
theorem Good.blk {Γ : Sig} {sc : Scope} {X : Cx} (G : Good Γ sc X) (s : Shared) (H : Hp) (scope : Scope) (C : Addr) (cl : List (Str × Addr)) (fp : List Addr) : Good Γ (relS scope sc) (X.blk s H scope (compEnvC scope cl C X.env) fp) := by
  refine ⟨G.N, G.nd, ?_, ⟨G.gs.un, G.gs.calm, G.gs.gs⟩, PassesOwn.never, G.glob, G.blt, G.call⟩
  have e := G.sc
  subst e
  rfl
theorem loc_of {Γ : Sig} {sc : Scope} {X : Cx} (G : Good Γ sc X) {fnc : Str → Bool} (hf : ∀ x, fnc x = true → X.fn x = true) {x : Str} (h : okStore sc fnc x = true) : Loc X.env.scope x ∧ (X.fn x = true ∨ X.env.scope.names.lookup x = some .local) := by
  unfold okStore at h
  rw [← G.sc] at h
  split at h
  · exact ⟨.inl (by assumption), .inr (by assumption)⟩
  · exact ⟨.inr (by assumption), .inl (hf x h)⟩
  · cases h

def isTestE : E → Bool
  | .not _ | .and _ | .or _ | .cmp _ _ _ | .cmp2 _ _ _ _ _ | .ite _ _ _ => true
  | _ => false
theorem plain_of {Γ : Sig} {sc : Scope} {e : E} {x : Expr} (h : isE Γ sc e x = true) (he : isTestE e = false) : plainTest x = true := by
  cases x with
  | UnaryOp op a p =>
    cases op with
    | Not => cases e <;> first | (cases h; done) | (cases he; done)
    | _ => rfl
  | BoolOp op a p => cases e <;> first | (cases h; done) | (cases he; done)
  | IfExp a b c p => cases e <;> first | (cases h; done) | (cases he; done)
  | Compare a b c p => cases e <;> first | (cases h; done) | (cases he; done)
  | _ => rfl
theorem hex0 (σ : L2.St) : ∀ σ', exF σ' = exF σ := fun _ => rfl
section
variable {Γ : Sig}
mutual
theorem okE : ∀ (e : E) {sc : Scope} {X : Cx} {x : Expr}, Good Γ sc X → isE Γ sc e x = true → PE X x (teM X.K exF (ev Γ.C e))
  | .non, sc, X, x, G, h => by
    cases x with
    | Constant c k p =>
      cases c with
      | none => exact PE.imp pe_non fun σ H Q => te_const (fun _ => .non)
      | _ => cases h
    | _ => cases h
  | .bl b, sc, X, x, G, h => by
    cases x with
    | Constant c k p =>
      cases c with
      | bool d =>
        have e := eq_of_beq (show (b == d) = true from h)
        subst e
        exact PE.imp pe_bl fun σ H Q => te_const (fun _ => .bl _)
      | _ => cases h
    | _ => cases h
  | .int i, sc, X, x, G, h => by
    cases x with
    | Constant c k p =>
      cases c with
      | int d =>
        have e := of_decide_eq_true (show decide (i = d) = true from h)
        subst e
        exact PE.imp pe_int fun σ H Q => te_const (fun _ => .int _)
      | _ => cases h
    | _ => cases h
  | .str z, sc, X, x, G, h => by
    cases x with
    | Constant c k p =>
      cases c with
      | str d =>
        have e := of_decide_eq_true (show decide (z = d) = true from h)
        subst e
        exact PE.imp pe_str fun σ H Q => te_const (fun _ => .str _)
      | _ => cases h
    | _ => cases h
  | .var i, sc, X, x, G, h => by
    cases x with
    | Name x p =>
      obtain ⟨h1, h2, h3⟩ := and3 h
      obtain ⟨d1, d2, _⟩ := okName_d h3
      exact PE.imp (pe_var (by rw [G.N]; exact of_decide_eq_true h1) (by rw [G.sc]; exact vis_of h2) d1 d2) fun σ H Q => te_var
    | _ => cases h
  | .glb z, sc, X, x, G, h => by
    cases x with
    | Name y p =>
      obtain ⟨h1, h2, h3⟩ := and3 h
      have e := of_decide_eq_true h1
      subst e
      obtain ⟨d1, d2, _⟩ := okName_d h3
      cases q : Γ.C.glob z with
      | none =>
        refine ⟨fun pins s σ H Q I ⟨μ, S, ρ, rs, re, hh⟩ => ?_⟩
        have hh : Post X.K (okV X.K H Q) (exF σ) μ H ((orBad (Γ.C.glob z) >>= fun d => (Pure.pure (.d d) : M V2)) S) := hh
        rw [q] at hh
        exact hh.elim
      | some d =>
        obtain ⟨v, u, hm, r, hr⟩ := G.glob z d q
        exact PE.imp (pe_glob (gl_of G h2) hm r d1) fun σ H Q => te_glob (fun d' e => by rw [q] at e; cases e; exact hr)
    | _ => cases h
  | .tup es, sc, X, x, G, h => by
    cases x with
    | Tuple xs k p =>
      obtain ⟨h1, h2⟩ := and2 h
      exact PE.imp (pe_tup (okAD es G h1)) fun σ H Q => te_tup (n := es.len) (fun ρ S xs S' => evD_len es) (by rw [← isEs_len h1]; exact size1000 (of_decide_eq_true h2))
    | _ => cases h
  | .lst es, sc, X, x, G, h => by
    cases x with
    | List xs p =>
      obtain ⟨h1, h2⟩ := and2 h
      exact PE.imp (pe_lst (okAD es G h1)) fun σ H Q => te_lst (n := es.len) (fun ρ S xs S' => evD_len es) (by rw [← isEs_len h1]; exact size1000 (of_decide_eq_true h2))
    | _ => cases h
  | .bin o a b, sc, X, x, G, h => by
    cases x with
    | BinOp x p y pos =>
      obtain ⟨h1, h2, h3⟩ := and3 h
      have e := sameOp_eq h1
      subst e
      exact PE.imp (pe_op (op_bin (by have := G.gs.un; omega) o) (okE a G h2) (okE b G h3)) fun σ H Q => te_bin
    | _ => cases h
  | .neg a, sc, X, x, G, h => by
    cases x with
    | UnaryOp op y p =>
      cases op with
      | USub => exact PE.imp (pe_un un_neg (okE a G h)) fun σ H Q => te_neg
      | _ => cases h
    | _ => cases h
  | .not a, sc, X, x, G, h => by
    cases x with
    | UnaryOp op y p =>
      cases op with
      | Not => exact PE.imp (pe_not (okE a G h)) fun σ H Q => te_not
      | _ => cases h
    | _ => cases h
  | .and es, sc, X, x, G, h => by
    cases x with
    | BoolOp op xs p =>
      cases op with
      | And =>
        obtain ⟨h1, h2⟩ := and2 h
        exact okAnd es G h2 (ne_nil_of h1)
      | _ => cases h
    | _ => cases h
  | .or es, sc, X, x, G, h => by
    cases x with
    | BoolOp op xs p =>
      cases op with
      | Or =>
        obtain ⟨h1, h2⟩ := and2 h
        exact okOr es G h2 (ne_nil_of h1)
      | _ => cases h
    | _ => cases h
  | .cmp o a b, sc, X, x, G, h => by
    cases x with
    | Compare y ops zs p =>
      cases ops with
      | nil => cases h
      | cons op ops =>
        cases ops with
        | cons _ _ => cases zs with | nil => cases h | cons _ zs => cases zs <;> cases h
        | nil =>
          cases zs with
          | nil => cases h
          | cons z zs =>
            cases zs with
            | cons _ _ => cases h
            | nil =>
              obtain ⟨h1, h2, h3, h4⟩ := and4 h
              have e := sameC_eq h1
              subst e
              exact PE.imp (pe_cmpR (op_cmp (by have := G.gs.un; omega) o) (okE a G h2) (okE b G h3) (by simpa using h4)) fun σ H Q => te_cmp
    | _ => cases h
  | .cmp2 o o2 a b c, sc, X, x, G, h => by
    cases x with
    | Compare y ops zs p =>
      match ops, zs, h with
      | [op, op2], [z, z2], h =>
        obtain ⟨h, h6⟩ := and2 h
        obtain ⟨h, h5⟩ := and2 h
        obtain ⟨h1, h2, h3, h4⟩ := and4 h
        have e := sameC_eq h1
        subst e
        have e := sameC_eq h2
        subst e
        exact PE.imp (pe_chain (op_cmp (by have := G.gs.un; omega) o) (op_cmp (by have := G.gs.un; omega) o2) (okE a G h3) (okE b G h4) (okE c G h5) (by simpa using h6)) fun σ H Q => te_chain
    | _ => cases h
  | .ite c a b, sc, X, x, G, h => by
    cases x with
    | IfExp t y z p =>
      obtain ⟨h1, h2, h3⟩ := and3 h
      exact PE.imp (pe_ifExp (okT c G h1) (okE a G h2) (okE b G h3)) fun σ H Q => te_ite
    | _ => cases h
  | .idx a i, sc, X, x, G, h => by
    cases x with
    | Subscript y z p =>
      obtain ⟨h1, h2, h3⟩ := and3 h
      exact PE.imp (pe_ix (ix_idx (by have := G.gs.un; omega)) (okE a G h1) (okE i G h2) (plain_ix h3)) fun σ H Q => te_bin
    | _ => cases h
  | .slc a lo hi, sc, X, x, G, h => by
    cases x with
    | Subscript y z p =>
      cases z with
      | Slice l u st q =>
        cases st with
        | none =>
          obtain ⟨h1, h2, h3⟩ := and3 h
          exact PE.imp (pe_slice sl_slc (okE a G h1) (okO lo G h2) (okO hi G h3)) fun σ H Q => te_slc
        | some _ => cases h
      | _ => cases h
    | _ => cases h
  | .rev a, sc, X, x, G, h => by
    cases x with
    | Subscript y z p =>
      match z, h with
      | .Slice none none (some (.UnaryOp .USub (.Constant (.int j) k p1) p2)) p3, h =>
        obtain ⟨h1, h2⟩ := and2 h
        have e := of_decide_eq_true h2
        subst e
        exact PE.imp (pe_rev (okE a G h1)) fun σ H Q => te_rev
    | _ => cases h
  | .call f es ks kes, sc, X, x, G, h => by
    cases x with
    | Call fn xs kws p =>
      cases fn with
      | Name y np =>
        obtain ⟨h, h7⟩ := and2 h
        obtain ⟨h, h6⟩ := and2 h
        obtain ⟨h, h5⟩ := and2 h
        obtain ⟨h1, h2, h3, h4⟩ := and4 h
        have e := of_decide_eq_true h1
        subst e
        obtain ⟨d1, _, _⟩ := okName_d h4
        obtain ⟨n, hr, F⟩ := G.call f (by simpa using h2)
        have cg := callG_of F hr G.gs.gs
        cases xs with
        | nil =>
          cases es with
          | nil => exact PE.imp (pe_callM0 cg (gl_of G h3) d1 (okK kes G h7) h6) fun σ H Q q => q
          | cons _ _ => cases h5
        | cons x xs => exact PE.imp (pe_callM cg (gl_of G h3) d1 (okAD es G h5) (okK kes G h7) (isEs_star h5) h6) fun σ H Q q => q
      | _ => cases h
    | _ => cases h
  | .blt f es, sc, X, x, G, h => by
    cases x with
    | Call fn xs kws p =>
      cases fn with
      | Name y np =>
        cases kws with
        | cons _ _ => cases h
        | nil =>
          obtain ⟨h1, h2, h3, h4⟩ := and4 h
          have e := of_decide_eq_true h1
          subst e
          cases xs with
          | nil => cases h4
          | cons x xs => exact PE.imp (pe_bltM G.gs (gl_of G h2) (G.blt _ blt_in) (okAV es G h3) (isEs_star h3)) fun σ H Q => te_blt
      | _ => cases h
    | _ => cases h
  | .mth m a es, sc, X, x, G, h => by
    cases x with
    | Call fn xs kws p =>
      cases fn with
      | Attribute o y ap =>
        cases kws with
        | cons _ _ => cases h
        | nil =>
          obtain ⟨h, h7⟩ := and2 h
          obtain ⟨h, h6⟩ := and2 h
          obtain ⟨h, h5⟩ := and2 h
          obtain ⟨h1, h2, h3, h4⟩ := and4 h
          have e := of_decide_eq_true h2
          subst e
          have mt := mt_m (X := X) (by have := G.gs.un; omega) m
          cases xs with
          | nil =>
            cases es with
            | nil =>
              refine PE.imp (pe_bm0 (m_pa h1) (m_slot h1) (m_ty h1) mt (okE a G h5) (attr_base h3 _ _ _) h4) fun σ H Q q => te_mth0 ?_
              by_cases e : m = .append
              · subst e; exact q
              · have e2 : ev Γ.C (.mth m a .nil) = fun ρ => (do
                    let x ← ev Γ.C a ρ
                    match x with
                    | .d a => do
                      rcv m a
                      let vs ← (Pure.pure [] : M (List V2))
                      mthV m a vs
                    | .l _ => Mi.bad) := by
                  funext ρ
                  show (ev Γ.C a ρ >>= fun x => _) = (ev Γ.C a ρ >>= fun x => _)
                  congr 1
                  funext x
                  cases x with
                  | l xs => rfl
                  | d a =>
                    show (rcv m a >>= fun _ => (if m = .append then _ else _) >>= _) = _
                    rw [if_neg e]
                    rfl
                rw [e2] at q
                exact q
            | cons _ _ => cases h6
          | cons x xs =>
            have hall := isEs_star h6
            have hs1 : notStar x = true := by rw [List.all_cons, Bool.and_eq_true] at hall; exact hall.1
            have hs2 : xs.all notStar = true := by rw [List.all_cons, Bool.and_eq_true] at hall; exact hall.2
            have pa : PA X (x :: xs) (taV X.K exF (fun ρ => if m = .append then (do let xs ← evD Γ.C es ρ; Pure.pure (xs.map V2.d)) else evV Γ.C es ρ)) := by
              by_cases e : m = .append
              · rw [show (fun ρ => if m = .append then (do let xs ← evD Γ.C es ρ; Pure.pure (xs.map V2.d)) else evV Γ.C es ρ) = (fun ρ => (do let xs ← evD Γ.C es ρ; Pure.pure (xs.map V2.d) : M (List V2))) from funext fun ρ => if_pos e]
                exact PA.imp (okAD es G h6) fun σ H Q => taD_taV
              · rw [show (fun ρ => if m = .append then (do let xs ← evD Γ.C es ρ; Pure.pure (xs.map V2.d)) else evV Γ.C es ρ) = (fun ρ => evV Γ.C es ρ) from funext fun ρ => if_neg e]
                exact okAV es G h6
            refine PE.imp (pe_bm (m_pa h1) (m_slot h1) (m_ty h1) mt (okE a G h5) pa (attr_base h3 _ _ _) ?_ h4 (star_cons hs1 xs _) (star_any hs2)) fun σ H Q q => te_mth q
            rw [star_all hall]
            show (true && true && decide ((x :: xs).length + 0 + 0 < 30)) = true
            rw [decide_eq_true (by simpa using of_decide_eq_true h7)]
            rfl
      | _ => cases h
    | _ => cases h
  | .isi a ts, sc, X, x, G, h => by
    cases x with
    | Call fn xs kws p =>
      cases fn with
      | Name y np =>
        cases kws with
        | cons _ _ => cases h
        | nil =>
          match xs, h with
          | [x, c], h =>
            obtain ⟨h, h5⟩ := and2 h
            obtain ⟨h1, h2, h3, h4⟩ := and4 h
            have e := of_decide_eq_true h1
            subst e
            have hm : X.mg "isinstance" = none := G.blt _ (by decide)
            cases c with
            | Name z zp =>
              match ts, h5 with
              | [t], h5 =>
                obtain ⟨h6, h7⟩ := and2 h5
                have e := of_decide_eq_true h6
                subst e
                exact PE.imp (pe_callB (call_isM [t]) (gl_of G h2) hm rfl (pa_cons (okE a G h4) (pa_cons (pe_ty G h7) pa_nil rfl) (star_cons h3 _ _)) (by decide) (by decide) (star_cons h3 _ _) rfl) fun σ H Q => te_isi1
            | Tuple zs zk zp =>
              obtain ⟨h6, h7, h8⟩ := and3 h5
              exact PE.imp (pe_callB (call_isM ts) (gl_of G h2) hm rfl (pa_cons (okE a G h4) (pa_cons (pe_tup (pa_ty G h7)) pa_nil rfl) (star_cons h3 _ _)) (by decide) (by decide) (star_cons h3 _ _) rfl) fun σ H Q => te_isiT (tyE_ne h7 (ne_nil_of h6)) (by rw [tyE_len h7]; exact size1000 (of_decide_eq_true h8))
            | _ => cases h5
      | _ => cases h
    | _ => cases h
  | .lc e t it c own, sc, X, x, G, h => by
    cases x with
    | ListComp x gs scope p =>
      match gs, h with
      | [⟨tg, iter, ifs, 0⟩], h =>
        obtain ⟨h, h7⟩ := and2 h
        obtain ⟨h, h6⟩ := and2 h
        obtain ⟨h, h5⟩ := and2 h
        obtain ⟨h1, h2, h3, h4⟩ := and4 h
        have blk : BlkOk X.N X.env.scope scope (own2 Γ.N own) := by
          rw [G.N, G.sc]; exact blkOk_by h1
        refine PE.imp (pe_lc (wi := tiM X.K exF (evI Γ.C it)) (g := tgM X.K exF t.names (asg Γ.C t)) (tt := ttM X.K exF (evC Γ.C c)) (te := teM X.K exF (ev Γ.C e)) G.gs.calm (by rw [G.N]; exact G.nd) (okI it G h4) blk (fun s H C cl fp => okG t (G.blk s H scope C cl fp) (fun x z => z) h5) (fun s H C cl fp => okC c (G.blk s H scope C cl fp) h6) (fun s H C cl fp => okE e (G.blk s H scope C cl fp) h7) (noSet_fold h2 _)) fun σ H Q q => ?_
        rw [own2_snd]
        exact te_lc (fun i hi => by simpa using List.all_eq_true.mp h3 i hi) q
    | _ => cases h
  | .lc2 _ _ _ _ _ _ _ _ _, sc, X, x, G, h => by cases x <;> cases h
  | .dic k es, sc, X, x, G, h => by
    cases x with
    | Dict ks vs p =>
      obtain ⟨h, h6⟩ := and2 h
      obtain ⟨h, h5⟩ := and2 h
      obtain ⟨h1, h2, h3, h4⟩ := and4 h
      cases k with
      | k =>
        have hl : ks.length = vs.length := eq_of_beq h4
        have h15 := of_decide_eq_true h3
        have hz : es.len = 2 * ks.length := by rw [← isEs_len h6, pairE_len hl h5]
        exact PE.imp (pe_disp (okPP es G hl h5 h6) h5 hl (ne_nil_of h2) h15) fun σ H Q => te_dic (even_of hz) hz h15
      | _ => cases h1
    | _ => cases h
theorem okT : ∀ (e : E) {sc : Scope} {X : Cx} {x : Expr}, Good Γ sc X → isE Γ sc e x = true → PT X x (ttM X.K exF (fun ρ => ev Γ.C e ρ >>= truth))
  | .not a, sc, X, x, G, h => by
    cases x with
    | UnaryOp op y p =>
      cases op with
      | Not => exact PT.imp (pt_not (okT a G h)) fun σ H Q => tt_not
      | _ => cases h
    | _ => cases h
  | .and es, sc, X, x, G, h => by
    cases x with
    | BoolOp op xs p =>
      cases op with
      | And =>
        obtain ⟨h1, h2⟩ := and2 h
        exact PT.imp (okAndT es G h2 (ne_nil_of h1)).pt fun σ H Q => tt_bl
      | _ => cases h
    | _ => cases h
  | .or es, sc, X, x, G, h => by
    cases x with
    | BoolOp op xs p =>
      cases op with
      | Or =>
        obtain ⟨h1, h2⟩ := and2 h
        exact PT.imp (okOrT es G h2 (ne_nil_of h1)).pt fun σ H Q => tt_bl
      | _ => cases h
    | _ => cases h
  | .cmp o a b, sc, X, x, G, h => by
    cases x with
    | Compare y ops zs p =>
      match ops, zs, h with
      | [op], [z], h =>
        obtain ⟨h1, h2, h3, h4⟩ := and4 h
        have e := sameC_eq h1
        subst e
        exact PT.imp (pt_cmpR (op_cmp (by have := G.gs.un; omega) o) (okE a G h2) (okE b G h3) (by simpa using h4)) fun σ H Q => tt_cmp
    | _ => cases h
  | .cmp2 o o2 a b c, sc, X, x, G, h => by
    cases x with
    | Compare y ops zs p =>
      match ops, zs, h with
      | [op, op2], [z, z2], h =>
        obtain ⟨h, h6⟩ := and2 h
        obtain ⟨h, h5⟩ := and2 h
        obtain ⟨h1, h2, h3, h4⟩ := and4 h
        have e := sameC_eq h1
        subst e
        have e := sameC_eq h2
        subst e
        exact PT.imp (pt_chain (op_cmp (by have := G.gs.un; omega) o) (op_cmp (by have := G.gs.un; omega) o2) (okE a G h3) (okE b G h4) (okE c G h5) (by simpa using h6)) fun σ H Q q => tt_tst (fun _ => te_chain) q
    | _ => cases h
  | .ite c a b, sc, X, x, G, h => by
    cases x with
    | IfExp t y z p =>
      obtain ⟨h1, h2, h3⟩ := and3 h
      refine ⟨fun pins s σ H Q I q => ?_⟩
      have q := tt_ite q
      have e : PySem.isTrue (.IfExp t y z p) X.env (eval (.IfExp t y z p) X.env) = (do if ← PySem.isTrue t X.env (eval t X.env) then PySem.isTrue y X.env (eval y X.env) else PySem.isTrue z X.env (eval z X.env)) := rfl
      rw [e]
      refine wpAny_bind (thn ((okT c G h1).run pins s σ H _ I q) fun b s1 ⟨H1, I1, q1⟩ => ?_)
      cases b with
      | true => exact (okT a G h2).run pins s1 σ H1 _ I1 q1
      | false => exact (okT b G h3).run pins s1 σ H1 _ I1 q1
    | _ => cases h
  | .non, sc, X, x, G, h => PT.imp (pt_plain (okE .non G h) (plain_of h rfl)) fun σ H Q => tt_val
  | .bl b, sc, X, x, G, h => PT.imp (pt_plain (okE (.bl b) G h) (plain_of h rfl)) fun σ H Q => tt_val
  | .int i, sc, X, x, G, h => PT.imp (pt_plain (okE (.int i) G h) (plain_of h rfl)) fun σ H Q => tt_val
  | .str z, sc, X, x, G, h => PT.imp (pt_plain (okE (.str z) G h) (plain_of h rfl)) fun σ H Q => tt_val
  | .var i, sc, X, x, G, h => PT.imp (pt_plain (okE (.var i) G h) (plain_of h rfl)) fun σ H Q => tt_val
  | .glb z, sc, X, x, G, h => PT.imp (pt_plain (okE (.glb z) G h) (plain_of h rfl)) fun σ H Q => tt_val
  | .tup es, sc, X, x, G, h => PT.imp (pt_plain (okE (.tup es) G h) (plain_of h rfl)) fun σ H Q => tt_val
  | .lst es, sc, X, x, G, h => PT.imp (pt_plain (okE (.lst es) G h) (plain_of h rfl)) fun σ H Q => tt_val
  | .bin o a b, sc, X, x, G, h => PT.imp (pt_plain (okE (.bin o a b) G h) (plain_of h rfl)) fun σ H Q => tt_val
  | .neg a, sc, X, x, G, h => PT.imp (pt_plain (okE (.neg a) G h) (plain_of h rfl)) fun σ H Q => tt_val
  | .idx a i, sc, X, x, G, h => PT.imp (pt_plain (okE (.idx a i) G h) (plain_of h rfl)) fun σ H Q => tt_val
  | .slc a lo hi, sc, X, x, G, h => PT.imp (pt_plain (okE (.slc a lo hi) G h) (plain_of h rfl)) fun σ H Q => tt_val
  | .rev a, sc, X, x, G, h => PT.imp (pt_plain (okE (.rev a) G h) (plain_of h rfl)) fun σ H Q => tt_val
  | .call f es ks kes, sc, X, x, G, h => PT.imp (pt_plain (okE (.call f es ks kes) G h) (plain_of h rfl)) fun σ H Q => tt_val
  | .blt f es, sc, X, x, G, h => PT.imp (pt_plain (okE (.blt f es) G h) (plain_of h rfl)) fun σ H Q => tt_val
  | .mth m a es, sc, X, x, G, h => PT.imp (pt_plain (okE (.mth m a es) G h) (plain_of h rfl)) fun σ H Q => tt_val
  | .isi a ts, sc, X, x, G, h => PT.imp (pt_plain (okE (.isi a ts) G h) (plain_of h rfl)) fun σ H Q => tt_val
  | .lc e t it c own, sc, X, x, G, h => PT.imp (pt_plain (okE (.lc e t it c own) G h) (plain_of h rfl)) fun σ H Q => tt_val
  | .lc2 e t it c t2 it2 c2 own own2, sc, X, x, G, h => PT.imp (pt_plain (okE (.lc2 e t it c t2 it2 c2 own own2) G h) (plain_of h rfl)) fun σ H Q => tt_val
  | .dic k es, sc, X, x, G, h => PT.imp (pt_plain (okE (.dic k es) G h) (plain_of h rfl)) fun σ H Q => tt_val
theorem okAD : ∀ (es : Es) {sc : Scope} {X : Cx} {xs : List Expr}, Good Γ sc X → isEs Γ sc es xs = true → PA X xs (taD X.K exF (evD Γ.C es))
  | .nil, sc, X, [], G, h => PA.imp pa_nil fun σ H Q => ta_nilD
  | .cons e es, sc, X, x :: xs, G, h => by
    obtain ⟨h1, h2, h3⟩ := and3 h
    exact PA.imp (pa_cons (okE e G h2) (okAD es G h3) (star_cons h1 _ _)) fun σ H Q => ta_consD
  | .nil, _, _, _ :: _, _, h => by cases h
  | .cons _ _, _, _, [], _, h => by cases h
theorem okAV : ∀ (es : Es) {sc : Scope} {X : Cx} {xs : List Expr}, Good Γ sc X → isEs Γ sc es xs = true → PA X xs (taV X.K exF (evV Γ.C es))
  | .nil, sc, X, [], G, h => PA.imp pa_nil fun σ H Q => ta_nilV
  | .cons e es, sc, X, x :: xs, G, h => by
    obtain ⟨h1, h2, h3⟩ := and3 h
    exact PA.imp (pa_cons (okE e G h2) (okAV es G h3) (star_cons h1 _ _)) fun σ H Q => ta_consV
  | .nil, _, _, _ :: _, _, h => by cases h
  | .cons _ _, _, _, [], _, h => by cases h
theorem okK : ∀ (es : Es) {sc : Scope} {X : Cx} {kws : List Keyword}, Good Γ sc X → isEs Γ sc es (kwV kws) = true → PK X kws (taD X.K exF (evD Γ.C es))
  | .nil, sc, X, [], G, h => ⟨fun pos pins s σ H Q I q => pk_nil.run pos pins s σ H Q I (ta_nilD q)⟩
  | .cons e es, sc, X, ⟨nm, v, kp⟩ :: kws, G, h => by
    obtain ⟨h1, h2, h3⟩ := and3 h
    exact ⟨fun pos pins s σ H Q I q => (pk_cons (okE e G h2) (okK es G h3)).run pos pins s σ H Q I (ta_consD q)⟩
  | .nil, _, _, _ :: _, _, h => by cases h
  | .cons _ _, _, _, [], _, h => by cases h
theorem okPP : ∀ (es : Es) {sc : Scope} {X : Cx} {ks : List (Option Expr)} {vs : List Expr} {p : Pos}, Good Γ sc X → ks.length = vs.length → ks.all (·.isSome) = true → isEs Γ sc es (pairE ks vs) = true → PPs X p ks vs (trsOf X.K Γ.C es)
  | .nil, sc, X, [], [], p, G, _, _, _ => pps_nil
  | .cons a (.cons b es), sc, X, some k :: ks, v :: vs, p, G, hl, ha, h => by
    have hl : ks.length = vs.length := by simpa using hl
    have ha : ks.all (·.isSome) = true := by simpa using ha
    obtain ⟨h1, h2, h3⟩ := and3 h
    obtain ⟨h4, h5, h6⟩ := and3 h3
    exact pps_cons (okE a G h2) (okE b G h5) (okPP es G hl ha h6)
  | .nil, _, _, some _ :: _, _ :: _, _, _, _, _, h => by cases h
  | .cons _ .nil, _, _, some _ :: _, _ :: _, _, _, _, _, h => by
    obtain ⟨_, _, h3⟩ := and3 h
    cases h3
  | .cons _ _, _, _, [], [], _, _, _, _, h => by cases h
  | _, _, _, none :: _, _, _, _, _, ha, _ => by simp at ha
  | _, _, _, [], _ :: _, _, _, hl, _, _ => by cases hl
  | _, _, _, _ :: _, [], _, _, hl, _, _ => by cases hl
theorem okAnd : ∀ (es : Es) {sc : Scope} {X : Cx} {xs : List Expr} {p : Pos}, Good Γ sc X → isEs Γ sc es xs = true → xs ≠ [] → PE X (.BoolOp .And xs p) (teM X.K exF (fun ρ => evAnd Γ.C es ρ >>= fun b => (Pure.pure (.d (.bl b)) : M V2)))
  | .nil, sc, X, [], p, G, h, hx => absurd rfl hx
  | .cons e .nil, sc, X, [x], p, G, h, hx => by
    obtain ⟨h1, h2, h3⟩ := and3 h
    exact PE.imp (pe_one (okE e G h2)) fun σ H Q => te_and1 (o := true)
  | .cons e (.cons e2 es), sc, X, x :: y :: xs, p, G, h, hx => by
    obtain ⟨h1, h2, h3⟩ := and3 h
    exact PE.imp (pe_and (okE e G h2) (okAnd (.cons e2 es) G h3 (List.cons_ne_nil _ _))) fun σ H Q => te_and
  | .nil, _, _, _ :: _, _, _, h, _ => by cases h
  | .cons _ _, _, _, [], _, _, h, _ => by cases h
  | .cons _ .nil, _, _, _ :: _ :: _, _, _, h, _ => by
    obtain ⟨_, _, h3⟩ := and3 h
    cases h3
  | .cons _ (.cons _ _), _, _, [_], _, _, h, _ => by
    obtain ⟨_, _, h3⟩ := and3 h
    cases h3
theorem okOr : ∀ (es : Es) {sc : Scope} {X : Cx} {xs : List Expr} {p : Pos}, Good Γ sc X → isEs Γ sc es xs = true → xs ≠ [] → PE X (.BoolOp .Or xs p) (teM X.K exF (fun ρ => evOr Γ.C es ρ >>= fun b => (Pure.pure (.d (.bl b)) : M V2)))
  | .nil, sc, X, [], p, G, h, hx => absurd rfl hx
  | .cons e .nil, sc, X, [x], p, G, h, hx => by
    obtain ⟨h1, h2, h3⟩ := and3 h
    exact PE.imp (pe_one (okE e G h2)) fun σ H Q => te_or1
  | .cons e (.cons e2 es), sc, X, x :: y :: xs, p, G, h, hx => by
    obtain ⟨h1, h2, h3⟩ := and3 h
    exact PE.imp (pe_or (okE e G h2) (okOr (.cons e2 es) G h3 (List.cons_ne_nil _ _))) fun σ H Q => te_or
  | .nil, _, _, _ :: _, _, _, h, _ => by cases h
  | .cons _ _, _, _, [], _, _, h, _ => by cases h
  | .cons _ .nil, _, _, _ :: _ :: _, _, _, h, _ => by
    obtain ⟨_, _, h3⟩ := and3 h
    cases h3
  | .cons _ (.cons _ _), _, _, [_], _, _, h, _ => by
    obtain ⟨_, _, h3⟩ := and3 h
    cases h3
theorem okAndT : ∀ (es : Es) {sc : Scope} {X : Cx} {xs : List Expr} {p : Pos}, Good Γ sc X → isEs Γ sc es xs = true → xs ≠ [] → PW X (.BoolOp .And xs p) (ttM X.K exF (evAnd Γ.C es))
  | .nil, sc, X, [], p, G, h, hx => absurd rfl hx
  | .cons e .nil, sc, X, [x], p, G, h, hx => by
    obtain ⟨h1, h2, h3⟩ := and3 h
    exact PW.imp (pw_and1 (okT e G h2)) fun σ H Q => tt_and1
  | .cons e (.cons e2 es), sc, X, x :: y :: xs, p, G, h, hx => by
    obtain ⟨h1, h2, h3⟩ := and3 h
    exact PW.imp (pw_and (okT e G h2) (okAndT (.cons e2 es) G h3 (List.cons_ne_nil _ _))) fun σ H Q => tt_and
  | .nil, _, _, _ :: _, _, _, h, _ => by cases h
  | .cons _ _, _, _, [], _, _, h, _ => by cases h
  | .cons _ .nil, _, _, _ :: _ :: _, _, _, h, _ => by
    obtain ⟨_, _, h3⟩ := and3 h
    cases h3
  | .cons _ (.cons _ _), _, _, [_], _, _, h, _ => by
    obtain ⟨_, _, h3⟩ := and3 h
    cases h3
theorem okOrT : ∀ (es : Es) {sc : Scope} {X : Cx} {xs : List Expr} {p : Pos}, Good Γ sc X → isEs Γ sc es xs = true → xs ≠ [] → PW X (.BoolOp .Or xs p) (ttM X.K exF (evOr Γ.C es))
  | .nil, sc, X, [], p, G, h, hx => absurd rfl hx
  | .cons e .nil, sc, X, [x], p, G, h, hx => by
    obtain ⟨h1, h2, h3⟩ := and3 h
    exact PW.imp (pw_or1 (okT e G h2)) fun σ H Q => tt_and1
  | .cons e (.cons e2 es), sc, X, x :: y :: xs, p, G, h, hx => by
    obtain ⟨h1, h2, h3⟩ := and3 h
    exact PW.imp (pw_or (okT e G h2) (okOrT (.cons e2 es) G h3 (List.cons_ne_nil _ _))) fun σ H Q => tt_or
  | .nil, _, _, _ :: _, _, _, h, _ => by cases h
  | .cons _ _, _, _, [], _, _, h, _ => by cases h
  | .cons _ .nil, _, _, _ :: _ :: _, _, _, h, _ => by
    obtain ⟨_, _, h3⟩ := and3 h
    cases h3
  | .cons _ (.cons _ _), _, _, [_], _, _, h, _ => by
    obtain ⟨_, _, h3⟩ := and3 h
    cases h3
theorem okO : ∀ (e : Oe) {sc : Scope} {X : Cx} {x : Option Expr}, Good Γ sc X → isO Γ sc e x = true → PO X x (toM X.K exF (evO Γ.C e))
  | .none, sc, X, none, G, h => ⟨fun pins s σ H Q I q => po_none.run pins s σ H Q I (to_none q)⟩
  | .some e, sc, X, some x, G, h => ⟨fun pins s σ H Q I q => (po_some (okE e G h)).run pins s σ H Q I (to_some q)⟩
  | .none, _, _, some _, _, h => by cases h
  | .some _, _, _, none, _, h => by cases h
theorem okC : ∀ (e : Oe) {sc : Scope} {X : Cx} {xs : List Expr}, Good Γ sc X → isC Γ sc e xs = true → PTs X xs (ttM X.K exF (evC Γ.C e))
  | .none, sc, X, [], G, h => ⟨fun pins s σ H Q I ⟨μ, S, ρ, rs, re, q⟩ => pts_nil.run pins s σ H Q I (q μ H Ext.refl rs)⟩
  | .some e, sc, X, [x], G, h => ⟨fun pins s σ H Q I q => (pts_one (okT e G h)).run pins s σ H Q I q⟩
  | .none, _, _, _ :: _, _, h => by cases h
  | .some _, _, _, [], _, h => by cases h
  | .some _, _, _, _ :: _ :: _, _, h => by cases h
theorem okI : ∀ (it : It) {sc : Scope} {X : Cx} {tg x : Expr}, Good Γ sc X → isI Γ sc it tg x = true → PI X tg x (tiM X.K exF (evI Γ.C it))
  | .val e, sc, X, tg, x, G, h => ⟨fun pins s σ H R I q => (pi_val (okE e G h)).run pins s σ H R I (ti_val q)⟩
  | .rng1 a, sc, X, tg, x, G, h => by
    match x, h with
    | .Call (.Name y _) [x] [] _, h =>
      obtain ⟨h1, h2, h3, h4⟩ := and4 h
      have e := of_decide_eq_true h1
      subst e
      exact ⟨fun pins s σ H R I q => (pi_range1 (gl_of G h2) (G.blt _ (by decide)) (pa_cons (okE a G h4) pa_nil (star_cons h3 _ _)) (star_cons h3 _ _)).run pins s σ H R I (ti_rng1 q)⟩
  | .rng2 a b, sc, X, tg, x, G, h => by
    match x, h with
    | .Call (.Name y _) [x, z] [] _, h =>
      obtain ⟨h, h6⟩ := and2 h
      obtain ⟨h, h5⟩ := and2 h
      obtain ⟨h1, h2, h3, h4⟩ := and4 h
      have e := of_decide_eq_true h1
      subst e
      have e2 : starEach [x, z] X.env = [(false, eval x X.env), (false, eval z X.env)] := by rw [star_cons h3, star_cons h4]; rfl
      exact ⟨fun pins s σ H R I q => (pi_range2 (gl_of G h2) (G.blt _ (by decide)) (pa_cons (okE a G h5) (pa_cons (okE b G h6) pa_nil (star_cons h4 _ _)) (star_cons h3 _ _)) e2 (star_cons h4 _ _)).run pins s σ H R I (ti_rng2 q)⟩
  | .enum e, sc, X, tg, x, G, h => by
    obtain ⟨h0, h⟩ := and2 h
    cases tg with
    | Tuple es k p =>
      match x, h with
      | .Call (.Name y _) [x] [] _, h =>
        obtain ⟨h1, h2, h3, h4⟩ := and4 h
        have e0 := of_decide_eq_true h1
        subst e0
        exact ⟨fun pins s σ H R I q => (pi_enumA (gl_of G h2) (G.blt _ (by decide)) (pa_cons (okE e G h4) pa_nil (star_cons h3 _ _)) (star_cons h3 _ _)).run pins s σ H R I (ti_enum q)⟩
    | _ => cases h0
  | .zip a b, sc, X, tg, x, G, h => by
    obtain ⟨h0, h⟩ := and2 h
    cases tg with
    | Tuple es k p =>
      match x, h with
      | .Call (.Name y _) [x, z] [] _, h =>
        obtain ⟨h, h6⟩ := and2 h
        obtain ⟨h, h5⟩ := and2 h
        obtain ⟨h1, h2, h3, h4⟩ := and4 h
        have e0 := of_decide_eq_true h1
        subst e0
        exact ⟨fun pins s σ H R I q => (RZ.pi_zipA (gl_of G h2) (G.blt _ (by decide)) (pa_cons (okE a G h5) (pa_cons (okE b G h6) pa_nil (star_cons h4 _ _)) (star_cons h3 _ _)) (star_cons h3 _ _) (by rw [star_cons h4]; rfl)).run pins s σ H R I (ti_zip q)⟩
    | _ => cases h0
theorem okG : ∀ (t : T) {sc : Scope} {X : Cx} {x : Expr} {fnc : Str → Bool}, Good Γ sc X → (∀ x, fnc x = true → X.fn x = true) → isG Γ sc fnc t x = true → PG X x (tgM X.K exF t.names (asg Γ.C t))
  | .name i, sc, X, x, fnc, G, hf, h => by
    cases x with
    | Name x p =>
      obtain ⟨h1, h2⟩ := and2 h
      obtain ⟨l1, l2⟩ := loc_of G hf h2
      exact ⟨fun pins s σ H v u Q I r q => (pg_name (by rw [G.N]; exact G.nd) (by rw [G.N]; exact of_decide_eq_true h1) l1 l2).run pins s σ H v u Q I r (tg_name q)⟩
    | _ => cases h
  | .tup ts, sc, X, x, fnc, G, hf, h => by
    cases x with
    | Tuple xs k p =>
      obtain ⟨e1, e2, pgs⟩ := okGs ts G hf h
      exact ⟨fun pins s σ H v u Q I r q => (pg_tup G.gs.calm pgs e1 e2).run pins s σ H v u Q I r (tg_tup q)⟩
    | _ => cases h
  | .sub a i, sc, X, x, fnc, G, hf, h => by
    cases x with
    | Subscript y z p =>
      obtain ⟨h1, h2, h3⟩ := and3 h
      have e : ∀ v, assign (.Subscript y z p) X.env v = (do
          let ov ← holding [v] (eval y X.env)
          let iv ← holding [v, ov] (eval z X.env)
          standAt p
          holding [v, ov, iv] (setItem ov iv v)
          release [v, ov, iv] []) := fun v => by
        cases z <;> first | rfl | cases h3
      exact ⟨fun pins s σ H v u Q I r q => (pg_sub (okE a G h1) (okE i G h2) (set_m (by have := G.gs.un; omega)) e).run pins s σ H v u Q I r (tg_sub (fun o i v H Q w => w) q)⟩
    | _ => cases h
theorem okGs : ∀ (ts : Ts) {sc : Scope} {X : Cx} {xs : List Expr} {fnc : Str → Bool}, Good Γ sc X → (∀ x, fnc x = true → X.fn x = true) → isGs Γ sc fnc ts xs = true →
    (assignEach xs X.env).length = ts.len ∧ (assignEach xs X.env).findIdx? (·.1) = none ∧ PGs X xs (tgsM X.K exF ts.names (asgs Γ.C ts))
  | .nil, sc, X, [], fnc, G, hf, h => ⟨rfl, rfl, ⟨fun pins s σ H vs us Q I r q => pgs_nil.run pins s σ H vs us Q I r (tgs_nil (by
      obtain ⟨μ, S, ρ, d, rs, re, rd, q⟩ := q
      refine ⟨μ, S, ρ, d, rs, re, rd, ?_⟩
      cases d <;> exact q))⟩⟩
  | .cons t ts, sc, X, x :: xs, fnc, G, hf, h => by
    obtain ⟨h1, h2, h3⟩ := and3 h
    obtain ⟨e1, e2, pgs⟩ := okGs ts G hf h3
    have e : assignEach (x :: xs) X.env = (false, assign x X.env) :: assignEach xs X.env := by
      cases x <;> first | rfl | cases h1
    refine ⟨by rw [e, List.length_cons, e1]; rfl, ?_, ⟨fun pins s σ H vs us Q I r q => (pgs_cons (okG t G hf h2) pgs (by rw [e]; rfl)).run pins s σ H vs us Q I r (tgs_cons (hex0 σ) (by
      obtain ⟨μ, S, ρ, d, rs, re, rd, q⟩ := q
      refine ⟨μ, S, ρ, d, rs, re, rd, ?_⟩
      cases d <;> exact q))⟩⟩
    rw [e, List.findIdx?_cons]
    simp [e2]
  | .nil, _, _, _ :: _, _, _, _, h => by cases h
  | .cons _ _, _, _, [], _, _, _, h => by cases h
end
end
end Mi

-- MiP
set_option Elab.async false
set_option linter.all false
set_option maxRecDepth 100000
set_option maxHeartbeats 8000000
/-! Mi, part P: statements: the check, that it is sound. -/
namespace Mi
open PySem L2 PyProof.Rows

def swS (sc : Scope) (ts vs : List Expr) : Option (Option (List Str)) :=
  if !(ts.length == 2 || ts.length == 3) || vs.length != ts.length then some none
  else if vs.any (fun | .Starred .. => true | _ => false) then some none
  else
    let line := (ts.head?.map (·.pos.line)).getD 0
    let names := ts.filterMap fun
      | .Name id pos => if sc.names.lookup id == some .local && pos.line == line then some id else none
      | _ => none
    if names.length != ts.length || names.eraseDups.length != names.length then some none
    else if vs.all (foldedForSure 8) then some none
    else if vs.all (constantsAlone 8) then none
    else some (some names)
theorem sw_eq {env : Env} {ts vs : List Expr} {k k2 : Nat} {p p2 : Pos} {r : Option (List Str)} (hk : env.blockKind = .function) (h : swS env.scope ts vs = some r) : swappedStores [.Tuple ts k p] (.Tuple vs k2 p2) env = pure r := by
  unfold swS at h
  unfold swappedStores
  have e : ∀ x, env.kindOf x = env.scope.names.lookup x := fun _ => rfl
  simp only [hk, e, bne_self_eq_false, Bool.or_false]
  split at h
  · rename_i c
    cases h
    exact if_pos c
  · rename_i c
    refine (if_neg c).trans ?_
    split at h
    · rename_i c2
      cases h
      exact if_pos c2
    · rename_i c2
      refine (if_neg c2).trans ?_
      dsimp only at h
      split at h
      · rename_i c3
        cases h
        exact if_pos c3
      · rename_i c3
        refine (if_neg c3).trans ?_
        split at h
        · rename_i c4
          cases h
          exact if_pos c4
        · rename_i c4
          refine (if_neg c4).trans ?_
          split at h
          · cases h
          · rename_i c5
            cases h
            exact if_neg c5
def notComp : Expr → Bool
  | .ListComp .. | .SetComp .. | .DictComp .. => false
  | _ => true
theorem swapsWith_no {x : Expr} (h : notComp x = true) (t : Option Expr) (l : Nat) (env : Env) : swapsWith x t l env = pure false := by
  cases x <;> first | rfl | cases h
def allT : Str → Bool := fun _ => true
/-- the new list and the name's value are exchanged -/
def swC (sc : Scope) (y : Str) (p lp : Pos) (scope : Scope) : Bool := isLoc sc y && (p.line == lp.line) && !(scope.names.any fun (n, k) => n == y && (k == .local || k == .cell))
theorem swapsWith_lc {sc : Scope} {env : Env} (hs : env.scope = sc) (hk : sc.kind = .function) {y : Str} {p lp : Pos} {scope : Scope} {elt : Expr} {gs : List Comprehension} {l : Nat} :
    swapsWith (.ListComp elt gs scope lp) (some (.Name y p)) l env = pure (swC sc y p lp scope) := by
  subst hs
  have hb : env.blockKind = .function := by unfold Env.blockKind; rw [hk]; rfl
  have hl : (env.kindOf y == some .local) = isLoc env.scope y := by
    unfold isLoc
    show (env.scope.names.lookup y == some .local) = _
    cases q : env.scope.names.lookup y with
    | none => rfl
    | some k => cases k <;> rfl
  unfold swapsWith swC
  simp only [hb, hl, Expr.pos]
  rfl
def isAsg (Γ : Sig) (sc : Scope) (t : T) (e : E) (tg x : Expr) : Bool := isG Γ sc allT t tg && isE Γ sc e x && (match tg with
  | .Name y p => (match x with
    | .ListComp _ _ scope lp => (match sc.kind with | .function => true | _ => false) && (match e with | .lc _ _ _ _ _ => true | _ => !swC sc y p lp scope)
    | _ => notComp x)
  | .Tuple ts _ _ => (match x with
    | .Tuple vs _ _ => (match sc.kind with | .function => true | _ => false) && (match swS sc ts vs with
      | some none => true
      | some (some ns) => (match t, e with
        | .tup (.cons (.name i) (.cons (.name j) .nil)), .tup _ => decide (i ≠ j) && decide (ns = [Γ.N[i]?.getD "", Γ.N[j]?.getD ""]) && (match ts with | [.Name y _, .Name z _] => isLoc sc y && isLoc sc z | _ => false) && (vs.length == 2)
        | .tup (.cons (.name i) (.cons (.name j) (.cons (.name l) .nil))), .tup _ => decide (i ≠ j) && decide (i ≠ l) && decide (j ≠ l) && decide (ns = [Γ.N[i]?.getD "", Γ.N[j]?.getD "", Γ.N[l]?.getD ""]) && (match ts with | [.Name y _, .Name z _, .Name u _] => isLoc sc y && isLoc sc z && isLoc sc u | _ => false) && (vs.length == 3)
        | _, _ => false)
      | none => false)
    | _ => true)
  | .Subscript .. => true
  | _ => false)
mutual
def isS (Γ : Sig) (sc : Scope) : Sm → Stmt → Bool
  | .asg t e, .Assign [tg] x _ => isAsg Γ sc t e tg x
  | .aug i o e, .AugAssign (.Name y _) .Add x _ => (match o with | .add => true | _ => false) && decide (Γ.N[i]? = some y) && okStore sc allT y && isE Γ sc e x
  | .exp e, .Expr x _ => isE Γ sc e x && notComp x
  | .ret e, .Return (some x) _ => isE Γ sc e x
  | .retn, .Return none _ => true
  | .ife c a b, .If x as bs _ => isE Γ sc c x && isSs Γ sc a as && isSs Γ sc b bs
  | .forr t it b, .For tg iter body [] _ => noSet iter && isI Γ sc it tg iter && isG Γ sc allT t tg && isSs Γ sc b body
  | .whl c b, .While x body [] _ => isE Γ sc c x && isSs Γ sc b body
  | .brk, .Break _ => true
  | .cnt, .Continue _ => true
  | .pss, .Pass _ => true
  | .pss, .Expr (.Constant (.str _) _ _) _ => true
  | .rais _ _, _ => true
  | _, _ => false
def isSs (Γ : Sig) (sc : Scope) : Ss → List Stmt → Bool
  | .nil, [] => true
  | .cons s ss, x :: xs => isS Γ sc s x && isSs Γ sc ss xs
  | _, _ => false
end
section
variable {K : Frag} {σ : L2.St} {H : Hp} {D : Ends}
theorem teM.mono {ex : XW} {m : Rho → M V2} {Q Q' : VK} (h : teM K ex m σ H Q) (f : ∀ v H, Q v H → Q' v H) : teM K ex m σ H Q' := by
  obtain ⟨μ, S, ρ, rs, re, h⟩ := h
  exact ⟨μ, S, ρ, rs, re, h.imp fun μ' H' S' a _ q v rv => f _ _ (q v rv)⟩
theorem ts_aug {i : Nat} {m : Rho → M V2} (h : tsM K (fun ρ => do
    let x ← ρ.get i
    let v ← m ρ
    match x, v with
    | .int a, .d (.int b) => Pure.pure (.nx (ρ.set i (some (.int (a + b)))))
    | _, _ => Mi.bad) D σ H) : tAug i (teM K exF m) (ipI fun i j => i + j) D σ H := by
  obtain ⟨μ, S, ρ, rs, re, h⟩ := h
  have h : Post K (okF K H D) (exF σ) μ H (M.bind (ρ.get i) (fun x => m ρ >>= fun v => (match x, v with
    | .int a, .d (.int b) => Pure.pure (.nx (ρ.set i (some (.int (a + b)))))
    | _, _ => Mi.bad)) S) := h
  unfold M.bind Rho.get at h
  cases q : ρ[i]? with
  | none => rw [q] at h; exact h.elim
  | some o =>
    rw [q] at h
    cases o with
    | none => exact h.elim
    | some d =>
      obtain ⟨v, h1, h2⟩ := re.at_ i d q
      refine ⟨v, h1, te_bind rs re h fun μ1 H1 S1 a u x1 rs1 re1 rv1 h3 => ?_⟩
      split at h3
      · cases h2
        cases rv1
        exact ⟨_, _, rfl, rfl, h3 μ1 H1 Ext.refl rs1 _ (re1.set i (.int _))⟩
      · exact h3.elim
theorem ts_tupA {C : Cxt} {t : T} {es : Es} (h : tsM K (ex C (.asg t (.tup es))) D σ H) : taD K exF (evD C es) σ H fun vs H1 => ∃ μ1 S1 ρ xs, RS K H1 μ1 S1 ∧ RE K H1 μ1 ρ σ ∧ RDs K H1 μ1 xs vs ∧ Post K (okF K H D) (exF σ) μ1 H1 ((asg C t (.tup xs) ρ >>= fun ρ' => (Pure.pure (.nx ρ') : M Fl)) S1) := by
  obtain ⟨μ, S, ρ, rs, re, h⟩ := h
  have h : Post K (okF K H D) (exF σ) μ H (((evD C es ρ >>= fun xs => (Pure.pure (V2.d (.tup xs)) : M V2)) >>= fun v => toD v >>= fun x => asg C t x ρ >>= fun ρ' => (Pure.pure (.nx ρ') : M Fl)) S) := h
  rw [M.assoc] at h
  exact ta_bind rs re h fun μ1 H1 S1 xs vs x1 rs1 re1 r1 h1 => ⟨μ1, S1, ρ, xs, rs1, re1, r1, h1⟩
theorem taD.mono {ex : XW} {m : Rho → M (List Mi.D)} {Q Q' : List V → Hp → Prop} (h : taD K ex m σ H Q) (f : ∀ v H, Q v H → Q' v H) : taD K ex m σ H Q' := by
  obtain ⟨μ, S, ρ, rs, re, h⟩ := h
  exact ⟨μ, S, ρ, rs, re, h.imp fun μ' H' S' a _ q v rv => f _ _ (q v rv)⟩
theorem ts_par {C : Cxt} {i j : Nat} {es : Es} (h : tsM K (ex C (.asg (.tup (.cons (.name i) (.cons (.name j) .nil))) (.tup es))) D σ H) : tPar i j (taD K exF (evD C es)) D σ H := by
  refine (ts_tupA h).mono fun vs H1 ⟨μ1, S1, ρ, xs, rs1, re1, r1, h1⟩ => ?_
  cases r1 with
  | nil => exact h1.elim
  | cons ra r2 =>
    cases r2 with
    | nil => exact h1.elim
    | cons rb r3 =>
      cases r3 with
      | cons _ _ =>
        have h1 := (show Post K (okF K H D) (exF σ) μ1 H1 (((chk (decide _) >>= fun _ => asgs C _ _ ρ) >>= fun ρ' => (Pure.pure (.nx ρ') : M Fl)) S1) from h1)
        rw [M.assoc] at h1
        obtain ⟨hc, _⟩ := h1.chk
        have := of_decide_eq_true hc
        simp [Ts.len] at this
      | nil => exact ⟨_, _, rfl, h1 μ1 H1 Ext.refl rs1 _ ((re1.set i ra).set j rb)⟩
theorem ts_par3 {C : Cxt} {i j l : Nat} {es : Es} (h : tsM K (ex C (.asg (.tup (.cons (.name i) (.cons (.name j) (.cons (.name l) .nil)))) (.tup es))) D σ H) : tPar3 i j l (taD K exF (evD C es)) D σ H := by
  refine (ts_tupA h).mono fun vs H1 ⟨μ1, S1, ρ, xs, rs1, re1, r1, h1⟩ => ?_
  cases r1 with
  | nil => exact h1.elim
  | cons ra r2 =>
    cases r2 with
    | nil => exact h1.elim
    | cons rb r3 =>
      cases r3 with
      | nil => exact h1.elim
      | cons rc r4 =>
        cases r4 with
        | cons _ _ =>
          have h1 := (show Post K (okF K H D) (exF σ) μ1 H1 (((chk (decide _) >>= fun _ => asgs C _ _ ρ) >>= fun ρ' => (Pure.pure (.nx ρ') : M Fl)) S1) from h1)
          rw [M.assoc] at h1
          obtain ⟨hc, _⟩ := h1.chk
          have := of_decide_eq_true hc
          simp [Ts.len] at this
        | nil => exact ⟨_, _, _, rfl, h1 μ1 H1 Ext.refl rs1 _ (((re1.set i ra).set j rb).set l rc)⟩
end
theorem isLoc_of {sc : Scope} {x : Str} (h : isLoc sc x = true) : sc.names.lookup x = some .local := by
  unfold isLoc at h
  split at h
  · assumption
  · cases h
section
variable {Γ : Sig}
/-- the context of a def's body -/
structure GoodF (Γ : Sig) (sc : Scope) (X : Cx) : Prop extends Good Γ sc X where
  fn : ∀ x, X.fn x = true
theorem PS.nst {X : Cx} {st : Stmt} {t u : TS} (h : PS X st t) (f : ∀ D σ H, u D σ H → t D σ H) : PS X st u := PS.imp h f
theorem ok_asg (t : T) (e : E) {sc : Scope} {X : Cx} {tg x : Expr} {p : Pos} (G : GoodF Γ sc X) (h : isAsg Γ sc t e tg x = true) : PS X (.Assign [tg] x p) (tsM X.K (ex Γ.C (.asg t e))) := by
  obtain ⟨h1, h2, h3⟩ := and3 h
  have pg := okG t G.toGood (fnc := allT) (fun x _ => G.fn x) h1
  have pe := okE e G.toGood h2
  cases tg with
  | Name y q =>
    cases t with
    | name i =>
      obtain ⟨g1, g2⟩ := and2 h1
      have hN : X.N[i]? = some y := by rw [G.N]; exact of_decide_eq_true g1
      obtain ⟨l1, l2⟩ := loc_of (fnc := allT) G.toGood (fun x _ => G.fn x) g2
      have nd : X.N.Nodup := by rw [G.N]; exact G.nd
      have plain : swapsWith x (some (.Name y q)) p.line X.env = pure false → PS X (.Assign [.Name y q] x p) (tsM X.K (ex Γ.C (.asg (.name i) e))) := fun hs =>
        PS.imp (ps_set nd hN l1 pe hs l2) fun D σ H w => (ts_asg (vs := [i]) w).mono fun v H1 w => tg_name w
      cases x with
      | ListComp elt gs scope lp =>
        obtain ⟨k1, k2⟩ := and2 h3
        have hk : sc.kind = .function := by
          split at k1
          · assumption
          · cases k1
        have sw := swapsWith_lc (env := X.env) G.sc hk (y := y) (p := q) (lp := lp) (scope := scope) (elt := elt) (gs := gs) (l := p.line)
        cases hc : swC sc y q lp scope with
        | false => rw [hc] at sw; exact plain sw
        | true =>
          rw [hc] at sw
          cases e with
          | lc e0 t0 it0 c0 own0 =>
            match gs, h2, sw with
            | [⟨tg, iter, ifs, 0⟩], h, sw =>
              obtain ⟨h, h7⟩ := and2 h
              obtain ⟨h, h6⟩ := and2 h
              obtain ⟨h, h5⟩ := and2 h
              obtain ⟨h1, h2, h3, h4⟩ := and4 h
              have blk : BlkOk X.N X.env.scope scope (own2 Γ.N own0) := by
                rw [G.N, G.sc]; exact blkOk_by h1
              have yl : X.env.scope.names.lookup y = some .local := by
                rw [G.sc]
                unfold swC at hc
                exact isLoc_of (and3 hc).1
              refine PS.imp (ps_setLc (wi := tiM X.K exF (evI Γ.C it0)) (g := tgM X.K exF t0.names (asg Γ.C t0)) (tt := ttM X.K exF (evC Γ.C c0)) (te := teM X.K exF (ev Γ.C e0)) G.gs.calm nd hN yl sw (okI it0 G.toGood h4) blk
                (fun s H C cl fp => okG t0 (G.toGood.blk s H scope C cl fp) (fun x z => z) h5) (fun s H C cl fp => okC c0 (G.toGood.blk s H scope C cl fp) h6) (fun s H C cl fp => okE e0 (G.toGood.blk s H scope C cl fp) h7) (noSet_fold h2 _)) fun D σ H w => ?_
              show tLc _ _ _ _ _ σ H _
              rw [own2_snd]
              exact te_lc (fun i hi => by simpa using List.all_eq_true.mp h3 i hi) ((ts_asg (vs := [i]) w).mono fun v H1 w => tg_name w)
          | _ => simp [hc] at k2
      | _ => exact plain (swapsWith_no h3 _ _ _)
    | _ => cases h1
  | Tuple ts k tp =>
    have hs : swapsWithSole [.Tuple ts k tp] x p.line X.env = pure false := by
      cases x <;> rfl
    have pa : (assignEach [Expr.Tuple ts k tp] X.env).map (·.2) = [assign (.Tuple ts k tp) X.env] := rfl
    have plain : swappedStores [.Tuple ts k tp] x X.env = pure none → PS X (.Assign [.Tuple ts k tp] x p) (tsM X.K (ex Γ.C (.asg t e))) := fun hw =>
      PS.imp (ps_asg pe pg hs hw pa) fun D σ H => ts_asg
    cases x with
    | Tuple vs k2 p2 =>
      obtain ⟨k1, k3⟩ := and2 h3
      have hk : X.env.blockKind = .function := by
        have : X.env.scope.kind = .function := by
          rw [G.sc]
          split at k1
          · assumption
          · cases k1
        unfold Env.blockKind
        rw [this]; rfl
      cases q : swS sc ts vs with
      | none => rw [q] at k3; cases k3
      | some o =>
        have sw := sw_eq (env := X.env) (ts := ts) (vs := vs) (k := k) (k2 := k2) (p := tp) (p2 := p2) hk (by rw [G.sc]; exact q)
        cases o with
        | none => exact plain sw
        | some ns =>
          rw [q] at k3
          have nd : X.N.Nodup := by rw [G.N]; exact G.nd
          match t, e, k3, h1, h2 with
          | .tup (.cons (.name i) (.cons (.name j) .nil)), .tup es, k3, h1, h2 =>
            obtain ⟨a1, a2, a3, a4⟩ := and4 k3
            have a1 := of_decide_eq_true a1
            have a2 := of_decide_eq_true a2
            match ts, h1, a3, sw with
            | [.Name y yp, .Name z zp], h1, a3, sw =>
              obtain ⟨b1, b2⟩ := and2 a3
              obtain ⟨_, g1, h1⟩ := and3 h1
              obtain ⟨_, g2, _⟩ := and3 h1
              have n1 := of_decide_eq_true (and2 g1).1
              have n2 := of_decide_eq_true (and2 g2).1
              rw [a2, n1, n2] at sw
              have hl : vs.length = 2 := eq_of_beq a4
              match vs, hl, h2, sw with
              | [va, vb], _, h2, sw =>
                exact PS.imp (ps_par G.gs.calm nd (by rw [G.N]; exact n1) (by rw [G.N]; exact n2) a1 (by rw [G.sc]; exact isLoc_of b1) (by rw [G.sc]; exact isLoc_of b2) (okAD es G.toGood (and2 h2).1) sw rfl) fun D σ H => ts_par
          | .tup (.cons (.name i) (.cons (.name j) (.cons (.name l) .nil))), .tup es, k3, h1, h2 =>
            obtain ⟨k3, a6⟩ := and2 k3
            obtain ⟨k3, a5⟩ := and2 k3
            obtain ⟨a1, a2, a3, a4⟩ := and4 k3
            have a1 := of_decide_eq_true a1
            have a2 := of_decide_eq_true a2
            have a3 := of_decide_eq_true a3
            have a4 := of_decide_eq_true a4
            match ts, h1, a5, sw with
            | [.Name y yp, .Name z zp, .Name u up], h1, a5, sw =>
              obtain ⟨b1, b2, b3⟩ := and3 a5
              obtain ⟨_, g1, h1⟩ := and3 h1
              obtain ⟨_, g2, h1⟩ := and3 h1
              obtain ⟨_, g3, _⟩ := and3 h1
              have n1 := of_decide_eq_true (and2 g1).1
              have n2 := of_decide_eq_true (and2 g2).1
              have n3 := of_decide_eq_true (and2 g3).1
              rw [a4, n1, n2, n3] at sw
              have hl : vs.length = 3 := eq_of_beq a6
              match vs, hl, h2, sw with
              | [va, vb, vc], _, h2, sw =>
                exact PS.imp (ps_par3 G.gs.calm nd (by rw [G.N]; exact n1) (by rw [G.N]; exact n2) (by rw [G.N]; exact n3) a1 a2 a3 (by rw [G.sc]; exact isLoc_of b1) (by rw [G.sc]; exact isLoc_of b2) (by rw [G.sc]; exact isLoc_of b3) (okAD es G.toGood (and2 h2).1) sw rfl) fun D σ H => ts_par3
    | _ => exact plain rfl
  | Subscript o i sp =>
    exact PS.imp (ps_asg pe pg (by cases x <;> rfl) rfl rfl) fun D σ H => ts_asg
  | _ => cases h3
mutual
theorem okS : ∀ (s : Sm) {sc : Scope} {X : Cx} {st : Stmt}, GoodF Γ sc X → isS Γ sc s st = true → PS X st (tsM X.K (ex Γ.C s))
  | .asg t e, sc, X, st, G, h => by
    cases st with
    | Assign tgs x p =>
      match tgs, h with
      | [tg], h => exact ok_asg t e G h
    | _ => cases h
  | .aug i o e, sc, X, st, G, h => by
    cases st with
    | AugAssign tg op x p =>
      match tg, op, h with
      | .Name y q, .Add, h =>
        obtain ⟨h1, h2, h3, h4⟩ := and4 h
        cases o with
        | add =>
          obtain ⟨l1, l2⟩ := loc_of (fnc := allT) G.toGood (fun x _ => G.fn x) h3
          exact PS.imp (ps_aug (by rw [G.N]; exact G.nd) (by rw [G.N]; exact of_decide_eq_true h2) l1 (okE e G.toGood h4) ip_add l2) fun D σ H w => ts_aug (by
            obtain ⟨μ, S, ρ, rs, re, w⟩ := w
            refine ⟨μ, S, ρ, rs, re, ?_⟩
            have ee : (ex Γ.C (.aug i .add e) ρ : M Fl) = (do
              let x ← ρ.get i
              let v ← ev Γ.C e ρ
              match x, v with
              | .int a, .d (.int b) => Pure.pure (.nx (ρ.set i (some (.int (a + b)))))
              | _, _ => Mi.bad) := by
              show (ρ.get i >>= fun x => ev Γ.C e ρ >>= fun v => _) = (ρ.get i >>= fun x => ev Γ.C e ρ >>= fun v => _)
              congr 1; funext x; congr 1; funext v
              cases x <;> first | rfl | (cases v with | l _ => rfl | d z => cases z <;> rfl)
            dsimp only
            rw [← ee]; exact w)
        | _ => cases h1
    | _ => cases h
  | .exp e, sc, X, st, G, h => by
    cases st with
    | Expr x p =>
      obtain ⟨h1, h2⟩ := and2 h
      exact PS.imp (ps_expr (okE e G.toGood h1) (swapsWith_no h2 _ _ _)) fun D σ H => ts_exp
    | _ => cases h
  | .ret e, sc, X, st, G, h => by
    cases st with
    | Return v p =>
      cases v with
      | some x => exact PS.imp (ps_ret (okE e G.toGood h)) fun D σ H => ts_ret
      | none => cases h
    | _ => cases h
  | .retn, sc, X, st, G, h => by
    cases st with
    | Return v p =>
      cases v with
      | some x => cases h
      | none => exact PS.imp ps_retN fun D σ H => ts_retn
    | _ => cases h
  | .ife c a b, sc, X, st, G, h => by
    cases st with
    | If x as bs p =>
      obtain ⟨h1, h2, h3⟩ := and3 h
      exact PS.imp (ps_if (okT c G.toGood h1) (okSs a G h2) (okSs b G h3)) fun D σ H => ts_if
    | _ => cases h
  | .forr t it b, sc, X, st, G, h => by
    cases st with
    | For tg iter body el p =>
      cases el with
      | nil =>
        obtain ⟨h1, h2, h3, h4⟩ := and4 h
        exact PS.imp (ps_for G.own G.gs.calm (okI it G.toGood h2) (okG t G.toGood (fnc := allT) (fun x _ => G.fn x) h3) (okSs b G h4) (noSet_fold h1 _)) fun D σ H => ts_for
      | cons _ _ => cases h
    | _ => cases h
  | .whl c b, sc, X, st, G, h => by
    cases st with
    | While x body el p =>
      cases el with
      | nil =>
        obtain ⟨h1, h2⟩ := and2 h
        exact PS.imp (ps_while G.own (okT c G.toGood h1) (okSs b G h2)) fun D σ H => ts_while
      | cons _ _ => cases h
    | _ => cases h
  | .brk, sc, X, st, G, h => by
    cases st with
    | Break p => exact PS.imp ps_break fun D σ H => ts_brk
    | _ => cases h
  | .cnt, sc, X, st, G, h => by
    cases st with
    | Continue p => exact PS.imp ps_continue fun D σ H => ts_cnt
    | _ => cases h
  | .pss, sc, X, st, G, h => by
    cases st with
    | Pass p => exact PS.imp ps_pass fun D σ H => ts_nil
    | Expr x p =>
      match x, h with
      | .Constant (.str z) k q, h => exact PS.imp ps_doc fun D σ H => ts_nil
    | _ => cases h
  | .rais c es, sc, X, st, G, h => PS.imp ps_never fun D σ H => ts_bad
theorem okSs : ∀ (ss : Ss) {sc : Scope} {X : Cx} {sts : List Stmt}, GoodF Γ sc X → isSs Γ sc ss sts = true → PSs X sts (tsM X.K (exs Γ.C ss))
  | .nil, sc, X, [], G, h => PSs.imp pss_nil fun D σ H => ts_nil
  | .cons s ss, sc, X, st :: sts, G, h => by
    obtain ⟨h1, h2⟩ := and2 h
    exact PSs.imp (pss_cons (okS s G h1) (okSs ss G h2)) fun D σ H => ts_seq
  | .nil, _, _, _ :: _, _, h => by cases h
  | .cons _ _, _, _, [], _, h => by cases h
end
end
end Mi

-- MiQ
set_option Elab.async false
set_option linter.all false
set_option maxRecDepth 100000
set_option maxHeartbeats 4000000
/-! Mi, part Q: calls of defs: how arguments are bound, what a def leaves behind, level by level. -/
namespace Mi
open PySem L2 PyProof.Rows

/-! ### binding -/
theorem kw_loop {α ε : Type} {m : Type → Type} [Monad m] [LawfulMonad m] {normal : List Str} {body : (Str × α) → (List (Str × α) × ε) → m (ForInStep (List (Str × α) × ε))} {ex : ε}
    (hb : ∀ k v sl, normal.contains k = true → (List.lookup k sl).isSome = false → body (k, v) (sl, ex) = pure (.yield (sl ++ [(k, v)], ex))) :
    ∀ (kw : List (Str × α)) (sl : List (Str × α)), kwOk normal (sl.map (·.1)) (kw.map (·.1)) = true → forIn kw (sl, ex) body = pure (sl ++ kw, ex)
  | [], sl, _ => by rw [List.forIn_nil, List.append_nil]
  | (k, v) :: kw, sl, h => by
    obtain ⟨h1, h2, h3⟩ := and3 h
    have hn : (List.lookup k sl).isSome = false := by
      cases q : List.lookup k sl with
      | none => rfl
      | some z =>
        have hm : k ∈ sl.map (·.1) := List.mem_map.mpr ⟨(k, z), PySem.mem_of_lookup q, rfl⟩
        have : (sl.map (·.1)).contains k = true := by simpa using hm
        rw [this] at h2; cases h2
    rw [List.forIn_cons, hb k v sl h1 hn, pure_bind]
    show forIn kw (sl ++ [(k, v)], ex) body = _
    rw [kw_loop hb kw (sl ++ [(k, v)]) (by rw [List.map_append]; exact h3), List.append_assoc]
    rfl
theorem lookAll_filterMap {α : Type} {l : List (Str × α)} : ∀ {ps : List Str} {xs : List α}, lookAll l ps = some xs → (ps.filterMap fun n => (l.lookup n).map fun v => (n, v)) = ps.zip xs ∧ xs.length = ps.length ∧ (ps.filter fun n => (l.lookup n).isNone) = []
  | [], xs, h => by cases h; exact ⟨rfl, rfl, rfl⟩
  | p :: ps, xs, h => by
    unfold lookAll at h
    cases q : l.lookup p with
    | none => rw [q] at h; cases h
    | some x =>
      rw [q] at h
      cases r : lookAll l ps with
      | none => rw [r] at h; cases h
      | some ys =>
        rw [r] at h
        cases h
        obtain ⟨a, b, c⟩ := lookAll_filterMap r
        refine ⟨?_, by rw [List.length_cons, List.length_cons, b], ?_⟩
        · rw [List.filterMap_cons, q]
          show (p, x) :: _ = _
          rw [a]; rfl
        · rw [List.filter_cons, q]
          exact c
theorem zip_fst {α β : Type} : ∀ (xs : List α) (ys : List β), (xs.zip ys).map (·.1) = xs.take ys.length
  | [], _ => by simp
  | _ :: _, [] => by simp
  | x :: xs, y :: ys => by rw [List.zip_cons_cons, List.map_cons, zip_fst, List.length_cons, List.take_succ_cons]
theorem binds_gen {fd : FuncData} {as : List Arg} {us ws vs : List Value} {ks : List Str} (hp : fd.params = ⟨[], as, none, [], [], none, []⟩) (hd : fd.defaults = .none) (h : bindA (as.map (·.arg)) us ks ws = some vs) :
    bindArgs fd ⟨us, ks.zip ws⟩ = pure ((as.map (·.arg)).zip vs) := by
  unfold bindA at h
  split at h
  · rename_i c
    obtain ⟨c1, c2, c3⟩ := and3 c
    have c1 := of_decide_eq_true c1
    have c2 : ks.length = ws.length := eq_of_beq c2
    obtain ⟨l1, l2, l3⟩ := lookAll_filterMap h
    have e1 : ((as.map (·.arg)).zip us).map (·.1) = (as.map (·.arg)).take us.length := zip_fst _ _
    have e2 : (ks.zip ws).map (·.1) = ks := by rw [zip_fst, ← c2, List.take_length]
    unfold bindArgs
    simp only [hp, hd, List.map_nil, List.nil_append, List.append_nil]
    rw [kw_loop (normal := as.map (·.arg)) ?_ (ks.zip ws) ((as.map (·.arg)).zip us) (by rw [e1, e2]; exact c3)]
    · rw [pure_bind]
      show (seqItems? Value.none >>= _) = _
      have e3 : seqItems? Value.none = pure none := rfl
      rw [e3, pure_bind]
      simp only [Option.getD_none, Array.toList_empty, List.length_nil, List.isEmpty_nil, List.drop_nil, Nat.sub_zero, Nat.zero_sub, List.drop_zero, Option.isNone_none, Bool.and_true]
      have hng : ¬ (us.length > (as.map (·.arg)).length) := by omega
      have hg : decide (us.length > (as.map (·.arg)).length) = false := decide_eq_false hng
      simp only [hg, Bool.false_eq_true, if_false, List.take_length, l3, List.isEmpty_nil, Bool.not_true, List.zip_nil_right, List.forIn_nil, pure_bind, l1]
    · intro k v sl h1 h2
      simp only [h1, h2, Bool.true_or, if_true]
      rfl
  · cases h

/-! ### bound arguments stand for bound arguments -/
/-- the same names, values that stand for values -/
inductive P2 {α β : Type} (R : α → β → Prop) : List (Str × α) → List (Str × β) → Prop
  | nil : P2 R [] []
  | cons {k : Str} {a : α} {b : β} {l : List (Str × α)} {r : List (Str × β)} : R a b → P2 R l r → P2 R ((k, a) :: l) ((k, b) :: r)
inductive L2R {α β : Type} (R : α → β → Prop) : List α → List β → Prop
  | nil : L2R R [] []
  | cons {a : α} {b : β} {l : List α} {r : List β} : R a b → L2R R l r → L2R R (a :: l) (b :: r)
section
variable {α β : Type} {R : α → β → Prop}
theorem L2R.length {l : List α} {r : List β} (h : L2R R l r) : l.length = r.length := by
  induction h with
  | nil => rfl
  | cons _ _ ih => rw [List.length_cons, List.length_cons, ih]
theorem L2R.zip {l : List α} {r : List β} (h : L2R R l r) : ∀ ks : List Str, P2 R (ks.zip l) (ks.zip r) := by
  induction h with
  | nil => intro ks; cases ks <;> exact .nil
  | cons a _ ih =>
    intro ks
    cases ks with
    | nil => exact .nil
    | cons k ks => exact .cons a (ih ks)
theorem P2.append {l l' : List (Str × α)} {r r' : List (Str × β)} (h : P2 R l r) (g : P2 R l' r') : P2 R (l ++ l') (r ++ r') := by
  induction h with
  | nil => exact g
  | cons a _ ih => exact .cons a ih
theorem P2.lookup {l : List (Str × α)} {r : List (Str × β)} (h : P2 R l r) (p : Str) {a : α} (e : l.lookup p = some a) : ∃ b, r.lookup p = some b ∧ R a b := by
  induction h with
  | nil => cases e
  | @cons k x y l r hxy _ ih =>
    rw [List.lookup_cons] at e ⊢
    cases q : p == k with
    | true => rw [q] at e; cases e; exact ⟨y, rfl, hxy⟩
    | false => rw [q] at e; exact ih e
theorem P2.lookAll {l : List (Str × α)} {r : List (Str × β)} (h : P2 R l r) : ∀ {ps : List Str} {as : List α}, lookAll l ps = some as → ∃ bs, lookAll r ps = some bs ∧ L2R R as bs
  | [], as, e => by cases e; exact ⟨[], rfl, .nil⟩
  | p :: ps, as, e => by
    unfold Mi.lookAll at e
    cases q : l.lookup p with
    | none => rw [q] at e; cases e
    | some x =>
      rw [q] at e
      cases q2 : Mi.lookAll l ps with
      | none => rw [q2] at e; cases e
      | some xs =>
        rw [q2] at e
        cases e
        obtain ⟨b, e1, r1⟩ := h.lookup p q
        obtain ⟨bs, e2, r2⟩ := P2.lookAll h q2
        refine ⟨b :: bs, ?_, .cons r1 r2⟩
        unfold Mi.lookAll
        rw [e1, e2]
theorem bindA_rel {ps : List Str} {xs ys : List α} {us ws : List β} {ks : List Str} {vs : List α} (h1 : L2R R xs us) (h2 : L2R R ys ws) (e : bindA ps xs ks ys = some vs) : ∃ zs, bindA ps us ks ws = some zs ∧ L2R R vs zs := by
  unfold bindA at e
  split at e
  · rename_i c
    obtain ⟨zs, e1, r⟩ := P2.lookAll ((h1.zip ps).append (h2.zip ks)) e
    refine ⟨zs, ?_, r⟩
    unfold bindA
    rw [← h1.length, ← h2.length, if_pos c]
    exact e1
  · cases e
end
theorem RDs.l2 {K : Frag} {H : Hp} {μ : List Addr} {ds : List D} {vs : List V} (r : RDs K H μ ds vs) : L2R (RD K H μ) ds vs := by
  match r with
  | .nil => exact .nil
  | .cons a r => exact .cons a (RDs.l2 r)
theorem L2R.rds {K : Frag} {H : Hp} {μ : List Addr} {ds : List D} {vs : List V} (r : L2R (RD K H μ) ds vs) : RDs K H μ ds vs := by
  induction r with
  | nil => exact .nil
  | cons a _ ih => exact .cons a ih
theorem vals_l2 {vs : List V} {us : List Value} (r : Vals vs us) : L2R RelV vs us := by
  induction r with
  | nil => exact .nil
  | cons a _ ih => exact .cons a ih
theorem l2_vals {vs : List V} {us : List Value} (r : L2R RelV vs us) : Vals vs us := by
  induction r with
  | nil => exact .nil
  | cons a _ ih => exact .cons a ih

/-! ### what a def leaves behind -/
section
variable {K : Frag} {H H' : Hp} {μ μ' : List Addr}
mutual
theorem RD.low : ∀ {d : D} {v : V}, RD K H μ d v → below μ.length d = true
  | _, _, .non => rfl
  | _, _, .bl b => rfl
  | _, _, .int i => rfl
  | _, _, .str x => rfl
  | _, _, .tup _ r => RDs.low r
  | _, _, .ref e => decide_eq_true (List.getElem?_eq_some_iff.mp e).1
theorem RDs.low : ∀ {d : List D} {v : List V}, RDs K H μ d v → belows μ.length d = true
  | _, _, .nil => rfl
  | _, _, .cons h r => by
    unfold belows
    rw [RD.low h, RDs.low r]; rfl
end
theorem pre_get {n : Nat} {a : Addr} (hp : μ <+: μ') (hn : n < μ.length) (e : μ'[n]? = some a) : μ[n]? = some a := by
  obtain ⟨t, rfl⟩ := hp
  rw [List.getElem?_append_left hn] at e
  exact e
mutual
theorem RD.back (hp : μ <+: μ') : ∀ {d : D} {v : V}, RD K H μ' d v → below μ.length d = true → RD K H μ d v
  | _, _, .non, _ => .non
  | _, _, .bl b, _ => .bl b
  | _, _, .int i, _ => .int i
  | _, _, .str x, _ => .str x
  | _, _, .tup t r, h => .tup t (RDs.back hp r h)
  | _, _, .ref e, h => .ref (pre_get hp (of_decide_eq_true h) e)
theorem RDs.back (hp : μ <+: μ') : ∀ {d : List D} {v : List V}, RDs K H μ' d v → belows μ.length d = true → RDs K H μ d v
  | _, _, .nil, _ => .nil
  | _, _, .cons a r, h => by
    unfold belows at h
    obtain ⟨h1, h2⟩ := and2 h
    exact .cons (RD.back hp a h1) (RDs.back hp r h2)
end
theorem RKV.back (hp : μ <+: μ') {kvs : List (D × D)} {ps : List (Key × V)} (r : RKV K H μ' keyD kvs ps) : (kvs.all fun p => Mi.below μ.length p.1 && Mi.below μ.length p.2) = true → RKV K H μ keyD kvs ps := by
  induction r with
  | nil => exact fun _ => .nil
  | cons h t ih =>
    intro a
    rw [List.all_cons, Bool.and_eq_true, Bool.and_eq_true] at a
    exact .cons (h.back hp a.1.2) (ih a.2)
theorem RKV.low {kvs : List (D × D)} {ps : List (Key × V)} (r : RKV K H μ keyD kvs ps) : (kvs.all fun p => Mi.below μ.length p.1 && Mi.below μ.length p.2) = true := by
  induction r with
  | nil => rfl
  | @cons k d v ds vs h t ih =>
    rw [List.all_cons, ih, h.low]
    cases k <;> rfl
theorem RC.low {a : Addr} {c : Cell} (h : RC K H μ a c) : c.below μ.length = true := by
  cases c with
  | lst xs => obtain ⟨vs, _, r⟩ := h; exact r.low
  | ro xs => obtain ⟨vs, _, r⟩ := h; exact r.low
  | dic k kvs =>
    cases k with
    | k => obtain ⟨ps, _, r⟩ := h; exact r.low
    | _ => exact h.elim
  | _ => exact h.elim
theorem RC.back (hp : μ <+: μ') {a : Addr} {c : Cell} (h : RC K H μ' a c) (b : c.below μ.length = true) : RC K H μ a c := by
  cases c with
  | lst xs => obtain ⟨vs, e, r⟩ := h; exact ⟨vs, e, r.back hp b⟩
  | ro xs => obtain ⟨vs, e, r⟩ := h; exact ⟨vs, e, r.back hp b⟩
  | dic k kvs =>
    cases k with
    | k => obtain ⟨ps, e, r⟩ := h; exact ⟨ps, e, r.back hp b⟩
    | _ => exact h.elim
  | _ => exact h.elim
theorem Ext.short (x : Ext μ H μ' H') : Ext μ H μ H' := ⟨⟨List.prefix_refl _, x.tup, x.frz⟩, x.keep, fun a h n => absurd h n, x.dom⟩
theorem tidy_rs {S S' : Sto} (rs : RS K H μ S) (x : Ext μ H μ' H') (rs' : RS K H' μ' S') (h : oldOk S S' = true) : RS K H' μ (S'.take S.length) := by
  have hl : S.length ≤ S'.length := by
    rw [← rs.len, ← rs'.len]
    exact x.pre.length_le
  refine ⟨by rw [List.length_take, rs.len]; omega, rs.nd, fun n c a e1 e2 => ?_⟩
  have hn : n < S.length := by rw [← rs.len]; exact (List.getElem?_eq_some_iff.mp e2).1
  rw [List.getElem?_take_of_lt hn] at e1
  have rc := rs'.cell n c a e1 (x.toMon.get e2)
  refine rc.back x.pre ?_
  unfold oldOk at h
  rw [List.all_eq_true] at h
  have q := h n (List.mem_range.mpr hn)
  rw [e1] at q
  rw [rs.len]
  rcases (Bool.or_eq_true _ _).mp q with q | q
  · have q := of_decide_eq_true q
    have := (rs.cell n c a q e2).low
    rwa [rs.len] at this
  · exact q
theorem tidy_ok {S S' : Sto} {v : V2} {Q : VK} {ex : List Addr → Hp → Sto → Exc → Prop} (rs : RS K H μ S) (h : Post K (okV K H Q) ex μ H (tidy S v S')) {x : V} (xx : Ext μ H μ' H') (rs' : RS K H' μ' S') (rv : RV K H' μ' H v x) : Q x H' := by
  unfold tidy at h
  split at h
  · rename_i ho
    have rt := tidy_rs rs xx rs' ho
    have xs := xx.short
    cases v with
    | d d =>
      cases d with
      | ref k =>
        dsimp only at h
        split at h
        · rename_i hk
          exact h μ H' xs rt x (RD.back xx.pre rv (decide_eq_true (by rw [rs.len]; exact hk)))
        · rename_i hk
          split at h
          · rename_i ys e
            split at h
            · rename_i hb
              cases rv with
              | @ref _ p hn =>
                obtain ⟨vs, e1, r1⟩ := rs'.cell _ _ _ e hn
                have hpm : p ∉ μ := fun z => by
                  obtain ⟨j, hj⟩ := List.getElem?_of_mem z
                  have hj' := xx.toMon.get hj
                  obtain ⟨l1, g1⟩ := List.getElem?_eq_some_iff.mp hn
                  obtain ⟨l2, g2⟩ := List.getElem?_eq_some_iff.mp hj'
                  have := (List.getElem_inj rs'.nd).mp (g1.trans g2.symm)
                  have hjl := (List.getElem?_eq_some_iff.mp hj).1
                  rw [rs.len] at hjl
                  omega
                have h0 : H p = none := xx.new p (List.mem_of_getElem? hn) hpm
                exact h μ H' xs rt _ ⟨p, vs, rfl, e1, hpm, r1.back xx.pre (by rw [rs.len]; exact hb), h0⟩
            · exact h μ' H' xx rs' x rv
          · exact h μ' H' xx rs' x rv
      | _ =>
        dsimp only at h
        split at h
        · rename_i hb
          exact h μ H' xs rt x (RD.back xx.pre rv (by rw [rs.len]; exact hb))
        · exact h μ' H' xx rs' x rv
    | l ys =>
      dsimp only at h
      split at h
      · rename_i hb
        obtain ⟨p, vs, e1, e2, e3, e4, e5⟩ := rv
        exact h μ H' xs rt x ⟨p, vs, e1, e2, fun z => e3 (xx.pre.subset z), e4.back xx.pre (by rw [rs.len]; exact hb), e5⟩
      · exact h μ' H' xx rs' x rv
  · exact h μ' H' xx rs' x rv
end

/-! ### a def keeps its promise -/
theorem re_start {K : Frag} {H : Hp} {μ : List Addr} {N : List Str} {ds : List D} {vs : List V} (r : RDs K H μ ds vs) (hl : vs.length ≤ N.length) : RE K H μ (enter ds N.length) (L2.start N vs) := by
  have e := r.length
  refine ⟨?_, fun i d h => ?_⟩
  · unfold enter L2.start
    simp only [List.length_append, List.length_map, List.length_replicate]
    omega
  · unfold enter at h
    by_cases hi : i < ds.length
    · rw [List.getElem?_append_left (by simpa using hi), List.getElem?_map] at h
      obtain ⟨d', e1, e2⟩ := Option.map_eq_some_iff.mp h
      cases e2
      obtain ⟨v, e3, e4⟩ := r.get' e1
      refine ⟨v, ?_, e4⟩
      unfold L2.start
      rw [List.getElem?_append_left (by rw [List.length_map]; omega), List.getElem?_map, e3]
      rfl
    · rw [List.getElem?_append_right (by simpa using hi), List.getElem?_replicate] at h
      split at h <;> cases h
/-- what is known of a def of the text -/
structure FnAt (K : Frag) (mg : Str → Option Value) (C : Cxt) (fns : List Str) (f : Str) (fn : Fn) : Prop where
  ex : ∃ (a : Addr) (name qual : Str) (as : List Arg) (body : List Stmt) (scope : Scope) (kV doc pm cdv ct oc : Value) (an od : Option Addr) (osl : Array (Option Value)) (N : List Str),
    mg f = some (.ref a) ∧ PySem.W.keepIn K (.ref a) = true ∧ K.lookup a = some ⟨oc, od, .func (PySem.W.fnOf name qual ⟨[], as, none, [], [], none, []⟩ body scope .none kV doc pm an cdv ct), osl⟩ ∧ PySem.W.codeIn K cdv qual = true ∧
    as.map (·.arg) = fn.ps ∧ fn.nn = N.length ∧ FnScope N fn.ps scope ∧ fn.ps.length ≤ N.length ∧ isSs ⟨N, C, fns⟩ scope fn.body body = true
theorem fnG_of {P : Program} {w : World} {K : Frag} {mg : Str → Option Value} {base : Heap} {n : Nat} {f : Str} {fn : Fn} {Pg : Prog} {wf : Nat} {fns : List Str} (hf : Pg.fn f = some fn)
    (F : FnAt K mg ⟨Pg.glob, callF Pg wf n, wf⟩ fns f fn) (hglob : ∀ x d, Pg.glob x = some d → ∃ v u, mg x = some u ∧ RelV v u ∧ ∀ H μ, RD K H μ d v) (hblt : ∀ x, x ∈ bltNs → mg x = none)
    (hcall : ∀ g, g ∈ fns → FnG P w K mg base n g (callF Pg wf n g)) : FnG P w K mg base (n + 1) f (callF Pg wf (n + 1) f) := by
  obtain ⟨a, name, qual, as, body, scope, kV, doc, pm, cdv, ct, oc, an, od, osl, N, hm, hk, lk, hcd, hps, hnn, Sc, hpl, hbody⟩ := F.ex
  refine ⟨a, hm, hk, fun A outer s H us ws vs zs ks Q μ S xs ys hr hg e0 r rz rs r1 r2 h => ?_⟩
  have h : Post K (okV K H Q) (exF []) μ H ((match Pg.fn f with
    | none => Mi.bad
    | some fn => match bindA fn.ps xs ks ys with
      | none => Mi.bad
      | some vs => fun S => match exs ⟨Pg.glob, callF Pg wf n, wf⟩ fn.body (enter vs fn.nn) S with
        | .ok (.rt v) S' => tidy S v S'
        | .ok (.nx _) S' => tidy S (.d .non) S'
        | .ok _ _ => .bad
        | .exc x S' => .exc x S'
        | .bad => .bad : M V2) S) := h
  rw [hf] at h
  dsimp only at h
  cases hb : bindA fn.ps xs ks ys with
  | none => rw [hb] at h; exact h.elim
  | some ds =>
    rw [hb] at h
    obtain ⟨bv, e1, rb⟩ := bindA_rel r1.l2 r2.l2 hb
    obtain ⟨bu, e2, ru⟩ := bindA_rel (vals_l2 r) (vals_l2 rz) e1
    have rb := rb.rds
    have ru := l2_vals ru
    have hbl : bv.length = fn.ps.length := by
      unfold bindA at e1
      split at e1
      · exact (lookAll_filterMap e1).2.1
      · cases e1
    have KX : K.In s.heap := e0.mod.kin.keeps fun b o e => (e0.bs b o e).1
    have lim : s.heap.NoLimit := e0.mod.nolimit.keeps fun b o e => (e0.bs b o e).1
    have bnd : BindsTo s (PySem.W.fnOf name qual ⟨[], as, none, [], [], none, []⟩ body scope .none kV doc pm an cdv ct) ⟨us, ks.zip ws⟩ (fn.ps.zip bu) := by
      rw [← hps]
      exact .of_eq (binds_gen rfl rfl (by rw [hps]; exact e2))
    have hkind : ∀ y ∈ fn.ps.zip bu, scope.names.lookup y.1 = some .local ∨ (scope.names.lookup y.1 = some .cell ∧ ((cellsFrom (s.heap.objs.size + 1) scope.names []).lookup y.1).isSome = true) := fun ⟨n, v⟩ hy => by
      rcases Sc.par n (List.of_mem_zip hy).1 with q | q
      · exact .inl q
      · exact .inr ⟨q, PySem.W.cellsFrom_some _ _ _ (.inl q)⟩
    refine codeAny_call_function hr.depth (KX _ _ lk) rfl Sc.co Sc.gen rfl (PySem.W.codeRec_of KX hcd) (bnd _ _ _ _ ?_)
    refine wpAny_newFunctionEnv_cells Sc.kind hkind fun env he s1 x => ?_
    subst he
    refine ⟨lim.keeps x.toInCall.keep, codeAny_func ?_⟩
    have I : L2.Inv (cxOf (fun _ _ _ _ _ _ => False) P w K mg base N qual scope a cdv A outer s H (fun _ _ _ => False)) [] (L2.start N bv) H s1 := inv_start Sc hr.hd e0 hbl ru x
    have hr' : Room n (A.deeper (envOfC qual scope s.heap.objs.size a cdv)) := hr.deeper _
    have hg' : (A.deeper (envOfC qual scope s.heap.objs.size a cdv)).guards = some [] := by
      have : (A.deeper (envOfC qual scope s.heap.objs.size a cdv)).guards = A.guards := rfl
      rw [this]; exact hg
    have G : GoodF ⟨N, ⟨Pg.glob, callF Pg wf n, wf⟩, fns⟩ scope (cxOf (fun _ _ _ _ _ _ => False) P w K mg base N qual scope a cdv A outer s H (fun _ _ _ => False)).nox :=
      ⟨⟨rfl, Sc.nd, rfl, ⟨by have := hr'.un; show (A.deeper _).units + 80 < cLine; omega, rfl, hg'⟩, PassesOwn.never, hglob, hblt, fun g hgm => ⟨n, hr', hcall g hgm⟩⟩, fun _ => rfl⟩
    have body_ok := (okSs fn.body G hbody).nox
    refine wpAny_mono (body_ok.run [] s1 (L2.start N bv) H { nx := fun _ H' => Q .non H', rt := Q } I ⟨μ, S, enter ds fn.nn, rs, by rw [hnn]; exact re_start rb (by rw [hbl]; exact hpl), ?_⟩) (fun fl s' hs => ?_) fun e s' hs => ?_
    · have h : Post K (okV K H Q) (exF []) μ H (match exs ⟨Pg.glob, callF Pg wf n, wf⟩ fn.body (enter ds fn.nn) S with
        | .ok (.rt v) S' => tidy S v S'
        | .ok (.nx _) S' => tidy S (.d .non) S'
        | .ok _ _ => .bad
        | .exc x S' => .exc x S'
        | .bad => .bad) := h
      show Post K _ _ μ H (exs ⟨Pg.glob, callF Pg wf n, wf⟩ fn.body (enter ds fn.nn) S)
      cases q : exs ⟨Pg.glob, callF Pg wf n, wf⟩ fn.body (enter ds fn.nn) S with
      | bad => rw [q] at h; exact h.elim
      | exc e S' => rw [q] at h; exact h
      | ok fl S' =>
        rw [q] at h
        intro μ' H' xx rs'
        cases fl with
        | rt v => exact fun z rv => tidy_ok rs h xx rs' rv
        | nx ρ' => exact fun σ' _ => tidy_ok (v := .d .non) rs h xx rs' .non
        | bk ρ' => exact h.elim
        | ct ρ' => exact h.elim
    · have fin : ∀ {σ' : L2.St} {H' : Hp} {v : V} {u : Value}, L2.Inv (cxOf (fun _ _ _ _ _ _ => False) P w K mg base N qual scope a cdv A outer s H (fun _ _ _ => False)) [] σ' H' s' → RelV v u → Q v H' → CE outer P w H s Q u s' :=
        fun {σ' H' v u} J rv q => ⟨v, H', J.os, J.bare, J.base, J.hok, rv, q⟩
      cases fl with
      | ret u =>
        obtain ⟨v, σ', H', J, rv, q⟩ := hs
        exact fin J rv q
      | next =>
        obtain ⟨σ', H', J, q⟩ := hs
        exact fin (v := V.non) (u := Value.none) J rfl q
      | brk =>
        obtain ⟨_, _, _, q⟩ := hs
        exact False.elim q
      | cont =>
        obtain ⟨_, _, _, q⟩ := hs
        exact False.elim q
    · exact wpAny_mono hs (fun _ _ z => z.elim) fun _ _ z => z.elim
end Mi

-- MiR
set_option Elab.async false
set_option linter.all false
set_option maxRecDepth 100000
set_option maxHeartbeats 4000000
/-! Mi, part R: the law's end: tables, facts behind the top, the call of the law. -/
namespace Mi
open PySem L2 PyProof.Rows

/-! ### the written part holds no list -/
def notL (o : Obj) : Bool := match o.cls with
  | .type c => !decide (c = "list")
  | _ => true
def frL (g : Addr → Option Obj) (as : List Addr) : Frag := (He.frG g as).filter fun p => notL p.2
theorem frG_mem {g : Addr → Option Obj} {as : List Addr} {a : Addr} {o : Obj} (h : (a, o) ∈ He.frG g as) : g a = some o := by
  unfold He.frG at h
  obtain ⟨b, _, e⟩ := List.mem_filterMap.mp h
  cases q : g b with
  | none => rw [q] at e; cases e
  | some u => rw [q] at e; cases e; exact q
theorem mem_lookN {α : Type} {a : Addr} {o : α} : ∀ {l : List (Addr × α)}, l.lookup a = some o → (a, o) ∈ l
  | [], h => by cases h
  | (b, u) :: l, h => by
    rw [List.lookup_cons] at h
    cases q : a == b with
    | true =>
      rw [q] at h
      cases h
      rw [eq_of_beq q]
      exact List.mem_cons_self
    | false =>
      rw [q] at h
      exact List.mem_cons_of_mem _ (mem_lookN h)
theorem frL_mem {g : Addr → Option Obj} {as : List Addr} {a : Addr} {o : Obj} (e : (frL g as).lookup a = some o) : (a, o) ∈ He.frG g as ∧ notL o = true := by
  unfold frL at e
  have h := mem_lookN e
  rw [List.mem_filter] at h
  exact h
theorem frL_in {as : List Addr} {h : Heap} : (frL h.get? as).In h := fun a o e => frG_mem (frL_mem e).1
def NoL (K : Frag) : Prop := ∀ a o, K.lookup a = some o → o.cls ≠ .type "list"
theorem frL_no {g : Addr → Option Obj} {as : List Addr} : NoL (frL g as) := fun a o e z => by
  have h := (frL_mem e).2
  unfold notL at h
  rw [z] at h
  simp at h

/-! ### constants of the module -/
mutual
def vB (K : Frag) : D → Value → Bool
  | .non, .none => true
  | .bl b, .bool c => b == c
  | .int i, .int j _ => decide (i = j)
  | .str x, .str y _ => decide (x = y)
  | .tup ds, .ref a => (match K.lookup a with
    | some ⟨.type c, _, .seq its _, _⟩ => decide (c = "tuple") && decide (its.size ≤ sizeLine) && vBs K ds its.toList
    | _ => false)
  | _, _ => false
def vBs (K : Frag) : List D → List Value → Bool
  | [], [] => true
  | d :: ds, u :: us => vB K d u && vBs K ds us
  | _, _ => false
end
mutual
theorem vB_ok {K : Frag} : ∀ {d : D} {u : Value}, vB K d u = true → ∃ v, RelV v u ∧ ∀ H μ, RD K H μ d v
  | .non, u, h => by
    cases u with
    | none => exact ⟨.non, rfl, fun _ _ => .non⟩
    | _ => cases h
  | .bl b, u, h => by
    cases u with
    | bool c =>
      have e := eq_of_beq (show (b == c) = true from h)
      subst e
      exact ⟨.bl b, rfl, fun _ _ => .bl b⟩
    | _ => cases h
  | .int i, u, h => by
    cases u with
    | int j t =>
      have e := of_decide_eq_true (show decide (i = j) = true from h)
      subst e
      exact ⟨.int i, ⟨t, rfl⟩, fun _ _ => .int i⟩
    | _ => cases h
  | .str x, u, h => by
    cases u with
    | str y t =>
      have e := of_decide_eq_true (show decide (x = y) = true from h)
      subst e
      exact ⟨.str x, ⟨t, rfl⟩, fun _ _ => .str x⟩
    | _ => cases h
  | .tup ds, u, h => by
    cases u with
    | ref a =>
      have h : (match K.lookup a with
        | some ⟨.type c, _, .seq its _, _⟩ => decide (c = "tuple") && decide (its.size ≤ sizeLine) && vBs K ds its.toList
        | _ => false) = true := h
      cases q : K.lookup a with
      | none => rw [q] at h; cases h
      | some o =>
        rw [q] at h
        obtain ⟨oc, od, dt, osl⟩ := o
        cases oc with
        | type c =>
          cases dt with
          | seq its n =>
            obtain ⟨h1, h2, h3⟩ := and3 h
            have e := of_decide_eq_true h1
            subst e
            obtain ⟨vs, r1, r2⟩ := vBs_ok h3
            exact ⟨.ref a, rfl, fun H μ => .tup (.inr ⟨_, its, n, q, rfl, rfl, of_decide_eq_true h2, r1⟩) (r2 H μ)⟩
          | _ => cases h
        | _ => cases dt <;> cases h
    | _ => cases h
  | .ref n, u, h => by cases u <;> cases h
theorem vBs_ok {K : Frag} : ∀ {ds : List D} {us : List Value}, vBs K ds us = true → ∃ vs, Vals vs us ∧ ∀ H μ, RDs K H μ ds vs
  | [], [], _ => ⟨[], .nil, fun _ _ => .nil⟩
  | d :: ds, u :: us, h => by
    obtain ⟨h1, h2⟩ := and2 h
    obtain ⟨v, r1, r2⟩ := vB_ok h1
    obtain ⟨vs, r3, r4⟩ := vBs_ok h2
    exact ⟨v :: vs, .cons r1 r3, fun H μ => .cons (r2 H μ) (r4 H μ)⟩
  | [], _ :: _, h => by cases h
  | _ :: _, [], h => by cases h
end
def globB (K : Frag) (p : Str × D) : Bool := match PySem.W.nsIn K mainGlobals p.1 with
  | some (some u) => vB K p.2 u
  | _ => false
theorem globB_ok {K : Frag} {h : Heap} {mg : Str → Option Value} (X : K.In h) (G : h.Ns mainGlobals mg) {x : Str} {d : D} (c : globB K (x, d) = true) : ∃ v u, mg x = some u ∧ RelV v u ∧ ∀ H μ, RD K H μ d v := by
  have c : (match PySem.W.nsIn K mainGlobals x with
    | some (some u) => vB K d u
    | _ => false) = true := c
  cases e : PySem.W.nsIn K mainGlobals x with
  | none => rw [e] at c; cases c
  | some o =>
    rw [e] at c
    cases o with
    | none => cases c
    | some u =>
      obtain ⟨v, r1, r2⟩ := vB_ok c
      exact ⟨v, u, PySem.W.mg_of X G e, r1, r2⟩

/-! ### the table of defs -/
structure Def where
  x : Str
  fn : Fn
  N : List Str
  st : Stmt
def Def.dat (d : Def) : He.DefD := ⟨(d.x, none), d.x, d.x, defArgs d.st, defBody d.st, defScope d.st, [], []⟩
def plainArgs : Arguments → Bool
  | ⟨[], _, none, [], [], none, []⟩ => true
  | _ => false
theorem plainArgs_eq {a : Arguments} (h : plainArgs a = true) : a = ⟨[], a.args, none, [], [], none, []⟩ := by
  obtain ⟨a1, a2, a3, a4, a5, a6, a7⟩ := a
  unfold plainArgs at h
  split at h
  · rename_i e
    simp only [Arguments.mk.injEq] at e
    obtain ⟨rfl, _, rfl, rfl, rfl, rfl, rfl⟩ := e
    rfl
  · cases h
def scopeB (N P : List Str) (sc : Scope) : Bool := (match sc.kind with | .function => true | _ => false) && !sc.isCoroutine && !sc.isGenerator && decide N.Nodup && decide (N.take P.length = P) &&
  (P.all fun x => match sc.names.lookup x with | some .local => true | some .cell => true | _ => false) && (sc.names.all fun y => match y.2 with | .free => false | _ => true)
theorem scopeB_ok {N P : List Str} {sc : Scope} (h : scopeB N P sc = true) : FnScope N P sc := by
  obtain ⟨h, h7⟩ := and2 h
  obtain ⟨h, h6⟩ := and2 h
  obtain ⟨h, h5⟩ := and2 h
  obtain ⟨h1, h2, h3, h4⟩ := and4 h
  refine ⟨?_, by simpa using h2, by simpa using h3, of_decide_eq_true h4, of_decide_eq_true h5, fun x hx => ?_, fun y hy e => ?_⟩
  · split at h1
    · assumption
    · cases h1
  · have q := List.all_eq_true.mp h6 x hx
    split at q
    · exact .inl (by assumption)
    · exact .inr (by assumption)
    · cases q
  · have q := List.all_eq_true.mp h7 y hy
    rw [e] at q
    cases q
def Def.ok (C : Cxt) (fns : List Str) (d : Def) : Bool := plainArgs (defArgs d.st) && decide ((defArgs d.st).args.map (·.arg) = d.fn.ps) && scopeB d.N d.fn.ps (defScope d.st) && decide (d.fn.nn = d.N.length) && decide (d.fn.ps.length ≤ d.N.length) &&
  isSs ⟨d.N, C, fns⟩ (defScope d.st) d.fn.body (defBody d.st)
theorem fnAt_of {K : Frag} {mg : Str → Option Value} {C : Cxt} {fns : List Str} {d : Def} (hok : d.ok C fns = true) (hm : mg d.x = some (.ref (He.ga K d.x))) {fd : FuncData}
    (F : FunD K d.x d.x (defArgs d.st) (defBody d.st) (defScope d.st) [] [] (He.ga K d.x) fd) : FnAt K mg C fns d.x d.fn := by
  obtain ⟨h, h6⟩ := and2 hok
  obtain ⟨h, h5⟩ := and2 h
  obtain ⟨h1, h2, h3, h4⟩ := and4 h
  obtain ⟨oc, od, dV, kV, doc, pm, an, cdv, ct, osl, hfd, lk, hcd, hD, _⟩ := F.ex
  rw [hfd] at lk
  rw [plainArgs_eq h1] at lk
  rcases hD with ⟨_, hD⟩ | ⟨hD, _⟩
  · subst hD
    exact ⟨⟨_, d.x, d.x, (defArgs d.st).args, defBody d.st, defScope d.st, kV, doc, pm, cdv, ct, oc, an, od, osl, d.N, hm, F.kp, lk, hcd, of_decide_eq_true h2, of_decide_eq_true h4, scopeB_ok h3, of_decide_eq_true h5, h6⟩⟩
  · exact absurd rfl hD

/-! ### the Hook -/
abbrev AlM : Type := Bool × List He.FnW
def faOf (defs : List Def) : List He.Fa := defs.map (fun d => .glo d.x) ++ bltNs.map fun x => .free x
def obsM (defs : List Def) (gl : List (Str × D)) (K : Frag) : AlM := (((faOf defs).all fun f => f.ok K) && ((defs.map Def.dat).all fun d => d.ok K) && gl.all (globB K), (defs.map Def.dat).map fun d => He.fnW K d.at_)
def valM (defs : List Def) : AlM := (true, (defs.map Def.dat).map He.DefD.val)
def SaysM (defs : List Def) (gl : List (Str × D)) (K : Frag) : Prop := obsM defs gl K = valM defs ∧ NoL K
def obsMG (n : Nat) (defs : List Def) (gl : List (Str × D)) (g : Addr → Option Obj) : AlM := obsM defs gl (frL g (He.asD g n))
def hookM (n : Nat) (defs : List Def) (gl : List (Str × D)) : PySem.W.Hook where
  α := AlM
  obs := fun s => obsMG n defs gl s.heap.get?
  val := fun _ => valM defs
  says := fun _ h => ∃ K : Frag, K.In h ∧ SaysM defs gl K
  of := fun _ _ e => ⟨_, frL_in, e, frL_no⟩
  keeps := fun _ _ _ ⟨K, hK, c⟩ k => ⟨K, PySem.W.Frag.In.keeps hK k, c⟩
theorem obsMG_eq {n : Nat} {defs : List Def} {gl : List (Str × D)} {g : Addr → Option Obj} {s : Shared} (h : ∀ a, g a = s.heap.get? a) : obsMG n defs gl g = (hookM n defs gl).obs s := by
  have e : g = s.heap.get? := funext h
  rw [e]; rfl
section
variable {defs : List Def} {gl : List (Str × D)} {K : Frag}
theorem SaysM.all (c : SaysM defs gl K) : ((faOf defs).all fun f => f.ok K) = true ∧ ((defs.map Def.dat).all fun d => d.ok K) = true ∧ gl.all (globB K) = true :=
  and3 (show (((faOf defs).all fun f => f.ok K) && ((defs.map Def.dat).all fun d => d.ok K) && gl.all (globB K)) = true from congrArg (fun z : AlM => z.1) c.1)
theorem SaysM.def_ (c : SaysM defs gl K) {d : Def} (h : d ∈ defs) : ∃ fd, FunD K d.x d.x (defArgs d.st) (defBody d.st) (defScope d.st) [] [] (He.ga K d.x) fd := by
  obtain ⟨i, hi⟩ := List.getElem?_of_mem h
  have e : ((defs.map Def.dat).map fun d => He.fnW K d.at_) = (defs.map Def.dat).map He.DefD.val := congrArg (fun z : AlM => z.2) c.1
  have e2 : ((defs.map Def.dat).map fun d => He.fnW K d.at_)[i]? = ((defs.map Def.dat).map He.DefD.val)[i]? := by rw [e]
  rw [List.getElem?_map, List.getElem?_map, List.getElem?_map, List.getElem?_map, hi] at e2
  have hk := List.all_eq_true.mp c.all.2.1 d.dat (List.mem_map.mpr ⟨d, h, rfl⟩)
  exact He.DefD.funD (d := d.dat) (Option.some.inj e2) hk
theorem SaysM.glo {h : Heap} {mg : Str → Option Value} (c : SaysM defs gl K) (X : K.In h) (G : h.Ns mainGlobals mg) {d : Def} (hd : d ∈ defs) : mg d.x = some (.ref (He.ga K d.x)) :=
  He.glo_ok X G (List.all_eq_true.mp c.all.1 (.glo d.x) (List.mem_append_left _ (List.mem_map.mpr ⟨d, hd, rfl⟩)))
theorem SaysM.free {h : Heap} {mg : Str → Option Value} (c : SaysM defs gl K) (X : K.In h) (G : h.Ns mainGlobals mg) {x : Str} (hx : x ∈ bltNs) : mg x = none :=
  He.free_ok X G (List.all_eq_true.mp c.all.1 (.free x) (List.mem_append_right _ (List.mem_map.mpr ⟨x, hx, rfl⟩)))
end
def progOf (defs : List Def) (gl : List (Str × D)) : Prog := ⟨fun f => (defs.map fun d => (d.x, d.fn)).lookup f, fun x => gl.lookup x⟩
theorem mem_of_look {α : Type} {l : List (Str × α)} {x : Str} {a : α} (h : l.lookup x = some a) : (x, a) ∈ l := PySem.mem_of_lookup h
/-- every def, at every level -/
theorem fnG_all {P : Program} {w : World} {K : Frag} {mg : Str → Option Value} {base : Heap} {defs : List Def} {gl : List (Str × D)} {wf : Nat} (hok : ∀ (C : Cxt), (defs.all (Def.ok C (defs.map (·.x)))) = true) (hnd : (defs.map (·.x)).Nodup)
    {h : Heap} (X : K.In h) (G : h.Ns mainGlobals mg) (c : SaysM defs gl K) : ∀ (n : Nat) (f : Str), f ∈ defs.map (·.x) → FnG P w K mg base n f (callF (progOf defs gl) wf n f)
  | 0, f, hf => by
    obtain ⟨d, hd, e⟩ := List.mem_map.mp hf
    subst e
    obtain ⟨fd, F⟩ := c.def_ hd
    exact ⟨_, c.glo X G hd, F.kp, fun _ _ _ _ _ _ _ _ _ _ _ _ _ _ _ _ _ _ _ _ _ _ z => z.elim⟩
  | n + 1, f, hf => by
    obtain ⟨d, hd, e⟩ := List.mem_map.mp hf
    subst e
    obtain ⟨fd, F⟩ := c.def_ hd
    have hfn : (progOf defs gl).fn d.x = some d.fn := by
      show (defs.map fun d => (d.x, d.fn)).lookup d.x = some d.fn
      clear hok c F hf
      induction defs with
      | nil => cases hd
      | cons b bs ih =>
        rw [List.map_cons, List.nodup_cons] at hnd
        rw [List.map_cons, List.lookup_cons]
        rcases List.mem_cons.mp hd with z | z
        · subst z
          rw [beq_self_eq_true]
        · have : (d.x == b.x) = false := beq_eq_false_iff_ne.mpr fun q => hnd.1 (List.mem_map.mpr ⟨d, z, q⟩)
          rw [this]
          exact ih hnd.2 z
    refine fnG_of hfn (fnAt_of (List.all_eq_true.mp (hok _) d hd) (c.glo X G hd) F) (fun x v e => ?_) (fun x hx => c.free X G hx) (fun g hg => fnG_all hok hnd X G c n g hg)
    exact globB_ok X G (List.all_eq_true.mp c.all.2.2 (x, v) (mem_of_look e))

/-! ### the law is called -/
theorem law_callG {P : Program} {w : World} {K : Frag} {mg mb : Str → Option Value} {n : Nat} {x : Str} {m : List D → List Str → List D → M V2} {fa a : Addr} {s₁ : Shared} {vs : List Value} {ns : List Int}
    (KX : K.In s₁.heap) (hns : s₁.heap.Ns mainGlobals mg) (hb : s₁.heap.Ns builtinsNs mb) (hbb : ∀ x : Str, x ≠ "__name__" → mb x = bootBuiltins x) (hlim : s₁.heap.NoLimit) (hg : s₁.gens = #[])
    (ha : s₁.heap.get? a = some { cls := .type "list", data := .seq vs.toArray }) (hi : IntsAre vs ns) (hl : ns.length ≤ sizeLine) (noL : NoL K) (hr : Room n callerA) (hfa : mg x = some (.ref fa))
    (F : ∀ base : Heap, FnG P w K mg base n x m)
    (hm : ∃ S', m [.ref 0] [] [] [.ro (ns.map D.int)] = .ok (.d (.bl true)) S') :
    codeAny (model P w) callerA (.call (.ref fa) ⟨[.ref a], []⟩) (fun r s' => r = .ok (.ret (.bool true)) ∧ OldK s₁.heap s'.heap ∧ s'.os = s₁.os ∧ AllBare s'.gens) s₁ := by
  have rv := vals_ints hi
  have hk : K.lookup a = none := by
    cases hk : K.lookup a with
    | none => rfl
    | some o =>
      have e := KX a o hk
      rw [ha] at e
      cases e
      exact absurd rfl (noL a _ hk)
  generalize hH : (fun b => if b = a then some (HO.frz { cls := .type "list", data := .seq vs.toArray } (.lst (ns.map V.int))) else none : Hp) = H
  have Ha : H a = some (.frz { cls := .type "list", data := .seq vs.toArray } (.lst (ns.map V.int))) := by rw [← hH]; exact if_pos rfl
  have Hn : ∀ b, b ≠ a → H b = none := fun b z => by rw [← hH]; exact if_neg z
  have hok : HOk P w H s₁.heap := fun b u z => by
    by_cases hb : b = a
    · subst hb
      rw [Ha] at z
      cases z
      exact ⟨ha, by rw [List.length_map]; exact hl, vs, _, rv, ha⟩
    · rw [Hn b hb] at z; cases z
  have hA : ∀ b, H b ≠ none → b = a := fun b z => by
    by_cases hb : b = a
    · exact hb
    · exact absurd (Hn b hb) z
  have base_of : ∀ {b : Addr} {o : Obj}, s₁.heap.get? b = some o → H b = none → (hidT s₁.heap H).get? b = some o := fun e n => hidT_get e n
  have noA : ∀ {b : Addr} {o : Obj} {es : Array DictEntry} {ep : Nat}, s₁.heap.get? b = some o → o.data = .dict es ep → H b = none := fun {b o es ep} e d => by
    cases q : H b with
    | none => rfl
    | some u =>
      have e' : b = a := hA b (by rw [q]; simp)
      subst e'
      rw [ha] at e; cases e
      have d' : Data.seq vs.toArray _ = Data.dict es ep := d
      cases d'
  have nsK : ∀ {b : Addr} {m : Str → Option Value}, s₁.heap.Ns b m → (hidT s₁.heap H).Ns b m := fun {b m} ⟨o, es, ep, e, d, r⟩ => ⟨o, es, ep, base_of e (noA e d), d, r⟩
  have hKb : K.In (hidT s₁.heap H) := fun b o e => base_of (KX b o e) (by
    cases q : H b with
    | none => rfl
    | some u =>
      have e' : b = a := hA b (by rw [q]; simp)
      subst e'
      rw [hk] at e; cases e)
  have hM : Mod K mg (hidT s₁.heap H) := ⟨hKb, nsK hns, ⟨mb, nsK hb, hbb⟩, let ⟨mc, h1, h2⟩ := hlim; ⟨mc, nsK h1, h2⟩⟩
  have e0 : Env0 P w K mg (hidT s₁.heap H) callerA [] s₁ H := ⟨rfl, hM, fun b o e => of_hidT e, Nat.le_of_eq (hidT_size _ _), trivial, fun b hb => absurd (show b ∈ ([] : List Addr) from hb) (by simp), hok, .of_eq hg⟩
  obtain ⟨fa', hm', _, run⟩ := F (hidT s₁.heap H)
  rw [hfa] at hm'
  cases hm'
  have rints : ∀ ns : List Int, RDs K H [a] (ns.map D.int) (ns.map V.int) := by
    intro ns
    induction ns with
    | nil => exact .nil
    | cons i ns ih => exact .cons (.int i) ih
  have rs : RS K H [a] [.ro (ns.map D.int)] := by
    refine ⟨rfl, by simp, fun n c b e1 e2 => ?_⟩
    cases n with
    | zero =>
      cases e1
      cases e2
      exact ⟨_, .inr ⟨_, Ha⟩, rints ns⟩
    | succ n => simp at e1
  obtain ⟨S', hm⟩ := hm
  refine codeAny_mono (run callerA [] s₁ H [.ref a] [] [.ref a] [] [] (fun v _ => v = .bl true) [a] [.ro (ns.map D.int)] [.ref 0] [] hr rfl e0 (.cons rfl .nil) .nil rs (.cons (.ref rfl) .nil) .nil ?_) fun r s' h => ?_
  · rw [hm]
    intro μ' H' x rs' v rv
    cases rv
    rfl
  · cases r with
    | error e => exact h.elim
    | ok fl =>
      cases fl with
      | next => exact False.elim h
      | brk => exact False.elim h
      | cont => exact False.elim h
      | ret u =>
        obtain ⟨v, H', os, bare, un, hok', r', q⟩ := h
        have q' : v = .bl true := q
        subst q'
        obtain rfl : u = Value.bool true := r'
        refine ⟨rfl, OldK.of_keep fun b o e => ?_, os, bare⟩
        cases q : H b with
        | none => exact un.keep b o e q (by intro z; exact absurd (show b ∈ ([] : List Addr) from z) (by simp)) (by simp)
        | some u =>
          have e' : b = a := hA b (by rw [q]; simp)
          subst e'
          have z2 := un.frzs b _ _ Ha
          obtain ⟨e2, _⟩ := hok' b _ z2
          rw [ha] at e
          cases e
          exact e2
/-- a law of the table keeps its promise, if the mini text's run answers True -/
theorem walk_ofG {l : PySem.W.OpenLaw} {n k : Nat} {q : Program} {loose : List Str} {XP : (Str → Option Value) → Heap → Prop} {d : DefRec} {defs : List Def} {gl : List (Str × D)} {wf : Nat}
    (hn : l.most = some n) (hn2 : n ≤ sizeLine) (hdf : d.params.defaults = []) (hr : Room k callerA) (hname : d.name = "law") (hlaw : ("law" : Str) ∈ defs.map (·.x))
    (hok : ∀ (C : Cxt), (defs.all (Def.ok C (defs.map (·.x)))) = true) (hnd : (defs.map (·.x)).Nodup)
    (hm : ∀ ns : List Int, ns.length ≤ n → ∃ S', callF (progOf defs gl) wf k "law" [.ref 0] [] [] [.ro (ns.map D.int)] = .ok (.d (.bl true)) S') :
    PySem.W.WalkO q loose XP (fun _ h => ∃ K : Frag, K.In h ∧ SaysM defs gl K) l.row.toRowW d [] (fun f vs => PySem.call f vs) := by
  refine Att.attach_call hn hdf fun w s₀ s₁ mg mb fa o pm cd doc a vs ns G Y ho hd hcd hmg hobj hints hlen hg => ?_
  obtain ⟨K, KX, c⟩ := Y
  exact law_callG KX G.T.g G.T.b G.T.builtins G.T.nolimit hg hobj hints (Nat.le_trans hlen hn2) c.2 hr (by rw [← hname]; exact hmg) (fun base => fnG_all hok hnd KX G.T.g c k "law" hlaw) (hm ns hlen)
end Mi

-- W1
set_option Elab.async false
set_option linter.all false
set_option maxRecDepth 100000
namespace Mi
open PySem (Str PyData)
theorem bind_ap {α β : Type} (m : M α) (f : α → M β) (S : Sto) : (m >>= f) S = match m S with
  | .ok a S' => f a S'
  | .exc x S' => .exc x S'
  | .bad => .bad := rfl
theorem pure_ap {α : Type} (a : α) (S : Sto) : (pure a : M α) S = .ok a S := rfl
theorem bad_ap {α : Type} (S : Sto) : (bad : M α) S = .bad := rfl
theorem orBad_some {α : Type} (a : α) : orBad (some a) = pure a := rfl
theorem chk_true : chk true = pure () := rfl
/-- a def's end -/
def fin (S : Sto) : Res Fl → Res V2
  | .ok (.rt v) S' => tidy S v S'
  | .ok (.nx _) S' => tidy S (.d .non) S'
  | .ok _ _ => .bad
  | .exc x S' => .exc x S'
  | .bad => .bad
theorem lookAll_zip {α : Type} : ∀ (ps : List Str) (xs : List α), ps.Nodup → xs.length = ps.length → lookAll (ps.zip xs) ps = some xs
  | [], [], _, _ => rfl
  | [], _ :: _, _, h => by cases h
  | _ :: _, [], _, h => by cases h
  | p :: ps, x :: xs, hn, h => by
    have go : ∀ (qs : List Str), p ∉ qs → lookAll ((p, x) :: ps.zip xs) qs = lookAll (ps.zip xs) qs := by
      intro qs
      induction qs with
      | nil => intro _; rfl
      | cons q qs ih =>
        intro hq
        have h1 : (q == p) = false := beq_eq_false_iff_ne.mpr fun e => hq (by rw [e]; exact List.mem_cons_self)
        have h2 := ih fun z => hq (List.mem_cons_of_mem _ z)
        unfold lookAll
        rw [List.lookup_cons, h1, h2]
    rw [List.nodup_cons] at hn
    rw [List.zip_cons_cons]
    unfold lookAll
    rw [List.lookup_cons, beq_self_eq_true, go ps hn.1, lookAll_zip ps xs hn.2 (by simpa using h)]
theorem bindA_pos {α : Type} {ps : List Str} {xs : List α} (hn : ps.Nodup) (h : xs.length = ps.length) : bindA ps xs [] [] = some xs := by
  unfold bindA
  rw [if_pos (by rw [h]; simp [kwOk])]
  rw [List.zip_nil_right, List.append_nil]
  exact lookAll_zip ps xs hn h
theorem callF_pos {P : Prog} {w n : Nat} {f : Str} {fn : Fn} {xs : List D} (hf : P.fn f = some fn) (hn : fn.ps.Nodup) (h : xs.length = fn.ps.length) (S : Sto) :
    callF P w (n + 1) f xs [] [] S = fin S (exs ⟨P.glob, callF P w n, w⟩ fn.body (enter xs fn.nn) S) := by
  unfold callF
  rw [hf]
  dsimp only
  rw [bindA_pos hn h]
  rfl
variable {P : Prog} {w : Nat}
theorem oldOk_refl (S : Sto) : oldOk S S = true := by
  unfold oldOk
  rw [List.all_eq_true]
  intro i hi
  have := List.mem_range.mp hi
  rw [List.getElem?_eq_getElem this]
  simp
theorem tidy_bl (S : Sto) (b : Bool) : tidy S (.d (.bl b)) S = .ok (.d (.bl b)) S := by
  unfold tidy
  rw [if_pos (oldOk_refl S)]
  simp [below]
end Mi
namespace Mi
open PySem (Str PyData)
/-! ### well-formed values -/
def okStr (x : Str) : Bool := decide (x.length ≤ 40) && PyData.strOk x
def okInt (i : Int) : Bool := decide (-(10 ^ 11) < i ∧ i < 10 ^ 11)
/-- d is well formed in S, of that depth -/
def ok (S : Sto) : Nat → D → Bool
  | 0, _ => false
  | _ + 1, .non => true
  | _ + 1, .bl _ => true
  | _ + 1, .int i => okInt i
  | _ + 1, .str x => okStr x
  | n + 1, .tup xs => xs.all (ok S n)
  | n + 1, .ref a => match S[a]? with
    | some (.lst xs) => xs.all (ok S n)
    | _ => false
theorem ok_mono {S : Sto} : ∀ {n : Nat} {d : D}, ok S n d = true → ok S (n + 1) d = true
  | 0, d, h => by cases h
  | n + 1, .non, _ => rfl
  | n + 1, .bl _, _ => rfl
  | n + 1, .int _, h => h
  | n + 1, .str _, h => h
  | n + 1, .tup xs, h => by
    have h : xs.all (ok S n) = true := h
    show xs.all (ok S (n + 1)) = true
    rw [List.all_eq_true] at h ⊢
    exact fun x hx => ok_mono (h x hx)
  | n + 1, .ref a, h => by
    have h : (match S[a]? with
      | some (.lst xs) => xs.all (ok S n)
      | _ => false) = true := h
    show (match S[a]? with
      | some (.lst xs) => xs.all (ok S (n + 1))
      | _ => false) = true
    cases q : S[a]? with
    | none => rw [q] at h; cases h
    | some c =>
      rw [q] at h
      cases c with
      | lst xs =>
        dsimp only at h ⊢
        rw [List.all_eq_true] at h ⊢
        exact fun x hx => ok_mono (h x hx)
      | _ => cases h
theorem ok_le {S : Sto} {d : D} {n m : Nat} (h : ok S n d = true) (hm : n ≤ m) : ok S m d = true := by
  induction hm with
  | refl => exact h
  | step _ ih => exact ok_mono ih
/-- well formed -/
def Ok (S : Sto) (d : D) : Prop := ok S 30 d = true
theorem Ok.tup {S : Sto} {xs : List D} (h : Ok S (.tup xs)) : ∀ x ∈ xs, Ok S x := by
  have h : xs.all (ok S 29) = true := h
  rw [List.all_eq_true] at h
  exact fun x hx => ok_le (h x hx) (by omega)
theorem allPy_some {f : D → Option PyData} : ∀ {xs : List D}, (∀ x ∈ xs, ∃ p, f x = some p) → ∃ ps, allPy f xs = some ps
  | [], _ => ⟨[], rfl⟩
  | x :: xs, h => by
    obtain ⟨p, e⟩ := h x List.mem_cons_self
    obtain ⟨ps, e2⟩ := allPy_some fun y hy => h y (List.mem_cons_of_mem _ hy)
    exact ⟨p :: ps, by unfold allPy; rw [e, e2]⟩
/-- as data: what repr, == ask -/
def good (p : PyData) : Bool := p.canLay0 && p.intsShort 13 && p.showable
theorem good_all' {f : D → Option PyData} : ∀ {xs : List D} {ps : List PyData}, (∀ x ∈ xs, ∀ p, f x = some p → good p = true) → allPy f xs = some ps → PyData.canLayAll0 ps = true ∧ PyData.intsShortAll 13 ps = true ∧ PyData.showableAll ps = true
  | [], ps, _, h => by cases h; exact ⟨rfl, rfl, rfl⟩
  | x :: xs, ps, hf, h => by
    unfold allPy at h
    cases q : f x with
    | none => rw [q] at h; cases h
    | some p =>
      rw [q] at h
      cases q2 : allPy f xs with
      | none => rw [q2] at h; cases h
      | some qs =>
        rw [q2] at h
        cases h
        obtain ⟨a, b, c⟩ := good_all' (fun y hy => hf y (List.mem_cons_of_mem _ hy)) q2
        obtain ⟨g1, g2, g3⟩ := and3 (hf x List.mem_cons_self p q)
        refine ⟨?_, ?_, ?_⟩
        · show (p.canLay0 && PyData.canLayAll0 qs) = true
          rw [g1, a]; rfl
        · show (p.intsShort 13 && PyData.intsShortAll 13 qs) = true
          rw [g2, b]; rfl
        · show (p.showable && PyData.showableAll qs) = true
          rw [g3, c]; rfl
theorem log2_small {n : Nat} (h : n < 10 ^ 12) : n.log2 < 1920 := by
  by_cases h0 : n = 0
  · subst h0; decide
  · rw [Nat.log2_lt h0]
    exact Nat.lt_of_lt_of_le h (by
      have : (10 : Nat) ^ 12 ≤ 2 ^ 40 := by decide
      exact Nat.le_trans this (Nat.pow_le_pow_right (by decide) (by decide)))
theorem int_short {i : Int} (h : okInt i = true) : good (.int i) = true := by
  have h := of_decide_eq_true h
  have h1 : (PyData.int i).intsShort 13 = true := PyProof.Rows.intsShort_of_noneOrIn (lo := -(10 ^ 11)) (hi := 10 ^ 11) (by decide) (by decide) (.int i) (by
    show (decide _ && decide _) = true
    rw [decide_eq_true (by omega), decide_eq_true (by omega)]; rfl)
  have h2 : (PyData.int i).showable = true := decide_eq_true (log2_small (by omega))
  unfold good
  rw [h1, h2]
  rfl
theorem ok_py {S : Sto} : ∀ {n : Nat} {d : D}, ok S n d = true → ∃ p, toPy S n d = some p ∧ good p = true
  | 0, d, h => by cases h
  | n + 1, .non, _ => ⟨_, rfl, rfl⟩
  | n + 1, .bl _, _ => ⟨_, rfl, rfl⟩
  | n + 1, .int i, h => ⟨_, rfl, int_short h⟩
  | n + 1, .str x, h => ⟨_, rfl, by
    obtain ⟨h1, h2⟩ := and2 h
    unfold good
    show (PyData.strOk x && true && true) = true
    rw [h2]; rfl⟩
  | n + 1, .tup xs, h => by
    have h : xs.all (ok S n) = true := h
    rw [List.all_eq_true] at h
    obtain ⟨ps, e⟩ := allPy_some (f := toPy S n) fun x hx => let ⟨p, e, _⟩ := ok_py (h x hx); ⟨p, e⟩
    obtain ⟨a, b, c⟩ := good_all' (f := toPy S n) (fun x hx p ep => by
      obtain ⟨p', e', g⟩ := ok_py (h x hx)
      rw [ep] at e'
      cases e'
      exact g) e
    exact ⟨.tuple ps, by unfold toPy; rw [e]; rfl, by unfold good; show (PyData.canLayAll0 ps && PyData.intsShortAll 13 ps && PyData.showableAll ps) = true; rw [a, b, c]; rfl⟩
  | n + 1, .ref a, h => by
    have h : (match S[a]? with
      | some (.lst xs) => xs.all (ok S n)
      | _ => false) = true := h
    cases q : S[a]? with
    | none => rw [q] at h; cases h
    | some c =>
      rw [q] at h
      cases c with
      | lst xs =>
        dsimp only at h
        rw [List.all_eq_true] at h
        obtain ⟨ps, e⟩ := allPy_some (f := toPy S n) fun x hx => let ⟨p, e, _⟩ := ok_py (h x hx); ⟨p, e⟩
        obtain ⟨a, b, c⟩ := good_all' (f := toPy S n) (fun x hx p ep => by
          obtain ⟨p', e', g⟩ := ok_py (h x hx)
          rw [ep] at e'
          cases e'
          exact g) e
        exact ⟨.list ps, by unfold toPy; rw [q]; dsimp only; rw [e]; rfl, by unfold good; show (PyData.canLayAll0 ps && PyData.intsShortAll 13 ps && PyData.showableAll ps) = true; rw [a, b, c]; rfl⟩
      | _ => cases h

theorem ok_v2 {S : Sto} {d : D} (h : Ok S d) : ∃ p, v2Py (.d d) S = .ok p S ∧ toPy S 40 d = some p ∧ good p = true ∧ okPy p = true := by
  obtain ⟨p, e, g⟩ := ok_py (ok_le h (show 30 ≤ 40 by decide))
  have hd := toPy_depth 40 d p e
  refine ⟨p, ?_, e, g, ?_⟩
  · unfold v2Py
    dsimp only
    show (match toPy S 40 d with | some p => Res.ok p S | none => Res.bad) = _
    rw [e]
  · unfold okPy PySem.SeqAt.shaped
    rw [(and3 g).1, decide_eq_true (Nat.le_trans hd (by decide))]; rfl
theorem ok_v2l {S : Sto} {xs : List D} (h : ∀ x ∈ xs, Ok S x) : ∃ ps, v2Py (.l xs) S = .ok (.list ps) S ∧ allPy (toPy S 40) xs = some ps ∧ good (PyData.list ps) = true ∧ okPy (PyData.list ps) = true := by
  have h1 : ok S 41 (.tup xs) = true := by
    show xs.all (ok S 40) = true
    rw [List.all_eq_true]
    exact fun x hx => ok_le (h x hx) (by decide)
  obtain ⟨p, e, g⟩ := ok_py h1
  have e' : (allPy (toPy S 40) xs).map PyData.tuple = some p := e
  obtain ⟨ps, e1, e2⟩ := Option.map_eq_some_iff.mp e'
  subst e2
  have hd := toPy_depth 41 (.tup xs) _ e
  refine ⟨ps, ?_, e1, g, ?_⟩
  · unfold v2Py
    dsimp only
    show (match allPy (toPy S 40) xs with | some ps => Res.ok (PyData.list ps) S | none => Res.bad) = _
    rw [e1]
  · unfold okPy PySem.SeqAt.shaped
    have hg : (PyData.list ps).canLay0 = true := (and3 g).1
    have hd' : (PyData.list ps).depth ≤ 64 := Nat.le_trans (show (PyData.list ps).depth ≤ 41 from hd) (by decide)
    rw [hg, decide_eq_true hd']; rfl
theorem eqData_ok {S : Sto} {a b : V2} {p q : PyData} (h1 : v2Py a S = .ok p S) (h2 : v2Py b S = .ok q S) (g1 : okPy p = true) (g2 : okPy q = true) : eqData a b S = .ok (PyData.eqv p q) S := by
  unfold eqData
  rw [bind_ap, h1]
  dsimp only
  rw [bind_ap, h2]
  dsimp only
  rw [g1, g2]
  rfl
theorem v2_str {S : Sto} {z : Str} (hz : PyData.strOk z = true) : v2Py (.d (.str z)) S = .ok (.str z) S ∧ okPy (.str z) = true := by
  refine ⟨rfl, ?_⟩
  unfold okPy PySem.SeqAt.shaped
  show (PyData.strOk z && true) = true
  rw [hz]; rfl
theorem eq_str {S : Sto} {d : D} {z : Str} (h : Ok S d) (hz : PyData.strOk z = true) : eqV (.d d) (.d (.str z)) S = .ok (decide (d = .str z)) S := by
  obtain ⟨h1, h2⟩ := v2_str (S := S) hz
  cases d with
  | tup xs =>
    obtain ⟨p, e1, e2, _, e3⟩ := ok_v2 h
    have ep : ∃ ps, p = .tuple ps := by
      have e2 : (allPy (toPy S 39) xs).map PyData.tuple = some p := e2
      obtain ⟨ps, _, e⟩ := Option.map_eq_some_iff.mp e2
      exact ⟨ps, e.symm⟩
    obtain ⟨ps, rfl⟩ := ep
    show eqData _ _ S = _
    rw [eqData_ok e1 h1 e3 h2]
    simp [PyData.eqv]
  | ref n =>
    obtain ⟨p, e1, e2, _, e3⟩ := ok_v2 h
    have ep : ∃ ps, p = .list ps := by
      have h : (match S[n]? with
        | some (.lst xs) => xs.all (ok S 29)
        | _ => false) = true := h
      unfold toPy at e2
      cases q : S[n]? with
      | none => rw [q] at h; cases h
      | some c =>
        rw [q] at h e2
        cases c with
        | lst ys =>
          dsimp only at e2
          obtain ⟨ps, _, e⟩ := Option.map_eq_some_iff.mp e2
          exact ⟨ps, e.symm⟩
        | _ => cases h
    obtain ⟨ps, rfl⟩ := ep
    show eqData _ _ S = _
    rw [eqData_ok e1 h1 e3 h2]
    simp [PyData.eqv]
  | _ => rfl
theorem eq_nil {S : Sto} {xs : List D} (h : Ok S (.tup xs)) : eqV (.d (.tup xs)) (.d (.tup [])) S = .ok (decide (xs = [])) S := by
  obtain ⟨p, e1, e2, _, e3⟩ := ok_v2 h
  have e2 : (allPy (toPy S 39) xs).map PyData.tuple = some p := e2
  obtain ⟨ps, e4, e⟩ := Option.map_eq_some_iff.mp e2
  subst e
  show eqData _ _ S = _
  rw [eqData_ok e1 (show v2Py (.d (.tup [])) S = .ok (.tuple []) S from rfl) e3 rfl]
  cases xs with
  | nil => cases e4; rfl
  | cons x xs =>
    unfold allPy at e4
    split at e4
    · cases e4; simp [PyData.eqv, PyData.eqvAll]
    · cases e4
theorem allPy_strs (f : D → Option PyData) (hf : ∀ z, f (.str z) = some (.str z)) : ∀ zs : List Str, allPy f (zs.map D.str) = some (zs.map PyData.str)
  | [] => rfl
  | z :: zs => by
    rw [List.map_cons]
    unfold allPy
    rw [hf z, allPy_strs f hf zs]
    rfl
theorem canLay_strs : ∀ {zs : List Str}, zs.all PyData.strOk = true → PyData.canLayAll0 (zs.map PyData.str) = true
  | [], _ => rfl
  | z :: zs, h => by
    rw [List.all_cons, Bool.and_eq_true] at h
    show (PyData.strOk z && PyData.canLayAll0 (zs.map PyData.str)) = true
    rw [h.1, canLay_strs h.2]; rfl
theorem depth_strs : ∀ (zs : List Str), PyData.depthAll (zs.map PyData.str) = 0
  | [] => rfl
  | z :: zs => by
    show max 0 (PyData.depthAll (zs.map PyData.str)) = 0
    rw [depth_strs zs]; rfl
theorem mem_str {S : Sto} {z : Str} {zs : List Str} (hz : PyData.strOk z = true) (hs : zs.all PyData.strOk = true) : memV (.d (.str z)) (zs.map D.str) S = .ok (decide (z ∈ zs)) S := by
  obtain ⟨h1, h2⟩ := v2_str (S := S) hz
  have h3 : v2Py (.l (zs.map D.str)) S = .ok (.list (zs.map PyData.str)) S := by
    unfold v2Py
    dsimp only
    rw [allPy_strs (toPy S deep) (fun _ => rfl)]
  have h4 : okPy (.list (zs.map PyData.str)) = true := by
    unfold okPy PySem.SeqAt.shaped
    have e : (PyData.list (zs.map PyData.str)).depth = 1 := by
      show PyData.depthAll (zs.map PyData.str) + 1 = 1
      rw [depth_strs]
    rw [e]
    show (PyData.canLayAll0 (zs.map PyData.str) && _) = true
    rw [canLay_strs hs]; rfl
  unfold memV
  rw [bind_ap, h1]
  dsimp only
  rw [bind_ap, h3]
  dsimp only
  rw [h2, h4]
  show Res.ok ((zs.map PyData.str).any fun x => PyData.eqv x (.str z)) S = _
  congr 1
  rw [List.any_map]
  clear h3 h4 hs
  induction zs with
  | nil => rfl
  | cons y ys ih =>
    rw [List.any_cons, ih]
    show (y == z || _) = _
    by_cases e : y = z
    · subst e; simp
    · have : (y == z) = false := beq_eq_false_iff_ne.mpr e
      rw [this]
      simp [Ne.symm e]
end Mi

-- K61D
set_option Elab.async false
set_option linter.all false
set_option maxRecDepth 100000
namespace Mi.K61
open PySem (Str PyData)
open Mi
/-- slots: 0=value -/
def F.is_integer : Fn := ⟨["value"], 1, (.cons (.ret (.and (.cons (.isi (.var 0) [.int]) (.cons (.not (.isi (.var 0) [.bool])) .nil)))) .nil)⟩
/-- slots: 0=value -/
def F.is_count : Fn := ⟨["value"], 1, (.cons (.ret (.and (.cons (.call "is_integer" (.cons (.var 0) .nil) [] .nil) (.cons (.cmp .ge (.var 0) (.int 0)) .nil)))) .nil)⟩
/-- slots: 0=value 1=most -/
def F.is_amount : Fn := ⟨["value", "most"], 2, (.cons (.ret (.and (.cons (.call "is_integer" (.cons (.var 0) .nil) [] .nil) (.cons (.cmp2 .le .le (.neg (.var 1)) (.var 0) (.var 1)) .nil)))) .nil)⟩
/-- slots: 0=values 1=one 2=other -/
def F.is_rising : Fn := ⟨["values"], 3, (.cons (.ret (.blt .all (.cons (.lc (.cmp .lt (.var 1) (.var 2)) (.tup (.cons (.name 1) (.cons (.name 2) .nil))) (.zip (.var 0) (.slc (.var 0) (.some (.int 1)) .none)) .none [1, 2]) .nil))) .nil)⟩
/-- slots: 0=value 1=many -/
def F.is_tuple_of : Fn := ⟨["value", "many"], 2, (.cons (.ret (.and (.cons (.isi (.var 0) [.tuple]) (.cons (.cmp .eq (.blt .len (.cons (.var 0) .nil)) (.var 1)) .nil)))) .nil)⟩
/-- slots: 0=value 1=many 2=term -/
def F.is_sum_of : Fn := ⟨["value", "many"], 3, (.cons (.ife (.or (.cons (.not (.call "is_tuple_of" (.cons (.var 0) (.cons (.int 2) .nil)) [] .nil)) (.cons (.not (.call "is_amount" (.cons (.idx (.var 0) (.int 0)) (.cons (.glb "MOST_AMOUNT") .nil)) [] .nil)) (.cons (.not (.isi (.idx (.var 0) (.int 1)) [.tuple])) .nil)))) (.cons (.ret (.bl false)) .nil) .nil) (.cons (.forr (.name 2) (.val (.idx (.var 0) (.int 1))) (.cons (.ife (.or (.cons (.not (.call "is_tuple_of" (.cons (.var 2) (.cons (.int 2) .nil)) [] .nil)) (.cons (.not (.call "is_count" (.cons (.idx (.var 2) (.int 0)) .nil) [] .nil)) (.cons (.cmp .ge (.idx (.var 2) (.int 0)) (.var 1)) .nil)))) (.cons (.ret (.bl false)) .nil) .nil) (.cons (.ife (.or (.cons (.not (.call "is_amount" (.cons (.idx (.var 2) (.int 1)) (.cons (.glb "MOST_AMOUNT") .nil)) [] .nil)) (.cons (.cmp .eq (.idx (.var 2) (.int 1)) (.int 0)) .nil))) (.cons (.ret (.bl false)) .nil) .nil) .nil))) (.cons (.ret (.call "is_rising" (.cons (.lc (.idx (.var 2) (.int 0)) (.name 2) (.val (.idx (.var 0) (.int 1))) .none [2]) .nil) [] .nil)) .nil)))⟩
/-- slots: 0=value 1=many -/
def F.is_below : Fn := ⟨["value", "many"], 2, (.cons (.ret (.and (.cons (.call "is_count" (.cons (.var 0) .nil) [] .nil) (.cons (.cmp .lt (.var 0) (.var 1)) .nil)))) .nil)⟩
/-- slots: 0=value 1=many 2=one -/
def F.are_sums : Fn := ⟨["value", "many"], 3, (.cons (.ife (.or (.cons (.not (.isi (.var 0) [.tuple])) (.cons (.cmp .gt (.blt .len (.cons (.var 0) .nil)) (.blt .min (.cons (.glb "MOST_SUMS") (.cons (.var 1) .nil)))) .nil))) (.cons (.ret (.bl false)) .nil) .nil) (.cons (.ret (.blt .all (.cons (.lc (.call "is_sum_of" (.cons (.var 2) (.cons (.var 1) .nil)) [] .nil) (.name 2) (.val (.var 0)) .none [2]) .nil))) .nil))⟩
/-- slots: 0=value 1=many 2=size 3=word -/
def F.is_instruction : Fn := ⟨["value", "many", "size"], 4, (.cons (.ife (.or (.cons (.not (.isi (.var 0) [.tuple])) (.cons (.cmp .eq (.var 0) (.tup .nil)) (.cons (.not (.isi (.idx (.var 0) (.int 0)) [.str])) .nil)))) (.cons (.ret (.bl false)) .nil) .nil) (.cons (.asg (.name 3) (.idx (.var 0) (.int 0))) (.cons (.ife (.cmp .mem (.var 3) (.tup (.cons (.str "leave") (.cons (.str "back") .nil)))) (.cons (.ret (.cmp .eq (.blt .len (.cons (.var 0) .nil)) (.int 1))) .nil) .nil) (.cons (.ife (.cmp .mem (.var 3) (.glb "WITH_SUMS")) (.cons (.ret (.and (.cons (.cmp .eq (.blt .len (.cons (.var 0) .nil)) (.int 3)) (.cons (.call "is_below" (.cons (.idx (.var 0) (.int 1)) (.cons (.var 2) .nil)) [] .nil) (.cons (.call "are_sums" (.cons (.idx (.var 0) (.int 2)) (.cons (.var 1) .nil)) [] .nil) .nil))))) .nil) .nil) (.cons (.ife (.cmp .eq (.var 3) (.str "set")) (.cons (.ret (.and (.cons (.cmp .eq (.blt .len (.cons (.var 0) .nil)) (.int 3)) (.cons (.call "is_below" (.cons (.idx (.var 0) (.int 1)) (.cons (.var 1) .nil)) [] .nil) (.cons (.call "is_sum_of" (.cons (.idx (.var 0) (.int 2)) (.cons (.var 1) .nil)) [] .nil) .nil))))) .nil) .nil) (.cons (.ife (.cmp .ne (.blt .len (.cons (.var 0) .nil)) (.int 2)) (.cons (.ret (.bl false)) .nil) .nil) (.cons (.ife (.cmp .eq (.var 3) (.str "stop")) (.cons (.ret (.call "is_below" (.cons (.idx (.var 0) (.int 1)) (.cons (.bin .add (.glb "MOST_MARK") (.int 1)) .nil)) [] .nil)) .nil) .nil) (.cons (.ife (.cmp .eq (.var 3) (.str "read")) (.cons (.ret (.or (.cons (.cmp .is (.idx (.var 0) (.int 1)) .non) (.cons (.call "is_below" (.cons (.idx (.var 0) (.int 1)) (.cons (.var 1) .nil)) [] .nil) .nil)))) .nil) .nil) (.cons (.ife (.cmp .eq (.var 3) (.str "tell")) (.cons (.ret (.call "is_sum_of" (.cons (.idx (.var 0) (.int 1)) (.cons (.var 1) .nil)) [] .nil)) .nil) .nil) (.cons (.ret (.and (.cons (.cmp .mem (.var 3) (.glb "TO_ALONE")) (.cons (.call "is_below" (.cons (.idx (.var 0) (.int 1)) (.cons (.var 2) .nil)) [] .nil) .nil)))) .nil))))))))))⟩
/-- slots: 0=value 1=many 2=instructions 3=one -/
def F.is_line : Fn := ⟨["value"], 4, (.cons (.ife (.or (.cons (.not (.call "is_tuple_of" (.cons (.var 0) (.cons (.int 3) .nil)) [] .nil)) (.cons (.cmp .ne (.idx (.var 0) (.int 0)) (.str "line")) (.cons (.not (.call "is_below" (.cons (.idx (.var 0) (.int 1)) (.cons (.bin .add (.glb "MOST_SLOTS") (.int 1)) .nil)) [] .nil)) .nil)))) (.cons (.ret (.bl false)) .nil) .nil) (.cons (.asg (.tup (.cons (.name 1) (.cons (.name 2) .nil))) (.tup (.cons (.idx (.var 0) (.int 1)) (.cons (.idx (.var 0) (.int 2)) .nil)))) (.cons (.ife (.or (.cons (.not (.isi (.var 2) [.tuple])) (.cons (.not (.cmp2 .le .le (.int 1) (.blt .len (.cons (.var 2) .nil)) (.glb "MOST_INSTRUCTIONS"))) .nil))) (.cons (.ret (.bl false)) .nil) .nil) (.cons (.ife (.not (.blt .all (.cons (.lc (.call "is_instruction" (.cons (.var 3) (.cons (.var 1) (.cons (.blt .len (.cons (.var 2) .nil)) .nil))) [] .nil) (.name 3) (.val (.var 2)) .none [3]) .nil))) (.cons (.ret (.bl false)) .nil) .nil) (.cons (.ret (.cmp .mem (.idx (.idx (.var 2) (.neg (.int 1))) (.int 0)) (.glb "ENDS"))) .nil)))))⟩
/-- slots: 0=value -/
def F._law_int : Fn := ⟨["value"], 1, (.cons (.ret (.and (.cons (.isi (.var 0) [.int]) (.cons (.not (.isi (.var 0) [.bool])) .nil)))) .nil)⟩
/-- slots: 0=script 1=k 2=cell -/
def F._law_pot : Fn := ⟨["script", "k"], 3, (.cons (.asg (.name 2) (.ite (.cmp .lt (.var 1) (.blt .len (.cons (.var 0) .nil))) (.blt .abs (.cons (.idx (.var 0) (.var 1)) .nil)) (.bin .add (.bin .mul (.int 2903) (.var 1)) (.int 1847)))) (.cons (.ret (.lst (.cons (.blt .max (.cons (.int 0) (.cons (.bin .sub (.var 2) (.bin .pow (.int 10) (.int 18))) .nil))) (.cons (.bin .add (.bin .mod (.blt .int (.cons (.bin .add (.bin .add (.bin .mul (.bin .mod (.blt .int (.cons (.var 2) .nil)) (.int 2147483549)) (.int 40014)) (.bin .mul (.int 40829) (.var 1))) (.int 5003)) .nil)) (.int 2147483563)) (.int 1)) .nil)))) .nil))⟩
/-- slots: 0=pot 1=many 2=digit -/
def F._law_draw : Fn := ⟨["pot", "many"], 3, (.cons (.ife (.cmp .gt (.idx (.var 0) (.int 0)) (.int 0)) (.cons (.asg (.tup (.cons (.sub (.var 0) (.int 0)) (.cons (.name 2) .nil))) (.blt .divmod (.cons (.idx (.var 0) (.int 0)) (.cons (.var 1) .nil)))) (.cons (.ret (.var 2)) .nil)) .nil) (.cons (.asg (.sub (.var 0) (.int 1)) (.bin .mod (.blt .int (.cons (.bin .add (.bin .mul (.idx (.var 0) (.int 1)) (.int 40692)) (.int 40829)) .nil)) (.int 2147483563))) (.cons (.ret (.bin .mod (.blt .int (.cons (.bin .fdiv (.bin .mod (.blt .int (.cons (.bin .mul (.idx (.var 0) (.int 1)) (.idx (.var 0) (.int 1))) .nil)) (.int 2147483549)) (.int 29)) .nil)) (.var 1))) .nil)))⟩
/-- slots: 0=pot 1=some -/
def F._law_pick : Fn := ⟨["pot", "some"], 2, (.cons (.ret (.idx (.var 1) (.call "_law_draw" (.cons (.var 0) (.cons (.blt .len (.cons (.var 1) .nil)) .nil)) [] .nil))) .nil)⟩
/-- slots: 0=pot -/
def F._law_number : Fn := ⟨["pot"], 1, (.cons (.ret (.call "_law_pick" (.cons (.var 0) (.cons (.lst (.cons (.int 0) (.cons (.int 1) (.cons (.neg (.int 1)) (.cons (.int 2) (.cons (.int 3) (.cons (.int 63) (.cons (.int 64) (.cons (.neg (.int 64)) (.cons (.neg (.int 65)) (.cons (.int 8191) (.cons (.int 8192) (.cons (.neg (.int 8193)) (.cons (.bin .pow (.int 10) (.int 9)) (.cons (.neg (.bin .pow (.int 10) (.int 9))) (.cons (.bin .sub (.call "_law_draw" (.cons (.var 0) (.cons (.int 2001) .nil)) [] .nil) (.int 1000)) .nil)))))))))))))))) .nil)) [] .nil)) .nil)⟩
/-- slots: 0=pot 1=many 2=terms 3=slot 4=times -/
def F._law_sum : Fn := ⟨["pot", "many"], 5, (.cons (.asg (.name 2) (.lst .nil)) (.cons (.forr (.name 3) (.rng1 (.var 1)) (.cons (.asg (.name 4) (.ite (.cmp .eq (.call "_law_draw" (.cons (.var 0) (.cons (.int 3) .nil)) [] .nil) (.int 0)) (.call "_law_number" (.cons (.var 0) .nil) [] .nil) (.int 0))) (.cons (.ife (.cmp .ne (.var 4) (.int 0)) (.cons (.exp (.mth .append (.var 2) (.cons (.tup (.cons (.var 3) (.cons (.var 4) .nil))) .nil))) .nil) .nil) .nil))) (.cons (.ret (.tup (.cons (.call "_law_number" (.cons (.var 0) .nil) [] .nil) (.cons (.blt .tuple (.cons (.var 2) .nil)) .nil)))) .nil)))⟩
/-- slots: 0=pot 1=many 2=size 3=is_last 4=words 5=word 6=turn -/
def F._law_instruction : Fn := ⟨["pot", "many", "size", "is_last"], 7, (.cons (.asg (.name 4) (.lst (.cons (.str "go") (.cons (.str "jump") (.cons (.str "leave") (.cons (.str "back") (.cons (.str "stop") .nil))))))) (.cons (.ife (.not (.var 3)) (.cons (.asg (.name 4) (.bin .add (.bin .add (.var 4) (.lst (.cons (.str "read") (.cons (.str "tell") (.cons (.str "test") (.cons (.str "share") (.cons (.str "call") (.cons (.str "read") (.cons (.str "tell") (.cons (.str "test") .nil)))))))))) (.ite (.cmp .gt (.var 1) (.int 0)) (.lst (.cons (.str "set") (.cons (.str "set") .nil))) (.lst .nil)))) .nil) .nil) (.cons (.asg (.name 5) (.call "_law_pick" (.cons (.var 0) (.cons (.var 4) .nil)) [] .nil)) (.cons (.ife (.cmp .mem (.var 5) (.tup (.cons (.str "leave") (.cons (.str "back") .nil)))) (.cons (.ret (.tup (.cons (.var 5) .nil))) .nil) .nil) (.cons (.ife (.cmp .eq (.var 5) (.str "stop")) (.cons (.ret (.tup (.cons (.var 5) (.cons (.call "_law_pick" (.cons (.var 0) (.cons (.lst (.cons (.int 0) (.cons (.int 1) (.cons (.int 127) (.cons (.int 128) (.cons (.int 999) (.cons (.call "_law_draw" (.cons (.var 0) (.cons (.int 1000) .nil)) [] .nil) .nil))))))) .nil)) [] .nil) .nil)))) .nil) .nil) (.cons (.ife (.cmp .eq (.var 5) (.str "read")) (.cons (.ret (.tup (.cons (.var 5) (.cons (.ite (.or (.cons (.cmp .eq (.var 1) (.int 0)) (.cons (.cmp .eq (.call "_law_draw" (.cons (.var 0) (.cons (.int 3) .nil)) [] .nil) (.int 0)) .nil))) .non (.call "_law_draw" (.cons (.var 0) (.cons (.var 1) .nil)) [] .nil)) .nil)))) .nil) .nil) (.cons (.ife (.cmp .eq (.var 5) (.str "set")) (.cons (.ret (.tup (.cons (.var 5) (.cons (.call "_law_draw" (.cons (.var 0) (.cons (.var 1) .nil)) [] .nil) (.cons (.call "_law_sum" (.cons (.var 0) (.cons (.var 1) .nil)) [] .nil) .nil))))) .nil) .nil) (.cons (.ife (.cmp .eq (.var 5) (.str "tell")) (.cons (.ret (.tup (.cons (.var 5) (.cons (.call "_law_sum" (.cons (.var 0) (.cons (.var 1) .nil)) [] .nil) .nil)))) .nil) .nil) (.cons (.ife (.cmp .mem (.var 5) (.tup (.cons (.str "call") (.cons (.str "jump") .nil)))) (.cons (.ret (.tup (.cons (.var 5) (.cons (.call "_law_draw" (.cons (.var 0) (.cons (.var 2) .nil)) [] .nil) (.cons (.blt .tuple (.cons (.lc (.call "_law_sum" (.cons (.var 0) (.cons (.var 1) .nil)) [] .nil) (.name 6) (.rng1 (.call "_law_draw" (.cons (.var 0) (.cons (.bin .add (.blt .min (.cons (.int 4) (.cons (.var 1) .nil))) (.int 1)) .nil)) [] .nil)) .none [6]) .nil)) .nil))))) .nil) .nil) (.cons (.ret (.tup (.cons (.var 5) (.cons (.call "_law_draw" (.cons (.var 0) (.cons (.var 2) .nil)) [] .nil) .nil)))) .nil))))))))))⟩
/-- slots: 0=pot 1=most 2=many 3=size 4=at -/
def F._law_line : Fn := ⟨["pot", "most"], 5, (.cons (.asg (.tup (.cons (.name 2) (.cons (.name 3) .nil))) (.tup (.cons (.call "_law_pick" (.cons (.var 0) (.cons (.lst (.cons (.int 0) (.cons (.int 1) (.cons (.int 2) (.cons (.int 3) (.cons (.int 8) .nil)))))) .nil)) [] .nil) (.cons (.bin .add (.int 1) (.call "_law_draw" (.cons (.var 0) (.cons (.var 1) .nil)) [] .nil)) .nil)))) (.cons (.ret (.tup (.cons (.str "line") (.cons (.var 2) (.cons (.blt .tuple (.cons (.lc (.call "_law_instruction" (.cons (.var 0) (.cons (.var 2) (.cons (.var 3) (.cons (.cmp .eq (.var 4) (.bin .sub (.var 3) (.int 1))) .nil)))) [] .nil) (.name 4) (.rng1 (.var 3)) .none [4]) .nil)) .nil))))) .nil))⟩
/-- slots: 0=value 1=most -/
def F._law_is_count : Fn := ⟨["value", "most"], 2, (.cons (.ret (.and (.cons (.call "_law_int" (.cons (.var 0) .nil) [] .nil) (.cons (.cmp2 .le .le (.int 0) (.var 0) (.var 1)) .nil)))) .nil)⟩
/-- slots: 0=value 1=many 2=last 3=term -/
def F._law_is_sum : Fn := ⟨["value", "many"], 4, (.cons (.ife (.or (.cons (.not (.isi (.var 0) [.tuple])) (.cons (.cmp .ne (.blt .len (.cons (.var 0) .nil)) (.int 2)) (.cons (.not (.call "_law_int" (.cons (.idx (.var 0) (.int 0)) .nil) [] .nil)) (.cons (.cmp .gt (.blt .abs (.cons (.idx (.var 0) (.int 0)) .nil)) (.bin .pow (.int 10) (.int 9))) (.cons (.not (.isi (.idx (.var 0) (.int 1)) [.tuple])) .nil)))))) (.cons (.ret (.bl false)) .nil) .nil) (.cons (.asg (.name 2) (.neg (.int 1))) (.cons (.forr (.name 3) (.val (.idx (.var 0) (.int 1))) (.cons (.ife (.or (.cons (.not (.isi (.var 3) [.tuple])) (.cons (.cmp .ne (.blt .len (.cons (.var 3) .nil)) (.int 2)) (.cons (.not (.call "_law_is_count" (.cons (.idx (.var 3) (.int 0)) (.cons (.bin .sub (.var 1) (.int 1)) .nil)) [] .nil)) (.cons (.cmp .le (.idx (.var 3) (.int 0)) (.var 2)) .nil))))) (.cons (.ret (.bl false)) .nil) .nil) (.cons (.ife (.or (.cons (.not (.call "_law_int" (.cons (.idx (.var 3) (.int 1)) .nil) [] .nil)) (.cons (.cmp .eq (.idx (.var 3) (.int 1)) (.int 0)) (.cons (.cmp .gt (.blt .abs (.cons (.idx (.var 3) (.int 1)) .nil)) (.bin .pow (.int 10) (.int 9))) .nil)))) (.cons (.ret (.bl false)) .nil) .nil) (.cons (.asg (.name 2) (.idx (.var 3) (.int 0))) .nil)))) (.cons (.ret (.bl true)) .nil))))⟩
/-- slots: 0=value 1=word 2=at 3=many 4=size 5=one -/
def F._law_is_part : Fn := ⟨["value", "word", "at", "many", "size"], 6, (.cons (.ife (.or (.cons (.and (.cons (.cmp .eq (.var 1) (.str "set")) (.cons (.cmp .eq (.var 2) (.int 2)) .nil))) (.cons (.cmp .eq (.var 1) (.str "tell")) .nil))) (.cons (.ret (.call "_law_is_sum" (.cons (.var 0) (.cons (.var 3) .nil)) [] .nil)) .nil) .nil) (.cons (.ife (.cmp .mem (.var 1) (.tup (.cons (.str "read") (.cons (.str "set") .nil)))) (.cons (.ret (.or (.cons (.and (.cons (.cmp .is (.var 0) .non) (.cons (.cmp .eq (.var 1) (.str "read")) .nil))) (.cons (.call "_law_is_count" (.cons (.var 0) (.cons (.bin .sub (.var 3) (.int 1)) .nil)) [] .nil) .nil)))) .nil) .nil) (.cons (.ife (.cmp .eq (.var 1) (.str "stop")) (.cons (.ret (.call "_law_is_count" (.cons (.var 0) (.cons (.int 999) .nil)) [] .nil)) .nil) .nil) (.cons (.ife (.cmp .eq (.var 2) (.int 1)) (.cons (.ret (.call "_law_is_count" (.cons (.var 0) (.cons (.bin .sub (.var 4) (.int 1)) .nil)) [] .nil)) .nil) .nil) (.cons (.ret (.and (.cons (.isi (.var 0) [.tuple]) (.cons (.cmp .le (.blt .len (.cons (.var 0) .nil)) (.blt .min (.cons (.int 4) (.cons (.var 3) .nil)))) (.cons (.blt .all (.cons (.lc (.call "_law_is_sum" (.cons (.var 5) (.cons (.var 3) .nil)) [] .nil) (.name 5) (.val (.var 0)) .none [5]) .nil)) .nil))))) .nil)))))⟩
/-- slots: 0=value 1=many 2=size 3=sizes 4=at 5=part -/
def F._law_is_instruction : Fn := ⟨["value", "many", "size"], 6, (.cons (.asg (.name 3) (.dic .k (.cons (.str "leave") (.cons (.int 1) (.cons (.str "back") (.cons (.int 1) (.cons (.str "stop") (.cons (.int 2) (.cons (.str "read") (.cons (.int 2) (.cons (.str "set") (.cons (.int 3) (.cons (.str "tell") (.cons (.int 2) (.cons (.str "test") (.cons (.int 2) (.cons (.str "go") (.cons (.int 2) (.cons (.str "share") (.cons (.int 2) (.cons (.str "call") (.cons (.int 3) (.cons (.str "jump") (.cons (.int 3) .nil)))))))))))))))))))))))) (.cons (.ife (.or (.cons (.not (.isi (.var 0) [.tuple])) (.cons (.cmp .eq (.var 0) (.tup .nil)) (.cons (.not (.isi (.idx (.var 0) (.int 0)) [.str])) (.cons (.cmp .ne (.blt .len (.cons (.var 0) .nil)) (.mth .get (.var 3) (.cons (.idx (.var 0) (.int 0)) (.cons (.int 0) .nil)))) .nil))))) (.cons (.ret (.bl false)) .nil) .nil) (.cons (.ret (.blt .all (.cons (.lc (.call "_law_is_part" (.cons (.var 5) (.cons (.idx (.var 0) (.int 0)) (.cons (.bin .add (.int 1) (.var 4)) (.cons (.var 1) (.cons (.var 2) .nil))))) [] .nil) (.tup (.cons (.name 4) (.cons (.name 5) .nil))) (.enum (.slc (.var 0) (.some (.int 1)) .none)) .none [4, 5]) .nil))) .nil)))⟩
/-- slots: 0=value 1=size 2=one -/
def F._law_due : Fn := ⟨["value"], 3, (.cons (.ife (.or (.cons (.not (.isi (.var 0) [.tuple])) (.cons (.cmp .ne (.blt .len (.cons (.var 0) .nil)) (.int 3)) (.cons (.cmp .ne (.idx (.var 0) (.int 0)) (.str "line")) (.cons (.not (.call "_law_is_count" (.cons (.idx (.var 0) (.int 1)) (.cons (.int 8) .nil)) [] .nil)) (.cons (.not (.isi (.idx (.var 0) (.int 2)) [.tuple])) .nil)))))) (.cons (.ret (.bl false)) .nil) .nil) (.cons (.asg (.name 1) (.blt .len (.cons (.idx (.var 0) (.int 2)) .nil))) (.cons (.ife (.or (.cons (.cmp .lt (.var 1) (.int 1)) (.cons (.cmp .gt (.var 1) (.int 1000)) (.cons (.not (.blt .all (.cons (.lc (.call "_law_is_instruction" (.cons (.var 2) (.cons (.idx (.var 0) (.int 1)) (.cons (.var 1) .nil))) [] .nil) (.name 2) (.val (.idx (.var 0) (.int 2))) .none [2]) .nil))) .nil)))) (.cons (.ret (.bl false)) .nil) .nil) (.cons (.ret (.cmp .mem (.idx (.idx (.idx (.var 0) (.int 2)) (.neg (.int 1))) (.int 0)) (.tup (.cons (.str "leave") (.cons (.str "back") (.cons (.str "stop") (.cons (.str "go") (.cons (.str "jump") .nil)))))))) .nil))))⟩
/-- slots: 0=pot 1=value 2=some -/
def F._law_other : Fn := ⟨["pot", "value"], 3, (.cons (.asg (.name 2) (.lst (.cons .non (.cons (.bl true) (.cons (.bl false) (.cons (.int 0) (.cons (.neg (.int 1)) (.cons (.var 1) (.cons (.lst .nil) (.cons (.tup .nil) (.cons (.str "go") (.cons (.str "line") (.cons (.str "read") (.cons (.int 8) (.cons (.int 9) (.cons (.bin .add (.bin .pow (.int 10) (.int 9)) (.int 1)) (.cons (.int 1000) (.cons (.tup (.cons (.int 0) (.cons (.tup .nil) .nil))) (.cons (.tup (.cons (.tup (.cons (.int 0) (.cons (.tup .nil) .nil))) .nil)) (.cons (.int 1) .nil)))))))))))))))))))) (.cons (.ife (.call "_law_int" (.cons (.var 1) .nil) [] .nil) (.cons (.asg (.name 2) (.bin .add (.var 2) (.lst (.cons (.bin .add (.var 1) (.int 1)) (.cons (.bin .sub (.var 1) (.int 1)) (.cons (.neg (.var 1)) (.cons (.bin .add (.var 1) (.int 1)) (.cons (.bin .sub (.var 1) (.int 1)) .nil)))))))) .nil) .nil) (.cons (.ife (.isi (.var 1) [.tuple]) (.cons (.asg (.name 2) (.bin .add (.var 2) (.lst (.cons (.blt .list (.cons (.var 1) .nil)) (.cons (.slc (.var 1) .none (.some (.neg (.int 1)))) (.cons (.bin .add (.var 1) (.tup (.cons (.int 0) .nil))) (.cons (.bin .add (.var 1) (.slc (.var 1) (.some (.neg (.int 1))) .none)) (.cons (.rev (.var 1)) .nil)))))))) .nil) .nil) (.cons (.ife (.isi (.var 1) [.str]) (.cons (.asg (.name 2) (.bin .add (.var 2) (.lst (.cons (.str "leave") (.cons (.str "back") (.cons (.str "tell") (.cons (.str "share") (.cons (.str "test") (.cons (.str "call") (.cons (.str "jump") (.cons (.bin .add (.var 1) (.str " ")) .nil))))))))))) .nil) .nil) (.cons (.ret (.call "_law_pick" (.cons (.var 0) (.cons (.var 2) .nil)) [] .nil)) .nil)))))⟩
/-- slots: 0=pot 1=value 2=deep 3=at -/
def F._law_bent : Fn := ⟨["pot", "value", "deep"], 4, (.cons (.ife (.or (.cons (.not (.isi (.var 1) [.tuple])) (.cons (.cmp .eq (.var 1) (.tup .nil)) (.cons (.cmp .eq (.var 2) (.int 0)) (.cons (.cmp .eq (.call "_law_draw" (.cons (.var 0) (.cons (.int 6) .nil)) [] .nil) (.int 0)) .nil))))) (.cons (.ret (.call "_law_other" (.cons (.var 0) (.cons (.var 1) .nil)) [] .nil)) .nil) .nil) (.cons (.asg (.name 3) (.call "_law_draw" (.cons (.var 0) (.cons (.blt .len (.cons (.var 1) .nil)) .nil)) [] .nil)) (.cons (.ret (.bin .add (.bin .add (.slc (.var 1) .none (.some (.var 3))) (.tup (.cons (.call "_law_bent" (.cons (.var 0) (.cons (.idx (.var 1) (.var 3)) (.cons (.bin .sub (.var 2) (.int 1)) .nil))) [] .nil) .nil))) (.slc (.var 1) (.some (.bin .add (.var 3) (.int 1))) .none))) .nil)))⟩
/-- slots: 0=pot 1=line 2=turn 3=bent 4=due 5=shown -/
def F._law_right : Fn := ⟨["pot"], 6, (.cons (.asg (.name 1) (.call "_law_line" (.cons (.var 0) (.cons (.int 9) .nil)) [] .nil)) (.cons (.ife (.or (.cons (.cmp .isn (.call "is_line" (.cons (.var 1) .nil) [] .nil) (.bl true)) (.cons (.cmp .isn (.call "is_line" .nil ["value"] (.cons (.var 1) .nil)) (.bl true)) .nil))) (.cons (.ret (.bl false)) .nil) .nil) (.cons (.forr (.name 2) (.rng1 (.int 24)) (.cons (.asg (.name 3) (.call "_law_bent" (.cons (.var 0) (.cons (.var 1) (.cons (.int 6) .nil))) [] .nil)) (.cons (.asg (.tup (.cons (.name 4) (.cons (.name 5) .nil))) (.tup (.cons (.call "_law_due" (.cons (.var 3) .nil) [] .nil) (.cons (.blt .repr (.cons (.var 3) .nil)) .nil)))) (.cons (.ife (.or (.cons (.cmp .ne (.blt .repr (.cons (.call "is_line" (.cons (.var 3) .nil) [] .nil) .nil)) (.blt .repr (.cons (.var 4) .nil))) (.cons (.cmp .ne (.blt .repr (.cons (.var 3) .nil)) (.var 5)) .nil))) (.cons (.ret (.bl false)) .nil) .nil) .nil)))) (.cons (.ret (.bl true)) .nil))))⟩
/-- slots: 0=script 1=k -/
def F.law : Fn := ⟨["script"], 2, (.cons (.ret (.blt .all (.cons (.lc (.call "_law_right" (.cons (.call "_law_pot" (.cons (.var 0) (.cons (.var 1) .nil)) [] .nil) .nil) [] .nil) (.name 1) (.rng1 (.blt .max (.cons (.int 1) (.cons (.blt .min (.cons (.int 2) (.cons (.blt .len (.cons (.var 0) .nil)) .nil))) .nil)))) .none [1]) .nil))) .nil)⟩
def globs : List (Str × D) := [("MOST_AMOUNT", (.int 1000000000)), ("MOST_INSTRUCTIONS", (.int 1000)), ("MOST_MARK", (.int 999)), ("MOST_SLOTS", (.int 8)), ("MOST_SUMS", (.int 4)), ("ENDS", (.tup [(.str "leave"), (.str "back"), (.str "stop"), (.str "go"), (.str "jump")])), ("TO_ALONE", (.tup [(.str "test"), (.str "go"), (.str "share")])), ("WITH_SUMS", (.tup [(.str "call"), (.str "jump")]))]

def tab : List (Str × Fn) := [("is_integer", F.is_integer), ("is_count", F.is_count), ("is_amount", F.is_amount), ("is_rising", F.is_rising), ("is_tuple_of", F.is_tuple_of), ("is_sum_of", F.is_sum_of), ("is_below", F.is_below), ("are_sums", F.are_sums), ("is_instruction", F.is_instruction), ("is_line", F.is_line), ("_law_int", F._law_int), ("_law_pot", F._law_pot), ("_law_draw", F._law_draw), ("_law_pick", F._law_pick), ("_law_number", F._law_number), ("_law_sum", F._law_sum), ("_law_instruction", F._law_instruction), ("_law_line", F._law_line), ("_law_is_count", F._law_is_count), ("_law_is_sum", F._law_is_sum), ("_law_is_part", F._law_is_part), ("_law_is_instruction", F._law_is_instruction), ("_law_due", F._law_due), ("_law_other", F._law_other), ("_law_bent", F._law_bent), ("_law_right", F._law_right), ("law", F.law)]
def P : Prog := ⟨fun f => tab.lookup f, fun x => globs.lookup x⟩
theorem h_is_integer : P.fn "is_integer" = some F.is_integer := by rfl
theorem h_is_count : P.fn "is_count" = some F.is_count := by rfl
theorem h_is_amount : P.fn "is_amount" = some F.is_amount := by rfl
theorem h_is_rising : P.fn "is_rising" = some F.is_rising := by rfl
theorem h_is_tuple_of : P.fn "is_tuple_of" = some F.is_tuple_of := by rfl
theorem h_is_sum_of : P.fn "is_sum_of" = some F.is_sum_of := by rfl
theorem h_is_below : P.fn "is_below" = some F.is_below := by rfl
theorem h_are_sums : P.fn "are_sums" = some F.are_sums := by rfl
theorem h_is_instruction : P.fn "is_instruction" = some F.is_instruction := by rfl
theorem h_is_line : P.fn "is_line" = some F.is_line := by rfl
theorem h__law_int : P.fn "_law_int" = some F._law_int := by rfl
theorem h__law_pot : P.fn "_law_pot" = some F._law_pot := by rfl
theorem h__law_draw : P.fn "_law_draw" = some F._law_draw := by rfl
theorem h__law_pick : P.fn "_law_pick" = some F._law_pick := by rfl
theorem h__law_number : P.fn "_law_number" = some F._law_number := by rfl
theorem h__law_sum : P.fn "_law_sum" = some F._law_sum := by rfl
theorem h__law_instruction : P.fn "_law_instruction" = some F._law_instruction := by rfl
theorem h__law_line : P.fn "_law_line" = some F._law_line := by rfl
theorem h__law_is_count : P.fn "_law_is_count" = some F._law_is_count := by rfl
theorem h__law_is_sum : P.fn "_law_is_sum" = some F._law_is_sum := by rfl
theorem h__law_is_part : P.fn "_law_is_part" = some F._law_is_part := by rfl
theorem h__law_is_instruction : P.fn "_law_is_instruction" = some F._law_is_instruction := by rfl
theorem h__law_due : P.fn "_law_due" = some F._law_due := by rfl
theorem h__law_other : P.fn "_law_other" = some F._law_other := by rfl
theorem h__law_bent : P.fn "_law_bent" = some F._law_bent := by rfl
theorem h__law_right : P.fn "_law_right" = some F._law_right := by rfl
theorem h_law : P.fn "law" = some F.law := by rfl
theorem g_MOST_AMOUNT : P.glob "MOST_AMOUNT" = some (.int 1000000000) := by rfl
theorem g_MOST_INSTRUCTIONS : P.glob "MOST_INSTRUCTIONS" = some (.int 1000) := by rfl
theorem g_MOST_MARK : P.glob "MOST_MARK" = some (.int 999) := by rfl
theorem g_MOST_SLOTS : P.glob "MOST_SLOTS" = some (.int 8) := by rfl
theorem g_MOST_SUMS : P.glob "MOST_SUMS" = some (.int 4) := by rfl
theorem g_ENDS : P.glob "ENDS" = some (.tup [(.str "leave"), (.str "back"), (.str "stop"), (.str "go"), (.str "jump")]) := by rfl
theorem g_TO_ALONE : P.glob "TO_ALONE" = some (.tup [(.str "test"), (.str "go"), (.str "share")]) := by rfl
theorem g_WITH_SUMS : P.glob "WITH_SUMS" = some (.tup [(.str "call"), (.str "jump")]) := by rfl
end Mi.K61

-- W2
set_option Elab.async false
set_option linter.all false
set_option maxRecDepth 100000
set_option maxHeartbeats 1000000
namespace Mi.K61
open PySem (Str PyData)
open Mi
variable {w n : Nat} {S : Sto}
theorem ite_pp {p : Prop} [Decidable p] : (if p then (pure true : M Bool) else pure false) = pure (decide p) := by
  by_cases h : p <;> simp [h]
theorem ite_ap {α : Type} {p : Prop} [Decidable p] (a b : M α) (S : Sto) : (if p then a else b) S = if p then a S else b S := by
  by_cases h : p <;> simp [h]
def isI : D → Bool
  | .int _ => true
  | _ => false
/-- how isinstance sees it -/
theorem isi_ok {d : D} (h : Ok S d) (t : Ty) : isiV (.d d) [t] S = .ok (match d, t with
  | .bl _, .bool => true | .bl _, .int => true | .int _, .int => true | .str _, .str => true | .tup _, .tuple => true | .ref _, .list => true | _, _ => false) S := by
  cases d with
  | ref a =>
    have h : (match S[a]? with
      | some (.lst xs) => xs.all (ok S 29)
      | _ => false) = true := h
    cases q : S[a]? with
    | none => rw [q] at h; cases h
    | some c =>
      rw [q] at h
      cases c with
      | lst ys =>
        unfold isiV isAny isTy
        dsimp only
        rw [q]
        cases t <;> rfl
      | _ => cases h
  | _ => cases t <;> rfl
theorem is_integer_ev {d : D} (h : Ok S d) : callF P w (n + 1) "is_integer" [d] [] [] S = .ok (.d (.bl (isI d))) S := by
  rw [callF_pos h_is_integer (by decide) rfl]
  have h1 := isi_ok h .int
  have h2 := isi_ok h .bool
  cases d <;> simp [F.is_integer, exs, ex, ev, evAnd, bind_ap, pure_ap, ite_pp, Rho.get, enter, h1, h2, truth, fin, tidy_bl, isI]
theorem law_int_ev {d : D} (h : Ok S d) : callF P w (n + 1) "_law_int" [d] [] [] S = .ok (.d (.bl (isI d))) S := by
  rw [callF_pos h__law_int (by decide) rfl]
  have h1 := isi_ok h .int
  have h2 := isi_ok h .bool
  cases d <;> simp [F._law_int, exs, ex, ev, evAnd, bind_ap, pure_ap, ite_pp, Rho.get, enter, h1, h2, truth, fin, tidy_bl, isI]
def cnt : D → Bool
  | .int i => decide (0 ≤ i)
  | _ => false
theorem is_count_ev {d : D} (h : Ok S d) : callF P w (n + 2) "is_count" [d] [] [] S = .ok (.d (.bl (cnt d))) S := by
  rw [callF_pos h_is_count (by decide) rfl]
  have h1 := is_integer_ev (w := w) (n := n) h
  cases d <;> simp [F.is_count, exs, ex, ev, evD, toD, evAnd, bind_ap, pure_ap, ite_pp, Rho.get, enter, h1, truth, fin, tidy_bl, isI, cnt, cmpV, cmpInt, cmpI, orBad]
def amt (m : Int) : D → Bool
  | .int i => decide (-m ≤ i) && decide (i ≤ m)
  | _ => false
theorem is_amount_ev {d : D} {m : Int} (h : Ok S d) : callF P w (n + 2) "is_amount" [d, .int m] [] [] S = .ok (.d (.bl (amt m d))) S := by
  rw [callF_pos h_is_amount (by decide) rfl]
  have h1 := is_integer_ev (w := w) (n := n) h
  cases d with
  | int i => by_cases c : -m ≤ i <;> simp [F.is_amount, exs, ex, ev, evD, toD, evAnd, bind_ap, pure_ap, ite_pp, Rho.get, enter, h1, truth, fin, tidy_bl, isI, amt, cmpV, cmpInt, cmpI, orBad, c]
  | _ => simp [F.is_amount, exs, ex, ev, evD, toD, evAnd, bind_ap, pure_ap, ite_pp, Rho.get, enter, h1, truth, fin, tidy_bl, isI, amt, cmpV, cmpInt, cmpI, orBad]
def tupN (k : Int) : D → Bool
  | .tup xs => decide ((xs.length : Int) = k)
  | _ => false
theorem is_tuple_of_ev {d : D} {m : Int} (h : Ok S d) : callF P w (n + 1) "is_tuple_of" [d, .int m] [] [] S = .ok (.d (.bl (tupN m d))) S := by
  rw [callF_pos h_is_tuple_of (by decide) rfl]
  have h1 := isi_ok h .tuple
  cases d <;> simp [F.is_tuple_of, exs, ex, ev, evV, evAnd, bind_ap, pure_ap, ite_pp, Rho.get, enter, h1, truth, fin, tidy_bl, tupN, cmpV, eqV, scal, bltV, toSeq]
def bel (m : Int) : D → Bool
  | .int i => decide (0 ≤ i) && decide (i < m)
  | _ => false
theorem is_below_ev {d : D} {m : Int} (h : Ok S d) : callF P w (n + 3) "is_below" [d, .int m] [] [] S = .ok (.d (.bl (bel m d))) S := by
  rw [callF_pos h_is_below (by decide) rfl]
  have h1 := is_count_ev (w := w) (n := n) h
  cases d with
  | int i => by_cases c : 0 ≤ i <;> simp [F.is_below, exs, ex, ev, evD, toD, evAnd, bind_ap, pure_ap, ite_pp, Rho.get, enter, h1, truth, fin, tidy_bl, cnt, bel, cmpV, cmpInt, cmpI, orBad, c]
  | _ => simp [F.is_below, exs, ex, ev, evD, toD, evAnd, bind_ap, pure_ap, ite_pp, Rho.get, enter, h1, truth, fin, tidy_bl, cnt, bel, cmpV, cmpInt, cmpI, orBad]
theorem law_is_count_ev {d : D} {m : Int} (h : Ok S d) : callF P w (n + 2) "_law_is_count" [d, .int m] [] [] S = .ok (.d (.bl (bel (m + 1) d))) S := by
  rw [callF_pos h__law_is_count (by decide) rfl]
  have h1 := law_int_ev (w := w) (n := n) h
  cases d with
  | int i => by_cases c : 0 ≤ i <;> simp [F._law_is_count, exs, ex, ev, evD, toD, evAnd, bind_ap, pure_ap, ite_pp, Rho.get, enter, h1, truth, fin, tidy_bl, isI, bel, cmpV, cmpInt, cmpI, orBad, c, Int.lt_add_one_iff]
  | _ => simp [F._law_is_count, exs, ex, ev, evD, toD, evAnd, bind_ap, pure_ap, ite_pp, Rho.get, enter, h1, truth, fin, tidy_bl, isI, bel, cmpV, cmpInt, cmpI, orBad]
end Mi.K61

-- W3
set_option Elab.async false
set_option linter.all false
set_option maxRecDepth 100000
set_option maxHeartbeats 1000000
namespace Mi.K61
open PySem (Str PyData)
open Mi
variable {w n : Nat} {S : Sto}
/-! ### comprehensions, all -/
theorem compL_map {item : D → M (List D)} {g : D → List D} {wt : List (Nat × List D)} (hw : Src.ok wt S = true) : ∀ {items : List D}, (∀ x ∈ items, item x S = .ok (g x) S) → compL item wt items S = .ok (items.flatMap g) S
  | [], _ => by
    unfold compL
    rw [bind_ap]
    unfold watching
    rw [hw]
    rfl
  | x :: xs, h => by
    unfold compL
    rw [bind_ap]
    unfold watching
    rw [hw, if_pos rfl]
    dsimp only
    rw [bind_ap, h x List.mem_cons_self]
    dsimp only
    have ih := compL_map hw fun y hy => h y (List.mem_cons_of_mem _ hy)
    unfold watching at ih
    rw [bind_ap, ih]
    rfl
theorem bools_map {f : D → Bool} : ∀ xs : List D, bools (xs.flatMap fun x => [D.bl (f x)]) = some (xs.map f)
  | [] => rfl
  | x :: xs => by
    rw [List.flatMap_cons]
    show (bools (xs.flatMap fun x => [D.bl (f x)])).map (f x :: ·) = _
    rw [bools_map xs]; rfl
theorem all_id (f : D → Bool) (xs : List D) : (xs.map f).all id = xs.all f := by
  rw [List.all_map]; rfl
def lcItem (C : Cxt) (e : E) (t : T) (c : Oe) (own : List Nat) (ρ : Rho) (x : D) : M (List D) := do
  let ρ' ← asg C t x (wipe ρ own)
  let b ← evC C c ρ'
  if b then do let v ← ev C e ρ'; let y ← toD v; pure [y] else pure []
/-- a comprehension whose items change no cell -/
theorem ev_lc {C : Cxt} {e : E} {t : T} {it : It} {c : Oe} {own : List Nat} {ρ : Rho} {s : Src} {g : D → List D} (hi : evI C it ρ S = .ok s S) (hl : s.items.length ≤ most) (hw : Src.ok s.watch S = true)
    (h : ∀ x ∈ s.items, lcItem C e t c own ρ x S = .ok (g x) S) : ev C (.lc e t it c own) ρ S = .ok (.l (s.items.flatMap g)) S := by
  have h2 := compL_map (item := lcItem C e t c own ρ) hw h
  show (evI C it ρ >>= fun s => chk (decide (s.items.length ≤ most)) >>= fun _ => compL (lcItem C e t c own ρ) s.watch s.items >>= fun xs => (pure (V2.l xs) : M V2)) S = _
  rw [bind_ap, hi]
  dsimp only
  rw [bind_ap, decide_eq_true hl]
  show (compL (lcItem C e t c own ρ) s.watch s.items >>= fun xs => (pure (V2.l xs) : M V2)) S = _
  rw [bind_ap, h2]
  rfl
theorem ev_all {C : Cxt} {e : E} {t : T} {it : It} {c : Oe} {own : List Nat} {ρ : Rho} {s : Src} {f : D → Bool} (hi : evI C it ρ S = .ok s S) (hl : s.items.length ≤ most) (hw : Src.ok s.watch S = true)
    (h : ∀ x ∈ s.items, lcItem C e t c own ρ x S = .ok [D.bl (f x)] S) : ev C (.blt .all (.cons (.lc e t it c own) .nil)) ρ S = .ok (.d (.bl (s.items.all f))) S := by
  have h2 := ev_lc hi hl hw h
  show ((ev C (.lc e t it c own) ρ >>= fun v => (pure [] : M (List V2)) >>= fun vs => (pure (v :: vs) : M (List V2))) >>= bltV .all) S = _
  rw [bind_ap, bind_ap, h2]
  dsimp only
  rw [bind_ap, pure_ap]
  dsimp only
  rw [pure_ap]
  dsimp only
  show (orBad (bools (s.items.flatMap fun x => [D.bl (f x)])) >>= fun bs => (pure (V2.d (D.bl (bs.all id))) : M V2)) S = _
  rw [bools_map]
  show Res.ok (V2.d (D.bl ((s.items.map f).all id))) S = _
  rw [all_id]
theorem slc_ref (k : Nat) (lo hi : Option Int) (S : Sto) : slcV (.d (.ref k)) lo hi S = match listAt k S with
  | .ok xs S' => .ok (.l (cut xs lo hi)) S'
  | .exc x S' => .exc x S'
  | .bad => .bad := by
  show (listAt k >>= fun xs => (pure (V2.l (cut xs lo hi)) : M V2)) S = _
  rw [bind_ap]
  cases listAt k S <;> rfl
theorem slc_tup (xs : List D) (lo hi : Option Int) (S : Sto) : slcV (.d (.tup xs)) lo hi S = .ok (.d (.tup (cut xs lo hi))) S := rfl
def ltP : D → Bool
  | .tup [.int a, .int b] => decide (a < b)
  | _ => false
def rising (ns : List Int) : Bool := (zipD (ns.map D.int) ((ns.drop 1).map D.int)).all ltP
theorem zipD_ints : ∀ (as bs : List Int) (x : D), x ∈ zipD (as.map D.int) (bs.map D.int) → ∃ a b, x = .tup [.int a, .int b]
  | [], _, x, h => by unfold zipD at h; cases h
  | _ :: _, [], x, h => by unfold zipD at h; cases h
  | a :: as, b :: bs, x, h => by
    rw [List.map_cons, List.map_cons] at h
    unfold zipD at h
    rcases List.mem_cons.mp h with rfl | h
    · exact ⟨a, b, rfl⟩
    · exact zipD_ints as bs x h
theorem is_rising_ev {k : Nat} {ns : List Int} (hk : S[k]? = some (.lst (ns.map D.int))) (hl : ns.length ≤ 100000) : callF P w (n + 1) "is_rising" [.ref k] [] [] S = .ok (.d (.bl (rising ns))) S := by
  rw [callF_pos h_is_rising (by decide) rfl]
  have hla : listAt k S = .ok (ns.map D.int) S := by
    unfold listAt
    rw [hk]; rfl
  have hc : cut (ns.map D.int) (some 1) none = (ns.drop 1).map D.int := by
    unfold cut
    cases ns with
    | nil => rfl
    | cons a ns => simp [sIx]; rw [List.take_of_length_le]; simp
  have h1 := ev_all (C := ⟨P.glob, callF P w n, w⟩) (e := .cmp .lt (.var 1) (.var 2)) (t := .tup (.cons (.name 1) (.cons (.name 2) .nil))) (it := .zip (.var 0) (.slc (.var 0) (.some (.int 1)) .none)) (c := .none) (own := [1, 2]) (ρ := [some (.ref k), none, none])
    (s := ⟨zipD (ns.map D.int) ((ns.drop 1).map D.int), [(k, ns.map D.int)]⟩) (f := ltP) (S := S)
    (by simp [exs, ex, ev, evD, evV, evAnd, evOr, evO, evC, evI, asg, asgs, Ts.len, toD, ↓bind_ap, pure_ap, bad_ap, ite_pp, ite_ap, Rho.get, enter, truth, fin, tidy_bl, cmpV, cmpInt, cmpI, orBad, chk, chk_true, srcOf, Mi.wipe, bltV, toSeq, toL, toLm, idxV, idxSeq, ixAt, binV, sIx, isT, slc_ref, hla, hc]) (by show (zipD _ _).length ≤ most; rw [zipD_len]; simp [most]; omega) (by simp [Src.ok, hk, Cell.lst?]) (fun x hx => by
      obtain ⟨a, b, rfl⟩ := zipD_ints _ _ x hx
      simp [exs, ex, ev, evD, evV, evAnd, evOr, evO, evC, evI, asg, asgs, Ts.len, toD, ↓bind_ap, pure_ap, bad_ap, ite_pp, ite_ap, Rho.get, enter, truth, fin, tidy_bl, cmpV, cmpInt, cmpI, orBad, chk, chk_true, srcOf, Mi.wipe, bltV, toSeq, toL, toLm, idxV, idxSeq, ixAt, binV, sIx, isT, lcItem, ltP])
  simp [exs, ex, ev, evD, evV, evAnd, evOr, evO, evC, evI, asg, asgs, Ts.len, toD, ↓bind_ap, pure_ap, bad_ap, ite_pp, ite_ap, Rho.get, enter, truth, fin, tidy_bl, cmpV, cmpInt, cmpI, orBad, chk, chk_true, srcOf, Mi.wipe, bltV, toSeq, toL, toLm, idxV, idxSeq, ixAt, binV, sIx, isT, F.is_rising, ↓h1, rising]
end Mi.K61

-- W4
set_option Elab.async false
set_option linter.all false
set_option maxRecDepth 100000
set_option maxHeartbeats 4000000
namespace Mi.K61
open PySem (Str PyData)
open Mi
variable {w n : Nat} {S : Sto}
theorem oldOk_more (S G : Sto) : oldOk S (S ++ G) = true := by
  unfold oldOk
  rw [List.all_eq_true]
  intro i hi
  have h := List.mem_range.mp hi
  rw [List.getElem?_append_left h, List.getElem?_eq_getElem h]
  simp
theorem tidy_more (S G : Sto) (b : Bool) : tidy S (.d (.bl b)) (S ++ G) = .ok (.d (.bl b)) S := by
  unfold tidy
  rw [if_pos (oldOk_more S G)]
  simp [below]
theorem ok_more {S : Sto} (G : Sto) : ∀ {n : Nat} {d : D}, ok S n d = true → ok (S ++ G) n d = true
  | 0, d, h => by cases h
  | n + 1, .non, _ => rfl
  | n + 1, .bl _, _ => rfl
  | n + 1, .int _, h => h
  | n + 1, .str _, h => h
  | n + 1, .tup xs, h => by
    have h : xs.all (ok S n) = true := h
    show xs.all (ok (S ++ G) n) = true
    rw [List.all_eq_true] at h ⊢
    exact fun x hx => ok_more G (h x hx)
  | n + 1, .ref a, h => by
    have h : (match S[a]? with
      | some (.lst xs) => xs.all (ok S n)
      | _ => false) = true := h
    show (match (S ++ G)[a]? with
      | some (.lst xs) => xs.all (ok (S ++ G) n)
      | _ => false) = true
    cases q : S[a]? with
    | none => rw [q] at h; cases h
    | some c =>
      have ha : a < S.length := (List.getElem?_eq_some_iff.mp q).1
      rw [List.getElem?_append_left ha, q]
      rw [q] at h
      cases c with
      | lst xs =>
        dsimp only at h ⊢
        rw [List.all_eq_true] at h ⊢
        exact fun x hx => ok_more G (h x hx)
      | _ => cases h
def tOk (many : Int) : D → Bool
  | .tup [.int s, .int t] => decide (0 ≤ s) && decide (s < many) && amt 1000000000 (.int t) && decide (t ≠ 0)
  | _ => false
theorem step_ev {many : Int} {v o : Option D} {x : D} (hx : Ok S x) :
    exs ⟨P.glob, callF P w (n + 2), w⟩ (.cons (.ife (.or (.cons (.not (.call "is_tuple_of" (.cons (.var 2) (.cons (.int 2) .nil)) [] .nil)) (.cons (.not (.call "is_count" (.cons (.idx (.var 2) (.int 0)) .nil) [] .nil)) (.cons (.cmp .ge (.idx (.var 2) (.int 0)) (.var 1)) .nil)))) (.cons (.ret (.bl false)) .nil) .nil) (.cons (.ife (.or (.cons (.not (.call "is_amount" (.cons (.idx (.var 2) (.int 1)) (.cons (.glb "MOST_AMOUNT") .nil)) [] .nil)) (.cons (.cmp .eq (.idx (.var 2) (.int 1)) (.int 0)) .nil))) (.cons (.ret (.bl false)) .nil) .nil) .nil)) [v, some (.int many), some x] S =
      if tOk many x then .ok (.nx [v, some (.int many), some x]) S else .ok (.rt (.d (.bl false))) S := by
  have h1 := is_tuple_of_ev (w := w) (n := n + 1) (m := 2) hx
  cases x with
  | tup xs =>
    match xs, hx, h1 with
    | [], hx, h1 => simp [exs, ex, ev, evD, evV, evAnd, evOr, evO, evC, evI, asg, asgs, Ts.len, toD, ↓bind_ap, pure_ap, bad_ap, ite_pp, ite_ap, Rho.get, enter, truth, fin, tidy_bl, cmpV, cmpInt, cmpI, orBad, chk, chk_true, srcOf, Mi.wipe, bltV, toSeq, toL, toLm, idxV, idxSeq, ixAt, binV, sIx, isT, h1, tupN, tOk]
    | [a], hx, h1 => simp [exs, ex, ev, evD, evV, evAnd, evOr, evO, evC, evI, asg, asgs, Ts.len, toD, ↓bind_ap, pure_ap, bad_ap, ite_pp, ite_ap, Rho.get, enter, truth, fin, tidy_bl, cmpV, cmpInt, cmpI, orBad, chk, chk_true, srcOf, Mi.wipe, bltV, toSeq, toL, toLm, idxV, idxSeq, ixAt, binV, sIx, isT, h1, tupN, tOk]
    | a :: b :: c :: r, hx, h1 =>
      have e : ¬ ((((a :: b :: c :: r).length : Nat) : Int) = 2) := by simp; omega
      have h1 : callF P w (n + 2) "is_tuple_of" [.tup (a :: b :: c :: r), .int 2] [] [] S = .ok (.d (.bl false)) S := by rw [h1]; simp only [tupN, e]; rfl
      simp [exs, ex, ev, evD, evV, evAnd, evOr, evO, evC, evI, asg, asgs, Ts.len, toD, ↓bind_ap, pure_ap, bad_ap, ite_pp, ite_ap, Rho.get, enter, truth, fin, tidy_bl, cmpV, cmpInt, cmpI, orBad, chk, chk_true, srcOf, Mi.wipe, bltV, toSeq, toL, toLm, idxV, idxSeq, ixAt, binV, sIx, isT, h1, tOk]
    | [a, b], hx, h1 =>
      have ha := hx.tup a (by simp)
      have hb := hx.tup b (by simp)
      have h2 := is_count_ev (w := w) (n := n) ha
      have h3 := is_amount_ev (w := w) (n := n) (m := 1000000000) hb
      cases a with
      | int s =>
        by_cases c1 : 0 ≤ s
        · by_cases c2 : many ≤ s
          · have c3 : ¬ s < many := by omega
            have e : tOk many (.tup [.int s, b]) = false := by cases b <;> simp [tOk, c3]
            simp [exs, ex, ev, evD, evV, evAnd, evOr, evO, evC, evI, asg, asgs, Ts.len, toD, ↓bind_ap, pure_ap, bad_ap, ite_pp, ite_ap, Rho.get, enter, truth, fin, tidy_bl, cmpV, cmpInt, cmpI, orBad, chk, chk_true, srcOf, Mi.wipe, bltV, toSeq, toL, toLm, idxV, idxSeq, ixAt, binV, sIx, isT, h1, h2, tupN, cnt, c1, c2, c3, e]
          · have c3 : s < many := by omega
            cases b with
            | int t =>
              cases q : amt 1000000000 (.int t) with
              | false => simp [exs, ex, ev, evD, evV, evAnd, evOr, evO, evC, evI, asg, asgs, Ts.len, toD, ↓bind_ap, pure_ap, bad_ap, ite_pp, ite_ap, Rho.get, enter, truth, fin, tidy_bl, cmpV, cmpInt, cmpI, orBad, chk, chk_true, srcOf, Mi.wipe, bltV, toSeq, toL, toLm, idxV, idxSeq, ixAt, binV, sIx, isT, h1, h2, h3, g_MOST_AMOUNT, tupN, cnt, c1, c2, c3, tOk, q]
              | true =>
                by_cases c4 : t = 0
                · subst c4
                  simp [exs, ex, ev, evD, evV, evAnd, evOr, evO, evC, evI, asg, asgs, Ts.len, toD, ↓bind_ap, pure_ap, bad_ap, ite_pp, ite_ap, Rho.get, enter, truth, fin, tidy_bl, cmpV, cmpInt, cmpI, orBad, chk, chk_true, srcOf, Mi.wipe, bltV, toSeq, toL, toLm, idxV, idxSeq, ixAt, binV, sIx, isT, h1, h2, h3, g_MOST_AMOUNT, tupN, cnt, c1, c2, c3, tOk, q, eqV, scal]
                · simp [exs, ex, ev, evD, evV, evAnd, evOr, evO, evC, evI, asg, asgs, Ts.len, toD, ↓bind_ap, pure_ap, bad_ap, ite_pp, ite_ap, Rho.get, enter, truth, fin, tidy_bl, cmpV, cmpInt, cmpI, orBad, chk, chk_true, srcOf, Mi.wipe, bltV, toSeq, toL, toLm, idxV, idxSeq, ixAt, binV, sIx, isT, h1, h2, h3, g_MOST_AMOUNT, tupN, cnt, c1, c2, c3, c4, tOk, q, eqV, scal]
            | _ => simp [exs, ex, ev, evD, evV, evAnd, evOr, evO, evC, evI, asg, asgs, Ts.len, toD, ↓bind_ap, pure_ap, bad_ap, ite_pp, ite_ap, Rho.get, enter, truth, fin, tidy_bl, cmpV, cmpInt, cmpI, orBad, chk, chk_true, srcOf, Mi.wipe, bltV, toSeq, toL, toLm, idxV, idxSeq, ixAt, binV, sIx, isT, h1, h2, h3, g_MOST_AMOUNT, tupN, cnt, c1, c2, c3, tOk, amt]
        · have e : tOk many (.tup [.int s, b]) = false := by cases b <;> simp [tOk, c1]
          simp [exs, ex, ev, evD, evV, evAnd, evOr, evO, evC, evI, asg, asgs, Ts.len, toD, ↓bind_ap, pure_ap, bad_ap, ite_pp, ite_ap, Rho.get, enter, truth, fin, tidy_bl, cmpV, cmpInt, cmpI, orBad, chk, chk_true, srcOf, Mi.wipe, bltV, toSeq, toL, toLm, idxV, idxSeq, ixAt, binV, sIx, isT, h1, h2, tupN, cnt, c1, e]
      | _ => simp [exs, ex, ev, evD, evV, evAnd, evOr, evO, evC, evI, asg, asgs, Ts.len, toD, ↓bind_ap, pure_ap, bad_ap, ite_pp, ite_ap, Rho.get, enter, truth, fin, tidy_bl, cmpV, cmpInt, cmpI, orBad, chk, chk_true, srcOf, Mi.wipe, bltV, toSeq, toL, toLm, idxV, idxSeq, ixAt, binV, sIx, isT, h1, h2, tupN, cnt, tOk]
  | _ => simp [exs, ex, ev, evD, evV, evAnd, evOr, evO, evC, evI, asg, asgs, Ts.len, toD, ↓bind_ap, pure_ap, bad_ap, ite_pp, ite_ap, Rho.get, enter, truth, fin, tidy_bl, cmpV, cmpInt, cmpI, orBad, chk, chk_true, srcOf, Mi.wipe, bltV, toSeq, toL, toLm, idxV, idxSeq, ixAt, binV, sIx, isT, h1, tupN, tOk]

theorem watching_nil (S : Sto) : watching [] S = .ok () S := rfl
theorem forL_nx {body : D → Rho → M Fl} {x : D} {xs : List D} {ρ ρ' : Rho} {S S' : Sto} (h : body x ρ S = .ok (.nx ρ') S') : forL body [] (x :: xs) ρ S = forL body [] xs ρ' S' := by
  conv => lhs; unfold forL
  rw [bind_ap, watching_nil]
  dsimp only
  rw [bind_ap, h]
theorem forL_rt {body : D → Rho → M Fl} {x : D} {xs : List D} {ρ : Rho} {v : V2} {S S' : Sto} (h : body x ρ S = .ok (.rt v) S') : forL body [] (x :: xs) ρ S = .ok (.rt v) S' := by
  conv => lhs; unfold forL
  rw [bind_ap, watching_nil]
  dsimp only
  rw [bind_ap, h]
  rfl
/-- a loop that goes on while f holds, and returns r else -/
theorem forL_inv {body : D → Rho → M Fl} {I : Rho → Prop} {f : D → Bool} {r : V2} : ∀ {items : List D}, (∀ x ∈ items, ∀ ρ, I ρ → (f x = true → ∃ ρ', I ρ' ∧ body x ρ S = .ok (.nx ρ') S) ∧ (f x = false → body x ρ S = .ok (.rt r) S)) →
    ∀ ρ, I ρ → (items.all f = true → ∃ ρ', I ρ' ∧ forL body [] items ρ S = .ok (.nx ρ') S) ∧ (items.all f = false → forL body [] items ρ S = .ok (.rt r) S)
  | [], _, ρ, hi => And.intro (fun _ => ⟨ρ, hi, rfl⟩) (fun h => nomatch h)
  | x :: xs, hb, ρ, hi => by
    obtain ⟨b1, b2⟩ := hb x List.mem_cons_self ρ hi
    rw [List.all_cons]
    cases q : f x with
    | true =>
      obtain ⟨ρ1, i1, e1⟩ := b1 q
      rw [forL_nx e1, Bool.true_and]
      exact forL_inv (fun y hy => hb y (List.mem_cons_of_mem _ hy)) ρ1 i1
    | false => exact And.intro (fun h => nomatch h) (fun _ => forL_rt (b2 q))
abbrev sumBody : Ss := .cons (.ife (.or (.cons (.not (.call "is_tuple_of" (.cons (.var 2) (.cons (.int 2) .nil)) [] .nil)) (.cons (.not (.call "is_count" (.cons (.idx (.var 2) (.int 0)) .nil) [] .nil)) (.cons (.cmp .ge (.idx (.var 2) (.int 0)) (.var 1)) .nil)))) (.cons (.ret (.bl false)) .nil) .nil) (.cons (.ife (.or (.cons (.not (.call "is_amount" (.cons (.idx (.var 2) (.int 1)) (.cons (.glb "MOST_AMOUNT") .nil)) [] .nil)) (.cons (.cmp .eq (.idx (.var 2) (.int 1)) (.int 0)) .nil))) (.cons (.ret (.bl false)) .nil) .nil) .nil)
theorem sum_loop {many : Int} {v : Option D} {ts : List D} (o : Option D) (h : ∀ t ∈ ts, Ok S t) :
    (ts.all (tOk many) = true → ∃ ρ', (∃ o, ρ' = [v, some (.int many), o]) ∧ forL (fun x ρ' => do
      let ρ'' ← asg ⟨P.glob, callF P w (n + 2), w⟩ (.name 2) x ρ'
      exs ⟨P.glob, callF P w (n + 2), w⟩ sumBody ρ'') [] ts [v, some (.int many), o] S = .ok (.nx ρ') S) ∧
    (ts.all (tOk many) = false → forL (fun x ρ' => do
      let ρ'' ← asg ⟨P.glob, callF P w (n + 2), w⟩ (.name 2) x ρ'
      exs ⟨P.glob, callF P w (n + 2), w⟩ sumBody ρ'') [] ts [v, some (.int many), o] S = .ok (.rt (.d (.bl false))) S) := by
  refine forL_inv (I := fun ρ => ∃ o, ρ = [v, some (.int many), o]) (fun x hx ρ hρ => ?_) [v, some (.int many), o] ⟨o, rfl⟩
  obtain ⟨o, hρ⟩ := hρ
  subst hρ
  have h1 := step_ev (w := w) (n := n) (S := S) (many := many) (v := v) (o := o) (h x hx)
  refine ⟨fun q => ⟨_, ⟨some x, rfl⟩, ?_⟩, fun q => ?_⟩
  · rw [q, if_pos rfl] at h1
    exact h1
  · rw [q, if_neg Bool.false_ne_true] at h1
    exact h1
theorem flatMap_one {α β : Type} (f : α → β) : ∀ xs : List α, (xs.flatMap fun x => [f x]) = xs.map f
  | [] => rfl
  | x :: xs => by rw [List.flatMap_cons, flatMap_one f xs]; rfl
def fstI : D → Int
  | .tup (.int s :: _) => s
  | _ => 0
def termsOf : D → List D
  | .tup [_, .tup ts] => ts
  | _ => []
def sumB (many : Int) : D → Bool
  | .tup [a, .tup ts] => amt 1000000000 a && ts.all (tOk many) && rising (ts.map fstI)
  | _ => false
theorem is_sum_of_ev {d : D} {many : Int} (h : Ok S d) (hl : (termsOf d).length ≤ 100000) : callF P w (n + 3) "is_sum_of" [d, .int many] [] [] S = .ok (.d (.bl (sumB many d))) S := by
  rw [callF_pos h_is_sum_of (by decide) rfl]
  have h1 := is_tuple_of_ev (w := w) (n := n + 1) (m := 2) h
  cases d with
  | tup xs =>
    match xs, h, h1, hl with
    | [], h, h1, hl => simp [exs, ex, ev, evD, evV, evAnd, evOr, evO, evC, evI, asg, asgs, Ts.len, toD, ↓bind_ap, pure_ap, bad_ap, ite_pp, ite_ap, Rho.get, enter, truth, fin, tidy_bl, cmpV, cmpInt, cmpI, orBad, chk, chk_true, srcOf, Mi.wipe, bltV, toSeq, toL, toLm, idxV, idxSeq, ixAt, binV, sIx, isT, F.is_sum_of, h1, tupN, sumB]
    | [a], h, h1, hl => simp [exs, ex, ev, evD, evV, evAnd, evOr, evO, evC, evI, asg, asgs, Ts.len, toD, ↓bind_ap, pure_ap, bad_ap, ite_pp, ite_ap, Rho.get, enter, truth, fin, tidy_bl, cmpV, cmpInt, cmpI, orBad, chk, chk_true, srcOf, Mi.wipe, bltV, toSeq, toL, toLm, idxV, idxSeq, ixAt, binV, sIx, isT, F.is_sum_of, h1, tupN, sumB]
    | a :: b :: c :: r, h, h1, hl =>
      have e : ¬ ((((a :: b :: c :: r).length : Nat) : Int) = 2) := by simp; omega
      have h1 : callF P w (n + 2) "is_tuple_of" [.tup (a :: b :: c :: r), .int 2] [] [] S = .ok (.d (.bl false)) S := by rw [h1]; simp only [tupN, e]; rfl
      simp [exs, ex, ev, evD, evV, evAnd, evOr, evO, evC, evI, asg, asgs, Ts.len, toD, ↓bind_ap, pure_ap, bad_ap, ite_pp, ite_ap, Rho.get, enter, truth, fin, tidy_bl, cmpV, cmpInt, cmpI, orBad, chk, chk_true, srcOf, Mi.wipe, bltV, toSeq, toL, toLm, idxV, idxSeq, ixAt, binV, sIx, isT, F.is_sum_of, h1, sumB]
    | [a, b], h, h1, hl =>
      have ha := h.tup a (by simp)
      have hb := h.tup b (by simp)
      have h3 := is_amount_ev (w := w) (n := n) (m := 1000000000) ha
      have h4 := isi_ok hb .tuple
      cases q : amt 1000000000 a with
      | false =>
        rw [q] at h3
        have e : sumB many (.tup [a, b]) = false := by cases b <;> simp [sumB, q]
        simp [exs, ex, ev, evD, evV, evAnd, evOr, evO, evC, evI, asg, asgs, Ts.len, toD, ↓bind_ap, pure_ap, bad_ap, ite_pp, ite_ap, Rho.get, enter, truth, fin, tidy_bl, cmpV, cmpInt, cmpI, orBad, chk, chk_true, srcOf, Mi.wipe, bltV, toSeq, toL, toLm, idxV, idxSeq, ixAt, binV, sIx, isT, F.is_sum_of, h1, h3, tupN, g_MOST_AMOUNT, e]
      | true =>
        rw [q] at h3
        cases b with
        | tup ts =>
          obtain ⟨l1, l2⟩ := sum_loop (w := w) (n := n) (S := S) (many := many) (v := some (.tup [a, .tup ts])) (ts := ts) none hb.tup
          cases q2 : ts.all (tOk many) with
          | false =>
            have l2 := l2 q2
            simp [exs, ex, ev, evD, evV, evAnd, evOr, evO, evC, evI, asg, asgs, Ts.len, toD, ↓bind_ap, pure_ap, bad_ap, ite_pp, ite_ap, Rho.get, enter, truth, fin, tidy_bl, cmpV, cmpInt, cmpI, orBad, chk, chk_true, srcOf, Mi.wipe, bltV, toSeq, toL, toLm, idxV, idxSeq, ixAt, binV, sIx, isT, F.is_sum_of, h1, h3, h4, tupN, g_MOST_AMOUNT, sumB, q, q2, ↓l2]
          | true =>
            obtain ⟨_, ⟨o, rfl⟩, l1⟩ := l1 q2
            have hts : ∀ x ∈ ts, ∃ s t, x = .tup [.int s, .int t] := fun x hx => by
              have := List.all_eq_true.mp q2 x hx
              unfold tOk at this
              split at this
              · exact ⟨_, _, rfl⟩
              · cases this
            have h5 := ev_lc (C := ⟨P.glob, callF P w (n + 2), w⟩) (e := .idx (.var 2) (.int 0)) (t := .name 2) (it := .val (.idx (.var 0) (.int 1))) (c := .none) (own := [2]) (ρ := [some (.tup [a, .tup ts]), some (.int many), o]) (s := ⟨ts, []⟩) (g := fun x => [.int (fstI x)]) (S := S)
              (by simp [exs, ex, ev, evD, evV, evAnd, evOr, evO, evC, evI, asg, asgs, Ts.len, toD, ↓bind_ap, pure_ap, bad_ap, ite_pp, ite_ap, Rho.get, enter, truth, fin, tidy_bl, cmpV, cmpInt, cmpI, orBad, chk, chk_true, srcOf, Mi.wipe, bltV, toSeq, toL, toLm, idxV, idxSeq, ixAt, binV, sIx, isT]) (by show ts.length ≤ most; have : ts.length ≤ 100000 := hl; unfold most; omega) rfl (fun x hx => by
                obtain ⟨s, t, rfl⟩ := hts x hx
                simp [exs, ex, ev, evD, evV, evAnd, evOr, evO, evC, evI, asg, asgs, Ts.len, toD, ↓bind_ap, pure_ap, bad_ap, ite_pp, ite_ap, Rho.get, enter, truth, fin, tidy_bl, cmpV, cmpInt, cmpI, orBad, chk, chk_true, srcOf, Mi.wipe, bltV, toSeq, toL, toLm, idxV, idxSeq, ixAt, binV, sIx, isT, lcItem, fstI])
            have e5 : (ts.flatMap fun x => [D.int (fstI x)]) = ts.map (D.int ∘ fstI) := flatMap_one _ _
            have h6 := is_rising_ev (w := w) (n := n + 1) (S := S ++ [.lst ((ts.map fstI).map D.int)]) (k := S.length) (ns := ts.map fstI) (by simp) (by rw [List.length_map]; exact hl)
            have h7 := tidy_more S [.lst ((ts.map fstI).map D.int)]
            rw [List.map_map] at h6 h7
            simp [exs, ex, ev, evD, evV, evAnd, evOr, evO, evC, evI, asg, asgs, Ts.len, toD, ↓bind_ap, pure_ap, bad_ap, ite_pp, ite_ap, Rho.get, enter, truth, fin, tidy_bl, cmpV, cmpInt, cmpI, orBad, chk, chk_true, srcOf, Mi.wipe, bltV, toSeq, toL, toLm, idxV, idxSeq, ixAt, binV, sIx, isT, F.is_sum_of, h1, h3, h4, tupN, g_MOST_AMOUNT, sumB, q, q2, ↓l1, ↓h5, e5, alloc, h6, h7]
        | _ => simp [exs, ex, ev, evD, evV, evAnd, evOr, evO, evC, evI, asg, asgs, Ts.len, toD, ↓bind_ap, pure_ap, bad_ap, ite_pp, ite_ap, Rho.get, enter, truth, fin, tidy_bl, cmpV, cmpInt, cmpI, orBad, chk, chk_true, srcOf, Mi.wipe, bltV, toSeq, toL, toLm, idxV, idxSeq, ixAt, binV, sIx, isT, F.is_sum_of, h1, h3, h4, tupN, g_MOST_AMOUNT, sumB]
  | _ => simp [exs, ex, ev, evD, evV, evAnd, evOr, evO, evC, evI, asg, asgs, Ts.len, toD, ↓bind_ap, pure_ap, bad_ap, ite_pp, ite_ap, Rho.get, enter, truth, fin, tidy_bl, cmpV, cmpInt, cmpI, orBad, chk, chk_true, srcOf, Mi.wipe, bltV, toSeq, toL, toLm, idxV, idxSeq, ixAt, binV, sIx, isT, F.is_sum_of, h1, tupN, sumB]
end Mi.K61

-- W5
set_option Elab.async false
set_option linter.all false
set_option maxRecDepth 100000
set_option maxHeartbeats 4000000
namespace Mi.K61
open PySem (Str PyData)
open Mi
variable {w n : Nat} {S : Sto}
def lawT (many : Int) : Int → List D → Bool
  | _, [] => true
  | s, t :: r => tOk many t && decide (s < fstI t) && lawT many (fstI t) r
theorem rising_cons (a b : Int) (r : List Int) : rising (a :: b :: r) = (decide (a < b) && rising (b :: r)) := by
  unfold rising
  show (zipD (D.int a :: D.int b :: r.map D.int) (D.int b :: r.map D.int)).all ltP = _
  rw [show zipD (D.int a :: D.int b :: r.map D.int) (D.int b :: r.map D.int) = .tup [.int a, .int b] :: zipD (D.int b :: r.map D.int) (r.map D.int) from by rw [zipD]]
  rfl
theorem lawT_eq {many : Int} : ∀ (r : List D) (s : Int), lawT many s r = (r.all (tOk many) && rising (s :: r.map fstI))
  | [], s => rfl
  | t :: r, s => by
    unfold lawT
    rw [lawT_eq r, List.all_cons, List.map_cons, rising_cons]
    cases tOk many t <;> cases decide (s < fstI t) <;> simp
theorem lawT_neg {many : Int} (ts : List D) : lawT many (-1) ts = (ts.all (tOk many) && rising (ts.map fstI)) := by
  cases ts with
  | nil => rfl
  | cons t r =>
    unfold lawT
    rw [lawT_eq, List.all_cons, List.map_cons]
    cases q : tOk many t with
    | false => rfl
    | true =>
      have : -1 < fstI t := by
        unfold tOk at q
        split at q
        · simp only [Bool.and_eq_true, decide_eq_true_eq] at q
          show -1 < _
          have := q.1.1.1
          show -1 < _
          simp only [fstI]
          omega
        · cases q
      rw [decide_eq_true this]
      simp
theorem amt_abs (i : Int) : amt 1000000000 (.int i) = !decide (1000000000 < (if i < 0 then -i else i)) := by
  unfold amt
  by_cases h : i < 0
  · rw [if_pos h, Bool.eq_iff_iff]
    simp
    omega
  · rw [if_neg h, Bool.eq_iff_iff]
    simp
    omega
abbrev lawBody : Ss := .cons (.ife (.or (.cons (.not (.isi (.var 3) [.tuple])) (.cons (.cmp .ne (.blt .len (.cons (.var 3) .nil)) (.int 2)) (.cons (.not (.call "_law_is_count" (.cons (.idx (.var 3) (.int 0)) (.cons (.bin .sub (.var 1) (.int 1)) .nil)) [] .nil)) (.cons (.cmp .le (.idx (.var 3) (.int 0)) (.var 2)) .nil))))) (.cons (.ret (.bl false)) .nil) .nil) (.cons (.ife (.or (.cons (.not (.call "_law_int" (.cons (.idx (.var 3) (.int 1)) .nil) [] .nil)) (.cons (.cmp .eq (.idx (.var 3) (.int 1)) (.int 0)) (.cons (.cmp .gt (.blt .abs (.cons (.idx (.var 3) (.int 1)) .nil)) (.bin .pow (.int 10) (.int 9))) .nil)))) (.cons (.ret (.bl false)) .nil) .nil) (.cons (.asg (.name 2) (.idx (.var 3) (.int 0))) .nil))
theorem lstep_ev {many last : Int} {v : Option D} {x : D} (hx : Ok S x) :
    exs ⟨P.glob, callF P w (n + 2), w⟩ lawBody [v, some (.int many), some (.int last), some x] S =
      if tOk many x && decide (last < fstI x) then .ok (.nx [v, some (.int many), some (.int (fstI x)), some x]) S else .ok (.rt (.d (.bl false))) S := by
  have h0 := isi_ok hx .tuple
  cases x with
  | tup xs =>
    match xs, hx, h0 with
    | [], hx, h0 => simp [exs, ex, ev, evD, evV, evAnd, evOr, evO, evC, evI, asg, asgs, Ts.len, toD, ↓bind_ap, pure_ap, bad_ap, ite_pp, ite_ap, Rho.get, enter, truth, fin, tidy_bl, cmpV, cmpInt, cmpI, orBad, chk, chk_true, srcOf, Mi.wipe, bltV, toSeq, toL, toLm, idxV, idxSeq, ixAt, binV, sIx, isT, h0, tOk, eqV, scal]
    | [a], hx, h0 => simp [exs, ex, ev, evD, evV, evAnd, evOr, evO, evC, evI, asg, asgs, Ts.len, toD, ↓bind_ap, pure_ap, bad_ap, ite_pp, ite_ap, Rho.get, enter, truth, fin, tidy_bl, cmpV, cmpInt, cmpI, orBad, chk, chk_true, srcOf, Mi.wipe, bltV, toSeq, toL, toLm, idxV, idxSeq, ixAt, binV, sIx, isT, h0, tOk, eqV, scal]
    | a :: b :: c :: r, hx, h0 =>
      have e : ¬ ((((a :: b :: c :: r).length : Nat) : Int) = 2) := by simp; omega
      have e2 : ¬ ((r.length : Int) + 1 + 1 + 1 = 2) := by omega
      simp [exs, ex, ev, evD, evV, evAnd, evOr, evO, evC, evI, asg, asgs, Ts.len, toD, ↓bind_ap, pure_ap, bad_ap, ite_pp, ite_ap, Rho.get, enter, truth, fin, tidy_bl, cmpV, cmpInt, cmpI, orBad, chk, chk_true, srcOf, Mi.wipe, bltV, toSeq, toL, toLm, idxV, idxSeq, ixAt, binV, sIx, isT, h0, tOk, eqV, scal, e2]
    | [a, b], hx, h0 =>
      have ha := hx.tup a (by simp)
      have hb := hx.tup b (by simp)
      have h2 := law_is_count_ev (w := w) (n := n) (m := many - 1) ha
      rw [show many - 1 + 1 = many by omega] at h2
      have h3 := law_int_ev (w := w) (n := n + 1) hb
      cases a with
      | int s =>
        cases q1 : bel many (.int s) with
        | false =>
          have e : tOk many (.tup [.int s, b]) = false := by
            cases b <;> simp [tOk]
            simp only [bel, Bool.and_eq_false_iff, decide_eq_false_iff_not] at q1
            intro h1 h2
            exfalso
            rcases q1 with q1 | q1
            · omega
            · omega
          simp [exs, ex, ev, evD, evV, evAnd, evOr, evO, evC, evI, asg, asgs, Ts.len, toD, ↓bind_ap, pure_ap, bad_ap, ite_pp, ite_ap, Rho.get, enter, truth, fin, tidy_bl, cmpV, cmpInt, cmpI, orBad, chk, chk_true, srcOf, Mi.wipe, bltV, toSeq, toL, toLm, idxV, idxSeq, ixAt, binV, sIx, isT, h0, h2, q1, e, eqV, scal]
        | true =>
          simp only [bel, Bool.and_eq_true, decide_eq_true_eq] at q1
          have q2 : s < many := by omega
          have q3 : bel many (.int s) = true := by simp only [bel, Bool.and_eq_true, decide_eq_true_eq]; exact q1
          by_cases c1 : s ≤ last
          · have c2 : ¬ last < s := by omega
            simp [exs, ex, ev, evD, evV, evAnd, evOr, evO, evC, evI, asg, asgs, Ts.len, toD, ↓bind_ap, pure_ap, bad_ap, ite_pp, ite_ap, Rho.get, enter, truth, fin, tidy_bl, cmpV, cmpInt, cmpI, orBad, chk, chk_true, srcOf, Mi.wipe, bltV, toSeq, toL, toLm, idxV, idxSeq, ixAt, binV, sIx, isT, h0, h2, q3, c1, c2, fstI, eqV, scal]
          · have c2 : last < s := by omega
            cases b with
            | int t =>
              by_cases c4 : t = 0
              · subst c4
                simp [exs, ex, ev, evD, evV, evAnd, evOr, evO, evC, evI, asg, asgs, Ts.len, toD, ↓bind_ap, pure_ap, bad_ap, ite_pp, ite_ap, Rho.get, enter, truth, fin, tidy_bl, cmpV, cmpInt, cmpI, orBad, chk, chk_true, srcOf, Mi.wipe, bltV, toSeq, toL, toLm, idxV, idxSeq, ixAt, binV, sIx, isT, h0, h2, h3, q3, c1, c2, fstI, eqV, scal, isI, tOk]
              · have qa := amt_abs t
                cases q5 : amt 1000000000 (.int t) with
                | false =>
                  rw [q5] at qa
                  have qa : 1000000000 < (if t < 0 then -t else t) := by simpa using qa
                  simp [exs, ex, ev, evD, evV, evAnd, evOr, evO, evC, evI, asg, asgs, Ts.len, toD, ↓bind_ap, pure_ap, bad_ap, ite_pp, ite_ap, Rho.get, enter, truth, fin, tidy_bl, cmpV, cmpInt, cmpI, orBad, chk, chk_true, srcOf, Mi.wipe, bltV, toSeq, toL, toLm, idxV, idxSeq, ixAt, binV, sIx, isT, h0, h2, h3, q3, c1, c2, c4, q5, qa, fstI, eqV, scal, isI, tOk, small]
                | true =>
                  rw [q5] at qa
                  have qa : ¬ 1000000000 < (if t < 0 then -t else t) := by simpa using qa
                  simp [exs, ex, ev, evD, evV, evAnd, evOr, evO, evC, evI, asg, asgs, Ts.len, toD, ↓bind_ap, pure_ap, bad_ap, ite_pp, ite_ap, Rho.get, enter, truth, fin, tidy_bl, cmpV, cmpInt, cmpI, orBad, chk, chk_true, srcOf, Mi.wipe, bltV, toSeq, toL, toLm, idxV, idxSeq, ixAt, binV, sIx, isT, h0, h2, h3, q3, c1, c2, c4, q5, qa, q1, q2, fstI, eqV, scal, isI, tOk, small]
            | _ => simp [exs, ex, ev, evD, evV, evAnd, evOr, evO, evC, evI, asg, asgs, Ts.len, toD, ↓bind_ap, pure_ap, bad_ap, ite_pp, ite_ap, Rho.get, enter, truth, fin, tidy_bl, cmpV, cmpInt, cmpI, orBad, chk, chk_true, srcOf, Mi.wipe, bltV, toSeq, toL, toLm, idxV, idxSeq, ixAt, binV, sIx, isT, h0, h2, h3, q3, c1, c2, fstI, eqV, scal, isI, tOk]
      | _ => simp [exs, ex, ev, evD, evV, evAnd, evOr, evO, evC, evI, asg, asgs, Ts.len, toD, ↓bind_ap, pure_ap, bad_ap, ite_pp, ite_ap, Rho.get, enter, truth, fin, tidy_bl, cmpV, cmpInt, cmpI, orBad, chk, chk_true, srcOf, Mi.wipe, bltV, toSeq, toL, toLm, idxV, idxSeq, ixAt, binV, sIx, isT, h0, h2, bel, tOk, eqV, scal]
  | _ => simp [exs, ex, ev, evD, evV, evAnd, evOr, evO, evC, evI, asg, asgs, Ts.len, toD, ↓bind_ap, pure_ap, bad_ap, ite_pp, ite_ap, Rho.get, enter, truth, fin, tidy_bl, cmpV, cmpInt, cmpI, orBad, chk, chk_true, srcOf, Mi.wipe, bltV, toSeq, toL, toLm, idxV, idxSeq, ixAt, binV, sIx, isT, h0, tOk]
end Mi.K61

-- W6
set_option Elab.async false
set_option linter.all false
set_option maxRecDepth 100000
set_option maxHeartbeats 4000000
namespace Mi.K61
open PySem (Str PyData)
open Mi
variable {w n : Nat} {S : Sto}
theorem lloop {many : Int} {v : Option D} : ∀ (ts : List D) (last : Int) (o : Option D), (∀ t ∈ ts, Ok S t) →
    (lawT many last ts = true → ∃ ρ', forL (fun x ρ' => do
      let ρ'' ← asg ⟨P.glob, callF P w (n + 2), w⟩ (.name 3) x ρ'
      exs ⟨P.glob, callF P w (n + 2), w⟩ lawBody ρ'') [] ts [v, some (.int many), some (.int last), o] S = .ok (.nx ρ') S) ∧
    (lawT many last ts = false → forL (fun x ρ' => do
      let ρ'' ← asg ⟨P.glob, callF P w (n + 2), w⟩ (.name 3) x ρ'
      exs ⟨P.glob, callF P w (n + 2), w⟩ lawBody ρ'') [] ts [v, some (.int many), some (.int last), o] S = .ok (.rt (.d (.bl false))) S)
  | [], last, o, _ => And.intro (fun _ => ⟨_, rfl⟩) (fun h => nomatch h)
  | x :: xs, last, o, hx => by
    have h1 := lstep_ev (w := w) (n := n) (S := S) (many := many) (last := last) (v := v) (hx x List.mem_cons_self)
    unfold lawT
    cases q : (tOk many x && decide (last < fstI x)) with
    | true =>
      rw [q, if_pos rfl] at h1
      rw [forL_nx (ρ' := [v, some (.int many), some (.int (fstI x)), some x]) (S' := S) h1, Bool.true_and]
      exact lloop xs (fstI x) (some x) fun t ht => hx t (List.mem_cons_of_mem _ ht)
    | false =>
      rw [q, if_neg Bool.false_ne_true] at h1
      exact And.intro (fun h => nomatch h) (fun _ => forL_rt h1)
theorem sumB_bad {many : Int} {a b : D} (h : isI a = false) : sumB many (.tup [a, b]) = false := by
  cases a with
  | int s => cases h
  | _ => cases b <;> rfl
theorem law_is_sum_ev {d : D} {many : Int} (h : Ok S d) : callF P w (n + 3) "_law_is_sum" [d, .int many] [] [] S = .ok (.d (.bl (sumB many d))) S := by
  rw [callF_pos h__law_is_sum (by decide) rfl]
  have h0 := isi_ok h .tuple
  cases d with
  | tup xs =>
    match xs, h, h0 with
    | [], h, h0 => simp [exs, ex, ev, evD, evV, evAnd, evOr, evO, evC, evI, asg, asgs, Ts.len, toD, ↓bind_ap, pure_ap, bad_ap, ite_pp, ite_ap, Rho.get, enter, truth, fin, tidy_bl, cmpV, cmpInt, cmpI, orBad, chk, chk_true, srcOf, Mi.wipe, bltV, toSeq, toL, toLm, idxV, idxSeq, ixAt, binV, sIx, isT, F._law_is_sum, h0, sumB, eqV, scal]
    | [a], h, h0 => simp [exs, ex, ev, evD, evV, evAnd, evOr, evO, evC, evI, asg, asgs, Ts.len, toD, ↓bind_ap, pure_ap, bad_ap, ite_pp, ite_ap, Rho.get, enter, truth, fin, tidy_bl, cmpV, cmpInt, cmpI, orBad, chk, chk_true, srcOf, Mi.wipe, bltV, toSeq, toL, toLm, idxV, idxSeq, ixAt, binV, sIx, isT, F._law_is_sum, h0, sumB, eqV, scal]
    | a :: b :: c :: r, h, h0 =>
      have e2 : ¬ ((r.length : Int) + 1 + 1 + 1 = 2) := by omega
      simp [exs, ex, ev, evD, evV, evAnd, evOr, evO, evC, evI, asg, asgs, Ts.len, toD, ↓bind_ap, pure_ap, bad_ap, ite_pp, ite_ap, Rho.get, enter, truth, fin, tidy_bl, cmpV, cmpInt, cmpI, orBad, chk, chk_true, srcOf, Mi.wipe, bltV, toSeq, toL, toLm, idxV, idxSeq, ixAt, binV, sIx, isT, F._law_is_sum, h0, sumB, eqV, scal, e2]
    | [a, b], h, h0 =>
      have ha := h.tup a (by simp)
      have hb := h.tup b (by simp)
      have h3 := law_int_ev (w := w) (n := n + 1) ha
      have h4 := isi_ok hb .tuple
      cases a with
      | int s =>
        have qa := amt_abs s
        cases q5 : amt 1000000000 (.int s) with
        | false =>
          rw [q5] at qa
          have qa : 1000000000 < (if s < 0 then -s else s) := by simpa using qa
          have e : sumB many (.tup [.int s, b]) = false := by cases b <;> simp [sumB, q5]
          simp [exs, ex, ev, evD, evV, evAnd, evOr, evO, evC, evI, asg, asgs, Ts.len, toD, ↓bind_ap, pure_ap, bad_ap, ite_pp, ite_ap, Rho.get, enter, truth, fin, tidy_bl, cmpV, cmpInt, cmpI, orBad, chk, chk_true, srcOf, Mi.wipe, bltV, toSeq, toL, toLm, idxV, idxSeq, ixAt, binV, sIx, isT, F._law_is_sum, h0, h3, eqV, scal, isI, small, qa, e]
        | true =>
          rw [q5] at qa
          have qa : ¬ 1000000000 < (if s < 0 then -s else s) := by simpa using qa
          cases b with
          | tup ts =>
            obtain ⟨l1, l2⟩ := lloop (w := w) (n := n) (S := S) (many := many) (v := some (.tup [.int s, .tup ts])) ts (-1) none hb.tup
            rw [lawT_neg] at l1 l2
            cases q2 : (ts.all (tOk many) && rising (ts.map fstI)) with
            | false =>
              have l2 := l2 q2
              have e : sumB many (.tup [.int s, .tup ts]) = false := by simp only [sumB, q5, Bool.true_and]; exact q2
              simp [exs, ex, ev, evD, evV, evAnd, evOr, evO, evC, evI, asg, asgs, Ts.len, toD, ↓bind_ap, pure_ap, bad_ap, ite_pp, ite_ap, Rho.get, enter, truth, fin, tidy_bl, cmpV, cmpInt, cmpI, orBad, chk, chk_true, srcOf, Mi.wipe, bltV, toSeq, toL, toLm, idxV, idxSeq, ixAt, binV, sIx, isT, F._law_is_sum, h0, h3, h4, eqV, scal, isI, small, qa, e, ↓l2]
            | true =>
              obtain ⟨ρ', l1⟩ := l1 q2
              have e : sumB many (.tup [.int s, .tup ts]) = true := by simp only [sumB, q5, Bool.true_and]; exact q2
              simp [exs, ex, ev, evD, evV, evAnd, evOr, evO, evC, evI, asg, asgs, Ts.len, toD, ↓bind_ap, pure_ap, bad_ap, ite_pp, ite_ap, Rho.get, enter, truth, fin, tidy_bl, cmpV, cmpInt, cmpI, orBad, chk, chk_true, srcOf, Mi.wipe, bltV, toSeq, toL, toLm, idxV, idxSeq, ixAt, binV, sIx, isT, F._law_is_sum, h0, h3, h4, eqV, scal, isI, small, qa, e, ↓l1]
          | _ => simp [exs, ex, ev, evD, evV, evAnd, evOr, evO, evC, evI, asg, asgs, Ts.len, toD, ↓bind_ap, pure_ap, bad_ap, ite_pp, ite_ap, Rho.get, enter, truth, fin, tidy_bl, cmpV, cmpInt, cmpI, orBad, chk, chk_true, srcOf, Mi.wipe, bltV, toSeq, toL, toLm, idxV, idxSeq, ixAt, binV, sIx, isT, F._law_is_sum, h0, h3, h4, eqV, scal, isI, small, qa, sumB]
      | _ =>
        rw [sumB_bad (many := many) (b := b) rfl]
        simp [exs, ex, ev, evD, evV, evAnd, evOr, evO, evC, evI, asg, asgs, Ts.len, toD, ↓bind_ap, pure_ap, bad_ap, ite_pp, ite_ap, Rho.get, enter, truth, fin, tidy_bl, cmpV, cmpInt, cmpI, orBad, chk, chk_true, srcOf, Mi.wipe, bltV, toSeq, toL, toLm, idxV, idxSeq, ixAt, binV, sIx, isT, F._law_is_sum, h0, h3, eqV, scal, isI]
  | _ => simp [exs, ex, ev, evD, evV, evAnd, evOr, evO, evC, evI, asg, asgs, Ts.len, toD, ↓bind_ap, pure_ap, bad_ap, ite_pp, ite_ap, Rho.get, enter, truth, fin, tidy_bl, cmpV, cmpInt, cmpI, orBad, chk, chk_true, srcOf, Mi.wipe, bltV, toSeq, toL, toLm, idxV, idxSeq, ixAt, binV, sIx, isT, F._law_is_sum, h0, sumB]
end Mi.K61

-- W7
set_option Elab.async false
set_option linter.all false
set_option maxRecDepth 100000
set_option maxHeartbeats 4000000
namespace Mi.K61
open PySem (Str PyData)
open Mi
variable {w n : Nat} {S : Sto}
/-! weights -/
def wsum (f : D → Nat) : List D → Nat
  | [] => 0
  | x :: xs => f x + wsum f xs
def wtF (S : Sto) : Nat → D → Nat
  | 0, _ => 1
  | n + 1, .tup xs => 1 + wsum (wtF S n) xs
  | n + 1, .ref a => match S[a]? with
    | some (.lst xs) => 1 + wsum (wtF S n) xs
    | _ => 1
  | _ + 1, _ => 1
theorem wsum_congr {f g : D → Nat} : ∀ {xs : List D}, (∀ x ∈ xs, f x = g x) → wsum f xs = wsum g xs
  | [], _ => rfl
  | x :: xs, h => by unfold wsum; rw [h x List.mem_cons_self, wsum_congr fun y hy => h y (List.mem_cons_of_mem _ hy)]
theorem wtF_mono : ∀ {n : Nat} {d : D}, ok S n d = true → wtF S (n + 1) d = wtF S n d
  | 0, d, h => by cases h
  | n + 1, .non, _ => rfl
  | n + 1, .bl _, _ => rfl
  | n + 1, .int _, h => rfl
  | n + 1, .str _, h => rfl
  | n + 1, .tup xs, h => by
    have h : xs.all (ok S n) = true := h
    rw [List.all_eq_true] at h
    show 1 + wsum (wtF S (n + 1)) xs = 1 + wsum (wtF S n) xs
    rw [wsum_congr fun x hx => wtF_mono (h x hx)]
  | n + 1, .ref a, h => by
    have h : (match S[a]? with
      | some (.lst xs) => xs.all (ok S n)
      | _ => false) = true := h
    show (match S[a]? with
      | some (.lst xs) => 1 + wsum (wtF S (n + 1)) xs
      | _ => 1) = (match S[a]? with
      | some (.lst xs) => 1 + wsum (wtF S n) xs
      | _ => 1)
    cases q : S[a]? with
    | none => rfl
    | some c =>
      rw [q] at h
      cases c with
      | lst xs =>
        dsimp only at h ⊢
        rw [List.all_eq_true] at h
        rw [wsum_congr fun x hx => wtF_mono (h x hx)]
      | _ => rfl
theorem wtF_pos : ∀ {n : Nat} {d : D}, 1 ≤ wtF S n d
  | 0, d => Nat.le_refl 1
  | n + 1, .non => Nat.le_refl 1
  | n + 1, .bl _ => Nat.le_refl 1
  | n + 1, .int _ => Nat.le_refl 1
  | n + 1, .str _ => Nat.le_refl 1
  | n + 1, .tup xs => Nat.le_add_right 1 _
  | n + 1, .ref a => by
    unfold wtF
    split
    · exact Nat.le_add_right 1 _
    · exact Nat.le_refl 1
theorem wsum_len {f : D → Nat} (h : ∀ x, 1 ≤ f x) : ∀ xs : List D, xs.length ≤ wsum f xs
  | [] => Nat.le_refl 0
  | x :: xs => by
    have := wsum_len h xs
    have := h x
    unfold wsum
    rw [List.length_cons]; omega
theorem wsum_mem {f : D → Nat} : ∀ {xs : List D} {x : D}, x ∈ xs → f x ≤ wsum f xs
  | y :: xs, x, h => by
    unfold wsum
    rcases List.mem_cons.mp h with h | h
    · subst h; omega
    · have := wsum_mem (f := f) h; omega
def Wk (S : Sto) (k : Nat) (d : D) : Prop := ok S 30 d = true ∧ wtF S 30 d ≤ k
theorem Wk.ok {k : Nat} {d : D} (h : Wk S k d) : Ok S d := h.1
theorem Wk.tup {k : Nat} {xs : List D} (h : Wk S k (.tup xs)) : xs.length ≤ k ∧ ∀ x ∈ xs, Wk S k x := by
  obtain ⟨h1, h2⟩ := h
  have h3 : xs.all (Mi.ok S 29) = true := h1
  rw [List.all_eq_true] at h3
  have h4 : 1 + wsum (wtF S 29) xs ≤ k := h2
  refine ⟨?_, fun x hx => ⟨ok_mono (h3 x hx), ?_⟩⟩
  · have := wsum_len (fun x => wtF_pos (S := S) (n := 29) (d := x)) xs
    omega
  · rw [show (30 : Nat) = 29 + 1 from rfl, wtF_mono (h3 x hx)]
    have := wsum_mem (f := wtF S 29) hx
    omega
theorem Wk.terms {d : D} (h : Wk S 20000 d) : (termsOf d).length ≤ 100000 := by
  unfold termsOf
  split
  · rename_i a ts
    have := (h.tup.2 (.tup ts) (by simp)).tup.1
    omega
  · exact Nat.zero_le _
/-! sums -/
def sumsB (many : Int) : D → Bool
  | .tup xs => decide ((xs.length : Int) ≤ 4) && decide ((xs.length : Int) ≤ many) && xs.all (sumB many)
  | _ => false
theorem evI_var {C : Cxt} {ρ : Rho} {i : Nat} {xs : List D} (h : ρ[i]? = some (some (.tup xs))) : evI C (.val (.var i)) ρ S = .ok ⟨xs, []⟩ S := by
  have h2 : Rho.get ρ i S = .ok (.tup xs) S := by unfold Rho.get; rw [h]
  show ((ρ.get i >>= fun x => (pure (V2.d x) : M V2)) >>= srcOf) S = _
  rw [bind_ap, bind_ap, h2]; rfl
theorem are_sums_ev {d : D} {many : Int} (h : Wk S 20000 d) : callF P w (n + 4) "are_sums" [d, .int many] [] [] S = .ok (.d (.bl (sumsB many d))) S := by
  rw [callF_pos h_are_sums (by decide) rfl]
  have h0 := isi_ok h.ok .tuple
  cases d with
  | tup xs =>
    have h1 := ev_all (C := ⟨P.glob, callF P w (n + 3), w⟩) (e := .call "is_sum_of" (.cons (.var 2) (.cons (.var 1) .nil)) [] .nil) (t := .name 2) (it := .val (.var 0)) (c := .none) (own := [2]) (ρ := [some (.tup xs), some (.int many), none])
      (s := ⟨xs, []⟩) (f := sumB many) (S := S) (evI_var rfl) (by have := h.tup.1; unfold most; show xs.length ≤ _; omega) rfl (fun x hx => by
        have hx := h.tup.2 x hx
        have h2 := is_sum_of_ev (w := w) (n := n) (many := many) hx.ok hx.terms
        simp [exs, ex, ev, evD, evV, evAnd, evOr, evO, evC, evI, asg, asgs, Ts.len, toD, ↓bind_ap, pure_ap, bad_ap, ite_pp, ite_ap, Rho.get, enter, truth, fin, tidy_bl, cmpV, cmpInt, cmpI, orBad, chk, chk_true, srcOf, Mi.wipe, bltV, toSeq, toL, toLm, idxV, idxSeq, ixAt, binV, sIx, isT, lcItem, h2])
    by_cases c1 : (xs.length : Int) ≤ 4
    · by_cases c2 : (xs.length : Int) ≤ many
      · by_cases c3 : many < 4
        · have c4 : ¬ many < (xs.length : Int) := by omega
          simp [exs, ex, ev, evD, evV, evAnd, evOr, evO, evC, evI, asg, asgs, Ts.len, toD, ↓bind_ap, pure_ap, bad_ap, ite_pp, ite_ap, Rho.get, enter, truth, fin, tidy_bl, cmpV, cmpInt, cmpI, orBad, chk, chk_true, srcOf, Mi.wipe, bltV, toSeq, toL, toLm, idxV, idxSeq, ixAt, binV, sIx, isT, F.are_sums, g_MOST_SUMS, h0, c1, c2, c3, c4, ↓h1, sumsB]
        · have c4 : ¬ 4 < (xs.length : Int) := by omega
          simp [exs, ex, ev, evD, evV, evAnd, evOr, evO, evC, evI, asg, asgs, Ts.len, toD, ↓bind_ap, pure_ap, bad_ap, ite_pp, ite_ap, Rho.get, enter, truth, fin, tidy_bl, cmpV, cmpInt, cmpI, orBad, chk, chk_true, srcOf, Mi.wipe, bltV, toSeq, toL, toLm, idxV, idxSeq, ixAt, binV, sIx, isT, F.are_sums, g_MOST_SUMS, h0, c1, c2, c3, c4, ↓h1, sumsB]
      · by_cases c3 : many < 4
        · have c4 : many < (xs.length : Int) := by omega
          simp [exs, ex, ev, evD, evV, evAnd, evOr, evO, evC, evI, asg, asgs, Ts.len, toD, ↓bind_ap, pure_ap, bad_ap, ite_pp, ite_ap, Rho.get, enter, truth, fin, tidy_bl, cmpV, cmpInt, cmpI, orBad, chk, chk_true, srcOf, Mi.wipe, bltV, toSeq, toL, toLm, idxV, idxSeq, ixAt, binV, sIx, isT, F.are_sums, g_MOST_SUMS, h0, c1, c2, c3, c4, sumsB]
        · have c4 : 4 < (xs.length : Int) := by omega
          simp [exs, ex, ev, evD, evV, evAnd, evOr, evO, evC, evI, asg, asgs, Ts.len, toD, ↓bind_ap, pure_ap, bad_ap, ite_pp, ite_ap, Rho.get, enter, truth, fin, tidy_bl, cmpV, cmpInt, cmpI, orBad, chk, chk_true, srcOf, Mi.wipe, bltV, toSeq, toL, toLm, idxV, idxSeq, ixAt, binV, sIx, isT, F.are_sums, g_MOST_SUMS, h0, c1, c2, c3, c4, sumsB]
    · by_cases c3 : many < 4
      · have c4 : many < (xs.length : Int) := by omega
        simp [exs, ex, ev, evD, evV, evAnd, evOr, evO, evC, evI, asg, asgs, Ts.len, toD, ↓bind_ap, pure_ap, bad_ap, ite_pp, ite_ap, Rho.get, enter, truth, fin, tidy_bl, cmpV, cmpInt, cmpI, orBad, chk, chk_true, srcOf, Mi.wipe, bltV, toSeq, toL, toLm, idxV, idxSeq, ixAt, binV, sIx, isT, F.are_sums, g_MOST_SUMS, h0, c1, c3, c4, sumsB]
      · have c4 : 4 < (xs.length : Int) := by omega
        simp [exs, ex, ev, evD, evV, evAnd, evOr, evO, evC, evI, asg, asgs, Ts.len, toD, ↓bind_ap, pure_ap, bad_ap, ite_pp, ite_ap, Rho.get, enter, truth, fin, tidy_bl, cmpV, cmpInt, cmpI, orBad, chk, chk_true, srcOf, Mi.wipe, bltV, toSeq, toL, toLm, idxV, idxSeq, ixAt, binV, sIx, isT, F.are_sums, g_MOST_SUMS, h0, c1, c3, c4, sumsB]
  | _ => simp [exs, ex, ev, evD, evV, evAnd, evOr, evO, evC, evI, asg, asgs, Ts.len, toD, ↓bind_ap, pure_ap, bad_ap, ite_pp, ite_ap, Rho.get, enter, truth, fin, tidy_bl, cmpV, cmpInt, cmpI, orBad, chk, chk_true, srcOf, Mi.wipe, bltV, toSeq, toL, toLm, idxV, idxSeq, ixAt, binV, sIx, isT, F.are_sums, h0, sumsB]
end Mi.K61

-- W8
set_option Elab.async false
set_option linter.all false
set_option maxRecDepth 100000
set_option maxHeartbeats 4000000
namespace Mi.K61
open PySem (Str PyData)
open Mi
variable {w n : Nat} {S : Sto}
theorem ite_res (b : Bool) (S : Sto) : (if b = true then Res.ok true S else Res.ok false S) = Res.ok b S := by cases b <;> rfl
def instrB (many size : Int) : D → Bool
  | .tup (.str z :: r) =>
    if z = "leave" ∨ z = "back" then decide (r = [])
    else if z = "call" ∨ z = "jump" then (match r with
      | [a, b] => bel size a && sumsB many b
      | _ => false)
    else if z = "set" then (match r with
      | [a, b] => bel many a && sumB many b
      | _ => false)
    else (match r with
      | [a] => if z = "stop" then bel 1000 a else if z = "read" then (decide (a = .non) || bel many a) else if z = "tell" then sumB many a else decide (z = "test" ∨ z = "go" ∨ z = "share") && bel size a
      | _ => false)
  | _ => false
theorem eq_nilD {xs : List D} (h : Ok S (.tup xs)) : eqData (.d (.tup xs)) (.d (.tup [])) S = .ok (decide (xs = [])) S := eq_nil h
theorem sOk {z : Str} (h : Ok S (.str z)) : PyData.strOk z = true := (and2 (show okStr z = true from h)).2
theorem mem_leave {z : Str} (h : Ok S (.str z)) : memV (.d (.str z)) [.str "leave", .str "back"] S = .ok (decide (z = "leave" ∨ z = "back")) S := by
  rw [show ([.str "leave", .str "back"] : List D) = (["leave", "back"] : List Str).map D.str from rfl, mem_str (sOk h) (by decide +kernel)]
  simp
theorem mem_call {z : Str} (h : Ok S (.str z)) : memV (.d (.str z)) [.str "call", .str "jump"] S = .ok (decide (z = "call" ∨ z = "jump")) S := by
  rw [show ([.str "call", .str "jump"] : List D) = (["call", "jump"] : List Str).map D.str from rfl, mem_str (sOk h) (by decide +kernel)]
  simp
theorem mem_alone {z : Str} (h : Ok S (.str z)) : memV (.d (.str z)) [.str "test", .str "go", .str "share"] S = .ok (decide (z = "test" ∨ z = "go" ∨ z = "share")) S := by
  rw [show ([.str "test", .str "go", .str "share"] : List D) = (["test", "go", "share"] : List Str).map D.str from rfl, mem_str (sOk h) (by decide +kernel)]
  simp
theorem mem_ends {z : Str} (h : Ok S (.str z)) : memV (.d (.str z)) [.str "leave", .str "back", .str "stop", .str "go", .str "jump"] S = .ok (decide (z ∈ (["leave", "back", "stop", "go", "jump"] : List Str))) S := by
  rw [show ([.str "leave", .str "back", .str "stop", .str "go", .str "jump"] : List D) = (["leave", "back", "stop", "go", "jump"] : List Str).map D.str from rfl, mem_str (sOk h) (by decide +kernel)]
theorem mem_read {z : Str} (h : Ok S (.str z)) : memV (.d (.str z)) [.str "read", .str "set"] S = .ok (decide (z = "read" ∨ z = "set")) S := by
  rw [show ([.str "read", .str "set"] : List D) = (["read", "set"] : List Str).map D.str from rfl, mem_str (sOk h) (by decide +kernel)]
  simp
theorem is_instruction_ev {d : D} {many size : Int} (h : Wk S 20000 d) : callF P w (n + 5) "is_instruction" [d, .int many, .int size] [] [] S = .ok (.d (.bl (instrB many size d))) S := by
  rw [callF_pos h_is_instruction (by decide) rfl]
  have h0 := isi_ok h.ok .tuple
  cases d with
  | tup xs =>
    have h1 := eq_nilD h.ok
    cases xs with
    | nil => simp [exs, ex, ev, evD, evV, evAnd, evOr, evO, evC, evI, asg, asgs, Ts.len, toD, ↓bind_ap, pure_ap, bad_ap, ite_pp, ite_ap, Rho.get, enter, truth, fin, tidy_bl, cmpV, cmpInt, cmpI, orBad, chk, chk_true, srcOf, Mi.wipe, bltV, toSeq, toL, toLm, idxV, idxSeq, ixAt, binV, sIx, isT, F.is_instruction, h0, h1, instrB, eqV, scal]
    | cons x r =>
      have hx := (h.tup.2 x List.mem_cons_self).ok
      have h2 := isi_ok hx .str
      cases x with
      | str z =>
        have m1 := mem_leave hx
        have m2 := mem_call hx
        have m3 := mem_alone hx
        by_cases c1 : z = "leave" ∨ z = "back"
        · cases r with
          | nil => simp [exs, ex, ev, evD, evV, evAnd, evOr, evO, evC, evI, asg, asgs, Ts.len, toD, ↓bind_ap, pure_ap, bad_ap, ite_pp, ite_ap, Rho.get, enter, truth, fin, tidy_bl, cmpV, cmpInt, cmpI, orBad, chk, chk_true, srcOf, Mi.wipe, bltV, toSeq, toL, toLm, idxV, idxSeq, ixAt, binV, sIx, isT, F.is_instruction, h0, h1, h2, m1, c1, instrB, inV, inSeq, ite_res, eqV, scal]
          | cons a r =>
            have e : ¬ ((r.length : Int) + 1 + 1 = 1) := by omega
            have e0 : (0 : Int) < (r.length : Int) + 1 + 1 := by omega
            simp [exs, ex, ev, evD, evV, evAnd, evOr, evO, evC, evI, asg, asgs, Ts.len, toD, ↓bind_ap, pure_ap, bad_ap, ite_pp, ite_ap, Rho.get, enter, truth, fin, tidy_bl, cmpV, cmpInt, cmpI, orBad, chk, chk_true, srcOf, Mi.wipe, bltV, toSeq, toL, toLm, idxV, idxSeq, ixAt, binV, sIx, isT, F.is_instruction, h0, h1, h2, m1, c1, instrB, inV, inSeq, ite_res, eqV, scal, e, e0]
        · by_cases c2 : z = "call" ∨ z = "jump"
          · match r, h, h0, h1 with
            | [], h, h0, h1 => simp [exs, ex, ev, evD, evV, evAnd, evOr, evO, evC, evI, asg, asgs, Ts.len, toD, ↓bind_ap, pure_ap, bad_ap, ite_pp, ite_ap, Rho.get, enter, truth, fin, tidy_bl, cmpV, cmpInt, cmpI, orBad, chk, chk_true, srcOf, Mi.wipe, bltV, toSeq, toL, toLm, idxV, idxSeq, ixAt, binV, sIx, isT, F.is_instruction, g_WITH_SUMS, h0, h1, h2, m1, m2, c1, c2, instrB, inV, inSeq, ite_res, eqV, scal]
            | [a], h, h0, h1 => simp [exs, ex, ev, evD, evV, evAnd, evOr, evO, evC, evI, asg, asgs, Ts.len, toD, ↓bind_ap, pure_ap, bad_ap, ite_pp, ite_ap, Rho.get, enter, truth, fin, tidy_bl, cmpV, cmpInt, cmpI, orBad, chk, chk_true, srcOf, Mi.wipe, bltV, toSeq, toL, toLm, idxV, idxSeq, ixAt, binV, sIx, isT, F.is_instruction, g_WITH_SUMS, h0, h1, h2, m1, m2, c1, c2, instrB, inV, inSeq, ite_res, eqV, scal]
            | a :: b :: c :: r, h, h0, h1 =>
              have e : ¬ ((r.length : Int) + 1 + 1 + 1 + 1 = 3) := by omega
              have e0 : (0 : Int) < (r.length : Int) + 1 + 1 + 1 + 1 := by omega
              simp [exs, ex, ev, evD, evV, evAnd, evOr, evO, evC, evI, asg, asgs, Ts.len, toD, ↓bind_ap, pure_ap, bad_ap, ite_pp, ite_ap, Rho.get, enter, truth, fin, tidy_bl, cmpV, cmpInt, cmpI, orBad, chk, chk_true, srcOf, Mi.wipe, bltV, toSeq, toL, toLm, idxV, idxSeq, ixAt, binV, sIx, isT, F.is_instruction, g_WITH_SUMS, h0, h1, h2, m1, m2, c1, c2, instrB, inV, inSeq, ite_res, eqV, scal, e, e0]
            | [a, b], h, h0, h1 =>
              have ha := h.tup.2 a (by simp)
              have hb := h.tup.2 b (by simp)
              have h3 := is_below_ev (w := w) (n := n + 1) (m := size) ha.ok
              have h4 := are_sums_ev (w := w) (n := n) (many := many) hb
              cases q : bel size a <;> simp [exs, ex, ev, evD, evV, evAnd, evOr, evO, evC, evI, asg, asgs, Ts.len, toD, ↓bind_ap, pure_ap, bad_ap, ite_pp, ite_ap, Rho.get, enter, truth, fin, tidy_bl, cmpV, cmpInt, cmpI, orBad, chk, chk_true, srcOf, Mi.wipe, bltV, toSeq, toL, toLm, idxV, idxSeq, ixAt, binV, sIx, isT, F.is_instruction, g_WITH_SUMS, h0, h1, h2, h3, h4, m1, m2, c1, c2, instrB, inV, inSeq, ite_res, eqV, scal, q]
          · by_cases c3 : z = "set"
            · subst c3
              match r, h, h0, h1 with
              | [], h, h0, h1 => simp [exs, ex, ev, evD, evV, evAnd, evOr, evO, evC, evI, asg, asgs, Ts.len, toD, ↓bind_ap, pure_ap, bad_ap, ite_pp, ite_ap, Rho.get, enter, truth, fin, tidy_bl, cmpV, cmpInt, cmpI, orBad, chk, chk_true, srcOf, Mi.wipe, bltV, toSeq, toL, toLm, idxV, idxSeq, ixAt, binV, sIx, isT, F.is_instruction, g_WITH_SUMS, h0, h1, h2, m1, m2, c1, c2, instrB, inV, inSeq, ite_res, eqV, scal]
              | [a], h, h0, h1 => simp [exs, ex, ev, evD, evV, evAnd, evOr, evO, evC, evI, asg, asgs, Ts.len, toD, ↓bind_ap, pure_ap, bad_ap, ite_pp, ite_ap, Rho.get, enter, truth, fin, tidy_bl, cmpV, cmpInt, cmpI, orBad, chk, chk_true, srcOf, Mi.wipe, bltV, toSeq, toL, toLm, idxV, idxSeq, ixAt, binV, sIx, isT, F.is_instruction, g_WITH_SUMS, h0, h1, h2, m1, m2, c1, c2, instrB, inV, inSeq, ite_res, eqV, scal]
              | a :: b :: c :: r, h, h0, h1 =>
                have e : ¬ ((r.length : Int) + 1 + 1 + 1 + 1 = 3) := by omega
                have e0 : (0 : Int) < (r.length : Int) + 1 + 1 + 1 + 1 := by omega
                simp [exs, ex, ev, evD, evV, evAnd, evOr, evO, evC, evI, asg, asgs, Ts.len, toD, ↓bind_ap, pure_ap, bad_ap, ite_pp, ite_ap, Rho.get, enter, truth, fin, tidy_bl, cmpV, cmpInt, cmpI, orBad, chk, chk_true, srcOf, Mi.wipe, bltV, toSeq, toL, toLm, idxV, idxSeq, ixAt, binV, sIx, isT, F.is_instruction, g_WITH_SUMS, h0, h1, h2, m1, m2, c1, c2, instrB, inV, inSeq, ite_res, eqV, scal, e, e0]
              | [a, b], h, h0, h1 =>
                have ha := h.tup.2 a (by simp)
                have hb := h.tup.2 b (by simp)
                have h3 := is_below_ev (w := w) (n := n + 1) (m := many) ha.ok
                have h4 := is_sum_of_ev (w := w) (n := n + 1) (many := many) hb.ok hb.terms
                cases q : bel many a <;> simp [exs, ex, ev, evD, evV, evAnd, evOr, evO, evC, evI, asg, asgs, Ts.len, toD, ↓bind_ap, pure_ap, bad_ap, ite_pp, ite_ap, Rho.get, enter, truth, fin, tidy_bl, cmpV, cmpInt, cmpI, orBad, chk, chk_true, srcOf, Mi.wipe, bltV, toSeq, toL, toLm, idxV, idxSeq, ixAt, binV, sIx, isT, F.is_instruction, g_WITH_SUMS, h0, h1, h2, h3, h4, m1, m2, c1, c2, instrB, inV, inSeq, ite_res, eqV, scal, q]
            · match r, h, h0, h1 with
              | [], h, h0, h1 => simp [exs, ex, ev, evD, evV, evAnd, evOr, evO, evC, evI, asg, asgs, Ts.len, toD, ↓bind_ap, pure_ap, bad_ap, ite_pp, ite_ap, Rho.get, enter, truth, fin, tidy_bl, cmpV, cmpInt, cmpI, orBad, chk, chk_true, srcOf, Mi.wipe, bltV, toSeq, toL, toLm, idxV, idxSeq, ixAt, binV, sIx, isT, F.is_instruction, g_WITH_SUMS, h0, h1, h2, m1, m2, c1, c2, c3, instrB, inV, inSeq, ite_res, eqV, scal]
              | a :: b :: r, h, h0, h1 =>
                have e : ¬ ((r.length : Int) + 1 + 1 + 1 = 2) := by omega
                have e0 : (0 : Int) < (r.length : Int) + 1 + 1 + 1 := by omega
                simp [exs, ex, ev, evD, evV, evAnd, evOr, evO, evC, evI, asg, asgs, Ts.len, toD, ↓bind_ap, pure_ap, bad_ap, ite_pp, ite_ap, Rho.get, enter, truth, fin, tidy_bl, cmpV, cmpInt, cmpI, orBad, chk, chk_true, srcOf, Mi.wipe, bltV, toSeq, toL, toLm, idxV, idxSeq, ixAt, binV, sIx, isT, F.is_instruction, g_WITH_SUMS, h0, h1, h2, m1, m2, c1, c2, c3, instrB, inV, inSeq, ite_res, eqV, scal, e, e0]
              | [a], h, h0, h1 =>
                have ha := h.tup.2 a (by simp)
                have h3 := fun m => is_below_ev (w := w) (n := n + 1) (m := m) ha.ok
                have h4 := is_sum_of_ev (w := w) (n := n + 1) (many := many) ha.ok ha.terms
                by_cases c4 : z = "stop"
                · subst c4
                  simp [exs, ex, ev, evD, evV, evAnd, evOr, evO, evC, evI, asg, asgs, Ts.len, toD, ↓bind_ap, pure_ap, bad_ap, ite_pp, ite_ap, Rho.get, enter, truth, fin, tidy_bl, cmpV, cmpInt, cmpI, orBad, chk, chk_true, srcOf, Mi.wipe, bltV, toSeq, toL, toLm, idxV, idxSeq, ixAt, binV, sIx, isT, F.is_instruction, g_WITH_SUMS, g_MOST_MARK, g_TO_ALONE, h0, h1, h2, h3, h4, m1, m2, m3, c1, c2, c3, instrB, inV, inSeq, ite_res, eqV, scal]
                · by_cases c5 : z = "read"
                  · subst c5
                    by_cases q : a = .non
                    · subst q
                      simp [exs, ex, ev, evD, evV, evAnd, evOr, evO, evC, evI, asg, asgs, Ts.len, toD, ↓bind_ap, pure_ap, bad_ap, ite_pp, ite_ap, Rho.get, enter, truth, fin, tidy_bl, cmpV, cmpInt, cmpI, orBad, chk, chk_true, srcOf, Mi.wipe, bltV, toSeq, toL, toLm, idxV, idxSeq, ixAt, binV, sIx, isT, F.is_instruction, g_WITH_SUMS, g_MOST_MARK, g_TO_ALONE, h0, h1, h2, h3, h4, m1, m2, m3, c1, c2, c3, c4, instrB, inV, inSeq, ite_res, eqV, scal]
                    · simp [exs, ex, ev, evD, evV, evAnd, evOr, evO, evC, evI, asg, asgs, Ts.len, toD, ↓bind_ap, pure_ap, bad_ap, ite_pp, ite_ap, Rho.get, enter, truth, fin, tidy_bl, cmpV, cmpInt, cmpI, orBad, chk, chk_true, srcOf, Mi.wipe, bltV, toSeq, toL, toLm, idxV, idxSeq, ixAt, binV, sIx, isT, F.is_instruction, g_WITH_SUMS, g_MOST_MARK, g_TO_ALONE, h0, h1, h2, h3, h4, m1, m2, m3, c1, c2, c3, c4, instrB, inV, inSeq, ite_res, eqV, scal, q]
                  · by_cases c6 : z = "tell"
                    · subst c6
                      simp [exs, ex, ev, evD, evV, evAnd, evOr, evO, evC, evI, asg, asgs, Ts.len, toD, ↓bind_ap, pure_ap, bad_ap, ite_pp, ite_ap, Rho.get, enter, truth, fin, tidy_bl, cmpV, cmpInt, cmpI, orBad, chk, chk_true, srcOf, Mi.wipe, bltV, toSeq, toL, toLm, idxV, idxSeq, ixAt, binV, sIx, isT, F.is_instruction, g_WITH_SUMS, g_MOST_MARK, g_TO_ALONE, h0, h1, h2, h3, h4, m1, m2, m3, c1, c2, c3, c4, c5, instrB, inV, inSeq, ite_res, eqV, scal]
                    · by_cases c7 : z = "test" ∨ z = "go" ∨ z = "share"
                      · simp [exs, ex, ev, evD, evV, evAnd, evOr, evO, evC, evI, asg, asgs, Ts.len, toD, ↓bind_ap, pure_ap, bad_ap, ite_pp, ite_ap, Rho.get, enter, truth, fin, tidy_bl, cmpV, cmpInt, cmpI, orBad, chk, chk_true, srcOf, Mi.wipe, bltV, toSeq, toL, toLm, idxV, idxSeq, ixAt, binV, sIx, isT, F.is_instruction, g_WITH_SUMS, g_MOST_MARK, g_TO_ALONE, h0, h1, h2, h3, h4, m1, m2, m3, c1, c2, c3, c4, c5, c6, c7, instrB, inV, inSeq, ite_res, eqV, scal]
                      · simp [exs, ex, ev, evD, evV, evAnd, evOr, evO, evC, evI, asg, asgs, Ts.len, toD, ↓bind_ap, pure_ap, bad_ap, ite_pp, ite_ap, Rho.get, enter, truth, fin, tidy_bl, cmpV, cmpInt, cmpI, orBad, chk, chk_true, srcOf, Mi.wipe, bltV, toSeq, toL, toLm, idxV, idxSeq, ixAt, binV, sIx, isT, F.is_instruction, g_WITH_SUMS, g_MOST_MARK, g_TO_ALONE, h0, h1, h2, h3, h4, m1, m2, m3, c1, c2, c3, c4, c5, c6, c7, instrB, inV, inSeq, ite_res, eqV, scal]
      | _ => simp [exs, ex, ev, evD, evV, evAnd, evOr, evO, evC, evI, asg, asgs, Ts.len, toD, ↓bind_ap, pure_ap, bad_ap, ite_pp, ite_ap, Rho.get, enter, truth, fin, tidy_bl, cmpV, cmpInt, cmpI, orBad, chk, chk_true, srcOf, Mi.wipe, bltV, toSeq, toL, toLm, idxV, idxSeq, ixAt, binV, sIx, isT, F.is_instruction, h0, h1, h2, instrB, eqV, scal]
  | _ => simp [exs, ex, ev, evD, evV, evAnd, evOr, evO, evC, evI, asg, asgs, Ts.len, toD, ↓bind_ap, pure_ap, bad_ap, ite_pp, ite_ap, Rho.get, enter, truth, fin, tidy_bl, cmpV, cmpInt, cmpI, orBad, chk, chk_true, srcOf, Mi.wipe, bltV, toSeq, toL, toLm, idxV, idxSeq, ixAt, binV, sIx, isT, F.is_instruction, h0, instrB]
end Mi.K61

-- W9
set_option Elab.async false
set_option linter.all false
set_option maxRecDepth 100000
set_option maxHeartbeats 4000000
namespace Mi.K61
open PySem (Str PyData)
open Mi
variable {w n : Nat} {S : Sto}
theorem ne_ts : ¬ ("tell" : Str) = "set" := by decide +kernel
theorem ne_sr : ¬ ("set" : Str) = "read" := by decide +kernel
def partB (z : Str) (at_ many size : Int) (v : D) : Bool :=
  if (z = "set" ∧ at_ = 2) ∨ z = "tell" then sumB many v
  else if z = "read" ∨ z = "set" then (decide (v = .non) && decide (z = "read")) || bel many v
  else if z = "stop" then bel 1000 v
  else if at_ = 1 then bel size v
  else sumsB many v
theorem law_is_part_ev {v : D} {z : Str} {at_ many size : Int} (h : Ok S v) (hz : Ok S (.str z)) :
    callF P w (n + 4) "_law_is_part" [v, .str z, .int at_, .int many, .int size] [] [] S = .ok (.d (.bl (partB z at_ many size v))) S := by
  rw [callF_pos h__law_is_part (by decide) rfl]
  have h1 := law_is_sum_ev (w := w) (n := n) (many := many) h
  have h2 := fun m => law_is_count_ev (w := w) (n := n + 1) (m := m - 1) h
  have h2' := law_is_count_ev (w := w) (n := n + 1) (m := 999) h
  have h3 := mem_read hz
  have h0 := isi_ok h .tuple
  simp only [Int.sub_add_cancel] at h2
  by_cases c1 : z = "tell"
  · simp [exs, ex, ev, evD, evV, evAnd, evOr, evO, evC, evI, asg, asgs, Ts.len, toD, ↓bind_ap, pure_ap, bad_ap, ite_pp, ite_ap, Rho.get, enter, truth, fin, tidy_bl, cmpV, cmpInt, cmpI, orBad, chk, chk_true, srcOf, Mi.wipe, bltV, toSeq, toL, toLm, idxV, idxSeq, ixAt, binV, sIx, isT, F._law_is_part, h1, c1, partB, eqV, scal, ne_ts]
  · by_cases c2 : z = "set"
    · subst c2
      by_cases c3 : at_ = 2
      · simp [exs, ex, ev, evD, evV, evAnd, evOr, evO, evC, evI, asg, asgs, Ts.len, toD, ↓bind_ap, pure_ap, bad_ap, ite_pp, ite_ap, Rho.get, enter, truth, fin, tidy_bl, cmpV, cmpInt, cmpI, orBad, chk, chk_true, srcOf, Mi.wipe, bltV, toSeq, toL, toLm, idxV, idxSeq, ixAt, binV, sIx, isT, F._law_is_part, h1, c3, partB, eqV, scal]
      · by_cases c4 : v = .non
        · subst c4
          simp [exs, ex, ev, evD, evV, evAnd, evOr, evO, evC, evI, asg, asgs, Ts.len, toD, ↓bind_ap, pure_ap, bad_ap, ite_pp, ite_ap, Rho.get, enter, truth, fin, tidy_bl, cmpV, cmpInt, cmpI, orBad, chk, chk_true, srcOf, Mi.wipe, bltV, toSeq, toL, toLm, idxV, idxSeq, ixAt, binV, sIx, isT, F._law_is_part, h1, h2, h3, c1, c3, partB, eqV, scal, inV, inSeq, ite_res, bel, ne_sr]
        · simp [exs, ex, ev, evD, evV, evAnd, evOr, evO, evC, evI, asg, asgs, Ts.len, toD, ↓bind_ap, pure_ap, bad_ap, ite_pp, ite_ap, Rho.get, enter, truth, fin, tidy_bl, cmpV, cmpInt, cmpI, orBad, chk, chk_true, srcOf, Mi.wipe, bltV, toSeq, toL, toLm, idxV, idxSeq, ixAt, binV, sIx, isT, F._law_is_part, h1, h2, h3, c1, c3, c4, partB, eqV, scal, inV, inSeq, ite_res, ne_sr]
    · by_cases c3 : z = "read"
      · subst c3
        by_cases c4 : v = .non
        · subst c4
          simp [exs, ex, ev, evD, evV, evAnd, evOr, evO, evC, evI, asg, asgs, Ts.len, toD, ↓bind_ap, pure_ap, bad_ap, ite_pp, ite_ap, Rho.get, enter, truth, fin, tidy_bl, cmpV, cmpInt, cmpI, orBad, chk, chk_true, srcOf, Mi.wipe, bltV, toSeq, toL, toLm, idxV, idxSeq, ixAt, binV, sIx, isT, F._law_is_part, h1, h2, h3, c1, c2, partB, eqV, scal, inV, inSeq, ite_res, bel]
        · simp [exs, ex, ev, evD, evV, evAnd, evOr, evO, evC, evI, asg, asgs, Ts.len, toD, ↓bind_ap, pure_ap, bad_ap, ite_pp, ite_ap, Rho.get, enter, truth, fin, tidy_bl, cmpV, cmpInt, cmpI, orBad, chk, chk_true, srcOf, Mi.wipe, bltV, toSeq, toL, toLm, idxV, idxSeq, ixAt, binV, sIx, isT, F._law_is_part, h1, h2, h3, c1, c2, c4, partB, eqV, scal, inV, inSeq, ite_res]
      · by_cases c4 : z = "stop"
        · subst c4
          simp [exs, ex, ev, evD, evV, evAnd, evOr, evO, evC, evI, asg, asgs, Ts.len, toD, ↓bind_ap, pure_ap, bad_ap, ite_pp, ite_ap, Rho.get, enter, truth, fin, tidy_bl, cmpV, cmpInt, cmpI, orBad, chk, chk_true, srcOf, Mi.wipe, bltV, toSeq, toL, toLm, idxV, idxSeq, ixAt, binV, sIx, isT, F._law_is_part, h1, h2, h2', h3, c1, c2, c3, partB, eqV, scal, inV, inSeq, ite_res]
        · by_cases c5 : at_ = 1
          · simp [exs, ex, ev, evD, evV, evAnd, evOr, evO, evC, evI, asg, asgs, Ts.len, toD, ↓bind_ap, pure_ap, bad_ap, ite_pp, ite_ap, Rho.get, enter, truth, fin, tidy_bl, cmpV, cmpInt, cmpI, orBad, chk, chk_true, srcOf, Mi.wipe, bltV, toSeq, toL, toLm, idxV, idxSeq, ixAt, binV, sIx, isT, F._law_is_part, h1, h2, h2', h3, c1, c2, c3, c4, c5, partB, eqV, scal, inV, inSeq, ite_res]
          · cases v with
            | tup xs =>
              by_cases d1 : (xs.length : Int) ≤ 4 ∧ (xs.length : Int) ≤ many
              · have l1 := ev_all (C := ⟨P.glob, callF P w (n + 3), w⟩) (e := .call "_law_is_sum" (.cons (.var 5) (.cons (.var 3) .nil)) [] .nil) (t := .name 5) (it := .val (.var 0)) (c := .none) (own := [5]) (ρ := [some (.tup xs), some (.str z), some (.int at_), some (.int many), some (.int size), none])
                  (s := ⟨xs, []⟩) (f := sumB many) (S := S) (evI_var rfl) (by unfold most; show xs.length ≤ _; omega) rfl (fun x hx => by
                    have h2 := law_is_sum_ev (w := w) (n := n) (many := many) (h.tup x hx)
                    simp [exs, ex, ev, evD, evV, evAnd, evOr, evO, evC, evI, asg, asgs, Ts.len, toD, ↓bind_ap, pure_ap, bad_ap, ite_pp, ite_ap, Rho.get, enter, truth, fin, tidy_bl, cmpV, cmpInt, cmpI, orBad, chk, chk_true, srcOf, Mi.wipe, bltV, toSeq, toL, toLm, idxV, idxSeq, ixAt, binV, sIx, isT, lcItem, h2])
                have d2 : (xs.length : Int) ≤ (if many < 4 then many else 4) := by split <;> omega
                cases q : xs.all (sumB many) <;> rw [q] at l1 <;> simp [exs, ex, ev, evD, evV, evAnd, evOr, evO, evC, evI, asg, asgs, Ts.len, toD, ↓bind_ap, pure_ap, bad_ap, ite_pp, ite_ap, Rho.get, enter, truth, fin, tidy_bl, cmpV, cmpInt, cmpI, orBad, chk, chk_true, srcOf, Mi.wipe, bltV, toSeq, toL, toLm, idxV, idxSeq, ixAt, binV, sIx, isT, F._law_is_part, h0, h1, h2, h3, c1, c2, c3, c4, c5, d1, d2, partB, eqV, scal, inV, inSeq, ite_res, sumsB, ↓l1, q]
              · have d2 : ¬ (xs.length : Int) ≤ (if many < 4 then many else 4) := by split <;> omega
                have d3 : (decide ((xs.length : Int) ≤ 4) && decide ((xs.length : Int) ≤ many)) = false := by
                  rw [← Bool.decide_and, decide_eq_false d1]
                simp [exs, ex, ev, evD, evV, evAnd, evOr, evO, evC, evI, asg, asgs, Ts.len, toD, ↓bind_ap, pure_ap, bad_ap, ite_pp, ite_ap, Rho.get, enter, truth, fin, tidy_bl, cmpV, cmpInt, cmpI, orBad, chk, chk_true, srcOf, Mi.wipe, bltV, toSeq, toL, toLm, idxV, idxSeq, ixAt, binV, sIx, isT, F._law_is_part, h0, h1, h2, h3, c1, c2, c3, c4, c5, d2, partB, eqV, scal, inV, inSeq, ite_res, sumsB, d3]
            | _ => simp [exs, ex, ev, evD, evV, evAnd, evOr, evO, evC, evI, asg, asgs, Ts.len, toD, ↓bind_ap, pure_ap, bad_ap, ite_pp, ite_ap, Rho.get, enter, truth, fin, tidy_bl, cmpV, cmpInt, cmpI, orBad, chk, chk_true, srcOf, Mi.wipe, bltV, toSeq, toL, toLm, idxV, idxSeq, ixAt, binV, sIx, isT, F._law_is_part, h0, h1, h2, h3, c1, c2, c3, c4, c5, partB, eqV, scal, inV, inSeq, ite_res, sumsB]
def sizesL : List (D × D) := [(.str "leave", .int 1), (.str "back", .int 1), (.str "stop", .int 2), (.str "read", .int 2), (.str "set", .int 3), (.str "tell", .int 2), (.str "test", .int 2), (.str "go", .int 2), (.str "share", .int 2), (.str "call", .int 3), (.str "jump", .int 3)]
theorem pairs_sizes : pairsIn .k [.str "leave", .int 1, .str "back", .int 1, .str "stop", .int 2, .str "read", .int 2, .str "set", .int 3, .str "tell", .int 2, .str "test", .int 2, .str "go", .int 2, .str "share", .int 2, .str "call", .int 3, .str "jump", .int 3] = some sizesL := by rfl
def sizeOf' (z : Str) : Int := if z = "leave" then 1 else if z = "back" then 1 else if z = "stop" then 2 else if z = "read" then 2 else if z = "set" then 3 else if z = "tell" then 2 else if z = "test" then 2 else if z = "go" then 2 else if z = "share" then 2 else if z = "call" then 3 else if z = "jump" then 3 else 0
theorem dget_sizes (z : Str) : (dget sizesL (.str z)).getD (.int 0) = .int (sizeOf' z) := by
  simp only [sizesL, dget, sizeOf', D.str.injEq, @eq_comm Str _ z]
  repeat (first | rfl | (split; rfl))
end Mi.K61

-- W10
set_option Elab.async false
set_option linter.all false
set_option maxRecDepth 100000
set_option maxHeartbeats 4000000
namespace Mi.K61
open PySem (Str PyData)
open Mi
variable {w n : Nat} {S : Sto}
def partIt (z : Str) (many size : Int) : D → Bool
  | .tup [.int k, x] => partB z (1 + k) many size x
  | _ => false
def lawInstr (many size : Int) : D → Bool
  | .tup (.str z :: r) => decide ((r.length : Int) + 1 = sizeOf' z) && (enumFrom 0 r).all (partIt z many size)
  | _ => false
theorem words (z : Str) : ((z = "leave") = True ∧ (z = "back") = False ∧ (z = "call") = False ∧ (z = "jump") = False ∧ (z = "set") = False ∧ (z = "stop") = False ∧ (z = "read") = False ∧ (z = "tell") = False ∧ (z = "test") = False ∧ (z = "go") = False ∧ (z = "share") = False) ∨ ((z = "leave") = False ∧ (z = "back") = True ∧ (z = "call") = False ∧ (z = "jump") = False ∧ (z = "set") = False ∧ (z = "stop") = False ∧ (z = "read") = False ∧ (z = "tell") = False ∧ (z = "test") = False ∧ (z = "go") = False ∧ (z = "share") = False) ∨ ((z = "leave") = False ∧ (z = "back") = False ∧ (z = "call") = True ∧ (z = "jump") = False ∧ (z = "set") = False ∧ (z = "stop") = False ∧ (z = "read") = False ∧ (z = "tell") = False ∧ (z = "test") = False ∧ (z = "go") = False ∧ (z = "share") = False) ∨ ((z = "leave") = False ∧ (z = "back") = False ∧ (z = "call") = False ∧ (z = "jump") = True ∧ (z = "set") = False ∧ (z = "stop") = False ∧ (z = "read") = False ∧ (z = "tell") = False ∧ (z = "test") = False ∧ (z = "go") = False ∧ (z = "share") = False) ∨ ((z = "leave") = False ∧ (z = "back") = False ∧ (z = "call") = False ∧ (z = "jump") = False ∧ (z = "set") = True ∧ (z = "stop") = False ∧ (z = "read") = False ∧ (z = "tell") = False ∧ (z = "test") = False ∧ (z = "go") = False ∧ (z = "share") = False) ∨ ((z = "leave") = False ∧ (z = "back") = False ∧ (z = "call") = False ∧ (z = "jump") = False ∧ (z = "set") = False ∧ (z = "stop") = True ∧ (z = "read") = False ∧ (z = "tell") = False ∧ (z = "test") = False ∧ (z = "go") = False ∧ (z = "share") = False) ∨ ((z = "leave") = False ∧ (z = "back") = False ∧ (z = "call") = False ∧ (z = "jump") = False ∧ (z = "set") = False ∧ (z = "stop") = False ∧ (z = "read") = True ∧ (z = "tell") = False ∧ (z = "test") = False ∧ (z = "go") = False ∧ (z = "share") = False) ∨ ((z = "leave") = False ∧ (z = "back") = False ∧ (z = "call") = False ∧ (z = "jump") = False ∧ (z = "set") = False ∧ (z = "stop") = False ∧ (z = "read") = False ∧ (z = "tell") = True ∧ (z = "test") = False ∧ (z = "go") = False ∧ (z = "share") = False) ∨ ((z = "leave") = False ∧ (z = "back") = False ∧ (z = "call") = False ∧ (z = "jump") = False ∧ (z = "set") = False ∧ (z = "stop") = False ∧ (z = "read") = False ∧ (z = "tell") = False ∧ (z = "test") = True ∧ (z = "go") = False ∧ (z = "share") = False) ∨ ((z = "leave") = False ∧ (z = "back") = False ∧ (z = "call") = False ∧ (z = "jump") = False ∧ (z = "set") = False ∧ (z = "stop") = False ∧ (z = "read") = False ∧ (z = "tell") = False ∧ (z = "test") = False ∧ (z = "go") = True ∧ (z = "share") = False) ∨ ((z = "leave") = False ∧ (z = "back") = False ∧ (z = "call") = False ∧ (z = "jump") = False ∧ (z = "set") = False ∧ (z = "stop") = False ∧ (z = "read") = False ∧ (z = "tell") = False ∧ (z = "test") = False ∧ (z = "go") = False ∧ (z = "share") = True) ∨ ((z = "leave") = False ∧ (z = "back") = False ∧ (z = "call") = False ∧ (z = "jump") = False ∧ (z = "set") = False ∧ (z = "stop") = False ∧ (z = "read") = False ∧ (z = "tell") = False ∧ (z = "test") = False ∧ (z = "go") = False ∧ (z = "share") = False) := by
  by_cases c0 : z = "leave"
  · subst c0
    exact Or.inl ⟨eq_true rfl, eq_false (by decide +kernel), eq_false (by decide +kernel), eq_false (by decide +kernel), eq_false (by decide +kernel), eq_false (by decide +kernel), eq_false (by decide +kernel), eq_false (by decide +kernel), eq_false (by decide +kernel), eq_false (by decide +kernel), eq_false (by decide +kernel)⟩
  by_cases c1 : z = "back"
  · subst c1
    exact Or.inr (Or.inl ⟨eq_false (by decide +kernel), eq_true rfl, eq_false (by decide +kernel), eq_false (by decide +kernel), eq_false (by decide +kernel), eq_false (by decide +kernel), eq_false (by decide +kernel), eq_false (by decide +kernel), eq_false (by decide +kernel), eq_false (by decide +kernel), eq_false (by decide +kernel)⟩)
  by_cases c2 : z = "call"
  · subst c2
    exact Or.inr (Or.inr (Or.inl ⟨eq_false (by decide +kernel), eq_false (by decide +kernel), eq_true rfl, eq_false (by decide +kernel), eq_false (by decide +kernel), eq_false (by decide +kernel), eq_false (by decide +kernel), eq_false (by decide +kernel), eq_false (by decide +kernel), eq_false (by decide +kernel), eq_false (by decide +kernel)⟩))
  by_cases c3 : z = "jump"
  · subst c3
    exact Or.inr (Or.inr (Or.inr (Or.inl ⟨eq_false (by decide +kernel), eq_false (by decide +kernel), eq_false (by decide +kernel), eq_true rfl, eq_false (by decide +kernel), eq_false (by decide +kernel), eq_false (by decide +kernel), eq_false (by decide +kernel), eq_false (by decide +kernel), eq_false (by decide +kernel), eq_false (by decide +kernel)⟩)))
  by_cases c4 : z = "set"
  · subst c4
    exact Or.inr (Or.inr (Or.inr (Or.inr (Or.inl ⟨eq_false (by decide +kernel), eq_false (by decide +kernel), eq_false (by decide +kernel), eq_false (by decide +kernel), eq_true rfl, eq_false (by decide +kernel), eq_false (by decide +kernel), eq_false (by decide +kernel), eq_false (by decide +kernel), eq_false (by decide +kernel), eq_false (by decide +kernel)⟩))))
  by_cases c5 : z = "stop"
  · subst c5
    exact Or.inr (Or.inr (Or.inr (Or.inr (Or.inr (Or.inl ⟨eq_false (by decide +kernel), eq_false (by decide +kernel), eq_false (by decide +kernel), eq_false (by decide +kernel), eq_false (by decide +kernel), eq_true rfl, eq_false (by decide +kernel), eq_false (by decide +kernel), eq_false (by decide +kernel), eq_false (by decide +kernel), eq_false (by decide +kernel)⟩)))))
  by_cases c6 : z = "read"
  · subst c6
    exact Or.inr (Or.inr (Or.inr (Or.inr (Or.inr (Or.inr (Or.inl ⟨eq_false (by decide +kernel), eq_false (by decide +kernel), eq_false (by decide +kernel), eq_false (by decide +kernel), eq_false (by decide +kernel), eq_false (by decide +kernel), eq_true rfl, eq_false (by decide +kernel), eq_false (by decide +kernel), eq_false (by decide +kernel), eq_false (by decide +kernel)⟩))))))
  by_cases c7 : z = "tell"
  · subst c7
    exact Or.inr (Or.inr (Or.inr (Or.inr (Or.inr (Or.inr (Or.inr (Or.inl ⟨eq_false (by decide +kernel), eq_false (by decide +kernel), eq_false (by decide +kernel), eq_false (by decide +kernel), eq_false (by decide +kernel), eq_false (by decide +kernel), eq_false (by decide +kernel), eq_true rfl, eq_false (by decide +kernel), eq_false (by decide +kernel), eq_false (by decide +kernel)⟩)))))))
  by_cases c8 : z = "test"
  · subst c8
    exact Or.inr (Or.inr (Or.inr (Or.inr (Or.inr (Or.inr (Or.inr (Or.inr (Or.inl ⟨eq_false (by decide +kernel), eq_false (by decide +kernel), eq_false (by decide +kernel), eq_false (by decide +kernel), eq_false (by decide +kernel), eq_false (by decide +kernel), eq_false (by decide +kernel), eq_false (by decide +kernel), eq_true rfl, eq_false (by decide +kernel), eq_false (by decide +kernel)⟩))))))))
  by_cases c9 : z = "go"
  · subst c9
    exact Or.inr (Or.inr (Or.inr (Or.inr (Or.inr (Or.inr (Or.inr (Or.inr (Or.inr (Or.inl ⟨eq_false (by decide +kernel), eq_false (by decide +kernel), eq_false (by decide +kernel), eq_false (by decide +kernel), eq_false (by decide +kernel), eq_false (by decide +kernel), eq_false (by decide +kernel), eq_false (by decide +kernel), eq_false (by decide +kernel), eq_true rfl, eq_false (by decide +kernel)⟩)))))))))
  by_cases c10 : z = "share"
  · subst c10
    exact Or.inr (Or.inr (Or.inr (Or.inr (Or.inr (Or.inr (Or.inr (Or.inr (Or.inr (Or.inr (Or.inl ⟨eq_false (by decide +kernel), eq_false (by decide +kernel), eq_false (by decide +kernel), eq_false (by decide +kernel), eq_false (by decide +kernel), eq_false (by decide +kernel), eq_false (by decide +kernel), eq_false (by decide +kernel), eq_false (by decide +kernel), eq_false (by decide +kernel), eq_true rfl⟩))))))))))
  exact Or.inr (Or.inr (Or.inr (Or.inr (Or.inr (Or.inr (Or.inr (Or.inr (Or.inr (Or.inr (Or.inr ⟨eq_false c0, eq_false c1, eq_false c2, eq_false c3, eq_false c4, eq_false c5, eq_false c6, eq_false c7, eq_false c8, eq_false c9, eq_false c10⟩))))))))))
theorem lawInstr_eq {many size : Int} (d : D) : lawInstr many size d = instrB many size d := by
  cases d with
  | tup xs =>
    cases xs with
    | nil => rfl
    | cons x r =>
      cases x with
      | str z =>
        unfold lawInstr instrB sizeOf'
        match r with
        | [] => rcases words z with ⟨c0, c1, c2, c3, c4, c5, c6, c7, c8, c9, c10⟩ | ⟨c0, c1, c2, c3, c4, c5, c6, c7, c8, c9, c10⟩ | ⟨c0, c1, c2, c3, c4, c5, c6, c7, c8, c9, c10⟩ | ⟨c0, c1, c2, c3, c4, c5, c6, c7, c8, c9, c10⟩ | ⟨c0, c1, c2, c3, c4, c5, c6, c7, c8, c9, c10⟩ | ⟨c0, c1, c2, c3, c4, c5, c6, c7, c8, c9, c10⟩ | ⟨c0, c1, c2, c3, c4, c5, c6, c7, c8, c9, c10⟩ | ⟨c0, c1, c2, c3, c4, c5, c6, c7, c8, c9, c10⟩ | ⟨c0, c1, c2, c3, c4, c5, c6, c7, c8, c9, c10⟩ | ⟨c0, c1, c2, c3, c4, c5, c6, c7, c8, c9, c10⟩ | ⟨c0, c1, c2, c3, c4, c5, c6, c7, c8, c9, c10⟩ | ⟨c0, c1, c2, c3, c4, c5, c6, c7, c8, c9, c10⟩ <;> simp [c0, c1, c2, c3, c4, c5, c6, c7, c8, c9, c10, enumFrom]
        | [a] => rcases words z with ⟨c0, c1, c2, c3, c4, c5, c6, c7, c8, c9, c10⟩ | ⟨c0, c1, c2, c3, c4, c5, c6, c7, c8, c9, c10⟩ | ⟨c0, c1, c2, c3, c4, c5, c6, c7, c8, c9, c10⟩ | ⟨c0, c1, c2, c3, c4, c5, c6, c7, c8, c9, c10⟩ | ⟨c0, c1, c2, c3, c4, c5, c6, c7, c8, c9, c10⟩ | ⟨c0, c1, c2, c3, c4, c5, c6, c7, c8, c9, c10⟩ | ⟨c0, c1, c2, c3, c4, c5, c6, c7, c8, c9, c10⟩ | ⟨c0, c1, c2, c3, c4, c5, c6, c7, c8, c9, c10⟩ | ⟨c0, c1, c2, c3, c4, c5, c6, c7, c8, c9, c10⟩ | ⟨c0, c1, c2, c3, c4, c5, c6, c7, c8, c9, c10⟩ | ⟨c0, c1, c2, c3, c4, c5, c6, c7, c8, c9, c10⟩ | ⟨c0, c1, c2, c3, c4, c5, c6, c7, c8, c9, c10⟩ <;> simp [c0, c1, c2, c3, c4, c5, c6, c7, c8, c9, c10, enumFrom, partIt, partB]
        | [a, b] => rcases words z with ⟨c0, c1, c2, c3, c4, c5, c6, c7, c8, c9, c10⟩ | ⟨c0, c1, c2, c3, c4, c5, c6, c7, c8, c9, c10⟩ | ⟨c0, c1, c2, c3, c4, c5, c6, c7, c8, c9, c10⟩ | ⟨c0, c1, c2, c3, c4, c5, c6, c7, c8, c9, c10⟩ | ⟨c0, c1, c2, c3, c4, c5, c6, c7, c8, c9, c10⟩ | ⟨c0, c1, c2, c3, c4, c5, c6, c7, c8, c9, c10⟩ | ⟨c0, c1, c2, c3, c4, c5, c6, c7, c8, c9, c10⟩ | ⟨c0, c1, c2, c3, c4, c5, c6, c7, c8, c9, c10⟩ | ⟨c0, c1, c2, c3, c4, c5, c6, c7, c8, c9, c10⟩ | ⟨c0, c1, c2, c3, c4, c5, c6, c7, c8, c9, c10⟩ | ⟨c0, c1, c2, c3, c4, c5, c6, c7, c8, c9, c10⟩ | ⟨c0, c1, c2, c3, c4, c5, c6, c7, c8, c9, c10⟩ <;> simp [c0, c1, c2, c3, c4, c5, c6, c7, c8, c9, c10, enumFrom, partIt, partB]
        | a :: b :: c :: r =>
          have e1 : ¬ ((r.length : Int) + 1 + 1 + 1 + 1 = 1) := by omega
          have e2 : ¬ ((r.length : Int) + 1 + 1 + 1 + 1 = 2) := by omega
          have e3 : ¬ ((r.length : Int) + 1 + 1 + 1 + 1 = 3) := by omega
          have e4 : ¬ ((r.length : Int) + 1 + 1 + 1 + 1 = 0) := by omega
          rcases words z with ⟨c0, c1, c2, c3, c4, c5, c6, c7, c8, c9, c10⟩ | ⟨c0, c1, c2, c3, c4, c5, c6, c7, c8, c9, c10⟩ | ⟨c0, c1, c2, c3, c4, c5, c6, c7, c8, c9, c10⟩ | ⟨c0, c1, c2, c3, c4, c5, c6, c7, c8, c9, c10⟩ | ⟨c0, c1, c2, c3, c4, c5, c6, c7, c8, c9, c10⟩ | ⟨c0, c1, c2, c3, c4, c5, c6, c7, c8, c9, c10⟩ | ⟨c0, c1, c2, c3, c4, c5, c6, c7, c8, c9, c10⟩ | ⟨c0, c1, c2, c3, c4, c5, c6, c7, c8, c9, c10⟩ | ⟨c0, c1, c2, c3, c4, c5, c6, c7, c8, c9, c10⟩ | ⟨c0, c1, c2, c3, c4, c5, c6, c7, c8, c9, c10⟩ | ⟨c0, c1, c2, c3, c4, c5, c6, c7, c8, c9, c10⟩ | ⟨c0, c1, c2, c3, c4, c5, c6, c7, c8, c9, c10⟩ <;> simp [c0, c1, c2, c3, c4, c5, c6, c7, c8, c9, c10, e1, e2, e3, e4]
      | _ => rfl
  | _ => rfl
theorem enum_mem : ∀ {k : Nat} {r : List D} {x : D}, x ∈ enumFrom k r → ∃ (j : Nat) (y : D), y ∈ r ∧ x = .tup [.int j, y]
  | k, [], x, h => nomatch h
  | k, y :: r, x, h => by
    unfold enumFrom at h
    rcases List.mem_cons.mp h with h | h
    · exact ⟨k, y, List.mem_cons_self, h⟩
    · obtain ⟨j, z, h1, h2⟩ := enum_mem h
      exact ⟨j, z, List.mem_cons_of_mem _ h1, h2⟩
theorem enum_len : ∀ {k : Nat} {r : List D}, (enumFrom k r).length = r.length
  | k, [] => rfl
  | k, y :: r => by unfold enumFrom; rw [List.length_cons, enum_len, List.length_cons]
theorem sizeOf_le (z : Str) : sizeOf' z ≤ 3 := by
  unfold sizeOf'
  repeat (first | decide | (split))
theorem cut_tail (x : D) (r : List D) : cut (x :: r) (some 1) none = r := by
  unfold cut
  simp [sIx]
theorem law_is_instruction_ev {d : D} {many size : Int} (h : Ok S d) : callF P w (n + 5) "_law_is_instruction" [d, .int many, .int size] [] [] S = .ok (.d (.bl (lawInstr many size d))) S := by
  rw [callF_pos h__law_is_instruction (by decide) rfl]
  have hS : (S ++ [Cell.dic .k sizesL])[S.length]? = some (.dic .k sizesL) := by simp
  have hd : dicAt S.length (S ++ [Cell.dic .k sizesL]) = .ok (.k, sizesL) (S ++ [Cell.dic .k sizesL]) := by
    unfold dicAt
    rw [hS]
  have h := ok_more [Cell.dic .k sizesL] h
  have ht := tidy_more S [Cell.dic .k sizesL]
  generalize hS' : S ++ [Cell.dic .k sizesL] = S' at h ht hd
  have h0 := isi_ok h .tuple
  cases d with
  | tup xs =>
    have h1 := eq_nilD h
    cases xs with
    | nil => simp [exs, ex, ev, evD, evV, evAnd, evOr, evO, evC, evI, asg, asgs, Ts.len, toD, ↓bind_ap, pure_ap, bad_ap, ite_pp, ite_ap, Rho.get, enter, truth, fin, tidy_bl, cmpV, cmpInt, cmpI, orBad, chk, chk_true, srcOf, Mi.wipe, bltV, toSeq, toL, toLm, idxV, idxSeq, ixAt, binV, sIx, isT, F._law_is_instruction, pairs_sizes, alloc, hS', ht, h0, h1, lawInstr, eqV, scal]
    | cons x r =>
      have hx := Ok.tup h x List.mem_cons_self
      have h2 := isi_ok hx .str
      have e0 : (0 : Int) < (r.length : Int) + 1 := by omega
      cases x with
      | str z =>
        have ds := dget_sizes z
        by_cases c : (r.length : Int) + 1 = sizeOf' z
        · have e1 : 0 < sizeOf' z := by omega
          have hl : r.length ≤ 2 := by have := sizeOf_le z; omega
          have l1 := ev_all (C := ⟨P.glob, callF P w (n + 4), w⟩) (e := .call "_law_is_part" (.cons (.var 5) (.cons (.idx (.var 0) (.int 0)) (.cons (.bin .add (.int 1) (.var 4)) (.cons (.var 1) (.cons (.var 2) .nil))))) [] .nil) (t := .tup (.cons (.name 4) (.cons (.name 5) .nil))) (it := .enum (.slc (.var 0) (.some (.int 1)) .none)) (c := .none) (own := [4, 5])
            (ρ := [some (.tup (.str z :: r)), some (.int many), some (.int size), some (.ref S.length), none, none])
            (s := ⟨enumFrom 0 r, []⟩) (f := partIt z many size) (S := S') (by simp [exs, ex, ev, evD, evV, evAnd, evOr, evO, evC, evI, asg, asgs, Ts.len, toD, ↓bind_ap, pure_ap, bad_ap, ite_pp, ite_ap, Rho.get, enter, truth, fin, tidy_bl, cmpV, cmpInt, cmpI, orBad, chk, chk_true, srcOf, Mi.wipe, bltV, toSeq, toL, toLm, idxV, idxSeq, ixAt, binV, sIx, isT, slc_tup, cut_tail]) (by show (enumFrom 0 r).length ≤ most; rw [enum_len]; unfold most; omega) rfl (fun x hx' => by
              obtain ⟨j, y, hy, rfl⟩ := enum_mem hx'
              have h2 := law_is_part_ev (w := w) (n := n) (at_ := 1 + (j : Int)) (many := many) (size := size) (Ok.tup h y (List.mem_cons_of_mem _ hy)) hx
              simp [exs, ex, ev, evD, evV, evAnd, evOr, evO, evC, evI, asg, asgs, Ts.len, toD, ↓bind_ap, pure_ap, bad_ap, ite_pp, ite_ap, Rho.get, enter, truth, fin, tidy_bl, cmpV, cmpInt, cmpI, orBad, chk, chk_true, srcOf, Mi.wipe, bltV, toSeq, toL, toLm, idxV, idxSeq, ixAt, binV, sIx, isT, lcItem, e0, h2, partIt])
          cases q : (enumFrom 0 r).all (partIt z many size) <;> rw [q] at l1 <;> simp [exs, ex, ev, evD, evV, evAnd, evOr, evO, evC, evI, asg, asgs, Ts.len, toD, ↓bind_ap, pure_ap, bad_ap, ite_pp, ite_ap, Rho.get, enter, truth, fin, tidy_bl, cmpV, cmpInt, cmpI, orBad, chk, chk_true, srcOf, Mi.wipe, bltV, toSeq, toL, toLm, idxV, idxSeq, ixAt, binV, sIx, isT, F._law_is_instruction, pairs_sizes, alloc, hS', ht, h0, h1, h2, lawInstr, eqV, scal, ↓l1, q, c, e0, e1, rcv, hd, mthV, keyOk, plainK, ds]
        · simp [exs, ex, ev, evD, evV, evAnd, evOr, evO, evC, evI, asg, asgs, Ts.len, toD, ↓bind_ap, pure_ap, bad_ap, ite_pp, ite_ap, Rho.get, enter, truth, fin, tidy_bl, cmpV, cmpInt, cmpI, orBad, chk, chk_true, srcOf, Mi.wipe, bltV, toSeq, toL, toLm, idxV, idxSeq, ixAt, binV, sIx, isT, F._law_is_instruction, pairs_sizes, alloc, hS', ht, h0, h1, h2, lawInstr, eqV, scal, c, e0, rcv, hd, mthV, keyOk, plainK, ds]
      | _ => simp [exs, ex, ev, evD, evV, evAnd, evOr, evO, evC, evI, asg, asgs, Ts.len, toD, ↓bind_ap, pure_ap, bad_ap, ite_pp, ite_ap, Rho.get, enter, truth, fin, tidy_bl, cmpV, cmpInt, cmpI, orBad, chk, chk_true, srcOf, Mi.wipe, bltV, toSeq, toL, toLm, idxV, idxSeq, ixAt, binV, sIx, isT, F._law_is_instruction, pairs_sizes, alloc, hS', ht, h0, h1, h2, lawInstr, eqV, scal, e0]
  | _ => simp [exs, ex, ev, evD, evV, evAnd, evOr, evO, evC, evI, asg, asgs, Ts.len, toD, ↓bind_ap, pure_ap, bad_ap, ite_pp, ite_ap, Rho.get, enter, truth, fin, tidy_bl, cmpV, cmpInt, cmpI, orBad, chk, chk_true, srcOf, Mi.wipe, bltV, toSeq, toL, toLm, idxV, idxSeq, ixAt, binV, sIx, isT, F._law_is_instruction, pairs_sizes, alloc, hS', ht, h0, lawInstr, eqV, scal]
end Mi.K61

-- W11
set_option Elab.async false
set_option linter.all false
set_option maxRecDepth 100000
set_option maxHeartbeats 4000000
namespace Mi.K61
open PySem (Str PyData)
open Mi
variable {w n : Nat} {S : Sto}
def endB : D → Bool
  | .tup (.str z :: _) => decide (z ∈ (["leave", "back", "stop", "go", "jump"] : List Str))
  | _ => false
def lineIs (m : D) (is : List D) : Bool := match m with
  | .int many => decide (1 ≤ is.length) && decide (is.length ≤ 1000) && is.all (instrB many is.length) && endB (is.getLastD .non)
  | _ => false
def lineB : D → Bool
  | .tup [h, m, .tup is] => decide (h = .str "line") && bel 9 m && lineIs m is
  | _ => false
theorem ixAt_last {is : List D} (h : 1 ≤ is.length) : ixAt is (-1) = some (is.getLastD .non) := by
  unfold ixAt
  rw [if_neg (by decide), if_pos (by omega)]
  have e : (-1 + (is.length : Int)).toNat = is.length - 1 := by omega
  rw [e]
  cases is with
  | nil => cases h
  | cons a r =>
    rw [List.getLastD_cons]
    have : (a :: r).getLast? = (a :: r)[(a :: r).length - 1]? := List.getLast?_eq_getElem? ..
    rw [← this]
    rw [List.getLast?_cons, ← List.getLastD_eq_getLast?]
theorem last_mem {is : List D} (h : 1 ≤ is.length) : is.getLastD .non ∈ is := by
  cases is with
  | nil => cases h
  | cons a r =>
    rw [List.getLastD_cons]
    cases r with
    | nil => simp
    | cons b r =>
      rw [List.getLastD_eq_getLast?, List.getLast?_eq_some_getLast (by simp)]
      exact List.mem_cons_of_mem _ (List.getLast_mem _)
theorem instrB_tup {many size : Int} {d : D} (h : instrB many size d = true) : ∃ z r, d = .tup (.str z :: r) := by
  unfold instrB at h
  split at h
  · exact ⟨_, _, rfl⟩
  · cases h
theorem bel_int {m : Int} {d : D} (h : bel m d = true) : ∃ i, d = .int i := by
  cases d with
  | int i => exact ⟨i, rfl⟩
  | _ => cases h
theorem line_ok : PyData.strOk "line" = true := by decide +kernel
theorem is_line_ev {d : D} (h : Wk S 20000 d) : callF P w (n + 6) "is_line" [d] [] [] S = .ok (.d (.bl (lineB d))) S := by
  rw [callF_pos h_is_line (by decide) rfl]
  have h1 := is_tuple_of_ev (w := w) (n := n + 4) (m := 3) h.ok
  cases d with
  | tup xs =>
    match xs, h, h1 with
    | [], h, h1 => simp [exs, ex, ev, evD, evV, evAnd, evOr, evO, evC, evI, asg, asgs, Ts.len, toD, ↓bind_ap, pure_ap, bad_ap, ite_pp, ite_ap, Rho.get, enter, truth, fin, tidy_bl, cmpV, cmpInt, cmpI, orBad, chk, chk_true, srcOf, Mi.wipe, bltV, toSeq, toL, toLm, idxV, idxSeq, ixAt, binV, sIx, isT, F.is_line, h1, tupN, lineB]
    | [a], h, h1 => simp [exs, ex, ev, evD, evV, evAnd, evOr, evO, evC, evI, asg, asgs, Ts.len, toD, ↓bind_ap, pure_ap, bad_ap, ite_pp, ite_ap, Rho.get, enter, truth, fin, tidy_bl, cmpV, cmpInt, cmpI, orBad, chk, chk_true, srcOf, Mi.wipe, bltV, toSeq, toL, toLm, idxV, idxSeq, ixAt, binV, sIx, isT, F.is_line, h1, tupN, lineB]
    | [a, b], h, h1 => simp [exs, ex, ev, evD, evV, evAnd, evOr, evO, evC, evI, asg, asgs, Ts.len, toD, ↓bind_ap, pure_ap, bad_ap, ite_pp, ite_ap, Rho.get, enter, truth, fin, tidy_bl, cmpV, cmpInt, cmpI, orBad, chk, chk_true, srcOf, Mi.wipe, bltV, toSeq, toL, toLm, idxV, idxSeq, ixAt, binV, sIx, isT, F.is_line, h1, tupN, lineB]
    | a :: b :: c :: e' :: r, h, h1 =>
      have e : ¬ ((((a :: b :: c :: e' :: r).length : Nat) : Int) = 3) := by simp; omega
      have h1 : callF P w (n + 5) "is_tuple_of" [.tup (a :: b :: c :: e' :: r), .int 3] [] [] S = .ok (.d (.bl false)) S := by rw [h1]; simp only [tupN, e]; rfl
      simp [exs, ex, ev, evD, evV, evAnd, evOr, evO, evC, evI, asg, asgs, Ts.len, toD, ↓bind_ap, pure_ap, bad_ap, ite_pp, ite_ap, Rho.get, enter, truth, fin, tidy_bl, cmpV, cmpInt, cmpI, orBad, chk, chk_true, srcOf, Mi.wipe, bltV, toSeq, toL, toLm, idxV, idxSeq, ixAt, binV, sIx, isT, F.is_line, h1, lineB]
    | [a, b, c], h, h1 =>
      have ha := (h.tup.2 a (by simp)).ok
      have hb := (h.tup.2 b (by simp)).ok
      have hc := h.tup.2 c (by simp)
      have h2 := eq_str ha line_ok
      have h3 := is_below_ev (w := w) (n := n + 2) (m := 9) hb
      have h4 := isi_ok hc.ok .tuple
      by_cases c1 : a = .str "line"
      · subst c1
        cases c2 : bel 9 b with
        | false =>
          rw [c2] at h3
          have e : lineB (.tup [.str "line", b, c]) = false := by cases c <;> simp [lineB, c2]
          simp [exs, ex, ev, evD, evV, evAnd, evOr, evO, evC, evI, asg, asgs, Ts.len, toD, ↓bind_ap, pure_ap, bad_ap, ite_pp, ite_ap, Rho.get, enter, truth, fin, tidy_bl, cmpV, cmpInt, cmpI, orBad, chk, chk_true, srcOf, Mi.wipe, bltV, toSeq, toL, toLm, idxV, idxSeq, ixAt, binV, sIx, isT, F.is_line, h1, tupN, eqV, scal, h3, g_MOST_SLOTS, e]
        | true =>
          rw [c2] at h3
          obtain ⟨many, rfl⟩ := bel_int c2
          cases c with
          | tup is =>
            by_cases l1 : 1 ≤ is.length
            · have l1' : (1 : Int) ≤ (is.length : Int) := by omega
              have ix := ixAt_last l1
              have lm := last_mem l1
              by_cases l2 : is.length ≤ 1000
              · have l2' : (is.length : Int) ≤ 1000 := by omega
                have al := ev_all (C := ⟨P.glob, callF P w (n + 5), w⟩) (e := .call "is_instruction" (.cons (.var 3) (.cons (.var 1) (.cons (.blt .len (.cons (.var 2) .nil)) .nil))) [] .nil) (t := .name 3) (it := .val (.var 2)) (c := .none) (own := [3])
                  (ρ := [some (.tup [.str "line", .int many, .tup is]), some (.int many), some (.tup is), none])
                  (s := ⟨is, []⟩) (f := instrB many is.length) (S := S) (evI_var rfl) (by show is.length ≤ most; unfold most; omega) rfl (fun x hx => by
                    have h2 := is_instruction_ev (w := w) (n := n) (many := many) (size := is.length) (hc.tup.2 x hx)
                    simp [exs, ex, ev, evD, evV, evAnd, evOr, evO, evC, evI, asg, asgs, Ts.len, toD, ↓bind_ap, pure_ap, bad_ap, ite_pp, ite_ap, Rho.get, enter, truth, fin, tidy_bl, cmpV, cmpInt, cmpI, orBad, chk, chk_true, srcOf, Mi.wipe, bltV, toSeq, toL, toLm, idxV, idxSeq, ixAt, binV, sIx, isT, lcItem, h2])
                cases q : is.all (instrB many is.length) with
                | false =>
                  rw [q] at al
                  have e : lineB (.tup [.str "line", .int many, .tup is]) = false := by simp [lineB, lineIs, q]
                  simp [exs, ex, ev, evD, evV, evAnd, evOr, evO, evC, evI, asg, asgs, Ts.len, toD, ↓bind_ap, pure_ap, bad_ap, ite_pp, ite_ap, Rho.get, enter, truth, fin, tidy_bl, cmpV, cmpInt, cmpI, orBad, chk, chk_true, srcOf, Mi.wipe, bltV, toSeq, toL, toLm, idxV, idxSeq, ixAt, binV, sIx, isT, F.is_line, h1, tupN, eqV, scal, h3, h4, g_MOST_SLOTS, g_MOST_INSTRUCTIONS, l1', l2', ↓al, e]
                | true =>
                  rw [q] at al
                  obtain ⟨z, r, el⟩ := instrB_tup (List.all_eq_true.mp q _ lm)
                  have me := mem_ends (Ok.tup (by rw [← el]; exact (hc.tup.2 _ lm).ok : Ok S (.tup (.str z :: r))) _ List.mem_cons_self)
                  have e : lineB (.tup [.str "line", .int many, .tup is]) = endB (is.getLastD .non) := by simp [lineB, lineIs, q, c2, l1, l2]
                  rw [el] at e ix
                  have e0 : (0 : Int) < (r.length : Int) + 1 := by omega
                  rw [e]
                  unfold ixAt at ix
                  rw [if_neg (by decide), if_pos (by omega)] at ix
                  simp [exs, ex, ev, evD, evV, evAnd, evOr, evO, evC, evI, asg, asgs, Ts.len, toD, ↓bind_ap, pure_ap, bad_ap, ite_pp, ite_ap, Rho.get, enter, truth, fin, tidy_bl, cmpV, cmpInt, cmpI, orBad, chk, chk_true, srcOf, Mi.wipe, bltV, toSeq, toL, toLm, idxV, idxSeq, ixAt, binV, sIx, isT, F.is_line, h1, tupN, eqV, scal, h3, h4, g_MOST_SLOTS, g_MOST_INSTRUCTIONS, g_ENDS, l1', l2', ↓al, ix, e0, me, inV, inSeq, endB]
              · have l2' : ¬ (is.length : Int) ≤ 1000 := by omega
                have e : lineB (.tup [.str "line", .int many, .tup is]) = false := by simp [lineB, lineIs, l2]
                simp [exs, ex, ev, evD, evV, evAnd, evOr, evO, evC, evI, asg, asgs, Ts.len, toD, ↓bind_ap, pure_ap, bad_ap, ite_pp, ite_ap, Rho.get, enter, truth, fin, tidy_bl, cmpV, cmpInt, cmpI, orBad, chk, chk_true, srcOf, Mi.wipe, bltV, toSeq, toL, toLm, idxV, idxSeq, ixAt, binV, sIx, isT, F.is_line, h1, tupN, eqV, scal, h3, h4, g_MOST_SLOTS, g_MOST_INSTRUCTIONS, l1', l2', e]
            · have l1' : ¬ (1 : Int) ≤ (is.length : Int) := by omega
              have e : lineB (.tup [.str "line", .int many, .tup is]) = false := by simp [lineB, lineIs, l1]
              simp [exs, ex, ev, evD, evV, evAnd, evOr, evO, evC, evI, asg, asgs, Ts.len, toD, ↓bind_ap, pure_ap, bad_ap, ite_pp, ite_ap, Rho.get, enter, truth, fin, tidy_bl, cmpV, cmpInt, cmpI, orBad, chk, chk_true, srcOf, Mi.wipe, bltV, toSeq, toL, toLm, idxV, idxSeq, ixAt, binV, sIx, isT, F.is_line, h1, tupN, eqV, scal, h3, h4, g_MOST_SLOTS, g_MOST_INSTRUCTIONS, l1', e]
          | _ => simp [exs, ex, ev, evD, evV, evAnd, evOr, evO, evC, evI, asg, asgs, Ts.len, toD, ↓bind_ap, pure_ap, bad_ap, ite_pp, ite_ap, Rho.get, enter, truth, fin, tidy_bl, cmpV, cmpInt, cmpI, orBad, chk, chk_true, srcOf, Mi.wipe, bltV, toSeq, toL, toLm, idxV, idxSeq, ixAt, binV, sIx, isT, F.is_line, h1, tupN, eqV, scal, h3, h4, g_MOST_SLOTS, lineB]
      · have e : lineB (.tup [a, b, c]) = false := by cases c <;> simp [lineB, c1]
        simp [exs, ex, ev, evD, evV, evAnd, evOr, evO, evC, evI, asg, asgs, Ts.len, toD, ↓bind_ap, pure_ap, bad_ap, ite_pp, ite_ap, Rho.get, enter, truth, fin, tidy_bl, cmpV, cmpInt, cmpI, orBad, chk, chk_true, srcOf, Mi.wipe, bltV, toSeq, toL, toLm, idxV, idxSeq, ixAt, binV, sIx, isT, F.is_line, h1, tupN, ↓h2, c1, e]
  | _ => simp [exs, ex, ev, evD, evV, evAnd, evOr, evO, evC, evI, asg, asgs, Ts.len, toD, ↓bind_ap, pure_ap, bad_ap, ite_pp, ite_ap, Rho.get, enter, truth, fin, tidy_bl, cmpV, cmpInt, cmpI, orBad, chk, chk_true, srcOf, Mi.wipe, bltV, toSeq, toL, toLm, idxV, idxSeq, ixAt, binV, sIx, isT, F.is_line, h1, tupN, lineB]
theorem law_due_ev {d : D} (h : Ok S d) : callF P w (n + 6) "_law_due" [d] [] [] S = .ok (.d (.bl (lineB d))) S := by
  rw [callF_pos h__law_due (by decide) rfl]
  have h1 := isi_ok h .tuple
  cases d with
  | tup xs =>
    match xs, h, h1 with
    | [], h, h1 => simp [exs, ex, ev, evD, evV, evAnd, evOr, evO, evC, evI, asg, asgs, Ts.len, toD, ↓bind_ap, pure_ap, bad_ap, ite_pp, ite_ap, Rho.get, enter, truth, fin, tidy_bl, cmpV, cmpInt, cmpI, orBad, chk, chk_true, srcOf, Mi.wipe, bltV, toSeq, toL, toLm, idxV, idxSeq, ixAt, binV, sIx, isT, F._law_due, h1, lineB, eqV, scal]
    | [a], h, h1 => simp [exs, ex, ev, evD, evV, evAnd, evOr, evO, evC, evI, asg, asgs, Ts.len, toD, ↓bind_ap, pure_ap, bad_ap, ite_pp, ite_ap, Rho.get, enter, truth, fin, tidy_bl, cmpV, cmpInt, cmpI, orBad, chk, chk_true, srcOf, Mi.wipe, bltV, toSeq, toL, toLm, idxV, idxSeq, ixAt, binV, sIx, isT, F._law_due, h1, lineB, eqV, scal]
    | [a, b], h, h1 => simp [exs, ex, ev, evD, evV, evAnd, evOr, evO, evC, evI, asg, asgs, Ts.len, toD, ↓bind_ap, pure_ap, bad_ap, ite_pp, ite_ap, Rho.get, enter, truth, fin, tidy_bl, cmpV, cmpInt, cmpI, orBad, chk, chk_true, srcOf, Mi.wipe, bltV, toSeq, toL, toLm, idxV, idxSeq, ixAt, binV, sIx, isT, F._law_due, h1, lineB, eqV, scal]
    | a :: b :: c :: e' :: r, h, h1 =>
      have e : ¬ ((r.length : Int) + 1 + 1 + 1 + 1 = 3) := by omega
      simp [exs, ex, ev, evD, evV, evAnd, evOr, evO, evC, evI, asg, asgs, Ts.len, toD, ↓bind_ap, pure_ap, bad_ap, ite_pp, ite_ap, Rho.get, enter, truth, fin, tidy_bl, cmpV, cmpInt, cmpI, orBad, chk, chk_true, srcOf, Mi.wipe, bltV, toSeq, toL, toLm, idxV, idxSeq, ixAt, binV, sIx, isT, F._law_due, h1, lineB, eqV, scal, e]
    | [a, b, c], h, h1 =>
      have ha := h.tup a (by simp)
      have hb := h.tup b (by simp)
      have hc := h.tup c (by simp)
      have h2 := eq_str ha line_ok
      have h3 := law_is_count_ev (w := w) (n := n + 3) (m := 8) hb
      have h4 := isi_ok hc .tuple
      rw [show (8 + 1 : Int) = 9 from rfl] at h3
      by_cases c1 : a = .str "line"
      · subst c1
        cases c2 : bel 9 b with
        | false =>
          rw [c2] at h3
          have e : lineB (.tup [.str "line", b, c]) = false := by cases c <;> simp [lineB, c2]
          simp [exs, ex, ev, evD, evV, evAnd, evOr, evO, evC, evI, asg, asgs, Ts.len, toD, ↓bind_ap, pure_ap, bad_ap, ite_pp, ite_ap, Rho.get, enter, truth, fin, tidy_bl, cmpV, cmpInt, cmpI, orBad, chk, chk_true, srcOf, Mi.wipe, bltV, toSeq, toL, toLm, idxV, idxSeq, ixAt, binV, sIx, isT, F._law_due, h1, eqV, scal, h3, e]
        | true =>
          rw [c2] at h3
          obtain ⟨many, rfl⟩ := bel_int c2
          cases c with
          | tup is =>
            by_cases l1 : 1 ≤ is.length
            · have l1' : ¬ (is.length : Int) < 1 := by omega
              have ix := ixAt_last l1
              have lm := last_mem l1
              by_cases l2 : is.length ≤ 1000
              · have l2' : ¬ 1000 < (is.length : Int) := by omega
                have al := ev_all (C := ⟨P.glob, callF P w (n + 5), w⟩) (e := .call "_law_is_instruction" (.cons (.var 2) (.cons (.idx (.var 0) (.int 1)) (.cons (.var 1) .nil))) [] .nil) (t := .name 2) (it := .val (.idx (.var 0) (.int 2))) (c := .none) (own := [2])
                  (ρ := [some (.tup [.str "line", .int many, .tup is]), some (.int is.length), none])
                  (s := ⟨is, []⟩) (f := instrB many is.length) (S := S) (by simp [exs, ex, ev, evD, evV, evAnd, evOr, evO, evC, evI, asg, asgs, Ts.len, toD, ↓bind_ap, pure_ap, bad_ap, ite_pp, ite_ap, Rho.get, enter, truth, fin, tidy_bl, cmpV, cmpInt, cmpI, orBad, chk, chk_true, srcOf, Mi.wipe, bltV, toSeq, toL, toLm, idxV, idxSeq, ixAt, binV, sIx, isT]) (by show is.length ≤ most; unfold most; omega) rfl (fun x hx => by
                    have h2 := law_is_instruction_ev (w := w) (n := n) (many := many) (size := is.length) (hc.tup x hx)
                    rw [lawInstr_eq] at h2
                    simp [exs, ex, ev, evD, evV, evAnd, evOr, evO, evC, evI, asg, asgs, Ts.len, toD, ↓bind_ap, pure_ap, bad_ap, ite_pp, ite_ap, Rho.get, enter, truth, fin, tidy_bl, cmpV, cmpInt, cmpI, orBad, chk, chk_true, srcOf, Mi.wipe, bltV, toSeq, toL, toLm, idxV, idxSeq, ixAt, binV, sIx, isT, lcItem, h2])
                cases q : is.all (instrB many is.length) with
                | false =>
                  rw [q] at al
                  have e : lineB (.tup [.str "line", .int many, .tup is]) = false := by simp [lineB, lineIs, q]
                  simp [exs, ex, ev, evD, evV, evAnd, evOr, evO, evC, evI, asg, asgs, Ts.len, toD, ↓bind_ap, pure_ap, bad_ap, ite_pp, ite_ap, Rho.get, enter, truth, fin, tidy_bl, cmpV, cmpInt, cmpI, orBad, chk, chk_true, srcOf, Mi.wipe, bltV, toSeq, toL, toLm, idxV, idxSeq, ixAt, binV, sIx, isT, F._law_due, h1, eqV, scal, h3, h4, l1', l2', ↓al, e]
                | true =>
                  rw [q] at al
                  obtain ⟨z, r, el⟩ := instrB_tup (List.all_eq_true.mp q _ lm)
                  have me := mem_ends (Ok.tup (by rw [← el]; exact hc.tup _ lm : Ok S (.tup (.str z :: r))) _ List.mem_cons_self)
                  have e : lineB (.tup [.str "line", .int many, .tup is]) = endB (is.getLastD .non) := by simp [lineB, lineIs, q, c2, l1, l2]
                  rw [el] at e ix
                  have e0 : (0 : Int) < (r.length : Int) + 1 := by omega
                  have e1 : (1 : Int) ≤ (is.length : Int) := by omega
                  rw [e]
                  unfold ixAt at ix
                  rw [if_neg (by decide), if_pos (by omega)] at ix
                  simp [exs, ex, ev, evD, evV, evAnd, evOr, evO, evC, evI, asg, asgs, Ts.len, toD, ↓bind_ap, pure_ap, bad_ap, ite_pp, ite_ap, Rho.get, enter, truth, fin, tidy_bl, cmpV, cmpInt, cmpI, orBad, chk, chk_true, srcOf, Mi.wipe, bltV, toSeq, toL, toLm, idxV, idxSeq, ixAt, binV, sIx, isT, F._law_due, h1, eqV, scal, h3, h4, l1', l2', ↓al, ix, e0, e1, me, inV, inSeq, endB]
              · have l2' : 1000 < (is.length : Int) := by omega
                have e : lineB (.tup [.str "line", .int many, .tup is]) = false := by simp [lineB, lineIs, l2]
                simp [exs, ex, ev, evD, evV, evAnd, evOr, evO, evC, evI, asg, asgs, Ts.len, toD, ↓bind_ap, pure_ap, bad_ap, ite_pp, ite_ap, Rho.get, enter, truth, fin, tidy_bl, cmpV, cmpInt, cmpI, orBad, chk, chk_true, srcOf, Mi.wipe, bltV, toSeq, toL, toLm, idxV, idxSeq, ixAt, binV, sIx, isT, F._law_due, h1, eqV, scal, h3, h4, l1', l2', e]
            · have l1' : (is.length : Int) < 1 := by omega
              have e : lineB (.tup [.str "line", .int many, .tup is]) = false := by simp [lineB, lineIs, l1]
              simp [exs, ex, ev, evD, evV, evAnd, evOr, evO, evC, evI, asg, asgs, Ts.len, toD, ↓bind_ap, pure_ap, bad_ap, ite_pp, ite_ap, Rho.get, enter, truth, fin, tidy_bl, cmpV, cmpInt, cmpI, orBad, chk, chk_true, srcOf, Mi.wipe, bltV, toSeq, toL, toLm, idxV, idxSeq, ixAt, binV, sIx, isT, F._law_due, h1, eqV, scal, h3, h4, l1', e]
          | _ => simp [exs, ex, ev, evD, evV, evAnd, evOr, evO, evC, evI, asg, asgs, Ts.len, toD, ↓bind_ap, pure_ap, bad_ap, ite_pp, ite_ap, Rho.get, enter, truth, fin, tidy_bl, cmpV, cmpInt, cmpI, orBad, chk, chk_true, srcOf, Mi.wipe, bltV, toSeq, toL, toLm, idxV, idxSeq, ixAt, binV, sIx, isT, F._law_due, h1, eqV, scal, h3, h4, lineB]
      · have e : lineB (.tup [a, b, c]) = false := by cases c <;> simp [lineB, c1]
        simp [exs, ex, ev, evD, evV, evAnd, evOr, evO, evC, evI, asg, asgs, Ts.len, toD, ↓bind_ap, pure_ap, bad_ap, ite_pp, ite_ap, Rho.get, enter, truth, fin, tidy_bl, cmpV, cmpInt, cmpI, orBad, chk, chk_true, srcOf, Mi.wipe, bltV, toSeq, toL, toLm, idxV, idxSeq, ixAt, binV, sIx, isT, F._law_due, h1, ↓h2, c1, e, eqV, scal]
  | _ => simp [exs, ex, ev, evD, evV, evAnd, evOr, evO, evC, evI, asg, asgs, Ts.len, toD, ↓bind_ap, pure_ap, bad_ap, ite_pp, ite_ap, Rho.get, enter, truth, fin, tidy_bl, cmpV, cmpInt, cmpI, orBad, chk, chk_true, srcOf, Mi.wipe, bltV, toSeq, toL, toLm, idxV, idxSeq, ixAt, binV, sIx, isT, F._law_due, h1, lineB]
end Mi.K61

-- W12
set_option Elab.async false
set_option linter.all false
set_option maxRecDepth 100000
set_option maxHeartbeats 4000000
namespace Mi.K61
open PySem (Str PyData)
open Mi
variable {w n : Nat} {S : Sto}
/-! ### the pot -/
structure Z where
  a : Int
  b : Int
  lo : 0 ≤ b
  hi : b ≤ 2147483563
def Z.cell (z : Z) : Cell := .lst [.int z.a, .int z.b]
def stz (G : Sto) (p : Nat) (z : Z) : Sto := G.set p z.cell
theorem stz_len {G : Sto} {p : Nat} {z : Z} : (stz G p z).length = G.length := List.length_set
theorem stz_app {G E : Sto} {p : Nat} {z : Z} (h : p < G.length) : stz G p z ++ E = stz (G ++ E) p z := by
  unfold stz
  rw [List.set_append_left _ _ h]
theorem stz_get {G : Sto} {p : Nat} {z : Z} (h : p < G.length) : (stz G p z)[p]? = some z.cell := by
  unfold stz
  rw [List.getElem?_set_self h]
theorem stz_ne {G : Sto} {p k : Nat} {z : Z} (h : p ≠ k) : (stz G p z)[k]? = G[k]? := by
  unfold stz
  rw [List.getElem?_set_ne h]
theorem stz_set {G : Sto} {p : Nat} {z y : Z} : (stz G p z).set p y.cell = stz G p y := by
  unfold stz
  rw [List.set_set]
theorem Z.below (z : Z) (k : Nat) : z.cell.below k = true := rfl
theorem oldOk_stz {G E : Sto} {p : Nat} {z y : Z} (h : p < G.length) : oldOk (stz G p z) (stz G p y ++ E) = true := by
  unfold oldOk
  rw [List.all_eq_true]
  intro i hi
  have hi := List.mem_range.mp hi
  rw [List.getElem?_append_left (by rw [stz_len] at hi ⊢; exact hi)]
  by_cases e : p = i
  · subst e
    rw [stz_get h]
    dsimp only
    rw [y.below]; simp
  · rw [stz_ne e, stz_ne e]
    rw [stz_len] at hi
    rw [List.getElem?_eq_getElem hi]
    simp
mutual
theorem below_le {a b : Nat} (h : a ≤ b) : ∀ {d : D}, below a d = true → below b d = true
  | .non, _ => rfl
  | .bl _, _ => rfl
  | .int _, _ => rfl
  | .str _, _ => rfl
  | .tup xs, hx => belows_le h hx
  | .ref k, hx => decide_eq_true (Nat.lt_of_lt_of_le (of_decide_eq_true hx) h)
theorem belows_le {a b : Nat} (h : a ≤ b) : ∀ {xs : List D}, belows a xs = true → belows b xs = true
  | [], _ => rfl
  | x :: xs, hx => by
    have hx : (below a x && belows a xs) = true := hx
    rw [Bool.and_eq_true] at hx
    show (below b x && belows b xs) = true
    rw [below_le h hx.1, belows_le h hx.2]; rfl
end
theorem tidy_stz {G E : Sto} {p : Nat} {z y : Z} {v : D} (h : p < G.length) (hv : below G.length v = true) : tidy (stz G p z) (.d v) (stz G p y ++ E) = .ok (.d v) (stz G p y) := by
  unfold tidy
  rw [if_pos (oldOk_stz h)]
  have ht : (stz G p y ++ E).take (stz G p z).length = stz G p y := by
    rw [stz_len, ← stz_len (G := G) (p := p) (z := y)]; simp
  cases v with
  | ref k =>
    have hk : k < (stz G p z).length := by rw [stz_len]; exact of_decide_eq_true hv
    dsimp only
    rw [if_pos hk, ht]
  | _ =>
    dsimp only
    rw [stz_len, if_pos hv, ← stz_len (G := G) (p := p) (z := z), ht]
theorem tidy_stz0 {G : Sto} {p : Nat} {z y : Z} {v : D} (h : p < G.length) (hv : below G.length v = true) : tidy (stz G p z) (.d v) (stz G p y) = .ok (.d v) (stz G p y) := by
  have := tidy_stz (E := []) (z := z) (y := y) h hv
  rwa [List.append_nil] at this
/-! ### draws -/
def Z.nx (z : Z) (m : Int) : Z := if 0 < z.a then ⟨z.a / m, z.b, z.lo, z.hi⟩ else ⟨z.a, (z.b * 40692 + 40829) % 2147483563, Int.emod_nonneg _ (by decide), Int.le_of_lt (Int.emod_lt_of_pos _ (by decide))⟩
def Z.dr (z : Z) (m : Int) : Int := if 0 < z.a then z.a % m else (z.nx m).b * (z.nx m).b % 2147483549 / 29 % m
theorem Z.dr_lo (z : Z) {m : Int} (h : 0 < m) : 0 ≤ z.dr m := by
  unfold Z.dr
  split
  · exact Int.emod_nonneg _ (by omega)
  · exact Int.emod_nonneg _ (by omega)
theorem Z.dr_hi (z : Z) {m : Int} (h : 0 < m) : z.dr m < m := by
  unfold Z.dr
  split
  · exact Int.emod_lt_of_pos _ h
  · exact Int.emod_lt_of_pos _ h
theorem draw_ev {G : Sto} {p : Nat} {z : Z} {m : Int} (h : p < G.length) (h1 : 0 < m) (h2 : m < 1073741824) :
    callF P w (n + 1) "_law_draw" [.ref p, .int m] [] [] (stz G p z) = .ok (.d (.int (z.dr m))) (stz G p (z.nx m)) := by
  rw [callF_pos h__law_draw (by decide) rfl]
  have hd : ∀ y : Z, isDic p (stz G p y) = .ok false (stz G p y) := fun y => by unfold isDic; rw [stz_get h]; rfl
  have hl : ∀ y : Z, listAt p (stz G p y) = .ok [.int y.a, .int y.b] (stz G p y) := fun y => by unfold listAt; rw [stz_get h]; rfl
  have hw : ∀ y : Z, lstAt p (stz G p y) = .ok [.int y.a, .int y.b] (stz G p y) := fun y => by unfold lstAt; rw [stz_get h]; rfl
  have ht : ∀ y : Z, ∀ i : Int, tidy (stz G p z) (.d (.int i)) (stz G p y) = .ok (.d (.int i)) (stz G p y) := fun y i => tidy_stz0 h rfl
  have hp : ∀ (y : Z) (c : Cell) (u : Z), c = u.cell → put p c (stz G p y) = .ok () (stz G p u) := fun y c u e => by unfold put; rw [e, stz_set]
  by_cases c : 0 < z.a
  · have e1 : z.nx m = ⟨z.a / m, z.b, z.lo, z.hi⟩ := by unfold Z.nx; rw [if_pos c]
    have e2 : z.dr m = z.a % m := by unfold Z.dr; rw [if_pos c]
    rw [e1, e2]
    have hp1 := hp z (.lst [.int (z.a / m), .int z.b]) ⟨z.a / m, z.b, z.lo, z.hi⟩ rfl
    simp [exs, ex, ev, evD, evV, evAnd, evOr, evO, evC, evI, asg, asgs, Ts.len, toD, ↓bind_ap, pure_ap, bad_ap, ite_pp, ite_ap, Rho.get, enter, truth, fin, tidy_bl, cmpV, cmpInt, cmpI, orBad, chk, chk_true, srcOf, Mi.wipe, bltV, toSeq, toL, toLm, idxV, idxSeq, ixAt, binV, sIx, isT, F._law_draw, hd, hl, hw, c, h1, h2, setV, setLst, hp1, ht]
  · have e1 : z.nx m = ⟨z.a, (z.b * 40692 + 40829) % 2147483563, Int.emod_nonneg _ (by decide), Int.le_of_lt (Int.emod_lt_of_pos _ (by decide))⟩ := by unfold Z.nx; rw [if_neg c]
    have e2 : z.dr m = (z.nx m).b * (z.nx m).b % 2147483549 / 29 % m := by unfold Z.dr; rw [if_neg c]
    have hp1 := hp z (.lst [.int z.a, .int ((z.b * 40692 + 40829) % 2147483563)]) (z.nx m) (by rw [e1]; rfl)
    have s1 : small z.b = true := by have := z.lo; have := z.hi; exact decide_eq_true (by omega)
    have s2 : small (z.nx m).b = true := by have := (z.nx m).lo; have := (z.nx m).hi; exact decide_eq_true (by omega)
    rw [e2]
    simp [exs, ex, ev, evD, evV, evAnd, evOr, evO, evC, evI, asg, asgs, Ts.len, toD, ↓bind_ap, pure_ap, bad_ap, ite_pp, ite_ap, Rho.get, enter, truth, fin, tidy_bl, cmpV, cmpInt, cmpI, orBad, chk, chk_true, srcOf, Mi.wipe, bltV, toSeq, toL, toLm, idxV, idxSeq, ixAt, binV, sIx, isT, F._law_draw, hd, hl, hw, c, h1, h2, setV, setLst, hp1, ht, s1, s2]
theorem pick_ev {G : Sto} {p k : Nat} {z : Z} {xs : List D} (h : p < G.length) (hk : G[k]? = some (.lst xs)) (hp : p ≠ k) (h1 : 0 < xs.length) (h2 : xs.length < 1073741824) (hb : belows G.length xs = true) :
    ∃ x ∈ xs, callF P w (n + 2) "_law_pick" [.ref p, .ref k] [] [] (stz G p z) = .ok (.d x) (stz G p (z.nx xs.length)) := by
  have d1 := z.dr_lo (m := (xs.length : Int)) (by omega)
  have d2 := z.dr_hi (m := (xs.length : Int)) (by omega)
  have d3 : (z.dr xs.length).toNat < xs.length := by omega
  refine ⟨xs[(z.dr xs.length).toNat], List.getElem_mem _, ?_⟩
  rw [callF_pos h__law_pick (by decide) rfl]
  have hd : ∀ y : Z, isDic k (stz G p y) = .ok false (stz G p y) := fun y => by unfold isDic; rw [stz_ne hp, hk]
  have hl : ∀ y : Z, listAt k (stz G p y) = .ok xs (stz G p y) := fun y => by unfold listAt; rw [stz_ne hp, hk]; rfl
  have hdr := draw_ev (w := w) (n := n) (G := G) (p := p) (z := z) (m := xs.length) h (by omega) (by omega)
  have hbx : below G.length xs[(z.dr xs.length).toNat] = true := by
    have : ∀ {ys : List D}, belows G.length ys = true → ∀ y ∈ ys, below G.length y = true := by
      intro ys
      induction ys with
      | nil => intro _ y hy; cases hy
      | cons a r ih =>
        intro hb y hy
        have hb : (below G.length a && belows G.length r) = true := hb
        rw [Bool.and_eq_true] at hb
        rcases List.mem_cons.mp hy with hy | hy
        · rw [hy]; exact hb.1
        · exact ih hb.2 y hy
    exact this hb _ (List.getElem_mem _)
  have ht := tidy_stz0 (z := z) (y := z.nx xs.length) h hbx
  simp [exs, ex, ev, evD, evV, evAnd, evOr, evO, evC, evI, asg, asgs, Ts.len, toD, ↓bind_ap, pure_ap, bad_ap, ite_pp, ite_ap, Rho.get, enter, truth, fin, tidy_bl, cmpV, cmpInt, cmpI, orBad, chk, chk_true, srcOf, Mi.wipe, bltV, toSeq, toL, toLm, idxV, idxSeq, ixAt, binV, sIx, isT, F._law_pick, hd, hl, hdr, d1, d2, d3, ht]
end Mi.K61

-- W13
set_option Elab.async false
set_option linter.all false
set_option maxRecDepth 100000
set_option maxHeartbeats 4000000
namespace Mi.K61
open PySem (Str PyData)
open Mi
variable {w n : Nat} {S : Sto}
theorem alloc_stz {G : Sto} {p : Nat} {z : Z} {c : Cell} (h : p < G.length) : alloc c (stz G p z) = .ok (.ref G.length) (stz (G ++ [c]) p z) := by
  show Res.ok (D.ref (stz G p z).length) (stz G p z ++ [c]) = _
  rw [stz_len, stz_app h]
theorem tidy_stz' {G E : Sto} {p : Nat} {z y : Z} {v : D} (h : p < G.length) (hv : below G.length v = true) : tidy (stz G p z) (.d v) (stz (G ++ E) p y) = .ok (.d v) (stz G p y) := by
  rw [← stz_app h]
  exact tidy_stz h hv
theorem get_var {ρ : Rho} {i : Nat} {d : D} (h : ρ[i]? = some (some d)) : Rho.get ρ i S = .ok d S := by
  unfold Rho.get; rw [h]
/-- a pick from a list that is made for it -/
theorem pick_new {G : Sto} {p : Nat} {z y : Z} {xs : List D} {e : E} {ρ : Rho} (h : p < G.length) (hρ : ρ[0]? = some (some (.ref p)))
    (he : ev ⟨P.glob, callF P w (n + 2), w⟩ e ρ (stz G p z) = .ok (.l xs) (stz G p y)) (h1 : 0 < xs.length) (h2 : xs.length < 1073741824) (hb : belows G.length xs = true) :
    ∃ x ∈ xs, ∃ u, ev ⟨P.glob, callF P w (n + 2), w⟩ (.call "_law_pick" (.cons (.var 0) (.cons e .nil)) [] .nil) ρ (stz G p z) = .ok (.d x) (stz (G ++ [.lst xs]) p u) := by
  obtain ⟨x, hx, hp⟩ := pick_ev (w := w) (n := n) (G := G ++ [.lst xs]) (p := p) (k := G.length) (z := y) (xs := xs) (by simp; omega) (by simp) (by omega) h1 h2 (belows_le (by simp) hb)
  refine ⟨x, hx, y.nx xs.length, ?_⟩
  simp [exs, ex, ev, evD, evV, evAnd, evOr, evO, evC, evI, asg, asgs, Ts.len, toD, ↓bind_ap, pure_ap, bad_ap, ite_pp, ite_ap, Rho.get, enter, truth, fin, tidy_bl, cmpV, cmpInt, cmpI, orBad, chk, chk_true, srcOf, Mi.wipe, bltV, toSeq, toL, toLm, idxV, idxSeq, ixAt, binV, sIx, isT, hρ, ↓he, alloc_stz h, hp]
theorem number_ev {G : Sto} {p : Nat} {z : Z} (h : p < G.length) :
    ∃ i y, amt 1000000000 (.int i) = true ∧ callF P w (n + 3) "_law_number" [.ref p] [] [] (stz G p z) = .ok (.d (.int i)) (stz G p y) := by
  have hd := draw_ev (w := w) (n := n + 1) (G := G) (p := p) (z := z) (m := 2001) h (by decide) (by decide)
  have d1 := z.dr_lo (m := 2001) (by decide)
  have d2 := z.dr_hi (m := 2001) (by decide)
  obtain ⟨x, hx, u, hp⟩ := pick_new (w := w) (n := n) (G := G) (p := p) (z := z) (y := z.nx 2001) (ρ := [some (.ref p)])
    (xs := [.int 0, .int 1, .int (-1), .int 2, .int 3, .int 63, .int 64, .int (-64), .int (-65), .int 8191, .int 8192, .int (-8193), .int 1000000000, .int (-1000000000), .int (z.dr 2001 - 1000)])
    (e := .lst (.cons (.int 0) (.cons (.int 1) (.cons (.neg (.int 1)) (.cons (.int 2) (.cons (.int 3) (.cons (.int 63) (.cons (.int 64) (.cons (.neg (.int 64)) (.cons (.neg (.int 65)) (.cons (.int 8191) (.cons (.int 8192) (.cons (.neg (.int 8193)) (.cons (.bin .pow (.int 10) (.int 9)) (.cons (.neg (.bin .pow (.int 10) (.int 9))) (.cons (.bin .sub (.call "_law_draw" (.cons (.var 0) (.cons (.int 2001) .nil)) [] .nil) (.int 1000)) .nil))))))))))))))))
    h rfl (by simp [exs, ex, ev, evD, evV, evAnd, evOr, evO, evC, evI, asg, asgs, Ts.len, toD, ↓bind_ap, pure_ap, bad_ap, ite_pp, ite_ap, Rho.get, enter, truth, fin, tidy_bl, cmpV, cmpInt, cmpI, orBad, chk, chk_true, srcOf, Mi.wipe, bltV, toSeq, toL, toLm, idxV, idxSeq, ixAt, binV, sIx, isT, hd]) (by simp) (by simp) rfl
  have hi : ∃ i, x = .int i ∧ amt 1000000000 (.int i) = true := by
    simp only [List.mem_cons, List.not_mem_nil, or_false] at hx
    rcases hx with hx | hx | hx | hx | hx | hx | hx | hx | hx | hx | hx | hx | hx | hx | hx
    case inr.inr.inr.inr.inr.inr.inr.inr.inr.inr.inr.inr.inr.inr =>
      refine ⟨_, hx, ?_⟩
      simp only [amt, Bool.and_eq_true, decide_eq_true_eq]
      omega
    all_goals exact ⟨_, hx, by decide⟩
  obtain ⟨i, hi, ha⟩ := hi
  subst hi
  refine ⟨i, u, ha, ?_⟩
  rw [callF_pos h__law_number (by decide) rfl]
  have ht := tidy_stz' (G := G) (E := [.lst [.int 0, .int 1, .int (-1), .int 2, .int 3, .int 63, .int 64, .int (-64), .int (-65), .int 8191, .int 8192, .int (-8193), .int 1000000000, .int (-1000000000), .int (z.dr 2001 - 1000)]]) (z := z) (y := u) (v := .int i) h rfl
  simp [exs, ex, ev, evD, evV, evAnd, evOr, evO, evC, evI, asg, asgs, Ts.len, toD, ↓bind_ap, pure_ap, bad_ap, ite_pp, ite_ap, Rho.get, enter, truth, fin, tidy_bl, cmpV, cmpInt, cmpI, orBad, chk, chk_true, srcOf, Mi.wipe, bltV, toSeq, toL, toLm, idxV, idxSeq, ixAt, binV, sIx, isT, F._law_number, ↓hp, ht]
/-! sums -/
theorem lawT_snoc {many : Int} {t : D} : ∀ {ts : List D} {s : Int}, lawT many s ts = true → s < fstI t → (∀ u ∈ ts, fstI u < fstI t) → tOk many t = true → lawT many s (ts ++ [t]) = true
  | [], s, _, h2, _, h4 => by
    show (tOk many t && decide (s < fstI t) && true) = true
    rw [h4, decide_eq_true h2]; rfl
  | a :: r, s, h1, h2, h3, h4 => by
    have h1 : (tOk many a && decide (s < fstI a) && lawT many (fstI a) r) = true := h1
    rw [Bool.and_eq_true] at h1
    show (tOk many a && decide (s < fstI a) && lawT many (fstI a) (r ++ [t])) = true
    rw [h1.1, lawT_snoc h1.2 (h3 a List.mem_cons_self) (fun u hu => h3 u (List.mem_cons_of_mem _ hu)) h4]; rfl
theorem lawT_len {many : Int} : ∀ {ts : List D} {s : Int}, lawT many s ts = true → s < many → (ts.length : Int) ≤ many - 1 - s
  | [], s, _, h2 => by simp; omega
  | a :: r, s, h1, h2 => by
    have h1 : (tOk many a && decide (s < fstI a) && lawT many (fstI a) r) = true := h1
    simp only [Bool.and_eq_true, decide_eq_true_eq] at h1
    obtain ⟨⟨h3, h4⟩, h5⟩ := h1
    have h6 : fstI a < many := by
      unfold tOk at h3
      split at h3
      · simp only [Bool.and_eq_true, decide_eq_true_eq] at h3
        exact h3.1.1.2
      · cases h3
    have := lawT_len h5 h6
    rw [List.length_cons]; omega
/-- the terms so far -/
def Q (many lo : Int) (ts : List D) : Prop := lawT many (-1) ts = true ∧ (∀ u ∈ ts, fstI u < lo) ∧ (ts.length : Int) ≤ lo ∧ belows 0 ts = true
theorem belows_snoc {a : Nat} {t : D} (ht : below a t = true) : ∀ {ts : List D}, belows a ts = true → belows a (ts ++ [t]) = true
  | [], _ => by show (below a t && true) = true; rw [ht]; rfl
  | x :: r, h => by
    have h : (below a x && belows a r) = true := h
    rw [Bool.and_eq_true] at h
    show (below a x && belows a (r ++ [t])) = true
    rw [h.1, belows_snoc ht h.2]; rfl
theorem Q_snoc {many lo t : Int} {ts : List D} (h : Q many lo ts) (h0 : 0 ≤ lo) (h1 : lo < many) (h2 : amt 1000000000 (.int t) = true) (h3 : t ≠ 0) : Q many (lo + 1) (ts ++ [.tup [.int lo, .int t]]) := by
  obtain ⟨q1, q2, q3, q4⟩ := h
  refine ⟨lawT_snoc q1 (show -1 < lo by omega) q2 (by simp [tOk, h2, h0, h1, h3]), ?_, by simp; omega, belows_snoc rfl q4⟩
  intro u hu
  rcases List.mem_append.mp hu with hu | hu
  · have := q2 u hu; omega
  · rw [List.mem_singleton.mp hu]; show lo < _; omega
theorem Q_le {many lo : Int} {ts : List D} (h : Q many lo ts) : Q many (lo + 1) ts := by
  obtain ⟨q1, q2, q3, q4⟩ := h
  exact ⟨q1, fun u hu => by have := q2 u hu; omega, by omega, q4⟩
abbrev sumDraw : Ss := .cons (.asg (.name 4) (.ite (.cmp .eq (.call "_law_draw" (.cons (.var 0) (.cons (.int 3) .nil)) [] .nil) (.int 0)) (.call "_law_number" (.cons (.var 0) .nil) [] .nil) (.int 0))) (.cons (.ife (.cmp .ne (.var 4) (.int 0)) (.cons (.exp (.mth .append (.var 2) (.cons (.tup (.cons (.var 3) (.cons (.var 4) .nil))) .nil))) .nil) .nil) .nil)
theorem sum_step {G : Sto} {p : Nat} {z : Z} {many lo : Int} {ts : List D} {o : Option D} (h : p < G.length) (hq : Q many lo ts) (h0 : 0 ≤ lo) (h1 : lo < many) (hm : many ≤ 8) :
    ∃ o' ts' y, Q many (lo + 1) ts' ∧ exs ⟨P.glob, callF P w (n + 3), w⟩ sumDraw [some (.ref p), some (.int many), some (.ref G.length), some (.int lo), o] (stz (G ++ [.lst ts]) p z) =
      .ok (.nx [some (.ref p), some (.int many), some (.ref G.length), some (.int lo), o']) (stz (G ++ [.lst ts']) p y) := by
  have hG : p < (G ++ [Cell.lst ts]).length := by simp; omega
  have hd := draw_ev (w := w) (n := n + 2) (G := G ++ [.lst ts]) (p := p) (z := z) (m := 3) hG (by decide) (by decide)
  by_cases c : z.dr 3 = 0
  · obtain ⟨i, y, ha, hn⟩ := number_ev (w := w) (n := n) (G := G ++ [.lst ts]) (p := p) (z := z.nx 3) hG
    by_cases c2 : i = 0
    · subst c2
      refine ⟨some (.int 0), ts, y, Q_le hq, ?_⟩
      simp [exs, ex, ev, evD, evV, evAnd, evOr, evO, evC, evI, asg, asgs, Ts.len, toD, ↓bind_ap, pure_ap, bad_ap, ite_pp, ite_ap, Rho.get, enter, truth, fin, tidy_bl, cmpV, cmpInt, cmpI, orBad, chk, chk_true, srcOf, Mi.wipe, bltV, toSeq, toL, toLm, idxV, idxSeq, ixAt, binV, sIx, isT, hd, c, hn, eqV, scal]
    · refine ⟨some (.int i), ts ++ [.tup [.int lo, .int i]], y, Q_snoc hq h0 h1 ha c2, ?_⟩
      have hl : lstAt G.length (stz (G ++ [.lst ts]) p y) = .ok ts (stz (G ++ [.lst ts]) p y) := by
        unfold lstAt
        rw [stz_ne (by omega)]
        simp
      have hp : ∀ c, put G.length c (stz (G ++ [.lst ts]) p y) = .ok () (stz (G ++ [c]) p y) := fun c => by
        unfold put stz
        rw [List.set_comm _ _ (by omega)]
        simp
      have hlen : ts.length < most := by have := hq.2.2.1; unfold most; omega
      simp [exs, ex, ev, evD, evV, evAnd, evOr, evO, evC, evI, asg, asgs, Ts.len, toD, ↓bind_ap, pure_ap, bad_ap, ite_pp, ite_ap, Rho.get, enter, truth, fin, tidy_bl, cmpV, cmpInt, cmpI, orBad, chk, chk_true, srcOf, Mi.wipe, bltV, toSeq, toL, toLm, idxV, idxSeq, ixAt, binV, sIx, isT, hd, c, c2, hn, eqV, scal, rcv, hl, mthV, hp, hlen]
  · refine ⟨some (.int 0), ts, z.nx 3, Q_le hq, ?_⟩
    simp [exs, ex, ev, evD, evV, evAnd, evOr, evO, evC, evI, asg, asgs, Ts.len, toD, ↓bind_ap, pure_ap, bad_ap, ite_pp, ite_ap, Rho.get, enter, truth, fin, tidy_bl, cmpV, cmpInt, cmpI, orBad, chk, chk_true, srcOf, Mi.wipe, bltV, toSeq, toL, toLm, idxV, idxSeq, ixAt, binV, sIx, isT, hd, c, eqV, scal]
theorem sum_loop2 {G : Sto} {p : Nat} {many : Int} (h : p < G.length) (hm : many ≤ 8) : ∀ (k : Nat) (lo : Int) (z : Z) (ts : List D) (o o2 : Option D), Q many lo ts → 0 ≤ lo → lo + k ≤ many →
    ∃ o' o2' ts' y, Q many (lo + k) ts' ∧ forL (fun x ρ' => do
      let ρ'' ← asg ⟨P.glob, callF P w (n + 3), w⟩ (.name 3) x ρ'
      exs ⟨P.glob, callF P w (n + 3), w⟩ sumDraw ρ'') [] (range lo k) [some (.ref p), some (.int many), some (.ref G.length), o, o2] (stz (G ++ [.lst ts]) p z) =
      .ok (.nx [some (.ref p), some (.int many), some (.ref G.length), o', o2']) (stz (G ++ [.lst ts']) p y)
  | 0, lo, z, ts, o, o2, hq, h0, h1 => ⟨o, o2, ts, z, by simpa using hq, rfl⟩
  | k + 1, lo, z, ts, o, o2, hq, h0, h1 => by
    obtain ⟨o3, ts1, y1, hq1, e1⟩ := sum_step (w := w) (n := n) (z := z) (o := o2) h hq h0 (by omega) hm
    obtain ⟨o', o2', ts', y, hq2, e2⟩ := sum_loop2 h hm k (lo + 1) y1 ts1 (some (.int lo)) o3 hq1 (by omega) (by omega)
    refine ⟨o', o2', ts', y, by rw [show lo + ((k + 1 : Nat) : Int) = lo + 1 + k by omega]; exact hq2, ?_⟩
    unfold range
    rw [forL_nx (S' := stz (G ++ [.lst ts1]) p y1) e1]
    exact e2
theorem sum_ev {G : Sto} {p : Nat} {z : Z} {many : Int} (h : p < G.length) (h0 : 0 ≤ many) (hm : many ≤ 8) :
    ∃ v y, sumB many v = true ∧ below 0 v = true ∧ callF P w (n + 4) "_law_sum" [.ref p, .int many] [] [] (stz G p z) = .ok (.d v) (stz G p y) := by
  obtain ⟨o', o2', ts, y, hq, l1⟩ := sum_loop2 (w := w) (n := n) h hm many.toNat 0 z [] none none ⟨rfl, (fun u hu => nomatch hu), by simp, rfl⟩ (by omega) (by omega)
  obtain ⟨i, y2, ha, hn⟩ := number_ev (w := w) (n := n) (G := G ++ [.lst ts]) (p := p) (z := y) (by simp; omega)
  have hb : below 0 (.tup [.int i, .tup ts]) = true := by
    show (true && (belows 0 ts && true)) = true
    rw [hq.2.2.2]; rfl
  refine ⟨.tup [.int i, .tup ts], y2, ?_, hb, ?_⟩
  · have := hq.1
    rw [lawT_neg] at this
    simp only [sumB, ha, Bool.true_and]
    exact this
  · rw [callF_pos h__law_sum (by decide) rfl]
    have hl : listAt G.length (stz (G ++ [.lst ts]) p y2) = .ok ts (stz (G ++ [.lst ts]) p y2) := by
      unfold listAt
      rw [stz_ne (by omega)]
      simp [Cell.lst?]
    have ht := tidy_stz' (G := G) (E := [.lst ts]) (z := z) (y := y2) h (below_le (Nat.zero_le _) hb)
    have b1 : -4611686018427387904 ≤ many ∧ many < 4611686018427387904 := by omega
    simp [exs, ex, ev, evD, evV, evAnd, evOr, evO, evC, evI, asg, asgs, Ts.len, toD, ↓bind_ap, pure_ap, bad_ap, ite_pp, ite_ap, Rho.get, enter, truth, fin, tidy_bl, cmpV, cmpInt, cmpI, orBad, chk, chk_true, srcOf, Mi.wipe, bltV, toSeq, toL, toLm, idxV, idxSeq, ixAt, binV, sIx, isT, F._law_sum, alloc_stz h, b1, ↓l1, hn, hl, ht]
end Mi.K61

-- W14
set_option Elab.async false
set_option linter.all false
set_option maxRecDepth 100000
set_option maxHeartbeats 4000000
namespace Mi.K61
open PySem (Str PyData)
open Mi
variable {w n : Nat} {S : Sto}
/-- made one for one -/
def Al (R : D → D → Prop) : List D → List D → Prop
  | [], [] => True
  | x :: xs, v :: vs => R x v ∧ Al R xs vs
  | _, _ => False
theorem comp_gen {item : D → M (List D)} {G : Sto} {p : Nat} {R : D → D → Prop} : ∀ {items : List D}, (∀ x ∈ items, ∀ z : Z, ∃ v y, R x v ∧ item x (stz G p z) = .ok [v] (stz G p y)) →
    ∀ z : Z, ∃ vs y, Al R items vs ∧ compL item [] items (stz G p z) = .ok vs (stz G p y)
  | [], _, z => ⟨[], z, trivial, rfl⟩
  | x :: xs, h, z => by
    obtain ⟨v, y, r, e⟩ := h x List.mem_cons_self z
    obtain ⟨vs, u, rs, es⟩ := comp_gen (fun x hx => h x (List.mem_cons_of_mem _ hx)) y
    refine ⟨v :: vs, u, ⟨r, rs⟩, ?_⟩
    unfold compL
    rw [bind_ap, watching_nil]
    dsimp only
    rw [bind_ap, e]
    dsimp only
    rw [bind_ap, es]
    rfl
theorem Al.len {R : D → D → Prop} : ∀ {xs vs : List D}, Al R xs vs → vs.length = xs.length
  | [], [], _ => rfl
  | x :: xs, v :: vs, h => by rw [List.length_cons, List.length_cons, Al.len h.2]
theorem Al.all {R : D → D → Prop} {Pv : D → Prop} (hp : ∀ x v, R x v → Pv v) : ∀ {xs vs : List D}, Al R xs vs → ∀ v ∈ vs, Pv v
  | [], [], _, u, hu => nomatch hu
  | x :: xs, v :: vs, h, u, hu => by
    rcases List.mem_cons.mp hu with hu | hu
    · rw [hu]; exact hp x v h.1
    · exact Al.all hp h.2 u hu
theorem ev_lc2 {C : Cxt} {e : E} {t : T} {it : It} {c : Oe} {own : List Nat} {ρ : Rho} {items vs : List D} {S0 S1 S2 : Sto} (hi : evI C it ρ S0 = .ok ⟨items, []⟩ S1) (hl : items.length ≤ most)
    (h : compL (lcItem C e t c own ρ) [] items S1 = .ok vs S2) : ev C (.lc e t it c own) ρ S0 = .ok (.l vs) S2 := by
  show (evI C it ρ >>= fun s => chk (decide (s.items.length ≤ most)) >>= fun _ => compL (lcItem C e t c own ρ) s.watch s.items >>= fun xs => (pure (V2.l xs) : M V2)) S0 = _
  rw [bind_ap, hi]
  dsimp only
  rw [bind_ap, decide_eq_true hl]
  show (compL (lcItem C e t c own ρ) [] items >>= fun xs => (pure (V2.l xs) : M V2)) S1 = _
  rw [bind_ap, h]
  rfl
theorem range_len : ∀ {k : Nat} {lo : Int}, (range lo k).length = k
  | 0, _ => rfl
  | k + 1, lo => by unfold range; rw [List.length_cons, range_len]
theorem belows_all {a : Nat} : ∀ {vs : List D}, (∀ v ∈ vs, below a v = true) → belows a vs = true
  | [], _ => rfl
  | v :: vs, h => by
    show (below a v && belows a vs) = true
    rw [h v List.mem_cons_self, belows_all fun u hu => h u (List.mem_cons_of_mem _ hu)]; rfl
/-- the sums of a call -/
theorem sums_draw {G : Sto} {p : Nat} {z : Z} {many : Int} {ρ : Rho} (h : p < G.length) (h0 : 0 ≤ many) (hm : many ≤ 8) (r0 : ρ[0]? = some (some (.ref p))) (r1 : ρ[1]? = some (some (.int many))) :
    ∃ v y, sumsB many v = true ∧ below 0 v = true ∧ ev ⟨P.glob, callF P w (n + 4), w⟩ (.blt .tuple (.cons (.lc (.call "_law_sum" (.cons (.var 0) (.cons (.var 1) .nil)) [] .nil) (.name 6) (.rng1 (.call "_law_draw" (.cons (.var 0) (.cons (.bin .add (.blt .min (.cons (.int 4) (.cons (.var 1) .nil))) (.int 1)) .nil)) [] .nil)) .none [6]) .nil)) ρ (stz G p z) = .ok (.d v) (stz G p y) := by
  have hmin : ∃ m : Int, m = (if many < 4 then many else 4) ∧ 0 ≤ m ∧ m ≤ 4 ∧ m ≤ many := ⟨_, rfl, by split <;> omega, by split <;> omega, by split <;> omega⟩
  obtain ⟨m, em, m0, m4, mm⟩ := hmin
  have hd := draw_ev (w := w) (n := n + 3) (G := G) (p := p) (z := z) (m := m + 1) h (by omega) (by omega)
  have d1 := z.dr_lo (m := m + 1) (by omega)
  have d2 := z.dr_hi (m := m + 1) (by omega)
  obtain ⟨vs, y, ha, hc⟩ := comp_gen (item := lcItem ⟨P.glob, callF P w (n + 4), w⟩ (.call "_law_sum" (.cons (.var 0) (.cons (.var 1) .nil)) [] .nil) (.name 6) .none [6] ρ) (G := G) (p := p) (R := fun _ v => sumB many v = true ∧ below 0 v = true)
    (items := range 0 (z.dr (m + 1)).toNat) (fun x _ z => by
      obtain ⟨v, y, s1, s2, e⟩ := sum_ev (w := w) (n := n) (z := z) h h0 hm
      refine ⟨v, y, ⟨s1, s2⟩, ?_⟩
      have q0 : ((ρ.set 6 none).set 6 (some x))[0]? = some (some (.ref p)) := by rw [List.getElem?_set_ne (by decide), List.getElem?_set_ne (by decide), r0]
      have q1 : ((ρ.set 6 none).set 6 (some x))[1]? = some (some (.int many)) := by rw [List.getElem?_set_ne (by decide), List.getElem?_set_ne (by decide), r1]
      simp [exs, ex, ev, evD, evV, evAnd, evOr, evO, evC, evI, asg, asgs, Ts.len, toD, ↓bind_ap, pure_ap, bad_ap, ite_pp, ite_ap, Rho.get, enter, truth, fin, tidy_bl, cmpV, cmpInt, cmpI, orBad, chk, chk_true, srcOf, Mi.wipe, bltV, toSeq, toL, toLm, idxV, idxSeq, ixAt, binV, sIx, isT, lcItem, q0, q1, r0, r1, e]) (z.nx (m + 1))
  have hl : ((vs.length : Nat) : Int) ≤ m := by
    rw [ha.len, range_len]; omega
  refine ⟨.tup vs, y, ?_, belows_all (ha.all fun x v hv => hv.2), ?_⟩
  · have hall : vs.all (sumB many) = true := List.all_eq_true.mpr (ha.all fun x v hv => hv.1)
    have l1 : (vs.length : Int) ≤ 4 := by omega
    have l2 : (vs.length : Int) ≤ many := by omega
    simp only [sumsB, hall, l1, l2]
    rfl
  · have b1 : -4611686018427387904 ≤ z.dr (m + 1) ∧ z.dr (m + 1) < 4611686018427387904 := by omega
    have hlc := ev_lc2 (C := ⟨P.glob, callF P w (n + 4), w⟩) (e := .call "_law_sum" (.cons (.var 0) (.cons (.var 1) .nil)) [] .nil) (t := .name 6) (it := .rng1 (.call "_law_draw" (.cons (.var 0) (.cons (.bin .add (.blt .min (.cons (.int 4) (.cons (.var 1) .nil))) (.int 1)) .nil)) [] .nil)) (c := .none) (own := [6]) (ρ := ρ) (S0 := stz G p z) (by simp [exs, ex, ev, evD, evV, evAnd, evOr, evO, evC, evI, asg, asgs, Ts.len, toD, ↓bind_ap, pure_ap, bad_ap, ite_pp, ite_ap, Rho.get, enter, truth, fin, tidy_bl, cmpV, cmpInt, cmpI, orBad, chk, chk_true, srcOf, Mi.wipe, bltV, toSeq, toL, toLm, idxV, idxSeq, ixAt, binV, sIx, isT, r0, r1, ← em, hd, b1]) (by rw [range_len]; unfold most; omega) hc
    simp [exs, ex, ev, evD, evV, evAnd, evOr, evO, evC, evI, asg, asgs, Ts.len, toD, ↓bind_ap, pure_ap, bad_ap, ite_pp, ite_ap, Rho.get, enter, truth, fin, tidy_bl, cmpV, cmpInt, cmpI, orBad, chk, chk_true, srcOf, Mi.wipe, bltV, toSeq, toL, toLm, idxV, idxSeq, ixAt, binV, sIx, isT, ↓hlc]
abbrev instrTail : Ss := (.cons (.ife (.cmp .mem (.var 5) (.tup (.cons (.str "leave") (.cons (.str "back") .nil)))) (.cons (.ret (.tup (.cons (.var 5) .nil))) .nil) .nil) (.cons (.ife (.cmp .eq (.var 5) (.str "stop")) (.cons (.ret (.tup (.cons (.var 5) (.cons (.call "_law_pick" (.cons (.var 0) (.cons (.lst (.cons (.int 0) (.cons (.int 1) (.cons (.int 127) (.cons (.int 128) (.cons (.int 999) (.cons (.call "_law_draw" (.cons (.var 0) (.cons (.int 1000) .nil)) [] .nil) .nil))))))) .nil)) [] .nil) .nil)))) .nil) .nil) (.cons (.ife (.cmp .eq (.var 5) (.str "read")) (.cons (.ret (.tup (.cons (.var 5) (.cons (.ite (.or (.cons (.cmp .eq (.var 1) (.int 0)) (.cons (.cmp .eq (.call "_law_draw" (.cons (.var 0) (.cons (.int 3) .nil)) [] .nil) (.int 0)) .nil))) .non (.call "_law_draw" (.cons (.var 0) (.cons (.var 1) .nil)) [] .nil)) .nil)))) .nil) .nil) (.cons (.ife (.cmp .eq (.var 5) (.str "set")) (.cons (.ret (.tup (.cons (.var 5) (.cons (.call "_law_draw" (.cons (.var 0) (.cons (.var 1) .nil)) [] .nil) (.cons (.call "_law_sum" (.cons (.var 0) (.cons (.var 1) .nil)) [] .nil) .nil))))) .nil) .nil) (.cons (.ife (.cmp .eq (.var 5) (.str "tell")) (.cons (.ret (.tup (.cons (.var 5) (.cons (.call "_law_sum" (.cons (.var 0) (.cons (.var 1) .nil)) [] .nil) .nil)))) .nil) .nil) (.cons (.ife (.cmp .mem (.var 5) (.tup (.cons (.str "call") (.cons (.str "jump") .nil)))) (.cons (.ret (.tup (.cons (.var 5) (.cons (.call "_law_draw" (.cons (.var 0) (.cons (.var 2) .nil)) [] .nil) (.cons (.blt .tuple (.cons (.lc (.call "_law_sum" (.cons (.var 0) (.cons (.var 1) .nil)) [] .nil) (.name 6) (.rng1 (.call "_law_draw" (.cons (.var 0) (.cons (.bin .add (.blt .min (.cons (.int 4) (.cons (.var 1) .nil))) (.int 1)) .nil)) [] .nil)) .none [6]) .nil)) .nil))))) .nil) .nil) (.cons (.ret (.tup (.cons (.var 5) (.cons (.call "_law_draw" (.cons (.var 0) (.cons (.var 2) .nil)) [] .nil) .nil)))) .nil)))))))
theorem instr_tail {G : Sto} {p k : Nat} {z : Z} {many size : Int} {last : Bool} {word : Str} (h : p < G.length) (h0 : 0 ≤ many) (hm : many ≤ 8) (hs : 1 ≤ size) (hs2 : size ≤ 1000)
    (hx : ∀ S, Ok S (.str word)) (hw : word ∈ (["go", "jump", "leave", "back", "stop", "read", "tell", "test", "share", "call"] : List Str) ∨ (word = "set" ∧ 0 < many)) :
    ∃ r E y, instrB many size (.tup (.str word :: r)) = true ∧ below 0 (.tup (.str word :: r)) = true ∧
      exs ⟨P.glob, callF P w (n + 4), w⟩ instrTail [some (.ref p), some (.int many), some (.int size), some (.bl last), some (.ref k), some (.str word), none] (stz G p z) = .ok (.rt (.d (.tup (.str word :: r)))) (stz (G ++ E) p y) := by
  have ml := fun S => mem_leave (hx S)
  have mc := fun S => mem_call (hx S)
  rcases words word with ⟨c0, c1, c2, c3, c4, c5, c6, c7, c8, c9, c10⟩ | ⟨c0, c1, c2, c3, c4, c5, c6, c7, c8, c9, c10⟩ | ⟨c0, c1, c2, c3, c4, c5, c6, c7, c8, c9, c10⟩ | ⟨c0, c1, c2, c3, c4, c5, c6, c7, c8, c9, c10⟩ | ⟨c0, c1, c2, c3, c4, c5, c6, c7, c8, c9, c10⟩ | ⟨c0, c1, c2, c3, c4, c5, c6, c7, c8, c9, c10⟩ | ⟨c0, c1, c2, c3, c4, c5, c6, c7, c8, c9, c10⟩ | ⟨c0, c1, c2, c3, c4, c5, c6, c7, c8, c9, c10⟩ | ⟨c0, c1, c2, c3, c4, c5, c6, c7, c8, c9, c10⟩ | ⟨c0, c1, c2, c3, c4, c5, c6, c7, c8, c9, c10⟩ | ⟨c0, c1, c2, c3, c4, c5, c6, c7, c8, c9, c10⟩ | ⟨c0, c1, c2, c3, c4, c5, c6, c7, c8, c9, c10⟩
  · refine ⟨[], [], z, by simp [instrB, c0, c1, c2, c3, c4, c5, c6, c7, c8, c9, c10], rfl, ?_⟩
    rw [List.append_nil]
    simp [exs, ex, ev, evD, evV, evAnd, evOr, evO, evC, evI, asg, asgs, Ts.len, toD, ↓bind_ap, pure_ap, bad_ap, ite_pp, ite_ap, Rho.get, enter, truth, fin, tidy_bl, cmpV, cmpInt, cmpI, orBad, chk, chk_true, srcOf, Mi.wipe, bltV, toSeq, toL, toLm, idxV, idxSeq, ixAt, binV, sIx, isT, F._law_instruction, ml, mc, eqV, scal, inV, inSeq, ite_res, c0, c1, c2, c3, c4, c5, c6, c7, c8, c9, c10]
  · refine ⟨[], [], z, by simp [instrB, c0, c1, c2, c3, c4, c5, c6, c7, c8, c9, c10], rfl, ?_⟩
    rw [List.append_nil]
    simp [exs, ex, ev, evD, evV, evAnd, evOr, evO, evC, evI, asg, asgs, Ts.len, toD, ↓bind_ap, pure_ap, bad_ap, ite_pp, ite_ap, Rho.get, enter, truth, fin, tidy_bl, cmpV, cmpInt, cmpI, orBad, chk, chk_true, srcOf, Mi.wipe, bltV, toSeq, toL, toLm, idxV, idxSeq, ixAt, binV, sIx, isT, F._law_instruction, ml, mc, eqV, scal, inV, inSeq, ite_res, c0, c1, c2, c3, c4, c5, c6, c7, c8, c9, c10]
  · have hd := draw_ev (w := w) (n := n + 3) (G := G) (p := p) (z := z) (m := size) h (by omega) (by omega)
    have d1 := z.dr_lo (m := size) (by omega)
    have d2 := z.dr_hi (m := size) (by omega)
    obtain ⟨v, y, s1, s2, e⟩ := sums_draw (w := w) (n := n) (G := G) (p := p) (z := z.nx size) (many := many) (ρ := [some (.ref p), some (.int many), some (.int size), some (.bl last), some (.ref k), some (.str word), none]) h h0 hm rfl rfl
    refine ⟨[.int (z.dr size), v], [], y, by simp [instrB, c0, c1, c2, c3, c4, c5, c6, c7, c8, c9, c10, bel, d1, d2, s1], by simp [below, belows, s2], ?_⟩
    rw [List.append_nil]
    simp [exs, ex, ev, evD, evV, evAnd, evOr, evO, evC, evI, asg, asgs, Ts.len, toD, ↓bind_ap, pure_ap, bad_ap, ite_pp, ite_ap, Rho.get, enter, truth, fin, tidy_bl, cmpV, cmpInt, cmpI, orBad, chk, chk_true, srcOf, Mi.wipe, bltV, toSeq, toL, toLm, idxV, idxSeq, ixAt, binV, sIx, isT, F._law_instruction, ml, mc, eqV, scal, inV, inSeq, ite_res, c0, c1, c2, c3, c4, c5, c6, c7, c8, c9, c10, hd, ↓e]
  · have hd := draw_ev (w := w) (n := n + 3) (G := G) (p := p) (z := z) (m := size) h (by omega) (by omega)
    have d1 := z.dr_lo (m := size) (by omega)
    have d2 := z.dr_hi (m := size) (by omega)
    obtain ⟨v, y, s1, s2, e⟩ := sums_draw (w := w) (n := n) (G := G) (p := p) (z := z.nx size) (many := many) (ρ := [some (.ref p), some (.int many), some (.int size), some (.bl last), some (.ref k), some (.str word), none]) h h0 hm rfl rfl
    refine ⟨[.int (z.dr size), v], [], y, by simp [instrB, c0, c1, c2, c3, c4, c5, c6, c7, c8, c9, c10, bel, d1, d2, s1], by simp [below, belows, s2], ?_⟩
    rw [List.append_nil]
    simp [exs, ex, ev, evD, evV, evAnd, evOr, evO, evC, evI, asg, asgs, Ts.len, toD, ↓bind_ap, pure_ap, bad_ap, ite_pp, ite_ap, Rho.get, enter, truth, fin, tidy_bl, cmpV, cmpInt, cmpI, orBad, chk, chk_true, srcOf, Mi.wipe, bltV, toSeq, toL, toLm, idxV, idxSeq, ixAt, binV, sIx, isT, F._law_instruction, ml, mc, eqV, scal, inV, inSeq, ite_res, c0, c1, c2, c3, c4, c5, c6, c7, c8, c9, c10, hd, ↓e]
  · have hpos : 0 < many := by
      rcases hw with hw | hw
      · simp [c0, c1, c2, c3, c4, c5, c6, c7, c8, c9, c10] at hw
      · exact hw.2
    have hd := draw_ev (w := w) (n := n + 3) (G := G) (p := p) (z := z) (m := many) h (by omega) (by omega)
    have d1 := z.dr_lo (m := many) (by omega)
    have d2 := z.dr_hi (m := many) (by omega)
    obtain ⟨v, y, s1, s2, e⟩ := sum_ev (w := w) (n := n) (G := G) (p := p) (z := z.nx many) (many := many) h h0 hm
    refine ⟨[.int (z.dr many), v], [], y, by simp [instrB, c0, c1, c2, c3, c4, c5, c6, c7, c8, c9, c10, bel, d1, d2, s1], by simp [below, belows, s2], ?_⟩
    rw [List.append_nil]
    simp [exs, ex, ev, evD, evV, evAnd, evOr, evO, evC, evI, asg, asgs, Ts.len, toD, ↓bind_ap, pure_ap, bad_ap, ite_pp, ite_ap, Rho.get, enter, truth, fin, tidy_bl, cmpV, cmpInt, cmpI, orBad, chk, chk_true, srcOf, Mi.wipe, bltV, toSeq, toL, toLm, idxV, idxSeq, ixAt, binV, sIx, isT, F._law_instruction, ml, mc, eqV, scal, inV, inSeq, ite_res, c0, c1, c2, c3, c4, c5, c6, c7, c8, c9, c10, hd, e]
  · have hd := draw_ev (w := w) (n := n + 3) (G := G) (p := p) (z := z) (m := 1000) h (by omega) (by omega)
    have d1 := z.dr_lo (m := 1000) (by omega)
    have d2 := z.dr_hi (m := 1000) (by omega)
    obtain ⟨x, hx2, u, e⟩ := pick_new (w := w) (n := n + 2) (G := G) (p := p) (z := z) (y := z.nx 1000) (ρ := [some (.ref p), some (.int many), some (.int size), some (.bl last), some (.ref k), some (.str word), none])
      (xs := [.int 0, .int 1, .int 127, .int 128, .int 999, .int (z.dr 1000)]) (e := .lst (.cons (.int 0) (.cons (.int 1) (.cons (.int 127) (.cons (.int 128) (.cons (.int 999) (.cons (.call "_law_draw" (.cons (.var 0) (.cons (.int 1000) .nil)) [] .nil) .nil))))))) h rfl (by simp [exs, ex, ev, evD, evV, evAnd, evOr, evO, evC, evI, asg, asgs, Ts.len, toD, ↓bind_ap, pure_ap, bad_ap, ite_pp, ite_ap, Rho.get, enter, truth, fin, tidy_bl, cmpV, cmpInt, cmpI, orBad, chk, chk_true, srcOf, Mi.wipe, bltV, toSeq, toL, toLm, idxV, idxSeq, ixAt, binV, sIx, isT, hd]) (by simp) (by simp) rfl
    have hb : bel 1000 x = true ∧ below 0 x = true := by
      simp only [List.mem_cons, List.not_mem_nil, or_false] at hx2
      rcases hx2 with hx2 | hx2 | hx2 | hx2 | hx2 | hx2
      case inr.inr.inr.inr.inr => rw [hx2]; exact ⟨by simp [bel, d1, d2], rfl⟩
      all_goals rw [hx2]; exact ⟨by decide, rfl⟩
    refine ⟨[x], [.lst [.int 0, .int 1, .int 127, .int 128, .int 999, .int (z.dr 1000)]], u, by simp [instrB, c0, c1, c2, c3, c4, c5, c6, c7, c8, c9, c10, hb.1], by simp [below, belows, hb.2], ?_⟩
    simp [exs, ex, ev, evD, evV, evAnd, evOr, evO, evC, evI, asg, asgs, Ts.len, toD, ↓bind_ap, pure_ap, bad_ap, ite_pp, ite_ap, Rho.get, enter, truth, fin, tidy_bl, cmpV, cmpInt, cmpI, orBad, chk, chk_true, srcOf, Mi.wipe, bltV, toSeq, toL, toLm, idxV, idxSeq, ixAt, binV, sIx, isT, F._law_instruction, ml, mc, eqV, scal, inV, inSeq, ite_res, c0, c1, c2, c3, c4, c5, c6, c7, c8, c9, c10, ↓e]
  · by_cases m0 : many = 0
    · refine ⟨[.non], [], z, by simp [instrB, c0, c1, c2, c3, c4, c5, c6, c7, c8, c9, c10], rfl, ?_⟩
      rw [List.append_nil]
      simp [exs, ex, ev, evD, evV, evAnd, evOr, evO, evC, evI, asg, asgs, Ts.len, toD, ↓bind_ap, pure_ap, bad_ap, ite_pp, ite_ap, Rho.get, enter, truth, fin, tidy_bl, cmpV, cmpInt, cmpI, orBad, chk, chk_true, srcOf, Mi.wipe, bltV, toSeq, toL, toLm, idxV, idxSeq, ixAt, binV, sIx, isT, F._law_instruction, ml, mc, eqV, scal, inV, inSeq, ite_res, c0, c1, c2, c3, c4, c5, c6, c7, c8, c9, c10, m0]
    · have hd := draw_ev (w := w) (n := n + 3) (G := G) (p := p) (z := z) (m := 3) h (by omega) (by omega)
      by_cases c : z.dr 3 = 0
      · refine ⟨[.non], [], z.nx 3, by simp [instrB, c0, c1, c2, c3, c4, c5, c6, c7, c8, c9, c10], rfl, ?_⟩
        rw [List.append_nil]
        simp [exs, ex, ev, evD, evV, evAnd, evOr, evO, evC, evI, asg, asgs, Ts.len, toD, ↓bind_ap, pure_ap, bad_ap, ite_pp, ite_ap, Rho.get, enter, truth, fin, tidy_bl, cmpV, cmpInt, cmpI, orBad, chk, chk_true, srcOf, Mi.wipe, bltV, toSeq, toL, toLm, idxV, idxSeq, ixAt, binV, sIx, isT, F._law_instruction, ml, mc, eqV, scal, inV, inSeq, ite_res, c0, c1, c2, c3, c4, c5, c6, c7, c8, c9, c10, m0, hd, c]
      · have hd2 := draw_ev (w := w) (n := n + 3) (G := G) (p := p) (z := z.nx 3) (m := many) h (by omega) (by omega)
        have d1 := (z.nx 3).dr_lo (m := many) (by omega)
        have d2 := (z.nx 3).dr_hi (m := many) (by omega)
        refine ⟨[.int ((z.nx 3).dr many)], [], (z.nx 3).nx many, by simp [instrB, c0, c1, c2, c3, c4, c5, c6, c7, c8, c9, c10, bel, d1, d2], rfl, ?_⟩
        rw [List.append_nil]
        simp [exs, ex, ev, evD, evV, evAnd, evOr, evO, evC, evI, asg, asgs, Ts.len, toD, ↓bind_ap, pure_ap, bad_ap, ite_pp, ite_ap, Rho.get, enter, truth, fin, tidy_bl, cmpV, cmpInt, cmpI, orBad, chk, chk_true, srcOf, Mi.wipe, bltV, toSeq, toL, toLm, idxV, idxSeq, ixAt, binV, sIx, isT, F._law_instruction, ml, mc, eqV, scal, inV, inSeq, ite_res, c0, c1, c2, c3, c4, c5, c6, c7, c8, c9, c10, m0, hd, hd2, c]
  · obtain ⟨v, y, s1, s2, e⟩ := sum_ev (w := w) (n := n) (G := G) (p := p) (z := z) (many := many) h h0 hm
    refine ⟨[v], [], y, by simp [instrB, c0, c1, c2, c3, c4, c5, c6, c7, c8, c9, c10, s1], by simp [below, belows, s2], ?_⟩
    rw [List.append_nil]
    simp [exs, ex, ev, evD, evV, evAnd, evOr, evO, evC, evI, asg, asgs, Ts.len, toD, ↓bind_ap, pure_ap, bad_ap, ite_pp, ite_ap, Rho.get, enter, truth, fin, tidy_bl, cmpV, cmpInt, cmpI, orBad, chk, chk_true, srcOf, Mi.wipe, bltV, toSeq, toL, toLm, idxV, idxSeq, ixAt, binV, sIx, isT, F._law_instruction, ml, mc, eqV, scal, inV, inSeq, ite_res, c0, c1, c2, c3, c4, c5, c6, c7, c8, c9, c10, e]
  · have hd := draw_ev (w := w) (n := n + 3) (G := G) (p := p) (z := z) (m := size) h (by omega) (by omega)
    have d1 := z.dr_lo (m := size) (by omega)
    have d2 := z.dr_hi (m := size) (by omega)
    refine ⟨[.int (z.dr size)], [], z.nx size, by simp [instrB, c0, c1, c2, c3, c4, c5, c6, c7, c8, c9, c10, bel, d1, d2], rfl, ?_⟩
    rw [List.append_nil]
    simp [exs, ex, ev, evD, evV, evAnd, evOr, evO, evC, evI, asg, asgs, Ts.len, toD, ↓bind_ap, pure_ap, bad_ap, ite_pp, ite_ap, Rho.get, enter, truth, fin, tidy_bl, cmpV, cmpInt, cmpI, orBad, chk, chk_true, srcOf, Mi.wipe, bltV, toSeq, toL, toLm, idxV, idxSeq, ixAt, binV, sIx, isT, F._law_instruction, ml, mc, eqV, scal, inV, inSeq, ite_res, c0, c1, c2, c3, c4, c5, c6, c7, c8, c9, c10, hd]
  · have hd := draw_ev (w := w) (n := n + 3) (G := G) (p := p) (z := z) (m := size) h (by omega) (by omega)
    have d1 := z.dr_lo (m := size) (by omega)
    have d2 := z.dr_hi (m := size) (by omega)
    refine ⟨[.int (z.dr size)], [], z.nx size, by simp [instrB, c0, c1, c2, c3, c4, c5, c6, c7, c8, c9, c10, bel, d1, d2], rfl, ?_⟩
    rw [List.append_nil]
    simp [exs, ex, ev, evD, evV, evAnd, evOr, evO, evC, evI, asg, asgs, Ts.len, toD, ↓bind_ap, pure_ap, bad_ap, ite_pp, ite_ap, Rho.get, enter, truth, fin, tidy_bl, cmpV, cmpInt, cmpI, orBad, chk, chk_true, srcOf, Mi.wipe, bltV, toSeq, toL, toLm, idxV, idxSeq, ixAt, binV, sIx, isT, F._law_instruction, ml, mc, eqV, scal, inV, inSeq, ite_res, c0, c1, c2, c3, c4, c5, c6, c7, c8, c9, c10, hd]
  · have hd := draw_ev (w := w) (n := n + 3) (G := G) (p := p) (z := z) (m := size) h (by omega) (by omega)
    have d1 := z.dr_lo (m := size) (by omega)
    have d2 := z.dr_hi (m := size) (by omega)
    refine ⟨[.int (z.dr size)], [], z.nx size, by simp [instrB, c0, c1, c2, c3, c4, c5, c6, c7, c8, c9, c10, bel, d1, d2], rfl, ?_⟩
    rw [List.append_nil]
    simp [exs, ex, ev, evD, evV, evAnd, evOr, evO, evC, evI, asg, asgs, Ts.len, toD, ↓bind_ap, pure_ap, bad_ap, ite_pp, ite_ap, Rho.get, enter, truth, fin, tidy_bl, cmpV, cmpInt, cmpI, orBad, chk, chk_true, srcOf, Mi.wipe, bltV, toSeq, toL, toLm, idxV, idxSeq, ixAt, binV, sIx, isT, F._law_instruction, ml, mc, eqV, scal, inV, inSeq, ite_res, c0, c1, c2, c3, c4, c5, c6, c7, c8, c9, c10, hd]
  · exfalso
    rcases hw with hw | hw
    · simp [c0, c1, c2, c3, c4, c5, c6, c7, c8, c9, c10] at hw
    · simp [c0, c1, c2, c3, c4, c5, c6, c7, c8, c9, c10] at hw
end Mi.K61

-- W15
set_option Elab.async false
set_option linter.all false
set_option maxRecDepth 100000
set_option maxHeartbeats 4000000
namespace Mi.K61
open PySem (Str PyData)
open Mi
variable {w n : Nat} {S : Sto}
theorem word_ok {word : Str} (h : word ∈ (["go", "jump", "leave", "back", "stop", "read", "tell", "test", "share", "call", "set"] : List Str)) : ∀ S, Ok S (.str word) := by
  intro S
  show okStr word = true
  have : (["go", "jump", "leave", "back", "stop", "read", "tell", "test", "share", "call", "set"] : List Str).all okStr = true := by decide +kernel
  exact List.all_eq_true.mp this word h
theorem instruction_ev {G : Sto} {p : Nat} {z : Z} {many size : Int} {last : Bool} (h : p < G.length) (h0 : 0 ≤ many) (hm : many ≤ 8) (hs : 1 ≤ size) (hs2 : size ≤ 1000) :
    ∃ v y, instrB many size v = true ∧ below 0 v = true ∧ (last = true → endB v = true) ∧
      callF P w (n + 5) "_law_instruction" [.ref p, .int many, .int size, .bl last] [] [] (stz G p z) = .ok (.d v) (stz G p y) := by
  cases last with
  | true =>
    obtain ⟨x, hx, hp⟩ := pick_ev (w := w) (n := n + 2) (G := G ++ [.lst [.str "go", .str "jump", .str "leave", .str "back", .str "stop"]]) (p := p) (k := G.length) (z := z) (xs := [.str "go", .str "jump", .str "leave", .str "back", .str "stop"]) (by simp; omega) (by simp) (by omega) (by simp) (by simp) rfl
    have hx2 : ∃ z0 : Str, x = .str z0 ∧ z0 ∈ (["go", "jump", "leave", "back", "stop"] : List Str) := by
      simp only [List.mem_cons, List.not_mem_nil, or_false] at hx
      rcases hx with hx | hx | hx | hx | hx <;> exact ⟨_, hx, by simp⟩
    obtain ⟨z0, rfl, hz⟩ := hx2
    have hz1 : z0 ∈ (["go", "jump", "leave", "back", "stop", "read", "tell", "test", "share", "call"] : List Str) := by
      simp only [List.mem_cons, List.not_mem_nil, or_false] at hz ⊢
      rcases hz with hz | hz | hz | hz | hz <;> simp [hz]
    have hz2 : z0 ∈ (["go", "jump", "leave", "back", "stop", "read", "tell", "test", "share", "call", "set"] : List Str) := by
      simp only [List.mem_cons, List.not_mem_nil, or_false] at hz ⊢
      rcases hz with hz | hz | hz | hz | hz <;> simp [hz]
    obtain ⟨r, E, y, i1, i2, e⟩ := instr_tail (w := w) (n := n) (G := G ++ [.lst [.str "go", .str "jump", .str "leave", .str "back", .str "stop"]]) (p := p) (k := G.length) (z := z.nx 5) (many := many) (size := size) (last := true) (word := z0) (by simp; omega) h0 hm hs hs2 (word_ok hz2) (Or.inl hz1)
    refine ⟨_, y, i1, i2, fun _ => ?_, ?_⟩
    · show decide (z0 ∈ (["leave", "back", "stop", "go", "jump"] : List Str)) = true
      rw [decide_eq_true_eq]
      simp only [List.mem_cons, List.not_mem_nil, or_false] at hz ⊢
      rcases hz with hz | hz | hz | hz | hz <;> simp [hz]
    · rw [callF_pos h__law_instruction (by decide) rfl]
      have ht := tidy_stz' (G := G) (E := [.lst [.str "go", .str "jump", .str "leave", .str "back", .str "stop"]] ++ E) (z := z) (y := y) h (below_le (Nat.zero_le _) i2)
      rw [← List.append_assoc] at ht
      have hp : callF P w (n + 4) "_law_pick" [.ref p, .ref G.length] [] [] (stz (G ++ [.lst [.str "go", .str "jump", .str "leave", .str "back", .str "stop"]]) p z) = .ok (.d (.str z0)) (stz (G ++ [.lst [.str "go", .str "jump", .str "leave", .str "back", .str "stop"]]) p (z.nx 5)) := hp
      have step : exs ⟨P.glob, callF P w (n + 4), w⟩ F._law_instruction.body (enter [.ref p, .int many, .int size, .bl true] F._law_instruction.nn) (stz G p z) =
          exs ⟨P.glob, callF P w (n + 4), w⟩ instrTail [some (.ref p), some (.int many), some (.int size), some (.bl true), some (.ref G.length), some (.str z0), none] (stz (G ++ [.lst [.str "go", .str "jump", .str "leave", .str "back", .str "stop"]]) p (z.nx 5)) := by
        have hal := alloc_stz (z := z) (c := .lst [.str "go", .str "jump", .str "leave", .str "back", .str "stop"]) h
        generalize ht : instrTail = tl
        have hb : F._law_instruction.body = .cons (.asg (.name 4) (.lst (.cons (.str "go") (.cons (.str "jump") (.cons (.str "leave") (.cons (.str "back") (.cons (.str "stop") .nil))))))) (.cons (.ife (.not (.var 3)) (.cons (.asg (.name 4) (.bin .add (.bin .add (.var 4) (.lst (.cons (.str "read") (.cons (.str "tell") (.cons (.str "test") (.cons (.str "share") (.cons (.str "call") (.cons (.str "read") (.cons (.str "tell") (.cons (.str "test") .nil)))))))))) (.ite (.cmp .gt (.var 1) (.int 0)) (.lst (.cons (.str "set") (.cons (.str "set") .nil))) (.lst .nil)))) .nil) .nil) (.cons (.asg (.name 5) (.call "_law_pick" (.cons (.var 0) (.cons (.var 4) .nil)) [] .nil)) tl)) := by
          rw [← ht]; rfl
        rw [hb]
        simp [exs, ex, ev, evD, evV, evAnd, evOr, evO, evC, evI, asg, asgs, Ts.len, toD, ↓bind_ap, pure_ap, bad_ap, ite_pp, ite_ap, Rho.get, enter, truth, fin, tidy_bl, cmpV, cmpInt, cmpI, orBad, chk, chk_true, srcOf, Mi.wipe, bltV, toSeq, toL, toLm, idxV, idxSeq, ixAt, binV, sIx, isT, F._law_instruction, hal, hp]
      rw [step, e]
      exact ht
  | false =>
    by_cases c : 0 < many
    · skip
      obtain ⟨x, hx, hp⟩ := pick_ev (w := w) (n := n + 2) (G := (G ++ [.lst [.str "go", .str "jump", .str "leave", .str "back", .str "stop"]] ++ [.lst [.str "go", .str "jump", .str "leave", .str "back", .str "stop", .str "read", .str "tell", .str "test", .str "share", .str "call", .str "read", .str "tell", .str "test", .str "set", .str "set"]])) (p := p) (k := G.length + 1) (z := z) (xs := [.str "go", .str "jump", .str "leave", .str "back", .str "stop", .str "read", .str "tell", .str "test", .str "share", .str "call", .str "read", .str "tell", .str "test", .str "set", .str "set"]) (by simp; omega) (by simp) (by omega) (by simp) (by simp) rfl
      have hx2 : ∃ z0 : Str, x = .str z0 ∧ z0 ∈ (["go", "jump", "leave", "back", "stop", "read", "tell", "test", "share", "call", "read", "tell", "test", "set", "set"] : List Str) := by
        simp only [List.mem_cons, List.not_mem_nil, or_false] at hx
        rcases hx with hx | hx | hx | hx | hx | hx | hx | hx | hx | hx | hx | hx | hx | hx | hx <;> exact ⟨_, hx, by simp⟩
      obtain ⟨z0, rfl, hz⟩ := hx2
      have hz1 : z0 ∈ (["go", "jump", "leave", "back", "stop", "read", "tell", "test", "share", "call"] : List Str) ∨ (z0 = "set" ∧ 0 < many) := by
        simp only [List.mem_cons, List.not_mem_nil, or_false] at hz ⊢
        rcases hz with hz | hz | hz | hz | hz | hz | hz | hz | hz | hz | hz | hz | hz | hz | hz <;> simp [hz, c]
      have hz2 : z0 ∈ (["go", "jump", "leave", "back", "stop", "read", "tell", "test", "share", "call", "set"] : List Str) := by
        simp only [List.mem_cons, List.not_mem_nil, or_false] at hz ⊢
        rcases hz with hz | hz | hz | hz | hz | hz | hz | hz | hz | hz | hz | hz | hz | hz | hz <;> simp [hz]
      obtain ⟨r, E, y, i1, i2, e⟩ := instr_tail (w := w) (n := n) (G := (G ++ [.lst [.str "go", .str "jump", .str "leave", .str "back", .str "stop"]] ++ [.lst [.str "go", .str "jump", .str "leave", .str "back", .str "stop", .str "read", .str "tell", .str "test", .str "share", .str "call", .str "read", .str "tell", .str "test", .str "set", .str "set"]])) (p := p) (k := G.length + 1) (z := z.nx 15) (many := many) (size := size) (last := false) (word := z0) (by simp; omega) h0 hm hs hs2 (word_ok hz2) hz1
      refine ⟨_, y, i1, i2, (fun c => nomatch c), ?_⟩
      rw [callF_pos h__law_instruction (by decide) rfl]
      have ht := tidy_stz' (G := G) (E := [.lst [.str "go", .str "jump", .str "leave", .str "back", .str "stop"]] ++ ([.lst [.str "go", .str "jump", .str "leave", .str "back", .str "stop", .str "read", .str "tell", .str "test", .str "share", .str "call", .str "read", .str "tell", .str "test", .str "set", .str "set"]] ++ E)) (z := z) (y := y) h (below_le (Nat.zero_le _) i2)
      rw [← List.append_assoc, ← List.append_assoc] at ht
      have hp : callF P w (n + 4) "_law_pick" [.ref p, .ref (G.length + 1)] [] [] (stz (G ++ [.lst [.str "go", .str "jump", .str "leave", .str "back", .str "stop"]] ++ [.lst [.str "go", .str "jump", .str "leave", .str "back", .str "stop", .str "read", .str "tell", .str "test", .str "share", .str "call", .str "read", .str "tell", .str "test", .str "set", .str "set"]]) p z) = .ok (.d (.str z0)) (stz (G ++ [.lst [.str "go", .str "jump", .str "leave", .str "back", .str "stop"]] ++ [.lst [.str "go", .str "jump", .str "leave", .str "back", .str "stop", .str "read", .str "tell", .str "test", .str "share", .str "call", .str "read", .str "tell", .str "test", .str "set", .str "set"]]) p (z.nx 15)) := hp
      have step : exs ⟨P.glob, callF P w (n + 4), w⟩ F._law_instruction.body (enter [.ref p, .int many, .int size, .bl false] F._law_instruction.nn) (stz G p z) =
          exs ⟨P.glob, callF P w (n + 4), w⟩ instrTail [some (.ref p), some (.int many), some (.int size), some (.bl false), some (.ref (G.length + 1)), some (.str z0), none] (stz (G ++ [.lst [.str "go", .str "jump", .str "leave", .str "back", .str "stop"]] ++ [.lst [.str "go", .str "jump", .str "leave", .str "back", .str "stop", .str "read", .str "tell", .str "test", .str "share", .str "call", .str "read", .str "tell", .str "test", .str "set", .str "set"]]) p (z.nx 15)) := by
        have hal := alloc_stz (z := z) (c := .lst [.str "go", .str "jump", .str "leave", .str "back", .str "stop"]) h
        have hal2 := alloc_stz (G := G ++ [.lst [.str "go", .str "jump", .str "leave", .str "back", .str "stop"]]) (z := z) (c := .lst [.str "go", .str "jump", .str "leave", .str "back", .str "stop", .str "read", .str "tell", .str "test", .str "share", .str "call", .str "read", .str "tell", .str "test", .str "set", .str "set"]) (p := p) (by simp; omega)
        have hlen : (G ++ [Cell.lst [.str "go", .str "jump", .str "leave", .str "back", .str "stop"]]).length = G.length + 1 := by simp
        rw [hlen] at hal2
        have hla : lstAt G.length (stz (G ++ [.lst [.str "go", .str "jump", .str "leave", .str "back", .str "stop"]]) p z) = .ok [.str "go", .str "jump", .str "leave", .str "back", .str "stop"] (stz (G ++ [.lst [.str "go", .str "jump", .str "leave", .str "back", .str "stop"]]) p z) := by
          unfold lstAt
          rw [stz_ne (by omega)]
          simp
        generalize ht : instrTail = tl
        have hb : F._law_instruction.body = .cons (.asg (.name 4) (.lst (.cons (.str "go") (.cons (.str "jump") (.cons (.str "leave") (.cons (.str "back") (.cons (.str "stop") .nil))))))) (.cons (.ife (.not (.var 3)) (.cons (.asg (.name 4) (.bin .add (.bin .add (.var 4) (.lst (.cons (.str "read") (.cons (.str "tell") (.cons (.str "test") (.cons (.str "share") (.cons (.str "call") (.cons (.str "read") (.cons (.str "tell") (.cons (.str "test") .nil)))))))))) (.ite (.cmp .gt (.var 1) (.int 0)) (.lst (.cons (.str "set") (.cons (.str "set") .nil))) (.lst .nil)))) .nil) .nil) (.cons (.asg (.name 5) (.call "_law_pick" (.cons (.var 0) (.cons (.var 4) .nil)) [] .nil)) tl)) := by
          rw [← ht]; rfl
        clear ht e i1 i2 hz hz1 hz2 hx
        generalize (G ++ [.lst [.str "go", .str "jump", .str "leave", .str "back", .str "stop"]] ++ [.lst [.str "go", .str "jump", .str "leave", .str "back", .str "stop", .str "read", .str "tell", .str "test", .str "share", .str "call", .str "read", .str "tell", .str "test", .str "set", .str "set"]]) = G2 at hal2 hp ⊢
        generalize (G ++ [.lst [.str "go", .str "jump", .str "leave", .str "back", .str "stop"]]) = G1 at hal hal2 hla
        rw [hb]
        simp [exs, ex, ev, evD, evV, evAnd, evOr, evO, evC, evI, asg, asgs, Ts.len, toD, ↓bind_ap, pure_ap, bad_ap, ite_pp, ite_ap, Rho.get, enter, truth, fin, tidy_bl, cmpV, cmpInt, cmpI, orBad, chk, chk_true, srcOf, Mi.wipe, bltV, toSeq, toL, toLm, idxV, idxSeq, ixAt, binV, sIx, isT, F._law_instruction, hal, hal2, hla, hp, c, most]
      rw [step, e]
      exact ht
    · skip
      obtain ⟨x, hx, hp⟩ := pick_ev (w := w) (n := n + 2) (G := (G ++ [.lst [.str "go", .str "jump", .str "leave", .str "back", .str "stop"]] ++ [.lst [.str "go", .str "jump", .str "leave", .str "back", .str "stop", .str "read", .str "tell", .str "test", .str "share", .str "call", .str "read", .str "tell", .str "test"]])) (p := p) (k := G.length + 1) (z := z) (xs := [.str "go", .str "jump", .str "leave", .str "back", .str "stop", .str "read", .str "tell", .str "test", .str "share", .str "call", .str "read", .str "tell", .str "test"]) (by simp; omega) (by simp) (by omega) (by simp) (by simp) rfl
      have hx2 : ∃ z0 : Str, x = .str z0 ∧ z0 ∈ (["go", "jump", "leave", "back", "stop", "read", "tell", "test", "share", "call", "read", "tell", "test"] : List Str) := by
        simp only [List.mem_cons, List.not_mem_nil, or_false] at hx
        rcases hx with hx | hx | hx | hx | hx | hx | hx | hx | hx | hx | hx | hx | hx <;> exact ⟨_, hx, by simp⟩
      obtain ⟨z0, rfl, hz⟩ := hx2
      have hz1 : z0 ∈ (["go", "jump", "leave", "back", "stop", "read", "tell", "test", "share", "call"] : List Str) ∨ (z0 = "set" ∧ 0 < many) := by
        simp only [List.mem_cons, List.not_mem_nil, or_false] at hz ⊢
        rcases hz with hz | hz | hz | hz | hz | hz | hz | hz | hz | hz | hz | hz | hz <;> simp [hz]
      have hz2 : z0 ∈ (["go", "jump", "leave", "back", "stop", "read", "tell", "test", "share", "call", "set"] : List Str) := by
        simp only [List.mem_cons, List.not_mem_nil, or_false] at hz ⊢
        rcases hz with hz | hz | hz | hz | hz | hz | hz | hz | hz | hz | hz | hz | hz <;> simp [hz]
      obtain ⟨r, E, y, i1, i2, e⟩ := instr_tail (w := w) (n := n) (G := (G ++ [.lst [.str "go", .str "jump", .str "leave", .str "back", .str "stop"]] ++ [.lst [.str "go", .str "jump", .str "leave", .str "back", .str "stop", .str "read", .str "tell", .str "test", .str "share", .str "call", .str "read", .str "tell", .str "test"]])) (p := p) (k := G.length + 1) (z := z.nx 13) (many := many) (size := size) (last := false) (word := z0) (by simp; omega) h0 hm hs hs2 (word_ok hz2) hz1
      refine ⟨_, y, i1, i2, (fun c => nomatch c), ?_⟩
      rw [callF_pos h__law_instruction (by decide) rfl]
      have ht := tidy_stz' (G := G) (E := [.lst [.str "go", .str "jump", .str "leave", .str "back", .str "stop"]] ++ ([.lst [.str "go", .str "jump", .str "leave", .str "back", .str "stop", .str "read", .str "tell", .str "test", .str "share", .str "call", .str "read", .str "tell", .str "test"]] ++ E)) (z := z) (y := y) h (below_le (Nat.zero_le _) i2)
      rw [← List.append_assoc, ← List.append_assoc] at ht
      have hp : callF P w (n + 4) "_law_pick" [.ref p, .ref (G.length + 1)] [] [] (stz (G ++ [.lst [.str "go", .str "jump", .str "leave", .str "back", .str "stop"]] ++ [.lst [.str "go", .str "jump", .str "leave", .str "back", .str "stop", .str "read", .str "tell", .str "test", .str "share", .str "call", .str "read", .str "tell", .str "test"]]) p z) = .ok (.d (.str z0)) (stz (G ++ [.lst [.str "go", .str "jump", .str "leave", .str "back", .str "stop"]] ++ [.lst [.str "go", .str "jump", .str "leave", .str "back", .str "stop", .str "read", .str "tell", .str "test", .str "share", .str "call", .str "read", .str "tell", .str "test"]]) p (z.nx 13)) := hp
      have step : exs ⟨P.glob, callF P w (n + 4), w⟩ F._law_instruction.body (enter [.ref p, .int many, .int size, .bl false] F._law_instruction.nn) (stz G p z) =
          exs ⟨P.glob, callF P w (n + 4), w⟩ instrTail [some (.ref p), some (.int many), some (.int size), some (.bl false), some (.ref (G.length + 1)), some (.str z0), none] (stz (G ++ [.lst [.str "go", .str "jump", .str "leave", .str "back", .str "stop"]] ++ [.lst [.str "go", .str "jump", .str "leave", .str "back", .str "stop", .str "read", .str "tell", .str "test", .str "share", .str "call", .str "read", .str "tell", .str "test"]]) p (z.nx 13)) := by
        have hal := alloc_stz (z := z) (c := .lst [.str "go", .str "jump", .str "leave", .str "back", .str "stop"]) h
        have hal2 := alloc_stz (G := G ++ [.lst [.str "go", .str "jump", .str "leave", .str "back", .str "stop"]]) (z := z) (c := .lst [.str "go", .str "jump", .str "leave", .str "back", .str "stop", .str "read", .str "tell", .str "test", .str "share", .str "call", .str "read", .str "tell", .str "test"]) (p := p) (by simp; omega)
        have hlen : (G ++ [Cell.lst [.str "go", .str "jump", .str "leave", .str "back", .str "stop"]]).length = G.length + 1 := by simp
        rw [hlen] at hal2
        have hla : lstAt G.length (stz (G ++ [.lst [.str "go", .str "jump", .str "leave", .str "back", .str "stop"]]) p z) = .ok [.str "go", .str "jump", .str "leave", .str "back", .str "stop"] (stz (G ++ [.lst [.str "go", .str "jump", .str "leave", .str "back", .str "stop"]]) p z) := by
          unfold lstAt
          rw [stz_ne (by omega)]
          simp
        generalize ht : instrTail = tl
        have hb : F._law_instruction.body = .cons (.asg (.name 4) (.lst (.cons (.str "go") (.cons (.str "jump") (.cons (.str "leave") (.cons (.str "back") (.cons (.str "stop") .nil))))))) (.cons (.ife (.not (.var 3)) (.cons (.asg (.name 4) (.bin .add (.bin .add (.var 4) (.lst (.cons (.str "read") (.cons (.str "tell") (.cons (.str "test") (.cons (.str "share") (.cons (.str "call") (.cons (.str "read") (.cons (.str "tell") (.cons (.str "test") .nil)))))))))) (.ite (.cmp .gt (.var 1) (.int 0)) (.lst (.cons (.str "set") (.cons (.str "set") .nil))) (.lst .nil)))) .nil) .nil) (.cons (.asg (.name 5) (.call "_law_pick" (.cons (.var 0) (.cons (.var 4) .nil)) [] .nil)) tl)) := by
          rw [← ht]; rfl
        clear ht e i1 i2 hz hz1 hz2 hx
        generalize (G ++ [.lst [.str "go", .str "jump", .str "leave", .str "back", .str "stop"]] ++ [.lst [.str "go", .str "jump", .str "leave", .str "back", .str "stop", .str "read", .str "tell", .str "test", .str "share", .str "call", .str "read", .str "tell", .str "test"]]) = G2 at hal2 hp ⊢
        generalize (G ++ [.lst [.str "go", .str "jump", .str "leave", .str "back", .str "stop"]]) = G1 at hal hal2 hla
        rw [hb]
        simp [exs, ex, ev, evD, evV, evAnd, evOr, evO, evC, evI, asg, asgs, Ts.len, toD, ↓bind_ap, pure_ap, bad_ap, ite_pp, ite_ap, Rho.get, enter, truth, fin, tidy_bl, cmpV, cmpInt, cmpI, orBad, chk, chk_true, srcOf, Mi.wipe, bltV, toSeq, toL, toLm, idxV, idxSeq, ixAt, binV, sIx, isT, F._law_instruction, hal, hal2, hla, hp, c, most]
      rw [step, e]
      exact ht
end Mi.K61

-- W16
set_option Elab.async false
set_option linter.all false
set_option maxRecDepth 100000
set_option maxHeartbeats 4000000
namespace Mi.K61
open PySem (Str PyData)
open Mi
variable {w n : Nat} {S : Sto}
theorem range_mem : ∀ {k : Nat} {lo : Int} {x : D}, x ∈ range lo k → ∃ i, x = .int i
  | k + 1, lo, x, h => by
    unfold range at h
    rcases List.mem_cons.mp h with h | h
    · exact ⟨_, h⟩
    · exact range_mem h
def Ri (many size : Int) (x v : D) : Prop := instrB many size v = true ∧ below 0 v = true ∧ (x = .int (size - 1) → endB v = true)
theorem Al.last {many size : Int} : ∀ {k : Nat} {lo : Int} {vs : List D}, Al (Ri many size) (range lo (k + 1)) vs → lo + k = size - 1 → ∀ d, endB (vs.getLastD d) = true
  | 0, lo, [v], h, e, d => by
    have h : Ri many size (.int lo) v ∧ True := h
    exact h.1.2.2 (by rw [show lo = size - 1 by omega])
  | 0, lo, v :: u :: vs, h, e, d => by
    have h : Ri many size (.int lo) v ∧ False := h
    exact h.2.elim
  | k + 1, lo, v :: vs, h, e, d => by
    have h : Ri many size (.int lo) v ∧ Al (Ri many size) (range (lo + 1) (k + 1)) vs := h
    rw [List.getLastD_cons]
    exact Al.last h.2 (by omega) v
theorem line_ev {G : Sto} {p : Nat} {z : Z} (h : p < G.length) :
    ∃ m is y, lineB (.tup [.str "line", .int m, .tup is]) = true ∧ is.length ≤ 9 ∧ below 0 (.tup [.str "line", .int m, .tup is]) = true ∧
      callF P w (n + 6) "_law_line" [.ref p, .int 9] [] [] (stz G p z) = .ok (.d (.tup [.str "line", .int m, .tup is])) (stz G p y) := by
  obtain ⟨x, hx, u, hp⟩ := pick_new (w := w) (n := n + 3) (G := G) (p := p) (z := z) (y := z) (ρ := [some (.ref p), some (.int 9), none, none, none]) (xs := [.int 0, .int 1, .int 2, .int 3, .int 8])
    (e := .lst (.cons (.int 0) (.cons (.int 1) (.cons (.int 2) (.cons (.int 3) (.cons (.int 8) .nil)))))) h rfl (by simp [exs, ex, ev, evD, evV, evAnd, evOr, evO, evC, evI, asg, asgs, Ts.len, toD, ↓bind_ap, pure_ap, bad_ap, ite_pp, ite_ap, Rho.get, enter, truth, fin, tidy_bl, cmpV, cmpInt, cmpI, orBad, chk, chk_true, srcOf, Mi.wipe, bltV, toSeq, toL, toLm, idxV, idxSeq, ixAt, binV, sIx, isT]) (by simp) (by simp) rfl
  have hx2 : ∃ m : Int, x = .int m ∧ 0 ≤ m ∧ m ≤ 8 := by
    simp only [List.mem_cons, List.not_mem_nil, or_false] at hx
    rcases hx with hx | hx | hx | hx | hx <;> exact ⟨_, hx, by decide, by decide⟩
  obtain ⟨m, rfl, m0, m8⟩ := hx2
  have hG : p < (G ++ [Cell.lst [.int 0, .int 1, .int 2, .int 3, .int 8]]).length := by simp; omega
  generalize hG1 : G ++ [Cell.lst [.int 0, .int 1, .int 2, .int 3, .int 8]] = G1 at hp hG
  have hd := draw_ev (w := w) (n := n + 4) (G := G1) (p := p) (z := u) (m := 9) hG (by decide) (by decide)
  have d1 := u.dr_lo (m := 9) (by decide)
  have d2 := u.dr_hi (m := 9) (by decide)
  generalize hz : 1 + u.dr 9 = size at *
  have s1 : 1 ≤ size := by omega
  have s2 : size ≤ 9 := by omega
  obtain ⟨vs, y, ha, hc⟩ := comp_gen (item := lcItem ⟨P.glob, callF P w (n + 5), w⟩ (.call "_law_instruction" (.cons (.var 0) (.cons (.var 2) (.cons (.var 3) (.cons (.cmp .eq (.var 4) (.bin .sub (.var 3) (.int 1))) .nil)))) [] .nil) (.name 4) .none [4] [some (.ref p), some (.int 9), some (.int m), some (.int size), none]) (G := G1) (p := p) (R := Ri m size)
    (items := range 0 ((size.toNat - 1) + 1)) (fun x hx z => by
      obtain ⟨i, rfl⟩ := range_mem hx
      obtain ⟨v, y, i1, i2, i3, e⟩ := instruction_ev (w := w) (n := n) (z := z) (last := decide (i = size - 1)) hG m0 m8 s1 (by omega)
      refine ⟨v, y, ⟨i1, i2, fun q => i3 (decide_eq_true (by cases q; rfl))⟩, ?_⟩
      simp [exs, ex, ev, evD, evV, evAnd, evOr, evO, evC, evI, asg, asgs, Ts.len, toD, ↓bind_ap, pure_ap, bad_ap, ite_pp, ite_ap, Rho.get, enter, truth, fin, tidy_bl, cmpV, cmpInt, cmpI, orBad, chk, chk_true, srcOf, Mi.wipe, bltV, toSeq, toL, toLm, idxV, idxSeq, ixAt, binV, sIx, isT, lcItem, eqV, scal, e]) (u.nx 9)
  have hlen : vs.length = size.toNat := by rw [ha.len, range_len]; omega
  have hsz : ((vs.length : Nat) : Int) = size := by omega
  have hend := ha.last (by omega) .non
  have hall : vs.all (instrB m size) = true := List.all_eq_true.mpr (ha.all fun x v hv => hv.1)
  have hb : below 0 (.tup [.str "line", .int m, .tup vs]) = true := by
    show (true && (true && (belows 0 vs && true))) = true
    rw [belows_all (ha.all fun x v hv => hv.2.1)]; rfl
  refine ⟨m, vs, y, ?_, by omega, hb, ?_⟩
  · have l1 : 1 ≤ vs.length := by omega
    have l2 : vs.length ≤ 1000 := by omega
    have b9 : bel 9 (.int m) = true := by simp [bel]; omega
    simp only [lineB, lineIs, hsz, hall, hend, l1, l2, b9]
    simp
  · rw [callF_pos h__law_line (by decide) rfl]
    rw [show size.toNat - 1 + 1 = size.toNat by omega] at hc
    have hlc := ev_lc2 (C := ⟨P.glob, callF P w (n + 5), w⟩) (e := .call "_law_instruction" (.cons (.var 0) (.cons (.var 2) (.cons (.var 3) (.cons (.cmp .eq (.var 4) (.bin .sub (.var 3) (.int 1))) .nil)))) [] .nil) (t := .name 4) (it := .rng1 (.var 3)) (c := .none) (own := [4]) (ρ := [some (.ref p), some (.int 9), some (.int m), some (.int size), none]) (S0 := stz G1 p (u.nx 9)) (S1 := stz G1 p (u.nx 9)) (by
      have b1 : -4611686018427387904 ≤ size ∧ size < 4611686018427387904 := by omega
      simp [exs, ex, ev, evD, evV, evAnd, evOr, evO, evC, evI, asg, asgs, Ts.len, toD, ↓bind_ap, pure_ap, bad_ap, ite_pp, ite_ap, Rho.get, enter, truth, fin, tidy_bl, cmpV, cmpInt, cmpI, orBad, chk, chk_true, srcOf, Mi.wipe, bltV, toSeq, toL, toLm, idxV, idxSeq, ixAt, binV, sIx, isT, b1]) (by rw [range_len]; unfold most; omega) hc
    have ht := tidy_stz' (G := G) (E := [.lst [.int 0, .int 1, .int 2, .int 3, .int 8]]) (z := z) (y := y) h (below_le (Nat.zero_le _) hb)
    rw [hG1] at ht
    simp [exs, ex, ev, evD, evV, evAnd, evOr, evO, evC, evI, asg, asgs, Ts.len, toD, ↓bind_ap, pure_ap, bad_ap, ite_pp, ite_ap, Rho.get, enter, truth, fin, tidy_bl, cmpV, cmpInt, cmpI, orBad, chk, chk_true, srcOf, Mi.wipe, bltV, toSeq, toL, toLm, idxV, idxSeq, ixAt, binV, sIx, isT, F._law_line, ↓hp, hd, hz, ↓hlc, ht]
end Mi.K61

-- W17
set_option Elab.async false
set_option linter.all false
set_option maxRecDepth 100000
set_option maxHeartbeats 4000000
namespace Mi.K61
open PySem (Str PyData)
open Mi
variable {w n : Nat} {S : Sto}
/-! values without cells -/
def tStr (x : Str) : Bool := decide (x.length ≤ 10) && PyData.strOk x
def fr : Nat → D → Bool
  | 0, _ => false
  | _ + 1, .non => true
  | _ + 1, .bl _ => true
  | _ + 1, .int i => decide (-10000000000 ≤ i ∧ i ≤ 10000000000)
  | _ + 1, .str x => tStr x
  | n + 1, .tup xs => xs.all (fr n)
  | _ + 1, .ref _ => false
mutual
def wt : D → Nat
  | .tup xs => 1 + wts xs
  | _ => 1
def wts : List D → Nat
  | [] => 0
  | x :: xs => wt x + wts xs
end
theorem fr_mono : ∀ {n : Nat} {d : D}, fr n d = true → fr (n + 1) d = true
  | 0, d, h => by cases h
  | n + 1, .non, _ => rfl
  | n + 1, .bl _, _ => rfl
  | n + 1, .int _, h => h
  | n + 1, .str _, h => h
  | n + 1, .ref _, h => by cases h
  | n + 1, .tup xs, h => by
    have h : xs.all (fr n) = true := h
    show xs.all (fr (n + 1)) = true
    rw [List.all_eq_true] at h ⊢
    exact fun x hx => fr_mono (h x hx)
theorem fr_le {d : D} {n m : Nat} (h : fr n d = true) (hm : n ≤ m) : fr m d = true := by
  induction hm with
  | refl => exact h
  | step _ ih => exact fr_mono ih
theorem fr_ok {S : Sto} : ∀ {n : Nat} {d : D}, fr n d = true → ok S n d = true
  | 0, d, h => by cases h
  | n + 1, .non, _ => rfl
  | n + 1, .bl _, _ => rfl
  | n + 1, .int i, h => by
    have h := of_decide_eq_true h
    exact decide_eq_true (by omega)
  | n + 1, .str x, h => by
    obtain ⟨h1, h2⟩ := and2 h
    show (decide (x.length ≤ 40) && PyData.strOk x) = true
    rw [h2, decide_eq_true (by have := of_decide_eq_true h1; omega)]; rfl
  | n + 1, .ref _, h => by cases h
  | n + 1, .tup xs, h => by
    have h : xs.all (fr n) = true := h
    show xs.all (ok S n) = true
    rw [List.all_eq_true] at h ⊢
    exact fun x hx => fr_ok (h x hx)
theorem fr_below : ∀ {n : Nat} {d : D}, fr n d = true → below 0 d = true
  | 0, d, h => by cases h
  | n + 1, .non, _ => rfl
  | n + 1, .bl _, _ => rfl
  | n + 1, .int _, h => rfl
  | n + 1, .str _, h => rfl
  | n + 1, .ref _, h => by cases h
  | n + 1, .tup xs, h => by
    have h : xs.all (fr n) = true := h
    rw [List.all_eq_true] at h
    exact belows_all fun x hx => fr_below (h x hx)
theorem wsum_wts {f : D → Nat} : ∀ {xs : List D}, (∀ x ∈ xs, f x ≤ wt x) → wsum f xs ≤ wts xs
  | [], _ => Nat.le_refl 0
  | x :: xs, h => by
    unfold wsum wts
    exact Nat.add_le_add (h x List.mem_cons_self) (wsum_wts fun y hy => h y (List.mem_cons_of_mem _ hy))
theorem wt_pos : ∀ {d : D}, 1 ≤ wt d
  | .tup xs => by unfold wt; omega
  | .non | .bl _ | .int _ | .str _ | .ref _ => by unfold wt; exact Nat.le_refl 1
theorem wtF_fr {S : Sto} : ∀ {n : Nat} {d : D}, fr n d = true → wtF S n d ≤ wt d
  | 0, d, h => by cases h
  | n + 1, .non, _ => by unfold wtF wt; exact Nat.le_refl 1
  | n + 1, .bl _, _ => by unfold wtF wt; exact Nat.le_refl 1
  | n + 1, .int _, h => by unfold wtF wt; exact Nat.le_refl 1
  | n + 1, .str _, h => by unfold wtF wt; exact Nat.le_refl 1
  | n + 1, .ref _, h => by cases h
  | n + 1, .tup xs, h => by
    have h : xs.all (fr n) = true := h
    rw [List.all_eq_true] at h
    show 1 + wsum (wtF S n) xs ≤ wt (.tup xs)
    have := wsum_wts (f := wtF S n) (xs := xs) fun x hx => wtF_fr (h x hx)
    unfold wt
    omega
theorem wts_bound {k : Nat} : ∀ {xs : List D}, (∀ x ∈ xs, wt x ≤ k) → wts xs ≤ xs.length * k
  | [], _ => by unfold wts; exact Nat.zero_le _
  | x :: xs, h => by
    have h1 := h x List.mem_cons_self
    have h2 := wts_bound fun y hy => h y (List.mem_cons_of_mem _ hy)
    unfold wts
    rw [List.length_cons, Nat.succ_mul]; omega
def Fr (j k : Nat) (d : D) : Prop := fr j d = true ∧ wt d ≤ k
theorem Fr.le {j k j' k' : Nat} {d : D} (h : Fr j k d) (hj : j ≤ j') (hk : k ≤ k') : Fr j' k' d := ⟨fr_le h.1 hj, Nat.le_trans h.2 hk⟩
theorem Fr.tup {j k m : Nat} {xs : List D} (h : ∀ x ∈ xs, Fr j k x) (hm : xs.length ≤ m) : Fr (j + 1) (1 + m * k) (.tup xs) := by
  refine ⟨?_, ?_⟩
  · show xs.all (fr j) = true
    rw [List.all_eq_true]
    exact fun x hx => (h x hx).1
  · have := wts_bound (k := k) fun x hx => (h x hx).2
    have h2 := Nat.mul_le_mul_right k hm
    unfold wt; omega
def FrL (j k : Nat) (xs : List D) : Prop := xs.all (fr j) = true ∧ wts xs ≤ k
theorem FrL.nil {j k : Nat} : FrL j k [] := ⟨rfl, Nat.zero_le _⟩
theorem FrL.cons {j a b : Nat} {x : D} {xs : List D} (h : Fr j a x) (hs : FrL j b xs) : FrL j (a + b) (x :: xs) := by
  refine ⟨?_, ?_⟩
  · rw [List.all_cons, h.1, hs.1]; rfl
  · unfold wts; exact Nat.add_le_add h.2 hs.2
theorem FrL.tup {j k : Nat} {xs : List D} (h : FrL j k xs) : Fr (j + 1) (1 + k) (.tup xs) := ⟨h.1, by unfold wt; exact Nat.add_le_add_left h.2 1⟩
theorem FrL.two {j a b : Nat} {x y : D} (h : Fr j a x) (hs : Fr j b y) : FrL j (a + b) [x, y] := h |> fun h => FrL.cons h (FrL.cons hs (FrL.nil (k := 0)))
theorem FrL.one {j a : Nat} {x : D} (h : Fr j a x) : FrL j a [x] := FrL.cons h (FrL.nil (k := 0))
theorem Fr.int {i : Int} (h : -10000000000 ≤ i ∧ i ≤ 10000000000) : Fr 1 1 (.int i) := ⟨decide_eq_true h, Nat.le_refl 1⟩
theorem Fr.str {x : Str} (h : tStr x = true) : Fr 1 1 (.str x) := ⟨h, Nat.le_refl 1⟩
theorem Fr.Wk {k : Nat} {d : D} (h : Fr 20 k d) (S : Sto) : Wk S k d := by
  have h2 := fr_le h.1 (show 20 ≤ 30 by decide)
  exact ⟨fr_ok h2, Nat.le_trans (wtF_fr h2) h.2⟩
theorem term_fr {many : Int} {t : D} (h : tOk many t = true) (hm : many ≤ 8) : Fr 2 3 t := by
  unfold tOk at h
  split at h
  · rename_i s t
    simp only [Bool.and_eq_true, decide_eq_true_eq, amt] at h
    have := Fr.tup (j := 1) (k := 1) (m := 2) (xs := [.int s, .int t]) (by
      intro x hx
      simp only [List.mem_cons, List.not_mem_nil, or_false] at hx
      rcases hx with hx | hx <;> rw [hx] <;> exact Fr.int (by omega)) (by simp)
    exact this
  · cases h
theorem sum_fr {many : Int} {v : D} (h : sumB many v = true) (h0 : 0 ≤ many) (hm : many ≤ 8) : Fr 4 27 v := by
  unfold sumB at h
  split at h
  · rename_i a ts
    rw [Bool.and_assoc, Bool.and_eq_true, ← lawT_neg] at h
    have hl := lawT_len h.2 (by omega)
    have h2 := h.2
    rw [lawT_neg, Bool.and_eq_true, List.all_eq_true] at h2
    have ht := Fr.tup (j := 2) (k := 3) (m := 8) (xs := ts) (fun x hx => term_fr (h2.1 x hx) hm) (by omega)
    have ha : Fr 1 1 a := by
      have h1 := h.1
      cases a with
      | int i => simp only [amt, Bool.and_eq_true, decide_eq_true_eq] at h1; exact Fr.int (by omega)
      | _ => cases h1
    have := (FrL.two (ha.le (show 1 ≤ 3 by decide) (Nat.le_refl 1)) ht).tup
    exact this
  · cases h
theorem sums_fr {many : Int} {v : D} (h : sumsB many v = true) (h0 : 0 ≤ many) (hm : many ≤ 8) : Fr 5 109 v := by
  unfold sumsB at h
  split at h
  · rename_i ts
    simp only [Bool.and_eq_true, decide_eq_true_eq, List.all_eq_true] at h
    exact Fr.tup (j := 4) (k := 27) (m := 4) (fun x hx => sum_fr (h.2 x hx) h0 hm) (by omega)
  · cases h
theorem bel_fr {m : Int} {v : D} (h : bel m v = true) (hm : m ≤ 1000) : Fr 1 1 v := by
  cases v with
  | int i => simp only [bel, Bool.and_eq_true, decide_eq_true_eq] at h; exact Fr.int (by omega)
  | _ => cases h
theorem words_t : (["leave", "back", "call", "jump", "set", "stop", "read", "tell", "test", "go", "share", "line"] : List Str).all tStr = true := by decide +kernel
theorem str_fr {z : Str} (h : z ∈ (["leave", "back", "call", "jump", "set", "stop", "read", "tell", "test", "go", "share", "line"] : List Str)) : Fr 1 1 (.str z) := Fr.str (List.all_eq_true.mp words_t z h)
theorem instr_fr {many size : Int} {v : D} (h : instrB many size v = true) (h0 : 0 ≤ many) (hm : many ≤ 8) (hs : size ≤ 1000) : Fr 6 112 v := by
  obtain ⟨z, r, rfl⟩ := instrB_tup h
  have hz : Fr 5 1 (.str z) := by
    have : Fr 1 1 (.str z) := by
      apply str_fr
      rcases words z with ⟨c0, c1, c2, c3, c4, c5, c6, c7, c8, c9, c10⟩ | ⟨c0, c1, c2, c3, c4, c5, c6, c7, c8, c9, c10⟩ | ⟨c0, c1, c2, c3, c4, c5, c6, c7, c8, c9, c10⟩ | ⟨c0, c1, c2, c3, c4, c5, c6, c7, c8, c9, c10⟩ | ⟨c0, c1, c2, c3, c4, c5, c6, c7, c8, c9, c10⟩ | ⟨c0, c1, c2, c3, c4, c5, c6, c7, c8, c9, c10⟩ | ⟨c0, c1, c2, c3, c4, c5, c6, c7, c8, c9, c10⟩ | ⟨c0, c1, c2, c3, c4, c5, c6, c7, c8, c9, c10⟩ | ⟨c0, c1, c2, c3, c4, c5, c6, c7, c8, c9, c10⟩ | ⟨c0, c1, c2, c3, c4, c5, c6, c7, c8, c9, c10⟩ | ⟨c0, c1, c2, c3, c4, c5, c6, c7, c8, c9, c10⟩ | ⟨c0, c1, c2, c3, c4, c5, c6, c7, c8, c9, c10⟩
      case inr.inr.inr.inr.inr.inr.inr.inr.inr.inr.inr =>
        exfalso
        simp [instrB, c0, c1, c2, c3, c4, c5, c6, c7, c8, c9, c10] at h
        split at h <;> simp at h
      all_goals simp [c0, c1, c2, c3, c4, c5, c6, c7, c8, c9, c10]
    exact this.le (by decide) (by decide)
  have hr : FrL 5 110 r := by
    unfold instrB at h
    have L : ∀ a b : D, Fr 5 1 a → Fr 5 109 b → FrL 5 110 [a, b] := fun a b ha hb => FrL.two ha hb
    have L1 : ∀ a : D, Fr 5 110 a → FrL 5 110 [a] := fun a ha => FrL.one ha
    have b5 : ∀ {a : D} {k : Int}, bel k a = true → k ≤ 1000 → Fr 5 1 a := fun h hk => (bel_fr h hk).le (by decide) (by decide)
    have s5 : ∀ {a : D}, sumB many a = true → Fr 5 109 a := fun h => (sum_fr h h0 hm).le (by decide) (by decide)
    dsimp only at h
    split at h
    · have h := of_decide_eq_true h
      subst h
      exact FrL.nil
    · split at h
      · split at h
        · rw [Bool.and_eq_true] at h
          exact L _ _ (b5 h.1 hs) (sums_fr h.2 h0 hm)
        · cases h
      · split at h
        · split at h
          · rw [Bool.and_eq_true] at h
            exact L _ _ (b5 h.1 (by omega)) (s5 h.2)
          · cases h
        · split at h
          · refine L1 _ ?_
            split at h
            · exact (b5 h (by decide)).le (by decide) (by decide)
            · split at h
              · rw [Bool.or_eq_true, decide_eq_true_eq] at h
                rcases h with h | h
                · rw [h]; exact ⟨rfl, by decide⟩
                · exact (b5 h (by omega)).le (by decide) (by decide)
              · split at h
                · exact (s5 h).le (by decide) (by decide)
                · rw [Bool.and_eq_true] at h
                  exact (b5 h.2 hs).le (by decide) (by decide)
          · cases h
  have := (FrL.cons hz hr).tup
  exact this
theorem line_fr {m : Int} {is : List D} (h : lineB (.tup [.str "line", .int m, .tup is]) = true) (hl : is.length ≤ 9) : Fr 8 1012 (.tup [.str "line", .int m, .tup is]) := by
  simp only [lineB, lineIs, bel, Bool.and_eq_true, decide_eq_true_eq, List.all_eq_true] at h
  obtain ⟨⟨_, hm0, hm⟩, ⟨⟨⟨_, _⟩, hall⟩, _⟩⟩ := h
  have hi := Fr.tup (j := 6) (k := 112) (m := 9) (xs := is) (fun x hx => instr_fr (hall x hx) hm0 (by omega) (by omega)) hl
  have := (FrL.cons ((str_fr (z := "line") (by simp)).le (show 1 ≤ 7 by decide) (Nat.le_refl 1)) (FrL.two ((Fr.int (i := m) (by omega)).le (show 1 ≤ 7 by decide) (Nat.le_refl 1)) hi)).tup
  exact this
end Mi.K61

-- W18
set_option Elab.async false
set_option linter.all false
set_option maxRecDepth 100000
set_option maxHeartbeats 4000000
namespace Mi.K61
open PySem (Str PyData)
open Mi
variable {w n : Nat} {S : Sto}
theorem wts_app : ∀ (xs ys : List D), wts (xs ++ ys) = wts xs + wts ys
  | [], ys => by rw [List.nil_append]; show _ = 0 + _; omega
  | x :: xs, ys => by
    show wt x + wts (xs ++ ys) = wt x + wts xs + wts ys
    rw [wts_app xs ys]; omega
theorem wts_take (n : Nat) (xs : List D) : wts (xs.take n) ≤ wts xs := by
  have := wts_app (xs.take n) (xs.drop n)
  rw [List.take_append_drop] at this; omega
theorem wts_drop (n : Nat) (xs : List D) : wts (xs.drop n) ≤ wts xs := by
  have := wts_app (xs.take n) (xs.drop n)
  rw [List.take_append_drop] at this; omega
theorem wts_rev : ∀ xs : List D, wts xs.reverse = wts xs
  | [] => rfl
  | x :: xs => by
    rw [List.reverse_cons, wts_app, wts_rev xs]
    show wts xs + (wt x + 0) = wt x + wts xs
    omega
theorem FrL.take {j k : Nat} {xs : List D} (h : FrL j k xs) (m : Nat) : FrL j k (xs.take m) := by
  refine ⟨?_, Nat.le_trans (wts_take m xs) h.2⟩
  have := h.1
  rw [List.all_eq_true] at this ⊢
  exact fun x hx => this x (List.mem_of_mem_take hx)
theorem FrL.drop {j k : Nat} {xs : List D} (h : FrL j k xs) (m : Nat) : FrL j k (xs.drop m) := by
  refine ⟨?_, Nat.le_trans (wts_drop m xs) h.2⟩
  have := h.1
  rw [List.all_eq_true] at this ⊢
  exact fun x hx => this x (List.mem_of_mem_drop hx)
theorem FrL.cut {j k : Nat} {xs : List D} (h : FrL j k xs) (a b : Option Int) : FrL j k (cut xs a b) := (h.drop _).take _
theorem FrL.rev {j k : Nat} {xs : List D} (h : FrL j k xs) : FrL j k xs.reverse := ⟨by rw [List.all_reverse]; exact h.1, by rw [wts_rev]; exact h.2⟩
theorem FrL.app {j a b : Nat} {xs ys : List D} (h : FrL j a xs) (h2 : FrL j b ys) : FrL j (a + b) (xs ++ ys) := ⟨by rw [List.all_append, h.1, h2.1]; rfl, by rw [wts_app]; exact Nat.add_le_add h.2 h2.2⟩
theorem FrL.len {j k : Nat} {xs : List D} (h : FrL j k xs) : xs.length ≤ k := by
  have : ∀ ys : List D, ys.length ≤ wts ys := by
    intro ys
    induction ys with
    | nil => exact Nat.le_refl 0
    | cons y ys ih =>
      have := wt_pos (d := y)
      show ys.length + 1 ≤ wt y + wts ys
      omega
  exact Nat.le_trans (this xs) h.2
/-- a value without cells, well formed anywhere -/
def Gr (j k : Nat) (x : D) : Prop := below 0 x = true ∧ ∀ S, ok S j x = true ∧ wtF S j x ≤ k
theorem Fr.gr {j k : Nat} {x : D} (h : Fr j k x) : Gr j k x := ⟨fr_below h.1, fun S => ⟨fr_ok h.1, Nat.le_trans (wtF_fr h.1) h.2⟩⟩
theorem Gr.int {i : Int} (h : okInt i = true) : Gr 10 2100 (.int i) := ⟨rfl, fun S => ⟨h, by unfold wtF; decide⟩⟩
theorem Gr.str {x : Str} (h : okStr x = true) : Gr 10 2100 (.str x) := ⟨rfl, fun S => ⟨h, by unfold wtF; decide⟩⟩
/-- what a draw among others gives -/
def OV (v : V2) : Prop := (∃ x, v = .d x ∧ Gr 10 2100 x) ∨ (∃ xs, v = .l xs ∧ Gr 10 2100 (.tup xs))
def Cl (G E : Sto) (x : D) : Prop := Gr 10 2100 x ∨ ∃ j ys, x = .ref (G.length + j) ∧ E[j]? = some (.lst ys) ∧ Gr 10 2100 (.tup ys)
theorem tidy_ref {G E : Sto} {p j : Nat} {z y : Z} {ys : List D} (h : p < G.length) (hE : E[j]? = some (.lst ys)) (hb : belows G.length ys = true) :
    tidy (stz G p z) (.d (.ref (G.length + j))) (stz (G ++ E) p y) = .ok (.l ys) (stz G p y) := by
  rw [← stz_app h]
  unfold tidy
  rw [if_pos (oldOk_stz h)]
  have ht : (stz G p y ++ E).take (stz G p z).length = stz G p y := by
    rw [stz_len, ← stz_len (G := G) (p := p) (z := y)]; simp
  have hg : (stz G p y ++ E)[G.length + j]? = some (.lst ys) := by
    rw [List.getElem?_append_right (by rw [stz_len]; omega), stz_len, Nat.add_sub_cancel_left, hE]
  dsimp only
  rw [if_neg (by rw [stz_len]; omega), hg]
  dsimp only
  rw [stz_len, if_pos hb, ← stz_len (G := G) (p := p) (z := z), ht]
theorem fin_other {G E : Sto} {p : Nat} {x : D} (h : p < G.length) (hx : Cl G E x) (z y : Z) : ∃ v, OV v ∧ tidy (stz G p z) (.d x) (stz (G ++ E) p y) = .ok v (stz G p y) := by
  rcases hx with hx | ⟨j, ys, rfl, hE, hf⟩
  · exact ⟨.d x, Or.inl ⟨x, rfl, hx⟩, tidy_stz' h (below_le (Nat.zero_le _) hx.1)⟩
  · exact ⟨.l ys, Or.inr ⟨ys, rfl, hf⟩, tidy_ref h hE (belows_le (Nat.zero_le _) hf.1)⟩
theorem Cl.below {G E : Sto} {x : D} (h : Cl G E x) : below (G ++ E).length x = true := by
  rcases h with h | ⟨j, ys, rfl, hE, _⟩
  · exact below_le (Nat.zero_le _) h.1
  · have := (List.getElem?_eq_some_iff.mp hE).1
    exact decide_eq_true (by rw [List.length_append]; omega)
theorem str_sp {x : Str} (h : fr 8 (.str x) = true) : okStr (x ++ " ") = true := by
  obtain ⟨h1, h2⟩ := and2 (show tStr x = true from h)
  have h1 := of_decide_eq_true h1
  show (decide ((x ++ " ").length ≤ 40) && PyData.strOk (x ++ " ")) = true
  have e1 : (x ++ (" " : Str)).length = x.length + 1 := by
    show (x.cps ++ (" " : Str).cps).size = x.cps.size + 1
    rw [Array.size_append]; rfl
  have e2 : PyData.strOk (x ++ (" " : Str)) = true := by
    unfold PyData.strOk at h2 ⊢
    show (x.cps ++ (" " : Str).cps).all _ = true
    rw [Array.all_append, h2]
    decide +kernel
  rw [e1, e2, decide_eq_true (by omega)]; rfl
theorem Cl.fr {G E : Sto} {x : D} {j k : Nat} (h : Fr j k x) (hj : j ≤ 10) (hk : k ≤ 2100) : Cl G E x := Or.inl (h.le hj hk).gr
theorem other_pick {G E : Sto} {p j : Nat} {z : Z} {xs : List D} (h : p < G.length) (hE : E[j]? = some (.lst xs)) (h1 : 0 < xs.length) (h2 : xs.length < 1073741824) (hc : ∀ x ∈ xs, Cl G E x) :
    ∃ v x y, OV v ∧ callF P w (n + 2) "_law_pick" [.ref p, .ref (G.length + j)] [] [] (stz (G ++ E) p z) = .ok (.d x) (stz (G ++ E) p y) ∧ tidy (stz G p z) (.d x) (stz (G ++ E) p y) = .ok v (stz G p y) := by
  obtain ⟨x, hx, e⟩ := pick_ev (w := w) (n := n) (G := G ++ E) (p := p) (k := G.length + j) (z := z) (xs := xs) (by rw [List.length_append]; omega) (by rw [List.getElem?_append_right (by omega), Nat.add_sub_cancel_left, hE]) (by omega) h1 h2 (belows_all fun x hx => (hc x hx).below)
  obtain ⟨v, ov, ht⟩ := fin_other h (hc x hx) z (z.nx xs.length)
  exact ⟨v, x, _, ov, e, ht⟩
theorem allocE {G E : Sto} {p : Nat} {z : Z} {c : Cell} (h : p < G.length) : alloc c (stz (G ++ E) p z) = .ok (.ref (G.length + E.length)) (stz (G ++ (E ++ [c])) p z) := by
  rw [alloc_stz (by rw [List.length_append]; omega), List.length_append, List.append_assoc]
theorem lstE {G E : Sto} {p j : Nat} {z : Z} {xs : List D} (h : p < G.length) (hE : E[j]? = some (.lst xs)) : lstAt (G.length + j) (stz (G ++ E) p z) = .ok xs (stz (G ++ E) p z) := by
  unfold lstAt
  rw [stz_ne (by omega), List.getElem?_append_right (by omega), Nat.add_sub_cancel_left, hE]

theorem other_int {G : Sto} {p : Nat} {z : Z} {i : Int} (h : p < G.length) (hv : Fr 8 1012 (.int i)) :
    ∃ v y, OV v ∧ callF P w (n + 3) "_law_other" [.ref p, .int i] [] [] (stz G p z) = .ok v (stz G p y) := by
  have hk : ∀ S, Ok S (.int i) := fun S => (Fr.Wk (hv.le (by decide) (Nat.le_refl _)) S).ok
  have hb := of_decide_eq_true (show decide (-10000000000 ≤ i ∧ i ≤ 10000000000) = true from hv.1)
  have a0 := fun c => alloc_stz (z := z) (c := c) h
  have a1 := fun (a c : Cell) => allocE (G := G) (E := [a]) (p := p) (z := z) (c := c) h
  have a2 := fun (a b c : Cell) => allocE (G := G) (E := [a, b]) (p := p) (z := z) (c := c) h
  have a3 := fun (a b d c : Cell) => allocE (G := G) (E := [a, b, d]) (p := p) (z := z) (c := c) h
  have l1 := fun (a : Cell) (ys : List D) => lstE (G := G) (p := p) (z := z) (E := [a, .lst ys]) (j := 1) (xs := ys) h rfl
  have l2 := fun (a b : Cell) (ys : List D) => lstE (G := G) (p := p) (z := z) (E := [a, b, .lst ys]) (j := 2) (xs := ys) h rfl
  have l3 := fun (a : Cell) (b : Cell) (ys : List D) => lstE (G := G) (p := p) (z := z) (E := [a, .lst ys, b]) (j := 1) (xs := ys) h rfl
  simp only [List.length_cons, List.length_nil, List.cons_append, List.nil_append, Nat.zero_add, Nat.reduceAdd] at a1 a2 a3
  have hi := fun S => law_int_ev (w := w) (n := n + 1) (hk S)
  have ht := fun S => isi_ok (hk S) .tuple
  have hs := fun S => isi_ok (hk S) .str
  obtain ⟨v, x, y, ov, e1, e2⟩ := other_pick (w := w) (n := n) (G := G) (E := [.lst [], .lst [.non, .bl true, .bl false, .int 0, .int (-1), .int i, .ref G.length, .tup [], .str "go", .str "line", .str "read", .int 8, .int 9, .int 1000000001, .int 1000, .tup [.int 0, .tup []], .tup [.tup [.int 0, .tup []]], .int 1], .lst [.non, .bl true, .bl false, .int 0, .int (-1), .int i, .ref G.length, .tup [], .str "go", .str "line", .str "read", .int 8, .int 9, .int 1000000001, .int 1000, .tup [.int 0, .tup []], .tup [.tup [.int 0, .tup []]], .int 1, .int (i + 1), .int (i - 1), .int (-i), .int (i + 1), .int (i - 1)]]) (p := p) (z := z) (j := 2) (xs := [.non, .bl true, .bl false, .int 0, .int (-1), .int i, .ref G.length, .tup [], .str "go", .str "line", .str "read", .int 8, .int 9, .int 1000000001, .int 1000, .tup [.int 0, .tup []], .tup [.tup [.int 0, .tup []]], .int 1, .int (i + 1), .int (i - 1), .int (-i), .int (i + 1), .int (i - 1)]) h rfl (by simp) (by simp) (by
    intro x hx
    simp only [List.mem_cons, List.not_mem_nil, or_false] at hx
    rcases hx with hx | hx | hx | hx | hx | hx | hx | hx | hx | hx | hx | hx | hx | hx | hx | hx | hx | hx | hx | hx | hx | hx | hx <;> rw [hx]
    · exact Cl.fr (j := 10) (k := 10) ⟨by decide, by decide⟩ (by decide) (by decide)
    · exact Cl.fr (j := 10) (k := 10) ⟨by decide, by decide⟩ (by decide) (by decide)
    · exact Cl.fr (j := 10) (k := 10) ⟨by decide, by decide⟩ (by decide) (by decide)
    · exact Cl.fr (j := 10) (k := 10) ⟨by decide, by decide⟩ (by decide) (by decide)
    · exact Cl.fr (j := 10) (k := 10) ⟨by decide, by decide⟩ (by decide) (by decide)
    · exact Cl.fr hv (by decide) (by decide)
    · exact Or.inr ⟨0, [], rfl, rfl, Fr.gr ⟨rfl, by decide⟩⟩
    · exact Cl.fr (j := 10) (k := 10) ⟨by decide, by decide⟩ (by decide) (by decide)
    · exact Cl.fr (j := 10) (k := 1) ⟨by decide +kernel, by decide⟩ (by decide) (by decide)
    · exact Cl.fr (j := 10) (k := 1) ⟨by decide +kernel, by decide⟩ (by decide) (by decide)
    · exact Cl.fr (j := 10) (k := 1) ⟨by decide +kernel, by decide⟩ (by decide) (by decide)
    · exact Cl.fr (j := 10) (k := 10) ⟨by decide, by decide⟩ (by decide) (by decide)
    · exact Cl.fr (j := 10) (k := 10) ⟨by decide, by decide⟩ (by decide) (by decide)
    · exact Cl.fr (j := 10) (k := 10) ⟨by decide, by decide⟩ (by decide) (by decide)
    · exact Cl.fr (j := 10) (k := 10) ⟨by decide, by decide⟩ (by decide) (by decide)
    · exact Cl.fr (j := 10) (k := 10) ⟨by decide, by decide⟩ (by decide) (by decide)
    · exact Cl.fr (j := 10) (k := 10) ⟨by decide, by decide⟩ (by decide) (by decide)
    · exact Cl.fr (j := 10) (k := 10) ⟨by decide, by decide⟩ (by decide) (by decide)
    · exact Or.inl (Gr.int (decide_eq_true (by omega)))
    · exact Or.inl (Gr.int (decide_eq_true (by omega)))
    · exact Or.inl (Gr.int (decide_eq_true (by omega)))
    · exact Or.inl (Gr.int (decide_eq_true (by omega)))
    · exact Or.inl (Gr.int (decide_eq_true (by omega))))
  refine ⟨v, y, ov, ?_⟩
  rw [callF_pos h__law_other (by decide) rfl]
  simp [exs, ex, ev, evD, evV, evAnd, evOr, evO, evC, evI, asg, asgs, Ts.len, toD, ↓bind_ap, pure_ap, bad_ap, ite_pp, ite_ap, Rho.get, enter, truth, fin, tidy_bl, cmpV, cmpInt, cmpI, orBad, chk, chk_true, srcOf, Mi.wipe, bltV, toSeq, toL, toLm, idxV, idxSeq, ixAt, binV, sIx, isT, F._law_other, isI, a0, a1, a2, a3, l1, l2, l3, hi, ht, hs, e1, e2, most, slc_tup, revV, eqV]

theorem other_str {G : Sto} {p : Nat} {z : Z} {x : Str} (h : p < G.length) (hv : Fr 8 1012 (.str x)) :
    ∃ v y, OV v ∧ callF P w (n + 3) "_law_other" [.ref p, .str x] [] [] (stz G p z) = .ok v (stz G p y) := by
  have hk : ∀ S, Ok S (.str x) := fun S => (Fr.Wk (hv.le (by decide) (Nat.le_refl _)) S).ok
  have hsp : okStr (x ++ " ") = true := str_sp hv.1
  have hsl : (" " : Str).length = 1 := by decide +kernel
  have hlen : x.length + (" " : Str).length ≤ 16777216 := by rw [hsl]; have := of_decide_eq_true (and2 (show tStr x = true from hv.1)).1; omega
  have a0 := fun c => alloc_stz (z := z) (c := c) h
  have a1 := fun (a c : Cell) => allocE (G := G) (E := [a]) (p := p) (z := z) (c := c) h
  have a2 := fun (a b c : Cell) => allocE (G := G) (E := [a, b]) (p := p) (z := z) (c := c) h
  have a3 := fun (a b d c : Cell) => allocE (G := G) (E := [a, b, d]) (p := p) (z := z) (c := c) h
  have l1 := fun (a : Cell) (ys : List D) => lstE (G := G) (p := p) (z := z) (E := [a, .lst ys]) (j := 1) (xs := ys) h rfl
  have l2 := fun (a b : Cell) (ys : List D) => lstE (G := G) (p := p) (z := z) (E := [a, b, .lst ys]) (j := 2) (xs := ys) h rfl
  have l3 := fun (a : Cell) (b : Cell) (ys : List D) => lstE (G := G) (p := p) (z := z) (E := [a, .lst ys, b]) (j := 1) (xs := ys) h rfl
  simp only [List.length_cons, List.length_nil, List.cons_append, List.nil_append, Nat.zero_add, Nat.reduceAdd] at a1 a2 a3
  have hi := fun S => law_int_ev (w := w) (n := n + 1) (hk S)
  have ht := fun S => isi_ok (hk S) .tuple
  have hs := fun S => isi_ok (hk S) .str
  obtain ⟨v, x, y, ov, e1, e2⟩ := other_pick (w := w) (n := n) (G := G) (E := [.lst [], .lst [.non, .bl true, .bl false, .int 0, .int (-1), .str x, .ref G.length, .tup [], .str "go", .str "line", .str "read", .int 8, .int 9, .int 1000000001, .int 1000, .tup [.int 0, .tup []], .tup [.tup [.int 0, .tup []]], .int 1], .lst [.non, .bl true, .bl false, .int 0, .int (-1), .str x, .ref G.length, .tup [], .str "go", .str "line", .str "read", .int 8, .int 9, .int 1000000001, .int 1000, .tup [.int 0, .tup []], .tup [.tup [.int 0, .tup []]], .int 1, .str "leave", .str "back", .str "tell", .str "share", .str "test", .str "call", .str "jump", .str (x ++ " ")]]) (p := p) (z := z) (j := 2) (xs := [.non, .bl true, .bl false, .int 0, .int (-1), .str x, .ref G.length, .tup [], .str "go", .str "line", .str "read", .int 8, .int 9, .int 1000000001, .int 1000, .tup [.int 0, .tup []], .tup [.tup [.int 0, .tup []]], .int 1, .str "leave", .str "back", .str "tell", .str "share", .str "test", .str "call", .str "jump", .str (x ++ " ")]) h rfl (by simp) (by simp) (by
    intro x hx
    simp only [List.mem_cons, List.not_mem_nil, or_false] at hx
    rcases hx with hx | hx | hx | hx | hx | hx | hx | hx | hx | hx | hx | hx | hx | hx | hx | hx | hx | hx | hx | hx | hx | hx | hx | hx | hx | hx <;> rw [hx]
    · exact Cl.fr (j := 10) (k := 10) ⟨by decide, by decide⟩ (by decide) (by decide)
    · exact Cl.fr (j := 10) (k := 10) ⟨by decide, by decide⟩ (by decide) (by decide)
    · exact Cl.fr (j := 10) (k := 10) ⟨by decide, by decide⟩ (by decide) (by decide)
    · exact Cl.fr (j := 10) (k := 10) ⟨by decide, by decide⟩ (by decide) (by decide)
    · exact Cl.fr (j := 10) (k := 10) ⟨by decide, by decide⟩ (by decide) (by decide)
    · exact Cl.fr hv (by decide) (by decide)
    · exact Or.inr ⟨0, [], rfl, rfl, Fr.gr ⟨rfl, by decide⟩⟩
    · exact Cl.fr (j := 10) (k := 10) ⟨by decide, by decide⟩ (by decide) (by decide)
    · exact Cl.fr (j := 10) (k := 1) ⟨by decide +kernel, by decide⟩ (by decide) (by decide)
    · exact Cl.fr (j := 10) (k := 1) ⟨by decide +kernel, by decide⟩ (by decide) (by decide)
    · exact Cl.fr (j := 10) (k := 1) ⟨by decide +kernel, by decide⟩ (by decide) (by decide)
    · exact Cl.fr (j := 10) (k := 10) ⟨by decide, by decide⟩ (by decide) (by decide)
    · exact Cl.fr (j := 10) (k := 10) ⟨by decide, by decide⟩ (by decide) (by decide)
    · exact Cl.fr (j := 10) (k := 10) ⟨by decide, by decide⟩ (by decide) (by decide)
    · exact Cl.fr (j := 10) (k := 10) ⟨by decide, by decide⟩ (by decide) (by decide)
    · exact Cl.fr (j := 10) (k := 10) ⟨by decide, by decide⟩ (by decide) (by decide)
    · exact Cl.fr (j := 10) (k := 10) ⟨by decide, by decide⟩ (by decide) (by decide)
    · exact Cl.fr (j := 10) (k := 10) ⟨by decide, by decide⟩ (by decide) (by decide)
    · exact Cl.fr (j := 10) (k := 1) ⟨by decide +kernel, by decide⟩ (by decide) (by decide)
    · exact Cl.fr (j := 10) (k := 1) ⟨by decide +kernel, by decide⟩ (by decide) (by decide)
    · exact Cl.fr (j := 10) (k := 1) ⟨by decide +kernel, by decide⟩ (by decide) (by decide)
    · exact Cl.fr (j := 10) (k := 1) ⟨by decide +kernel, by decide⟩ (by decide) (by decide)
    · exact Cl.fr (j := 10) (k := 1) ⟨by decide +kernel, by decide⟩ (by decide) (by decide)
    · exact Cl.fr (j := 10) (k := 1) ⟨by decide +kernel, by decide⟩ (by decide) (by decide)
    · exact Cl.fr (j := 10) (k := 1) ⟨by decide +kernel, by decide⟩ (by decide) (by decide)
    · exact Or.inl (Gr.str hsp))
  refine ⟨v, y, ov, ?_⟩
  rw [callF_pos h__law_other (by decide) rfl]
  simp [exs, ex, ev, evD, evV, evAnd, evOr, evO, evC, evI, asg, asgs, Ts.len, toD, ↓bind_ap, pure_ap, bad_ap, ite_pp, ite_ap, Rho.get, enter, truth, fin, tidy_bl, cmpV, cmpInt, cmpI, orBad, chk, chk_true, srcOf, Mi.wipe, bltV, toSeq, toL, toLm, idxV, idxSeq, ixAt, binV, sIx, isT, F._law_other, isI, a0, a1, a2, a3, l1, l2, l3, hi, ht, hs, e1, e2, most, slc_tup, revV, hlen]

theorem other_tup {G : Sto} {p : Nat} {z : Z} {xs : List D} (h : p < G.length) (hv : Fr 8 1012 (.tup xs)) :
    ∃ v y, OV v ∧ callF P w (n + 3) "_law_other" [.ref p, .tup xs] [] [] (stz G p z) = .ok v (stz G p y) := by
  have hk : ∀ S, Ok S (.tup xs) := fun S => (Fr.Wk (hv.le (by decide) (Nat.le_refl _)) S).ok
  have hL : FrL 7 1011 xs := ⟨hv.1, by have := hv.2; unfold wt at this; omega⟩
  have hlen : xs.length ≤ 1011 := hL.len
  have hl1 : xs.length + 1 ≤ 16777216 := by omega
  have hl2 : xs.length + (cut xs (some (-1)) none).length ≤ 16777216 := by have := (hL.cut (some (-1)) none).len; omega
  have a0 := fun c => alloc_stz (z := z) (c := c) h
  have a1 := fun (a c : Cell) => allocE (G := G) (E := [a]) (p := p) (z := z) (c := c) h
  have a2 := fun (a b c : Cell) => allocE (G := G) (E := [a, b]) (p := p) (z := z) (c := c) h
  have a3 := fun (a b d c : Cell) => allocE (G := G) (E := [a, b, d]) (p := p) (z := z) (c := c) h
  have l1 := fun (a : Cell) (ys : List D) => lstE (G := G) (p := p) (z := z) (E := [a, .lst ys]) (j := 1) (xs := ys) h rfl
  have l2 := fun (a b : Cell) (ys : List D) => lstE (G := G) (p := p) (z := z) (E := [a, b, .lst ys]) (j := 2) (xs := ys) h rfl
  have l3 := fun (a : Cell) (b : Cell) (ys : List D) => lstE (G := G) (p := p) (z := z) (E := [a, .lst ys, b]) (j := 1) (xs := ys) h rfl
  simp only [List.length_cons, List.length_nil, List.cons_append, List.nil_append, Nat.zero_add, Nat.reduceAdd] at a1 a2 a3
  have hi := fun S => law_int_ev (w := w) (n := n + 1) (hk S)
  have ht := fun S => isi_ok (hk S) .tuple
  have hs := fun S => isi_ok (hk S) .str
  obtain ⟨v, x, y, ov, e1, e2⟩ := other_pick (w := w) (n := n) (G := G) (E := [.lst [], .lst [.non, .bl true, .bl false, .int 0, .int (-1), .tup xs, .ref G.length, .tup [], .str "go", .str "line", .str "read", .int 8, .int 9, .int 1000000001, .int 1000, .tup [.int 0, .tup []], .tup [.tup [.int 0, .tup []]], .int 1], .lst xs, .lst [.non, .bl true, .bl false, .int 0, .int (-1), .tup xs, .ref G.length, .tup [], .str "go", .str "line", .str "read", .int 8, .int 9, .int 1000000001, .int 1000, .tup [.int 0, .tup []], .tup [.tup [.int 0, .tup []]], .int 1, .ref (G.length + 2), .tup (cut xs none (some (-1))), .tup (xs ++ [.int 0]), .tup (xs ++ cut xs (some (-1)) none), .tup xs.reverse]]) (p := p) (z := z) (j := 3) (xs := [.non, .bl true, .bl false, .int 0, .int (-1), .tup xs, .ref G.length, .tup [], .str "go", .str "line", .str "read", .int 8, .int 9, .int 1000000001, .int 1000, .tup [.int 0, .tup []], .tup [.tup [.int 0, .tup []]], .int 1, .ref (G.length + 2), .tup (cut xs none (some (-1))), .tup (xs ++ [.int 0]), .tup (xs ++ cut xs (some (-1)) none), .tup xs.reverse]) h rfl (by simp) (by simp) (by
    intro x hx
    simp only [List.mem_cons, List.not_mem_nil, or_false] at hx
    rcases hx with hx | hx | hx | hx | hx | hx | hx | hx | hx | hx | hx | hx | hx | hx | hx | hx | hx | hx | hx | hx | hx | hx | hx <;> rw [hx]
    · exact Cl.fr (j := 10) (k := 10) ⟨by decide, by decide⟩ (by decide) (by decide)
    · exact Cl.fr (j := 10) (k := 10) ⟨by decide, by decide⟩ (by decide) (by decide)
    · exact Cl.fr (j := 10) (k := 10) ⟨by decide, by decide⟩ (by decide) (by decide)
    · exact Cl.fr (j := 10) (k := 10) ⟨by decide, by decide⟩ (by decide) (by decide)
    · exact Cl.fr (j := 10) (k := 10) ⟨by decide, by decide⟩ (by decide) (by decide)
    · exact Cl.fr hv (by decide) (by decide)
    · exact Or.inr ⟨0, [], rfl, rfl, Fr.gr ⟨rfl, by decide⟩⟩
    · exact Cl.fr (j := 10) (k := 10) ⟨by decide, by decide⟩ (by decide) (by decide)
    · exact Cl.fr (j := 10) (k := 1) ⟨by decide +kernel, by decide⟩ (by decide) (by decide)
    · exact Cl.fr (j := 10) (k := 1) ⟨by decide +kernel, by decide⟩ (by decide) (by decide)
    · exact Cl.fr (j := 10) (k := 1) ⟨by decide +kernel, by decide⟩ (by decide) (by decide)
    · exact Cl.fr (j := 10) (k := 10) ⟨by decide, by decide⟩ (by decide) (by decide)
    · exact Cl.fr (j := 10) (k := 10) ⟨by decide, by decide⟩ (by decide) (by decide)
    · exact Cl.fr (j := 10) (k := 10) ⟨by decide, by decide⟩ (by decide) (by decide)
    · exact Cl.fr (j := 10) (k := 10) ⟨by decide, by decide⟩ (by decide) (by decide)
    · exact Cl.fr (j := 10) (k := 10) ⟨by decide, by decide⟩ (by decide) (by decide)
    · exact Cl.fr (j := 10) (k := 10) ⟨by decide, by decide⟩ (by decide) (by decide)
    · exact Cl.fr (j := 10) (k := 10) ⟨by decide, by decide⟩ (by decide) (by decide)
    · exact Or.inr ⟨2, xs, rfl, rfl, (hv.le (by decide) (by decide)).gr⟩
    · exact Cl.fr (FrL.tup (FrL.cut hL _ _)) (by decide) (by decide)
    · exact Cl.fr (FrL.tup (FrL.app hL (FrL.one (show Fr 7 1 (.int 0) from ⟨by decide, by decide⟩)))) (by decide) (by decide)
    · exact Cl.fr (FrL.tup (FrL.app hL (FrL.cut hL _ _))) (by decide) (by decide)
    · exact Cl.fr (FrL.tup (FrL.rev hL)) (by decide) (by decide))
  refine ⟨v, y, ov, ?_⟩
  rw [callF_pos h__law_other (by decide) rfl]
  simp [exs, ex, ev, evD, evV, evAnd, evOr, evO, evC, evI, asg, asgs, Ts.len, toD, ↓bind_ap, pure_ap, bad_ap, ite_pp, ite_ap, Rho.get, enter, truth, fin, tidy_bl, cmpV, cmpInt, cmpI, orBad, chk, chk_true, srcOf, Mi.wipe, bltV, toSeq, toL, toLm, idxV, idxSeq, ixAt, binV, sIx, isT, F._law_other, isI, a0, a1, a2, a3, l1, l2, l3, hi, ht, hs, e1, e2, most, slc_tup, revV, hlen, hl1, hl2]

theorem other_non {G : Sto} {p : Nat} {z : Z}  (h : p < G.length) (hv : Fr 8 1012 (.non)) :
    ∃ v y, OV v ∧ callF P w (n + 3) "_law_other" [.ref p, .non] [] [] (stz G p z) = .ok v (stz G p y) := by
  have hk : ∀ S, Ok S (.non) := fun S => (Fr.Wk (hv.le (by decide) (Nat.le_refl _)) S).ok
  have a0 := fun c => alloc_stz (z := z) (c := c) h
  have a1 := fun (a c : Cell) => allocE (G := G) (E := [a]) (p := p) (z := z) (c := c) h
  have a2 := fun (a b c : Cell) => allocE (G := G) (E := [a, b]) (p := p) (z := z) (c := c) h
  have a3 := fun (a b d c : Cell) => allocE (G := G) (E := [a, b, d]) (p := p) (z := z) (c := c) h
  have l1 := fun (a : Cell) (ys : List D) => lstE (G := G) (p := p) (z := z) (E := [a, .lst ys]) (j := 1) (xs := ys) h rfl
  have l2 := fun (a b : Cell) (ys : List D) => lstE (G := G) (p := p) (z := z) (E := [a, b, .lst ys]) (j := 2) (xs := ys) h rfl
  have l3 := fun (a : Cell) (b : Cell) (ys : List D) => lstE (G := G) (p := p) (z := z) (E := [a, .lst ys, b]) (j := 1) (xs := ys) h rfl
  simp only [List.length_cons, List.length_nil, List.cons_append, List.nil_append, Nat.zero_add, Nat.reduceAdd] at a1 a2 a3
  have hi := fun S => law_int_ev (w := w) (n := n + 1) (hk S)
  have ht := fun S => isi_ok (hk S) .tuple
  have hs := fun S => isi_ok (hk S) .str
  obtain ⟨v, x, y, ov, e1, e2⟩ := other_pick (w := w) (n := n) (G := G) (E := [.lst [], .lst [.non, .bl true, .bl false, .int 0, .int (-1), .non, .ref G.length, .tup [], .str "go", .str "line", .str "read", .int 8, .int 9, .int 1000000001, .int 1000, .tup [.int 0, .tup []], .tup [.tup [.int 0, .tup []]], .int 1]]) (p := p) (z := z) (j := 1) (xs := [.non, .bl true, .bl false, .int 0, .int (-1), .non, .ref G.length, .tup [], .str "go", .str "line", .str "read", .int 8, .int 9, .int 1000000001, .int 1000, .tup [.int 0, .tup []], .tup [.tup [.int 0, .tup []]], .int 1]) h rfl (by simp) (by simp) (by
    intro x hx
    simp only [List.mem_cons, List.not_mem_nil, or_false] at hx
    rcases hx with hx | hx | hx | hx | hx | hx | hx | hx | hx | hx | hx | hx | hx | hx | hx | hx | hx | hx <;> rw [hx]
    · exact Cl.fr (j := 10) (k := 10) ⟨by decide, by decide⟩ (by decide) (by decide)
    · exact Cl.fr (j := 10) (k := 10) ⟨by decide, by decide⟩ (by decide) (by decide)
    · exact Cl.fr (j := 10) (k := 10) ⟨by decide, by decide⟩ (by decide) (by decide)
    · exact Cl.fr (j := 10) (k := 10) ⟨by decide, by decide⟩ (by decide) (by decide)
    · exact Cl.fr (j := 10) (k := 10) ⟨by decide, by decide⟩ (by decide) (by decide)
    · exact Cl.fr hv (by decide) (by decide)
    · exact Or.inr ⟨0, [], rfl, rfl, Fr.gr ⟨rfl, by decide⟩⟩
    · exact Cl.fr (j := 10) (k := 10) ⟨by decide, by decide⟩ (by decide) (by decide)
    · exact Cl.fr (j := 10) (k := 1) ⟨by decide +kernel, by decide⟩ (by decide) (by decide)
    · exact Cl.fr (j := 10) (k := 1) ⟨by decide +kernel, by decide⟩ (by decide) (by decide)
    · exact Cl.fr (j := 10) (k := 1) ⟨by decide +kernel, by decide⟩ (by decide) (by decide)
    · exact Cl.fr (j := 10) (k := 10) ⟨by decide, by decide⟩ (by decide) (by decide)
    · exact Cl.fr (j := 10) (k := 10) ⟨by decide, by decide⟩ (by decide) (by decide)
    · exact Cl.fr (j := 10) (k := 10) ⟨by decide, by decide⟩ (by decide) (by decide)
    · exact Cl.fr (j := 10) (k := 10) ⟨by decide, by decide⟩ (by decide) (by decide)
    · exact Cl.fr (j := 10) (k := 10) ⟨by decide, by decide⟩ (by decide) (by decide)
    · exact Cl.fr (j := 10) (k := 10) ⟨by decide, by decide⟩ (by decide) (by decide)
    · exact Cl.fr (j := 10) (k := 10) ⟨by decide, by decide⟩ (by decide) (by decide))
  refine ⟨v, y, ov, ?_⟩
  rw [callF_pos h__law_other (by decide) rfl]
  simp [exs, ex, ev, evD, evV, evAnd, evOr, evO, evC, evI, asg, asgs, Ts.len, toD, ↓bind_ap, pure_ap, bad_ap, ite_pp, ite_ap, Rho.get, enter, truth, fin, tidy_bl, cmpV, cmpInt, cmpI, orBad, chk, chk_true, srcOf, Mi.wipe, bltV, toSeq, toL, toLm, idxV, idxSeq, ixAt, binV, sIx, isT, F._law_other, isI, a0, a1, a2, a3, l1, l2, l3, hi, ht, hs, e1, e2, most, slc_tup, revV, eqV]

theorem other_bl {G : Sto} {p : Nat} {z : Z} {b : Bool} (h : p < G.length) (hv : Fr 8 1012 (.bl b)) :
    ∃ v y, OV v ∧ callF P w (n + 3) "_law_other" [.ref p, .bl b] [] [] (stz G p z) = .ok v (stz G p y) := by
  have hk : ∀ S, Ok S (.bl b) := fun S => (Fr.Wk (hv.le (by decide) (Nat.le_refl _)) S).ok
  have a0 := fun c => alloc_stz (z := z) (c := c) h
  have a1 := fun (a c : Cell) => allocE (G := G) (E := [a]) (p := p) (z := z) (c := c) h
  have a2 := fun (a b c : Cell) => allocE (G := G) (E := [a, b]) (p := p) (z := z) (c := c) h
  have a3 := fun (a b d c : Cell) => allocE (G := G) (E := [a, b, d]) (p := p) (z := z) (c := c) h
  have l1 := fun (a : Cell) (ys : List D) => lstE (G := G) (p := p) (z := z) (E := [a, .lst ys]) (j := 1) (xs := ys) h rfl
  have l2 := fun (a b : Cell) (ys : List D) => lstE (G := G) (p := p) (z := z) (E := [a, b, .lst ys]) (j := 2) (xs := ys) h rfl
  have l3 := fun (a : Cell) (b : Cell) (ys : List D) => lstE (G := G) (p := p) (z := z) (E := [a, .lst ys, b]) (j := 1) (xs := ys) h rfl
  simp only [List.length_cons, List.length_nil, List.cons_append, List.nil_append, Nat.zero_add, Nat.reduceAdd] at a1 a2 a3
  have hi := fun S => law_int_ev (w := w) (n := n + 1) (hk S)
  have ht := fun S => isi_ok (hk S) .tuple
  have hs := fun S => isi_ok (hk S) .str
  obtain ⟨v, x, y, ov, e1, e2⟩ := other_pick (w := w) (n := n) (G := G) (E := [.lst [], .lst [.non, .bl true, .bl false, .int 0, .int (-1), .bl b, .ref G.length, .tup [], .str "go", .str "line", .str "read", .int 8, .int 9, .int 1000000001, .int 1000, .tup [.int 0, .tup []], .tup [.tup [.int 0, .tup []]], .int 1]]) (p := p) (z := z) (j := 1) (xs := [.non, .bl true, .bl false, .int 0, .int (-1), .bl b, .ref G.length, .tup [], .str "go", .str "line", .str "read", .int 8, .int 9, .int 1000000001, .int 1000, .tup [.int 0, .tup []], .tup [.tup [.int 0, .tup []]], .int 1]) h rfl (by simp) (by simp) (by
    intro x hx
    simp only [List.mem_cons, List.not_mem_nil, or_false] at hx
    rcases hx with hx | hx | hx | hx | hx | hx | hx | hx | hx | hx | hx | hx | hx | hx | hx | hx | hx | hx <;> rw [hx]
    · exact Cl.fr (j := 10) (k := 10) ⟨by decide, by decide⟩ (by decide) (by decide)
    · exact Cl.fr (j := 10) (k := 10) ⟨by decide, by decide⟩ (by decide) (by decide)
    · exact Cl.fr (j := 10) (k := 10) ⟨by decide, by decide⟩ (by decide) (by decide)
    · exact Cl.fr (j := 10) (k := 10) ⟨by decide, by decide⟩ (by decide) (by decide)
    · exact Cl.fr (j := 10) (k := 10) ⟨by decide, by decide⟩ (by decide) (by decide)
    · exact Cl.fr hv (by decide) (by decide)
    · exact Or.inr ⟨0, [], rfl, rfl, Fr.gr ⟨rfl, by decide⟩⟩
    · exact Cl.fr (j := 10) (k := 10) ⟨by decide, by decide⟩ (by decide) (by decide)
    · exact Cl.fr (j := 10) (k := 1) ⟨by decide +kernel, by decide⟩ (by decide) (by decide)
    · exact Cl.fr (j := 10) (k := 1) ⟨by decide +kernel, by decide⟩ (by decide) (by decide)
    · exact Cl.fr (j := 10) (k := 1) ⟨by decide +kernel, by decide⟩ (by decide) (by decide)
    · exact Cl.fr (j := 10) (k := 10) ⟨by decide, by decide⟩ (by decide) (by decide)
    · exact Cl.fr (j := 10) (k := 10) ⟨by decide, by decide⟩ (by decide) (by decide)
    · exact Cl.fr (j := 10) (k := 10) ⟨by decide, by decide⟩ (by decide) (by decide)
    · exact Cl.fr (j := 10) (k := 10) ⟨by decide, by decide⟩ (by decide) (by decide)
    · exact Cl.fr (j := 10) (k := 10) ⟨by decide, by decide⟩ (by decide) (by decide)
    · exact Cl.fr (j := 10) (k := 10) ⟨by decide, by decide⟩ (by decide) (by decide)
    · exact Cl.fr (j := 10) (k := 10) ⟨by decide, by decide⟩ (by decide) (by decide))
  refine ⟨v, y, ov, ?_⟩
  rw [callF_pos h__law_other (by decide) rfl]
  simp [exs, ex, ev, evD, evV, evAnd, evOr, evO, evC, evI, asg, asgs, Ts.len, toD, ↓bind_ap, pure_ap, bad_ap, ite_pp, ite_ap, Rho.get, enter, truth, fin, tidy_bl, cmpV, cmpInt, cmpI, orBad, chk, chk_true, srcOf, Mi.wipe, bltV, toSeq, toL, toLm, idxV, idxSeq, ixAt, binV, sIx, isT, F._law_other, isI, a0, a1, a2, a3, l1, l2, l3, hi, ht, hs, e1, e2, most, slc_tup, revV, eqV]

end Mi.K61

-- W19
set_option Elab.async false
set_option linter.all false
set_option maxRecDepth 100000
set_option maxHeartbeats 4000000
namespace Mi.K61
open PySem (Str PyData)
open Mi
variable {w n : Nat} {S : Sto}
theorem other_ev {G : Sto} {p : Nat} {z : Z} {d : D} (h : p < G.length) (hv : Fr 8 1012 d) :
    ∃ v y, OV v ∧ callF P w (n + 3) "_law_other" [.ref p, d] [] [] (stz G p z) = .ok v (stz G p y) := by
  cases d with
  | non => exact other_non h hv
  | bl b => exact other_bl h hv
  | int i => exact other_int h hv
  | str x => exact other_str h hv
  | tup xs => exact other_tup h hv
  | ref k => exact absurd hv.1 (by unfold fr; decide)
theorem tidy_ov {G : Sto} {p : Nat} {v : V2} (h : p < G.length) (hv : OV v) (z y : Z) : tidy (stz G p z) v (stz G p y) = .ok v (stz G p y) := by
  rcases hv with ⟨x, rfl, hx⟩ | ⟨xs, rfl, hx⟩
  · exact tidy_stz0 h (below_le (Nat.zero_le _) hx.1)
  · have ho := oldOk_stz (E := []) (z := z) (y := y) h
    rw [List.append_nil] at ho
    have hb : belows G.length xs = true := belows_le (Nat.zero_le _) hx.1
    unfold tidy
    rw [if_pos ho]
    dsimp only
    rw [stz_len, if_pos hb, ← stz_len (G := G) (p := p) (z := y), List.take_length]
theorem tidy_not {G E : Sto} {p : Nat} {z y : Z} {xs : List D} (h : p < G.length) (hb : below G.length (.tup xs) = false) : tidy (stz G p z) (.d (.tup xs)) (stz (G ++ E) p y) = .ok (.d (.tup xs)) (stz (G ++ E) p y) := by
  rw [← stz_app h]
  unfold tidy
  rw [if_pos (oldOk_stz h)]
  dsimp only
  rw [stz_len, if_neg (by rw [hb]; decide)]
/-- what bending gives -/
def BV (G : Sto) (p : Nat) (E : Sto) (j k : Nat) (v : V2) : Prop :=
  (∃ x, v = .d x ∧ E = [] ∧ Gr j k x) ∨ (∃ xs, v = .l xs ∧ E = [] ∧ Gr 10 2100 (.tup xs)) ∨
  (∃ x, v = .d x ∧ below G.length x = false ∧ ∀ y, ok (stz (G ++ E) p y) j x = true ∧ wtF (stz (G ++ E) p y) j x ≤ k)
theorem Gr.le {j k j' k' : Nat} {x : D} (h : Gr j k x) (hj : j ≤ j') (hk : k ≤ k') : Gr j' k' x := by
  refine ⟨h.1, fun S => ⟨ok_le (h.2 S).1 hj, ?_⟩⟩
  have : wtF S j' x = wtF S j x := by
    have h1 := (h.2 S).1
    induction hj with
    | refl => rfl
    | step hj' ih => rw [wtF_mono (ok_le h1 hj'), ih]
  rw [this]
  exact Nat.le_trans (h.2 S).2 hk
theorem OV.bv {G : Sto} {p : Nat} {j k : Nat} {v : V2} (h : OV v) (hj : 10 ≤ j) (hk : 2100 ≤ k) : BV G p [] j k v := by
  rcases h with ⟨x, rfl, hx⟩ | ⟨xs, rfl, hx⟩
  · exact Or.inl ⟨x, rfl, rfl, hx.le hj hk⟩
  · exact Or.inr (Or.inl ⟨xs, rfl, rfl, hx⟩)
theorem wsum_app (f : D → Nat) : ∀ (xs ys : List D), wsum f (xs ++ ys) = wsum f xs + wsum f ys
  | [], ys => by rw [List.nil_append]; show _ = 0 + _; omega
  | x :: xs, ys => by
    show f x + wsum f (xs ++ ys) = f x + wsum f xs + wsum f ys
    rw [wsum_app f xs ys]; omega
theorem mid_ok {S : Sto} {a b : List D} {x : D} {j k : Nat} (ha : FrL 8 1011 a) (hb : FrL 8 1011 b) (hj : 8 ≤ j) (hx : ok S j x = true ∧ wtF S j x ≤ k) :
    ok S (j + 1) (.tup (a ++ [x] ++ b)) = true ∧ wtF S (j + 1) (.tup (a ++ [x] ++ b)) ≤ k + 2100 := by
  have aux : ∀ c : List D, FrL 8 1011 c → c.all (ok S j) = true ∧ wsum (wtF S j) c ≤ 1011 := by
    intro c hc
    have h1 := hc.1
    rw [List.all_eq_true] at h1
    refine ⟨List.all_eq_true.mpr fun y hy => fr_ok (fr_le (h1 y hy) hj), Nat.le_trans (wsum_wts fun y hy => wtF_fr (fr_le (h1 y hy) hj)) hc.2⟩
  obtain ⟨a1, a2⟩ := aux a ha
  obtain ⟨b1, b2⟩ := aux b hb
  refine ⟨?_, ?_⟩
  · show (a ++ [x] ++ b).all (ok S j) = true
    rw [List.all_append, List.all_append, a1, b1]
    show (true && (ok S j x && true) && true) = true
    rw [hx.1]; rfl
  · show 1 + wsum (wtF S j) (a ++ [x] ++ b) ≤ _
    rw [wsum_app, wsum_app]
    show 1 + (wsum (wtF S j) a + (wtF S j x + 0) + wsum (wtF S j) b) ≤ _
    have := hx.2
    omega
theorem belows_app {k : Nat} : ∀ {xs ys : List D}, belows k (xs ++ ys) = (belows k xs && belows k ys)
  | [], ys => rfl
  | x :: xs, ys => by
    show (below k x && belows k (xs ++ ys)) = (below k x && belows k xs && belows k ys)
    rw [belows_app, Bool.and_assoc]
theorem okw_le {S : Sto} {x : D} {j j' k k' : Nat} (h : ok S j x = true ∧ wtF S j x ≤ k) (hj : j ≤ j') (hk : k ≤ k') : ok S j' x = true ∧ wtF S j' x ≤ k' := by
  refine ⟨ok_le h.1 hj, ?_⟩
  have : wtF S j' x = wtF S j x := by
    have h1 := h.1
    induction hj with
    | refl => rfl
    | step hj' ih => rw [wtF_mono (ok_le h1 hj'), ih]
  rw [this]
  exact Nat.le_trans h.2 hk
theorem ref_okw {S : Sto} {k m j : Nat} {ys : List D} (hS : S[m]? = some (.lst ys)) (h : ok S (j + 1) (.tup ys) = true ∧ wtF S (j + 1) (.tup ys) ≤ k) : ok S (j + 1) (.ref m) = true ∧ wtF S (j + 1) (.ref m) ≤ k := by
  refine ⟨?_, ?_⟩
  · show (match S[m]? with
      | some (.lst xs) => xs.all (ok S j)
      | _ => false) = true
    rw [hS]; exact h.1
  · show (match S[m]? with
      | some (.lst xs) => 1 + wsum (wtF S j) xs
      | _ => 1) ≤ k
    rw [hS]; exact h.2
theorem bent_ev {G : Sto} {p : Nat} (h : p < G.length) : ∀ (d : Nat) (value : D) (z : Z), Fr 8 1012 value → d ≤ 6 →
    ∃ v E y, BV G p E (10 + d) (2100 + 2100 * d) v ∧ callF P w (n + 4 + d) "_law_bent" [.ref p, value, .int d] [] [] (stz G p z) = .ok v (stz (G ++ E) p y) := by
  intro d
  induction d with
  | zero =>
    intro value z hv _
    obtain ⟨v, y, ov, e⟩ := other_ev (w := w) (n := n) (z := z) h hv
    have hk := (Fr.Wk (hv.le (show 8 ≤ 20 by decide) (Nat.le_refl _)) (stz G p z)).ok
    have ht := isi_ok hk .tuple
    have td := tidy_ov h ov z y
    refine ⟨v, [], y, ov.bv (by decide) (by decide), ?_⟩
    rw [callF_pos h__law_bent (by decide) rfl, List.append_nil]
    cases value with
    | tup xs =>
      have h1 := eq_nilD hk
      cases xs <;> simp [exs, ex, ev, evD, evV, evAnd, evOr, evO, evC, evI, asg, asgs, Ts.len, toD, ↓bind_ap, pure_ap, bad_ap, ite_pp, ite_ap, Rho.get, enter, truth, fin, tidy_bl, cmpV, cmpInt, cmpI, orBad, chk, chk_true, srcOf, Mi.wipe, bltV, toSeq, toL, toLm, idxV, idxSeq, ixAt, binV, sIx, isT, F._law_bent, ht, h1, e, td, eqV, scal]
    | _ => simp [exs, ex, ev, evD, evV, evAnd, evOr, evO, evC, evI, asg, asgs, Ts.len, toD, ↓bind_ap, pure_ap, bad_ap, ite_pp, ite_ap, Rho.get, enter, truth, fin, tidy_bl, cmpV, cmpInt, cmpI, orBad, chk, chk_true, srcOf, Mi.wipe, bltV, toSeq, toL, toLm, idxV, idxSeq, ixAt, binV, sIx, isT, F._law_bent, ht, e, td]
  | succ d ih =>
    intro value z hv hd6
    have hk := (Fr.Wk (hv.le (show 8 ≤ 20 by decide) (Nat.le_refl _)) (stz G p z)).ok
    have ht := isi_ok hk .tuple
    rw [show n + 4 + (d + 1) = n + 4 + d + 1 by omega, callF_pos h__law_bent (by decide) rfl]
    have goOther : ∀ z1 : Z, ∃ v y, OV v ∧ callF P w (n + 4 + d) "_law_other" [.ref p, value] [] [] (stz G p z1) = .ok v (stz G p y) ∧ tidy (stz G p z) v (stz G p y) = .ok v (stz G p y) := fun z1 => by
      obtain ⟨v, y, ov, e⟩ := other_ev (w := w) (n := n + 1 + d) (z := z1) h hv
      rw [show n + 1 + d + 3 = n + 4 + d by omega] at e
      exact ⟨v, y, ov, e, tidy_ov h ov z y⟩
    cases value with
    | tup xs =>
      have h1 := eq_nilD hk
      cases xs with
      | nil =>
        obtain ⟨v, y, ov, e, td⟩ := goOther z
        refine ⟨v, [], y, ov.bv (by omega) (by omega), ?_⟩
        rw [List.append_nil]
        simp [exs, ex, ev, evD, evV, evAnd, evOr, evO, evC, evI, asg, asgs, Ts.len, toD, ↓bind_ap, pure_ap, bad_ap, ite_pp, ite_ap, Rho.get, enter, truth, fin, tidy_bl, cmpV, cmpInt, cmpI, orBad, chk, chk_true, srcOf, Mi.wipe, bltV, toSeq, toL, toLm, idxV, idxSeq, ixAt, binV, sIx, isT, F._law_bent, ht, h1, e, td, eqV, scal]
      | cons x0 r =>
        have hdr := draw_ev (w := w) (n := n + 3 + d) (G := G) (p := p) (z := z) (m := 6) h (by decide) (by decide)
        rw [show n + 3 + d + 1 = n + 4 + d by omega] at hdr
        have hd0 : ¬ ((d : Int) + 1 = 0) := by omega
        by_cases c : z.dr 6 = 0
        · obtain ⟨v, y, ov, e, td⟩ := goOther (z.nx 6)
          refine ⟨v, [], y, ov.bv (by omega) (by omega), ?_⟩
          rw [List.append_nil]
          simp [exs, ex, ev, evD, evV, evAnd, evOr, evO, evC, evI, asg, asgs, Ts.len, toD, ↓bind_ap, pure_ap, bad_ap, ite_pp, ite_ap, Rho.get, enter, truth, fin, tidy_bl, cmpV, cmpInt, cmpI, orBad, chk, chk_true, srcOf, Mi.wipe, bltV, toSeq, toL, toLm, idxV, idxSeq, ixAt, binV, sIx, isT, F._law_bent, ht, h1, hd0, hdr, c, e, td, eqV, scal]
        · generalize hxs : x0 :: r = xs at *
          have hL : FrL 7 1011 xs := ⟨hv.1, by have := hv.2; unfold wt at this; omega⟩
          have hL8 : FrL 8 1011 xs := ⟨by have := hL.1; rw [List.all_eq_true] at this ⊢; exact fun y hy => fr_mono (this y hy), hL.2⟩
          have hlen := hL.len
          have hpos : 0 < xs.length := by rw [← hxs]; simp
          have hne : xs ≠ [] := by rw [← hxs]; simp
          have hd2 := draw_ev (w := w) (n := n + 3 + d) (G := G) (p := p) (z := z.nx 6) (m := xs.length) h (by omega) (by omega)
          rw [show n + 3 + d + 1 = n + 4 + d by omega] at hd2
          have d1 := (z.nx 6).dr_lo (m := xs.length) (by omega)
          have d2 := (z.nx 6).dr_hi (m := xs.length) (by omega)
          generalize ha : (z.nx 6).dr xs.length = a at *
          generalize hq : (z.nx 6).nx xs.length = q at *
          have d3 : a.toNat < xs.length := by omega
          have hit : xs[a.toNat]? = some xs[a.toNat] := List.getElem?_eq_getElem d3
          have hmem : xs[a.toNat] ∈ xs := List.getElem_mem d3
          generalize hx : xs[a.toNat] = item at hit hmem
          have hfi : Fr 8 1012 item := by
            have h7 := hL8.1
            rw [List.all_eq_true] at h7
            refine ⟨h7 item hmem, ?_⟩
            have : ∀ ys : List D, item ∈ ys → wt item ≤ wts ys := by
              intro ys
              induction ys with
              | nil => intro hh; cases hh
              | cons y ys ih2 =>
                intro hh
                show wt item ≤ wt y + wts ys
                rcases List.mem_cons.mp hh with hh | hh
                · rw [hh]; omega
                · have := ih2 hh; omega
            have := this xs hmem
            have := hL.2
            omega
          obtain ⟨v, E, y, bv, e⟩ := ih item q hfi (by omega)
          have ca := hL8.cut none (some a)
          have cb := hL8.cut (some (a + 1)) none
          generalize hca : cut xs none (some a) = la at ca
          generalize hcb : cut xs (some (a + 1)) none = lb at cb
          have lla := ca.len
          have llb := cb.len
          have l1 : la.length + 1 ≤ 16777216 := by omega
          have l2 : la.length + 1 + lb.length ≤ 16777216 := by omega
          have hz : (d : Int) + 1 - 1 = d := by omega
          have app : ∀ x : D, la ++ [x] ++ lb = la ++ x :: lb := fun x => by simp
          have fb : ∀ (k : Nat) (c : List D), FrL 8 1011 c → belows k c = true := fun k c hc => belows_all fun u hu => below_le (Nat.zero_le _) (fr_below (List.all_eq_true.mp hc.1 u hu))
          have hbl : ∀ (k : Nat) (x : D), below k (.tup (la ++ x :: lb)) = below k x := fun k x => by
            show belows k (la ++ x :: lb) = _
            rw [belows_app, fb k la ca]
            show (true && (below k x && belows k lb)) = _
            rw [fb k lb cb]; simp
          rcases bv with ⟨x, rfl, rfl, gx⟩ | ⟨ys, rfl, rfl, gx⟩ | ⟨x, rfl, bx, gx⟩
          · have gt : Gr (10 + (d + 1)) (2100 + 2100 * (d + 1)) (.tup (la ++ x :: lb)) := by
              refine ⟨by rw [hbl]; exact gx.1, fun S => ?_⟩
              rw [← app]
              exact okw_le (mid_ok ca cb (by omega) (gx.2 S)) (by omega) (by omega)
            refine ⟨.d (.tup (la ++ x :: lb)), [], y, Or.inl ⟨_, rfl, rfl, gt⟩, ?_⟩
            rw [List.append_nil] at e ⊢
            have td := tidy_stz0 (z := z) (y := y) h (below_le (Nat.zero_le _) gt.1)
            simp [exs, ex, ev, evD, evV, evAnd, evOr, evO, evC, evI, asg, asgs, Ts.len, toD, ↓bind_ap, pure_ap, bad_ap, ite_pp, ite_ap, Rho.get, enter, truth, fin, tidy_bl, cmpV, cmpInt, cmpI, orBad, chk, chk_true, srcOf, Mi.wipe, bltV, toSeq, toL, toLm, idxV, idxSeq, ixAt, binV, sIx, isT, F._law_bent, ht, h1, hd0, hdr, c, e, td, eqV, scal, hne, hd2, d1, d2, hit, hx, slc_tup, hca, hcb, l1, l2, most, hz]
          · refine ⟨.d (.tup (la ++ .ref G.length :: lb)), [.lst ys], y, Or.inr (Or.inr ⟨_, rfl, ?_, fun y' => ?_⟩), ?_⟩
            · rw [hbl]; show decide (G.length < G.length) = false; simp
            · rw [← app]
              have hS : (stz (G ++ [.lst ys]) p y')[G.length]? = some (.lst ys) := by
                rw [stz_ne (by omega)]; simp
              exact okw_le (mid_ok ca cb (by omega) (ref_okw hS (gx.2 _))) (by omega) (by omega)
            · rw [List.append_nil] at e
              have al := alloc_stz (z := y) (c := .lst ys) h
              have td := tidy_not (G := G) (E := [.lst ys]) (z := z) (y := y) (xs := la ++ .ref G.length :: lb) h (by rw [hbl]; show decide (G.length < G.length) = false; simp)
              simp [exs, ex, ev, evD, evV, evAnd, evOr, evO, evC, evI, asg, asgs, Ts.len, toD, ↓bind_ap, pure_ap, bad_ap, ite_pp, ite_ap, Rho.get, enter, truth, fin, tidy_bl, cmpV, cmpInt, cmpI, orBad, chk, chk_true, srcOf, Mi.wipe, bltV, toSeq, toL, toLm, idxV, idxSeq, ixAt, binV, sIx, isT, F._law_bent, ht, h1, hd0, hdr, c, e, td, eqV, scal, hne, hd2, d1, d2, hit, hx, slc_tup, hca, hcb, l1, l2, most, hz, al]
          · refine ⟨.d (.tup (la ++ x :: lb)), E, y, Or.inr (Or.inr ⟨_, rfl, ?_, fun y' => ?_⟩), ?_⟩
            · rw [hbl]; exact bx
            · rw [← app]
              exact okw_le (mid_ok ca cb (by omega) (gx y')) (by omega) (by omega)
            · have td := tidy_not (G := G) (E := E) (z := z) (y := y) (xs := la ++ x :: lb) h (by rw [hbl]; exact bx)
              simp [exs, ex, ev, evD, evV, evAnd, evOr, evO, evC, evI, asg, asgs, Ts.len, toD, ↓bind_ap, pure_ap, bad_ap, ite_pp, ite_ap, Rho.get, enter, truth, fin, tidy_bl, cmpV, cmpInt, cmpI, orBad, chk, chk_true, srcOf, Mi.wipe, bltV, toSeq, toL, toLm, idxV, idxSeq, ixAt, binV, sIx, isT, F._law_bent, ht, h1, hd0, hdr, c, e, td, eqV, scal, hne, hd2, d1, d2, hit, hx, slc_tup, hca, hcb, l1, l2, most, hz]
    | _ =>
      obtain ⟨v, y, ov, e, td⟩ := goOther z
      refine ⟨v, [], y, ov.bv (by omega) (by omega), ?_⟩
      rw [List.append_nil]
      simp [exs, ex, ev, evD, evV, evAnd, evOr, evO, evC, evI, asg, asgs, Ts.len, toD, ↓bind_ap, pure_ap, bad_ap, ite_pp, ite_ap, Rho.get, enter, truth, fin, tidy_bl, cmpV, cmpInt, cmpI, orBad, chk, chk_true, srcOf, Mi.wipe, bltV, toSeq, toL, toLm, idxV, idxSeq, ixAt, binV, sIx, isT, F._law_bent, ht, e, td]
end Mi.K61

-- W20
set_option Elab.async false
set_option linter.all false
set_option maxRecDepth 100000
set_option maxHeartbeats 4000000
namespace Mi.K61
open PySem (Str PyData)
open Mi
variable {w n : Nat} {S : Sto}
theorem log_small {m : Nat} (h : m < 10 ^ 11) : m.log2 ≤ 36 := by
  by_cases h0 : m = 0
  · subst h0; decide
  · have : m.log2 < 37 := (Nat.log2_lt h0).mpr (Nat.lt_of_lt_of_le h (by decide))
    omega
theorem allPy_w {f : D → Option PyData} {g : D → Nat} : ∀ {xs : List D} {ps : List PyData}, (∀ x ∈ xs, ∀ p, f x = some p → p.weight + 1 ≤ 41 * g x ∧ p.hasDict = false) → allPy f xs = some ps →
    PyData.weightAll ps ≤ 41 * wsum g xs ∧ PyData.hasDictAll ps = false
  | [], ps, _, h => by cases h; exact ⟨Nat.zero_le _, rfl⟩
  | x :: xs, ps, hf, h => by
    unfold allPy at h
    cases q : f x with
    | none => rw [q] at h; cases h
    | some p =>
      rw [q] at h
      cases q2 : allPy f xs with
      | none => rw [q2] at h; cases h
      | some qs =>
        rw [q2] at h
        cases h
        obtain ⟨a, b⟩ := allPy_w (fun y hy => hf y (List.mem_cons_of_mem _ hy)) q2
        obtain ⟨c, d⟩ := hf x List.mem_cons_self p q
        refine ⟨?_, ?_⟩
        · show p.weight + 1 + PyData.weightAll qs ≤ 41 * (g x + wsum g xs)
          omega
        · show (p.hasDict || PyData.hasDictAll qs) = false
          rw [d, b]; rfl
theorem toPy_w {S : Sto} : ∀ {n : Nat} {d : D} {p : PyData}, ok S n d = true → toPy S n d = some p → p.weight + 1 ≤ 41 * wtF S n d ∧ p.hasDict = false
  | 0, d, p, h, _ => by cases h
  | n + 1, .non, p, _, e => by cases e; exact ⟨by show 0 + 1 ≤ 41 * 1; decide, rfl⟩
  | n + 1, .bl _, p, _, e => by cases e; exact ⟨by show 0 + 1 ≤ 41 * 1; decide, rfl⟩
  | n + 1, .int i, p, h, e => by
    cases e
    refine ⟨?_, rfl⟩
    have h := of_decide_eq_true (show decide (-(10 ^ 11) < i ∧ i < 10 ^ 11) = true from h)
    have := log_small (m := i.natAbs) (by omega)
    show (if i == 0 then 0 else i.natAbs.log2 + 1) + 1 ≤ 41 * 1
    split <;> omega
  | n + 1, .str x, p, h, e => by
    cases e
    refine ⟨?_, rfl⟩
    obtain ⟨h1, _⟩ := and2 (show okStr x = true from h)
    have h1 : x.cps.size ≤ 40 := of_decide_eq_true h1
    show x.cps.size + 1 ≤ 41 * 1
    omega
  | n + 1, .tup xs, p, h, e => by
    have h : xs.all (ok S n) = true := h
    rw [List.all_eq_true] at h
    have e : (allPy (toPy S n) xs).map PyData.tuple = some p := e
    obtain ⟨ps, e1, e2⟩ := Option.map_eq_some_iff.mp e
    subst e2
    obtain ⟨a, b⟩ := allPy_w (g := wtF S n) (fun x hx p ep => toPy_w (h x hx) ep) e1
    exact ⟨by show PyData.weightAll ps + 1 ≤ 41 * (1 + wsum (wtF S n) xs); omega, b⟩
  | n + 1, .ref a, p, h, e => by
    have h : (match S[a]? with
      | some (.lst xs) => xs.all (ok S n)
      | _ => false) = true := h
    unfold toPy at e
    cases q : S[a]? with
    | none => rw [q] at h; cases h
    | some c =>
      rw [q] at h e
      cases c with
      | lst xs =>
        dsimp only at h e
        rw [List.all_eq_true] at h
        obtain ⟨ps, e1, e2⟩ := Option.map_eq_some_iff.mp e
        subst e2
        obtain ⟨a2, b⟩ := allPy_w (g := wtF S n) (fun x hx p ep => toPy_w (h x hx) ep) e1
        refine ⟨?_, b⟩
        show PyData.weightAll ps + 1 ≤ 41 * (match S[a]? with
          | some (.lst xs) => 1 + wsum (wtF S n) xs
          | _ => 1)
        rw [q]
        show PyData.weightAll ps + 1 ≤ 41 * (1 + wsum (wtF S n) xs)
        omega
      | _ => cases h
theorem repr_ev {d : D} (h : Wk S 20000 d) : ∃ s, reprV (.d d) S = .ok (.d (.str s)) S := by
  obtain ⟨h1, h2⟩ := h
  have h3 := okw_le ⟨h1, h2⟩ (show 30 ≤ 40 by decide) (Nat.le_refl _)
  obtain ⟨p, e1, e2, g, _⟩ := ok_v2 h1
  obtain ⟨w1, w2⟩ := toPy_w h3.1 e2
  obtain ⟨g1, g2, g3⟩ := and3 g
  have hd := toPy_depth 40 d p e2
  have hl := PyProof.Rows.shown_le13 (d := p) (by
    unfold PyData.layable0
    rw [g1, decide_eq_true (Nat.le_trans hd (by decide)), decide_eq_true (by have := h3.2; omega)]; rfl) g2
  refine ⟨p.shown, ?_⟩
  unfold reprV
  rw [bind_ap, e1]
  dsimp only
  rw [g3, w2, decide_eq_true (by unfold most; omega)]
  rfl
theorem repr_bl (b : Bool) : ∃ s, ∀ S, reprV (.d (.bl b)) S = .ok (.d (.str s)) S := by
  exact ⟨(PyData.bool b).shown, fun S => by cases b <;> rfl⟩
end Mi.K61

-- W21
set_option Elab.async false
set_option linter.all false
set_option maxRecDepth 100000
set_option maxHeartbeats 4000000
namespace Mi.K61
open PySem (Str PyData)
open Mi
variable {w n : Nat} {S : Sto}
abbrev rightBody : Ss := (.cons (.asg (.name 3) (.call "_law_bent" (.cons (.var 0) (.cons (.var 1) (.cons (.int 6) .nil))) [] .nil)) (.cons (.asg (.tup (.cons (.name 4) (.cons (.name 5) .nil))) (.tup (.cons (.call "_law_due" (.cons (.var 3) .nil) [] .nil) (.cons (.blt .repr (.cons (.var 3) .nil)) .nil)))) (.cons (.ife (.or (.cons (.cmp .ne (.blt .repr (.cons (.call "is_line" (.cons (.var 3) .nil) [] .nil) .nil)) (.blt .repr (.cons (.var 4) .nil))) (.cons (.cmp .ne (.blt .repr (.cons (.var 3) .nil)) (.var 5)) .nil))) (.cons (.ret (.bl false)) .nil) .nil) .nil)))
abbrev rightRest : Ss := (.cons (.asg (.tup (.cons (.name 4) (.cons (.name 5) .nil))) (.tup (.cons (.call "_law_due" (.cons (.var 3) .nil) [] .nil) (.cons (.blt .repr (.cons (.var 3) .nil)) .nil)))) (.cons (.ife (.or (.cons (.cmp .ne (.blt .repr (.cons (.call "is_line" (.cons (.var 3) .nil) [] .nil) .nil)) (.blt .repr (.cons (.var 4) .nil))) (.cons (.cmp .ne (.blt .repr (.cons (.var 3) .nil)) (.var 5)) .nil))) (.cons (.ret (.bl false)) .nil) .nil) .nil))
theorem kw_line {m : Nat} {d : D} : callF P w (m + 1) "is_line" [] ["value"] [d] S = callF P w (m + 1) "is_line" [d] [] [] S := by
  unfold callF
  rw [h_is_line]
  rfl
theorem right_bent {G : Sto} {p : Nat} {z : Z} {L x : D} {o3 o4 o5 : Option D} (h : p < G.length) (hL : Fr 8 1012 L) :
    ∃ b E y, Wk (stz (G ++ E) p y) 20000 b ∧ ex ⟨P.glob, callF P w (n + 10), w⟩ (.asg (.name 3) (.call "_law_bent" (.cons (.var 0) (.cons (.var 1) (.cons (.int 6) .nil))) [] .nil)) [some (.ref p), some L, some x, o3, o4, o5] (stz G p z) =
      .ok (.nx [some (.ref p), some L, some x, some b, o4, o5]) (stz (G ++ E) p y) := by
  obtain ⟨v, E, y, bv, e⟩ := bent_ev (w := w) (n := n) h 6 L z hL (Nat.le_refl _)
  have e : callF P w (n + 10) "_law_bent" [.ref p, L, .int 6] [] [] (stz G p z) = .ok v (stz (G ++ E) p y) := e
  rcases bv with ⟨x1, rfl, rfl, gx⟩ | ⟨ys, rfl, rfl, gx⟩ | ⟨x1, rfl, bx, gx⟩
  · refine ⟨x1, [], y, okw_le (gx.2 _) (by decide) (by decide), ?_⟩
    simp [exs, ex, ev, evD, evV, evAnd, evOr, evO, evC, evI, asg, asgs, Ts.len, toD, ↓bind_ap, pure_ap, bad_ap, ite_pp, ite_ap, Rho.get, enter, truth, fin, tidy_bl, cmpV, cmpInt, cmpI, orBad, chk, chk_true, srcOf, Mi.wipe, bltV, toSeq, toL, toLm, idxV, idxSeq, ixAt, binV, sIx, isT, e]
  · have al := alloc_stz (z := y) (c := .lst ys) h
    have hS : (stz (G ++ [.lst ys]) p y)[G.length]? = some (.lst ys) := by
      rw [stz_ne (by omega)]; simp
    refine ⟨.ref G.length, [.lst ys], y, okw_le (ref_okw hS (gx.2 _)) (by decide) (by decide), ?_⟩
    rw [List.append_nil] at e
    simp [exs, ex, ev, evD, evV, evAnd, evOr, evO, evC, evI, asg, asgs, Ts.len, toD, ↓bind_ap, pure_ap, bad_ap, ite_pp, ite_ap, Rho.get, enter, truth, fin, tidy_bl, cmpV, cmpInt, cmpI, orBad, chk, chk_true, srcOf, Mi.wipe, bltV, toSeq, toL, toLm, idxV, idxSeq, ixAt, binV, sIx, isT, e, al]
  · refine ⟨x1, E, y, okw_le (gx y) (by decide) (by decide), ?_⟩
    simp [exs, ex, ev, evD, evV, evAnd, evOr, evO, evC, evI, asg, asgs, Ts.len, toD, ↓bind_ap, pure_ap, bad_ap, ite_pp, ite_ap, Rho.get, enter, truth, fin, tidy_bl, cmpV, cmpInt, cmpI, orBad, chk, chk_true, srcOf, Mi.wipe, bltV, toSeq, toL, toLm, idxV, idxSeq, ixAt, binV, sIx, isT, e]
theorem right_rest {p : Nat} {L x b : D} {o4 o5 : Option D} (hb : Wk S 20000 b) :
    ∃ o4' o5', exs ⟨P.glob, callF P w (n + 10), w⟩ rightRest [some (.ref p), some L, some x, some b, o4, o5] S = .ok (.nx [some (.ref p), some L, some x, some b, o4', o5']) S := by
  have e1 := law_due_ev (w := w) (n := n + 4) hb.ok
  have e2 := is_line_ev (w := w) (n := n + 4) hb
  obtain ⟨s, e3⟩ := repr_ev hb
  obtain ⟨u, e4⟩ := repr_bl (lineB b)
  refine ⟨some (.bl (lineB b)), some (.str s), ?_⟩
  simp [exs, ex, ev, evD, evV, evAnd, evOr, evO, evC, evI, asg, asgs, Ts.len, toD, ↓bind_ap, pure_ap, bad_ap, ite_pp, ite_ap, Rho.get, enter, truth, fin, tidy_bl, cmpV, cmpInt, cmpI, orBad, chk, chk_true, srcOf, Mi.wipe, bltV, toSeq, toL, toLm, idxV, idxSeq, ixAt, binV, sIx, isT, e1, e2, e3, e4, eqV, scal]
theorem right_loop {p : Nat} {L : D} {G : Sto} (h : p < G.length) (hL : Fr 8 1012 L) : ∀ (items : List D) (E : Sto) (z : Z) (o2 o3 o4 o5 : Option D),
    ∃ ρ' E' y, forL (fun x ρ' => do
      let ρ'' ← asg ⟨P.glob, callF P w (n + 10), w⟩ (.name 2) x ρ'
      exs ⟨P.glob, callF P w (n + 10), w⟩ rightBody ρ'') [] items [some (.ref p), some L, o2, o3, o4, o5] (stz (G ++ E) p z) = .ok (.nx ρ') (stz (G ++ E') p y)
  | [], E, z, o2, o3, o4, o5 => ⟨_, E, z, rfl⟩
  | x :: xs, E, z, o2, o3, o4, o5 => by
    obtain ⟨b, E1, y, hb, e⟩ := right_bent (w := w) (n := n) (G := G ++ E) (p := p) (z := z) (L := L) (x := x) (o3 := o3) (o4 := o4) (o5 := o5) (by rw [List.length_append]; omega) hL
    obtain ⟨o4', o5', e2⟩ := right_rest (w := w) (n := n) (p := p) (L := L) (x := x) (b := b) (o4 := o4) (o5 := o5) hb
    obtain ⟨ρ', E', u, e3⟩ := right_loop h hL xs (E ++ E1) y (some x) (some b) o4' o5'
    refine ⟨ρ', E', u, ?_⟩
    rw [List.append_assoc] at e e2
    have eb : exs ⟨P.glob, callF P w (n + 10), w⟩ rightBody [some (.ref p), some L, some x, o3, o4, o5] (stz (G ++ E) p z) = .ok (.nx [some (.ref p), some L, some x, some b, o4', o5']) (stz (G ++ (E ++ E1)) p y) := by
      unfold exs
      rw [bind_ap, e]
      exact e2
    rw [forL_nx eb]
    exact e3
theorem right_ev {G : Sto} {p : Nat} {z : Z} (h : p < G.length) : ∃ y, callF P w (n + 11) "_law_right" [.ref p] [] [] (stz G p z) = .ok (.d (.bl true)) (stz G p y) := by
  obtain ⟨m, is, y, l1, l2, l3, e⟩ := line_ev (w := w) (n := n + 4) (z := z) h
  have hf := line_fr l1 l2
  have e2 := is_line_ev (w := w) (n := n + 4) ((hf.le (show 8 ≤ 20 by decide) (show 1012 ≤ 20000 by decide)).Wk (stz G p y))
  have e3 := kw_line (w := w) (S := stz G p y) (m := n + 9) (d := .tup [.str "line", .int m, .tup is])
  rw [show n + 9 + 1 = n + 4 + 6 by omega, e2, l1] at e3
  rw [l1] at e2
  obtain ⟨ρ', E', u, e4⟩ := right_loop (w := w) (n := n) h hf (range 0 24) [] y none none none none
  rw [List.append_nil] at e4
  refine ⟨u, ?_⟩
  rw [callF_pos h__law_right (by decide) rfl]
  have td := tidy_stz' (G := G) (E := E') (z := z) (y := u) (v := .bl true) h rfl
  simp [exs, ex, ev, evD, evV, evAnd, evOr, evO, evC, evI, asg, asgs, Ts.len, toD, ↓bind_ap, pure_ap, bad_ap, ite_pp, ite_ap, Rho.get, enter, truth, fin, tidy_bl, cmpV, cmpInt, cmpI, orBad, chk, chk_true, srcOf, Mi.wipe, bltV, toSeq, toL, toLm, idxV, idxSeq, ixAt, binV, sIx, isT, F._law_right, e, e2, e3, ↓e4, td]
end Mi.K61

-- W22
set_option Elab.async false
set_option linter.all false
set_option maxRecDepth 100000
set_option maxHeartbeats 4000000
namespace Mi.K61
open PySem (Str PyData)
open Mi
variable {w n : Nat} {S : Sto}
theorem tidy_l2 (S : Sto) (a b : Int) : tidy S (.l [.int a, .int b]) S = .ok (.l [.int a, .int b]) S := by
  unfold tidy
  rw [if_pos (oldOk_refl S)]
  dsimp only
  rw [if_pos (show belows S.length [D.int a, D.int b] = true from rfl), List.take_length]
theorem pot_ev {ns : List Int} {k : Int} (hS : S[0]? = some (.ro (ns.map D.int))) (hk : 0 ≤ k) : ∃ z : Z, callF P w (n + 1) "_law_pot" [.ref 0, .int k] [] [] S = .ok (.l [.int z.a, .int z.b]) S := by
  have hd : isDic 0 S = .ok false S := by unfold isDic; rw [hS]
  have hl : listAt 0 S = .ok (ns.map D.int) S := by unfold listAt; rw [hS]; rfl
  have hc : ∃ c : Int, ev ⟨P.glob, callF P w n, w⟩ (.ite (.cmp .lt (.var 1) (.blt .len (.cons (.var 0) .nil))) (.blt .abs (.cons (.idx (.var 0) (.var 1)) .nil)) (.bin .add (.bin .mul (.int 2903) (.var 1)) (.int 1847))) [some (.ref 0), some (.int k), none] S = .ok (.d (.int c)) S := by
    by_cases c : k < (ns.length : Int)
    · have d3 : k.toNat < ns.length := by omega
      have hit : (ns.map D.int)[k.toNat]? = some (.int ns[k.toNat]) := by rw [List.getElem?_map, List.getElem?_eq_getElem d3]; rfl
      refine ⟨if ns[k.toNat] < 0 then -ns[k.toNat] else ns[k.toNat], ?_⟩
      simp [exs, ex, ev, evD, evV, evAnd, evOr, evO, evC, evI, asg, asgs, Ts.len, toD, ↓bind_ap, pure_ap, bad_ap, ite_pp, ite_ap, Rho.get, enter, truth, fin, tidy_bl, cmpV, cmpInt, cmpI, orBad, chk, chk_true, srcOf, Mi.wipe, bltV, toSeq, toL, toLm, idxV, idxSeq, ixAt, binV, sIx, isT, hd, hl, c, hk, d3]
    · refine ⟨2903 * k + 1847, ?_⟩
      have s1 : small 2903 = true := by decide
      simp [exs, ex, ev, evD, evV, evAnd, evOr, evO, evC, evI, asg, asgs, Ts.len, toD, ↓bind_ap, pure_ap, bad_ap, ite_pp, ite_ap, Rho.get, enter, truth, fin, tidy_bl, cmpV, cmpInt, cmpI, orBad, chk, chk_true, srcOf, Mi.wipe, bltV, toSeq, toL, toLm, idxV, idxSeq, ixAt, binV, sIx, isT, hd, hl, c, s1]
  obtain ⟨c, hc⟩ := hc
  refine ⟨⟨if 0 < c - 1000000000000000000 then c - 1000000000000000000 else 0, (c % 2147483549 * 40014 + 40829 * k + 5003) % 2147483563 + 1, by have := Int.emod_nonneg (c % 2147483549 * 40014 + 40829 * k + 5003) (b := 2147483563) (by decide); omega, by have := Int.emod_lt_of_pos (c % 2147483549 * 40014 + 40829 * k + 5003) (b := 2147483563) (by decide); omega⟩, ?_⟩
  rw [callF_pos h__law_pot (by decide) rfl]
  have s1 : small 40014 = true := by decide
  have s2 : small 40829 = true := by decide
  have td := fun a b => tidy_l2 S a b
  simp [exs, ex, ev, evD, evV, evAnd, evOr, evO, evC, evI, asg, asgs, Ts.len, toD, ↓bind_ap, pure_ap, bad_ap, ite_pp, ite_ap, Rho.get, enter, truth, fin, tidy_bl, cmpV, cmpInt, cmpI, orBad, chk, chk_true, srcOf, Mi.wipe, bltV, toSeq, toL, toLm, idxV, idxSeq, ixAt, binV, sIx, isT, F._law_pot, ↓hc, s1, s2, td]
theorem law_comp {ns : List Int} : ∀ (k : Nat) (lo : Int) (E : Sto) (ρ : Rho), 0 ≤ lo → ρ = [some (.ref 0), none] → ∃ E', compL (lcItem ⟨P.glob, callF P w (n + 11), w⟩ (.call "_law_right" (.cons (.call "_law_pot" (.cons (.var 0) (.cons (.var 1) .nil)) [] .nil) .nil) [] .nil) (.name 1) .none [1] ρ) [] (range lo k) (Cell.ro (ns.map D.int) :: E) =
    .ok (List.replicate k (.bl true)) (Cell.ro (ns.map D.int) :: E')
  | 0, lo, E, ρ, h0, hρ => ⟨E, rfl⟩
  | k + 1, lo, E, ρ, h0, hρ => by
    subst hρ
    obtain ⟨z, e1⟩ := pot_ev (w := w) (n := n + 10) (S := Cell.ro (ns.map D.int) :: E) (ns := ns) (k := lo) rfl h0
    have hst : (Cell.ro (ns.map D.int) :: E) ++ [z.cell] = stz ((Cell.ro (ns.map D.int) :: E) ++ [z.cell]) (E.length + 1) z := by
      unfold stz
      rw [List.set_append_right _ _ (by simp)]
      simp
    obtain ⟨y, e2⟩ := right_ev (w := w) (n := n) (G := (Cell.ro (ns.map D.int) :: E) ++ [z.cell]) (p := E.length + 1) (z := z) (by simp)
    have al : alloc (.lst [.int z.a, .int z.b]) (Cell.ro (ns.map D.int) :: E) = .ok (.ref (E.length + 1)) (stz ((Cell.ro (ns.map D.int) :: E) ++ [z.cell]) (E.length + 1) z) := by
      rw [← hst]; rfl
    have hy : stz ((Cell.ro (ns.map D.int) :: E) ++ [z.cell]) (E.length + 1) y = Cell.ro (ns.map D.int) :: (E ++ [y.cell]) := by
      unfold stz
      rw [List.set_append_right _ _ (by simp)]
      simp
    generalize hG : stz ((Cell.ro (ns.map D.int) :: E) ++ [z.cell]) (E.length + 1) z = S1 at e2 al
    rw [hy] at e2
    obtain ⟨E', e3⟩ := law_comp k (lo + 1) (E ++ [y.cell]) [some (.ref 0), none] (by omega) rfl
    refine ⟨E', ?_⟩
    unfold range compL
    rw [bind_ap, watching_nil]
    dsimp only
    have hi : lcItem ⟨P.glob, callF P w (n + 11), w⟩ (.call "_law_right" (.cons (.call "_law_pot" (.cons (.var 0) (.cons (.var 1) .nil)) [] .nil) .nil) [] .nil) (.name 1) .none [1] [some (.ref 0), none] (.int lo) (Cell.ro (ns.map D.int) :: E) = .ok [.bl true] (Cell.ro (ns.map D.int) :: (E ++ [y.cell])) := by
      simp [exs, ex, ev, evD, evV, evAnd, evOr, evO, evC, evI, asg, asgs, Ts.len, toD, ↓bind_ap, pure_ap, bad_ap, ite_pp, ite_ap, Rho.get, enter, truth, fin, tidy_bl, cmpV, cmpInt, cmpI, orBad, chk, chk_true, srcOf, Mi.wipe, bltV, toSeq, toL, toLm, idxV, idxSeq, ixAt, binV, sIx, isT, lcItem, e1, al, e2]
    rw [bind_ap, hi]
    dsimp only
    rw [bind_ap, e3]
    rfl
theorem bools_rep : ∀ k : Nat, bools (List.replicate k (D.bl true)) = some (List.replicate k true)
  | 0 => rfl
  | k + 1 => by
    rw [List.replicate_succ]
    show (bools (List.replicate k (D.bl true))).map (true :: ·) = _
    rw [bools_rep k]; rfl
theorem law_P (ns : List Int) : ∃ S', callF P w (n + 12) "law" [.ref 0] [] [] [.ro (ns.map D.int)] = .ok (.d (.bl true)) S' := by
  rw [callF_pos h_law (by decide) rfl]
  have hl : listAt 0 [Cell.ro (ns.map D.int)] = .ok (ns.map D.int) [Cell.ro (ns.map D.int)] := rfl
  have hk : ∃ k : Int, k = (if (1 : Int) < (if (ns.length : Int) < 2 then (ns.length : Int) else 2) then (if (ns.length : Int) < 2 then (ns.length : Int) else 2) else 1) ∧ 0 ≤ k ∧ k ≤ 2 := ⟨_, rfl, by split <;> (try split) <;> omega, by split <;> (try split) <;> omega⟩
  obtain ⟨k, ek, k0, k2⟩ := hk
  obtain ⟨E', e⟩ := law_comp (w := w) (n := n) (ns := ns) k.toNat 0 [] [some (.ref 0), none] (by omega) rfl
  have b1 : -4611686018427387904 ≤ k ∧ k < 4611686018427387904 := by omega
  have hlc := ev_lc2 (C := ⟨P.glob, callF P w (n + 11), w⟩) (e := .call "_law_right" (.cons (.call "_law_pot" (.cons (.var 0) (.cons (.var 1) .nil)) [] .nil) .nil) [] .nil) (t := .name 1) (it := .rng1 (.blt .max (.cons (.int 1) (.cons (.blt .min (.cons (.int 2) (.cons (.blt .len (.cons (.var 0) .nil)) .nil))) .nil)))) (c := .none) (own := [1]) (ρ := [some (.ref 0), none]) (S0 := [.ro (ns.map D.int)]) (S1 := [.ro (ns.map D.int)]) (items := range 0 k.toNat) (by
    simp [exs, ex, ev, evD, evV, evAnd, evOr, evO, evC, evI, asg, asgs, Ts.len, toD, ↓bind_ap, pure_ap, bad_ap, ite_pp, ite_ap, Rho.get, enter, truth, fin, tidy_bl, cmpV, cmpInt, cmpI, orBad, chk, chk_true, srcOf, Mi.wipe, bltV, toSeq, toL, toLm, idxV, idxSeq, ixAt, binV, sIx, isT, hl]
    rw [← ek]
    simp [b1]) (by rw [range_len]; unfold most; omega) e
  have bb := bools_rep k.toNat
  have td : ∃ S', tidy [Cell.ro (ns.map D.int)] (.d (.bl true)) (Cell.ro (ns.map D.int) :: E') = .ok (.d (.bl true)) S' := by
    unfold tidy
    split
    · exact ⟨_, rfl⟩
    · exact ⟨_, rfl⟩
  obtain ⟨S', td⟩ := td
  refine ⟨S', ?_⟩
  simp [exs, ex, ev, evD, evV, evAnd, evOr, evO, evC, evI, asg, asgs, Ts.len, toD, ↓bind_ap, pure_ap, bad_ap, ite_pp, ite_ap, Rho.get, enter, truth, fin, tidy_bl, cmpV, cmpInt, cmpI, orBad, chk, chk_true, srcOf, Mi.wipe, bltV, toSeq, toL, toLm, idxV, idxSeq, ixAt, binV, sIx, isT, F.law, ↓hlc, bb, td]
end Mi.K61

-- K61T
set_option Elab.async false
set_option linter.all false
set_option maxRecDepth 100000
set_option maxHeartbeats 0
namespace Mi.K61
open PySem (Str Stmt)
open Mi
def top (i : Nat) : Stmt := PySem.Challenge.pw_knownstops_k61_any_values_as_lines.main.body.getD i (.Pass ⟨0, 0, 0, 0⟩)
def defsOf (top : Nat → PySem.Stmt) : List Def := [⟨"is_integer", F.is_integer, ["value"], top 2⟩,
  ⟨"is_count", F.is_count, ["value"], top 3⟩,
  ⟨"is_amount", F.is_amount, ["value", "most"], top 4⟩,
  ⟨"is_rising", F.is_rising, ["values", "one", "other"], top 5⟩,
  ⟨"is_tuple_of", F.is_tuple_of, ["value", "many"], top 6⟩,
  ⟨"is_sum_of", F.is_sum_of, ["value", "many", "term"], top 7⟩,
  ⟨"is_below", F.is_below, ["value", "many"], top 16⟩,
  ⟨"are_sums", F.are_sums, ["value", "many", "one"], top 17⟩,
  ⟨"is_instruction", F.is_instruction, ["value", "many", "size", "word"], top 18⟩,
  ⟨"is_line", F.is_line, ["value", "many", "instructions", "one"], top 19⟩,
  ⟨"_law_int", F._law_int, ["value"], top 21⟩,
  ⟨"_law_pot", F._law_pot, ["script", "k", "cell"], top 22⟩,
  ⟨"_law_draw", F._law_draw, ["pot", "many", "digit"], top 23⟩,
  ⟨"_law_pick", F._law_pick, ["pot", "some"], top 24⟩,
  ⟨"_law_number", F._law_number, ["pot"], top 25⟩,
  ⟨"_law_sum", F._law_sum, ["pot", "many", "terms", "slot", "times"], top 26⟩,
  ⟨"_law_instruction", F._law_instruction, ["pot", "many", "size", "is_last", "words", "word", "turn"], top 27⟩,
  ⟨"_law_line", F._law_line, ["pot", "most", "many", "size", "at"], top 28⟩,
  ⟨"_law_is_count", F._law_is_count, ["value", "most"], top 29⟩,
  ⟨"_law_is_sum", F._law_is_sum, ["value", "many", "last", "term"], top 30⟩,
  ⟨"_law_is_part", F._law_is_part, ["value", "word", "at", "many", "size", "one"], top 31⟩,
  ⟨"_law_is_instruction", F._law_is_instruction, ["value", "many", "size", "sizes", "at", "part"], top 32⟩,
  ⟨"_law_due", F._law_due, ["value", "size", "one"], top 33⟩,
  ⟨"_law_other", F._law_other, ["pot", "value", "some"], top 34⟩,
  ⟨"_law_bent", F._law_bent, ["pot", "value", "deep", "at"], top 35⟩,
  ⟨"_law_right", F._law_right, ["pot", "line", "turn", "bent", "due", "shown"], top 36⟩,
  ⟨"law", F.law, ["script", "k"], top 37⟩]
/-- law at 37 -/
def loose : List PySem.Str := (["MOST_AMOUNT", "is_integer", "is_count", "is_amount", "is_rising", "is_tuple_of", "is_sum_of", "MOST_INSTRUCTIONS", "MOST_MARK", "MOST_SLOTS", "MOST_SUMS", "ENDS", "TO_ALONE", "WITH_SUMS", "is_below", "are_sums", "is_instruction", "is_line", "_law_int", "_law_pot", "_law_draw", "_law_pick", "_law_number", "_law_sum", "_law_instruction", "_law_line", "_law_is_count", "_law_is_sum", "_law_is_part", "_law_is_instruction", "_law_due", "_law_other", "_law_bent", "_law_right"] : List String).map PySem.Str.ofString

def defs : List Def := defsOf top
theorem ok_all : ∀ (C : Cxt), (defs.all (Def.ok C (defs.map (·.x)))) = true := fun C => by kernel_rfl
theorem nd_all : (defs.map (·.x)).Nodup := by decide +kernel
abbrev hk : PySem.W.Hook := hookM 4 defs globs
def ob (s : PySem.W.SharedT) : AlM := obsMG 4 defs globs (HandSHeadRun.getT s)
theorem ob_eq (s : PySem.W.SharedT) : ob s = hk.obs s.abs := obsMG_eq (HandSHeadRun.getT_eq s)
abbrev R : PySem.W.OpenRow := PySem.W.OpenLaw.row PySem.Challenge.rw_knownstops_k61_any_values_as_lines
theorem run (w : PySem.World) : HandSHeadRun.RunEq R (PySem.W.view R.prog [37]) hk ob 4000 loose w := by
  intro os
  kernel_rfl
theorem prog_eq : progOf defs globs = P := rfl
theorem law_true (ns : List Int) (h : ns.length ≤ 63) : ∃ S', callF (progOf defs globs) 100000 40 "law" [.ref 0] [] [] [.ro (ns.map D.int)] = .ok (.d (.bl true)) S' := by
  rw [prog_eq]
  exact law_P (w := 100000) (n := 28) ns
end Mi.K61
open PySem PySem.W PySem.Calls PyProof.Rows
theorem PySem.Challenge.cw_knownstops_k61_any_values_as_lines_holds : PySem.Challenge.rw_knownstops_k61_any_values_as_lines.Holds := by
  w_on; o_law
  refine HandSHeadRun.head_any (r := OpenLaw.row PySem.Challenge.rw_knownstops_k61_any_values_as_lines) (q := view (OpenLaw.row PySem.Challenge.rw_knownstops_k61_any_values_as_lines).prog [37]) (H := Mi.K61.hk) (ob := Mi.K61.ob) (M := 4000) (loose := Mi.K61.loose) (d := HandSHeadRun.topDef (OpenLaw.row PySem.Challenge.rw_knownstops_k61_any_values_as_lines).prog 37) (kwd := []) Mi.K61.ob_eq
    (by kernel_rfl) (fun s => by kernel_rfl) Mi.K61.run (by kernel_rfl) (by kernel_rfl) (by kernel_rfl) (by rfl) (by first | assumption | decide +kernel) (by decide +kernel) ⟨rfl, rfl, rfl, rfl, rfl, by decide +kernel⟩ ?hw ?hc
  case hw => w_witness2
  case hc =>
    exact Mi.walk_ofG (l := PySem.Challenge.rw_knownstops_k61_any_values_as_lines) (n := 63) (k := 40) (defs := Mi.K61.defs) (gl := Mi.K61.globs) (wf := 100000) rfl (by decide) (by kernel_rfl) ⟨rfl, by decide, by decide⟩ (by kernel_rfl) (by decide +kernel) Mi.K61.ok_all Mi.K61.nd_all Mi.K61.law_true
