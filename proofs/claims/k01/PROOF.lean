import PyProof.Rows.All
import PySem.Str
import PySem.PyData
import Wide.All
import OpenK.AllK
import Wide.FinOn
import HandS.ForMost
import HandS.ForExc
import HandS.Deep
import HandS.TupAny
import HandS.TupMul
import HandS.Wide
import HandS.IsInst
import HandS.Zip
import HandS.Style
import KE.GoesEnum
import KE.GoesMore
import PyProof.Rows.IntBool
import HandS.Defaults
import HandS.Head0
import HandS.Head1
import HandS.Head2
import HandS.HeadEnd
import HandS.HeadHook1
import HandS.HeadHook2
import PySem.Challenge.RW_hearsaycuts_k01_values_recognized
section
set_option linter.all false
/-! The core language ("mini") and its meaning. -/
namespace Hc
open PySem

/-- values: frozen data, references into the store, defs, caught errors -/
inductive D where
  | non
  | bl (b : Bool)
  | int (i : Int)
  | str (x : Str)
  | tup (xs : List D)
  | lst (xs : List D)
  | scr (ns : List Int)
  | ref (n : Nat)
  | gf (f : Nat)
  | exn (c : Nat) (fs : List D)
  deriving Inhabited

mutual
def D.same : D → D → Bool
  | .non, .non => true
  | .bl a, .bl b => a == b
  | .int a, .int b => a == b
  | .str a, .str b => a == b
  | .tup xs, .tup ys => D.sames xs ys
  | .lst xs, .lst ys => D.sames xs ys
  | .scr xs, .scr ys => xs == ys
  | .ref a, .ref b => a == b
  | .gf a, .gf b => a == b
  | .exn c xs, .exn d ys => c == d && D.sames xs ys
  | _, _ => false
def D.sames : List D → List D → Bool
  | [], [] => true
  | x :: xs, y :: ys => D.same x y && D.sames xs ys
  | _, _ => false
end
mutual
theorem D.same_eq : ∀ a b : D, D.same a b = true → a = b
  | .non, b, h => by cases b <;> simp_all [D.same]
  | .bl _, b, h => by cases b <;> simp_all [D.same]
  | .int _, b, h => by cases b <;> simp_all [D.same]
  | .str _, b, h => by cases b <;> simp_all [D.same]
  | .tup xs, b, h => by
    cases b with
    | tup ys => exact congrArg _ (D.sames_eq xs ys (by simpa [D.same] using h))
    | _ => simp [D.same] at h
  | .lst xs, b, h => by
    cases b with
    | lst ys => exact congrArg _ (D.sames_eq xs ys (by simpa [D.same] using h))
    | _ => simp [D.same] at h
  | .scr _, b, h => by cases b <;> simp_all [D.same]
  | .ref _, b, h => by cases b <;> simp_all [D.same]
  | .gf _, b, h => by cases b <;> simp_all [D.same]
  | .exn c xs, b, h => by
    cases b with
    | exn d ys =>
      have h' : (c == d) = true ∧ D.sames xs ys = true := by simpa [D.same] using h
      rw [D.sames_eq xs ys h'.2, eq_of_beq h'.1]
    | _ => simp [D.same] at h
theorem D.sames_eq : ∀ a b : List D, D.sames a b = true → a = b
  | [], [], _ => rfl
  | [], _ :: _, h => by simp [D.sames] at h
  | _ :: _, [], h => by simp [D.sames] at h
  | x :: xs, y :: ys, h => by
    have h' : D.same x y = true ∧ D.sames xs ys = true := by simpa [D.sames] using h
    rw [D.same_eq x y h'.1, D.sames_eq xs ys h'.2]
end
mutual
theorem D.same_refl : ∀ a : D, D.same a a = true
  | .non => rfl
  | .bl _ => by simp [D.same]
  | .int _ => by simp [D.same]
  | .str _ => by simp [D.same]
  | .tup xs => by simpa [D.same] using D.sames_refl xs
  | .lst xs => by simpa [D.same] using D.sames_refl xs
  | .scr _ => by simp [D.same]
  | .ref _ => by simp [D.same]
  | .gf _ => by simp [D.same]
  | .exn c xs => by simpa [D.same] using D.sames_refl xs
theorem D.sames_refl : ∀ a : List D, D.sames a a = true
  | [] => rfl
  | x :: xs => by simp [D.sames, D.same_refl x, D.sames_refl xs]
end

/-- an object of the store -/
inductive Ob where
  | ml (xs : List D)
  | dead
abbrev Store := List Ob
def Ob.same : Ob → Ob → Bool
  | .ml xs, .ml ys => D.sames xs ys
  | .dead, .dead => true
  | _, _ => false
theorem Ob.same_eq : ∀ a b : Ob, Ob.same a b = true → a = b
  | .ml xs, .ml ys, h => congrArg _ (D.sames_eq xs ys (by simpa [Ob.same] using h))
  | .ml _, .dead, h => by simp [Ob.same] at h
  | .dead, .ml _, h => by simp [Ob.same] at h
  | .dead, .dead, _ => rfl
theorem Ob.same_refl : ∀ a : Ob, Ob.same a a = true
  | .ml xs => by simpa [Ob.same] using D.sames_refl xs
  | .dead => rfl
def sameS : Store → Store → Bool
  | [], [] => true
  | x :: xs, y :: ys => Ob.same x y && sameS xs ys
  | _, _ => false
theorem sameS_eq : ∀ a b : Store, sameS a b = true → a = b
  | [], [], _ => rfl
  | [], _ :: _, h => by simp [sameS] at h
  | _ :: _, [], h => by simp [sameS] at h
  | x :: xs, y :: ys, h => by
    have h' : Ob.same x y = true ∧ sameS xs ys = true := by simpa [sameS] using h
    rw [Ob.same_eq x y h'.1, sameS_eq xs ys h'.2]
theorem sameS_refl : ∀ a : Store, sameS a a = true
  | [] => rfl
  | x :: xs => by simp [sameS, Ob.same_refl x, sameS_refl xs]

/-- an error: its class, its fields -/
structure Exn where
  c : Nat
  fs : List D
inductive Out (α : Type) where
  | ok (a : α) (S : Store)
  | exc (x : Exn) (S : Store)
  | bad
def M (α : Type) := Store → Out α
def M.ret {α : Type} (a : α) : M α := fun S => .ok a S
def M.andThen {α β : Type} (m : M α) (f : α → M β) : M β := fun S => match m S with
  | .ok a S' => f a S'
  | .exc x S' => .exc x S'
  | .bad => .bad
def M.bad {α : Type} : M α := fun _ => .bad
def M.opt {α : Type} : Option α → M α
  | some a => M.ret a
  | none => M.bad
def M.ask {α : Type} (f : Store → Option α) : M α := fun S => match f S with
  | some a => .ok a S
  | none => .bad
instance : Monad M where
  pure := M.ret
  bind := M.andThen
@[simp] theorem ret_bind {α β : Type} (a : α) (f : α → M β) : ((pure a : M α) >>= f) = f a := rfl
@[simp] theorem bad_bind {α β : Type} (f : α → M β) : ((M.bad : M α) >>= f) = M.bad := rfl
theorem bind_assoc {α β γ : Type} (m : M α) (f : α → M β) (g : β → M γ) : ((m >>= f) >>= g) = (m >>= fun a => f a >>= g) := by
  funext S
  show M.andThen (M.andThen m f) g S = M.andThen m (fun a => M.andThen (f a) g) S
  unfold M.andThen
  cases m S <;> rfl
@[simp] theorem opt_some {α : Type} (a : α) : M.opt (some a) = (pure a : M α) := rfl
@[simp] theorem opt_none {α : Type} : (M.opt none : M α) = M.bad := rfl
theorem pure_at {α : Type} (a : α) (S : Store) : (pure a : M α) S = .ok a S := rfl
theorem bind_at {α β : Type} (m : M α) (f : α → M β) (S : Store) : (m >>= f) S = (match m S with
  | .ok a S' => f a S'
  | .exc x S' => .exc x S'
  | .bad => .bad) := rfl
@[simp] theorem bind_ret {α : Type} (m : M α) : (m >>= fun a => pure a) = m := by
  funext S
  rw [bind_at]
  cases m S <;> rfl

/-! ### what values do -/
def itemsOf (S : Store) : D → Option (List D)
  | .tup xs => some xs
  | .lst xs => some xs
  | .ref n => (match S[n]? with
    | some (.ml xs) => some xs
    | _ => none)
  | _ => none
/-- the items of a list, frozen or not -/
def listOf (S : Store) : D → Option (List D)
  | .lst xs => some xs
  | .ref n => (match S[n]? with
    | some (.ml xs) => some xs
    | _ => none)
  | _ => none
mutual
def toP (S : Store) : D → Option PyData
  | .non => some .none
  | .bl b => some (.bool b)
  | .int i => some (.int i)
  | .str x => some (.str x)
  | .tup xs => (toPs S xs).map .tuple
  | .lst xs => (toPs S xs).map .list
  | _ => none
def toPs (S : Store) : List D → Option (List PyData)
  | [] => some []
  | x :: xs => (match toP S x, toPs S xs with
    | some a, some b => some (a :: b)
    | _, _ => none)
end
/-- .. of a list of the store, too -/
def toPr (S : Store) : D → Option PyData
  | .ref n => (match S[n]? with
    | some (.ml xs) => (toPs S xs).map .list
    | _ => none)
  | d => toP S d
mutual
def pEq : PyData → PyData → Bool
  | .none, b => (match b with
    | .none => true
    | _ => false)
  | .bool a, b => (match b with
    | .bool c => a == c
    | .int j => (if a then 1 else 0) == j
    | _ => false)
  | .int i, b => (match b with
    | .bool c => i == (if c then 1 else 0)
    | .int j => i == j
    | _ => false)
  | .str x, b => (match b with
    | .str y => x == y
    | _ => false)
  | .list xs, b => (match b with
    | .list ys => pEqs xs ys
    | _ => false)
  | .tuple xs, b => (match b with
    | .tuple ys => pEqs xs ys
    | _ => false)
  | .dict _, _ => false
def pEqs : List PyData → List PyData → Bool
  | [], ys => ys.isEmpty
  | x :: xs, ys => (match ys with
    | y :: zs => pEq x y && pEqs xs zs
    | [] => false)
end
mutual
def pDeep : PyData → Nat
  | .list xs => pDeeps xs + 1
  | .tuple xs => pDeeps xs + 1
  | .dict _ => 1000
  | .str x => if x.cps.all (· < 1114112) then 0 else 1000
  | _ => 0
def pDeeps : List PyData → Nat
  | [] => 0
  | x :: xs => max (pDeep x) (pDeeps xs)
end
/-- == of two values, where the model has it -/
def eqD (S : Store) (a b : D) : Option Bool := match toPr S a, toPr S b with
  | some p, some q => if pDeep p < 60 ∧ pDeep q < 60 then some (pEq p q) else none
  | _, _ => none
def intsOf : List D → Option (List Int)
  | [] => some []
  | .int i :: r => (intsOf r).map (i :: ·)
  | _ :: _ => none
def boolsOf : List D → Option (List Bool)
  | [] => some []
  | .bl b :: r => (boolsOf r).map (b :: ·)
  | _ :: _ => none
def lexB : List Int → List Int → Bool
  | [], ys => !ys.isEmpty
  | x :: xs, ys => (match ys with
    | [] => false
    | y :: zs => if x = y then lexB xs zs else decide (x < y))
def small64 (i : Int) : Bool := decide (i.natAbs < 2 ^ 64)
def mulOk (i j : Int) : Bool := small64 i || small64 j || decide (i.natAbs.log2 + j.natAbs.log2 < 1000000)
def divOk (j : Int) : Bool := (decide (j ≠ 0) && decide (j.natAbs < 1073741824)) || (decide (0 < j) && decide (j.natAbs.log2 < 9000))
def lenOk (n : Nat) : Bool := decide (n ≤ 16777216)
def placeOf (n : Nat) (i : Int) : Option Nat := if 0 ≤ i then (if i < n then some i.toNat else none) else (if 0 ≤ i + n then some (i + n).toNat else none)
def cutAt (n d : Nat) : Option Int → Nat
  | none => d
  | some v => if v < 0 then (v + n).toNat else min v.toNat n
def cutOf {α : Type} (xs : List α) (lo hi : Option Int) : List α := (xs.drop (cutAt xs.length 0 lo)).take (cutAt xs.length xs.length hi - cutAt xs.length 0 lo)

inductive Op2 where
  | add | sub | mul | fdiv | mod | pow | eq | ne | lt | le | gt | ge | iss | isn | mem | nmem
  deriving DecidableEq
def memD (S : Store) (a b : D) : Option Bool := match toPr S a, toPr S b with
  | some p, some (.list qs) => if pDeep p < 60 ∧ pDeeps qs < 59 then some (qs.any fun q => pEq q p) else none
  | some p, some (.tuple qs) => if pDeep p < 60 ∧ pDeeps qs < 59 then some (qs.any fun q => pEq q p) else none
  | _, _ => none
def isD : D → D → Option Bool
  | .non, .non => some true
  | .non, .bl _ => some false
  | .bl _, .non => some false
  | .bl a, .bl b => some (a == b)
  | .int _, .non => some false
  | .str _, .non => some false
  | .tup _, .non => some false
  | .lst _, .non => some false
  | .ref _, .non => some false
  | _, _ => none
def op2 (S : Store) : Op2 → D → D → Option D
  | .add, .int i, .int j => some (.int (i + j))
  | .add, .bl b, .int j => some (.int ((if b then 1 else 0) + j))
  | .add, .str x, .str y => if lenOk (x.length + y.length) then some (.str (x ++ y)) else none
  | .add, .tup xs, .tup ys => if lenOk (xs.length + ys.length) then some (.tup (xs ++ ys)) else none
  | .add, a, b => (match listOf S a, listOf S b with
    | some xs, some ys => if lenOk (xs.length + ys.length) then some (.lst (xs ++ ys)) else none
    | _, _ => none)
  | .sub, .int i, .int j => some (.int (i - j))
  | .mul, .int i, .int j => if mulOk i j then some (.int (i * j)) else none
  | .mul, .lst xs, .int j => if 0 ≤ j ∧ j ≤ 1000 ∧ xs.length ≤ 1000 then some (.lst (List.replicate j.toNat xs).flatten) else none
  | .mul, .tup xs, .int j => if 2 ≤ j ∧ j ≤ 1000 ∧ xs.length ≤ 1000 ∧ xs ≠ [] then some (.tup (List.replicate j.toNat xs).flatten) else none
  | .fdiv, .int i, .int j => if divOk j then some (.int (i.fdiv j)) else none
  | .mod, .int i, .int j => if j = 0 then none else some (.int (i.fmod j))
  | .pow, .int i, .int j => if 0 ≤ j ∧ j ≤ 1000000 ∧ i.natAbs < 2 ^ 64 then some (.int (i ^ j.toNat)) else none
  | .eq, a, b => (eqD S a b).map .bl
  | .ne, a, b => (eqD S a b).map fun c => .bl (!c)
  | .lt, .int i, .int j => some (.bl (decide (i < j)))
  | .lt, .tup xs, .tup ys => (match intsOf xs, intsOf ys with
    | some ns, some ms => some (.bl (lexB ns ms))
    | _, _ => none)
  | .le, .int i, .int j => some (.bl (decide (i ≤ j)))
  | .gt, .int i, .int j => some (.bl (decide (j < i)))
  | .ge, .int i, .int j => some (.bl (decide (j ≤ i)))
  | .iss, a, b => (isD a b).map .bl
  | .isn, a, b => (isD a b).map fun c => .bl (!c)
  | .mem, a, b => (memD S a b).map .bl
  | .nmem, a, b => (memD S a b).map fun c => .bl (!c)
  | _, _, _ => none
inductive Ty where
  | int | bool | str | tup
  deriving DecidableEq
def isTy : Ty → D → Option Bool
  | .int, .int _ => some true
  | .int, .bl _ => some true
  | .bool, .bl _ => some true
  | .str, .str _ => some true
  | .tup, .tup _ => some true
  | _, .exn _ _ => none
  | _, .gf _ => none
  | _, .scr _ => none
  | _, .ref _ => none
  | _, _ => some false
inductive Bi where
  | len | int | abs | min2 | max2 | sum | all | any | tup | lst (m : Bool) | isi (t : Ty)
  deriving DecidableEq
def lenD (S : Store) : D → Option Nat
  | .scr ns => some ns.length
  | .str x => if lenOk x.length then some x.length else none
  | d => (itemsOf S d).map List.length
/-- a built-in function of given values -/
def biD (S : Store) : Bi → List D → Option D
  | .len, [d] => (lenD S d).map fun (n : Nat) => .int (n : Int)
  | .int, [.int i] => some (.int i)
  | .int, [.bl b] => some (.int (if b then 1 else 0))
  | .abs, [.int i] => some (.int (if i < 0 then -i else i))
  | .min2, [.int i, .int j] => some (.int (if j < i then j else i))
  | .max2, [.int i, .int j] => some (.int (if j > i then j else i))
  | .sum, [d] => (match listOf S d with
    | some xs => (intsOf xs).map fun ns => .int ns.sum
    | none => none)
  | .all, [d] => (match listOf S d with
    | some xs => (boolsOf xs).map fun bs => .bl (bs.all id)
    | none => none)
  | .any, [d] => (match listOf S d with
    | some xs => (boolsOf xs).map fun bs => .bl (bs.any id)
    | none => none)
  | .tup, [d] => (itemsOf S d).map .tup
  | .lst false, [d] => (itemsOf S d).map .lst
  | .isi t, [d] => (isTy t d).map .bl
  | _, _ => none
def ixD (S : Store) (a i : D) : Option D := match i with
  | .int k => (match a with
    | .scr ns => (placeOf ns.length k).bind fun j => (ns[j]?).map .int
    | _ => (itemsOf S a).bind fun xs => (placeOf xs.length k).bind fun j => xs[j]?)
  | _ => none
def slD (S : Store) (a : D) (lo hi : Option Int) : Option D := match a with
  | .tup xs => some (.tup (cutOf xs lo hi))
  | _ => (listOf S a).map fun xs => .lst (cutOf xs lo hi)
def newOb (xs : List D) : M D := fun S => .ok (.ref S.length) (S ++ [.ml xs])
/-- a list that was just made: frozen, or an object of the store -/
@[simp] def mkList (m : Bool) (xs : List D) : M D := if m then newOb xs else pure (.lst xs)
def setIx (S : Store) (o i v : D) : Option Store := match o, i with
  | .ref n, .int k => (match S[n]? with
    | some (.ml xs) => (placeOf xs.length k).map fun j => S.set n (.ml (xs.set j v))
    | _ => none)
  | _, _ => none
inductive Mt where
  | append
  deriving DecidableEq
def isMl (S : Store) : D → Option Unit
  | .ref n => (match S[n]? with
    | some (.ml _) => some ()
    | _ => none)
  | _ => none
def mtD (m : Mt) (o : D) (vs : List D) : M D := fun S => match m, o, vs with
  | .append, .ref n, [v] => (match S[n]? with
    | some (.ml xs) => if xs.length < 16777216 then .ok .non (S.set n (.ml (xs ++ [v]))) else .bad
    | _ => .bad)
  | _, _, _ => .bad

/-! ### the syntax -/
mutual
inductive Pat where
  | n (i : Nat)
  | t (ps : Pats)
inductive Pats where
  | nil
  | cons (p : Pat) (ps : Pats)
end
mutual
inductive Ex where
  | v (i : Nat)
  | c (d : D)
  | gf (f : Nat)
  | tup (es : Exs)
  | lst (m : Bool) (es : Exs)
  | call (f : Nat) (es : Exs)
  | bi (b : Bi) (es : Exs)
  | op (o : Op2) (a b : Ex)
  | neg (a : Ex)
  | not (a : Ex)
  | and (es : Exs)
  | or (es : Exs)
  | chain (o₁ o₂ : Op2) (a b c : Ex)
  | ite (t a b : Ex)
  | ix (a i : Ex)
  | sl (a : Ex) (lo hi : Exo)
  | lc (m : Bool) (e : Ex) (p : Pat) (s : Src) (c : Exo)
  | lc2 (m : Bool) (e : Ex) (p : Pat) (s : Src) (q : Pat) (r : Src) (c : Exo)
  | mt (m : Mt) (o : Ex) (es : Exs)
  | fz (i : Nat)
inductive Exs where
  | nil
  | cons (e : Ex) (es : Exs)
inductive Exo where
  | none
  | some (e : Ex)
inductive Src where
  | seq (e : Ex)
  | rng (e : Ex)
  | rng2 (a b : Ex)
  | enm (e : Ex)
  | zip (a b : Ex)
end
inductive St where
  | skip
  | seq (a b : St)
  | asg (p : Pat) (e : Ex)
  | par (is : List Nat) (es : Exs)
  | set (o i e : Ex)
  | ret (e : Ex)
  | retN
  | exp (e : Ex)
  | ite (t : Ex) (a b : St)
  | for (p : Pat) (s : Src) (b : St)
  | whl (t : Ex) (b : St)
  | rse (c : Nat)
structure Df where
  ar : Nat
  nl : Nat
  pur : Bool
  body : St

/-! ### the meaning -/
abbrev Env := List (Option D)
mutual
@[simp] def bindP : Pat → D → Env → Option Env
  | .n i, d, σ => some (σ.set i (some d))
  | .t ps, d, σ => (match d with
    | .tup ds => bindPs ps ds σ
    | _ => none)
@[simp] def bindPs : Pats → List D → Env → Option Env
  | .nil, ds, σ => (match ds with
    | [] => some σ
    | _ :: _ => none)
  | .cons p ps, ds, σ => (match ds with
    | [] => none
    | d :: r => (match bindP p d σ with
      | some σ' => bindPs ps r σ'
      | none => none))
end
mutual
@[simp] def Pat.vars : Pat → List Nat
  | .n i => [i]
  | .t ps => Pats.vars ps
@[simp] def Pats.vars : Pats → List Nat
  | .nil => []
  | .cons p ps => Pat.vars p ++ Pats.vars ps
end
@[simp] def clr (σ : Env) : List Nat → Env
  | [] => σ
  | i :: r => (clr σ r).set i none
/-- a store's lists that are walked, as they were -/
abbrev Lks := List (Nat × List D)
def lkOk (l : Lks) (S : Store) : Bool := l.all fun p => match S[p.1]? with
  | some (.ml ys) => D.sames ys p.2
  | _ => false
@[simp] def lkOf (d : D) (xs : List D) : Lks := match d with
  | .ref n => [(n, xs)]
  | _ => []
structure Walk where
  items : List D
  locks : Lks
def lcM (l : Lks) (f : D → M (Option D)) : List D → M (List D)
  | [] => fun S => if lkOk l S then .ok [] S else .bad
  | d :: ds => fun S => if lkOk l S then (f d >>= fun r => lcM l f ds >>= fun rs => pure (match r with
    | some x => x :: rs
    | none => rs)) S else .bad
def lcM2 (l : Lks) (f : D → M (List D)) : List D → M (List D)
  | [] => fun S => if lkOk l S then .ok [] S else .bad
  | d :: ds => fun S => if lkOk l S then (f d >>= fun r => lcM2 l f ds >>= fun rs => pure (r ++ rs)) S else .bad
inductive Fl where
  | nx (σ : Env)
  | rt (d : D)
def forM (l : Lks) (f : D → Env → M Fl) : List D → Env → M Fl
  | [], σ => fun S => if lkOk l S then .ok (.nx σ) S else .bad
  | d :: ds, σ => fun S => if lkOk l S then (f d σ >>= fun r => match r with
    | .nx σ' => forM l f ds σ'
    | .rt v => pure (.rt v)) S else .bad
def whileM (t : Env → M Bool) (b : Env → M Fl) : Nat → Env → M Fl
  | 0, _ => M.bad
  | n + 1, σ => t σ >>= fun c => if c then (b σ >>= fun r => match r with
    | .nx σ' => whileM t b n σ'
    | .rt v => pure (.rt v)) else pure (.nx σ)
/-- no error leaves it -/
def noX {α : Type} (m : M α) : M α := fun S => match m S with
  | .exc _ _ => .bad
  | o => o
def asB : D → M Bool
  | .bl b => pure b
  | _ => M.bad
def rngOk (i j : Int) : Bool := decide (-(2 ^ 62) ≤ i) && decide (i < 2 ^ 62) && decide (-(2 ^ 62) ≤ j) && decide (j < 2 ^ 62) && decide ((j - i).toNat ≤ 16777216)
def rangeD (i j : Int) : List D := (List.range (j - i).toNat).map fun (k : Nat) => D.int (i + (k : Int))
def enumD (xs : List D) : List D := List.zipWith (fun (k : Nat) x => D.tup [.int (k : Int), x]) (List.range xs.length) xs
def zipD (xs ys : List D) : List D := xs.zipWith (fun x y => D.tup [x, y]) ys
/-- a list of the store becomes frozen -/
def fzM (d : D) : M D := fun S => match d with
  | .ref n => (match S[n]? with
    | some (.ml xs) => .ok (.lst xs) (S.set n .dead)
    | _ => .bad)
  | _ => .bad
def setM (σ : Env) (x y v : D) : M Fl := fun S => match setIx S x y v with
  | some S' => .ok (.nx σ) S'
  | none => .bad
def rseM {α : Type} (c : Nat) : M α := fun S => .exc ⟨c, []⟩ S
section
variable (Φ : Nat → List D → M D)
mutual
@[simp] def eE : Ex → Env → M D
  | .v i, σ => M.opt (σ[i]?.join)
  | .c d, _ => pure d
  | .gf f, _ => pure (.gf f)
  | .tup es, σ => eEs es σ >>= fun xs => pure (.tup xs)
  | .lst m es, σ => eEs es σ >>= fun xs => mkList m xs
  | .call f es, σ => eEs es σ >>= fun xs => Φ f xs
  | .bi b es, σ => eEs es σ >>= fun xs => (match b with
    | .lst true => M.ask (fun S => match xs with
      | [d] => itemsOf S d
      | _ => none) >>= newOb
    | _ => M.ask fun S => biD S b xs)
  | .op o a b, σ => eE a σ >>= fun x => eE b σ >>= fun y => M.ask fun S => op2 S o x y
  | .neg a, σ => eE a σ >>= fun x => (match x with
    | .int i => pure (.int (-i))
    | _ => M.bad)
  | .not a, σ => eE a σ >>= asB >>= fun b => pure (.bl (!b))
  | .and es, σ => eAnd es σ >>= fun b => pure (.bl b)
  | .or es, σ => eOr es σ >>= fun b => pure (.bl b)
  | .chain o₁ o₂ a b c, σ => eE a σ >>= fun x => eE b σ >>= fun y => M.ask (fun S => op2 S o₁ x y) >>= asB >>= fun k =>
      if k then (eE c σ >>= fun z => M.ask fun S => op2 S o₂ y z) else pure (.bl false)
  | .ite t a b, σ => eE t σ >>= asB >>= fun c => if c then eE a σ else eE b σ
  | .ix a i, σ => eE a σ >>= fun x => eE i σ >>= fun y => M.ask fun S => ixD S x y
  | .sl a lo hi, σ => eE a σ >>= fun x => eO lo σ >>= fun l => eO hi σ >>= fun h => M.ask fun S => slD S x l h
  | .lc m e p s c, σ => eS s σ >>= fun w => noX (lcM w.locks (fun d => M.opt (bindP p d (clr σ p.vars)) >>= fun τ => eC c τ >>= fun b =>
      if b then (eE e τ >>= fun x => pure (some x)) else pure none) w.items) >>= mkList m
  | .lc2 m e p s q r c, σ => eS s σ >>= fun w => noX (lcM2 w.locks (fun d => M.opt (bindP p d (clr σ (p.vars ++ q.vars))) >>= fun τ => eS r τ >>= fun u =>
      lcM u.locks (fun d' => M.opt (bindP q d' (clr τ q.vars)) >>= fun τ' => eC c τ' >>= fun b =>
        if b then (eE e τ' >>= fun x => pure (some x)) else pure none) u.items) w.items) >>= fun xs => if xs.length ≤ 16777216 then mkList m xs else M.bad
  | .mt m o es, σ => eE o σ >>= fun x => M.ask (fun S => isMl S x) >>= fun _ => eEs es σ >>= fun xs => mtD m x xs
  | .fz i, σ => M.opt (σ[i]?.join) >>= fun d => fzM d
@[simp] def eEs : Exs → Env → M (List D)
  | .nil, _ => pure []
  | .cons e es, σ => eE e σ >>= fun x => eEs es σ >>= fun xs => pure (x :: xs)
@[simp] def eAnd : Exs → Env → M Bool
  | .nil, _ => pure true
  | .cons e es, σ => eE e σ >>= asB >>= fun c => if c then eAnd es σ else pure false
@[simp] def eOr : Exs → Env → M Bool
  | .nil, _ => pure false
  | .cons e es, σ => eE e σ >>= asB >>= fun c => if c then pure true else eOr es σ
/-- a part of a slice -/
@[simp] def eO : Exo → Env → M (Option Int)
  | .none, _ => pure none
  | .some e, σ => eE e σ >>= fun x => (match x with
    | .int i => pure (some i)
    | _ => M.bad)
/-- a comprehension's test -/
@[simp] def eC : Exo → Env → M Bool
  | .none, _ => pure true
  | .some e, σ => eE e σ >>= asB
@[simp] def eS : Src → Env → M Walk
  | .seq e, σ => eE e σ >>= fun d => M.ask (fun S => itemsOf S d) >>= fun xs => pure ⟨xs, lkOf d xs⟩
  | .rng e, σ => eE e σ >>= fun d => (match d with
    | .int j => if rngOk 0 j then pure ⟨rangeD 0 j, []⟩ else M.bad
    | _ => M.bad)
  | .rng2 a b, σ => eE a σ >>= fun x => eE b σ >>= fun y => (match x, y with
    | .int i, .int j => if rngOk i j then pure ⟨rangeD i j, []⟩ else M.bad
    | _, _ => M.bad)
  | .enm e, σ => eE e σ >>= fun d => M.ask (fun S => itemsOf S d) >>= fun xs => pure ⟨enumD xs, lkOf d xs⟩
  | .zip a b, σ => eE a σ >>= fun x => eE b σ >>= fun y => M.ask (fun S => itemsOf S x) >>= fun xs => M.ask (fun S => itemsOf S y) >>= fun ys =>
      pure ⟨zipD xs ys, lkOf x xs ++ lkOf y ys⟩
end
variable (W : Nat)
@[simp] def eSt : St → Env → M Fl
  | .skip, σ => pure (.nx σ)
  | .seq a b, σ => eSt a σ >>= fun r => (match r with
    | .nx τ => eSt b τ
    | .rt v => pure (.rt v))
  | .asg p e, σ => eE Φ e σ >>= fun d => M.opt (bindP p d σ) >>= fun τ => pure (.nx τ)
  | .par is es, σ => eEs Φ es σ >>= fun xs => if xs.length = is.length then pure (.nx ((is.zip xs).foldl (fun τ q => τ.set q.1 (some q.2)) σ)) else M.bad
  | .set o i e, σ => eE Φ e σ >>= fun v => eE Φ o σ >>= fun x => eE Φ i σ >>= fun y => setM σ x y v
  | .ret e, σ => eE Φ e σ >>= fun v => pure (.rt v)
  | .retN, _ => pure (.rt .non)
  | .exp e, σ => eE Φ e σ >>= fun _ => pure (.nx σ)
  | .ite t a b, σ => eE Φ t σ >>= asB >>= fun c => if c then eSt a σ else eSt b σ
  | .for p s b, σ => eS Φ s σ >>= fun w => forM w.locks (fun d τ => M.opt (bindP p d τ) >>= fun τ' => eSt b τ') w.items σ
  | .whl t b, σ => whileM (fun τ => eE Φ t τ >>= asB) (fun τ => eSt b τ) W σ
  | .rse c, _ => rseM c
@[simp] def startE (nl : Nat) (ds : List D) : Env := ds.map some ++ List.replicate (nl - ds.length) none
end
mutual
/-- no reference in it -/
def noRef : D → Bool
  | .ref _ => false
  | .tup xs => noRefs xs
  | .lst xs => noRefs xs
  | .exn _ xs => noRefs xs
  | _ => true
def noRefs : List D → Bool
  | [] => true
  | x :: xs => noRef x && noRefs xs
end
/-- what a body's end hands back -/
@[simp] def endM (r : M Fl) : M D := r >>= fun f => match f with
  | .nx _ => pure .non
  | .rt v => pure v
/-- a def that leaves the store as it was -/
def puring (m : M D) : M D := fun S => match m S with
  | .ok d S' => if sameS (S'.take S.length) S && noRef d then .ok d S else .bad
  | .exc x S' => if sameS (S'.take S.length) S && noRefs x.fs then .exc x S else .bad
  | .bad => .bad
def run (T : Nat → Option Df) (W : Nat) : Nat → Nat → List D → M D
  | 0, _, _ => M.bad
  | n + 1, f, args => (match T f with
    | none => M.bad
    | some df => if args.length = df.ar then (if df.pur then puring (endM (eSt (run T W n) W df.body (startE df.nl args))) else endM (eSt (run T W n) W df.body (startE df.nl args))) else M.bad)
end Hc
end
section
set_option Elab.async false
set_option linter.all false
set_option maxRecDepth 100000
set_option autoImplicit false
/-! Values of the core language and the hand layer's values. -/
namespace Hc
open PySem PySem.Spec PyProof.Rows L2

/-- what the top has left, as far as the core language knows it -/
structure Cc where
  P : Program
  w : World
  K : PySem.W.Frag
  mg : PySem.Str → Option Value
  base : Heap
  lvl : Nat
  /-- the addresses of own defs -/
  fa : Nat → Option Addr
  /-- .. of error classes -/
  ca : Nat → Option Addr

/-- frozen facts; the addresses of the store's objects -/
structure Wd where
  F : Hp
  ρ : List Addr

mutual
inductive Rep (C : Cc) (W : Wd) : V → D → Prop
  | non : Rep C W .non .non
  | bl (b : Bool) : Rep C W (.bl b) (.bl b)
  | int (i : Int) : Rep C W (.int i) (.int i)
  | str (x : PySem.Str) : Rep C W (.str x) (.str x)
  | tup {a : Addr} {vs : List V} {ds : List D} : SqT C.K W.F a vs → Reps C W vs ds → ds.length ≤ 16777216 → Rep C W (.ref a) (.tup ds)
  | lst {a : Addr} {vs : List V} {ds : List D} : W.F a = some (.lst vs) → Reps C W vs ds → ds.length ≤ 16777216 → Rep C W (.ref a) (.lst ds)
  | scr {a : Addr} {ns : List Int} : SqL C.K W.F a (ns.map V.int) → Rep C W (.ref a) (.scr ns)
  | ref {a : Addr} {n : Nat} : W.ρ[n]? = some a → Rep C W (.ref a) (.ref n)
  | gf {a : Addr} {f : Nat} : C.fa f = some a → Rep C W (.ref a) (.gf f)
inductive Reps (C : Cc) (W : Wd) : List V → List D → Prop
  | nil : Reps C W [] []
  | cons {v : V} {vs : List V} {d : D} {ds : List D} : Rep C W v d → Reps C W vs ds → Reps C W (v :: vs) (d :: ds)
end

structure Wd.le (W W' : Wd) : Prop where
  fz : ∀ b o, W.F b = some o → W'.F b = some o
  ro : ∃ t, W'.ρ = W.ρ ++ t
theorem Wd.le.refl (W : Wd) : W.le W := ⟨fun _ _ h => h, [], (List.append_nil _).symm⟩
theorem Wd.le.trans {A B E : Wd} (x : A.le B) (y : B.le E) : A.le E := by
  obtain ⟨t, ht⟩ := x.ro
  obtain ⟨u, hu⟩ := y.ro
  exact ⟨fun b o h => y.fz b o (x.fz b o h), t ++ u, by rw [hu, ht, List.append_assoc]⟩
theorem Wd.le.at {W W' : Wd} (l : W.le W') {n : Nat} {a : Addr} (h : W.ρ[n]? = some a) : W'.ρ[n]? = some a := by
  obtain ⟨t, ht⟩ := l.ro
  rw [ht, List.getElem?_append_left (List.getElem?_eq_some_iff.mp h).1]
  exact h

theorem sqT_up {K : PySem.W.Frag} {F H : Hp} {a : Addr} {vs : List V} (s : ∀ b o, F b = some o → H b = some o) (h : SqT K F a vs) : SqT K H a vs := by
  rcases h with (h | ⟨o, h⟩) | h
  · exact .inl (.inl (s _ _ h))
  · exact .inl (.inr ⟨o, s _ _ h⟩)
  · exact .inr h
theorem sqL_up {K : PySem.W.Frag} {F H : Hp} {a : Addr} {vs : List V} (s : ∀ b o, F b = some o → H b = some o) (h : SqL K F a vs) : SqL K H a vs := by
  rcases h with (h | ⟨o, h⟩) | h
  · exact .inl (.inl (s _ _ h))
  · exact .inl (.inr ⟨o, s _ _ h⟩)
  · exact .inr h

section
variable {C : Cc} {W W' : Wd}
mutual
theorem Rep.up (l : W.le W') : ∀ {v : V} {d : D}, Rep C W v d → Rep C W' v d
  | _, _, .non => .non
  | _, _, .bl b => .bl b
  | _, _, .int i => .int i
  | _, _, .str x => .str x
  | _, _, .tup h r z => .tup (sqT_up l.fz h) (Reps.up l r) z
  | _, _, .lst h r z => .lst (l.fz _ _ h) (Reps.up l r) z
  | _, _, .scr h => .scr (sqL_up l.fz h)
  | _, _, .ref h => .ref (l.at h)
  | _, _, .gf h => .gf h
theorem Reps.up (l : W.le W') : ∀ {vs : List V} {ds : List D}, Reps C W vs ds → Reps C W' vs ds
  | _, _, .nil => .nil
  | _, _, .cons r t => .cons (Rep.up l r) (Reps.up l t)
end
theorem Reps.length {W : Wd} : ∀ {vs : List V} {ds : List D}, Reps C W vs ds → vs.length = ds.length
  | _, _, .nil => rfl
  | _, _, .cons _ t => by simp [Reps.length t]
theorem Reps.get {W : Wd} : ∀ {vs : List V} {ds : List D} {i : Nat} {d : D}, Reps C W vs ds → ds[i]? = some d → ∃ v, vs[i]? = some v ∧ Rep C W v d
  | _, _, _, _, .nil, h => by simp at h
  | _, _, 0, _, .cons r _, h => by
    cases (Option.some.inj h)
    exact ⟨_, rfl, r⟩
  | _, _, i + 1, _, .cons _ t, h => by
    obtain ⟨v, h1, h2⟩ := Reps.get (i := i) t (by simpa using h)
    exact ⟨v, by simpa using h1, h2⟩
theorem Reps.append {W : Wd} : ∀ {vs us : List V} {ds es : List D}, Reps C W vs ds → Reps C W us es → Reps C W (vs ++ us) (ds ++ es)
  | _, _, _, _, .nil, s => s
  | _, _, _, _, .cons r t, s => .cons r (Reps.append t s)
theorem Reps.drop {W : Wd} : ∀ {vs : List V} {ds : List D} (n : Nat), Reps C W vs ds → Reps C W (vs.drop n) (ds.drop n)
  | _, _, 0, r => r
  | _, _, _ + 1, .nil => .nil
  | _, _, n + 1, .cons _ t => Reps.drop n t
theorem Reps.take {W : Wd} : ∀ {vs : List V} {ds : List D} (n : Nat), Reps C W vs ds → Reps C W (vs.take n) (ds.take n)
  | _, _, 0, _ => .nil
  | _, _, _ + 1, .nil => .nil
  | _, _, n + 1, .cons r t => .cons r (Reps.take n t)
theorem Reps.set {W : Wd} {v : V} {d : D} (r : Rep C W v d) : ∀ {vs : List V} {ds : List D} (n : Nat), Reps C W vs ds → Reps C W (vs.set n v) (ds.set n d)
  | _, _, _, .nil => .nil
  | _, _, 0, .cons _ t => .cons r t
  | _, _, n + 1, .cons q t => .cons q (Reps.set r n t)
theorem Reps.flat {W : Wd} {vs : List V} {ds : List D} (r : Reps C W vs ds) : ∀ n : Nat, Reps C W (List.replicate n vs).flatten (List.replicate n ds).flatten
  | 0 => .nil
  | n + 1 => by
    rw [List.replicate_succ, List.replicate_succ, List.flatten_cons, List.flatten_cons]
    exact r.append (Reps.flat r n)
theorem Reps.ints {W : Wd} : ∀ {ds : List D} {vs : List V} {ns : List Int}, Reps C W vs ds → intsOf ds = some ns → vs = ns.map V.int
  | [], _, ns, .nil, h => by
    cases (Option.some.inj (show some ([] : List Int) = some ns from h))
    rfl
  | .int i :: ds, _, ns, .cons r t, h => by
    have h' : (intsOf ds).map (i :: ·) = some ns := h
    cases e : intsOf ds with
    | none => rw [e] at h'; cases h'
    | some ms =>
      rw [e] at h'
      cases (Option.some.inj (show some (i :: ms) = some ns from h'))
      cases r
      rw [Reps.ints t e]
      rfl
  | .non :: _, _, _, _, h => by simp [intsOf] at h
  | .bl _ :: _, _, _, _, h => by simp [intsOf] at h
  | .str _ :: _, _, _, _, h => by simp [intsOf] at h
  | .tup _ :: _, _, _, _, h => by simp [intsOf] at h
  | .lst _ :: _, _, _, _, h => by simp [intsOf] at h
  | .scr _ :: _, _, _, _, h => by simp [intsOf] at h
  | .ref _ :: _, _, _, _, h => by simp [intsOf] at h
  | .gf _ :: _, _, _, _, h => by simp [intsOf] at h
  | .exn _ _ :: _, _, _, _, h => by simp [intsOf] at h
theorem Reps.bools {W : Wd} : ∀ {ds : List D} {vs : List V} {bs : List Bool}, Reps C W vs ds → boolsOf ds = some bs → vs = bs.map V.bl
  | [], _, ns, .nil, h => by
    cases (Option.some.inj (show some ([] : List Bool) = some ns from h))
    rfl
  | .bl i :: ds, _, ns, .cons r t, h => by
    have h' : (boolsOf ds).map (i :: ·) = some ns := h
    cases e : boolsOf ds with
    | none => rw [e] at h'; cases h'
    | some ms =>
      rw [e] at h'
      cases (Option.some.inj (show some (i :: ms) = some ns from h'))
      cases r
      rw [Reps.bools t e]
      rfl
  | .non :: _, _, _, _, h => by simp [boolsOf] at h
  | .int _ :: _, _, _, _, h => by simp [boolsOf] at h
  | .str _ :: _, _, _, _, h => by simp [boolsOf] at h
  | .tup _ :: _, _, _, _, h => by simp [boolsOf] at h
  | .lst _ :: _, _, _, _, h => by simp [boolsOf] at h
  | .scr _ :: _, _, _, _, h => by simp [boolsOf] at h
  | .ref _ :: _, _, _, _, h => by simp [boolsOf] at h
  | .gf _ :: _, _, _, _, h => by simp [boolsOf] at h
  | .exn _ _ :: _, _, _, _, h => by simp [boolsOf] at h
end

/-- an object of the store, as it stands -/
inductive ObR (C : Cc) (W : Wd) (H : Hp) (a : Addr) : Ob → Prop
  | ml {vs : List V} {ds : List D} : H a = some (.lst vs) → Reps C W vs ds → ds.length ≤ 16777216 → ObR C W H a (.ml ds)
  | dead : ObR C W H a .dead

/-- the store, the frozen facts and the heap -/
structure SRel (C : Cc) (W : Wd) (S : Store) (H : Hp) : Prop where
  len : W.ρ.length = S.length
  sub : ∀ b o, W.F b = some o → H b = some o
  ob : ∀ (n : Nat) (o : Ob) (a : Addr), S[n]? = some o → W.ρ[n]? = some a → ObR C W H a o
  fr : ∀ (n : Nat) (o : Ob) (a : Addr), S[n]? = some o → o ≠ .dead → W.ρ[n]? = some a → W.F a = none
  tr : ∀ a ∈ W.ρ, H a ≠ none
  nd : W.ρ.Nodup
theorem SRel.addr {C : Cc} {W : Wd} {S : Store} {H : Hp} (s : SRel C W S H) {n : Nat} {o : Ob} (h : S[n]? = some o) : ∃ a, W.ρ[n]? = some a := by
  have hn := (List.getElem?_eq_some_iff.mp h).1
  rw [← s.len] at hn
  exact ⟨_, List.getElem?_eq_getElem hn⟩

/-- from here to there: frozen facts grow, objects come, what isn't the store's stays -/
structure Stp (W : Wd) (H : Hp) (W' : Wd) (H' : Hp) : Prop where
  fz : ∀ b o, W.F b = some o → W'.F b = some o
  ro : ∃ t, W'.ρ = W.ρ ++ t ∧ ∀ a ∈ t, H a = none
  fr : ∀ b o, H b = some o → b ∉ W.ρ → H' b = some o
  tr : ∀ b, H b ≠ none → H' b ≠ none
  nf : ∀ b o, W'.F b = some o → W.F b = some o ∨ H b = none ∨ b ∈ W.ρ
theorem Stp.refl (W : Wd) (H : Hp) : Stp W H W H := ⟨fun _ _ h => h, ⟨[], (List.append_nil _).symm, fun _ h => absurd h List.not_mem_nil⟩, fun _ _ h _ => h, fun _ h => h, fun _ _ h => .inl h⟩
theorem Stp.le {W W' : Wd} {H H' : Hp} (s : Stp W H W' H') : W.le W' := ⟨s.fz, let ⟨t, h, _⟩ := s.ro; ⟨t, h⟩⟩
theorem Stp.trans {A B E : Wd} {H H1 H2 : Hp} (x : Stp A H B H1) (y : Stp B H1 E H2) : Stp A H E H2 := by
  obtain ⟨t, ht, nt⟩ := x.ro
  obtain ⟨u, hu, nu⟩ := y.ro
  refine ⟨fun b o h => y.fz b o (x.fz b o h), ⟨t ++ u, by rw [hu, ht, List.append_assoc], fun a ha => ?_⟩, fun b o h nb => ?_, fun b h => y.tr b (x.tr b h), fun b o h => ?_⟩
  · rcases List.mem_append.mp ha with ha | ha
    · exact nt a ha
    · have := nu a ha
      cases e : H a with
      | none => rfl
      | some o => exact absurd this (x.tr a (by rw [e]; simp))
  · refine y.fr b o (x.fr b o h nb) ?_
    rw [ht]
    intro hb
    rcases List.mem_append.mp hb with hb | hb
    · exact nb hb
    · rw [nt b hb] at h; cases h
  · have low : H1 b = none → H b = none := fun e => by
      cases e2 : H b with
      | none => rfl
      | some u => exact absurd e (x.tr b (by rw [e2]; simp))
    rcases y.nf b o h with h | h | h
    · exact x.nf b o h
    · exact .inr (.inl (low h))
    · rw [ht] at h
      rcases List.mem_append.mp h with h | h
      · exact .inr (.inr h)
      · exact .inr (.inl (nt b h))
/-- an address that is tracked and not the store's, later -/
theorem Stp.out {W W' : Wd} {H H' : Hp} (s : Stp W H W' H') {b : Addr} (h : H b ≠ none) (n : b ∉ W.ρ) : b ∉ W'.ρ := by
  obtain ⟨t, ht, nt⟩ := s.ro
  rw [ht]
  intro hb
  rcases List.mem_append.mp hb with hb | hb
  · exact n hb
  · exact h (nt b hb)

/-- the slots -/
structure Sls (C : Cc) (W : Wd) (σ : Env) (σc : L2.St) : Prop where
  len : σ.length = σc.length
  at_ : ∀ (i : Nat) (d : D), σ[i]? = some (some d) → ∃ v, σc[i]? = some (some v) ∧ Rep C W v d
theorem Sls.up {C : Cc} {W W' : Wd} {σ : Env} {σc : L2.St} (s : Sls C W σ σc) (l : W.le W') : Sls C W' σ σc :=
  ⟨s.len, fun i d h => let ⟨v, h1, h2⟩ := s.at_ i d h; ⟨v, h1, h2.up l⟩⟩
theorem Sls.set {C : Cc} {W : Wd} {σ : Env} {σc : L2.St} (s : Sls C W σ σc) {v : V} {d : D} (r : Rep C W v d) (i : Nat) : Sls C W (σ.set i (some d)) (σc.set i (some v)) := by
  refine ⟨by simp [s.len], fun j e h => ?_⟩
  by_cases hj : i = j
  · subst hj
    by_cases hi : i < σ.length
    · rw [List.getElem?_set_self hi] at h
      cases h
      exact ⟨v, List.getElem?_set_self (by rw [← s.len]; exact hi), r⟩
    · rw [List.getElem?_eq_none (by simpa using hi)] at h
      cases h
  · rw [List.getElem?_set_ne hj] at h
    obtain ⟨u, h1, h2⟩ := s.at_ j e h
    exact ⟨u, by rw [List.getElem?_set_ne hj]; exact h1, h2⟩

/-- an error of the core language and how it lies -/
inductive ERep (C : Cc) (W : Wd) (H : Hp) : Value → Option Addr → Exn → Prop
  | plain {c : Nat} {a : Addr} : C.ca c = some a → ERep C W H (.ref a) none ⟨c, []⟩

/-- what is wanted behind a step of the core language -/
def Kg {α β : Type} (C : Cc) (rel : Wd → Hp → β → α → Prop) (XW : WX) (W : Wd) (H : Hp) (σc : L2.St) (o : Out α) (Q : β → Hp → Prop) : Prop := match o with
  | .ok a S' => ∀ b H' W', Stp W H W' H' → SRel C W' S' H' → rel W' H' b a → Q b H'
  | .exc x S' => ∀ cls dd H' W', Stp W H W' H' → SRel C W' S' H' → ERep C W' H' cls dd x → XW cls dd σc H'
  | .bad => False
theorem Kg.imp {α β : Type} {C : Cc} {rel : Wd → Hp → β → α → Prop} {XW : WX} {W : Wd} {H : Hp} {σc : L2.St} {o : Out α} {Q Q' : β → Hp → Prop} (h : Kg C rel XW W H σc o Q) (hq : ∀ b H', Q b H' → Q' b H') : Kg C rel XW W H σc o Q' := by
  cases o with
  | ok a S => exact fun b H' W' s r q => hq _ _ (h b H' W' s r q)
  | exc x S => exact h
  | bad => exact h
/-- two steps: the second one from where the first one ended -/
theorem Kg.bind {α β γ δ : Type} {C : Cc} {rel : Wd → Hp → β → α → Prop} {rel2 : Wd → Hp → δ → γ → Prop} {XW : WX} {W : Wd} {H : Hp} {σc : L2.St} {m : M α} {k : α → M γ} {S : Store} {Q : δ → Hp → Prop} {P : β → Hp → Prop}
    (h : Kg C rel2 XW W H σc ((m >>= k) S) Q)
    (n : ∀ b H1 W1 S1 a, Stp W H W1 H1 → SRel C W1 S1 H1 → rel W1 H1 b a → Kg C rel2 XW W1 H1 σc (k a S1) Q → P b H1) : Kg C rel XW W H σc (m S) P := by
  rw [bind_at] at h
  cases e : m S with
  | ok a S1 =>
    rw [e] at h
    intro b H1 W1 st sr r
    refine n b H1 W1 S1 a st sr r ?_
    have h' : Kg C rel2 XW W H σc (k a S1) Q := h
    cases e2 : k a S1 with
    | ok c S2 =>
      rw [e2] at h'
      exact fun d H2 W2 st2 sr2 r2 => h' d H2 W2 (st.trans st2) sr2 r2
    | exc x S2 =>
      rw [e2] at h'
      exact fun cls dd H2 W2 st2 sr2 r2 => h' cls dd H2 W2 (st.trans st2) sr2 r2
    | bad =>
      rw [e2] at h'
      exact h'
  | exc x S1 =>
    rw [e] at h
    exact h
  | bad =>
    rw [e] at h
    exact h
/-- at the end -/
theorem Kg.done {α β : Type} {C : Cc} {rel : Wd → Hp → β → α → Prop} {XW : WX} {W : Wd} {H : Hp} {σc : L2.St} {a : α} {S : Store} {Q : β → Hp → Prop} (h : Kg C rel XW W H σc (.ok a S) Q) (sr : SRel C W S H) {b : β} (r : rel W H b a) : Q b H :=
  h b H W (Stp.refl W H) sr r

/-- readings by the core language -/
abbrev relD (C : Cc) : Wd → Hp → V → D → Prop := fun W _ v d => Rep C W v d
abbrev relDs (C : Cc) : Wd → Hp → List V → List D → Prop := fun W _ v d => Reps C W v d
abbrev relE {α : Type} : Wd → Hp → α → α → Prop := fun _ _ x y => x = y
/-- the reading of a step f from the slots -/
def tG {α β : Type} (C : Cc) (rel : Wd → Hp → β → α → Prop) (XW : WX) (f : Env → M α) : L2.St → Hp → (β → Hp → Prop) → Prop := fun σc H Q =>
  ∃ σ S W, SRel C W S H ∧ Sls C W σ σc ∧ Kg C rel XW W H σc (f σ S) Q
abbrev tD (C : Cc) (XW : WX) (f : Env → M D) : TE := tG C (relD C) XW f
abbrev tDs (C : Cc) (XW : WX) (f : Env → M (List D)) : TA := tG C (relDs C) XW f
abbrev tBo (C : Cc) (XW : WX) (f : Env → M Bool) : TT := tG C relE XW f
theorem tG_step {α β γ δ : Type} {C : Cc} {rel : Wd → Hp → β → α → Prop} {rel2 : Wd → Hp → δ → γ → Prop} {XW : WX} {W : Wd} {H : Hp} {σc : L2.St} {σ : Env} {f : Env → M α} {k : α → M γ} {S : Store} {Q : δ → Hp → Prop} {P : β → Hp → Prop}
    (h : Kg C rel2 XW W H σc ((f σ >>= k) S) Q) (sr : SRel C W S H) (sl : Sls C W σ σc)
    (n : ∀ b H1 W1 S1 a, Stp W H W1 H1 → SRel C W1 S1 H1 → Sls C W1 σ σc → rel W1 H1 b a → Kg C rel2 XW W1 H1 σc (k a S1) Q → P b H1) : tG C rel XW f σc H P :=
  ⟨σ, S, W, sr, sl, h.bind fun b H1 W1 S1 a st sr1 r h1 => n b H1 W1 S1 a st sr1 (sl.up st.le) r h1⟩
end Hc
namespace L2
open PySem PySem.Spec PyProof.Rows
/-- a reading is weakened -/
theorem PE.sub {X : Cx} {e : Expr} {t t' : TE} (p : PE X e t) (h : ∀ σ H Q, t' σ H Q → t σ H Q) : PE X e t' := ⟨fun pins s σ H Q I q => p.run pins s σ H Q I (h σ H Q q)⟩
theorem PA.sub {X : Cx} {e : List Expr} {t t' : TA} (p : PA X e t) (h : ∀ σ H Q, t' σ H Q → t σ H Q) : PA X e t' := ⟨fun pos pins s σ H Q I q => p.run pos pins s σ H Q I (h σ H Q q)⟩
theorem PT.sub {X : Cx} {e : Expr} {t t' : TT} (p : PT X e t) (h : ∀ σ H Q, t' σ H Q → t σ H Q) : PT X e t' := ⟨fun pins s σ H Q I q => p.run pins s σ H Q I (h σ H Q q)⟩
theorem PW.sub {X : Cx} {e : Expr} {t t' : TT} (p : PW X e t) (h : ∀ σ H Q, t' σ H Q → t σ H Q) : PW X e t' := ⟨fun wh pins s σ H Q I q => p.run wh pins s σ H Q I (h σ H Q q)⟩
theorem PS.sub {X : Cx} {e : Stmt} {t t' : TS} (p : PS X e t) (h : ∀ D σ H, t' D σ H → t D σ H) : PS X e t' := ⟨fun pins s σ H D I q => p.run pins s σ H D I (h D σ H q)⟩
theorem PSs.sub {X : Cx} {e : List Stmt} {t t' : TS} (p : PSs X e t) (h : ∀ D σ H, t' D σ H → t D σ H) : PSs X e t' := ⟨fun pins s σ H D I q => p.run pins s σ H D I (h D σ H q)⟩

end L2
namespace Hc
open PySem PySem.Spec PyProof.Rows L2
/-! ### new objects -/
section
variable {C : Cc} {W : Wd} {S : Store} {H : Hp} {p : Addr}
theorem SRel.old (s : SRel C W S H) (hp : H p = none) : p ∉ W.ρ ∧ W.F p = none := by
  refine ⟨fun h => s.tr p h hp, ?_⟩
  cases e : W.F p with
  | none => rfl
  | some o => rw [s.sub p o e] at hp; cases hp
/-- a frozen fact more -/
def Wd.frz (W : Wd) (p : Addr) (o : HO) : Wd := ⟨upd W.F p o, W.ρ⟩
/-- an object more -/
def Wd.new (W : Wd) (p : Addr) : Wd := ⟨W.F, W.ρ ++ [p]⟩
theorem upd_up {H : Hp} {p b : Addr} {o u : HO} (hp : H p = none) (h : H b = some u) : upd H p o b = some u := by
  rw [upd_ne (ne_of_none h hp)]
  exact h
theorem Stp.frz (s : SRel C W S H) (hp : H p = none) (o : HO) : Stp W H (W.frz p o) (upd H p o) := by
  refine ⟨fun b u h => upd_up (s.old hp).2 h, ⟨[], (List.append_nil _).symm, fun _ h => absurd h List.not_mem_nil⟩, fun b u h _ => upd_up hp h, fun b h => ?_, fun b u h => ?_⟩
  · cases e : H b with
    | none => exact absurd e h
    | some u => rw [upd_up hp e]; simp
  · by_cases hb : b = p
    · exact .inr (.inl (by rw [hb]; exact hp))
    · exact .inl (by rw [show (W.frz p o).F b = W.F b from upd_ne hb] at h; exact h)
theorem SRel.frz (s : SRel C W S H) (hp : H p = none) (o : HO) : SRel C (W.frz p o) S (upd H p o) := by
  have l : W.le (W.frz p o) := (Stp.frz s hp o).le
  refine ⟨s.len, fun b u h => ?_, fun n u a h1 h2 => ?_, fun n u a h1 h2 h3 => ?_, fun a h => ?_, s.nd⟩
  · by_cases hb : b = p
    · subst hb
      rw [upd_same]
      rw [show (W.frz b o).F b = some o from upd_same] at h
      exact h
    · rw [upd_ne hb]
      rw [show (W.frz p o).F b = W.F b from upd_ne hb] at h
      exact s.sub b u h
  · cases s.ob n u a h1 h2 with
    | ml e r z => exact .ml (upd_up hp e) (r.up l) z
    | dead => exact .dead
  · have ha : a ≠ p := fun e => (s.old hp).1 (e ▸ List.mem_of_getElem? h3)
    rw [show (W.frz p o).F a = W.F a from upd_ne ha]
    exact s.fr n u a h1 h2 h3
  · have q := s.tr a h
    have ha : a ≠ p := fun e => (s.old hp).1 (e ▸ h)
    rw [upd_ne ha]
    exact q
theorem Stp.new (s : SRel C W S H) (hp : H p = none) (o : HO) : Stp W H (W.new p) (upd H p o) := by
  refine ⟨fun b u h => h, ⟨[p], rfl, fun a h => ?_⟩, fun b u h _ => upd_up hp h, fun b h => ?_, fun b u h => .inl h⟩
  · have e : a = p := by simpa using h
    rw [e]; exact hp
  · cases e : H b with
    | none => exact absurd e h
    | some u => rw [upd_up hp e]; simp
theorem SRel.new (s : SRel C W S H) (hp : H p = none) {vs : List V} {ds : List D} (r : Reps C W vs ds) (hz : ds.length ≤ 16777216) : SRel C (W.new p) (S ++ [.ml ds]) (upd H p (.lst vs)) := by
  have l : W.le (W.new p) := (Stp.new s hp (.lst vs)).le
  have hS := s.len
  refine ⟨by simp [Wd.new, s.len], fun b u h => upd_up hp (s.sub b u h), fun n u a h1 h2 => ?_, fun n u a h1 h2 h3 => ?_, fun a h => ?_, ?_⟩
  · by_cases hn : n < S.length
    · rw [List.getElem?_append_left hn] at h1
      have h2' : W.ρ[n]? = some a := by
        have : (W.ρ ++ [p])[n]? = some a := h2
        rw [List.getElem?_append_left (by omega)] at this
        exact this
      cases s.ob n u a h1 h2' with
      | ml e r z => exact .ml (upd_up hp e) (r.up l) z
      | dead => exact .dead
    · have hn' : n = S.length := by
        have := (List.getElem?_eq_some_iff.mp h1).1
        simp at this
        omega
      subst hn'
      rw [List.getElem?_append_right (Nat.le_refl _), Nat.sub_self] at h1
      have h2' : (W.ρ ++ [p])[S.length]? = some a := h2
      rw [← hS, List.getElem?_append_right (Nat.le_refl _), Nat.sub_self] at h2'
      cases (Option.some.inj h1)
      cases (Option.some.inj h2')
      exact .ml upd_same (r.up l) hz
  · by_cases hn : n < S.length
    · rw [List.getElem?_append_left hn] at h1
      have h3' : W.ρ[n]? = some a := by
        have : (W.ρ ++ [p])[n]? = some a := h3
        rw [List.getElem?_append_left (by omega)] at this
        exact this
      exact s.fr n u a h1 h2 h3'
    · have hn' : n = S.length := by
        have := (List.getElem?_eq_some_iff.mp h1).1
        simp at this
        omega
      subst hn'
      have h3' : (W.ρ ++ [p])[S.length]? = some a := h3
      rw [← hS, List.getElem?_append_right (Nat.le_refl _), Nat.sub_self] at h3'
      cases (Option.some.inj h3')
      exact (s.old hp).2
  · rcases List.mem_append.mp h with h | h
    · have q := s.tr a h
      have ha : a ≠ p := fun e => (s.old hp).1 (e ▸ h)
      rw [upd_ne ha]
      exact q
    · have e : a = p := by simpa using h
      rw [e, upd_same]
      simp
  · refine List.nodup_append.mpr ⟨s.nd, by simp, fun a ha b hb e => ?_⟩
    have e' : b = p := by simpa using hb
    exact (s.old hp).1 (by rw [← e', ← e]; exact ha)
/-- a list of the store is written -/
theorem SRel.wr (s : SRel C W S H) {n : Nat} {a : Addr} {ds es : List D} {vs : List V} (hn : S[n]? = some (.ml ds)) (ha : W.ρ[n]? = some a) (r : Reps C W vs es) (hz : es.length ≤ 16777216) : SRel C W (S.set n (.ml es)) (upd H a (.lst vs)) := by
  have fa := s.fr n _ a hn (by intro h; cases h) ha
  refine ⟨by simp [s.len], fun b u h => ?_, fun m u b h1 h2 => ?_, fun m u b h1 h2 h3 => ?_, fun b h => ?_, s.nd⟩
  · rw [upd_ne (by intro e; subst e; rw [fa] at h; cases h)]
    exact s.sub b u h
  · by_cases hm : n = m
    · subst hm
      rw [List.getElem?_set_self (List.getElem?_eq_some_iff.mp hn).1] at h1
      rw [ha] at h2
      cases h1
      cases h2
      exact .ml upd_same r hz
    · rw [List.getElem?_set_ne hm] at h1
      have hb : b ≠ a := fun e => hm (by
        subst e
        exact (List.getElem_inj s.nd).mp ((List.getElem?_eq_some_iff.mp ha).2.trans (List.getElem?_eq_some_iff.mp h2).2.symm))
      cases s.ob m u b h1 h2 with
      | ml e r z => exact .ml (by rw [upd_ne hb]; exact e) r z
      | dead => exact .dead
  · by_cases hm : n = m
    · subst hm
      rw [ha] at h3
      cases h3
      exact fa
    · rw [List.getElem?_set_ne hm] at h1
      exact s.fr m u b h1 h2 h3
  · by_cases hb : b = a
    · subst hb; rw [upd_same]; simp
    · rw [upd_ne hb]; exact s.tr b h
theorem Stp.wr {n : Nat} {a : Addr} {o : HO} (ha : W.ρ[n]? = some a) : Stp W H W (upd H a o) := by
  refine ⟨fun b u h => h, ⟨[], (List.append_nil _).symm, fun _ h => absurd h List.not_mem_nil⟩, fun b u h hb => ?_, fun b h => ?_, fun b u h => .inl h⟩
  · rw [upd_ne (by intro e; subst e; exact hb (List.mem_of_getElem? ha))]
    exact h
  · by_cases hb : b = a
    · subst hb; rw [upd_same]; simp
    · rw [upd_ne hb]; exact h
/-- a list of the store is frozen -/
theorem SRel.kill (s : SRel C W S H) {n : Nat} {a : Addr} {ds : List D} {vs : List V} (hn : S[n]? = some (.ml ds)) (ha : W.ρ[n]? = some a) (hh : H a = some (.lst vs)) : SRel C (W.frz a (.lst vs)) (S.set n .dead) H ∧ Stp W H (W.frz a (.lst vs)) H := by
  have fa := s.fr n _ a hn (by intro h; cases h) ha
  have st : Stp W H (W.frz a (.lst vs)) H := ⟨fun b u h => upd_up fa h, ⟨[], (List.append_nil _).symm, fun _ h => absurd h List.not_mem_nil⟩, fun b u h _ => h, fun b h => h, fun b u h => by
    by_cases hb : b = a
    · exact .inr (.inr (by rw [hb]; exact List.mem_of_getElem? ha))
    · exact .inl (by rw [show (W.frz a (.lst vs)).F b = W.F b from upd_ne hb] at h; exact h)⟩
  refine ⟨⟨by simp [Wd.frz, s.len], fun b u h => ?_, fun m u b h1 h2 => ?_, fun m u b h1 h2 h3 => ?_, fun b h => s.tr b h, s.nd⟩, st⟩
  · by_cases hb : b = a
    · subst hb
      rw [show (W.frz b (.lst vs)).F b = some (.lst vs) from upd_same] at h
      cases h
      exact hh
    · rw [show (W.frz a (.lst vs)).F b = W.F b from upd_ne hb] at h
      exact s.sub b u h
  · by_cases hm : n = m
    · subst hm
      rw [List.getElem?_set_self (List.getElem?_eq_some_iff.mp hn).1] at h1
      cases h1
      exact .dead
    · rw [List.getElem?_set_ne hm] at h1
      cases s.ob m u b h1 h2 with
      | ml e r z => exact .ml e (r.up st.le) z
      | dead => exact .dead
  · by_cases hm : n = m
    · subst hm
      rw [List.getElem?_set_self (List.getElem?_eq_some_iff.mp hn).1] at h1
      cases h1
      exact absurd rfl h2
    · rw [List.getElem?_set_ne hm] at h1
      have hb : b ≠ a := fun e => hm (by
        subst e
        exact (List.getElem_inj s.nd).mp ((List.getElem?_eq_some_iff.mp ha).2.trans (List.getElem?_eq_some_iff.mp h3).2.symm))
      rw [show (W.frz a (.lst vs)).F b = W.F b from upd_ne hb]
      exact s.fr m u b h1 h2 h3
/-- a fact that is frozen was one, or is new, or the store's -/
theorem Stp.apart {W W' : Wd} {H H' : Hp} (st : Stp W H W' H') {b : Addr} (h : H b ≠ none) (n : b ∉ W.ρ) (f : W.F b = none) : W'.F b = none := by
  cases e : W'.F b with
  | none => rfl
  | some o =>
    rcases st.nf b o e with q | q | q
    · rw [f] at q; cases q
    · exact absurd q h
    · exact absurd q n
/-- an object that is nobody's is written -/
theorem SRel.own (s : SRel C W S H) (hn : p ∉ W.ρ) (hf : W.F p = none) (o : HO) : SRel C W S (upd H p o) := by
  refine ⟨s.len, fun b u h => ?_, fun n u a h1 h2 => ?_, s.fr, fun a h => ?_, s.nd⟩
  · rw [upd_ne (by intro e; subst e; rw [hf] at h; cases h)]
    exact s.sub b u h
  · have ha : a ≠ p := fun e => hn (e ▸ List.mem_of_getElem? h2)
    cases s.ob n u a h1 h2 with
    | ml e r z => exact .ml (by rw [upd_ne ha]; exact e) r z
    | dead => exact .dead
  · rw [upd_ne (fun e : a = p => hn (by rw [← e]; exact h))]
    exact s.tr a h
/-- .. and it is new, seen from the start -/
theorem Stp.own {W0 : Wd} {H0 : Hp} (st : Stp W0 H0 W H) (hp : H0 p = none) (o : HO) : Stp W0 H0 W (upd H p o) := by
  refine ⟨st.fz, st.ro, fun b u h hb => ?_, fun b h => ?_, st.nf⟩
  · rw [upd_ne (ne_of_none h hp)]
    exact st.fr b u h hb
  · by_cases hb : b = p
    · subst hb; rw [upd_same]; simp
    · rw [upd_ne hb]; exact st.tr b h
/-- .. and is frozen at the end -/
theorem SRel.ownF (s : SRel C W S H) (hn : p ∉ W.ρ) (hf : W.F p = none) {o : HO} (hh : H p = some o) : SRel C (W.frz p o) S H := by
  have l : W.le (W.frz p o) := ⟨fun b u h => upd_up hf h, [], (List.append_nil _).symm⟩
  refine ⟨s.len, fun b u h => ?_, fun n u a h1 h2 => ?_, fun n u a h1 h2 h3 => ?_, s.tr, s.nd⟩
  · by_cases hb : b = p
    · subst hb
      rw [show (W.frz b o).F b = some o from upd_same] at h
      cases h
      exact hh
    · rw [show (W.frz p o).F b = W.F b from upd_ne hb] at h
      exact s.sub b u h
  · cases s.ob n u a h1 h2 with
    | ml e r z => exact .ml e (r.up l) z
    | dead => exact .dead
  · have ha : a ≠ p := fun e => hn (e ▸ List.mem_of_getElem? h3)
    rw [show (W.frz p o).F a = W.F a from upd_ne ha]
    exact s.fr n u a h1 h2 h3
theorem Stp.ownF {W0 : Wd} {H0 : Hp} (st : Stp W0 H0 W H) (hp : H0 p = none) (hf : W.F p = none) (o : HO) : Stp W0 H0 (W.frz p o) H := by
  refine ⟨fun b u h => upd_up hf (st.fz b u h), st.ro, st.fr, st.tr, fun b u h => ?_⟩
  by_cases hb : b = p
  · exact .inr (.inl (by rw [hb]; exact hp))
  · exact st.nf b u (by rw [show (W.frz p o).F b = W.F b from upd_ne hb] at h; exact h)
/-- .. or is the store's at the end -/
theorem SRel.ownN (s : SRel C W S H) (hn : p ∉ W.ρ) (hf : W.F p = none) {vs : List V} {ds : List D} (hh : H p = some (.lst vs)) (r : Reps C W vs ds) (hz : ds.length ≤ 16777216) : SRel C (W.new p) (S ++ [.ml ds]) H := by
  have l : W.le (W.new p) := ⟨fun b u h => h, [p], rfl⟩
  have hS := s.len
  have at_ : ∀ {n : Nat} {u : Ob} {a : Addr}, (S ++ [.ml ds])[n]? = some u → (W.ρ ++ [p])[n]? = some a → (S[n]? = some u ∧ W.ρ[n]? = some a) ∨ (u = .ml ds ∧ a = p) := fun {n u a} h1 h2 => by
    by_cases hn : n < S.length
    · rw [List.getElem?_append_left hn] at h1
      rw [List.getElem?_append_left (by omega)] at h2
      exact .inl ⟨h1, h2⟩
    · have hn' : n = S.length := by
        have := (List.getElem?_eq_some_iff.mp h1).1
        simp at this
        omega
      subst hn'
      rw [List.getElem?_append_right (Nat.le_refl _), Nat.sub_self] at h1
      rw [← hS, List.getElem?_append_right (Nat.le_refl _), Nat.sub_self] at h2
      cases (Option.some.inj h1)
      cases (Option.some.inj h2)
      exact .inr ⟨rfl, rfl⟩
  refine ⟨by simp [Wd.new, s.len], s.sub, fun n u a h1 h2 => ?_, fun n u a h1 h2 h3 => ?_, fun a h => ?_, ?_⟩
  · rcases at_ h1 h2 with ⟨h1, h2⟩ | ⟨rfl, rfl⟩
    · cases s.ob n u a h1 h2 with
      | ml e r z => exact .ml e (r.up l) z
      | dead => exact .dead
    · exact .ml hh (r.up l) hz
  · rcases at_ h1 h3 with ⟨h1, h3⟩ | ⟨rfl, rfl⟩
    · exact s.fr n u a h1 h2 h3
    · exact hf
  · rcases List.mem_append.mp h with h | h
    · exact s.tr a h
    · rw [List.mem_singleton.mp h, hh]
      simp
  · refine List.nodup_append.mpr ⟨s.nd, by simp, fun a ha b hb e => ?_⟩
    exact hn (by rw [← List.mem_singleton.mp hb, ← e]; exact ha)
theorem Stp.ownN {W0 : Wd} {H0 : Hp} (st : Stp W0 H0 W H) (hp : H0 p = none) : Stp W0 H0 (W.new p) H := by
  obtain ⟨t, ht, nt⟩ := st.ro
  refine ⟨st.fz, ⟨t ++ [p], by show W.ρ ++ [p] = _; rw [ht, List.append_assoc], fun a h => ?_⟩, st.fr, st.tr, st.nf⟩
  rcases List.mem_append.mp h with h | h
  · exact nt a h
  · rw [List.mem_singleton.mp h]; exact hp
end
end Hc
end
section
set_option Elab.async false
set_option linter.all false
set_option maxRecDepth 100000
set_option autoImplicit false
/-! Rules that the hand layer lacks, and the values' functions against it. -/
namespace Hc
open PySem PySem.Spec PyProof.Rows L2

/-! ### data -/
mutual
theorem pEq_eqv : ∀ a b : PyData, pEq a b = PyData.eqv a b
  | .none, b => by cases b <;> simp [pEq, PyData.eqv]
  | .bool _, b => by cases b <;> simp [pEq, PyData.eqv]
  | .int _, b => by cases b <;> simp [pEq, PyData.eqv]
  | .str _, b => by cases b <;> simp [pEq, PyData.eqv]
  | .list xs, b => by
    cases b with
    | list ys => simp only [pEq, PyData.eqv]; exact pEqs_eqv xs ys
    | _ => simp [pEq, PyData.eqv]
  | .tuple xs, b => by
    cases b with
    | tuple ys => simp only [pEq, PyData.eqv]; exact pEqs_eqv xs ys
    | _ => simp [pEq, PyData.eqv]
  | .dict _, b => by cases b <;> simp [pEq, PyData.eqv]
theorem pEqs_eqv : ∀ a b : List PyData, pEqs a b = PyData.eqvAll a b
  | [], ys => by cases ys <;> simp [pEqs, PyData.eqvAll]
  | x :: xs, ys => by
    cases ys with
    | nil => simp [pEqs, PyData.eqvAll]
    | cons y zs => simp only [pEqs, PyData.eqvAll]; rw [pEq_eqv x y, pEqs_eqv xs zs]
end
mutual
theorem deep_ok : ∀ d : PyData, pDeep d < 1000 → d.canLay0 = true ∧ d.depth = pDeep d
  | .none, _ => by simp [PyData.canLay0, PyData.depth, pDeep]
  | .bool _, _ => by simp [PyData.canLay0, PyData.depth, pDeep]
  | .int _, _ => by simp [PyData.canLay0, PyData.depth, pDeep]
  | .str x, h => by
    by_cases e : x.cps.all (fun c => decide (c < 1114112)) = true
    · refine ⟨?_, ?_⟩
      · rw [PyData.canLay0]
        exact e
      · simp only [PyData.depth, pDeep, e, if_true]
    · simp only [pDeep, e] at h
      exact absurd h (by decide)
  | .list xs, h => by
    simp only [pDeep] at h
    obtain ⟨h1, h2⟩ := deeps_ok xs (by omega)
    simp only [PyData.canLay0, PyData.depth, pDeep, h2]
    exact ⟨h1, trivial⟩
  | .tuple xs, h => by
    simp only [pDeep] at h
    obtain ⟨h1, h2⟩ := deeps_ok xs (by omega)
    simp only [PyData.canLay0, PyData.depth, pDeep, h2]
    exact ⟨h1, trivial⟩
  | .dict _, h => by simp [pDeep] at h
theorem deeps_ok : ∀ ds : List PyData, pDeeps ds < 1000 → PyData.canLayAll0 ds = true ∧ PyData.depthAll ds = pDeeps ds
  | [], _ => by simp [PyData.canLayAll0, PyData.depthAll, pDeeps]
  | x :: xs, h => by
    simp only [pDeeps] at h
    obtain ⟨h1, h2⟩ := deep_ok x (by omega)
    obtain ⟨h3, h4⟩ := deeps_ok xs (by omega)
    simp only [PyData.canLayAll0, PyData.depthAll, pDeeps, h1, h2, h3, h4, Bool.and_self]
    exact ⟨trivial, trivial⟩
end
theorem shaped_of {d : PyData} (h : pDeep d < 60) : SeqAt.shaped d = true := by
  obtain ⟨h1, h2⟩ := deep_ok d (by omega)
  show (d.canLay0 && decide (d.depth ≤ 64)) = true
  rw [h1, h2, Bool.true_and]
  exact decide_eq_true (by omega)
section
variable {C : Cc} {W : Wd} {S : Store} {H : Hp}
mutual
theorem toP_rep (s : ∀ b o, W.F b = some o → H b = some o) : ∀ {d : D} {v : V} {p : PyData}, Rep C W v d → toP S d = some p → Dp C.K H v p
  | .non, _, _, .non, h => by cases (Option.some.inj h); exact .non
  | .bl b, _, _, .bl _, h => by cases (Option.some.inj h); exact .bl b
  | .int i, _, _, .int _, h => by cases (Option.some.inj h); exact .int i
  | .str x, _, _, .str _, h => by cases (Option.some.inj h); exact .str x
  | .tup ds, _, p, .tup hs hr _, h => by
    have h' : (toPs S ds).map PyData.tuple = some p := h
    cases e : toPs S ds with
    | none => rw [e] at h'; cases h'
    | some ps =>
      rw [e] at h'
      cases (Option.some.inj h')
      exact .tup (sqT_up s hs) (toPs_rep s hr e)
  | .lst ds, _, p, .lst hs hr _, h => by
    have h' : (toPs S ds).map PyData.list = some p := h
    cases e : toPs S ds with
    | none => rw [e] at h'; cases h'
    | some ps =>
      rw [e] at h'
      cases (Option.some.inj h')
      exact .lst (SqL.of (s _ _ hs)) (toPs_rep s hr e)
  | .scr _, _, _, _, h => by simp [toP] at h
  | .ref _, _, _, _, h => by simp [toP] at h
  | .gf _, _, _, _, h => by simp [toP] at h
  | .exn _ _, _, _, _, h => by simp [toP] at h
theorem toPs_rep (s : ∀ b o, W.F b = some o → H b = some o) : ∀ {ds : List D} {vs : List V} {ps : List PyData}, Reps C W vs ds → toPs S ds = some ps → DpAll C.K H vs ps
  | [], _, _, .nil, h => by cases (Option.some.inj h); exact .nil
  | d :: ds, _, ps, .cons r t, h => by
    have h' : (match toP S d, toPs S ds with
      | some a, some b => some (a :: b)
      | _, _ => none) = some ps := h
    cases e1 : toP S d with
    | none => rw [e1] at h'; cases h'
    | some a =>
      rw [e1] at h'
      cases e2 : toPs S ds with
      | none => rw [e2] at h'; cases h'
      | some b =>
        rw [e2] at h'
        cases (Option.some.inj h')
        exact .cons (toP_rep s r e1) (toPs_rep s t e2)
end
theorem toPr_rep (s : SRel C W S H) {d : D} {v : V} {p : PyData} (r : Rep C W v d) (h : toPr S d = some p) : Dp C.K H v p := by
  cases d with
  | ref n =>
    cases r with
    | ref ha =>
      have h' : (match S[n]? with
        | some (.ml xs) => (toPs S xs).map PyData.list
        | _ => none) = some p := h
      cases e : S[n]? with
      | none => rw [e] at h'; cases h'
      | some o =>
        cases o with
        | dead => rw [e] at h'; cases h'
        | ml xs =>
          rw [e] at h'
          have h2 : (toPs S xs).map PyData.list = some p := h'
          cases s.ob n _ _ e ha with
          | ml hh hr _ =>
            cases e2 : toPs S xs with
            | none => rw [e2] at h2; cases h2
            | some ps =>
              rw [e2] at h2
              cases (Option.some.inj h2)
              exact .lst (SqL.of hh) (toPs_rep s.sub hr e2)
  | _ => exact toP_rep (S := S) s.sub r h
theorem listOf_rep (s : SRel C W S H) {d : D} {v : V} {xs : List D} (r : Rep C W v d) (h : listOf S d = some xs) : ∃ a vs, v = .ref a ∧ H a = some (.lst vs) ∧ Reps C W vs xs ∧ xs.length ≤ 16777216 := by
  cases r with
  | lst hf hr hz =>
    cases (Option.some.inj h)
    exact ⟨_, _, rfl, s.sub _ _ hf, hr, hz⟩
  | @ref a n ha =>
    have h' : (match S[n]? with
      | some (.ml xs) => some xs
      | _ => none) = some xs := h
    cases e : S[n]? with
    | none => rw [e] at h'; cases h'
    | some o =>
      rw [e] at h'
      cases o with
      | dead => cases h'
      | ml ys =>
        cases (Option.some.inj h')
        cases s.ob n _ _ e ha with
        | ml hh hr hz => exact ⟨_, _, rfl, hh, hr, hz⟩
  | non => cases h
  | bl _ => cases h
  | int _ => cases h
  | str _ => cases h
  | tup _ _ _ => cases h
  | scr _ => cases h
  | gf _ => cases h
theorem itemsOf_rep (s : SRel C W S H) {d : D} {v : V} {xs : List D} (r : Rep C W v d) (h : itemsOf S d = some xs) :
    ∃ a vs, v = .ref a ∧ (H a = some (.lst vs) ∧ listOf S d = some xs ∨ SqT C.K H a vs ∧ d = .tup xs) ∧ Reps C W vs xs ∧ xs.length ≤ 16777216 := by
  cases r with
  | tup hs hr hz =>
    cases (Option.some.inj h)
    exact ⟨_, _, rfl, .inr ⟨sqT_up s.sub hs, rfl⟩, hr, hz⟩
  | lst hf hr hz =>
    cases (Option.some.inj h)
    exact ⟨_, _, rfl, .inl ⟨s.sub _ _ hf, rfl⟩, hr, hz⟩
  | @ref a n ha =>
    have h1 : listOf S (.ref n) = some xs := h
    obtain ⟨a', vs, e, hh, hr, hz⟩ := listOf_rep s (.ref ha) h1
    exact ⟨a', vs, e, .inl ⟨hh, h1⟩, hr, hz⟩
  | non => cases h
  | bl _ => cases h
  | int _ => cases h
  | str _ => cases h
  | scr _ => cases h
  | gf _ => cases h
end

/-! ### operators that the layer lacks -/
section
variable {X : Cx}
/-- is, of None and truth values -/
def rIsN (neg : Bool) : R2 := fun x y H Q => ∃ c : Bool, ((y = .non ∧ c = decide (x = .non)) ∨ (∃ b, y = .bl b ∧ x = .non ∧ c = false) ∨ ∃ a b, x = .bl a ∧ y = .bl b ∧ c = (a == b)) ∧ Q (.bl (if neg then !c else c)) H
theorem op_isN2 : OpR X (compareOp .Is) (rIsN false) := by
  intro pins s σ H x y v u Q I rx ry h
  obtain ⟨c, hc, q⟩ := h
  rcases hc with ⟨rfl, rfl⟩ | ⟨b, rfl, rfl, rfl⟩ | ⟨a, b, rfl, rfl, rfl⟩
  · exact op_isN pins s σ H x .non v u Q I rx ry ⟨rfl, q⟩
  · cases (show v = Value.none from rx)
    cases (show u = Value.bool b from ry)
    exact wpAny_is_other rfl (fun z => by cases z) ⟨.bl false, H, I, rfl, q⟩
  · refine op_isBl pins s σ H (.bl a) (.bl b) v u Q I rx ry ⟨a, b, rfl, rfl, ?_⟩
    rw [← Bool.beq_eq_decide_eq]
    exact q
theorem op_notN2 : OpR X (compareOp .IsNot) (rIsN true) := by
  intro pins s σ H x y v u Q I rx ry h
  obtain ⟨c, hc, q⟩ := h
  rcases hc with ⟨rfl, rfl⟩ | ⟨b, rfl, rfl, rfl⟩ | ⟨a, b, rfl, rfl, rfl⟩
  · exact op_notN pins s σ H x .non v u Q I rx ry ⟨rfl, q⟩
  · cases (show v = Value.none from rx)
    cases (show u = Value.bool b from ry)
    exact wpAny_isNot_other rfl (fun z => by cases z) ⟨.bl true, H, I, rfl, q⟩
  · refine op_notBl pins s σ H (.bl a) (.bl b) v u Q I rx ry ⟨a, b, rfl, rfl, ?_⟩
    rw [← Bool.beq_eq_decide_eq]
    exact q
/-- in, a tuple of data -/
def rMemT (K : PySem.W.Frag) (neg : Bool) : R2 := fun x y H Q => ∃ d ds, Dp K H x d ∧ (Dp K H y (.tuple ds) ∨ Dp K H y (.list ds)) ∧ pDeep d < 60 ∧ pDeeps ds < 59 ∧ Q (.bl (if neg then !ds.any fun z => pEq z d else ds.any fun z => pEq z d)) H
theorem any_pEq (ds : List PyData) (d : PyData) : (ds.any fun z => pEq z d) = ds.any fun z => PyData.eqv z d := by
  congr 1
  funext z
  exact pEq_eqv z d
theorem op_memA (hu : X.A.units + 65 < cLine) : OpR X (compareOp .In) (rMemT X.K false) := by
  intro pins s σ H x y v u Q I rx ry h
  obtain ⟨d, ds, hd, he, sd, se, q⟩ := h
  have sd' := shaped_of sd
  obtain ⟨l1, l2⟩ := deeps_ok ds (by omega)
  simp only [Bool.false_eq_true, if_false] at q
  rw [any_pEq] at q
  obtain ⟨as, r1⟩ := Dp.reads I d x v hd rx
  rcases he with he | he
  · obtain ⟨bs, r2⟩ := Dp.reads I (.tuple ds) y u he ry
    exact SeqAt.in_tuple_reads r2 r1 l1 (SeqAt.canLay_of_shaped sd') (room_in_shaped sd' hu) ⟨.bl _, H, I, rfl, q⟩
  · obtain ⟨bs, r2⟩ := Dp.reads I (.list ds) y u he ry
    exact SeqAt.in_list_reads r2 r1 l1 (SeqAt.canLay_of_shaped sd') (room_in_shaped sd' hu) ⟨.bl _, H, I, rfl, q⟩
theorem op_nmemA (hu : X.A.units + 65 < cLine) : OpR X (compareOp .NotIn) (rMemT X.K true) := by
  intro pins s σ H x y v u Q I rx ry h
  obtain ⟨d, ds, hd, he, sd, se, q⟩ := h
  have sd' := shaped_of sd
  obtain ⟨l1, l2⟩ := deeps_ok ds (by omega)
  simp only [if_true] at q
  rw [any_pEq] at q
  obtain ⟨as, r1⟩ := Dp.reads I d x v hd rx
  rcases he with he | he
  · obtain ⟨bs, r2⟩ := Dp.reads I (.tuple ds) y u he ry
    exact SeqAt.notIn_tuple_reads r2 r1 l1 (SeqAt.canLay_of_shaped sd') (room_in_shaped sd' hu) ⟨.bl _, H, I, rfl, q⟩
  · obtain ⟨bs, r2⟩ := Dp.reads I (.list ds) y u he ry
    exact SeqAt.notIn_list_reads r2 r1 l1 (SeqAt.canLay_of_shaped sd') (room_in_shaped sd' hu) ⟨.bl _, H, I, rfl, q⟩
/-- == by the core language's pEq -/
theorem op_eqP (hu : X.A.units + 64 < cLine) : OpR X (compareOp .Eq) (fun x y H Q => ∃ d e, Dp X.K H x d ∧ Dp X.K H y e ∧ pDeep d < 60 ∧ pDeep e < 60 ∧ Q (.bl (pEq d e)) H) := by
  intro pins s σ H x y v u Q I rx ry h
  obtain ⟨d, e, hd, he, sd, se, q⟩ := h
  rw [pEq_eqv] at q
  exact op_eqD hu pins s σ H x y v u Q I rx ry ⟨d, e, hd, he, shaped_of sd, shaped_of se, q⟩
theorem op_neP (hu : X.A.units + 64 < cLine) : OpR X (compareOp .NotEq) (fun x y H Q => ∃ d e, Dp X.K H x d ∧ Dp X.K H y e ∧ pDeep d < 60 ∧ pDeep e < 60 ∧ Q (.bl (!pEq d e)) H) := by
  intro pins s σ H x y v u Q I rx ry h
  obtain ⟨d, e, hd, he, sd, se, q⟩ := h
  rw [pEq_eqv] at q
  exact op_neD hu pins s σ H x y v u Q I rx ry ⟨d, e, hd, he, shaped_of sd, shaped_of se, q⟩
end
end Hc
end
section
set_option Elab.async false
set_option linter.all false
set_option maxRecDepth 100000
set_option autoImplicit false
/-! enumerate and zip over lists and tuples in any mix. -/
namespace Hc
open PySem PySem.Spec PyProof.Rows L2

/-- a tuple (true) or a list (false) that is read -/
def SqK (t : Bool) (K : PySem.W.Frag) (H : Hp) (a : Addr) (xs : List V) : Prop := match t with
  | true => SqT K H a xs
  | false => SqL K H a xs
def seqS (t : Bool) (h : Heap) (l : Addr) (its : Array Value) : Prop := match t with
  | true => h.IsTuple l its
  | false => h.IsList l its
def itS (t : Bool) (h : Heap) (it l : Addr) (i : Nat) : Prop := match t with
  | true => h.IsTupleIter it l i
  | false => h.IsListIter it l i
def itObj (t : Bool) (l : Addr) : Obj := match t with
  | true => { cls := .type "tuple_iterator", data := .fields #[.ref l, .int 0 0] }
  | false => { cls := .type "list_iterator", data := .fields #[.ref l, .int 0 0] }
theorem drawsK {prog : Program} {w : World} {A : Around} (t : Bool) (hh : A.handled = none) (it l : Addr) (hne : l ≠ it) (its : Array Value) :
    Draws prog w A it [it, l] its.size (fun i v => its[i]? = some v) (fun i h => itS t h it l i ∧ seqS t h l its) := match t with
  | true => Draws.tuple hh it l hne its
  | false => Draws.list hh it l hne its
theorem beginsK (t : Bool) (l : Addr) (its : Array Value) : Begins (.ref l) (itObj t l) fun h => seqS t h l its := match t with
  | true => begins_tuple l its
  | false => begins_list l its
theorem itS_obj {t : Bool} {h : Heap} {it l : Addr} {i : Nat} (x : itS t h it l i) : ∃ o, h.get? it = some o ∧ ∀ v, o.data ≠ .cell v := by
  cases t with
  | true =>
    obtain ⟨o, h1, _, h3⟩ := x
    exact ⟨o, h1, fun v q => by rw [h3] at q; cases q⟩
  | false =>
    obtain ⟨o, h1, _, h3⟩ := x
    exact ⟨o, h1, fun v q => by rw [h3] at q; cases q⟩
theorem itS_at {t : Bool} {h h' : Heap} {it l : Addr} {i : Nat} (x : itS t h it l i) (k : ∀ o, h.get? it = some o → h'.get? it = some o) : itS t h' it l i := by
  cases t with
  | true =>
    obtain ⟨o, h1, h2⟩ := x
    exact ⟨o, k o h1, h2⟩
  | false =>
    obtain ⟨o, h1, h2⟩ := x
    exact ⟨o, k o h1, h2⟩
theorem itS_new {t : Bool} {h : Heap} {it l : Addr} (e : h.get? it = some (itObj t l)) : itS t h it l 0 := by
  cases t with
  | true => exact ⟨_, e, rfl, rfl⟩
  | false => exact ⟨_, e, rfl, rfl⟩
section
variable {X : Cx} {pins : List (Addr × Obj)} {σ : L2.St} {H : Hp} {s : Shared} {t : Bool} {a : Addr} {xs ys : List V}
theorem seqK (I : Inv X pins σ H s) (h : SqK t X.K H a xs) : ∃ its : List Value, Vals xs its ∧ seqS t s.heap a its.toArray ∧ xs.length ≤ sizeLine := by
  cases t with
  | true =>
    obtain ⟨its, r, p, z⟩ := I.tuple h
    exact ⟨its, r, p, z⟩
  | false =>
    obtain ⟨its, r, p, z⟩ := I.list h
    exact ⟨its, r, p.isList, z⟩
theorem seqK_inj (I : Inv X pins σ H s) (h : SqK t X.K H a xs) (h' : SqK t X.K H a ys) : xs = ys := by
  cases t with
  | true => exact I.tuple_inj h h'
  | false => exact I.list_inj h h'
theorem seqS_lt {h : Heap} {its : Array Value} (x : seqS t h a its) : a < h.objs.size := by
  cases t with
  | true =>
    obtain ⟨o, e, _⟩ := x
    exact Heap.lt_size e
  | false =>
    obtain ⟨o, e, _⟩ := x
    exact Heap.lt_size e
end

theorem seqS_ne {t : Bool} {h : Heap} {a b : Addr} {its : Array Value} {n : String} (p : seqS t h a its) (q : ∃ o, h.get? b = some o ∧ o.cls = .type n) (h1 : n ≠ "list") (h2 : n ≠ "tuple") : a ≠ b := by
  rintro rfl
  obtain ⟨o, e, c⟩ := q
  cases t with
  | true =>
    obtain ⟨o', e', c', _⟩ := p
    rw [e] at e'
    cases e'
    rw [c] at c'
    exact h2 (Value.type.inj c')
  | false =>
    obtain ⟨o', e', c', _⟩ := p
    rw [e] at e'
    cases e'
    rw [c] at c'
    exact h1 (Value.type.inj c')
def itName (t : Bool) : String := match t with
  | true => "tuple_iterator"
  | false => "list_iterator"
theorem itS_cls {t : Bool} {h : Heap} {it l : Addr} {i : Nat} (x : itS t h it l i) : ∃ o, h.get? it = some o ∧ o.cls = .type (itName t) := by
  cases t with
  | true =>
    obtain ⟨o, h1, h2, _⟩ := x
    exact ⟨o, h1, h2⟩
  | false =>
    obtain ⟨o, h1, h2, _⟩ := x
    exact ⟨o, h1, h2⟩
theorem itName_l (t : Bool) : itName t ≠ "list" := by cases t <;> decide
theorem itName_t (t : Bool) : itName t ≠ "tuple" := by cases t <;> decide

/-! ### enumerate -/
def ItE (K : PySem.W.Frag) (t : Bool) (a : Addr) : It :=
  ⟨fun i H => ∃ xs x, SqK t K H a xs ∧ xs[i]? = some x,
    fun i H v H' => ∃ T x, v = .ref T ∧ H T = none ∧ H' = upd H T (.tup [.int (i : Nat), x]) ∧ ∀ xs, SqK t K H a xs → xs[i]? = some x,
    fun i H => ∃ xs, SqK t K H a xs ∧ xs.length = i⟩
theorem turn_E {P : Program} {w : World} {K : PySem.W.Frag} {elts : List Expr} {kk : Nat} {tpos : Pos} (t : Bool) (a e it : Addr) :
    Turn P w K (.Tuple elts kk tpos) (ItE K t a) [e, it] e (fun i h => (∃ old, IsEnum h e it ((i : Nat) : Int) old) ∧ itS t h it a i ∧ e ≠ it) where
  mem := by simp
  obj := fun i h st b hb => by
    obtain ⟨⟨old, he⟩, hi, _⟩ := st
    rcases (show b = e ∨ b = it by simpa using hb) with z | z
    · rw [z]; exact ⟨_, he, fun v q => nomatch q⟩
    · rw [z]; exact itS_obj hi
  keep := fun i h h' st k => let ⟨⟨old, he⟩, hi, hne⟩ := st; ⟨⟨old, k e (by simp) _ he⟩, itS_at hi (k it (by simp)), hne⟩
  item := by
    intro X hP hw hK hc i pins s σ H E I hf st hg
    subst hP hw hK
    obtain ⟨⟨old, he⟩, hit, hne⟩ := st
    obtain ⟨xs, x, hq, hx⟩ := hg
    obtain ⟨its, rv, p, hz⟩ := seqK I hq
    obtain ⟨u, hu, ru⟩ := rv.get hx
    have el : e < s.heap.objs.size := Heap.lt_size he
    obtain ⟨oi, ei, _⟩ := itS_obj hit
    have il : it < s.heap.objs.size := Heap.lt_size ei
    have fe := hf e (by simp)
    have fi := hf it (by simp)
    have ha : a ≠ it ∧ a ≠ e := ⟨seqS_ne p (itS_cls hit) (itName_l t) (itName_t t), seqS_ne p ⟨_, he, rfl⟩ (by decide) (by decide)⟩
    have hil : i < its.toArray.size := by
      rw [List.size_toArray]
      exact (List.getElem?_eq_some_iff.mp hu).1
    refine wpAny_pyNext_enum_itemD (drawsK t (A := X.A.in1) (I.ok.hd hc) it a ha.1 its.toArray) he ⟨hit, p⟩ hil hne (by simp [hne, Ne.symm ha.2]) fun x' h' tk' hx' ho st' hT hsz hk => ?_
    have ex : x' = u := by
      have q : its.toArray[i]? = some x' := hx'
      rw [show its.toArray[i]? = its[i]? by simp, hu] at q
      exact (Option.some.inj q).symm
    rw [ex] at ho hT
    refine ⟨_, rfl, wpAny_letOwnedTupleGo_enum (s := { s with heap := h', toks := tk' + 1 }) ho fun h2 he2 sb => ?_⟩
    have hT2 : h2.get? s.heap.objs.size = some { cls := .type "tuple", data := .seq #[.int i tk', u] } := (sb.2 _ (Nat.ne_of_gt el)).trans hT
    have new : ObjOk X.prog X.w (upd H s.heap.objs.size (.tup [.int (i : Nat), x])) h2 s.heap.objs.size (.tup [.int (i : Nat), x]) :=
      ⟨by show 2 ≤ sizeLine; decide, [.int i tk', u], .cons ⟨_, rfl⟩ (.cons ru .nil), ⟨_, hT2, rfl, _, rfl⟩⟩
    have I1 : Inv X pins σ (upd H s.heap.objs.size (.tup [.int (i : Nat), x])) { s with heap := h2, toks := tk' + 1 } :=
      I.turnedNew (ch := [e, it]) (fun b ob hb q => (sb.2 b (fun z => hb (by simp [z]))).trans (hk b ob (fun z => hb (by simp [z])) (fun z => hb (by simp [z])) q)) hf (Nat.le_refl _) new
    refine ⟨.ref s.heap.objs.size, _, I1, rfl, ⟨_, x, rfl, I.hok.fresh (Nat.le_refl _), rfl, fun ys hy => by rw [seqK_inj I hy hq]; exact hx⟩, ⟨⟨u, ?_⟩, itS_at st'.1 fun o q => (sb.2 it (Ne.symm hne)).trans q, hne⟩, fun b hb => ?_⟩
    · rw [show ((i + 1 : Nat) : Int) = (i : Int) + 1 by omega]
      exact he2
    · have hb' : b < s.heap.objs.size := by
        rcases (show b = e ∨ b = it by simpa using hb) with z | z
        · rw [z]; exact el
        · rw [z]; exact il
      rw [upd_ne (Nat.ne_of_lt hb')]
      exact (hf b hb).1
  done := by
    intro X hP hw hK hc i pins s σ H E I hf st hg
    subst hP hw hK
    obtain ⟨⟨old, he⟩, hit, hne⟩ := st
    obtain ⟨xs, hq, hx⟩ := hg
    obtain ⟨its, rv, p, hz⟩ := seqK I hq
    obtain ⟨f0, f1, f2, f3, f4, f5⟩ := hf it (by simp)
    have hl := rv.length
    have hn : its.toArray.size = i := by rw [List.size_toArray]; omega
    have ha : a ≠ it := seqS_ne p (itS_cls hit) (itName_l t) (itName_t t)
    exact wpAny_pyNext_enum_endD (drawsK t (A := X.A.in1) (I.ok.hd hc) it a ha its.toArray) he (by rw [hn]; exact ⟨hit, p⟩) fun h' eb => ⟨rfl, I.turned (t' := s.toks) (fun b o hb q => eb b o hb q) f0 f1 f3 f4 f5⟩
  self := fun A i s Q E st h => let ⟨⟨_, he⟩, _⟩ := st; wpAny_pyIter_enum he h

theorem meets_enum1 {v : Value} {o : Obj} {G : Heap → Prop} (B : Begins v o G) :
    Meets (Builtin.«enumerate.__new__» ⟨[.type "enumerate", v], []⟩) (fun _ R s => G s.heap ∧
      R (.ok (.ret (.ref (s.heap.push o).objs.size))) { s with heap := (s.heap.push o).push { cls := .type "enumerate", data := .fields #[.none, .bool false, .ref s.heap.objs.size, rawInt 0, .none, .none] } }) :=
  .of_wp fun prog w A R s h => by
    obtain ⟨hp, ge, dr, tk, os⟩ := s
    obtain ⟨h1, h⟩ := h
    have hsub := sub_enumerate
    have q1 : ∀ {A' : Around} {E : Value → Shared → Prop} {Q : Value → Shared → Prop}, Q (.ref hp.objs.size) ⟨hp.push o, ge, dr, tk, os⟩ → wpAny (model prog w) A' (pyIter v) Q E ⟨hp, ge, dr, tk, os⟩ :=
      fun q => B.iter prog w _ _ ⟨hp, ge, dr, tk, os⟩ _ h1 q
    wp_walk
    refine wpAny_stack_any fun st => wpAny_pure ?_
    split
    · rename_i c _ _ _ _ _
      cases (c == Value.type "enumerate")
      · wp_walk using q1
        exact ⟨_, rfl, h⟩
      · wp_walk using q1
        exact ⟨_, rfl, h⟩
    · wp_walk using q1
      exact ⟨_, rfl, h⟩
theorem call_enum1 {prog : Program} {w : World} {A : Around} {E : Value → Shared → Prop} {s : Shared} {v : Value} {o : Obj} {G : Heap → Prop} {Q : Value → Shared → Prop} (B : Begins v o G) (h1 : G s.heap)
    (h : ∀ h', IsEnum h' (s.heap.objs.size + 1) s.heap.objs.size 0 .none → h'.get? s.heap.objs.size = some o → (∀ b u, s.heap.get? b = some u → h'.get? b = some u) → Q (.ref (s.heap.objs.size + 1)) { s with heap := h' }) :
    wpAny (model prog w) A (call (.type "enumerate") [v]) Q E s := by
  refine callType_new F.called_enumerate (by decide) (F.typeCall_enumerate_1 _) (F.newCall_enumerate_1 _) (fun obj => F.args_object_init_2 obj _) F.entry_enumerate_new (meets_enum1 B) ⟨h1, ?_⟩
  have hz : (s.heap.push o).objs.size = s.heap.objs.size + 1 := Heap.size_push ..
  show _ ∧ _
  rw [hz]
  have he := Heap.get?_push_size (s.heap.push o) (o := { cls := .type "enumerate", data := .fields #[.none, .bool false, .ref s.heap.objs.size, rawInt 0, .none, .none] }) rfl
  rw [hz] at he
  exact ⟨⟨_, he, rfl⟩, h _ he (Heap.get?_push_of_some _ (Heap.get?_push_size _ B.free)) fun b u x => Heap.get?_push_of_some _ (Heap.get?_push_of_some _ x)⟩
def iE (K : PySem.W.Frag) (te : TE) : TI := fun σ H R => te σ H fun v H1 => ∃ t a xs, v = .ref a ∧ SqK t K H1 a xs ∧ R (ItE K t a) H1
theorem pi_E {X : Cx} {e : Expr} {te : TE} {p pos tpos : Pos} {elts : List Expr} {kk : Nat} (hg : Gl X "enumerate") (hm : X.mg "enumerate" = none) (ha : PE X e te) (hs : starEach [e] X.env = [(false, eval e X.env)]) :
    PI X (.Tuple elts kk tpos) (.Call (.Name "enumerate" p) [e] [] pos) (iE X.K te) := by
  refine ⟨fun pins s σ H R I h => ?_⟩
  have pa : PA X [e] (tCons te tNil) := pa_cons ha pa_nil (by rw [hs]; rfl)
  refine Call_ (ld_blt I hg hm boot_enumerate (PyProof.Rows.callWith_type1 (thn (pa.run pos pins s σ H (fun vs H1 => ∃ t a xs, vs = [.ref a] ∧ SqK t X.K H1 a xs ∧ R (ItE X.K t a) H1) I ?_) fun us s1 hh => ?_) hs rfl))
  · show te σ H fun x H1 => ∃ t a xs, [x] = [V.ref a] ∧ SqK t X.K H1 a xs ∧ R (ItE X.K t a) H1
    have e0 : (fun (x : V) (H1 : Hp) => ∃ t a xs, [x] = [V.ref a] ∧ SqK t X.K H1 a xs ∧ R (ItE X.K t a) H1) = fun v H1 => ∃ t a xs, v = .ref a ∧ SqK t X.K H1 a xs ∧ R (ItE X.K t a) H1 := by
      funext x H1
      simp
    rw [e0]
    exact h
  · obtain ⟨vs, H1, I1, r1, t, a, xs, ex, hq, q⟩ := hh
    subst ex
    cases r1 with
    | cons r rr =>
      cases rr
      cases r
      obtain ⟨its, rv, p', hz⟩ := seqK I1 hq
      refine call_enum1 (beginsK t a its.toArray) p' fun h' he hit hk => wpAny_pyIter_enum he ?_
      have I2 : Inv X pins σ H1 { s1 with heap := h' } := I1.kept (t' := s1.toks) hk
      refine ⟨s1.heap.objs.size + 1, [s1.heap.objs.size + 1, s1.heap.objs.size], _, _, H1, rfl, I2, turn_E t a (s1.heap.objs.size + 1) s1.heap.objs.size, ⟨⟨.none, he⟩, itS_new hit, Nat.succ_ne_self _⟩, fun b hb => ?_, q⟩
      have hle : s1.heap.objs.size ≤ b := by
        rcases (show b = s1.heap.objs.size + 1 ∨ b = s1.heap.objs.size by simpa using hb) with z | z
        · rw [z]; exact Nat.le_add_right _ _
        · rw [z]; exact Nat.le_refl _
      exact I1.fpOk hle (I1.hok.fresh hle)

/-! ### zip -/
theorem zaN (n : Nat) : [n + 4, n + 2, n + 3, n, n + 1].Nodup := by simp <;> omega
theorem ltN {a n : Nat} (h : a < n) : a ≠ n + 3 := by omega
theorem leN {n : Nat} (c : Nat) (h : c ∈ [n + 4, n + 2, n + 3, n, n + 1]) : n ≤ c := by
  simp at h
  omega
def ItZ (K : PySem.W.Frag) (t u : Bool) (a b : Addr) : It :=
  ⟨fun i H => ∃ xs ys x y, SqK t K H a xs ∧ SqK u K H b ys ∧ xs[i]? = some x ∧ ys[i]? = some y,
    fun i H v H' => ∃ T x y, v = .ref T ∧ H T = none ∧ H' = upd H T (.tup [x, y]) ∧ (∀ xs, SqK t K H a xs → xs[i]? = some x) ∧ ∀ ys, SqK u K H b ys → ys[i]? = some y,
    fun i H => ∃ xs ys, SqK t K H a xs ∧ SqK u K H b ys ∧ i ≤ xs.length ∧ i ≤ ys.length ∧ (i = xs.length ∨ i = ys.length)⟩
/-- the cells of a zip, apart -/
structure ZA (z TI TO i1 i2 : Addr) : Prop where
  nd : [z, TI, TO, i1, i2].Nodup
theorem ZA.sep {z TI TO i1 i2 a b : Addr} (Z : ZA z TI TO i1 i2) (ha : a ∉ [z, TO, i2]) (hb : b ∉ [z, TO, i1]) : ZipSep2 z TI TO i1 i2 [i1, a] [i2, b] := by
  have nd := Z.nd
  simp only [List.nodup_cons, List.mem_cons, List.not_mem_nil, or_false, not_or, not_false_eq_true, List.nodup_nil, and_true] at nd ha hb
  obtain ⟨⟨z1, z2, z3, z4⟩, ⟨t1, t2, t3⟩, ⟨o1, o2⟩, i12⟩ := nd
  obtain ⟨a1, a2, a3⟩ := ha
  obtain ⟨b1, b2, b3⟩ := hb
  refine ⟨Ne.symm z1, Ne.symm z2, t1, t2, by simp, ?_, ?_, t3, by simp, ?_, ?_, ?_, ?_⟩ <;> simp only [List.mem_cons, List.not_mem_nil, or_false, not_or] <;> refine ⟨?_, ?_⟩ <;> first | assumption | exact Ne.symm (by assumption)
theorem turn_Z {P : Program} {w : World} {K : PySem.W.Frag} {elts : List Expr} {kk : Nat} {tpos : Pos} {z TI TO i1 i2 : Addr} (t u : Bool) (a b : Addr) (Z : ZA z TI TO i1 i2) :
    Turn P w K (.Tuple elts kk tpos) (ItZ K t u a b) [z, TI, TO, i1, i2] z (fun i h => IsZip h z TI TO .none ∧ IsTupOf2 h TI (.ref i1) (.ref i2) ∧ (∃ x y, IsTupOf2 h TO x y) ∧ itS t h i1 a i ∧ itS u h i2 b i ∧ a ≠ TO ∧ b ≠ TO) where
  mem := by simp
  obj := fun i h st c hc => by
    obtain ⟨hz, hTI, ⟨x, y, hTO⟩, h1, h2, _⟩ := st
    rcases (show c = z ∨ c = TI ∨ c = TO ∨ c = i1 ∨ c = i2 by simpa using hc) with q | q | q | q | q
    · rw [q]; exact ⟨_, hz, fun v q => nomatch q⟩
    · rw [q]; exact ⟨_, hTI, fun v q => nomatch q⟩
    · rw [q]; exact ⟨_, hTO, fun v q => nomatch q⟩
    · rw [q]; exact itS_obj h1
    · rw [q]; exact itS_obj h2
  keep := fun i h h' st k => by
    obtain ⟨hz, hTI, ⟨x, y, hTO⟩, h1, h2, n⟩ := st
    exact ⟨k z (by simp) _ hz, k TI (by simp) _ hTI, ⟨x, y, k TO (by simp) _ hTO⟩, itS_at h1 (k i1 (by simp)), itS_at h2 (k i2 (by simp)), n⟩
  item := by
    intro X hP hw hK hc i pins s σ H E I hf st hg
    subst hP hw hK
    obtain ⟨hz, hTI, ⟨x0, y0, hTO⟩, h1, h2, nT1, nT2⟩ := st
    obtain ⟨xs, ys, x, y, hqx, hqy, hx, hy⟩ := hg
    obtain ⟨its, rv, p, _⟩ := seqK I hqx
    obtain ⟨its2, rv2, p2, _⟩ := seqK I hqy
    obtain ⟨u1, hu, ru⟩ := rv.get hx
    obtain ⟨u2, hu2, ru2⟩ := rv2.get hy
    have hzl : z < s.heap.objs.size := Heap.lt_size hz
    have na : a ∉ [z, TO, i2] := by
      simp only [List.mem_cons, List.not_mem_nil, or_false, not_or]
      exact ⟨seqS_ne p ⟨_, hz, rfl⟩ (by decide) (by decide), nT1, seqS_ne p (itS_cls h2) (itName_l u) (itName_t u)⟩
    have nb : b ∉ [z, TO, i1] := by
      simp only [List.mem_cons, List.not_mem_nil, or_false, not_or]
      exact ⟨seqS_ne p2 ⟨_, hz, rfl⟩ (by decide) (by decide), nT2, seqS_ne p2 (itS_cls h1) (itName_l t) (itName_t t)⟩
    have S := Z.sep na nb
    have l1 : i < its.toArray.size := by
      rw [List.size_toArray]
      exact (List.getElem?_eq_some_iff.mp hu).1
    have l2 : i < its2.toArray.size := by
      rw [List.size_toArray]
      exact (List.getElem?_eq_some_iff.mp hu2).1
    refine wpAny_pyNext_zipD2_item S (drawsK t (A := X.A.in1) (I.ok.hd hc) i1 a (seqS_ne p (itS_cls h1) (itName_l t) (itName_t t)) its.toArray)
      (drawsK u (A := X.A.in1) (I.ok.hd hc) i2 b (seqS_ne p2 (itS_cls h2) (itName_l u) (itName_t u)) its2.toArray) hz hTI hTO ⟨h1, p⟩ ⟨h2, p2⟩ l1 l2 fun x1 x2 h' tk hx1 hx2 z' TO' st1 st2 hT hsz hk => ?_
    have e1 : x1 = u1 := by
      have q : its.toArray[i]? = some x1 := hx1
      rw [show its.toArray[i]? = its[i]? by simp, hu] at q
      exact (Option.some.inj q).symm
    have e2 : x2 = u2 := by
      have q : its2.toArray[i]? = some x2 := hx2
      rw [show its2.toArray[i]? = its2[i]? by simp, hu2] at q
      exact (Option.some.inj q).symm
    rw [e1, e2] at hT
    refine ⟨_, rfl, wpAny_letOwnedTupleGo_zip (s := { s with heap := h', toks := tk }) z' fun h3 z3 sb => ?_⟩
    have hT2 : h3.get? s.heap.objs.size = some { cls := .type "tuple", data := .seq #[u1, u2] } := (sb.2 _ (Nat.ne_of_gt hzl)).trans hT
    have new : ObjOk X.prog X.w (upd H s.heap.objs.size (.tup [x, y])) h3 s.heap.objs.size (.tup [x, y]) :=
      ⟨by show 2 ≤ sizeLine; decide, [u1, u2], .cons ru (.cons ru2 .nil), ⟨_, hT2, rfl, _, rfl⟩⟩
    have kk' : ∀ c o, c ∉ [z, TI, TO, i1, i2] → s.heap.get? c = some o → h3.get? c = some o := fun c o hb q => (sb.2 c fun q' => hb (by simp [q'])).trans (hk c o (fun q' => hb (by simp [q'])) (fun q' => hb (by simp [q'])) (fun q' => hb (by simp [q'])) (fun q' => hb (by simp [q'])) q)
    have I1 : Inv X pins σ (upd H s.heap.objs.size (.tup [x, y])) { s with heap := h3, toks := tk } := I.turnedNew (ch := [z, TI, TO, i1, i2]) kk' hf (Nat.le_refl _) new
    refine ⟨.ref s.heap.objs.size, _, I1, rfl, ⟨_, x, y, rfl, I.hok.fresh (Nat.le_refl _), rfl, fun l hl => by rw [seqK_inj I hl hqx]; exact hx, fun l hl => by rw [seqK_inj I hl hqy]; exact hy⟩, ⟨z3, ?_, ⟨x1, x2, ?_⟩, ?_, ?_, nT1, nT2⟩, fun c hcm => ?_⟩
    · exact (sb.2 _ S.TIz).trans (hk _ _ S.TIz S.TITO S.TIi1 S.TIi2 hTI)
    · exact (sb.2 _ S.TOz).trans TO'
    · exact itS_at st1.1 fun o q => (sb.2 _ (Ne.symm S.zi1)).trans q
    · exact itS_at st2.1 fun o q => (sb.2 _ (Ne.symm S.zi2)).trans q
    · have hlt : c < s.heap.objs.size := by
        rcases (show c = z ∨ c = TI ∨ c = TO ∨ c = i1 ∨ c = i2 by simpa using hcm) with q | q | q | q | q
        · rw [q]; exact hzl
        · rw [q]; exact Heap.lt_size hTI
        · rw [q]; exact Heap.lt_size hTO
        · rw [q]; obtain ⟨_, w1, _⟩ := itS_obj h1; exact Heap.lt_size w1
        · rw [q]; obtain ⟨_, w2, _⟩ := itS_obj h2; exact Heap.lt_size w2
      rw [upd_ne (Nat.ne_of_lt hlt)]
      exact (hf c hcm).1
  done := by
    intro X hP hw hK hc i pins s σ H E I hf st hg
    subst hP hw hK
    obtain ⟨hz, hTI, ⟨x0, y0, hTO⟩, h1, h2, nT1, nT2⟩ := st
    obtain ⟨xs, ys, hqx, hqy, hl1, hl2, hend⟩ := hg
    obtain ⟨its, rv, p, _⟩ := seqK I hqx
    obtain ⟨its2, rv2, p2, _⟩ := seqK I hqy
    have e1 : its.toArray.size = xs.length := by rw [List.size_toArray]; exact rv.length.symm
    have e2 : its2.toArray.size = ys.length := by rw [List.size_toArray]; exact rv2.length.symm
    have na : a ∉ [z, TO, i2] := by
      simp only [List.mem_cons, List.not_mem_nil, or_false, not_or]
      exact ⟨seqS_ne p ⟨_, hz, rfl⟩ (by decide) (by decide), nT1, seqS_ne p (itS_cls h2) (itName_l u) (itName_t u)⟩
    have nb : b ∉ [z, TO, i1] := by
      simp only [List.mem_cons, List.not_mem_nil, or_false, not_or]
      exact ⟨seqS_ne p2 ⟨_, hz, rfl⟩ (by decide) (by decide), nT2, seqS_ne p2 (itS_cls h1) (itName_l t) (itName_t t)⟩
    have S := Z.sep na nb
    refine wpAny_pyNext_zipD2_end S (drawsK t (A := X.A.in1) (I.ok.hd hc) i1 a (seqS_ne p (itS_cls h1) (itName_l t) (itName_t t)) its.toArray)
      (drawsK u (A := X.A.in1) (I.ok.hd hc) i2 b (seqS_ne p2 (itS_cls h2) (itName_l u) (itName_t u)) its2.toArray) hz hTI hTO ⟨h1, p⟩ ⟨h2, p2⟩ (by omega) (by omega) (by omega) fun h' tk hk => ?_
    exact ⟨rfl, I.turnedL (t' := tk) (ch := [z, TI, TO, i1, i2]) (fun c o hb q => hk c o (fun q' => hb (by simp [q'])) (fun q' => hb (by simp [q'])) (fun q' => hb (by simp [q'])) (fun q' => hb (by simp [q'])) q) hf⟩
  self := fun A i s Q E st h => wpAny_pyIter_zip st.1 h
def iZ (K : PySem.W.Frag) (ta tb : TE) : TI := fun σ H R => ta σ H fun v H1 => tb σ H1 fun w H2 => ∃ t u a b xs ys, v = .ref a ∧ w = .ref b ∧ SqK t K H2 a xs ∧ SqK u K H2 b ys ∧ R (ItZ K t u a b) H2
theorem pi_Z {X : Cx} {e e2 : Expr} {ta tb : TE} {p pos tpos : Pos} {elts : List Expr} {kk : Nat} (hg : Gl X "zip") (hm : X.mg "zip" = none) (ha : PE X e ta) (hb : PE X e2 tb) (hs : starEach [e, e2] X.env = [(false, eval e X.env), (false, eval e2 X.env)]) (hs2 : starEach [e2] X.env = [(false, eval e2 X.env)]) :
    PI X (.Tuple elts kk tpos) (.Call (.Name "zip" p) [e, e2] [] pos) (iZ X.K ta tb) := by
  refine ⟨fun pins s σ H R I h => ?_⟩
  have pa : PA X [e, e2] (tCons ta (tCons tb tNil)) := pa_cons ha (pa_cons hb pa_nil (by rw [hs2]; rfl)) (by rw [hs, hs2])
  refine Call_ (ld_blt I hg hm boot_zip (PyProof.Rows.callWith_type1 (thn (pa.run pos pins s σ H (fun vs H2 => ∃ t u a b xs ys, vs = [.ref a, .ref b] ∧ SqK t X.K H2 a xs ∧ SqK u X.K H2 b ys ∧ R (ItZ X.K t u a b) H2) I ?_) fun us s1 hh => ?_) (by rw [hs, hs2]) (by rw [hs2]; rfl)))
  · show ta σ H fun x H1 => tb σ H1 fun y H2 => ∃ t u a b xs ys, [x, y] = [V.ref a, V.ref b] ∧ SqK t X.K H2 a xs ∧ SqK u X.K H2 b ys ∧ R (ItZ X.K t u a b) H2
    have e0 : ∀ x : V, (fun (y : V) (H2 : Hp) => ∃ t u a b xs ys, [x, y] = [V.ref a, V.ref b] ∧ SqK t X.K H2 a xs ∧ SqK u X.K H2 b ys ∧ R (ItZ X.K t u a b) H2) = fun w H2 => ∃ t u a b xs ys, x = .ref a ∧ w = .ref b ∧ SqK t X.K H2 a xs ∧ SqK u X.K H2 b ys ∧ R (ItZ X.K t u a b) H2 := by
      intro x
      funext y H2
      simp [and_assoc]
    simp only [e0]
    exact h
  · obtain ⟨vs, H1, I1, r1, t, u, a, b, xs, ys, ex, hqx, hqy, q⟩ := hh
    subst ex
    obtain ⟨v1, v2, e1, r2, r3⟩ := Vals.two r1
    subst e1
    cases r2
    cases r3
    obtain ⟨its, rv, p1, _⟩ := seqK I1 hqx
    obtain ⟨its2, rv2, p2, _⟩ := seqK I1 hqy
    refine zip_begins2 (beginsK t a its.toArray) (beginsK u b its2.toArray) p1 p2 fun h' hz hTI hTO h1 h2 hsz hk => wpAny_pyIter_zip hz ?_
    have I2 : Inv X pins σ H1 { s1 with heap := h' } := I1.kept (t' := s1.toks) hk
    have za : ZA (s1.heap.objs.size + 4) (s1.heap.objs.size + 2) (s1.heap.objs.size + 3) s1.heap.objs.size (s1.heap.objs.size + 1) := ⟨zaN _⟩
    refine ⟨s1.heap.objs.size + 4, [s1.heap.objs.size + 4, s1.heap.objs.size + 2, s1.heap.objs.size + 3, s1.heap.objs.size, s1.heap.objs.size + 1], _, _, H1, rfl, I2, turn_Z t u a b za, ⟨hz, hTI, ⟨_, _, hTO⟩, itS_new h1, itS_new h2, ltN (seqS_lt p1), ltN (seqS_lt p2)⟩, fun c hcm => ?_, q⟩
    have hle : s1.heap.objs.size ≤ c := leN c hcm
    exact I1.fpOk hle (I1.hok.fresh hle)
end Hc
end
section
set_option Elab.async false
set_option linter.all false
set_option maxRecDepth 100000
set_option autoImplicit false
/-! What operators and built-in functions make of values: the core language's answers, by the hand layer's rules. -/
namespace Hc
open PySem PySem.Spec PyProof.Rows L2

/-- the core language's surroundings are the context's -/
inductive CcX (X : Cx) : Cc → Prop
  | mk (lvl : Nat) (fa ca : Nat → Option Addr) : CcX X ⟨X.prog, X.w, X.K, X.mg, X.base, lvl, fa, ca⟩
/-- a value d comes, behind which Q holds -/
def Gives (C : Cc) (S : Store) (W : Wd) (H : Hp) (d : D) (Q : VK) : Prop := ∀ v H' W', Stp W H W' H' → SRel C W' S H' → Rep C W' v d → Q v H'
theorem Gives.here {C : Cc} {S : Store} {W : Wd} {H : Hp} {d : D} {Q : VK} (g : Gives C S W H d Q) (sr : SRel C W S H) {v : V} (r : Rep C W v d) : Q v H := g v H W (Stp.refl W H) sr r
theorem Gives.tup {C : Cc} {S : Store} {W : Wd} {H : Hp} {ds : List D} {Q : VK} (g : Gives C S W H (.tup ds) Q) (sr : SRel C W S H) {vs : List V} (r : Reps C W vs ds) (hz : ds.length ≤ 16777216) {p : Addr} (hp : H p = none) : Q (.ref p) (upd H p (.tup vs)) :=
  g _ _ _ (Stp.frz sr hp (.tup vs)) (sr.frz hp (.tup vs)) (.tup (SqT.of (show (W.frz p (.tup vs)).F p = _ from upd_same)) (r.up (Stp.frz sr hp (.tup vs)).le) hz)
theorem Gives.lst {C : Cc} {S : Store} {W : Wd} {H : Hp} {ds : List D} {Q : VK} (g : Gives C S W H (.lst ds) Q) (sr : SRel C W S H) {vs : List V} (r : Reps C W vs ds) (hz : ds.length ≤ 16777216) {p : Addr} (hp : H p = none) : Q (.ref p) (upd H p (.lst vs)) :=
  g _ _ _ (Stp.frz sr hp (.lst vs)) (sr.frz hp (.lst vs)) (.lst (show (W.frz p (.lst vs)).F p = _ from upd_same) (r.up (Stp.frz sr hp (.lst vs)).le) hz)
/-- the reading of a binary operator -/
def rOp (C : Cc) (o : Op2) : R2 := fun x y H Q => ∃ S W a b d, SRel C W S H ∧ Rep C W x a ∧ Rep C W y b ∧ op2 S o a b = some d ∧ Gives C S W H d Q
section
variable {X : Cx} {C : Cc}
theorem lenOk_nn {n : Nat} (h : lenOk n = true) : n ≤ 16777216 := of_decide_eq_true h
theorem app_len {α : Type} {xs ys : List α} (h : lenOk (xs.length + ys.length) = true) : (xs ++ ys).length ≤ 16777216 := by
  rw [List.length_append]
  exact of_decide_eq_true h
theorem lenOk_le {n : Nat} (h : lenOk n = true) : n ≤ sizeLine := by
  rw [sizeLine_eq]
  exact of_decide_eq_true h
theorem r_add (cx : CcX X C) : OpR X (binaryOp .Add) (rOp C .add) := by
  cases cx
  rintro pins s σ H x y v u Q I rx ry ⟨S, W, a, b, d, sr, ha, hb, e, q⟩
  have lists : ∀ xs ys, listOf S a = some xs → listOf S b = some ys → lenOk (xs.length + ys.length) = true → d = .lst (xs ++ ys) → wpAny (model X.prog X.w) X.A (binaryOp .Add v u) (EP X pins σ Q) X.xe s := by
    intro xs ys h1 h2 h3 h4
    obtain ⟨p, vs, rfl, hp, r1, _⟩ := listOf_rep sr ha h1
    obtain ⟨p2, us, rfl, hp2, r2, _⟩ := listOf_rep sr hb h2
    subst h4
    exact op_cat pins s σ H _ _ v u Q I rx ry ⟨p, p2, vs, us, rfl, rfl, hp, hp2, by rw [r1.length, r2.length]; exact lenOk_le h3, fun l hl => q.lst sr (r1.append r2) (app_len h3) hl⟩
  have viaL : (match listOf S a, listOf S b with
      | some xs, some ys => if lenOk (xs.length + ys.length) then some (D.lst (xs ++ ys)) else none
      | _, _ => none) = some d → wpAny (model X.prog X.w) X.A (binaryOp .Add v u) (EP X pins σ Q) X.xe s := by
    intro e
    split at e
    · rename_i xs ys h1 h2
      split at e
      · rename_i h3
        exact lists xs ys h1 h2 h3 (Option.some.inj e).symm
      · cases e
    · cases e
  cases a <;> cases b <;> first
    | exact viaL e
    | skip
  · cases ha
    cases hb
    cases (Option.some.inj e)
    cases rx
    obtain ⟨t, rfl⟩ := ry
    exact PySem.IntBool.add_bool_int ⟨.int _, H, I.tok _, ⟨_, rfl⟩, q.here sr (.int _)⟩
  · cases ha
    cases hb
    cases (Option.some.inj e)
    exact op_add pins s σ H _ _ v u Q I rx ry ⟨_, _, rfl, rfl, q.here sr (.int _)⟩
  · cases ha
    cases hb
    rename_i x1 x2
    have e' : (if lenOk (x1.length + x2.length) then some (D.str (x1 ++ x2)) else none) = some d := e
    split at e'
    · rename_i h3
      cases (Option.some.inj e')
      exact op_add_str pins s σ H _ _ v u Q I rx ry ⟨_, _, rfl, rfl, lenOk_le h3, q.here sr (.str _)⟩
    · cases e'
  · rename_i xs ys
    cases ha with
    | @tup p vs _ hs r1 z1 =>
      cases hb with
      | @tup p2 us _ hs2 r2 z2 =>
        have e' : (if lenOk (xs.length + ys.length) then some (D.tup (xs ++ ys)) else none) = some d := e
        split at e'
        · rename_i h3
          cases (Option.some.inj e')
          refine op_catA pins s σ H _ _ v u Q I rx ry ⟨p, p2, vs, us, rfl, rfl, sqT_up sr.sub hs, sqT_up sr.sub hs2, by rw [r1.length, r2.length]; exact lenOk_le h3, fun z => ?_, fun _ z => ?_, fun _ _ l hl => q.tup sr (r1.append r2) (app_len h3) hl⟩
          · subst z
            cases r1
            exact q.here sr (.tup hs2 r2 z2)
          · subst z
            cases r2
            rw [List.append_nil] at q
            exact q.here sr (.tup hs r1 z1)
        · cases e'
theorem r_sub (cx : CcX X C) : OpR X (binaryOp .Sub) (rOp C .sub) := by
  cases cx
  rintro pins s σ H x y v u Q I rx ry ⟨S, W, a, b, d, sr, ha, hb, e, q⟩
  cases a <;> cases b <;> first
    | (simp [op2] at e; done)
    | skip
  cases ha
  cases hb
  cases (Option.some.inj e)
  exact op_sub pins s σ H _ _ v u Q I rx ry ⟨_, _, rfl, rfl, q.here sr (.int _)⟩
theorem small64_of {i : Int} (h : small64 i = true) : -(2 ^ 64) < i ∧ i < 2 ^ 64 := by
  have h' : i.natAbs < 2 ^ 64 := of_decide_eq_true h
  omega
theorem flat_len {α : Type} {xs : List α} {j : Int} (h : j ≤ 1000) (h2 : xs.length ≤ 1000) : (List.replicate j.toNat xs).flatten.length ≤ 16777216 := by
  have h5 : j.toNat ≤ 1000 := by omega
  simp only [List.length_flatten, List.map_replicate, List.sum_replicate_nat]
  exact Nat.le_trans (Nat.mul_le_mul h5 h2) (by decide)
theorem r_mul (cx : CcX X C) : OpR X (binaryOp .Mult) (rOp C .mul) := by
  cases cx
  rintro pins s σ H x y v u Q I rx ry ⟨S, W, a, b, d, sr, ha, hb, e, q⟩
  cases a <;> cases b <;> first
    | (simp [op2] at e; done)
    | skip
  · cases ha
    cases hb
    rename_i i j
    have e' : (if mulOk i j then some (D.int (i * j)) else none) = some d := e
    split at e'
    · rename_i h
      cases (Option.some.inj e')
      unfold mulOk at h
      simp only [Bool.or_eq_true, decide_eq_true_eq] at h
      rcases h with (h | h) | h
      · exact op_mul pins s σ H _ _ v u Q I rx ry ⟨_, _, rfl, rfl, .inl (small64_of h), q.here sr (.int _)⟩
      · exact op_mul pins s σ H _ _ v u Q I rx ry ⟨_, _, rfl, rfl, .inr (small64_of h), q.here sr (.int _)⟩
      · exact op_mulW pins s σ H _ _ v u Q I rx ry ⟨_, _, rfl, rfl, h, q.here sr (.int _)⟩
    · cases e'
  · cases hb
    rename_i xs j
    have e' : (if 2 ≤ j ∧ j ≤ 1000 ∧ xs.length ≤ 1000 ∧ xs ≠ [] then some (D.tup (List.replicate j.toNat xs).flatten) else none) = some d := e
    split at e'
    · rename_i h
      obtain ⟨h1, h2, h3, h4⟩ := h
      cases (Option.some.inj e')
      cases ha with
      | @tup p vs _ hs r1 z1 =>
        refine op_repT pins s σ H _ _ v u Q I rx ry ⟨p, j, vs, rfl, rfl, sqT_up sr.sub hs, fun z => ?_, h1, h2, by rw [r1.length]; exact h3, fun l hl => q.tup sr (r1.flat j.toNat) (flat_len h2 h3) hl⟩
        subst z
        cases r1
        exact h4 rfl
    · cases e'
  · cases hb
    rename_i xs j
    have e' : (if 0 ≤ j ∧ j ≤ 1000 ∧ xs.length ≤ 1000 then some (D.lst (List.replicate j.toNat xs).flatten) else none) = some d := e
    split at e'
    · rename_i h
      obtain ⟨h1, h2, h3⟩ := h
      cases (Option.some.inj e')
      cases ha with
      | @lst p vs _ hs r1 z1 =>
        refine op_rep pins s σ H _ _ v u Q I rx ry ⟨p, j, vs, rfl, rfl, sr.sub _ _ hs, by omega, by omega, ?_, fun l hl => q.lst sr (r1.flat j.toNat) (flat_len h2 h3) hl⟩
        rw [r1.length, sizeLine_eq]
        have h5 : j.toNat ≤ 1000 := by omega
        exact Nat.le_trans (Nat.mul_le_mul h3 h5) (by decide)
    · cases e'
theorem r_fdiv (cx : CcX X C) : OpR X (binaryOp .FloorDiv) (rOp C .fdiv) := by
  cases cx
  rintro pins s σ H x y v u Q I rx ry ⟨S, W, a, b, d, sr, ha, hb, e, q⟩
  cases a <;> cases b <;> first
    | (simp [op2] at e; done)
    | skip
  cases ha
  cases hb
  rename_i i j
  have e' : (if divOk j then some (D.int (i.fdiv j)) else none) = some d := e
  split at e'
  · rename_i h
    cases (Option.some.inj e')
    unfold divOk at h
    simp only [Bool.or_eq_true, Bool.and_eq_true, decide_eq_true_eq] at h
    rcases h with h | h
    · exact op_fdivN pins s σ H _ _ v u Q I rx ry ⟨_, _, rfl, rfl, h, q.here sr (.int _)⟩
    · refine op_fdivW pins s σ H _ _ v u Q I rx ry ⟨_, _, rfl, rfl, h, ?_⟩
      show Q (.int (i / j)) H
      rw [← Int.fdiv_eq_ediv_of_nonneg i (show 0 ≤ j by omega)]
      exact q.here sr (.int _)
  · cases e'
theorem r_mod (cx : CcX X C) : OpR X (binaryOp .Mod) (rOp C .mod) := by
  cases cx
  rintro pins s σ H x y v u Q I rx ry ⟨S, W, a, b, d, sr, ha, hb, e, q⟩
  cases a <;> cases b <;> first
    | (simp [op2] at e; done)
    | skip
  cases ha
  cases hb
  rename_i i j
  have e' : (if j = 0 then none else some (D.int (i.fmod j))) = some d := e
  split at e'
  · cases e'
  · rename_i h
    cases (Option.some.inj e')
    exact op_modN pins s σ H _ _ v u Q I rx ry ⟨_, _, rfl, rfl, h, q.here sr (.int _)⟩
theorem r_pow (cx : CcX X C) : OpR X (binaryOp .Pow) (rOp C .pow) := by
  cases cx
  rintro pins s σ H x y v u Q I rx ry ⟨S, W, a, b, d, sr, ha, hb, e, q⟩
  cases a <;> cases b <;> first
    | (simp [op2] at e; done)
    | skip
  cases ha
  cases hb
  rename_i i j
  have e' : (if 0 ≤ j ∧ j ≤ 1000000 ∧ i.natAbs < 2 ^ 64 then some (D.int (i ^ j.toNat)) else none) = some d := e
  split at e'
  · rename_i h
    cases (Option.some.inj e')
    exact op_pow pins s σ H _ _ v u Q I rx ry ⟨_, _, rfl, rfl, h, q.here sr (.int _)⟩
  · cases e'
theorem eqD_of {S : Store} {a b : D} {c : Bool} (h : eqD S a b = some c) : ∃ p r, toPr S a = some p ∧ toPr S b = some r ∧ pDeep p < 60 ∧ pDeep r < 60 ∧ c = pEq p r := by
  unfold eqD at h
  split at h
  · rename_i p r h1 h2
    split at h
    · rename_i h3
      exact ⟨p, r, h1, h2, h3.1, h3.2, (Option.some.inj h).symm⟩
    · cases h
  · cases h
theorem map_some {α β : Type} {o : Option α} {f : α → β} {d : β} (h : o.map f = some d) : ∃ c, o = some c ∧ f c = d := Option.map_eq_some_iff.mp h
theorem r_eq (cx : CcX X C) (hu : X.A.units + 64 < cLine) : OpR X (compareOp .Eq) (rOp C .eq) := by
  cases cx
  rintro pins s σ H x y v u Q I rx ry ⟨S, W, a, b, d, sr, ha, hb, e, q⟩
  have e' : (eqD S a b).map D.bl = some d := by cases a <;> exact e
  obtain ⟨c, hc, rfl⟩ := map_some e'
  obtain ⟨p, r, h1, h2, h3, h4, rfl⟩ := eqD_of hc
  exact op_eqP hu pins s σ H x y v u Q I rx ry ⟨p, r, toPr_rep sr ha h1, toPr_rep sr hb h2, h3, h4, q.here sr (.bl _)⟩
theorem r_ne (cx : CcX X C) (hu : X.A.units + 64 < cLine) : OpR X (compareOp .NotEq) (rOp C .ne) := by
  cases cx
  rintro pins s σ H x y v u Q I rx ry ⟨S, W, a, b, d, sr, ha, hb, e, q⟩
  have e' : (eqD S a b).map (fun c => D.bl (!c)) = some d := by cases a <;> exact e
  obtain ⟨c, hc, rfl⟩ := map_some e'
  obtain ⟨p, r, h1, h2, h3, h4, rfl⟩ := eqD_of hc
  exact op_neP hu pins s σ H x y v u Q I rx ry ⟨p, r, toPr_rep sr ha h1, toPr_rep sr hb h2, h3, h4, q.here sr (.bl _)⟩
theorem lexB_eq : ∀ xs ys : List Int, HT.lexLt xs ys = lexB xs ys
  | [], [] => rfl
  | [], _ :: _ => rfl
  | _ :: _, [] => rfl
  | x :: xs, y :: ys => by
    show (if x = y then HT.lexLt xs ys else decide (x < y)) = (if x = y then lexB xs ys else decide (x < y))
    rw [lexB_eq xs ys]
theorem r_lt (cx : CcX X C) (hu : X.A.units < cLine) : OpR X (compareOp .Lt) (rOp C .lt) := by
  cases cx
  rintro pins s σ H x y v u Q I rx ry ⟨S, W, a, b, d, sr, ha, hb, e, q⟩
  cases a <;> cases b <;> first
    | (simp [op2] at e; done)
    | skip
  · cases ha
    cases hb
    cases (Option.some.inj e)
    exact op_lt pins s σ H _ _ v u Q I rx ry ⟨_, _, rfl, rfl, q.here sr (.bl _)⟩
  · rename_i xs ys
    cases ha with
    | @tup p vs _ hs r1 z1 =>
      cases hb with
      | @tup p2 us _ hs2 r2 z2 =>
        have e' : (match intsOf xs, intsOf ys with
          | some ns, some ms => some (D.bl (lexB ns ms))
          | _, _ => none) = some d := e
        split at e'
        · rename_i ns ms h1 h2
          cases (Option.some.inj e')
          have z1 := r1.ints h1
          have z2 := r2.ints h2
          subst z1 z2
          refine op_ltT hu pins s σ H _ _ v u Q I rx ry ⟨p, p2, ns, ms, rfl, rfl, sqT_up sr.sub hs, sqT_up sr.sub hs2, ?_⟩
          rw [lexB_eq]
          exact q.here sr (.bl _)
        · cases e'
theorem r_le (cx : CcX X C) : OpR X (compareOp .LtE) (rOp C .le) := by
  cases cx
  rintro pins s σ H x y v u Q I rx ry ⟨S, W, a, b, d, sr, ha, hb, e, q⟩
  cases a <;> cases b <;> first
    | (simp [op2] at e; done)
    | skip
  cases ha
  cases hb
  cases (Option.some.inj e)
  exact op_le pins s σ H _ _ v u Q I rx ry ⟨_, _, rfl, rfl, q.here sr (.bl _)⟩
theorem r_gt (cx : CcX X C) : OpR X (compareOp .Gt) (rOp C .gt) := by
  cases cx
  rintro pins s σ H x y v u Q I rx ry ⟨S, W, a, b, d, sr, ha, hb, e, q⟩
  cases a <;> cases b <;> first
    | (simp [op2] at e; done)
    | skip
  cases ha
  cases hb
  cases (Option.some.inj e)
  exact op_gt pins s σ H _ _ v u Q I rx ry ⟨_, _, rfl, rfl, q.here sr (.bl _)⟩
theorem r_ge (cx : CcX X C) : OpR X (compareOp .GtE) (rOp C .ge) := by
  cases cx
  rintro pins s σ H x y v u Q I rx ry ⟨S, W, a, b, d, sr, ha, hb, e, q⟩
  cases a <;> cases b <;> first
    | (simp [op2] at e; done)
    | skip
  cases ha
  cases hb
  cases (Option.some.inj e)
  exact op_ge pins s σ H _ _ v u Q I rx ry ⟨_, _, rfl, rfl, q.here sr (.bl _)⟩
theorem isD_of {W : Wd} {a b : D} {x y : V} {c : Bool} (ha : Rep C W x a) (hb : Rep C W y b) (h : isD a b = some c) :
    (y = .non ∧ c = decide (x = .non)) ∨ (∃ b, y = .bl b ∧ x = .non ∧ c = false) ∨ ∃ a b, x = .bl a ∧ y = .bl b ∧ c = (a == b) := by
  cases ha <;> cases hb <;> first
    | (simp [isD] at h; done)
    | (cases (Option.some.inj h); exact .inl ⟨rfl, rfl⟩)
    | (cases (Option.some.inj h); exact .inr (.inl ⟨_, rfl, rfl, rfl⟩))
    | (cases (Option.some.inj h); exact .inr (.inr ⟨_, _, rfl, rfl, rfl⟩))
theorem r_is (cx : CcX X C) : OpR X (compareOp .Is) (rOp C .iss) := by
  cases cx
  rintro pins s σ H x y v u Q I rx ry ⟨S, W, a, b, d, sr, ha, hb, e, q⟩
  have e' : (isD a b).map D.bl = some d := by cases a <;> exact e
  obtain ⟨c, hc, rfl⟩ := map_some e'
  exact op_isN2 pins s σ H x y v u Q I rx ry ⟨c, isD_of ha hb hc, q.here sr (.bl _)⟩
theorem r_isn (cx : CcX X C) : OpR X (compareOp .IsNot) (rOp C .isn) := by
  cases cx
  rintro pins s σ H x y v u Q I rx ry ⟨S, W, a, b, d, sr, ha, hb, e, q⟩
  have e' : (isD a b).map (fun c => D.bl (!c)) = some d := by cases a <;> exact e
  obtain ⟨c, hc, rfl⟩ := map_some e'
  exact op_notN2 pins s σ H x y v u Q I rx ry ⟨c, isD_of ha hb hc, q.here sr (.bl _)⟩
theorem memD_of {S : Store} {a b : D} {c : Bool} (h : memD S a b = some c) : ∃ p qs, toPr S a = some p ∧ (toPr S b = some (.tuple qs) ∨ toPr S b = some (.list qs)) ∧ pDeep p < 60 ∧ pDeeps qs < 59 ∧ c = qs.any fun q => pEq q p := by
  unfold memD at h
  split at h
  · rename_i p qs h1 h2
    split at h
    · rename_i h3
      exact ⟨p, qs, h1, .inr h2, h3.1, h3.2, (Option.some.inj h).symm⟩
    · cases h
  · rename_i p qs h1 h2
    split at h
    · rename_i h3
      exact ⟨p, qs, h1, .inl h2, h3.1, h3.2, (Option.some.inj h).symm⟩
    · cases h
  · cases h
theorem r_mem (cx : CcX X C) (hu : X.A.units + 65 < cLine) : OpR X (compareOp .In) (rOp C .mem) := by
  cases cx
  rintro pins s σ H x y v u Q I rx ry ⟨S, W, a, b, d, sr, ha, hb, e, q⟩
  have e' : (memD S a b).map D.bl = some d := by cases a <;> exact e
  obtain ⟨c, hc, rfl⟩ := map_some e'
  obtain ⟨p, qs, h1, h2, h3, h4, rfl⟩ := memD_of hc
  exact op_memA hu pins s σ H x y v u Q I rx ry ⟨p, qs, toPr_rep sr ha h1, h2.imp (toPr_rep sr hb) (toPr_rep sr hb), h3, h4, q.here sr (.bl _)⟩
theorem r_nmem (cx : CcX X C) (hu : X.A.units + 65 < cLine) : OpR X (compareOp .NotIn) (rOp C .nmem) := by
  cases cx
  rintro pins s σ H x y v u Q I rx ry ⟨S, W, a, b, d, sr, ha, hb, e, q⟩
  have e' : (memD S a b).map (fun c => D.bl (!c)) = some d := by cases a <;> exact e
  obtain ⟨c, hc, rfl⟩ := map_some e'
  obtain ⟨p, qs, h1, h2, h3, h4, rfl⟩ := memD_of hc
  exact op_nmemA hu pins s σ H x y v u Q I rx ry ⟨p, qs, toPr_rep sr ha h1, h2.imp (toPr_rep sr hb) (toPr_rep sr hb), h3, h4, q.here sr (.bl _)⟩
end
end Hc
end
section
set_option Elab.async false
set_option linter.all false
set_option maxRecDepth 100000
set_option autoImplicit false
/-! Built-in functions, subscripts, slices, methods by values. -/
namespace Hc
open PySem PySem.Spec PyProof.Rows L2

def rBi (C : Cc) (b : Bi) : List V → Hp → VK → Prop := fun xs H Q => ∃ S W ds d, SRel C W S H ∧ Reps C W xs ds ∧ biD S b ds = some d ∧ Gives C S W H d Q
section
variable {X : Cx} {C : Cc}
theorem Reps.one {W : Wd} {xs : List V} {d : D} (r : Reps C W xs [d]) : ∃ x, xs = [x] ∧ Rep C W x d := by
  cases r with
  | cons a t =>
    cases t
    exact ⟨_, rfl, a⟩
theorem Reps.two {W : Wd} {xs : List V} {d e : D} (r : Reps C W xs [d, e]) : ∃ x y, xs = [x, y] ∧ Rep C W x d ∧ Rep C W y e := by
  cases r with
  | cons a t =>
    obtain ⟨y, rfl, b⟩ := Reps.one t
    exact ⟨_, _, rfl, a, b⟩
theorem b_len (cx : CcX X C) : CallR X (.builtin "len") (rBi C .len) := by
  cases cx
  rintro pins s σ H xs us Q I rx ⟨S, W, ds, d, sr, hr, e, q⟩
  match ds, e, hr with
  | [a], e, hr =>
    obtain ⟨x, rfl, ra⟩ := hr.one
    obtain ⟨n, hn, rfl⟩ := map_some (show (lenD S a).map (fun (n : Nat) => D.int (n : Int)) = some d from e)
    have seq : ∀ ys, itemsOf S a = some ys → n = ys.length → wpAny (model X.prog X.w) X.A (call (.builtin "len") us) (EP X pins σ Q) X.xe s := by
      intro ys h1 h2
      obtain ⟨p, vs, rfl, hk, r1, hz⟩ := itemsOf_rep sr ra h1
      refine call_len_seq pins s σ H _ us Q I rx ⟨p, vs, rfl, ?_, ?_⟩
      · rcases hk with ⟨hk, _⟩ | ⟨hk, _⟩
        · exact .inl (SqL.of hk)
        · exact .inr hk
      · rw [r1.length, ← h2]
        exact q.here sr (.int _)
    have viaI : (itemsOf S a).map List.length = some n → wpAny (model X.prog X.w) X.A (call (.builtin "len") us) (EP X pins σ Q) X.xe s := by
      intro h
      obtain ⟨ys, h1, h2⟩ := map_some h
      exact seq ys h1 h2.symm
    cases a <;> first
      | exact viaI hn
      | skip
    · rename_i z
      cases ra
      have h' : (if lenOk z.length then some z.length else none) = some n := hn
      split at h'
      · rename_i h3
        cases (Option.some.inj h')
        exact call_len_str pins s σ H _ us Q I rx ⟨z, rfl, lenOk_le h3, q.here sr (.int _)⟩
      · cases h'
    · rename_i ns
      cases ra with
      | @scr p _ hs =>
        cases (Option.some.inj (show some ns.length = some n from hn))
        refine call_len_seq pins s σ H _ us Q I rx ⟨p, ns.map V.int, rfl, .inl (sqL_up sr.sub hs), ?_⟩
        rw [List.length_map]
        exact q.here sr (.int _)
  | [], e, _ => cases e
  | _ :: _ :: _, e, _ => cases e
theorem b_int (cx : CcX X C) : CallR X (.type "int") (rBi C .int) := by
  cases cx
  rintro pins s σ H xs us Q I rx ⟨S, W, ds, d, sr, hr, e, q⟩
  match ds, e, hr with
  | [.int i], e, hr =>
    obtain ⟨x, rfl, ra⟩ := hr.one
    cases ra
    cases (Option.some.inj e)
    exact call_int1 pins s σ H _ us Q I rx (.inl ⟨i, rfl, q.here sr (.int _)⟩)
  | [.bl b], e, hr =>
    obtain ⟨x, rfl, ra⟩ := hr.one
    cases ra
    cases (Option.some.inj e)
    exact call_int1 pins s σ H _ us Q I rx (.inr ⟨b, rfl, q.here sr (.int _)⟩)
  | [], e, _ => cases e
  | _ :: _ :: _, e, hr =>
    rename_i a b c
    cases a <;> cases e
  | [.non], e, _ => cases e
  | [.str _], e, _ => cases e
  | [.tup _], e, _ => cases e
  | [.lst _], e, _ => cases e
  | [.scr _], e, _ => cases e
  | [.ref _], e, _ => cases e
  | [.gf _], e, _ => cases e
  | [.exn _ _], e, _ => cases e
theorem b_abs (cx : CcX X C) : CallR X (.builtin "abs") (rBi C .abs) := by
  cases cx
  rintro pins s σ H xs us Q I rx ⟨S, W, ds, d, sr, hr, e, q⟩
  match ds, e, hr with
  | [a], e, hr =>
    obtain ⟨x, rfl, ra⟩ := hr.one
    cases a <;> first
      | cases e; done
      | skip
    cases ra
    cases (Option.some.inj e)
    exact call_abs pins s σ H _ us Q I rx ⟨_, rfl, q.here sr (.int _)⟩
  | [], e, _ => cases e
  | a :: _ :: _, e, _ => cases a <;> cases e
theorem b_min (cx : CcX X C) (hc : X.calm = true) : CallR X (.builtin "min") (rBi C .min2) := by
  cases cx
  rintro pins s σ H xs us Q I rx ⟨S, W, ds, d, sr, hr, e, q⟩
  match ds, e, hr with
  | [a, b], e, hr =>
    obtain ⟨x, y, rfl, ra, rb⟩ := hr.two
    cases a <;> cases b <;> first
      | cases e; done
      | skip
    cases ra
    cases rb
    cases (Option.some.inj e)
    exact call_min2 hc pins s σ H _ us Q I rx ⟨_, _, rfl, q.here sr (.int _)⟩
  | [], e, _ => cases e
  | [a], e, _ => cases a <;> cases e
  | a :: b :: _ :: _, e, _ => cases a <;> cases b <;> cases e
theorem b_max (cx : CcX X C) (hc : X.calm = true) : CallR X (.builtin "max") (rBi C .max2) := by
  cases cx
  rintro pins s σ H xs us Q I rx ⟨S, W, ds, d, sr, hr, e, q⟩
  match ds, e, hr with
  | [a, b], e, hr =>
    obtain ⟨x, y, rfl, ra, rb⟩ := hr.two
    cases a <;> cases b <;> first
      | cases e; done
      | skip
    cases ra
    cases rb
    cases (Option.some.inj e)
    exact call_max2 hc pins s σ H _ us Q I rx ⟨_, _, rfl, q.here sr (.int _)⟩
  | [], e, _ => cases e
  | [a], e, _ => cases a <;> cases e
  | a :: b :: _ :: _, e, _ => cases a <;> cases b <;> cases e
theorem b_sum (cx : CcX X C) (hc : X.calm = true) : CallR X (.builtin "sum") (rBi C .sum) := by
  cases cx
  rintro pins s σ H xs us Q I rx ⟨S, W, ds, d, sr, hr, e, q⟩
  match ds, e, hr with
  | [a], e, hr =>
    obtain ⟨x, rfl, ra⟩ := hr.one
    have e' : (match listOf S a with
      | some xs => (intsOf xs).map fun ns => D.int ns.sum
      | none => none) = some d := e
    split at e'
    · rename_i ys h1
      obtain ⟨ns, h2, rfl⟩ := map_some e'
      obtain ⟨p, vs, rfl, hp, r1, hz⟩ := listOf_rep sr ra h1
      have z := r1.ints h2
      subst z
      exact cr_sum hc pins s σ H _ us Q I rx ⟨p, ns, rfl, SqL.of hp, q.here sr (.int _)⟩
    · cases e'
  | [], e, _ => cases e
  | a :: _ :: _, e, _ => cases e
theorem b_all (cx : CcX X C) (hc : X.calm = true) : CallR X (.builtin "all") (rBi C .all) := by
  cases cx
  rintro pins s σ H xs us Q I rx ⟨S, W, ds, d, sr, hr, e, q⟩
  match ds, e, hr with
  | [a], e, hr =>
    obtain ⟨x, rfl, ra⟩ := hr.one
    have e' : (match listOf S a with
      | some xs => (boolsOf xs).map fun bs => D.bl (bs.all id)
      | none => none) = some d := e
    split at e'
    · rename_i ys h1
      obtain ⟨ns, h2, rfl⟩ := map_some e'
      obtain ⟨p, vs, rfl, hp, r1, hz⟩ := listOf_rep sr ra h1
      have z := r1.bools h2
      subst z
      exact cr_all hc pins s σ H _ us Q I rx ⟨p, ns, rfl, SqL.of hp, q.here sr (.bl _)⟩
    · cases e'
  | [], e, _ => cases e
  | a :: _ :: _, e, _ => cases e
theorem b_any (cx : CcX X C) (hc : X.calm = true) : CallR X (.builtin "any") (rBi C .any) := by
  cases cx
  rintro pins s σ H xs us Q I rx ⟨S, W, ds, d, sr, hr, e, q⟩
  match ds, e, hr with
  | [a], e, hr =>
    obtain ⟨x, rfl, ra⟩ := hr.one
    have e' : (match listOf S a with
      | some xs => (boolsOf xs).map fun bs => D.bl (bs.any id)
      | none => none) = some d := e
    split at e'
    · rename_i ys h1
      obtain ⟨ns, h2, rfl⟩ := map_some e'
      obtain ⟨p, vs, rfl, hp, r1, hz⟩ := listOf_rep sr ra h1
      have z := r1.bools h2
      subst z
      exact cr_any hc pins s σ H _ us Q I rx ⟨p, ns, rfl, SqL.of hp, q.here sr (.bl _)⟩
    · cases e'
  | [], e, _ => cases e
  | a :: _ :: _, e, _ => cases e
theorem b_tup (cx : CcX X C) : CallR X (.type "tuple") (rBi C .tup) := by
  cases cx
  rintro pins s σ H xs us Q I rx ⟨S, W, ds, d, sr, hr, e, q⟩
  match ds, e, hr with
  | [a], e, hr =>
    obtain ⟨x, rfl, ra⟩ := hr.one
    obtain ⟨ys, h1, rfl⟩ := map_some (show (itemsOf S a).map D.tup = some d from e)
    obtain ⟨p, vs, rfl, hk, r1, hz⟩ := itemsOf_rep sr ra h1
    refine call_tuple_of pins s σ H _ us Q I rx ⟨p, vs, rfl, ?_⟩
    rcases hk with ⟨hk, _⟩ | ⟨hk, e2⟩
    · exact .inl ⟨SqL.of hk, fun l hl => q.tup sr r1 hz hl⟩
    · subst e2
      exact .inr ⟨hk, q.here sr ra⟩
  | [], e, _ => cases e
  | a :: _ :: _, e, _ => cases e
/-- list(x): the items of x in a new list -/
def rLof (C : Cc) : List V → Hp → VK → Prop := fun xs H Q => ∃ S W a ys, SRel C W S H ∧ Reps C W xs [a] ∧ itemsOf S a = some ys ∧ (ys.length ≤ 16777216 → ∀ vs, Reps C W vs ys → ∀ l, H l = none → Q (.ref l) (upd H l (.lst vs)))
theorem b_lof (cx : CcX X C) : CallR X (.type "list") (rLof C) := by
  cases cx
  rintro pins s σ H xs us Q I rx ⟨S, W, a, ys, sr, hr, e, q⟩
  obtain ⟨x, rfl, ra⟩ := hr.one
  obtain ⟨p, vs, rfl, hk, r1, hz⟩ := itemsOf_rep sr ra e
  refine call_list_of pins s σ H _ us Q I rx ⟨p, vs, rfl, ?_, q hz vs r1⟩
  rcases hk with ⟨hk, _⟩ | ⟨hk, _⟩
  · exact .inl (SqL.of hk)
  · exact .inr hk
/-- isinstance(x, T), T a built-in class -/
def tyStr : Ty → String
  | .int => "int"
  | .bool => "bool"
  | .str => "str"
  | .tup => "tuple"
def rIsT (C : Cc) (t : Ty) : List V → Hp → VK → Prop := fun xs H Q => ∃ S W x a b, xs = [x, .ty (tyStr t)] ∧ SRel C W S H ∧ Rep C W x a ∧ isTy t a = some b ∧ Q (.bl b) H
theorem b_isi (cx : CcX X C) (t : Ty) : CallR X (.builtin "isinstance") (rIsT C t) := by
  cases cx
  rintro pins s σ H xs us Q I rx ⟨S, W, x, a, b, rfl, sr, ra, e, q⟩
  have go : ∀ (n : String) (T : TyX X.K H x (.type n)), kitB n (tyStr t) = some b → wpAny (model X.prog X.w) X.A (call (.builtin "isinstance") us) (EP X pins σ Q) X.xe s := fun n T h =>
    call_isi pins s σ H _ us Q I rx ⟨x, .ty (tyStr t), .type n, .type (tyStr t), b, rfl, .ty _, T, kit_ty h, q⟩
  cases ra with
  | non => exact go "NoneType" (.base .non) (by cases t <;> cases (Option.some.inj e) <;> decide +kernel)
  | bl _ => exact go "bool" (.base (.bl _)) (by cases t <;> cases (Option.some.inj e) <;> decide +kernel)
  | int _ => exact go "int" (.base (.int _)) (by cases t <;> cases (Option.some.inj e) <;> decide +kernel)
  | str _ => exact go "str" (.base (.str _)) (by cases t <;> cases (Option.some.inj e) <;> decide +kernel)
  | tup hs r _ =>
    have h2 : kitB "tuple" (tyStr t) = some b := by cases t <;> cases (Option.some.inj e) <;> decide +kernel
    rcases sqT_up sr.sub hs with (h | ⟨o, h⟩) | ⟨o, its, n, h, hc, _⟩
    · exact go "tuple" (.base (.tup h)) h2
    · exact go "tuple" (.fTuple h) h2
    · exact go "tuple" (.kTuple h hc) h2
  | lst hf r _ => exact go "list" (.base (.lst (sr.sub _ _ hf))) (by cases t <;> cases (Option.some.inj e) <;> decide +kernel)
  | scr _ => cases t <;> cases e
  | ref _ => cases t <;> cases e
  | gf _ => cases t <;> cases e
end
end Hc
end
section
set_option Elab.async false
set_option linter.all false
set_option maxRecDepth 100000
set_option autoImplicit false
/-! Subscripts, slices, stores, append by values. -/
namespace Hc
open PySem PySem.Spec PyProof.Rows L2

theorem place_ix (n : Nat) (i : Int) : placeOf n i = ixN n i := by
  unfold placeOf ixN
  by_cases h0 : 0 ≤ i
  · rw [if_pos h0, if_pos h0]
  · rw [if_neg h0, if_neg h0]
    by_cases h1 : 0 ≤ i + n
    · rw [if_pos h1, if_pos (by omega)]
    · rw [if_neg h1, if_neg (by omega)]
theorem cut_ix (n d : Nat) (o : Option Int) : cutAt n d o = HT.sIx n d o := by
  cases o <;> rfl
theorem cutOf_cutV (vs : List V) (lo hi : Option Int) : cutV vs lo hi = cutOf vs lo hi := by
  unfold cutV cutOf
  rw [cut_ix, cut_ix]
theorem cut_len {α : Type} {xs : List α} {lo hi : Option Int} (h : xs.length ≤ 16777216) : (cutOf xs lo hi).length ≤ 16777216 := by
  unfold cutOf
  rw [List.length_take, List.length_drop]
  omega
section
variable {X : Cx} {C : Cc}
theorem Reps.cut {W : Wd} {vs : List V} {ds : List D} (r : Reps C W vs ds) (lo hi : Option Int) : Reps C W (cutV vs lo hi) (cutOf ds lo hi) := by
  rw [cutOf_cutV]
  unfold cutOf
  rw [r.length]
  exact (r.drop _).take _
theorem Reps.atI {W : Wd} {vs : List V} {ds : List D} {i : Int} {d : D} (r : Reps C W vs ds) (h : ((placeOf ds.length i).bind fun j => ds[j]?) = some d) : ∃ v, L2.atI vs i = some v ∧ Rep C W v d := by
  rw [place_ix] at h
  unfold L2.atI
  rw [r.length]
  cases e : ixN ds.length i with
  | none => rw [e] at h; cases h
  | some j =>
    rw [e] at h
    obtain ⟨v, h1, h2⟩ := r.get (show ds[j]? = some d from h)
    exact ⟨v, h1, h2⟩
def rIxD (C : Cc) : R2 := fun x y H Q => ∃ S W a i d, SRel C W S H ∧ Rep C W x a ∧ Rep C W y i ∧ ixD S a i = some d ∧ Gives C S W H d Q
theorem i_ix (cx : CcX X C) : IxR X (rIxD C) := by
  cases cx
  rintro value slice pins s σ H x y v u Q I rx ry ⟨S, W, a, i, d, sr, ha, hi, e, q⟩ hs
  cases i <;> first
    | (simp [ixD] at e; done)
    | skip
  rename_i k
  cases hi
  have seq : (itemsOf S a).bind (fun xs => (placeOf xs.length k).bind fun j => xs[j]?) = some d → wpAny (model X.prog X.w) X.A (subscriptTail value slice v u) (EP X pins σ Q) X.xe s := by
    intro h
    cases e1 : itemsOf S a with
    | none => rw [e1] at h; cases h
    | some xs =>
      rw [e1] at h
      obtain ⟨p, vs, rfl, hk, r1, _⟩ := itemsOf_rep sr ha e1
      obtain ⟨z, hz, rz⟩ := r1.atI (show ((placeOf xs.length k).bind fun j => xs[j]?) = some d from h)
      rcases hk with ⟨hk, _⟩ | ⟨hk, _⟩
      · exact ix_list value slice pins s σ H _ _ v u Q I rx ry ⟨p, vs, k, z, rfl, rfl, SqL.of hk, hz, q.here sr rz⟩ hs
      · exact ix_tup value slice pins s σ H _ _ v u Q I rx ry ⟨p, vs, k, z, rfl, rfl, hk, hz, q.here sr rz⟩ hs
  cases a <;> first
    | exact seq e
    | skip
  rename_i ns
  cases ha with
  | @scr p _ hs' =>
    have e' : ((placeOf ns.length k).bind fun j => (ns[j]?).map D.int) = some d := e
    cases e1 : placeOf ns.length k with
    | none => rw [e1] at e'; cases e'
    | some j =>
      rw [e1] at e'
      obtain ⟨n, hn, rfl⟩ := map_some (show (ns[j]?).map D.int = some d from e')
      refine ix_list value slice pins s σ H _ _ v u Q I rx ry ⟨p, ns.map V.int, k, .int n, rfl, rfl, sqL_up sr.sub hs', ?_, q.here sr (.int n)⟩ hs
      unfold L2.atI
      rw [List.length_map, ← place_ix, e1]
      show (ns.map V.int)[j]? = some (.int n)
      rw [List.getElem?_map, hn]
      rfl
def rSlD (C : Cc) : V → Option Int → Option Int → Hp → VK → Prop := fun x lo hi H Q => ∃ S W a d, SRel C W S H ∧ Rep C W x a ∧ slD S a lo hi = some d ∧ Gives C S W H d Q
theorem i_sl (cx : CcX X C) : SlR X (rSlD C) := by
  cases cx
  rintro pins s σ H x v vl vu lo hi sl Q I rx hs pl pu ⟨S, W, a, d, sr, ha, e, q⟩
  have lists : (listOf S a).map (fun xs => D.lst (cutOf xs lo hi)) = some d → ∃ T id, typeLookup (.type T) "__getitem__" = pure (some (.builtin id)) ∧ s.TypeIs v T ∧ wpAny (model X.prog X.w) X.A (getItem v (.ref sl)) (EP X pins σ Q) X.xe s := by
    intro h
    obtain ⟨xs, h1, rfl⟩ := map_some h
    obtain ⟨p, vs, rfl, hp, r1, hz⟩ := listOf_rep sr ha h1
    exact sl_list pins s σ H _ v vl vu lo hi sl Q I rx hs pl pu ⟨p, vs, rfl, SqL.of hp, fun l hl => q.lst sr (r1.cut lo hi) (cut_len hz) hl⟩
  cases a <;> first
    | exact lists e
    | skip
  rename_i xs
  cases (Option.some.inj e)
  cases ha with
  | @tup p vs _ ht r1 z1 =>
    refine sl_tupA pins s σ H _ v vl vu lo hi sl Q I rx hs pl pu ⟨p, vs, rfl, sqT_up sr.sub ht, fun z => ?_, fun _ l hl => q.tup sr (r1.cut lo hi) (cut_len z1) hl⟩
    have e1 : cutOf xs lo hi = xs := by
      unfold cutOf
      rw [cut_ix, cut_ix, ← r1.length, z.1, z.2, r1.length, Nat.sub_zero]
      simp
    rw [e1] at q
    exact q.here sr (.tup ht r1 z1)
def rApp (C : Cc) : V → List V → Hp → VK → Prop := fun x vs H Q => ∃ S W n ds b, SRel C W S H ∧ Rep C W x (.ref n) ∧ Reps C W vs [b] ∧ S[n]? = some (.ml ds) ∧ ds.length < 16777216 ∧ Gives C (S.set n (.ml (ds ++ [b]))) W H .non Q
theorem i_app (cx : CcX X C) : MtM X "list.append" (rApp C) := by
  cases cx
  rintro pins s σ H x xs v us Q I rx rxs h
  obtain ⟨S, W, n, ds, b, sr, ha, hb, e, hl, q⟩ := h
  obtain ⟨y, rfl, rb⟩ := hb.one
  cases ha with
  | @ref p _ hp =>
    cases sr.ob n _ _ e hp with
    | @ml vs _ hh r1 hz =>
      have r2 : Reps _ W (vs ++ [y]) (ds ++ [b]) := r1.append (.cons rb .nil)
      exact mt_append pins s σ H _ _ v us Q I rx rxs ⟨p, vs, y, rfl, rfl, hh, by rw [r1.length, sizeLine_eq]; exact hl, q _ _ _ (Stp.wr hp) (sr.wr e hp r2 (by rw [List.length_append]; exact hl)) .non⟩
/-- a store o[i] = v -/
def rSet (C : Cc) : TSet := fun o i v H Q => ∃ S W a k d S', SRel C W S H ∧ Rep C W o a ∧ Rep C W i k ∧ Rep C W v d ∧ setIx S a k d = some S' ∧ ∀ H' W', Stp W H W' H' → SRel C W' S' H' → Q H'
theorem i_set (cx : CcX X C) : PSet X (rSet C) := by
  cases cx
  rintro pins s σ H o i v ov iv u Q I ro ri rv ⟨S, W, a, k, d, S', sr, ha, hk, hd, e, q⟩
  cases a <;> cases k <;> first
    | (simp [setIx] at e; done)
    | skip
  rename_i n k
  cases hk
  have e' : (match S[n]? with
    | some (.ml xs) => (placeOf xs.length k).map fun j => S.set n (.ml (xs.set j d))
    | _ => none) = some S' := e
  split at e'
  · rename_i xs h1
    obtain ⟨j, h2, rfl⟩ := map_some e'
    cases ha with
    | @ref p _ hp =>
      cases sr.ob n _ _ h1 hp with
      | @ml vs _ hh r1 hz =>
        rw [place_ix, ← r1.length] at h2
        exact set_list pins s σ H _ _ v ov iv u Q I ro ri rv ⟨p, vs, k, j, rfl, rfl, hh, h2, q _ _ (Stp.wr hp) (sr.wr h1 hp (r1.set hd j) (by rw [List.length_set]; exact hz))⟩
  · cases e'
end
end Hc
end
section
set_option Elab.async false
set_option linter.all false
set_option maxRecDepth 100000
set_option autoImplicit false
/-! Expressions, one construct at a time: the hand layer's reading follows from the core language's meaning. -/
namespace Hc
open PySem PySem.Spec PyProof.Rows L2

section
variable {X : Cx} {C : Cc} {XW : WX} {Φ : Nat → List D → M D} {pos : Pos}
theorem Kg.gives {C : Cc} {XW : WX} {W : Wd} {H : Hp} {σc : L2.St} {d : D} {S : Store} {Q : VK} (h : Kg C (relD C) XW W H σc (.ok d S) Q) : Gives C S W H d Q := fun v H' W' st sr r => h v H' W' st sr r
theorem Kg.ask {C : Cc} {XW : WX} {W : Wd} {H : Hp} {σc : L2.St} {S : Store} {Q : VK} {f : Store → Option D} (h : Kg C (relD C) XW W H σc (M.ask f S) Q) : ∃ d, f S = some d ∧ Gives C S W H d Q := by
  unfold M.ask at h
  cases e : f S with
  | none => rw [e] at h; exact h.elim
  | some d => rw [e] at h; exact ⟨d, rfl, h.gives⟩
theorem Kg.askB {α β γ : Type} {C : Cc} {rel : Wd → Hp → β → γ → Prop} {W : Wd} {H : Hp} {σc : L2.St} {S : Store} {Q : β → Hp → Prop} {f : Store → Option α} {k : α → M γ} (h : Kg C rel XW W H σc ((M.ask f >>= k) S) Q) : ∃ d, f S = some d ∧ Kg C rel XW W H σc (k d S) Q := by
  rw [bind_at] at h
  cases e : f S with
  | none =>
    rw [show M.ask f S = Out.bad from by unfold M.ask; rw [e]] at h
    exact h.elim
  | some d =>
    rw [show M.ask f S = Out.ok d S from by unfold M.ask; rw [e]] at h
    exact ⟨d, rfl, h⟩
theorem Kg.optB {α β γ : Type} {C : Cc} {rel : Wd → Hp → β → γ → Prop} {W : Wd} {H : Hp} {σc : L2.St} {S : Store} {Q : β → Hp → Prop} {f : Option α} {k : α → M γ} (h : Kg C rel XW W H σc ((M.opt f >>= k) S) Q) : ∃ d, f = some d ∧ Kg C rel XW W H σc (k d S) Q := by
  rw [bind_at] at h
  cases f with
  | none => exact h.elim
  | some d => exact ⟨d, rfl, h⟩
theorem Kg.later {α β : Type} {C : Cc} {rel : Wd → Hp → β → α → Prop} {W W' : Wd} {H H' : Hp} {σc : L2.St} {o : Out α} {Q : β → Hp → Prop} (h : Kg C rel XW W H σc o Q) (st : Stp W H W' H') : Kg C rel XW W' H' σc o Q := by
  cases o with
  | ok a b => exact fun p q r s1 s2 s3 => h p q r (st.trans s1) s2 s3
  | exc a b => exact fun p q r t s1 s2 s3 => h p q r t (st.trans s1) s2 s3
  | bad => exact h.elim
theorem e_var {i : Nat} {x : PySem.Str} (hN : X.N[i]? = some x) (hv : Vis X.env.scope x) (hd : (x == ("__debug__" : PySem.Str)) = false) (hcd : (x == ("__classdict__" : PySem.Str)) = false) : PE X (.Name x pos) (tD C XW (eE Φ (.v i))) := by
  refine (pe_var hN hv hd hcd).sub fun σc H Q ⟨σ, S, W, sr, sl, h⟩ => ?_
  rw [eE] at h
  cases e : (σ[i]?).join with
  | none => rw [e] at h; exact h.elim
  | some d =>
    rw [e] at h
    have e2 : σ[i]? = some (some d) := by
      cases e3 : σ[i]? with
      | none => rw [e3] at e; cases e
      | some o =>
        rw [e3] at e
        exact congrArg some (show o = some d from e)
    obtain ⟨v, h1, h2⟩ := sl.at_ i d e2
    exact ⟨v, h1, Kg.gives h |>.here sr h2⟩
theorem e_const {e : Expr} {v : V} {d : D} (p : PE X e (tC v)) (r : ∀ W, Rep C W v d) : PE X e (tD C XW (eE Φ (.c d))) := by
  refine p.sub fun σc H Q ⟨σ, S, W, sr, sl, h⟩ => ?_
  rw [eE] at h
  exact (Kg.gives h).here sr (r W)
theorem e_gf {e : Expr} {a : Addr} {f : Nat} (p : PE X e (tC (.ref a))) (r : C.fa f = some a) : PE X e (tD C XW (eE Φ (.gf f))) := by
  refine p.sub fun σc H Q ⟨σ, S, W, sr, sl, h⟩ => ?_
  rw [eE] at h
  exact (Kg.gives h).here sr (.gf r)
/-! arguments -/
theorem a_nil : PA X [] (tDs C XW (eEs Φ .nil)) := by
  refine pa_nil.sub fun σc H Q ⟨σ, S, W, sr, sl, h⟩ => ?_
  rw [eEs] at h
  exact Kg.done h sr .nil
theorem a_cons {e : Expr} {es : List Expr} {x : Ex} {xs : Exs} (pe : PE X e (tD C XW (eE Φ x))) (pa : PA X es (tDs C XW (eEs Φ xs))) (hs : starEach (e :: es) X.env = (false, eval e X.env) :: starEach es X.env) :
    PA X (e :: es) (tDs C XW (eEs Φ (.cons x xs))) := by
  refine (pa_cons pe pa hs).sub fun σc H Q ⟨σ, S, W, sr, sl, h⟩ => ?_
  rw [eEs] at h
  refine tG_step h sr sl fun v H1 W1 S1 d st sr1 sl1 r h1 => ?_
  refine tG_step h1 sr1 sl1 fun vs H2 W2 S2 ds st2 sr2 sl2 r2 h2 => ?_
  exact Kg.done h2 sr2 (.cons (r.up st2.le) r2)
/-! displays -/
theorem e_tup {es : List Expr} {xs : Exs} {k : Nat} (pa : PA X es (tDs C XW (eEs Φ xs))) (hl : ∀ (σ : Env) S ds S', eEs Φ xs σ S = .ok ds S' → ds.length ≤ 1000) : PE X (.Tuple es k pos) (tD C XW (eE Φ (.tup xs))) := by
  refine (pe_tup pa).sub fun σc H Q ⟨σ, S, W, sr, sl, h⟩ => ?_
  rw [eE] at h
  have hz := hl σ S
  rw [bind_at] at h
  cases e : eEs Φ xs σ S with
  | bad => rw [e] at h; exact h.elim
  | exc x S1 =>
    rw [e] at h
    exact ⟨σ, S, W, sr, sl, by rw [e]; exact h⟩
  | ok ds S1 =>
    rw [e] at h
    refine ⟨σ, S, W, sr, sl, ?_⟩
    rw [e]
    intro vs H1 W1 st sr1 r
    have z : ds.length ≤ 1000 := hz ds S1 e
    refine ⟨by rw [r.length, sizeLine_eq]; omega, fun p hp => ?_⟩
    have g : Gives C S1 W1 H1 (.tup ds) Q := fun v H' W' s1 s2 s3 => h v H' W' (st.trans s1) s2 s3
    exact g.tup sr1 r (by omega) hp
theorem Kg.mk {m : Bool} {ds : List D} {W : Wd} {H : Hp} {σc : L2.St} {S : Store} {Q : VK} (h : Kg C (relD C) XW W H σc (mkList m ds S) Q) (sr : SRel C W S H) {vs : List V} (r : Reps C W vs ds) (hz : ds.length ≤ 16777216) {p : Addr} (hp : H p = none) : Q (.ref p) (upd H p (.lst vs)) := by
  cases m with
  | false => exact (Kg.gives (show Kg C (relD C) XW W H σc (.ok (.lst ds) S) Q from h)).lst sr r hz hp
  | true =>
    have h' : Kg C (relD C) XW W H σc (.ok (.ref S.length) (S ++ [.ml ds])) Q := h
    refine h' _ _ _ (Stp.new sr hp (.lst vs)) (sr.new hp r hz) (.ref ?_)
    show (W.ρ ++ [p])[S.length]? = some p
    rw [← sr.len, List.getElem?_append_right (Nat.le_refl _), Nat.sub_self]
    rfl
theorem e_lst {es : List Expr} {xs : Exs} {m : Bool} (pa : PA X es (tDs C XW (eEs Φ xs))) (hl : ∀ (σ : Env) S ds S', eEs Φ xs σ S = .ok ds S' → ds.length ≤ 1000) : PE X (.List es pos) (tD C XW (eE Φ (.lst m xs))) := by
  refine (pe_lst pa).sub fun σc H Q ⟨σ, S, W, sr, sl, h⟩ => ?_
  rw [eE] at h
  have hz := hl σ S
  refine ⟨σ, S, W, sr, sl, ?_⟩
  cases e : eEs Φ xs σ S with
  | bad => rw [bind_at, e] at h; exact h.elim
  | exc x S1 => rw [bind_at, e] at h; exact h
  | ok ds S1 =>
    intro vs H1 W1 st sr1 r
    have z : ds.length ≤ 1000 := hz ds S1 e
    refine ⟨by rw [r.length, sizeLine_eq]; omega, fun p hp => ?_⟩
    have h2 : Kg C (relD C) XW W1 H1 σc (mkList m ds S1) Q := by
      rw [bind_at, e] at h
      have h3 : Kg C (relD C) XW W H σc (mkList m ds S1) Q := h
      cases e2 : mkList m ds S1 with
      | ok d S2 =>
        rw [e2] at h3
        exact fun v H' W' s1 s2 s3 => h3 v H' W' (st.trans s1) s2 s3
      | exc x S2 => rw [e2] at h3; exact fun a b H' W' s1 s2 s3 => h3 a b H' W' (st.trans s1) s2 s3
      | bad => rw [e2] at h3; exact h3.elim
    exact Kg.mk h2 sr1 r (by omega) hp
/-! operators -/
theorem e_op {o : Op2} {a b : Expr} {x y : Ex} {op : Operator} (ho : OpR X (binaryOp op) (rOp C o)) (pa : PE X a (tD C XW (eE Φ x))) (pb : PE X b (tD C XW (eE Φ y))) : PE X (.BinOp a op b pos) (tD C XW (eE Φ (.op o x y))) := by
  refine (pe_op ho pa pb).sub fun σc H Q ⟨σ, S, W, sr, sl, h⟩ => ?_
  rw [eE] at h
  refine tG_step h sr sl fun v H1 W1 S1 d st sr1 sl1 r h1 => ?_
  refine tG_step h1 sr1 sl1 fun u H2 W2 S2 e st2 sr2 sl2 r2 h2 => ?_
  obtain ⟨z, hz, g⟩ := h2.ask
  exact ⟨S2, W2, d, e, z, sr2, r.up st2.le, r2, hz, g⟩
theorem rd_cmp {o : Op2} {x y : Ex} {σc : L2.St} {H : Hp} {Q : VK} (h : tD C XW (eE Φ (.op o x y)) σc H Q) : tOp (rOp C o) (tD C XW (eE Φ x)) (tD C XW (eE Φ y)) σc H Q := by
  obtain ⟨σ, S, W, sr, sl, h⟩ := h
  rw [eE] at h
  refine tG_step h sr sl fun v H1 W1 S1 d st sr1 sl1 r h1 => ?_
  refine tG_step h1 sr1 sl1 fun u H2 W2 S2 e st2 sr2 sl2 r2 h2 => ?_
  obtain ⟨z, hz, g⟩ := h2.ask
  exact ⟨S2, W2, d, e, z, sr2, r.up st2.le, r2, hz, g⟩
theorem e_cmp {o : Op2} {a b : Expr} {x y : Ex} {op : CmpOp} (ho : OpR X (compareOp op) (rOp C o)) (hm : behindInMarks op b = false) (pa : PE X a (tD C XW (eE Φ x))) (pb : PE X b (tD C XW (eE Φ y))) : PE X (.Compare a [op] [b] pos) (tD C XW (eE Φ (.op o x y))) :=
  (pe_cmpR ho pa pb hm).sub fun _ _ _ h => rd_cmp h
/-- as a test -/
theorem asB_kg {W : Wd} {H : Hp} {σc : L2.St} {S : Store} {Q : Bool → Hp → Prop} {d : D} (h : Kg C relE XW W H σc (asB d S) Q) : ∃ b, d = .bl b ∧ Kg C relE XW W H σc (.ok b S) Q := by
  cases d with
  | bl b => exact ⟨b, rfl, h⟩
  | _ => exact h.elim
/-- the reading of a test from that of a value -/
theorem rd_test {x : Ex} {σc : L2.St} {H : Hp} {Q : Bool → Hp → Prop} (h : tBo C XW (fun σ => eE Φ x σ >>= asB) σc H Q) : tD C XW (eE Φ x) σc H fun v H1 => ∃ k, v = .bl k ∧ Q k H1 := by
  obtain ⟨σ, S, W, sr, sl, h⟩ := h
  refine tG_step h sr sl fun v H1 W1 S1 d st sr1 sl1 r h1 => ?_
  obtain ⟨b, rfl, h2⟩ := asB_kg h1
  cases r
  exact ⟨b, rfl, Kg.done h2 sr1 rfl⟩
theorem t_cmp {o : Op2} {a b : Expr} {x y : Ex} {op : CmpOp} (ho : OpR X (compareOp op) (rOp C o)) (hm : behindInMarks op b = false) (pa : PE X a (tD C XW (eE Φ x))) (pb : PE X b (tD C XW (eE Φ y))) : PT X (.Compare a [op] [b] pos) (tBo C XW fun σ => eE Φ (.op o x y) σ >>= asB) :=
  (pt_cmpR ho pa pb hm).sub fun _ _ _ h => rd_cmp (rd_test h)
theorem t_val {e : Expr} {x : Ex} (p : PE X e (tD C XW (eE Φ x))) (he : ∀ whole, isTrue e X.env whole = (do let v ← whole; standAt e.pos; holding [v] (truthy v))) : PT X e (tBo C XW fun σ => eE Φ x σ >>= asB) :=
  (pt_val p he).sub fun _ _ _ h => rd_test h
theorem rd_chain {o₁ o₂ : Op2} {x y z : Ex} {σc : L2.St} {H : Hp} {Q : VK} (h : tD C XW (eE Φ (.chain o₁ o₂ x y z)) σc H Q) : tChain (rOp C o₁) (rOp C o₂) (tD C XW (eE Φ x)) (tD C XW (eE Φ y)) (tD C XW (eE Φ z)) σc H Q := by
  obtain ⟨σ, S, W, sr, sl, h⟩ := h
  rw [eE] at h
  refine tG_step h sr sl fun v H1 W1 S1 d st sr1 sl1 r h1 => ?_
  refine tG_step h1 sr1 sl1 fun u H2 W2 S2 e st2 sr2 sl2 r2 h2 => ?_
  rw [bind_assoc] at h2
  obtain ⟨g, e1, h3⟩ := h2.askB
  cases g with
  | bl k =>
    refine ⟨S2, W2, d, e, .bl k, sr2, r.up st2.le, r2, e1, fun v' H' W' st3 sr3 r3 => ?_⟩
    cases r3
    refine ⟨k, rfl, ?_⟩
    cases k with
    | false =>
      rw [if_neg Bool.false_ne_true]
      have h4 : Kg C (relD C) XW W2 H2 σc (.ok (.bl false) S2) Q := h3
      exact h4 _ _ _ st3 sr3 (.bl false)
    | true =>
      rw [if_pos rfl]
      have h4 : Kg C (relD C) XW W2 H2 σc ((eE Φ z σ >>= fun z => M.ask fun S => op2 S o₂ e z) S2) Q := h3
      refine tG_step (h4.later st3) sr3 (sl2.up st3.le) fun w H4 W4 S4 f st4 sr4 sl4 r4 h6 => ?_
      obtain ⟨l, hl, g⟩ := h6.ask
      exact ⟨S4, W4, e, f, l, sr4, r2.up (st3.trans st4).le, r4, hl, g⟩
  | _ => exact h3.elim
theorem e_chain {o₁ o₂ : Op2} {a b c : Expr} {x y z : Ex} {op op' : CmpOp} (h1 : OpR X (compareOp op) (rOp C o₁)) (h2 : OpR X (compareOp op') (rOp C o₂)) (hm : lastMarks [op, op'] [b, c] = false)
    (pa : PE X a (tD C XW (eE Φ x))) (pb : PE X b (tD C XW (eE Φ y))) (pc : PE X c (tD C XW (eE Φ z))) : PE X (.Compare a [op, op'] [b, c] pos) (tD C XW (eE Φ (.chain o₁ o₂ x y z))) :=
  (pe_chain h1 h2 pa pb pc hm).sub fun _ _ _ h => rd_chain h
theorem t_chain {o₁ o₂ : Op2} {a b c : Expr} {x y z : Ex} {op op' : CmpOp} (h1 : OpR X (compareOp op) (rOp C o₁)) (h2 : OpR X (compareOp op') (rOp C o₂)) (hm : lastMarks [op, op'] [b, c] = false)
    (pa : PE X a (tD C XW (eE Φ x))) (pb : PE X b (tD C XW (eE Φ y))) (pc : PE X c (tD C XW (eE Φ z))) : PT X (.Compare a [op, op'] [b, c] pos) (tBo C XW fun σ => eE Φ (.chain o₁ o₂ x y z) σ >>= asB) :=
  (pt_chain h1 h2 pa pb pc hm).sub fun _ _ _ h => rd_chain (rd_test h)
theorem e_neg {a : Expr} {x : Ex} (pa : PE X a (tD C XW (eE Φ x))) : PE X (.UnaryOp .USub a pos) (tD C XW (eE Φ (.neg x))) := by
  refine (pe_un un_neg pa).sub fun σc H Q ⟨σ, S, W, sr, sl, h⟩ => ?_
  rw [eE] at h
  refine tG_step h sr sl fun v H1 W1 S1 d st sr1 sl1 r h1 => ?_
  cases d <;> first
    | exact h1.elim
    | skip
  cases r
  exact ⟨_, rfl, (Kg.gives h1).here sr1 (.int _)⟩
theorem e_not {a : Expr} {x : Ex} (pa : PE X a (tD C XW (eE Φ x))) : PE X (.UnaryOp .Not a pos) (tD C XW (eE Φ (.not x))) := by
  refine (pe_not pa).sub fun σc H Q ⟨σ, S, W, sr, sl, h⟩ => ?_
  rw [eE, bind_assoc] at h
  refine tG_step h sr sl fun v H1 W1 S1 d st sr1 sl1 r h1 => ?_
  cases d <;> first
    | exact h1.elim
    | skip
  cases r
  exact ⟨_, rfl, (Kg.gives (show Kg C (relD C) XW W1 H1 σc (.ok (.bl (!_)) S1) Q from h1)).here sr1 (.bl _)⟩
/-- a test from a test -/
theorem rd_bool {f : Env → M Bool} {σc : L2.St} {H : Hp} {Q : Bool → Hp → Prop} {α β : Type} {rel : Wd → Hp → β → α → Prop} {k : Bool → M α} {Q2 : β → Hp → Prop} {σ : Env} {S : Store} {W : Wd} (h : Kg C rel XW W H σc ((f σ >>= k) S) Q2) (sr : SRel C W S H) (sl : Sls C W σ σc)
    (n : ∀ b H1 W1 S1, Stp W H W1 H1 → SRel C W1 S1 H1 → Sls C W1 σ σc → Kg C rel XW W1 H1 σc (k b S1) Q2 → Q b H1) : tBo C XW f σc H Q :=
  tG_step h sr sl fun b H1 W1 S1 a st sr1 sl1 r h1 => n b H1 W1 S1 st sr1 sl1 (by cases r; exact h1)
theorem t_not {a : Expr} {x : Ex} (pa : PT X a (tBo C XW fun σ => eE Φ x σ >>= asB)) : PT X (.UnaryOp .Not a pos) (tBo C XW fun σ => eE Φ (.not x) σ >>= asB) := by
  refine (pt_not pa).sub fun σc H Q ⟨σ, S, W, sr, sl, h⟩ => ?_
  simp only [eE, bind_assoc] at h
  have h' : Kg C relE XW W H σc ((((fun σ => eE Φ x σ >>= asB) σ) >>= fun b => (pure (!b) : M Bool)) S) Q := by
    rw [bind_assoc]
    exact h
  exact rd_bool h' sr sl fun b H1 W1 S1 st sr1 sl1 h1 => Kg.done (show Kg C relE XW W1 H1 σc (.ok (!b) S1) Q from h1) sr1 rfl
end
end Hc
end
section
set_option Elab.async false
set_option linter.all false
set_option maxRecDepth 100000
set_option autoImplicit false
/-! Expressions: and, or, if, subscripts, calls. -/
namespace Hc
open PySem PySem.Spec PyProof.Rows L2

section
variable {X : Cx} {C : Cc} {XW : WX} {Φ : Nat → List D → M D} {pos : Pos}
theorem Kg.asBB {α β : Type} {rel : Wd → Hp → β → α → Prop} {W : Wd} {H : Hp} {σc : L2.St} {S : Store} {Q : β → Hp → Prop} {d : D} {k : Bool → M α} (h : Kg C rel XW W H σc ((asB d >>= k) S) Q) : ∃ b, d = .bl b ∧ Kg C rel XW W H σc (k b S) Q := by
  cases d with
  | bl b => exact ⟨b, rfl, h⟩
  | _ => exact h.elim
/-! and, or as values -/
def eAndV (Φ : Nat → List D → M D) (es : Exs) : Env → M D := fun σ => eAnd Φ es σ >>= fun b => pure (.bl b)
def eOrV (Φ : Nat → List D → M D) (es : Exs) : Env → M D := fun σ => eOr Φ es σ >>= fun b => pure (.bl b)
theorem e_and1 {a : Expr} {x : Ex} (pa : PE X a (tD C XW (eE Φ x))) : PE X (.BoolOp .And [a] pos) (tD C XW (eAndV Φ (.cons x .nil))) := by
  refine (pe_one pa).sub fun σc H Q ⟨σ, S, W, sr, sl, h⟩ => ?_
  simp only [eAndV, eAnd, bind_assoc] at h
  refine tG_step h sr sl fun v H1 W1 S1 d st sr1 sl1 r h1 => ?_
  obtain ⟨b, rfl, h2⟩ := h1.asBB
  cases b with
  | true => exact (Kg.gives (show Kg C (relD C) XW W1 H1 σc (.ok (.bl true) S1) Q from h2)).here sr1 r
  | false => exact (Kg.gives (show Kg C (relD C) XW W1 H1 σc (.ok (.bl false) S1) Q from h2)).here sr1 r
theorem e_or1 {a : Expr} {x : Ex} (pa : PE X a (tD C XW (eE Φ x))) : PE X (.BoolOp .Or [a] pos) (tD C XW (eOrV Φ (.cons x .nil))) := by
  refine (pe_one pa).sub fun σc H Q ⟨σ, S, W, sr, sl, h⟩ => ?_
  simp only [eOrV, eOr, bind_assoc] at h
  refine tG_step h sr sl fun v H1 W1 S1 d st sr1 sl1 r h1 => ?_
  obtain ⟨b, rfl, h2⟩ := h1.asBB
  cases b with
  | true => exact (Kg.gives (show Kg C (relD C) XW W1 H1 σc (.ok (.bl true) S1) Q from h2)).here sr1 r
  | false => exact (Kg.gives (show Kg C (relD C) XW W1 H1 σc (.ok (.bl false) S1) Q from h2)).here sr1 r
theorem e_and {a b : Expr} {l : List Expr} {x : Ex} {xs : Exs} (pa : PE X a (tD C XW (eE Φ x))) (pb : PE X (.BoolOp .And (b :: l) pos) (tD C XW (eAndV Φ xs))) : PE X (.BoolOp .And (a :: b :: l) pos) (tD C XW (eAndV Φ (.cons x xs))) := by
  refine (pe_and pa pb).sub fun σc H Q ⟨σ, S, W, sr, sl, h⟩ => ?_
  simp only [eAndV, eAnd, bind_assoc] at h
  refine tG_step h sr sl fun v H1 W1 S1 d st sr1 sl1 r h1 => ?_
  obtain ⟨c, rfl, h2⟩ := h1.asBB
  cases r
  refine ⟨c, rfl, ?_⟩
  cases c with
  | true => exact ⟨σ, S1, W1, sr1, sl1, h2⟩
  | false => exact (Kg.gives (show Kg C (relD C) XW W1 H1 σc (.ok (.bl false) S1) Q from h2)).here sr1 (.bl _)
theorem e_or {a b : Expr} {l : List Expr} {x : Ex} {xs : Exs} (pa : PE X a (tD C XW (eE Φ x))) (pb : PE X (.BoolOp .Or (b :: l) pos) (tD C XW (eOrV Φ xs))) : PE X (.BoolOp .Or (a :: b :: l) pos) (tD C XW (eOrV Φ (.cons x xs))) := by
  refine (pe_or pa pb).sub fun σc H Q ⟨σ, S, W, sr, sl, h⟩ => ?_
  simp only [eOrV, eOr, bind_assoc] at h
  refine tG_step h sr sl fun v H1 W1 S1 d st sr1 sl1 r h1 => ?_
  obtain ⟨c, rfl, h2⟩ := h1.asBB
  cases r
  refine ⟨c, rfl, ?_⟩
  cases c with
  | false => exact ⟨σ, S1, W1, sr1, sl1, h2⟩
  | true => exact (Kg.gives (show Kg C (relD C) XW W1 H1 σc (.ok (.bl true) S1) Q from h2)).here sr1 (.bl _)
/-! .. as tests -/
abbrev eT (Φ : Nat → List D → M D) (x : Ex) : Env → M Bool := fun σ => eE Φ x σ >>= asB
theorem w_and1 {a : Expr} {x : Ex} (pa : PT X a (tBo C XW (eT Φ x))) : PW X (.BoolOp .And [a] pos) (tBo C XW (eAnd Φ (.cons x .nil))) := by
  refine (pw_and1 pa).sub fun σc H Q ⟨σ, S, W, sr, sl, h⟩ => ?_
  have h' : Kg C relE XW W H σc ((eT Φ x σ >>= fun c => if c then (pure true : M Bool) else pure false) S) Q := by
    simp only [eAnd] at h
    exact h
  refine rd_bool h' sr sl fun b H1 W1 S1 st sr1 sl1 h1 => ?_
  cases b with
  | true => exact Kg.done (show Kg C relE XW W1 H1 σc (.ok true S1) Q from h1) sr1 rfl
  | false => exact Kg.done (show Kg C relE XW W1 H1 σc (.ok false S1) Q from h1) sr1 rfl
theorem w_or1 {a : Expr} {x : Ex} (pa : PT X a (tBo C XW (eT Φ x))) : PW X (.BoolOp .Or [a] pos) (tBo C XW (eOr Φ (.cons x .nil))) := by
  refine (pw_or1 pa).sub fun σc H Q ⟨σ, S, W, sr, sl, h⟩ => ?_
  have h' : Kg C relE XW W H σc ((eT Φ x σ >>= fun c => if c then (pure true : M Bool) else pure false) S) Q := by
    simp only [eOr] at h
    exact h
  refine rd_bool h' sr sl fun b H1 W1 S1 st sr1 sl1 h1 => ?_
  cases b with
  | true => exact Kg.done (show Kg C relE XW W1 H1 σc (.ok true S1) Q from h1) sr1 rfl
  | false => exact Kg.done (show Kg C relE XW W1 H1 σc (.ok false S1) Q from h1) sr1 rfl
theorem w_and {a b : Expr} {l : List Expr} {x : Ex} {xs : Exs} (pa : PT X a (tBo C XW (eT Φ x))) (pb : PW X (.BoolOp .And (b :: l) pos) (tBo C XW (eAnd Φ xs))) : PW X (.BoolOp .And (a :: b :: l) pos) (tBo C XW (eAnd Φ (.cons x xs))) := by
  refine (pw_and pa pb).sub fun σc H Q ⟨σ, S, W, sr, sl, h⟩ => ?_
  have h' : Kg C relE XW W H σc ((eT Φ x σ >>= fun c => if c then eAnd Φ xs σ else pure false) S) Q := by
    simp only [eAnd] at h
    exact h
  refine rd_bool h' sr sl fun c H1 W1 S1 st sr1 sl1 h1 => ?_
  cases c with
  | true => exact ⟨σ, S1, W1, sr1, sl1, h1⟩
  | false => exact Kg.done (show Kg C relE XW W1 H1 σc (.ok false S1) Q from h1) sr1 rfl
theorem w_or {a b : Expr} {l : List Expr} {x : Ex} {xs : Exs} (pa : PT X a (tBo C XW (eT Φ x))) (pb : PW X (.BoolOp .Or (b :: l) pos) (tBo C XW (eOr Φ xs))) : PW X (.BoolOp .Or (a :: b :: l) pos) (tBo C XW (eOr Φ (.cons x xs))) := by
  refine (pw_or pa pb).sub fun σc H Q ⟨σ, S, W, sr, sl, h⟩ => ?_
  have h' : Kg C relE XW W H σc ((eT Φ x σ >>= fun c => if c then pure true else eOr Φ xs σ) S) Q := by
    simp only [eOr] at h
    exact h
  refine rd_bool h' sr sl fun c H1 W1 S1 st sr1 sl1 h1 => ?_
  cases c with
  | false => exact ⟨σ, S1, W1, sr1, sl1, h1⟩
  | true => exact Kg.done (show Kg C relE XW W1 H1 σc (.ok true S1) Q from h1) sr1 rfl
theorem eT_and (es : Exs) : eT Φ (.and es) = eAnd Φ es := by
  funext σ
  show (eE Φ (.and es) σ >>= asB) = eAnd Φ es σ
  rw [eE, bind_assoc]
  exact bind_ret _
theorem eT_or (es : Exs) : eT Φ (.or es) = eOr Φ es := by
  funext σ
  show (eE Φ (.or es) σ >>= asB) = eOr Φ es σ
  rw [eE, bind_assoc]
  exact bind_ret _
/-! if -/
theorem e_ite {c a b : Expr} {t x y : Ex} (pc : PT X c (tBo C XW (eT Φ t))) (pa : PE X a (tD C XW (eE Φ x))) (pb : PE X b (tD C XW (eE Φ y))) : PE X (.IfExp c a b pos) (tD C XW (eE Φ (.ite t x y))) := by
  refine (pe_ifExp pc pa pb).sub fun σc H Q ⟨σ, S, W, sr, sl, h⟩ => ?_
  have h' : Kg C (relD C) XW W H σc ((eT Φ t σ >>= fun c => if c then eE Φ x σ else eE Φ y σ) S) Q := by
    simp only [eE] at h
    exact h
  refine rd_bool h' sr sl fun k H1 W1 S1 st sr1 sl1 h1 => ?_
  cases k with
  | true => exact ⟨σ, S1, W1, sr1, sl1, h1⟩
  | false => exact ⟨σ, S1, W1, sr1, sl1, h1⟩
/-! subscripts -/
theorem e_ix (cx : CcX X C) {a b : Expr} {x y : Ex} (hs : PlainIx b) (pa : PE X a (tD C XW (eE Φ x))) (pb : PE X b (tD C XW (eE Φ y))) : PE X (.Subscript a b pos) (tD C XW (eE Φ (.ix x y))) := by
  refine (pe_ix (i_ix cx) pa pb hs).sub fun σc H Q ⟨σ, S, W, sr, sl, h⟩ => ?_
  rw [eE] at h
  refine tG_step h sr sl fun v H1 W1 S1 d st sr1 sl1 r h1 => ?_
  refine tG_step h1 sr1 sl1 fun u H2 W2 S2 e st2 sr2 sl2 r2 h2 => ?_
  obtain ⟨z, hz, g⟩ := h2.ask
  exact ⟨S2, W2, d, e, z, sr2, r.up st2.le, r2, hz, g⟩
abbrev tO (C : Cc) (XW : WX) (f : Env → M (Option Int)) : TO := tG C relE XW f
theorem PO_sub {e : Option Expr} {t t' : TO} (p : PO X e t) (h : ∀ σ H Q, t' σ H Q → t σ H Q) : PO X e t' := ⟨fun pins s σ H Q I q => p.run pins s σ H Q I (h σ H Q q)⟩
theorem o_none : PO X none (tO C XW (eO Φ .none)) := by
  refine PO_sub po_none fun σc H Q ⟨σ, S, W, sr, sl, h⟩ => ?_
  rw [eO] at h
  exact Kg.done (show Kg C relE XW W H σc (.ok none S) Q from h) sr rfl
theorem o_some {e : Expr} {x : Ex} (pe : PE X e (tD C XW (eE Φ x))) : PO X (some e) (tO C XW (eO Φ (.some x))) := by
  refine PO_sub (po_some pe) fun σc H Q ⟨σ, S, W, sr, sl, h⟩ => ?_
  rw [eO] at h
  refine tG_step h sr sl fun v H1 W1 S1 d st sr1 sl1 r h1 => ?_
  cases d <;> first
    | exact h1.elim
    | skip
  cases r
  exact ⟨_, rfl, Kg.done (show Kg C relE XW W1 H1 σc (.ok (some _) S1) Q from h1) sr1 rfl⟩
theorem e_sl (cx : CcX X C) {a : Expr} {lo hi : Option Expr} {x : Ex} {l u : Exo} {p2 : Pos} (pa : PE X a (tD C XW (eE Φ x))) (pl : PO X lo (tO C XW (eO Φ l))) (pu : PO X hi (tO C XW (eO Φ u))) : PE X (.Subscript a (.Slice lo hi none p2) pos) (tD C XW (eE Φ (.sl x l u))) := by
  refine (pe_slice (i_sl cx) pa pl pu).sub fun σc H Q ⟨σ, S, W, sr, sl, h⟩ => ?_
  rw [eE] at h
  refine tG_step h sr sl fun v H1 W1 S1 d st sr1 sl1 r h1 => ?_
  refine tG_step h1 sr1 sl1 fun o H2 W2 S2 o' st2 sr2 sl2 r2 h2 => ?_
  refine tG_step h2 sr2 sl2 fun q H3 W3 S3 q' st3 sr3 sl3 r3 h3 => ?_
  cases r2
  cases r3
  obtain ⟨z, hz, g⟩ := h3.ask
  exact ⟨S3, W3, d, z, sr3, (r.up st2.le).up st3.le, hz, g⟩
/-! calls of built-ins -/
theorem rd_bi {b : Bi} {xs : Exs} (hb : b ≠ .lst true) {σc : L2.St} {H : Hp} {Q : VK} (h : tD C XW (eE Φ (.bi b xs)) σc H Q) : tCB (rBi C b) (tDs C XW (eEs Φ xs)) σc H Q := by
  obtain ⟨σ, S, W, sr, sl, h⟩ := h
  rw [eE] at h
  refine tG_step h sr sl fun vs H1 W1 S1 ds st sr1 sl1 r h1 => ?_
  have h2 : Kg C (relD C) XW W1 H1 σc (M.ask (fun S => biD S b ds) S1) Q := by
    cases b with
    | lst m =>
      cases m with
      | true => exact absurd rfl hb
      | false => exact h1
    | _ => exact h1
  obtain ⟨z, hz, g⟩ := h2.ask
  exact ⟨S1, W1, ds, z, sr1, r, hz, g⟩
theorem e_biB {b : Bi} {id : String} {x : PySem.Str} {e : Expr} {es : List Expr} {xs : Exs} {p : Pos} (hb : b ≠ .lst true) (hc : CallR X (.builtin id) (rBi C b)) (hg : Gl X x) (hm : X.mg x = none) (hv : bootBuiltins x = some (.builtin id)) (hn : x ≠ "__name__") (hdb : (x == ("__debug__" : PySem.Str)) = false)
    (ha : PA X (e :: es) (tDs C XW (eEs Φ xs))) (he : starEach (e :: es) X.env = (false, eval e X.env) :: starEach es X.env) (hpl : (backTo pos (starEach es X.env)).any (·.1) = false) : PE X (.Call (.Name x p) (e :: es) [] pos) (tD C XW (eE Φ (.bi b xs))) :=
  (pe_callB hc hg hm hv ha hn hdb he hpl).sub fun _ _ _ h => rd_bi hb h
theorem e_biT {b : Bi} {T : String} {x : PySem.Str} {e : Expr} {es : List Expr} {xs : Exs} {p : Pos} (hb : b ≠ .lst true) (hc : CallR X (.type T) (rBi C b)) (hg : Gl X x) (hm : X.mg x = none) (hv : bootBuiltins x = some (.type T)) (hn : x ≠ "__name__") (hdb : (x == ("__debug__" : PySem.Str)) = false)
    (ha : PA X (e :: es) (tDs C XW (eEs Φ xs))) (he : starEach (e :: es) X.env = (false, eval e X.env) :: starEach es X.env) (hpl : (backTo pos (starEach es X.env)).any (·.1) = false) : PE X (.Call (.Name x p) (e :: es) [] pos) (tD C XW (eE Φ (.bi b xs))) :=
  (pe_callTy hc hg hm hv ha hn hdb he hpl).sub fun _ _ _ h => rd_bi hb h
/-- list(x) -/
theorem e_lof (cx : CcX X C) {m : Bool} {x : PySem.Str} {e : Expr} {es : List Expr} {y : Ex} {p : Pos} (hg : Gl X x) (hm : X.mg x = none) (hv : bootBuiltins x = some (.type "list")) (hn : x ≠ "__name__") (hdb : (x == ("__debug__" : PySem.Str)) = false)
    (ha : PA X [e] (tDs C XW (eEs Φ (.cons y .nil)))) (he : starEach [e] X.env = (false, eval e X.env) :: starEach [] X.env) (hpl : (backTo pos (starEach [] X.env)).any (·.1) = false) : PE X (.Call (.Name x p) [e] [] pos) (tD C XW (eE Φ (.bi (.lst m) (.cons y .nil)))) := by
  refine (pe_callTy (b_lof cx) hg hm hv ha hn hdb he hpl).sub fun σc H Q ⟨σ, S, W, sr, sl, h⟩ => ?_
  have one : ∀ S ds S', eEs Φ (.cons y .nil) σ S = .ok ds S' → ∃ d, ds = [d] := fun S ds S' e => by
    rw [eEs, eEs, bind_at] at e
    cases e1 : eE Φ y σ S with
    | ok d S2 =>
      rw [e1] at e
      cases (show Out.ok [d] S2 = Out.ok ds S' from e)
      exact ⟨d, rfl⟩
    | exc x S2 => rw [e1] at e; cases e
    | bad => rw [e1] at e; cases e
  rw [eE] at h
  refine tG_step h sr sl fun vs H1 W1 S1 ds st sr1 sl1 r h1 => ?_
  have h2 : ∃ a xs, ds = [a] ∧ itemsOf S1 a = some xs ∧ Kg C (relD C) XW W1 H1 σc (mkList m xs S1) Q := by
    cases m with
    | true =>
      obtain ⟨xs, e1, h2⟩ := Kg.askB h1
      cases ds with
      | nil => cases e1
      | cons d t =>
        cases t with
        | nil => exact ⟨d, xs, rfl, e1, h2⟩
        | cons _ _ => cases e1
    | false =>
      obtain ⟨z, hz, g⟩ := Kg.ask (show Kg C (relD C) XW W1 H1 σc (M.ask (fun S => biD S (.lst false) ds) S1) Q from h1)
      cases ds with
      | nil => cases hz
      | cons d t =>
        cases t with
        | cons _ _ => cases hz
        | nil =>
          obtain ⟨xs, h3, h4⟩ := map_some (show (itemsOf S1 d).map D.lst = some z from hz)
          subst h4
          exact ⟨d, xs, rfl, h3, g⟩
  obtain ⟨a, xs, rfl, e1, h3⟩ := h2
  exact ⟨S1, W1, a, xs, sr1, r, e1, fun hz vs rv l hl => Kg.mk h3 sr1 rv hz hl⟩
/-- isinstance(x, T) -/
theorem e_isi (cx : CcX X C) {t : Ty} {x : PySem.Str} {a b : Expr} {y : Ex} {p : Pos} (hg : Gl X x) (hm : X.mg x = none) (hv : bootBuiltins x = some (.builtin "isinstance")) (hn : x ≠ "__name__") (hdb : (x == ("__debug__" : PySem.Str)) = false)
    (pa : PE X a (tD C XW (eE Φ y))) (pb : PE X b (tC (.ty (tyStr t)))) (he : starEach [a, b] X.env = (false, eval a X.env) :: starEach [b] X.env) (he2 : starEach [b] X.env = (false, eval b X.env) :: starEach [] X.env) (hpl : (backTo pos (starEach [b] X.env)).any (·.1) = false) :
    PE X (.Call (.Name x p) [a, b] [] pos) (tD C XW (eE Φ (.bi (.isi t) (.cons y .nil)))) := by
  refine (pe_callB (b_isi cx t) hg hm hv (pa_cons pa (pa_cons pb pa_nil he2) he) hn hdb he hpl).sub fun σc H Q ⟨σ, S, W, sr, sl, h⟩ => ?_
  simp only [eE, eEs, bind_assoc] at h
  refine tG_step h sr sl fun v H1 W1 S1 d st sr1 sl1 r h1 => ?_
  obtain ⟨z, hz, g⟩ := Kg.ask (show Kg C (relD C) XW W1 H1 σc (M.ask (fun S => biD S (.isi t) [d]) S1) Q from h1)
  obtain ⟨c, h3, h4⟩ := map_some (show (isTy t d).map D.bl = some z from hz)
  subst h4
  exact ⟨S1, W1, v, d, c, rfl, sr1, r, h3, g.here sr1 (.bl _)⟩
/-! methods -/
theorem e_app (cx : CcX X C) {o e : Expr} {es : List Expr} {x : Ex} {xs : Exs} {apos : Pos} (po : PE X o (tD C XW (eE Φ x))) (pa : PA X (e :: es) (tDs C XW (eEs Φ xs)))
    (hbase : attributeBase o "append" X.env (eval o X.env) = eval o X.env)
    (hfew : ((backTo pos (starEach (e :: es) X.env)).all (fun x => !x.1) && (backToKw pos (keywordEach [] X.env)).all (fun x => x.1.isSome)
      && decide ((e :: es).length + ([] : List Keyword).length + (if ([] : List Keyword).isEmpty then 0 else 1) < 30)) = true)
    (hline : (apos.endLine == pos.line) = true) (hs : starEach (e :: es) X.env = (false, eval e X.env) :: starEach es X.env) (hplain : (backTo pos (starEach es X.env)).any (·.1) = false) :
    PE X (.Call (.Attribute o "append" apos) (e :: es) [] pos) (tD C XW (eE Φ (.mt .append x xs))) := by
  refine (pe_bm PySem.F.plainAttrs_list PySem.F.slot_list_append PySem.F.type_list_append (i_app cx) po pa hbase hfew hline hs hplain).sub fun σc H Q ⟨σ, S, W, sr, sl, h⟩ => ?_
  rw [eE] at h
  refine tG_step h sr sl fun v H1 W1 S1 d st sr1 sl1 r h1 => ?_
  obtain ⟨u0, hd, h1b⟩ := Kg.askB h1
  clear h1
  cases d <;> first
    | cases hd
    | skip
  rename_i n
  cases e5 : S1[n]? with
  | none => simp only [isMl, e5] at hd; cases hd
  | some o =>
    cases o with
    | dead => simp only [isMl, e5] at hd; cases hd
    | ml ds0 =>
      cases r with
      | @ref a _ ha =>
        cases sr1.ob n _ a e5 ha with
        | @ml us _ hh rr hz =>
          refine ⟨.inl ⟨rfl, us, .inl (.inl hh)⟩, ?_⟩
          refine tG_step h1b sr1 sl1 fun vs H2 W2 S2 ds st2 sr2 sl2 r2 h2 => ?_
          unfold mtD at h2
          have h3 : ∃ b ds2, ds = [b] ∧ S2[n]? = some (.ml ds2) ∧ ds2.length < 16777216 ∧ Kg C (relD C) XW W2 H2 σc (.ok .non (S2.set n (.ml (ds2 ++ [b])))) Q := by
            cases ds with
            | nil => exact h2.elim
            | cons b t =>
              cases t with
              | cons _ _ => exact h2.elim
              | nil =>
                cases e6 : S2[n]? with
                | none => simp only [e6] at h2; exact h2.elim
                | some o =>
                  cases o with
                  | dead => simp only [e6] at h2; exact h2.elim
                  | ml ds2 =>
                    simp only [e6] at h2
                    by_cases hl : ds2.length < 16777216
                    · rw [if_pos hl] at h2
                      exact ⟨b, ds2, rfl, rfl, hl, h2⟩
                    · rw [if_neg hl] at h2
                      exact h2.elim
          obtain ⟨b, ds2, rfl, e6, hl, h4⟩ := h3
          exact ⟨S2, W2, n, ds2, b, sr2, .ref (st2.le.at ha), r2, e6, hl, h4.gives⟩
theorem e_fz {i : Nat} {x : PySem.Str} (hN : X.N[i]? = some x) (hv : Vis X.env.scope x) (hd : (x == ("__debug__" : PySem.Str)) = false) (hcd : (x == ("__classdict__" : PySem.Str)) = false) : PE X (.Name x pos) (tD C XW (eE Φ (.fz i))) := by
  refine (pe_var hN hv hd hcd).sub fun σc H Q ⟨σ, S, W, sr, sl, h⟩ => ?_
  rw [eE] at h
  obtain ⟨d, e, h2⟩ := Kg.optB h
  have e2 : σ[i]? = some (some d) := by
    cases e3 : σ[i]? with
    | none => rw [e3] at e; cases e
    | some o =>
      rw [e3] at e
      exact congrArg some (show o = some d from e)
  obtain ⟨v, h3, h4⟩ := sl.at_ i d e2
  refine ⟨v, h3, ?_⟩
  cases d with
  | ref n =>
    cases h4 with
    | @ref a _ ha =>
      cases e5 : S[n]? with
      | none => simp only [fzM, e5] at h2; exact h2.elim
      | some o =>
        cases o with
        | dead => simp only [fzM, e5] at h2; exact h2.elim
        | ml ds =>
          simp only [fzM, e5] at h2
          cases sr.ob n _ a e5 ha with
          | @ml vs _ hh r hz =>
            obtain ⟨s1, s2⟩ := sr.kill e5 ha hh
            exact (show Kg C (relD C) XW W H σc (.ok (.lst ds) (S.set n .dead)) Q from h2) _ _ _ s2 s1 (.lst upd_same (r.up s2.le) hz)
  | _ => exact h2.elim
/-! calls of own defs -/
/-- what a def of the core language keeps -/
def spF (C : Cc) (Φ : Nat → List D → M D) (f : Nat) : Sp := fun vs H Q E => ∃ S W ds, SRel C W S H ∧ Reps C W vs ds ∧ Kg C (relD C) (fun cls d _ H => E cls d H) W H [] (Φ f ds S) Q
theorem Kg.slots {α β : Type} {rel : Wd → Hp → β → α → Prop} {W : Wd} {H : Hp} {σc : L2.St} {o : Out α} {Q : β → Hp → Prop} (h : Kg C rel XW W H σc o Q) : Kg C rel (fun cls d _ H => WE XW σc cls d H) W H [] o Q := by
  cases o with
  | ok a S => exact h
  | exc x S => exact h
  | bad => exact h
theorem e_call {f : Nat} {k : Nat} {fa : Addr} {fd : FuncData} {ps : List PySem.Str} {x : PySem.Str} {p : Pos} {e : Expr} {es : List Expr} {xs : Exs}
    (F : FnOk X.prog X.w X.K X.mg X.base (L2.CX X.prog X.w) k fa fd ps (spF C Φ f)) (hr : Room k X.A) (hg : Gl X x) (hm : X.mg x = some (.ref fa)) (hk : PySem.W.keepIn X.K (.ref fa) = true) (hb : Binds X.K fd ps []) (tk : Takes X XW)
    (ha : PA X (e :: es) (tDs C XW (eEs Φ xs))) (hdb : (x == ("__debug__" : PySem.Str)) = false) (he : starEach (e :: es) X.env = (false, eval e X.env) :: starEach es X.env) (hpl : (backTo pos (starEach es X.env)).any (·.1) = false) :
    PE X (.Call (.Name x p) (e :: es) [] pos) (tD C XW (eE Φ (.call f xs))) := by
  refine (pe_callS F hr hg hm hk hb (E := WE XW) (fun σ => passAt tk σ) ha hdb he hpl).sub fun σc H Q ⟨σ, S, W, sr, sl, h⟩ => ?_
  rw [eE] at h
  refine tG_step h sr sl fun vs H1 W1 S1 ds st sr1 sl1 r h1 => ?_
  exact ⟨S1, W1, ds, sr1, r, h1.slots⟩
end
end Hc
end
section
set_option Elab.async false
set_option linter.all false
set_option maxRecDepth 100000
set_option autoImplicit false
/-! Targets and what a loop walks. -/
namespace L2
open PySem PySem.Spec PyProof.Rows
theorem PG.sub {X : Cx} {e : Expr} {t t' : TG} (p : PG X e t) (h : ∀ v σ H Q, t' v σ H Q → t v σ H Q) : PG X e t' := ⟨fun pins s σ H v u Q I r q => p.run pins s σ H v u Q I r (h v σ H Q q)⟩
theorem PGs.sub {X : Cx} {e : List Expr} {t t' : TGs} (p : PGs X e t) (h : ∀ v σ H Q, t' v σ H Q → t v σ H Q) : PGs X e t' := ⟨fun pins s σ H v u Q I r q => p.run pins s σ H v u Q I r (h v σ H Q q)⟩
theorem PI.sub {X : Cx} {tg e : Expr} {t t' : TI} (p : PI X tg e t) (h : ∀ σ H R, t' σ H R → t σ H R) : PI X tg e t' := ⟨fun pins s σ H R I q => p.run pins s σ H R I (h σ H R q)⟩
theorem PI.or {X : Cx} {tg e : Expr} {t t' : TI} (p : PI X tg e t) (p' : PI X tg e t') : PI X tg e (fun σ H R => t σ H R ∨ t' σ H R) := ⟨fun pins s σ H R I q => by
  rcases q with q | q
  · exact p.run pins s σ H R I q
  · exact p'.run pins s σ H R I q⟩
end L2
namespace Hc
open PySem PySem.Spec PyProof.Rows L2

section
variable {X : Cx} {C : Cc} {XW : WX} {Φ : Nat → List D → M D} {pos : Pos}
/-! targets -/
def gP (C : Cc) (p : Pat) : TG := fun v σc H Q => ∃ (S : Store) (W : Wd) (σ : Env) (d : D) (τ : Env), SRel C W S H ∧ Sls C W σ σc ∧ Rep C W v d ∧ bindP p d σ = some τ ∧ ∀ τc, Sls C W τ τc → (∀ i, i ∉ p.vars → τc[i]? = σc[i]?) → Q τc H
def gPs (C : Cc) (ps : Pats) : TGs := fun vs σc H Q => ∃ (S : Store) (W : Wd) (σ : Env) (ds : List D) (τ : Env), SRel C W S H ∧ Sls C W σ σc ∧ Reps C W vs ds ∧ bindPs ps ds σ = some τ ∧ ∀ τc, Sls C W τ τc → (∀ i, i ∉ ps.vars → τc[i]? = σc[i]?) → Q τc H
theorem g_n {i : Nat} {x : PySem.Str} (hN : X.N.Nodup) (hi : X.N[i]? = some x) (hx : Loc X.env.scope x) (hf : X.fn x = true ∨ X.env.scope.names.lookup x = some .local) : PG X (.Name x pos) (gP C (.n i)) := by
  refine (pg_name hN hi hx hf).sub fun v σc H Q ⟨S, W, σ, d, τ, sr, sl, r, e, q⟩ => ?_
  rw [bindP] at e
  cases e
  refine q _ (sl.set r i) fun j hj => ?_
  rw [List.getElem?_set_ne]
  intro e
  exact hj (by rw [← e]; simp [Pat.vars])
theorem gs_nil : PGs X [] (gPs C .nil) := by
  refine pgs_nil.sub fun vs σc H Q ⟨S, W, σ, ds, τ, sr, sl, r, e, q⟩ => ?_
  cases r with
  | nil =>
    rw [bindPs] at e
    cases e
    exact ⟨rfl, q _ sl fun _ _ => rfl⟩
  | cons _ _ =>
    rw [bindPs] at e
    cases e
theorem gs_cons {e : Expr} {es : List Expr} {p : Pat} {ps : Pats} (h1 : PG X e (gP C p)) (h2 : PGs X es (gPs C ps)) (hs : (assignEach (e :: es) X.env).map (·.2) = assign e X.env :: (assignEach es X.env).map (·.2)) : PGs X (e :: es) (gPs C (.cons p ps)) := by
  refine (pgs_cons h1 h2 hs).sub fun vs σc H Q ⟨S, W, σ, ds, τ, sr, sl, r, e, q⟩ => ?_
  cases r with
  | nil =>
    rw [bindPs] at e
    cases e
  | @cons v vr d dr r rr =>
    rw [bindPs] at e
    refine ⟨v, vr, rfl, ?_⟩
    cases e1 : bindP p d σ with
    | none => simp only [e1] at e; cases e
    | some σ1 =>
      simp only [e1] at e
      refine ⟨S, W, σ, d, σ1, sr, sl, r, e1, fun τc s1 k1 => ?_⟩
      refine ⟨S, W, σ1, dr, τ, sr, s1, rr, e, fun τc2 s2 k2 => q τc2 s2 fun i hi => ?_⟩
      rw [Pats.vars] at hi
      rw [k2 i (fun h => hi (List.mem_append.mpr (.inr h))), k1 i (fun h => hi (List.mem_append.mpr (.inl h)))]
def patsLen : Pats → Nat
  | .nil => 0
  | .cons _ ps => patsLen ps + 1
theorem bindPs_len : ∀ {ps : Pats} {ds : List D} {σ τ : Env}, bindPs ps ds σ = some τ → ds.length = patsLen ps
  | .nil, [], _, _, _ => rfl
  | .nil, _ :: _, _, _, h => by rw [bindPs] at h; cases h
  | .cons p ps, [], _, _, h => by rw [bindPs] at h; cases h
  | .cons p ps, d :: r, σ, τ, h => by
    rw [bindPs] at h
    cases e : bindP p d σ with
    | none => simp only [e] at h; cases h
    | some σ1 =>
      simp only [e] at h
      rw [List.length_cons, bindPs_len h, patsLen]
theorem g_t {es : List Expr} {k : Nat} {ps : Pats} (cx : CcX X C) (hc : X.calm = true) (h : PGs X es (gPs C ps)) (hn : (assignEach es X.env).length = patsLen ps) (hst : (assignEach es X.env).findIdx? (·.1) = none) : PG X (.Tuple es k pos) (gP C (.t ps)) := by
  refine (pg_tup hc h hn hst).sub fun v σc H Q ⟨S, W, σ, d, τ, sr, sl, r, e, q⟩ => ?_
  cases cx
  cases d with
  | tup ds =>
    rw [bindP] at e
    cases r with
    | @tup a vs _ hs rr hz =>
      exact ⟨a, vs, rfl, sqT_up sr.sub hs, by rw [rr.length, bindPs_len e], S, W, σ, ds, τ, sr, sl, rr, e, q⟩
  | _ => simp [bindP] at e
/-! what is walked -/
/-- an iterator gives a walk's items, while its lists stay -/
structure IW (C : Cc) (W : Wd) (H : Hp) (J : It) (w : Walk) : Prop where
  len : w.items.length ≤ 16777216
  go : ∀ i S' W' H', W.le W' → SRel C W' S' H' → lkOk w.locks S' = true → i < w.items.length → J.go i H'
  stop : ∀ S' W' H', W.le W' → SRel C W' S' H' → lkOk w.locks S' = true → J.stop w.items.length H'
  yld : ∀ i S' W' H' x H2, W.le W' → SRel C W' S' H' → lkOk w.locks S' = true → i < w.items.length → J.yld i H' x H2 → ∃ W2 d, w.items[i]? = some d ∧ Stp W' H' W2 H2 ∧ SRel C W2 S' H2 ∧ Rep C W2 x d
abbrev tI (C : Cc) (XW : WX) (f : Env → M Walk) : TI := tG C (IW C) XW f
/-- a sequence stays what it was -/
theorem seqAt {W : Wd} {S : Store} {H : Hp} {v : V} {d : D} {xs : List D} (sr : SRel C W S H) (r : Rep C W v d) (h : itemsOf S d = some xs) :
    ∃ t a, v = .ref a ∧ xs.length ≤ 16777216 ∧ (t = false → listOf S d = some xs) ∧ ((t = true) = ∃ ys, d = .tup ys) ∧ ∀ S' W' H', W.le W' → SRel C W' S' H' → lkOk (lkOf d xs) S' = true → ∃ vs, SqK t C.K H' a vs ∧ Reps C W' vs xs := by
  cases r with
  | @tup a vs ds hs hr hz =>
    cases (Option.some.inj h)
    exact ⟨true, _, rfl, hz, (fun e => nomatch e), by simp, fun S' W' H' st sr' _ => ⟨vs, sqT_up sr'.sub (sqT_up st.fz hs), hr.up st⟩⟩
  | @lst a vs ds hf hr hz =>
    cases (Option.some.inj h)
    exact ⟨false, _, rfl, hz, (fun _ => rfl), by simp, fun S' W' H' st sr' _ => ⟨vs, .inl (.inl (sr'.sub _ _ (st.fz _ _ hf))), hr.up st⟩⟩
  | @ref a n ha =>
    have h' : (match S[n]? with
      | some (.ml xs) => some xs
      | _ => none) = some xs := h
    cases e : S[n]? with
    | none => rw [e] at h'; cases h'
    | some o =>
      rw [e] at h'
      cases o with
      | dead => cases h'
      | ml ys =>
        cases (Option.some.inj (show some ys = some xs from h'))
        cases sr.ob n _ a e ha with
        | @ml _ _ _ _ hz =>
          refine ⟨false, a, rfl, hz, (fun _ => h), by simp, fun S' W' H' st sr' lk => ?_⟩
          have lk' : ((match S'[n]? with
            | some (.ml ys) => D.sames ys xs
            | _ => false) && true) = true := lk
          rw [Bool.and_true] at lk'
          cases e2 : S'[n]? with
          | none => rw [e2] at lk'; cases lk'
          | some o2 =>
            rw [e2] at lk'
            cases o2 with
            | dead => cases lk'
            | ml zs =>
              have ez := D.sames_eq zs xs lk'
              subst ez
              cases sr'.ob n _ a e2 (st.at ha) with
              | @ml vs _ hh rr _ => exact ⟨vs, .inl (.inl hh), rr⟩
  | non => cases h
  | bl _ => cases h
  | int _ => cases h
  | str _ => cases h
  | scr _ => cases h
  | gf _ => cases h
theorem SqL.same {K : PySem.W.Frag} {H : Hp} {a : Addr} {vs : List V} (h : SqL K H a vs) : SqK false K H a vs := h
theorem iw_list {W : Wd} {S : Store} {H : Hp} {a : Addr} {xs : List D} {l : Lks} (hz : xs.length ≤ 16777216) (h : ∀ S' W' H', W.le W' → SRel C W' S' H' → lkOk l S' = true → ∃ vs, SqK false C.K H' a vs ∧ Reps C W' vs xs) : IW C W H (Itl C.K a) ⟨xs, l⟩ := by
  refine ⟨hz, fun i S' W' H' st sr lk hi => ?_, fun S' W' H' st sr lk => ?_, fun i S' W' H' x H2 st sr lk hi y => ?_⟩
  · obtain ⟨vs, q, r⟩ := h S' W' H' st sr lk
    obtain ⟨v, h1, _⟩ := r.get (List.getElem?_eq_getElem hi)
    exact ⟨vs, v, q, h1⟩
  · obtain ⟨vs, q, r⟩ := h S' W' H' st sr lk
    exact ⟨vs, q, by rw [r.length]; exact Nat.le_refl _⟩
  · obtain ⟨vs, q, r⟩ := h S' W' H' st sr lk
    obtain ⟨v, h1, rv⟩ := r.get (List.getElem?_eq_getElem hi)
    obtain ⟨e, y2⟩ := y
    subst e
    have := (y2 vs q).symm.trans h1
    cases this
    exact ⟨W', _, List.getElem?_eq_getElem hi, Stp.refl _ _, sr, rv⟩
theorem iw_tup {W : Wd} {S : Store} {H : Hp} {a : Addr} {xs : List D} {l : Lks} (hz : xs.length ≤ 16777216) (h : ∀ S' W' H', W.le W' → SRel C W' S' H' → lkOk l S' = true → ∃ vs, SqK true C.K H' a vs ∧ Reps C W' vs xs) : IW C W H (Itt C.K a) ⟨xs, l⟩ := by
  refine ⟨hz, fun i S' W' H' st sr lk hi => ?_, fun S' W' H' st sr lk => ?_, fun i S' W' H' x H2 st sr lk hi y => ?_⟩
  · obtain ⟨vs, q, r⟩ := h S' W' H' st sr lk
    obtain ⟨v, h1, _⟩ := r.get (List.getElem?_eq_getElem hi)
    exact ⟨vs, v, q, h1⟩
  · obtain ⟨vs, q, r⟩ := h S' W' H' st sr lk
    exact ⟨vs, q, by rw [r.length]; exact Nat.le_refl _⟩
  · obtain ⟨vs, q, r⟩ := h S' W' H' st sr lk
    obtain ⟨v, h1, rv⟩ := r.get (List.getElem?_eq_getElem hi)
    obtain ⟨e, y2⟩ := y
    subst e
    have := (y2 vs q).symm.trans h1
    cases this
    exact ⟨W', _, List.getElem?_eq_getElem hi, Stp.refl _ _, sr, rv⟩
theorem iw_rng {W : Wd} {H : Hp} {i j : Int} (hz : (j - i).toNat ≤ 16777216) : IW C W H (Itr i (j - i).toNat) ⟨rangeD i j, []⟩ := by
  have hl : (rangeD i j).length = (j - i).toNat := by simp [rangeD]
  refine ⟨by rw [hl]; exact hz, fun k S' W' H' st sr lk hi => by rw [hl] at hi; exact hi, fun S' W' H' st sr lk => Nat.le_of_eq hl.symm, fun k S' W' H' x H2 st sr lk hi y => ?_⟩
  obtain ⟨e, y2⟩ := y
  subst e
  subst y2
  refine ⟨W', .int (i + (k : Int)), ?_, Stp.refl _ _, sr, .int _⟩
  rw [hl] at hi
  show (rangeD i j)[k]? = _
  simp [rangeD, hi]
theorem getE {xs : List D} {i : Nat} {d : D} (h : xs[i]? = some d) : (enumD xs)[i]? = some (.tup [.int (i : Int), d]) := by
  have hi := (List.getElem?_eq_some_iff.mp h).1
  simp [enumD, List.getElem?_zipWith, hi]
  exact (List.getElem?_eq_some_iff.mp h).2
theorem enumD_len (xs : List D) : (enumD xs).length = xs.length := by simp [enumD]
theorem zipD_len (xs ys : List D) : (zipD xs ys).length = min xs.length ys.length := by simp [zipD]
theorem getZ {xs ys : List D} {i : Nat} {d e : D} (h : xs[i]? = some d) (h2 : ys[i]? = some e) : (zipD xs ys)[i]? = some (.tup [d, e]) := by
  simp [zipD, List.getElem?_zipWith, h, h2]
theorem iw_enum {W : Wd} {S : Store} {H : Hp} {a : Addr} {t : Bool} {xs : List D} {l : Lks} (hz : xs.length ≤ 16777216) (h : ∀ S' W' H', W.le W' → SRel C W' S' H' → lkOk l S' = true → ∃ vs, SqK t C.K H' a vs ∧ Reps C W' vs xs) : IW C W H (ItE C.K t a) ⟨enumD xs, l⟩ := by
  refine ⟨by rw [enumD_len]; exact hz, fun i S' W' H' st sr lk hi => ?_, fun S' W' H' st sr lk => ?_, fun i S' W' H' x H2 st sr lk hi y => ?_⟩
  · obtain ⟨vs, q, r⟩ := h S' W' H' st sr lk
    rw [enumD_len] at hi
    obtain ⟨v, h1, _⟩ := r.get (List.getElem?_eq_getElem hi)
    exact ⟨vs, v, q, h1⟩
  · obtain ⟨vs, q, r⟩ := h S' W' H' st sr lk
    exact ⟨vs, q, by rw [r.length]; exact (enumD_len xs).symm⟩
  · obtain ⟨vs, q, r⟩ := h S' W' H' st sr lk
    rw [enumD_len] at hi
    obtain ⟨v, h1, rv⟩ := r.get (List.getElem?_eq_getElem hi)
    obtain ⟨T, x2, e1, hT, e2, y2⟩ := y
    subst e1
    subst e2
    have := (y2 vs q).symm.trans h1
    cases this
    refine ⟨W'.frz T _, _, getE (List.getElem?_eq_getElem hi), Stp.frz sr hT _, sr.frz hT _, .tup (.inl (.inl upd_same)) (.cons (.int _) (.cons (rv.up (Stp.frz sr hT _).le) .nil)) (by simp)⟩
theorem iw_zip {W : Wd} {S : Store} {H : Hp} {a b : Addr} {t u : Bool} {xs ys : List D} {l m : Lks} (hz : xs.length ≤ 16777216) (h : ∀ S' W' H', W.le W' → SRel C W' S' H' → lkOk l S' = true → ∃ vs, SqK t C.K H' a vs ∧ Reps C W' vs xs)
    (h' : ∀ S' W' H', W.le W' → SRel C W' S' H' → lkOk m S' = true → ∃ vs, SqK u C.K H' b vs ∧ Reps C W' vs ys) : IW C W H (ItZ C.K t u a b) ⟨zipD xs ys, l ++ m⟩ := by
  have sp : ∀ S', lkOk (l ++ m) S' = true → lkOk l S' = true ∧ lkOk m S' = true := fun S' e => by
    unfold lkOk at e
    rw [List.all_append, Bool.and_eq_true] at e
    exact e
  refine ⟨by rw [zipD_len]; omega, fun i S' W' H' st sr lk hi => ?_, fun S' W' H' st sr lk => ?_, fun i S' W' H' x H2 st sr lk hi y => ?_⟩
  · obtain ⟨vs, q, r⟩ := h S' W' H' st sr (sp _ lk).1
    obtain ⟨us, q2, r2⟩ := h' S' W' H' st sr (sp _ lk).2
    rw [zipD_len] at hi
    obtain ⟨v, h1, _⟩ := r.get (List.getElem?_eq_getElem (show i < xs.length by omega))
    obtain ⟨u', h2, _⟩ := r2.get (List.getElem?_eq_getElem (show i < ys.length by omega))
    exact ⟨vs, us, v, u', q, q2, h1, h2⟩
  · obtain ⟨vs, q, r⟩ := h S' W' H' st sr (sp _ lk).1
    obtain ⟨us, q2, r2⟩ := h' S' W' H' st sr (sp _ lk).2
    have e := zipD_len xs ys
    refine ⟨vs, us, q, q2, ?_, ?_, ?_⟩ <;> (show _ ; simp only [r.length, r2.length, e]; omega)
  · obtain ⟨vs, q, r⟩ := h S' W' H' st sr (sp _ lk).1
    obtain ⟨us, q2, r2⟩ := h' S' W' H' st sr (sp _ lk).2
    rw [zipD_len] at hi
    have i1 : i < xs.length := by omega
    have i2 : i < ys.length := by omega
    obtain ⟨v, h1, rv⟩ := r.get (List.getElem?_eq_getElem i1)
    obtain ⟨u', h2, ru⟩ := r2.get (List.getElem?_eq_getElem i2)
    obtain ⟨T, x2, y2, e1, hT, e2, y3, y4⟩ := y
    subst e1
    subst e2
    have := (y3 vs q).symm.trans h1
    cases this
    have := (y4 us q2).symm.trans h2
    cases this
    refine ⟨W'.frz T _, _, getZ (List.getElem?_eq_getElem i1) (List.getElem?_eq_getElem i2), Stp.frz sr hT _, sr.frz hT _, .tup (.inl (.inl upd_same)) (.cons (rv.up (Stp.frz sr hT _).le) (.cons (ru.up (Stp.frz sr hT _).le) .nil)) (by simp)⟩
/-! the sources -/
theorem s_seq (cx : CcX X C) {tg e : Expr} {x : Ex} (pe : PE X e (tD C XW (eE Φ x))) : PI X tg e (tI C XW (eS Φ (.seq x))) := by
  refine ((pi_list pe).or (pi_tup pe)).sub fun σc H R ⟨σ, S, W, sr, sl, h⟩ => ?_
  have cK : X.K = C.K := by cases cx; rfl
  rw [cK]
  rw [eS] at h
  cases e1 : eE Φ x σ S with
  | bad => rw [bind_at, e1] at h; exact h.elim
  | exc a b =>
    rw [bind_at, e1] at h
    refine .inl ⟨σ, S, W, sr, sl, ?_⟩
    rw [e1]
    exact h
  | ok d S1 =>
    rw [bind_at, e1] at h
    have h2 : Kg C (IW C) XW W H σc ((M.ask (fun S => itemsOf S d) >>= fun xs => pure ⟨xs, lkOf d xs⟩) S1) R := h
    obtain ⟨xs, h3, h4⟩ := Kg.askB h2
    cases d with
    | tup ds =>
      refine .inr ⟨σ, S, W, sr, sl, ?_⟩
      rw [e1]
      intro v H' W' st sr' r
      obtain ⟨t, a, rfl, hz, ht, ht2, hs⟩ := seqAt sr' r h3
      have et : t = true := by rw [ht2]; exact ⟨_, rfl⟩
      subst et
      obtain ⟨vs, q, rr⟩ := hs S1 W' H' (Wd.le.refl _) sr' rfl
      refine ⟨a, rfl, ⟨vs, q⟩, ?_⟩
      exact (show Kg C (IW C) XW W H σc (.ok ⟨xs, lkOf (.tup ds) xs⟩ S1) R from h4) _ _ _ st sr' (iw_tup (S := S1) hz hs)
    | lst ds =>
      refine .inl ⟨σ, S, W, sr, sl, ?_⟩
      rw [e1]
      intro v H' W' st sr' r
      obtain ⟨t, a, rfl, hz, ht, ht2, hs⟩ := seqAt sr' r h3
      have et : t = false := by
        cases t with
        | false => rfl
        | true => obtain ⟨_, e⟩ := (show ∃ ys, D.lst ds = .tup ys by rw [← ht2]); cases e
      subst et
      obtain ⟨vs, q, rr⟩ := hs S1 W' H' (Wd.le.refl _) sr' rfl
      refine ⟨a, rfl, ⟨vs, q⟩, ?_⟩
      exact (show Kg C (IW C) XW W H σc (.ok ⟨xs, lkOf (.lst ds) xs⟩ S1) R from h4) _ _ _ st sr' (iw_list (S := S1) hz hs)
    | ref n =>
      refine .inl ⟨σ, S, W, sr, sl, ?_⟩
      rw [e1]
      intro v H' W' st sr' r
      obtain ⟨t, a, rfl, hz, ht, ht2, hs⟩ := seqAt sr' r h3
      have et : t = false := by
        cases t with
        | false => rfl
        | true => obtain ⟨_, e⟩ := (show ∃ ys, D.ref n = .tup ys by rw [← ht2]); cases e
      subst et
      have lk0 : lkOk (lkOf (.ref n) xs) S1 = true := by
        show ((match S1[n]? with
            | some (.ml ys) => D.sames ys xs
            | _ => false) && true) = true
        rw [Bool.and_true]
        have h' : (match S1[n]? with
          | some (.ml xs) => some xs
          | _ => none) = some xs := h3
        cases e5 : S1[n]? with
        | none => rw [e5] at h'; cases h'
        | some o =>
          rw [e5] at h'
          cases o with
          | dead => cases h'
          | ml ys =>
            cases (Option.some.inj (show some ys = some xs from h'))
            exact D.sames_refl xs
      obtain ⟨vs, q, rr⟩ := hs S1 W' H' (Wd.le.refl _) sr' lk0
      refine ⟨a, rfl, ⟨vs, q⟩, ?_⟩
      exact (show Kg C (IW C) XW W H σc (.ok ⟨xs, lkOf (.ref n) xs⟩ S1) R from h4) _ _ _ st sr' (iw_list (S := S1) hz hs)
    | _ => cases h3
theorem lk_now {S : Store} {d : D} {xs : List D} (h : itemsOf S d = some xs) : lkOk (lkOf d xs) S = true := by
  cases d with
  | ref n =>
    show ((match S[n]? with
        | some (.ml ys) => D.sames ys xs
        | _ => false) && true) = true
    rw [Bool.and_true]
    have h' : (match S[n]? with
      | some (.ml xs) => some xs
      | _ => none) = some xs := h
    cases e5 : S[n]? with
    | none => rw [e5] at h'; cases h'
    | some o =>
      rw [e5] at h'
      cases o with
      | dead => cases h'
      | ml ys =>
        cases (Option.some.inj (show some ys = some xs from h'))
        exact D.sames_refl xs
  | _ => rfl
theorem s_enm (cx : CcX X C) {e : Expr} {x : Ex} {p tpos : Pos} {elts : List Expr} {kk : Nat} (hg : Gl X "enumerate") (hm : X.mg "enumerate" = none) (pe : PE X e (tD C XW (eE Φ x))) (hs : starEach [e] X.env = [(false, eval e X.env)]) : PI X (.Tuple elts kk tpos) (.Call (.Name "enumerate" p) [e] [] pos) (tI C XW (eS Φ (.enm x))) := by
  refine (pi_E hg hm pe hs).sub fun σc H R ⟨σ, S, W, sr, sl, h⟩ => ?_
  have cK : X.K = C.K := by cases cx; rfl
  rw [cK]
  rw [eS] at h
  refine tG_step h sr sl fun v H1 W1 S1 d st sr1 sl1 r h1 => ?_
  obtain ⟨xs, h3, h4⟩ := Kg.askB h1
  obtain ⟨t, a, rfl, hz, ht, ht2, hs⟩ := seqAt sr1 r h3
  obtain ⟨vs, q, rr⟩ := hs S1 W1 H1 (Wd.le.refl _) sr1 (lk_now h3)
  exact ⟨t, a, vs, rfl, q, (show Kg C (IW C) XW W1 H1 σc (.ok ⟨enumD xs, lkOf d xs⟩ S1) R from h4) _ _ _ (Stp.refl _ _) sr1 (iw_enum (S := S1) hz hs)⟩
theorem s_zip (cx : CcX X C) {e e2 : Expr} {x y : Ex} {p tpos : Pos} {elts : List Expr} {kk : Nat} (hg : Gl X "zip") (hm : X.mg "zip" = none) (pe : PE X e (tD C XW (eE Φ x))) (pe2 : PE X e2 (tD C XW (eE Φ y))) (hs : starEach [e, e2] X.env = [(false, eval e X.env), (false, eval e2 X.env)]) (hs2 : starEach [e2] X.env = [(false, eval e2 X.env)]) : PI X (.Tuple elts kk tpos) (.Call (.Name "zip" p) [e, e2] [] pos) (tI C XW (eS Φ (.zip x y))) := by
  refine (pi_Z hg hm pe pe2 hs hs2).sub fun σc H R ⟨σ, S, W, sr, sl, h⟩ => ?_
  have cK : X.K = C.K := by cases cx; rfl
  rw [cK]
  rw [eS] at h
  refine tG_step h sr sl fun v H0 W0 S0 d0 st0 sr0 sl0 r0 h0 => ?_
  refine tG_step h0 sr0 sl0 fun u H1 W1 S1 d st sr1 sl1 r h1 => ?_
  obtain ⟨xs, h3, h4⟩ := Kg.askB h1
  obtain ⟨ys, h5, h6⟩ := Kg.askB h4
  obtain ⟨t, a, rfl, hz, ht, ht2, hs⟩ := seqAt sr1 (r0.up st.le) h3
  obtain ⟨vs, q, rr⟩ := hs S1 W1 H1 (Wd.le.refl _) sr1 (lk_now h3)
  obtain ⟨t', b, rfl, hz', ht', ht2', hs'⟩ := seqAt sr1 r h5
  obtain ⟨us, q', rr'⟩ := hs' S1 W1 H1 (Wd.le.refl _) sr1 (lk_now h5)
  exact ⟨t, t', a, b, vs, us, rfl, rfl, q, q', (show Kg C (IW C) XW W1 H1 σc (.ok ⟨zipD xs ys, lkOf d0 xs ++ lkOf d ys⟩ S1) R from h6) _ _ _ (Stp.refl _ _) sr1 (iw_zip (S := S1) hz hs hs')⟩
theorem rngOk_of {i j : Int} (h : rngOk i j = true) : (-(2 ^ 62) ≤ i ∧ i < 2 ^ 62 ∧ -(2 ^ 62) ≤ j ∧ j < 2 ^ 62) ∧ (j - i).toNat ≤ 16777216 := by
  unfold rngOk at h
  simp only [Bool.and_eq_true, decide_eq_true_eq] at h
  obtain ⟨⟨⟨⟨h1, h2⟩, h3⟩, h4⟩, h5⟩ := h
  exact ⟨⟨h1, h2, h3, h4⟩, h5⟩
theorem s_rng (cx : CcX X C) {tg e : Expr} {x : Ex} {p : Pos} (hg : Gl X "range") (hm : X.mg "range" = none) (pe : PA X [e] (tDs C XW (eEs Φ (.cons x .nil)))) (hs : starEach [e] X.env = [(false, eval e X.env)]) : PI X tg (.Call (.Name "range" p) [e] [] pos) (tI C XW (eS Φ (.rng x))) := by
  refine (pi_range1 hg hm pe hs).sub fun σc H R ⟨σ, S, W, sr, sl, h⟩ => ?_
  rw [eS] at h
  have h' : Kg C (IW C) XW W H σc ((eEs Φ (.cons x .nil) σ >>= fun ds => (match ds with
    | [.int j] => if rngOk 0 j then pure ⟨rangeD 0 j, []⟩ else M.bad
    | _ => M.bad)) S) R := by
    simp only [eEs, bind_assoc]
    refine Eq.mp (congrArg (fun m : M Walk => Kg C (IW C) XW W H σc (m S) R) ?_) h
    funext S
    rw [bind_at, bind_at]
    cases e1 : eE Φ x σ S with
    | ok d S1 => cases d <;> rfl
    | _ => rfl
  refine tG_step h' sr sl fun vs H1 W1 S1 ds st sr1 sl1 r h1 => ?_
  match ds, r, h1 with
  | [.int j], .cons r .nil, h1 =>
    cases r
    cases e : rngOk 0 j with
    | false => simp only [e] at h1; exact h1.elim
    | true =>
      simp only [e] at h1
      obtain ⟨⟨a1, a2, a3, a4⟩, a5⟩ := rngOk_of e
      rw [Int.sub_zero] at a5
      refine ⟨j, rfl, a3, a4, ?_⟩
      have h2 := (show Kg C (IW C) XW W1 H1 σc (.ok ⟨rangeD 0 j, []⟩ S1) R from h1) (Itr 0 j.toNat) _ _ (Stp.refl _ _) sr1
      have h3 := iw_rng (C := C) (W := W1) (H := H1) (i := 0) (j := j) (by rw [Int.sub_zero]; exact a5)
      rw [Int.sub_zero] at h3
      exact h2 h3
theorem s_rng2 (cx : CcX X C) {tg e e2 : Expr} {x y : Ex} {p : Pos} (hg : Gl X "range") (hm : X.mg "range" = none) (pe : PA X [e, e2] (tDs C XW (eEs Φ (.cons x (.cons y .nil))))) (hs : starEach [e, e2] X.env = [(false, eval e X.env), (false, eval e2 X.env)]) (hs2 : starEach [e2] X.env = [(false, eval e2 X.env)]) : PI X tg (.Call (.Name "range" p) [e, e2] [] pos) (tI C XW (eS Φ (.rng2 x y))) := by
  refine (pi_range2 hg hm pe hs hs2).sub fun σc H R ⟨σ, S, W, sr, sl, h⟩ => ?_
  rw [eS] at h
  have h' : Kg C (IW C) XW W H σc ((eEs Φ (.cons x (.cons y .nil)) σ >>= fun ds => (match ds with
    | [.int i, .int j] => if rngOk i j then pure ⟨rangeD i j, []⟩ else M.bad
    | _ => M.bad)) S) R := by
    simp only [eEs, bind_assoc]
    refine Eq.mp (congrArg (fun m : M Walk => Kg C (IW C) XW W H σc (m S) R) ?_) h
    funext S
    rw [bind_at, bind_at]
    cases e1 : eE Φ x σ S with
    | ok d S1 =>
      show ((eE Φ y σ >>= _ : M Walk)) S1 = ((eE Φ y σ >>= _ : M Walk)) S1
      rw [bind_at, bind_at]
      cases e2 : eE Φ y σ S1 with
      | ok d' S2 => cases d <;> cases d' <;> rfl
      | _ => rfl
    | _ => rfl
  refine tG_step h' sr sl fun vs H1 W1 S1 ds st sr1 sl1 r h1 => ?_
  match ds, r, h1 with
  | [.int i, .int j], .cons r (.cons r' .nil), h1 =>
    cases r
    cases r'
    cases e : rngOk i j with
    | false => simp only [e] at h1; exact h1.elim
    | true =>
      simp only [e] at h1
      obtain ⟨a, a5⟩ := rngOk_of e
      refine ⟨i, j, rfl, a, ?_⟩
      exact (show Kg C (IW C) XW W1 H1 σc (.ok ⟨rangeD i j, []⟩ S1) R from h1) _ _ _ (Stp.refl _ _) sr1 (iw_rng a5)
end
end Hc
end
section
set_option Elab.async false
set_option linter.all false
set_option maxRecDepth 100000
set_option autoImplicit false
/-! Comprehensions. -/
namespace L2
open PySem PySem.Spec PyProof.Rows
theorem PTs.sub {X : Cx} {e : List Expr} {t t' : TT} (p : PTs X e t) (h : ∀ σ H Q, t' σ H Q → t σ H Q) : PTs X e t' := ⟨fun pins s σ H Q I q => p.run pins s σ H Q I (h σ H Q q)⟩
end L2
namespace Hc
open PySem PySem.Spec PyProof.Rows L2

theorem wipe_get {σ : L2.St} : ∀ {vs : List Nat} {i : Nat}, (wipe σ vs)[i]? = if i ∈ vs ∧ i < σ.length then some none else σ[i]?
  | [], i => by simp [wipe]
  | v :: vs, i => by
    unfold wipe
    by_cases hv : v = i
    · subst hv
      by_cases hl : v < σ.length
      · rw [List.getElem?_set_self (by rw [wipe_length]; exact hl), if_pos ⟨by simp, hl⟩]
      · rw [List.getElem?_eq_none (by rw [List.length_set, wipe_length]; omega), if_neg (fun h => hl h.2), List.getElem?_eq_none (by omega)]
    · rw [List.getElem?_set_ne hv, wipe_get]
      have : (i ∈ v :: vs) ↔ i ∈ vs := by
        simp only [List.mem_cons]
        exact ⟨fun h => h.resolve_left (fun e => hv e.symm), .inr⟩
      simp only [this]
theorem wipe_same {a b : L2.St} {vs : List Nat} (hl : a.length = b.length) (h : ∀ i, i ∉ vs → a[i]? = b[i]?) : wipe a vs = wipe b vs := by
  apply List.ext_getElem?
  intro i
  rw [wipe_get, wipe_get, hl]
  by_cases hi : i ∈ vs
  · by_cases hb : i < b.length
    · rw [if_pos ⟨hi, hb⟩, if_pos ⟨hi, hb⟩]
    · rw [if_neg (fun h => hb h.2), if_neg (fun h => hb h.2), List.getElem?_eq_none (by omega), List.getElem?_eq_none (by omega)]
  · rw [if_neg (fun h => hi h.1), if_neg (fun h => hi h.1), h i hi]
theorem wipe_twice (σ : L2.St) (vs : List Nat) : wipe (wipe σ vs) vs = wipe σ vs := by
  refine wipe_same (wipe_length _ _) fun i hi => ?_
  rw [wipe_get, if_neg (fun h => hi h.1)]
theorem clr_len (σ : Env) : ∀ vs : List Nat, (clr σ vs).length = σ.length
  | [] => rfl
  | v :: vs => by unfold clr; rw [List.length_set, clr_len σ vs]
theorem clr_some {σ : Env} {i : Nat} {x : D} : ∀ {vs : List Nat}, (clr σ vs)[i]? = some (some x) → σ[i]? = some (some x) ∧ i ∉ vs
  | [], h => ⟨h, by simp⟩
  | v :: vs, h => by
    unfold clr at h
    by_cases hi : v = i
    · subst hi
      by_cases hv : v < (clr σ vs).length
      · rw [List.getElem?_set_self hv] at h; cases h
      · rw [List.getElem?_eq_none (by simpa using hv)] at h; cases h
    · rw [List.getElem?_set_ne hi] at h
      obtain ⟨h1, h2⟩ := clr_some h
      exact ⟨h1, by simp only [List.mem_cons, not_or]; exact ⟨fun e => hi e.symm, h2⟩⟩
theorem Sls.clr {C : Cc} {W : Wd} {σ : Env} {σc : L2.St} (s : Sls C W σ σc) (vs : List Nat) : Sls C W (clr σ vs) (wipe σc vs) := by
  refine ⟨by rw [clr_len, wipe_length, s.len], fun i d h => ?_⟩
  obtain ⟨h1, h2⟩ := clr_some h
  obtain ⟨v, h3, r⟩ := s.at_ i d h1
  exact ⟨v, by rw [wipe_get, if_neg (fun h => h2 h.1)]; exact h3, r⟩
mutual
theorem bindP_length : ∀ {p : Pat} {d : D} {σ τ : Env}, bindP p d σ = some τ → τ.length = σ.length
  | .n i, d, σ, τ, h => by
    rw [bindP] at h
    cases h
    exact List.length_set
  | .t ps, .tup ds, σ, τ, h => by
    rw [bindP] at h
    exact bindPs_length h
  | .t ps, .non, σ, τ, h => by simp [bindP] at h
  | .t ps, .bl _, σ, τ, h => by simp [bindP] at h
  | .t ps, .int _, σ, τ, h => by simp [bindP] at h
  | .t ps, .str _, σ, τ, h => by simp [bindP] at h
  | .t ps, .lst _, σ, τ, h => by simp [bindP] at h
  | .t ps, .scr _, σ, τ, h => by simp [bindP] at h
  | .t ps, .ref _, σ, τ, h => by simp [bindP] at h
  | .t ps, .gf _, σ, τ, h => by simp [bindP] at h
  | .t ps, .exn _ _, σ, τ, h => by simp [bindP] at h
theorem bindPs_length : ∀ {ps : Pats} {ds : List D} {σ τ : Env}, bindPs ps ds σ = some τ → τ.length = σ.length
  | .nil, [], σ, τ, h => by
    rw [bindPs] at h
    cases h
    rfl
  | .nil, _ :: _, _, _, h => by rw [bindPs] at h; cases h
  | .cons p ps, [], _, _, h => by rw [bindPs] at h; cases h
  | .cons p ps, d :: r, σ, τ, h => by
    rw [bindPs] at h
    cases e : bindP p d σ with
    | none => simp only [e] at h; cases h
    | some σ1 =>
      simp only [e] at h
      rw [bindPs_length h, bindP_length e]
end
section
variable {X : Cx} {C : Cc} {XW : WX} {Φ : Nat → List D → M D} {pos : Pos}
/-- no error may leave -/
def noW : WX := fun _ _ _ _ => False
theorem ok_bind {α β : Type} {m : M α} {k : α → M β} {S S' : Store} {b : β} (h : (m >>= k) S = .ok b S') : ∃ a S1, m S = .ok a S1 ∧ k a S1 = .ok b S' := by
  rw [bind_at] at h
  cases e : m S with
  | ok a S1 => rw [e] at h; exact ⟨a, S1, rfl, h⟩
  | exc a b => rw [e] at h; cases h
  | bad => rw [e] at h; cases h
theorem ok_opt {α : Type} {o : Option α} {S S' : Store} {a : α} (h : M.opt o S = .ok a S') : o = some a ∧ S = S' := by
  cases o with
  | none => cases h
  | some x =>
    cases (show Out.ok x S = .ok a S' from h)
    exact ⟨rfl, rfl⟩
/-- a step whose end is known -/
theorem tG_ok {α β : Type} {rel : Wd → Hp → β → α → Prop} {f : Env → M α} {σ : Env} {σc : L2.St} {S S' : Store} {W : Wd} {H : Hp} {a : α} {Q : β → Hp → Prop} (sr : SRel C W S H) (sl : Sls C W σ σc) (e : f σ S = .ok a S')
    (n : ∀ b H' W', Stp W H W' H' → SRel C W' S' H' → Sls C W' σ σc → rel W' H' b a → Q b H') : tG C rel XW f σc H Q := by
  refine ⟨σ, S, W, sr, sl, ?_⟩
  rw [e]
  exact fun b H' W' st sr' r => n b H' W' st sr' (sl.up st.le) r
/-- one item of a comprehension -/
abbrev itemM (Φ : Nat → List D → M D) (e : Ex) (p : Pat) (c : Exo) (σ : Env) : D → M (Option D) := fun d => M.opt (bindP p d σ) >>= fun τ => eC Φ c τ >>= fun b => if b then (eE Φ e τ >>= fun x => pure (some x)) else pure none
/-- the new list as far as it is made -/
structure Made (C : Cc) (W1 : Wd) (H1 : Hp) (D : Addr) (S : Store) (acc : List Hc.D) (W : Wd) (H : Hp) : Prop where
  st : Stp W1 H1 W H
  sr : SRel C W S H
  nr : D ∉ W.ρ
  nf : W.F D = none
  at_ : ∃ vs, H D = some (.lst vs) ∧ Reps C W vs acc
theorem Made.step {W1 W W' : Wd} {H1 H H' : Hp} {D : Addr} {S S' : Store} {acc : List Hc.D} (m : Made C W1 H1 D S acc W H) (st : Stp W H W' H') (sr : SRel C W' S' H') : Made C W1 H1 D S' acc W' H' := by
  obtain ⟨vs, h, r⟩ := m.at_
  exact ⟨m.st.trans st, sr, st.out (by rw [h]; simp) m.nr, st.apart (by rw [h]; simp) m.nr m.nf, vs, st.fr _ _ h m.nr, r.up st.le⟩
theorem Made.more {W1 W : Wd} {H1 H : Hp} {D : Addr} {S : Store} {acc : List Hc.D} {y : Hc.D} {v : V} {vs : List V} (hD : H1 D = none) (m : Made C W1 H1 D S acc W H) (h : H D = some (.lst vs)) (rv : Rep C W v y) : Made C W1 H1 D S (acc ++ [y]) W (upd H D (.lst (vs ++ [v]))) := by
  obtain ⟨us, h', r⟩ := m.at_
  rw [h] at h'
  cases h'
  exact ⟨m.st.own hD _, m.sr.own m.nr m.nf _, m.nr, m.nf, vs ++ [v], upd_same, r.append (.cons rv .nil)⟩
theorem lc_turn {W1 W2 : Wd} {H1 H' : Hp} {D : Addr} {S' S4 : Store} {acc : List Hc.D} {σ0 : Env} {σc0 : L2.St} {p : Pat} {c : Exo} {e : Ex} {x : V} {d : Hc.D} {ro : Option Hc.D} {vs : List Nat} {N : Hp → Prop}
    (hD : H1 D = none) (m : Made C W1 H1 D S' acc W2 H') (hz : (acc ++ ro.toList).length ≤ 16777216) (sl : Sls C W2 σ0 σc0) (r : Rep C W2 x d) (run : itemM Φ e p c σ0 d S' = .ok ro S4) (hv : ∀ i ∈ p.vars, i ∈ vs) (hw : wipe σc0 vs = σc0)
    (hN : ∀ W4 H4, W2.le W4 → Made C W1 H1 D S4 (acc ++ ro.toList) W4 H4 → N H4) :
    gP C p x σc0 H' fun σ2 H2 => wipe σ2 vs = σc0 ∧ tBo C noW (eC Φ c) σ2 H2 fun b H3 => if b = true then tD C noW (eE Φ e) σ2 H3 fun y H4 => ∃ acc, H4 D = some (.lst acc) ∧ acc.length < sizeLine ∧ N (upd H4 D (.lst (acc ++ [y]))) else N H3 := by
  obtain ⟨τ, S2, e1, run⟩ := ok_bind run
  obtain ⟨eb, rfl⟩ := ok_opt e1
  obtain ⟨b, S3, e2, run⟩ := ok_bind run
  refine ⟨S', W2, σ0, d, τ, m.sr, sl, r, eb, fun τc s1 k1 => ⟨?_, ?_⟩⟩
  · refine (wipe_same ?_ fun i hi => k1 i fun h => hi (hv i h)).trans hw
    rw [← s1.len, bindP_length eb, sl.len]
  · refine tG_ok m.sr s1 e2 fun b' H3 W3 st3 sr3 sl3 eb' => ?_
    cases eb'
    have m3 := m.step st3 sr3
    cases b with
    | false =>
      rw [if_neg Bool.false_ne_true]
      cases (show Out.ok none S3 = .ok ro S4 from run)
      exact hN W3 H3 st3.le (by simpa using m3)
    | true =>
      rw [if_pos rfl]
      obtain ⟨y, S5, e3, run⟩ := ok_bind (show (eE Φ e τ >>= fun x => pure (some x)) S3 = .ok ro S4 from run)
      cases (show Out.ok (some y) S5 = .ok ro S4 from run)
      refine tG_ok sr3 sl3 e3 fun v H4 W4 st4 sr4 sl4 rv => ?_
      have m4 := m3.step st4 sr4
      obtain ⟨us, hu, ru⟩ := m4.at_
      exact ⟨us, hu, by rw [ru.length, sizeLine_eq]; rw [List.length_append] at hz; exact hz, hN W4 _ (st3.le.trans st4.le) (m4.more hD hu rv)⟩
theorem lcM_ok {l : Lks} {f : D → M (Option D)} {d : D} {ds rest : List D} {S Sf : Store} (h : lcM l f (d :: ds) S = .ok rest Sf) : lkOk l S = true ∧ ∃ ro S1 rs, f d S = .ok ro S1 ∧ lcM l f ds S1 = .ok rs Sf ∧ rest = ro.toList ++ rs := by
  rw [lcM] at h
  cases e : lkOk l S with
  | false => simp only [e] at h; cases h
  | true =>
    simp only [e] at h
    obtain ⟨ro, S1, e1, h⟩ := ok_bind (show (f d >>= fun r => lcM l f ds >>= fun rs => (pure (match r with
    | some x => x :: rs
    | none => rs) : M (List D))) S = .ok rest Sf from h)
    obtain ⟨rs, S2, e2, h⟩ := ok_bind h
    cases (show Out.ok _ S2 = .ok rest Sf from h)
    refine ⟨rfl, ro, S1, rs, e1, e2, ?_⟩
    cases ro <;> rfl
theorem lcM_nil {l : Lks} {f : D → M (Option D)} {rest : List D} {S Sf : Store} (h : lcM l f [] S = .ok rest Sf) : lkOk l S = true ∧ rest = [] ∧ Sf = S := by
  rw [lcM] at h
  cases e : lkOk l S with
  | false => simp only [e] at h; cases h
  | true =>
    simp only [e] at h
    cases (show Out.ok [] S = .ok rest Sf from h)
    exact ⟨rfl, rfl, rfl⟩
/-- a walk's loop that fills the new list: by turns -/
theorem lc_loop {W1 : Wd} {H1 : Hp} {D : Addr} {S0 Sf : Store} {acc0 rest : List Hc.D} {W0 W00 : Wd} {H0 H00 : Hp} {l : Lks} {f : Hc.D → M (Option Hc.D)} {items : List Hc.D} {J : It} {Qd : Hp → Prop} {T : V → Hp → (Hp → Prop) → Prop}
    (m0 : Made C W1 H1 D S0 acc0 W0 H0) (le0 : W00.le W0) (iw : IW C W00 H00 J ⟨items, l⟩) (run : lcM l f items S0 = .ok rest Sf)
    (turn : ∀ (i : Nat) S' ro S4 acc W2 H' x d N, items[i]? = some d → Made C W1 H1 D S' acc W2 H' → W0.le W2 → (acc ++ ro.toList).length ≤ (acc0 ++ rest).length → Rep C W2 x d → f d S' = .ok ro S4 → (∀ W4 H4, W2.le W4 → Made C W1 H1 D S4 (acc ++ ro.toList) W4 H4 → N H4) → T x H' N)
    (done : ∀ W2 H', W0.le W2 → Made C W1 H1 D Sf (acc0 ++ rest) W2 H' → Qd H') :
    ∃ W : Nat → Nat → Hp → Prop, (∃ m, W 0 m H0) ∧ ∀ i m H, W i m H → (J.stop i H ∧ Qd H) ∨ (J.go i H ∧ ∃ Nx : Hp → Prop, (∀ H', Nx H' → ∃ m', m' < m ∧ W (i + 1) m' H') ∧ ∀ x H', J.yld i H x H' → T x H' Nx) := by
  let Pv : Nat → Hp → Prop := fun i H => ∃ S' W' acc rest', Made C W1 H1 D S' acc W' H ∧ W0.le W' ∧ lcM l f (items.drop i) S' = .ok rest' Sf ∧ acc ++ rest' = acc0 ++ rest
  refine ⟨fun i m H => m = items.length - i ∧ i ≤ items.length ∧ Pv i H, ⟨items.length, by simp, Nat.zero_le _, S0, W0, acc0, rest, m0, Wd.le.refl _, run, rfl⟩, ?_⟩
  rintro i m H ⟨rfl, hi, S', W', acc, rest', md, le, run', eq⟩
  by_cases hlt : i < items.length
  · rw [List.drop_eq_getElem_cons hlt] at run'
    obtain ⟨lk, ro, S1, rs, e1, e2, e3⟩ := lcM_ok run'
    refine .inr ⟨iw.go i S' W' H (le0.trans le) md.sr lk hlt, Pv (i + 1), fun H' p' => ⟨items.length - (i + 1), by omega, rfl, hlt, p'⟩, fun x H' y => ?_⟩
    obtain ⟨W2, d, hd, st, sr, r⟩ := iw.yld i S' W' H x H' (le0.trans le) md.sr lk hlt y
    have hd' : items[i]? = some d := hd
    have ed : items[i] = d := (List.getElem?_eq_some_iff.mp hd').2
    rw [ed] at e1
    have eq2 : (acc ++ ro.toList) ++ rs = acc0 ++ rest := by rw [List.append_assoc, ← e3, eq]
    refine turn i S' ro S1 acc W2 H' x d (Pv (i + 1)) hd (md.step st sr) (le.trans st.le) ?_ r e1 fun W4 H4 l4 m4 => ?_
    · rw [← eq2, List.length_append (as := acc ++ ro.toList)]
      omega
    · exact ⟨S1, W4, acc ++ ro.toList, rs, m4, (le.trans st.le).trans l4, e2, eq2⟩
  · have ei : i = items.length := by omega
    subst ei
    rw [List.drop_length] at run'
    obtain ⟨lk, e1, e2⟩ := lcM_nil run'
    subst e1
    subst e2
    rw [List.append_nil] at eq
    refine .inl ⟨iw.stop _ W' H (le0.trans le) md.sr lk, done W' H le ?_⟩
    rw [← eq]
    exact md
theorem lcM_len {l : Lks} {f : D → M (Option D)} : ∀ {ds rest : List D} {S Sf : Store}, lcM l f ds S = .ok rest Sf → rest.length ≤ ds.length
  | [], rest, S, Sf, h => by rw [(lcM_nil h).2.1]; simp
  | d :: ds, rest, S, Sf, h => by
    obtain ⟨_, ro, S1, rs, _, e2, e3⟩ := lcM_ok h
    have := lcM_len e2
    rw [e3, List.length_append, List.length_cons]
    have : ro.toList.length ≤ 1 := by cases ro <;> simp
    omega
/-- the list as the value -/
theorem Made.end_ {W1 W : Wd} {H1 H : Hp} {D : Addr} {S : Store} {acc : List Hc.D} {m : Bool} {σc : L2.St} {Q : VK} (hD : H1 D = none) (md : Made C W1 H1 D S acc W H) (hz : acc.length ≤ 16777216) (h : Kg C (relD C) XW W1 H1 σc (mkList m acc S) Q) : Q (.ref D) H := by
  obtain ⟨vs, hh, r⟩ := md.at_
  cases m with
  | false =>
    have h' : Kg C (relD C) XW W1 H1 σc (.ok (.lst acc) S) Q := h
    have st := md.st.ownF hD md.nf (.lst vs)
    have sr := md.sr.ownF md.nr md.nf hh
    have l : W.le (W.frz D (.lst vs)) := ⟨fun b u hb => upd_up md.nf hb, [], (List.append_nil _).symm⟩
    exact h' _ _ _ st sr (.lst upd_same (r.up l) hz)
  | true =>
    have h' : Kg C (relD C) XW W1 H1 σc (.ok (.ref S.length) (S ++ [.ml acc])) Q := h
    refine h' _ _ _ (md.st.ownN hD) (md.sr.ownN md.nr md.nf hh r hz) (.ref ?_)
    show (W.ρ ++ [D])[S.length]? = some D
    rw [← md.sr.len, List.getElem?_append_right (Nat.le_refl _), Nat.sub_self]
    rfl
theorem noX_ok {α β γ : Type} {rel : Wd → Hp → β → γ → Prop} {W : Wd} {H : Hp} {σc : L2.St} {S : Store} {Q : β → Hp → Prop} {m : M α} {k : α → M γ} (h : Kg C rel XW W H σc ((noX m >>= k) S) Q) : ∃ a S1, m S = .ok a S1 ∧ Kg C rel XW W H σc (k a S1) Q := by
  rw [bind_at] at h
  unfold noX at h
  cases e : m S with
  | ok a S1 => simp only [e] at h; exact ⟨a, S1, rfl, h⟩
  | exc a b => simp only [e] at h; exact h.elim
  | bad => simp only [e] at h; exact h.elim
theorem made0 {W1 : Wd} {H1 : Hp} {D : Addr} {S : Store} (sr : SRel C W1 S H1) (hD : H1 D = none) : Made C W1 H1 D S [] W1 (upd H1 D (.lst [])) := by
  obtain ⟨h1, h2⟩ := sr.old hD
  exact ⟨(Stp.refl _ _).own hD _, sr.own h1 h2 _, h1, h2, [], upd_same, .nil⟩
/-- the reading of a comprehension -/
theorem rd_lc {m : Bool} {e : Ex} {p : Pat} {s : Src} {c : Exo} {σc : L2.St} {H : Hp} {Q : VK} (h : tD C XW (eE Φ (.lc m e p s c)) σc H Q) :
    tLc (tI C XW (eS Φ s)) (gP C p) (tBo C noW (eC Φ c)) (tD C noW (eE Φ e)) p.vars σc H Q := by
  obtain ⟨σ, S, W, sr, sl, h⟩ := h
  rw [eE] at h
  refine tG_step h sr sl fun J H1 W1 S1 w st sr1 sl1 iw h1 => fun D hD => ?_
  obtain ⟨total, Sf, run, h2⟩ := noX_ok h1
  have hz := iw.len
  refine lc_loop (T := fun x H' N => gP C p x (wipe σc p.vars) H' fun σ2 H2 => wipe σ2 p.vars = wipe σc p.vars ∧ tBo C noW (eC Φ c) σ2 H2 fun b H3 => if b = true then tD C noW (eE Φ e) σ2 H3 fun y H4 => ∃ acc, H4 D = some (.lst acc) ∧ acc.length < sizeLine ∧ N (upd H4 D (.lst (acc ++ [y]))) else N H3)
    (made0 sr1 hD) (Wd.le.refl _) iw run ?_ ?_
  · intro i S' ro S4 acc W2 H' x d N hd md le hl r rn hN
    have hi := (List.getElem?_eq_some_iff.mp hd).1
    have := lcM_len run
    exact lc_turn hD md (by rw [List.nil_append] at hl; omega) ((sl1.up le).clr p.vars) r rn (fun i h => h) (wipe_twice _ _) hN
  · intro W2 H' le md
    rw [List.nil_append] at md
    have := lcM_len run
    exact md.end_ hD (by omega) h2
/-! the comprehension in its place -/
theorem ts_none : PTs X [] (tBo C XW (eC Φ .none)) := by
  refine pts_nil.sub fun σc H Q ⟨σ, S, W, sr, sl, h⟩ => ?_
  rw [eC] at h
  exact Kg.done (show Kg C relE XW W H σc (.ok true S) Q from h) sr rfl
theorem ts_some {e : Expr} {x : Ex} (p : PT X e (tBo C XW (eT Φ x))) : PTs X [e] (tBo C XW (eC Φ (.some x))) := by
  refine (pts_one p).sub fun σc H Q ⟨σ, S, W, sr, sl, h⟩ => ?_
  rw [eC] at h
  exact ⟨σ, S, W, sr, sl, h⟩
abbrev blkX (X : Cx) (scope : Scope) (s : Shared) (H : Hp) (A : Addr) (cl : List (PySem.Str × Addr)) (fp : List Addr) : Cx := X.blk s H scope (compEnvC scope cl A X.env) fp
theorem e_lc {elt tg iter : Expr} {ifs : List Expr} {scope : Scope} {own : List (PySem.Str × Nat)} {m : Bool} {e : Ex} {p : Pat} {s : Src} {c : Exo} (hc : X.calm = true) (hN : X.N.Nodup) (hi : PI X tg iter (tI C XW (eS Φ s))) (ok : BlkOk X.N X.env.scope scope own) (hw : own.map (·.2) = p.vars)
    (hg : ∀ s H A cl fp, PG (blkX X scope s H A cl fp) tg (gP C p)) (ht : ∀ s H A cl fp, PTs (blkX X scope s H A cl fp) ifs (tBo C noW (eC Φ c))) (he : ∀ s H A cl fp, PE (blkX X scope s H A cl fp) elt (tD C noW (eE Φ e))) (hs : ∀ x, foldedSetIterable iter X.env x = pure x) :
    PE X (.ListComp elt [⟨tg, iter, ifs, 0⟩] scope pos) (tD C XW (eE Φ (.lc m e p s c))) := by
  refine (pe_lc hc hN hi ok hg ht he hs).sub fun σc H Q h => ?_
  rw [hw]
  exact rd_lc h
/-- tAsg into a name, for a reading -/
theorem rd_asgN {x : Ex} {i : Nat} {t : TE} {f : Env → M D} (ht : ∀ σc H Q, tD C XW f σc H Q → t σc H Q) {Dn : Ends} {σc : L2.St} {H : Hp} (h : tD C XW f σc H fun v H1 => Dn.nx (σc.set i (some v)) H1) : tAsg t (gName i) Dn σc H := ht σc H _ h
theorem s_setLc {i : Nat} {y : PySem.Str} {py spos : Pos} {elt tg iter : Expr} {ifs : List Expr} {scope : Scope} {own : List (PySem.Str × Nat)} {m : Bool} {e : Ex} {p : Pat} {s : Src} {c : Exo} (hc : X.calm = true) (hN : X.N.Nodup) (hy : X.N[i]? = some y) (hyl : X.env.scope.names.lookup y = some .local)
    (hsw : swapsWith (.ListComp elt [⟨tg, iter, ifs, 0⟩] scope pos) (some (.Name y py)) spos.line X.env = pure true) (hi : PI X tg iter (tI C XW (eS Φ s))) (ok : BlkOk X.N X.env.scope scope own) (hw : own.map (·.2) = p.vars)
    (hg : ∀ s H A cl fp, PG (blkX X scope s H A cl fp) tg (gP C p)) (ht : ∀ s H A cl fp, PTs (blkX X scope s H A cl fp) ifs (tBo C noW (eC Φ c))) (he : ∀ s H A cl fp, PE (blkX X scope s H A cl fp) elt (tD C noW (eE Φ e))) (hs : ∀ x, foldedSetIterable iter X.env x = pure x) :
    PS X (.Assign [.Name y py] (.ListComp elt [⟨tg, iter, ifs, 0⟩] scope pos) spos) (tAsg (tD C XW (eE Φ (.lc m e p s c))) (gName i)) := by
  refine (ps_setLc hc hN hy hyl hsw hi ok hg ht he hs).sub fun Dn σc H h => ?_
  rw [hw]
  exact rd_lc h
/-! two generators -/
theorem lcM2_ok {l : Lks} {f : D → M (List D)} {d : D} {ds rest : List D} {S Sf : Store} (h : lcM2 l f (d :: ds) S = .ok rest Sf) : lkOk l S = true ∧ ∃ ro S1 rs, f d S = .ok ro S1 ∧ lcM2 l f ds S1 = .ok rs Sf ∧ rest = ro ++ rs := by
  rw [lcM2] at h
  cases e : lkOk l S with
  | false => simp only [e] at h; cases h
  | true =>
    simp only [e] at h
    obtain ⟨ro, S1, e1, h⟩ := ok_bind (show (f d >>= fun r => lcM2 l f ds >>= fun rs => (pure (r ++ rs) : M (List D))) S = .ok rest Sf from h)
    obtain ⟨rs, S2, e2, h⟩ := ok_bind h
    cases (show Out.ok _ S2 = .ok rest Sf from h)
    exact ⟨rfl, ro, S1, rs, e1, e2, rfl⟩
theorem lcM2_nil {l : Lks} {f : D → M (List D)} {rest : List D} {S Sf : Store} (h : lcM2 l f [] S = .ok rest Sf) : lkOk l S = true ∧ rest = [] ∧ Sf = S := by
  rw [lcM2] at h
  cases e : lkOk l S with
  | false => simp only [e] at h; cases h
  | true =>
    simp only [e] at h
    cases (show Out.ok [] S = .ok rest Sf from h)
    exact ⟨rfl, rfl, rfl⟩
theorem lc_loop2 {W1 : Wd} {H1 : Hp} {D : Addr} {S0 Sf : Store} {total : List Hc.D} {W00 W0 : Wd} {H0 H00 : Hp} {l : Lks} {f : Hc.D → M (List Hc.D)} {items : List Hc.D} {J : It} {Qd : Hp → Prop} {T : V → Hp → (Hp → Prop) → Prop}
    (m0 : Made C W1 H1 D S0 [] W0 H0) (le0 : W00.le W0) (iw : IW C W00 H00 J ⟨items, l⟩) (run : lcM2 l f items S0 = .ok total Sf)
    (turn : ∀ S' ro S4 acc W2 H' x d N, Made C W1 H1 D S' acc W2 H' → W0.le W2 → (acc ++ ro).length ≤ total.length → Rep C W2 x d → f d S' = .ok ro S4 → (∀ W4 H4, W2.le W4 → Made C W1 H1 D S4 (acc ++ ro) W4 H4 → N H4) → T x H' N)
    (done : ∀ W2 H', Made C W1 H1 D Sf total W2 H' → Qd H') :
    ∃ W : Nat → Nat → Hp → Prop, (∃ m, W 0 m H0) ∧ ∀ i m H, W i m H → (J.stop i H ∧ Qd H) ∨ (J.go i H ∧ ∃ Nx : Hp → Prop, (∀ H', Nx H' → ∃ m', m' < m ∧ W (i + 1) m' H') ∧ ∀ x H', J.yld i H x H' → T x H' Nx) := by
  let Pv : Nat → Hp → Prop := fun i H => ∃ S' W' acc rest', Made C W1 H1 D S' acc W' H ∧ W0.le W' ∧ lcM2 l f (items.drop i) S' = .ok rest' Sf ∧ acc ++ rest' = total
  refine ⟨fun i m H => m = items.length - i ∧ i ≤ items.length ∧ Pv i H, ⟨items.length, by simp, Nat.zero_le _, S0, W0, [], total, m0, Wd.le.refl _, run, rfl⟩, ?_⟩
  rintro i m H ⟨rfl, hi, S', W', acc, rest', md, le, run', eq⟩
  by_cases hlt : i < items.length
  · rw [List.drop_eq_getElem_cons hlt] at run'
    obtain ⟨lk, ro, S1, rs, e1, e2, e3⟩ := lcM2_ok run'
    refine .inr ⟨iw.go i S' W' H (le0.trans le) md.sr lk hlt, Pv (i + 1), fun H' p' => ⟨items.length - (i + 1), by omega, rfl, hlt, p'⟩, fun x H' y => ?_⟩
    obtain ⟨W2, d, hd, st, sr, r⟩ := iw.yld i S' W' H x H' (le0.trans le) md.sr lk hlt y
    have hd' : items[i]? = some d := hd
    have ed : items[i] = d := (List.getElem?_eq_some_iff.mp hd').2
    rw [ed] at e1
    have eq2 : (acc ++ ro) ++ rs = total := by rw [List.append_assoc, ← e3, eq]
    refine turn S' ro S1 acc W2 H' x d (Pv (i + 1)) (md.step st sr) (le.trans st.le) ?_ r e1 fun W4 H4 l4 m4 => ?_
    · rw [← eq2, List.length_append (as := acc ++ ro)]
      omega
    · exact ⟨S1, W4, acc ++ ro, rs, m4, (le.trans st.le).trans l4, e2, eq2⟩
  · have ei : i = items.length := by omega
    subst ei
    rw [List.drop_length] at run'
    obtain ⟨lk, e1, e2⟩ := lcM2_nil run'
    subst e1
    subst e2
    rw [List.append_nil] at eq
    subst eq
    exact .inl ⟨iw.stop _ W' H (le0.trans le) md.sr lk, done W' H md⟩
theorem rd_lc2 {m : Bool} {e : Ex} {p q : Pat} {s r : Src} {c : Exo} {σc : L2.St} {H : Hp} {Q : VK} (h : tD C XW (eE Φ (.lc2 m e p s q r c)) σc H Q) :
    tLc2 (tI C XW (eS Φ s)) (gP C p) (tBo C noW (eC Φ .none)) (tI C noW (eS Φ r)) (gP C q) (tBo C noW (eC Φ c)) (tD C noW (eE Φ e)) (p.vars ++ q.vars) q.vars σc H Q := by
  obtain ⟨σ, S, W, sr, sl, h⟩ := h
  rw [eE] at h
  refine tG_step h sr sl fun J H1 W1 S1 w st sr1 sl1 iw h1 => fun D hD => ?_
  obtain ⟨total, Sf, run, h2⟩ := noX_ok h1
  have hz : total.length ≤ 16777216 := by
    by_cases hz : total.length ≤ 16777216
    · exact hz
    · simp only [if_neg hz] at h2
      exact h2.elim
  simp only [if_pos hz] at h2
  refine lc_loop2 (T := fun x H' Nx => gP C p x (wipe σc (p.vars ++ q.vars)) H' fun σ2 H2 => wipe σ2 (p.vars ++ q.vars) = wipe σc (p.vars ++ q.vars) ∧ tBo C noW (eC Φ .none) σ2 H2 fun b H3 =>
    if b = true then tI C noW (eS Φ r) σ2 H3 fun J1 H4 => ∃ W1 : Nat → Nat → Hp → Prop, (∃ m, W1 0 m H4) ∧ ∀ j k H, W1 j k H →
      (J1.stop j H ∧ Nx H) ∨ (J1.go j H ∧ ∃ Nx1 : Hp → Prop, (∀ H', Nx1 H' → ∃ k', k' < k ∧ W1 (j + 1) k' H') ∧ ∀ x H', J1.yld j H x H' → gP C q x (wipe σ2 q.vars) H' fun σ3 H5 => wipe σ3 q.vars = wipe σ2 q.vars ∧ tBo C noW (eC Φ c) σ3 H5 fun b H6 =>
        if b = true then tD C noW (eE Φ e) σ3 H6 fun y H7 => ∃ acc, H7 D = some (.lst acc) ∧ acc.length < sizeLine ∧ Nx1 (upd H7 D (.lst (acc ++ [y]))) else Nx1 H6)
    else Nx H3) (made0 sr1 hD) (Wd.le.refl _) iw run ?_ fun W2 H' md => md.end_ hD hz h2
  intro S' ro S4 acc W2 H' x d N md le hl rx rn hN
  obtain ⟨τ, S2, e1, rn⟩ := ok_bind rn
  obtain ⟨eb, rfl⟩ := ok_opt e1
  obtain ⟨u, S3, e2, rn⟩ := ok_bind rn
  refine ⟨S', W2, clr σ (p.vars ++ q.vars), d, τ, md.sr, (sl1.up le).clr _, rx, eb, fun τc s1 k1 => ⟨?_, ?_⟩⟩
  · refine (wipe_same ?_ fun i hi => k1 i fun h => hi (List.mem_append.mpr (.inl h))).trans (wipe_twice _ _)
    rw [← s1.len, bindP_length eb, clr_len, wipe_length, sl1.len]
  · have e0 : eC Φ .none τ S' = .ok true S' := by rw [eC]; rfl
    refine tG_ok md.sr s1 e0 fun b' H3 W3 st3 sr3 sl3 eb' => ?_
    cases eb'
    rw [if_pos rfl]
    have md3 := md.step st3 sr3
    refine tG_ok sr3 sl3 e2 fun J1 H4 W4 st4 sr4 sl4 iw4 => ?_
    have md4 := md3.step st4 sr4
    refine lc_loop (T := fun x H' N => gP C q x (wipe τc q.vars) H' fun σ2 H2 => wipe σ2 q.vars = wipe τc q.vars ∧ tBo C noW (eC Φ c) σ2 H2 fun b H3 => if b = true then tD C noW (eE Φ e) σ2 H3 fun y H4 => ∃ acc, H4 D = some (.lst acc) ∧ acc.length < sizeLine ∧ N (upd H4 D (.lst (acc ++ [y]))) else N H3)
      md4 (Wd.le.refl _) iw4 rn ?_ ?_
    · intro i S' ro' S4' acc' W2' H' x' d' N' hd' md' le' hl' r' rn' hN'
      exact lc_turn hD md' (by omega) ((sl4.up le').clr _) r' rn' (fun i h => h) (wipe_twice _ _) hN'
    · intro W5 H5 le5 md5
      exact hN W5 H5 ((st3.le.trans st4.le).trans le5) md5
theorem e_lc2 {elt tg iter tg1 iter1 : Expr} {ifs1 : List Expr} {scope : Scope} {own : List (PySem.Str × Nat)} {m : Bool} {e : Ex} {p q : Pat} {s r : Src} {c : Exo} (hc : X.calm = true) (hN : X.N.Nodup) (hi : PI X tg iter (tI C XW (eS Φ s))) (ok : BlkOk X.N X.env.scope scope own) (hw : own.map (·.2) = p.vars ++ q.vars)
    (hg : ∀ s H A cl fp, PG (blkX X scope s H A cl fp) tg (gP C p)) (hi1 : ∀ s H A cl fp, PI (blkX X scope s H A cl fp) tg1 iter1 (tI C noW (eS Φ r))) (hg1 : ∀ s H A cl fp, PG (blkX X scope s H A cl fp) tg1 (gP C q))
    (ht1 : ∀ s H A cl fp, PTs (blkX X scope s H A cl fp) ifs1 (tBo C noW (eC Φ c))) (he : ∀ s H A cl fp, PE (blkX X scope s H A cl fp) elt (tD C noW (eE Φ e))) (hs : ∀ x, foldedSetIterable iter X.env x = pure x) (hs1 : ∀ env x, foldedSetIterable iter1 env x = pure x) :
    PE X (.ListComp elt [⟨tg, iter, [], 0⟩, ⟨tg1, iter1, ifs1, 0⟩] scope pos) (tD C XW (eE Φ (.lc2 m e p s q r c))) := by
  refine (pe_lc2 hc hN hi ok (vs1 := q.vars) (fun i h => by rw [hw]; exact List.mem_append.mpr (.inr h)) hg (fun _ _ _ _ _ => ts_none (C := C) (XW := noW) (Φ := Φ)) hi1 hg1 ht1 he hs hs1).sub fun σc H Q h => ?_
  rw [hw]
  exact rd_lc2 h
theorem s_setLc2 {i : Nat} {y : PySem.Str} {py spos : Pos} {elt tg iter tg1 iter1 : Expr} {ifs1 : List Expr} {scope : Scope} {own : List (PySem.Str × Nat)} {m : Bool} {e : Ex} {p q : Pat} {s r : Src} {c : Exo} (hc : X.calm = true) (hN : X.N.Nodup) (hy : X.N[i]? = some y) (hyl : X.env.scope.names.lookup y = some .local)
    (hsw : swapsWith (.ListComp elt [⟨tg, iter, [], 0⟩, ⟨tg1, iter1, ifs1, 0⟩] scope pos) (some (.Name y py)) spos.line X.env = pure true) (hi : PI X tg iter (tI C XW (eS Φ s))) (ok : BlkOk X.N X.env.scope scope own) (hw : own.map (·.2) = p.vars ++ q.vars)
    (hg : ∀ s H A cl fp, PG (blkX X scope s H A cl fp) tg (gP C p)) (hi1 : ∀ s H A cl fp, PI (blkX X scope s H A cl fp) tg1 iter1 (tI C noW (eS Φ r))) (hg1 : ∀ s H A cl fp, PG (blkX X scope s H A cl fp) tg1 (gP C q))
    (ht1 : ∀ s H A cl fp, PTs (blkX X scope s H A cl fp) ifs1 (tBo C noW (eC Φ c))) (he : ∀ s H A cl fp, PE (blkX X scope s H A cl fp) elt (tD C noW (eE Φ e))) (hs : ∀ x, foldedSetIterable iter X.env x = pure x) (hs1 : ∀ env x, foldedSetIterable iter1 env x = pure x) :
    PS X (.Assign [.Name y py] (.ListComp elt [⟨tg, iter, [], 0⟩, ⟨tg1, iter1, ifs1, 0⟩] scope pos) spos) (tAsg (tD C XW (eE Φ (.lc2 m e p s q r c))) (gName i)) := by
  refine (ps_setLc2 hc hN hy hyl hsw hi ok (vs1 := q.vars) (fun i h => by rw [hw]; exact List.mem_append.mpr (.inr h)) hg (fun _ _ _ _ _ => ts_none (C := C) (XW := noW) (Φ := Φ)) hi1 hg1 ht1 he hs hs1).sub fun Dn σc H h => ?_
  rw [hw]
  exact rd_lc2 h
end
end Hc
end
section
set_option Elab.async false
set_option linter.all false
set_option maxRecDepth 100000
set_option autoImplicit false
/-! Statements. -/
namespace Hc
open PySem PySem.Spec PyProof.Rows L2

section
variable {X : Cx} {C : Cc} {XW : WX} {Φ : Nat → List D → M D} {N : Nat} {pos : Pos}
/-- what is wanted behind a statement -/
def KgS (C : Cc) (XW : WX) (W : Wd) (H : Hp) (o : Out Fl) (Dn : Ends) : Prop := match o with
  | .ok (.nx τ) S' => ∀ τc H' W', Stp W H W' H' → SRel C W' S' H' → Sls C W' τ τc → Dn.nx τc H'
  | .ok (.rt d) S' => ∀ v H' W', Stp W H W' H' → SRel C W' S' H' → Rep C W' v d → Dn.rt v H'
  | .exc x S' => ∀ cls dd σc H' W', Stp W H W' H' → SRel C W' S' H' → ERep C W' H' cls dd x → XW cls dd σc H'
  | .bad => False
theorem KgS.later {W W' : Wd} {H H' : Hp} {o : Out Fl} {Dn : Ends} (h : KgS C XW W H o Dn) (st : Stp W H W' H') : KgS C XW W' H' o Dn := by
  cases o with
  | ok a S =>
    cases a with
    | nx τ => exact fun τc H2 W2 s => h τc H2 W2 (st.trans s)
    | rt d => exact fun v H2 W2 s => h v H2 W2 (st.trans s)
  | exc x S => exact fun cls dd σc H2 W2 s => h cls dd σc H2 W2 (st.trans s)
  | bad => exact h
theorem KgS.bind {α β : Type} {rel : Wd → Hp → β → α → Prop} {W : Wd} {H : Hp} {σc : L2.St} {m : M α} {k : α → M Fl} {S : Store} {Dn : Ends} {P : β → Hp → Prop} (h : KgS C XW W H ((m >>= k) S) Dn)
    (n : ∀ b H1 W1 S1 a, Stp W H W1 H1 → SRel C W1 S1 H1 → rel W1 H1 b a → KgS C XW W1 H1 (k a S1) Dn → P b H1) : Kg C rel XW W H σc (m S) P := by
  rw [bind_at] at h
  cases e : m S with
  | ok a S1 =>
    rw [e] at h
    exact fun b H1 W1 st sr r => n b H1 W1 S1 a st sr r (KgS.later h st)
  | exc x S1 =>
    rw [e] at h
    exact fun cls dd H1 W1 st sr er => h cls dd σc H1 W1 st sr er
  | bad =>
    rw [e] at h
    exact h
def tS (C : Cc) (XW : WX) (f : Env → M Fl) : TS := fun Dn σc H => ∃ σ S W, SRel C W S H ∧ Sls C W σ σc ∧ KgS C XW W H (f σ S) Dn
theorem tS_step {α β : Type} {rel : Wd → Hp → β → α → Prop} {W : Wd} {H : Hp} {σc : L2.St} {σ : Env} {f : Env → M α} {k : α → M Fl} {S : Store} {Dn : Ends} {P : β → Hp → Prop} (h : KgS C XW W H ((f σ >>= k) S) Dn) (sr : SRel C W S H) (sl : Sls C W σ σc)
    (n : ∀ b H1 W1 S1 a, Stp W H W1 H1 → SRel C W1 S1 H1 → Sls C W1 σ σc → rel W1 H1 b a → KgS C XW W1 H1 (k a S1) Dn → P b H1) : tG C rel XW f σc H P :=
  ⟨σ, S, W, sr, sl, h.bind fun b H1 W1 S1 a st sr1 r h1 => n b H1 W1 S1 a st sr1 (sl.up st.le) r h1⟩
theorem KgS.optB {α : Type} {W : Wd} {H : Hp} {S : Store} {Dn : Ends} {f : Option α} {k : α → M Fl} (h : KgS C XW W H ((M.opt f >>= k) S) Dn) : ∃ d, f = some d ∧ KgS C XW W H (k d S) Dn := by
  rw [bind_at] at h
  cases f with
  | none => exact h.elim
  | some d => exact ⟨d, rfl, h⟩
abbrev eX (Φ : Nat → List D → M D) (N : Nat) (a : St) : Env → M Fl := fun σ => eSt Φ N a σ
/-! one statement after another -/
theorem ss_nil : PSs X [] (tS C XW (eX Φ N .skip)) := by
  refine pss_nil.sub fun Dn σc H ⟨σ, S, W, sr, sl, h⟩ => ?_
  have h' : KgS C XW W H ((eSt Φ N .skip σ) S) Dn := h
  rw [eSt] at h'
  exact (show KgS C XW W H (.ok (.nx σ) S) Dn from h') σc H W (Stp.refl _ _) sr sl
theorem rd_seq {a b : St} {Dn : Ends} {σc : L2.St} {H : Hp} (h : tS C XW (eX Φ N (.seq a b)) Dn σc H) : tSeq (tS C XW (eX Φ N a)) (tS C XW (eX Φ N b)) Dn σc H := by
  obtain ⟨σ, S, W, sr, sl, h⟩ := h
  have h' : KgS C XW W H ((eSt Φ N (.seq a b) σ) S) Dn := h
  rw [eSt, bind_at] at h'
  refine ⟨σ, S, W, sr, sl, ?_⟩
  show KgS C XW W H (eSt Φ N a σ S) _
  cases e : eSt Φ N a σ S with
  | ok r S1 =>
    rw [e] at h'
    cases r with
    | nx τ => exact fun τc H' W' st sr' sl' => ⟨τ, S1, W', sr', sl', KgS.later (show KgS C XW W H (eSt Φ N b τ S1) Dn from h') st⟩
    | rt d => exact h'
  | exc x S1 => rw [e] at h'; exact h'
  | bad => rw [e] at h'; exact h'
theorem ss_cons {st : Stmt} {rest : List Stmt} {a b : St} (h1 : PS X st (tS C XW (eX Φ N a))) (h2 : PSs X rest (tS C XW (eX Φ N b))) : PSs X (st :: rest) (tS C XW (eX Φ N (.seq a b))) := (pss_cons h1 h2).sub fun _ _ _ h => rd_seq h
theorem ss_one {st : Stmt} {a : St} (h1 : PS X st (tS C XW (eX Φ N a))) : PSs X [st] (tS C XW (eX Φ N a)) := pss_one h1
/-! assignments -/
theorem rd_asg {p : Pat} {x : Ex} {Dn : Ends} {σc : L2.St} {H : Hp} (h : tS C XW (eX Φ N (.asg p x)) Dn σc H) : tAsg (tD C XW (eE Φ x)) (gP C p) Dn σc H := by
  obtain ⟨σ, S, W, sr, sl, h⟩ := h
  have h' : KgS C XW W H ((eSt Φ N (.asg p x) σ) S) Dn := h
  rw [eSt] at h'
  refine tS_step h' sr sl fun v H1 W1 S1 d st sr1 sl1 r h1 => ?_
  obtain ⟨τ, e, h2⟩ := h1.optB
  exact ⟨S1, W1, σ, d, τ, sr1, sl1, r, e, fun τc s1 _ => (show KgS C XW W1 H1 (.ok (.nx τ) S1) Dn from h2) τc H1 W1 (Stp.refl _ _) sr1 s1⟩
/-- .. into a name -/
theorem rd_asgn {i : Nat} {x : Ex} {Dn : Ends} {σc : L2.St} {H : Hp} (h : tS C XW (eX Φ N (.asg (.n i) x)) Dn σc H) : tAsg (tD C XW (eE Φ x)) (gName i) Dn σc H := by
  obtain ⟨σ, S, W, sr, sl, h⟩ := h
  have h' : KgS C XW W H ((eSt Φ N (.asg (.n i) x) σ) S) Dn := h
  rw [eSt] at h'
  refine tS_step h' sr sl fun v H1 W1 S1 d st sr1 sl1 r h1 => ?_
  obtain ⟨τ, e, h2⟩ := h1.optB
  rw [bindP] at e
  cases e
  exact (show KgS C XW W1 H1 (.ok (.nx (σ.set i (some d))) S1) Dn from h2) _ H1 W1 (Stp.refl _ _) sr1 (sl1.set r i)
theorem s_asg {tg e : Expr} {p : Pat} {x : Ex} (he : PE X e (tD C XW (eE Φ x))) (hg : PG X tg (gP C p)) (hs : swapsWithSole [tg] e pos.line X.env = pure false) (hw : swappedStores [tg] e X.env = pure none)
    (h1 : (assignEach [tg] X.env).map (·.2) = [assign tg X.env]) : PS X (.Assign [tg] e pos) (tS C XW (eX Φ N (.asg p x))) := (ps_asg he hg hs hw h1).sub fun _ _ _ h => rd_asg h
theorem s_set {i : Nat} {y : PySem.Str} {e : Expr} {x : Ex} {pos' : Pos} (hN : X.N.Nodup) (hi : X.N[i]? = some y) (hx : Loc X.env.scope y) (he : PE X e (tD C XW (eE Φ x))) (hs : swapsWith e (some (.Name y pos')) pos.line X.env = pure false) (hf : X.fn y = true ∨ X.env.scope.names.lookup y = some .local) :
    PS X (.Assign [.Name y pos'] e pos) (tS C XW (eX Φ N (.asg (.n i) x))) := (ps_set hN hi hx he hs hf).sub fun _ _ _ h => rd_asgn h
theorem s_setC {i : Nat} {st : Stmt} {x : Ex} (h : PS X st (tAsg (tD C XW (eE Φ x)) (gName i))) : PS X st (tS C XW (eX Φ N (.asg (.n i) x))) := h.sub fun _ _ _ h => rd_asgn h
/-- x, y = a, b, stored from the right -/
theorem tup_run {es : Exs} {σ : Env} {S : Store} {k : D → M Fl} : (eE Φ (.tup es) σ >>= k) S = (eEs Φ es σ >>= fun ds => k (.tup ds)) S := by
  rw [eE, bind_assoc]
  rfl
theorem s_par2 {i j : Nat} {x y : PySem.Str} {a b : Expr} {es : Exs} {px py pt : Pos} {kt k2 pt2} (hc : X.calm = true) (hN : X.N.Nodup) (hi : X.N[i]? = some x) (hj : X.N[j]? = some y) (hij : i ≠ j)
    (hx : X.env.scope.names.lookup x = some .local) (hy : X.env.scope.names.lookup y = some .local) (ha : PA X [a, b] (tDs C XW (eEs Φ es)))
    (hw : swappedStores [.Tuple [.Name x px, .Name y py] kt pt] (.Tuple [a, b] k2 pt2) X.env = pure (some [x, y]))
    (hs : swapsWithSole [.Tuple [.Name x px, .Name y py] kt pt] (.Tuple [a, b] k2 pt2) pos.line X.env = pure false) :
    PS X (.Assign [.Tuple [.Name x px, .Name y py] kt pt] (.Tuple [a, b] k2 pt2) pos) (tS C XW (eX Φ N (.asg (.t (.cons (.n i) (.cons (.n j) .nil))) (.tup es)))) := by
  refine (ps_par hc hN hi hj hij hx hy ha hw hs).sub fun Dn σc H ⟨σ, S, W, sr, sl, h⟩ => ?_
  have h' : KgS C XW W H ((eSt Φ N (.asg (.t (.cons (.n i) (.cons (.n j) .nil))) (.tup es)) σ) S) Dn := h
  rw [eSt, tup_run] at h'
  refine tS_step h' sr sl fun vs H1 W1 S1 ds st sr1 sl1 r h1 => ?_
  obtain ⟨τ, e, h2⟩ := h1.optB
  rw [bindP] at e
  match ds, r, e with
  | [], _, e => rw [bindPs] at e; cases e
  | [d], _, e => rw [bindPs, bindP] at e; simp only [bindPs] at e; cases e
  | d :: d2 :: _ :: _, _, e => rw [bindPs, bindP] at e; simp only [bindPs, bindP] at e; cases e
  | [d, d2], .cons (v := v) r1 (.cons (v := w) r2 .nil), e =>
    rw [bindPs, bindP] at e
    simp only [bindPs, bindP] at e
    cases e
    exact ⟨v, w, rfl, (show KgS C XW W1 H1 (.ok (.nx ((σ.set i (some d)).set j (some d2))) S1) Dn from h2) _ H1 W1 (Stp.refl _ _) sr1 ((sl1.set r1 i).set r2 j)⟩
theorem s_par3 {i j l : Nat} {x y z : PySem.Str} {a b c : Expr} {es : Exs} {px py pz pt : Pos} {kt k2 pt2} (hc : X.calm = true) (hN : X.N.Nodup) (hi : X.N[i]? = some x) (hj : X.N[j]? = some y) (hl : X.N[l]? = some z) (hij : i ≠ j) (hil : i ≠ l) (hjl : j ≠ l)
    (hx : X.env.scope.names.lookup x = some .local) (hy : X.env.scope.names.lookup y = some .local) (hz : X.env.scope.names.lookup z = some .local) (ha : PA X [a, b, c] (tDs C XW (eEs Φ es)))
    (hw : swappedStores [.Tuple [.Name x px, .Name y py, .Name z pz] kt pt] (.Tuple [a, b, c] k2 pt2) X.env = pure (some [x, y, z]))
    (hs : swapsWithSole [.Tuple [.Name x px, .Name y py, .Name z pz] kt pt] (.Tuple [a, b, c] k2 pt2) pos.line X.env = pure false) :
    PS X (.Assign [.Tuple [.Name x px, .Name y py, .Name z pz] kt pt] (.Tuple [a, b, c] k2 pt2) pos) (tS C XW (eX Φ N (.asg (.t (.cons (.n i) (.cons (.n j) (.cons (.n l) .nil)))) (.tup es)))) := by
  refine (ps_par3 hc hN hi hj hl hij hil hjl hx hy hz ha hw hs).sub fun Dn σc H ⟨σ, S, W, sr, sl, h⟩ => ?_
  have h' : KgS C XW W H ((eSt Φ N (.asg (.t (.cons (.n i) (.cons (.n j) (.cons (.n l) .nil)))) (.tup es)) σ) S) Dn := h
  rw [eSt, tup_run] at h'
  refine tS_step h' sr sl fun vs H1 W1 S1 ds st sr1 sl1 r h1 => ?_
  obtain ⟨τ, e, h2⟩ := h1.optB
  rw [bindP] at e
  match ds, r, e with
  | [], _, e => rw [bindPs] at e; cases e
  | [d], _, e => rw [bindPs, bindP] at e; simp only [bindPs] at e; cases e
  | [d, d2], _, e => rw [bindPs, bindP] at e; simp only [bindPs, bindP] at e; cases e
  | d :: d2 :: d3 :: _ :: _, _, e => rw [bindPs, bindP] at e; simp only [bindPs, bindP] at e; cases e
  | [d, d2, d3], .cons (v := v) r1 (.cons (v := w) r2 (.cons (v := u) r3 .nil)), e =>
    rw [bindPs, bindP] at e
    simp only [bindPs, bindP] at e
    cases e
    exact ⟨v, w, u, rfl, (show KgS C XW W1 H1 (.ok (.nx (((σ.set i (some d)).set j (some d2)).set l (some d3))) S1) Dn from h2) _ H1 W1 (Stp.refl _ _) sr1 (((sl1.set r1 i).set r2 j).set r3 l)⟩
/-- o[i] = e -/
theorem s_sub (cx : CcX X C) {o i e : Expr} {a b x : Ex} {p2 : Pos} (he : PE X e (tD C XW (eE Φ x))) (ho : PE X o (tD C XW (eE Φ a))) (hi : PE X i (tD C XW (eE Φ b)))
    (ha : ∀ v, assign (.Subscript o i p2) X.env v = (do
      let ov ← holding [v] (eval o X.env)
      let iv ← holding [v, ov] (eval i X.env)
      standAt p2
      holding [v, ov, iv] (setItem ov iv v)
      release [v, ov, iv] [])) (hs : swapsWithSole [.Subscript o i p2] e pos.line X.env = pure false) (hw : swappedStores [.Subscript o i p2] e X.env = pure none)
    (h1 : (assignEach [.Subscript o i p2] X.env).map (·.2) = [assign (.Subscript o i p2) X.env]) : PS X (.Assign [.Subscript o i p2] e pos) (tS C XW (eX Φ N (.set a b x))) := by
  refine (ps_asg he (pg_sub ho hi (i_set cx) ha) hs hw h1).sub fun Dn σc H ⟨σ, S, W, sr, sl, h⟩ => ?_
  have h' : KgS C XW W H ((eSt Φ N (.set a b x) σ) S) Dn := h
  rw [eSt] at h'
  refine tS_step h' sr sl fun v H1 W1 S1 d st sr1 sl1 r h1 => ?_
  refine tS_step h1 sr1 sl1 fun ov H2 W2 S2 od st2 sr2 sl2 r2 h2 => ?_
  refine tS_step h2 sr2 sl2 fun iv H3 W3 S3 di st3 sr3 sl3 r3 h3 => ?_
  cases e : setIx S3 od di d with
  | none => simp only [setM, e] at h3; exact h3.elim
  | some S4 =>
    simp only [setM, e] at h3
    exact ⟨S3, W3, od, di, d, S4, sr3, r2.up st3.le, r3, (r.up st2.le).up st3.le, e, fun H' W' st4 sr4 => (show KgS C XW W3 H3 (.ok (.nx σ) S4) Dn from h3) σc H' W' st4 sr4 (sl3.up st4.le)⟩
/-! others -/
theorem s_ret {e : Expr} {x : Ex} (he : PE X e (tD C XW (eE Φ x))) : PS X (.Return (some e) pos) (tS C XW (eX Φ N (.ret x))) := by
  refine (ps_ret he).sub fun Dn σc H ⟨σ, S, W, sr, sl, h⟩ => ?_
  have h' : KgS C XW W H ((eSt Φ N (.ret x) σ) S) Dn := h
  rw [eSt] at h'
  refine tS_step h' sr sl fun v H1 W1 S1 d st sr1 sl1 r h1 => ?_
  exact (show KgS C XW W1 H1 (.ok (.rt d) S1) Dn from h1) v H1 W1 (Stp.refl _ _) sr1 r
theorem s_retN : PS X (.Return none pos) (tS C XW (eX Φ N .retN)) := by
  refine ps_retN.sub fun Dn σc H ⟨σ, S, W, sr, sl, h⟩ => ?_
  have h' : KgS C XW W H ((eSt Φ N .retN σ) S) Dn := h
  rw [eSt] at h'
  exact (show KgS C XW W H (.ok (.rt .non) S) Dn from h') _ H W (Stp.refl _ _) sr .non
theorem s_exp {e : Expr} {x : Ex} (he : PE X e (tD C XW (eE Φ x))) (hs : swapsWith e none pos.line X.env = pure false) : PS X (.Expr e pos) (tS C XW (eX Φ N (.exp x))) := by
  refine (ps_expr he hs).sub fun Dn σc H ⟨σ, S, W, sr, sl, h⟩ => ?_
  have h' : KgS C XW W H ((eSt Φ N (.exp x) σ) S) Dn := h
  rw [eSt] at h'
  refine tS_step h' sr sl fun v H1 W1 S1 d st sr1 sl1 r h1 => ?_
  exact (show KgS C XW W1 H1 (.ok (.nx σ) S1) Dn from h1) σc H1 W1 (Stp.refl _ _) sr1 sl1
theorem s_if {c : Expr} {p q : List Stmt} {t : Ex} {a b : St} (hc : PT X c (tBo C XW (eT Φ t))) (ha : PSs X p (tS C XW (eX Φ N a))) (hb : PSs X q (tS C XW (eX Φ N b))) : PS X (.If c p q pos) (tS C XW (eX Φ N (.ite t a b))) := by
  refine (ps_if hc ha hb).sub fun Dn σc H ⟨σ, S, W, sr, sl, h⟩ => ?_
  have h' : KgS C XW W H ((eT Φ t σ >>= fun c => if c then eSt Φ N a σ else eSt Φ N b σ) S) Dn := by
    have h2 : KgS C XW W H ((eSt Φ N (.ite t a b) σ) S) Dn := h
    rw [eSt] at h2
    exact h2
  refine tS_step h' sr sl fun k H1 W1 S1 k' st sr1 sl1 r h1 => ?_
  cases r
  cases k with
  | true => exact ⟨σ, S1, W1, sr1, sl1, h1⟩
  | false => exact ⟨σ, S1, W1, sr1, sl1, h1⟩
theorem s_while {c : Expr} {body : List Stmt} {t : Ex} {b : St} (hp : PassesOwn (model X.prog X.w) X.A X.env X.xe) (hc : PT X c (tBo C XW (eT Φ t))) (hb : PSs X body (tS C XW (eX Φ N b))) : PS X (.While c body [] pos) (tS C XW (eX Φ N (.whl t b))) := by
  refine (ps_while hp hc hb).sub fun Dn σc H ⟨σ, S, W, sr, sl, h⟩ => ?_
  have h' : KgS C XW W H ((eSt Φ N (.whl t b) σ) S) Dn := h
  rw [eSt] at h'
  refine ⟨fun m σc H => ∃ σ S W, SRel C W S H ∧ Sls C W σ σc ∧ KgS C XW W H (whileM (fun τ => eE Φ t τ >>= asB) (fun τ => eSt Φ N b τ) m σ S) Dn, ⟨N, σ, S, W, sr, sl, h'⟩, ?_⟩
  rintro m σc H ⟨σ, S, W, sr, sl, h⟩
  cases m with
  | zero => exact h.elim
  | succ m =>
    rw [whileM] at h
    refine tS_step (f := eT Φ t) h sr sl fun k H1 W1 S1 k' st sr1 sl1 r h1 => ?_
    cases r
    cases k with
    | false =>
      rw [if_neg Bool.false_ne_true]
      exact (show KgS C XW W1 H1 (.ok (.nx σ) S1) Dn from h1) σc H1 W1 (Stp.refl _ _) sr1 sl1
    | true =>
      rw [if_pos rfl]
      have h2 : KgS C XW W1 H1 ((eSt Φ N b σ >>= fun r => match r with
        | .nx σ' => whileM (fun τ => eE Φ t τ >>= asB) (fun τ => eSt Φ N b τ) m σ'
        | .rt v => pure (.rt v)) S1) Dn := h1
      refine ⟨fun σc H => ∃ σ S W, SRel C W S H ∧ Sls C W σ σc ∧ KgS C XW W H (whileM (fun τ => eE Φ t τ >>= asB) (fun τ => eSt Φ N b τ) m σ S) Dn, fun σ' H' h => ⟨m, Nat.lt_succ_self m, h⟩, σ, S1, W1, sr1, sl1, ?_⟩
      rw [bind_at] at h2
      show KgS C XW W1 H1 (eSt Φ N b σ S1) _
      cases e : eSt Φ N b σ S1 with
      | ok r S2 =>
        rw [e] at h2
        cases r with
        | nx τ => exact fun τc H' W' st' sr' sl' => ⟨τ, S2, W', sr', sl', KgS.later (show KgS C XW W1 H1 (whileM _ _ m τ S2) Dn from h2) st'⟩
        | rt d => exact h2
      | exc x S2 => rw [e] at h2; exact h2
      | bad => rw [e] at h2; exact h2
theorem s_for {tg iter : Expr} {body : List Stmt} {p : Pat} {s : Src} {b : St} (hp : PassesOwn (model X.prog X.w) X.A X.env X.xe) (hc : X.calm = true) (hi : PI X tg iter (tI C XW (eS Φ s))) (hg : PG X tg (gP C p)) (hb : PSs X body (tS C XW (eX Φ N b)))
    (hs : ∀ x, foldedSetIterable iter X.env x = pure x) : PS X (.For tg iter body [] pos) (tS C XW (eX Φ N (.for p s b))) := by
  refine (ps_for hp hc hi hg hb hs).sub fun Dn σc H ⟨σ, S, W, sr, sl, h⟩ => ?_
  have h' : KgS C XW W H ((eSt Φ N (.for p s b) σ) S) Dn := h
  rw [eSt] at h'
  refine tS_step h' sr sl fun J H1 W1 S1 w st sr1 sl1 iw h1 => ?_
  let f : D → Env → M Fl := fun d τ => M.opt (bindP p d τ) >>= fun τ' => eSt Φ N b τ'
  let Pv : Nat → L2.St → Hp → Prop := fun i σc H => ∃ σ S W, SRel C W S H ∧ Sls C W σ σc ∧ W1.le W ∧ KgS C XW W H (forM w.locks f (w.items.drop i) σ S) Dn
  refine ⟨fun i m σc H => m = w.items.length - i ∧ i ≤ w.items.length ∧ Pv i σc H, ⟨w.items.length, by simp, Nat.zero_le _, σ, S1, W1, sr1, sl1, Wd.le.refl _, h1⟩, ?_⟩
  rintro i m σc2 H2 ⟨rfl, hi, σ2, S2, W2, sr2, sl2, le, h2⟩
  by_cases hlt : i < w.items.length
  · rw [List.drop_eq_getElem_cons hlt, forM] at h2
    cases lk : lkOk w.locks S2 with
    | false => simp only [lk] at h2; exact h2.elim
    | true =>
      simp only [lk] at h2
      refine .inr ⟨iw.go i S2 W2 H2 le sr2 lk hlt, Pv (i + 1), fun σ' H' p' => ⟨w.items.length - (i + 1), by omega, rfl, hlt, p'⟩, fun x H3 y => ?_⟩
      obtain ⟨W3, d, hd, st3, sr3, r⟩ := iw.yld i S2 W2 H2 x H3 le sr2 lk hlt y
      have ed : w.items[i] = d := (List.getElem?_eq_some_iff.mp hd).2
      rw [ed] at h2
      have h3 : KgS C XW W2 H2 ((f d σ2 >>= fun r => match r with
        | .nx σ' => forM w.locks f (w.items.drop (i + 1)) σ'
        | .rt v => pure (.rt v)) S2) Dn := h2
      have h4 : KgS C XW W2 H2 ((M.opt (bindP p d σ2) >>= fun τ' => eSt Φ N b τ' >>= fun r => match r with
        | .nx σ' => forM w.locks f (w.items.drop (i + 1)) σ'
        | .rt v => pure (.rt v)) S2) Dn := by
        rw [← bind_assoc]
        exact h3
      obtain ⟨τ, eb, h5⟩ := h4.optB
      refine ⟨S2, W3, σ2, d, τ, sr3, sl2.up st3.le, r, eb, fun τc s1 k1 => ?_⟩
      refine ⟨τ, S2, W3, sr3, s1, ?_⟩
      have h6 := KgS.later h5 st3
      rw [bind_at] at h6
      show KgS C XW W3 H3 (eSt Φ N b τ S2) _
      cases e : eSt Φ N b τ S2 with
      | ok r S4 =>
        rw [e] at h6
        cases r with
        | nx τ2 => exact fun τc' H' W' st' sr' sl' => ⟨τ2, S4, W', sr', sl', (le.trans st3.le).trans st'.le, KgS.later (show KgS C XW W3 H3 (forM w.locks f (w.items.drop (i + 1)) τ2 S4) Dn from h6) st'⟩
        | rt d => exact h6
      | exc x S4 => rw [e] at h6; exact h6
      | bad => rw [e] at h6; exact h6
  · have ei : i = w.items.length := by omega
    subst ei
    rw [List.drop_length, forM] at h2
    cases lk : lkOk w.locks S2 with
    | false => simp only [lk] at h2; exact h2.elim
    | true =>
      simp only [lk] at h2
      exact .inl ⟨iw.stop S2 W2 H2 le sr2 lk, (show KgS C XW W2 H2 (.ok (.nx σ2) S2) Dn from h2) σc2 H2 W2 (Stp.refl _ _) sr2 sl2⟩
theorem s_rse {e : Expr} {a : Addr} {c : Nat} (hc : X.calm = true) (tk : Takes X XW) (he : PMk X e (fun _ H Q => Q (.ref a) none H)) (ha : C.ca c = some a) : PS X (.Raise (some e) none pos) (tS C XW (eX Φ N (.rse c))) := by
  refine (ps_raise hc tk he).sub fun Dn σc H ⟨σ, S, W, sr, sl, h⟩ => ?_
  have h' : KgS C XW W H ((eSt Φ N (.rse c) σ) S) Dn := h
  rw [eSt] at h'
  exact (show KgS C XW W H (.exc ⟨c, []⟩ S) Dn from h') _ _ σc H W (Stp.refl _ _) sr (.plain ha)
end
end Hc
end
section
set_option Elab.async false
set_option linter.all false
set_option maxRecDepth 100000
set_option autoImplicit false
/-! A def's text held against the core language. -/
namespace Hc
open PySem PySem.Spec PyProof.Rows L2

/-! ### texts compared -/
def nEq : List Nat → List Nat → Bool
  | [], [] => true
  | a :: r, b :: s => Nat.beq a b && nEq r s
  | _, _ => false
theorem nEq_iff : ∀ (a b : List Nat), nEq a b = true ↔ a = b
  | [], [] => by simp [nEq]
  | [], _ :: _ => by simp [nEq]
  | _ :: _, [] => by simp [nEq]
  | a :: r, b :: s => by simp [nEq, nEq_iff r s]
def sEq (a b : PySem.Str) : Bool := nEq a.cps.toList b.cps.toList
theorem sEq_iff (a b : PySem.Str) : sEq a b = true ↔ a = b := by
  unfold sEq
  rw [nEq_iff]
  constructor
  · intro h
    cases a
    cases b
    congr
    exact Array.toList_inj.mp h
  · intro h
    rw [h]
theorem sEq_eq {a b : PySem.Str} (h : sEq a b = true) : a = b := (sEq_iff a b).mp h
theorem sEq_beq (a b : PySem.Str) : (a == b) = sEq a b := by
  cases h : sEq a b with
  | true => rw [sEq_eq h]; exact beq_self_eq_true b
  | false =>
    cases h2 : a == b with
    | false => rfl
    | true =>
      rw [(sEq_iff a b).mpr (eq_of_beq h2)] at h
      cases h
def lkS : List (PySem.Str × NameKind) → PySem.Str → Option NameKind
  | [], _ => none
  | (y, k) :: r, x => if sEq x y then some k else lkS r x
theorem lkS_eq : ∀ (l : List (PySem.Str × NameKind)) (x : PySem.Str), l.lookup x = lkS l x
  | [], _ => rfl
  | (y, k) :: r, x => by
    rw [List.lookup_cons, sEq_beq, lkS, lkS_eq r x]
    cases sEq x y <;> rfl
/-- a name that starts with two underscores -/
def dun (x : PySem.Str) : Bool := match x.cps.toList with
  | 95 :: 95 :: _ => true
  | _ => false
theorem dun_ne {x y : PySem.Str} (h : dun x = false) (hy : dun y = true) : x ≠ y := fun e => by rw [e, hy] at h; cases h
theorem dun_debug {x : PySem.Str} (h : dun x = false) : (x == ("__debug__" : PySem.Str)) = false := by
  cases e : x == ("__debug__" : PySem.Str) with
  | false => rfl
  | true => exact absurd (eq_of_beq e) (dun_ne h (by decide +kernel))
theorem dun_cdict {x : PySem.Str} (h : dun x = false) : (x == ("__classdict__" : PySem.Str)) = false := by
  cases e : x == ("__classdict__" : PySem.Str) with
  | false => rfl
  | true => exact absurd (eq_of_beq e) (dun_ne h (by decide +kernel))
theorem dun_name {x : PySem.Str} (h : dun x = false) : x ≠ "__name__" := dun_ne h (by decide +kernel)

/-! ### where a text stands -/
structure Vw where
  N : List PySem.Str
  sc : Scope
  fn : PySem.Str → Bool
def Vw.blk (V : Vw) (scope : Scope) : Vw := ⟨V.N, relS scope V.sc, fun x => match lkS scope.names x with
  | some .cell => true
  | _ => false⟩
def visB (V : Vw) (x : PySem.Str) : Bool := match lkS V.sc.names x with
  | some .local => true
  | some .cell => true
  | some .free => true
  | _ => false
def glB (V : Vw) (x : PySem.Str) : Bool := (match lkS V.sc.names x with
  | some .globalImplicit => true
  | _ => false) && !dun x
def locB (V : Vw) (x : PySem.Str) : Bool := match lkS V.sc.names x with
  | some .local => true
  | some .cell => V.fn x
  | _ => false
def isLoc (V : Vw) (x : PySem.Str) : Bool := match lkS V.sc.names x with
  | some .local => true
  | _ => false
def atN (V : Vw) (i : Nat) (x : PySem.Str) : Bool := match V.N[i]? with
  | some y => sEq y x
  | none => false
structure Sta (k : Nat) (X : Cx) (C : Cc) (XW : WX) (V : Vw) : Prop where
  cx : CcX X C
  hN : X.N = V.N
  sc : X.env.scope = V.sc
  fn : ∀ x, X.fn x = V.fn x
  calm : X.calm = true
  nd : X.N.Nodup
  room : Room k X.A
  tk : Takes X XW
  po : PassesOwn (model X.prog X.w) X.A X.env X.xe
  kind : V.sc.kind = .function
section
variable {k : Nat} {X : Cx} {C : Cc} {XW : WX} {V : Vw}
theorem Sta.at_ (st : Sta k X C XW V) {i : Nat} {x : PySem.Str} (h : atN V i x = true) : X.N[i]? = some x := by
  unfold atN at h
  rw [st.hN]
  cases e : V.N[i]? with
  | none => rw [e] at h; cases h
  | some y =>
    rw [e] at h
    rw [sEq_eq h]
theorem Sta.vis (st : Sta k X C XW V) {x : PySem.Str} (h : visB V x = true) : Vis X.env.scope x := by
  unfold visB at h
  unfold Vis
  rw [st.sc, lkS_eq]
  cases e : lkS V.sc.names x with
  | none => rw [e] at h; cases h
  | some k => rw [e] at h; cases k <;> first | (cases h; done) | simp
theorem Sta.gl (st : Sta k X C XW V) {x : PySem.Str} (h : glB V x = true) : Gl X x ∧ dun x = false := by
  unfold glB at h
  rw [Bool.and_eq_true] at h
  obtain ⟨h1, h2⟩ := h
  refine ⟨?_, by simpa using h2⟩
  show X.env.scope.names.lookup x = _
  rw [st.sc, lkS_eq]
  cases e : lkS V.sc.names x with
  | none => rw [e] at h1; cases h1
  | some k => rw [e] at h1; cases k <;> first | (cases h1; done) | rfl
theorem Sta.loc (st : Sta k X C XW V) {x : PySem.Str} (h : locB V x = true) : L2.Loc X.env.scope x ∧ (X.fn x = true ∨ X.env.scope.names.lookup x = some .local) := by
  unfold locB at h
  unfold L2.Loc
  rw [st.sc, lkS_eq, st.fn]
  cases e : lkS V.sc.names x with
  | none => rw [e] at h; cases h
  | some k =>
    rw [e] at h
    cases k <;> first
      | (cases h; done)
      | exact ⟨.inr rfl, .inl h⟩
      | simp
theorem Sta.lcl (st : Sta k X C XW V) {x : PySem.Str} (h : isLoc V x = true) : X.env.scope.names.lookup x = some .local := by
  unfold isLoc at h
  rw [st.sc, lkS_eq]
  cases e : lkS V.sc.names x with
  | none => rw [e] at h; cases h
  | some k => rw [e] at h; cases k <;> first | (cases h; done) | rfl
theorem Sta.blk (st : Sta k X C XW V) {scope : Scope} (hk : scope.kind = .function) (s : Shared) (H : Hp) (A : Addr) (cl : List (PySem.Str × Addr)) (fp : List Addr) : Sta k (blkX X scope s H A cl fp) C noW (V.blk scope) := by
  have cx := st.cx
  refine ⟨?_, st.hN, ?_, fun x => ?_, st.calm, st.nd, st.room, ?_, PassesOwn.never, hk⟩
  · cases cx
    exact CcX.mk (X := blkX X scope s H A cl fp) _ _ _
  · show relS scope X.env.scope = relS scope V.sc
    rw [st.sc]
  · show (scope.names.lookup x == some .cell) = (match lkS scope.names x with
      | some .cell => true
      | _ => false)
    rw [lkS_eq]
    cases lkS scope.names x with
    | none => rfl
    | some k => cases k <;> rfl
  · rintro u s' ⟨a, B, sI, pins, σ, H, cls, d, _, _, _, _, _, _, _, _, w⟩
    exact w.elim
end

/-! ### what the defs read of the module -/
structure Gt where
  fn : Nat → Option PySem.Str
  gc : PySem.Str → Option D
  ec : Nat → Option PySem.Str
def bltNames : List PySem.Str := ["len", "int", "abs", "min", "max", "sum", "all", "any", "tuple", "list", "isinstance", "enumerate", "zip", "range", "bool", "str"]
structure Gok (k : Nat) (C : Cc) (Φ : Nat → List D → M D) (G : Gt) : Prop where
  blt : ∀ x ∈ bltNames, C.mg x = none
  fn : ∀ f x, G.fn f = some x → ∃ fa fd ps, C.mg x = some (.ref fa) ∧ PySem.W.keepIn C.K (.ref fa) = true ∧ Binds C.K fd ps [] ∧ FnOk C.P C.w C.K C.mg C.base (L2.CX C.P C.w) k fa fd ps (spF C Φ f)
  gc : ∀ x d, G.gc x = some d → ∃ v u, C.mg x = some u ∧ RelV v u ∧ ∀ W, Rep C W v d
  ec : ∀ c x, G.ec c = some x → ∃ a bmB newId, C.ca c = some a ∧ C.mg x = some (.ref a) ∧ PySem.W.keepIn C.K (.ref a) = true ∧ PySem.W.subIn C.K (.ref a) (.type "BaseException") = some true ∧ PySem.W.typeIn C.K (.ref a) = some (.type "type") ∧
    ∃ (B initId : String) (_ : ExcBaseFacts B newId initId bmB), PySem.W.excIn C.K a bmB newId = true

/-! ### views of a text -/
def vName : Expr → Option PySem.Str
  | .Name x _ => some x
  | _ => none
theorem vName_eq {e : Expr} {x : PySem.Str} (h : vName e = some x) : ∃ p, e = .Name x p := by
  cases e <;> first | cases h; exact ⟨_, rfl⟩ | cases h
def vConst : Expr → Option Const
  | .Constant c _ _ => some c
  | _ => none
theorem vConst_eq {e : Expr} {x : Const} (h : vConst e = some x) : ∃ k p, e = .Constant x k p := by
  cases e <;> first | cases h; exact ⟨_, _, rfl⟩ | cases h
def vBin : Expr → Option (Expr × Operator × Expr)
  | .BinOp a o b _ => some (a, o, b)
  | _ => none
theorem vBin_eq {e a b : Expr} {o : Operator} (h : vBin e = some (a, o, b)) : ∃ p, e = .BinOp a o b p := by
  cases e <;> first | cases h; exact ⟨_, rfl⟩ | cases h
def vCmp : Expr → Option (Expr × CmpOp × Expr)
  | .Compare a [o] [b] _ => some (a, o, b)
  | _ => none
theorem vCmp_eq {e a b : Expr} {o : CmpOp} (h : vCmp e = some (a, o, b)) : ∃ p, e = .Compare a [o] [b] p := by
  unfold vCmp at h
  split at h
  · cases h; exact ⟨_, rfl⟩
  · cases h
def vChain : Expr → Option (Expr × CmpOp × CmpOp × Expr × Expr)
  | .Compare a [o, o'] [b, c] _ => some (a, o, o', b, c)
  | _ => none
theorem vChain_eq {e a b c : Expr} {o o' : CmpOp} (h : vChain e = some (a, o, o', b, c)) : ∃ p, e = .Compare a [o, o'] [b, c] p := by
  unfold vChain at h
  split at h
  · cases h; exact ⟨_, rfl⟩
  · cases h
def vTup : Expr → Option (List Expr)
  | .Tuple l _ _ => some l
  | _ => none
theorem vTup_eq {e : Expr} {l : List Expr} (h : vTup e = some l) : ∃ k p, e = .Tuple l k p := by
  cases e <;> first | cases h; exact ⟨_, _, rfl⟩ | cases h
def vLst : Expr → Option (List Expr)
  | .List l _ => some l
  | _ => none
theorem vLst_eq {e : Expr} {l : List Expr} (h : vLst e = some l) : ∃ p, e = .List l p := by
  cases e <;> first | cases h; exact ⟨_, rfl⟩ | cases h
def vCall : Expr → Option (PySem.Str × List Expr)
  | .Call (.Name x _) l [] _ => some (x, l)
  | _ => none
theorem vCall_eq {e : Expr} {x : PySem.Str} {l : List Expr} (h : vCall e = some (x, l)) : ∃ p q, e = .Call (.Name x p) l [] q := by
  unfold vCall at h
  split at h
  · cases h; exact ⟨_, _, rfl⟩
  · cases h
def vMeth : Expr → Option (Expr × PySem.Str × List Expr)
  | .Call (.Attribute o x p) l [] q => if p.endLine == q.line then some (o, x, l) else none
  | _ => none
theorem vMeth_eq {e o : Expr} {x : PySem.Str} {l : List Expr} (h : vMeth e = some (o, x, l)) : ∃ p q, e = .Call (.Attribute o x p) l [] q ∧ (p.endLine == q.line) = true := by
  unfold vMeth at h
  split at h
  · rename_i p l' q
    cases e : (p.endLine == q.line) with
    | false => simp only [e] at h; cases h
    | true =>
      simp only [e] at h
      cases h
      exact ⟨p, q, rfl, e⟩
  · cases h
def vBool : Expr → Option (BoolOp × List Expr)
  | .BoolOp o l _ => some (o, l)
  | _ => none
theorem vBool_eq {e : Expr} {o : BoolOp} {l : List Expr} (h : vBool e = some (o, l)) : ∃ p, e = .BoolOp o l p := by
  cases e <;> first | cases h; exact ⟨_, rfl⟩ | cases h
def vNeg : Expr → Option Expr
  | .UnaryOp .USub a _ => some a
  | _ => none
theorem vNeg_eq {e a : Expr} (h : vNeg e = some a) : ∃ p, e = .UnaryOp .USub a p := by
  unfold vNeg at h
  split at h
  · cases h; exact ⟨_, rfl⟩
  · cases h
def vNot : Expr → Option Expr
  | .UnaryOp .Not a _ => some a
  | _ => none
theorem vNot_eq {e a : Expr} (h : vNot e = some a) : ∃ p, e = .UnaryOp .Not a p := by
  unfold vNot at h
  split at h
  · cases h; exact ⟨_, rfl⟩
  · cases h
def vIf : Expr → Option (Expr × Expr × Expr)
  | .IfExp c a b _ => some (c, a, b)
  | _ => none
theorem vIf_eq {e c a b : Expr} (h : vIf e = some (c, a, b)) : ∃ p, e = .IfExp c a b p := by
  cases e <;> first | cases h; exact ⟨_, rfl⟩ | cases h
def vSub : Expr → Option (Expr × Expr)
  | .Subscript a b _ => some (a, b)
  | _ => none
theorem vSub_eq {e a b : Expr} (h : vSub e = some (a, b)) : ∃ p, e = .Subscript a b p := by
  cases e <;> first | cases h; exact ⟨_, rfl⟩ | cases h
def vSlice : Expr → Option (Option Expr × Option Expr)
  | .Slice a b none _ => some (a, b)
  | _ => none
theorem vSlice_eq {e : Expr} {a b : Option Expr} (h : vSlice e = some (a, b)) : ∃ p, e = .Slice a b none p := by
  unfold vSlice at h
  split at h
  · cases h; exact ⟨_, rfl⟩
  · cases h
def vLc : Expr → Option (Expr × Expr × Expr × List Expr × Scope)
  | .ListComp elt [⟨tg, it, ifs, 0⟩] sc _ => some (elt, tg, it, ifs, sc)
  | _ => none
theorem vLc_eq {e elt tg it : Expr} {ifs : List Expr} {sc : Scope} (h : vLc e = some (elt, tg, it, ifs, sc)) : ∃ p, e = .ListComp elt [⟨tg, it, ifs, 0⟩] sc p := by
  unfold vLc at h
  split at h
  · cases h; exact ⟨_, rfl⟩
  · cases h
def vLc2 : Expr → Option (Expr × Expr × Expr × Expr × Expr × List Expr × Scope)
  | .ListComp elt [⟨tg, it, [], 0⟩, ⟨tg1, it1, ifs, 0⟩] sc _ => some (elt, tg, it, tg1, it1, ifs, sc)
  | _ => none
theorem vLc2_eq {e elt tg it tg1 it1 : Expr} {ifs : List Expr} {sc : Scope} (h : vLc2 e = some (elt, tg, it, tg1, it1, ifs, sc)) : ∃ p, e = .ListComp elt [⟨tg, it, [], 0⟩, ⟨tg1, it1, ifs, 0⟩] sc p := by
  unfold vLc2 at h
  split at h
  · cases h; exact ⟨_, rfl⟩
  · cases h
def notStar : Expr → Bool
  | .Starred _ _ => false
  | _ => true
def notIf : Expr → Bool
  | .IfExp .. => false
  | _ => true
def notSet : Expr → Bool
  | .Set .. => false
  | _ => true
def notSlice : Expr → Bool
  | .Slice .. => false
  | _ => true
def notComp : Expr → Bool
  | .ListComp .. => false
  | .SetComp .. => false
  | .DictComp .. => false
  | _ => true
theorem star_one {e : Expr} (h : notStar e = true) (es : List Expr) (env : PySem.Env) : starEach (e :: es) env = (false, eval e env) :: starEach es env := by
  cases e <;> first | rfl | cases h
theorem star_all : ∀ {es : List Expr} (h : es.all notStar = true) (pos : Pos) (env : PySem.Env), (backTo pos (starEach es env)).any (·.1) = false ∧ (backTo pos (starEach es env)).all (fun x => !x.1) = true
  | [], _, _, _ => ⟨rfl, rfl⟩
  | e :: es, h, pos, env => by
    rw [List.all_cons, Bool.and_eq_true] at h
    obtain ⟨h1, h2⟩ := star_all h.2 pos env
    rw [star_one h.1]
    exact ⟨by show (false || (backTo pos (starEach es env)).any (·.1)) = false; rw [h1]; rfl, by show (!false && (backTo pos (starEach es env)).all (fun x => !x.1)) = true; rw [h2]; rfl⟩
theorem fold_no {e : Expr} (h : notSet e = true) (env : PySem.Env) (x : Value) : foldedSetIterable e env x = pure x := by
  cases e <;> first | rfl | cases h
theorem plain_ix {e : Expr} (h : notSlice e = true) : PlainIx e := fun o i => by
  cases e <;> first | rfl | cases h
theorem sw_no {e : Expr} (h : notComp e = true) (t : Option Expr) (l : Nat) (env : PySem.Env) : swapsWith e t l env = pure false := by
  cases e <;> first | rfl | cases h
def notCall0 : Expr → Bool
  | .Call .. => false
  | _ => true
theorem base_no {o : Expr} (h : notCall0 o = true) (x : PySem.Str) (env : PySem.Env) (t : Sem Value) : attributeBase o x env t = t := by
  cases o <;> first | rfl | cases h
theorem isT_val {e : Expr} (h : notIf e = true) (h1 : vBool e = none) (h2 : vNot e = none) (h3 : ∀ a o b p, e ≠ .Compare a o b p) (env : PySem.Env) (whole : Sem Value) : isTrue e env whole = (do let v ← whole; standAt e.pos; holding [v] (truthy v)) := by
  cases e <;> first
    | rfl
    | (cases h; done)
    | (cases h1; done)
    | exact absurd rfl (h3 _ _ _ _)
    | (rename_i op _ _; cases op <;> first | rfl | (cases h2; done))
end Hc
end
section
set_option Elab.async false
set_option linter.all false
set_option maxRecDepth 100000
set_option autoImplicit false
/-! The check, and that it is enough: expressions. -/
namespace Hc
open PySem PySem.Spec PyProof.Rows L2

/-! ### targets -/
mutual
def ckP (V : Vw) : Pat → Expr → Bool
  | .n i, e => (match vName e with
    | some x => atN V i x && locB V x
    | none => false)
  | .t ps, e => (match vTup e with
    | some l => ckPs V ps l
    | none => false)
def ckPs (V : Vw) : Pats → List Expr → Bool
  | .nil, l => l.isEmpty
  | .cons p ps, l => (match l with
    | e :: r => notStar e && ckP V p e && ckPs V ps r
    | [] => false)
end
theorem and3 {a b c : Bool} (h : (a && b && c) = true) : a = true ∧ b = true ∧ c = true := by
  simp only [Bool.and_eq_true] at h
  exact ⟨h.1.1, h.1.2, h.2⟩
theorem and2 {a b : Bool} (h : (a && b) = true) : a = true ∧ b = true := by
  simpa only [Bool.and_eq_true] using h
section
variable {k : Nat} {X : Cx} {C : Cc} {XW : WX} {V : Vw}
theorem asn_cons {e : Expr} (h : notStar e = true) (es : List Expr) (env : PySem.Env) : assignEach (e :: es) env = (false, assign e env) :: assignEach es env := by
  cases e <;> first | rfl | cases h
mutual
theorem snP (st : Sta k X C XW V) : ∀ (p : Pat) {e : Expr}, ckP V p e = true → PG X e (gP C p)
  | .n i, e, h => by
    rw [ckP] at h
    cases e1 : vName e with
    | none => rw [e1] at h; cases h
    | some x =>
      rw [e1] at h
      obtain ⟨q, rfl⟩ := vName_eq e1
      obtain ⟨h1, h2⟩ := and2 h
      obtain ⟨l1, l2⟩ := st.loc h2
      exact g_n st.nd (st.at_ h1) l1 l2
  | .t ps, e, h => by
    rw [ckP] at h
    cases e1 : vTup e with
    | none => rw [e1] at h; cases h
    | some l =>
      rw [e1] at h
      obtain ⟨k, q, rfl⟩ := vTup_eq e1
      obtain ⟨h1, h2, h3⟩ := snPs st ps h
      exact g_t st.cx st.calm h1 h2 h3
theorem snPs (st : Sta k X C XW V) : ∀ (ps : Pats) {l : List Expr}, ckPs V ps l = true → PGs X l (gPs C ps) ∧ (assignEach l X.env).length = patsLen ps ∧ (assignEach l X.env).findIdx? (·.1) = none
  | .nil, l, h => by
    rw [ckPs] at h
    cases l with
    | nil => exact ⟨gs_nil, rfl, rfl⟩
    | cons _ _ => cases h
  | .cons p ps, l, h => by
    cases l with
    | nil => rw [ckPs] at h; cases h
    | cons e r =>
      rw [ckPs] at h
      obtain ⟨h0, h1, h2⟩ := and3 h
      obtain ⟨i1, i2, i3⟩ := snPs st ps h2
      refine ⟨gs_cons (snP st p h1) i1 (by rw [asn_cons h0]; rfl), by rw [asn_cons h0, List.length_cons, i2, patsLen], ?_⟩
      rw [asn_cons h0, List.findIdx?_cons, i3]
      rfl
end
end
/-! ### operators, built-ins -/
def opB : Op2 → Operator → Bool
  | .add, .Add => true
  | .sub, .Sub => true
  | .mul, .Mult => true
  | .fdiv, .FloorDiv => true
  | .mod, .Mod => true
  | .pow, .Pow => true
  | _, _ => false
def cmpB : Op2 → CmpOp → Bool
  | .eq, .Eq => true
  | .ne, .NotEq => true
  | .lt, .Lt => true
  | .le, .LtE => true
  | .gt, .Gt => true
  | .ge, .GtE => true
  | .iss, .Is => true
  | .isn, .IsNot => true
  | .mem, .In => true
  | .nmem, .NotIn => true
  | _, _ => false
theorem opB_ok {X : Cx} {C : Cc} (cx : CcX X C) {o : Op2} {op : Operator} (h : opB o op = true) : OpR X (binaryOp op) (rOp C o) := by
  cases o <;> cases op <;> first
    | (cases h; done)
    | exact r_add cx
    | exact r_sub cx
    | exact r_mul cx
    | exact r_fdiv cx
    | exact r_mod cx
    | exact r_pow cx
theorem room_u {k : Nat} {A : Around} (r : Room k A) : A.units + 65 < cLine := by have := r.un; omega
theorem cmpB_ok {X : Cx} {C : Cc} {k : Nat} (cx : CcX X C) (r : Room k X.A) {o : Op2} {op : CmpOp} (h : cmpB o op = true) : OpR X (compareOp op) (rOp C o) := by
  have u := room_u r
  cases o <;> cases op <;> first
    | (cases h; done)
    | exact r_eq cx (by omega)
    | exact r_ne cx (by omega)
    | exact r_lt cx (by omega)
    | exact r_le cx
    | exact r_gt cx
    | exact r_ge cx
    | exact r_is cx
    | exact r_isn cx
    | exact r_mem cx (by omega)
    | exact r_nmem cx (by omega)
def biNm : Bi → PySem.Str
  | .len => "len"
  | .int => "int"
  | .abs => "abs"
  | .min2 => "min"
  | .max2 => "max"
  | .sum => "sum"
  | .all => "all"
  | .any => "any"
  | .tup => "tuple"
  | .lst _ => "list"
  | .isi _ => "isinstance"
def tyNm : Ty → PySem.Str
  | .int => "int"
  | .bool => "bool"
  | .str => "str"
  | .tup => "tuple"
theorem bi_in (b : Bi) : biNm b ∈ bltNames := by
  cases b <;> simp [biNm, bltNames]
theorem ty_in (t : Ty) : tyNm t ∈ bltNames := by
  cases t <;> simp [tyNm, bltNames]
def cD : Const → Option D
  | .none => some .non
  | .bool b => some (.bl b)
  | .int i => some (.int i)
  | .str x => some (.str x)
  | _ => none
/-! ### a comprehension's block -/
def ownOf (V : Vw) (is : List Nat) : List (PySem.Str × Nat) := is.map fun i => ((V.N[i]?).getD ⟨#[]⟩, i)
def inS (x : PySem.Str) : List PySem.Str → Bool
  | [] => false
  | y :: r => sEq y x || inS x r
theorem inS_iff (x : PySem.Str) : ∀ l : List PySem.Str, inS x l = true ↔ x ∈ l
  | [] => by simp [inS]
  | y :: r => by
    rw [inS, Bool.or_eq_true, inS_iff x r, List.mem_cons, sEq_iff]
    constructor
    · rintro (h | h)
      · exact .inl h.symm
      · exact .inr h
    · rintro (h | h)
      · exact .inl h.symm
      · exact .inr h
def kEq : Option NameKind → NameKind → Bool
  | some .local, .local => true
  | some .cell, .cell => true
  | some .free, .free => true
  | some .globalImplicit, .globalImplicit => true
  | some .globalExplicit, .globalExplicit => true
  | _, _ => false
theorem kEq_eq {a : Option NameKind} {b : NameKind} (h : kEq a b = true) : a = some b := by
  cases a with
  | none => cases b <;> cases h
  | some a => cases a <;> cases b <;> first | rfl | cases h
def blkB (V : Vw) (scope : Scope) (is : List Nat) : Bool :=
  (match scope.kind with
  | .function => true
  | _ => false) && (scope.names.all fun y => kEq (lkS scope.names y.1) y.2) && (is.all fun i => (V.N[i]?).isSome) &&
    (scope.names.all fun y => match y.2 with
      | .free => (match lkS V.sc.names y.1 with
        | some .cell => true
        | some .free => true
        | _ => false)
      | .local => inS y.1 ((ownOf V is).map (·.1)) || !inS y.1 V.N
      | .cell => inS y.1 ((ownOf V is).map (·.1)) || !inS y.1 V.N
      | _ => true)
theorem blk_ok {V : Vw} {scope : Scope} {is : List Nat} (h : blkB V scope is = true) : BlkOk V.N V.sc scope (ownOf V is) ∧ (ownOf V is).map (·.2) = is ∧ scope.kind = .function := by
  unfold blkB at h
  simp only [Bool.and_eq_true, List.all_eq_true] at h
  obtain ⟨⟨⟨h1, h2⟩, h3⟩, h4⟩ := h
  have hk : scope.kind = .function := by
    split at h1
    · assumption
    · cases h1
  refine ⟨⟨hk, fun y hy => by rw [lkS_eq]; exact kEq_eq (h2 y hy), fun p hp => ?_, fun y hy e => ?_, fun y hy e => ?_⟩, ?_, hk⟩
  · obtain ⟨i, hi, rfl⟩ := List.mem_map.mp hp
    have := h3 i hi
    show V.N[i]? = some ((V.N[i]?).getD ⟨#[]⟩)
    cases e : V.N[i]? with
    | none => rw [e] at this; cases this
    | some x => rfl
  · have q := h4 y hy
    simp only [e] at q
    rw [lkS_eq]
    cases e2 : lkS V.sc.names y.1 with
    | none => rw [e2] at q; cases q
    | some k => rw [e2] at q; cases k <;> first | (cases q; done) | exact .inl rfl | exact .inr rfl
  · have q := h4 y hy
    rcases e with e | e <;>
    · simp only [e, Bool.or_eq_true, Bool.not_eq_true'] at q
      rcases q with q | q
      · exact .inl ((inS_iff _ _).mp q)
      · exact .inr fun h => by rw [(inS_iff _ _).mpr h] at q; cases q
  · simp [ownOf, Function.comp_def]
/-! ### expressions -/
def isTyN (V : Vw) (t : Ty) (e : Expr) : Bool := match vName e with
  | some x => glB V x && sEq (tyNm t) x
  | none => false
mutual
def ckE (G : Gt) : Ex → Vw → Expr → Bool
  | .v i, V, e => (match vName e with
    | some x => atN V i x && visB V x && !dun x
    | none => false)
  | .c d, V, e => (match vConst e with
    | some c => (match cD c with
      | some d' => D.same d' d
      | none => false)
    | none => (match vName e with
      | some x => glB V x && (match G.gc x with
        | some d' => D.same d' d
        | none => false)
      | none => false))
  | .gf _, _, _ => false
  | .tup es, V, e => (match vTup e with
    | some l => ckEs G es V l && decide (l.length ≤ 1000)
    | none => false)
  | .lst _ es, V, e => (match vLst e with
    | some l => ckEs G es V l && decide (l.length ≤ 1000)
    | none => false)
  | .call f es, V, e => (match vCall e with
    | some (x, l) => glB V x && (match G.fn f with
      | some y => sEq y x
      | none => false) && (ckEs G es V l && !l.isEmpty)
    | none => false)
  | .bi b es, V, e => (match vCall e with
    | some (x, l) => glB V x && sEq (biNm b) x && (match b with
      | .isi t => (match l with
        | [a, c] => ckEs G es V [a] && isTyN V t c
        | _ => false)
      | .lst _ => (match l with
        | [a] => ckEs G es V [a]
        | _ => false)
      | _ => ckEs G es V l && !l.isEmpty)
    | none => false)
  | .op o a b, V, e => (match vBin e with
    | some (l, op, r) => opB o op && ckE G a V l && ckE G b V r
    | none => (match vCmp e with
      | some (l, op, r) => (cmpB o op && notSet r) && ckE G a V l && ckE G b V r
      | none => false))
  | .neg a, V, e => (match vNeg e with
    | some x => ckE G a V x
    | none => false)
  | .not a, V, e => (match vNot e with
    | some x => notIf x && ckE G a V x
    | none => false)
  | .and es, V, e => (match vBool e with
    | some (.And, l) => ckEs G es V l && !l.isEmpty && l.all notIf
    | _ => false)
  | .or es, V, e => (match vBool e with
    | some (.Or, l) => ckEs G es V l && !l.isEmpty && l.all notIf
    | _ => false)
  | .chain o₁ o₂ a b c, V, e => (match vChain e with
    | some (x, op, op', y, z) => (cmpB o₁ op && cmpB o₂ op' && notSet z) && (ckE G a V x && ckE G b V y && ckE G c V z)
    | none => false)
  | .ite t a b, V, e => (match vIf e with
    | some (c, x, y) => (notIf c && ckE G t V c) && ckE G a V x && ckE G b V y
    | none => false)
  | .ix a i, V, e => (match vSub e with
    | some (x, y) => notSlice y && ckE G a V x && ckE G i V y
    | none => false)
  | .sl a lo hi, V, e => (match vSub e with
    | some (x, y) => (match vSlice y with
      | some (l, u) => ckE G a V x && ckO G lo V l && ckO G hi V u
      | none => false)
    | none => false)
  | .lc _ e p s c, V, x => (match vLc x with
    | some (elt, tg, it, ifs, sc) => (blkB V sc p.vars && ckS G s V tg it && ckP (V.blk sc) p tg) && (ckC G c (V.blk sc) ifs && ckE G e (V.blk sc) elt)
    | none => false)
  | .lc2 _ e p s q r c, V, x => (match vLc2 x with
    | some (elt, tg, it, tg1, it1, ifs, sc) => (blkB V sc (p.vars ++ q.vars) && ckS G s V tg it && ckP (V.blk sc) p tg) && (ckS G r (V.blk sc) tg1 it1 && ckP (V.blk sc) q tg1) && (ckC G c (V.blk sc) ifs && ckE G e (V.blk sc) elt)
    | none => false)
  | .mt _ o es, V, e => (match vMeth e with
    | some (x, n, l) => (sEq n "append" && notCall0 x && decide (l.length < 29)) && ckE G o V x && (ckEs G es V l && !l.isEmpty)
    | none => false)
  | .fz i, V, e => (match vName e with
    | some x => atN V i x && visB V x && !dun x
    | none => false)
def ckEs (G : Gt) : Exs → Vw → List Expr → Bool
  | .nil, _, l => l.isEmpty
  | .cons x xs, V, l => (match l with
    | e :: r => notStar e && ckE G x V e && ckEs G xs V r
    | [] => false)
def ckO (G : Gt) : Exo → Vw → Option Expr → Bool
  | .none, _, o => o.isNone
  | .some x, V, o => (match o with
    | some e => ckE G x V e
    | none => false)
def ckC (G : Gt) : Exo → Vw → List Expr → Bool
  | .none, _, l => l.isEmpty
  | .some x, V, l => (match l with
    | [e] => notIf e && ckE G x V e
    | _ => false)
def ckS (G : Gt) : Src → Vw → Expr → Expr → Bool
  | .seq x, V, _, it => notSet it && ckE G x V it
  | .rng x, V, _, it => (match vCall it with
    | some (n, l) => (glB V n && sEq "range" n) && (match l with
      | [a] => notStar a && ckE G x V a
      | _ => false)
    | none => false)
  | .rng2 x y, V, _, it => (match vCall it with
    | some (n, l) => (glB V n && sEq "range" n) && (match l with
      | [a, b] => (notStar a && notStar b) && ckE G x V a && ckE G y V b
      | _ => false)
    | none => false)
  | .enm x, V, tg, it => (vTup tg).isSome && (match vCall it with
    | some (n, l) => (glB V n && sEq "enumerate" n) && (match l with
      | [a] => notStar a && ckE G x V a
      | _ => false)
    | none => false)
  | .zip x y, V, tg, it => (vTup tg).isSome && (match vCall it with
    | some (n, l) => (glB V n && sEq "zip" n) && (match l with
      | [a, b] => (notStar a && notStar b) && ckE G x V a && ckE G y V b
      | _ => false)
    | none => false)
end
end Hc
end
section
set_option Elab.async false
set_option linter.all false
set_option maxRecDepth 100000
set_option autoImplicit false
/-! The check is enough: expressions. -/
namespace Hc
open PySem PySem.Spec PyProof.Rows L2

def exsLen : Exs → Nat
  | .nil => 0
  | .cons _ xs => exsLen xs + 1
section
variable {lv : Nat} {C : Cc} {Φ : Nat → List D → M D}
theorem eEs_len : ∀ {xs : Exs} {σ : Env} {S : Store} {ds : List D} {S' : Store}, eEs Φ xs σ S = .ok ds S' → ds.length = exsLen xs
  | .nil, σ, S, ds, S', h => by
    rw [eEs] at h
    cases h
    rfl
  | .cons x xs, σ, S, ds, S', h => by
    rw [eEs] at h
    obtain ⟨d, S1, e1, h⟩ := ok_bind h
    obtain ⟨r, S2, e2, h⟩ := ok_bind h
    cases (show Out.ok (d :: r) S2 = .ok ds S' from h)
    rw [List.length_cons, eEs_len e2, exsLen]
/-- what is known of an expression -/
structure OkE (X : Cx) (C : Cc) (XW : WX) (Φ : Nat → List D → M D) (x : Ex) (e : Expr) : Prop where
  pe : PE X e (tD C XW (eE Φ x))
  pt : notIf e = true → PT X e (tBo C XW (eT Φ x))
structure OkEs (X : Cx) (C : Cc) (XW : WX) (Φ : Nat → List D → M D) (xs : Exs) (l : List Expr) : Prop where
  pa : PA X l (tDs C XW (eEs Φ xs))
  ns : l.all notStar = true
  len : exsLen xs = l.length
  an : l ≠ [] → ∀ pos, PE X (.BoolOp .And l pos) (tD C XW (eAndV Φ xs))
  or : l ≠ [] → ∀ pos, PE X (.BoolOp .Or l pos) (tD C XW (eOrV Φ xs))
  anT : l ≠ [] → l.all notIf = true → ∀ pos, PW X (.BoolOp .And l pos) (tBo C XW (eAnd Φ xs))
  orT : l ≠ [] → l.all notIf = true → ∀ pos, PW X (.BoolOp .Or l pos) (tBo C XW (eOr Φ xs))
section
variable {X : Cx} {XW : WX} {V : Vw} {G : Gt}
theorem OkE.val {x : Ex} {e : Expr} (pe : PE X e (tD C XW (eE Φ x))) (h1 : vBool e = none) (h2 : vNot e = none) (h3 : ∀ a o b p, e ≠ .Compare a o b p) : OkE X C XW Φ x e := ⟨pe, fun hi => t_val pe (isT_val hi h1 h2 h3 X.env)⟩
theorem OkEs.hl {xs : Exs} {l : List Expr} (k : OkEs X C XW Φ xs l) (h : l.length ≤ 1000) : ∀ (σ : Env) S ds S', eEs Φ xs σ S = .ok ds S' → ds.length ≤ 1000 := fun σ S ds S' e => by rw [eEs_len e, k.len]; exact h
theorem blt_at (gk : Gok lv C Φ G) (st : Sta lv X C XW V) {x : PySem.Str} (h : x ∈ bltNames) : X.mg x = none := by
  have := gk.blt x h
  cases st.cx
  exact this
theorem boot_bi {b : Bi} : (∃ id, bootBuiltins (biNm b) = some (.builtin id)) ∨ ∃ T, bootBuiltins (biNm b) = some (.type T) := by
  cases b <;> first | exact .inl ⟨_, rfl⟩ | exact .inr ⟨_, rfl⟩
theorem boot_ty {t : Ty} : bootBuiltins (tyNm t) = some (.type (tyStr t)) := by
  cases t <;> rfl
theorem snBi (st : Sta lv X C XW V) (gk : Gok lv C Φ G) {b : Bi} {xs : Exs} {l : List Expr} {p q : Pos} (hb : ∀ m, b ≠ .lst m) (hi : ∀ t, b ≠ .isi t) (hx : Gl X (biNm b)) (hd : dun (biNm b) = false) (k : OkEs X C XW Φ xs l) (hl : l ≠ []) : PE X (.Call (.Name (biNm b) p) l [] q) (tD C XW (eE Φ (.bi b xs))) := by
  cases l with
  | nil => exact absurd rfl hl
  | cons e es =>
    have ns := k.ns
    rw [List.all_cons] at ns
    obtain ⟨n1, n2⟩ := and2 ns
    have hm := blt_at gk st (bi_in b)
    have nm := dun_name hd
    have db := dun_debug hd
    cases b with
    | lst m => exact absurd rfl (hb m)
    | isi t => exact absurd rfl (hi t)
    | len => exact e_biB (by simp) (b_len st.cx) hx hm rfl nm db k.pa (star_one n1 es _) (star_all n2 _ _).1
    | int => exact e_biT (by simp) (b_int st.cx) hx hm rfl nm db k.pa (star_one n1 es _) (star_all n2 _ _).1
    | abs => exact e_biB (by simp) (b_abs st.cx) hx hm rfl nm db k.pa (star_one n1 es _) (star_all n2 _ _).1
    | min2 => exact e_biB (by simp) (b_min st.cx st.calm) hx hm rfl nm db k.pa (star_one n1 es _) (star_all n2 _ _).1
    | max2 => exact e_biB (by simp) (b_max st.cx st.calm) hx hm rfl nm db k.pa (star_one n1 es _) (star_all n2 _ _).1
    | sum => exact e_biB (by simp) (b_sum st.cx st.calm) hx hm rfl nm db k.pa (star_one n1 es _) (star_all n2 _ _).1
    | all => exact e_biB (by simp) (b_all st.cx st.calm) hx hm rfl nm db k.pa (star_one n1 es _) (star_all n2 _ _).1
    | any => exact e_biB (by simp) (b_any st.cx st.calm) hx hm rfl nm db k.pa (star_one n1 es _) (star_all n2 _ _).1
    | tup => exact e_biT (by simp) (b_tup st.cx) hx hm rfl nm db k.pa (star_one n1 es _) (star_all n2 _ _).1
theorem isEmpty_ne {l : List Expr} (h : (!l.isEmpty) = true) : l ≠ [] := by
  cases l with
  | nil => cases h
  | cons _ _ => exact fun e => nomatch e
/-- the parts of a comprehension -/
structure LcP (X : Cx) (C : Cc) (XW : WX) (Φ : Nat → List D → M D) (p : Pat) (s : Src) (c : Exo) (e : Ex) (elt tg it : Expr) (ifs : List Expr) (scope : Scope) (own : List (PySem.Str × Nat)) : Prop where
  hi : PI X tg it (tI C XW (eS Φ s))
  ok : BlkOk X.N X.env.scope scope own
  hw : own.map (·.2) = p.vars
  hg : ∀ s H A cl fp, PG (blkX X scope s H A cl fp) tg (gP C p)
  ht : ∀ s H A cl fp, PTs (blkX X scope s H A cl fp) ifs (tBo C noW (eC Φ c))
  he : ∀ s H A cl fp, PE (blkX X scope s H A cl fp) elt (tD C noW (eE Φ e))
  hs : notSet it = true
structure LcP2 (X : Cx) (C : Cc) (XW : WX) (Φ : Nat → List D → M D) (p : Pat) (s : Src) (q : Pat) (r : Src) (c : Exo) (e : Ex) (elt tg it tg1 it1 : Expr) (ifs : List Expr) (scope : Scope) (own : List (PySem.Str × Nat)) : Prop where
  hi : PI X tg it (tI C XW (eS Φ s))
  ok : BlkOk X.N X.env.scope scope own
  hw : own.map (·.2) = p.vars ++ q.vars
  hg : ∀ s H A cl fp, PG (blkX X scope s H A cl fp) tg (gP C p)
  hi1 : ∀ s H A cl fp, PI (blkX X scope s H A cl fp) tg1 it1 (tI C noW (eS Φ r))
  hg1 : ∀ s H A cl fp, PG (blkX X scope s H A cl fp) tg1 (gP C q)
  ht : ∀ s H A cl fp, PTs (blkX X scope s H A cl fp) ifs (tBo C noW (eC Φ c))
  he : ∀ s H A cl fp, PE (blkX X scope s H A cl fp) elt (tD C noW (eE Φ e))
  hs : notSet it = true
  hs1 : notSet it1 = true
theorem call_notSet {it : Expr} {x : PySem.Str × List Expr} (h : vCall it = some x) : notSet it = true := by
  obtain ⟨p, q, rfl⟩ := vCall_eq (x := x.1) (l := x.2) h
  rfl
theorem ckS_notSet {G : Gt} {s : Src} {V : Vw} {tg it : Expr} (h : ckS G s V tg it = true) : notSet it = true := by
  cases s with
  | seq x => rw [ckS] at h; exact (and2 h).1
  | rng x =>
    rw [ckS] at h
    cases e1 : vCall it with
    | none => rw [e1] at h; cases h
    | some t => exact call_notSet e1
  | rng2 x y =>
    rw [ckS] at h
    cases e1 : vCall it with
    | none => rw [e1] at h; cases h
    | some t => exact call_notSet e1
  | enm x =>
    rw [ckS] at h
    have h := (and2 h).2
    cases e1 : vCall it with
    | none => rw [e1] at h; cases h
    | some t => exact call_notSet e1
  | zip x y =>
    rw [ckS] at h
    have h := (and2 h).2
    cases e1 : vCall it with
    | none => rw [e1] at h; cases h
    | some t => exact call_notSet e1
end
mutual
theorem snE {G : Gt} (gk : Gok lv C Φ G) : ∀ (x : Ex) {X : Cx} {XW : WX} {V : Vw} {e : Expr}, Sta lv X C XW V → ckE G x V e = true → OkE X C XW Φ x e
  | .v i, X, XW, V, e, st, h => by
    rw [ckE] at h
    cases e1 : vName e with
    | none => rw [e1] at h; cases h
    | some x =>
      rw [e1] at h
      obtain ⟨p, rfl⟩ := vName_eq e1
      obtain ⟨h1, h2, h3⟩ := and3 h
      have h3' : dun x = false := by simpa using h3
      exact .val (e_var (st.at_ h1) (st.vis h2) (dun_debug h3') (dun_cdict h3')) rfl rfl (fun _ _ _ _ e => nomatch e)
  | .c d, X, XW, V, e, st, h => by
    rw [ckE] at h
    cases e1 : vConst e with
    | some c =>
      simp only [e1] at h
      obtain ⟨k, p, rfl⟩ := vConst_eq e1
      cases e2 : cD c with
      | none => rw [e2] at h; cases h
      | some d' =>
        rw [e2] at h
        cases D.same_eq _ _ h
        refine .val ?_ rfl rfl (fun _ _ _ _ e => nomatch e)
        cases c with
        | none => cases e2; exact e_const pe_non fun W => .non
        | bool b => cases e2; exact e_const pe_bl fun W => .bl b
        | int i => cases e2; exact e_const pe_int fun W => .int i
        | str x => cases e2; exact e_const pe_str fun W => .str x
        | _ => cases e2
    | none =>
      simp only [e1] at h
      cases e3 : vName e with
      | none => rw [e3] at h; cases h
      | some x =>
        rw [e3] at h
        obtain ⟨p, rfl⟩ := vName_eq e3
        obtain ⟨h1, h2⟩ := and2 h
        cases e2 : G.gc x with
        | none => rw [e2] at h2; cases h2
        | some d' =>
          rw [e2] at h2
          cases D.same_eq _ _ h2
          obtain ⟨v, u, m1, r1, r2⟩ := gk.gc x d e2
          obtain ⟨g1, g2⟩ := st.gl h1
          have m1' : X.mg x = some u := by
            have := m1
            cases st.cx
            exact this
          exact .val (e_const (pe_glob g1 m1' r1 (dun_debug g2)) r2) rfl rfl (fun _ _ _ _ e => nomatch e)
  | .gf f, X, XW, V, e, st, h => by rw [ckE] at h; cases h
  | .tup es, X, XW, V, e, st, h => by
    rw [ckE] at h
    cases e1 : vTup e with
    | none => rw [e1] at h; cases h
    | some l =>
      rw [e1] at h
      obtain ⟨k, p, rfl⟩ := vTup_eq e1
      obtain ⟨h1, h2⟩ := and2 h
      have ih := snEs gk es st h1
      exact .val (e_tup ih.pa (ih.hl (of_decide_eq_true h2))) rfl rfl (fun _ _ _ _ e => nomatch e)
  | .lst m es, X, XW, V, e, st, h => by
    rw [ckE] at h
    cases e1 : vLst e with
    | none => rw [e1] at h; cases h
    | some l =>
      rw [e1] at h
      obtain ⟨p, rfl⟩ := vLst_eq e1
      obtain ⟨h1, h2⟩ := and2 h
      have ih := snEs gk es st h1
      exact .val (e_lst ih.pa (ih.hl (of_decide_eq_true h2))) rfl rfl (fun _ _ _ _ e => nomatch e)
  | .call f es, X, XW, V, e, st, h => by
    rw [ckE] at h
    cases e1 : vCall e with
    | none => rw [e1] at h; cases h
    | some xl =>
      obtain ⟨x, l⟩ := xl
      rw [e1] at h
      obtain ⟨p, q, rfl⟩ := vCall_eq e1
      obtain ⟨h1, h2, h3⟩ := and3 h
      obtain ⟨h3, h4⟩ := and2 h3
      obtain ⟨g1, g2⟩ := st.gl h1
      cases e2 : G.fn f with
      | none => rw [e2] at h2; cases h2
      | some y =>
        rw [e2] at h2
        cases sEq_eq h2
        obtain ⟨fa, fd, ps, m1, kp, bn, fo⟩ := gk.fn f _ e2
        have ih := snEs gk es st h3
        have ns := ih.ns
        cases l with
        | nil => cases h4
        | cons a l' =>
          rw [List.all_cons] at ns
          obtain ⟨n1, n2⟩ := and2 ns
          have room := st.room
          have tk := st.tk
          have pa := ih.pa
          refine .val ?_ rfl rfl (fun _ _ _ _ e => nomatch e)
          cases st.cx
          exact e_call fo room g1 m1 kp bn tk pa (dun_debug g2) (star_one n1 l' _) (star_all n2 _ _).1
  | .bi b es, X, XW, V, e, st, h => by
    rw [ckE] at h
    cases e1 : vCall e with
    | none => rw [e1] at h; cases h
    | some xl =>
      obtain ⟨x, l⟩ := xl
      rw [e1] at h
      obtain ⟨p, q, rfl⟩ := vCall_eq e1
      obtain ⟨h1, h2, h3⟩ := and3 h
      obtain ⟨g1, g2⟩ := st.gl h1
      cases sEq_eq h2
      refine .val ?_ rfl rfl (fun _ _ _ _ e => nomatch e)
      have hm := blt_at gk st (bi_in b)
      cases b with
      | isi t =>
        match l, h3 with
        | [a, c], h3 =>
          obtain ⟨h4, h5⟩ := and2 h3
          have ih := snEs gk es st h4
          have ns := ih.ns
          simp only [List.all_cons, List.all_nil, Bool.and_true] at ns
          unfold isTyN at h5
          cases e3 : vName c with
          | none => rw [e3] at h5; cases h5
          | some y =>
            rw [e3] at h5
            obtain ⟨r, rfl⟩ := vName_eq e3
            obtain ⟨h6, h7⟩ := and2 h5
            obtain ⟨g3, g4⟩ := st.gl h6
            cases sEq_eq h7
            have pb : PE X (.Name (tyNm t) r) (tC (.ty (tyStr t))) := pe_bltn g3 (blt_at gk st (ty_in t)) boot_ty rfl (dun_name g4) (dun_debug g4)
            match es, h4, ih with
            | .cons y .nil, h4, ih =>
              rw [ckEs] at h4
              have ih2 := snE gk y st (and3 h4).2.1
              exact e_isi st.cx g1 hm rfl (dun_name g2) (dun_debug g2) ih2.pe pb (star_one ns _ _) rfl rfl
            | .nil, h4, ih => have := ih.len; simp [exsLen] at this
            | .cons _ (.cons _ _), h4, ih => have := ih.len; simp [exsLen] at this
        | [], h3 => cases h3
        | [_], h3 => cases h3
        | _ :: _ :: _ :: _, h3 => cases h3
      | lst m =>
        match l, h3 with
        | [a], h3 =>
          have ih := snEs gk es st h3
          have ns := ih.ns
          simp only [List.all_cons, List.all_nil, Bool.and_true] at ns
          match es, h3, ih with
          | .cons y .nil, h3, ih => exact e_lof (es := []) st.cx g1 hm rfl (dun_name g2) (dun_debug g2) ih.pa (star_one ns _ _) rfl
          | .nil, h3, ih => have := ih.len; simp [exsLen] at this
          | .cons _ (.cons _ _), h3, ih => have := ih.len; simp [exsLen] at this
        | [], h3 => cases h3
        | _ :: _ :: _, h3 => cases h3
      | len => exact snBi st gk (by simp) (by simp) g1 g2 (snEs gk es st (and2 h3).1) (isEmpty_ne (and2 h3).2)
      | int => exact snBi st gk (by simp) (by simp) g1 g2 (snEs gk es st (and2 h3).1) (isEmpty_ne (and2 h3).2)
      | abs => exact snBi st gk (by simp) (by simp) g1 g2 (snEs gk es st (and2 h3).1) (isEmpty_ne (and2 h3).2)
      | min2 => exact snBi st gk (by simp) (by simp) g1 g2 (snEs gk es st (and2 h3).1) (isEmpty_ne (and2 h3).2)
      | max2 => exact snBi st gk (by simp) (by simp) g1 g2 (snEs gk es st (and2 h3).1) (isEmpty_ne (and2 h3).2)
      | sum => exact snBi st gk (by simp) (by simp) g1 g2 (snEs gk es st (and2 h3).1) (isEmpty_ne (and2 h3).2)
      | all => exact snBi st gk (by simp) (by simp) g1 g2 (snEs gk es st (and2 h3).1) (isEmpty_ne (and2 h3).2)
      | any => exact snBi st gk (by simp) (by simp) g1 g2 (snEs gk es st (and2 h3).1) (isEmpty_ne (and2 h3).2)
      | tup => exact snBi st gk (by simp) (by simp) g1 g2 (snEs gk es st (and2 h3).1) (isEmpty_ne (and2 h3).2)
  | .op o a b, X, XW, V, e, st, h => by
    rw [ckE] at h
    cases e1 : vBin e with
    | some t =>
      obtain ⟨l, op, r⟩ := t
      simp only [e1] at h
      obtain ⟨p, rfl⟩ := vBin_eq e1
      obtain ⟨h1, h2, h3⟩ := and3 h
      exact .val (e_op (opB_ok st.cx h1) (snE gk a st h2).pe (snE gk b st h3).pe) rfl rfl (fun _ _ _ _ e => nomatch e)
    | none =>
      simp only [e1] at h
      cases e2 : vCmp e with
      | none => rw [e2] at h; cases h
      | some t =>
        obtain ⟨l, op, r⟩ := t
        rw [e2] at h
        obtain ⟨p, rfl⟩ := vCmp_eq e2
        obtain ⟨h1, h2, h3⟩ := and3 h
        obtain ⟨h1, h4⟩ := and2 h1
        have hm : behindInMarks op r = false := by cases r <;> first | rfl | cases h4
        have ia := snE gk a st h2
        have ib := snE gk b st h3
        exact ⟨e_cmp (cmpB_ok st.cx st.room h1) hm ia.pe ib.pe, fun _ => t_cmp (cmpB_ok st.cx st.room h1) hm ia.pe ib.pe⟩
  | .neg a, X, XW, V, e, st, h => by
    rw [ckE] at h
    cases e1 : vNeg e with
    | none => rw [e1] at h; cases h
    | some x =>
      rw [e1] at h
      obtain ⟨p, rfl⟩ := vNeg_eq e1
      exact .val (e_neg (snE gk a st h).pe) rfl rfl (fun _ _ _ _ e => nomatch e)
  | .not a, X, XW, V, e, st, h => by
    rw [ckE] at h
    cases e1 : vNot e with
    | none => rw [e1] at h; cases h
    | some x =>
      rw [e1] at h
      obtain ⟨p, rfl⟩ := vNot_eq e1
      obtain ⟨h1, h2⟩ := and2 h
      have ih := snE gk a st h2
      exact ⟨e_not ih.pe, fun _ => t_not (ih.pt h1)⟩
  | .and es, X, XW, V, e, st, h => by
    rw [ckE] at h
    cases e1 : vBool e with
    | none => rw [e1] at h; cases h
    | some t =>
      obtain ⟨o, l⟩ := t
      rw [e1] at h
      obtain ⟨p, rfl⟩ := vBool_eq e1
      cases o with
      | Or => cases h
      | And =>
        obtain ⟨h1, h2, hn⟩ := and3 h
        have ih := snEs gk es st h1
        have e0 : (fun σ => eE Φ (.and es) σ) = eAndV Φ es := by funext σ; rw [eE]; rfl
        refine ⟨?_, fun _ => ?_⟩
        · have := ih.an (isEmpty_ne h2) p
          rw [← e0] at this
          exact this
        · have := (ih.anT (isEmpty_ne h2) hn p).pt
          rw [← eT_and] at this
          exact this
  | .or es, X, XW, V, e, st, h => by
    rw [ckE] at h
    cases e1 : vBool e with
    | none => rw [e1] at h; cases h
    | some t =>
      obtain ⟨o, l⟩ := t
      rw [e1] at h
      obtain ⟨p, rfl⟩ := vBool_eq e1
      cases o with
      | And => cases h
      | Or =>
        obtain ⟨h1, h2, hn⟩ := and3 h
        have ih := snEs gk es st h1
        have e0 : (fun σ => eE Φ (.or es) σ) = eOrV Φ es := by funext σ; rw [eE]; rfl
        refine ⟨?_, fun _ => ?_⟩
        · have := ih.or (isEmpty_ne h2) p
          rw [← e0] at this
          exact this
        · have := (ih.orT (isEmpty_ne h2) hn p).pt
          rw [← eT_or] at this
          exact this
  | .chain o₁ o₂ a b c, X, XW, V, e, st, h => by
    rw [ckE] at h
    cases e1 : vChain e with
    | none => rw [e1] at h; cases h
    | some t =>
      obtain ⟨x, op, op', y, z⟩ := t
      rw [e1] at h
      obtain ⟨p, rfl⟩ := vChain_eq e1
      obtain ⟨h1, h2⟩ := and2 h
      obtain ⟨h1, h3, h4⟩ := and3 h1
      obtain ⟨h5, h6, h7⟩ := and3 h2
      have hm : lastMarks [op, op'] [y, z] = false := by
        show behindInMarks op' z = false
        cases z <;> first | rfl | cases h4
      have ia := snE gk a st h5
      have ib := snE gk b st h6
      have ic := snE gk c st h7
      exact ⟨e_chain (cmpB_ok st.cx st.room h1) (cmpB_ok st.cx st.room h3) hm ia.pe ib.pe ic.pe, fun _ => t_chain (cmpB_ok st.cx st.room h1) (cmpB_ok st.cx st.room h3) hm ia.pe ib.pe ic.pe⟩
  | .ite t a b, X, XW, V, e, st, h => by
    rw [ckE] at h
    cases e1 : vIf e with
    | none => rw [e1] at h; cases h
    | some t' =>
      obtain ⟨c, x, y⟩ := t'
      rw [e1] at h
      obtain ⟨p, rfl⟩ := vIf_eq e1
      obtain ⟨h1, h2, h3⟩ := and3 h
      obtain ⟨h1, h4⟩ := and2 h1
      exact ⟨e_ite ((snE gk t st h4).pt h1) (snE gk a st h2).pe (snE gk b st h3).pe, fun h => nomatch h⟩
  | .ix a i, X, XW, V, e, st, h => by
    rw [ckE] at h
    cases e1 : vSub e with
    | none => rw [e1] at h; cases h
    | some t =>
      obtain ⟨x, y⟩ := t
      rw [e1] at h
      obtain ⟨p, rfl⟩ := vSub_eq e1
      obtain ⟨h1, h2, h3⟩ := and3 h
      exact .val (e_ix st.cx (plain_ix h1) (snE gk a st h2).pe (snE gk i st h3).pe) rfl rfl (fun _ _ _ _ e => nomatch e)
  | .sl a lo hi, X, XW, V, e, st, h => by
    rw [ckE] at h
    cases e1 : vSub e with
    | none => rw [e1] at h; cases h
    | some t =>
      obtain ⟨x, y⟩ := t
      rw [e1] at h
      obtain ⟨p, rfl⟩ := vSub_eq e1
      simp only at h
      cases e2 : vSlice y with
      | none => rw [e2] at h; cases h
      | some t =>
        obtain ⟨l, u⟩ := t
        rw [e2] at h
        obtain ⟨q, rfl⟩ := vSlice_eq e2
        obtain ⟨h1, h2, h3⟩ := and3 h
        exact .val (e_sl st.cx (snE gk a st h1).pe (snO gk lo st h2) (snO gk hi st h3)) rfl rfl (fun _ _ _ _ e => nomatch e)
  | .lc m e p s c, X, XW, V, x, st, h => by
    rw [ckE] at h
    cases e1 : vLc x with
    | none => rw [e1] at h; cases h
    | some t =>
      obtain ⟨elt, tg, it, ifs, sc⟩ := t
      rw [e1] at h
      obtain ⟨q, rfl⟩ := vLc_eq e1
      obtain ⟨h1, h2⟩ := and2 h
      obtain ⟨h3, h4, h5⟩ := and3 h1
      obtain ⟨h6, h7⟩ := and2 h2
      obtain ⟨b1, b2, b3⟩ := blk_ok h3
      obtain ⟨s1, s2⟩ := snS gk s st h4
      refine .val (e_lc st.calm st.nd s1 ?_ b2 (fun s H A cl fp => snP (st.blk b3 s H A cl fp) p h5) (fun s H A cl fp => snC gk c (st.blk b3 s H A cl fp) h6) (fun s H A cl fp => (snE gk e (st.blk b3 s H A cl fp) h7).pe) (fun x => fold_no s2 _ x)) rfl rfl (fun _ _ _ _ e => nomatch e)
      rw [st.hN, st.sc]
      exact b1
  | .lc2 m e p s q r c, X, XW, V, x, st, h => by
    rw [ckE] at h
    cases e1 : vLc2 x with
    | none => rw [e1] at h; cases h
    | some t =>
      obtain ⟨elt, tg, it, tg1, it1, ifs, sc⟩ := t
      rw [e1] at h
      obtain ⟨w, rfl⟩ := vLc2_eq e1
      obtain ⟨h1, h8, h2⟩ := and3 h
      obtain ⟨h3, h4, h5⟩ := and3 h1
      obtain ⟨h6, h7⟩ := and2 h2
      obtain ⟨h9, h10⟩ := and2 h8
      obtain ⟨b1, b2, b3⟩ := blk_ok h3
      obtain ⟨s1, s2⟩ := snS gk s st h4
      have s3 := ckS_notSet h9
      refine .val (e_lc2 st.calm st.nd s1 ?_ b2 (fun s H A cl fp => snP (st.blk b3 s H A cl fp) p h5) (fun s H A cl fp => (snS gk r (st.blk b3 s H A cl fp) h9).1) (fun s H A cl fp => snP (st.blk b3 s H A cl fp) q h10) (fun s H A cl fp => snC gk c (st.blk b3 s H A cl fp) h6) (fun s H A cl fp => (snE gk e (st.blk b3 s H A cl fp) h7).pe) (fun x => fold_no s2 _ x) (fun env x => fold_no s3 env x)) rfl rfl (fun _ _ _ _ e => nomatch e)
      rw [st.hN, st.sc]
      exact b1
  | .mt m o es, X, XW, V, e, st, h => by
    rw [ckE] at h
    cases e1 : vMeth e with
    | none => rw [e1] at h; cases h
    | some t =>
      obtain ⟨x, n, l⟩ := t
      rw [e1] at h
      obtain ⟨p, q, rfl, hline⟩ := vMeth_eq e1
      obtain ⟨h1, h2, h3⟩ := and3 h
      obtain ⟨h4, h5, h6⟩ := and3 h1
      obtain ⟨h7, h8⟩ := and2 h3
      cases sEq_eq h4
      have ih := snEs gk es st h7
      have ns := ih.ns
      have io := snE gk o st h2
      refine .val ?_ rfl rfl (fun _ _ _ _ e => nomatch e)
      cases m
      cases l with
      | nil => cases h8
      | cons a l' =>
        have h6 : (a :: l').length < 29 := of_decide_eq_true h6
        refine e_app st.cx io.pe ih.pa (base_no h5 _ _ _) ?_ hline (star_one ?_ l' _) (star_all ?_ _ _).1
        · rw [(star_all ns _ _).2]
          show (true && true && decide _) = true
          simp only [Bool.and_true, Bool.true_and, decide_eq_true_eq]
          simp at h6 ⊢
          omega
        · rw [List.all_cons] at ns
          exact (and2 ns).1
        · rw [List.all_cons] at ns
          exact (and2 ns).2
  | .fz i, X, XW, V, e, st, h => by
    rw [ckE] at h
    cases e1 : vName e with
    | none => rw [e1] at h; cases h
    | some x =>
      rw [e1] at h
      obtain ⟨p, rfl⟩ := vName_eq e1
      obtain ⟨h1, h2, h3⟩ := and3 h
      have h3' : dun x = false := by simpa using h3
      exact .val (e_fz (st.at_ h1) (st.vis h2) (dun_debug h3') (dun_cdict h3')) rfl rfl (fun _ _ _ _ e => nomatch e)
theorem snEs {G : Gt} (gk : Gok lv C Φ G) : ∀ (xs : Exs) {X : Cx} {XW : WX} {V : Vw} {l : List Expr}, Sta lv X C XW V → ckEs G xs V l = true → OkEs X C XW Φ xs l
  | .nil, X, XW, V, l, st, h => by
    rw [ckEs] at h
    cases l with
    | cons _ _ => cases h
    | nil => exact ⟨a_nil, rfl, rfl, fun h => absurd rfl h, fun h => absurd rfl h, fun h => absurd rfl h, fun h => absurd rfl h⟩
  | .cons x xs, X, XW, V, l, st, h => by
    cases l with
    | nil => rw [ckEs] at h; cases h
    | cons e r =>
      rw [ckEs] at h
      obtain ⟨h1, h2, h3⟩ := and3 h
      have i1 := snE gk x st h2
      have i2 := snEs gk xs st h3
      refine ⟨a_cons i1.pe i2.pa (star_one h1 r _), by rw [List.all_cons, h1, i2.ns]; rfl, by rw [exsLen, i2.len, List.length_cons], fun _ pos => ?_, fun _ pos => ?_, fun _ hn pos => ?_, fun _ hn pos => ?_⟩
      · cases r with
        | nil =>
          have := i2.len
          cases xs with
          | nil => exact e_and1 i1.pe
          | cons _ _ => simp [exsLen] at this
        | cons b l' => exact e_and i1.pe (i2.an (by simp) pos)
      · cases r with
        | nil =>
          have := i2.len
          cases xs with
          | nil => exact e_or1 i1.pe
          | cons _ _ => simp [exsLen] at this
        | cons b l' => exact e_or i1.pe (i2.or (by simp) pos)
      · rw [List.all_cons] at hn
        obtain ⟨n1, n2⟩ := and2 hn
        cases r with
        | nil =>
          have := i2.len
          cases xs with
          | nil => exact w_and1 (i1.pt n1)
          | cons _ _ => simp [exsLen] at this
        | cons b l' => exact w_and (i1.pt n1) (i2.anT (by simp) n2 pos)
      · rw [List.all_cons] at hn
        obtain ⟨n1, n2⟩ := and2 hn
        cases r with
        | nil =>
          have := i2.len
          cases xs with
          | nil => exact w_or1 (i1.pt n1)
          | cons _ _ => simp [exsLen] at this
        | cons b l' => exact w_or (i1.pt n1) (i2.orT (by simp) n2 pos)
theorem snO {G : Gt} (gk : Gok lv C Φ G) : ∀ (o : Exo) {X : Cx} {XW : WX} {V : Vw} {e : Option Expr}, Sta lv X C XW V → ckO G o V e = true → PO X e (tO C XW (eO Φ o))
  | .none, X, XW, V, e, st, h => by
    rw [ckO] at h
    cases e with
    | some _ => cases h
    | none => exact o_none
  | .some x, X, XW, V, e, st, h => by
    cases e with
    | none => rw [ckO] at h; cases h
    | some e =>
      rw [ckO] at h
      exact o_some (snE gk x st h).pe
theorem snC {G : Gt} (gk : Gok lv C Φ G) : ∀ (o : Exo) {X : Cx} {XW : WX} {V : Vw} {l : List Expr}, Sta lv X C XW V → ckC G o V l = true → PTs X l (tBo C XW (eC Φ o))
  | .none, X, XW, V, l, st, h => by
    rw [ckC] at h
    cases l with
    | cons _ _ => cases h
    | nil => exact ts_none
  | .some x, X, XW, V, l, st, h => by
    match l, h with
    | [e], h =>
      rw [ckC] at h
      obtain ⟨h1, h2⟩ := and2 h
      exact ts_some ((snE gk x st h2).pt h1)
    | [], h => simp [ckC] at h
    | _ :: _ :: _, h => simp [ckC] at h
theorem snS {G : Gt} (gk : Gok lv C Φ G) : ∀ (s : Src) {X : Cx} {XW : WX} {V : Vw} {tg it : Expr}, Sta lv X C XW V → ckS G s V tg it = true → PI X tg it (tI C XW (eS Φ s)) ∧ notSet it = true
  | .seq x, X, XW, V, tg, it, st, h => by
    rw [ckS] at h
    obtain ⟨h1, h2⟩ := and2 h
    exact ⟨s_seq st.cx (snE gk x st h2).pe, h1⟩
  | .rng x, X, XW, V, tg, it, st, h => by
    rw [ckS] at h
    cases e1 : vCall it with
    | none => rw [e1] at h; cases h
    | some t =>
      obtain ⟨n, l⟩ := t
      rw [e1] at h
      refine ⟨?_, call_notSet e1⟩
      obtain ⟨p, q, rfl⟩ := vCall_eq e1
      obtain ⟨h1, h2⟩ := and2 h
      obtain ⟨h1, h3⟩ := and2 h1
      obtain ⟨g1, g2⟩ := st.gl h1
      cases sEq_eq h3
      match l, h2 with
      | [a], h2 =>
        obtain ⟨h4, h5⟩ := and2 h2
        exact s_rng st.cx g1 (blt_at gk st (by simp [bltNames])) (a_cons (snE gk x st h5).pe a_nil (star_one h4 _ _)) (star_one h4 _ _)
      | [], h2 => cases h2
      | _ :: _ :: _, h2 => cases h2
  | .rng2 x y, X, XW, V, tg, it, st, h => by
    rw [ckS] at h
    cases e1 : vCall it with
    | none => rw [e1] at h; cases h
    | some t =>
      obtain ⟨n, l⟩ := t
      rw [e1] at h
      refine ⟨?_, call_notSet e1⟩
      obtain ⟨p, q, rfl⟩ := vCall_eq e1
      obtain ⟨h1, h2⟩ := and2 h
      obtain ⟨h1, h3⟩ := and2 h1
      obtain ⟨g1, g2⟩ := st.gl h1
      cases sEq_eq h3
      match l, h2 with
      | [a, b], h2 =>
        obtain ⟨h4, h5, h6⟩ := and3 h2
        obtain ⟨h4, h7⟩ := and2 h4
        have e2 : starEach [b] X.env = [(false, eval b X.env)] := star_one h7 _ _
        have e3 : starEach [a, b] X.env = [(false, eval a X.env), (false, eval b X.env)] := by rw [star_one h4, e2]
        exact s_rng2 st.cx g1 (blt_at gk st (by simp [bltNames])) (a_cons (snE gk x st h5).pe (a_cons (snE gk y st h6).pe a_nil (star_one h7 _ _)) (star_one h4 _ _)) e3 e2
      | [], h2 => cases h2
      | [_], h2 => cases h2
      | _ :: _ :: _ :: _, h2 => cases h2
  | .enm x, X, XW, V, tg, it, st, h => by
    rw [ckS] at h
    obtain ⟨h0, hh⟩ := and2 h
    clear h
    cases e1 : vCall it with
    | none => rw [e1] at hh; cases hh
    | some t =>
      obtain ⟨n, l⟩ := t
      rw [e1] at hh
      refine ⟨?_, call_notSet e1⟩
      obtain ⟨p, q, rfl⟩ := vCall_eq e1
      obtain ⟨h1, h2⟩ := and2 hh
      obtain ⟨h1, h3⟩ := and2 h1
      obtain ⟨g1, g2⟩ := st.gl h1
      cases sEq_eq h3
      cases e5 : vTup tg with
      | none => rw [e5] at h0; cases h0
      | some els =>
        obtain ⟨kk, tp, rfl⟩ := vTup_eq e5
        match l, h2 with
        | [a], h2 =>
          obtain ⟨h4, h5⟩ := and2 h2
          exact s_enm st.cx g1 (blt_at gk st (by simp [bltNames])) (snE gk x st h5).pe (star_one h4 _ _)
        | [], h2 => cases h2
        | _ :: _ :: _, h2 => cases h2
  | .zip x y, X, XW, V, tg, it, st, h => by
    rw [ckS] at h
    obtain ⟨h0, hh⟩ := and2 h
    clear h
    cases e1 : vCall it with
    | none => rw [e1] at hh; cases hh
    | some t =>
      obtain ⟨n, l⟩ := t
      rw [e1] at hh
      refine ⟨?_, call_notSet e1⟩
      obtain ⟨p, q, rfl⟩ := vCall_eq e1
      obtain ⟨h1, h2⟩ := and2 hh
      obtain ⟨h1, h3⟩ := and2 h1
      obtain ⟨g1, g2⟩ := st.gl h1
      cases sEq_eq h3
      cases e5 : vTup tg with
      | none => rw [e5] at h0; cases h0
      | some els =>
        obtain ⟨kk, tp, rfl⟩ := vTup_eq e5
        match l, h2 with
        | [a, b], h2 =>
          obtain ⟨h4, h5, h6⟩ := and3 h2
          obtain ⟨h4, h7⟩ := and2 h4
          have e2 : starEach [b] X.env = [(false, eval b X.env)] := star_one h7 _ _
          have e3 : starEach [a, b] X.env = [(false, eval a X.env), (false, eval b X.env)] := by rw [star_one h4, e2]
          exact s_zip st.cx g1 (blt_at gk st (by simp [bltNames])) (snE gk x st h5).pe (snE gk y st h6).pe e3 e2
        | [], h2 => cases h2
        | [_], h2 => cases h2
        | _ :: _ :: _ :: _, h2 => cases h2
end
end
end Hc
end
section
set_option Elab.async false
set_option linter.all false
set_option maxRecDepth 100000
set_option autoImplicit false
/-! Whether a pair of names is stored in swapped order. -/
namespace Hc
open PySem PySem.Spec PyProof.Rows L2
def locOn (V : Vw) (line : Nat) : Expr → Bool
  | .Name x p => isLoc V x && p.line == line
  | _ => false
def headLine (ts : List Expr) : Nat := (ts.head?.map (·.pos.line)).getD 0
def nosw (V : Vw) (ts vs : List Expr) : Bool := !(ts.length == 2 || ts.length == 3) || vs.length != ts.length || ts.any (fun t => !locOn V (headLine ts) t) || vs.all (foldedForSure 8)
section
variable {lv : Nat} {X : Cx} {C : Cc} {XW : WX} {V : Vw}
theorem isLoc_eq (st : Sta lv X C XW V) (x : PySem.Str) : (X.env.kindOf x == some .local) = isLoc V x := by
  show (X.env.scope.names.lookup x == some .local) = _
  unfold isLoc
  rw [st.sc, lkS_eq]
  cases lkS V.sc.names x with
  | none => rfl
  | some k => cases k <;> rfl
theorem blockFn (st : Sta lv X C XW V) : X.env.blockKind = .function := by
  unfold PySem.Env.blockKind
  rw [st.sc, st.kind]
  rfl
theorem sw_none (st : Sta lv X C XW V) {ts vs : List Expr} {k k2 : Nat} {p p2 : Pos} (h : nosw V ts vs = true) : swappedStores [.Tuple ts k p] (.Tuple vs k2 p2) X.env = pure none := by
  unfold nosw at h
  simp only [Bool.or_eq_true] at h
  unfold swappedStores
  simp only [blockFn st]
  split
  · rfl
  rename_i h1
  split
  · rfl
  rename_i h2
  split
  · rfl
  rename_i h3
  split
  · rfl
  rename_i h4
  exfalso
  rcases h with ((h | h) | h) | h
  · exact h1 (by simp only [h, Bool.true_or])
  · exact h1 (by simp only [h, Bool.true_or, Bool.or_true])
  · refine h3 (Bool.or_eq_true_iff.mpr (.inl ?_))
    rw [bne_iff_ne]
    intro e
    rw [List.filterMap_length_eq_length] at e
    obtain ⟨t, ht, hl⟩ := List.any_eq_true.mp h
    have := e t ht
    cases t <;> first
      | (simp at this; done)
      | (rename_i id pos
         have hl' : (isLoc V id && pos.line == headLine ts) = false := by rw [Bool.not_eq_true'] at hl; exact hl
         simp only [isLoc_eq st] at this
         rw [show (isLoc V id && pos.line == (Option.map (fun x => x.pos.line) ts.head?).getD 0) = false from hl'] at this
         cases this)
  · exact h4 h
def swp2 (V : Vw) (vs : List Expr) (x y : PySem.Str) (p q : Pos) : Bool := (isLoc V x && isLoc V y && p.line == q.line) && !sEq x y && (vs.all notStar && !vs.all (foldedForSure 8) && !vs.all (constantsAlone 8))
theorem notStar_any {vs : List Expr} (h : vs.all notStar = true) : (vs.any fun | .Starred .. => true | _ => false) = false := by
  induction vs with
  | nil => rfl
  | cons e es ih =>
    rw [List.all_cons] at h
    obtain ⟨h1, h2⟩ := and2 h
    rw [List.any_cons, ih h2]
    cases e <;> first | rfl | cases h1
theorem sw_two (st : Sta lv X C XW V) {x y : PySem.Str} {a b : Expr} {k k2 : Nat} {p q pt p2 : Pos} (h : swp2 V [a, b] x y p q = true) : swappedStores [.Tuple [.Name x p, .Name y q] k pt] (.Tuple [a, b] k2 p2) X.env = pure (some [x, y]) := by
  unfold swp2 at h
  simp only [Bool.and_eq_true, Bool.not_eq_true'] at h
  obtain ⟨⟨⟨⟨l1, l2⟩, l3⟩, l4⟩, ⟨h1, h2⟩, h3⟩ := h
  have ne : (y == x) = false := by
    rw [sEq_beq]
    cases e : sEq y x with
    | false => rfl
    | true => rw [sEq_eq e, (sEq_iff x x).mpr rfl] at l4; cases l4
  have l3' : (q.line == p.line) = true := by
    rw [beq_iff_eq] at l3 ⊢
    exact l3.symm
  have m3 : q.line = p.line := eq_of_beq l3'
  unfold swappedStores
  simp only [blockFn st, isLoc_eq st]
  generalize hg : List.filterMap _ [Expr.Name x p, Expr.Name y q] = L
  have e1 : L = [x, y] := by
    rw [← hg]
    simp [List.filterMap_cons, l1, l2, m3, Expr.pos]
  subst e1
  clear hg
  have e2 : [x, y].eraseDups.length = 2 := by
    simp [List.eraseDups_cons, ne]
  rw [if_neg (by simp)]
  refine (if_neg ?_).trans ?_
  · exact fun e => Bool.false_ne_true ((notStar_any h1).symm.trans e)
  rw [if_neg (by simp [e2]), if_neg (by rw [h2]; simp), if_neg (by rw [h3]; simp)]
def swp3 (V : Vw) (vs : List Expr) (x y z : PySem.Str) (p q r : Pos) : Bool := ((isLoc V x && isLoc V y && isLoc V z) && (p.line == q.line) && (p.line == r.line)) && (!sEq x y && !sEq x z && !sEq y z) && (vs.all notStar && !vs.all (foldedForSure 8) && !vs.all (constantsAlone 8))
theorem sEq_ne {x y : PySem.Str} (h : sEq x y = false) : (y == x) = false := by
  rw [sEq_beq]
  cases e : sEq y x with
  | false => rfl
  | true => rw [sEq_eq e, (sEq_iff x x).mpr rfl] at h; cases h
theorem sw_three (st : Sta lv X C XW V) {x y z : PySem.Str} {a b c : Expr} {k k2 : Nat} {p q r pt p2 : Pos} (h : swp3 V [a, b, c] x y z p q r = true) : swappedStores [.Tuple [.Name x p, .Name y q, .Name z r] k pt] (.Tuple [a, b, c] k2 p2) X.env = pure (some [x, y, z]) := by
  unfold swp3 at h
  simp only [Bool.and_eq_true, Bool.not_eq_true'] at h
  obtain ⟨⟨⟨⟨⟨⟨l1, l2⟩, l5⟩, l3⟩, l6⟩, ⟨n1, n2⟩, n3⟩, ⟨h1, h2⟩, h3⟩ := h
  have n1 := sEq_ne n1
  have n2 := sEq_ne n2
  have n3 := sEq_ne n3
  have l3' : (q.line == p.line) = true := by
    rw [beq_iff_eq] at l3 ⊢
    exact l3.symm
  have m3 : q.line = p.line := eq_of_beq l3'
  have l6' : (r.line == p.line) = true := by
    rw [beq_iff_eq] at l6 ⊢
    exact l6.symm
  have m6 : r.line = p.line := eq_of_beq l6'
  unfold swappedStores
  simp only [blockFn st, isLoc_eq st]
  generalize hg : List.filterMap _ [Expr.Name x p, Expr.Name y q, Expr.Name z r] = L
  have e1 : L = [x, y, z] := by
    rw [← hg]
    simp [List.filterMap_cons, l1, l2, l5, m3, m6, Expr.pos]
  subst e1
  clear hg
  have e2 : [x, y, z].eraseDups.length = 3 := by
    simp [List.eraseDups_cons, n1, n2, n3]
  rw [if_neg (by simp)]
  refine (if_neg ?_).trans ?_
  · exact fun e => Bool.false_ne_true ((notStar_any h1).symm.trans e)
  rw [if_neg (by simp [e2]), if_neg (by rw [h2]; simp), if_neg (by rw [h3]; simp)]
/-- a comprehension that is stored in a local name of the same line -/
def lcLoc (V : Vw) (y : PySem.Str) (py pos : Pos) (scope : Scope) : Bool := isLoc V y && py.line == pos.line && !(scope.names.any fun n => sEq n.1 y && (match n.2 with
  | .local => true
  | .cell => true
  | _ => false))
theorem sw_lc (st : Sta lv X C XW V) {elt : Expr} {gs : List Comprehension} {scope : Scope} {pos py : Pos} {y : PySem.Str} {l : Nat} (h : lcLoc V y py pos scope = true) : swapsWith (.ListComp elt gs scope pos) (some (.Name y py)) l X.env = pure true := by
  unfold lcLoc at h
  obtain ⟨h1, h2, h3⟩ := and3 h
  refine sw_true ?_ (st.lcl h1) h2 ?_
  · rw [st.sc, st.kind]
  · rw [Bool.not_eq_true'] at h3
    rw [← h3]
    congr 1
    funext n
    obtain ⟨n, k⟩ := n
    show (n == y && (k == .local || k == .cell)) = _
    rw [sEq_beq]
    cases k <;> rfl
theorem sw_lcNo (st : Sta lv X C XW V) {elt : Expr} {gs : List Comprehension} {scope : Scope} {pos py : Pos} {y : PySem.Str} {l : Nat} (h : isLoc V y = false) : swapsWith (.ListComp elt gs scope pos) (some (.Name y py)) l X.env = pure false := by
  unfold swapsWith
  simp only [isLoc_eq st, h, Bool.and_false, Bool.false_and]
end
end Hc
end
section
set_option Elab.async false
set_option linter.all false
set_option maxRecDepth 100000
set_option autoImplicit false
/-! The check, and that it is enough: statements. -/
namespace Hc
open PySem PySem.Spec PyProof.Rows L2

/-- one statement -/
inductive S1 where
  | asg (tg e : Expr)
  | ret (e : Expr)
  | retN
  | exp (e : Expr)
  | ite (c : Expr) (a b : List Stmt)
  | whl (c : Expr) (a : List Stmt)
  | for (tg it : Expr) (a : List Stmt)
  | rse (x m : PySem.Str)
  | no
def vSt : List Stmt → S1
  | [.Assign [tg] e _] => .asg tg e
  | [.Return (some e) _] => .ret e
  | [.Return none _] => .retN
  | [.Expr e _] => .exp e
  | [.If c a b _] => .ite c a b
  | [.While c a [] _] => .whl c a
  | [.For tg it a [] _] => .for tg it a
  | [.Raise (some (.Call (.Name x _) [.Constant (.str m) _ _] [] _)) none _] => .rse x m
  | _ => .no
def StIs (l : List Stmt) : S1 → Prop
  | .asg tg e => ∃ p, l = [.Assign [tg] e p]
  | .ret e => ∃ p, l = [.Return (some e) p]
  | .retN => ∃ p, l = [.Return none p]
  | .exp e => ∃ p, l = [.Expr e p]
  | .ite c a b => ∃ p, l = [.If c a b p]
  | .whl c a => ∃ p, l = [.While c a [] p]
  | .for tg it a => ∃ p, l = [.For tg it a [] p]
  | .rse x m => ∃ p q j r s, l = [.Raise (some (.Call (.Name x p) [.Constant (.str m) j q] [] r)) none s]
  | .no => True
theorem vSt_is (l : List Stmt) : StIs l (vSt l) := by
  unfold vSt
  split <;> first | exact ⟨_, rfl⟩ | exact ⟨_, _, _, _, _, rfl⟩ | trivial
/-- x, y = a, b -/
def swB (V : Vw) (ts vs : List Expr) : Bool := match ts, vs with
  | [.Name x p, .Name y q], [_, _] => swp2 V vs x y p q
  | [.Name x p, .Name y q, .Name z r], [_, _, _] => swp3 V vs x y z p q r
  | _, _ => false
def lcView : Expr → Option (Scope × Pos)
  | .ListComp _ _ sc p => some (sc, p)
  | _ => none
def nameView : Expr → Option (PySem.Str × Pos)
  | .Name x p => some (x, p)
  | _ => none
def isNm : Pat → Bool
  | .n _ => true
  | _ => false
def isLcX : Ex → Bool
  | .lc .. => true
  | .lc2 .. => true
  | _ => false
def asgB (V : Vw) (p : Pat) (x : Ex) (tg e : Expr) : Bool := match p with
  | .n _ => (match nameView tg with
    | some (y, py) => notComp e || (match lcView e with
      | some (sc, q) => isLcX x && (lcLoc V y py q sc || !isLoc V y)
      | none => false)
    | none => false)
  | .t _ => (match vTup tg with
    | some ts => (match vTup e with
      | some vs => nosw V ts vs || swB V ts vs
      | none => notComp e || (lcView e).isSome)
    | none => false)
def one : St → Bool
  | .skip => false
  | .seq _ _ => false
  | _ => true
def ckSs (G : Gt) : St → Vw → List Stmt → Bool
  | .skip, _, l => l.isEmpty
  | .seq a b, V, l => (match l with
    | st :: r => one a && ckSs G a V [st] && ckSs G b V r
    | [] => false)
  | .asg p x, V, l => (match vSt l with
    | .asg tg e => ckE G x V e && ckP V p tg && asgB V p x tg e
    | _ => false)
  | .par _ _, _, _ => false
  | .set o i x, V, l => (match vSt l with
    | .asg tg e => (match vSub tg with
      | some (a, b) => (notComp e && notSlice b) && ckE G x V e && (ckE G o V a && ckE G i V b)
      | none => false)
    | _ => false)
  | .ret x, V, l => (match vSt l with
    | .ret e => ckE G x V e
    | _ => false)
  | .retN, _, l => (match vSt l with
    | .retN => true
    | _ => false)
  | .exp x, V, l => (match vSt l with
    | .exp e => notComp e && ckE G x V e
    | _ => false)
  | .ite t a b, V, l => (match vSt l with
    | .ite c p q => (notIf c && ckE G t V c) && ckSs G a V p && ckSs G b V q
    | _ => false)
  | .for p s b, V, l => (match vSt l with
    | .for tg it body => ckS G s V tg it && ckP V p tg && ckSs G b V body
    | _ => false)
  | .whl t b, V, l => (match vSt l with
    | .whl c body => (notIf c && ckE G t V c) && ckSs G b V body
    | _ => false)
  | .rse c, V, l => (match vSt l with
    | .rse x m => glB V x && (match G.ec c with
      | some y => sEq y x
      | none => false)
    | _ => false)
section
variable {lv : Nat} {C : Cc} {Φ : Nat → List D → M D} {N : Nat} {G : Gt} {X : Cx} {XW : WX} {V : Vw}
theorem lcView_eq {e : Expr} {sc : Scope} {p : Pos} (h : lcView e = some (sc, p)) : ∃ a b, e = .ListComp a b sc p := by
  cases e <;> first | (cases h; exact ⟨_, _, rfl⟩) | cases h
theorem nameView_eq {e : Expr} {x : PySem.Str} {p : Pos} (h : nameView e = some (x, p)) : e = .Name x p := by
  cases e <;> first | (cases h; rfl) | cases h
/-- a comprehension into a name of its line -/
theorem snLc (gk : Gok lv C Φ G) (st : Sta lv X C XW V) {x : Ex} {i : Nat} {y : PySem.Str} {py spos q : Pos} {a : Expr} {b : List Comprehension} {sc : Scope} (h : ckE G x V (.ListComp a b sc q) = true) (hx : isLcX x = true) (hy : X.N[i]? = some y) (hl : lcLoc V y py q sc = true) :
    PS X (.Assign [.Name y py] (.ListComp a b sc q) spos) (tAsg (tD C XW (eE Φ x)) (gName i)) := by
  have hyl := st.lcl (and3 hl).1
  have hsw := sw_lc (elt := a) (gs := b) (l := spos.line) st hl
  cases x with
  | lc m e p s c =>
    rw [ckE] at h
    cases e1 : vLc (.ListComp a b sc q) with
    | none => rw [e1] at h; cases h
    | some t =>
      obtain ⟨elt, tg, it, ifs, sc'⟩ := t
      rw [e1] at h
      obtain ⟨q', e2⟩ := vLc_eq e1
      cases e2
      obtain ⟨h1, h2⟩ := and2 h
      obtain ⟨h3, h4, h5⟩ := and3 h1
      obtain ⟨h6, h7⟩ := and2 h2
      obtain ⟨b1, b2, b3⟩ := blk_ok h3
      obtain ⟨s1, s2⟩ := snS gk s st h4
      refine s_setLc st.calm st.nd hy hyl hsw s1 ?_ b2 (fun s H A cl fp => snP (st.blk b3 s H A cl fp) p h5) (fun s H A cl fp => snC gk c (st.blk b3 s H A cl fp) h6) (fun s H A cl fp => (snE gk e (st.blk b3 s H A cl fp) h7).pe) (fun x => fold_no s2 _ x)
      rw [st.hN, st.sc]
      exact b1
  | lc2 m e p s q r c =>
    rw [ckE] at h
    cases e1 : vLc2 (.ListComp a b sc _) with
    | none => rw [e1] at h; cases h
    | some t =>
      obtain ⟨elt, tg, it, tg1, it1, ifs, sc'⟩ := t
      rw [e1] at h
      obtain ⟨w, e2⟩ := vLc2_eq e1
      cases e2
      obtain ⟨h1, h8, h2⟩ := and3 h
      obtain ⟨h3, h4, h5⟩ := and3 h1
      obtain ⟨h6, h7⟩ := and2 h2
      obtain ⟨h9, h10⟩ := and2 h8
      obtain ⟨b1, b2, b3⟩ := blk_ok h3
      obtain ⟨s1, s2⟩ := snS gk s st h4
      have s3 := ckS_notSet h9
      refine s_setLc2 st.calm st.nd hy hyl hsw s1 ?_ b2 (fun s H A cl fp => snP (st.blk b3 s H A cl fp) p h5) (fun s H A cl fp => (snS gk r (st.blk b3 s H A cl fp) h9).1) (fun s H A cl fp => snP (st.blk b3 s H A cl fp) q h10) (fun s H A cl fp => snC gk c (st.blk b3 s H A cl fp) h6) (fun s H A cl fp => (snE gk e (st.blk b3 s H A cl fp) h7).pe) (fun x => fold_no s2 _ x) (fun env x => fold_no s3 env x)
      rw [st.hN, st.sc]
      exact b1
  | _ => cases hx
theorem snAsg (gk : Gok lv C Φ G) (st : Sta lv X C XW V) {p : Pat} {x : Ex} {tg e : Expr} {pos : Pos} (h1 : ckE G x V e = true) (h2 : ckP V p tg = true) (h3 : asgB V p x tg e = true) : PS X (.Assign [tg] e pos) (tS C XW (eX Φ N (.asg p x))) := by
  have pe := (snE gk x st h1).pe
  cases p with
  | n i =>
    unfold asgB at h3
    simp only at h3
    cases e1 : nameView tg with
    | none => rw [e1] at h3; cases h3
    | some t =>
      obtain ⟨y, py⟩ := t
      rw [e1] at h3
      cases nameView_eq e1
      rw [ckP] at h2
      obtain ⟨h4, h5⟩ := and2 (show (atN V i y && locB V y) = true from h2)
      obtain ⟨l1, l2⟩ := st.loc h5
      simp only at h3
      rw [Bool.or_eq_true] at h3
      by_cases hc : notComp e = true
      · exact s_set st.nd (st.at_ h4) l1 pe (sw_no hc _ _ _) l2
      · rcases h3 with h3 | h3
        · exact absurd h3 hc
        · cases e2 : lcView e with
          | none => rw [e2] at h3; cases h3
          | some t =>
            obtain ⟨sc, q⟩ := t
            rw [e2] at h3
            obtain ⟨a, b, rfl⟩ := lcView_eq e2
            obtain ⟨h6, h7⟩ := and2 h3
            rw [Bool.or_eq_true] at h7
            rcases h7 with h7 | h7
            · exact s_setC (snLc gk st h1 h6 (st.at_ h4) h7)
            · rw [Bool.not_eq_true'] at h7
              exact s_set st.nd (st.at_ h4) l1 pe (sw_lcNo st h7) l2
  | t ps =>
    unfold asgB at h3
    simp only at h3
    have hg := snP st (.t ps) h2
    cases e1 : vTup tg with
    | none => rw [e1] at h3; cases h3
    | some ts =>
      simp only [e1] at h3
      obtain ⟨k, pt, rfl⟩ := vTup_eq e1
      cases e2 : vTup e with
      | none =>
        simp only [e2] at h3
        rw [Bool.or_eq_true] at h3
        have hs : swapsWithSole [.Tuple ts k pt] e pos.line X.env = pure false := by
          show swapsWith e (some (.Tuple ts k pt)) pos.line X.env = pure false
          rcases h3 with h3 | h3
          · exact sw_no h3 _ _ _
          · cases e <;> first | rfl | cases h3
        have hw : swappedStores [.Tuple ts k pt] e X.env = pure none := by
          cases e <;> first | rfl | cases e2
        exact s_asg pe hg hs hw (by rw [asn_cons rfl]; rfl)
      | some vs =>
        simp only [e2] at h3
        obtain ⟨k2, p2, rfl⟩ := vTup_eq e2
        have hs : swapsWithSole [.Tuple ts k pt] (.Tuple vs k2 p2) pos.line X.env = pure false := rfl
        rw [Bool.or_eq_true] at h3
        by_cases hn : nosw V ts vs = true
        · exact s_asg pe hg hs (sw_none st hn) (by rw [asn_cons rfl]; rfl)
        · rcases h3 with h3 | h3
          · exact absurd h3 hn
          · cases x with
            | tup es =>
              rw [ckE] at h1
              have h1 : (ckEs G es V vs && decide (vs.length ≤ 1000)) = true := h1
              have ia := snEs gk es st (and2 h1).1
              unfold swB at h3
              split at h3
              · rename_i x' p' y' q' a b
                have h4 := h3
                unfold swp2 at h4
                obtain ⟨h5, h6, _⟩ := and3 h4
                obtain ⟨h7, h8, _⟩ := and3 h5
                match ps, h2 with
                | .cons (.n i) (.cons (.n j) .nil), h2 =>
                  simp only [ckP, ckPs, vTup, vName, Bool.and_eq_true] at h2
                  obtain ⟨⟨_, a1, _⟩, ⟨⟨_, a2, _⟩, _⟩⟩ := h2
                  have b1 := st.at_ a1
                  have b2 := st.at_ a2
                  refine s_par2 st.calm st.nd b1 b2 ?_ (st.lcl h7) (st.lcl h8) ia.pa (sw_two st h3) hs
                  intro e
                  subst e
                  rw [b1] at b2
                  cases b2
                  rw [(sEq_iff _ _).mpr rfl] at h6
                  cases h6
                | .nil, h2 => simp [ckP, ckPs, vTup] at h2
                | .cons _ .nil, h2 => simp [ckP, ckPs, vTup] at h2
                | .cons _ (.cons _ (.cons _ _)), h2 => simp [ckP, ckPs, vTup] at h2
                | .cons (.t _) (.cons _ .nil), h2 => simp [ckP, ckPs, vTup] at h2
                | .cons (.n _) (.cons (.t _) .nil), h2 => simp [ckP, ckPs, vTup] at h2
              · rename_i x' p' y' q' z' r' a b c
                have h4 := h3
                unfold swp3 at h4
                obtain ⟨h5, h6, _⟩ := and3 h4
                obtain ⟨h7, _, _⟩ := and3 h5
                obtain ⟨h7, h8, h9⟩ := and3 h7
                obtain ⟨n1, n2, n3⟩ := and3 h6
                match ps, h2 with
                | .cons (.n i) (.cons (.n j) (.cons (.n l) .nil)), h2 =>
                  simp only [ckP, ckPs, vTup, vName, Bool.and_eq_true] at h2
                  obtain ⟨⟨_, a1, _⟩, ⟨⟨_, a2, _⟩, ⟨⟨_, a3, _⟩, _⟩⟩⟩ := h2
                  have b1 := st.at_ a1
                  have b2 := st.at_ a2
                  have b3 := st.at_ a3
                  have ne : ∀ {i j : Nat} {u v : PySem.Str}, X.N[i]? = some u → X.N[j]? = some v → (!sEq u v) = true → i ≠ j := fun {i j u v} c1 c2 c3 e => by
                    subst e
                    rw [c1] at c2
                    cases c2
                    rw [(sEq_iff _ _).mpr rfl] at c3
                    cases c3
                  exact s_par3 st.calm st.nd b1 b2 b3 (ne b1 b2 n1) (ne b1 b3 n2) (ne b2 b3 n3) (st.lcl h7) (st.lcl h8) (st.lcl h9) ia.pa (sw_three st h3) hs
                | .nil, h2 => simp [ckP, ckPs, vTup] at h2
                | .cons _ .nil, h2 => simp [ckP, ckPs, vTup] at h2
                | .cons _ (.cons _ .nil), h2 => simp [ckP, ckPs, vTup] at h2
                | .cons _ (.cons _ (.cons _ (.cons _ _))), h2 => simp [ckP, ckPs, vTup] at h2
                | .cons (.t _) (.cons _ (.cons _ .nil)), h2 => simp [ckP, ckPs, vTup] at h2
                | .cons (.n _) (.cons (.t _) (.cons _ .nil)), h2 => simp [ckP, ckPs, vTup] at h2
                | .cons (.n _) (.cons (.n _) (.cons (.t _) .nil)), h2 => simp [ckP, ckPs, vTup] at h2
              · cases h3
            | v i => rw [ckE] at h1; cases h1
            | c d => rw [ckE] at h1; cases h1
            | gf f => rw [ckE] at h1; cases h1
            | lst m es => rw [ckE] at h1; cases h1
            | call f es => rw [ckE] at h1; cases h1
            | bi b es => rw [ckE] at h1; cases h1
            | op o a b => rw [ckE] at h1; cases h1
            | neg a => rw [ckE] at h1; cases h1
            | not a => rw [ckE] at h1; cases h1
            | and es => rw [ckE] at h1; cases h1
            | or es => rw [ckE] at h1; cases h1
            | chain o₁ o₂ a b c => rw [ckE] at h1; cases h1
            | ite t a b => rw [ckE] at h1; cases h1
            | ix a i => rw [ckE] at h1; cases h1
            | sl a lo hi => rw [ckE] at h1; cases h1
            | lc m e p s c => rw [ckE] at h1; cases h1
            | lc2 m e p s q r c => rw [ckE] at h1; cases h1
            | mt m o es => rw [ckE] at h1; cases h1
            | fz i => rw [ckE] at h1; cases h1
theorem subs_asn {o i : Expr} {pos : Pos} (h : notSlice i = true) (env : PySem.Env) (v : Value) : assign (.Subscript o i pos) env v = (do
      let ov ← holding [v] (eval o env)
      let iv ← holding [v, ov] (eval i env)
      standAt pos
      holding [v, ov, iv] (setItem ov iv v)
      release [v, ov, iv] []) := by
  cases i <;> first | rfl | cases h
theorem pair {s : Stmt} {t : TS} {b : Bool} (p : PS X s t) : PSs X [s] t ∧ (b = true → ∃ s', [s] = [s'] ∧ PS X s' t) := ⟨pss_one p, fun _ => ⟨_, rfl, p⟩⟩
theorem snSs (gk : Gok lv C Φ G) (st : Sta lv X C XW V) : ∀ (a : St) {l : List Stmt}, ckSs G a V l = true → PSs X l (tS C XW (eX Φ N a)) ∧ (one a = true → ∃ s, l = [s] ∧ PS X s (tS C XW (eX Φ N a)))
  | .skip, l, h => by
    rw [ckSs] at h
    cases l with
    | nil => exact ⟨ss_nil, fun h => nomatch h⟩
    | cons _ _ => cases h
  | .seq a b, l, h => by
    cases l with
    | nil => rw [ckSs] at h; cases h
    | cons s r =>
      rw [ckSs] at h
      obtain ⟨h0, h1, h2⟩ := and3 h
      obtain ⟨s', e, i1⟩ := (snSs gk st a h1).2 h0
      cases e
      exact ⟨ss_cons i1 (snSs gk st b h2).1, fun h => nomatch h⟩
  | .asg p x, l, h => by
    rw [ckSs] at h
    have hv := vSt_is l
    cases e1 : vSt l with
    | asg tg e =>
      rw [e1] at h hv
      obtain ⟨q, rfl⟩ := hv
      obtain ⟨h1, h2, h3⟩ := and3 h
      exact pair (snAsg gk st h1 h2 h3)
    | _ => rw [e1] at h; cases h
  | .par _ _, l, h => by rw [ckSs] at h; cases h
  | .set o i x, l, h => by
    rw [ckSs] at h
    have hv := vSt_is l
    cases e1 : vSt l with
    | asg tg e =>
      rw [e1] at h hv
      obtain ⟨q, rfl⟩ := hv
      simp only at h
      cases e2 : vSub tg with
      | none => rw [e2] at h; cases h
      | some t =>
        obtain ⟨a, b⟩ := t
        rw [e2] at h
        obtain ⟨p2, rfl⟩ := vSub_eq e2
        obtain ⟨h1, h2, h3⟩ := and3 h
        obtain ⟨h1, h4⟩ := and2 h1
        obtain ⟨h5, h6⟩ := and2 h3
        exact pair (s_sub st.cx (snE gk x st h2).pe (snE gk o st h5).pe (snE gk i st h6).pe (subs_asn h4 _) (show swapsWith e (some (.Subscript a b p2)) q.line X.env = pure false from sw_no h1 _ _ _) rfl rfl)
    | _ => rw [e1] at h; cases h
  | .ret x, l, h => by
    rw [ckSs] at h
    have hv := vSt_is l
    cases e1 : vSt l with
    | ret e =>
      rw [e1] at h hv
      obtain ⟨q, rfl⟩ := hv
      exact pair (s_ret (snE gk x st h).pe)
    | _ => rw [e1] at h; cases h
  | .retN, l, h => by
    rw [ckSs] at h
    have hv := vSt_is l
    cases e1 : vSt l with
    | retN =>
      rw [e1] at h hv
      obtain ⟨q, rfl⟩ := hv
      exact pair s_retN
    | _ => rw [e1] at h; cases h
  | .exp x, l, h => by
    rw [ckSs] at h
    have hv := vSt_is l
    cases e1 : vSt l with
    | exp e =>
      rw [e1] at h hv
      obtain ⟨q, rfl⟩ := hv
      obtain ⟨h1, h2⟩ := and2 h
      exact pair (s_exp (snE gk x st h2).pe (sw_no h1 _ _ _))
    | _ => rw [e1] at h; cases h
  | .ite t a b, l, h => by
    rw [ckSs] at h
    have hv := vSt_is l
    cases e1 : vSt l with
    | ite c p q =>
      rw [e1] at h hv
      obtain ⟨q, rfl⟩ := hv
      obtain ⟨h1, h2, h3⟩ := and3 h
      obtain ⟨h4, h5⟩ := and2 h1
      exact pair (s_if ((snE gk t st h5).pt h4) (snSs gk st a h2).1 (snSs gk st b h3).1)
    | _ => rw [e1] at h; cases h
  | .for p s b, l, h => by
    rw [ckSs] at h
    have hv := vSt_is l
    cases e1 : vSt l with
    | «for» tg it body =>
      rw [e1] at h hv
      obtain ⟨q, rfl⟩ := hv
      obtain ⟨h1, h2, h3⟩ := and3 h
      obtain ⟨s1, s2⟩ := snS gk s st h1
      exact pair (s_for st.po st.calm s1 (snP st p h2) (snSs gk st b h3).1 (fun x => fold_no s2 _ x))
    | _ => rw [e1] at h; cases h
  | .whl t b, l, h => by
    rw [ckSs] at h
    have hv := vSt_is l
    cases e1 : vSt l with
    | whl c body =>
      rw [e1] at h hv
      obtain ⟨q, rfl⟩ := hv
      obtain ⟨h1, h3⟩ := and2 h
      obtain ⟨h4, h5⟩ := and2 h1
      exact pair (s_while st.po ((snE gk t st h5).pt h4) (snSs gk st b h3).1)
    | _ => rw [e1] at h; cases h
  | .rse c, l, h => by
    rw [ckSs] at h
    have hv := vSt_is l
    cases e1 : vSt l with
    | rse x m =>
      rw [e1] at h hv
      obtain ⟨p, q, j, r, s, rfl⟩ := hv
      obtain ⟨h1, h2⟩ := and2 h
      obtain ⟨g1, g2⟩ := st.gl h1
      cases e2 : G.ec c with
      | none => rw [e2] at h2; cases h2
      | some y =>
        rw [e2] at h2
        cases sEq_eq h2
        obtain ⟨a, bmB, newId, ca, m1, kp, sb, ty, B, initId, F, ex⟩ := gk.ec c _ e2
        have tk := st.tk
        have calm := st.calm
        refine pair ?_
        cases st.cx
        exact s_rse calm tk (pmk_own F ex m1 kp (raises_own sb ty) g1 (dun_debug g2)) ca
    | _ => rw [e1] at h; cases h
end
end Hc
end
section
set_option Elab.async false
set_option linter.all false
set_option maxRecDepth 100000
set_option autoImplicit false
/-! A def keeps what the core language says of it. -/
namespace Hc
open PySem PySem.Spec PyProof.Rows L2

section
variable {C : Cc}
/-! ### the store cut off behind a call -/
mutual
theorem Rep.cut {W W' : Wd} (l : W.le W') : ∀ {d : D} {v v0 : V}, Rep C W v0 d → Rep C W' v d → Rep C ⟨W'.F, W.ρ⟩ v d
  | .non, _, _, _, .non => .non
  | .bl b, _, _, _, .bl _ => .bl b
  | .int i, _, _, _, .int _ => .int i
  | .str x, _, _, _, .str _ => .str x
  | .tup ds, _, _, .tup _ r0 _, .tup s r z => .tup s (Reps.cutS l r0 r) z
  | .lst ds, _, _, .lst _ r0 _, .lst s r z => .lst s (Reps.cutS l r0 r) z
  | .scr ns, _, _, _, .scr s => .scr s
  | .ref n, _, _, .ref h0, .ref h => .ref (by
      have := l.at h0
      rw [h] at this
      cases this
      exact h0)
  | .gf f, _, _, _, .gf h => .gf h
theorem Reps.cutS {W W' : Wd} (l : W.le W') : ∀ {ds : List D} {vs vs0 : List V}, Reps C W vs0 ds → Reps C W' vs ds → Reps C ⟨W'.F, W.ρ⟩ vs ds
  | [], _, _, _, .nil => .nil
  | d :: ds, _, _, .cons r0 t0, .cons r t => .cons (Rep.cut l r0 r) (Reps.cutS l t0 t)
end
mutual
theorem Rep.noref {W' : Wd} {ρ : List Addr} : ∀ {d : D} {v : V}, noRef d = true → Rep C W' v d → Rep C ⟨W'.F, ρ⟩ v d
  | .non, _, _, .non => .non
  | .bl b, _, _, .bl _ => .bl b
  | .int i, _, _, .int _ => .int i
  | .str x, _, _, .str _ => .str x
  | .tup ds, _, h, .tup s r z => .tup s (Reps.norefs (by simpa [noRef] using h) r) z
  | .lst ds, _, h, .lst s r z => .lst s (Reps.norefs (by simpa [noRef] using h) r) z
  | .scr ns, _, _, .scr s => .scr s
  | .ref n, _, h, _ => by simp [noRef] at h
  | .gf f, _, _, .gf h => .gf h
theorem Reps.norefs {W' : Wd} {ρ : List Addr} : ∀ {ds : List D} {vs : List V}, noRefs ds = true → Reps C W' vs ds → Reps C ⟨W'.F, ρ⟩ vs ds
  | [], _, _, .nil => .nil
  | d :: ds, _, h, .cons r t => by
    have h' : noRef d = true ∧ noRefs ds = true := by simpa [noRefs] using h
    exact .cons (Rep.noref h'.1 r) (Reps.norefs h'.2 t)
end
theorem SRel.cut {W W' : Wd} {S S' : Store} {H H' : Hp} (s : SRel C W S H) (s' : SRel C W' S' H') (st : Stp W H W' H') (e : S'.take S.length = S) : SRel C ⟨W'.F, W.ρ⟩ S H' ∧ Stp W H ⟨W'.F, W.ρ⟩ H' := by
  have up : ∀ {n : Nat} {o : Ob}, S[n]? = some o → S'[n]? = some o := fun {n o} h => by
    have hn := (List.getElem?_eq_some_iff.mp h).1
    rw [← e, List.getElem?_take, if_pos hn] at h
    exact h
  refine ⟨⟨s.len, s'.sub, fun n o a h1 h2 => ?_, fun n o a h1 h2 h3 => s'.fr n o a (up h1) h2 (st.le.at h3), fun a h => ?_, s.nd⟩, st.fz, ⟨[], (List.append_nil _).symm, fun _ h => absurd h List.not_mem_nil⟩, st.fr, st.tr, st.nf⟩
  · cases s.ob n o a h1 h2 with
    | dead => exact .dead
    | ml _ r0 _ =>
      cases s'.ob n _ a (up h1) (st.le.at h2) with
      | ml hh r z => exact .ml hh (Reps.cutS st.le r0 r) z
  · exact st.tr a (s.tr a h)
end
section
variable {C : Cc} {XW : WX} {T : Nat → Option Df} {N : Nat}
theorem slots_start {W : Wd} : ∀ {ds : List D} {vs : List V} {nl : Nat} {NN : List PySem.Str}, Reps C W vs ds → nl = NN.length → ds.length ≤ NN.length → Sls C W (startE nl ds) (L2.start NN vs) := by
  intro ds vs nl NN r hn hl
  have hv := r.length
  refine ⟨by simp [startE, L2.start]; omega, fun i d h => ?_⟩
  unfold startE at h
  by_cases hi : i < ds.length
  · rw [List.getElem?_append_left (by simpa using hi), List.getElem?_map] at h
    cases e : ds[i]? with
    | none => rw [e] at h; cases h
    | some d' =>
      rw [e] at h
      cases (Option.some.inj (Option.some.inj (show some (some d') = some (some d) from h)))
      obtain ⟨v, h1, h2⟩ := r.get e
      refine ⟨v, ?_, h2⟩
      unfold L2.start
      rw [List.getElem?_append_left (by simp; omega), List.getElem?_map, h1]
      rfl
  · rw [List.getElem?_append_right (by simp; omega)] at h
    have := List.mem_of_getElem? h
    rw [List.mem_replicate] at this
    cases this.2
/-- what the body's end is to the call's -/
theorem end_kg {W : Wd} {S : Store} {H : Hp} {m : M Fl} {Q : VK} {E : XK} (h : Kg C (relD C) (fun cls d _ H => E cls d H) W H [] (endM m S) Q) : KgS C (fun cls d _ H => E cls d H) W H (m S) { nx := fun _ H' => Q .non H', rt := Q } := by
  unfold endM at h
  rw [bind_at] at h
  cases e : m S with
  | ok r S' =>
    rw [e] at h
    cases r with
    | nx τ => exact fun τc H' W' st sr _ => (show Kg C (relD C) _ W H [] (.ok .non S') Q from h) .non H' W' st sr .non
    | rt d => exact h
  | exc x S' =>
    rw [e] at h
    exact fun cls dd _ H' W' st sr er => h cls dd H' W' st sr er
  | bad => rw [e] at h; exact h
theorem pur_kg {W : Wd} {S : Store} {H : Hp} {m : M D} {Q : VK} {E : XK} (sr0 : SRel C W S H) (h : Kg C (relD C) (fun cls d _ H => E cls d H) W H [] (puring m S) Q) : Kg C (relD C) (fun cls d _ H => E cls d H) W H [] (m S) Q := by
  unfold puring at h
  cases e : m S with
  | ok d S' =>
    simp only [e] at h
    cases hc : (sameS (S'.take S.length) S && noRef d) with
    | false => simp only [hc] at h; exact h.elim
    | true =>
      simp only [hc] at h
      obtain ⟨h1, h2⟩ := and2 hc
      have h3 : Kg C (relD C) (fun cls d _ H => E cls d H) W H [] (.ok d S) Q := h
      intro v H' W' st sr r
      obtain ⟨a, b⟩ := sr0.cut sr st (sameS_eq _ _ h1)
      exact h3 v H' _ b a (Rep.noref h2 r)
  | exc x S' =>
    simp only [e] at h
    cases hc : (sameS (S'.take S.length) S && noRefs x.fs) with
    | false => simp only [hc] at h; exact h.elim
    | true =>
      simp only [hc] at h
      obtain ⟨h1, h2⟩ := and2 hc
      have h3 : Kg C (relD C) (fun cls d _ H => E cls d H) W H [] (.exc x S) Q := h
      intro cls dd H' W' st sr r
      obtain ⟨a, b⟩ := sr0.cut sr st (sameS_eq _ _ h1)
      refine h3 cls dd H' _ b a ?_
      cases r with
      | plain hx => exact .plain hx
  | bad => simp only [e] at h; exact h.elim
/-- a def of the module, as the core language has it -/
structure DefOk (C : Cc) (G : Gt) (x : PySem.Str) (df : Df) : Prop where
  ex : ∃ (ps NN : List PySem.Str) (st : Stmt) (fa : Addr) (fd : FuncData), C.mg x = some (.ref fa) ∧ PySem.W.keepIn C.K (.ref fa) = true ∧ Binds C.K fd ps [] ∧ FunD C.K x x (defArgs st) (defBody st) (defScope st) [] [] fa fd ∧ FnScope NN ps (defScope st) ∧ df.ar = ps.length ∧ df.nl = NN.length ∧ ckSs G df.body ⟨NN, defScope st, fun _ => true⟩ (defBody st) = true
structure ModOk (C : Cc) (T : Nat → Option Df) (G : Gt) : Prop where
  blt : ∀ x ∈ bltNames, C.mg x = none
  fn : ∀ f x, G.fn f = some x → ∃ df, T f = some df ∧ DefOk C G x df
  gc : ∀ x d, G.gc x = some d → ∃ v u, C.mg x = some u ∧ RelV v u ∧ ∀ W, Rep C W v d
  ec : ∀ c x, G.ec c = some x → ∃ a bmB newId, C.ca c = some a ∧ C.mg x = some (.ref a) ∧ PySem.W.keepIn C.K (.ref a) = true ∧ PySem.W.subIn C.K (.ref a) (.type "BaseException") = some true ∧ PySem.W.typeIn C.K (.ref a) = some (.type "type") ∧
    ∃ (B initId : String) (_ : ExcBaseFacts B newId initId bmB), PySem.W.excIn C.K a bmB newId = true
theorem run_bad {f : Nat} {ds : List D} {S : Store} : run T N 0 f ds S = .bad := rfl
theorem run_ar {n f : Nat} {ds : List D} {S : Store} {df : Df} (h : T f = some df) (hb : run T N n f ds S ≠ .bad) : ds.length = df.ar := by
  cases n with
  | zero => exact absurd rfl hb
  | succ n =>
    unfold run at hb
    simp only [h] at hb
    by_cases e : ds.length = df.ar
    · exact e
    · rw [if_neg e] at hb
      exact absurd rfl hb
theorem Kg.notBad {α β : Type} {rel : Wd → Hp → β → α → Prop} {W : Wd} {H : Hp} {σc : L2.St} {o : Out α} {Q : β → Hp → Prop} (h : Kg C rel XW W H σc o Q) : o ≠ .bad := fun e => by rw [e] at h; exact h
/-- a def whose callees keep theirs -/
theorem fn_ok {G : Gt} {n f : Nat} {x : PySem.Str} {df : Df} {ps NN : List PySem.Str} {stm : Stmt} {fa : Addr} {fd : FuncData} (ih : Gok n C (run T N n) G) (hT : T f = some df) (F : FunD C.K x x (defArgs stm) (defBody stm) (defScope stm) [] [] fa fd) (FS : FnScope NN ps (defScope stm)) (ar : df.ar = ps.length) (nl : df.nl = NN.length)
    (ck : ckSs G df.body ⟨NN, defScope stm, fun _ => true⟩ (defBody stm) = true) : FnOk C.P C.w C.K C.mg C.base (L2.CX C.P C.w) (n + 1) fa fd ps (spF C (run T N (n + 1)) f) := by
  have hlen : ∀ vs H Q E, spF C (run T N (n + 1)) f vs H Q E → vs.length = ps.length := fun vs H Q E q => by
    obtain ⟨S, W, ds, _, r, k⟩ := q
    rw [r.length, run_ar hT k.notBad, ar]
  refine F.ok (CX := L2.CX C.P C.w) FS hlen fun cdv A outer s H vs Q E hr q => ?_
  have hl := hlen _ _ _ _ q
  obtain ⟨S, W, ds, sr, r, k⟩ := q
  have hd := run_ar hT k.notBad
  have stt : Sta n (cxOf (L2.CX C.P C.w) C.P C.w C.K C.mg C.base NN x (defScope stm) fa cdv A outer s H E) C (fun cls d _ H => E cls d H) ⟨NN, defScope stm, fun _ => true⟩ := by
    refine ⟨?_, rfl, rfl, fun _ => rfl, rfl, FS.nd, hr, takes_of rfl rfl rfl rfl, passes_of rfl, FS.kind⟩
    exact CcX.mk (X := cxOf (L2.CX C.P C.w) C.P C.w C.K C.mg C.base NN x (defScope stm) fa cdv A outer s H E) C.lvl C.fa C.ca
  refine ⟨_, (snSs (Φ := run T N n) (N := N) ih stt df.body ck).1, startE df.nl ds, S, W, sr, slots_start r nl ?_, ?_⟩
  · have := FS.pre
    rw [hd, ar, ← this, List.length_take]
    omega
  · have k2 : Kg C (relD C) (fun cls d _ H => E cls d H) W H [] (run T N (n + 1) f ds S) Q := k
    unfold run at k2
    simp only [hT] at k2
    rw [if_pos hd] at k2
    cases hp : df.pur with
    | true =>
      simp only [hp] at k2
      exact end_kg (pur_kg sr k2)
    | false =>
      simp only [hp] at k2
      exact end_kg k2
/-- every def keeps what the core language says, by the depth of calls -/
theorem run_gok {G : Gt} (mo : ModOk C T G) : ∀ n : Nat, Gok n C (run T N n) G
  | 0 => by
    refine ⟨mo.blt, fun f x h => ?_, mo.gc, mo.ec⟩
    obtain ⟨df, hT, ⟨ps, NN, st, fa, fd, m1, kp, bn, F, S, ar, nl, ck⟩⟩ := mo.fn f x h
    refine ⟨fa, fd, ps, m1, kp, bn, ⟨fun vs H Q E q => ?_, fun A outer s H args us vs Q E _ _ _ _ q => ?_⟩⟩
    · obtain ⟨S, W, ds, _, _, k⟩ := q
      exact (k.notBad rfl).elim
    · obtain ⟨S, W, ds, _, _, k⟩ := q
      exact (k.notBad rfl).elim
  | n + 1 => by
    refine ⟨mo.blt, fun f x h => ?_, mo.gc, mo.ec⟩
    obtain ⟨df, hT, ⟨ps, NN, stm, fa, fd, m1, kp, bn, F, FS, ar, nl, ck⟩⟩ := mo.fn f x h
    exact ⟨fa, fd, ps, m1, kp, bn, fn_ok (run_gok mo n) hT F FS ar nl ck⟩
end
end Hc
end
section
set_option Elab.async false
set_option linter.all false
set_option maxRecDepth 100000
set_option autoImplicit false
/-! A module's defs and constants, as data. -/
namespace Hc
open PySem
/-- a def of the module: its name, its text in the core language, its parameters, its slots, its place -/
structure Dd where
  x : PySem.Str
  df : Df
  ps : List PySem.Str
  N : List PySem.Str
  at_ : Nat
/-- a module's constant: an int, or a tuple of texts -/
inductive Gc where
  | int (i : Int)
  | tup (xs : List PySem.Str)
def Gc.d : Gc → D
  | .int i => .int i
  | .tup xs => .tup (xs.map .str)
end Hc
end
section
set_option Elab.async false
set_option linter.all false
set_option maxRecDepth 100000
set_option autoImplicit false
/-! A law's end: the module's facts by lists, then the law from the plain run. -/
namespace Hc
open PySem PySem.Spec PyProof.Rows L2

structure Md where
  defs : List Dd
  gcs : List (PySem.Str × Gc)
  ecs : List PySem.Str
  top : Nat → Stmt
def lkL {α : Type} : List (PySem.Str × α) → PySem.Str → Option α
  | [], _ => none
  | (y, k) :: r, x => if sEq x y then some k else lkL r x
def Md.T (m : Md) (f : Nat) : Option Df := (m.defs[f]?).map (·.df)
def Md.G (m : Md) : Gt := ⟨fun f => (m.defs[f]?).map (·.x), fun x => (lkL m.gcs x).map Gc.d, fun c => m.ecs[c]?⟩
/-! what the text must say -/
def ndS : List PySem.Str → Bool
  | [] => true
  | x :: r => !inS x r && ndS r
def eqSs : List PySem.Str → List PySem.Str → Bool
  | [], [] => true
  | x :: r, y :: s => sEq x y && eqSs r s
  | _, _ => false
theorem eqSs_eq : ∀ {a b : List PySem.Str}, eqSs a b = true → a = b
  | [], [], _ => rfl
  | [], _ :: _, h => by simp [eqSs] at h
  | _ :: _, [], h => by simp [eqSs] at h
  | x :: r, y :: s, h => by
    have h' : sEq x y = true ∧ eqSs r s = true := by simpa [eqSs] using h
    rw [sEq_eq h'.1, eqSs_eq h'.2]
theorem ndS_nd : ∀ {a : List PySem.Str}, ndS a = true → a.Nodup
  | [], _ => List.nodup_nil
  | x :: r, h => by
    have h' : inS x r = false ∧ ndS r = true := by simpa [ndS] using h
    refine List.nodup_cons.mpr ⟨fun hx => ?_, ndS_nd h'.2⟩
    rw [(inS_iff x r).mpr hx] at h'
    cases h'.1
def scB (N ps : List PySem.Str) (sc : Scope) : Bool :=
  ((match sc.kind with
  | .function => true
  | _ => false) && !sc.isCoroutine && !sc.isGenerator) && (ndS N && eqSs (N.take ps.length) ps) && ((ps.all fun x => match lkS sc.names x with
    | some .local => true
    | some .cell => true
    | _ => false) && sc.names.all fun y => match y.2 with
    | .free => false
    | _ => true)
theorem scB_ok {N ps : List PySem.Str} {sc : Scope} (h : scB N ps sc = true) : FnScope N ps sc := by
  unfold scB at h
  obtain ⟨h1, h2, h3⟩ := and3 h
  obtain ⟨h4, h5, h6⟩ := and3 h1
  obtain ⟨h7, h8⟩ := and2 h2
  obtain ⟨h9, h10⟩ := and2 h3
  refine ⟨?_, by simpa using h5, by simpa using h6, ndS_nd h7, eqSs_eq h8, fun x hx => ?_, fun y hy => ?_⟩
  · split at h4
    · assumption
    · cases h4
  · have := (List.all_eq_true.mp h9) x hx
    rw [lkS_eq]
    cases e : lkS sc.names x with
    | none => rw [e] at this; cases this
    | some k => rw [e] at this; cases k <;> first | exact .inl rfl | exact .inr rfl | cases this
  · have := (List.all_eq_true.mp h10) y hy
    intro e
    rw [e] at this
    cases this
def argB (ps : List PySem.Str) (a : Arguments) : Bool := (a.posonlyargs.isEmpty && a.vararg.isNone && a.kwonlyargs.isEmpty) && (a.kw_defaults.isEmpty && a.kwarg.isNone && a.defaults.isEmpty) && eqSs (a.args.map (·.arg)) ps
theorem zip_look {α : Type} : ∀ {L : List PySem.Str} {us : List α}, us.length = L.length → ∀ n ∈ L, ((L.zip us).lookup n).isSome = true
  | [], _, _, n, h => by cases h
  | x :: L, [], hl, n, h => by simp at hl
  | x :: L, u :: us, hl, n, h => by
    rw [List.zip_cons_cons, List.lookup_cons]
    cases e : n == x with
    | true => rfl
    | false =>
      rcases List.mem_cons.mp h with h | h
      · rw [h] at e; simp at e
      · exact zip_look (by simpa using hl) n h
theorem fm_congr {α β : Type} {f g : α → Option β} : ∀ {l : List α}, (∀ a ∈ l, f a = g a) → l.filterMap f = l.filterMap g
  | [], _ => rfl
  | a :: l, h => by
    rw [List.filterMap_cons, List.filterMap_cons, h a (List.mem_cons_self ..), fm_congr (l := l) fun b hb => h b (List.mem_cons_of_mem _ hb)]
theorem zip_fm {α : Type} : ∀ {L : List PySem.Str} {us : List α}, us.length = L.length → L.Nodup → (L.filterMap fun n => ((L.zip us).lookup n).map (n, ·)) = L.zip us
  | [], _, _, _ => by simp
  | x :: L, [], hl, _ => by simp at hl
  | x :: L, u :: us, hl, nd => by
    obtain ⟨hx, nd'⟩ := List.nodup_cons.mp nd
    have ih := zip_fm (us := us) (by simpa using hl) nd'
    rw [List.zip_cons_cons, List.filterMap_cons]
    have e0 : ((x, u) :: L.zip us).lookup x = some u := by rw [List.lookup_cons, beq_self_eq_true]
    rw [e0]
    show (x, u) :: _ = _
    congr 1
    refine (fm_congr fun n hn => ?_).trans ih
    have : (n == x) = false := by
      cases e : n == x with
      | false => rfl
      | true => rw [eq_of_beq e] at hn; exact absurd hn hx
    rw [List.lookup_cons, this]
theorem bind_plain {x : PySem.Str} {body : List Stmt} {scope : Scope} {args : List Arg} {kV doc pm : Value} {an : Option Addr} {cdv ct : Value} {us : List Value} (hl : us.length = args.length) (nd : (args.map (·.arg)).Nodup) :
    bindArgs (PySem.W.fnOf x x ⟨[], args, none, [], [], none, []⟩ body scope Value.none kV doc pm an cdv ct) ⟨us, []⟩ = pure ((args.map (·.arg)).zip us) := by
  have hl' : us.length = (args.map (·.arg)).length := by simpa using hl
  have hm : ((args.map (·.arg)).filter fun n => (((args.map (·.arg)).zip us).lookup n).isNone) = [] := by
    rw [List.filter_eq_nil_iff]
    intro n hn
    have := zip_look (us := us) hl' n hn
    cases e : ((args.map (·.arg)).zip us).lookup n with
    | none => rw [e] at this; cases this
    | some v => simp
  have hf := zip_fm (us := us) hl' nd
  unfold bindArgs PySem.W.fnOf
  generalize hL : args.map (·.arg) = L at *
  have h2 : ¬ (us.length > L.length) := by omega
  simp only [seqItems?, List.map_nil, List.nil_append, hL]
  have e1 : (notAStandIn Value.none : Sem Unit) = pure () := rfl
  simp [e1, hl', hm, hf, pure_bind]
theorem binds_of {K : PySem.W.Frag} {x : PySem.Str} {params : Arguments} {body : List Stmt} {scope : Scope} {f : Addr} {fd : FuncData} {ps : List PySem.Str} (F : FunD K x x params body scope [] [] f fd) (h : argB ps params = true) (nd : ps.Nodup) : Binds K fd ps [] ∧ ∀ (s : Shared) (us : List Value), us.length = ps.length → BindsTo s fd ⟨us, []⟩ (ps.zip us) := by
  have go : ∀ (kV doc pm : Value) (an : Option Addr) (cdv ct : Value) (us : List Value), us.length = ps.length → bindArgs (PySem.W.fnOf x x params body scope .none kV doc pm an cdv ct) ⟨us, []⟩ = pure (ps.zip us) := by
    intro kV doc pm an cdv ct us hl
    obtain ⟨po, args, va, kwo, kwd, kw, dfl⟩ := params
    unfold argB at h
    obtain ⟨h1, h2, h3⟩ := and3 h
    obtain ⟨h4, h5, h6⟩ := and3 h1
    obtain ⟨h7, h8, h9⟩ := and3 h2
    cases eqSs_eq h3
    cases po with
    | cons _ _ => cases h4
    | nil =>
    cases va with
    | some _ => cases h5
    | none =>
    cases kwo with
    | cons _ _ => cases h6
    | nil =>
    cases kwd with
    | cons _ _ => cases h7
    | nil =>
    cases kw with
    | some _ => cases h8
    | none =>
    cases dfl with
    | cons _ _ => cases h9
    | nil => exact bind_plain (by simpa using hl) nd
  exact ⟨F.bindsN go, F.bindsA go⟩
def Md.ck1 (m : Md) (d : Dd) : Bool := (scB d.N d.ps (defScope (m.top d.at_)) && argB d.ps (defArgs (m.top d.at_))) && (Nat.beq d.df.ar d.ps.length && Nat.beq d.df.nl d.N.length) && ckSs m.G d.df.body ⟨d.N, defScope (m.top d.at_), fun _ => true⟩ (defBody (m.top d.at_))
def Md.ck (m : Md) : Bool := m.defs.all m.ck1
/-! the head's facts -/
def Md.dd (m : Md) (d : Dd) : He.DefD := ⟨(d.x, none), d.x, d.x, defArgs (m.top d.at_), defBody (m.top d.at_), defScope (m.top d.at_), [], []⟩
def Md.fn (m : Md) : List He.DefD := m.defs.map m.dd
def Gc.fa : PySem.Str × Gc → List He.Fa
  | (x, .int i) => [.int x i]
  | (x, .tup _) => [.glo x]
def Md.fa (m : Md) : List He.Fa := bltNames.map .free ++ (m.defs.map (fun d => .glo d.x) ++ (m.ecs.map .glo ++ (m.ecs.map .exc ++ m.gcs.flatMap Gc.fa)))
def Gc.ex (K : PySem.W.Frag) : PySem.Str × Gc → Bool
  | (_, .int _) => true
  | (x, .tup xs) => He.tupB K x (xs.map .str) && Nat.ble xs.length 1000
def Md.ex (m : Md) (K : PySem.W.Frag) : Bool := m.gcs.all (Gc.ex K)
def Md.says (m : Md) (K : PySem.W.Frag) : Prop := He.SaysD m.fa m.fn K ∧ m.ex K = true
abbrev AlM : Type := He.AlD × Bool
def obsM (m : Md) (n : Nat) (g : Addr → Option Obj) : AlM := (He.obsD m.fa m.fn (He.frG g (He.asD g n)), m.ex (He.frG g (He.asD g n)))
def hookM (m : Md) (n : Nat) : PySem.W.Hook where
  α := AlM
  obs := fun s => obsM m n s.heap.get?
  val := fun _ => (He.valD m.fn, true)
  says := fun _ h => ∃ K : PySem.W.Frag, K.In h ∧ m.says K
  of := fun _ _ e => ⟨_, He.frG_in, congrArg Prod.fst e, congrArg Prod.snd e⟩
  keeps := fun _ _ _ ⟨K, hK, c⟩ k => ⟨K, PySem.W.Frag.In.keeps hK k, c⟩
def obM (m : Md) (n : Nat) (s : PySem.W.SharedT) : AlM := obsM m n (HandSHeadRun.getT s)
theorem obM_eq (m : Md) (n : Nat) (s : PySem.W.SharedT) : obM m n s = (hookM m n).obs s.abs := by
  show obsM m n (HandSHeadRun.getT s) = obsM m n s.abs.heap.get?
  rw [show HandSHeadRun.getT s = s.abs.heap.get? from funext (HandSHeadRun.getT_eq s)]
section
variable {m : Md} {P : Program} {w : World} {K : PySem.W.Frag} {mg : PySem.Str → Option Value} {base h : Heap}
theorem FnScope.psNd {N ps : List PySem.Str} {sc : Scope} (S : FnScope N ps sc) : ps.Nodup := by
  have := S.nd
  rw [← S.pre]
  exact (List.take_sublist _ _).nodup this
theorem says_fact {fa : List He.Fa} {fn : List He.DefD} (c : He.SaysD fa fn K) {f : He.Fa} (h : f ∈ fa) : f.ok K = true := by
  obtain ⟨i, hi, e⟩ := List.mem_iff_getElem.mp h
  exact He.SaysD.fact c i (by rw [List.getElem?_eq_getElem hi, e])
theorem says_def {fa : List He.Fa} {fn : List He.DefD} (c : He.SaysD fa fn K) {d : He.DefD} (h : d ∈ fn) : ∃ fd, FunD K d.name d.qual d.params d.body d.scope (d.dvs K) (d.kws K) (He.fAd K d.at_) fd := by
  obtain ⟨i, hi, e⟩ := List.mem_iff_getElem.mp h
  exact He.SaysD.def_ c i (by rw [List.getElem?_eq_getElem hi, e])
theorem lkL_mem {α : Type} {x : PySem.Str} {k : α} : ∀ {l : List (PySem.Str × α)}, lkL l x = some k → (x, k) ∈ l
  | [], h => by simp [lkL] at h
  | (y, k') :: r, h => by
    rw [lkL] at h
    cases e : sEq x y with
    | true =>
      rw [e] at h
      cases h
      rw [sEq_eq e]
      exact List.mem_cons_self
    | false =>
      rw [e] at h
      exact List.mem_cons_of_mem _ (lkL_mem h)
def Md.C (m : Md) (P : Program) (w : World) (K : PySem.W.Frag) (mg : PySem.Str → Option Value) (base : Heap) : Cc := ⟨P, w, K, mg, base, 0, fun _ => none, fun c => (m.ecs[c]?).map (He.ga K)⟩
theorem strs_rep {C : Cc} {W : Wd} : ∀ xs : List PySem.Str, Reps C W ((xs.map He.Dv.str).map (He.Dv.v C.K)) (xs.map .str)
  | [] => .nil
  | x :: r => .cons (.str x) (strs_rep r)
theorem modOk (ck : m.ck = true) (KX : K.In h) (G : h.Ns mainGlobals mg) (sy : m.says K) : ModOk (m.C P w K mg base) m.T m.G := by
  obtain ⟨c, ex⟩ := sy
  have fa := fun {f : He.Fa} (hf : f ∈ m.fa) => (says_fact c hf : f.ok K = true)
  have ck1 := List.all_eq_true.mp ck
  refine ⟨fun x hx => ?_, fun f x hx => ?_, fun x d hx => ?_, fun i x hx => ?_⟩
  · exact He.free_ok KX G (fa (List.mem_append.mpr (.inl (List.mem_map.mpr ⟨x, hx, rfl⟩))))
  · have hx' : (m.defs[f]?).map (·.x) = some x := hx
    cases e : m.defs[f]? with
    | none => rw [e] at hx'; cases hx'
    | some d =>
      rw [e] at hx'
      cases hx'
      have hd := List.mem_of_getElem? e
      refine ⟨d.df, by show (m.defs[f]?).map (·.df) = _; rw [e]; rfl, ?_⟩
      obtain ⟨h1, h2, h3⟩ := and3 (ck1 d hd)
      obtain ⟨h4, h5⟩ := and2 h1
      obtain ⟨h6, h7⟩ := and2 h2
      obtain ⟨fd, F⟩ := says_def c (d := m.dd d) (List.mem_map.mpr ⟨d, hd, rfl⟩)
      have mgx : mg d.x = some (.ref (He.ga K d.x)) := He.glo_ok KX G (fa (List.mem_append.mpr (.inr (List.mem_append.mpr (.inl (List.mem_map.mpr ⟨d, hd, rfl⟩))))))
      have F' : FunD K d.x d.x (defArgs (m.top d.at_)) (defBody (m.top d.at_)) (defScope (m.top d.at_)) [] [] (He.ga K d.x) fd := F
      exact ⟨d.ps, d.N, m.top d.at_, He.ga K d.x, fd, mgx, F'.kp, (binds_of F' h5 (FnScope.psNd (scB_ok h4))).1, F', scB_ok h4, Nat.eq_of_beq_eq_true h6, Nat.eq_of_beq_eq_true h7, h3⟩
  · have hx' : (lkL m.gcs x).map Gc.d = some d := hx
    cases e : lkL m.gcs x with
    | none => rw [e] at hx'; cases hx'
    | some k =>
      rw [e] at hx'
      cases hx'
      have hm := lkL_mem e
      have inFa : ∀ f ∈ Gc.fa (x, k), f ∈ m.fa := fun f hf => List.mem_append.mpr (.inr (List.mem_append.mpr (.inr (List.mem_append.mpr (.inr (List.mem_append.mpr (.inr (List.mem_flatMap.mpr ⟨(x, k), hm, hf⟩))))))))
      cases k with
      | int i =>
        obtain ⟨t, e2⟩ := He.int_ok KX G (fa (inFa (.int x i) (by simp [Gc.fa])))
        exact ⟨.int i, .int i t, e2, ⟨t, rfl⟩, fun W => .int i⟩
      | tup xs =>
        have e2 := He.glo_ok KX G (fa (inFa (.glo x) (by simp [Gc.fa])))
        obtain ⟨h1, h2⟩ := and2 ((List.all_eq_true.mp ex) _ hm)
        have h2 : xs.length ≤ 1000 := Nat.le_of_ble_eq_true h2
        exact ⟨.ref (He.ga K x), .ref (He.ga K x), e2, rfl, fun W => .tup (He.tupB_ok h1 W.F) (strs_rep (C := m.C P w K mg base) xs) (by rw [List.length_map]; omega)⟩
  · have hx' : m.ecs[i]? = some x := hx
    have hm := List.mem_of_getElem? hx'
    have e2 := He.glo_ok KX G (fa (List.mem_append.mpr (.inr (List.mem_append.mpr (.inr (List.mem_append.mpr (.inl (List.mem_map.mpr ⟨x, hm, rfl⟩))))))))
    obtain ⟨a1, a2, a3, a4⟩ := He.exc_ok (fa (f := .exc x) (List.mem_append.mpr (.inr (List.mem_append.mpr (.inr (List.mem_append.mpr (.inr (List.mem_append.mpr (.inl (List.mem_map.mpr ⟨x, hm, rfl⟩))))))))))
    exact ⟨He.ga K x, He.veBase, "ValueError.__new__", by show (m.ecs[i]?).map (He.ga K) = _; rw [hx']; rfl, e2, a2, a3, a4, "ValueError", "ValueError.__init__", PySem.F.excBase_ValueError, a1⟩
/-- the law, from the plain run -/
theorem law_facts {n N li : Nat} {f : Addr} {y : PySem.Str} {d : Dd} (ck : m.ck = true) (hd : m.defs[li]? = some d) (hx : sEq d.x "law" = true) (hp : d.ps = [y]) (hrun : ∀ ns : List Int, ns.length ≤ 63 → ∃ S, run m.T N (n + 1) li [.scr ns] [] = .ok (.bl true) S)
    (KX : K.In h) (G : h.Ns mainGlobals mg) (hfa : mg ("law" : PySem.Str) = some (.ref f)) (sy : m.says K) :
    ∃ (fd : FuncData) (sp : Sp), (∀ (s : Shared) (v : Value), BindsTo s fd ⟨[v], []⟩ [(y, v)]) ∧ (∀ (H : Hp) (a : Addr) (ns : List Int), ns.length ≤ 63 → SqL K H a (ns.map V.int) → sp [.ref a] H (fun v _ => v = .bl true) fun _ _ _ => False) ∧
      ∀ base : Heap, K.In base → base.Ns mainGlobals mg → FnOk P w K mg base (L2.CX P w) (n + 1) f fd [y] sp := by
  have ex : d.x = ("law" : PySem.Str) := sEq_eq hx
  have ck1 := (List.all_eq_true.mp ck) d (List.mem_of_getElem? hd)
  obtain ⟨h1, h2, h3⟩ := and3 ck1
  obtain ⟨h4, h5⟩ := and2 h1
  obtain ⟨h6, h7⟩ := and2 h2
  have mdx : d ∈ m.defs := List.mem_of_getElem? hd
  obtain ⟨fd, F⟩ := says_def sy.1 (d := m.dd d) (List.mem_map.mpr ⟨d, mdx, rfl⟩)
  have F' : FunD K d.x d.x (defArgs (m.top d.at_)) (defBody (m.top d.at_)) (defScope (m.top d.at_)) [] [] (He.ga K d.x) fd := F
  have mgx : mg d.x = some (.ref (He.ga K d.x)) := He.glo_ok KX G (says_fact sy.1 (f := .glo d.x) (List.mem_append.mpr (.inr (List.mem_append.mpr (.inl (List.mem_map.mpr ⟨d, mdx, rfl⟩))))))
  have ef : He.ga K d.x = f := by
    rw [ex, hfa] at mgx
    cases mgx
    rw [ex]
  have b := (binds_of F' h5 (FnScope.psNd (scB_ok h4))).2
  refine ⟨fd, fun vs H Q E => ∀ base : Heap, spF (m.C P w K mg base) (run m.T N (n + 1)) li vs H Q E, fun s v => ?_, fun H a ns hl hS base => ?_, fun base hb hg => ?_⟩
  · have := b s [v] (by rw [hp]; rfl)
    rw [hp] at this
    exact this
  · obtain ⟨S, e⟩ := hrun ns hl
    refine ⟨[], ⟨H, []⟩, [.scr ns], ⟨rfl, fun _ _ h => h, fun n o a h => by simp at h, fun n o a h => by simp at h, fun a h => by simp at h, List.nodup_nil⟩, .cons (.scr hS) .nil, ?_⟩
    rw [e]
    intro v H' W' _ _ r
    cases r
    rfl
  · have gk := run_gok (N := N) (modOk (P := P) (w := w) (base := base) ck KX G sy) n
    have fo := fn_ok (f := li) gk (by show (m.defs[li]?).map (·.df) = some d.df; rw [hd]; rfl) F' (scB_ok h4) (Nat.eq_of_beq_eq_true h6) (Nat.eq_of_beq_eq_true h7) h3
    rw [ef, hp] at fo
    exact fo.imp fun vs H Q E q => q base
/-- at any world -/
def CXw (P : Program) : CXT := fun outer H s E u s' => ∃ w, L2.CX P w outer H s E u s'
theorem fnOk_anyw {k : Nat} {f : Addr} {fd : FuncData} {ps : List PySem.Str} {sp : Sp} (F : FnOk P w K mg base (L2.CX P w) k f fd ps sp) : FnOk P w K mg base (CXw P) k f fd ps sp :=
  ⟨F.len, fun A outer s H args us vs Q E hr he hb hv hs => codeAny_mono (F.run A outer s H args us vs Q E hr he hb hv hs) fun r s' h => by
    cases r with
    | ok fl => cases fl <;> exact h
    | error e => exact ⟨w, h⟩⟩
theorem CXw_none (H : Hp) (s : Shared) (e : Value) (s' : Shared) (h : CXw P [] H s (fun _ _ _ => False) e s') : False := by
  obtain ⟨w, a, B, H', cls, d, _, _, _, _, _, _, _, hE⟩ := h
  exact hE
/-- .. as the walk takes it -/
theorem law_end {n N li : Nat} {d : Dd} {y : PySem.Str} (ck : m.ck = true) (hd : m.defs[li]? = some d) (hx : sEq d.x "law" = true) (hp : d.ps = [y]) (hrun : ∀ ns : List Int, ns.length ≤ 63 → ∃ S, run m.T N (n + 1) li [.scr ns] [] = .ok (.bl true) S)
    (x : PySem.Str) (ex : x = "law") (w : World) (mg : PySem.Str → Option Value) (fa : Addr) (h : Heap) (Y : ∃ K : PySem.W.Frag, K.In h ∧ m.says K) (G : h.Ns mainGlobals mg) (hmg : mg x = some (.ref fa)) :
    ∃ (K : PySem.W.Frag) (fd : FuncData) (sp : Sp), K.In h ∧ (∀ (s : Shared) (u : Value), BindsTo s fd ⟨[u], []⟩ [(y, u)]) ∧
        (∀ (H : Hp) (a : Addr) (ns : List Int), ns.length ≤ 63 → Only H → SqL K H a (ns.map V.int) → sp [.ref a] H (fun v _ => v = .bl true) fun _ _ _ => False) ∧
        ∀ base : Heap, K.In base → base.Ns mainGlobals mg → FnOk P w K mg base (CXw P) (n + 1) fa fd [y] sp := by
  obtain ⟨K, KX, sy⟩ := Y
  subst ex
  obtain ⟨fd, sp, hb, hs, hF⟩ := law_facts (P := P) (w := w) (N := N) ck hd hx hp hrun KX G hmg sy
  exact ⟨K, fd, sp, KX, hb, fun H a ns hl _ hS => hs H a ns hl hS, fun base kb kn => fnOk_anyw (hF base kb kn)⟩
end
end Hc
end
section
set_option linter.all false
set_option autoImplicit false
/-! Reasoning about the core language's runs, with no program in sight. -/
namespace Hc
open PySem
/-- what holds behind a run that ends well -/
inductive wp {α : Type} (m : M α) (S : Store) (P : α → Store → Prop) : Prop
  | mk (a : α) (S' : Store) : m S = .ok a S' → P a S' → wp m S P
theorem wp_eq {α : Type} (m : M α) (S : Store) (P : α → Store → Prop) : wp m S P = (match m S with
  | .ok a S' => P a S'
  | _ => False) := by
  apply propext
  constructor
  · rintro ⟨a, S', e, h⟩
    rw [e]
    exact h
  · intro h
    cases e : m S with
    | ok a S' => rw [e] at h; exact ⟨a, S', e, h⟩
    | exc x S' => rw [e] at h; exact h.elim
    | bad => rw [e] at h; exact h.elim
@[simp] theorem wp_pure {α : Type} (a : α) (S : Store) (P : α → Store → Prop) : wp (pure a) S P = P a S := by
  rw [wp_eq]
  rfl
@[simp] theorem wp_bind {α β : Type} (m : M α) (f : α → M β) (S : Store) (P : β → Store → Prop) : wp (m >>= f) S P = wp m S fun a S' => wp (f a) S' P := by
  simp only [wp_eq]
  rw [bind_at]
  cases m S <;> rfl
@[simp] theorem wp_bad {α : Type} (S : Store) (P : α → Store → Prop) : wp M.bad S P = False := by
  rw [wp_eq]
  rfl
@[simp] theorem wp_ask {α : Type} (f : Store → Option α) (S : Store) (P : α → Store → Prop) : wp (M.ask f) S P = (match f S with
  | some a => P a S
  | none => False) := by
  rw [wp_eq]
  unfold M.ask
  cases f S <;> rfl
@[simp] theorem wp_opt {α : Type} (o : Option α) (S : Store) (P : α → Store → Prop) : wp (M.opt o) S P = (match o with
  | some a => P a S
  | none => False) := by
  rw [wp_eq]
  cases o <;> rfl
theorem wp_mono {α : Type} {m : M α} {S : Store} {P Q : α → Store → Prop} (h : wp m S P) (hq : ∀ a S', P a S' → Q a S') : wp m S Q := by
  obtain ⟨a, S', e, h⟩ := h
  exact ⟨a, S', e, hq _ _ h⟩
theorem wp_of {α : Type} {m : M α} {S S' : Store} {a : α} {P : α → Store → Prop} (e : m S = .ok a S') (h : P a S') : wp m S P := ⟨a, S', e, h⟩
theorem wp_ok {α : Type} {m : M α} {S : Store} {P : α → Store → Prop} (h : wp m S P) : ∃ a S', m S = .ok a S' ∧ P a S' := by
  obtain ⟨a, S', e, h⟩ := h
  exact ⟨a, S', e, h⟩
theorem wp_at {α : Type} {m k : M α} {S : Store} {P : α → Store → Prop} (e : m S = k S) (h : wp k S P) : wp m S P := by
  obtain ⟨a, S', e2, h⟩ := h
  exact ⟨a, S', e.trans e2, h⟩
@[simp] theorem ask_some {α : Type} (a : α) : (M.ask fun _ => some a) = (pure a : M α) := rfl
@[simp] theorem ask_none {α : Type} : (M.ask fun _ => (none : Option α)) = (M.bad : M α) := rfl
@[simp] theorem asB_bl (b : Bool) : asB (.bl b) = pure b := rfl
@[simp] theorem bind_assoc' {α β γ : Type} (m : M α) (f : α → M β) (g : β → M γ) : ((m >>= f) >>= g) = (m >>= fun a => f a >>= g) := bind_assoc m f g
@[simp] theorem ite_bind {α β : Type} (b : Bool) (m k : M α) (f : α → M β) : ((if b = true then m else k) >>= f) = if b = true then m >>= f else k >>= f := by cases b <;> rfl
@[simp] theorem iteP_bind {α β : Type} (p : Prop) [Decidable p] (m k : M α) (f : α → M β) : ((if p then m else k) >>= f) = if p then m >>= f else k >>= f := by
  by_cases h : p <;> simp [h]
@[simp] theorem ite_pure (b : Bool) : (if b = true then (pure true : M Bool) else pure false) = pure b := by cases b <;> rfl
@[simp] theorem noX_pure {α : Type} (a : α) : noX (pure a : M α) = pure a := rfl
@[simp] theorem wp_noX {α : Type} (m : M α) (S : Store) (P : α → Store → Prop) : wp (noX m) S P = wp m S P := by
  simp only [wp_eq]
  unfold noX
  cases m S <;> rfl
@[simp] theorem isEmpty_lks (S : Store) : lkOk [] S = true := rfl
theorem lcM_at {l : Lks} {f : D → M (Option D)} {d : D} {ds : List D} {S : Store} (h : lkOk l S = true) : lcM l f (d :: ds) S = (f d >>= fun r => lcM l f ds >>= fun rs => (pure (match r with
    | some x => x :: rs
    | none => rs) : M (List D))) S := by
  show (if lkOk l S then _ else _) = _
  exact if_pos h
theorem lcM2_at {l : Lks} {f : D → M (List D)} {d : D} {ds : List D} {S : Store} (h : lkOk l S = true) : lcM2 l f (d :: ds) S = (f d >>= fun r => lcM2 l f ds >>= fun rs => (pure (r ++ rs) : M (List D))) S := by
  show (if lkOk l S then _ else _) = _
  rw [if_pos h]
theorem forM_at {l : Lks} {f : D → Env → M Fl} {d : D} {ds : List D} {σ : Env} {S : Store} (h : lkOk l S = true) : forM l f (d :: ds) σ S = (f d σ >>= fun r => match r with
    | .nx σ' => forM l f ds σ'
    | .rt v => pure (.rt v)) S := by
  show (if lkOk l S then _ else _) = _
  exact if_pos h
theorem forM_nil {l : Lks} {f : D → Env → M Fl} {σ : Env} {S : Store} (h : lkOk l S = true) : forM l f [] σ S = .ok (.nx σ) S := by
  show (if lkOk l S then _ else _) = _
  rw [if_pos h]
@[simp] theorem wp_ite {α : Type} (c : Prop) [Decidable c] (m k : M α) (S : Store) (P : α → Store → Prop) : wp (if c then m else k) S P = if c then wp m S P else wp k S P := by
  by_cases h : c <;> simp [h]
@[simp] theorem wp_setM (σ : Env) (x y v : D) (S : Store) (P : Fl → Store → Prop) : wp (setM σ x y v) S P = (match setIx S x y v with
  | some S' => P (.nx σ) S'
  | none => False) := by
  rw [wp_eq]
  unfold setM
  cases setIx S x y v <;> rfl
@[simp] theorem wp_rseM {α : Type} (c : Nat) (S : Store) (P : α → Store → Prop) : wp (rseM c) S P = False := by
  rw [wp_eq]
  rfl
/-- a call, by the def's text -/
theorem run_at {T : Nat → Option Df} {N n f : Nat} {args : List D} {df : Df} (h : T f = some df) (ha : args.length = df.ar) (hp : df.pur = false) : run T N (n + 1) f args = endM (eSt (run T N n) N df.body (startE df.nl args)) := by
  unfold run
  rw [h]
  show (if args.length = df.ar then (if df.pur then _ else _) else _) = _
  rw [if_pos ha, hp]
  rfl
/-! what is known of values -/
section
variable (S : Store) (i j : Int) (b c : Bool) (x y : Str) (xs ys : List D) (u v : D)
@[simp] theorem op2_add : op2 S .add (.int i) (.int j) = some (.int (i + j)) := rfl
@[simp] theorem op2_addb : op2 S .add (.bl b) (.int j) = some (.int ((if b then 1 else 0) + j)) := rfl
@[simp] theorem op2_addT : op2 S .add (.tup xs) (.tup ys) = if lenOk (xs.length + ys.length) then some (.tup (xs ++ ys)) else none := rfl
@[simp] theorem op2_addL : op2 S .add (.lst xs) (.lst ys) = if lenOk (xs.length + ys.length) then some (.lst (xs ++ ys)) else none := rfl
@[simp] theorem op2_sub : op2 S .sub (.int i) (.int j) = some (.int (i - j)) := rfl
@[simp] theorem op2_mul : op2 S .mul (.int i) (.int j) = if mulOk i j then some (.int (i * j)) else none := rfl
@[simp] theorem op2_mulL : op2 S .mul (.lst xs) (.int j) = if 0 ≤ j ∧ j ≤ 1000 ∧ xs.length ≤ 1000 then some (.lst (List.replicate j.toNat xs).flatten) else none := rfl
@[simp] theorem op2_fdiv : op2 S .fdiv (.int i) (.int j) = if divOk j then some (.int (i.fdiv j)) else none := rfl
@[simp] theorem op2_mod : op2 S .mod (.int i) (.int j) = if j = 0 then none else some (.int (i.fmod j)) := rfl
@[simp] theorem op2_pow : op2 S .pow (.int i) (.int j) = if 0 ≤ j ∧ j ≤ 1000000 ∧ i.natAbs < 2 ^ 64 then some (.int (i ^ j.toNat)) else none := rfl
@[simp] theorem op2_eq : op2 S .eq u v = (eqD S u v).map .bl := by cases u <;> rfl
@[simp] theorem op2_ne : op2 S .ne u v = (eqD S u v).map fun c => .bl (!c) := by cases u <;> rfl
@[simp] theorem op2_lt : op2 S .lt (.int i) (.int j) = some (.bl (decide (i < j))) := rfl
@[simp] theorem op2_le : op2 S .le (.int i) (.int j) = some (.bl (decide (i ≤ j))) := rfl
@[simp] theorem op2_gt : op2 S .gt (.int i) (.int j) = some (.bl (decide (j < i))) := rfl
@[simp] theorem op2_ge : op2 S .ge (.int i) (.int j) = some (.bl (decide (j ≤ i))) := rfl
@[simp] theorem op2_is : op2 S .iss u v = (isD u v).map .bl := by cases u <;> rfl
@[simp] theorem op2_isn : op2 S .isn u v = (isD u v).map fun c => .bl (!c) := by cases u <;> rfl
@[simp] theorem op2_mem : op2 S .mem u v = (memD S u v).map .bl := by cases u <;> rfl
@[simp] theorem op2_nmem : op2 S .nmem u v = (memD S u v).map fun c => .bl (!c) := by cases u <;> rfl
@[simp] theorem biD_len : biD S .len [u] = (lenD S u).map fun (n : Nat) => .int (n : Int) := rfl
@[simp] theorem biD_int : biD S .int [.int i] = some (.int i) := rfl
@[simp] theorem biD_intb : biD S .int [.bl b] = some (.int (if b then 1 else 0)) := rfl
@[simp] theorem biD_abs : biD S .abs [.int i] = some (.int (if i < 0 then -i else i)) := rfl
@[simp] theorem biD_min : biD S .min2 [.int i, .int j] = some (.int (if j < i then j else i)) := rfl
@[simp] theorem biD_max : biD S .max2 [.int i, .int j] = some (.int (if j > i then j else i)) := rfl
@[simp] theorem biD_sum : biD S .sum [.lst xs] = (intsOf xs).map fun ns => .int ns.sum := rfl
@[simp] theorem biD_all : biD S .all [.lst xs] = (boolsOf xs).map fun bs => .bl (bs.all id) := rfl
@[simp] theorem biD_any : biD S .any [.lst xs] = (boolsOf xs).map fun bs => .bl (bs.any id) := rfl
@[simp] theorem biD_tup : biD S .tup [u] = (itemsOf S u).map .tup := rfl
@[simp] theorem biD_lst : biD S (.lst false) [u] = (itemsOf S u).map .lst := rfl
@[simp] theorem biD_isi (t : Ty) : biD S (.isi t) [u] = (isTy t u).map .bl := rfl
@[simp] theorem lenD_tup : lenD S (.tup xs) = some xs.length := rfl
@[simp] theorem lenD_lst : lenD S (.lst xs) = some xs.length := rfl
@[simp] theorem lenD_scr (ns : List Int) : lenD S (.scr ns) = some ns.length := rfl
@[simp] theorem itemsOf_tup : itemsOf S (.tup xs) = some xs := rfl
@[simp] theorem itemsOf_lst : itemsOf S (.lst xs) = some xs := rfl
@[simp] theorem listOf_lst : listOf S (.lst xs) = some xs := rfl
@[simp] theorem ixD_tup : ixD S (.tup xs) (.int i) = (placeOf xs.length i).bind fun j => xs[j]? := rfl
@[simp] theorem ixD_lst : ixD S (.lst xs) (.int i) = (placeOf xs.length i).bind fun j => xs[j]? := rfl
@[simp] theorem ixD_scr (ns : List Int) : ixD S (.scr ns) (.int i) = (placeOf ns.length i).bind fun j => (ns[j]?).map .int := rfl
theorem ixD_ref {n : Nat} (h : S[n]? = some (.ml xs)) : ixD S (.ref n) (.int i) = (placeOf xs.length i).bind fun j => xs[j]? := by
  show ((match S[n]? with
    | some (.ml xs) => some xs
    | _ => none).bind _) = _
  rw [h]
  rfl
theorem setIx_ref {n : Nat} (h : S[n]? = some (.ml xs)) : setIx S (.ref n) (.int i) v = (placeOf xs.length i).map fun j => S.set n (.ml (xs.set j v)) := by
  show (match S[n]? with
    | some (.ml xs) => (placeOf xs.length i).map fun j => S.set n (.ml (xs.set j v))
    | _ => none) = _
  rw [h]
@[simp] theorem slD_tup (lo hi : Option Int) : slD S (.tup xs) lo hi = some (.tup (cutOf xs lo hi)) := rfl
@[simp] theorem slD_lst (lo hi : Option Int) : slD S (.lst xs) lo hi = some (.lst (cutOf xs lo hi)) := rfl
@[simp] theorem isTy_non (t : Ty) : isTy t .non = some false := by cases t <;> rfl
@[simp] theorem isTy_bl (t : Ty) : isTy t (.bl b) = some (match t with
  | .int => true
  | .bool => true
  | _ => false) := by cases t <;> rfl
@[simp] theorem isTy_int (t : Ty) : isTy t (.int i) = some (match t with
  | .int => true
  | _ => false) := by cases t <;> rfl
@[simp] theorem isTy_str (t : Ty) : isTy t (.str x) = some (match t with
  | .str => true
  | _ => false) := by cases t <;> rfl
@[simp] theorem isTy_tup (t : Ty) : isTy t (.tup xs) = some (match t with
  | .tup => true
  | _ => false) := by cases t <;> rfl
@[simp] theorem isTy_lst (t : Ty) : isTy t (.lst xs) = some false := by cases t <;> rfl
@[simp] theorem eqD_int : eqD S (.int i) (.int j) = some (i == j) := rfl
@[simp] theorem eqD_bl : eqD S (.bl b) (.bl c) = some (b == c) := rfl
@[simp] theorem isD_nn : isD .non .non = some true := rfl
end
/-! comprehensions over what stays -/
theorem lcM_pure {f : D → M (Option D)} {g : D → Option D} : ∀ {ds : List D}, (∀ d ∈ ds, f d = pure (g d)) → lcM [] f ds = pure (ds.filterMap g)
  | [], _ => rfl
  | d :: ds, h => by
    have ih := lcM_pure (f := f) (g := g) (ds := ds) fun x hx => h x (List.mem_cons_of_mem _ hx)
    funext S
    rw [lcM_at rfl, h d (List.mem_cons_self ..), ih]
    rw [List.filterMap_cons]
    cases g d <;> rfl
theorem lcM_map {f : D → M (Option D)} {g : D → D} {ds : List D} (h : ∀ d ∈ ds, f d = pure (some (g d))) : lcM [] f ds = pure (ds.map g) := by
  rw [lcM_pure (g := fun d => some (g d)) h]
  congr 1
  induction ds with
  | nil => rfl
  | cons d ds ih => rw [List.filterMap_cons, List.map_cons, ← ih fun x hx => h x (List.mem_cons_of_mem _ hx)]
theorem lcM2_pure {f : D → M (List D)} {g : D → List D} : ∀ {ds : List D}, (∀ d ∈ ds, f d = pure (g d)) → lcM2 [] f ds = pure (ds.flatMap g)
  | [], _ => rfl
  | d :: ds, h => by
    have ih := lcM2_pure (f := f) (g := g) (ds := ds) fun x hx => h x (List.mem_cons_of_mem _ hx)
    funext S
    rw [lcM2_at rfl, h d (List.mem_cons_self ..), ih]
    rfl
/-- .. that change the store: an invariant of what is made and of the store -/
theorem wp_lcM {f : D → M (Option D)} (I : List D → Store → Prop) {P : List D → Store → Prop} : ∀ {ds acc : List D} {S : Store}, I acc S → (∀ d ∈ ds, ∀ acc S, I acc S → wp (f d) S fun r S' => I (acc ++ r.toList) S') → (∀ r S', I (acc ++ r) S' → P r S') → wp (lcM [] f ds) S P
  | [], acc, S, h, _, hp => by
    exact wp_of (a := []) rfl (hp [] S (by simpa using h))
  | d :: ds, acc, S, h, hs, hp => by
    have step : wp (f d >>= fun r => lcM [] f ds >>= fun rs => (pure (match r with
      | some x => x :: rs
      | none => rs) : M (List D))) S P := by
      rw [wp_bind]
      refine wp_mono (hs d (List.mem_cons_self ..) acc S h) fun r S1 h1 => ?_
      rw [wp_bind]
      refine wp_lcM I h1 (fun x hx => hs x (List.mem_cons_of_mem _ hx)) fun rs S2 h2 => ?_
      rw [wp_pure]
      refine hp _ _ ?_
      rw [List.append_assoc] at h2
      cases r <;> exact h2
    exact wp_at (lcM_at rfl) step
/-- .. that keep some of the items -/
theorem wp_lcM_sub {f : D → M (Option D)} {J : Store → Prop} {P : List D → Store → Prop} : ∀ {ds : List D} {S : Store}, J S → (∀ d ∈ ds, ∀ S, J S → wp (f d) S fun r S' => J S' ∧ (r = none ∨ r = some d)) → (∀ r S', J S' → r.Sublist ds → P r S') → wp (lcM [] f ds) S P
  | [], S, h, _, hp => wp_of (a := []) rfl (hp [] S h (List.Sublist.refl _))
  | d :: ds, S, h, hs, hp => by
    have step : wp (f d >>= fun r => lcM [] f ds >>= fun rs => (pure (match r with
      | some x => x :: rs
      | none => rs) : M (List D))) S P := by
      rw [wp_bind]
      refine wp_mono (hs d (List.mem_cons_self ..) S h) fun r S1 h1 => ?_
      rw [wp_bind]
      refine wp_lcM_sub h1.1 (fun x hx => hs x (List.mem_cons_of_mem _ hx)) fun rs S2 h2 h3 => ?_
      rw [wp_pure]
      rcases h1.2 with e | e <;> subst e
      · exact hp _ _ h2 (h3.cons d)
      · exact hp _ _ h2 (h3.cons_cons d)
    exact wp_at (lcM_at rfl) step
/-- .. that make one of each -/
theorem wp_lcM_each {f : D → M (Option D)} {J : Store → Prop} {Q : D → Prop} {P : List D → Store → Prop} : ∀ {ds : List D} {S : Store}, J S → (∀ d ∈ ds, ∀ S, J S → wp (f d) S fun r S' => J S' ∧ ∃ x, r = some x ∧ Q x) → (∀ r S', J S' → r.length = ds.length → (∀ x ∈ r, Q x) → P r S') → wp (lcM [] f ds) S P
  | [], S, h, _, hp => wp_of (a := []) rfl (hp [] S h rfl (fun _ h => by cases h))
  | d :: ds, S, h, hs, hp => by
    have step : wp (f d >>= fun r => lcM [] f ds >>= fun rs => (pure (match r with
      | some x => x :: rs
      | none => rs) : M (List D))) S P := by
      rw [wp_bind]
      refine wp_mono (hs d (List.mem_cons_self ..) S h) fun r S1 h1 => ?_
      obtain ⟨h1, x, e, hq⟩ := h1
      subst e
      rw [wp_bind]
      refine wp_lcM_each h1 (fun x hx => hs x (List.mem_cons_of_mem _ hx)) fun rs S2 h2 h3 h4 => ?_
      rw [wp_pure]
      exact hp _ _ h2 (by simp [h3]) fun y hy => by
        rcases List.mem_cons.mp hy with e | e
        · rw [e]; exact hq
        · exact h4 y e
    exact wp_at (lcM_at rfl) step
@[simp] theorem wp_newOb (xs : List D) (S : Store) (P : D → Store → Prop) : wp (newOb xs) S P = P (.ref S.length) (S ++ [.ml xs]) := by
  rw [wp_eq]
  rfl
/-- a loop: an invariant of what is to come -/
theorem wp_forM {f : D → Env → M Fl} (I : List D → Env → Store → Prop) {P : Fl → Store → Prop} : ∀ {ds : List D} {σ : Env} {S : Store}, I ds σ S → (∀ d r σ S, I (d :: r) σ S → wp (f d σ) S fun x S' => match x with
    | .nx τ => I r τ S'
    | .rt v => P (.rt v) S') → (∀ σ S, I [] σ S → P (.nx σ) S) → wp (forM [] f ds σ) S P
  | [], σ, S, h, _, hp => wp_of (forM_nil rfl) (hp σ S h)
  | d :: ds, σ, S, h, hs, hp => by
    have step : wp (f d σ >>= fun r => match r with
      | .nx σ' => forM [] f ds σ'
      | .rt v => pure (.rt v)) S P := by
      rw [wp_bind]
      refine wp_mono (hs d ds σ S h) fun r S1 h1 => ?_
      cases r with
      | nx τ => exact wp_forM I h1 hs hp
      | rt v => exact wp_of rfl h1
    exact wp_at (forM_at rfl) step
/-- .. over a list of the store that stays -/
theorem wp_forMl {l : Lks} {f : D → Env → M Fl} (I : List D → Env → Store → Prop) {P : Fl → Store → Prop} : ∀ {ds : List D} {σ : Env} {S : Store}, I ds σ S → (∀ ds σ S, I ds σ S → lkOk l S = true) → (∀ d r σ S, I (d :: r) σ S → wp (f d σ) S fun x S' => match x with
    | .nx τ => I r τ S'
    | .rt v => P (.rt v) S') → (∀ σ S, I [] σ S → P (.nx σ) S) → wp (forM l f ds σ) S P
  | [], σ, S, h, hl, _, hp => by
    exact wp_of (forM_nil (hl _ _ _ h)) (hp σ S h)
  | d :: ds, σ, S, h, hl, hs, hp => by
    have step : wp (f d σ >>= fun r => match r with
      | .nx σ' => forM l f ds σ'
      | .rt v => pure (.rt v)) S P := by
      rw [wp_bind]
      refine wp_mono (hs d ds σ S h) fun r S1 h1 => ?_
      cases r with
      | nx τ => exact wp_forMl I h1 hl hs hp
      | rt v => exact wp_of rfl h1
    exact wp_at (forM_at (hl _ _ _ h)) step
theorem lcM_mapL {α : Type} {f : D → M (Option D)} {h : α → D} (g : α → D) {l : List α} (hf : ∀ a ∈ l, f (h a) = pure (some (g a))) : lcM [] f (l.map h) = pure (l.map g) := by
  induction l with
  | nil => rfl
  | cons a l ih =>
    funext S
    rw [List.map_cons, lcM_at rfl, hf a (List.mem_cons_self ..), ih fun x hx => hf x (List.mem_cons_of_mem _ hx)]
    rfl
theorem lcM_filL {α : Type} {f : D → M (Option D)} {h : α → D} (g : α → Option D) {l : List α} (hf : ∀ a ∈ l, f (h a) = pure (g a)) : lcM [] f (l.map h) = pure (l.filterMap g) := by
  induction l with
  | nil => rfl
  | cons a l ih =>
    funext S
    rw [List.map_cons, lcM_at rfl, hf a (List.mem_cons_self ..), ih fun x hx => hf x (List.mem_cons_of_mem _ hx), List.filterMap_cons]
    cases g a <;> rfl
theorem zipD_map {α β : Type} (f : α → D) (g : β → D) : ∀ (xs : List α) (ys : List β), zipD (xs.map f) (ys.map g) = (xs.zip ys).map fun p => .tup [f p.1, g p.2]
  | [], ys => rfl
  | x :: xs, [] => rfl
  | x :: xs, y :: ys => by
    show D.tup [f x, g y] :: zipD (xs.map f) (ys.map g) = _
    rw [zipD_map f g xs ys]
    rfl
theorem cutAt_nat (n d i : Nat) : cutAt n d (some (i : Int)) = min i n := by
  show (if (i : Int) < 0 then ((i : Int) + n).toNat else min (i : Int).toNat n) = _
  rw [if_neg (by omega)]
  simp
theorem cut_from {α : Type} (xs : List α) (i : Nat) : cutOf xs (some (i : Int)) none = xs.drop i := by
  unfold cutOf
  rw [cutAt_nat]
  show (xs.drop (min i xs.length)).take (xs.length - min i xs.length) = _
  rcases Nat.le_total i xs.length with h | h
  · rw [Nat.min_eq_left h, List.take_of_length_le (by simp)]
  · rw [Nat.min_eq_right h, List.drop_of_length_le h]
    simp
theorem cut_to {α : Type} (xs : List α) (i : Nat) : cutOf xs none (some (i : Int)) = xs.take i := by
  unfold cutOf
  rw [cutAt_nat]
  show (xs.drop 0).take (min i xs.length - 0) = _
  rcases Nat.le_total i xs.length with h | h
  · rw [Nat.min_eq_left h]
    simp
  · rw [Nat.min_eq_right h]
    simp [List.take_of_length_le h]
theorem rangeD_zero (n : Nat) : rangeD 0 (n : Int) = (List.range n).map fun (k : Nat) => D.int (k : Int) := by
  simp [rangeD]
/-- a loop that leaves at the first item that fails -/
theorem forM_all {f : D → Env → M Fl} {g : D → Bool} {I : Env → Prop} {v : D} : ∀ {ds : List D} {σ : Env}, I σ → (∀ d ∈ ds, ∀ τ, I τ → ∃ τ', I τ' ∧ f d τ = if g d = true then pure (.nx τ') else pure (.rt v)) → ∃ τ', I τ' ∧ forM [] f ds σ = if ds.all g = true then pure (.nx τ') else pure (.rt v)
  | [], σ, h, _ => ⟨σ, h, by
      funext S
      rw [forM_nil rfl]
      rfl⟩
  | d :: ds, σ, h, hf => by
    obtain ⟨τ, i1, e1⟩ := hf d (List.mem_cons_self ..) σ h
    cases hg : g d with
    | false =>
      refine ⟨τ, i1, ?_⟩
      rw [hg] at e1
      funext S
      rw [forM_at rfl, e1, List.all_cons, hg]
      rfl
    | true =>
      obtain ⟨τ', i2, e2⟩ := forM_all (ds := ds) i1 fun x hx => hf x (List.mem_cons_of_mem _ hx)
      refine ⟨τ', i2, ?_⟩
      rw [hg] at e1
      funext S
      rw [forM_at rfl, e1, List.all_cons, hg, Bool.true_and, ← e2]
      rfl
/-- a loop that goes through -/
theorem forM_st {α : Type} {f : D → Env → M Fl} (mk : α → Env) (step : D → α → α) : ∀ {ds : List D} {a : α}, (∀ d ∈ ds, ∀ a, f d (mk a) = pure (.nx (mk (step d a)))) → forM [] f ds (mk a) = pure (.nx (mk (ds.foldl (fun a d => step d a) a)))
  | [], a, _ => by
    funext S
    rw [forM_nil rfl]
    rfl
  | d :: ds, a, hf => by
    funext S
    rw [forM_at rfl, hf d (List.mem_cons_self ..) a, List.foldl_cons]
    show forM [] f ds (mk (step d a)) S = _
    rw [forM_st mk step fun x hx => hf x (List.mem_cons_of_mem _ hx)]
theorem boolsOf_map {α : Type} (g : α → Bool) : ∀ xs : List α, boolsOf (xs.map fun x => .bl (g x)) = some (xs.map g)
  | [] => rfl
  | x :: xs => by
    rw [List.map_cons, boolsOf, boolsOf_map g xs]
    rfl
theorem intsOf_map {α : Type} (g : α → Int) : ∀ xs : List α, intsOf (xs.map fun x => .int (g x)) = some (xs.map g)
  | [] => rfl
  | x :: xs => by
    rw [List.map_cons, intsOf, intsOf_map g xs]
    rfl
end Hc
end
section
set_option Elab.async false
set_option linter.all false
set_option maxRecDepth 100000
set_option autoImplicit false
namespace Hc
open PySem
namespace K01
def kWORDS : Gc := .tup ["more", "atleast", "same"]
abbrev gWORDS : D := kWORDS.d
def kLARGEST : Gc := .int (1000000000000)
abbrev gLARGEST : D := kLARGEST.d
def d_is_number : Df := ⟨3, 3, false, (.ret (.and (.cons (.bi (.isi .int) (.cons (.v 0) .nil)) (.cons (.not (.bi (.isi .bool) (.cons (.v 0) .nil))) (.cons (.chain .le .le (.v 1) (.v 0) (.v 2)) .nil)))))⟩
abbrev n_is_number : List PySem.Str := ["value", "least", "most"]
def d_is_tuple : Df := ⟨3, 3, false, (.ret (.and (.cons (.bi (.isi .tup) (.cons (.v 0) .nil)) (.cons (.chain .le .le (.v 1) (.bi .len (.cons (.v 0) .nil)) (.v 2)) .nil))))⟩
abbrev n_is_tuple : List PySem.Str := ["value", "least", "most"]
def d_are_ascending : Df := ⟨1, 3, false, (.ret (.bi .all (.cons (.lc false (.op .lt (.v 1) (.v 2)) (.t (.cons (.n 1) (.cons (.n 2) .nil))) (.zip (.v 0) (.sl (.v 0) (.some (.c (.int (1)))) .none)) .none) .nil)))⟩
abbrev n_are_ascending : List PySem.Str := ["value", "one", "other"]
def d_is_lot : Df := ⟨2, 3, false, (.ret (.and (.cons (.call 1 (.cons (.v 0) (.cons (.c (.int (0))) (.cons (.c (.int (5))) .nil)))) (.cons (.bi .all (.cons (.lc false (.call 0 (.cons (.v 2) (.cons (.c (.int (0))) (.cons (.op .sub (.v 1) (.c (.int (1)))) .nil)))) (.n 2) (.seq (.v 0)) .none) .nil)) (.cons (.call 2 (.cons (.v 0) .nil)) .nil)))))⟩
abbrev n_is_lot : List PySem.Str := ["value", "things", "one"]
def d_is_saying : Df := ⟨3, 3, false, (.seq (.ite (.or (.cons (.not (.call 1 (.cons (.v 0) (.cons (.c (.int (4))) (.cons (.c (.int (4))) .nil))))) (.cons (.not (.call 0 (.cons (.ix (.v 0) (.c (.int (0)))) (.cons (.c (.int (0))) (.cons (.op .sub (.v 1) (.c (.int (1)))) .nil))))) .nil))) (.ret (.c (.bl false))) .skip) (.seq (.ite (.or (.cons (.not (.bi (.isi .str) (.cons (.ix (.v 0) (.c (.int (1)))) .nil))) (.cons (.op .nmem (.ix (.v 0) (.c (.int (1)))) (.c gWORDS)) .nil))) (.ret (.c (.bl false))) .skip) (.ret (.and (.cons (.call 3 (.cons (.ix (.v 0) (.c (.int (2)))) (.cons (.v 2) .nil))) (.cons (.call 3 (.cons (.ix (.v 0) (.c (.int (3)))) (.cons (.v 2) .nil))) .nil))))))⟩
abbrev n_is_saying : List PySem.Str := ["value", "people", "things"]
def d_is_good_case : Df := ⟨1, 2, false, (.seq (.ite (.or (.cons (.not (.call 1 (.cons (.v 0) (.cons (.c (.int (3))) (.cons (.c (.int (3))) .nil))))) (.cons (.not (.call 0 (.cons (.ix (.v 0) (.c (.int (0)))) (.cons (.c (.int (2))) (.cons (.c (.int (3))) .nil))))) (.cons (.not (.call 0 (.cons (.ix (.v 0) (.c (.int (1)))) (.cons (.c (.int (2))) (.cons (.c (.int (5))) .nil))))) .nil)))) (.ret (.c (.bl false))) .skip) (.ret (.and (.cons (.call 1 (.cons (.ix (.v 0) (.c (.int (2)))) (.cons (.c (.int (0))) (.cons (.c (.int (8))) .nil)))) (.cons (.bi .all (.cons (.lc false (.call 4 (.cons (.v 1) (.cons (.ix (.v 0) (.c (.int (0)))) (.cons (.ix (.v 0) (.c (.int (1)))) .nil)))) (.n 1) (.seq (.ix (.v 0) (.c (.int (2))))) .none) .nil)) .nil)))))⟩
abbrev n_is_good_case : List PySem.Str := ["value", "one"]
def d_are_good_worths : Df := ⟨2, 4, false, (.seq (.ite (.or (.cons (.not (.call 1 (.cons (.v 1) (.cons (.ix (.v 0) (.c (.int (0)))) (.cons (.ix (.v 0) (.c (.int (0)))) .nil))))) (.cons (.not (.bi .all (.cons (.lc false (.call 1 (.cons (.v 2) (.cons (.ix (.v 0) (.c (.int (1)))) (.cons (.ix (.v 0) (.c (.int (1)))) .nil)))) (.n 2) (.seq (.v 1)) .none) .nil))) .nil))) (.ret (.c (.bl false))) .skip) (.ret (.bi .all (.cons (.lc2 false (.call 0 (.cons (.v 3) (.cons (.c (.int (0))) (.cons (.c gLARGEST) .nil)))) (.n 2) (.seq (.v 1)) (.n 3) (.seq (.v 2)) .none) .nil))))⟩
abbrev n_are_good_worths : List PySem.Str := ["case", "value", "row", "number"]
def d_is_good_sharing : Df := ⟨2, 3, false, (.ret (.and (.cons (.call 1 (.cons (.v 1) (.cons (.ix (.v 0) (.c (.int (1)))) (.cons (.ix (.v 0) (.c (.int (1)))) .nil)))) (.cons (.bi .all (.cons (.lc false (.call 0 (.cons (.v 2) (.cons (.c (.int (0))) (.cons (.op .sub (.ix (.v 0) (.c (.int (0)))) (.c (.int (1)))) .nil)))) (.n 2) (.seq (.v 1)) .none) .nil)) .nil))))⟩
abbrev n_is_good_sharing : List PySem.Str := ["case", "value", "one"]
def d_lot_in : Df := ⟨2, 4, false, (.ret (.bi .tup (.cons (.lc false (.v 2) (.t (.cons (.n 2) (.cons (.n 3) .nil))) (.enm (.v 0)) (.some (.op .eq (.v 3) (.v 1)))) .nil)))⟩
abbrev n_lot_in : List PySem.Str := ["owners", "person", "thing", "owner"]
def d_line_of : Df := ⟨3, 4, false, (.ret (.bi .tup (.cons (.lc false (.op .sub (.ite (.op .mem (.v 3) (.v 0)) (.c (.int (1))) (.c (.int (0)))) (.ite (.op .mem (.v 3) (.v 1)) (.c (.int (1))) (.c (.int (0))))) (.n 3) (.rng (.v 2)) .none) .nil)))⟩
abbrev n_line_of : List PySem.Str := ["one", "other", "things", "thing"]
def d_summed : Df := ⟨2, 4, false, (.ret (.bi .sum (.cons (.lc false (.op .mul (.v 2) (.v 3)) (.t (.cons (.n 2) (.cons (.n 3) .nil))) (.zip (.v 0) (.v 1)) .none) .nil)))⟩
abbrev n_summed : List PySem.Str := ["line", "numbers", "factor", "number"]
def d_is_so : Df := ⟨2, 3, false, (.seq (.asg (.n 2) (.call 10 (.cons (.call 9 (.cons (.ix (.v 0) (.c (.int (2)))) (.cons (.ix (.v 0) (.c (.int (3)))) (.cons (.bi .len (.cons (.v 1) .nil)) .nil)))) (.cons (.v 1) .nil)))) (.seq (.ite (.op .eq (.ix (.v 0) (.c (.int (1)))) (.c (.str "same"))) (.ret (.op .eq (.v 2) (.c (.int (0))))) .skip) (.ret (.ite (.op .eq (.ix (.v 0) (.c (.int (1)))) (.c (.str "more"))) (.op .gt (.v 2) (.c (.int (0)))) (.op .ge (.v 2) (.c (.int (0))))))))⟩
abbrev n_is_so : List PySem.Str := ["saying", "row", "far"]
def d_keeps_all : Df := ⟨2, 3, false, (.ret (.bi .all (.cons (.lc false (.call 11 (.cons (.v 2) (.cons (.ix (.v 1) (.ix (.v 2) (.c (.int (0))))) .nil))) (.n 2) (.seq (.ix (.v 0) (.c (.int (2))))) .none) .nil)))⟩
abbrev n_keeps_all : List PySem.Str := ["case", "worths", "saying"]
def d_need_case : Df := ⟨1, 1, false, (.ite (.not (.call 5 (.cons (.v 0) .nil))) (.rse 1) .skip)⟩
abbrev n_need_case : List PySem.Str := ["value"]
def d_need_worths : Df := ⟨2, 2, false, (.ite (.not (.call 6 (.cons (.v 0) (.cons (.v 1) .nil)))) (.rse 2) .skip)⟩
abbrev n_need_worths : List PySem.Str := ["case", "value"]
def d_need_sharing : Df := ⟨2, 2, false, (.ite (.not (.call 7 (.cons (.v 0) (.cons (.v 1) .nil)))) (.rse 3) .skip)⟩
abbrev n_need_sharing : List PySem.Str := ["case", "value"]
def d_need_person : Df := ⟨2, 2, false, (.ite (.not (.call 0 (.cons (.v 1) (.cons (.c (.int (0))) (.cons (.op .sub (.ix (.v 0) (.c (.int (0)))) (.c (.int (1)))) .nil))))) (.rse 4) .skip)⟩
abbrev n_need_person : List PySem.Str := ["case", "value"]
def d_is_case : Df := ⟨1, 1, false, (.ret (.call 5 (.cons (.v 0) .nil)))⟩
abbrev n_is_case : List PySem.Str := ["value"]
def d_is_worths : Df := ⟨2, 2, false, (.seq (.exp (.call 13 (.cons (.v 0) .nil))) (.ret (.call 6 (.cons (.v 0) (.cons (.v 1) .nil)))))⟩
abbrev n_is_worths : List PySem.Str := ["case", "value"]
def d_is_sharing : Df := ⟨2, 2, false, (.seq (.exp (.call 13 (.cons (.v 0) .nil))) (.ret (.call 7 (.cons (.v 0) (.cons (.v 1) .nil)))))⟩
abbrev n_is_sharing : List PySem.Str := ["case", "value"]
def d_is_claim : Df := ⟨2, 2, false, (.seq (.exp (.call 13 (.cons (.v 0) .nil))) (.ret (.call 4 (.cons (.v 1) (.cons (.ix (.v 0) (.c (.int (0)))) (.cons (.ix (.v 0) (.c (.int (1)))) .nil))))))⟩
abbrev n_is_claim : List PySem.Str := ["case", "value"]
def d_lot_of : Df := ⟨3, 3, false, (.seq (.exp (.call 13 (.cons (.v 0) .nil))) (.seq (.exp (.call 15 (.cons (.v 0) (.cons (.v 1) .nil)))) (.seq (.exp (.call 16 (.cons (.v 0) (.cons (.v 2) .nil)))) (.ret (.call 8 (.cons (.v 1) (.cons (.v 2) .nil)))))))⟩
abbrev n_lot_of : List PySem.Str := ["case", "sharing", "person"]
def d_keep : Df := ⟨2, 2, false, (.seq (.exp (.call 13 (.cons (.v 0) .nil))) (.seq (.exp (.call 14 (.cons (.v 0) (.cons (.v 1) .nil)))) (.ret (.call 12 (.cons (.v 0) (.cons (.v 1) .nil))))))⟩
abbrev n_keep : List PySem.Str := ["case", "worths"]
def d__law_source : Df := ⟨2, 3, false, (.seq (.asg (.n 2) (.c (.int (0)))) (.seq (.ite (.op .lt (.v 1) (.bi .len (.cons (.v 0) .nil))) (.asg (.n 2) (.bi .abs (.cons (.bi .int (.cons (.ix (.v 0) (.v 1)) .nil)) .nil))) .skip) (.seq (.ite (.op .lt (.v 2) (.op .pow (.c (.int (10))) (.c (.int (18))))) (.ret (.lst true (.cons (.c (.int (0))) (.cons (.op .add (.c (.int (1))) (.op .mod (.bi .int (.cons (.op .add (.op .mul (.v 2) (.c (.int (7919)))) (.op .mul (.c (.int (104729))) (.v 1))) .nil)) (.c (.int (2147483646))))) .nil)))) .skip) (.ret (.lst true (.cons (.v 2) (.cons (.op .add (.c (.int (1))) (.op .mod (.bi .int (.cons (.op .add (.v 2) (.v 1)) .nil)) (.c (.int (2147483646))))) .nil)))))))⟩
abbrev n__law_source : List PySem.Str := ["script", "k", "cell"]
def d__law_draw : Df := ⟨2, 3, false, (.seq (.ite (.op .gt (.ix (.v 0) (.c (.int (0)))) (.c (.int (0)))) (.seq (.asg (.n 2) (.op .mod (.bi .int (.cons (.ix (.v 0) (.c (.int (0)))) .nil)) (.v 1))) (.seq (.set (.v 0) (.c (.int (0))) (.op .fdiv (.ix (.v 0) (.c (.int (0)))) (.v 1))) (.ret (.v 2)))) .skip) (.seq (.set (.v 0) (.c (.int (1))) (.op .mod (.bi .int (.cons (.op .mul (.ix (.v 0) (.c (.int (1)))) (.c (.int (48271)))) .nil)) (.c (.int (2147483647))))) (.ret (.op .mod (.bi .int (.cons (.op .fdiv (.op .mod (.bi .int (.cons (.op .mul (.ix (.v 0) (.c (.int (1)))) (.ix (.v 0) (.c (.int (1))))) .nil)) (.c (.int (2147483629)))) (.c (.int (64)))) .nil)) (.v 1)))))⟩
abbrev n__law_draw : List PySem.Str := ["source", "many", "found"]
def d__law_of : Df := ⟨2, 2, false, (.ret (.ix (.v 1) (.call 24 (.cons (.v 0) (.cons (.bi .len (.cons (.v 1) .nil)) .nil)))))⟩
abbrev n__law_of : List PySem.Str := ["source", "items"]
def d__law_sum : Df := ⟨2, 4, false, (.ret (.bi .sum (.cons (.lc false (.op .mul (.v 2) (.v 3)) (.t (.cons (.n 2) (.cons (.n 3) .nil))) (.zip (.v 0) (.v 1)) .none) .nil)))⟩
abbrev n__law_sum : List PySem.Str := ["line", "numbers", "factor", "number"]
def d__law_line : Df := ⟨3, 4, false, (.ret (.lc false (.op .sub (.bi .int (.cons (.op .mem (.v 3) (.v 0)) .nil)) (.bi .int (.cons (.op .mem (.v 3) (.v 1)) .nil))) (.n 3) (.rng (.v 2)) .none))⟩
abbrev n__law_line : List PySem.Str := ["one", "other", "things", "thing"]
def d__law_lot : Df := ⟨2, 3, false, (.ret (.bi .tup (.cons (.lc false (.v 2) (.n 2) (.rng (.v 1)) (.some (.op .lt (.call 24 (.cons (.v 0) (.cons (.c (.int (5))) .nil))) (.c (.int (2)))))) .nil)))⟩
abbrev n__law_lot : List PySem.Str := ["source", "things", "thing"]
def d__law_worths : Df := ⟨3, 7, false, (.seq (.asg (.n 3) (.tup .nil)) (.seq (.for (.n 4) (.rng (.v 1)) (.seq (.asg (.n 5) (.tup .nil)) (.seq (.for (.n 6) (.rng (.v 2)) (.asg (.n 5) (.op .add (.v 5) (.tup (.cons (.call 25 (.cons (.v 0) (.cons (.lst false (.cons (.c (.int (0))) (.cons (.c (.int (1))) (.cons (.c (.int (1))) (.cons (.c (.int (2))) (.cons (.c (.int (3))) (.cons (.c (.int (4))) (.cons (.c (.int (6))) (.cons (.call 24 (.cons (.v 0) (.cons (.c (.int (12))) .nil))) .nil))))))))) .nil))) .nil))))) (.asg (.n 3) (.op .add (.v 3) (.tup (.cons (.v 5) .nil))))))) (.ret (.v 3))))⟩
abbrev n__law_worths : List PySem.Str := ["source", "people", "things", "found", "person", "row", "thing"]
def d__law_saying : Df := ⟨2, 8, false, (.seq (.asg (.t (.cons (.n 4) (.cons (.n 5) .nil))) (.tup (.cons (.call 24 (.cons (.v 0) (.cons (.bi .len (.cons (.v 1) .nil)) .nil))) (.cons (.bi .len (.cons (.ix (.v 1) (.c (.int (0)))) .nil)) .nil)))) (.seq (.asg (.t (.cons (.n 6) (.cons (.n 7) .nil))) (.tup (.cons (.call 28 (.cons (.v 0) (.cons (.v 5) .nil))) (.cons (.call 28 (.cons (.v 0) (.cons (.v 5) .nil))) .nil)))) (.seq (.asg (.n 2) (.call 26 (.cons (.call 27 (.cons (.v 6) (.cons (.v 7) (.cons (.v 5) .nil)))) (.cons (.ix (.v 1) (.v 4)) .nil)))) (.seq (.ite (.op .eq (.call 24 (.cons (.v 0) (.cons (.c (.int (10))) .nil))) (.c (.int (0)))) (.ret (.tup (.cons (.v 4) (.cons (.call 25 (.cons (.v 0) (.cons (.lst false (.cons (.c (.str "more")) (.cons (.c (.str "atleast")) (.cons (.c (.str "same")) .nil)))) .nil))) (.cons (.v 6) (.cons (.v 7) .nil)))))) .skip) (.seq (.ite (.op .lt (.v 2) (.c (.int (0)))) (.asg (.t (.cons (.n 6) (.cons (.n 7) .nil))) (.tup (.cons (.v 7) (.cons (.v 6) .nil)))) .skip) (.seq (.asg (.n 3) (.ite (.op .eq (.v 2) (.c (.int (0)))) (.lst false (.cons (.c (.str "same")) (.cons (.c (.str "atleast")) .nil))) (.lst false (.cons (.c (.str "more")) (.cons (.c (.str "more")) (.cons (.c (.str "atleast")) .nil)))))) (.ret (.tup (.cons (.v 4) (.cons (.call 25 (.cons (.v 0) (.cons (.v 3) .nil))) (.cons (.v 6) (.cons (.v 7) .nil))))))))))))⟩
abbrev n__law_saying : List PySem.Str := ["source", "worths", "far", "words", "person", "things", "one", "other"]
def d__law_case : Df := ⟨2, 7, false, (.seq (.asg (.t (.cons (.n 3) (.cons (.n 4) .nil))) (.call 25 (.cons (.v 0) (.cons (.lst false (.cons (.tup (.cons (.c (.int (2))) (.cons (.c (.int (2))) .nil))) (.cons (.tup (.cons (.c (.int (2))) (.cons (.c (.int (3))) .nil))) (.cons (.tup (.cons (.c (.int (2))) (.cons (.c (.int (3))) .nil))) (.cons (.tup (.cons (.c (.int (2))) (.cons (.c (.int (4))) .nil))) (.cons (.tup (.cons (.c (.int (3))) (.cons (.c (.int (3))) .nil))) (.cons (.tup (.cons (.c (.int (3))) (.cons (.c (.int (4))) .nil))) .nil))))))) .nil)))) (.seq (.asg (.t (.cons (.n 5) (.cons (.n 6) .nil))) (.tup (.cons (.call 29 (.cons (.v 0) (.cons (.v 3) (.cons (.v 4) .nil)))) (.cons (.tup .nil) .nil)))) (.seq (.for (.n 2) (.rng (.call 24 (.cons (.v 0) (.cons (.op .add (.v 1) (.c (.int (1)))) .nil)))) (.asg (.n 6) (.op .add (.v 6) (.tup (.cons (.call 30 (.cons (.v 0) (.cons (.v 5) .nil))) .nil))))) (.ret (.tup (.cons (.v 3) (.cons (.v 4) (.cons (.v 6) .nil))))))))⟩
abbrev n__law_case : List PySem.Str := ["source", "most", "turn", "people", "things", "worths", "found"]
def d__law_holds : Df := ⟨2, 3, false, (.seq (.asg (.n 2) (.call 26 (.cons (.call 27 (.cons (.ix (.v 0) (.c (.int (2)))) (.cons (.ix (.v 0) (.c (.int (3)))) (.cons (.bi .len (.cons (.v 1) .nil)) .nil)))) (.cons (.v 1) .nil)))) (.seq (.ite (.op .eq (.ix (.v 0) (.c (.int (1)))) (.c (.str "same"))) (.ret (.op .eq (.v 2) (.c (.int (0))))) .skip) (.ret (.or (.cons (.op .gt (.v 2) (.c (.int (0)))) (.cons (.and (.cons (.op .eq (.v 2) (.c (.int (0)))) (.cons (.op .eq (.ix (.v 0) (.c (.int (1)))) (.c (.str "atleast"))) .nil))) .nil))))))⟩
abbrev n__law_holds : List PySem.Str := ["saying", "row", "far"]
def d__law_keeps : Df := ⟨2, 3, false, (.seq (.for (.n 2) (.seq (.ix (.v 0) (.c (.int (2))))) (.ite (.not (.call 32 (.cons (.v 2) (.cons (.ix (.v 1) (.ix (.v 2) (.c (.int (0))))) .nil)))) (.ret (.c (.bl false))) .skip)) (.ret (.c (.bl true))))⟩
abbrev n__law_keeps : List PySem.Str := ["case", "worths", "saying"]
def d__law_mine : Df := ⟨2, 3, false, (.ret (.bi .tup (.cons (.lc false (.v 2) (.n 2) (.rng (.bi .len (.cons (.v 0) .nil))) (.some (.op .eq (.ix (.v 0) (.v 2)) (.v 1)))) .nil)))⟩
abbrev n__law_mine : List PySem.Str := ["owners", "person", "thing"]
def d__law_owners : Df := ⟨2, 3, false, (.ret (.bi .tup (.cons (.lc false (.call 24 (.cons (.v 0) (.cons (.ix (.v 1) (.c (.int (0)))) .nil))) (.n 2) (.rng (.ix (.v 1) (.c (.int (1))))) .none) .nil)))⟩
abbrev n__law_owners : List PySem.Str := ["source", "case", "thing"]
def d__law_is_int : Df := ⟨3, 3, false, (.ret (.and (.cons (.bi (.isi .int) (.cons (.v 0) .nil)) (.cons (.not (.bi (.isi .bool) (.cons (.v 0) .nil))) (.cons (.chain .le .le (.v 1) (.v 0) (.v 2)) .nil)))))⟩
abbrev n__law_is_int : List PySem.Str := ["value", "least", "top"]
def d__law_are_ints : Df := ⟨5, 6, false, (.seq (.ite (.or (.cons (.not (.bi (.isi .tup) (.cons (.v 0) .nil))) (.cons (.not (.chain .le .le (.v 1) (.bi .len (.cons (.v 0) .nil)) (.v 2))) .nil))) (.ret (.c (.bl false))) .skip) (.ret (.op .eq (.lc false (.v 5) (.n 5) (.seq (.v 0)) (.some (.not (.call 36 (.cons (.v 5) (.cons (.v 3) (.cons (.v 4) .nil))))))) (.lst false .nil))))⟩
abbrev n__law_are_ints : List PySem.Str := ["value", "few", "many", "least", "top", "one"]
def d__law_is_claim : Df := ⟨2, 5, false, (.seq (.ite (.or (.cons (.not (.bi (.isi .tup) (.cons (.v 1) .nil))) (.cons (.op .ne (.bi .len (.cons (.v 1) .nil)) (.c (.int (4)))) (.cons (.not (.call 36 (.cons (.ix (.v 1) (.c (.int (0)))) (.cons (.c (.int (0))) (.cons (.op .sub (.ix (.v 0) (.c (.int (0)))) (.c (.int (1)))) .nil))))) .nil)))) (.ret (.c (.bl false))) .skip) (.seq (.ite (.or (.cons (.not (.bi (.isi .str) (.cons (.ix (.v 1) (.c (.int (1)))) .nil))) (.cons (.op .nmem (.ix (.v 1) (.c (.int (1)))) (.tup (.cons (.c (.str "more")) (.cons (.c (.str "atleast")) (.cons (.c (.str "same")) .nil))))) .nil))) (.ret (.c (.bl false))) .skip) (.seq (.for (.n 2) (.seq (.sl (.v 1) (.some (.c (.int (2)))) .none)) (.seq (.ite (.not (.call 37 (.cons (.v 2) (.cons (.c (.int (0))) (.cons (.c (.int (5))) (.cons (.c (.int (0))) (.cons (.op .sub (.ix (.v 0) (.c (.int (1)))) (.c (.int (1)))) .nil))))))) (.ret (.c (.bl false))) .skip) (.ite (.op .ne (.lc false (.c (.int (1))) (.t (.cons (.n 3) (.cons (.n 4) .nil))) (.zip (.v 2) (.sl (.v 2) (.some (.c (.int (1)))) .none)) (.some (.op .ge (.v 3) (.v 4)))) (.lst false .nil)) (.ret (.c (.bl false))) .skip))) (.ret (.c (.bl true))))))⟩
abbrev n__law_is_claim : List PySem.Str := ["case", "value", "lot", "one", "other"]
def d__law_is_case : Df := ⟨1, 2, false, (.seq (.ite (.or (.cons (.not (.bi (.isi .tup) (.cons (.v 0) .nil))) (.cons (.op .ne (.bi .len (.cons (.v 0) .nil)) (.c (.int (3)))) (.cons (.not (.call 36 (.cons (.ix (.v 0) (.c (.int (0)))) (.cons (.c (.int (2))) (.cons (.c (.int (3))) .nil))))) .nil)))) (.ret (.c (.bl false))) .skip) (.seq (.ite (.or (.cons (.not (.call 36 (.cons (.ix (.v 0) (.c (.int (1)))) (.cons (.c (.int (2))) (.cons (.c (.int (5))) .nil))))) (.cons (.not (.bi (.isi .tup) (.cons (.ix (.v 0) (.c (.int (2)))) .nil))) (.cons (.op .gt (.bi .len (.cons (.ix (.v 0) (.c (.int (2)))) .nil)) (.c (.int (8)))) .nil)))) (.ret (.c (.bl false))) .skip) (.ret (.op .eq (.lc false (.v 1) (.n 1) (.seq (.ix (.v 0) (.c (.int (2))))) (.some (.not (.call 38 (.cons (.v 0) (.cons (.v 1) .nil)))))) (.lst false .nil)))))⟩
abbrev n__law_is_case : List PySem.Str := ["value", "saying"]
def d__law_told_right : Df := ⟨2, 4, false, (.seq (.ite (.or (.cons (.op .ne (.call 17 (.cons (.v 1) .nil)) (.call 39 (.cons (.v 1) .nil))) (.cons (.op .ne (.call 20 (.cons (.v 0) (.cons (.v 1) .nil))) (.call 38 (.cons (.v 0) (.cons (.v 1) .nil)))) .nil))) (.ret (.c (.bl false))) .skip) (.seq (.ite (.op .ne (.call 19 (.cons (.v 0) (.cons (.v 1) .nil))) (.call 37 (.cons (.v 1) (.cons (.ix (.v 0) (.c (.int (1)))) (.cons (.ix (.v 0) (.c (.int (1)))) (.cons (.c (.int (0))) (.cons (.op .sub (.ix (.v 0) (.c (.int (0)))) (.c (.int (1)))) .nil))))))) (.ret (.c (.bl false))) .skip) (.seq (.asg (.n 2) (.and (.cons (.bi (.isi .tup) (.cons (.v 1) .nil)) (.cons (.op .eq (.bi .len (.cons (.v 1) .nil)) (.ix (.v 0) (.c (.int (0))))) .nil)))) (.seq (.ite (.v 2) (.for (.n 3) (.seq (.v 1)) (.asg (.n 2) (.and (.cons (.v 2) (.cons (.call 37 (.cons (.v 3) (.cons (.ix (.v 0) (.c (.int (1)))) (.cons (.ix (.v 0) (.c (.int (1)))) (.cons (.c (.int (0))) (.cons (.op .pow (.c (.int (10))) (.c (.int (12)))) .nil)))))) .nil))))) .skip) (.ret (.op .eq (.call 18 (.cons (.v 0) (.cons (.v 1) .nil))) (.v 2)))))))⟩
abbrev n__law_told_right : List PySem.Str := ["case", "value", "good", "row"]
def d__law_odd : Df := ⟨1, 2, false, (.seq (.asg (.n 1) (.lst false (.cons (.c .non) (.cons (.c (.bl true)) (.cons (.c (.bl false)) (.cons (.c (.int (0))) (.cons (.c (.int (1))) (.cons (.c (.int (2))) (.cons (.c (.int (3))) (.cons (.c (.int (5))) (.cons (.c (.int (7))) (.cons (.neg (.c (.int (1)))) (.cons (.c (.str "")) (.cons (.c (.str "more")) (.cons (.c (.str "same")) (.cons (.tup .nil) (.cons (.lst false .nil) (.cons (.tup (.cons (.c (.int (0))) .nil)) (.cons (.tup (.cons (.c (.int (1))) (.cons (.c (.int (0))) .nil))) (.cons (.tup (.cons (.c (.int (0))) (.cons (.c (.int (1))) .nil))) (.cons (.op .pow (.c (.int (10))) (.c (.int (12)))) .nil))))))))))))))))))))) (.ret (.call 25 (.cons (.v 0) (.cons (.op .add (.v 1) (.lst false (.cons (.op .pow (.c (.int (10))) (.c (.int (13)))) (.cons (.tup (.cons (.c (.int (0))) (.cons (.c (.str "same")) (.cons (.tup .nil) (.cons (.tup .nil) .nil))))) (.cons (.tup (.cons (.c (.int (0))) (.cons (.c (.int (0))) (.cons (.c (.int (0))) .nil)))) (.cons (.tup (.cons (.tup (.cons (.c (.int (1))) (.cons (.c (.int (2))) .nil))) (.cons (.tup (.cons (.c (.int (3))) (.cons (.c (.int (4))) .nil))) .nil))) (.cons (.c (.str "atleast")) .nil))))))) .nil)))))⟩
abbrev n__law_odd : List PySem.Str := ["source", "items"]
def d__law_spoilt : Df := ⟨2, 4, false, (.seq (.ite (.or (.cons (.not (.bi (.isi .tup) (.cons (.v 1) .nil))) (.cons (.op .eq (.v 1) (.tup .nil)) (.cons (.op .eq (.call 24 (.cons (.v 0) (.cons (.c (.int (6))) .nil))) (.c (.int (0)))) .nil)))) (.ret (.call 41 (.cons (.v 0) .nil))) .skip) (.seq (.asg (.t (.cons (.n 2) (.cons (.n 3) .nil))) (.tup (.cons (.call 24 (.cons (.v 0) (.cons (.bi .len (.cons (.v 1) .nil)) .nil))) (.cons (.call 24 (.cons (.v 0) (.cons (.c (.int (9))) .nil))) .nil)))) (.seq (.ite (.op .eq (.v 3) (.c (.int (0)))) (.ret (.op .add (.sl (.v 1) .none (.some (.v 2))) (.sl (.v 1) (.some (.op .add (.v 2) (.c (.int (1))))) .none))) .skip) (.seq (.ite (.op .eq (.v 3) (.c (.int (1)))) (.ret (.op .add (.sl (.v 1) .none (.some (.op .add (.v 2) (.c (.int (1)))))) (.sl (.v 1) (.some (.v 2)) .none))) .skip) (.seq (.ite (.op .eq (.v 3) (.c (.int (2)))) (.ret (.op .add (.op .add (.sl (.v 1) .none (.some (.v 2))) (.tup (.cons (.call 41 (.cons (.v 0) .nil)) .nil))) (.sl (.v 1) (.some (.v 2)) .none))) .skip) (.seq (.ite (.op .eq (.v 3) (.c (.int (3)))) (.ret (.bi (.lst false) (.cons (.v 1) .nil))) .skip) (.seq (.ite (.and (.cons (.bi (.isi .int) (.cons (.ix (.v 1) (.v 2)) .nil)) (.cons (.op .lt (.v 3) (.c (.int (6)))) .nil))) (.ret (.op .add (.op .add (.sl (.v 1) .none (.some (.v 2))) (.tup (.cons (.op .sub (.op .add (.ix (.v 1) (.v 2)) (.call 24 (.cons (.v 0) (.cons (.c (.int (3))) .nil)))) (.c (.int (1)))) .nil))) (.sl (.v 1) (.some (.op .add (.v 2) (.c (.int (1))))) .none))) .skip) (.ret (.op .add (.op .add (.sl (.v 1) .none (.some (.v 2))) (.tup (.cons (.call 42 (.cons (.v 0) (.cons (.ix (.v 1) (.v 2)) .nil))) .nil))) (.sl (.v 1) (.some (.op .add (.v 2) (.c (.int (1))))) .none))))))))))⟩
abbrev n__law_spoilt : List PySem.Str := ["source", "value", "at", "mode"]
def d_law : Df := ⟨1, 9, false, (.seq (.for (.n 1) (.rng (.op .add (.c (.int (1))) (.bi .min2 (.cons (.bi .len (.cons (.v 0) .nil)) (.cons (.c (.int (10))) .nil))))) (.seq (.asg (.n 3) (.call 23 (.cons (.v 0) (.cons (.v 1) .nil)))) (.seq (.asg (.n 2) (.call 31 (.cons (.v 3) (.cons (.c (.int (8))) .nil)))) (.seq (.asg (.t (.cons (.n 6) (.cons (.n 7) .nil))) (.tup (.cons (.call 29 (.cons (.v 3) (.cons (.ix (.v 2) (.c (.int (0)))) (.cons (.ix (.v 2) (.c (.int (1)))) .nil)))) (.cons (.call 35 (.cons (.v 3) (.cons (.v 2) .nil))) .nil)))) (.seq (.ite (.op .ne (.call 22 (.cons (.v 2) (.cons (.v 6) .nil))) (.call 33 (.cons (.v 2) (.cons (.v 6) .nil)))) (.ret (.c (.bl false))) .skip) (.seq (.for (.n 4) (.rng (.ix (.v 2) (.c (.int (0))))) (.ite (.op .ne (.call 21 (.cons (.v 2) (.cons (.v 7) (.cons (.v 4) .nil)))) (.call 34 (.cons (.v 7) (.cons (.v 4) .nil)))) (.ret (.c (.bl false))) .skip)) (.for (.n 5) (.seq (.lst false (.cons (.v 2) (.cons (.v 6) (.cons (.v 7) (.cons (.call 30 (.cons (.v 3) (.cons (.v 6) .nil))) .nil)))))) (.for (.n 8) (.rng (.c (.int (5)))) (.seq (.ite (.not (.call 40 (.cons (.v 2) (.cons (.v 5) .nil)))) (.ret (.c (.bl false))) .skip) (.asg (.n 5) (.call 42 (.cons (.v 3) (.cons (.v 5) .nil))))))))))))) (.seq (.asg (.n 2) (.tup (.cons (.c (.int (2))) (.cons (.c (.int (2))) (.cons (.tup (.cons (.tup (.cons (.c (.int (0))) (.cons (.c (.str "more")) (.cons (.tup (.cons (.c (.int (0))) .nil)) (.cons (.tup (.cons (.c (.int (1))) .nil)) .nil))))) (.cons (.tup (.cons (.c (.int (1))) (.cons (.c (.str "same")) (.cons (.tup (.cons (.c (.int (0))) .nil)) (.cons (.tup (.cons (.c (.int (1))) .nil)) .nil))))) .nil))) .nil))))) (.ret (.and (.cons (.call 22 (.cons (.v 2) (.cons (.tup (.cons (.tup (.cons (.c (.int (2))) (.cons (.c (.int (1))) .nil))) (.cons (.tup (.cons (.c (.int (3))) (.cons (.c (.int (3))) .nil))) .nil))) .nil))) (.cons (.not (.call 22 (.cons (.v 2) (.cons (.tup (.cons (.tup (.cons (.c (.int (2))) (.cons (.c (.int (2))) .nil))) (.cons (.tup (.cons (.c (.int (3))) (.cons (.c (.int (3))) .nil))) .nil))) .nil)))) (.cons (.not (.call 22 (.cons (.v 2) (.cons (.tup (.cons (.tup (.cons (.c (.int (2))) (.cons (.c (.int (1))) .nil))) (.cons (.tup (.cons (.c (.int (3))) (.cons (.c (.int (2))) .nil))) .nil))) .nil)))) .nil)))))))⟩
abbrev n_law : List PySem.Str := ["script", "k", "case", "source", "person", "value", "worths", "owners", "turn"]
def defs : List Dd := [⟨"is_number", d_is_number, ["value", "least", "most"], n_is_number, 9⟩, ⟨"is_tuple", d_is_tuple, ["value", "least", "most"], n_is_tuple, 10⟩, ⟨"are_ascending", d_are_ascending, ["value"], n_are_ascending, 11⟩, ⟨"is_lot", d_is_lot, ["value", "things"], n_is_lot, 12⟩, ⟨"is_saying", d_is_saying, ["value", "people", "things"], n_is_saying, 13⟩, ⟨"is_good_case", d_is_good_case, ["value"], n_is_good_case, 14⟩, ⟨"are_good_worths", d_are_good_worths, ["case", "value"], n_are_good_worths, 15⟩, ⟨"is_good_sharing", d_is_good_sharing, ["case", "value"], n_is_good_sharing, 16⟩, ⟨"lot_in", d_lot_in, ["owners", "person"], n_lot_in, 17⟩, ⟨"line_of", d_line_of, ["one", "other", "things"], n_line_of, 18⟩, ⟨"summed", d_summed, ["line", "numbers"], n_summed, 19⟩, ⟨"is_so", d_is_so, ["saying", "row"], n_is_so, 20⟩, ⟨"keeps_all", d_keeps_all, ["case", "worths"], n_keeps_all, 21⟩, ⟨"need_case", d_need_case, ["value"], n_need_case, 22⟩, ⟨"need_worths", d_need_worths, ["case", "value"], n_need_worths, 23⟩, ⟨"need_sharing", d_need_sharing, ["case", "value"], n_need_sharing, 24⟩, ⟨"need_person", d_need_person, ["case", "value"], n_need_person, 25⟩, ⟨"is_case", d_is_case, ["value"], n_is_case, 26⟩, ⟨"is_worths", d_is_worths, ["case", "value"], n_is_worths, 27⟩, ⟨"is_sharing", d_is_sharing, ["case", "value"], n_is_sharing, 28⟩, ⟨"is_claim", d_is_claim, ["case", "value"], n_is_claim, 29⟩, ⟨"lot_of", d_lot_of, ["case", "sharing", "person"], n_lot_of, 30⟩, ⟨"keep", d_keep, ["case", "worths"], n_keep, 31⟩, ⟨"_law_source", d__law_source, ["script", "k"], n__law_source, 33⟩, ⟨"_law_draw", d__law_draw, ["source", "many"], n__law_draw, 34⟩, ⟨"_law_of", d__law_of, ["source", "items"], n__law_of, 35⟩, ⟨"_law_sum", d__law_sum, ["line", "numbers"], n__law_sum, 36⟩, ⟨"_law_line", d__law_line, ["one", "other", "things"], n__law_line, 37⟩, ⟨"_law_lot", d__law_lot, ["source", "things"], n__law_lot, 38⟩, ⟨"_law_worths", d__law_worths, ["source", "people", "things"], n__law_worths, 39⟩, ⟨"_law_saying", d__law_saying, ["source", "worths"], n__law_saying, 40⟩, ⟨"_law_case", d__law_case, ["source", "most"], n__law_case, 41⟩, ⟨"_law_holds", d__law_holds, ["saying", "row"], n__law_holds, 42⟩, ⟨"_law_keeps", d__law_keeps, ["case", "worths"], n__law_keeps, 43⟩, ⟨"_law_mine", d__law_mine, ["owners", "person"], n__law_mine, 44⟩, ⟨"_law_owners", d__law_owners, ["source", "case"], n__law_owners, 45⟩, ⟨"_law_is_int", d__law_is_int, ["value", "least", "top"], n__law_is_int, 46⟩, ⟨"_law_are_ints", d__law_are_ints, ["value", "few", "many", "least", "top"], n__law_are_ints, 47⟩, ⟨"_law_is_claim", d__law_is_claim, ["case", "value"], n__law_is_claim, 48⟩, ⟨"_law_is_case", d__law_is_case, ["value"], n__law_is_case, 49⟩, ⟨"_law_told_right", d__law_told_right, ["case", "value"], n__law_told_right, 50⟩, ⟨"_law_odd", d__law_odd, ["source"], n__law_odd, 51⟩, ⟨"_law_spoilt", d__law_spoilt, ["source", "value"], n__law_spoilt, 52⟩, ⟨"law", d_law, ["script"], n_law, 53⟩]
def gcs : List (PySem.Str × Gc) := [("WORDS", kWORDS), ("LARGEST", kLARGEST)]
def ecs : List PySem.Str := ["CutError", "InvalidCase", "InvalidWorths", "InvalidSharing", "InvalidPerson"]
def lo0 : List PySem.Str := ["CutError", "InvalidCase", "InvalidWorths", "InvalidSharing", "InvalidPerson", "WORDS", "LARGEST", "is_number", "is_tuple", "are_ascending", "is_lot", "is_saying", "is_good_case", "are_good_worths", "is_good_sharing", "lot_in", "line_of", "summed", "is_so", "keeps_all", "need_case", "need_worths", "need_sharing", "need_person", "is_case", "is_worths", "is_sharing", "is_claim", "lot_of", "keep"]
def lo1 : List PySem.Str := ["_law_source", "_law_draw", "_law_of", "_law_sum", "_law_line", "_law_lot", "_law_worths", "_law_saying", "_law_case", "_law_holds", "_law_keeps", "_law_mine", "_law_owners", "_law_is_int", "_law_are_ints", "_law_is_claim", "_law_is_case", "_law_told_right", "_law_odd", "_law_spoilt"]
def loose : List PySem.Str := lo0 ++ lo1
abbrev lawAt : Nat := 53
abbrev lawNo : Nat := 43
end K01
end Hc
end
section
set_option Elab.async false
set_option linter.all false
set_option maxRecDepth 100000
set_option autoImplicit false
namespace Hc
open PySem
namespace K01
def T : Nat → Option Df := fun f => (defs[f]?).map (·.df)
section
variable {N : Nat}
/-- the law's source lies there -/
def Src (S : Store) (k : Nat) : Prop := ∃ a b : Int, S[k]? = some (.ml [.int a, .int b]) ∧ 0 ≤ a ∧ 0 ≤ b ∧ b < 2147483647
theorem Src.lt {S : Store} {k : Nat} (h : Src S k) : k < S.length := by
  obtain ⟨a, b, h, _⟩ := h
  exact (List.getElem?_eq_some_iff.mp h).1
theorem fdiv_nn {a b : Int} (ha : 0 ≤ a) (hb : 1 ≤ b) : 0 ≤ a.fdiv b := Int.fdiv_nonneg ha (by omega)
theorem small_mul {b : Int} (h0 : 0 ≤ b) (h : b < 2147483647) (j : Int) : mulOk b j = true := by
  unfold mulOk small64
  simp
  left; left
  omega
theorem place0 (n : Nat) : placeOf (n + 1) 0 = some 0 := by simp -implicitDefEqProofs [placeOf]
theorem place1 (n : Nat) : placeOf (n + 2) 1 = some 1 := by simp -implicitDefEqProofs [placeOf]; omega
theorem r_draw {S : Store} {k : Nat} (hs : Src S k) {many : Int} (h1 : 1 ≤ many) (h2 : many < 1073741824) (n : Nat) {P : D → Store → Prop} (hp : ∀ r S', 0 ≤ r → r < many → Src S' k → P (.int r) S') : wp (run T N (n + 1) 24 [.ref k, .int many]) S P := by
  obtain ⟨a, b, e, ha, hb, hb2⟩ := hs
  rw [run_at (f := 24) (df := d__law_draw) rfl rfl rfl]
  unfold d__law_draw
  have hk : k < S.length := (List.getElem?_eq_some_iff.mp e).1
  have hm : many ≠ 0 := by omega
  have hd : divOk many = true := by
    unfold divOk
    simp
    left
    omega
  simp -implicitDefEqProofs [ixD_ref _ _ _ e, place0, place1, setIx_ref _ _ _ _ e]
  split
  · simp -implicitDefEqProofs [hm, ixD_ref _ _ _ e, place0, hd, setIx_ref _ _ _ _ e]
    refine hp _ _ (Int.fmod_nonneg_of_pos _ (by omega)) (Int.fmod_lt_of_pos _ (by omega)) ⟨a.fdiv many, b, by simp -implicitDefEqProofs [hk], fdiv_nn ha h1, hb, hb2⟩
  · simp -implicitDefEqProofs [hm, ixD_ref _ _ _ e, place0, place1, hd, setIx_ref _ _ _ _ e, small_mul hb hb2]
    have hb3 : 0 ≤ (b * 48271).fmod 2147483647 := Int.fmod_nonneg_of_pos _ (by omega)
    have hb4 : (b * 48271).fmod 2147483647 < 2147483647 := Int.fmod_lt_of_pos _ (by omega)
    have e2 : (List.set S k (Ob.ml [D.int a, D.int ((b * 48271).fmod 2147483647)]))[k]? = some (.ml [.int a, .int ((b * 48271).fmod 2147483647)]) := by simp -implicitDefEqProofs [hk]
    simp -implicitDefEqProofs [ixD_ref _ _ _ e2, place1, small_mul hb3 hb4, show divOk 64 = true by decide, hm]
    exact hp _ _ (Int.fmod_nonneg_of_pos _ (by omega)) (Int.fmod_lt_of_pos _ (by omega)) ⟨a, _, e2, ha, hb3, hb4⟩
end
end K01
end Hc
end
section
set_option Elab.async false
set_option linter.all false
set_option maxRecDepth 100000
set_option autoImplicit false
namespace Hc
open PySem
namespace K01
/-! values that stay: of a bounded depth, of bounded lengths -/
def bd (L : Nat) : Nat → D → Bool
  | 0, d => (match d with
    | .non => true
    | .bl _ => true
    | .int _ => true
    | .str x => x.cps.all (· < 1114112)
    | _ => false)
  | m + 1, d => (match d with
    | .non => true
    | .bl _ => true
    | .int _ => true
    | .str x => x.cps.all (· < 1114112)
    | .tup xs => decide (xs.length ≤ L) && xs.all (bd L m)
    | .lst xs => decide (xs.length ≤ L) && xs.all (bd L m)
    | _ => false)
theorem bd_str {L m : Nat} {x : Str} (h : bd L m (.str x) = true) : x.cps.all (· < 1114112) = true := by
  cases m <;> exact h
theorem bd_tup {L m : Nat} {xs : List D} (h : bd L m (.tup xs) = true) : ∃ k, m = k + 1 ∧ xs.length ≤ L ∧ ∀ d ∈ xs, bd L k d = true := by
  cases m with
  | zero => cases h
  | succ k =>
    have h' : (decide (xs.length ≤ L) && xs.all (bd L k)) = true := h
    simp only [Bool.and_eq_true, decide_eq_true_eq, List.all_eq_true] at h'
    exact ⟨k, rfl, h'.1, h'.2⟩
theorem bd_lst {L m : Nat} {xs : List D} (h : bd L m (.lst xs) = true) : ∃ k, m = k + 1 ∧ xs.length ≤ L ∧ ∀ d ∈ xs, bd L k d = true := by
  cases m with
  | zero => cases h
  | succ k =>
    have h' : (decide (xs.length ≤ L) && xs.all (bd L k)) = true := h
    simp only [Bool.and_eq_true, decide_eq_true_eq, List.all_eq_true] at h'
    exact ⟨k, rfl, h'.1, h'.2⟩
theorem bd_mk {L k : Nat} {xs : List D} (h1 : xs.length ≤ L) (h2 : ∀ d ∈ xs, bd L k d = true) : bd L (k + 1) (.tup xs) = true := by
  show (decide (xs.length ≤ L) && xs.all (bd L k)) = true
  simp only [Bool.and_eq_true, decide_eq_true_eq, List.all_eq_true]
  exact ⟨h1, h2⟩
theorem bd_mkL {L k : Nat} {xs : List D} (h1 : xs.length ≤ L) (h2 : ∀ d ∈ xs, bd L k d = true) : bd L (k + 1) (.lst xs) = true := by
  show (decide (xs.length ≤ L) && xs.all (bd L k)) = true
  simp only [Bool.and_eq_true, decide_eq_true_eq, List.all_eq_true]
  exact ⟨h1, h2⟩
theorem bd_mono {L L' : Nat} (hL : L ≤ L') : ∀ {m m' : Nat} {d : D}, m ≤ m' → bd L m d = true → bd L' m' d = true
  | m, m', .non, _, _ => by cases m' <;> rfl
  | m, m', .bl _, _, _ => by cases m' <;> rfl
  | m, m', .int _, _, _ => by cases m' <;> rfl
  | m, m', .str x, _, h => by
    have := bd_str h
    cases m' <;> exact this
  | m, 0, .tup xs, hm, h => by
    obtain ⟨k, e, _⟩ := bd_tup h
    omega
  | m, m' + 1, .tup xs, hm, h => by
    obtain ⟨k, e, h1, h2⟩ := bd_tup h
    exact bd_mk (by omega) fun d hd => bd_mono hL (by omega) (h2 d hd)
  | m, 0, .lst xs, hm, h => by
    obtain ⟨k, e, _⟩ := bd_lst h
    omega
  | m, m' + 1, .lst xs, hm, h => by
    obtain ⟨k, e, h1, h2⟩ := bd_lst h
    exact bd_mkL (by omega) fun d hd => bd_mono hL (by omega) (h2 d hd)
  | m, m', .scr _, _, h => by cases m <;> cases h
  | m, m', .ref _, _, h => by cases m <;> cases h
  | m, m', .gf _, _, h => by cases m <;> cases h
  | m, m', .exn _ _, _, h => by cases m <;> cases h
mutual
theorem toP_bd {S : Store} {L : Nat} : ∀ {m : Nat} {d : D}, bd L m d = true → ∃ p, toP S d = some p ∧ pDeep p ≤ m
  | m, .non, _ => ⟨_, rfl, Nat.zero_le _⟩
  | m, .bl b, _ => ⟨_, rfl, Nat.zero_le _⟩
  | m, .int i, _ => ⟨_, rfl, Nat.zero_le _⟩
  | m, .str x, h => ⟨_, rfl, by
      have := bd_str h
      show (if x.cps.all (· < 1114112) then 0 else 1000) ≤ m
      rw [if_pos this]
      exact Nat.zero_le _⟩
  | m, .tup xs, h => by
    obtain ⟨k, e, _, h2⟩ := bd_tup h
    obtain ⟨ps, e1, e2⟩ := toPs_bd (S := S) h2
    refine ⟨.tuple ps, by rw [toP, e1]; rfl, ?_⟩
    rw [pDeep]
    omega
  | m, .lst xs, h => by
    obtain ⟨k, e, _, h2⟩ := bd_lst h
    obtain ⟨ps, e1, e2⟩ := toPs_bd (S := S) h2
    refine ⟨.list ps, by rw [toP, e1]; rfl, ?_⟩
    rw [pDeep]
    omega
  | m, .scr _, h => by cases m <;> cases h
  | m, .ref _, h => by cases m <;> cases h
  | m, .gf _, h => by cases m <;> cases h
  | m, .exn _ _, h => by cases m <;> cases h
theorem toPs_bd {S : Store} {L : Nat} : ∀ {k : Nat} {xs : List D}, (∀ d ∈ xs, bd L k d = true) → ∃ ps, toPs S xs = some ps ∧ pDeeps ps ≤ k
  | k, [], _ => ⟨[], rfl, Nat.zero_le _⟩
  | k, x :: xs, h => by
    obtain ⟨p, e1, e2⟩ := toP_bd (S := S) (h x (List.mem_cons_self ..))
    obtain ⟨ps, e3, e4⟩ := toPs_bd (S := S) (k := k) (xs := xs) fun d hd => h d (List.mem_cons_of_mem _ hd)
    refine ⟨p :: ps, by rw [toPs, e1, e3], ?_⟩
    rw [pDeeps]
    omega
end
theorem toPr_bd {S : Store} {L m : Nat} {d : D} (h : bd L m d = true) : ∃ p, toPr S d = some p ∧ toP S d = some p ∧ pDeep p ≤ m := by
  obtain ⟨p, e1, e2⟩ := toP_bd (S := S) h
  refine ⟨p, ?_, e1, e2⟩
  cases d <;> first
    | exact e1
    | (cases m <;> cases h; done)
mutual
theorem pEq_self : ∀ p : PyData, pDeep p < 1000 → pEq p p = true
  | .none, _ => rfl
  | .bool b, _ => by simp [pEq]
  | .int i, _ => by simp [pEq]
  | .str x, _ => by simp [pEq]
  | .list xs, h => by
    rw [pDeep] at h
    rw [pEq]
    exact pEqs_self xs (by omega)
  | .tuple xs, h => by
    rw [pDeep] at h
    rw [pEq]
    exact pEqs_self xs (by omega)
  | .dict _, h => by
    rw [pDeep] at h
    omega
theorem pEqs_self : ∀ ps : List PyData, pDeeps ps < 1000 → pEqs ps ps = true
  | [], _ => rfl
  | p :: ps, h => by
    rw [pDeeps] at h
    rw [pEqs, pEq_self p (by omega), pEqs_self ps (by omega)]
    rfl
end
theorem eqD_self {S : Store} {L m : Nat} {d : D} (h : bd L m d = true) (hm : m < 60) : eqD S d d = some true := by
  obtain ⟨p, e1, _, e2⟩ := toPr_bd (S := S) h
  unfold eqD
  rw [e1]
  have h1 : pDeep p < 60 := by omega
  simp [h1, pEq_self p (by omega)]
theorem eqD_nilL {S : Store} {L m : Nat} {xs : List D} (h : ∀ d ∈ xs, bd L m d = true) (hm : m < 59) : eqD S (.lst xs) (.lst []) = some xs.isEmpty := by
  obtain ⟨ps, e1, e2⟩ := toPs_bd (S := S) h
  unfold eqD
  rw [show toPr S (.lst xs) = some (.list ps) by show toP S _ = _; rw [toP, e1]; rfl, show toPr S (.lst []) = some (.list []) from rfl]
  have h1 : pDeep (.list ps) < 60 := by rw [pDeep]; omega
  have h2 : pDeep (.list []) < 60 := by rw [pDeep, pDeeps]; omega
  simp only [h1, h2, and_self, if_true]
  congr 1
  rw [pEq]
  cases xs with
  | nil => cases e1; rfl
  | cons x xs =>
    cases ps with
    | nil =>
      rw [toPs] at e1
      cases e3 : toP S x <;> cases e4 : toPs S xs <;> rw [e3, e4] at e1 <;> cases e1
    | cons p ps => rfl
theorem eqD_nilT {S : Store} {L m : Nat} {xs : List D} (h : ∀ d ∈ xs, bd L m d = true) (hm : m < 59) : eqD S (.tup xs) (.tup []) = some xs.isEmpty := by
  obtain ⟨ps, e1, e2⟩ := toPs_bd (S := S) h
  unfold eqD
  rw [show toPr S (.tup xs) = some (.tuple ps) by show toP S _ = _; rw [toP, e1]; rfl, show toPr S (.tup []) = some (.tuple []) from rfl]
  have h1 : pDeep (.tuple ps) < 60 := by rw [pDeep]; omega
  have h2 : pDeep (.tuple []) < 60 := by rw [pDeep, pDeeps]; omega
  simp only [h1, h2, and_self, if_true]
  congr 1
  rw [pEq]
  cases xs with
  | nil => cases e1; rfl
  | cons x xs =>
    cases ps with
    | nil =>
      rw [toPs] at e1
      cases e3 : toP S x <;> cases e4 : toPs S xs <;> rw [e3, e4] at e1 <;> cases e1
    | cons p ps => rfl
end K01
end Hc
end
section
set_option Elab.async false
set_option linter.all false
set_option maxRecDepth 100000
set_option autoImplicit false
namespace Hc
open PySem
namespace K01
/-! what the program's defs tell -/
def isNum (v : D) (a b : Int) : Bool := match v with
  | .int i => decide (a ≤ i) && decide (i ≤ b)
  | _ => false
def isTupN (v : D) (a b : Int) : Bool := match v with
  | .tup xs => decide (a ≤ (xs.length : Int)) && decide ((xs.length : Int) ≤ b)
  | _ => false
def numD : D → Int
  | .int i => i
  | _ => 0
theorem ints_of {xs : List D} {a b : Int} (h : xs.all (fun d => isNum d a b) = true) : xs = (xs.map numD).map .int := by
  rw [List.map_map]
  refine (List.map_id xs).symm.trans (List.map_congr_left fun d hd => ?_)
  have := List.all_eq_true.mp h d hd
  cases d <;> simp -implicitDefEqProofs [isNum] at this
  rfl
def asc (ns : List Int) : Bool := (ns.zip ns.tail).all fun p => decide (p.1 < p.2)
def isLot (v : D) (things : Int) : Bool := match v with
  | .tup xs => (decide (xs.length ≤ 5) && xs.all fun d => isNum d 0 (things - 1)) && asc (xs.map numD)
  | _ => false
def isWord (v : D) : Bool := match v with
  | .str x => (("more" : Str) == x) || ((("atleast" : Str) == x) || (("same" : Str) == x))
  | _ => false
def isSaying (v : D) (people things : Int) : Bool := match v with
  | .tup [a, w, x, y] => isNum a 0 (people - 1) && isWord w && (isLot x things && isLot y things)
  | _ => false
def isCase (v : D) : Bool := match v with
  | .tup [p, t, s] => isNum p 2 3 && isNum t 2 5 && (isTupN s 0 8 && (match s with
    | .tup xs => xs.all fun s => isSaying s (numD p) (numD t)
    | _ => false))
  | _ => false
def tupItems : D → List D
  | .tup xs => xs
  | _ => []
def goodWorths (p t : Int) (v : D) : Bool := match v with
  | .tup rows => decide ((rows.length : Int) = p) && rows.all (fun r => isTupN r t t) && (rows.flatMap tupItems).all fun d => isNum d 0 1000000000000
  | _ => false
def goodSharing (p t : Int) (v : D) : Bool := match v with
  | .tup xs => decide ((xs.length : Int) = t) && xs.all fun d => isNum d 0 (p - 1)
  | _ => false
theorem T_is_tup {v : D} {a b : Int} (h : isTupN v a b = true) : ∃ xs, v = .tup xs ∧ a ≤ (xs.length : Int) ∧ (xs.length : Int) ≤ b := by
  cases v <;> simp -implicitDefEqProofs [isTupN] at h
  exact ⟨_, rfl, h⟩
theorem num_int {v : D} {a b : Int} (h : isNum v a b = true) : ∃ i, v = .int i := by
  cases v <;> simp -implicitDefEqProofs [isNum] at h
  exact ⟨_, rfl⟩
section
variable {N L m : Nat}
theorem r_is_number {v : D} (hv : bd L m v = true) (a b : Int) (n : Nat) : run T N (n + 1) 0 [v, .int a, .int b] = pure (.bl (isNum v a b)) := by
  rw [run_at (f := 0) (df := d_is_number) rfl rfl rfl]
  unfold d_is_number
  cases v <;> simp -implicitDefEqProofs [isNum]
  case int i => by_cases h : a ≤ i <;> simp -implicitDefEqProofs [h]
  all_goals (cases m <;> cases hv)
theorem r_is_tuple {v : D} (hv : bd L m v = true) (a b : Int) (n : Nat) : run T N (n + 1) 1 [v, .int a, .int b] = pure (.bl (isTupN v a b)) := by
  rw [run_at (f := 1) (df := d_is_tuple) rfl rfl rfl]
  unfold d_is_tuple
  cases v <;> simp -implicitDefEqProofs [isTupN]
  case tup xs => by_cases h : a ≤ (xs.length : Int) <;> simp -implicitDefEqProofs [h]
  all_goals (cases m <;> cases hv)
theorem drop_map {α β : Type} (f : α → β) (xs : List α) : cutOf (xs.map f) (some 1) none = xs.tail.map f := by
  rw [show (1 : Int) = ((1 : Nat) : Int) from rfl, cut_from, List.drop_one, List.map_tail]
theorem r_asc (ns : List Int) (n : Nat) : run T N (n + 1) 2 [.tup (ns.map .int)] = pure (.bl (asc ns)) := by
  rw [run_at (f := 2) (df := d_are_ascending) rfl rfl rfl]
  unfold d_are_ascending
  simp -implicitDefEqProofs [drop_map]
  rw [show (List.map D.int ns).tail = ns.tail.map D.int from List.map_tail.symm, zipD_map, lcM_mapL (fun p : Int × Int => .bl (decide (p.1 < p.2)))]
  · simp -implicitDefEqProofs [boolsOf_map, asc, Function.comp_def]
  · intro p _
    simp
theorem r_is_lot {v : D} (hv : bd L m v = true) (t : Int) (n : Nat) : run T N (n + 2) 3 [v, .int t] = pure (.bl (isLot v t)) := by
  rw [run_at (f := 3) (df := d_is_lot) rfl rfl rfl]
  unfold d_is_lot
  simp -implicitDefEqProofs [r_is_tuple hv]
  cases v with
  | tup xs =>
    obtain ⟨k, _, _, hx⟩ := bd_tup hv
    by_cases h5 : xs.length ≤ 5
    · have e : isTupN (.tup xs) 0 5 = true := by simp -implicitDefEqProofs [isTupN]; omega
      simp -implicitDefEqProofs [e]
      rw [lcM_map (g := fun d => .bl (isNum d 0 (t - 1)))]
      · by_cases ha : (xs.all fun d => isNum d 0 (t - 1)) = true
        · have ei := ints_of ha
          have hr := r_asc (N := N) (xs.map numD) n
          rw [← ei] at hr
          simp -implicitDefEqProofs [boolsOf_map, Function.comp_def, hr, isLot, h5, ha]
        · simp only [Bool.not_eq_true] at ha
          simp -implicitDefEqProofs [boolsOf_map, Function.comp_def, isLot, h5, ha]
      · intro d hd
        simp -implicitDefEqProofs [r_is_number (hx d hd)]
    · have e : isTupN (.tup xs) 0 5 = false := by simp -implicitDefEqProofs [isTupN]; omega
      simp -implicitDefEqProofs [e, isLot, h5]
  | _ => simp -implicitDefEqProofs [isTupN, isLot]
theorem place_lit {n : Nat} {i : Nat} (h : i < n) : placeOf n (i : Int) = some i := by
  unfold placeOf
  rw [if_pos (by omega), if_pos (by omega)]
  simp
theorem place2 (n : Nat) : placeOf (n + 3) 2 = some 2 := place_lit (i := 2) (by omega)
theorem place3 (n : Nat) : placeOf (n + 4) 3 = some 3 := place_lit (i := 3) (by omega)
theorem mem_words {S : Store} {x : Str} (h : x.cps.all (· < 1114112) = true) : memD S (.str x) gWORDS = some (isWord (.str x)) := by
  unfold memD
  rw [show toPr S (.str x) = some (.str x) from rfl, show toPr S gWORDS = some (.tuple [.str "more", .str "atleast", .str "same"]) from rfl]
  have h1 : pDeep (.str x) = 0 := by rw [pDeep, if_pos h]
  have h2 : pDeeps [.str "more", .str "atleast", .str "same"] < 59 := by decide +kernel
  simp only [h1, h2]
  simp -implicitDefEqProofs [pEq, isWord]
theorem r_is_saying {v : D} (hv : bd L m v = true) (p t : Int) (n : Nat) : run T N (n + 3) 4 [v, .int p, .int t] = pure (.bl (isSaying v p t)) := by
  rw [run_at (f := 4) (df := d_is_saying) rfl rfl rfl]
  unfold d_is_saying
  by_cases h : isTupN v 4 4 = true
  · obtain ⟨xs, rfl, h1, h2⟩ := T_is_tup h
    obtain ⟨k, _, _, hx⟩ := bd_tup hv
    match xs, h1, h2, hx with
    | [a, w, x, y], _, _, hx =>
      have ha := hx a (by simp)
      have hw := hx w (by simp)
      simp -implicitDefEqProofs [r_is_tuple hv, h, place0, place1, r_is_number ha]
      by_cases hn : isNum a 0 (p - 1) = true
      · simp -implicitDefEqProofs [hn, place0, place1, place2, place3, r_is_lot (hx x (by simp)), r_is_lot (hx y (by simp))]
        cases w with
        | str z =>
          simp -implicitDefEqProofs [mem_words (bd_str hw), isSaying, hn]
          by_cases hz : isWord (.str z) = true
          · by_cases hl : isLot x t = true <;> simp -implicitDefEqProofs [hz, hl]
          · simp only [Bool.not_eq_true] at hz
            simp -implicitDefEqProofs [hz]
        | scr _ => cases k <;> cases hw
        | ref _ => cases k <;> cases hw
        | gf _ => cases k <;> cases hw
        | exn _ _ => cases k <;> cases hw
        | _ => simp -implicitDefEqProofs [isSaying, isWord]
      · simp only [Bool.not_eq_true] at hn
        simp -implicitDefEqProofs [hn, isSaying]
    | [], h1, _, _ => simp at h1
    | [_], h1, _, _ => simp at h1
    | [_, _], h1, _, _ => simp at h1
    | [_, _, _], h1, _, _ => simp at h1
    | _ :: _ :: _ :: _ :: _ :: _, _, h2, _ => simp at h2; omega
  · have e : isSaying v p t = false := by
      unfold isSaying
      split
      · simp -implicitDefEqProofs [isTupN] at h
      · rfl
    simp only [Bool.not_eq_true] at h
    simp -implicitDefEqProofs [r_is_tuple hv, h, e]
theorem r_is_good_case {v : D} (hv : bd L m v = true) (n : Nat) : run T N (n + 4) 5 [v] = pure (.bl (isCase v)) := by
  rw [run_at (f := 5) (df := d_is_good_case) rfl rfl rfl]
  unfold d_is_good_case
  by_cases h : isTupN v 3 3 = true
  · obtain ⟨xs, rfl, h1, h2⟩ := T_is_tup h
    obtain ⟨k, _, _, hx⟩ := bd_tup hv
    match xs, h1, h2, hx with
    | [p, t, s], _, _, hx =>
      have hp := hx p (by simp)
      have ht := hx t (by simp)
      have hs := hx s (by simp)
      simp -implicitDefEqProofs [r_is_tuple hv, h, place0, place1, place2, r_is_number hp, r_is_number ht, r_is_tuple hs]
      by_cases hn : isNum p 2 3 = true
      · by_cases hq : isNum t 2 5 = true
        · simp -implicitDefEqProofs [hn, hq]
          by_cases h8 : isTupN s 0 8 = true
          · obtain ⟨ss, rfl, _, _⟩ := T_is_tup h8
            obtain ⟨k', _, _, hs'⟩ := bd_tup hs
            obtain ⟨pi, rfl⟩ := num_int hn
            obtain ⟨ti, rfl⟩ := num_int hq
            simp -implicitDefEqProofs [h8]
            rw [lcM_map (g := fun d => .bl (isSaying d pi ti))]
            · simp -implicitDefEqProofs [boolsOf_map, Function.comp_def, isCase, hn, hq, h8, numD]
            · intro d hd
              simp -implicitDefEqProofs [place0, place1, r_is_saying (hs' d hd)]
          · simp only [Bool.not_eq_true] at h8
            simp -implicitDefEqProofs [h8, isCase]
        · simp only [Bool.not_eq_true] at hq
          simp -implicitDefEqProofs [hn, hq, isCase]
      · simp only [Bool.not_eq_true] at hn
        simp -implicitDefEqProofs [hn, isCase]
    | [], h1, _, _ => simp at h1
    | [_], h1, _, _ => simp at h1
    | [_, _], h1, _, _ => simp at h1
    | _ :: _ :: _ :: _ :: _, _, h2, _ => simp at h2; omega
  · have e : isCase v = false := by
      unfold isCase
      split
      · simp -implicitDefEqProofs [isTupN] at h
      · rfl
    simp only [Bool.not_eq_true] at h
    simp -implicitDefEqProofs [r_is_tuple hv, h, e]
theorem flat_len {L : Nat} : ∀ {rows : List D}, (∀ r ∈ rows, (tupItems r).length ≤ L) → (rows.flatMap tupItems).length ≤ rows.length * L
  | [], _ => by simp
  | r :: rows, h => by
    have h1 := h r (List.mem_cons_self ..)
    have h2 := flat_len (rows := rows) fun x hx => h x (List.mem_cons_of_mem _ hx)
    rw [List.flatMap_cons, List.length_append, List.length_cons, Nat.add_mul]
    omega
theorem r_good_worths (hL : L ≤ 1000) {v : D} (hv : bd L m v = true) (p t : Int) (s : D) (n : Nat) : run T N (n + 2) 6 [.tup [.int p, .int t, s], v] = pure (.bl (goodWorths p t v)) := by
  rw [run_at (f := 6) (df := d_are_good_worths) rfl rfl rfl]
  unfold d_are_good_worths
  simp -implicitDefEqProofs [place0, r_is_tuple hv]
  by_cases h : isTupN v p p = true
  · obtain ⟨rows, rfl, h1, h2⟩ := T_is_tup h
    obtain ⟨k, _, hlen, hx⟩ := bd_tup hv
    simp -implicitDefEqProofs [h]
    rw [lcM_map (g := fun d => .bl (isTupN d t t))]
    · have hp : (rows.length : Int) = p := by omega
      by_cases ha : (rows.all fun r => isTupN r t t) = true
      · have ha2 : ∀ x ∈ rows, isTupN x t t = true := by simpa using ha
        have ha3 : ¬ ∃ x, x ∈ rows ∧ isTupN x t t = false := by
          rintro ⟨x, hx1, hx2⟩
          rw [ha2 x hx1] at hx2
          cases hx2
        simp -implicitDefEqProofs [boolsOf_map, Function.comp_def]
        rw [if_neg ha3, lcM2_pure (g := fun r => (tupItems r).map fun d => .bl (isNum d 0 1000000000000))]
        · rw [← List.map_flatMap]
          have hz : ((rows.flatMap tupItems).map fun d => D.bl (isNum d 0 1000000000000)).length ≤ 16777216 := by
            rw [List.length_map]
            have := flat_len (L := L) (rows := rows) fun r hr => by
              obtain ⟨xs, rfl, _, _⟩ := T_is_tup (ha2 r hr)
              obtain ⟨_, _, h3, _⟩ := bd_tup (hx _ hr)
              exact h3
            have := Nat.mul_le_mul hlen hL
            have := Nat.mul_le_mul hL (Nat.le_refl 1000)
            omega
          simp only [noX_pure, ret_bind, if_pos hz]
          simp only [boolsOf_map, Option.map_some, ask_some, ret_bind]
          simp only [goodWorths, hp, ha, List.all_map, Function.comp_def, id]
          simp
        · intro r hr
          obtain ⟨xs, rfl, _, _⟩ := T_is_tup (ha2 r hr)
          obtain ⟨k', _, _, hx'⟩ := bd_tup (hx _ hr)
          simp -implicitDefEqProofs [tupItems]
          rw [lcM_map (g := fun d => .bl (isNum d 0 1000000000000))]
          intro d hd
          rw [show gLARGEST = .int 1000000000000 from rfl, r_is_number (hx' d hd)]
          rfl
      · have ha2 : ∃ x, x ∈ rows ∧ isTupN x t t = false := by simpa using ha
        simp only [Bool.not_eq_true] at ha
        simp -implicitDefEqProofs [boolsOf_map, Function.comp_def]
        rw [if_pos ha2]
        simp -implicitDefEqProofs [goodWorths, ha]
    · intro d hd
      simp -implicitDefEqProofs [place1, r_is_tuple (hx d hd)]
  · have e : goodWorths p t v = false := by
      unfold goodWorths
      cases v <;> simp -implicitDefEqProofs [isTupN] at h ⊢
      intro h1
      omega
    simp only [Bool.not_eq_true] at h
    simp -implicitDefEqProofs [h, e]
theorem r_good_sharing {v : D} (hv : bd L m v = true) (p t : Int) (s : D) (n : Nat) : run T N (n + 2) 7 [.tup [.int p, .int t, s], v] = pure (.bl (goodSharing p t v)) := by
  rw [run_at (f := 7) (df := d_is_good_sharing) rfl rfl rfl]
  unfold d_is_good_sharing
  simp -implicitDefEqProofs [place1, r_is_tuple hv]
  by_cases h : isTupN v t t = true
  · obtain ⟨xs, rfl, h1, h2⟩ := T_is_tup h
    obtain ⟨k, _, _, hx⟩ := bd_tup hv
    simp -implicitDefEqProofs [h]
    rw [lcM_map (g := fun d => .bl (isNum d 0 (p - 1)))]
    · have hp : (xs.length : Int) = t := by omega
      simp -implicitDefEqProofs [boolsOf_map, Function.comp_def, goodSharing, hp]
    · intro d hd
      simp -implicitDefEqProofs [place0, r_is_number (hx d hd)]
  · have e : goodSharing p t v = false := by
      unfold goodSharing
      cases v <;> simp -implicitDefEqProofs [isTupN] at h ⊢
      intro h1
      omega
    simp only [Bool.not_eq_true] at h
    simp -implicitDefEqProofs [h, e]
/-! the needs and what asks them -/
theorem r_need_case {v : D} (hv : bd L m v = true) (hc : isCase v = true) (n : Nat) : run T N (n + 5) 13 [v] = pure .non := by
  rw [run_at (f := 13) (df := d_need_case) rfl rfl rfl]
  unfold d_need_case
  simp -implicitDefEqProofs [r_is_good_case hv, hc]
theorem r_is_case {v : D} (hv : bd L m v = true) (n : Nat) : run T N (n + 5) 17 [v] = pure (.bl (isCase v)) := by
  rw [run_at (f := 17) (df := d_is_case) rfl rfl rfl]
  unfold d_is_case
  simp -implicitDefEqProofs [r_is_good_case hv]
theorem r_is_worths (hL : L ≤ 1000) {c v : D} (hcb : bd L m c = true) (hc : isCase c = true) {p t : Int} {s : D} (e : c = .tup [.int p, .int t, s]) (hv : bd L m v = true) (n : Nat) : run T N (n + 6) 18 [c, v] = pure (.bl (goodWorths p t v)) := by
  rw [run_at (f := 18) (df := d_is_worths) rfl rfl rfl]
  unfold d_is_worths
  have h1 := r_need_case (N := N) hcb hc n
  subst e
  have h2 := r_good_worths (N := N) hL hv p t s (n + 3)
  simp -implicitDefEqProofs [h1, h2]
theorem r_is_sharing {c v : D} (hcb : bd L m c = true) (hc : isCase c = true) {p t : Int} {s : D} (e : c = .tup [.int p, .int t, s]) (hv : bd L m v = true) (n : Nat) : run T N (n + 6) 19 [c, v] = pure (.bl (goodSharing p t v)) := by
  rw [run_at (f := 19) (df := d_is_sharing) rfl rfl rfl]
  unfold d_is_sharing
  have h1 := r_need_case (N := N) hcb hc n
  subst e
  have h2 := r_good_sharing (N := N) hv p t s (n + 3)
  simp -implicitDefEqProofs [h1, h2]
theorem r_is_claim {c v : D} (hcb : bd L m c = true) (hc : isCase c = true) {p t : Int} {s : D} (e : c = .tup [.int p, .int t, s]) (hv : bd L m v = true) (n : Nat) : run T N (n + 6) 20 [c, v] = pure (.bl (isSaying v p t)) := by
  rw [run_at (f := 20) (df := d_is_claim) rfl rfl rfl]
  unfold d_is_claim
  have h1 := r_need_case (N := N) hcb hc n
  subst e
  have h2 := r_is_saying (N := N) hv p t (n + 2)
  simp -implicitDefEqProofs [h1, h2, place0, place1]
end
end K01
end Hc
end
section
set_option Elab.async false
set_option linter.all false
set_option maxRecDepth 100000
set_option autoImplicit false
namespace Hc
open PySem
namespace K01
theorem zw_map {α β γ δ : Type} (f : α → β → γ) (g : δ → β) : ∀ (l : List α) (r : List δ), List.zipWith f l (r.map g) = (l.zip r).map fun p => f p.1 (g p.2)
  | [], _ => by simp
  | _ :: _, [] => by simp
  | a :: l, b :: r => by simp [zw_map f g l r]
theorem enumD_map {α : Type} (g : α → D) (xs : List α) : enumD (xs.map g) = ((List.range xs.length).zip xs).map fun p => .tup [.int (p.1 : Int), g p.2] := by
  unfold enumD
  rw [List.length_map, zw_map]
theorem zip_range {α : Type} (xs : List α) (d : α) : (List.range xs.length).zip xs = (List.range xs.length).map fun k => (k, (xs[k]?).getD d) := by
  apply List.ext_getElem
  · simp
  · intro i h1 h2
    simp at h1 h2
    simp [h1]
def mine (os : List Int) (p : Int) : List D := ((List.range os.length).zip os).filterMap fun q => if q.2 == p then some (.int (q.1 : Int)) else none
section
variable {N L m : Nat}
theorem r_lot_in (os : List Int) (p : Int) (n : Nat) : run T N (n + 1) 8 [.tup (os.map .int), .int p] = pure (.tup (mine os p)) := by
  rw [run_at (f := 8) (df := d_lot_in) rfl rfl rfl]
  unfold d_lot_in
  simp -implicitDefEqProofs [enumD_map]
  rw [lcM_filL (fun q : Nat × Int => if q.2 == p then some (.int (q.1 : Int)) else none)]
  · simp -implicitDefEqProofs [mine]
  · intro q _
    simp -implicitDefEqProofs
    by_cases h : q.2 = p <;> simp -implicitDefEqProofs [h]
theorem r_law_mine (os : List Int) (p : Int) (h : os.length ≤ 1000) (n : Nat) : run T N (n + 1) 34 [.tup (os.map .int), .int p] = pure (.tup (mine os p)) := by
  rw [run_at (f := 34) (df := d__law_mine) rfl rfl rfl]
  unfold d__law_mine
  have hr : rngOk 0 (os.length : Int) = true := by
    unfold rngOk
    simp
    omega
  simp -implicitDefEqProofs [hr, rangeD_zero]
  rw [lcM_filL (fun k : Nat => if (os[k]?).getD 0 == p then some (.int (k : Int)) else none)]
  · simp -implicitDefEqProofs [mine]
    rw [zip_range os 0, List.filterMap_map]
    rfl
  · intro k hk
    have hk : k < os.length := by simpa using hk
    have hp : placeOf os.length (k : Int) = some k := place_lit hk
    simp -implicitDefEqProofs [hp, hk]
    by_cases h : os[k] = p <;> simp -implicitDefEqProofs [h]
/-! lines and sums -/
theorem toPs_ints (S : Store) : ∀ a : List Int, toPs S (a.map .int) = some (a.map .int)
  | [] => rfl
  | x :: a => by rw [List.map_cons, toPs, toPs_ints S a]; rfl
theorem pDeeps_ints : ∀ a : List Int, pDeeps (a.map .int) = 0
  | [] => rfl
  | x :: a => by rw [List.map_cons, pDeeps, pDeeps_ints a]; rfl
theorem mem_ints (S : Store) (k : Int) (a : List Int) : memD S (.int k) (.tup (a.map .int)) = some (decide (k ∈ a)) := by
  unfold memD
  rw [show toPr S (.int k) = some (.int k) from rfl, show toPr S (.tup (a.map .int)) = some (.tuple (a.map .int)) by show toP S _ = _; rw [toP, toPs_ints]; rfl]
  have h1 : pDeep (.int k) < 60 := by
    show (0 : Nat) < 60
    decide
  have h2 : pDeeps (a.map PyData.int) < 59 := by rw [pDeeps_ints]; omega
  simp only [h1, h2, and_self, if_true, List.any_map]
  congr 1
  rw [Bool.eq_iff_iff]
  simp [pEq]
def ind (a : List Int) (k : Int) : Int := if k ∈ a then 1 else 0
def lineI (a b : List Int) (t : Nat) : List Int := (List.range t).map fun (k : Nat) => ind a k - ind b k
theorem rng_ok {t : Nat} (h : t ≤ 1000) : rngOk 0 (t : Int) = true := by
  unfold rngOk
  simp
  omega
theorem r_line_of (a b : List Int) (t : Nat) (ht : t ≤ 1000) (n : Nat) : run T N (n + 1) 9 [.tup (a.map .int), .tup (b.map .int), .int (t : Int)] = pure (.tup ((lineI a b t).map .int)) := by
  rw [run_at (f := 9) (df := d_line_of) rfl rfl rfl]
  unfold d_line_of
  simp -implicitDefEqProofs [rng_ok ht, rangeD_zero]
  rw [lcM_mapL (fun k : Nat => .int (ind a k - ind b k))]
  · simp -implicitDefEqProofs [lineI]
    rfl
  · intro k _
    simp -implicitDefEqProofs [mem_ints]
    unfold ind
    by_cases h1 : (k : Int) ∈ a <;> by_cases h2 : (k : Int) ∈ b <;> simp -implicitDefEqProofs [h1, h2]
theorem r_law_line (a b : List Int) (t : Nat) (ht : t ≤ 1000) (n : Nat) : run T N (n + 1) 27 [.tup (a.map .int), .tup (b.map .int), .int (t : Int)] = pure (.lst ((lineI a b t).map .int)) := by
  rw [run_at (f := 27) (df := d__law_line) rfl rfl rfl]
  unfold d__law_line
  simp -implicitDefEqProofs [rng_ok ht, rangeD_zero]
  rw [lcM_mapL (fun k : Nat => .int (ind a k - ind b k))]
  · simp -implicitDefEqProofs [lineI]
    rfl
  · intro k _
    simp -implicitDefEqProofs [mem_ints, ind]
def dot (l r : List Int) : Int := ((l.zip r).map fun p => p.1 * p.2).sum
theorem line_small {a b : List Int} {t : Nat} : ∀ x ∈ lineI a b t, x.natAbs < 2 ^ 64 := by
  intro x hx
  obtain ⟨k, _, rfl⟩ := List.mem_map.mp hx
  unfold ind
  split <;> split <;> decide
theorem mul_ok {x : Int} (h : x.natAbs < 2 ^ 64) (y : Int) : mulOk x y = true := by
  unfold mulOk small64
  simp
  left; left
  exact h
theorem r_summed (l r : List Int) (hl : ∀ x ∈ l, x.natAbs < 2 ^ 64) (n : Nat) : run T N (n + 1) 10 [.tup (l.map .int), .tup (r.map .int)] = pure (.int (dot l r)) := by
  rw [run_at (f := 10) (df := d_summed) rfl rfl rfl]
  unfold d_summed
  simp -implicitDefEqProofs [zipD_map]
  rw [lcM_mapL (fun p : Int × Int => .int (p.1 * p.2))]
  · simp -implicitDefEqProofs [intsOf_map, dot]
  · intro p hp
    have := mul_ok (hl _ (List.of_mem_zip hp).1) p.2
    simp -implicitDefEqProofs [this]
theorem r_law_sum (l r : List Int) (hl : ∀ x ∈ l, x.natAbs < 2 ^ 64) (n : Nat) : run T N (n + 1) 26 [.lst (l.map .int), .tup (r.map .int)] = pure (.int (dot l r)) := by
  rw [run_at (f := 26) (df := d__law_sum) rfl rfl rfl]
  unfold d__law_sum
  simp -implicitDefEqProofs [zipD_map]
  rw [lcM_mapL (fun p : Int × Int => .int (p.1 * p.2))]
  · simp -implicitDefEqProofs [intsOf_map, dot]
  · intro p hp
    have := mul_ok (hl _ (List.of_mem_zip hp).1) p.2
    simp -implicitDefEqProofs [this]
theorem eqD_str {S : Store} {x y : Str} (h : x.cps.all (· < 1114112) = true) (h2 : y.cps.all (· < 1114112) = true) : eqD S (.str x) (.str y) = some (x == y) := by
  unfold eqD
  rw [show toPr S (.str x) = some (.str x) from rfl, show toPr S (.str y) = some (.str y) from rfl]
  have h3 : pDeep (.str x) = 0 := by rw [pDeep, if_pos h]
  have h4 : pDeep (.str y) = 0 := by rw [pDeep, if_pos h2]
  simp only [h3, h4]
  rfl
def farI (a b r : List Int) : Int := dot (lineI a b r.length) r
def soB (w : Str) (far : Int) : Bool := if w = ("same" : Str) then far == 0 else if w = ("more" : Str) then decide (0 < far) else decide (0 ≤ far)
theorem sc_same : (("same" : Str).cps.all (· < 1114112)) = true := by decide +kernel
theorem sc_more : (("more" : Str).cps.all (· < 1114112)) = true := by decide +kernel
theorem sc_atl : (("atleast" : Str).cps.all (· < 1114112)) = true := by decide +kernel
theorem r_is_so (u : D) {w : Str} (hw : w.cps.all (· < 1114112) = true) (a b r : List Int) (hr : r.length ≤ 1000) (n : Nat) : run T N (n + 2) 11 [.tup [u, .str w, .tup (a.map .int), .tup (b.map .int)], .tup (r.map .int)] = pure (.bl (soB w (farI a b r))) := by
  rw [run_at (f := 11) (df := d_is_so) rfl rfl rfl]
  unfold d_is_so
  have h1 := r_line_of (N := N) a b r.length hr n
  have h2 := r_summed (N := N) (lineI a b r.length) r line_small n
  simp -implicitDefEqProofs [place1, place2, place3, h1, h2, eqD_str hw sc_same, eqD_str hw sc_more]
  unfold soB farI
  by_cases h3 : w = ("same" : Str)
  · simp -implicitDefEqProofs [h3]
  · rw [if_neg h3, if_neg h3]
    by_cases h4 : w = ("more" : Str)
    · rw [if_pos h4, if_pos h4]
    · rw [if_neg h4, if_neg h4]
theorem soB_law {w : Str} (hw : isWord (.str w) = true) (far : Int) : soB w far = if w = ("same" : Str) then far == 0 else (decide (0 < far) || ((far == 0) && (w == ("atleast" : Str)))) := by
  have hw' : w = ("more" : Str) ∨ w = ("atleast" : Str) ∨ w = ("same" : Str) := by
    have h : ((("more" : Str) == w) || ((("atleast" : Str) == w) || (("same" : Str) == w))) = true := hw
    simp only [Bool.or_eq_true, beq_iff_eq] at h
    rcases h with h | h | h
    · exact .inl h.symm
    · exact .inr (.inl h.symm)
    · exact .inr (.inr h.symm)
  have n1 : ("more" : Str) ≠ ("same" : Str) := by decide +kernel
  have n2 : ("atleast" : Str) ≠ ("same" : Str) := by decide +kernel
  have n3 : ("atleast" : Str) ≠ ("more" : Str) := by decide +kernel
  have n4 : (("more" : Str) == ("atleast" : Str)) = false := by decide +kernel
  unfold soB
  rcases hw' with h | h | h
  · subst h
    rw [if_neg n1, if_pos rfl, if_neg n1, n4]
    simp
  · subst h
    rw [if_neg n2, if_neg n3, if_neg n2, beq_self_eq_true, Bool.and_true]
    rcases Int.lt_trichotomy far 0 with h | h | h
    · have h1 : ¬ 0 ≤ far := by omega
      have h2 : ¬ 0 < far := by omega
      have h3 : ¬ far = 0 := by omega
      simp [h1, h2, h3]
    · subst h; simp
    · have h1 : 0 ≤ far := by omega
      simp [h1, h]
  · subst h
    rw [if_pos rfl, if_pos rfl]
theorem r_law_holds (u : D) {w : Str} (hw : w.cps.all (· < 1114112) = true) (hw2 : isWord (.str w) = true) (a b r : List Int) (hr : r.length ≤ 1000) (n : Nat) : run T N (n + 2) 32 [.tup [u, .str w, .tup (a.map .int), .tup (b.map .int)], .tup (r.map .int)] = pure (.bl (soB w (farI a b r))) := by
  rw [run_at (f := 32) (df := d__law_holds) rfl rfl rfl]
  unfold d__law_holds
  have h1 := r_law_line (N := N) a b r.length hr n
  have h2 := r_law_sum (N := N) (lineI a b r.length) r line_small n
  simp -implicitDefEqProofs [place1, place2, place3, h1, h2, eqD_str hw sc_same, eqD_str hw sc_atl]
  rw [soB_law hw2]
  unfold farI
  by_cases h3 : w = ("same" : Str)
  · simp -implicitDefEqProofs [h3]
  · simp -implicitDefEqProofs [h3]
    by_cases h5 : 0 < dot (lineI a b r.length) r
    · simp -implicitDefEqProofs [h5]
    · by_cases h6 : dot (lineI a b r.length) r = 0
      · simp -implicitDefEqProofs [h6]
      · simp -implicitDefEqProofs [h5, h6, beq_eq_false_iff_ne.mpr h6]
end
end K01
end Hc
end
section
set_option Elab.async false
set_option linter.all false
set_option maxRecDepth 100000
set_option autoImplicit false
namespace Hc
open PySem
namespace K01
theorem lot_form {v : D} {t : Int} (h : isLot v t = true) : ∃ xs : List Int, v = .tup (xs.map .int) := by
  cases v with
  | tup xs =>
    unfold isLot at h
    simp only [Bool.and_eq_true] at h
    exact ⟨_, congrArg D.tup (ints_of h.1.2)⟩
  | _ => simp [isLot] at h
theorem word_form {v : D} (h : isWord v = true) : ∃ w, v = .str w ∧ w.cps.all (· < 1114112) = true := by
  cases v with
  | str w =>
    refine ⟨w, rfl, ?_⟩
    have h : ((("more" : Str) == w) || ((("atleast" : Str) == w) || (("same" : Str) == w))) = true := h
    simp only [Bool.or_eq_true, beq_iff_eq] at h
    rcases h with h | h | h <;> (rw [← h]; first | exact sc_more | exact sc_atl | exact sc_same)
  | _ => cases h
theorem saying_form {s : D} {p t : Int} (h : isSaying s p t = true) : ∃ (a : Int) (w : Str) (xs ys : List Int), s = .tup [.int a, .str w, .tup (xs.map .int), .tup (ys.map .int)] ∧ 0 ≤ a ∧ a < p ∧ isWord (.str w) = true ∧ w.cps.all (· < 1114112) = true := by
  unfold isSaying at h
  split at h
  · rename_i a w x y
    simp only [Bool.and_eq_true] at h
    obtain ⟨⟨h1, h2⟩, h3, h4⟩ := h
    obtain ⟨a, rfl⟩ := num_int h1
    obtain ⟨w, rfl, hw⟩ := word_form h2
    obtain ⟨xs, rfl⟩ := lot_form h3
    obtain ⟨ys, rfl⟩ := lot_form h4
    simp [isNum] at h1
    exact ⟨a, w, xs, ys, rfl, h1.1, by omega, h2, hw⟩
  · cases h
def rowD (r : List Int) : D := .tup (r.map .int)
theorem worths_form {w : D} {p t : Int} (h : goodWorths p t w = true) : ∃ rs : List (List Int), w = .tup (rs.map rowD) ∧ (rs.length : Int) = p ∧ ∀ r ∈ rs, (r.length : Int) = t := by
  cases w with
  | tup rows =>
    unfold goodWorths at h
    simp only [Bool.and_eq_true, decide_eq_true_eq] at h
    obtain ⟨⟨h1, h2⟩, h3⟩ := h
    have h2 := List.all_eq_true.mp h2
    have h3 := List.all_eq_true.mp h3
    have e : rows = (rows.map fun r => (tupItems r).map numD).map rowD := by
      rw [List.map_map]
      refine (List.map_id rows).symm.trans (List.map_congr_left fun r hr => ?_)
      obtain ⟨xs, rfl, _, _⟩ := T_is_tup (h2 r hr)
      refine congrArg D.tup (ints_of (a := 0) (b := 1000000000000) (List.all_eq_true.mpr fun d hd => h3 d (List.mem_flatMap.mpr ⟨_, hr, hd⟩)))
    refine ⟨_, congrArg D.tup e, by rw [List.length_map]; exact h1, fun r hr => ?_⟩
    obtain ⟨r', hr', rfl⟩ := List.mem_map.mp hr
    obtain ⟨xs, rfl, h4, h5⟩ := T_is_tup (h2 r' hr')
    rw [List.length_map]
    show (xs.length : Int) = t
    omega
  | _ => cases h
def soD (rs : List (List Int)) (s : D) : Bool := match s with
  | .tup [.int a, .str w, .tup xs, .tup ys] => soB w (farI (xs.map numD) (ys.map numD) ((rs[a.toNat]?).getD []))
  | _ => false
def keepB (ss : List D) (rs : List (List Int)) : Bool := ss.all (soD rs)
theorem num_map (xs : List Int) : (xs.map D.int).map numD = xs := by
  rw [List.map_map]
  exact List.map_id xs
theorem place_in {n : Nat} {a : Int} (h : 0 ≤ a) (h2 : a < n) : placeOf n a = some a.toNat := by
  unfold placeOf
  rw [if_pos h, if_pos h2]
section
variable {N L m : Nat}
theorem r_keeps_all {ss : List D} {rs : List (List Int)} {p t : Int} (hs : ∀ s ∈ ss, isSaying s p t = true) (hp : (rs.length : Int) = p) (hr : ∀ r ∈ rs, r.length ≤ 1000) (n : Nat) : run T N (n + 3) 12 [.tup [.int p, .int t, .tup ss], .tup (rs.map rowD)] = pure (.bl (keepB ss rs)) := by
  rw [run_at (f := 12) (df := d_keeps_all) rfl rfl rfl]
  unfold d_keeps_all
  simp -implicitDefEqProofs [place2]
  rw [lcM_map (g := fun s => .bl (soD rs s))]
  · simp -implicitDefEqProofs [boolsOf_map, Function.comp_def, keepB]
  · intro s h
    obtain ⟨a, w, xs, ys, rfl, a1, a2, hw, hc⟩ := saying_form (hs s h)
    have ha : a.toNat < rs.length := by omega
    have hrow : (rs[a.toNat]?).getD [] = rs[a.toNat] := by simp [ha]
    have h1 := r_is_so (N := N) (.int a) hc xs ys rs[a.toNat] (hr _ (List.getElem_mem ha)) n
    have hpl : placeOf rs.length a = some a.toNat := place_in a1 (by omega)
    simp -implicitDefEqProofs [place0, hpl, ha, rowD, h1, soD, num_map, Function.comp_def, numD]
theorem r_law_keeps {ss : List D} {rs : List (List Int)} {p t : Int} (hs : ∀ s ∈ ss, isSaying s p t = true) (hp : (rs.length : Int) = p) (hr : ∀ r ∈ rs, r.length ≤ 1000) (n : Nat) : run T N (n + 3) 33 [.tup [.int p, .int t, .tup ss], .tup (rs.map rowD)] = pure (.bl (keepB ss rs)) := by
  rw [run_at (f := 33) (df := d__law_keeps) rfl rfl rfl]
  unfold d__law_keeps
  simp -implicitDefEqProofs [place2]
  obtain ⟨τ', i1, e1⟩ := forM_all (f := fun d τ => M.opt (bindP (.n 2) d τ) >>= fun τ' => eSt (run T N (n + 2)) N (.ite (.not (.call 32 (.cons (.v 2) (.cons (.ix (.v 1) (.ix (.v 2) (.c (.int 0)))) .nil)))) (.ret (.c (.bl false))) .skip) τ') (g := soD rs) (I := fun τ => ∃ x, τ = [some (.tup [.int p, .int t, .tup ss]), some (.tup (rs.map rowD)), x]) (v := .bl false) (ds := ss) (σ := [some (.tup [.int p, .int t, .tup ss]), some (.tup (rs.map rowD)), none]) ⟨none, rfl⟩ (by
    rintro s h τ ⟨x, rfl⟩
    obtain ⟨a, w, xs, ys, rfl, a1, a2, hw, hc⟩ := saying_form (hs s h)
    have ha : a.toNat < rs.length := by omega
    have h1 := r_law_holds (N := N) (.int a) hc hw xs ys rs[a.toNat] (hr _ (List.getElem_mem ha)) n
    have hpl : placeOf rs.length a = some a.toNat := place_in a1 (by omega)
    refine ⟨_, ⟨some (.tup [.int a, .str w, .tup (xs.map .int), .tup (ys.map .int)]), rfl⟩, ?_⟩
    simp -implicitDefEqProofs [place0, hpl, ha, rowD, h1, soD, num_map, Function.comp_def, numD]
    cases soB w (farI xs ys rs[a.toNat]) <;> simp -implicitDefEqProofs)
  simp -implicitDefEqProofs at e1
  rw [e1]
  unfold keepB
  by_cases h : ∀ x ∈ ss, soD rs x = true
  · rw [if_pos h, List.all_eq_true.mpr h]
    simp -implicitDefEqProofs
  · have h2 : ss.all (soD rs) = false := by
      cases e : ss.all (soD rs) with
      | false => rfl
      | true => exact absurd (List.all_eq_true.mp e) h
    rw [if_neg h, h2]
    simp -implicitDefEqProofs
theorem case_form {c : D} (h : isCase c = true) : ∃ (p t : Int) (ss : List D), c = .tup [.int p, .int t, .tup ss] ∧ 2 ≤ p ∧ p ≤ 3 ∧ 2 ≤ t ∧ t ≤ 5 ∧ ss.length ≤ 8 ∧ ∀ s ∈ ss, isSaying s p t = true := by
  unfold isCase at h
  split at h
  · rename_i p t s
    simp only [Bool.and_eq_true] at h
    obtain ⟨⟨h1, h2⟩, h3, h4⟩ := h
    obtain ⟨p, rfl⟩ := num_int h1
    obtain ⟨t, rfl⟩ := num_int h2
    obtain ⟨ss, rfl, _, h5⟩ := T_is_tup h3
    simp [isNum] at h1 h2
    exact ⟨p, t, ss, rfl, h1.1, h1.2, h2.1, h2.2, by omega, fun s hs => List.all_eq_true.mp h4 s hs⟩
  · cases h
theorem r_need_worths (hL : L ≤ 1000) {v : D} (hv : bd L m v = true) {p t : Int} {s : D} (hg : goodWorths p t v = true) (n : Nat) : run T N (n + 3) 14 [.tup [.int p, .int t, s], v] = pure .non := by
  rw [run_at (f := 14) (df := d_need_worths) rfl rfl rfl]
  unfold d_need_worths
  have h := r_good_worths (N := N) hL hv p t s n
  simp -implicitDefEqProofs [h, hg]
theorem r_need_sharing {v : D} (hv : bd L m v = true) {p t : Int} {s : D} (hg : goodSharing p t v = true) (n : Nat) : run T N (n + 3) 15 [.tup [.int p, .int t, s], v] = pure .non := by
  rw [run_at (f := 15) (df := d_need_sharing) rfl rfl rfl]
  unfold d_need_sharing
  have h := r_good_sharing (N := N) hv p t s n
  simp -implicitDefEqProofs [h, hg]
theorem r_need_person {p t i : Int} {s : D} (h1 : 0 ≤ i) (h2 : i < p) (n : Nat) : run T N (n + 2) 16 [.tup [.int p, .int t, s], .int i] = pure .non := by
  rw [run_at (f := 16) (df := d_need_person) rfl rfl rfl]
  unfold d_need_person
  have h := r_is_number (N := N) (L := 0) (m := 0) (v := .int i) rfl 0 (p - 1) n
  have h3 : isNum (.int i) 0 (p - 1) = true := by simp [isNum]; omega
  simp -implicitDefEqProofs [place0, h, h3]
theorem r_lot_of {c : D} (hcb : bd L m c = true) (hc : isCase c = true) {p t : Int} {s : D} (e : c = .tup [.int p, .int t, s]) {os : List Int} (hv : bd L m (.tup (os.map .int)) = true) (hg : goodSharing p t (.tup (os.map .int)) = true) {i : Int} (h1 : 0 ≤ i) (h2 : i < p) (n : Nat) : run T N (n + 6) 21 [c, .tup (os.map .int), .int i] = pure (.tup (mine os i)) := by
  rw [run_at (f := 21) (df := d_lot_of) rfl rfl rfl]
  unfold d_lot_of
  have h3 := r_need_case (N := N) hcb hc n
  subst e
  have h4 := r_need_sharing (N := N) (s := s) hv hg (n + 2)
  have h5 := r_need_person (N := N) (t := t) (s := s) h1 h2 (n + 3)
  have h6 := r_lot_in (N := N) os i (n + 4)
  simp -implicitDefEqProofs [h3, h4, h5, h6]
theorem r_keep (hL : L ≤ 1000) {c : D} (hcb : bd L m c = true) (hc : isCase c = true) {p t : Int} {ss : List D} (e : c = .tup [.int p, .int t, .tup ss]) {rs : List (List Int)} (hv : bd L m (.tup (rs.map rowD)) = true) (hg : goodWorths p t (.tup (rs.map rowD)) = true) (hp : (rs.length : Int) = p) (hr : ∀ r ∈ rs, r.length ≤ 1000) (n : Nat) : run T N (n + 6) 22 [c, .tup (rs.map rowD)] = pure (.bl (keepB ss rs)) := by
  rw [run_at (f := 22) (df := d_keep) rfl rfl rfl]
  unfold d_keep
  have h3 := r_need_case (N := N) hcb hc n
  obtain ⟨p', t', ss', e', _, _, _, _, _, hs⟩ := case_form hc
  rw [e] at e'
  cases e'
  subst e
  have h4 := r_need_worths (N := N) hL hv (s := .tup ss) hg (n + 2)
  have h5 := r_keeps_all (N := N) (t := t) hs hp hr (n + 2)
  simp -implicitDefEqProofs [h3, h4, h5]
/-! the law's own reading -/
theorem r_law_is_int {v : D} (hv : bd L m v = true) (a b : Int) (n : Nat) : run T N (n + 1) 36 [v, .int a, .int b] = pure (.bl (isNum v a b)) := by
  rw [run_at (f := 36) (df := d__law_is_int) rfl rfl rfl]
  unfold d__law_is_int
  cases v <;> simp -implicitDefEqProofs [isNum]
  case int i => by_cases h : a ≤ i <;> simp -implicitDefEqProofs [h]
  all_goals (cases m <;> cases hv)
def areInts (v : D) (few many a b : Int) : Bool := match v with
  | .tup xs => decide (few ≤ (xs.length : Int)) && decide ((xs.length : Int) ≤ many) && xs.all fun d => isNum d a b
  | _ => false
theorem filter_empty {α : Type} (g : α → Bool) : ∀ xs : List α, (xs.filterMap fun x => if g x = true then none else some x).isEmpty = xs.all g
  | [] => rfl
  | x :: xs => by
    rw [List.filterMap_cons]
    cases h : g x with
    | true => simp [h, ← filter_empty g xs]
    | false => simp [h]
theorem r_law_are_ints {v : D} (hv : bd L m v = true) (hm : m < 59) (few many a b : Int) (n : Nat) : run T N (n + 2) 37 [v, .int few, .int many, .int a, .int b] = pure (.bl (areInts v few many a b)) := by
  rw [run_at (f := 37) (df := d__law_are_ints) rfl rfl rfl]
  unfold d__law_are_ints
  cases v with
  | tup xs =>
    obtain ⟨k, hk, _, hx⟩ := bd_tup hv
    simp -implicitDefEqProofs
    by_cases h1 : few ≤ (xs.length : Int) ∧ (xs.length : Int) ≤ many
    · have h1b : ¬ many < (xs.length : Int) := by omega
      simp -implicitDefEqProofs [h1.1, h1.2]
      rw [lcM_pure (g := fun d => if isNum d a b = true then none else some d)]
      · have hf : ∀ d ∈ (xs.filterMap fun d => if isNum d a b = true then none else some d), bd L k d = true := by
          intro d hd
          obtain ⟨x, hx1, hx2⟩ := List.mem_filterMap.mp hd
          split at hx2
          · cases hx2
          · cases hx2
            exact hx _ hx1
        have e := fun S => eqD_nilL (S := S) hf (by omega)
        simp -implicitDefEqProofs [e]
        have e2 := filter_empty (fun d => isNum d a b) xs
        rw [e2, if_neg h1b]
        simp [areInts, h1.1, h1.2]
      · intro d hd
        have := r_law_is_int (N := N) (hx d hd) a b n
        simp -implicitDefEqProofs [this]
        cases isNum d a b <;> rfl
    · by_cases h2 : few ≤ (xs.length : Int)
      · have h3 : ¬ (xs.length : Int) ≤ many := fun h => h1 ⟨h2, h⟩
        simp -implicitDefEqProofs [h2, h3, areInts]
      · simp -implicitDefEqProofs [h2, areInts]
  | scr _ => cases m <;> cases hv
  | ref _ => cases m <;> cases hv
  | gf _ => cases m <;> cases hv
  | exn _ _ => cases m <;> cases hv
  | _ => simp -implicitDefEqProofs [areInts]
end
end K01
end Hc
end
section
set_option Elab.async false
set_option linter.all false
set_option maxRecDepth 100000
set_option autoImplicit false
namespace Hc
open PySem
namespace K01
def lotBody : St := .seq (.ite (.not (.call 37 (.cons (.v 2) (.cons (.c (.int (0))) (.cons (.c (.int (5))) (.cons (.c (.int (0))) (.cons (.op .sub (.ix (.v 0) (.c (.int (1)))) (.c (.int (1)))) .nil))))))) (.ret (.c (.bl false))) .skip) (.ite (.op .ne (.lc false (.c (.int (1))) (.t (.cons (.n 3) (.cons (.n 4) .nil))) (.zip (.v 2) (.sl (.v 2) (.some (.c (.int (1)))) .none)) (.some (.op .ge (.v 3) (.v 4)))) (.lst false .nil)) (.ret (.c (.bl false))) .skip)
theorem isLot_are {v : D} {t : Int} : isLot v t = (areInts v 0 5 0 (t - 1) && (match v with
  | .tup xs => asc (xs.map numD)
  | _ => false)) := by
  cases v with
  | tup xs =>
    unfold isLot areInts
    have h : decide ((0 : Int) ≤ (xs.length : Int)) = true := decide_eq_true (by omega)
    have h2 : decide ((xs.length : Int) ≤ 5) = decide (xs.length ≤ 5) := by
      congr 1
      exact propext ⟨fun h => by omega, fun h => by omega⟩
    simp only [h, h2, Bool.true_and]
  | _ => rfl
theorem asc_empty (ns : List Int) : ((ns.zip ns.tail).filterMap fun p : Int × Int => if p.2 ≤ p.1 then some (D.int 1) else none).isEmpty = asc ns := by
  unfold asc
  generalize ns.zip ns.tail = l
  induction l with
  | nil => rfl
  | cons p l ih =>
    rw [List.filterMap_cons, List.all_cons]
    by_cases h : p.2 ≤ p.1
    · have h2 : ¬ p.1 < p.2 := by omega
      simp [h, h2]
    · have h2 : p.1 < p.2 := by omega
      simp [h, h2, ih]
section
variable {N L m : Nat}
theorem lot_step {c v x : D} {p t : Int} {s : D} (e : c = .tup [.int p, .int t, s]) (hx : bd L m x = true) (hm : m < 59) (y : Option D) (n : Nat) : ∃ τ', (∃ z, τ' = [some c, some v, z, none, none]) ∧ (M.opt (bindP (.n 2) x [some c, some v, y, none, none]) >>= fun τ' => eSt (run T N (n + 2)) N lotBody τ') = if isLot x t = true then pure (.nx τ') else pure (.rt (.bl false)) := by
  refine ⟨[some c, some v, some x, none, none], ⟨some x, rfl⟩, ?_⟩
  subst e
  unfold lotBody
  have h1 := r_law_are_ints (N := N) hx hm 0 5 0 (t - 1) n
  simp -implicitDefEqProofs [place1, h1]
  rw [isLot_are]
  cases ha : areInts x 0 5 0 (t - 1) with
  | false => simp -implicitDefEqProofs
  | true =>
    cases x with
    | tup xs =>
      have hints : xs.all (fun d => isNum d 0 (t - 1)) = true := by
        unfold areInts at ha
        simp only [Bool.and_eq_true] at ha
        exact ha.2
      have ei := ints_of hints
      generalize xs.map numD = ns at ei
      subst ei
      simp -implicitDefEqProofs [drop_map]
      rw [show (List.map D.int ns).tail = ns.tail.map D.int from List.map_tail.symm, zipD_map, lcM_filL (fun p : Int × Int => if p.2 ≤ p.1 then some (D.int 1) else none)]
      · have hb : ∀ d ∈ ((ns.zip ns.tail).filterMap fun p : Int × Int => if p.2 ≤ p.1 then some (D.int 1) else none), bd 0 0 d = true := by
          intro d hd
          obtain ⟨q, _, h2⟩ := List.mem_filterMap.mp hd
          split at h2
          · cases h2; rfl
          · cases h2
        have e2 := fun S => eqD_nilL (S := S) hb (by omega)
        simp -implicitDefEqProofs only [noX_pure, ret_bind, e2, asc_empty, Option.map_some, ask_some, asB_bl]
        have e3 : (ns.map D.int).map numD = ns := num_map ns
        simp only [List.map_map] at e3
        rw [e3]
        cases asc ns <;> simp -implicitDefEqProofs
      · intro q _
        simp -implicitDefEqProofs
        by_cases h : q.2 ≤ q.1 <;> simp -implicitDefEqProofs [h]
    | _ => cases ha
theorem r_law_is_claim {v : D} (hv : bd L m v = true) (hm : m < 59) (p t : Int) (s : D) (n : Nat) : run T N (n + 3) 38 [.tup [.int p, .int t, s], v] = pure (.bl (isSaying v p t)) := by
  rw [run_at (f := 38) (df := d__law_is_claim) rfl rfl rfl]
  unfold d__law_is_claim
  show endM (eSt (run T N (n + 2)) N (.seq _ (.seq _ (.seq (.for (.n 2) (.seq (.sl (.v 1) (.some (.c (.int (2)))) .none)) lotBody) (.ret (.c (.bl true)))))) (startE 5 [.tup [.int p, .int t, s], v])) = _
  generalize hB : lotBody = B
  cases v with
  | tup xs =>
    obtain ⟨k, hk, _, hx⟩ := bd_tup hv
    by_cases h4 : xs.length = 4
    · match xs, h4, hx with
      | [a, w, x, y], _, hx =>
        have ha := r_law_is_int (N := N) (hx a (by simp)) 0 (p - 1) (n + 1)
        have hw := hx w (by simp)
        simp -implicitDefEqProofs [place0, ha]
        cases hn : isNum a 0 (p - 1) with
        | false => simp -implicitDefEqProofs [isSaying, hn]
        | true =>
          have hmem : ∀ (S : Store) (z : Str), z.cps.all (· < 1114112) = true → memD S (.str z) (.tup [.str "more", .str "atleast", .str "same"]) = some (isWord (.str z)) := fun S z h => mem_words h
          simp -implicitDefEqProofs [place0, place1]
          cases w with
          | str z =>
            simp -implicitDefEqProofs [hmem _ z (bd_str hw)]
            cases hz : isWord (.str z) with
            | false => simp -implicitDefEqProofs [isSaying, hn, hz]
            | true =>
              have hc : cutOf [a, .str z, x, y] (some 2) none = [x, y] := rfl
              simp -implicitDefEqProofs [hc]
              obtain ⟨τ', i1, e1⟩ := forM_all (f := fun d τ => M.opt (bindP (.n 2) d τ) >>= fun τ' => eSt (run T N (n + 2)) N lotBody τ') (g := fun d => isLot d t) (I := fun τ => ∃ y', τ = [some (.tup [.int p, .int t, s]), some (.tup [a, .str z, x, y]), y', none, none]) (v := .bl false) (ds := [x, y]) (σ := [some (.tup [.int p, .int t, s]), some (.tup [a, .str z, x, y]), none, none, none]) ⟨none, rfl⟩ (by
                rintro d hd τ ⟨y', rfl⟩
                have hdb : bd L k d = true := hx d (by simp at hd; rcases hd with e | e <;> simp [e])
                exact lot_step rfl hdb (by omega) y' n)
              rw [hB] at e1
              simp -implicitDefEqProofs at e1
              rw [e1]
              by_cases h1 : isLot x t = true <;> by_cases h2 : isLot y t = true <;> simp -implicitDefEqProofs [isSaying, hn, hz, h1, h2]
          | scr _ => cases k <;> cases hw
          | ref _ => cases k <;> cases hw
          | gf _ => cases k <;> cases hw
          | exn _ _ => cases k <;> cases hw
          | _ => simp -implicitDefEqProofs [isSaying, isWord]
    · have e : isSaying (.tup xs) p t = false := by
        unfold isSaying
        split
        · rename_i h; cases h; simp at h4
        · rfl
      have h5 : ((xs.length : Int) == 4) = false := by simp; omega
      simp -implicitDefEqProofs [e, h5]
  | scr _ => cases m <;> cases hv
  | ref _ => cases m <;> cases hv
  | gf _ => cases m <;> cases hv
  | exn _ _ => cases m <;> cases hv
  | _ => simp -implicitDefEqProofs [isSaying]
end
end K01
end Hc
end
section
set_option Elab.async false
set_option linter.all false
set_option maxRecDepth 100000
set_option autoImplicit false
namespace Hc
open PySem
namespace K01
theorem sharing_are (p t : Int) (v : D) : goodSharing p t v = areInts v t t 0 (p - 1) := by
  cases v with
  | tup xs =>
    show (decide ((xs.length : Int) = t) && xs.all fun d => isNum d 0 (p - 1)) = (decide (t ≤ (xs.length : Int)) && decide ((xs.length : Int) ≤ t) && xs.all fun d => isNum d 0 (p - 1))
    have : decide ((xs.length : Int) = t) = (decide (t ≤ (xs.length : Int)) && decide ((xs.length : Int) ≤ t)) := by
      rw [Bool.eq_iff_iff]
      simp
      omega
    rw [this]
  | _ => rfl
theorem worths_are (p t : Int) (rows : List D) : goodWorths p t (.tup rows) = (decide ((rows.length : Int) = p) && rows.all fun r => areInts r t t 0 1000000000000) := by
  show (decide ((rows.length : Int) = p) && rows.all (fun r => isTupN r t t) && (rows.flatMap tupItems).all fun d => isNum d 0 1000000000000) = _
  rw [Bool.and_assoc]
  congr 1
  induction rows with
  | nil => rfl
  | cons r rows ih =>
    rw [List.all_cons, List.flatMap_cons, List.all_append, List.all_cons]
    have e : areInts r t t 0 1000000000000 = (isTupN r t t && (tupItems r).all fun d => isNum d 0 1000000000000) := by
      cases r <;> rfl
    rw [e, ← ih]
    cases isTupN r t t <;> cases (tupItems r).all (fun d => isNum d 0 1000000000000) <;> simp
section
variable {N L m : Nat}
theorem r_law_is_case {v : D} (hv : bd L m v = true) (hm : m < 59) (n : Nat) : run T N (n + 4) 39 [v] = pure (.bl (isCase v)) := by
  rw [run_at (f := 39) (df := d__law_is_case) rfl rfl rfl]
  unfold d__law_is_case
  cases v with
  | tup xs =>
    obtain ⟨k, hk, _, hx⟩ := bd_tup hv
    by_cases h3 : xs.length = 3
    · match xs, h3, hx with
      | [p, t, s], _, hx =>
        have hp := r_law_is_int (N := N) (hx p (by simp)) 2 3 (n + 2)
        have ht := r_law_is_int (N := N) (hx t (by simp)) 2 5 (n + 2)
        have hs := hx s (by simp)
        simp -implicitDefEqProofs [place0, hp]
        cases hn : isNum p 2 3 with
        | false => simp -implicitDefEqProofs [isCase, hn]
        | true =>
          simp -implicitDefEqProofs [place1, place2, ht]
          cases hq : isNum t 2 5 with
          | false => simp -implicitDefEqProofs [isCase, hn, hq]
          | true =>
            simp -implicitDefEqProofs [place1, place2]
            cases s with
            | tup ss =>
              obtain ⟨k', hk', _, hss⟩ := bd_tup hs
              simp -implicitDefEqProofs
              by_cases h8 : 8 < (ss.length : Int)
              · have e : isTupN (.tup ss) 0 8 = false := by simp [isTupN]; omega
                simp -implicitDefEqProofs [h8, isCase, hn, hq, e]
              · have e : isTupN (.tup ss) 0 8 = true := by simp [isTupN]; omega
                obtain ⟨pi, rfl⟩ := num_int hn
                obtain ⟨ti, rfl⟩ := num_int hq
                simp -implicitDefEqProofs [h8]
                rw [lcM_pure (g := fun d => if isSaying d pi ti = true then none else some d)]
                · have hb : ∀ d ∈ (ss.filterMap fun d => if isSaying d pi ti = true then none else some d), bd L k' d = true := by
                    intro d hd
                    obtain ⟨x, hx1, hx2⟩ := List.mem_filterMap.mp hd
                    split at hx2
                    · cases hx2
                    · cases hx2
                      exact hss _ hx1
                  have e2 := fun S => eqD_nilL (S := S) hb (by omega)
                  simp -implicitDefEqProofs only [noX_pure, ret_bind, e2, Option.map_some, ask_some]
                  rw [filter_empty (fun d => isSaying d pi ti) ss]
                  simp -implicitDefEqProofs [isCase, hn, hq, e, numD]
                · intro d hd
                  have := r_law_is_claim (N := N) (hss d hd) (by omega) pi ti (.tup ss) n
                  simp -implicitDefEqProofs [this]
                  cases isSaying d pi ti <;> rfl
            | scr _ => cases k <;> cases hs
            | ref _ => cases k <;> cases hs
            | gf _ => cases k <;> cases hs
            | exn _ _ => cases k <;> cases hs
            | _ => simp -implicitDefEqProofs [isCase, isTupN]
    · have e : isCase (.tup xs) = false := by
        unfold isCase
        split
        · rename_i h; cases h; simp at h3
        · rfl
      have h5 : ((xs.length : Int) == 3) = false := by simp; omega
      simp -implicitDefEqProofs [e, h5]
  | scr _ => cases m <;> cases hv
  | ref _ => cases m <;> cases hv
  | gf _ => cases m <;> cases hv
  | exn _ _ => cases m <;> cases hv
  | _ => simp -implicitDefEqProofs [isCase]
theorem fold_good (f : D → Bool) : ∀ (ds : List D) (a : Bool × Option D), (ds.foldl (fun a d => (a.1 && f d, some d)) a).1 = (a.1 && ds.all f)
  | [], a => by simp
  | d :: ds, a => by
    rw [List.foldl_cons, fold_good f ds, List.all_cons, Bool.and_assoc]
theorem r_told (hL : L ≤ 1000) {c v : D} (hcb : bd L m c = true) (hc : isCase c = true) (hv : bd L m v = true) (hm : m < 59) (n : Nat) : run T N (n + 7) 40 [c, v] = pure (.bl true) := by
  obtain ⟨p, t, ss, e, _⟩ := case_form hc
  rw [run_at (f := 40) (df := d__law_told_right) rfl rfl rfl]
  unfold d__law_told_right
  have h17 := r_is_case (N := N) hv (n + 1)
  have h39 := r_law_is_case (N := N) hv hm (n + 2)
  have h20 := r_is_claim (N := N) hcb hc e hv n
  have h38 := r_law_is_claim (N := N) hv hm p t (.tup ss) (n + 3)
  have h19 := r_is_sharing (N := N) hcb hc e hv n
  have h37 := r_law_are_ints (N := N) hv hm t t 0 (p - 1) (n + 4)
  have h18 := r_is_worths (N := N) hL hcb hc e hv n
  rw [sharing_are] at h19
  have h37r : ∀ d : D, bd L m d = true → run T N (n + 6) 37 [d, .int t, .int t, .int 0, .int 1000000000000] = pure (.bl (areInts d t t 0 1000000000000)) := fun d hd => r_law_are_ints (N := N) hd hm t t 0 1000000000000 (n + 4)
  subst e
  generalize run T N (n + 6) = Φ at *
  simp -implicitDefEqProofs [h17, h39, h20, h38, h19, h37, place0, place1]
  cases v with
  | tup rows =>
    obtain ⟨k, hk, _, hx⟩ := bd_tup hv
    rw [worths_are] at h18
    by_cases hp : (rows.length : Int) = p
    · simp -implicitDefEqProofs [hp]
      have := forM_st (f := fun d τ => M.opt (bindP (.n 3) d τ) >>= fun τ' => eSt Φ N (.asg (.n 2) (.and (.cons (.v 2) (.cons (.call 37 (.cons (.v 3) (.cons (.ix (.v 0) (.c (.int (1)))) (.cons (.ix (.v 0) (.c (.int (1)))) (.cons (.c (.int (0))) (.cons (.op .pow (.c (.int (10))) (.c (.int (12)))) .nil)))))) .nil)))) τ') (fun a : Bool × Option D => [some (.tup [.int p, .int t, .tup ss]), some (.tup rows), some (.bl a.1), a.2]) (fun d a => (a.1 && areInts d t t 0 1000000000000, some d)) (ds := rows) (a := (true, none)) (by
        intro d hd a
        have hd' := h37r d (bd_mono (Nat.le_refl _) (by omega) (hx d hd))
        obtain ⟨g, x⟩ := a
        simp -implicitDefEqProofs [place1, hd']
        cases g <;> simp -implicitDefEqProofs)
      simp -implicitDefEqProofs at this
      rw [this]
      have hf := fold_good (fun d => areInts d t t 0 1000000000000) rows (true, none)
      simp -implicitDefEqProofs [h18, hp, hf]
    · have hp2 : ((rows.length : Int) == p) = false := beq_eq_false_iff_ne.mpr hp
      simp -implicitDefEqProofs [hp, hp2, h18]
  | scr _ => cases m <;> cases hv
  | ref _ => cases m <;> cases hv
  | gf _ => cases m <;> cases hv
  | exn _ _ => cases m <;> cases hv
  | _ =>
    simp [goodWorths] at h18
    simp -implicitDefEqProofs [h18]
end
end K01
end Hc
end
section
set_option Elab.async false
set_option linter.all false
set_option maxRecDepth 100000
set_option autoImplicit false
namespace Hc
open PySem
namespace K01
def srcRest : St := .seq (.ite (.op .lt (.v 2) (.op .pow (.c (.int (10))) (.c (.int (18))))) (.ret (.lst true (.cons (.c (.int (0))) (.cons (.op .add (.c (.int (1))) (.op .mod (.bi .int (.cons (.op .add (.op .mul (.v 2) (.c (.int (7919)))) (.op .mul (.c (.int (104729))) (.v 1))) .nil)) (.c (.int (2147483646))))) .nil)))) .skip) (.ret (.lst true (.cons (.v 2) (.cons (.op .add (.c (.int (1))) (.op .mod (.bi .int (.cons (.op .add (.v 2) (.v 1)) .nil)) (.c (.int (2147483646))))) .nil))))
section
variable {N L m : Nat}
theorem src_new {S : Store} {a b : Int} (ha : 0 ≤ a) (hb : 0 ≤ b) (hb2 : b < 2147483647) : Src (S ++ [.ml [.int a, .int b]]) S.length := ⟨a, b, by simp, ha, hb, hb2⟩
theorem r_source {S : Store} (ns : List Int) {k : Nat} (hk : k ≤ 10) (n : Nat) {P : D → Store → Prop} (hp : ∀ S', Src S' S.length → P (.ref S.length) S') : wp (run T N (n + 1) 23 [.scr ns, .int (k : Int)]) S P := by
  rw [run_at (f := 23) (df := d__law_source) rfl rfl rfl]
  unfold d__law_source
  have m0 : mulOk 104729 (k : Int) = true := mul_ok (by decide) _
  have go : ∀ cell : Int, 0 ≤ cell → wp (eSt (run T N n) N srcRest [some (.scr ns), some (.int (k : Int)), some (.int cell)]) S (fun a S' => match a with
      | .nx _ => P .non S'
      | .rt v => P v S') := by
    intro cell hc
    unfold srcRest
    simp -implicitDefEqProofs
    split
    · rename_i h
      have m1 : mulOk cell 7919 = true := mul_ok (by omega) _
      rw [if_pos m1]
      simp only [op2_add, biD_int, op2_mod]
      rw [if_neg (by omega)]
      simp only [op2_add]
      have f1 := Int.fmod_nonneg_of_pos (cell * 7919 + 104729 * (k : Int)) (show (0 : Int) < 2147483646 by omega)
      have f2 := Int.fmod_lt_of_pos (cell * 7919 + 104729 * (k : Int)) (show (0 : Int) < 2147483646 by omega)
      exact hp _ (src_new (by omega) (by omega) (by omega))
    · have f1 := Int.fmod_nonneg_of_pos (cell + (k : Int)) (show (0 : Int) < 2147483646 by omega)
      have f2 := Int.fmod_lt_of_pos (cell + (k : Int)) (show (0 : Int) < 2147483646 by omega)
      exact hp _ (src_new hc (by omega) (by omega))
  show wp (endM (eSt (run T N n) N (.seq (.asg (.n 2) (.c (.int (0)))) (.seq (.ite (.op .lt (.v 1) (.bi .len (.cons (.v 0) .nil))) (.asg (.n 2) (.bi .abs (.cons (.bi .int (.cons (.ix (.v 0) (.v 1)) .nil)) .nil))) .skip) srcRest)) (startE 3 [.scr ns, .int (k : Int)]))) S P
  generalize srcRest = B at *
  simp -implicitDefEqProofs
  split
  · rename_i h
    have hpl : placeOf ns.length (k : Int) = some k := place_lit h
    simp -implicitDefEqProofs [hpl, h]
    refine wp_mono (go _ (by split <;> omega)) fun a S' h => ?_
    cases a <;> simpa using h
  · refine wp_mono (go 0 (by omega)) fun a S' h => ?_
    cases a <;> simpa using h
/-- one of several -/
theorem r_of {S : Store} {k : Nat} (hs : Src S k) {xs : List D} (h1 : xs ≠ []) (h2 : xs.length < 1000000) (n : Nat) {P : D → Store → Prop} (hp : ∀ d S', d ∈ xs → Src S' k → P d S') : wp (run T N (n + 2) 25 [.ref k, .lst xs]) S P := by
  rw [run_at (f := 25) (df := d__law_of) rfl rfl rfl]
  unfold d__law_of
  have hl : 0 < xs.length := List.length_pos_iff.mpr h1
  simp -implicitDefEqProofs
  refine r_draw hs (by omega) (by omega) n fun r S' h3 h4 h5 => ?_
  have hpl : placeOf xs.length r = some r.toNat := place_in h3 h4
  have hr : r.toNat < xs.length := by omega
  simp -implicitDefEqProofs [hpl, hr]
  exact hp _ _ (List.getElem_mem hr) h5
/-- a lot -/
theorem asc_of {l : List Int} (h : l.Pairwise (· < ·)) : asc l = true := by
  unfold asc
  cases l with
  | nil => rfl
  | cons x l =>
    induction l generalizing x with
    | nil => rfl
    | cons y l ih =>
      rw [List.pairwise_cons] at h
      have := ih y h.2
      simp only [List.tail_cons] at this
      simp only [List.tail_cons, List.zip_cons_cons, List.all_cons, this, Bool.and_true, decide_eq_true_eq]
      exact h.1 y (by simp)
theorem sub_lot {t : Nat} (ht : t ≤ 5) {r : List D} (h : r.Sublist (rangeD 0 (t : Int))) : isLot (.tup r) (t : Int) = true := by
  rw [rangeD_zero] at h
  obtain ⟨l, hl, rfl⟩ := List.sublist_map_iff.mp h
  have hlen : l.length ≤ t := by have := hl.length_le; simpa using this
  unfold isLot
  simp only [Bool.and_eq_true, decide_eq_true_eq, List.length_map]
  refine ⟨⟨by omega, List.all_eq_true.mpr fun d hd => ?_⟩, ?_⟩
  · obtain ⟨x, hx, rfl⟩ := List.mem_map.mp hd
    have := List.mem_range.mp (hl.subset hx)
    simp [isNum]
    omega
  · rw [List.map_map]
    refine asc_of ?_
    have hp : l.Pairwise (· < ·) := List.Pairwise.sublist hl List.pairwise_lt_range
    rw [List.pairwise_map]
    refine hp.imp fun {a b} h => ?_
    show (a : Int) < (b : Int)
    omega
theorem r_lot {S : Store} {k : Nat} (hs : Src S k) {t : Nat} (ht : t ≤ 5) (n : Nat) {P : D → Store → Prop} (hp : ∀ d S', isLot d (t : Int) = true → Src S' k → P d S') : wp (run T N (n + 2) 28 [.ref k, .int (t : Int)]) S P := by
  rw [run_at (f := 28) (df := d__law_lot) rfl rfl rfl]
  unfold d__law_lot
  simp -implicitDefEqProofs [rng_ok (show t ≤ 1000 by omega)]
  refine wp_lcM_sub (J := fun S => Src S k) hs (fun d _ S1 h1 => ?_) fun r S1 h1 h2 => hp _ _ (sub_lot ht h2) h1
  simp -implicitDefEqProofs
  refine r_draw h1 (by omega) (by omega) n fun r S' h3 h4 h5 => ?_
  simp -implicitDefEqProofs
  exact h5
theorem r_owners {S : Store} {k : Nat} (hs : Src S k) {p : Int} {t : Nat} (hp1 : 1 ≤ p) (hp2 : p ≤ 3) (ht : t ≤ 5) (s : D) (n : Nat) {P : D → Store → Prop} (hp : ∀ os : List Int, ∀ S', os.length = t → (∀ o ∈ os, 0 ≤ o ∧ o < p) → Src S' k → P (.tup (os.map .int)) S') : wp (run T N (n + 2) 35 [.ref k, .tup [.int p, .int (t : Int), s]]) S P := by
  rw [run_at (f := 35) (df := d__law_owners) rfl rfl rfl]
  unfold d__law_owners
  simp -implicitDefEqProofs [place0, place1, rng_ok (show t ≤ 1000 by omega)]
  refine wp_lcM_each (J := fun S => Src S k) (Q := fun d => isNum d 0 (p - 1) = true) hs (fun d _ S1 h1 => ?_) fun r S1 h1 h2 h3 => ?_
  · simp -implicitDefEqProofs [place0]
    refine r_draw h1 hp1 (by omega) n fun r S' h3 h4 h5 => ?_
    simp -implicitDefEqProofs [h5, isNum]
    omega
  · have e := ints_of (List.all_eq_true.mpr h3)
    rw [e]
    refine hp _ _ (by rw [List.length_map, h2]; simp [rangeD]) (fun o ho => ?_) h1
    obtain ⟨d, hd, rfl⟩ := List.mem_map.mp ho
    have := h3 d hd
    obtain ⟨i, rfl⟩ := num_int this
    simp [isNum] at this
    exact ⟨this.1, by show i < p; omega⟩
end
end K01
end Hc
end
section
set_option Elab.async false
set_option linter.all false
set_option maxRecDepth 100000
set_option autoImplicit false
namespace Hc
open PySem
namespace K01
def okRow (t : Nat) (r : List Int) : Prop := r.length = t ∧ ∀ x ∈ r, 0 ≤ x ∧ x ≤ 11
theorem rangeD_len (t : Nat) : (rangeD 0 (t : Int)).length = t := by simp [rangeD]
section
variable {N L m : Nat}
theorem r_worths {S : Store} {k : Nat} (hs : Src S k) {p t : Nat} (hp0 : p ≤ 10) (ht : t ≤ 10) (n : Nat) {P : D → Store → Prop} (hp : ∀ rs : List (List Int), ∀ S', rs.length = p → (∀ r ∈ rs, okRow t r) → Src S' k → P (.tup (rs.map rowD)) S') : wp (run T N (n + 3) 29 [.ref k, .int (p : Int), .int (t : Int)]) S P := by
  rw [run_at (f := 29) (df := d__law_worths) rfl rfl rfl]
  unfold d__law_worths
  simp -implicitDefEqProofs [rng_ok (show p ≤ 1000 by omega)]
  refine wp_forM (fun rem σ S => Src S k ∧ ∃ (rs : List (List Int)) (x4 x5 x6 : Option D), σ = [some (.ref k), some (.int p), some (.int t), some (.tup (rs.map rowD)), x4, x5, x6] ∧ rs.length + rem.length = p ∧ ∀ r ∈ rs, okRow t r) ⟨hs, [], none, none, none, rfl, (Nat.zero_add _).trans (rangeD_len p), fun r h => by cases h⟩ ?_ ?_
  · intro d rem σ S1 hI
    obtain ⟨h1, rs, x4, x5, x6, e, hl, hr⟩ := hI
    subst e
    simp -implicitDefEqProofs [rng_ok (show t ≤ 1000 by omega)]
    refine wp_forM (fun rem σ S => Src S k ∧ ∃ (r : List Int) (y : Option D), σ = [some (.ref k), some (.int p), some (.int t), some (.tup (rs.map rowD)), some d, some (.tup (r.map .int)), y] ∧ r.length + rem.length = t ∧ ∀ x ∈ r, 0 ≤ x ∧ x ≤ 11) ⟨h1, [], x6, rfl, (Nat.zero_add _).trans (rangeD_len t), fun r h => by cases h⟩ ?_ ?_
    · intro d2 rem2 σ2 S2 hI
      obtain ⟨h2, r, y, e, hl2, hr2⟩ := hI
      subst e
      simp only [wp_bind, wp_opt, wp_pure, List.getElem?_cons_succ, List.getElem?_cons_zero, Option.join_some, List.set_cons_succ, List.set_cons_zero]
      refine r_draw h2 (by omega) (by omega) (n + 1) fun i S3 h3 h4 h5 => ?_
      refine r_of h5 (by simp) (by simp) n fun v S4 hv h6 => ?_
      have hv' : ∃ j : Int, v = .int j ∧ 0 ≤ j ∧ j ≤ 11 := by
        simp at hv
        rcases hv with h | h | h | h | h | h | h <;> exact ⟨_, h, by omega, by omega⟩
      obtain ⟨j, rfl, j1, j2⟩ := hv'
      have hlen : lenOk (r.length + 1) = true := by
        unfold lenOk
        simp at hl2
        simp
        omega
      simp only [wp_ask, op2_addT, List.length_map, List.length_cons, List.length_nil, Nat.zero_add, hlen, if_true]
      refine ⟨h6, r ++ [j], some d2, by simp, by simp at hl2 ⊢; omega, fun x hx => ?_⟩
      rcases List.mem_append.mp hx with hx | hx
      · exact hr2 x hx
      · rw [List.mem_singleton.mp hx]; exact ⟨j1, j2⟩
    · intro σ2 S2 hI
      obtain ⟨h2, r, y, e, hl2, hr2⟩ := hI
      subst e
      have hlen : lenOk (rs.length + 1) = true := by
        unfold lenOk
        simp at hl
        simp
        omega
      simp only [wp_bind, wp_opt, wp_pure, List.getElem?_cons_succ, List.getElem?_cons_zero, Option.join_some, List.set_cons_succ, List.set_cons_zero, wp_ask, op2_addT, List.length_map, List.length_cons, List.length_nil, Nat.zero_add, hlen, if_true]
      refine ⟨h2, rs ++ [r], ⟨some d, some (.tup (r.map .int)), y, by simp [rowD]⟩, by simp at hl ⊢; omega, fun r' hr' => ?_⟩
      rcases List.mem_append.mp hr' with hx | hx
      · exact hr r' hx
      · rw [List.mem_singleton.mp hx]; exact ⟨by simpa using hl2, hr2⟩
  · intro σ S1 hI
    obtain ⟨h1, rs, x4, x5, x6, e, hl, hr⟩ := hI
    subst e
    simp -implicitDefEqProofs
    exact hp rs S1 (by simpa using hl) hr h1
end
end K01
end Hc
end
section
set_option Elab.async false
set_option linter.all false
set_option maxRecDepth 100000
set_option autoImplicit false
namespace Hc
open PySem
namespace K01
section
variable {N L m : Nat}
theorem r_lot' {S : Store} {k : Nat} (hs : Src S k) {t : Nat} (ht : t ≤ 5) (n : Nat) {P : D → Store → Prop} (hp : ∀ (xs : List Int) S', isLot (.tup (xs.map .int)) (t : Int) = true → Src S' k → P (.tup (xs.map .int)) S') : wp (run T N (n + 2) 28 [.ref k, .int (t : Int)]) S P := by
  refine r_lot hs ht n ?_
  intro d S' h1 h2
  have h := lot_form (v := d) h1
  cases d with
  | tup xs =>
    obtain ⟨ys, e⟩ := h
    rw [e] at h1 ⊢
    exact hp ys S' h1 h2
  | _ =>
    obtain ⟨ys, e⟩ := h
    cases e
theorem mem3 {d : D} (h : d ∈ [D.str "more", D.str "atleast", D.str "same"]) : isWord d = true := by
  simp at h
  rcases h with h | h | h <;> (subst h; decide +kernel)
theorem r_saying {S : Store} {k : Nat} (hs : Src S k) {rs : List (List Int)} {p t : Nat} (hp1 : 1 ≤ p) (hp2 : p ≤ 3) (ht : t ≤ 5) (hlen : rs.length = p) (hr : ∀ r ∈ rs, r.length = t) (n : Nat) {P : D → Store → Prop} (hp : ∀ d S', isSaying d (p : Int) (t : Int) = true → Src S' k → P d S') : wp (run T N (n + 3) 30 [.ref k, .tup (rs.map rowD)]) S P := by
  rw [run_at (f := 30) (df := d__law_saying) rfl rfl rfl]
  unfold d__law_saying
  obtain ⟨r0, rs', rfl⟩ : ∃ r0 rs', rs = r0 :: rs' := by
    cases rs with
    | nil => simp at hlen; omega
    | cons a b => exact ⟨a, b, rfl⟩
  have h0 : r0.length = t := hr r0 (by simp)
  generalize hrs : r0 :: rs' = rs at *
  simp -implicitDefEqProofs
  refine r_draw hs (by omega) (by omega) (n + 1) fun a S1 a1 a2 h1 => ?_
  have hz : rs[0]? = some r0 := by rw [← hrs]; rfl
  have hpl0 : placeOf rs.length 0 = some 0 := by
    unfold placeOf
    rw [if_pos (by omega), if_pos (by omega)]
    rfl
  have ha : a.toNat < rs.length := by omega
  have hpla : placeOf rs.length a = some a.toNat := place_in a1 (by omega)
  have hl0 : ∀ S, lenD S (rowD r0) = some t := fun S => by simp [rowD, h0]
  simp -implicitDefEqProofs [hpl0, hz, hl0]
  refine r_lot' h1 ht (n) fun xs S2 x1 h2 => ?_
  refine r_lot' h2 ht (n) fun ys S3 y1 h3 => ?_
  have hrow : rowD rs[a.toNat] = .tup (rs[a.toNat].map .int) := rfl
  have e1 := r_law_line (N := N) xs ys t (by omega) (n + 1)
  have e2 := r_law_sum (N := N) (lineI xs ys t) rs[a.toNat] line_small (n + 1)
  have sayOk : ∀ w u v : D, isWord w = true → isLot u (t : Int) = true → isLot v (t : Int) = true → isSaying (.tup [.int a, w, u, v]) (p : Int) (t : Int) = true := fun w u v hw hu hv => by
    have hn : isNum (.int a) 0 ((p : Int) - 1) = true := by simp [isNum]; omega
    simp [isSaying, hn, hw, hu, hv]
  rw [e1]
  simp -implicitDefEqProofs [hpla, ha]
  rw [hrow, e2]
  simp only [wp_pure]
  refine r_draw h3 (by omega) (by omega) (n + 1) fun z S4 z1 z2 h4 => ?_
  have w2 : isWord (.str "atleast") = true := by decide +kernel
  have w3 : isWord (.str "same") = true := by decide +kernel
  have w1 : isWord (.str "more") = true := by decide +kernel
  generalize dot (lineI xs ys t) rs[a.toNat] = far
  simp -implicitDefEqProofs
  split
  · refine r_of h4 (by simp) (by simp) n fun w S5 hw h5 => hp _ _ (sayOk _ _ _ (mem3 hw) x1 y1) h5
  · have fin : ∀ u v : D, isLot u (t : Int) = true → isLot v (t : Int) = true → (if far = 0 then wp (run T N (n + 2) 25 [.ref k, .lst [.str "same", .str "atleast"]]) S4 fun w S' => P (.tup [.int a, w, u, v]) S' else wp (run T N (n + 2) 25 [.ref k, .lst [.str "more", .str "more", .str "atleast"]]) S4 fun w S' => P (.tup [.int a, w, u, v]) S') := by
      intro u v hu hv
      split
      · refine r_of h4 (by simp) (by simp) n fun w S5 hw h5 => hp _ _ (sayOk _ _ _ ?_ hu hv) h5
        simp at hw
        rcases hw with h | h <;> (rw [h]; assumption)
      · refine r_of h4 (by simp) (by simp) n fun w S5 hw h5 => hp _ _ (sayOk _ _ _ ?_ hu hv) h5
        simp at hw
        rcases hw with h | h <;> (rw [h]; assumption)
    split
    · exact fin _ _ y1 x1
    · exact fin _ _ x1 y1
end
end K01
end Hc
end
section
set_option Elab.async false
set_option linter.all false
set_option maxRecDepth 100000
set_option autoImplicit false
namespace Hc
open PySem
namespace K01
section
variable {N L m : Nat}
theorem r_case {S : Store} {k : Nat} (hs : Src S k) (n : Nat) {P : D → Store → Prop} (hp : ∀ (p t : Nat) (ss : List D) S', 2 ≤ p → p ≤ 3 → 2 ≤ t → t ≤ 4 → ss.length ≤ 8 → (∀ s ∈ ss, isSaying s (p : Int) (t : Int) = true) → Src S' k → P (.tup [.int (p : Int), .int (t : Int), .tup ss]) S') : wp (run T N (n + 4) 31 [.ref k, .int 8]) S P := by
  rw [run_at (f := 31) (df := d__law_case) rfl rfl rfl]
  unfold d__law_case
  simp -implicitDefEqProofs
  refine r_of hs (by simp) (by simp) (n + 1) fun d S1 hd h1 => ?_
  have hd' : ∃ p t : Nat, d = .tup [.int (p : Int), .int (t : Int)] ∧ 2 ≤ p ∧ p ≤ 3 ∧ 2 ≤ t ∧ t ≤ 4 := by
    simp at hd
    rcases hd with h | h | h | h | h
    · exact ⟨2, 2, h, by omega, by omega, by omega, by omega⟩
    · exact ⟨2, 3, h, by omega, by omega, by omega, by omega⟩
    · exact ⟨2, 4, h, by omega, by omega, by omega, by omega⟩
    · exact ⟨3, 3, h, by omega, by omega, by omega, by omega⟩
    · exact ⟨3, 4, h, by omega, by omega, by omega, by omega⟩
  obtain ⟨p, t, e, p1, p2, t1, t2⟩ := hd'
  subst e
  simp -implicitDefEqProofs
  refine r_worths h1 (by omega) (by omega) n fun rs S2 hl hr h2 => ?_
  refine r_draw h2 (by omega) (by omega) (n + 2) fun r S3 r1 r2 h3 => ?_
  have hrng : rngOk 0 r = true := by
    unfold rngOk
    simp
    omega
  have hrl : (rangeD 0 r).length ≤ 8 := by simp [rangeD]; omega
  simp -implicitDefEqProofs [hrng]
  refine wp_forM (fun rem σ S => Src S k ∧ ∃ (ss : List D) (x : Option D), σ = [some (.ref k), some (.int 8), x, some (.int p), some (.int t), some (.tup (rs.map rowD)), some (.tup ss)] ∧ ss.length + rem.length ≤ 8 ∧ ∀ s ∈ ss, isSaying s (p : Int) (t : Int) = true) ⟨h3, [], none, rfl, by simpa using hrl, fun s h => by cases h⟩ ?_ ?_
  · intro d rem σ S4 hI
    obtain ⟨h4, ss, x, e, hlen, hss⟩ := hI
    subst e
    simp only [wp_bind, wp_opt, wp_pure, bindP, eSt, eE, eEs, List.getElem?_cons_succ, List.getElem?_cons_zero, Option.join_some, List.set_cons_succ, List.set_cons_zero]
    refine r_saying h4 (by omega) p2 (by omega) hl (fun r hr' => (hr r hr').1) n fun s S5 s1 h5 => ?_
    have hlo : lenOk (ss.length + 1) = true := by
      unfold lenOk
      simp at hlen
      simp
      omega
    simp only [wp_ask, op2_addT, List.length_cons, List.length_nil, Nat.zero_add, hlo, if_true]
    refine ⟨h5, ss ++ [s], some d, by simp, by simp at hlen ⊢; omega, fun s' hs' => ?_⟩
    rcases List.mem_append.mp hs' with h | h
    · exact hss s' h
    · rw [List.mem_singleton.mp h]; exact s1
  · intro σ S4 hI
    obtain ⟨h4, ss, x, e, hlen, hss⟩ := hI
    subst e
    simp -implicitDefEqProofs
    exact hp p t ss S4 p1 p2 t1 t2 (by simpa using hlen) hss h4
theorem r_odd {S : Store} {k : Nat} (hs : Src S k) (n : Nat) {P : D → Store → Prop} (hp : ∀ d S', bd 5 2 d = true → Src S' k → P d S') : wp (run T N (n + 3) 41 [.ref k]) S P := by
  rw [run_at (f := 41) (df := d__law_odd) rfl rfl rfl]
  unfold d__law_odd
  have hlo : ∀ i j : Nat, i ≤ 100 → j ≤ 100 → lenOk (i + j) = true := fun i j hi hj => by unfold lenOk; simp; omega
  simp -implicitDefEqProofs [show lenOk 24 = true by decide]
  refine r_of hs (by simp) (by simp) n fun d S1 hd h1 => hp d S1 ?_ h1
  have all : ([D.non, .bl true, .bl false, .int 0, .int 1, .int 2, .int 3, .int 5, .int 7, .int (-1), .str "", .str "more", .str "same", .tup [], .lst [], .tup [.int 0], .tup [.int 1, .int 0], .tup [.int 0, .int 1], .int 1000000000000, .int 10000000000000, .tup [.int 0, .str "same", .tup [], .tup []], .tup [.int 0, .int 0, .int 0], .tup [.tup [.int 1, .int 2], .tup [.int 3, .int 4]], .str "atleast"] : List D).all (bd 5 2) = true := by decide +kernel
  exact List.all_eq_true.mp all d (by simpa using hd)
end
end K01
end Hc
end
section
set_option Elab.async false
set_option linter.all false
set_option maxRecDepth 100000
set_option autoImplicit false
set_option maxHeartbeats 0
namespace Hc
open PySem
namespace K01
section
variable {N L : Nat}
theorem spoilt_tup {L m : Nat} {ys : List D} (h1 : ys.length ≤ L + 1) (h2 : ∀ d ∈ ys, bd (L + 1) (m + 2) d = true) : bd (L + 1) (m + 3) (.tup ys) = true := bd_mk h1 h2
theorem r_spoilt (hL5 : 5 ≤ L) (hL : L ≤ 1000) {k : Nat} : ∀ (m : Nat) {v : D} {S : Store} (n : Nat) {P : D → Store → Prop}, m < 50 → bd L m v = true → Src S k → (∀ d S', bd (L + 1) (m + 2) d = true → Src S' k → P d S') → wp (run T N (n + m + 4) 42 [.ref k, v]) S P
  | m, v, S, n, P, hm, hv, hs, hp => by
    have odd : ∀ {S : Store}, Src S k → wp (run T N (n + m + 3) 41 [.ref k]) S P := fun h => r_odd h (n + m) fun d S' h1 h2 => hp d S' (bd_mono (by omega) (by omega) h1) h2
    rw [show n + m + 4 = (n + m + 3) + 1 from rfl, run_at (f := 42) (df := d__law_spoilt) rfl rfl rfl]
    unfold d__law_spoilt
    cases v with
    | tup xs =>
      obtain ⟨m', em, hlen, hx⟩ := bd_tup hv
      subst em
      have e0 := fun S => eqD_nilT (S := S) hx (by omega)
      have rec42 : ∀ {x : D} {S : Store} {Q : D → Store → Prop}, bd L m' x = true → Src S k → (∀ d S', bd (L + 1) (m' + 2) d = true → Src S' k → Q d S') → wp (run T N (n + (m' + 1) + 3) 42 [.ref k, x]) S Q := fun h1 h2 h3 => r_spoilt hL5 hL m' n (by omega) h1 h2 h3
      have draw : ∀ {S : Store} {Q : D → Store → Prop} (many : Int), 1 ≤ many → many < 2000 → Src S k → (∀ r S', 0 ≤ r → r < many → Src S' k → Q (.int r) S') → wp (run T N (n + (m' + 1) + 3) 24 [.ref k, .int many]) S Q := fun many h1 h2 h3 h4 => r_draw h3 h1 (by omega) (n + (m' + 1) + 2) h4
      have odd2 : ∀ {S : Store} {Q : D → Store → Prop}, Src S k → (∀ d S', bd 5 2 d = true → Src S' k → Q d S') → wp (run T N (n + (m' + 1) + 3) 41 [.ref k]) S Q := fun h1 h2 => r_odd h1 (n + (m' + 1)) h2
      generalize run T N (n + (m' + 1) + 3) = Φ at *
      cases hxe : xs.isEmpty with
      | true =>
        simp -implicitDefEqProofs [e0, hxe]
        exact odd hs
      | false =>
        have hpos : 0 < xs.length := by
          cases xs with
          | nil => cases hxe
          | cons _ _ => simp
        simp -implicitDefEqProofs [e0, hxe]
        refine draw 6 (by omega) (by omega) hs fun r S1 r1 r2 h1 => ?_
        simp -implicitDefEqProofs
        split
        · exact odd h1
        · refine draw _ (by omega) (by omega) h1 fun a S2 a1 a2 h2 => ?_
          refine draw 9 (by omega) (by omega) h2 fun b S3 b1 b2 h3 => ?_
          obtain ⟨i, hi⟩ : ∃ i : Nat, a = (i : Int) := ⟨a.toNat, by omega⟩
          subst hi
          have hil : i < xs.length := by omega
          have c1 : cutOf xs none (some (i : Int)) = xs.take i := cut_to xs i
          have c2 : cutOf xs (some (i : Int)) none = xs.drop i := cut_from xs i
          have c3 : cutOf xs none (some ((i : Int) + 1)) = xs.take (i + 1) := cut_to xs (i + 1)
          have c4 : cutOf xs (some ((i : Int) + 1)) none = xs.drop (i + 1) := cut_from xs (i + 1)
          have hpl : placeOf xs.length (i : Int) = some i := place_lit hil
          have hok : ∀ j : Nat, j ≤ 2002 → lenOk j = true := fun j hj => by unfold lenOk; simp; omega
          have up : ∀ {d : D}, bd L m' d = true → bd (L + 1) (m' + 2) d = true := fun h => bd_mono (by omega) (by omega) h
          have tk : ∀ {j : Nat} {d : D}, d ∈ xs.take j → bd (L + 1) (m' + 2) d = true := fun h => up (hx _ (List.mem_of_mem_take h))
          have dr : ∀ {j : Nat} {d : D}, d ∈ xs.drop j → bd (L + 1) (m' + 2) d = true := fun h => up (hx _ (List.mem_of_mem_drop h))
          have fin : ∀ {ys : List D} {S : Store}, ys.length ≤ L + 1 → (∀ d ∈ ys, bd (L + 1) (m' + 2) d = true) → Src S k → P (.tup ys) S := fun h1 h2 h3 => hp _ _ (spoilt_tup h1 h2) h3
          have mid : ∀ {d : D} {S : Store} {j : Nat}, i ≤ j → j ≤ i + 1 → bd (L + 1) (m' + 2) d = true → Src S k → P (.tup (xs.take i ++ d :: xs.drop j)) S := fun {d S j} hj hj2 hd h => by
            refine fin (by simp; omega) (fun y hy => ?_) h
            rcases List.mem_append.mp hy with hy | hy
            · exact tk hy
            · rcases List.mem_cons.mp hy with hy | hy
              · rw [hy]; exact hd
              · exact dr hy
          have l1 : min i xs.length + (xs.length - (i + 1)) ≤ 2002 := by omega
          simp -implicitDefEqProofs [c1, c2, c3, c4, hpl, hil]
          have two : ∀ {j : Nat} {d : D} (S : Store), i ≤ j → j ≤ i + 1 → op2 S .add (.tup (xs.take i ++ [d])) (.tup (xs.drop j)) = some (.tup (xs.take i ++ d :: xs.drop j)) := fun {j d} S hj hj2 => by
            rw [op2_addT, if_pos (hok _ (by simp; omega)), List.append_assoc]
            rfl
          have ok1 : lenOk (min i xs.length + 1) = true := hok _ (by omega)
          split
          · rw [if_pos (hok _ (by omega))]
            refine fin (by simp; omega) (fun y hy => ?_) h3
            rcases List.mem_append.mp hy with hy | hy
            · exact tk hy
            · exact dr hy
          · split
            · rw [if_pos (hok _ (by omega))]
              refine fin (by simp; omega) (fun y hy => ?_) h3
              rcases List.mem_append.mp hy with hy | hy
              · exact tk hy
              · exact dr hy
            · split
              · refine odd2 h3 fun d S4 hd h4 => ?_
                dsimp only
                rw [two S4 (Nat.le_refl _) (by omega)]
                exact mid (Nat.le_refl _) (by omega) (bd_mono (by omega) (by omega) hd) h4
              · split
                · exact hp _ _ (bd_mkL (by omega) fun d hd => up (hx d hd)) h3
                · have hxi := hx xs[i] (List.getElem_mem hil)
                  generalize xs[i] = x at *
                  cases x with
                  | int j =>
                    simp only [isTy_int, Option.map_some, asB_bl, wp_pure, if_true]
                    split
                    · refine draw 3 (by omega) (by omega) h3 fun r S4 r1 r2 h4 => ?_
                      simp only [op2_add, op2_sub]
                      rw [two S4 (by omega) (Nat.le_refl _)]
                      exact mid (d := .int _) (by omega) (Nat.le_refl _) rfl h4
                    · exact rec42 hxi h3 fun d S4 hd h4 => (by rw [two S4 (by omega) (Nat.le_refl _)]; exact mid (by omega) (Nat.le_refl _) hd h4)
                  | bl j =>
                    simp only [isTy_bl, Option.map_some, asB_bl, wp_pure, if_true]
                    split
                    · refine draw 3 (by omega) (by omega) h3 fun r S4 r1 r2 h4 => ?_
                      simp only [op2_addb, op2_sub]
                      rw [two S4 (by omega) (Nat.le_refl _)]
                      exact mid (d := .int _) (by omega) (Nat.le_refl _) rfl h4
                    · exact rec42 hxi h3 fun d S4 hd h4 => (by rw [two S4 (by omega) (Nat.le_refl _)]; exact mid (by omega) (Nat.le_refl _) hd h4)
                  | non =>
                    simp only [isTy_non, Option.map_some, asB_bl, wp_pure, Bool.false_eq_true, if_false]
                    exact rec42 hxi h3 fun d S4 hd h4 => (by rw [two S4 (by omega) (Nat.le_refl _)]; exact mid (by omega) (Nat.le_refl _) hd h4)
                  | str _ =>
                    simp only [isTy_str, Option.map_some, asB_bl, wp_pure, Bool.false_eq_true, if_false]
                    exact rec42 hxi h3 fun d S4 hd h4 => (by rw [two S4 (by omega) (Nat.le_refl _)]; exact mid (by omega) (Nat.le_refl _) hd h4)
                  | tup _ =>
                    simp only [isTy_tup, Option.map_some, asB_bl, wp_pure, Bool.false_eq_true, if_false]
                    exact rec42 hxi h3 fun d S4 hd h4 => (by rw [two S4 (by omega) (Nat.le_refl _)]; exact mid (by omega) (Nat.le_refl _) hd h4)
                  | lst _ =>
                    simp only [isTy_lst, Option.map_some, asB_bl, wp_pure, Bool.false_eq_true, if_false]
                    exact rec42 hxi h3 fun d S4 hd h4 => (by rw [two S4 (by omega) (Nat.le_refl _)]; exact mid (by omega) (Nat.le_refl _) hd h4)
                  | scr _ => cases m' <;> cases hxi
                  | ref _ => cases m' <;> cases hxi
                  | gf _ => cases m' <;> cases hxi
                  | exn _ _ => cases m' <;> cases hxi
    | scr _ => cases m <;> cases hv
    | ref _ => cases m <;> cases hv
    | gf _ => cases m <;> cases hv
    | exn _ _ => cases m <;> cases hv
    | _ =>
      simp -implicitDefEqProofs
      exact odd hs
end
end K01
end Hc
end
section
set_option Elab.async false
set_option linter.all false
set_option maxRecDepth 100000
set_option maxHeartbeats 0
set_option autoImplicit false
namespace Hc
open PySem
namespace K01
theorem bd_ints {L : Nat} {xs : List Int} (h : xs.length ≤ L) (m : Nat) : bd L (m + 1) (.tup (xs.map .int)) = true :=
  bd_mk (by simpa using h) fun d hd => by
    obtain ⟨x, _, rfl⟩ := List.mem_map.mp hd
    cases m <;> rfl
theorem bd_saying {s : D} {p t : Int} (h : isSaying s p t = true) : bd 10 2 s = true := by
  have h' := h
  obtain ⟨a, w, xs, ys, e, _, _, _, hw⟩ := saying_form h
  subst e
  have lx : isLot (.tup (xs.map .int)) t = true := by simp [isSaying] at h'; exact h'.2.1
  have ly : isLot (.tup (ys.map .int)) t = true := by simp [isSaying] at h'; exact h'.2.2
  have len : ∀ {zs : List Int}, isLot (.tup (zs.map .int)) t = true → zs.length ≤ 10 := fun h => by
    unfold isLot at h
    simp at h
    omega
  refine bd_mk (by simp) fun d hd => ?_
  simp at hd
  rcases hd with h | h | h | h <;> subst h
  · rfl
  · exact hw
  · exact bd_ints (len lx) 0
  · exact bd_ints (len ly) 0
theorem bd_case {p t : Int} {ss : List D} (h8 : ss.length ≤ 8) (h : ∀ s ∈ ss, isSaying s p t = true) : bd 10 4 (.tup [.int p, .int t, .tup ss]) = true := by
  refine bd_mk (by simp) fun d hd => ?_
  simp at hd
  rcases hd with h | h | h <;> subst h
  · rfl
  · rfl
  · exact bd_mk (by omega) fun s hs => bd_saying (h s hs)
theorem case_ok {p t : Nat} {ss : List D} (p1 : 2 ≤ p) (p2 : p ≤ 3) (t1 : 2 ≤ t) (t2 : t ≤ 4) (h8 : ss.length ≤ 8) (h : ∀ s ∈ ss, isSaying s (p : Int) (t : Int) = true) : isCase (.tup [.int (p : Int), .int (t : Int), .tup ss]) = true := by
  have h1 : isNum (.int (p : Int)) 2 3 = true := by simp [isNum]; omega
  have h2 : isNum (.int (t : Int)) 2 5 = true := by simp [isNum]; omega
  have h3 : isTupN (.tup ss) 0 8 = true := by simp [isTupN]; omega
  have h4 : (ss.all fun s => isSaying s (p : Int) (t : Int)) = true := List.all_eq_true.mpr h
  unfold isCase
  simp only [h1, h2, h3, numD, h4]
  rfl
theorem bd_worths {rs : List (List Int)} {t : Nat} (hl : rs.length ≤ 10) (ht : t ≤ 10) (hr : ∀ r ∈ rs, okRow t r) : bd 10 2 (.tup (rs.map rowD)) = true :=
  bd_mk (by simpa using hl) fun d hd => by
    obtain ⟨r, hr', rfl⟩ := List.mem_map.mp hd
    exact bd_ints (by rw [(hr r hr').1]; exact ht) 0
theorem worths_ok {rs : List (List Int)} {p t : Nat} (hl : rs.length = p) (hr : ∀ r ∈ rs, okRow t r) : goodWorths (p : Int) (t : Int) (.tup (rs.map rowD)) = true := by
  rw [worths_are]
  simp only [List.length_map, hl, Bool.and_eq_true, decide_eq_true_eq, true_and, List.all_eq_true]
  intro d hd
  obtain ⟨r, hr', rfl⟩ := List.mem_map.mp hd
  obtain ⟨h1, h2⟩ := hr r hr'
  unfold rowD areInts
  simp only [List.length_map, h1, Bool.and_eq_true, decide_eq_true_eq, List.all_eq_true]
  refine ⟨⟨Int.le_refl _, Int.le_refl _⟩, fun d hd => ?_⟩
  obtain ⟨x, hx, rfl⟩ := List.mem_map.mp hd
  have := h2 x hx
  simp [isNum]
  omega
theorem sharing_ok {os : List Int} {p t : Nat} (hl : os.length = t) (ho : ∀ o ∈ os, 0 ≤ o ∧ o < (p : Int)) : goodSharing (p : Int) (t : Int) (.tup (os.map .int)) = true := by
  unfold goodSharing
  simp only [List.length_map, hl, Bool.and_eq_true, decide_eq_true_eq, true_and, List.all_eq_true]
  intro d hd
  obtain ⟨x, hx, rfl⟩ := List.mem_map.mp hd
  have := ho x hx
  simp [isNum]
  omega
theorem mine_self {S : Store} {os : List Int} {p : Int} (h : os.length ≤ 10) : eqD S (.tup (mine os p)) (.tup (mine os p)) = some true := by
  refine eqD_self (L := 10) (m := 1) (bd_mk ?_ fun d hd => ?_) (by omega)
  · unfold mine
    refine Nat.le_trans (List.length_filterMap_le _ _) ?_
    simp
    omega
  · unfold mine at hd
    obtain ⟨q, _, hq⟩ := List.mem_filterMap.mp hd
    split at hq
    · cases hq; rfl
    · cases hq
end K01
end Hc
end
section
set_option Elab.async false
set_option linter.all false
set_option maxRecDepth 100000
set_option maxHeartbeats 0
set_option autoImplicit false
namespace Hc
open PySem
namespace K01
section
variable {N : Nat}
/-- five turns over one value -/
def turnBody : St := .seq (.ite (.not (.call 40 (.cons (.v 2) (.cons (.v 5) .nil)))) (.ret (.c (.bl false))) .skip) (.asg (.n 5) (.call 42 (.cons (.v 3) (.cons (.v 5) .nil))))
theorem five {c v : D} (hc : isCase c = true) (hcb : bd 10 4 c = true) (hv : bd 10 4 v = true) {S : Store} {k : Nat} (hs : Src S k) (x0 x1 x4 x6 x7 x8 : Option D) {P : Fl → Store → Prop} (hp : ∀ (y z : Option D) S', Src S' k → P (.nx [x0, x1, some c, some (.ref k), x4, y, x6, x7, z]) S') :
    wp (forM [] (fun d τ => M.opt (bindP (.n 8) d τ) >>= fun τ' => eSt (run T N 29) N turnBody τ') (rangeD 0 5) [x0, x1, some c, some (.ref k), x4, some v, x6, x7, x8]) S P := by
  refine wp_forM (fun rem σ S => Src S k ∧ ∃ (v : D) (z : Option D) (j : Nat), σ = [x0, x1, some c, some (.ref k), x4, some v, x6, x7, z] ∧ j + rem.length = 5 ∧ bd (10 + j) (4 + 2 * j) v = true) ⟨hs, v, x8, 0, rfl, by simp [rangeD], hv⟩ ?_ ?_
  · intro d rem σ S1 hI
    obtain ⟨h1, v, z, j, e, hj, hb⟩ := hI
    subst e
    simp at hj
    have h40 := r_told (N := N) (L := 20) (m := 12) (by omega) (bd_mono (by omega) (by omega) hcb) hc (bd_mono (by omega) (by omega) hb) (by omega) 22
    unfold turnBody
    simp only [wp_bind, wp_opt, wp_pure, bindP, eSt, eE, eEs, List.getElem?_cons_succ, List.getElem?_cons_zero, Option.join_some, List.set_cons_succ, List.set_cons_zero]
    rw [h40]
    simp only [wp_pure, asB_bl, ret_bind, Bool.not_true, wp_ite, Bool.false_eq_true, if_false, wp_bind, wp_opt, List.getElem?_cons_succ, List.getElem?_cons_zero, Option.join_some]
    have e29 : (29 : Nat) = (25 - (4 + 2 * j)) + (4 + 2 * j) + 4 := by omega
    rw [e29]
    refine r_spoilt (by omega) (by omega) (4 + 2 * j) (25 - (4 + 2 * j)) (by omega) hb h1 fun w S2 hw h2 => ?_
    refine ⟨h2, w, some d, j + 1, rfl, by omega, ?_⟩
    exact bd_mono (by omega) (by omega) hw
  · intro σ S1 hI
    obtain ⟨h1, v, z, j, e, hj, hb⟩ := hI
    subst e
    exact hp _ _ _ h1
end
end K01
end Hc
end
section
set_option Elab.async false
set_option linter.all false
set_option maxRecDepth 100000
set_option maxHeartbeats 0
set_option autoImplicit false
namespace Hc
open PySem
namespace K01
section
variable {N : Nat}
def lastPart : St := .seq (.asg (.n 2) (.tup (.cons (.c (.int (2))) (.cons (.c (.int (2))) (.cons (.tup (.cons (.tup (.cons (.c (.int (0))) (.cons (.c (.str "more")) (.cons (.tup (.cons (.c (.int (0))) .nil)) (.cons (.tup (.cons (.c (.int (1))) .nil)) .nil))))) (.cons (.tup (.cons (.c (.int (1))) (.cons (.c (.str "same")) (.cons (.tup (.cons (.c (.int (0))) .nil)) (.cons (.tup (.cons (.c (.int (1))) .nil)) .nil))))) .nil))) .nil))))) (.ret (.and (.cons (.call 22 (.cons (.v 2) (.cons (.tup (.cons (.tup (.cons (.c (.int (2))) (.cons (.c (.int (1))) .nil))) (.cons (.tup (.cons (.c (.int (3))) (.cons (.c (.int (3))) .nil))) .nil))) .nil))) (.cons (.not (.call 22 (.cons (.v 2) (.cons (.tup (.cons (.tup (.cons (.c (.int (2))) (.cons (.c (.int (2))) .nil))) (.cons (.tup (.cons (.c (.int (3))) (.cons (.c (.int (3))) .nil))) .nil))) .nil)))) (.cons (.not (.call 22 (.cons (.v 2) (.cons (.tup (.cons (.tup (.cons (.c (.int (2))) (.cons (.c (.int (1))) .nil))) (.cons (.tup (.cons (.c (.int (3))) (.cons (.c (.int (2))) .nil))) .nil))) .nil)))) .nil)))))
theorem last_run (x0 x1 x2 x3 x4 x5 x6 x7 x8 : Option D) (S : Store) : wp (eSt (run T N 29) N lastPart [x0, x1, x2, x3, x4, x5, x6, x7, x8]) S fun a _ => a = .rt (.bl true) := by
  have hc : isCase (.tup [.int 2, .int 2, .tup [.tup [.int 0, .str "more", .tup [.int 0], .tup [.int 1]], .tup [.int 1, .str "same", .tup [.int 0], .tup [.int 1]]]]) = true := by decide +kernel
  have hb : bd 10 4 (.tup [.int 2, .int 2, .tup [.tup [.int 0, .str "more", .tup [.int 0], .tup [.int 1]], .tup [.int 1, .str "same", .tup [.int 0], .tup [.int 1]]]]) = true := by decide +kernel
  have k1 := r_keep (N := N) (L := 10) (m := 4) (by omega) hb hc rfl (rs := [[2, 1], [3, 3]]) (by decide +kernel) (by decide +kernel) rfl (fun r hr => by simp at hr; rcases hr with h | h <;> (subst h; decide)) 23
  have k2 := r_keep (N := N) (L := 10) (m := 4) (by omega) hb hc rfl (rs := [[2, 2], [3, 3]]) (by decide +kernel) (by decide +kernel) rfl (fun r hr => by simp at hr; rcases hr with h | h <;> (subst h; decide)) 23
  have k3 := r_keep (N := N) (L := 10) (m := 4) (by omega) hb hc rfl (rs := [[2, 1], [3, 2]]) (by decide +kernel) (by decide +kernel) rfl (fun r hr => by simp at hr; rcases hr with h | h <;> (subst h; decide)) 23
  simp only [List.map_cons, List.map_nil, rowD] at k1 k2 k3
  have v1 : keepB [.tup [.int 0, .str "more", .tup [.int 0], .tup [.int 1]], .tup [.int 1, .str "same", .tup [.int 0], .tup [.int 1]]] [[2, 1], [3, 3]] = true := by decide +kernel
  have v2 : keepB [.tup [.int 0, .str "more", .tup [.int 0], .tup [.int 1]], .tup [.int 1, .str "same", .tup [.int 0], .tup [.int 1]]] [[2, 2], [3, 3]] = false := by decide +kernel
  have v3 : keepB [.tup [.int 0, .str "more", .tup [.int 0], .tup [.int 1]], .tup [.int 1, .str "same", .tup [.int 0], .tup [.int 1]]] [[2, 1], [3, 2]] = false := by decide +kernel
  rw [v1] at k1
  rw [v2] at k2
  rw [v3] at k3
  unfold lastPart
  simp -implicitDefEqProofs [k1, k2, k3]
end
end K01
end Hc
end
section
set_option Elab.async false
set_option linter.all false
set_option maxRecDepth 100000
set_option maxHeartbeats 0
set_option autoImplicit false
namespace Hc
open PySem
namespace K01
section
variable {N : Nat}
def cellBody : St := .seq (.asg (.n 3) (.call 23 (.cons (.v 0) (.cons (.v 1) .nil)))) (.seq (.asg (.n 2) (.call 31 (.cons (.v 3) (.cons (.c (.int (8))) .nil)))) (.seq (.asg (.t (.cons (.n 6) (.cons (.n 7) .nil))) (.tup (.cons (.call 29 (.cons (.v 3) (.cons (.ix (.v 2) (.c (.int (0)))) (.cons (.ix (.v 2) (.c (.int (1)))) .nil)))) (.cons (.call 35 (.cons (.v 3) (.cons (.v 2) .nil))) .nil)))) (.seq (.ite (.op .ne (.call 22 (.cons (.v 2) (.cons (.v 6) .nil))) (.call 33 (.cons (.v 2) (.cons (.v 6) .nil)))) (.ret (.c (.bl false))) .skip) (.seq (.for (.n 4) (.rng (.ix (.v 2) (.c (.int (0))))) (.ite (.op .ne (.call 21 (.cons (.v 2) (.cons (.v 7) (.cons (.v 4) .nil)))) (.call 34 (.cons (.v 7) (.cons (.v 4) .nil)))) (.ret (.c (.bl false))) .skip)) (.for (.n 5) (.seq (.lst false (.cons (.v 2) (.cons (.v 6) (.cons (.v 7) (.cons (.call 30 (.cons (.v 3) (.cons (.v 6) .nil))) .nil)))))) (.for (.n 8) (.rng (.c (.int (5)))) turnBody))))))
theorem cell_run (ns : List Int) {k : Nat} (hk : k ≤ 10) (x2 x3 x4 x5 x6 x7 x8 : Option D) (S : Store) : wp (eSt (run T N 29) N cellBody [some (.scr ns), some (.int (k : Int)), x2, x3, x4, x5, x6, x7, x8]) S fun a _ => ∃ y2 y3 y4 y5 y6 y7 y8 : Option D, a = .nx [some (.scr ns), some (.int (k : Int)), y2, y3, y4, y5, y6, y7, y8] := by
  unfold cellBody
  simp only [wp_bind, wp_opt, wp_pure, bindP, eSt, eE, eEs, List.getElem?_cons_succ, List.getElem?_cons_zero, Option.join_some, List.set_cons_succ, List.set_cons_zero]
  refine r_source ns hk 28 fun S1 h1 => ?_
  generalize S.length = q at *
  refine r_case h1 25 fun p t ss S2 p1 p2 t1 t2 h8 hss h2 => ?_
  have hc := case_ok p1 p2 t1 t2 h8 hss
  have hcb := bd_case h8 hss
  simp only [wp_bind, wp_opt, wp_pure, bindP, bindPs, eSt, eE, eEs, List.getElem?_cons_succ, List.getElem?_cons_zero, Option.join_some, List.set_cons_succ, List.set_cons_zero, wp_ask, ixD_tup, List.length_cons, List.length_nil, place0, place1, Option.bind_some]
  refine r_worths h2 (by omega) (by omega) 26 fun rs S3 hl hr h3 => ?_
  refine r_owners h3 (by omega) (by omega) (by omega) _ 27 fun os S4 hol ho h4 => ?_
  have hwb := bd_worths (by omega) (by omega) hr
  have hwo := worths_ok hl hr
  have hob : bd 10 4 (.tup (os.map .int)) = true := bd_ints (by omega) 3
  have hoo := sharing_ok hol ho
  have hr3 : ∀ r ∈ rs, r.length ≤ 1000 := fun r h => by have := (hr r h).1; omega
  have k22 := r_keep (N := N) (L := 10) (m := 4) (by omega) hcb hc rfl (bd_mono (by omega) (by omega) hwb) hwo (by omega) hr3 23
  have k33 := r_law_keeps (N := N) (t := (t : Int)) hss (show (rs.length : Int) = (p : Int) by omega) hr3 26
  dsimp only [Option.join]
  rw [k22]
  simp only [wp_pure]
  rw [k33]
  simp only [wp_pure, wp_ask, op2_ne, eqD_bl, beq_self_eq_true, Option.map_some, Bool.not_true, asB_bl, wp_ite, Bool.false_eq_true, if_false]
  simp only [eS, eE, wp_bind, wp_opt, wp_pure, List.getElem?_cons_succ, List.getElem?_cons_zero, Option.bind_some, id, wp_ask, ixD_tup, List.length_cons, List.length_nil, place0, rng_ok (show p ≤ 1000 by omega), if_true]
  simp only [Option.join_some, wp_ask, ixD_tup, List.length_cons, List.length_nil, place0, Option.bind_some, List.getElem?_cons_zero, rng_ok (show p ≤ 1000 by omega), if_true, wp_pure]
  refine wp_forM (fun rem σ S => Src S q ∧ (∃ x : Option D, σ = [some (.scr ns), some (.int (k : Int)), some (.tup [.int (p : Int), .int (t : Int), .tup ss]), some (.ref q), x, x5, some (.tup (rs.map rowD)), some (.tup (os.map .int)), x8]) ∧ ∀ d ∈ rem, ∃ i : Int, d = .int i ∧ 0 ≤ i ∧ i < p) ?_ ?_ ?_
  · refine ⟨h4, ⟨x4, rfl⟩, ?_⟩
    intro d hd
    rw [rangeD_zero] at hd
    obtain ⟨j, hj, e⟩ := List.mem_map.mp hd
    exact ⟨_, e.symm, by omega, by have := List.mem_range.mp hj; omega⟩
  · intro d rem σ S5 hI
    obtain ⟨h5, ⟨x, e⟩, hd⟩ := hI
    subst e
    obtain ⟨i, e, i1, i2⟩ := hd d (by simp)
    subst e
    have k21 := r_lot_of (N := N) (L := 10) (m := 4) hcb hc rfl hob hoo i1 i2 23
    have k34 := r_law_mine (N := N) os i (by omega) 28
    have ms := mine_self (S := S5) (os := os) (p := i) (by omega)
    simp only [wp_bind, wp_opt, wp_pure, bindP, eSt, eE, eEs, List.getElem?_cons_succ, List.getElem?_cons_zero, Option.join_some, Option.bind_some, id, List.set_cons_succ, List.set_cons_zero]
    rw [k21]
    simp only [wp_pure]
    rw [k34]
    simp only [wp_pure, wp_ask, op2_ne, ms, Option.map_some, Bool.not_true, asB_bl, wp_ite, Bool.false_eq_true, if_false]
    refine ⟨h5, ⟨_, rfl⟩, ?_⟩
    intro d hd2
    exact hd d (by simp [hd2])
  · intro σ S5 hI
    obtain ⟨h5, ⟨x, e⟩, _⟩ := hI
    subst e
    simp only [wp_bind, wp_opt, wp_pure, eSt, eS, eE, eEs, List.getElem?_cons_succ, List.getElem?_cons_zero, Option.join_some, Option.bind_some, id, List.set_cons_succ, List.set_cons_zero]
    refine r_saying h5 (p := p) (t := t) (by omega) (by omega) (by omega) (by omega) (fun r h => (hr r h).1) 26 fun d S6 hd6 h6 => ?_
    have hdb := bd_saying hd6
    simp only [wp_bind, wp_opt, wp_pure, mkList, wp_ask, itemsOf_lst, lkOf, Bool.false_eq_true, if_false]
    refine wp_forM (fun rem σ S => Src S q ∧ (∃ x y z : Option D, σ = [some (.scr ns), some (.int (k : Int)), some (.tup [.int (p : Int), .int (t : Int), .tup ss]), some (.ref q), x, y, some (.tup (rs.map rowD)), some (.tup (os.map .int)), z]) ∧ ∀ d ∈ rem, bd 10 4 d = true) ?_ ?_ ?_
    · refine ⟨h6, ⟨_, _, _, rfl⟩, ?_⟩
      intro d' hd'
      simp at hd'
      rcases hd' with h | h | h | h <;> subst h
      · exact hcb
      · exact bd_mono (by omega) (by omega) hwb
      · exact hob
      · exact bd_mono (by omega) (by omega) hdb
    · intro v rem σ S7 hI
      obtain ⟨h7, ⟨x, y, z, e⟩, hv⟩ := hI
      subst e
      simp only [wp_bind, wp_opt, bindP, eS, eE, wp_pure, List.set_cons_succ, List.set_cons_zero, rng_ok (t := 5) (show 5 ≤ 1000 by omega)]
      rw [show rngOk 0 5 = true from by decide +kernel]
      simp only [if_true, wp_pure]
      refine five hc hcb (hv v (by simp)) h7 _ _ _ _ _ _ fun y' z' S8 h8' => ?_
      exact ⟨h8', ⟨_, _, _, rfl⟩, fun d hd => hv d (by simp [hd])⟩
    · intro σ S7 hI
      obtain ⟨h7, ⟨x, y, z, e⟩, hv⟩ := hI
      subst e
      exact ⟨_, _, _, _, _, _, _, rfl⟩
end
end K01
end Hc
end
section
set_option Elab.async false
set_option linter.all false
set_option maxRecDepth 100000
set_option maxHeartbeats 0
set_option autoImplicit false
namespace Hc
open PySem
namespace K01
theorem hrun : ∀ ns : List Int, ns.length ≤ 63 → ∃ S, run T 1 30 43 [.scr ns] [] = .ok (.bl true) S := by
  intro ns hns
  have key : wp (run T 1 (29 + 1) 43 [.scr ns]) [] fun a _ => a = .bl true := by
    rw [run_at (f := 43) (df := d_law) rfl rfl rfl]
    show wp (endM (eSt (run T 1 29) 1 (.seq (.for (.n 1) (.rng (.op .add (.c (.int (1))) (.bi .min2 (.cons (.bi .len (.cons (.v 0) .nil)) (.cons (.c (.int (10))) .nil))))) cellBody) lastPart) [some (.scr ns), none, none, none, none, none, none, none, none])) [] fun a _ => a = .bl true
    have hr : ∃ j : Nat, j ≤ 11 ∧ (1 : Int) + (if (10 : Int) < (ns.length : Int) then 10 else (ns.length : Int)) = (j : Int) := by
      by_cases h : (10 : Int) < (ns.length : Int)
      · exact ⟨11, by omega, by rw [if_pos h]; rfl⟩
      · exact ⟨1 + ns.length, by omega, by rw [if_neg h]; omega⟩
    obtain ⟨j, hj, ej⟩ := hr
    unfold endM
    simp only [eSt, eS, eE, eEs, wp_bind, wp_opt, wp_pure, List.getElem?_cons_zero, Option.join_some, Option.bind_some, id, wp_ask, biD_len, lenD_scr, Option.map_some, biD_min, op2_add, ej, rng_ok (show j ≤ 1000 by omega), if_true]
    refine wp_forM (fun rem σ S => (∃ x1 x2 x3 x4 x5 x6 x7 x8 : Option D, σ = [some (.scr ns), x1, x2, x3, x4, x5, x6, x7, x8]) ∧ ∀ d ∈ rem, ∃ i : Nat, d = .int (i : Int) ∧ i ≤ 10) ?_ ?_ ?_
    · refine ⟨⟨_, _, _, _, _, _, _, _, rfl⟩, ?_⟩
      intro d hd
      rw [rangeD_zero] at hd
      obtain ⟨i, hi, e⟩ := List.mem_map.mp hd
      exact ⟨i, e.symm, by have := List.mem_range.mp hi; omega⟩
    · intro d rem σ S hI
      obtain ⟨⟨x1, x2, x3, x4, x5, x6, x7, x8, e⟩, hd⟩ := hI
      subst e
      obtain ⟨i, e, hi⟩ := hd d (by simp)
      subst e
      simp only [bindP, wp_bind, wp_opt, wp_pure, List.set_cons_succ, List.set_cons_zero]
      refine wp_mono (cell_run ns hi x2 x3 x4 x5 x6 x7 x8 S) fun a S' h => ?_
      obtain ⟨y2, y3, y4, y5, y6, y7, y8, e⟩ := h
      subst e
      exact ⟨⟨_, _, _, _, _, _, _, _, rfl⟩, fun d hd' => hd d (by simp [hd'])⟩
    · intro σ S hI
      obtain ⟨⟨x1, x2, x3, x4, x5, x6, x7, x8, e⟩, _⟩ := hI
      subst e
      refine wp_mono (last_run _ _ _ _ _ _ _ _ _ S) fun a S' h => ?_
      subst h
      simp
  obtain ⟨a, S', e, h⟩ := wp_ok key
  subst h
  exact ⟨S', e⟩
end K01
end Hc
end
section
set_option Elab.async false
set_option linter.all false
set_option maxRecDepth 100000
set_option maxHeartbeats 0
set_option autoImplicit false
namespace Hc
open PySem PySem.Spec PyProof.Rows L2
namespace K01
def top (i : Nat) : Stmt := PySem.Challenge.pw_hearsaycuts_k01_values_recognized.main.body.getD i (.Pass ⟨0, 0, 0, 0⟩)
def m : Md := ⟨defs, gcs, ecs, top⟩
theorem ck : m.ck = true := by kernel_rfl
abbrev R : PySem.W.OpenRow := PySem.W.OpenLaw.row PySem.Challenge.rw_hearsaycuts_k01_values_recognized
theorem run_eq (w : World) : HandSHeadRun.RunEq R (PySem.W.view R.prog [lawAt]) (hookM m 4) (obM m 4) 6000 loose w := by
  intro os
  kernel_rfl
theorem hrunM : ∀ ns : List Int, ns.length ≤ 63 → ∃ S, run m.T 1 30 lawNo [.scr ns] [] = .ok (.bl true) S := hrun
end K01
end Hc
open PySem PySem.W PySem.Calls PyProof.Rows
theorem PySem.Challenge.cw_hearsaycuts_k01_values_recognized_holds : PySem.Challenge.rw_hearsaycuts_k01_values_recognized.Holds := by
  w_on; o_law
  refine HandSHeadRun.head_any (r := OpenLaw.row PySem.Challenge.rw_hearsaycuts_k01_values_recognized) (q := view (OpenLaw.row PySem.Challenge.rw_hearsaycuts_k01_values_recognized).prog [Hc.K01.lawAt]) (H := Hc.hookM Hc.K01.m 4) (ob := Hc.obM Hc.K01.m 4) (M := 6000) (loose := Hc.K01.loose) (d := HandSHeadRun.topDef (OpenLaw.row PySem.Challenge.rw_hearsaycuts_k01_values_recognized).prog Hc.K01.lawAt) (kwd := []) (Hc.obM_eq Hc.K01.m 4)
    (by kernel_rfl) (fun s => by kernel_rfl) Hc.K01.run_eq (by kernel_rfl) (by kernel_rfl) (by kernel_rfl) (by rfl) (by first | assumption | decide +kernel) (by decide +kernel) ⟨rfl, rfl, rfl, rfl, rfl, by decide +kernel⟩ ?hw ?hc
  case hw => w_witness2
  case hc =>
    exact L2.walk_ofE (l := PySem.Challenge.rw_hearsaycuts_k01_values_recognized) (n := 63) (k := 30) (x := "script") (CX := Hc.CXw PySem.Challenge.rw_hearsaycuts_k01_values_recognized.prog) rfl (by decide) (by kernel_rfl) ⟨rfl, by decide, by decide⟩
      (fun w mg fa h Y G hmg => Hc.law_end (N := 1) (li := Hc.K01.lawNo) Hc.K01.ck rfl (by decide +kernel) rfl Hc.K01.hrunM _ (by kernel_rfl) w mg fa h Y G hmg) Hc.CXw_none
end
