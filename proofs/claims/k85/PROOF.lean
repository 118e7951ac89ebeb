import PyProof.Rows.All
import Wide.All
import OpenK.AllK
import Wide.FinOn
import HandS.ForMost
import HandS.Wide
import HandS.Exc
import HandS.TryOnly
import HandS.HeadHook1
import HandS.Style
import HandS.Deep
import HandS.IsInst
import HandS.CallSlots
import HandS.Comp
import HandS.ExcIs
import HandS.ExcField
import HandS.Defaults
import HandS.Codes
import HandS.HeadHook2
import HandS.HeadHook4
import HandS.HeadEnd
import HandS.EndBits
import HandS.Text
import KE.KStateDown
import HandS.Base
import HandS.Call
import HandS.Ends
import HandS.More
import HandS.Words
import HandS.WordsExc
import HandS.Head0
import HandS.Head1
import HandS.Head2
import PySem.Challenge.RW_boardsight_k85_no_spots
set_option Elab.async false
set_option linter.all false
set_option maxRecDepth 100000
set_option maxHeartbeats 4000000

/-! MiA: a small language for plain Python defs, its data and what it does with them (no heap). -/
namespace Mi
open PySem

/-! ### data -/
structure Exn where
  c : Str
  f : Option (Str × PyData)

/-- a value: plain data that never changes, a pointer to a thing that may change, an exception -/
inductive W where
  | d (x : PyData)
  | ptr (p : Nat)
  | exn (x : Exn)
/-- a thing that may change -/
inductive MO where
  | lst (xs : List PyData)
  | dead
abbrev Sto := List MO
abbrev Rho := List (Option W)

inductive R (α : Type) where
  | ok (a : α) (S : Sto)
  | exc (x : Exn) (S : Sto)
  | err
def R.bind {α β : Type} (r : R α) (k : α → Sto → R β) : R β := match r with
  | .ok a S => k a S
  | .exc x S => .exc x S
  | .err => .err
def R.ofO {α : Type} (o : Option α) (S : Sto) : R α := match o with
  | some a => .ok a S
  | none => .err
@[simp] theorem R.bind_ok {α β : Type} (a : α) (S : Sto) (k : α → Sto → R β) : (R.ok a S).bind k = k a S := rfl
@[simp] theorem R.bind_exc {α β : Type} (x : Exn) (S : Sto) (k : α → Sto → R β) : (R.exc x S : R α).bind k = .exc x S := rfl
@[simp] theorem R.bind_err {α β : Type} (k : α → Sto → R β) : (R.err : R α).bind k = .err := rfl
@[simp] theorem R.ofO_some {α : Type} (a : α) (S : Sto) : R.ofO (some a) S = .ok a S := rfl
@[simp] theorem R.ofO_none {α : Type} (S : Sto) : R.ofO (none : Option α) S = .err := rfl

mutual
def peq : PyData → PyData → Bool
  | .none, .none => true
  | .bool a, .bool b => a == b
  | .int a, .int b => a == b
  | .str a, .str b => a == b
  | .list a, .list b => peqs a b
  | .tuple a, .tuple b => peqs a b
  | _, _ => false
def peqs : List PyData → List PyData → Bool
  | [], [] => true
  | x :: xs, y :: ys => peq x y && peqs xs ys
  | _, _ => false
end
mutual
theorem peq_eq : ∀ {a b : PyData}, peq a b = true → a = b
  | .none, b, h => by cases b <;> simp [peq] at h ⊢
  | .bool _, b, h => by cases b <;> simp [peq] at h ⊢; exact h
  | .int _, b, h => by cases b <;> simp [peq] at h ⊢; exact h
  | .str _, b, h => by cases b <;> simp [peq] at h ⊢; exact h
  | .list x, b, h => by cases b <;> simp [peq] at h ⊢; exact peqs_eq h
  | .tuple x, b, h => by cases b <;> simp [peq] at h ⊢; exact peqs_eq h
  | .dict _, b, h => by cases b <;> simp [peq] at h
theorem peqs_eq : ∀ {a b : List PyData}, peqs a b = true → a = b
  | [], b, h => by cases b <;> simp [peqs] at h ⊢
  | x :: xs, [], h => by simp [peqs] at h
  | x :: xs, y :: ys, h => by
    simp [peqs] at h
    rw [peq_eq h.1, peqs_eq h.2]
end

/-! ### readers -/
def lim : Nat := 1000000
/-- a list's items -/
def lst? (S : Sto) : W → Option (List PyData)
  | .d (.list xs) => some xs
  | .ptr p => match S[p]? with
    | some (.lst xs) => some xs
    | _ => none
  | _ => none
/-- plain data, a list that may change read as it stands -/
def dat? (S : Sto) : W → Option PyData
  | .d x => some x
  | .ptr p => match S[p]? with
    | some (.lst xs) => some (.list xs)
    | _ => none
  | _ => none

/-! ### operators -/
inductive O2 where
  | add | sub | mul | fdiv | mod | pow
  | eq | ne | lt | le | gt | ge | in_ | notin | is_ | isnot
  deriving DecidableEq
def mulOk (a b : Int) : Bool := decide (a.natAbs.log2 + b.natAbs.log2 < 1000000)
def divOk (b : Int) : Bool := b != 0 && decide (b.natAbs.log2 < 9000)
def powOk (a b : Int) : Bool := decide (0 ≤ b) && (decide (b ≤ 1000000) && decide (a.natAbs < 2 ^ 64))
def addW (S : Sto) (x y : W) : Option W := match x, y with
  | .d (.int a), .d (.int b) => some (.d (.int (a + b)))
  | .d (.str a), .d (.str b) => if a.length + b.length ≤ lim then some (.d (.str (a ++ b))) else none
  | _, _ => match lst? S x, lst? S y with
    | some a, some b => if a.length + b.length ≤ lim then some (.d (.list (a ++ b))) else none
    | _, _ => none
def repS (z : Str) (n : Nat) : Str := ⟨((List.replicate n z.cps.toList).flatten).toArray⟩
def mulW (x y : W) : Option W := match x, y with
  | .d (.int a), .d (.int b) => if mulOk a b then some (.d (.int (a * b))) else none
  | .d (.str a), .d (.int b) => if a.length * b.toNat ≤ lim ∧ b ≤ lim ∧ 1 ≤ b then some (.d (.str (repS a b.toNat))) else none
  | _, _ => none
def int2 (f : Int → Int → Option W) (x y : W) : Option W := match x, y with
  | .d (.int a), .d (.int b) => f a b
  | _, _ => none
/-- the scalars that == tells apart by their kinds alone -/
def scal2 : PyData → PyData → Bool
  | .none, .none => true | .none, .int _ => true | .int _, .none => true | .none, .bool _ => true | .bool _, .none => true | .none, .str _ => true | .str _, .none => true
  | .int _, .int _ => true | .bool _, .bool _ => true | .str _, .str _ => true
  | .int _, .str _ => true | .str _, .int _ => true | .bool _, .str _ => true | .str _, .bool _ => true
  | _, _ => false
def eqD (x y : PyData) : Option Bool :=
  if scal2 x y then some (peq x y) else if SeqAt.shaped x && SeqAt.shaped y then some (PyData.eqv x y) else none
def eqW (S : Sto) (x y : W) : Option Bool := match dat? S x, dat? S y with
  | some a, some b => eqD a b
  | _, _ => none
def flatD : PyData → Bool
  | .none => true | .bool _ => true | .int _ => true | .str _ => true | _ => false
/-- == of flat data -/
def eqF : PyData → PyData → Bool
  | .none, .none => true
  | .bool a, .bool b => a == b
  | .bool a, .int b => (if a then 1 else 0) == b
  | .int a, .bool b => a == (if b then 1 else 0)
  | .int a, .int b => a == b
  | .str a, .str b => a == b
  | _, _ => false
def inL (x : PyData) (xs : List PyData) : Option Bool :=
  if flatD x && xs.all flatD then some (xs.any fun y => eqF y x) else if SeqAt.shaped x && SeqAt.shaped (.list xs) then some (xs.any fun y => PyData.eqv y x) else none
def inW (S : Sto) (x y : W) : Option Bool := match x, y with
  | .d (.str a), .d (.str z) => match a.cps.toList with
    | [c] => some (decide (c ∈ z.cps.toList))
    | _ => none
  | .d a, _ => match lst? S y with
    | some xs => inL a xs
    | none => none
  | _, _ => none
def isW (x y : W) : Option Bool := match x, y with
  | .d (.bool a), .d (.bool b) => some (a == b)
  | .d a, .d .none => some (match a with | .none => true | _ => false)
  | .ptr _, .d .none => some false
  | .exn _, .d .none => some false
  | _, _ => none
def blW (o : Option Bool) : Option W := o.map fun b => .d (.bool b)
def o2 (k : O2) (S : Sto) (x y : W) : Option W := match k with
  | .add => addW S x y
  | .sub => int2 (fun a b => some (.d (.int (a - b)))) x y
  | .mul => mulW x y
  | .fdiv => int2 (fun a b => if divOk b then some (.d (.int (a.fdiv b))) else none) x y
  | .mod => int2 (fun a b => if b = 0 then none else some (.d (.int (a.fmod b)))) x y
  | .pow => int2 (fun a b => if powOk a b then some (.d (.int (a ^ b.toNat))) else none) x y
  | .eq => blW (eqW S x y)
  | .ne => blW ((eqW S x y).map not)
  | .lt => int2 (fun a b => some (.d (.bool (decide (a < b))))) x y
  | .le => int2 (fun a b => some (.d (.bool (decide (a ≤ b))))) x y
  | .gt => int2 (fun a b => some (.d (.bool (decide (b < a))))) x y
  | .ge => int2 (fun a b => some (.d (.bool (decide (b ≤ a))))) x y
  | .in_ => blW (inW S x y)
  | .notin => blW ((inW S x y).map not)
  | .is_ => blW (isW x y)
  | .isnot => blW ((isW x y).map not)

/-- o[i] -/
def ixW (S : Sto) (x i : W) : Option W := match x, i with
  | .d (.str z), .d (.int k) => if z.length ≤ lim then (L2.atI z.cps.toList k).map fun c => .d (.str ⟨#[c]⟩) else none
  | .d (.tuple xs), .d (.int k) => (L2.atI xs k).map .d
  | _, .d (.int k) => match lst? S x with
    | some xs => (L2.atI xs k).map .d
    | none => none
  | _, _ => none
def cutG {α : Type} (xs : List α) (lo hi : Option Int) : List α := (xs.drop (HT.sIx xs.length 0 lo)).take (HT.sIx xs.length xs.length hi - HT.sIx xs.length 0 lo)
/-- o[lo:hi] -/
def slW (S : Sto) (x : W) (lo hi : Option Int) : Option W := match x with
  | .d (.str z) => if z.length ≤ lim then some (.d (.str ⟨(cutG z.cps.toList lo hi).toArray⟩)) else none
  | .d (.tuple xs) => if HT.sIx xs.length 0 lo = 0 ∧ HT.sIx xs.length xs.length hi = xs.length then none else some (.d (.tuple (cutG xs lo hi)))
  | _ => match lst? S x with
    | some xs => some (.d (.list (cutG xs lo hi)))
    | none => none

/-! ### builtins, called -/
inductive Bi where
  | len | abs | max2 | min2 | str_ | int_ | tup_ | list_
  deriving DecidableEq
def tyD : PyData → String
  | .none => "NoneType" | .bool _ => "bool" | .int _ => "int" | .str _ => "str" | .list _ => "list" | .tuple _ => "tuple" | .dict _ => "dict"
def isiD (t : String) (x : PyData) : Bool := tyD x == t || (tyD x == "bool" && t == "int")
def isiOk (t : String) : Bool := ["int", "bool", "str", "list", "tuple"].contains t
def biLen (S : Sto) (xs : List W) : Option W := match xs with
  | [.d (.str z)] => if z.length ≤ lim then some (.d (.int z.length)) else none
  | [.d (.tuple xs)] => some (.d (.int xs.length))
  | [x] => (lst? S x).map fun xs => .d (.int xs.length)
  | _ => none
def biInt (S : Sto) (xs : List W) : Option W := match xs with
  | [.d (.str z)] => if z.length ≤ 640 then (PySem.intText? z).map fun n => .d (.int n) else none
  | [.d (.int a)] => some (.d (.int a))
  | [.d (.bool a)] => some (.d (.int (if a then 1 else 0)))
  | _ => none
def biTup (S : Sto) (xs : List W) : Option W := match xs with
  | [.d (.tuple xs)] => some (.d (.tuple xs))
  | [x] => (lst? S x).map fun xs => .d (.tuple xs)
  | _ => none
def biLst (S : Sto) (xs : List W) : Option W := match xs with
  | [.d (.tuple xs)] => some (.d (.list xs))
  | [x] => (lst? S x).map fun xs => .d (.list xs)
  | _ => none
def int1 (f : Int → Option W) (xs : List W) : Option W := match xs with
  | [.d (.int a)] => f a
  | _ => none
def int11 (f : Int → Int → Option W) (xs : List W) : Option W := match xs with
  | [.d (.int a), .d (.int b)] => f a b
  | _ => none
def bi (k : Bi) (S : Sto) (xs : List W) : Option W := match k with
  | .len => biLen S xs
  | .abs => int1 (fun a => some (.d (.int (if a < 0 then -a else a)))) xs
  | .max2 => int11 (fun a b => some (.d (.int (if b > a then b else a)))) xs
  | .min2 => int11 (fun a b => some (.d (.int (if b < a then b else a)))) xs
  | .str_ => int1 (fun a => if a.natAbs.log2 < 1920 then some (.d (.str (toString a))) else none) xs
  | .int_ => biInt S xs
  | .tup_ => biTup S xs
  | .list_ => biLst S xs
/-- isinstance(x, t), t a builtin class -/
def isiW (t : String) (S : Sto) (x : W) : Option W := if isiOk t then (dat? S x).map fun y => .d (.bool (isiD t y)) else none

/-! ### methods of builtin types -/
inductive Mt where
  | append | split | partition | join | extend
  deriving DecidableEq
def mtTy (k : Mt) (S : Sto) (x : W) : Bool := match k with
  | .append | .extend => (lst? S x).isSome
  | .split | .partition | .join => match x with
    | .d (.str _) => true
    | _ => false
/-- all texts -/
def strs? : List PyData → Option (List Str)
  | [] => some []
  | .str z :: r => (strs? r).map (z :: ·)
  | _ :: _ => none
def strD (z : Str) : PyData := .str z
def mtAppend (S : Sto) (x : W) (xs : List W) : Option (W × Sto) := match x, xs with
  | .ptr p, [.d v] => match S[p]? with
    | some (.lst xs) => if xs.length < lim then some (.d .none, S.set p (.lst (xs ++ [v]))) else none
    | _ => none
  | _, _ => none
def mtExtend (S : Sto) (x : W) (xs : List W) : Option (W × Sto) := match x, xs with
  | .ptr p, [y] => match S[p]?, lst? S y with
    | some (.lst xs), some ys => if xs.length + ys.length ≤ lim then some (.d .none, S.set p (.lst (xs ++ ys))) else none
    | _, _ => none
  | _, _ => none
def str1 (f : Str → Str → Option W) (x : W) (xs : List W) : Option W := match x, xs with
  | .d (.str a), [.d (.str b)] => f a b
  | _, _ => none
def mtJoin (S : Sto) (x : W) (xs : List W) : Option W := match x, xs with
  | .d (.str a), [x] => match lst? S x with
    | some ds => match strs? ds with
      | some ys => if (ys.map (·.length)).sum + ys.length * a.length ≤ lim then some (.d (.str (PySem.Txt.join a ys))) else none
      | none => none
    | none => none
  | _, _ => none
def mt (k : Mt) (S : Sto) (x : W) (xs : List W) : Option (W × Sto) := match k with
  | .append => mtAppend S x xs
  | .extend => mtExtend S x xs
  | .split => (str1 (fun a b => if (b.length == 0) = false ∧ a.length ≤ lim then some (.d (.list ((PySem.Txt.split a b).map strD))) else none) x xs).map (·, S)
  | .partition => (str1 (fun a b => if (b.length == 0) = false ∧ a.length ≤ lim then
      some (.d (.tuple [.str (PySem.Txt.partition a b).1, .str (PySem.Txt.partition a b).2.1, .str (PySem.Txt.partition a b).2.2])) else none) x xs).map (·, S)
  | .join => (mtJoin S x xs).map (·, S)
end Mi

/-! MiB: the language and its interpreter. -/
namespace Mi
open PySem

/-- one type for expressions, argument lists, sources of a loop, targets, statements -/
inductive M where
  -- expressions
  | var (i : Nat)
  | int (k : Int) | str (s : Str) | bl (b : Bool) | non
  | gi (x : Str) (k : Int) | gs (x : Str) (s : Str)
  | o2 (k : O2) (a b : M)
  | ch (k1 k2 : O2) (a b c : M)
  | neg (a : M)
  | and2 (a b : M) | or2 (a b : M) | one (a : M) | not1 (a : M)
  | ife (t a b : M)
  | tup (as : M) | lst (as : M)
  | anil | acons (a r : M)
  | call (f : Nat) (as : M)
  | bi (k : Bi) (as : M)
  | isi (t : String) (e : M)
  | mt (k : Mt) (a as : M)
  | ix (a b : M)
  | sl (a lo hi : M) | nop
  | lc (own : List Nat) (tg it ts e : M)
  | new (a : M) | frz (a : M)
  | fld (f : Str) (cs : List Str) (e : M) | isK (k : Nat) (e : M)
  -- what a loop walks
  | itE (e : M) | itR (as : M) | itN (e : M) | itZ (a b : M)
  -- targets
  | tn (i : Nat) | tt (as : M)
  -- statements
  | asg (tg e : M) | asgLc (i : Nat) (e : M) | par2 (i j : Nat) (a b : M) | aug (i : Nat) (k : O2) (e : M) | setix (a b e : M)
  | ex (e : M) | ret (e : M) | retN
  | ift (t a b : M) | for_ (tg it body : M) | wh (n : Nat) (t body : M)
  | rais (c : Str) | raisF (c f : Str) (e : M) | tryK (c : Nat) (ie i : Nat) (body : M)
  | brk | cnt | pss | nev
  | snil | scons (a r : M)

/-- what is known of classes: for each test the names that answer yes, that answer no -/
abbrev Kn := List (List Str × List Str)
def Kn.ask (k : Kn) (i : Nat) (c : Str) : Option Bool := match k[i]? with
  | some (y, n) => if c ∈ y then some true else if c ∈ n then some false else none
  | none => none
structure Phi where
  run : Nat → List W → Sto → R W
  kn : Kn

def tru (r : R W) : R Bool := match r with
  | .ok (.d (.bool b)) S => .ok b S
  | .ok _ _ => .err
  | .exc x S => .exc x S
  | .err => .err
def dats? : List W → Option (List PyData)
  | [] => some []
  | .d x :: r => (dats? r).map (x :: ·)
  | _ :: _ => none
def mkL (r : R (List W)) (f : List PyData → Option W) : R W := match r with
  | .ok ws S => R.ofO ((dats? ws).bind f) S
  | .exc x S => .exc x S
  | .err => .err
def tupW (xs : List PyData) : Option W := if xs.length ≤ lim then some (.d (.tuple xs)) else none
def lstW (xs : List PyData) : Option W := if xs.length ≤ lim then some (.d (.list xs)) else none
/-- what is walked: the items; a list that may change must stand as it did -/
structure Src where
  xs : List W
  g : Option (Nat × List PyData)
def guard (g : Option (Nat × List PyData)) (S : Sto) : Bool := match g with
  | none => true
  | some (p, l) => match S[p]? with
    | some (.lst xs) => peqs xs l
    | _ => false
/-- a value walked item by item -/
def srcW (S : Sto) (w : W) : Option Src := match w with
  | .d (.str z) => some ⟨z.cps.toList.map fun c => .d (.str ⟨#[c]⟩), none⟩
  | .d (.list xs) => some ⟨xs.map .d, none⟩
  | .d (.tuple xs) => some ⟨xs.map .d, none⟩
  | .ptr p => match S[p]? with
    | some (.lst xs) => some ⟨xs.map .d, some (p, xs)⟩
    | _ => none
  | _ => none
def rngOk (i : Int) : Bool := decide (-(2 ^ 62) ≤ i) && decide (i < 2 ^ 62)
def rngL (lo : Int) (n : Nat) : List W := (List.range n).map fun i => .d (.int (lo + (i : Nat)))
def srcR (ws : List W) : Option Src := match ws with
  | [.d (.int n)] => if rngOk n then some ⟨rngL 0 n.toNat, none⟩ else none
  | [.d (.int a), .d (.int b)] => if rngOk a && rngOk b then some ⟨rngL a (b - a).toNat, none⟩ else none
  | _ => none
def enumL : Nat → List PyData → List W
  | _, [] => []
  | i, x :: r => .d (.tuple [.int (i : Nat), x]) :: enumL (i + 1) r
def zipL : List PyData → List PyData → List W
  | x :: r, y :: s => .d (.tuple [x, y]) :: zipL r s
  | _, _ => []
def srcN (S : Sto) (w : W) : Option Src := match w with
  | .d (.list xs) => some ⟨enumL 0 xs, none⟩
  | .ptr p => match S[p]? with
    | some (.lst xs) => some ⟨enumL 0 xs, some (p, xs)⟩
    | _ => none
  | _ => none

def R.ofP (o : Option (W × Sto)) : R W := match o with
  | some (w, S) => .ok w S
  | none => .err
mutual
/-- a target takes a value -/
def bindT (S : Sto) : M → W → Rho → Option Rho
  | .tn i, w, ρ => if i < ρ.length then some (ρ.set i (some w)) else none
  | .tt as, w, ρ => match w with
    | .d (.tuple xs) => bindTs S as (xs.map .d) ρ
    | .d (.list xs) => bindTs S as (xs.map .d) ρ
    | _ => none
  | _, _, _ => none
def bindTs (S : Sto) : M → List W → Rho → Option Rho
  | .anil, [], ρ => some ρ
  | .acons a r, w :: ws, ρ => match bindT S a w ρ with
    | some ρ' => bindTs S r ws ρ'
    | none => none
  | _, _, _ => none
end
def wipeR (ρ : Rho) : List Nat → Rho
  | [] => ρ
  | v :: vs => (wipeR ρ vs).set v none

/-- a comprehension's turns -/
def lcGo (g : Option (Nat × List PyData)) (bt : W → Sto → Option Rho) (tst : Rho → Sto → R Bool) (el : Rho → Sto → R W) : List W → Sto → List PyData → R W
  | [], S, acc => if guard g S then .ok (.d (.list acc)) S else .err
  | x :: xs, S, acc => if guard g S then (match bt x S with
    | some ρ => (match tst ρ S with
      | .ok true S1 => (match el ρ S1 with
        | .ok (.d v) S2 => if acc.length < lim then lcGo g bt tst el xs S2 (acc ++ [v]) else .err
        | _ => .err)
      | .ok false S1 => lcGo g bt tst el xs S1 acc
      | _ => .err)
    | none => .err) else .err

mutual
def evE (Φ : Phi) : M → Rho → Sto → R W
  | .var i, ρ, S => match ρ[i]? with
    | some (some w) => .ok w S
    | _ => .err
  | .int k, _, S => .ok (.d (.int k)) S
  | .str s, _, S => .ok (.d (.str s)) S
  | .bl b, _, S => .ok (.d (.bool b)) S
  | .non, _, S => .ok (.d .none) S
  | .gi _ k, _, S => .ok (.d (.int k)) S
  | .gs _ s, _, S => .ok (.d (.str s)) S
  | .o2 k a b, ρ, S => (evE Φ a ρ S).bind fun x S1 => (evE Φ b ρ S1).bind fun y S2 => R.ofO (Mi.o2 k S2 x y) S2
  | .ch k1 k2 a b c, ρ, S => (evE Φ a ρ S).bind fun x S1 => (evE Φ b ρ S1).bind fun y S2 => (tru (R.ofO (Mi.o2 k1 S2 x y) S2)).bind fun t S3 =>
      if t then (evE Φ c ρ S3).bind fun z S4 => R.ofO (Mi.o2 k2 S4 y z) S4 else .ok (.d (.bool false)) S3
  | .neg a, ρ, S => (evE Φ a ρ S).bind fun x S1 => match x with
    | .d (.int i) => .ok (.d (.int (-i))) S1
    | _ => .err
  | .and2 a b, ρ, S => (tru (evE Φ a ρ S)).bind fun t S1 => if t then evE Φ b ρ S1 else .ok (.d (.bool false)) S1
  | .or2 a b, ρ, S => (tru (evE Φ a ρ S)).bind fun t S1 => if t then .ok (.d (.bool true)) S1 else evE Φ b ρ S1
  | .one a, ρ, S => evE Φ a ρ S
  | .not1 a, ρ, S => (tru (evE Φ a ρ S)).bind fun t S1 => .ok (.d (.bool (!t))) S1
  | .ife t a b, ρ, S => (tru (evE Φ t ρ S)).bind fun t S1 => if t then evE Φ a ρ S1 else evE Φ b ρ S1
  | .tup as, ρ, S => mkL (evA Φ as ρ S) tupW
  | .lst as, ρ, S => mkL (evA Φ as ρ S) lstW
  | .call f as, ρ, S => (evA Φ as ρ S).bind fun ws S1 => Φ.run f ws S1
  | .bi k as, ρ, S => (evA Φ as ρ S).bind fun ws S1 => R.ofO (Mi.bi k S1 ws) S1
  | .isi t e, ρ, S => (evE Φ e ρ S).bind fun x S1 => R.ofO (isiW t S1 x) S1
  | .mt k a as, ρ, S => (evE Φ a ρ S).bind fun x S1 => if mtTy k S1 x then (evA Φ as ρ S1).bind fun ws S2 => R.ofP (Mi.mt k S2 x ws) else .err
  | .ix a b, ρ, S => (evE Φ a ρ S).bind fun x S1 => (evE Φ b ρ S1).bind fun y S2 => R.ofO (ixW S2 x y) S2
  | .sl a lo hi, ρ, S => (evE Φ a ρ S).bind fun x S1 => (evO Φ lo ρ S1).bind fun l S2 => (evO Φ hi ρ S2).bind fun h S3 => R.ofO (slW S3 x l h) S3
  | .lc own tg it ts e, ρ, S => (evI Φ it ρ S).bind fun src S1 => lcGo src.g (fun x S2 => bindT S2 tg x (wipeR ρ own)) (fun ρ' S2 => evT Φ ts ρ' S2) (fun ρ' S2 => evE Φ e ρ' S2) src.xs S1 []
  | .new a, ρ, S => (evE Φ a ρ S).bind fun x S1 => match x with
    | .d (.list xs) => .ok (.ptr S1.length) (S1 ++ [.lst xs])
    | _ => .err
  | .frz a, ρ, S => (evE Φ a ρ S).bind fun x S1 => match x with
    | .ptr p => (match S1[p]? with
      | some (.lst xs) => .ok (.d (.list xs)) (S1.set p .dead)
      | _ => .err)
    | _ => .err
  | .fld f cs a, ρ, S => (evE Φ a ρ S).bind fun x S1 => match x with
    | .exn x => (match x.f with
      | some (g, y) => if g = f ∧ x.c ∈ cs then .ok (.d y) S1 else .err
      | none => .err)
    | _ => .err
  | .isK k a, ρ, S => (evE Φ a ρ S).bind fun x S1 => match x with
    | .exn x => (match Φ.kn.ask k x.c with
      | some b => .ok (.d (.bool b)) S1
      | none => .err)
    | _ => .err
  | _, _, _ => .err
def evA (Φ : Phi) : M → Rho → Sto → R (List W)
  | .anil, _, S => .ok [] S
  | .acons a r, ρ, S => (evE Φ a ρ S).bind fun x S1 => (evA Φ r ρ S1).bind fun xs S2 => .ok (x :: xs) S2
  | _, _, _ => .err
/-- a slice's part -/
def evO (Φ : Phi) : M → Rho → Sto → R (Option Int)
  | .nop, _, S => .ok none S
  | .one a, ρ, S => (evE Φ a ρ S).bind fun x S1 => match x with
    | .d (.int i) => .ok (some i) S1
    | _ => .err
  | _, _, _ => .err
/-- a clause's tests -/
def evT (Φ : Phi) : M → Rho → Sto → R Bool
  | .anil, _, S => .ok true S
  | .one a, ρ, S => tru (evE Φ a ρ S)
  | _, _, _ => .err
def evI (Φ : Phi) : M → Rho → Sto → R Src
  | .itE e, ρ, S => (evE Φ e ρ S).bind fun w S1 => R.ofO (srcW S1 w) S1
  | .itR as, ρ, S => (evA Φ as ρ S).bind fun ws S1 => R.ofO (srcR ws) S1
  | .itN e, ρ, S => (evE Φ e ρ S).bind fun w S1 => R.ofO (srcN S1 w) S1
  | .itZ a b, ρ, S => (evE Φ a ρ S).bind fun x S1 => (evE Φ b ρ S1).bind fun y S2 => match x, y with
    | .d (.list xs), .d (.list ys) => .ok ⟨zipL xs ys, none⟩ S2
    | _, _ => .err
  | _, _, _ => .err
end

/-! ### statements -/
inductive RS where
  | nx (ρ : Rho) (S : Sto)
  | rt (w : W) (S : Sto)
  | bk (ρ : Rho) (S : Sto)
  | ct (ρ : Rho) (S : Sto)
  | exc (x : Exn) (ρ : Rho) (S : Sto)
  | err
def R.st {α : Type} (r : R α) (ρ : Rho) (k : α → Sto → RS) : RS := match r with
  | .ok a S => k a S
  | .exc x S => .exc x ρ S
  | .err => .err
@[simp] theorem R.st_ok {α : Type} (a : α) (S : Sto) (ρ : Rho) (k : α → Sto → RS) : (R.ok a S).st ρ k = k a S := rfl
@[simp] theorem R.st_exc {α : Type} (x : Exn) (S : Sto) (ρ : Rho) (k : α → Sto → RS) : (R.exc x S : R α).st ρ k = .exc x ρ S := rfl
@[simp] theorem R.st_err {α : Type} (ρ : Rho) (k : α → Sto → RS) : (R.err : R α).st ρ k = .err := rfl
def RS.ofO (o : Option Rho) (S : Sto) : RS := match o with
  | some ρ => .nx ρ S
  | none => .err
def forGo (g : Option (Nat × List PyData)) (bt : W → Rho → Sto → Option Rho) (body : Rho → Sto → RS) : List W → Rho → Sto → RS
  | [], ρ, S => if guard g S then .nx ρ S else .err
  | x :: xs, ρ, S => if guard g S then (match bt x ρ S with
    | some ρ1 => (match body ρ1 S with
      | .nx ρ2 S2 => forGo g bt body xs ρ2 S2
      | .ct ρ2 S2 => forGo g bt body xs ρ2 S2
      | .bk ρ2 S2 => .nx ρ2 S2
      | r => r)
    | none => .err) else .err
def whGo (t : Rho → Sto → R Bool) (body : Rho → Sto → RS) : Nat → Rho → Sto → RS
  | 0, _, _ => .err
  | n + 1, ρ, S => match t ρ S with
    | .ok true S1 => (match body ρ S1 with
      | .nx ρ2 S2 => whGo t body n ρ2 S2
      | .ct ρ2 S2 => whGo t body n ρ2 S2
      | .bk ρ2 S2 => .nx ρ2 S2
      | r => r)
    | .ok false S1 => .nx ρ S1
    | .exc x S1 => .exc x ρ S1
    | .err => .err
/-- o[i] = v -/
def setW (S : Sto) (x i : W) (v : W) : Option Sto := match x, i, v with
  | .ptr p, .d (.int k), .d v => match S[p]? with
    | some (.lst xs) => (L2.ixN xs.length k).map fun j => S.set p (.lst (xs.set j v))
    | _ => none
  | _, _, _ => none
def augW (k : O2) (x y : W) : Option W := match k, x, y with
  | .add, .d (.int i), .d (.int j) => some (.d (.int (i + j)))
  | .sub, .d (.int i), .d (.int j) => some (.d (.int (i - j)))
  | _, _, _ => none
def exS (Φ : Phi) : M → Rho → Sto → RS
  | .asg tg e, ρ, S => (evE Φ e ρ S).st ρ fun w S1 => RS.ofO (bindT S1 tg w ρ) S1
  | .asgLc i e, ρ, S => (evE Φ e ρ S).st ρ fun w S1 => RS.ofO (if i < ρ.length then some (ρ.set i (some w)) else none) S1
  | .par2 i j a b, ρ, S => (evE Φ a ρ S).st ρ fun x S1 => (evE Φ b ρ S1).st ρ fun y S2 => if i < ρ.length ∧ j < ρ.length then .nx ((ρ.set i (some x)).set j (some y)) S2 else .err
  | .aug i k e, ρ, S => match ρ[i]? with
    | some (some x) => (evE Φ e ρ S).st ρ fun y S1 => match augW k x y with
      | some z => .nx (ρ.set i (some z)) S1
      | none => .err
    | _ => .err
  | .setix a b e, ρ, S => (evE Φ e ρ S).st ρ fun v S1 => (evE Φ a ρ S1).st ρ fun x S2 => (evE Φ b ρ S2).st ρ fun i S3 => match setW S3 x i v with
    | some S4 => .nx ρ S4
    | none => .err
  | .ex e, ρ, S => (evE Φ e ρ S).st ρ fun _ S1 => .nx ρ S1
  | .ret e, ρ, S => (evE Φ e ρ S).st ρ fun w S1 => .rt w S1
  | .retN, _, S => .rt (.d .none) S
  | .ift t a b, ρ, S => (tru (evE Φ t ρ S)).st ρ fun c S1 => if c then exS Φ a ρ S1 else exS Φ b ρ S1
  | .for_ tg it body, ρ, S => (evI Φ it ρ S).st ρ fun src S1 => forGo src.g (fun x ρ' S2 => bindT S2 tg x ρ') (fun ρ' S2 => exS Φ body ρ' S2) src.xs ρ S1
  | .wh n t body, ρ, S => whGo (fun ρ' S2 => tru (evE Φ t ρ' S2)) (fun ρ' S2 => exS Φ body ρ' S2) n ρ S
  | .rais c, ρ, S => .exc ⟨c, none⟩ ρ S
  | .tryK k ie i body, ρ, S => match exS Φ body ρ S with
    | .exc x ρ1 S1 => (match Φ.kn.ask k x.c with
      | some true => if ie < ρ1.length ∧ i < ρ1.length then .nx (((ρ1.set ie (some (.exn x))).set i (some (.exn x))).set ie none) S1 else .err
      | some false => .exc x ρ1 S1
      | none => .err)
    | r => r
  | .raisF c f e, ρ, S => (evE Φ e ρ S).st ρ fun w S1 => match w with
    | .d x => .exc ⟨c, some (f, x)⟩ ρ S1
    | _ => .err
  | .brk, ρ, S => .bk ρ S
  | .cnt, ρ, S => .ct ρ S
  | .pss, ρ, S => .nx ρ S
  | .snil, ρ, S => .nx ρ S
  | .scons a r, ρ, S => match exS Φ a ρ S with
    | .nx ρ' S' => exS Φ r ρ' S'
    | r' => r'
  | _, _, _ => .err

/-! ### defs -/
structure Fn where
  name : Str
  ps : List Str
  N : List Str
  dv : List PyData
  body : M
/-- a def's end: what it made for itself is forgotten -/
def leave (n : Nat) (w : W) (S : Sto) : R W := match w with
  | .ptr p => if p < n then .ok w (S.take n) else .ok w S
  | _ => .ok w (S.take n)
def fin (n : Nat) : RS → R W
  | .nx _ S => leave n (.d .none) S
  | .rt w S => leave n w S
  | .exc x _ S => .exc x (S.take n)
  | _ => .err
def startR (fn : Fn) (ws : List W) : Rho := ws.map some ++ List.replicate (fn.N.length - ws.length) none
def withD (fn : Fn) (ws : List W) : List W := ws ++ ((fn.dv.drop (fn.dv.length - (fn.ps.length - ws.length))).map .d)
def runF (Φ : Phi) (fn : Fn) (ws : List W) (S : Sto) : R W :=
  if (withD fn ws).length = fn.ps.length then fin S.length (exS Φ fn.body (startR fn (withD fn ws)) S) else .err
def run (kn : Kn) (T : List Fn) : Nat → Phi
  | 0 => ⟨fun _ _ _ => .err, kn⟩
  | n + 1 => ⟨fun f ws S => match T[f]? with
    | some fn => runF (run kn T n) fn ws S
    | none => .err, kn⟩
end Mi

/-! MiX1: a caught exception that is kept. -/
namespace Mi
open PySem PySem.Spec PyProof.Rows L2
/-- an exception object: its class, its dict; raised and caught, or not yet raised -/
def ExK (cls : Value) (d : Option Addr) (a : Addr) : HO := .ext fun h => ∃ oe vs, h.get? a = some oe ∧ Zc cls d oe ∧ oe.data = .fields vs
theorem exk_ok {P : Program} {w : World} {H : Hp} {h : Heap} {a : Addr} {cls : Value} {d : Option Addr} {oe : Obj} {vs : Array Value} (e : h.get? a = some oe) (z : Zc cls d oe) (f : oe.data = .fields vs) : ObjOk P w H h a (ExK cls d a) :=
  ⟨⟨oe, vs, e, z, f⟩, ⟨oe, e⟩, fun _ _ w k => let ⟨oe, vs, e1, e2, e3⟩ := w; ⟨oe, vs, k oe e1, e2, e3⟩⟩
section
variable {X : Cx} {pins : List (Addr × Obj)} {σ : L2.St} {H : Hp} {s : Shared}
/-- an object that is there, and not tracked, is tracked from now on -/
theorem adopt {a : Addr} {oe : Obj} {o : HO} (I : Inv X pins σ H s) (ha : s.heap.get? a = some oe) (hn : H a = none) (hL : a ≠ X.env.locals) (hp : ∀ p ∈ X.pn ++ pins, p.1 ≠ a) (hc : ∀ v, oe.data ≠ .cell v)
    (h0 : ∀ u, X.s_0.heap.get? a = some u → X.H_0 a ≠ none) (new : ObjOk X.prog X.w (upd H a o) s.heap a o) : Inv X pins σ (upd H a o) s := by
  have old : ∀ {b u}, H b = some u → upd H a o b = some u := fun {b u} e => by rw [upd_ne (ne_of_none e hn)]; exact e
  refine ⟨I.ok, I.os, I.bare, ⟨I.base.keep, I.base.slot, fun b u e1 e2 e3 => ?_, I.base.there, fun b xs e => old (I.base.tups b xs e), fun b u xs e => old (I.base.frzs b u xs e), fun b ps e => ?_⟩, I.loc, I.cell, ?_, fun x c e => ?_, fun p q => ?_, fun b u e => ?_, I.len⟩
  · have hb : b ≠ a := fun z => h0 u (z ▸ e1) (z ▸ e2)
    rw [upd_ne hb]
    exact I.base.free b u e1 e2 e3
  · obtain ⟨more, q⟩ := I.base.tbls b ps e
    exact ⟨more, old q⟩
  · rw [upd_ne (Ne.symm hL)]
    exact I.free
  · obtain ⟨v, z⟩ := I.cell x c e
    have hb : c ≠ a := fun q => by
      subst q
      obtain ⟨oc, w1, w2⟩ := z
      rw [ha] at w1
      cases w1
      exact hc _ w2
    rw [upd_ne hb]
    exact I.freeC x c e
  · obtain ⟨q1, q2, q3, q4, q5⟩ := I.pin p q
    exact ⟨q1, by rw [upd_ne (hp p q)]; exact q2, q3, q4, q5⟩
  · by_cases hb : b = a
    · subst hb
      rw [upd_same] at e
      cases e
      exact new
    · rw [upd_ne hb] at e
      exact (I.hok b u e).stay (fun _ _ _ q => q) (fun c q => old q) fun c xs q => old q
/-- what 'except x as n: y = n' wishes: the exception is kept under y (slot j), n's slot i is empty again -/
def wKeep (K : PySem.W.Frag) (c : Value) (i j : Nat) (Wout : WX) (D : Ends) : WX := fun cls d σ H =>
  ∃ b, PySem.W.exmOne K cls c = some b ∧ (b = true → ∀ a, H a = none → D.nx (((σ.set i (some (.ref a))).set j (some (.ref a))).set i none) (upd H a (ExK cls d a))) ∧ (b = false → Wout cls d σ H)
variable {x n y : Str} {c : Value} {i j : Nat} {body : List Stmt} {np p1 p2 p3 pos' pos : Pos} {tb : WX → TS} {Wout : WX}
theorem ps_try_keep (st : X.stack = X.env :: X.outer) (fr : X.env.frame = some X.env.locals) (hex : X.ex = []) (nd : X.N.Nodup) (hi : X.N[i]? = some n) (li : X.env.kindOf n = some .local) (hj : X.N[j]? = some y) (lj : X.env.kindOf y = some .local) (dn : (n == ("__debug__" : Str)) = false) (dcn : (n == ("__classdict__" : Str)) = false)
    (hc : Names X x c) (tk : Takes X Wout) (hb : ∀ (W : WX) (pn : List (Addr × Obj)) (xe : Value → Shared → Prop), Takes (X.tr pn xe) W → PassesOwn (model X.prog X.w) X.A X.env xe → PSs (X.tr pn xe) body (tb W)) :
    PS X (.Try body [.ExceptHandler (some (.Name x np)) (some n) [.Assign [.Name y p1] (.Name n p2) p3] pos'] [] [] pos) (fun D σ H => tb (wKeep X.K c i j Wout D) D σ H) := by
  refine ⟨fun pl s0 τ G D J0 hyp => ?_⟩
  have okX := J0.ok
  have frames : X.A.frames = some (X.env :: X.outer) := okX.frames.trans (congrArg some st)
  refine wpAny_Try_except (wpAny_mono ((hb (wKeep X.K c i j Wout D) (X.pn ++ pl) _ (fun u s' caught => ?_) PassesOwn.looking).run [] s0 τ G D (J0.toTry _) hyp) (fun f s1 done => ?_) (fun e s1 he => he))
  · obtain ⟨a, B, sI, pp, τ1, G1, cls, d, rfl, JJ, nb, up, sky, na, os, ag, b, hb1, hyes, hno⟩ := caught
    have J : Inv X pl τ1 G1 sI := JJ.ofTry okX
    rw [show (X.tr (X.pn ++ pl) _).stack = X.env :: X.outer from st] at sky
    refine Sky.land Zc.steady frames fr sky fun h3 fl up3 => ?_
    have J3 : Inv X pl τ1 G1 { s' with heap := h3 } := J.landed nb fl.1 (up.trans up3) os ag
    obtain ⟨oe, vs, he, hz, hd⟩ := fl.there
    have nfr : a ∉ frs (X.env :: X.outer) := fun hm => by
      obtain ⟨_, o', e', hnf⟩ := fl.2.2.1.mem hm
      rw [he] at e'
      cases e'
      exact hnf _ hd
    have nL : a ≠ X.env.locals := fun z => nfr (List.mem_filterMap.mpr ⟨X.env, List.mem_cons_self, by rw [fr, z]⟩)
    have nF : a ∉ X.fs := fun hm => by
      obtain ⟨e, he, q⟩ := List.mem_filterMap.mp hm
      exact nfr (List.mem_filterMap.mpr ⟨e, List.mem_cons_of_mem _ he, q⟩)
    have Ba : B.get? a = none := fl.2.1
    have nsI : ∀ o, sI.heap.get? a ≠ some o := fun o e => by
      have := nb a o e (by show a ∉ frs X.stack; rw [st]; exact nfr)
      rw [Ba] at this
      cases this
    have n0 : ∀ u, X.s_0.heap.get? a ≠ some u := fun u e => by
      obtain ⟨o', e'⟩ := J.base.there a u e (by rw [hex]; exact List.not_mem_nil)
      exact nsI o' e'
    have np_ : ∀ p ∈ X.pn ++ pl, p.1 ≠ a := fun p hp z => nsI p.2 (by rw [← z]; exact (J.pin p hp).1)
    have S3 := J3.suite he hd na nL nF
    refine wpAny_handleBy_cons (codeAny_handlers_test ?_) (by intro q; cases q)
    have LT : PySem.W.Looks (model X.prog X.w) h3 (typeOf (.ref a)) cls := fun A Q E s k q => wpAny_typeOf_ref (k _ _ he) (by rw [hz.1]; exact q)
    have LM := PySem.W.exm_one (M := model X.prog X.w) (J3.kIn) LT hb1
    have look : ∀ {Q : Value → Shared → Prop} {E : Value → Shared → Prop}, Q c { s' with heap := h3 } → wpAny (model X.prog X.w) (X.A.mark (some (.ref a))) (eval (.Name x np) X.env) Q E { s' with heap := h3 } := fun {Q E} q => by
      obtain ⟨hg, hdbg, hm | ⟨hm, hv, hnn⟩⟩ := hc
      · exact ld_glob (X := X.suite a ((a, oe) :: (X.pn ++ pl))) S3 hg hm q hdbg
      · exact ld_blt (X := X.suite a ((a, oe) :: (X.pn ++ pl))) S3 hg hm hv q hnn hdbg
    refine look (LM.here ?_)
    cases b with
    | true =>
      refine codeAny_handlers_suite_as (HandSPX.lands_againZ fl fun h4 fl4 up4 => ?_)
      have J4 : Inv X pl τ1 G1 { s' with heap := h4 } := J.landed nb fl4.1 ((up.trans up3).trans up4) os ag
      obtain ⟨o4, v4, e4, z4, d4⟩ := fl4.there
      have S4 := J4.suite e4 d4 na nL nF
      refine store_ok (X := X.suite a ((a, o4) :: (X.pn ++ pl))) (v := .ref a) S4 nd hi (.inl li) rfl (fun s5 S5 => ?_) (.inr li)
      have suite : PSs (X.suite a ((a, o4) :: (X.pn ++ pl))) [.Assign [.Name y p1] (.Name n p2) p3] (tAsg (tVar i) (gName j)) := pss_one (ps_set nd hj (.inl lj) (pe_var hi (.inl li) dn dcn) rfl (.inr lj))
      have hiτ : i < τ1.length := by
        rw [J4.len]
        exact (List.getElem?_eq_some_iff.mp hi).1
      refine wpAny_mono (suite.run [] s5 _ G1 { nx := fun τ2 G2 => τ2 = (τ1.set i (some (.ref a))).set j (some (.ref a)) ∧ G2 = G1, rt := fun _ _ => False } S5 ⟨.ref a, List.getElem?_set_self hiτ, rfl, rfl⟩) (fun f s6 hsp => ?_) (fun _ _ z => False.elim z)
      cases f with
      | next =>
        obtain ⟨τ6, G6, S6, rfl, rfl⟩ := hsp
        have pa := (S6.pin (a, o4) (List.mem_append_left _ List.mem_cons_self))
        have J6 : Inv X ((a, o4) :: pl) ((τ1.set i (some (.ref a))).set j (some (.ref a))) G6 s6 := ⟨okX, S6.os, S6.bare, S6.base, S6.loc, S6.cell, S6.free, S6.freeC, fun p hp => S6.pin p (by
          rw [List.append_nil]
          rcases List.mem_append.mp hp with q | q
          · exact List.mem_cons_of_mem _ (List.mem_append_left _ q)
          · rcases List.mem_cons.mp q with q | q
            · exact q ▸ List.mem_cons_self
            · exact List.mem_cons_of_mem _ (List.mem_append_right _ q)), S6.hok, S6.len⟩
        refine gone_ok J6 nd hi li fun s7 J7 => ?_
        obtain ⟨q1, q2, q3, q4, q5⟩ := J7.pin (a, o4) (List.mem_append_right _ List.mem_cons_self)
        have J8 : Inv X pl _ G6 s7 := J7.pins_of fun p hp => J7.pin p (List.mem_append_right _ (List.mem_cons_of_mem _ hp))
        exact ⟨_, _, adopt (o := ExK cls d a) J8 q1 na nL np_ q5 (fun u e => absurd e (n0 u)) (exk_ok q1 z4 d4), hyes rfl a na⟩
      | brk =>
        obtain ⟨_, _, _, q6⟩ := hsp
        exact q6.elim
      | cont =>
        obtain ⟨_, _, _, q6⟩ := hsp
        exact q6.elim
      | ret u =>
        obtain ⟨_, _, _, _, _, q6⟩ := hsp
        exact q6.elim
    | false =>
      show wpAny _ X.A (handleBy (.ref a) X.env []) _ _ _
      refine wpAny_handleBy_nil ?_
      obtain ⟨_, _, _, o3, v3, T, _, _, f1, _, f2, f3, _⟩ := id fl
      unfold PySem.passOn
      refine wpAny_bind (wpAny_field f1 f2 f3 ?_)
      rw [if_neg (by intro q; simp at q)]
      have fin : wpAny (model X.prog X.w) X.A (setFlight (.ref a) X.env.frame) (fun _ s4 => wpAny (model X.prog X.w) X.A (throw (.ref a) : Sem Flow) (SP X pl D) X.xe s4) X.xe { s' with heap := h3 } := by
        rw [fr]
        exact HandSPX.setFlight_upZ fl fun h4 hh up4 => wpAny_throw (tk _ _ ⟨a, B, sI, pl, τ1, G1, cls, d, rfl, J, nb, (up.trans up3).trans up4, .inr (.inr (by rw [st]; exact hh)), na, os, ag, hno rfl⟩)
      first
        | exact wpAny_bind (wpAny_pure (wpAny_bind fin))
        | exact wpAny_bind fin
  · cases f with
    | next =>
      obtain ⟨τ1, G1, J1, q⟩ := done
      exact wpAny_execs_nil ⟨τ1, G1, J1.ofTry okX, q⟩
    | brk =>
      obtain ⟨τ1, G1, J1, q⟩ := done
      exact ⟨τ1, G1, J1.ofTry okX, q⟩
    | cont =>
      obtain ⟨τ1, G1, J1, q⟩ := done
      exact ⟨τ1, G1, J1.ofTry okX, q⟩
    | ret u =>
      obtain ⟨v1, τ1, G1, J1, r, q⟩ := done
      exact ⟨v1, τ1, G1, J1.ofTry okX, r, q⟩
end
end Mi

/-! MiC: data over the heap. -/
namespace Mi
open PySem PySem.Spec PyProof.Rows L2

def Ex (H H' : Hp) : Prop := ∀ a o, H a = some o → H' a = some o
theorem Ex.refl (H : Hp) : Ex H H := fun _ _ h => h
theorem Ex.trans {H H1 H2 : Hp} (a : Ex H H1) (b : Ex H1 H2) : Ex H H2 := fun x o h => b x o (a x o h)
theorem Ex.rd {H H' : Hp} {a : Addr} {u : HO} (e : Ex H H') (h : Rd H a u) : Rd H' a u := by
  rcases h with h | ⟨o, h⟩
  · exact Or.inl (e a _ h)
  · exact Or.inr ⟨o, e a _ h⟩
theorem Ex.l {K : PySem.W.Frag} {H H' : Hp} {a : Addr} {xs : List V} (e : Ex H H') (h : SqL K H a xs) : SqL K H' a xs := by
  rcases h with h | h
  · exact Or.inl (e.rd h)
  · exact Or.inr h
theorem Ex.t {K : PySem.W.Frag} {H H' : Hp} {a : Addr} {xs : List V} (e : Ex H H') (h : SqT K H a xs) : SqT K H' a xs := by
  rcases h with h | h
  · exact Or.inl (e.rd h)
  · exact Or.inr h

/-! ### plain data -/
mutual
inductive Rp (K : PySem.W.Frag) (F : Hp) : V → PyData → Prop
  | non : Rp K F .non .none
  | bl (b : Bool) : Rp K F (.bl b) (.bool b)
  | int (i : Int) : Rp K F (.int i) (.int i)
  | str (x : Str) : Rp K F (.str x) (.str x)
  | lst {a : Addr} {xs : List V} {ds : List PyData} : SqL K F a xs → Rps K F xs ds → Rp K F (.ref a) (.list ds)
  | tup {a : Addr} {xs : List V} {ds : List PyData} : SqT K F a xs → Rps K F xs ds → Rp K F (.ref a) (.tuple ds)
inductive Rps (K : PySem.W.Frag) (F : Hp) : List V → List PyData → Prop
  | nil : Rps K F [] []
  | cons {v : V} {vs : List V} {d : PyData} {ds : List PyData} : Rp K F v d → Rps K F vs ds → Rps K F (v :: vs) (d :: ds)
end
section
variable {K : PySem.W.Frag} {F F' : Hp}
mutual
theorem Rp.mono (e : Ex F F') : ∀ {d : PyData} {v : V}, Rp K F v d → Rp K F' v d
  | .none, _, h => by cases h; exact .non
  | .bool b, _, h => by cases h; exact .bl b
  | .int i, _, h => by cases h; exact .int i
  | .str x, _, h => by cases h; exact .str x
  | .list ds, _, h => by
    cases h with
    | lst h1 h2 => exact .lst (e.l h1) (Rps.mono e h2)
  | .tuple ds, _, h => by
    cases h with
    | tup h1 h2 => exact .tup (e.t h1) (Rps.mono e h2)
  | .dict _, _, h => by cases h
theorem Rps.mono (e : Ex F F') : ∀ {ds : List PyData} {vs : List V}, Rps K F vs ds → Rps K F' vs ds
  | [], _, h => by cases h; exact .nil
  | d :: ds, _, h => by
    cases h with
    | cons h1 h2 => exact .cons (Rp.mono e h1) (Rps.mono e h2)
end
mutual
theorem Rp.dp : ∀ {d : PyData} {v : V}, Rp K F v d → Dp K F v d
  | .none, _, h => by cases h; exact .non
  | .bool b, _, h => by cases h; exact .bl b
  | .int i, _, h => by cases h; exact .int i
  | .str x, _, h => by cases h; exact .str x
  | .list ds, _, h => by
    cases h with
    | lst h1 h2 => exact .lst h1 (Rps.dp h2)
  | .tuple ds, _, h => by
    cases h with
    | tup h1 h2 => exact .tup h1 (Rps.dp h2)
  | .dict _, _, h => by cases h
theorem Rps.dp : ∀ {ds : List PyData} {vs : List V}, Rps K F vs ds → DpAll K F vs ds
  | [], _, h => by cases h; exact .nil
  | d :: ds, _, h => by
    cases h with
    | cons h1 h2 => exact .cons (Rp.dp h1) (Rps.dp h2)
end
theorem Rps.length : ∀ {ds : List PyData} {vs : List V}, Rps K F vs ds → vs.length = ds.length
  | [], _, h => by cases h; rfl
  | d :: ds, _, h => by
    cases h with
    | cons h1 h2 => exact congrArg Nat.succ (Rps.length h2)
theorem Rps.append : ∀ {ds es : List PyData} {vs ws : List V}, Rps K F vs ds → Rps K F ws es → Rps K F (vs ++ ws) (ds ++ es)
  | [], _, _, _, h, g => by cases h; exact g
  | d :: ds, _, _, _, h, g => by
    cases h with
    | cons h1 h2 => exact .cons h1 (Rps.append h2 g)
theorem Rps.drop : ∀ (n : Nat) {ds : List PyData} {vs : List V}, Rps K F vs ds → Rps K F (vs.drop n) (ds.drop n)
  | 0, _, _, h => h
  | n + 1, [], _, h => by cases h; exact .nil
  | n + 1, d :: ds, _, h => by
    cases h with
    | cons h1 h2 => exact Rps.drop n h2
theorem Rps.take : ∀ (n : Nat) {ds : List PyData} {vs : List V}, Rps K F vs ds → Rps K F (vs.take n) (ds.take n)
  | 0, _, _, _ => .nil
  | n + 1, [], _, h => by cases h; exact .nil
  | n + 1, d :: ds, _, h => by
    cases h with
    | cons h1 h2 => exact .cons h1 (Rps.take n h2)
theorem Rps.get : ∀ {ds : List PyData} {vs : List V} {i : Nat} {d : PyData}, Rps K F vs ds → ds[i]? = some d → ∃ v, vs[i]? = some v ∧ Rp K F v d
  | [], _, _, _, _, h => by simp at h
  | x :: ds, _, 0, d, h, e => by
    cases h with
    | cons h1 h2 =>
      simp at e
      subst e
      exact ⟨_, rfl, h1⟩
  | x :: ds, _, i + 1, d, h, e => by
    cases h with
    | cons h1 h2 =>
      obtain ⟨v, q, r⟩ := Rps.get (i := i) h2 (by simpa using e)
      exact ⟨v, by simpa using q, r⟩
theorem Rps.getV : ∀ {ds : List PyData} {vs : List V} {i : Nat} {v : V}, Rps K F vs ds → vs[i]? = some v → ∃ d, ds[i]? = some d ∧ Rp K F v d
  | [], _, _, _, h, e => by cases h; simp at e
  | x :: ds, _, 0, v, h, e => by
    cases h with
    | cons h1 h2 =>
      simp at e
      subst e
      exact ⟨_, rfl, h1⟩
  | x :: ds, _, i + 1, v, h, e => by
    cases h with
    | cons h1 h2 =>
      obtain ⟨d, q, r⟩ := Rps.getV (i := i) h2 (by simpa using e)
      exact ⟨d, by simpa using q, r⟩
theorem Rps.set : ∀ {ds : List PyData} {vs : List V} (i : Nat) {v : V} {d : PyData}, Rps K F vs ds → Rp K F v d → Rps K F (vs.set i v) (ds.set i d)
  | [], _, _, _, _, h, _ => by cases h; exact .nil
  | x :: ds, _, 0, v, d, h, r => by
    cases h with
    | cons h1 h2 => exact .cons r h2
  | x :: ds, _, i + 1, v, d, h, r => by
    cases h with
    | cons h1 h2 => exact .cons h1 (Rps.set i h2 r)
end

/-! ### values, things that change -/
/-- an exception's dict -/
def XF (K : PySem.W.Frag) (F : Hp) (x : Exn) (d : Option Addr) : Prop := match x.f with
  | none => d = none
  | some (f, y) => ∃ dx v, d = some dx ∧ F dx = some (.xd [(f, v)]) ∧ Rp K F v y
def WR (K : PySem.W.Frag) (F : Hp) (A : List Addr) : W → V → Prop
  | .d x, v => Rp K F v x
  | .ptr p, v => ∃ a, A[p]? = some a ∧ v = .ref a
  | .exn x, v => ∃ a d, v = .ref a ∧ F a = some (ExK (.ref (He.ga K x.c)) d a) ∧ XF K F x d
def WRs (K : PySem.W.Frag) (F : Hp) (A : List Addr) : List W → List V → Prop
  | [], [] => True
  | w :: ws, v :: vs => WR K F A w v ∧ WRs K F A ws vs
  | _, _ => False
def MR (K : PySem.W.Frag) (F H : Hp) (a : Addr) : MO → Prop
  | .lst xs => F a = none ∧ ∃ vs, H a = some (.lst vs) ∧ Rps K F vs xs
  | .dead => True
structure Good (K : PySem.W.Frag) (F : Hp) (A : List Addr) (S : Sto) (H : Hp) : Prop where
  len : A.length = S.length
  nd : A.Nodup
  ex : Ex F H
  inH : ∀ a ∈ A, H a ≠ none
  ob : ∀ (p : Nat) (a : Addr) (mo : MO), A[p]? = some a → S[p]? = some mo → MR K F H a mo
structure Stp (F : Hp) (A : List Addr) (H F' : Hp) (A' : List Addr) (H' : Hp) : Prop where
  exF : Ex F F'
  exA : ∃ B, A' = A ++ B
  fr : ∀ b o, H b = some o → b ∉ A → H' b = some o
  kp : ∀ b, H b ≠ none → H' b ≠ none
  nA : ∀ b ∈ A', b ∈ A ∨ H b = none
  nF : ∀ b, F b = none → F' b ≠ none → b ∈ A ∨ H b = none
section
variable {K : PySem.W.Frag} {F F1 F2 : Hp} {A A1 A2 : List Addr} {H H1 H2 : Hp}
theorem XF.mono {F F' : Hp} {x : Exn} {d : Option Addr} (e : Ex F F') (h : XF K F x d) : XF K F' x d := by
  unfold XF at h ⊢
  split at h
  · exact h
  · obtain ⟨dx, v, q1, q2, q3⟩ := h
    exact ⟨dx, v, q1, e _ _ q2, Rp.mono e q3⟩
theorem Stp.refl : Stp F A H F A H := ⟨Ex.refl F, ⟨[], by simp⟩, fun _ _ h _ => h, fun _ h => h, fun _ h => .inl h, fun b h h' => absurd h h'⟩
theorem Stp.trans (s : Stp F A H F1 A1 H1) (t : Stp F1 A1 H1 F2 A2 H2) : Stp F A H F2 A2 H2 := by
  have back : ∀ b, H1 b = none → H b = none := fun b h => by
    cases q : H b with
    | none => rfl
    | some o => exact absurd h (s.kp b (by rw [q]; simp))
  refine ⟨s.exF.trans t.exF, ?_, fun b o h hn => ?_, fun b h => t.kp b (s.kp b h), fun b hb => ?_, fun b h h' => ?_⟩
  · obtain ⟨B, e⟩ := s.exA
    obtain ⟨C, e'⟩ := t.exA
    exact ⟨B ++ C, by rw [e', e, List.append_assoc]⟩
  · refine t.fr b o (s.fr b o h hn) fun hm => ?_
    rcases s.nA b hm with z | z
    · exact hn z
    · rw [h] at z; cases z
  · rcases t.nA b hb with z | z
    · exact s.nA b z
    · exact .inr (back b z)
  · cases q : F1 b with
    | some o => exact s.nF b h (by rw [q]; simp)
    | none =>
      rcases t.nF b q h' with z | z
      · exact s.nA b z
      · exact .inr (back b z)
theorem WR.mono {w : W} {v : V} (s : Stp F A H F1 A1 H1) (h : WR K F A w v) : WR K F1 A1 w v := by
  cases w with
  | d x => exact Rp.mono s.exF h
  | ptr p =>
    obtain ⟨a, e, q⟩ := h
    obtain ⟨B, e'⟩ := s.exA
    refine ⟨a, ?_, q⟩
    rw [e', List.getElem?_append_left (List.getElem?_eq_some_iff.mp e).1]
    exact e
  | exn x =>
    obtain ⟨a, d, e1, e2, e3⟩ := h
    exact ⟨a, d, e1, s.exF a _ e2, e3.mono s.exF⟩
theorem WRs.mono (s : Stp F A H F1 A1 H1) : ∀ {ws : List W} {vs : List V}, WRs K F A ws vs → WRs K F1 A1 ws vs
  | [], [], _ => trivial
  | w :: ws, v :: vs, h => ⟨h.1.mono s, WRs.mono s h.2⟩
  | [], _ :: _, h => h.elim
  | _ :: _, [], h => h.elim
theorem WRs.length : ∀ {ws : List W} {vs : List V}, WRs K F A ws vs → ws.length = vs.length
  | [], [], _ => rfl
  | w :: ws, v :: vs, h => congrArg Nat.succ (WRs.length h.2)
  | [], _ :: _, h => h.elim
  | _ :: _, [], h => h.elim
/-- a list read: plain or one that may change -/
theorem Good.list {S : Sto} {w : W} {v : V} {xs : List PyData} (g : Good K F A S H) (r : WR K F A w v) (e : lst? S w = some xs) : ∃ a vs, v = .ref a ∧ SqL K H a vs ∧ Rps K F vs xs := by
  unfold lst? at e
  split at e
  · cases e
    cases r with
    | lst h1 h2 => exact ⟨_, _, rfl, g.ex.l h1, h2⟩
  · rename_i p
    obtain ⟨a, ea, rfl⟩ := r
    cases q : S[p]? with
    | none => rw [q] at e; cases e
    | some mo =>
      rw [q] at e
      cases mo with
      | dead => cases e
      | lst ys =>
        cases e
        obtain ⟨_, vs, h1, h2⟩ := g.ob p a _ ea q
        exact ⟨a, vs, rfl, .inl (.inl h1), h2⟩
  · cases e
theorem Good.dat {S : Sto} {w : W} {v : V} {x : PyData} (g : Good K F A S H) (r : WR K F A w v) (e : dat? S w = some x) : Dp K H v x := by
  unfold dat? at e
  split at e
  · cases e
    exact (Rp.mono g.ex r).dp
  · rename_i p
    obtain ⟨a, ea, rfl⟩ := r
    cases q : S[p]? with
    | none => rw [q] at e; cases e
    | some mo =>
      rw [q] at e
      cases mo with
      | dead => cases e
      | lst ys =>
        cases e
        obtain ⟨_, vs, h1, h2⟩ := g.ob p a _ ea q
        exact .lst (.inl (.inl h1)) (Rps.mono g.ex h2).dp
  · cases e
/-- a new thing is laid, plain data from now on -/
theorem Good.laid {S : Sto} {p : Addr} {o : HO} (g : Good K F A S H) (h : H p = none) : Stp F A H (upd F p o) A (upd H p o) ∧ Good K (upd F p o) A S (upd H p o) := by
  have hF : F p = none := by
    cases q : F p with
    | none => rfl
    | some u => rw [g.ex p u q] at h; cases h
  have hA : ∀ a ∈ A, a ≠ p := fun a ha e => g.inH a ha (e ▸ h)
  have eF : Ex F (upd F p o) := fun b u e => by rw [upd_ne (ne_of_none e hF)]; exact e
  refine ⟨⟨eF, ⟨[], by simp⟩, fun b u e _ => by rw [upd_ne (ne_of_none e h)]; exact e, fun b hb => ?_, fun b hb => .inl hb, fun b h1 h2 => ?_⟩, ⟨g.len, g.nd, fun b u e => ?_, fun a ha => ?_, fun q a mo e1 e2 => ?_⟩⟩
  · by_cases e : b = p
    · rw [e, upd_same]; simp
    · rw [upd_ne e]; exact hb
  · by_cases e : b = p
    · exact .inr (e ▸ h)
    · rw [upd_ne e] at h2; exact absurd h1 h2
  · by_cases z : b = p
    · subst z
      rw [upd_same] at e ⊢
      exact e
    · rw [upd_ne z] at e ⊢
      exact g.ex b u e
  · rw [upd_ne (hA a ha)]
    exact g.inH a ha
  · have ha := hA a (List.mem_of_getElem? e1)
    have m := g.ob q a mo e1 e2
    cases mo with
    | dead => trivial
    | lst xs =>
      obtain ⟨m1, vs, m2, m3⟩ := m
      exact ⟨by rw [upd_ne ha]; exact m1, vs, by rw [upd_ne ha]; exact m2, Rps.mono eF m3⟩
/-- a new list is laid, one that may change -/
theorem Good.laidM {S : Sto} {p : Addr} {vs : List V} {xs : List PyData} (g : Good K F A S H) (h : H p = none) (r : Rps K F vs xs) : Stp F A H F (A ++ [p]) (upd H p (.lst vs)) ∧ Good K F (A ++ [p]) (S ++ [.lst xs]) (upd H p (.lst vs)) := by
  have hF : F p = none := by
    cases q : F p with
    | none => rfl
    | some u => rw [g.ex p u q] at h; cases h
  have hA : ∀ a ∈ A, a ≠ p := fun a ha e => g.inH a ha (e ▸ h)
  refine ⟨⟨Ex.refl F, ⟨[p], rfl⟩, fun b u e _ => by rw [upd_ne (ne_of_none e h)]; exact e, fun b hb => ?_, fun b hb => ?_, fun b h1 h2 => absurd h1 h2⟩, ⟨by rw [List.length_append, List.length_append, g.len]; rfl, ?_, fun b u e => ?_, fun a ha => ?_, fun q a mo e1 e2 => ?_⟩⟩
  · by_cases e : b = p
    · rw [e, upd_same]; simp
    · rw [upd_ne e]; exact hb
  · rcases List.mem_append.mp hb with z | z
    · exact .inl z
    · rw [List.mem_singleton.mp z]; exact .inr h
  · rw [List.nodup_append]
    exact ⟨g.nd, by simp, fun a ha b hb => by rw [List.mem_singleton.mp hb]; exact hA a ha⟩
  · rw [upd_ne (ne_of_none e hF)]
    exact g.ex b u e
  · rcases List.mem_append.mp ha with z | z
    · rw [upd_ne (hA a z)]; exact g.inH a z
    · rw [List.mem_singleton.mp z, upd_same]; simp
  · by_cases hq : q < A.length
    · rw [List.getElem?_append_left hq] at e1
      rw [List.getElem?_append_left (by rw [← g.len]; exact hq)] at e2
      have ha := hA a (List.mem_of_getElem? e1)
      have m := g.ob q a mo e1 e2
      cases mo with
      | dead => trivial
      | lst xs =>
        obtain ⟨m1, vs, m2, m3⟩ := m
        exact ⟨m1, vs, by rw [upd_ne ha]; exact m2, m3⟩
    · rw [List.getElem?_append_right (by omega)] at e1
      rw [List.getElem?_append_right (by rw [← g.len]; omega), ← g.len] at e2
      cases z : q - A.length with
      | succ n => rw [z] at e1; simp at e1
      | zero =>
        rw [z] at e1 e2
        simp at e1 e2
        subst e1 e2
        exact ⟨hF, vs, upd_same, r⟩
/-- a list that may change is changed -/
theorem Good.write {S : Sto} {p : Nat} {a : Addr} {vs : List V} {xs ys : List PyData} (g : Good K F A S H) (ha : A[p]? = some a) (hs : S[p]? = some (.lst ys)) (r : Rps K F vs xs) :
    Stp F A H F A (upd H a (.lst vs)) ∧ Good K F A (S.set p (.lst xs)) (upd H a (.lst vs)) := by
  obtain ⟨hF, _⟩ := g.ob p a _ ha hs
  have hm : a ∈ A := List.mem_of_getElem? ha
  have hp := (List.getElem?_eq_some_iff.mp hs).1
  refine ⟨⟨Ex.refl F, ⟨[], by simp⟩, fun b u e hn => by
    have hb : b ≠ a := fun z => hn (by rw [z]; exact hm)
    rw [upd_ne hb]; exact e, fun b hb => ?_, fun b hb => .inl hb, fun b h1 h2 => absurd h1 h2⟩, ⟨by rw [List.length_set]; exact g.len, g.nd, fun b u e => ?_, fun b hb => ?_, fun q b mo e1 e2 => ?_⟩⟩
  · by_cases e : b = a
    · rw [e, upd_same]; simp
    · rw [upd_ne e]; exact hb
  · rw [upd_ne (ne_of_none e hF)]
    exact g.ex b u e
  · by_cases e : b = a
    · rw [e, upd_same]; simp
    · rw [upd_ne e]; exact g.inH b hb
  · by_cases hq : q = p
    · subst hq
      rw [ha] at e1
      cases e1
      rw [List.getElem?_set_self hp] at e2
      cases e2
      exact ⟨hF, vs, upd_same, r⟩
    · rw [List.getElem?_set_ne (Ne.symm hq)] at e2
      have hab : b ≠ a := by
        rintro rfl
        obtain ⟨l1, f1⟩ := List.getElem?_eq_some_iff.mp ha
        obtain ⟨l2, f2⟩ := List.getElem?_eq_some_iff.mp e1
        exact hq ((List.getElem_inj g.nd).mp (f2.trans f1.symm))
      have m := g.ob q b mo e1 e2
      cases mo with
      | dead => trivial
      | lst xs =>
        obtain ⟨m1, us, m2, m3⟩ := m
        exact ⟨m1, us, by rw [upd_ne hab]; exact m2, m3⟩
/-- a list that may change is plain data from now on -/
theorem Good.freeze {S : Sto} {p : Nat} {a : Addr} {ys : List PyData} (g : Good K F A S H) (ha : A[p]? = some a) (hs : S[p]? = some (.lst ys)) :
    ∃ vs, H a = some (.lst vs) ∧ Stp F A H (upd F a (.lst vs)) A H ∧ Good K (upd F a (.lst vs)) A (S.set p .dead) H ∧ Rp K (upd F a (.lst vs)) (.ref a) (.list ys) := by
  obtain ⟨hF, vs, hH, r⟩ := g.ob p a _ ha hs
  have hm : a ∈ A := List.mem_of_getElem? ha
  have hp := (List.getElem?_eq_some_iff.mp hs).1
  have eF : Ex F (upd F a (.lst vs)) := fun b u e => by rw [upd_ne (ne_of_none e hF)]; exact e
  refine ⟨vs, hH, ⟨eF, ⟨[], by simp⟩, fun b u e hn => e, fun b hb => hb, fun b hb => .inl hb, fun b h1 h2 => ?_⟩, ⟨by rw [List.length_set]; exact g.len, g.nd, fun b u e => ?_, g.inH, fun q b mo e1 e2 => ?_⟩, .lst (.inl (.inl upd_same)) (Rps.mono eF r)⟩
  · by_cases z : b = a
    · exact .inl (z ▸ hm)
    · rw [upd_ne z] at h2; exact absurd h1 h2
  · by_cases z : b = a
    · subst z
      rw [upd_same] at e
      cases e
      exact hH
    · rw [upd_ne z] at e
      exact g.ex b u e
  · by_cases hq : q = p
    · subst hq
      rw [List.getElem?_set_self hp] at e2
      cases e2
      trivial
    · rw [List.getElem?_set_ne (Ne.symm hq)] at e2
      have hab : b ≠ a := by
        rintro rfl
        obtain ⟨l1, f1⟩ := List.getElem?_eq_some_iff.mp ha
        obtain ⟨l2, f2⟩ := List.getElem?_eq_some_iff.mp e1
        exact hq ((List.getElem_inj g.nd).mp (f2.trans f1.symm))
      have m := g.ob q b mo e1 e2
      cases mo with
      | dead => trivial
      | lst xs =>
        obtain ⟨m1, us, m2, m3⟩ := m
        exact ⟨by rw [upd_ne hab]; exact m1, us, m2, Rps.mono eF m3⟩
/-- only the first n things stay known -/
theorem Good.cut {S : Sto} (g : Good K F A S H) (n : Nat) : Good K F (A.take n) (S.take n) H := by
  refine ⟨by rw [List.length_take, List.length_take, g.len], g.nd.sublist (List.take_sublist _ _), g.ex, fun a ha => g.inH a (List.mem_of_mem_take ha), fun p a mo e1 e2 => ?_⟩
  have h1 : A[p]? = some a := by
    rw [List.getElem?_take] at e1
    split at e1
    · exact e1
    · cases e1
  have h2 : S[p]? = some mo := by
    rw [List.getElem?_take] at e2
    split at e2
    · exact e2
    · cases e2
  exact g.ob p a mo h1 h2
theorem Stp.cut (s : Stp F A H F1 A1 H1) : Stp F A H F1 (A1.take A.length) H1 := by
  obtain ⟨B, e⟩ := s.exA
  refine ⟨s.exF, ⟨[], by rw [e]; simp⟩, s.fr, s.kp, fun b hb => .inl ?_, s.nF⟩
  rw [e, List.take_left'] at hb
  · exact hb
  · rfl
end
end Mi

/-! MiD: operators, subscripts, slices, builtins, methods: each has a rule. -/
namespace Mi
open PySem PySem.Spec PyProof.Rows L2

theorem lim_line {n : Nat} (h : n ≤ lim) : n ≤ sizeLine := Nat.le_trans h (by decide)
theorem lim_line_lt {n : Nat} (h : n < lim) : n < sizeLine := Nat.lt_of_lt_of_le h (by decide)

/-- what follows an operation that gives w -/
def Then (K : PySem.W.Frag) (F : Hp) (A : List Addr) (H : Hp) (S' : Sto) (w : W) (Q : VK) : Prop :=
  ∀ z F' A' H', Stp F A H F' A' H' → Good K F' A' S' H' → WR K F' A' w z → Q z H'
section
variable {K : PySem.W.Frag} {F : Hp} {A : List Addr} {H : Hp} {S : Sto} {w : W} {Q : VK}
theorem Then.now {v : V} (k : Then K F A H S w Q) (g : Good K F A S H) (r : WR K F A w v) : Q v H := k v F A H Stp.refl g r
theorem Then.tup {vs : List V} {xs : List PyData} {p : Addr} (k : Then K F A H S (.d (.tuple xs)) Q) (g : Good K F A S H) (r : Rps K F vs xs) (h : H p = none) : Q (.ref p) (upd H p (.tup vs)) := by
  obtain ⟨s, g'⟩ := g.laid (o := .tup vs) h
  exact k _ _ _ _ s g' (show Rp K _ _ _ from .tup (.inl (.inl upd_same)) (Rps.mono s.exF r))
theorem Then.lst {vs : List V} {xs : List PyData} {p : Addr} (k : Then K F A H S (.d (.list xs)) Q) (g : Good K F A S H) (r : Rps K F vs xs) (h : H p = none) : Q (.ref p) (upd H p (.lst vs)) := by
  obtain ⟨s, g'⟩ := g.laid (o := .lst vs) h
  exact k _ _ _ _ s g' (show Rp K _ _ _ from .lst (.inl (.inl upd_same)) (Rps.mono s.exF r))
end

/-! ### two-place operators -/
/-- what every context of ours has -/
structure Cnd (K : PySem.W.Frag) (X : Cx) : Prop where
  hK : X.K = K
  un : X.A.units + 65 < cLine
  calm : X.calm = true
def OpS (K : PySem.W.Frag) (f : Value → Value → Sem Value) (g : Sto → W → W → Option W) : Prop :=
  ∃ r : R2, (∀ X, Cnd K X → OpR X f r) ∧ ∀ F A S H x y v u w Q, Good K F A S H → WR K F A x v → WR K F A y u → g S x y = some w → Then K F A H S w Q → r v u H Q
section
variable {K : PySem.W.Frag} {X : Cx}
theorem ops_int {f : Value → Value → Sem Value} {C : Int → Int → Prop} {g : Int → Int → V} {G : Int → Int → Option W} (h : ∀ X, OpR X f (rI C g))
    (hc : ∀ i j w, G i j = some w → C i j ∧ ∃ x, w = .d x ∧ ∀ F, Rp K F (g i j) x) : OpS K f (fun _ => int2 G) := by
  refine ⟨_, fun X _ => h X, fun F A S H x y v u w Q gd rx ry e k => ?_⟩
  replace e : int2 G x y = some w := e
  unfold int2 at e
  split at e
  · rename_i a b
    cases rx
    cases ry
    obtain ⟨c, x, rfl, r⟩ := hc a b w e
    exact ⟨a, b, rfl, rfl, c, k.now gd (r F)⟩
  · cases e
theorem OpR.of0 {f : Value → Value → Sem Value} {g : Int → Int → V} (h : OpR X f (rI0 g)) : OpR X f (rI (fun _ _ => True) g) := fun pins s σ H x y v u Q I rx ry q => by
  obtain ⟨i, j, e1, e2, _, q⟩ := q
  exact h pins s σ H x y v u Q I rx ry ⟨i, j, e1, e2, q⟩
theorem ops_sub : OpS K (binaryOp .Sub) (o2 .sub) := ops_int (fun X => OpR.of0 op_sub) fun i j w e => by
  cases e
  exact ⟨trivial, _, rfl, fun F => .int _⟩
theorem ops_lt : OpS K (compareOp .Lt) (o2 .lt) := ops_int (fun X => OpR.of0 op_lt) fun i j w e => by
  cases e
  exact ⟨trivial, _, rfl, fun F => .bl _⟩
theorem ops_le : OpS K (compareOp .LtE) (o2 .le) := ops_int (fun X => OpR.of0 op_le) fun i j w e => by
  cases e
  exact ⟨trivial, _, rfl, fun F => .bl _⟩
theorem ops_gt : OpS K (compareOp .Gt) (o2 .gt) := ops_int (fun X => OpR.of0 op_gt) fun i j w e => by
  cases e
  exact ⟨trivial, _, rfl, fun F => .bl _⟩
theorem ops_ge : OpS K (compareOp .GtE) (o2 .ge) := ops_int (fun X => OpR.of0 op_ge) fun i j w e => by
  cases e
  exact ⟨trivial, _, rfl, fun F => .bl _⟩
theorem op_fdivA : OpR X (binaryOp .FloorDiv) (rI (fun _ j => j ≠ 0 ∧ j.natAbs.log2 < 9000) fun i j => .int (i.fdiv j)) := opI fun i j _ _ _ _ _ hc q =>
  floordiv_int hc.1 q (.inl (PyProof.noPylong_of_log2 hc.2))
theorem ops_fdiv : OpS K (binaryOp .FloorDiv) (o2 .fdiv) := ops_int (fun X => op_fdivA) fun i j w e => by
  by_cases h : divOk j = true
  · rw [if_pos h] at e
    cases e
    unfold divOk at h
    rw [Bool.and_eq_true] at h
    exact ⟨⟨by simpa using h.1, of_decide_eq_true h.2⟩, _, rfl, fun F => .int _⟩
  · rw [if_neg h] at e
    cases e
theorem ops_mod : OpS K (binaryOp .Mod) (o2 .mod) := ops_int (fun X => op_modN) fun i j w e => by
  by_cases h : j = 0
  · rw [if_pos h] at e
    cases e
  · rw [if_neg h] at e
    cases e
    exact ⟨h, _, rfl, fun F => .int _⟩
theorem ops_pow : OpS K (binaryOp .Pow) (o2 .pow) := ops_int (fun X => op_pow) fun i j w e => by
  by_cases h : powOk i j = true
  · rw [if_pos h] at e
    cases e
    unfold powOk at h
    rw [Bool.and_eq_true, Bool.and_eq_true] at h
    exact ⟨⟨of_decide_eq_true h.1, of_decide_eq_true h.2.1, of_decide_eq_true h.2.2⟩, _, rfl, fun F => .int _⟩
  · rw [if_neg h] at e
    cases e
/-- list + list, both read -/
def rCatS (K : PySem.W.Frag) : R2 := fun x y H Q => ∃ l b xs zs, x = .ref l ∧ y = .ref b ∧ SqL K H l xs ∧ SqL K H b zs ∧ xs.length + zs.length ≤ sizeLine ∧ ∀ p, H p = none → Q (.ref p) (upd H p (.lst (xs ++ zs)))
theorem op_catS : OpR X (binaryOp .Add) (rCatS X.K) := by
  intro pins s σ H x y v u Q I rx ry h
  obtain ⟨l, b, xs, zs, rfl, rfl, hH, hB, hz, q⟩ := h
  cases rx
  cases ry
  obtain ⟨its, r, pl, z⟩ := I.list hH
  obtain ⟨its2, r2, pl2, z2⟩ := I.list hB
  have hl := r.length
  have hl2 := r2.length
  obtain ⟨⟨cls, dd, data, sl⟩, n, ho, hc, _, hd⟩ := pl
  obtain ⟨⟨cls2, dd2, data2, sl2⟩, n2, ho2, hc2, _, hd2⟩ := pl2
  simp only at hc hd hc2 hd2
  subst hc hd hc2 hd2
  have ea : its.toArray ++ its2.toArray = (its ++ its2).toArray := by simp
  refine concat_meets ⟨_, ho, rfl⟩ ⟨_, ho2, rfl⟩ noFill_list_add seq_list_add PySem.F.slot_list_add PySem.F.entry_list_add (PySem.F.args_list_add_2 _ _) (list_addW l b its.toArray its2.toArray n n2 dd dd2 sl sl2 (by rw [List.size_toArray, List.size_toArray]; omega)) ⟨ho, ho2, ?_⟩
  rw [ea]
  exact ⟨.ref _, _, I.lnew (t' := s.toks) (r.append r2) (by rw [List.length_append]; omega), rfl, q _ I.fresh⟩
theorem ops_add : OpS K (binaryOp .Add) (o2 .add) := by
  refine ⟨fun x y H Q => (rI0 (fun i j => .int (i + j)) x y H Q ∨ ∃ i j, x = .str i ∧ y = .str j ∧ i.length + j.length ≤ sizeLine ∧ Q (.str (i ++ j)) H) ∨ rCatS K x y H Q, fun X hX => by
    have hK := hX.hK
    subst hK
    exact (op_add.or op_add_str).or op_catS, fun F A S H x y v u w Q gd rx ry e k => ?_⟩
  have e' : addW S x y = some w := e
  unfold addW at e'
  split at e'
  · cases e'
    cases rx
    cases ry
    exact .inl (.inl ⟨_, _, rfl, rfl, k.now gd (.int _)⟩)
  · rename_i a b
    cases rx
    cases ry
    split at e'
    · rename_i h
      cases e'
      exact .inl (.inr ⟨_, _, rfl, rfl, lim_line h, k.now gd (.str _)⟩)
    · cases e'
  · split at e'
    · rename_i a b e1 e2
      split at e'
      · rename_i h
        cases e'
        obtain ⟨l, vs, rfl, h1, r1⟩ := gd.list rx e1
        obtain ⟨m, us, rfl, h2, r2⟩ := gd.list ry e2
        refine .inr ⟨l, m, vs, us, rfl, rfl, h1, h2, ?_, fun p hp => k.lst gd (r1.append r2) hp⟩
        rw [r1.length, r2.length]
        exact lim_line h
      · cases e'
    · cases e'
def rMulS : R2 := fun x y H Q => ∃ z i, x = .str z ∧ y = .int i ∧ 1 ≤ i ∧ i ≤ lim ∧ z.length * i.toNat ≤ lim ∧ Q (.str (repS z i.toNat)) H
theorem foldl_reps (a : Array Nat) : ∀ (k : Nat) (acc : Array Nat), (List.foldl (fun x1 x2 => x1 ++ x2) acc (List.replicate k a)) = acc ++ ((List.replicate k a.toList).flatten).toArray
  | 0, acc => by simp
  | k + 1, acc => by
    rw [List.replicate_succ, List.foldl_cons, foldl_reps a k]
    apply Array.ext'
    simp [List.replicate_succ]
theorem op_mulS : OpR X (binaryOp .Mult) rMulS := by
  intro pins s σ H x y v u Q I rx ry h
  obtain ⟨z, i, rfl, rfl, h1, h2, h3, q⟩ := h
  obtain ⟨t, rfl⟩ := rx
  obtain ⟨t', rfl⟩ := ry
  have hi : i ≤ 1000000 := h2
  have h3' : z.length * i.toNat ≤ 1000000 := h3
  refine PySem.P.mul_str ?_ (fun _ _ => ?_) (fun _ _ => ?_) ?_
  · rw [decide_eq_false (by omega), decide_eq_false (by omega)]; rfl
  · have hz : (z.length : Int) ≤ 1000000 := by
      have : z.length ≤ z.length * i.toNat := Nat.le_mul_of_pos_right _ (by omega)
      omega
    have : (1000000 : Int) ≤ (2 ^ 63 - 1) / i := Int.le_ediv_of_mul_le (by omega) (by omega)
    omega
  · unfold Builtin.Str.tooLong
    have : sizeLine = 16777216 := sizeLine_eq
    simp
    omega
  · rw [if_neg (by omega)]
    have fin : ∀ (s' : Shared), Inv X pins σ H s' → ∀ t2, EP X pins σ Q (.str (repS z i.toNat) t2) s' := fun s' I' t2 => ⟨.str _, H, I', ⟨_, rfl⟩, q⟩
    by_cases c : (i == 1 || z.length == 0) = true
    · rw [if_pos c]
      have e : repS z i.toNat = z := by
        rw [Bool.or_eq_true] at c
        rcases c with c | c
        · have : i = 1 := by simpa using c
          subst this
          unfold repS
          apply TL.ext_tl
          simp [TL.tl]
        · have hz : z.cps.toList = [] := by
            have : z.cps.size = 0 := by simpa [Str.length] using c
            simpa using this
          unfold repS
          apply TL.ext_tl
          simp [TL.tl, hz]
      have := fin s I t
      rw [e] at this
      exact this
    · rw [if_neg c]
      have e : (⟨(List.replicate i.toNat z.cps).foldl (· ++ ·) #[]⟩ : Str) = repS z i.toNat := by
        unfold repS
        rw [foldl_reps]
        simp
      rw [e]
      refine ⟨?_, fin _ (I.tok _) _⟩
      show (repS z i.toNat).length ≤ sizeLine
      unfold repS Str.length
      have e2 : z.cps.toList.length = z.length := by simp [Str.length]
      rw [List.size_toArray, List.length_flatten, List.map_replicate, List.sum_replicate_nat, e2, Nat.mul_comm]
      exact lim_line h3
theorem ops_mul : OpS K (binaryOp .Mult) (o2 .mul) := by
  refine ⟨_, fun X _ => op_mulW.or op_mulS, fun F A S H x y v u w Q gd rx ry e k => ?_⟩
  have e' : mulW x y = some w := e
  unfold mulW at e'
  split at e'
  · cases rx
    cases ry
    split at e'
    · rename_i h
      cases e'
      exact .inl ⟨_, _, rfl, rfl, (by unfold mulOk at h; simpa [CMulW] using h), k.now gd (.int _)⟩
    · cases e'
  · cases rx
    cases ry
    split at e'
    · rename_i h
      cases e'
      exact .inr ⟨_, _, rfl, rfl, h.2.2, h.2.1, h.1, k.now gd (.str _)⟩
    · cases e'
  · cases e'
end
end Mi

/-! MiD2: ==, in, is, subscripts, slices, builtins, methods. -/
namespace Mi
open PySem PySem.Spec PyProof.Rows L2

section
variable {K : PySem.W.Frag} {X : Cx}
theorem blW_some {o : Option Bool} {w : W} (h : blW o = some w) : ∃ b, o = some b ∧ w = .d (.bool b) := by
  cases o with
  | none => cases h
  | some b => exact ⟨b, rfl, (Option.some.inj h).symm⟩
theorem not_some {o : Option Bool} {b : Bool} (h : o.map not = some b) : ∃ c, o = some c ∧ b = !c := by
  cases o with
  | none => cases h
  | some c => exact ⟨c, rfl, (Option.some.inj h).symm⟩
theorem scal_of {K : PySem.W.Frag} {H : Hp} {a b : PyData} {v u : V} (h : scal2 a b = true) (ha : Dp K H v a) (hb : Dp K H u b) : scal v u = true ∧ decide (v = u) = peq a b := by
  cases ha <;> cases hb <;> simp [scal2] at h <;> refine ⟨rfl, ?_⟩ <;> simp [peq] <;> first | (apply Bool.eq_iff_iff.mpr; simp) | rfl
theorem eq_core {K : PySem.W.Frag} {F : Hp} {A : List Addr} {S : Sto} {H : Hp} {x y : W} {v u : V} {b : Bool} (gd : Good K F A S H) (rx : WR K F A x v) (ry : WR K F A y u) (e : eqW S x y = some b) :
    (scal v u = true ∧ decide (v = u) = b) ∨ ∃ d f, Dp K H v d ∧ Dp K H u f ∧ SeqAt.shaped d = true ∧ SeqAt.shaped f = true ∧ PyData.eqv d f = b := by
  unfold eqW at e
  split at e
  · rename_i a c e1 e2
    have h1 := gd.dat rx e1
    have h2 := gd.dat ry e2
    unfold eqD at e
    split at e
    · rename_i hs
      obtain ⟨q1, q2⟩ := scal_of hs h1 h2
      exact .inl ⟨q1, by rw [q2]; exact Option.some.inj e⟩
    · split at e
      · rename_i hs
        rw [Bool.and_eq_true] at hs
        exact .inr ⟨a, c, h1, h2, hs.1, hs.2, Option.some.inj e⟩
      · cases e
  · cases e
theorem ops_eq : OpS K (compareOp .Eq) (o2 .eq) := by
  refine ⟨fun x y H Q => rEq x y H Q ∨ rEqD K x y H Q, fun X hX => by
    have hK := hX.hK
    have hu := hX.un
    subst hK
    exact op_eq.or (op_eqD (by omega)), fun F A S H x y v u w Q gd rx ry e k => ?_⟩
  obtain ⟨b, e1, rfl⟩ := blW_some (show blW (eqW S x y) = some w from e)
  rcases eq_core gd rx ry e1 with ⟨h1, h2⟩ | ⟨d, f, h1, h2, h3, h4, h5⟩
  · exact .inl ⟨h1, by rw [h2]; exact k.now gd (.bl b)⟩
  · exact .inr ⟨d, f, h1, h2, h3, h4, by rw [h5]; exact k.now gd (.bl b)⟩
theorem ops_ne : OpS K (compareOp .NotEq) (o2 .ne) := by
  refine ⟨fun x y H Q => rNe x y H Q ∨ rNeD K x y H Q, fun X hX => by
    have hK := hX.hK
    have hu := hX.un
    subst hK
    exact op_ne.or (op_neD (by omega)), fun F A S H x y v u w Q gd rx ry e k => ?_⟩
  obtain ⟨b, e1, rfl⟩ := blW_some (show blW ((eqW S x y).map not) = some w from e)
  obtain ⟨c, e2, rfl⟩ := not_some e1
  rcases eq_core gd rx ry e2 with ⟨h1, h2⟩ | ⟨d, f, h1, h2, h3, h4, h5⟩
  · exact .inl ⟨h1, by rw [h2]; exact k.now gd (.bl _)⟩
  · exact .inr ⟨d, f, h1, h2, h3, h4, by rw [h5]; exact k.now gd (.bl _)⟩
/-! ### in -/
theorem flat_of {K : PySem.W.Frag} {F : Hp} {x : PyData} {v : V} (h : flatD x = true) (r : Rp K F v x) : flatV v = true := by
  cases r <;> simp [flatD] at h <;> rfl
theorem eqV_of {K : PySem.W.Frag} {F F' : Hp} {x y : PyData} {v u : V} (hx : flatD x = true) (hy : flatD y = true) (r : Rp K F v x) (q : Rp K F' u y) : eqV v u = eqF x y := by
  cases r <;> cases q <;> simp [flatD] at hx hy <;> simp [eqV, eqF]
theorem flats_of {K : PySem.W.Frag} {F : Hp} : ∀ {xs : List PyData} {vs : List V}, xs.all flatD = true → Rps K F vs xs → vs.all flatV = true
  | [], _, _, r => by cases r; rfl
  | x :: xs, _, h, r => by
    cases r with
    | cons r1 r2 =>
      rw [List.all_cons, Bool.and_eq_true] at h
      rw [List.all_cons, flat_of h.1 r1, flats_of h.2 r2]; rfl
theorem inV_of {K : PySem.W.Frag} {F F' : Hp} {x : PyData} {v : V} (hx : flatD x = true) (r : Rp K F v x) : ∀ {xs : List PyData} {vs : List V}, xs.all flatD = true → Rps K F' vs xs → inV v vs = xs.any fun y => eqF y x
  | [], _, _, r => by cases r; rfl
  | y :: xs, _, h, q => by
    cases q with
    | cons r1 r2 =>
      rw [List.all_cons, Bool.and_eq_true] at h
      have ih := inV_of hx r h.2 r2
      unfold inV at ih ⊢
      rw [List.any_cons, List.any_cons, ih, eqV_of h.1 hx r1 r]
theorem in_core {K : PySem.W.Frag} {F : Hp} {A : List Addr} {S : Sto} {H : Hp} {x y : W} {v u : V} {b : Bool} (gd : Good K F A S H) (rx : WR K F A x v) (ry : WR K F A y u) (e : inW S x y = some b) :
    (∃ (c : Nat) (z : Str), v = .str ⟨#[c]⟩ ∧ u = .str z ∧ decide (c ∈ z.cps.toList) = b) ∨ (∃ p xs, u = .ref p ∧ SqL K H p xs ∧ flatV v = true ∧ xs.all flatV = true ∧ inV v xs = b) ∨
      ∃ d ds, Dp K H v d ∧ Dp K H u (.list ds) ∧ SeqAt.shaped d = true ∧ SeqAt.shaped (.list ds) = true ∧ (ds.any fun z => PyData.eqv z d) = b := by
  unfold inW at e
  split at e
  · rename_i a z
    cases rx
    cases ry
    split at e
    · rename_i c hc
      refine .inl ⟨c, z, ?_, rfl, Option.some.inj e⟩
      have : a = ⟨#[c]⟩ := TL.ext_tl hc
      rw [this]
    · cases e
  · rename_i a hn
    split at e
    · rename_i xs e1
      obtain ⟨p, vs, rfl, h1, r1⟩ := gd.list ry e1
      unfold inL at e
      split at e
      · rename_i hs
        rw [Bool.and_eq_true] at hs
        exact .inr (.inl ⟨p, vs, rfl, h1, flat_of hs.1 rx, flats_of hs.2 r1, by rw [inV_of hs.1 rx hs.2 r1]; exact Option.some.inj e⟩)
      · split at e
        · rename_i hs
          rw [Bool.and_eq_true] at hs
          exact .inr (.inr ⟨a, xs, (Rp.mono gd.ex rx).dp, .lst (h1) (Rps.mono gd.ex r1).dp, hs.1, hs.2, Option.some.inj e⟩)
        · cases e
    · cases e
  · cases e
theorem ops_in : OpS K (compareOp .In) (o2 .in_) := by
  refine ⟨fun x y H Q => (∃ (c : Nat) (z : Str), x = .str ⟨#[c]⟩ ∧ y = .str z ∧ Q (.bl (decide (c ∈ z.cps.toList))) H) ∨ rIn K false x y H Q ∨ rInD K x y H Q, fun X hX => by
    have hK := hX.hK
    have hu := hX.un
    subst hK
    exact op_in_sign.or (op_in_seq.or (op_inD hu)), fun F A S H x y v u w Q gd rx ry e k => ?_⟩
  obtain ⟨b, e1, rfl⟩ := blW_some (show blW (inW S x y) = some w from e)
  rcases in_core gd rx ry e1 with ⟨c, z, h1, h2, h3⟩ | ⟨p, xs, h1, h2, h3, h4, h5⟩ | ⟨d, ds, h1, h2, h3, h4, h5⟩
  · exact .inl ⟨c, z, h1, h2, by rw [h3]; exact k.now gd (.bl _)⟩
  · refine .inr (.inl ⟨p, xs, h1, .inl h2, h3, h4, ?_⟩)
    rw [h5]
    exact k.now gd (.bl _)
  · exact .inr (.inr ⟨d, ds, h1, h2, h3, h4, by rw [h5]; exact k.now gd (.bl _)⟩)
theorem ops_notin : OpS K (compareOp .NotIn) (o2 .notin) := by
  refine ⟨fun x y H Q => (∃ (c : Nat) (z : Str), x = .str ⟨#[c]⟩ ∧ y = .str z ∧ Q (.bl (!decide (c ∈ z.cps.toList))) H) ∨ rIn K true x y H Q ∨ rNotInD K x y H Q, fun X hX => by
    have hK := hX.hK
    have hu := hX.un
    subst hK
    exact op_notIn_sign.or (op_notIn_seq.or (op_notInD hu)), fun F A S H x y v u w Q gd rx ry e k => ?_⟩
  obtain ⟨b, e1, rfl⟩ := blW_some (show blW ((inW S x y).map not) = some w from e)
  obtain ⟨c, e2, rfl⟩ := not_some e1
  rcases in_core gd rx ry e2 with ⟨c, z, h1, h2, h3⟩ | ⟨p, xs, h1, h2, h3, h4, h5⟩ | ⟨d, ds, h1, h2, h3, h4, h5⟩
  · exact .inl ⟨c, z, h1, h2, by rw [h3]; exact k.now gd (.bl _)⟩
  · refine .inr (.inl ⟨p, xs, h1, .inl h2, h3, h4, ?_⟩)
    rw [h5]
    exact k.now gd (.bl _)
  · exact .inr (.inr ⟨d, ds, h1, h2, h3, h4, by rw [h5]; exact k.now gd (.bl _)⟩)
/-! ### is -/
theorem is_core {K : PySem.W.Frag} {F : Hp} {A : List Addr} {H : Hp} {x y : W} {v u : V} {b : Bool} (rx : WR K F A x v) (ry : WR K F A y u) (e : isW x y = some b) :
    (∃ c d : Bool, v = .bl c ∧ u = .bl d ∧ decide (c = d) = b) ∨ (u = .non ∧ decide (v = .non) = b) := by
  unfold isW at e
  split at e
  · rename_i c d
    cases rx
    cases ry
    exact .inl ⟨c, d, rfl, rfl, by rw [← Option.some.inj e]; apply Bool.eq_iff_iff.mpr; simp⟩
  · rename_i a hn
    cases ry
    refine .inr ⟨rfl, ?_⟩
    rw [← Option.some.inj e]
    cases rx <;> simp
  · cases ry
    obtain ⟨a, _, rfl⟩ := rx
    exact .inr ⟨rfl, by rw [← Option.some.inj e]; simp⟩
  · cases ry
    obtain ⟨a, d, rfl, _⟩ := rx
    exact .inr ⟨rfl, by rw [← Option.some.inj e]; simp⟩
  · cases e
theorem ops_is : OpS K (compareOp .Is) (o2 .is_) := by
  refine ⟨fun x y H Q => rIsB x y H Q ∨ (y = .non ∧ Q (.bl (decide (x = .non))) H), fun X hX => by
    have hK := hX.hK
    have hu := hX.un
    subst hK
    exact op_isBl.or op_isN, fun F A S H x y v u w Q gd rx ry e k => ?_⟩
  obtain ⟨b, e1, rfl⟩ := blW_some (show blW (isW x y) = some w from e)
  rcases is_core (H := H) rx ry e1 with ⟨c, d, h1, h2, h3⟩ | ⟨h1, h2⟩
  · exact .inl ⟨c, d, h1, h2, by rw [h3]; exact k.now gd (.bl _)⟩
  · exact .inr ⟨h1, by rw [h2]; exact k.now gd (.bl _)⟩
theorem ops_isnot : OpS K (compareOp .IsNot) (o2 .isnot) := by
  refine ⟨fun x y H Q => rNotB x y H Q ∨ (y = .non ∧ Q (.bl (!decide (x = .non))) H), fun X hX => by
    have hK := hX.hK
    have hu := hX.un
    subst hK
    exact op_notBl.or op_notN, fun F A S H x y v u w Q gd rx ry e k => ?_⟩
  obtain ⟨b, e1, rfl⟩ := blW_some (show blW ((isW x y).map not) = some w from e)
  obtain ⟨c, e2, rfl⟩ := not_some e1
  rcases is_core (H := H) rx ry e2 with ⟨c, d, h1, h2, h3⟩ | ⟨h1, h2⟩
  · exact .inl ⟨c, d, h1, h2, by rw [h3]; exact k.now gd (.bl _)⟩
  · exact .inr ⟨h1, by rw [h2]; exact k.now gd (.bl _)⟩
/-! ### o[i] -/
def IxS (K : PySem.W.Frag) (g : Sto → W → W → Option W) : Prop :=
  ∃ r : R2, (∀ X, Cnd K X → IxR X r) ∧ ∀ F A S H x y v u w Q, Good K F A S H → WR K F A x v → WR K F A y u → g S x y = some w → Then K F A H S w Q → r v u H Q
theorem atI_rps {K : PySem.W.Frag} {F : Hp} {xs : List PyData} {vs : List V} {i : Int} {d : PyData} (r : Rps K F vs xs) (h : atI xs i = some d) : ∃ v, atI vs i = some v ∧ Rp K F v d := by
  unfold atI at h ⊢
  rw [r.length]
  cases q : ixN xs.length i with
  | none => rw [q] at h; cases h
  | some j =>
    rw [q] at h
    exact Rps.get r (show xs[j]? = some d from h)
theorem ixs : IxS K ixW := by
  refine ⟨fun x y H Q => rIxL K x y H Q ∨ rIxT K x y H Q ∨ rIxS x y H Q, fun X hX => by
    have hK := hX.hK
    have hu := hX.un
    subst hK
    exact ix_list.or (ix_tup.or ix_str), fun F A S H x y v u w Q gd rx ry e k => ?_⟩
  unfold ixW at e
  split at e
  · rename_i z i
    cases rx
    cases ry
    split at e
    · rename_i hl
      cases q : atI z.cps.toList i with
      | none => rw [q] at e; cases e
      | some c =>
        rw [q] at e
        cases e
        exact .inr (.inr ⟨z, i, c, rfl, rfl, lim_line hl, q, k.now gd (.str _)⟩)
    · cases e
  · rename_i xs i
    cases ry
    cases rx with
    | tup h1 h2 =>
      cases q : atI xs i with
      | none => rw [q] at e; cases e
      | some d =>
        rw [q] at e
        cases e
        obtain ⟨v, q1, q2⟩ := atI_rps h2 q
        exact .inr (.inl ⟨_, _, i, v, rfl, rfl, gd.ex.t h1, q1, k.now gd q2⟩)
  · rename_i i hn1 hn2
    cases ry
    split at e
    · rename_i xs e1
      obtain ⟨p, vs, rfl, h1, r1⟩ := gd.list rx e1
      cases q : atI xs i with
      | none => rw [q] at e; cases e
      | some d =>
        rw [q] at e
        cases e
        obtain ⟨v, q1, q2⟩ := atI_rps r1 q
        exact .inl ⟨p, vs, i, v, rfl, rfl, h1, q1, k.now gd q2⟩
    · cases e
  · cases e
/-! ### o[lo:hi] -/
theorem cut_rps {K : PySem.W.Frag} {F : Hp} {xs : List PyData} {vs : List V} (r : Rps K F vs xs) (lo hi : Option Int) : Rps K F (cutV vs lo hi) (cutG xs lo hi) := by
  unfold cutV cutG
  rw [r.length]
  exact (r.drop _).take _
def SlS (K : PySem.W.Frag) (g : Sto → W → Option Int → Option Int → Option W) : Prop :=
  ∃ r : V → Option Int → Option Int → Hp → VK → Prop, (∀ X, Cnd K X → SlR X r) ∧ ∀ F A S H x v lo hi w Q, Good K F A S H → WR K F A x v → g S x lo hi = some w → Then K F A H S w Q → r v lo hi H Q
theorem sls : SlS K slW := by
  refine ⟨fun x lo hi H Q => rSlL K x lo hi H Q ∨ rSlT K x lo hi H Q ∨ rSlS x lo hi H Q, fun X hX => by
    have hK := hX.hK
    have hu := hX.un
    subst hK
    exact sl_list.or (sl_tup.or sl_str), fun F A S H x v lo hi w Q gd rx e k => ?_⟩
  unfold slW at e
  split at e
  · rename_i z
    cases rx
    split at e
    · rename_i hl
      cases e
      exact .inr (.inr ⟨z, rfl, lim_line hl, k.now gd (.str _)⟩)
    · cases e
  · rename_i xs
    cases rx with
    | tup h1 h2 =>
      split at e
      · cases e
      · rename_i hc
        cases e
        refine .inr (.inl ⟨_, _, rfl, gd.ex.t h1, by rw [h2.length]; exact hc, fun p hp => k.tup gd (cut_rps h2 lo hi) hp⟩)
  · split at e
    · rename_i xs e1
      cases e
      obtain ⟨p, vs, rfl, h1, r1⟩ := gd.list rx e1
      exact .inl ⟨p, vs, rfl, h1, fun q hq => k.lst gd (cut_rps r1 lo hi) hq⟩
    · cases e
end
end Mi

/-! MiD3: builtins, methods. -/
namespace Mi
open PySem PySem.Spec PyProof.Rows L2
def CallS (K : PySem.W.Frag) (f : Value) (g : Sto → List W → Option W) : Prop :=
  ∃ r : List V → Hp → VK → Prop, (∀ X, Cnd K X → CallR X f r) ∧ ∀ F A S H ws vs w Q, Good K F A S H → WRs K F A ws vs → g S ws = some w → Then K F A H S w Q → r vs H Q
section
variable {K : PySem.W.Frag} {F : Hp} {A : List Addr}
theorem WRs.one {w : W} {vs : List V} (h : WRs K F A [w] vs) : ∃ v, vs = [v] ∧ WR K F A w v := by
  cases vs with
  | nil => exact h.elim
  | cons v r =>
    cases r with
    | nil => exact ⟨v, rfl, h.1⟩
    | cons _ _ => exact h.2.elim
theorem WRs.two {w x : W} {vs : List V} (h : WRs K F A [w, x] vs) : ∃ v u, vs = [v, u] ∧ WR K F A w v ∧ WR K F A x u := by
  cases vs with
  | nil => exact h.elim
  | cons v r =>
    obtain ⟨u, rfl, q⟩ := WRs.one h.2
    exact ⟨v, u, rfl, h.1, q⟩
end
section
variable {K : PySem.W.Frag} {X : Cx}
theorem cs_len : CallS K (.builtin "len") (bi .len) := by
  refine ⟨fun xs H Q => (∃ z, xs = [.str z] ∧ z.length ≤ sizeLine ∧ Q (.int z.length) H) ∨ ∃ p ys, xs = [.ref p] ∧ (SqL K H p ys ∨ SqT K H p ys) ∧ Q (.int ys.length) H, fun X hX => by
    have hK := hX.hK
    have hc := hX.calm
    subst hK
    exact call_len_str.or call_len_seq, fun F A S H ws vs w Q gd rs e k => ?_⟩
  replace e : biLen S ws = some w := e
  unfold biLen at e
  split at e
  · obtain ⟨v, rfl, r⟩ := rs.one
    cases r
    split at e
    · rename_i hl
      cases e
      exact .inl ⟨_, rfl, lim_line hl, k.now gd (.int _)⟩
    · cases e
  · obtain ⟨v, rfl, r⟩ := rs.one
    cases r with
    | tup h1 h2 =>
      cases e
      exact .inr ⟨_, _, rfl, .inr (gd.ex.t h1), by rw [h2.length]; exact k.now gd (.int _)⟩
  · rename_i x _ _
    obtain ⟨v, rfl, r⟩ := rs.one
    cases q : lst? S x with
    | none => rw [q] at e; cases e
    | some xs =>
      rw [q] at e
      cases e
      obtain ⟨p, us, rfl, h1, r1⟩ := gd.list r q
      exact .inr ⟨p, us, rfl, .inl (h1), by rw [r1.length]; exact k.now gd (.int _)⟩
  · cases e
theorem int1_of {f : Int → Option W} {ws : List W} {w : W} (e : int1 f ws = some w) : ∃ a, ws = [.d (.int a)] ∧ f a = some w := by
  unfold int1 at e
  split at e
  · exact ⟨_, rfl, e⟩
  · cases e
theorem int11_of {f : Int → Int → Option W} {ws : List W} {w : W} (e : int11 f ws = some w) : ∃ a b, ws = [.d (.int a), .d (.int b)] ∧ f a b = some w := by
  unfold int11 at e
  split at e
  · exact ⟨_, _, rfl, e⟩
  · cases e
theorem cs_abs : CallS K (.builtin "abs") (bi .abs) := by
  refine ⟨_, fun X _ => call_abs, fun F A S H ws vs w Q gd rs e k => ?_⟩
  obtain ⟨a, rfl, e⟩ := int1_of e
  obtain ⟨v, rfl, r⟩ := rs.one
  cases r
  cases e
  exact ⟨_, rfl, k.now gd (.int _)⟩
theorem cs_max : CallS K (.builtin "max") (bi .max2) := by
  refine ⟨fun xs H Q => ∃ i j, xs = [.int i, .int j] ∧ Q (.int (if j > i then j else i)) H, fun X hX => by
    have hK := hX.hK
    have hc := hX.calm
    subst hK
    exact call_max2 hc, fun F A S H ws vs w Q gd rs e k => ?_⟩
  obtain ⟨a, b, rfl, e⟩ := int11_of e
  obtain ⟨v, u, rfl, r, r'⟩ := rs.two
  cases r
  cases r'
  cases e
  exact ⟨_, _, rfl, k.now gd (.int _)⟩
theorem cs_min : CallS K (.builtin "min") (bi .min2) := by
  refine ⟨fun xs H Q => ∃ i j, xs = [.int i, .int j] ∧ Q (.int (if j < i then j else i)) H, fun X hX => by
    have hK := hX.hK
    have hc := hX.calm
    subst hK
    exact call_min2 hc, fun F A S H ws vs w Q gd rs e k => ?_⟩
  obtain ⟨a, b, rfl, e⟩ := int11_of e
  obtain ⟨v, u, rfl, r, r'⟩ := rs.two
  cases r
  cases r'
  cases e
  exact ⟨_, _, rfl, k.now gd (.int _)⟩
theorem cs_str : CallS K (.type "str") (bi .str_) := by
  refine ⟨_, fun X _ => call_str_int, fun F A S H ws vs w Q gd rs e k => ?_⟩
  obtain ⟨a, rfl, e1⟩ := int1_of e
  obtain ⟨v, rfl, r⟩ := rs.one
  cases r
  split at e1
  · rename_i h
    cases e1
    exact ⟨_, rfl, h, k.now gd (.str _)⟩
  · cases e1
theorem cs_int : CallS K (.type "int") (bi .int_) := by
  refine ⟨_, fun X _ => call_int_str.or call_int1, fun F A S H ws vs w Q gd rs e k => ?_⟩
  replace e : biInt S ws = some w := e
  unfold biInt at e
  split at e
  · rename_i z
    obtain ⟨v, rfl, r⟩ := rs.one
    cases r
    split at e
    · rename_i h
      cases q : PySem.intText? z with
      | none => rw [q] at e; cases e
      | some n =>
        rw [q] at e
        cases e
        exact .inl ⟨_, n, rfl, q, h, k.now gd (.int _)⟩
    · cases e
  · obtain ⟨v, rfl, r⟩ := rs.one
    cases r
    cases e
    exact .inr (.inl ⟨_, rfl, k.now gd (.int _)⟩)
  · obtain ⟨v, rfl, r⟩ := rs.one
    cases r
    cases e
    exact .inr (.inr ⟨_, rfl, k.now gd (.int _)⟩)
  · cases e
theorem cs_tuple : CallS K (.type "tuple") (bi .tup_) := by
  refine ⟨fun xs H Q => ∃ p ys, xs = [.ref p] ∧ ((SqL K H p ys ∧ ∀ l, H l = none → Q (.ref l) (upd H l (.tup ys))) ∨ (SqT K H p ys ∧ Q (.ref p) H)), fun X hX => by
    have hK := hX.hK
    have hc := hX.calm
    subst hK
    exact call_tuple_of, fun F A S H ws vs w Q gd rs e k => ?_⟩
  replace e : biTup S ws = some w := e
  unfold biTup at e
  split at e
  · obtain ⟨v, rfl, r⟩ := rs.one
    cases r with
    | tup h1 h2 =>
      cases e
      exact ⟨_, _, rfl, .inr ⟨gd.ex.t h1, k.now gd (show Rp K F _ _ from .tup h1 h2)⟩⟩
  · rename_i x _
    obtain ⟨v, rfl, r⟩ := rs.one
    cases q : lst? S x with
    | none => rw [q] at e; cases e
    | some xs =>
      rw [q] at e
      cases e
      obtain ⟨p, us, rfl, h1, r1⟩ := gd.list r q
      exact ⟨p, us, rfl, .inl ⟨h1, fun l hl => k.tup gd (Rps.mono (Ex.refl F) r1) hl⟩⟩
  · cases e
/-- list(..): the new list may be one that changes -/
def rListN (K : PySem.W.Frag) : List V → Hp → VK → Prop := fun xs H Q => ∃ p ys, xs = [.ref p] ∧ (SqL K H p ys ∨ SqT K H p ys) ∧ ∀ l, H l = none → Q (.ref l) (upd H l (.lst ys))
theorem list_core {K : PySem.W.Frag} {F : Hp} {A : List Addr} {S : Sto} {H : Hp} {ws : List W} {vs : List V} {w : W} (gd : Good K F A S H) (rs : WRs K F A ws vs) (e : bi .list_ S ws = some w) :
    ∃ p us xs, vs = [.ref p] ∧ w = .d (.list xs) ∧ (SqL K H p us ∨ SqT K H p us) ∧ Rps K F us xs := by
  replace e : biLst S ws = some w := e
  unfold biLst at e
  split at e
  · obtain ⟨v, rfl, r⟩ := rs.one
    cases r with
    | tup h1 h2 =>
      cases e
      exact ⟨_, _, _, rfl, rfl, .inr (gd.ex.t h1), h2⟩
  · rename_i x _
    obtain ⟨v, rfl, r⟩ := rs.one
    cases q : lst? S x with
    | none => rw [q] at e; cases e
    | some xs =>
      rw [q] at e
      cases e
      obtain ⟨p, us, rfl, h1, r1⟩ := gd.list r q
      exact ⟨_, _, _, rfl, rfl, .inl (h1), r1⟩
  · cases e
theorem cs_list : CallS K (.type "list") (bi .list_) := by
  refine ⟨rListN K, fun X hX => by
    have hK := hX.hK
    have hc := hX.calm
    subst hK
    exact call_list_of, fun F A S H ws vs w Q gd rs e k => ?_⟩
  obtain ⟨p, us, xs, rfl, rfl, h, r⟩ := list_core gd rs e
  exact ⟨p, us, rfl, h, fun l hl => k.lst gd r hl⟩
/-! ### isinstance -/
theorem isi_ty {K : PySem.W.Frag} {H : Hp} {x : PyData} {v : V} (r : Dp K H v x) (hd : ∀ a xs, v = .ref a → (SqL K H a xs ∨ SqT K H a xs) → True) : True := trivial
theorem tyX_of {K : PySem.W.Frag} {F H : Hp} {x : PyData} {v : V} (e : Ex F H) (r : Rp K F v x) : TyX K H v (.type (tyD x)) := by
  cases r with
  | non => exact .base .non
  | bl b => exact .base (.bl b)
  | int i => exact .base (.int i)
  | str x => exact .base (.str x)
  | lst h1 h2 =>
    rcases e.l h1 with (h | ⟨o, h⟩) | ⟨o, its, n, h, hc, _⟩
    · exact .base (.lst h)
    · exact .base (.frz h)
    · exact .kList h hc
  | tup h1 h2 =>
    rcases e.t h1 with (h | ⟨o, h⟩) | ⟨o, its, n, h, hc, _⟩
    · exact .base (.tup h)
    · exact .fTuple h
    · exact .kTuple h hc
theorem kitB_ok : ∀ t ∈ ["int", "bool", "str", "list", "tuple"], ∀ a ∈ ["NoneType", "bool", "int", "str", "list", "tuple"], kitB a t = some (a == t || (a == "bool" && t == "int")) := by decide +kernel
theorem kit_isi {K : PySem.W.Frag} {t : String} {x : PyData} (h : isiOk t = true) (hx : ∀ k, x ≠ .dict k) : PySem.W.kitOne K (.type (tyD x)) (.type t) = some (isiD t x) := by
  refine kit_ty ?_
  have ht : t ∈ ["int", "bool", "str", "list", "tuple"] := by
    unfold isiOk at h
    simpa using h
  have ha : tyD x ∈ ["NoneType", "bool", "int", "str", "list", "tuple"] := by
    cases x <;> simp [tyD]
    exact absurd rfl (hx _)
  exact kitB_ok t ht (tyD x) ha
def rIsi1 (K : PySem.W.Frag) (t : String) : V → Hp → VK → Prop := fun v H Q => rIsi K [v, .ty t] H Q
theorem isi_ok {K : PySem.W.Frag} {F : Hp} {A : List Addr} {S : Sto} {H : Hp} {t : String} {x w : W} {v : V} {Q : VK} (gd : Good K F A S H) (rx : WR K F A x v) (e : isiW t S x = some w) (k : Then K F A H S w Q) : rIsi K [v, .ty t] H Q := by
  unfold isiW at e
  split at e
  · rename_i ht
    cases q : dat? S x with
    | none => rw [q] at e; cases e
    | some y =>
      rw [q] at e
      cases e
      have ty : TyX K H v (.type (tyD y)) ∧ ∀ kk, y ≠ .dict kk := by
        unfold dat? at q
        split at q
        · cases q
          refine ⟨tyX_of gd.ex rx, fun kk z => ?_⟩
          subst z
          cases rx
        · rename_i p
          obtain ⟨a, ea, rfl⟩ := rx
          cases q2 : S[p]? with
          | none => rw [q2] at q; cases q
          | some mo =>
            rw [q2] at q
            cases mo with
            | dead => cases q
            | lst ys =>
              cases q
              obtain ⟨_, vs, h1, h2⟩ := gd.ob p a _ ea q2
              exact ⟨.base (.lst h1), fun kk z => by cases z⟩
        · cases q
      exact ⟨v, .ty t, _, _, _, rfl, .ty t, ty.1, kit_isi ht ty.2, k.now gd (.bl _)⟩
  · cases e
/-! ### methods -/
def mtName : Mt → Str
  | .append => "append" | .extend => "extend" | .split => "split" | .partition => "partition" | .join => "join"
def mtT : Mt → String
  | .append | .extend => "list" | _ => "str"
theorem mtTy_ok {K : PySem.W.Frag} {F : Hp} {A : List Addr} {S : Sto} {H : Hp} {k : Mt} {x : W} {v : V} (gd : Good K F A S H) (rx : WR K F A x v) (e : mtTy k S x = true) : tyV K (mtT k) v H := by
  have hs : ∀ {k}, (match x with | .d (.str _) => true | _ => false) = true → k = "str" → tyV K k v H := by
    intro k h hk
    split at h
    · cases rx
      exact hk
    · cases h
  cases k with
  | append =>
    have e' : (lst? S x).isSome = true := e
    cases q : lst? S x with
    | none => rw [q] at e'; cases e'
    | some xs =>
      obtain ⟨p, us, rfl, h1, r1⟩ := gd.list rx q
      exact .inl ⟨rfl, us, h1⟩
  | extend =>
    have e' : (lst? S x).isSome = true := e
    cases q : lst? S x with
    | none => rw [q] at e'; cases e'
    | some xs =>
      obtain ⟨p, us, rfl, h1, r1⟩ := gd.list rx q
      exact .inl ⟨rfl, us, h1⟩
  | split => exact hs e rfl
  | partition => exact hs e rfl
  | join => exact hs e rfl
def ThenS (K : PySem.W.Frag) (F : Hp) (A : List Addr) (H : Hp) (o : W × Sto) (Q : VK) : Prop := Then K F A H o.2 o.1 Q
def MtS (K : PySem.W.Frag) (id : String) (g : Sto → W → List W → Option (W × Sto)) : Prop :=
  ∃ r : V → List V → Hp → VK → Prop, (∀ X, Cnd K X → MtR X id r) ∧ ∀ F A S H x v ws vs o Q, Good K F A S H → WR K F A x v → WRs K F A ws vs → g S x ws = some o → ThenS K F A H o Q → r v vs H Q
theorem ms_append : MtS K "list.append" (mt .append) := by
  refine ⟨_, fun X _ => mt_append, fun F A S H x v ws vs o Q gd rx rs e k => ?_⟩
  replace e : mtAppend S x ws = some o := e
  unfold mtAppend at e
  split at e
  · rename_i p y
    obtain ⟨u, rfl, ru⟩ := rs.one
    split at e
    · rename_i xs q
      split at e
      · rename_i hl
        cases e
        obtain ⟨a, ea, rfl⟩ := rx
        obtain ⟨h0, us, h1, h2⟩ := gd.ob p a _ ea q
        obtain ⟨st, g'⟩ := gd.write ea q (h2.append (.cons ru .nil))
        exact ⟨a, us, u, rfl, rfl, h1, by rw [h2.length]; exact lim_line_lt hl, k _ _ _ _ st g' .non⟩
      · cases e
    · cases e
  · cases e
/-- xs.extend(ys), ys read -/
def rExtS (K : PySem.W.Frag) : V → List V → Hp → VK → Prop := fun x vs H Q => ∃ l b xs zs, x = .ref l ∧ vs = [.ref b] ∧ H l = some (.lst xs) ∧ SqL K H b zs ∧ xs.length + zs.length ≤ sizeLine ∧ Q .non (upd H l (.lst (xs ++ zs)))
theorem ext_meets (l : Addr) (xs : Array Value) (n : Nat) (b : Addr) (ys : Array Value) (m : Nat) (dd : Option Addr) (sl : Array (Option Value)) (h0 : ¬ (!xs.isEmpty && Builtin.List.listTooLong (xs.size + ys.size)) = true) (h1 : xs.size ≤ sizeLine) (h2 : xs.size + ys.size ≤ sizeLine + 1) :
    Meets (Builtin.«list.extend» ⟨[.ref l, .ref b], []⟩) (fun _ R s => s.heap.get? l = some { cls := .type "list", dict := none, data := .seq xs n, slots := #[] } ∧
      s.heap.get? b = some { cls := .type "list", dict := dd, data := .seq ys m, slots := sl } ∧ R (.ok (.ret Value.none)) { s with heap := s.heap.update l (Obj.mapSeq fun x => x ++ ys), toks := s.toks }) :=
  .of_wp fun prog w A R s h => by
    obtain ⟨hp, g, d, tk, os⟩ := s
    obtain ⟨hl, hb, h⟩ := h
    have f3 := AutoSeq1.sub_list_list
    have f2 := AutoSeq1.sub_tuple_tuple
    have f4 := AutoSeq1.sub_tuple_list
    have f5 := AutoSeq1.sub_list_tuple
    have hz : (xs ++ ys).size ≤ sizeLine + 1 := by rw [Array.size_append]; exact h2
    wp_walk using (wpAny_updateSeq hl rfl (hz := h1) (_hz' := hz)), AutoSeq1.wpAny_loadPart' hl, AutoSeq1.wpAny_loadPart' hb
    exact ⟨_, rfl, h⟩
theorem mt_extS {X : Cx} : MtR X "list.extend" (rExtS X.K) := by
  intro pins s σ H x vs v us Q I rx rv h
  obtain ⟨l, b, xs, zs, rfl, rfl, hH, hB, hz, q⟩ := h
  cases rx
  obtain ⟨u, rfl, ru⟩ := rv.one
  cases ru
  obtain ⟨z, its, n, r, hl, e⟩ := I.lstM hH
  obtain ⟨its2, r2, pl2, z2⟩ := I.list hB
  have hl2 := r2.length
  obtain ⟨⟨cls2, dd2, data2, sl2⟩, n2, e2, hc2, _, hd2⟩ := pl2
  simp only at hc2 hd2
  subst hc2 hd2
  have hsz : its.toArray.size + its2.toArray.size ≤ sizeLine := by rw [List.size_toArray, List.size_toArray]; omega
  have nl : ¬ (!its.toArray.isEmpty && Builtin.List.listTooLong (its.toArray.size + its2.toArray.size)) = true := by
    rw [notLongL hsz, Bool.and_false]
    exact Bool.false_ne_true
  refine call_meets F.slot_list_extend ⟨_, e, rfl⟩ F.entry_list_extend (F.args_list_extend_2 _ _) (ext_meets l its.toArray n b its2.toArray n2 dd2 sl2 nl (by rw [List.size_toArray]; omega) (by omega)) ⟨e, e2, ?_⟩
  exact ⟨.non, _, I.lset (its' := its ++ its2) hH e (by simp) (r.append r2) (by rw [List.length_append]; omega), rfl, q⟩
theorem ms_extend : MtS K "list.extend" (mt .extend) := by
  refine ⟨rExtS K, fun X hX => by
    have hK := hX.hK
    subst hK
    exact mt_extS, fun F A S H x v ws vs o Q gd rx rs e k => ?_⟩
  replace e : mtExtend S x ws = some o := e
  unfold mtExtend at e
  split at e
  · rename_i p y
    obtain ⟨u, rfl, ru⟩ := rs.one
    split at e
    · rename_i xs ys q1 q2
      split at e
      · rename_i hl
        cases e
        obtain ⟨a, ea, rfl⟩ := rx
        obtain ⟨h0, us, h1, h2⟩ := gd.ob p a _ ea q1
        obtain ⟨b, zs, rfl, h3, h4⟩ := gd.list ru q2
        obtain ⟨st, g'⟩ := gd.write ea q1 (h2.append h4)
        exact ⟨a, b, us, zs, rfl, rfl, h1, h3, by rw [h2.length, h4.length]; exact lim_line hl, k _ _ _ _ st g' .non⟩
      · cases e
    · cases e
  · cases e
theorem str1_of {f : Str → Str → Option W} {x : W} {ws : List W} {w : W} (e : str1 f x ws = some w) : ∃ a b, x = .d (.str a) ∧ ws = [.d (.str b)] ∧ f a b = some w := by
  unfold str1 at e
  split at e
  · exact ⟨_, _, rfl, rfl, e⟩
  · cases e
theorem map_of {o : Option W} {S : Sto} {p : W × Sto} (e : o.map (·, S) = some p) : ∃ w, o = some w ∧ p = (w, S) := by
  cases o with
  | none => cases e
  | some w => exact ⟨w, rfl, (Option.some.inj e).symm⟩
theorem rps_strs {K : PySem.W.Frag} {F : Hp} : ∀ ys : List Str, Rps K F (ys.map V.str) (ys.map strD)
  | [] => .nil
  | y :: ys => .cons (.str y) (rps_strs ys)
theorem ms_split : MtS K "str.split" (mt .split) := by
  refine ⟨_, fun X _ => mt_split, fun F A S H x v ws vs o Q gd rx rs e k => ?_⟩
  obtain ⟨w, e1, rfl⟩ := map_of e
  obtain ⟨a, b, rfl, rfl, e2⟩ := str1_of e1
  obtain ⟨u, rfl, ru⟩ := rs.one
  cases rx
  cases ru
  split at e2
  · rename_i h
    cases e2
    refine ⟨a, b, rfl, rfl, h.1, ?_, fun p hp => Then.lst (S := S) k gd (rps_strs _) hp⟩
    have h2 : a.length ≤ 1000000 := h.2
    have : sizeLine = 16777216 := sizeLine_eq
    omega
  · cases e2
theorem ms_partition : MtS K "str.partition" (mt .partition) := by
  refine ⟨_, fun X _ => mt_partition, fun F A S H x v ws vs o Q gd rx rs e k => ?_⟩
  obtain ⟨w, e1, rfl⟩ := map_of e
  obtain ⟨a, b, rfl, rfl, e2⟩ := str1_of e1
  obtain ⟨u, rfl, ru⟩ := rs.one
  cases rx
  cases ru
  split at e2
  · rename_i h
    cases e2
    exact ⟨a, b, rfl, rfl, h.1, lim_line h.2, fun p hp => Then.tup (S := S) k gd (.cons (.str _) (.cons (.str _) (.cons (.str _) .nil))) hp⟩
  · cases e2
theorem strs_of {K : PySem.W.Frag} {F : Hp} : ∀ {ds : List PyData} {ys : List Str} {vs : List V}, strs? ds = some ys → Rps K F vs ds → vs = ys.map V.str
  | [], ys, vs, h, r => by
    cases r
    cases h
    rfl
  | .str z :: ds, ys, vs, h, r => by
    unfold strs? at h
    cases r with
    | cons r1 r2 =>
      cases r1
      cases q : strs? ds with
      | none => rw [q] at h; cases h
      | some zs =>
        rw [q] at h
        cases h
        rw [strs_of q r2]
        rfl
  | .none :: ds, ys, vs, h, r => by cases h
  | .bool _ :: ds, ys, vs, h, r => by cases h
  | .int _ :: ds, ys, vs, h, r => by cases h
  | .list _ :: ds, ys, vs, h, r => by cases h
  | .tuple _ :: ds, ys, vs, h, r => by cases h
  | .dict _ :: ds, ys, vs, h, r => by cases h
theorem ms_join : MtS K "str.join" (mt .join) := by
  refine ⟨fun x xs H Q => ∃ a p, ∃ ys : List Str, x = .str a ∧ xs = [.ref p] ∧ (SqL K H p (ys.map V.str) ∨ SqT K H p (ys.map V.str)) ∧
    (ys.map (·.length)).sum + ys.length * a.length ≤ 16777216 ∧ Q (.str (Txt.join a ys)) H, fun X hX => by
    have hK := hX.hK
    have hc := hX.calm
    subst hK
    exact mt_join, fun F A S H x v ws vs o Q gd rx rs e k => ?_⟩
  obtain ⟨w, e1, rfl⟩ := map_of e
  unfold mtJoin at e1
  split at e1
  · rename_i a y
    obtain ⟨u, rfl, ru⟩ := rs.one
    cases rx
    split at e1
    · rename_i ds q
      obtain ⟨p, us, rfl, h1, r1⟩ := gd.list ru q
      split at e1
      · rename_i ys q2
        split at e1
        · rename_i h
          cases e1
          have := strs_of q2 r1
          subst this
          exact ⟨a, p, ys, rfl, rfl, .inl (h1), Nat.le_trans h (by decide), Then.now (S := S) k gd (.str _)⟩
        · cases e1
      · cases e1
    · cases e1
  · cases e1
end
end Mi

/-! MiE: the check of a term of the language against the text. -/
namespace Mi
open PySem PySem.Spec PyProof.Rows L2

abbrev Sn := List (Str × NameKind)
/-- a class that is asked for: a builtin one, one of the module -/
inductive Cz where
  | bt (n : String) | own (x : Str)
/-- what the check knows of the module -/
structure Tb where
  T : List Fn
  gI : List (Str × Int)
  gS : List (Str × Str)
  gF : List Str
  /-- exception classes made with a text, with one field -/
  xr : List Str
  xf : List (Str × Str)
  /-- tests of classes: what is asked for (more than one: a tuple) -/
  ks : List (List Cz)
structure Ci extends Tb where
  N : List Str
def nmZ : Cz → Str
  | .bt n => Str.ofString n
  | .own x => x
def isVis (sn : Sn) (x : Str) : Bool := match sn.lookup x with
  | some .local => true
  | some .cell => true
  | some .free => true
  | _ => false
def isLoc (sn : Sn) (x : Str) : Bool := match sn.lookup x with
  | some .local => true
  | some .cell => true
  | _ => false
def isLcl (sn : Sn) (x : Str) : Bool := match sn.lookup x with
  | some .local => true
  | _ => false
def isGl (sn : Sn) (x : Str) : Bool := match sn.lookup x with
  | some .globalImplicit => true
  | _ => false
def okN (x : Str) : Bool := !(x == ("__debug__" : Str)) && !(x == ("__classdict__" : Str))
def binOf : O2 → Option Operator
  | .add => some .Add | .sub => some .Sub | .mul => some .Mult | .fdiv => some .FloorDiv | .mod => some .Mod | .pow => some .Pow | _ => none
def cmpOf : O2 → Option CmpOp
  | .eq => some .Eq | .ne => some .NotEq | .lt => some .Lt | .le => some .LtE | .gt => some .Gt | .ge => some .GtE | .in_ => some .In | .notin => some .NotIn
  | .is_ => some .Is | .isnot => some .IsNot | _ => none
def isTryE (C : Ci) (k : Nat) (x : Str) : Bool := match C.ks[k]? with
  | some [z] => decide (nmZ z = x)
  | _ => false
def isNm (sn : Sn) : List Cz → List Expr → Bool
  | [], [] => true
  | z :: zs, .Name x _ :: es => decide (nmZ z = x) && (isGl sn x && (okN x && isNm sn zs es))
  | _, _ => false
def isIsE (C : Ci) (k : Nat) (sn : Sn) : Expr → Bool
  | .Tuple es _ _ => (match C.ks[k]? with
    | some (z :: y :: zs) => isNm sn (z :: y :: zs) es && decide (zs.length < 100)
    | _ => false)
  | .Name x _ => (match C.ks[k]? with
    | some [z] => decide (nmZ z = x) && (isGl sn x && okN x)
    | _ => false)
  | _ => false
def isOp : Option Operator → Operator → Bool
  | some .Add, .Add => true | some .Sub, .Sub => true | some .Mult, .Mult => true | some .FloorDiv, .FloorDiv => true | some .Mod, .Mod => true | some .Pow, .Pow => true | _, _ => false
theorem isOp_eq : ∀ {a : Option Operator} {b : Operator}, isOp a b = true → a = some b
  | none, b, h => by cases b <;> cases h
  | some a, b, h => by cases a <;> cases b <;> first | rfl | cases h
def isCmp : Option CmpOp → CmpOp → Bool
  | some .Eq, .Eq => true | some .NotEq, .NotEq => true | some .Lt, .Lt => true | some .LtE, .LtE => true | some .Gt, .Gt => true | some .GtE, .GtE => true
  | some .In, .In => true | some .NotIn, .NotIn => true | some .Is, .Is => true | some .IsNot, .IsNot => true | _, _ => false
theorem isCmp_eq : ∀ {a : Option CmpOp} {b : CmpOp}, isCmp a b = true → a = some b
  | none, b, h => by cases b <;> cases h
  | some a, b, h => by cases a <;> cases b <;> first | rfl | cases h
def biName : Bi → Str
  | .len => "len" | .abs => "abs" | .max2 => "max" | .min2 => "min" | .str_ => "str" | .int_ => "int" | .tup_ => "tuple" | .list_ => "list"
/-- no starred one -/
def unst : Expr → Bool
  | .Starred _ _ => false
  | _ => true
def notSl : Expr → Bool
  | .Slice _ _ _ _ => false
  | _ => true
def notCall : Expr → Bool
  | .Call _ _ _ _ => false
  | _ => true
def notSet : Expr → Bool
  | .Set _ _ _ => false
  | _ => true
def notLc : Expr → Bool
  | .ListComp _ _ _ _ => false
  | .SetComp _ _ _ _ => false
  | .DictComp _ _ _ _ _ => false
  | _ => true
/-- a test that is its value's truth -/
def plainT : Expr → Bool
  | .UnaryOp _ _ _ => false
  | .BoolOp _ _ _ => false
  | .IfExp _ _ _ _ => false
  | .Compare _ _ _ _ => false
  | _ => true
def tstOk (e : Expr) : Bool := match e with
  | .UnaryOp .Not _ _ => true
  | .UnaryOp _ _ _ => false
  | .IfExp _ _ _ _ => false
  | _ => true
/-- forms that make a new list -/
def fresh : M → Bool
  | .lst _ => true
  | .lc _ _ _ _ _ => true
  | .bi .list_ _ => true
  | .o2 .add _ _ => true
  | .sl _ _ _ => true
  | _ => false
/-- a method called on the line where its name stands (or with arguments) -/
def lineOk (es : List Expr) (ap p : Pos) : Bool := match es with
  | [] => ap.endLine == p.line
  | _ => true
def zipOwn (N : List Str) (own : List Nat) : List (Str × Nat) := own.map fun i => (N.getD i "", i)

def cntA : M → Nat
  | .acons _ r => cntA r + 1
  | _ => 0
mutual
def tgS : M → List Nat
  | .tn i => [i]
  | .tt as => tgSs as
  | _ => []
def tgSs : M → List Nat
  | .acons a r => tgS a ++ tgSs r
  | _ => []
end
def isTupE : Expr → Bool
  | .Tuple _ _ _ => true
  | _ => false
mutual
def ckE (C : Ci) : M → Sn → Expr → Bool
  | .var i, sn, e => match e with
    | .Name x _ => decide (C.N[i]? = some x) && (isVis sn x && okN x)
    | _ => false
  | .int k, _, e => match e with
    | .Constant (.int j) _ _ => decide (k = j)
    | _ => false
  | .str s, _, e => match e with
    | .Constant (.str z) _ _ => decide (s = z)
    | _ => false
  | .bl b, _, e => match e with
    | .Constant (.bool c) _ _ => b == c
    | _ => false
  | .non, _, e => match e with
    | .Constant .none _ _ => true
    | _ => false
  | .gi x k, sn, e => match e with
    | .Name y _ => decide (x = y) && (isGl sn x && (decide ((x, k) ∈ C.gI) && okN x))
    | _ => false
  | .gs x s, sn, e => match e with
    | .Name y _ => decide (x = y) && (isGl sn x && (decide ((x, s) ∈ C.gS) && okN x))
    | _ => false
  | .o2 k a b, sn, e => match e with
    | .BinOp l op r _ => isOp (binOf k) op && (ckE C a sn l && ckE C b sn r)
    | .Compare l [op] [r] _ => isCmp (cmpOf k) op && (notSet r && (ckE C a sn l && ckE C b sn r))
    | _ => false
  | .ch k1 k2 a b c, sn, e => match e with
    | .Compare l [op1, op2] [m, r] _ => isCmp (cmpOf k1) op1 && (isCmp (cmpOf k2) op2 && (notSet r && (ckE C a sn l && (ckE C b sn m && ckE C c sn r))))
    | _ => false
  | .neg a, sn, e => match e with
    | .UnaryOp .USub x _ => ckE C a sn x
    | _ => false
  | .not1 a, sn, e => match e with
    | .UnaryOp .Not x _ => tstOk x && ckE C a sn x
    | _ => false
  | .and2 a b, sn, e => match e with
    | .BoolOp .And (x :: y :: rest) p => tstOk x && ckE C a sn x && ckE C b sn (.BoolOp .And (y :: rest) p)
    | _ => false
  | .or2 a b, sn, e => match e with
    | .BoolOp .Or (x :: y :: rest) p => tstOk x && ckE C a sn x && ckE C b sn (.BoolOp .Or (y :: rest) p)
    | _ => false
  | .one a, sn, e => match e with
    | .BoolOp _ [x] _ => tstOk x && ckE C a sn x
    | _ => false
  | .ife t a b, sn, e => match e with
    | .IfExp c x y _ => tstOk c && ckE C t sn c && (ckE C a sn x && ckE C b sn y)
    | _ => false
  | .tup as, sn, e => match e with
    | .Tuple es _ _ => ckA C as sn es
    | _ => false
  | .lst as, sn, e => match e with
    | .List es _ => ckA C as sn es
    | _ => false
  | .call f as, sn, e => match e with
    | .Call (.Name x _) es [] _ => (match C.T[f]? with
      | some fn => decide (fn.name = x) && (isGl sn x && (okN x && (decide (cntA as ≤ fn.ps.length) && (decide (fn.ps.length - cntA as ≤ fn.dv.length) && ckA C as sn es))))
      | none => false)
    | _ => false
  | .bi k as, sn, e => match e with
    | .Call (.Name x _) (y :: es) [] _ => decide (x = biName k) && (isGl sn x && (decide (x ∈ C.gF) && ckA C as sn (y :: es)))
    | _ => false
  | .isi t a, sn, e => match e with
    | .Call (.Name x _) [y, .Name z _] [] _ => decide (x = "isinstance") && (isGl sn x && (decide (x ∈ C.gF) && (decide (z = Str.ofString t) && (isGl sn z && (decide (z ∈ C.gF) && (isiOk t && (unst y && ckE C a sn y)))))))
    | _ => false
  | .mt k a as, sn, e => match e with
    | .Call (.Attribute o m ap) (y :: es) [] p => decide (m = mtName k) && (notCall o && (ap.endLine == p.line && (decide (es.length < 29) && (ckE C a sn o && ckA C as sn (y :: es)))))
    | _ => false
  | .ix a b, sn, e => match e with
    | .Subscript x y _ => notSl y && (ckE C a sn x && ckE C b sn y)
    | _ => false
  | .sl a lo hi, sn, e => match e with
    | .Subscript x (.Slice l h none _) _ => ckE C a sn x && (ckO C lo sn l && ckO C hi sn h)
    | _ => false
  | .lc own tg it ts a, sn, e => match e with
    | .ListComp elt [⟨tgE, itE, ifs, 0⟩] sc _ => blkC C.N ⟨.function, sn, false, false, []⟩ sc (zipOwn C.N own) && (notSet itE && ((tgS tg).all (fun i => own.contains i) && (ckI C it sn tgE itE && (ckG C tg sc.names tgE && (ckTs C ts sc.names ifs && ckE C a sc.names elt)))))
    | _ => false
  | .new a, sn, e => fresh a && (plainT e && ckE C a sn e)
  | .frz a, sn, e => plainT e && ckE C a sn e
  | .fld f cs a, sn, e => match e with
    | .Attribute o g _ => decide (f = g) && (cs.all (fun c => decide ((c, f) ∈ C.xf)) && (notCall o && ckE C a sn o))
    | _ => false
  | .isK k a, sn, e => match e with
    | .Call (.Name x _) [y, c] [] _ => decide (x = "isinstance") && (isGl sn x && (decide (x ∈ C.gF) && (unst y && (unst c && (ckE C a sn y && isIsE C k sn c)))))
    | _ => false
  | _, _, _ => false
def ckA (C : Ci) : M → Sn → List Expr → Bool
  | .anil, _, es => match es with
    | [] => true
    | _ => false
  | .acons a r, sn, es => match es with
    | e :: es => unst e && (ckE C a sn e && ckA C r sn es)
    | _ => false
  | _, _, _ => false
def ckO (C : Ci) : M → Sn → Option Expr → Bool
  | .nop, _, e => match e with
    | none => true
    | _ => false
  | .one a, sn, e => match e with
    | some x => ckE C a sn x
    | _ => false
  | _, _, _ => false
def ckTs (C : Ci) : M → Sn → List Expr → Bool
  | .anil, _, es => match es with
    | [] => true
    | _ => false
  | .one a, sn, es => match es with
    | [e] => tstOk e && ckE C a sn e
    | _ => false
  | _, _, _ => false
def ckI (C : Ci) : M → Sn → Expr → Expr → Bool
  | .itE a, sn, _, e => ckE C a sn e
  | .itR as, sn, _, e => match e with
    | .Call (.Name x _) es [] _ => decide (x = "range") && (isGl sn x && (decide (x ∈ C.gF) && ((es.length == 1 || es.length == 2) && ckA C as sn es)))
    | _ => false
  | .itN a, sn, te, e => isTupE te && match e with
    | .Call (.Name x _) [y] [] _ => decide (x = "enumerate") && (isGl sn x && (decide (x ∈ C.gF) && (unst y && ckE C a sn y)))
    | _ => false
  | .itZ a b, sn, te, e => isTupE te && match e with
    | .Call (.Name x _) [y, z] [] _ => decide (x = "zip") && (isGl sn x && (decide (x ∈ C.gF) && (unst y && (unst z && (ckE C a sn y && ckE C b sn z)))))
    | _ => false
  | _, _, _, _ => false
/-- targets -/
def ckG (C : Ci) : M → Sn → Expr → Bool
  | .tn i, sn, e => match e with
    | .Name x _ => decide (C.N[i]? = some x) && isLoc sn x
    | _ => false
  | .tt as, sn, e => match e with
    | .Tuple es _ _ => ckGs C as sn es
    | _ => false
  | _, _, _ => false
def ckGs (C : Ci) : M → Sn → List Expr → Bool
  | .anil, _, es => match es with
    | [] => true
    | _ => false
  | .acons a r, sn, es => match es with
    | e :: es => unst e && (ckG C a sn e && ckGs C r sn es)
    | _ => false
  | _, _, _ => false
end

/-- a name that a block within reads -/
def isCellT (sn : Sn) : Expr → Bool
  | .Name x _ => (match sn.lookup x with
    | some .cell => true
    | _ => false)
  | _ => false
/-- a, b = x, y stored name by name -/
def swOk (sn : Sn) (x y : Str) (px py : Pos) (a b : Expr) : Bool :=
  isLcl sn x && (isLcl sn y && (decide (x ≠ y) && (unst a && (unst b && (py.line == px.line && (!([a, b].all (foldedForSure 8)) && !([a, b].all (constantsAlone 8))))))))
def ckS (C : Ci) : M → Sn → Stmt → Bool
  | .asg tg a, sn, s => match s with
    | .Assign [t] e _ => (notLc e || isCellT sn t) && ((match t, e with
      | .Tuple _ _ _, .Tuple _ _ _ => false
      | .List _ _, .Tuple _ _ _ => false
      | _, _ => true) && (unst t && (ckE C a sn e && ckG C tg sn t)))
    | _ => false
  | .asgLc i a, sn, s => match s with
    | .Assign [.Name x px] (.ListComp elt gs sc ep) p => decide (C.N[i]? = some x) && (isLcl sn x && (!(sc.names.any fun (n, k) => n == x && (k == .local || k == .cell)) && (px.line == ep.line && (match a with
      | .lc own tg it ts e => ckE C (.lc own tg it ts e) sn (.ListComp elt gs sc ep)
      | .new (.lc own tg it ts e) => ckE C (.lc own tg it ts e) sn (.ListComp elt gs sc ep)
      | _ => false))))
    | _ => false
  | .par2 i j a b, sn, s => match s with
    | .Assign [.Tuple [.Name x px, .Name y py] _ _] (.Tuple [l, r] _ _) _ => decide (C.N[i]? = some x) && (decide (C.N[j]? = some y) && (decide (i ≠ j) && (swOk sn x y px py l r && (ckE C a sn l && ckE C b sn r))))
    | _ => false
  | .aug i k a, sn, s => match s with
    | .AugAssign (.Name x _) op e _ => decide (C.N[i]? = some x) && (isLoc sn x && (isOp (binOf k) op && ((match k with | .add => true | .sub => true | _ => false) && ckE C a sn e)))
    | _ => false
  | .setix a b v, sn, s => match s with
    | .Assign [.Subscript x y _] e _ => notSl y && (notLc e && (ckE C v sn e && (ckE C a sn x && ckE C b sn y)))
    | _ => false
  | .ex a, sn, s => match s with
    | .Expr e _ => notLc e && ckE C a sn e
    | _ => false
  | .ret a, sn, s => match s with
    | .Return (some e) _ => ckE C a sn e
    | _ => false
  | .retN, _, s => match s with
    | .Return none _ => true
    | _ => false
  | .ift t a b, sn, s => match s with
    | .If e x y _ => tstOk e && ckE C t sn e && (ckSs C a sn x && ckSs C b sn y)
    | _ => false
  | .for_ tg it body, sn, s => match s with
    | .For t e b [] _ => notSet e && (ckI C it sn t e && (ckG C tg sn t && ckSs C body sn b))
    | _ => false
  | .wh _ t body, sn, s => match s with
    | .While e b [] _ => tstOk e && ckE C t sn e && ckSs C body sn b
    | _ => false
  | .brk, _, s => match s with
    | .Break _ => true
    | _ => false
  | .cnt, _, s => match s with
    | .Continue _ => true
    | _ => false
  | .pss, _, s => match s with
    | .Pass _ => true
    | _ => false
  | .nev, _, _ => true
  | .rais c, sn, s => match s with
    | .Raise (some (.Call (.Name x _) [.Constant (.str _) _ _] [] _)) none _ => decide (c = x) && (decide (c ∈ C.xr) && (isGl sn x && okN x))
    | _ => false
  | .raisF c f a, sn, s => match s with
    | .Raise (some (.Call (.Name x _) [e] [] _)) none _ => decide (c = x) && (decide ((c, f) ∈ C.xf) && (isGl sn x && (okN x && (unst e && ckE C a sn e))))
    | _ => false
  | .tryK k ie i body, sn, s => match s with
    | .Try b [.ExceptHandler (some (.Name x _)) (some n) [.Assign [.Name y _] (.Name n' _) _] _] [] [] _ => decide (n = n') && (decide (C.N[ie]? = some n) && (decide (C.N[i]? = some y) && (isLcl sn n && (isLcl sn y && (isGl sn x && (okN x && (okN n && (isTryE C k x && ckSs C body sn b))))))))
    | _ => false
  | _, _, _ => false
where ckSs (C : Ci) : M → Sn → List Stmt → Bool
  | .snil, _, ss => match ss with
    | [] => true
    | _ => false
  | .scons a r, sn, ss => match ss with
    | s :: ss => ckS C a sn s && ckSs C r sn ss
    | _ => false
  | _, _, _ => false
end Mi

/-! MiF: what a reading asks, and what the interpreter gives. -/
namespace Mi
open PySem PySem.Spec PyProof.Rows L2

/-- an exception as it flies: its class, its dict -/
def XR (K : PySem.W.Frag) (mg : Str → Option Value) (F H : Hp) (x : Exn) (cls : Value) (d : Option Addr) : Prop := cls = .ref (He.ga K x.c) ∧ XF K F x d
section
variable (K : PySem.W.Frag) (mg : Str → Option Value)
/-- what must follow a result -/
def Post {α β : Type} (Wx : WX) (σ : L2.St) (Rel : Hp → List Addr → α → β → Prop) (F : Hp) (A : List Addr) (H : Hp) (r : R α) (Q : β → Hp → Prop) : Prop := match r with
  | .ok a S' => ∀ b F' A' H', Stp F A H F' A' H' → Good K F' A' S' H' → Rel F' A' a b → Q b H'
  | .exc x S' => ∀ cls d F' A' H', Stp F A H F' A' H' → Good K F' A' S' H' → XR K mg F' H' x cls d → Wx cls d σ H'
  | .err => False
def RhoR (F : Hp) (A : List Addr) (ρ : Rho) (σ : L2.St) : Prop := ρ.length = σ.length ∧ ∀ (i : Nat) (w : W), ρ[i]? = some (some w) → ∃ v, σ[i]? = some (some v) ∧ WR K F A w v
def EvE (Wx : WX) (t : TE) (ρ : Rho) (S : Sto) (r : R W) : Prop := ∀ σ F A H, Good K F A S H → RhoR K F A ρ σ → ∀ Q, Post K mg Wx σ (WR K) F A H r Q → t σ H Q
def EvA (Wx : WX) (t : TA) (ρ : Rho) (S : Sto) (r : R (List W)) : Prop := ∀ σ F A H, Good K F A S H → RhoR K F A ρ σ → ∀ Q, Post K mg Wx σ (WRs K) F A H r Q → t σ H Q
def EqB {α : Type} (_ : Hp) (_ : List Addr) (a b : α) : Prop := a = b
def EvT (Wx : WX) (t : TT) (ρ : Rho) (S : Sto) (r : R Bool) : Prop := ∀ σ F A H, Good K F A S H → RhoR K F A ρ σ → ∀ Q, Post K mg Wx σ EqB F A H r Q → t σ H Q
def EvO (Wx : WX) (t : TO) (ρ : Rho) (S : Sto) (r : R (Option Int)) : Prop := ∀ σ F A H, Good K F A S H → RhoR K F A ρ σ → ∀ Q, Post K mg Wx σ EqB F A H r Q → t σ H Q
end
section
variable {K : PySem.W.Frag} {mg : Str → Option Value} {α β γ δ : Type} {Wx : WX} {σ : L2.St} {Rel : Hp → List Addr → α → β → Prop} {Rel' : Hp → List Addr → γ → δ → Prop} {F F' : Hp} {A A' : List Addr} {H H' : Hp} {ρ : Rho} {S : Sto}
theorem RhoR.mono (s : Stp F A H F' A' H') (r : RhoR K F A ρ σ) : RhoR K F' A' ρ σ := ⟨r.1, fun i w e => let ⟨v, q, z⟩ := r.2 i w e; ⟨v, q, z.mono s⟩⟩
theorem Post.step {r : R α} {Q : β → Hp → Prop} (s : Stp F A H F' A' H') (p : Post K mg Wx σ Rel F A H r Q) : Post K mg Wx σ Rel F' A' H' r Q := by
  cases r with
  | ok a S' => exact fun b F2 A2 H2 s2 g rel => p b F2 A2 H2 (s.trans s2) g rel
  | exc x S' => exact fun cls d F2 A2 H2 s2 g x => p cls d F2 A2 H2 (s.trans s2) g x
  | err => exact p
/-- one result behind another -/
theorem Post.bind {r : R α} {k : α → Sto → R γ} {Q : δ → Hp → Prop} {Q1 : β → Hp → Prop} (p : Post K mg Wx σ Rel' F A H (r.bind k) Q)
    (h : ∀ a S' b F' A' H', r = .ok a S' → Stp F A H F' A' H' → Good K F' A' S' H' → Rel F' A' a b → Post K mg Wx σ Rel' F' A' H' (k a S') Q → Q1 b H') : Post K mg Wx σ Rel F A H r Q1 := by
  cases r with
  | ok a S' => exact fun b F2 A2 H2 s g rel => h a S' b F2 A2 H2 rfl s g rel (Post.step s p)
  | exc x S' => exact p
  | err => exact p
theorem Post.tru {r : R W} {Q : Bool → Hp → Prop} {Q1 : VK} (p : Post K mg Wx σ EqB F A H (Mi.tru r) Q) (h : ∀ c H', Q c H' → Q1 (.bl c) H') : Post K mg Wx σ (WR K) F A H r Q1 := by
  cases r with
  | ok w S' =>
    cases w with
    | d x =>
      cases x with
      | bool c =>
        intro b F2 A2 H2 s g rel
        cases rel
        exact h c H2 (p c F2 A2 H2 s g rfl)
      | _ => exact p.elim
    | _ => exact p.elim
  | exc x S' => exact p
  | err => exact p
theorem Post.ofO {o : Option W} {Q : VK} (p : Post K mg Wx σ (WR K) F A H (R.ofO o S) Q) : ∃ w, o = some w ∧ Then K F A H S w Q := by
  cases o with
  | none => exact p.elim
  | some w => exact ⟨w, rfl, fun z F2 A2 H2 s g rel => p z F2 A2 H2 s g rel⟩
theorem Post.ofP {o : Option (W × Sto)} {Q : VK} (p : Post K mg Wx σ (WR K) F A H (R.ofP o) Q) : ∃ w, o = some w ∧ ThenS K F A H w Q := by
  cases o with
  | none => exact p.elim
  | some w => exact ⟨w, rfl, fun z F2 A2 H2 s g rel => p z F2 A2 H2 s g rel⟩

/-! ### expressions -/
variable {Φ : Phi} {ta tb tc : TE} {a b c : M}
theorem ev_var {i : Nat} : EvE K mg Wx (tVar i) ρ S (evE Φ (.var i) ρ S) := by
  intro σ F A H g rr Q p
  unfold evE at p
  split at p
  · rename_i w e
    obtain ⟨v, q, z⟩ := rr.2 i w e
    exact ⟨v, q, p v F A H Stp.refl g z⟩
  · exact p.elim
theorem ev_const {v : V} {x : PyData} (h : Rp K (fun _ => none) v x) : EvE K mg Wx (tC v) ρ S (.ok (.d x) S) := by
  intro σ F A H g rr Q p
  exact p v F A H Stp.refl g (show Rp K F v x from Rp.mono (fun a o e => by cases e) h)
theorem ev_o2 {k : O2} {f : Value → Value → Sem Value} (ho : OpS K f (o2 k)) (ha : ∀ ρ S, EvE K mg Wx ta ρ S (evE Φ a ρ S)) (hb : ∀ ρ S, EvE K mg Wx tb ρ S (evE Φ b ρ S)) :
    EvE K mg Wx (tOp ho.choose ta tb) ρ S (evE Φ (.o2 k a b) ρ S) := by
  intro σ F A H g rr Q p
  unfold evE at p
  refine ha ρ S σ F A H g rr _ (p.bind fun x S1 v F1 A1 H1 _ s1 g1 rx p1 => ?_)
  refine hb ρ S1 σ F1 A1 H1 g1 (rr.mono s1) _ (p1.bind fun y S2 u F2 A2 H2 _ s2 g2 ry p2 => ?_)
  obtain ⟨w, e, k2⟩ := p2.ofO
  exact ho.choose_spec.2 F2 A2 S2 H2 x y v u w Q g2 (rx.mono s2) ry e k2
theorem ev_ch {k1 k2 : O2} {f1 f2 : Value → Value → Sem Value} (h1 : OpS K f1 (o2 k1)) (h2 : OpS K f2 (o2 k2)) (ha : ∀ ρ S, EvE K mg Wx ta ρ S (evE Φ a ρ S)) (hb : ∀ ρ S, EvE K mg Wx tb ρ S (evE Φ b ρ S)) (hc : ∀ ρ S, EvE K mg Wx tc ρ S (evE Φ c ρ S)) :
    EvE K mg Wx (tChain h1.choose h2.choose ta tb tc) ρ S (evE Φ (.ch k1 k2 a b c) ρ S) := by
  intro σ F A H g rr Q p
  unfold evE at p
  refine ha ρ S σ F A H g rr _ (p.bind fun x S1 v F1 A1 H1 _ s1 g1 rx p1 => ?_)
  refine hb ρ S1 σ F1 A1 H1 g1 (rr.mono s1) _ (p1.bind fun y S2 u F2 A2 H2 _ s2 g2 ry p2 => ?_)
  have p3 := Post.bind (Rel := EqB) (Q1 := fun t H3 => if t = true then tc σ H3 fun w' H4 => h2.choose u w' H4 Q else Q (.bl false) H3) p2 fun t S3 t' F3 A3 H3 _ s3 g3 rt p3 => by
    cases rt
    cases t with
    | false => exact p3 (.bl false) F3 A3 H3 Stp.refl g3 (.bl false)
    | true =>
      refine hc ρ S3 σ F3 A3 H3 g3 ((rr.mono s1).mono (s2.trans s3)) _ (p3.bind fun z S4 z' F4 A4 H4 _ s4 g4 rz p4 => ?_)
      obtain ⟨w, e, k4⟩ := p4.ofO
      exact h2.choose_spec.2 F4 A4 S4 H4 y z u z' w Q g4 (ry.mono (s3.trans s4)) rz e k4
  have p4 := Post.tru (Q1 := fun z H3 => ∃ k, z = .bl k ∧ if k = true then tc σ H3 fun w' H4 => h2.choose u w' H4 Q else Q (.bl false) H3) p3 fun c H' q => ⟨c, rfl, q⟩
  obtain ⟨w, e, k4⟩ := p4.ofO
  exact h1.choose_spec.2 F2 A2 S2 H2 x y v u w _ g2 (rx.mono s2) ry e k4
theorem ev_neg (ha : ∀ ρ S, EvE K mg Wx ta ρ S (evE Φ a ρ S)) : EvE K mg Wx (tUn (rU fun i => .int (-i)) ta) ρ S (evE Φ (.neg a) ρ S) := by
  intro σ F A H g rr Q p
  unfold evE at p
  refine ha ρ S σ F A H g rr _ (p.bind fun x S1 v F1 A1 H1 _ s1 g1 rx p1 => ?_)
  split at p1
  · cases rx
    exact ⟨_, rfl, p1 _ F1 A1 H1 Stp.refl g1 (.int _)⟩
  · exact p1.elim
theorem ev_test (ha : ∀ ρ S, EvE K mg Wx ta ρ S (evE Φ a ρ S)) : EvT K mg Wx (tB ta) ρ S (tru (evE Φ a ρ S)) := by
  intro σ F A H g rr Q p
  exact ha ρ S σ F A H g rr _ (p.tru fun c H' q => ⟨c, rfl, q⟩)
theorem ev_and (ha : ∀ ρ S, EvE K mg Wx ta ρ S (evE Φ a ρ S)) (hb : ∀ ρ S, EvE K mg Wx tb ρ S (evE Φ b ρ S)) : EvE K mg Wx (tAndV ta tb) ρ S (evE Φ (.and2 a b) ρ S) := by
  intro σ F A H g rr Q p
  unfold evE at p
  refine ha ρ S σ F A H g rr _ (Post.tru (Q := fun c H1 => if c = true then tb σ H1 Q else Q (.bl false) H1) (Post.bind (Rel := EqB) p fun c S1 c' F1 A1 H1 _ s1 g1 rc p1 => ?_) fun c H' q => ⟨c, rfl, q⟩)
  cases rc
  cases c with
  | false => exact p1 (.bl false) F1 A1 H1 Stp.refl g1 (.bl false)
  | true => exact hb ρ S1 σ F1 A1 H1 g1 (rr.mono s1) Q p1
theorem ev_or (ha : ∀ ρ S, EvE K mg Wx ta ρ S (evE Φ a ρ S)) (hb : ∀ ρ S, EvE K mg Wx tb ρ S (evE Φ b ρ S)) : EvE K mg Wx (tOrV ta tb) ρ S (evE Φ (.or2 a b) ρ S) := by
  intro σ F A H g rr Q p
  unfold evE at p
  refine ha ρ S σ F A H g rr _ (Post.tru (Q := fun c H1 => if c = true then Q (.bl true) H1 else tb σ H1 Q) (Post.bind (Rel := EqB) p fun c S1 c' F1 A1 H1 _ s1 g1 rc p1 => ?_) fun c H' q => ⟨c, rfl, q⟩)
  cases rc
  cases c with
  | true => exact p1 (.bl true) F1 A1 H1 Stp.refl g1 (.bl true)
  | false => exact hb ρ S1 σ F1 A1 H1 g1 (rr.mono s1) Q p1
theorem ev_not (ha : ∀ ρ S, EvE K mg Wx ta ρ S (evE Φ a ρ S)) : EvE K mg Wx (tNotV ta) ρ S (evE Φ (.not1 a) ρ S) := by
  intro σ F A H g rr Q p
  unfold evE at p
  refine ha ρ S σ F A H g rr _ (Post.tru (Q := fun c H1 => Q (.bl (!c)) H1) (Post.bind (Rel := EqB) p fun c S1 c' F1 A1 H1 _ s1 g1 rc p1 => ?_) fun c H' q => ⟨c, rfl, q⟩)
  cases rc
  exact p1 (.bl (!c)) F1 A1 H1 Stp.refl g1 (.bl _)
/-! ### tests -/
variable {t u : TT}
theorem et_and (ha : ∀ ρ S, EvT K mg Wx t ρ S (tru (evE Φ a ρ S))) (hb : ∀ ρ S, EvT K mg Wx u ρ S (tru (evE Φ b ρ S))) : EvT K mg Wx (tAnd t u) ρ S (tru (evE Φ (.and2 a b) ρ S)) := by
  intro σ F A H g rr Q p
  unfold evE at p
  have p' : Post K mg Wx σ EqB F A H ((tru (evE Φ a ρ S)).bind fun c S1 => if c then tru (evE Φ b ρ S1) else .ok false S1) Q := by
    cases h : tru (evE Φ a ρ S) with
    | ok c S1 => rw [h] at p; cases c <;> exact p
    | exc x S1 => rw [h] at p; exact p
    | err => rw [h] at p; exact p
  refine ha ρ S σ F A H g rr _ (p'.bind fun c S1 c' F1 A1 H1 _ s1 g1 rc p1 => ?_)
  cases rc
  cases c with
  | false => exact p1 false F1 A1 H1 Stp.refl g1 rfl
  | true => exact hb ρ S1 σ F1 A1 H1 g1 (rr.mono s1) Q p1
theorem et_or (ha : ∀ ρ S, EvT K mg Wx t ρ S (tru (evE Φ a ρ S))) (hb : ∀ ρ S, EvT K mg Wx u ρ S (tru (evE Φ b ρ S))) : EvT K mg Wx (tOr t u) ρ S (tru (evE Φ (.or2 a b) ρ S)) := by
  intro σ F A H g rr Q p
  unfold evE at p
  have p' : Post K mg Wx σ EqB F A H ((tru (evE Φ a ρ S)).bind fun c S1 => if c then .ok true S1 else tru (evE Φ b ρ S1)) Q := by
    cases h : tru (evE Φ a ρ S) with
    | ok c S1 => rw [h] at p; cases c <;> exact p
    | exc x S1 => rw [h] at p; exact p
    | err => rw [h] at p; exact p
  refine ha ρ S σ F A H g rr _ (p'.bind fun c S1 c' F1 A1 H1 _ s1 g1 rc p1 => ?_)
  cases rc
  cases c with
  | true => exact p1 true F1 A1 H1 Stp.refl g1 rfl
  | false => exact hb ρ S1 σ F1 A1 H1 g1 (rr.mono s1) Q p1
theorem et_not (ha : ∀ ρ S, EvT K mg Wx t ρ S (tru (evE Φ a ρ S))) : EvT K mg Wx (tNot t) ρ S (tru (evE Φ (.not1 a) ρ S)) := by
  intro σ F A H g rr Q p
  unfold evE at p
  have p' : Post K mg Wx σ EqB F A H ((tru (evE Φ a ρ S)).bind fun c S1 => .ok (!c) S1) Q := by
    cases h : tru (evE Φ a ρ S) with
    | ok c S1 => rw [h] at p; exact p
    | exc x S1 => rw [h] at p; exact p
    | err => rw [h] at p; exact p
  refine ha ρ S σ F A H g rr _ (p'.bind fun c S1 c' F1 A1 H1 _ s1 g1 rc p1 => ?_)
  cases rc
  exact p1 (!c) F1 A1 H1 Stp.refl g1 rfl
theorem ev_ife (ht : ∀ ρ S, EvT K mg Wx t ρ S (tru (evE Φ a ρ S))) (hb : ∀ ρ S, EvE K mg Wx tb ρ S (evE Φ b ρ S)) (hc : ∀ ρ S, EvE K mg Wx tc ρ S (evE Φ c ρ S)) : EvE K mg Wx (tIf t tb tc) ρ S (evE Φ (.ife a b c) ρ S) := by
  intro σ F A H g rr Q p
  unfold evE at p
  refine ht ρ S σ F A H g rr _ (p.bind fun c S1 c' F1 A1 H1 _ s1 g1 rc p1 => ?_)
  cases rc
  cases c with
  | true => exact hb ρ S1 σ F1 A1 H1 g1 (rr.mono s1) Q p1
  | false => exact hc ρ S1 σ F1 A1 H1 g1 (rr.mono s1) Q p1
/-! ### lists of arguments, displays -/
variable {tl : TA}
theorem ea_nil : EvA K mg Wx tNil ρ S (evA Φ .anil ρ S) := fun σ F A H g rr Q p => p [] F A H Stp.refl g trivial
theorem ea_cons (ha : ∀ ρ S, EvE K mg Wx ta ρ S (evE Φ a ρ S)) (hr : ∀ ρ S, EvA K mg Wx tl ρ S (evA Φ b ρ S)) : EvA K mg Wx (tCons ta tl) ρ S (evA Φ (.acons a b) ρ S) := by
  intro σ F A H g rr Q p
  unfold evA at p
  refine ha ρ S σ F A H g rr _ (p.bind fun x S1 v F1 A1 H1 _ s1 g1 rx p1 => ?_)
  refine hr ρ S1 σ F1 A1 H1 g1 (rr.mono s1) _ (p1.bind fun xs S2 vs F2 A2 H2 _ s2 g2 rs p2 => ?_)
  exact p2 (v :: vs) F2 A2 H2 Stp.refl g2 ⟨rx.mono s2, rs⟩
theorem dats_of : ∀ {ws : List W} {ds : List PyData} {vs : List V}, dats? ws = some ds → WRs K F A ws vs → Rps K F vs ds
  | [], ds, vs, h, r => by
    cases h
    cases vs with
    | nil => exact .nil
    | cons _ _ => exact r.elim
  | .d x :: ws, ds, vs, h, r => by
    unfold dats? at h
    cases vs with
    | nil => exact r.elim
    | cons v vs =>
      cases q : dats? ws with
      | none => rw [q] at h; cases h
      | some es =>
        rw [q] at h
        cases h
        exact .cons r.1 (dats_of q r.2)
  | .ptr _ :: ws, ds, vs, h, r => by cases h
  | .exn _ :: ws, ds, vs, h, r => by cases h
theorem mkL_post {r : R (List W)} {f : List PyData → Option W} {Q : VK} {Q1 : List V → Hp → Prop} (p : Post K mg Wx σ (WR K) F A H (mkL r f) Q)
    (h : ∀ ds w S' vs F' A' H', Stp F A H F' A' H' → Good K F' A' S' H' → Rps K F' vs ds → f ds = some w → Then K F' A' H' S' w Q → Q1 vs H') : Post K mg Wx σ (WRs K) F A H r Q1 := by
  cases r with
  | ok ws S' =>
    intro vs F1 A1 H1 s g rel
    unfold mkL at p
    obtain ⟨w, e, k⟩ := (Post.step s p).ofO
    cases q : dats? ws with
    | none => rw [q] at e; cases e
    | some ds =>
      rw [q] at e
      exact h ds w S' vs F1 A1 H1 s g (dats_of q rel) e k
  | exc x S' => exact p
  | err => exact p
theorem ev_tup (hl : ∀ ρ S, EvA K mg Wx tl ρ S (evA Φ a ρ S)) : EvE K mg Wx (tTup tl) ρ S (evE Φ (.tup a) ρ S) := by
  intro σ F A H g rr Q p
  unfold evE at p
  refine hl ρ S σ F A H g rr _ (mkL_post p fun ds w S' vs F1 A1 H1 s1 g1 r e k => ?_)
  unfold tupW at e
  split at e
  · rename_i h
    cases e
    exact ⟨by rw [r.length]; exact lim_line h, fun p hp => k.tup g1 r hp⟩
  · cases e
/-! ### new lists: they may be ones that change -/
/-- what must follow a result, a list being at a new address -/
def ThenN (K : PySem.W.Frag) (F : Hp) (A : List Addr) (H : Hp) (S' : Sto) (w : W) (Q : VK) : Prop := match w with
  | .d (.list xs) => ∀ p vs F' A' H1, Stp F A H F' A' H1 → Good K F' A' S' H1 → Rps K F' vs xs → H1 p = none → Q (.ref p) (upd H1 p (.lst vs))
  | w => ∀ b F' A' H', Stp F A H F' A' H' → Good K F' A' S' H' → WR K F' A' w b → Q b H'
def PostN (K : PySem.W.Frag) (mg : Str → Option Value) (Wx : WX) (σ : L2.St) (F : Hp) (A : List Addr) (H : Hp) (r : R W) (Q : VK) : Prop := match r with
  | .ok w S' => ThenN K F A H S' w Q
  | .exc x S' => ∀ cls d F' A' H', Stp F A H F' A' H' → Good K F' A' S' H' → XR K mg F' H' x cls d → Wx cls d σ H'
  | .err => False
def EvN (K : PySem.W.Frag) (mg : Str → Option Value) (Wx : WX) (t : TE) (ρ : Rho) (S : Sto) (r : R W) : Prop := ∀ σ F A H, Good K F A S H → RhoR K F A ρ σ → ∀ Q, PostN K mg Wx σ F A H r Q → t σ H Q
theorem ThenN.of {w : W} {Q : VK} (k : Then K F A H S w Q) : ThenN K F A H S w Q := by
  unfold ThenN
  split
  · intro p vs F1 A1 H1 s g r hp
    obtain ⟨s2, g2⟩ := g.laid (o := .lst vs) hp
    exact k _ _ _ _ (s.trans s2) g2 (show Rp K _ _ _ from .lst (.inl (.inl upd_same)) (Rps.mono s2.exF r))
  · intro b F1 A1 H1 s g r
    exact k b F1 A1 H1 s g r
theorem ThenN.step {w : W} {Q : VK} (s : Stp F A H F' A' H') (k : ThenN K F A H S w Q) : ThenN K F' A' H' S w Q := by
  unfold ThenN at k ⊢
  split at k
  · exact fun p vs F1 A1 H1 s2 g r hp => k p vs F1 A1 H1 (s.trans s2) g r hp
  · exact fun b F1 A1 H1 s2 g r => k b F1 A1 H1 (s.trans s2) g r
theorem EvN.ev {t : TE} {r : R W} (h : EvN K mg Wx t ρ S r) : EvE K mg Wx t ρ S r := by
  intro σ F A H g rr Q p
  refine h σ F A H g rr Q ?_
  cases r with
  | ok w S' => exact ThenN.of fun z F1 A1 H1 s g r => p z F1 A1 H1 s g r
  | exc x S' => exact p
  | err => exact p
/-- the new list is one that changes -/
theorem ev_new {t : TE} (h : ∀ ρ S, EvN K mg Wx t ρ S (evE Φ a ρ S)) : EvE K mg Wx t ρ S (evE Φ (.new a) ρ S) := by
  intro σ F A H g rr Q p
  unfold evE at p
  refine h ρ S σ F A H g rr Q ?_
  cases e : evE Φ a ρ S with
  | err => rw [e] at p; exact p
  | exc x S' => rw [e] at p; exact p
  | ok w S' =>
    rw [e] at p
    cases w with
    | ptr _ => exact p.elim
    | exn _ => exact p.elim
    | d x =>
      cases x with
      | list xs =>
        intro q vs F1 A1 H1 s g1 r hq
        obtain ⟨s2, g2⟩ := g1.laidM hq r
        exact p _ _ _ _ (s.trans s2) g2 ⟨q, by rw [← g1.len]; simp, rfl⟩
      | _ => exact p.elim
theorem PostN.bind {r : R α} {k : α → Sto → R W} {Q : VK} {Q1 : β → Hp → Prop} (p : PostN K mg Wx σ F A H (r.bind k) Q)
    (h : ∀ a S' b F' A' H', r = .ok a S' → Stp F A H F' A' H' → Good K F' A' S' H' → Rel F' A' a b → PostN K mg Wx σ F' A' H' (k a S') Q → Q1 b H') : Post K mg Wx σ Rel F A H r Q1 := by
  cases r with
  | ok a S' =>
    intro b F2 A2 H2 s g rel
    refine h a S' b F2 A2 H2 rfl s g rel ?_
    have p' : PostN K mg Wx σ F A H (k a S') Q := p
    unfold PostN at p' ⊢
    split at p'
    · exact p'.step s
    · exact fun cls d F3 A3 H3 s3 g3 x => p' cls d F3 A3 H3 (s.trans s3) g3 x
    · exact p'
  | exc x S' => exact p
  | err => exact p
theorem PostN.ofO {o : Option W} {Q : VK} (p : PostN K mg Wx σ F A H (R.ofO o S) Q) : ∃ w, o = some w ∧ ThenN K F A H S w Q := by
  cases o with
  | none => exact p.elim
  | some w => exact ⟨w, rfl, p⟩
theorem ThenN.lst {xs : List PyData} {vs : List V} {p : Addr} {Q : VK} (k : ThenN K F A H S (.d (.list xs)) Q) (g : Good K F A S H) (r : Rps K F vs xs) (h : H p = none) : Q (.ref p) (upd H p (.lst vs)) := k p vs F A H Stp.refl g r h
theorem ev_lstN (hl : ∀ ρ S, EvA K mg Wx tl ρ S (evA Φ a ρ S)) : EvN K mg Wx (tLst tl) ρ S (evE Φ (.lst a) ρ S) := by
  intro σ F A H g rr Q p
  unfold evE at p
  refine hl ρ S σ F A H g rr _ ?_
  cases e : evA Φ a ρ S with
  | err => rw [e] at p; exact p
  | exc x S' => rw [e] at p; exact p
  | ok ws S' =>
    rw [e] at p
    intro vs F1 A1 H1 s1 g1 r
    unfold mkL at p
    obtain ⟨w, e1, k⟩ := p.ofO
    cases q : dats? ws with
    | none => rw [q] at e1; cases e1
    | some ds =>
      rw [q] at e1
      have e2 : lstW ds = some w := e1
      unfold lstW at e2
      split at e2
      · rename_i h
        cases e2
        have r' := dats_of q r
        exact ⟨by rw [r'.length]; exact lim_line h, fun p hp => (k.step s1).lst g1 r' hp⟩
      · cases e2
/-- + of two lists makes a new one -/
theorem ops_addN : ∃ r : R2, (∀ X, Cnd K X → OpR X (binaryOp .Add) r) ∧ ∀ F A S H x y v u w Q, Good K F A S H → WR K F A x v → WR K F A y u → o2 .add S x y = some w → ThenN K F A H S w Q → r v u H Q := by
  refine ⟨fun x y H Q => (rI0 (fun i j => .int (i + j)) x y H Q ∨ ∃ i j, x = .str i ∧ y = .str j ∧ i.length + j.length ≤ sizeLine ∧ Q (.str (i ++ j)) H) ∨ rCatS K x y H Q, fun X hX => by
    have hK := hX.hK
    subst hK
    exact (op_add.or op_add_str).or op_catS, fun F A S H x y v u w Q gd rx ry e k => ?_⟩
  have e' : addW S x y = some w := e
  unfold addW at e'
  split at e'
  · cases e'
    cases rx
    cases ry
    exact .inl (.inl ⟨_, _, rfl, rfl, k _ F A H Stp.refl gd (.int _)⟩)
  · rename_i a b
    cases rx
    cases ry
    split at e'
    · rename_i h
      cases e'
      exact .inl (.inr ⟨_, _, rfl, rfl, lim_line h, k _ F A H Stp.refl gd (.str _)⟩)
    · cases e'
  · split at e'
    · rename_i a b e1 e2
      split at e'
      · rename_i h
        cases e'
        obtain ⟨l, vs, rfl, h1, r1⟩ := gd.list rx e1
        obtain ⟨m, us, rfl, h2, r2⟩ := gd.list ry e2
        refine .inr ⟨l, m, vs, us, rfl, rfl, h1, h2, ?_, fun p hp => k.lst gd (r1.append r2) hp⟩
        rw [r1.length, r2.length]
        exact lim_line h
      · cases e'
    · cases e'
theorem ev_addN (ha : ∀ ρ S, EvE K mg Wx ta ρ S (evE Φ a ρ S)) (hb : ∀ ρ S, EvE K mg Wx tb ρ S (evE Φ b ρ S)) :
    EvN K mg Wx (tOp (ops_addN (K := K)).choose ta tb) ρ S (evE Φ (.o2 .add a b) ρ S) := by
  intro σ F A H g rr Q p
  unfold evE at p
  refine ha ρ S σ F A H g rr _ (p.bind fun x S1 v F1 A1 H1 _ s1 g1 rx p1 => ?_)
  refine hb ρ S1 σ F1 A1 H1 g1 (rr.mono s1) _ (p1.bind fun y S2 u F2 A2 H2 _ s2 g2 ry p2 => ?_)
  obtain ⟨w, e, k2⟩ := p2.ofO
  exact ops_addN.choose_spec.2 F2 A2 S2 H2 x y v u w Q g2 (rx.mono s2) ry e k2
theorem cs_listN : ∀ {F A S H ws vs w Q}, Good K F A S H → WRs K F A ws vs → bi .list_ S ws = some w → ThenN K F A H S w Q → rListN K vs H Q := by
  intro F A S H ws vs w Q gd rs e k
  obtain ⟨p, us, xs, rfl, rfl, h, r⟩ := list_core gd rs e
  exact ⟨p, us, rfl, h, fun l hl => k.lst gd r hl⟩
theorem ev_listN (hl : ∀ ρ S, EvA K mg Wx tl ρ S (evA Φ a ρ S)) : EvN K mg Wx (tCB (rListN K) tl) ρ S (evE Φ (.bi .list_ a) ρ S) := by
  intro σ F A H g rr Q p
  unfold evE at p
  refine hl ρ S σ F A H g rr _ (p.bind fun ws S1 vs F1 A1 H1 _ s1 g1 rs p1 => ?_)
  obtain ⟨w, e, k⟩ := p1.ofO
  exact cs_listN g1 rs e k
theorem ev_bi {k : Bi} {f : Value} (hc : CallS K f (bi k)) (hl : ∀ ρ S, EvA K mg Wx tl ρ S (evA Φ a ρ S)) : EvE K mg Wx (tCB hc.choose tl) ρ S (evE Φ (.bi k a) ρ S) := by
  intro σ F A H g rr Q p
  unfold evE at p
  refine hl ρ S σ F A H g rr _ (p.bind fun ws S1 vs F1 A1 H1 _ s1 g1 rs p1 => ?_)
  obtain ⟨w, e, k⟩ := p1.ofO
  exact hc.choose_spec.2 F1 A1 S1 H1 ws vs w Q g1 rs e k
theorem ev_isi {t : String} (ha : ∀ ρ S, EvE K mg Wx ta ρ S (evE Φ a ρ S)) : EvE K mg Wx (tCB (rIsi K) (tCons ta (tCons (tC (.ty t)) tNil))) ρ S (evE Φ (.isi t a) ρ S) := by
  intro σ F A H g rr Q p
  unfold evE at p
  refine ha ρ S σ F A H g rr _ (p.bind fun x S1 v F1 A1 H1 _ s1 g1 rx p1 => ?_)
  obtain ⟨w, e, k⟩ := p1.ofO
  exact isi_ok g1 rx e k
theorem ev_mt {k : Mt} {id : String} (hm : MtS K id (mt k)) (ha : ∀ ρ S, EvE K mg Wx ta ρ S (evE Φ a ρ S)) (hl : ∀ ρ S, EvA K mg Wx tl ρ S (evA Φ b ρ S)) :
    EvE K mg Wx (tBM K (mtT k) hm.choose ta tl) ρ S (evE Φ (.mt k a b) ρ S) := by
  intro σ F A H g rr Q p
  unfold evE at p
  refine ha ρ S σ F A H g rr _ (p.bind fun x S1 v F1 A1 H1 _ s1 g1 rx p1 => ?_)
  split at p1
  · rename_i ht
    refine ⟨mtTy_ok g1 rx ht, ?_⟩
    refine hl ρ S1 σ F1 A1 H1 g1 (rr.mono s1) _ (p1.bind fun ws S2 vs F2 A2 H2 _ s2 g2 rs p2 => ?_)
    obtain ⟨w, e, k⟩ := p2.ofP
    exact hm.choose_spec.2 F2 A2 S2 H2 x v ws vs w Q g2 (rx.mono s2) rs e k
  · exact p1.elim
theorem ev_ix (ha : ∀ ρ S, EvE K mg Wx ta ρ S (evE Φ a ρ S)) (hb : ∀ ρ S, EvE K mg Wx tb ρ S (evE Φ b ρ S)) : EvE K mg Wx (tOp (ixs (K := K)).choose ta tb) ρ S (evE Φ (.ix a b) ρ S) := by
  intro σ F A H g rr Q p
  unfold evE at p
  refine ha ρ S σ F A H g rr _ (p.bind fun x S1 v F1 A1 H1 _ s1 g1 rx p1 => ?_)
  refine hb ρ S1 σ F1 A1 H1 g1 (rr.mono s1) _ (p1.bind fun y S2 u F2 A2 H2 _ s2 g2 ry p2 => ?_)
  obtain ⟨w, e, k2⟩ := p2.ofO
  exact ixs.choose_spec.2 F2 A2 S2 H2 x y v u w Q g2 (rx.mono s2) ry e k2
variable {tlo thi : TO}
theorem eo_none : EvO K mg Wx tNoPart ρ S (evO Φ .nop ρ S) := fun σ F A H g rr Q p => p none F A H Stp.refl g rfl
theorem eo_some (ha : ∀ ρ S, EvE K mg Wx ta ρ S (evE Φ a ρ S)) : EvO K mg Wx (tPart ta) ρ S (evO Φ (.one a) ρ S) := by
  intro σ F A H g rr Q p
  unfold evO at p
  refine ha ρ S σ F A H g rr _ (p.bind fun x S1 v F1 A1 H1 _ s1 g1 rx p1 => ?_)
  split at p1
  · cases rx
    exact ⟨_, rfl, p1 _ F1 A1 H1 Stp.refl g1 rfl⟩
  · exact p1.elim
/-- slices: a list's is a new list -/
theorem sls_N : ∃ r : V → Option Int → Option Int → Hp → VK → Prop, (∀ X, Cnd K X → SlR X r) ∧ ∀ F A S H x v lo hi w Q, Good K F A S H → WR K F A x v → slW S x lo hi = some w → ThenN K F A H S w Q → r v lo hi H Q := by
  refine ⟨fun x lo hi H Q => rSlL K x lo hi H Q ∨ rSlT K x lo hi H Q ∨ rSlS x lo hi H Q, fun X hX => by
    have hK := hX.hK
    subst hK
    exact sl_list.or (sl_tup.or sl_str), fun F A S H x v lo hi w Q gd rx e k => ?_⟩
  unfold slW at e
  split at e
  · rename_i z
    cases rx
    split at e
    · rename_i hl
      cases e
      exact .inr (.inr ⟨z, rfl, lim_line hl, k _ F A H Stp.refl gd (.str _)⟩)
    · cases e
  · rename_i xs
    cases rx with
    | tup h1 h2 =>
      split at e
      · cases e
      · rename_i hc
        cases e
        refine .inr (.inl ⟨_, _, rfl, gd.ex.t h1, by rw [h2.length]; exact hc, fun p hp => ?_⟩)
        exact Then.tup (fun z F1 A1 H1 s g r => k z F1 A1 H1 s g r) gd (cut_rps h2 lo hi) hp
  · split at e
    · rename_i xs e1
      cases e
      obtain ⟨p, vs, rfl, h1, r1⟩ := gd.list rx e1
      exact .inl ⟨p, vs, rfl, h1, fun q hq => k.lst gd (cut_rps r1 lo hi) hq⟩
    · cases e
theorem ev_slN (ha : ∀ ρ S, EvE K mg Wx ta ρ S (evE Φ a ρ S)) (hlo : ∀ ρ S, EvO K mg Wx tlo ρ S (evO Φ b ρ S)) (hhi : ∀ ρ S, EvO K mg Wx thi ρ S (evO Φ c ρ S)) :
    EvN K mg Wx (tSl (sls_N (K := K)).choose ta tlo thi) ρ S (evE Φ (.sl a b c) ρ S) := by
  intro σ F A H g rr Q p
  unfold evE at p
  refine ha ρ S σ F A H g rr _ (p.bind fun x S1 v F1 A1 H1 _ s1 g1 rx p1 => ?_)
  refine hlo ρ S1 σ F1 A1 H1 g1 (rr.mono s1) _ (p1.bind fun l S2 l' F2 A2 H2 _ s2 g2 rl p2 => ?_)
  refine hhi ρ S2 σ F2 A2 H2 g2 ((rr.mono s1).mono s2) _ (p2.bind fun h S3 h' F3 A3 H3 _ s3 g3 rh p3 => ?_)
  cases rl
  cases rh
  obtain ⟨w, e, k⟩ := p3.ofO
  exact sls_N.choose_spec.2 F3 A3 S3 H3 x v l h w Q g3 ((rx.mono s2).mono s3) e k
theorem ev_frz (ha : ∀ ρ S, EvE K mg Wx ta ρ S (evE Φ a ρ S)) : EvE K mg Wx ta ρ S (evE Φ (.frz a) ρ S) := by
  intro σ F A H g rr Q p
  unfold evE at p
  refine ha ρ S σ F A H g rr _ (p.bind fun x S1 v F1 A1 H1 _ s1 g1 rx p1 => ?_)
  split at p1
  · rename_i q
    obtain ⟨ad, e, rfl⟩ := rx
    split at p1
    · rename_i xs e2
      obtain ⟨vs, hH, s2, g2, r2⟩ := g1.freeze e e2
      exact p1 _ _ _ _ s2 g2 r2
    · exact p1.elim
  · exact p1.elim
end
end Mi

/-! MiG: targets, sources, comprehensions, statements. -/
namespace Mi
open PySem PySem.Spec PyProof.Rows L2

section
variable {K : PySem.W.Frag} {mg : Str → Option Value} {Wx : WX} {σ : L2.St} {F F' : Hp} {A A' : List Addr} {H H' : Hp} {ρ : Rho} {S : Sto} {Φ : Phi}
/-! ### targets -/
def cntG : M → Nat
  | .acons _ r => cntG r + 1
  | _ => 0
theorem RhoR.set {i : Nat} {w : W} {v : V} (rr : RhoR K F A ρ σ) (r : WR K F A w v) (hi : i < ρ.length) : RhoR K F A (ρ.set i (some w)) (σ.set i (some v)) := by
  refine ⟨by rw [List.length_set, List.length_set]; exact rr.1, fun j x e => ?_⟩
  by_cases hj : j = i
  · subst hj
    rw [List.getElem?_set_self hi] at e
    cases e
    exact ⟨v, List.getElem?_set_self (by rw [← rr.1]; exact hi), r⟩
  · rw [List.getElem?_set_ne (Ne.symm hj)] at e ⊢
    exact rr.2 j x e
theorem RhoR.setN {i : Nat} (rr : RhoR K F A ρ σ) : RhoR K F A (ρ.set i none) (σ.set i none) := by
  refine ⟨by rw [List.length_set, List.length_set]; exact rr.1, fun j x e => ?_⟩
  by_cases hj : j = i
  · subst hj
    by_cases hi : j < ρ.length
    · rw [List.getElem?_set_self hi] at e
      cases e
    · rw [List.getElem?_eq_none (by simpa using hi)] at e
      cases e
  · rw [List.getElem?_set_ne (Ne.symm hj)] at e ⊢
    exact rr.2 j x e
theorem RhoR.wipe : ∀ (vs : List Nat), RhoR K F A ρ σ → RhoR K F A (wipeR ρ vs) (L2.wipe σ vs)
  | [], r => r
  | v :: vs, r => (RhoR.wipe vs r).setN
theorem wipeR_length (ρ : Rho) : ∀ vs : List Nat, (wipeR ρ vs).length = ρ.length
  | [] => rfl
  | v :: vs => by unfold wipeR; rw [List.length_set, wipeR_length ρ vs]
theorem wipe_set {σ : L2.St} {i : Nat} {x : Option V} : ∀ {vs : List Nat}, i ∈ vs → L2.wipe (σ.set i x) vs = L2.wipe σ vs
  | [], h => by cases h
  | v :: vs, h => by
    unfold L2.wipe
    by_cases hv : v = i
    · subst hv
      by_cases h2 : v ∈ vs
      · rw [wipe_set h2]
      · have : ∀ ws : List Nat, v ∉ ws → L2.wipe (σ.set v x) ws = (L2.wipe σ ws).set v x := by
          intro ws
          induction ws with
          | nil => intro _; rfl
          | cons u us ih =>
            intro hu
            have h1 : v ≠ u := fun e => hu (by rw [e]; exact List.mem_cons_self)
            unfold L2.wipe
            rw [ih (fun z => hu (List.mem_cons_of_mem _ z)), List.set_comm _ _ h1]
        rw [this vs h2, List.set_set]
    · rcases List.mem_cons.mp h with e | e
      · exact absurd e.symm hv
      · rw [wipe_set e]
theorem wipe_wipe {σ : L2.St} : ∀ (us vs : List Nat), (∀ i ∈ us, i ∈ vs) → L2.wipe (L2.wipe σ us) vs = L2.wipe σ vs
  | [], vs, _ => rfl
  | u :: us, vs, h => by
    show L2.wipe ((L2.wipe σ us).set u none) vs = _
    rw [wipe_set (h u List.mem_cons_self), wipe_wipe us vs fun i hi => h i (List.mem_cons_of_mem _ hi)]
/-- what a target's reading asks -/
def EvG (K : PySem.W.Frag) (g : TG) (tg : M) : Prop := ∀ σ F A S H, Good K F A S H → ∀ w v ρ ρ', RhoR K F A ρ σ → WR K F A w v → bindT S tg w ρ = some ρ' → ∀ Q : L2.St → Hp → Prop,
  (∀ σ', RhoR K F A ρ' σ' → (∀ vs, (∀ i ∈ tgS tg, i ∈ vs) → L2.wipe σ' vs = L2.wipe σ vs) → Q σ' H) → g v σ H Q
def EvGs (K : PySem.W.Frag) (g : TGs) (tg : M) : Prop := ∀ σ F A S H, Good K F A S H → ∀ ws vs ρ ρ', RhoR K F A ρ σ → WRs K F A ws vs → bindTs S tg ws ρ = some ρ' → ∀ Q : L2.St → Hp → Prop,
  (∀ σ', RhoR K F A ρ' σ' → (∀ us, (∀ i ∈ tgSs tg, i ∈ us) → L2.wipe σ' us = L2.wipe σ us) → Q σ' H) → g vs σ H Q
theorem eg_name {i : Nat} : EvG K (gName i) (.tn i) := by
  intro σ F A S H g w v ρ ρ' rr r e Q q
  unfold bindT at e
  split at e
  · rename_i hi
    cases e
    exact q _ (rr.set r hi) fun vs h => wipe_set (h i (by simp [tgS]))
  · cases e
theorem egs_nil : EvGs K gNil .anil := by
  intro σ F A S H g ws vs ρ ρ' rr r e Q q
  unfold bindTs at e
  split at e
  · rename_i h1 h2 h3
    cases e
    cases vs with
    | nil => exact ⟨rfl, q σ rr fun _ _ => rfl⟩
    | cons _ _ => exact r.elim
  · rename_i h
    cases h
  · cases e
theorem egs_cons {t : TG} {u : TGs} {a r : M} (h1 : EvG K t a) (h2 : EvGs K u r) : EvGs K (gCons t u) (.acons a r) := by
  intro σ F A S H g ws vs ρ ρ' rr rs e Q q
  cases ws with
  | nil => simp [bindTs] at e
  | cons w ws' =>
    cases vs with
    | nil => exact rs.elim
    | cons v vs =>
      unfold bindTs at e
      split at e
      · rename_i ρ1 hb
        refine ⟨v, vs, rfl, h1 σ F A S H g w v ρ ρ1 rr rs.1 hb _ fun σ1 rr1 w1 => ?_⟩
        exact h2 σ1 F A S H g ws' vs ρ1 ρ' rr1 rs.2 e _ fun σ2 rr2 w2 => q σ2 rr2 fun us hu =>
          (w2 us fun i hi => hu i (by simp [tgSs, hi])).trans (w1 us fun i hi => hu i (by simp [tgSs, hi]))
      · cases e
theorem bindTs_len : ∀ {tg : M} {ws : List W} {ρ ρ' : Rho}, bindTs S tg ws ρ = some ρ' → ws.length = cntG tg
  | .anil, ws, ρ, ρ', e => by
    cases ws with
    | nil => rfl
    | cons _ _ => simp [bindTs] at e
  | .acons a r, ws, ρ, ρ', e => by
    cases ws with
    | nil => simp [bindTs] at e
    | cons w ws =>
      unfold bindTs at e
      split at e
      · exact congrArg Nat.succ (bindTs_len e)
      · cases e
  | .var _, ws, ρ, ρ', e => by simp [bindTs] at e
  | .int _, ws, ρ, ρ', e => by simp [bindTs] at e
  | .str _, ws, ρ, ρ', e => by simp [bindTs] at e
  | .bl _, ws, ρ, ρ', e => by simp [bindTs] at e
  | .non, ws, ρ, ρ', e => by simp [bindTs] at e
  | .gi _ _, ws, ρ, ρ', e => by simp [bindTs] at e
  | .gs _ _, ws, ρ, ρ', e => by simp [bindTs] at e
  | .o2 _ _ _, ws, ρ, ρ', e => by simp [bindTs] at e
  | .ch _ _ _ _ _, ws, ρ, ρ', e => by simp [bindTs] at e
  | .neg _, ws, ρ, ρ', e => by simp [bindTs] at e
  | .and2 _ _, ws, ρ, ρ', e => by simp [bindTs] at e
  | .or2 _ _, ws, ρ, ρ', e => by simp [bindTs] at e
  | .one _, ws, ρ, ρ', e => by simp [bindTs] at e
  | .not1 _, ws, ρ, ρ', e => by simp [bindTs] at e
  | .ife _ _ _, ws, ρ, ρ', e => by simp [bindTs] at e
  | .tup _, ws, ρ, ρ', e => by simp [bindTs] at e
  | .lst _, ws, ρ, ρ', e => by simp [bindTs] at e
  | .call _ _, ws, ρ, ρ', e => by simp [bindTs] at e
  | .bi _ _, ws, ρ, ρ', e => by simp [bindTs] at e
  | .isi _ _, ws, ρ, ρ', e => by simp [bindTs] at e
  | .mt _ _ _, ws, ρ, ρ', e => by simp [bindTs] at e
  | .ix _ _, ws, ρ, ρ', e => by simp [bindTs] at e
  | .sl _ _ _, ws, ρ, ρ', e => by simp [bindTs] at e
  | .nop, ws, ρ, ρ', e => by simp [bindTs] at e
  | .lc _ _ _ _ _, ws, ρ, ρ', e => by simp [bindTs] at e
  | .new _, ws, ρ, ρ', e => by simp [bindTs] at e
  | .frz _, ws, ρ, ρ', e => by simp [bindTs] at e
  | .itE _, ws, ρ, ρ', e => by simp [bindTs] at e
  | .itR _, ws, ρ, ρ', e => by simp [bindTs] at e
  | .itN _, ws, ρ, ρ', e => by simp [bindTs] at e
  | .itZ _ _, ws, ρ, ρ', e => by simp [bindTs] at e
  | .tn _, ws, ρ, ρ', e => by simp [bindTs] at e
  | .tt _, ws, ρ, ρ', e => by simp [bindTs] at e
  | .asg _ _, ws, ρ, ρ', e => by simp [bindTs] at e
  | .asgLc _ _, ws, ρ, ρ', e => by simp [bindTs] at e
  | .par2 _ _ _ _, ws, ρ, ρ', e => by simp [bindTs] at e
  | .aug _ _ _, ws, ρ, ρ', e => by simp [bindTs] at e
  | .setix _ _ _, ws, ρ, ρ', e => by simp [bindTs] at e
  | .ex _, ws, ρ, ρ', e => by simp [bindTs] at e
  | .ret _, ws, ρ, ρ', e => by simp [bindTs] at e
  | .retN, ws, ρ, ρ', e => by simp [bindTs] at e
  | .ift _ _ _, ws, ρ, ρ', e => by simp [bindTs] at e
  | .for_ _ _ _, ws, ρ, ρ', e => by simp [bindTs] at e
  | .wh _ _ _, ws, ρ, ρ', e => by simp [bindTs] at e
  | .rais _, ws, ρ, ρ', e => by simp [bindTs] at e
  | .raisF _ _ _, ws, ρ, ρ', e => by simp [bindTs] at e
  | .brk, ws, ρ, ρ', e => by simp [bindTs] at e
  | .cnt, ws, ρ, ρ', e => by simp [bindTs] at e
  | .pss, ws, ρ, ρ', e => by simp [bindTs] at e
  | .nev, ws, ρ, ρ', e => by simp [bindTs] at e
  | .fld _ _ _, ws, ρ, ρ', e => by simp [bindTs] at e
  | .isK _ _, ws, ρ, ρ', e => by simp [bindTs] at e
  | .tryK _ _ _ _, ws, ρ, ρ', e => by simp [bindTs] at e
  | .snil, ws, ρ, ρ', e => by simp [bindTs] at e
  | .scons _ _, ws, ρ, ρ', e => by simp [bindTs] at e
theorem wrs_of : ∀ {ds : List PyData} {vs : List V}, Rps K F vs ds → WRs K F A (ds.map .d) vs
  | [], _, h => by cases h; trivial
  | d :: ds, _, h => by
    cases h with
    | cons h1 h2 => exact ⟨h1, wrs_of h2⟩
/-- a tuple or a list, taken apart -/
def gSeq (K : PySem.W.Frag) (n : Nat) (t : TGs) : TG := fun v σ H Q => gTup K n t v σ H Q ∨ L2.gLst K n t v σ H Q
theorem eg_tt {u : TGs} {a : M} (h : EvGs K u a) : EvG K (gSeq K (cntG a) u) (.tt a) := by
  intro σ F A S H g w v ρ ρ' rr r e Q q
  unfold bindT at e
  split at e
  · rename_i xs
    cases r with
    | tup h1 h2 =>
      have l := bindTs_len e
      rw [List.length_map] at l
      exact .inl ⟨_, _, rfl, g.ex.t h1, by rw [h2.length, l], h σ F A S H g _ _ ρ ρ' rr (wrs_of h2) e Q fun σ' r' w' => q σ' r' fun vs hv => w' vs fun i hi => hv i (by simpa [tgS] using hi)⟩
  · rename_i xs
    cases r with
    | lst h1 h2 =>
      have l := bindTs_len e
      rw [List.length_map] at l
      exact .inr ⟨_, _, rfl, g.ex.l h1, by rw [h2.length, l], h σ F A S H g _ _ ρ ρ' rr (wrs_of h2) e Q fun σ' r' w' => q σ' r' fun vs hv => w' vs fun i hi => hv i (by simpa [tgS] using hi)⟩
  · cases e
theorem bindT_len : ∀ {tg : M} {w : W} {ρ ρ' : Rho}, bindT S tg w ρ = some ρ' → True := fun _ => trivial

/-! ### sources -/
/-- the iterator gives the items, while the list stands -/
def ItR (K : PySem.W.Frag) (F0 : Hp) (A0 : List Addr) (J : It) (src : Src) : Prop :=
  ∀ F A S H, Ex F0 F → (∃ B, A = A0 ++ B) → Good K F A S H → guard src.g S = true →
    (∀ (i : Nat) (w : W), src.xs[i]? = some w → J.go i H ∧ ∀ x H', J.yld i H x H' → ∃ F', Stp F A H F' A H' ∧ Good K F' A S H' ∧ WR K F' A w x) ∧ ∀ i, src.xs.length ≤ i → J.stop i H
def EvI (K : PySem.W.Frag) (mg : Str → Option Value) (Wx : WX) (wi : TI) (ρ : Rho) (S : Sto) (r : R Src) : Prop := ∀ σ F A H, Good K F A S H → RhoR K F A ρ σ → ∀ R : It → Hp → Prop,
  (match r with
    | .ok src S' => ∀ J F' A' H', Stp F A H F' A' H' → Good K F' A' S' H' → ItR K F' A' J src → R J H'
    | .exc x S' => ∀ cls d F' A' H', Stp F A H F' A' H' → Good K F' A' S' H' → XR K mg F' H' x cls d → Wx cls d σ H'
    | .err => False) → wi σ H R
theorem itR_list {a : Addr} {vs : List V} {xs : List PyData} (h : SqL K F a vs) (r : Rps K F vs xs) : ItR K F A (Itl K a) ⟨xs.map .d, none⟩ := by
  intro F1 A1 S1 H1 e _ g _
  have hr : SqL K H1 a vs := g.ex.l (e.l h)
  refine ⟨fun i w hw => ?_, fun i hi => ⟨vs, hr, by rw [r.length]; simpa using hi⟩⟩
  rw [List.getElem?_map] at hw
  cases q : xs[i]? with
  | none => rw [q] at hw; cases hw
  | some d =>
    rw [q] at hw
    cases hw
    obtain ⟨v, e1, e2⟩ := (Rps.mono e r).get q
    refine ⟨⟨vs, v, hr, e1⟩, fun x H' y => ?_⟩
    obtain ⟨rfl, y⟩ := y
    have := y vs hr
    rw [e1] at this
    cases this
    exact ⟨F1, Stp.refl, g, e2⟩
theorem itR_tup {a : Addr} {vs : List V} {xs : List PyData} (h : SqT K F a vs) (r : Rps K F vs xs) : ItR K F A (Itt K a) ⟨xs.map .d, none⟩ := by
  intro F1 A1 S1 H1 e _ g _
  have hr : SqT K H1 a vs := g.ex.t (e.t h)
  refine ⟨fun i w hw => ?_, fun i hi => ⟨vs, hr, by rw [r.length]; simpa using hi⟩⟩
  rw [List.getElem?_map] at hw
  cases q : xs[i]? with
  | none => rw [q] at hw; cases hw
  | some d =>
    rw [q] at hw
    cases hw
    obtain ⟨v, e1, e2⟩ := (Rps.mono e r).get q
    refine ⟨⟨vs, v, hr, e1⟩, fun x H' y => ?_⟩
    obtain ⟨rfl, y⟩ := y
    have := y vs hr
    rw [e1] at this
    cases this
    exact ⟨F1, Stp.refl, g, e2⟩
theorem itR_str {x : Str} : ItR K F A (Its x) ⟨x.cps.toList.map fun c => .d (.str ⟨#[c]⟩), none⟩ := by
  intro F1 A1 S1 H1 e _ g _
  refine ⟨fun i w hw => ?_, fun i hi => ?_⟩
  · rw [List.getElem?_map] at hw
    cases q : x.cps.toList[i]? with
    | none => rw [q] at hw; cases hw
    | some c =>
      rw [q] at hw
      cases hw
      have hi := (List.getElem?_eq_some_iff.mp q).1
      refine ⟨by show i < x.cps.size; simpa using hi, fun v H' y => ?_⟩
      obtain ⟨rfl, c', e1, rfl⟩ := y
      have e2 : x.cps.toList[i]? = some c' := by simpa using e1
      rw [q] at e2
      cases e2
      exact ⟨F1, Stp.refl, g, .str _⟩
  · show x.cps.size ≤ i
    simpa using hi
theorem guard_some {p : Nat} {xs : List PyData} {S : Sto} (h : guard (some (p, xs)) S = true) : S[p]? = some (.lst xs) := by
  have h' : (match S[p]? with | some (.lst ys) => peqs ys xs | _ => false) = true := h
  split at h'
  · rename_i ys e
    rw [e, peqs_eq h']
  · cases h'
theorem itR_ptr {p : Nat} {a : Addr} {xs : List PyData} (ha : A[p]? = some a) : ItR K F A (Itl K a) ⟨xs.map .d, some (p, xs)⟩ := by
  intro F1 A1 S1 H1 e hA g hg
  have ha1 : A1[p]? = some a := by
    obtain ⟨B, e'⟩ := hA
    rw [e', List.getElem?_append_left (List.getElem?_eq_some_iff.mp ha).1]
    exact ha
  obtain ⟨_, vs, h1, r⟩ := g.ob p a _ ha1 (guard_some hg)
  have hr : SqL K H1 a vs := .inl (.inl h1)
  refine ⟨fun i w hw => ?_, fun i hi => ⟨vs, hr, by rw [r.length]; simpa using hi⟩⟩
  rw [List.getElem?_map] at hw
  cases q : xs[i]? with
  | none => rw [q] at hw; cases hw
  | some d =>
    rw [q] at hw
    cases hw
    obtain ⟨v, e1, e2⟩ := r.get q
    refine ⟨⟨vs, v, hr, e1⟩, fun x H' y => ?_⟩
    obtain ⟨rfl, y⟩ := y
    have := y vs hr
    rw [e1] at this
    cases this
    exact ⟨F1, Stp.refl, g, e2⟩
theorem itR_rng {lo : Int} {n : Nat} : ItR K F A (Itr lo n) ⟨rngL lo n, none⟩ := by
  intro F1 A1 S1 H1 e hA g hg
  refine ⟨fun i w hw => ?_, fun i hi => ?_⟩
  · unfold rngL at hw
    have hw' : ((List.range n).map fun i => W.d (.int (lo + (i : Nat))))[i]? = some w := hw
    rw [List.getElem?_map] at hw'
    cases q : (List.range n)[i]? with
    | none => rw [q] at hw'; cases hw'
    | some j =>
      rw [q] at hw'
      cases hw'
      obtain ⟨h1, h2⟩ := List.getElem?_eq_some_iff.mp q
      rw [List.getElem_range] at h2
      subst h2
      refine ⟨by show i < n; simpa using h1, fun x H' y => ?_⟩
      obtain ⟨rfl, rfl⟩ := y
      exact ⟨F1, Stp.refl, g, .int _⟩
  · show n ≤ i
    simpa [rngL] using hi
theorem enumL_get : ∀ (k : Nat) (xs : List PyData) (i : Nat) (w : W), (enumL k xs)[i]? = some w → ∃ x, xs[i]? = some x ∧ w = .d (.tuple [.int ((k + i : Nat) : Int), x])
  | k, [], i, w, h => by simp [enumL] at h
  | k, x :: xs, 0, w, h => by
    simp [enumL] at h
    exact ⟨x, rfl, h.symm⟩
  | k, x :: xs, i + 1, w, h => by
    obtain ⟨y, e1, e2⟩ := enumL_get (k + 1) xs i w (by simpa [enumL] using h)
    refine ⟨y, by simpa using e1, ?_⟩
    rw [e2, show k + 1 + i = k + (i + 1) by omega]
theorem enumL_len : ∀ (k : Nat) (xs : List PyData), (enumL k xs).length = xs.length
  | k, [] => rfl
  | k, x :: xs => congrArg Nat.succ (enumL_len (k + 1) xs)
theorem itR_enum_core {a : Addr} {xs : List PyData} {g0 : Option (Nat × List PyData)} (hs : ∀ F1 A1 S1 H1, Ex F F1 → (∃ B, A1 = A ++ B) → Good K F1 A1 S1 H1 → guard g0 S1 = true → ∃ vs, SqL K H1 a vs ∧ Rps K F1 vs xs) :
    ItR K F A (Ite K a) ⟨enumL 0 xs, g0⟩ := by
  intro F1 A1 S1 H1 e hA g hg
  obtain ⟨vs, hr, r⟩ := hs F1 A1 S1 H1 e hA g hg
  refine ⟨fun i w hw => ?_, fun i hi => ⟨vs, hr, by rw [r.length]; simpa [enumL_len] using hi⟩⟩
  obtain ⟨d, q, rfl⟩ := enumL_get 0 xs i w hw
  obtain ⟨v, e1, e2⟩ := r.get q
  refine ⟨⟨vs, v, hr, e1⟩, fun x H' y => ?_⟩
  obtain ⟨T, z, rfl, hT, rfl, y⟩ := y
  have := y vs hr
  rw [e1] at this
  cases this
  obtain ⟨s, g'⟩ := g.laid (o := .tup [.int (i : Nat), v]) hT
  refine ⟨_, s, g', (show Rp K _ _ _ from .tup (.inl (.inl upd_same)) (.cons ?_ (.cons (Rp.mono s.exF e2) .nil)))⟩
  rw [Nat.zero_add]
  exact .int _
theorem itR_enum {a : Addr} {vs : List V} {xs : List PyData} (h : SqL K F a vs) (r : Rps K F vs xs) : ItR K F A (Ite K a) ⟨enumL 0 xs, none⟩ :=
  itR_enum_core fun F1 A1 S1 H1 e _ g _ => ⟨vs, g.ex.l (e.l h), Rps.mono e r⟩
theorem itR_enumP {p : Nat} {a : Addr} {xs : List PyData} (ha : A[p]? = some a) : ItR K F A (Ite K a) ⟨enumL 0 xs, some (p, xs)⟩ :=
  itR_enum_core fun F1 A1 S1 H1 e hA g hg => by
    have ha1 : A1[p]? = some a := by
      obtain ⟨B, e'⟩ := hA
      rw [e', List.getElem?_append_left (List.getElem?_eq_some_iff.mp ha).1]
      exact ha
    obtain ⟨_, vs, h1, r⟩ := g.ob p a _ ha1 (guard_some hg)
    exact ⟨vs, .inl (.inl h1), r⟩
theorem zipL_get : ∀ (xs ys : List PyData) (i : Nat) (w : W), (zipL xs ys)[i]? = some w → ∃ x y, xs[i]? = some x ∧ ys[i]? = some y ∧ w = .d (.tuple [x, y])
  | [], ys, i, w, h => by simp [zipL] at h
  | x :: xs, [], i, w, h => by simp [zipL] at h
  | x :: xs, y :: ys, 0, w, h => by
    simp [zipL] at h
    exact ⟨x, y, rfl, rfl, h.symm⟩
  | x :: xs, y :: ys, i + 1, w, h => by
    obtain ⟨a, b, e1, e2, e3⟩ := zipL_get xs ys i w (by simpa [zipL] using h)
    exact ⟨a, b, by simpa using e1, by simpa using e2, e3⟩
theorem zipL_len : ∀ (xs ys : List PyData) (i : Nat), (zipL xs ys).length ≤ i → xs.length ≤ i ∨ ys.length ≤ i
  | [], ys, i, h => .inl (Nat.zero_le _)
  | x :: xs, [], i, h => .inr (Nat.zero_le _)
  | x :: xs, y :: ys, 0, h => by simp [zipL] at h
  | x :: xs, y :: ys, i + 1, h => by
    rcases zipL_len xs ys i (by simpa [zipL] using h) with z | z
    · exact .inl (by simpa using z)
    · exact .inr (by simpa using z)
theorem itR_zip {a b : Addr} {vs us : List V} {xs ys : List PyData} (h : SqL K F a vs) (r : Rps K F vs xs) (h' : SqL K F b us) (r' : Rps K F us ys) : ItR K F A (Itz K a b) ⟨zipL xs ys, none⟩ := by
  intro F1 A1 S1 H1 e _ g _
  have hr : SqL K H1 a vs := g.ex.l (e.l h)
  have hr' : SqL K H1 b us := g.ex.l (e.l h')
  refine ⟨fun i w hw => ?_, fun i hi => ⟨vs, us, hr, hr', ?_⟩⟩
  · obtain ⟨d, f, q, q', rfl⟩ := zipL_get xs ys i w hw
    obtain ⟨v, e1, e2⟩ := (Rps.mono e r).get q
    obtain ⟨u, e3, e4⟩ := (Rps.mono e r').get q'
    refine ⟨⟨vs, us, v, u, hr, hr', e1, e3⟩, fun x H' y => ?_⟩
    obtain ⟨T, z, z', rfl, hT, rfl, y1, y2⟩ := y
    have := y1 vs hr
    rw [e1] at this
    cases this
    have := y2 us hr'
    rw [e3] at this
    cases this
    obtain ⟨s, g'⟩ := g.laid (o := .tup [v, u]) hT
    exact ⟨_, s, g', (show Rp K _ _ _ from .tup (.inl (.inl upd_same)) (.cons (Rp.mono s.exF e2) (.cons (Rp.mono s.exF e4) .nil)))⟩
  · rw [r.length, r'.length]
    exact zipL_len xs ys i hi
variable {ta tb te : TE} {tl : TA} {a b e : M}
theorem Post.bindI {α β : Type} {Rel : Hp → List Addr → α → β → Prop} {r : R α} {k : α → Sto → R Src} {R : It → Hp → Prop} {Q1 : β → Hp → Prop}
    (p : (match r.bind k with
      | .ok src S' => ∀ J F' A' H', Stp F A H F' A' H' → Good K F' A' S' H' → ItR K F' A' J src → R J H'
      | .exc x S' => ∀ cls d F' A' H', Stp F A H F' A' H' → Good K F' A' S' H' → XR K mg F' H' x cls d → Wx cls d σ H'
      | .err => False))
    (h : ∀ a S' b F' A' H', Stp F A H F' A' H' → Good K F' A' S' H' → Rel F' A' a b → (match k a S' with
      | .ok src S' => ∀ J F'' A'' H'', Stp F' A' H' F'' A'' H'' → Good K F'' A'' S' H'' → ItR K F'' A'' J src → R J H''
      | .exc x S' => ∀ cls d F'' A'' H'', Stp F' A' H' F'' A'' H'' → Good K F'' A'' S' H'' → XR K mg F'' H'' x cls d → Wx cls d σ H''
      | .err => False) → Q1 b H') : Post K mg Wx σ Rel F A H r Q1 := by
  cases r with
  | ok a S' =>
    intro b F2 A2 H2 s g rel
    refine h a S' b F2 A2 H2 s g rel ?_
    have p' : (match k a S' with
      | .ok src S' => ∀ J F' A' H', Stp F A H F' A' H' → Good K F' A' S' H' → ItR K F' A' J src → R J H'
      | .exc x S' => ∀ cls d F' A' H', Stp F A H F' A' H' → Good K F' A' S' H' → XR K mg F' H' x cls d → Wx cls d σ H'
      | .err => False) := p
    cases q : k a S' with
    | ok src S2 =>
      rw [q] at p'
      exact fun J F3 A3 H3 s3 g3 i => p' J F3 A3 H3 (s.trans s3) g3 i
    | exc x S2 =>
      rw [q] at p'
      exact fun cls d F3 A3 H3 s3 g3 x => p' cls d F3 A3 H3 (s.trans s3) g3 x
    | err => rw [q] at p'; exact p'
  | exc x S' => exact p
  | err => exact p
/-- a list, a tuple, a text -/
def iAny (K : PySem.W.Frag) (te : TE) : TI := fun σ H R => iList K te σ H R ∨ iTup K te σ H R ∨ iStr te σ H R
end
end Mi

/-! MiH: what a loop walks, comprehensions. -/
namespace Mi
open PySem PySem.Spec PyProof.Rows L2

/-- what must follow a source -/
def PostI (K : PySem.W.Frag) (mg : Str → Option Value) (Wx : WX) (σ : L2.St) (F : Hp) (A : List Addr) (H : Hp) (r : R Src) (R : It → Hp → Prop) : Prop := match r with
  | .ok src S' => ∀ J F' A' H', Stp F A H F' A' H' → Good K F' A' S' H' → ItR K F' A' J src → R J H'
  | .exc x S' => ∀ cls d F' A' H', Stp F A H F' A' H' → Good K F' A' S' H' → XR K mg F' H' x cls d → Wx cls d σ H'
  | .err => False
section
variable {K : PySem.W.Frag} {mg : Str → Option Value} {Wx : WX} {σ : L2.St} {F F' : Hp} {A A' : List Addr} {H H' : Hp} {ρ : Rho} {S : Sto} {Φ : Phi} {α β : Type} {Rel : Hp → List Addr → α → β → Prop}
theorem PostI.step {r : R Src} {Q : It → Hp → Prop} (s : Stp F A H F' A' H') (p : PostI K mg Wx σ F A H r Q) : PostI K mg Wx σ F' A' H' r Q := by
  cases r with
  | ok a S' => exact fun b F2 A2 H2 s2 g rel => p b F2 A2 H2 (s.trans s2) g rel
  | exc x S' => exact fun cls d F2 A2 H2 s2 g x => p cls d F2 A2 H2 (s.trans s2) g x
  | err => exact p
theorem PostI.bind {r : R α} {k : α → Sto → R Src} {Q : It → Hp → Prop} {Q1 : β → Hp → Prop} (p : PostI K mg Wx σ F A H (r.bind k) Q)
    (h : ∀ a S' b F' A' H', r = .ok a S' → Stp F A H F' A' H' → Good K F' A' S' H' → Rel F' A' a b → PostI K mg Wx σ F' A' H' (k a S') Q → Q1 b H') : Post K mg Wx σ Rel F A H r Q1 := by
  cases r with
  | ok a S' => exact fun b F2 A2 H2 s g rel => h a S' b F2 A2 H2 rfl s g rel (PostI.step s p)
  | exc x S' => exact p
  | err => exact p
theorem PostI.ofO {o : Option Src} {Q : It → Hp → Prop} (p : PostI K mg Wx σ F A H (R.ofO o S) Q) : ∃ w, o = some w ∧ ∀ J F' A' H', Stp F A H F' A' H' → Good K F' A' S H' → ItR K F' A' J w → Q J H' := by
  cases o with
  | none => exact p.elim
  | some w => exact ⟨w, rfl, fun z F2 A2 H2 s g rel => p z F2 A2 H2 s g rel⟩
def EvJ (K : PySem.W.Frag) (mg : Str → Option Value) (Wx : WX) (wi : TI) (ρ : Rho) (S : Sto) (r : R Src) : Prop := ∀ σ F A H, Good K F A S H → RhoR K F A ρ σ → ∀ R : It → Hp → Prop, PostI K mg Wx σ F A H r R → wi σ H R
variable {ta tb te : TE} {tl : TA} {a b e : M}
theorem ej_any (ha : ∀ ρ S, EvE K mg Wx ta ρ S (evE Φ a ρ S)) : EvJ K mg Wx (fun σ H R => ta σ H fun v H1 => (∃ a xs, v = .ref a ∧ SqL K H1 a xs ∧ R (Itl K a) H1) ∨ (∃ a xs, v = .ref a ∧ SqT K H1 a xs ∧ R (Itt K a) H1) ∨ ∃ x, v = .str x ∧ R (Its x) H1) ρ S (evI Φ (.itE a) ρ S) := by
  intro σ F A H g rr Q p
  unfold evI at p
  refine ha ρ S σ F A H g rr _ (p.bind fun x S1 v F1 A1 H1 _ s1 g1 rx p1 => ?_)
  obtain ⟨src, e, k⟩ := p1.ofO
  unfold srcW at e
  split at e
  · cases e
    cases rx
    exact .inr (.inr ⟨_, rfl, k _ F1 A1 H1 Stp.refl g1 itR_str⟩)
  · cases e
    cases rx with
    | lst h1 h2 => exact .inl ⟨_, _, rfl, g1.ex.l h1, k _ F1 A1 H1 Stp.refl g1 (itR_list h1 h2)⟩
  · cases e
    cases rx with
    | tup h1 h2 => exact .inr (.inl ⟨_, _, rfl, g1.ex.t h1, k _ F1 A1 H1 Stp.refl g1 (itR_tup h1 h2)⟩)
  · obtain ⟨q, eq, rfl⟩ := rx
    split at e
    · rename_i p xs e2
      cases e
      obtain ⟨_, vs, h1, _⟩ := g1.ob _ _ _ eq e2
      exact .inl ⟨_, vs, rfl, .inl (.inl h1), k _ F1 A1 H1 Stp.refl g1 (itR_ptr eq)⟩
    · cases e
  · cases e
theorem rng_of {i : Int} (h : rngOk i = true) : -(2 ^ 62) ≤ i ∧ i < 2 ^ 62 := by
  unfold rngOk at h
  rw [Bool.and_eq_true, decide_eq_true_eq, decide_eq_true_eq] at h
  exact h
theorem ea_len : ∀ {a : M} {ρ : Rho} {S : Sto} {ws : List W} {S' : Sto}, evA Φ a ρ S = .ok ws S' → ws.length = cntA a := by
  intro a
  induction a with
  | anil =>
    intro ρ S ws S' h
    unfold evA at h
    cases h
    rfl
  | acons x r _ ih =>
    intro ρ S ws S' h
    unfold evA at h
    cases e1 : evE Φ x ρ S with
    | ok w S1 =>
      rw [e1] at h
      cases e2 : evA Φ r ρ S1 with
      | ok us S2 =>
        have h' : (evA Φ r ρ S1).bind (fun xs S2 => .ok (w :: xs) S2) = R.ok ws S' := h
        rw [e2] at h'
        cases h'
        exact congrArg Nat.succ (ih e2)
      | exc _ _ =>
        have h' : (evA Φ r ρ S1).bind (fun xs S2 => .ok (w :: xs) S2) = R.ok ws S' := h
        rw [e2] at h'
        cases h'
      | err =>
        have h' : (evA Φ r ρ S1).bind (fun xs S2 => .ok (w :: xs) S2) = R.ok ws S' := h
        rw [e2] at h'
        cases h'
    | exc _ _ => rw [e1] at h; cases h
    | err => rw [e1] at h; cases h
  | _ =>
    intro ρ S ws S' h
    unfold evA at h
    cases h
theorem srcR_1 {ws : List W} {src : Src} (e : srcR ws = some src) (l : ws.length = 1) : ∃ j, ws = [.d (.int j)] ∧ rngOk j = true ∧ src = ⟨rngL 0 j.toNat, none⟩ := by
  unfold srcR at e
  split at e
  · split at e
    · rename_i j h
      cases e
      exact ⟨_, rfl, h, rfl⟩
    · cases e
  · cases l
  · cases e
theorem srcR_2 {ws : List W} {src : Src} (e : srcR ws = some src) (l : ws.length = 2) : ∃ i j, ws = [.d (.int i), .d (.int j)] ∧ rngOk i = true ∧ rngOk j = true ∧ src = ⟨rngL i (j - i).toNat, none⟩ := by
  unfold srcR at e
  split at e
  · cases l
  · split at e
    · rename_i h
      cases e
      rw [Bool.and_eq_true] at h
      exact ⟨_, _, rfl, h.1, h.2, rfl⟩
    · cases e
  · cases e
theorem ej_rng1 (hl : ∀ ρ S, EvA K mg Wx tl ρ S (evA Φ a ρ S)) (hn : cntA a = 1) : EvJ K mg Wx (iRng1 tl) ρ S (evI Φ (.itR a) ρ S) := by
  intro σ F A H g rr Q p
  unfold evI at p
  refine hl ρ S σ F A H g rr _ (p.bind fun ws S1 vs F1 A1 H1 e1 s1 g1 rs p1 => ?_)
  obtain ⟨src, e, k⟩ := p1.ofO
  obtain ⟨j, rfl, hj, rfl⟩ := srcR_1 e ((ea_len e1).trans hn)
  cases vs with
  | nil => exact rs.elim
  | cons v vs =>
    cases vs with
    | cons _ _ => exact rs.2.elim
    | nil =>
      obtain ⟨r1, _⟩ := rs
      cases r1
      exact ⟨j, rfl, (rng_of hj).1, (rng_of hj).2, k _ F1 A1 H1 Stp.refl g1 itR_rng⟩
theorem ej_rng2 (hl : ∀ ρ S, EvA K mg Wx tl ρ S (evA Φ a ρ S)) (hn : cntA a = 2) : EvJ K mg Wx (iRng2 tl) ρ S (evI Φ (.itR a) ρ S) := by
  intro σ F A H g rr Q p
  unfold evI at p
  refine hl ρ S σ F A H g rr _ (p.bind fun ws S1 vs F1 A1 H1 e1 s1 g1 rs p1 => ?_)
  obtain ⟨src, e, k⟩ := p1.ofO
  obtain ⟨i, j, rfl, hi, hj, rfl⟩ := srcR_2 e ((ea_len e1).trans hn)
  cases vs with
  | nil => exact rs.elim
  | cons v vs =>
    cases vs with
    | nil => exact rs.2.elim
    | cons u us =>
      cases us with
      | cons _ _ => exact rs.2.2.elim
      | nil =>
        obtain ⟨r1, r2, _⟩ := rs
        cases r1
        cases r2
        exact ⟨i, j, rfl, ⟨(rng_of hi).1, (rng_of hi).2, (rng_of hj).1, (rng_of hj).2⟩, k _ F1 A1 H1 Stp.refl g1 itR_rng⟩
theorem ej_enum (ha : ∀ ρ S, EvE K mg Wx ta ρ S (evE Φ a ρ S)) : EvJ K mg Wx (iEnum K (tCons ta tNil)) ρ S (evI Φ (.itN a) ρ S) := by
  intro σ F A H g rr Q p
  unfold evI at p
  refine ha ρ S σ F A H g rr _ (p.bind fun x S1 v F1 A1 H1 _ s1 g1 rx p1 => ?_)
  obtain ⟨src, e, k⟩ := p1.ofO
  unfold srcN at e
  split at e
  · cases e
    cases rx with
    | lst h1 h2 => exact ⟨_, _, rfl, g1.ex.l h1, k _ F1 A1 H1 Stp.refl g1 (itR_enum h1 h2)⟩
  · obtain ⟨q, eq, rfl⟩ := rx
    split at e
    · rename_i p xs e2
      cases e
      obtain ⟨_, vs, h1, _⟩ := g1.ob _ _ _ eq e2
      exact ⟨_, vs, rfl, .inl (.inl h1), k _ F1 A1 H1 Stp.refl g1 (itR_enumP eq)⟩
    · cases e
  · cases e
theorem ej_zip (ha : ∀ ρ S, EvE K mg Wx ta ρ S (evE Φ a ρ S)) (hb : ∀ ρ S, EvE K mg Wx tb ρ S (evE Φ b ρ S)) : EvJ K mg Wx (iZip K (tCons ta (tCons tb tNil))) ρ S (evI Φ (.itZ a b) ρ S) := by
  intro σ F A H g rr Q p
  unfold evI at p
  refine ha ρ S σ F A H g rr _ (p.bind fun x S1 v F1 A1 H1 _ s1 g1 rx p1 => ?_)
  refine hb ρ S1 σ F1 A1 H1 g1 (rr.mono s1) _ (p1.bind fun y S2 u F2 A2 H2 _ s2 g2 ry p2 => ?_)
  split at p2
  · cases rx with
    | lst h1 h2 =>
      cases ry with
      | lst h3 h4 =>
        exact ⟨_, _, _, _, rfl, g2.ex.l (s2.exF.l h1), g2.ex.l h3, p2 _ F2 A2 H2 Stp.refl g2 (itR_zip (s2.exF.l h1) (Rps.mono s2.exF h2) h3 h4)⟩
  · exact p2.elim

/-! ### a list that is being made, beside -/
theorem Good.addD {D : Addr} {o : HO} (g : Good K F A S H) (h : H D = none) : Good K F A S (upd H D o) := by
  have hF : F D = none := by
    cases q : F D with
    | none => rfl
    | some u => rw [g.ex D u q] at h; cases h
  have hA : ∀ a ∈ A, a ≠ D := fun a ha e => g.inH a ha (e ▸ h)
  refine ⟨g.len, g.nd, fun b u e => ?_, fun a ha => ?_, fun q a mo e1 e2 => ?_⟩
  · rw [upd_ne (ne_of_none e hF)]
    exact g.ex b u e
  · rw [upd_ne (hA a ha)]
    exact g.inH a ha
  · have ha := hA a (List.mem_of_getElem? e1)
    have m := g.ob q a mo e1 e2
    cases mo with
    | dead => trivial
    | lst xs =>
      obtain ⟨m1, vs, m2, m3⟩ := m
      exact ⟨m1, vs, by rw [upd_ne ha]; exact m2, m3⟩
theorem Stp.subD {D : Addr} {o : HO} {A0 : List Addr} (g0 : Good K F A S H) (h : H D = none) (s : Stp F A (upd H D o) F' A' H') {S' : Sto} (g : Good K F' A' S' H') :
    ∃ Hm, H' = upd Hm D o ∧ Hm D = none ∧ Stp F A H F' A' Hm ∧ Good K F' A' S' Hm := by
  have hF : F D = none := by
    cases q : F D with
    | none => rfl
    | some u => rw [g0.ex D u q] at h; cases h
  have hA : D ∉ A := fun e => g0.inH D e h
  have hA' : D ∉ A' := fun e => by
    rcases s.nA D e with z | z
    · exact hA z
    · rw [upd_same] at z; cases z
  have hF' : F' D = none := by
    cases q : F' D with
    | none => rfl
    | some u =>
      rcases s.nF D hF (by rw [q]; simp) with z | z
      · exact absurd z hA
      · rw [upd_same] at z; cases z
  have hD : H' D = some o := s.fr D o upd_same hA
  refine ⟨fun b => if b = D then none else H' b, ?_, if_pos rfl, ⟨s.exF, s.exA, fun b u e hn => ?_, fun b hb => ?_, fun b hb => ?_, fun b h1 h2 => ?_⟩, ⟨g.len, g.nd, fun b u e => ?_, fun a ha => ?_, fun q a mo e1 e2 => ?_⟩⟩
  · funext b
    unfold upd
    split
    · rename_i z; rw [z, hD]
    · rename_i z; exact (if_neg z).symm
  · have hb : b ≠ D := fun z => by rw [z, h] at e; cases e
    show (if b = D then none else H' b) = _
    rw [if_neg hb]
    exact s.fr b u (by rw [upd_ne hb]; exact e) hn
  · have hb' : b ≠ D := fun z => hb (by rw [z, h])
    show (if b = D then none else H' b) ≠ _
    rw [if_neg hb']
    exact s.kp b (by rw [upd_ne hb']; exact hb)
  · rcases s.nA b hb with z | z
    · exact .inl z
    · have hb' : b ≠ D := fun q => hA' (q ▸ hb)
      rw [upd_ne hb'] at z
      exact .inr z
  · rcases s.nF b h1 h2 with z | z
    · exact .inl z
    · have hb' : b ≠ D := fun q => by rw [q, upd_same] at z; cases z
      rw [upd_ne hb'] at z
      exact .inr z
  · have hb' : b ≠ D := fun q => by rw [q, hF'] at e; cases e
    show (if b = D then none else H' b) = _
    rw [if_neg hb']
    exact g.ex b u e
  · have hb' : a ≠ D := fun q => hA' (q ▸ ha)
    show (if a = D then none else H' a) ≠ _
    rw [if_neg hb']
    exact g.inH a ha
  · have hb' : a ≠ D := fun q => hA' (q ▸ List.mem_of_getElem? e1)
    have m := g.ob q a mo e1 e2
    cases mo with
    | dead => trivial
    | lst xs =>
      obtain ⟨m1, vs, m2, m3⟩ := m
      exact ⟨m1, vs, by show (if a = D then none else H' a) = _; rw [if_neg hb']; exact m2, m3⟩
theorem PostN.step {r : R W} {Q : VK} (s : Stp F A H F' A' H') (p : PostN K mg Wx σ F A H r Q) : PostN K mg Wx σ F' A' H' r Q := by
  cases r with
  | ok w S' => exact ThenN.step s p
  | exc x S' => exact fun cls d F2 A2 H2 s2 g x => p cls d F2 A2 H2 (s.trans s2) g x
  | err => exact p
def NoX : WX := fun _ _ _ _ => False
theorem ev_lc {wi : TI} {g : TG} {tt : TT} {own : List Nat} {tg it ts e : M} (hi : ∀ ρ S, EvJ K mg Wx wi ρ S (evI Φ it ρ S)) (hg : EvG K g tg) (ho : ∀ i ∈ tgS tg, i ∈ own)
    (ht : ∀ ρ S, EvT K mg NoX tt ρ S (evT Φ ts ρ S)) (he : ∀ ρ S, EvE K mg NoX te ρ S (evE Φ e ρ S)) : EvN K mg Wx (tLc wi g tt te own) ρ S (evE Φ (.lc own tg it ts e) ρ S) := by
  intro σ F A H gd rr Q p
  unfold evE at p
  refine hi ρ S σ F A H gd rr _ ?_
  cases ei : evI Φ it ρ S with
  | err => rw [ei] at p; exact p
  | exc x S' => rw [ei] at p; exact p
  | ok src S1 =>
    rw [ei] at p
    have p' : PostN K mg Wx σ F A H (lcGo src.g (fun x S2 => bindT S2 tg x (wipeR ρ own)) (fun ρ' S2 => evT Φ ts ρ' S2) (fun ρ' S2 => evE Φ e ρ' S2) src.xs S1 []) Q := p
    clear p
    intro J F1 A1 H1 s1 g1 ij D hD
    generalize hbt : (fun x S2 => bindT S2 tg x (wipeR ρ own)) = bt at p'
    generalize htst : (fun ρ' S2 => evT Φ ts ρ' S2) = tst at p'
    generalize hel : (fun ρ' S2 => evE Φ e ρ' S2) = el at p'
    refine ⟨fun i m Hh => ∃ F2 A2 S2 Hm acc ds, Hh = upd Hm D (.lst acc) ∧ Hm D = none ∧ Good K F2 A2 S2 Hm ∧ Stp F1 A1 H1 F2 A2 Hm ∧ Rps K F2 acc ds ∧ m + i = src.xs.length ∧ PostN K mg Wx σ F A H (lcGo src.g bt tst el (src.xs.drop i) S2 ds) Q,
      ⟨src.xs.length, F1, A1, S1, H1, [], [], rfl, hD, g1, Stp.refl, .nil, rfl, p'⟩, ?_⟩
    rintro i m Hh ⟨F2, A2, S2, Hm, acc, ds, rfl, hm, g2, s2, ra, hmi, p2⟩
    have s02 := s1.trans s2
    have rr2 := rr.mono s02
    have gD := g2.addD (o := .lst acc) hm
    cases hd : src.xs.drop i with
    | nil =>
      rw [hd] at p2
      have hi : src.xs.length ≤ i := List.drop_eq_nil_iff.mp hd
      unfold lcGo at p2
      split at p2
      · rename_i hgd
        refine .inl ⟨(ij F2 A2 S2 _ s2.exF s2.exA gD hgd).2 i hi, ?_⟩
        exact ThenN.lst (ThenN.step s02 p2) g2 ra hm
      · exact p2.elim
    | cons x xs =>
      rw [hd] at p2
      have hx : src.xs[i]? = some x := by
        have := congrArg (fun l => l[0]?) hd
        simpa using this
      have hdr : src.xs.drop (i + 1) = xs := by
        have h1 : (src.xs.drop i).drop 1 = xs := by rw [hd]; rfl
        rw [List.drop_drop] at h1
        exact h1
      have hil : i < src.xs.length := (List.getElem?_eq_some_iff.mp hx).1
      unfold lcGo at p2
      split at p2
      case isFalse => exact p2.elim
      rename_i hgd
      obtain ⟨jg, jy⟩ := (ij F2 A2 S2 _ s2.exF s2.exA gD hgd).1 i x hx
      refine .inr ⟨jg, fun H' => ∃ m', m' < m ∧ ∃ F2 A2 S2 Hm acc ds, H' = upd Hm D (.lst acc) ∧ Hm D = none ∧ Good K F2 A2 S2 Hm ∧ Stp F1 A1 H1 F2 A2 Hm ∧ Rps K F2 acc ds ∧ m' + (i + 1) = src.xs.length ∧ PostN K mg Wx σ F A H (lcGo src.g bt tst el (src.xs.drop (i + 1)) S2 ds) Q, fun H' h => h, fun v H3 hy => ?_⟩
      obtain ⟨F3, s3, g3, rv⟩ := jy v H3 hy
      obtain ⟨Hm3, rfl, hm3, s3', g3'⟩ := Stp.subD (A0 := []) g2 hm s3 g3
      split at p2
      case h_2 => exact p2.elim
      rename_i ρ1 hb
      rw [← hbt] at hb
      refine hg _ F3 A2 S2 _ g3 x v (wipeR ρ own) ρ1 (RhoR.wipe own (rr2.mono s3)) rv hb _ fun σ2 rr4 wp => ⟨?_, ?_⟩
      · rw [wp own ho, wipe_wipe own own fun _ h => h]
      refine ht ρ1 S2 σ2 F3 A2 _ g3 rr4 _ ?_
      have htst' : evT Φ ts ρ1 S2 = tst ρ1 S2 := by rw [← htst]
      rw [htst']
      cases et : tst ρ1 S2 with
      | err => rw [et] at p2; exact p2.elim
      | exc _ _ => rw [et] at p2; exact p2.elim
      | ok c S4 =>
        rw [et] at p2
        intro c' F4 A4 H4 s4 g4 rc
        cases rc
        obtain ⟨Hm4, rfl, hm4, s4', g4'⟩ := Stp.subD (A0 := []) g3' hm3 s4 g4
        cases c with
        | false =>
          rw [if_neg Bool.false_ne_true]
          exact ⟨m - 1, by omega, F4, A4, S4, Hm4, acc, ds, rfl, hm4, g4', s2.trans (s3'.trans s4'), Rps.mono (s3'.exF.trans s4'.exF) ra, by omega, by rw [hdr]; exact p2⟩
        | true =>
          rw [if_pos rfl]
          have hel' : evE Φ e ρ1 S4 = el ρ1 S4 := by rw [← hel]
          refine he ρ1 S4 σ2 F4 A4 _ g4 (rr4.mono s4) _ ?_
          rw [hel']
          have p3 : PostN K mg Wx σ F A H (match el ρ1 S4 with
            | .ok (.d v) S2 => if ds.length < lim then lcGo src.g bt tst el xs S2 (ds ++ [v]) else .err
            | _ => .err) Q := p2
          cases ee : el ρ1 S4 with
          | err => rw [ee] at p3; exact p3.elim
          | exc _ _ => rw [ee] at p3; exact p3.elim
          | ok w S5 =>
            rw [ee] at p3
            cases w with
            | ptr _ => exact p3.elim
            | exn _ => exact p3.elim
            | d y =>
              intro z F5 A5 H5 s5 g5 rz
              obtain ⟨Hm5, rfl, hm5, s5', g5'⟩ := Stp.subD (A0 := []) g4' hm4 s5 g5
              have p4 : PostN K mg Wx σ F A H (if ds.length < lim then lcGo src.g bt tst el xs S5 (ds ++ [y]) else .err) Q := p3
              split at p4
              case isFalse => exact p4.elim
              rename_i hl
              refine ⟨acc, upd_same, lim_line_lt (by rw [ra.length]; exact hl), m - 1, by omega, F5, A5, S5, Hm5, acc ++ [z], ds ++ [y], upd_upd, hm5, g5', s2.trans (s3'.trans (s4'.trans s5')), (Rps.mono (s3'.exF.trans (s4'.exF.trans s5'.exF)) ra).append (.cons rz .nil), by omega, by rw [hdr]; exact p4⟩
end
end Mi

/-! MiX2: isinstance of a kept exception, its field. -/
namespace Mi
open PySem PySem.Spec PySem.W PySem.Calls PyProof.Rows
section
variable {prog : Program} {w : World} {A : Around} {E : Value → Shared → Prop} {s : Shared} {K : Frag} {x D : Addr} {ox : Obj} {od : Option Obj}
theorem fo_cls (C : L2.ExcC K D) : findObj K D od "__class__" = some (.bind (.builtin "getset_descriptor.__get__") (.builtin "object.__class__")) := by
  have hc : (clsIn K D).isSome = true := by
    obtain ⟨cd, q, _⟩ := any_some C.hd
    rw [q]; rfl
  cases od with
  | none => exact findObj_dataN hc C.ha C.hn C.ht
  | some o => exact findObj_data hc C.ha C.hn C.ht
/-- x.__class__ of an exception object -/
theorem cls_of_exc {Q : Option Value → Shared → Prop} (C : L2.ExcC K D) (X : K.In s.heap) (I : InstAt s.heap x ox D od) (h : Q (some (.ref D)) { s with toks := s.toks + 1 }) : wpAny (model prog w) A (getAttr? (.ref x) "__class__") Q E s := by
  have hf := fo_cls (od := od) C
  obtain ⟨hp, g, dr, tk, os⟩ := s
  have LT := I.type (M := model prog w)
  have LG := looks_findIn (M := model prog w) X C.hg
  have LN := looks_findIn (M := model prog w) X C.hk
  have LF := looks_find (M := model prog w) X I hf
  have isB : Looks (model prog w) hp (isInstance (.ref x) (.type "BaseException")) true := LT.andThen (looks_subIn X C.hs)
  have f0 : (false && onTheHeap (Value.builtin "BaseException.__getattribute__")) = false := rfl
  have f1 : (onTheHeap (Value.ref D) && Value.builtin "BaseException.__getattribute__" == Value.builtin "object.__getattribute__") = false := by
    have q : (Value.builtin "BaseException.__getattribute__" == Value.builtin "object.__getattribute__") = false := by decide +kernel
    rw [q]; rfl
  unfold getAttr?; unfold getAttrBy?; unfold getAttrBy
  refine wpAny_bind (wpAny_mkText (wpAny_bind (wpAny_attempt (wpAny_holding (wpAny_bind (LT.at (wpAny_bind (LG.at ?_))))))))
  show wpAny _ _ (if (onTheHeap (Value.ref D) && Value.builtin "BaseException.__getattribute__" == Value.builtin "object.__getattribute__") = true then _ else _) _ _ ⟨hp, g, dr, _, os⟩
  rw [f1]; rw [if_neg Bool.false_ne_true]
  unfold getAttrByItsOwn; unfold hookBefore
  refine wpAny_bind ?_; rw [if_pos (show onTheHeap (Value.ref D) = true from rfl)]
  refine LN.at (wpAny_bind (wpAny_attempt (wpAny_holding ?_)))
  unfold callGetattribute; rw [f0]; rw [if_neg Bool.false_ne_true]
  unfold boundAndCalled; rw [PySem.F.excAttr_ValueError.ga.bind (.ref x)]
  refine wpAny_bind (wpAny_pure ?_)
  show wpAny _ _ (call (.builtin "BaseException.__getattribute__") [.ref x, .str "__class__" tk]) _ _ _
  refine wpAny_call (codeAny_call_builtin PySem.F.excAttr_ValueError.ga.plain PySem.F.entry_bexc_ga (@check_slot (model prog w) _ _ ⟨hp, g, dr, tk + 1, os⟩ "BaseException.__getattribute__" "BaseException" "__getattribute__" (.ref x) [.str "__class__" tk] [] _ (by decide +kernel) (by decide +kernel) isB (PySem.F.args_bexc_ga (.ref x) (.str "__class__" tk)) ?_))
  unfold Builtin.«object.__getattribute__»
  refine wpAny_bind (wpAny_of_eq (a := ((Value.ref x : Value), [Value.str "__class__" tk])) (by first | rfl | (simp only [slotArgs]; rfl)) (wpAny_bind (wpAny_pure (wpAny_bind (LT.at (wpAny_bind (LF.at ?_)))))))
  show wpAny _ _ (holding [Value.builtin "object.__class__"] (call (.builtin "getset_descriptor.__get__") [.builtin "object.__class__", .ref x, .ref D]) >>= ret) _ _ ⟨hp, g, dr, tk + 1, os⟩
  refine wpAny_bind (wpAny_holding (wpAny_call (class_get (s := ⟨hp, g, dr, tk + 1, os⟩) (ox := ox) (od := od) X I C.hm (wpAny_pure ?_))))
  show wpAny _ _ (handedOut (.ref D)) _ _ ⟨hp, g, dr, tk + 1, os⟩
  rw [handedOut_of (v := .ref D) rfl]
  first
    | exact wpAny_pure (wpAny_pure h)
    | exact wpAny_pure h
    | exact wpAny_pure (wpAny_bind (wpAny_pure (wpAny_pure h)))
theorem kitx_exc (C : L2.ExcC K D) : KitX K (.ref x) (.ref D) (fun h => InstAt h x ox D od) where
  ty := fun _ _ _ I => I.type
  it := fun _ _ X _ => by
    obtain ⟨cdD, q, _⟩ := any_some C.hd
    unfold clsIn at q
    split at q
    · rename_i ho
      intro A1 Q1 E1 s1 k1 q1
      unfold isType; unfold loadHead
      exact wpAny_bind (wpAny_loadPart (k1 _ _ (X _ _ ho)) (wpAny_pure q1))
    · cases q
  ne := fun h tp dd its n sl X htp => by
    obtain ⟨cdD, q, _⟩ := any_some C.hd
    refine Bool.eq_false_iff.mpr fun z => ?_
    have e : D = tp := Value.ref.inj (beq_iff_eq.mp z)
    subst e
    unfold clsIn at q
    split at q
    · rename_i ho
      cases (X _ _ ho).symm.trans htp
    · cases q
  ca := fun X I k => cls_of_exc C X I k
end
end Mi
namespace Mi
open PySem PySem.Spec PyProof.Rows L2
/-- isinstance(e, c), e a kept exception of the class at D -/
def rIsK (K : PySem.W.Frag) : List V → Hp → VK → Prop := fun xs H Q => ∃ (a D : Addr) (d : Option Addr) (c : V) (cv : Value) (b : Bool), xs = [.ref a, c] ∧ H a = some (ExK (.ref D) d a) ∧ (∀ dx, d = some dx → ∃ fs, H dx = some (.xd fs)) ∧ ExcC K D ∧ (∀ u, RelV c u → u = cv) ∧ PySem.W.kitOne K (.ref D) cv = some b ∧ Q (.bl b) H
/-- isinstance(e, (c1, c2, ..)) -/
def rIsKT (K : PySem.W.Frag) : List V → Hp → VK → Prop := fun xs H Q => ∃ (a D tp : Addr) (d : Option Addr) (cs : List V) (us : List Value) (b : Bool), xs = [.ref a, .ref tp] ∧ H tp = some (.tup cs) ∧ Paired ClsV cs us ∧ H a = some (ExK (.ref D) d a) ∧ (∀ dx, d = some dx → ∃ fs, H dx = some (.xd fs)) ∧ ExcC K D ∧ PySem.W.kitAny K (.ref D) us = some b ∧ Q (.bl b) H
section
variable {X : Cx}
theorem inst_of {P : Program} {w : World} {H : Hp} {h : Heap} {a D : Addr} {d : Option Addr} (hok : HOk P w H h) (ha : H a = some (ExK (.ref D) d a)) (hd : ∀ dx, d = some dx → ∃ fs, H dx = some (.xd fs)) :
    ∃ ox od, PySem.W.InstAt h a ox D od ∧ (∀ dx, d = some dx → ∃ o, od = some o ∧ h.get? dx = some o) ∧ ∃ vs, ox.data = .fields vs := by
  obtain ⟨⟨oe, vs, e1, ⟨z1, z2⟩, e3⟩, _⟩ := hok a _ ha
  obtain ⟨oc, odd, oda, osl⟩ := oe
  dsimp only at z1 z2 e3
  subst z1 z2 e3
  cases odd with
  | none => exact ⟨_, none, ⟨e1, rfl, rfl, trivial⟩, fun dx q => (by cases q), _, rfl⟩
  | some dx =>
    obtain ⟨fs, q⟩ := hd dx rfl
    obtain ⟨mA, hns, _⟩ := hok dx _ q
    obtain ⟨od, ho, _⟩ := lookIn_ns hns
    exact ⟨_, some od, ⟨e1, rfl, rfl, ho⟩, fun dx' z => (by cases z; exact ⟨od, rfl, ho⟩), _, rfl⟩
theorem call_isK : CallR X (.builtin "isinstance") (rIsK X.K) := by
  intro pins s σ H xs us Q I r h
  obtain ⟨a, D, d, c, cv, b, rfl, ha, hd, C, hcv, e, q⟩ := h
  obtain ⟨u1, u2, rfl, r1, r2⟩ := vals2 r
  cases (show u1 = Value.ref a from r1)
  cases hcv _ r2
  obtain ⟨ox, od, J, _, _⟩ := inst_of I.hok ha hd
  exact PySem.W.kia_one (kitx_exc C) I.kIn J e (fun z => nomatch z) fun tk => ⟨.bl b, H, I.tok tk, rfl, q⟩
theorem call_isKT : CallR X (.builtin "isinstance") (rIsKT X.K) := by
  intro pins s σ H xs us Q I r h
  obtain ⟨a, D, tp, d, cs, ws, b, rfl, hT, k, ha, hd, C, e, q⟩ := h
  obtain ⟨u1, u2, rfl, r1, r2⟩ := vals2 r
  cases (show u2 = Value.ref tp from r2)
  cases (show u1 = Value.ref a from r1)
  obtain ⟨ox, od, J, _, _⟩ := inst_of I.hok ha hd
  obtain ⟨_, its, rv, ⟨oc, odd, dt, sl⟩, h1, h2, n, h3⟩ := (show ObjOk X.prog X.w H s.heap tp (.tup cs) from I.hok tp _ hT)
  have e3 := ClsV.all k rv
  subst e3
  simp only at h2 h3
  subst h2 h3
  exact PySem.W.kia_tup (kitx_exc C) I.kIn J h1 e (fun z => nomatch z) fun tk => ⟨.bl b, H, I.tok tk, rfl, q⟩
/-- e.f, e a kept exception -/
def tXk (K : PySem.W.Frag) (f : Str) (te : TE) : TE := fun σ H Q => te σ H fun x H1 => ∃ (a D dd : Addr) (fs : List (Str × V)) (v : V), x = .ref a ∧ H1 a = some (ExK (.ref D) (some dd) a) ∧ H1 dd = some (.xd fs) ∧ XfC K D ∧ PySem.W.findIn K (.ref D) f = some none ∧ fs.lookup f = some v ∧ Q v H1
theorem pe_xk {e : Expr} {te : TE} {pos : Pos} {f : Str} (he : PE X e te) (hb : attributeBase e f X.env (eval e X.env) = eval e X.env) : PE X (.Attribute e f pos) (tXk X.K f te) := by
  refine ⟨fun pl s0 τ G Q J hyp => ?_⟩
  refine attr_of hb (thn (he.run pl s0 τ G _ J hyp) fun u s1 got => ?_)
  obtain ⟨x, G1, J1, rx, a, D, dd, fs, v, rfl, ea, ed, T, hno, l, q⟩ := got
  cases (show u = Value.ref a from rx)
  obtain ⟨mA, hns, hr⟩ := (show ObjOk X.prog X.w G1 s1.heap dd (.xd fs) from J1.hok dd _ ed)
  obtain ⟨oD, hoD, hlk⟩ := lookIn_ns hns
  obtain ⟨z, hz, rz⟩ := RelO.some_of (v := v) (o := mA f) (by rw [← l]; exact hr f)
  obtain ⟨⟨oe, vs, e1, ⟨z1, z2⟩, e3⟩, _⟩ := J1.hok a _ ea
  have inst : PySem.W.InstAt s1.heap a oe D (some oD) := ⟨e1, z1, by unfold PySem.W.notCls; rw [e3], by rw [z2]; exact hoD⟩
  exact HandSPX.exc_get J1.kIn inst T.ga T.gg T.exC (PySem.W.findObj_own T.hdC hno rfl (by rw [hlk, hz])) (handed_of rz) ⟨v, G1, J1.tok _, rz, q⟩
end
end Mi

/-! MiI: the context, what a def promises, calls. -/
namespace Mi
open PySem PySem.Spec PyProof.Rows L2

/-- a default, as a value -/
def dV : PyData → V
  | .none => .non
  | .bool b => .bl b
  | .int i => .int i
  | .str s => .str s
  | _ => .non
def dOk : PyData → Bool
  | .none => true
  | .bool _ => true
  | .int _ => true
  | .str _ => true
  | _ => false
/-- a def's promise, by the interpreter -/
def spW (K : PySem.W.Frag) (mg : Str → Option Value) (fn : Fn) (g : List W → Sto → R W) : Sp := fun vs H Q E =>
  vs.length = fn.ps.length ∧ ∃ F A S ws, Good K F A S H ∧ WRs K F A ws vs ∧ Post K mg (fun cls d _ H' => E cls d H') [] (WR K) F A H (g ws S) Q
def zOk (K : PySem.W.Frag) (mg : Str → Option Value) : Cz → Prop
  | .own x => mg x = some (.ref (He.ga K x))
  | .bt n => mg (Str.ofString n) = none ∧ bootBuiltins (Str.ofString n) = some (.type n) ∧ Str.ofString n ≠ "__name__"
structure Sok (K : PySem.W.Frag) (mg : Str → Option Value) (C : Ci) (Φ : Phi) (k : Nat) (X : Cx) : Prop where
  gI : ∀ x j, (x, j) ∈ C.gI → ∃ u, X.mg x = some u ∧ RelV (.int j) u
  gS : ∀ x j, (x, j) ∈ C.gS → ∃ u, X.mg x = some u ∧ RelV (.str j) u
  gF : ∀ x ∈ C.gF, X.mg x = none
  zO : ∀ (k : Nat) (zs : List Cz), C.ks[k]? = some zs → ∀ z ∈ zs, zOk X.K X.mg z
  fns : ∀ (f : Nat) (fn : Fn), C.T[f]? = some fn → ∃ a fd, X.mg fn.name = some (.ref a) ∧ PySem.W.keepIn X.K (.ref a) = true ∧ FnOk X.prog X.w X.K X.mg X.base (L2.CX X.prog X.w) k a fd fn.ps (spW K mg fn (Φ.run f)) ∧
    ∀ j, ∃ ds, Vals ((fn.dv.drop j).map dV) ds ∧ Binds X.K fd fn.ps ds
/-- a class that is asked for, as a value -/
def Cz.v (K : PySem.W.Frag) : Cz → Value
  | .bt n => .type n
  | .own x => .ref (He.ga K x)
/-- what the interpreter has of the defs, of the classes -/
structure Tok (K : PySem.W.Frag) (C : Ci) (Φ : Phi) : Prop where
  exm : ∀ k z c b, C.ks[k]? = some [z] → Φ.kn.ask k c = some b → PySem.W.exmOne K (.ref (He.ga K c)) (z.v K) = some b
  kit : ∀ k zs c b, C.ks[k]? = some zs → Φ.kn.ask k c = some b → PySem.W.kitAny K (.ref (He.ga K c)) (zs.map (Cz.v K)) = some b ∧ ExcC K (He.ga K c)
  kit1 : ∀ k z c b, C.ks[k]? = some [z] → Φ.kn.ask k c = some b → PySem.W.kitOne K (.ref (He.ga K c)) (z.v K) = some b
  xfc : ∀ c f, (c, f) ∈ C.xf → XfC K (He.ga K c) ∧ PySem.W.findIn K (.ref (He.ga K c)) f = some none
  dv : ∀ (f : Nat) (fn : Fn), C.T[f]? = some fn → fn.dv.all dOk = true
  idem : ∀ (f : Nat) (fn : Fn) (ws : List W) (S : Sto), C.T[f]? = some fn → Φ.run f ws S = .err ∨ ((withD fn ws).length = fn.ps.length ∧ Φ.run f (withD fn ws) S = Φ.run f ws S)
structure Cok (K : PySem.W.Frag) (mg : Str → Option Value) (C : Ci) (Φ : Phi) (k : Nat) (Wx : WX) (sn : Sn) (X : Cx) : Prop where
  hK : X.K = K
  hm : X.mg = mg
  hN : X.N = C.N
  nd : C.N.Nodup
  calm : X.calm = true
  room : Room k X.A
  vis : ∀ x, isVis sn x = true → Vis X.env.scope x
  loc : ∀ x, isLoc sn x = true → Loc X.env.scope x ∧ (X.fn x = true ∨ X.env.scope.names.lookup x = some .local)
  lcl : ∀ x, isLcl sn x = true → X.env.scope.names.lookup x = some .local
  gl : ∀ x, isGl sn x = true → Gl X x
  cl : ∀ x, (sn.lookup x = some .cell ∨ sn.lookup x = some .free) → (X.env.scope.names.lookup x = some .cell ∨ X.env.scope.names.lookup x = some .free)
  tk : Takes X Wx
  st : Sok K mg C Φ k X
section
variable {K : PySem.W.Frag} {mg : Str → Option Value} {C : Ci} {Φ : Phi} {k : Nat} {Wx : WX} {sn : Sn} {X : Cx}
theorem Cok.cnd (c : Cok K mg C Φ k Wx sn X) : Cnd K X := ⟨c.hK, by have := c.room.un; omega, c.calm⟩
theorem lookup_rel_free {sc : Scope} : ∀ {names : List (Str × NameKind)} {x : Str}, names.lookup x = some .free →
    (names.map fun (n, k) => if (k == NameKind.free && sc.kind == .function && sc.names.lookup n == some .cell) then (n, NameKind.cell) else (n, k)).lookup x = some .cell ∨
    (names.map fun (n, k) => if (k == NameKind.free && sc.kind == .function && sc.names.lookup n == some .cell) then (n, NameKind.cell) else (n, k)).lookup x = some .free
  | [], _, h => by simp at h
  | (n, k₀) :: r, x, h => by
    have ih := @lookup_rel_free sc r x
    show List.lookup x ((if (k₀ == NameKind.free && sc.kind == .function && sc.names.lookup n == some .cell) = true then (n, NameKind.cell) else (n, k₀)) :: (r.map _)) = _ ∨ List.lookup x ((if (k₀ == NameKind.free && sc.kind == .function && sc.names.lookup n == some .cell) = true then (n, NameKind.cell) else (n, k₀)) :: (r.map _)) = _
    cases hx : x == n with
    | true =>
      simp only [List.lookup_cons, hx] at h
      cases h
      split
      · exact .inl (by simp only [List.lookup_cons, hx])
      · exact .inr (by simp only [List.lookup_cons, hx])
    | false =>
      simp only [List.lookup_cons, hx] at h
      split
      · simp only [List.lookup_cons, hx]; exact ih h
      · simp only [List.lookup_cons, hx]; exact ih h
theorem isLcl_eq {x : Str} (h : isLcl sn x = true) : sn.lookup x = some .local := by
  unfold isLcl at h
  split at h
  · assumption
  · cases h
theorem isLoc_eq {x : Str} (h : isLoc sn x = true) : sn.lookup x = some .local ∨ sn.lookup x = some .cell := by
  unfold isLoc at h
  split at h
  · exact .inl (by assumption)
  · exact .inr (by assumption)
  · cases h
theorem isVis_eq {x : Str} (h : isVis sn x = true) : sn.lookup x = some .local ∨ sn.lookup x = some .cell ∨ sn.lookup x = some .free := by
  unfold isVis at h
  split at h
  · exact .inl (by assumption)
  · exact .inr (.inl (by assumption))
  · exact .inr (.inr (by assumption))
  · cases h
theorem isGl_eq {x : Str} (h : isGl sn x = true) : sn.lookup x = some .globalImplicit := by
  unfold isGl at h
  split at h
  · assumption
  · cases h
theorem Cok.blk (c : Cok K mg C Φ k Wx sn X) (scope : Scope) (s : Shared) (H : Hp) (Ca : Addr) (cl : List (Str × Addr)) (fp : List Addr) : Cok K mg C Φ k NoX scope.names (X.blk s H scope (compEnvC scope cl Ca X.env) fp) where
  hK := c.hK
  hm := c.hm
  hN := c.hN
  nd := c.nd
  calm := c.calm
  room := c.room
  vis := fun x h => by
    rcases isVis_eq h with h | h | h
    · exact .inl (lookup_relS_keep (by decide) h)
    · exact .inr (.inl (lookup_relS_keep (by decide) h))
    · rcases lookup_rel_free (sc := X.env.scope) h with h | h
      · exact .inr (.inl h)
      · exact .inr (.inr h)
  loc := fun x h => by
    rcases isLoc_eq h with h | h
    · exact ⟨.inl (lookup_relS_keep (by decide) h), .inr (lookup_relS_keep (by decide) h)⟩
    · exact ⟨.inr (lookup_relS_keep (by decide) h), .inl (by show (scope.names.lookup x == some NameKind.cell) = true; rw [h]; rfl)⟩
  lcl := fun x h => lookup_relS_keep (by decide) (isLcl_eq h)
  gl := fun x h => lookup_relS_keep (by decide) (isGl_eq h)
  cl := fun x h => by
    rcases h with h | h
    · exact .inl (lookup_relS_keep (by decide) h)
    · exact lookup_rel_free (sc := X.env.scope) h
  tk := fun u s' ⟨_, _, _, _, _, _, _, _, _, _, _, _, _, _, _, _, w⟩ => w.elim
  st := ⟨c.st.gI, c.st.gS, c.st.gF, c.st.zO, c.st.fns⟩
theorem Cok.blkOk (c : Cok K mg C Φ k Wx sn X) {scope : Scope} {own : List (Str × Nat)} {a b : Bool} {l : List (Str × Nat)} {sc : Scope} (hs : sc.names = sn) (h : blkC C.N sc scope own = true) : BlkOk X.N X.env.scope scope own := by
  obtain ⟨h1, h2, h3, h4, h5⟩ := blkOk_by h
  rw [c.hN]
  refine ⟨h1, h2, h3, fun y hy e => ?_, h5⟩
  have := h4 y hy e
  rw [hs] at this
  exact c.cl _ this

/-! ### calls of defs -/
theorem wrs_dv : ∀ {ds : List PyData} {F : Hp} {A : List Addr}, ds.all dOk = true → WRs K F A (ds.map .d) (ds.map dV)
  | [], _, _, _ => trivial
  | d :: ds, F, A, h => by
    rw [List.all_cons, Bool.and_eq_true] at h
    refine ⟨?_, wrs_dv h.2⟩
    cases d with
    | none => exact .non
    | bool b => exact .bl b
    | int i => exact .int i
    | str s => exact .str s
    | list _ => cases h.1
    | tuple _ => cases h.1
    | dict _ => cases h.1
theorem WRs.append {F : Hp} {A : List Addr} : ∀ {ws us : List W} {vs xs : List V}, WRs K F A ws vs → WRs K F A us xs → WRs K F A (ws ++ us) (vs ++ xs)
  | [], _, [], _, _, h => h
  | _ :: _, _, _ :: _, _, h, h' => ⟨h.1, WRs.append h.2 h'⟩
  | [], _, _ :: _, _, h, _ => h.elim
  | _ :: _, _, [], _, h, _ => h.elim
theorem all_drop {p : PyData → Bool} {l : List PyData} (h : l.all p = true) (j : Nat) : (l.drop j).all p = true := by
  rw [List.all_eq_true] at h ⊢
  exact fun x hx => h x (List.mem_of_mem_drop hx)
theorem Post.nilσ {α β : Type} {Rel : Hp → List Addr → α → β → Prop} {σ σ' : L2.St} {F : Hp} {A : List Addr} {H : Hp} {r : R α} {Q : β → Hp → Prop} {E : XK} (p : Post K mg (fun cls d _ H' => E cls d H') σ Rel F A H r Q) : Post K mg (fun cls d _ H' => E cls d H') σ' Rel F A H r Q := by
  cases r with
  | ok a S => exact p
  | exc x S => exact p
  | err => exact p
theorem Post.wx {α β : Type} {Rel : Hp → List Addr → α → β → Prop} {σ σ' : L2.St} {F : Hp} {A : List Addr} {H : Hp} {r : R α} {Q : β → Hp → Prop} (p : Post K mg Wx σ Rel F A H r Q) : Post K mg (fun cls d _ H' => Wx cls d σ H') σ' Rel F A H r Q := by
  cases r with
  | ok a S => exact p
  | exc x S => exact p
  | err => exact p
def sCall (K : PySem.W.Frag) (mg : Str → Option Value) (fn : Fn) (g : List W → Sto → R W) (n : Nat) : Sp × List V := (spW K mg fn g, (fn.dv.drop (fn.dv.length - (fn.ps.length - n))).map dV)
theorem ev_call {f : Nat} {fn : Fn} {as : M} {tl : TA} {ρ : Rho} {S : Sto} (hf : C.T[f]? = some fn) (hdv : fn.dv.all dOk = true) (hi : ∀ ws S, Φ.run f ws S = .err ∨ ((withD fn ws).length = fn.ps.length ∧ Φ.run f (withD fn ws) S = Φ.run f ws S))
    (hl : ∀ ρ S, EvA K mg Wx tl ρ S (evA Φ as ρ S)) : EvE K mg Wx (tCallSD (spW K mg fn (Φ.run f)) ((fn.dv.drop (fn.dv.length - (fn.ps.length - cntA as))).map dV) (WE Wx) tl) ρ S (evE Φ (.call f as) ρ S) := by
  intro σ F A H g rr Q p
  unfold evE at p
  refine hl ρ S σ F A H g rr _ (p.bind fun ws S1 vs F1 A1 H1 e1 s1 g1 rs p1 => ?_)
  rcases hi ws S1 with e | ⟨e2, e3⟩
  · rw [e] at p1
    exact p1.elim
  · have hn := ea_len e1
    have hw : WRs K F1 A1 (withD fn ws) (vs ++ (fn.dv.drop (fn.dv.length - (fn.ps.length - cntA as))).map dV) := by
      unfold withD
      rw [hn]
      exact rs.append (wrs_dv (all_drop hdv _))
    refine ⟨by rw [← hw.length, e2], F1, A1, S1, withD fn ws, g1, hw, ?_⟩
    rw [e3]
    exact p1.wx
theorem pe_callSD0 {X : Cx} {CX : CXT} {k : Nat} {f : Addr} {fd : FuncData} {ps : List Str} {sp : Sp} {dvs : List V} {ds : List Value} {E : L2.St → XK} {x : Str} {p pos : Pos} (F : FnOk X.prog X.w X.K X.mg X.base CX k f fd ps sp) (hr : Room k X.A) (hg : Gl X x) (hm : X.mg x = some (.ref f)) (hk : PySem.W.keepIn X.K (.ref f) = true) (hb : Binds X.K fd ps ds) (hd : Vals dvs ds) (hx : ∀ σ, PassesAt CX X σ (E σ))
    (hdb : (x == ("__debug__" : Str)) = false := by decide) : PE X (.Call (.Name x p) [] [] pos) (tCallSD sp dvs E tNil) := by
  refine ⟨fun pins s σ H Q I h => ?_⟩
  refine wpAny_Call_Name_kw (ld_glob I hg hm ?_ hdb)
  exact PySem.W.callWith_K0 I.kIn hk (run_fnSD (us := []) F hr hb hd (hx σ) I .nil h)
/-- no star among the arguments -/
theorem star_of {e : Expr} {es : List Expr} {env : Env} (h : unst e = true) : starEach (e :: es) env = (false, eval e env) :: starEach es env := by
  cases e <;> first | rfl | cases h
theorem plain_of {env : Env} {pos : Pos} : ∀ {es : List Expr}, es.all unst = true → (backTo pos (starEach es env)).any (·.1) = false
  | [], _ => rfl
  | e :: es, h => by
    rw [List.all_cons, Bool.and_eq_true] at h
    rw [star_of h.1]
    have := plain_of (env := env) (pos := pos) h.2
    show (false || (backTo pos (starEach es env)).any (·.1)) = false
    rw [this]
    rfl
theorem plainAll_of {env : Env} {pos : Pos} : ∀ {es : List Expr}, es.all unst = true → (backTo pos (starEach es env)).all (fun x => !x.1) = true
  | [], _ => rfl
  | e :: es, h => by
    rw [List.all_cons, Bool.and_eq_true] at h
    rw [star_of h.1]
    have := plainAll_of (env := env) (pos := pos) h.2
    show (true && (backTo pos (starEach es env)).all (fun x => !x.1)) = true
    rw [this]
    rfl
theorem ckA_unst : ∀ {as : M} {es : List Expr}, ckA C as sn es = true → es.all unst = true ∧ es.length = cntA as := by
  intro as
  induction as with
  | anil =>
    intro es h
    unfold ckA at h
    cases es with
    | nil => exact ⟨rfl, rfl⟩
    | cons _ _ => cases h
  | acons a r _ ih =>
    intro es h
    unfold ckA at h
    cases es with
    | nil => cases h
    | cons e es =>
      simp only [Bool.and_eq_true] at h
      obtain ⟨h1, h2⟩ := ih h.2.2
      exact ⟨by rw [List.all_cons, h.1, h1]; rfl, congrArg Nat.succ h2⟩
  | _ => intro es h; cases h
theorem base_of {o : Expr} {name : Str} {env : Env} {whole : Sem Value} (h : notCall o = true) : attributeBase o name env whole = whole := by
  cases o <;> first | rfl | cases h
theorem fold_of {e : Expr} {env : Env} (h : notSet e = true) : ∀ x, foldedSetIterable e env x = pure x := by
  intro x
  cases e <;> first | rfl | cases h
theorem plainIx_of {b : Expr} (h : notSl b = true) : PlainIx b := by
  intro o i
  cases b <;> first | rfl | cases h
theorem behind_of {op : CmpOp} {b : Expr} (h : notSet b = true) : behindInMarks op b = false := by
  cases b <;> first | rfl | cases h
theorem last_of {op op' : CmpOp} {b c : Expr} (h : notSet c = true) : lastMarks [op, op'] [b, c] = false := behind_of h
theorem slot_mt (k : Mt) : ∃ id, Slot (mtT k) (mtName k) id ∧ typeOf (.builtin id) = pure (.type "method_descriptor") ∧ MtS K id (mt k) := by
  cases k with
  | append => exact ⟨_, slot_list_append, rfl, ms_append⟩
  | extend => exact ⟨_, F.slot_list_extend, rfl, ms_extend⟩
  | split => exact ⟨_, F.slot_str_split, rfl, ms_split⟩
  | partition => exact ⟨_, F.slot_str_partition, rfl, ms_partition⟩
  | join => exact ⟨_, F.slot_str_join, rfl, ms_join⟩
theorem attrs_mt (k : Mt) : PlainAttrs (mtT k) := by
  cases k with
  | append => exact F.plainAttrs_list
  | extend => exact F.plainAttrs_list
  | split => exact F.plainAttrs_str
  | partition => exact F.plainAttrs_str
  | join => exact F.plainAttrs_str
end
end Mi

/-! MiJ: expressions that pass the check do what the interpreter says. -/
namespace Mi
open PySem PySem.Spec PyProof.Rows L2

section
variable (K : PySem.W.Frag) (mg : Str → Option Value) (C : Ci) (Φ : Phi) (k : Nat)
def DE (Wx : WX) (sn : Sn) (e : Expr) (m : M) : Prop := ∃ t, (∀ X, Cok K mg C Φ k Wx sn X → PE X e t) ∧ ∀ ρ S, EvE K mg Wx t ρ S (evE Φ m ρ S)
def DN (Wx : WX) (sn : Sn) (e : Expr) (m : M) : Prop := ∃ t, (∀ X, Cok K mg C Φ k Wx sn X → PE X e t) ∧ ∀ ρ S, EvN K mg Wx t ρ S (evE Φ m ρ S)
def DT (Wx : WX) (sn : Sn) (e : Expr) (m : M) : Prop := ∃ t, (∀ X, Cok K mg C Φ k Wx sn X → PT X e t) ∧ ∀ ρ S, EvT K mg Wx t ρ S (tru (evE Φ m ρ S))
def DW (Wx : WX) (sn : Sn) (e : Expr) (m : M) : Prop := ∃ t, (∀ X, Cok K mg C Φ k Wx sn X → PW X e t) ∧ ∀ ρ S, EvT K mg Wx t ρ S (tru (evE Φ m ρ S))
def DA (Wx : WX) (sn : Sn) (es : List Expr) (m : M) : Prop := ∃ t, (∀ X, Cok K mg C Φ k Wx sn X → PA X es t) ∧ ∀ ρ S, EvA K mg Wx t ρ S (evA Φ m ρ S)
def DO (Wx : WX) (sn : Sn) (o : Option Expr) (m : M) : Prop := ∃ t, (∀ X, Cok K mg C Φ k Wx sn X → PO X o t) ∧ ∀ ρ S, EvO K mg Wx t ρ S (evO Φ m ρ S)
def DTs (Wx : WX) (sn : Sn) (es : List Expr) (m : M) : Prop := ∃ t, (∀ X, Cok K mg C Φ k Wx sn X → PTs X es t) ∧ ∀ ρ S, EvT K mg Wx t ρ S (evT Φ m ρ S)
def DI (Wx : WX) (sn : Sn) (tg e : Expr) (m : M) : Prop := ∃ t, (∀ X, Cok K mg C Φ k Wx sn X → PI X tg e t) ∧ ∀ ρ S, EvJ K mg Wx t ρ S (evI Φ m ρ S)
def DG (Wx : WX) (sn : Sn) (e : Expr) (m : M) : Prop := ∃ t, (∀ X, Cok K mg C Φ k Wx sn X → PG X e t) ∧ EvG K t m
def DGs (Wx : WX) (sn : Sn) (es : List Expr) (m : M) : Prop := ∃ t, (∀ X, Cok K mg C Φ k Wx sn X → PGs X es t) ∧ EvGs K t m
def isBoolE : Expr → Bool
  | .BoolOp _ _ _ => true
  | _ => false
structure Dall (m : M) : Prop where
  e : ∀ Wx sn e, ckE C m sn e = true → DE K mg C Φ k Wx sn e m
  n : ∀ Wx sn e, fresh m = true → ckE C m sn e = true → DN K mg C Φ k Wx sn e m
  t : ∀ Wx sn e, tstOk e = true → ckE C m sn e = true → DT K mg C Φ k Wx sn e m
  w : ∀ Wx sn e, isBoolE e = true → ckE C m sn e = true → DW K mg C Φ k Wx sn e m
  a : ∀ Wx sn es, ckA C m sn es = true → DA K mg C Φ k Wx sn es m
  o : ∀ Wx sn o, ckO C m sn o = true → DO K mg C Φ k Wx sn o m
  ts : ∀ Wx sn es, ckTs C m sn es = true → DTs K mg C Φ k Wx sn es m
  i : ∀ Wx sn tg e, ckI C m sn tg e = true → DI K mg C Φ k Wx sn tg e m
  g : ∀ Wx sn e, ckG C m sn e = true → DG K mg C Φ k Wx sn e m
  gs : ∀ Wx sn es, ckGs C m sn es = true → DGs K mg C Φ k Wx sn es m
end
section
variable {K : PySem.W.Frag} {mg : Str → Option Value} {C : Ci} {Φ : Phi} {k : Nat} {Wx : WX} {sn : Sn} {X : Cx}
theorem DN.de {e : Expr} {m : M} (h : DN K mg C Φ k Wx sn e m) : DE K mg C Φ k Wx sn e m := ⟨h.choose, h.choose_spec.1, fun ρ S => (h.choose_spec.2 ρ S).ev⟩
theorem DW.dt {e : Expr} {m : M} (h : DW K mg C Φ k Wx sn e m) : DT K mg C Φ k Wx sn e m := ⟨h.choose, fun X c => (h.choose_spec.1 X c).pt, h.choose_spec.2⟩
theorem isTrue_plain {e : Expr} {env : Env} (h : plainT e = true) : ∀ whole, isTrue e env whole = (do let v ← whole; standAt e.pos; holding [v] (truthy v)) := by
  intro whole
  cases e <;> first | rfl | cases h
theorem DE.dt {e : Expr} {m : M} (h : DE K mg C Φ k Wx sn e m) (hp : plainT e = true) : DT K mg C Φ k Wx sn e m :=
  ⟨tB h.choose, fun X c => pt_val (h.choose_spec.1 X c) (isTrue_plain hp), fun ρ S => ev_test h.choose_spec.2⟩
theorem okN_d {x : Str} (h : okN x = true) : (x == ("__debug__" : Str)) = false ∧ (x == ("__classdict__" : Str)) = false := by
  unfold okN at h
  simp only [Bool.and_eq_true, Bool.not_eq_true'] at h
  exact h
/-- a form that only stands as an expression -/
theorem Dall.mk1 {m : M} (he : ∀ Wx sn e, ckE C m sn e = true → DE K mg C Φ k Wx sn e m) (hn : ∀ Wx sn e, fresh m = true → ckE C m sn e = true → DN K mg C Φ k Wx sn e m)
    (ht : ∀ Wx sn e, tstOk e = true → ckE C m sn e = true → DT K mg C Φ k Wx sn e m) (hw : ∀ Wx sn e, isBoolE e = true → ckE C m sn e = true → DW K mg C Φ k Wx sn e m)
    (ha : ∀ sn es, ckA C m sn es = false) (ho : ∀ sn o, ckO C m sn o = false) (hts : ∀ sn es, ckTs C m sn es = false) (hi : ∀ sn tg e, ckI C m sn tg e = false) (hg : ∀ sn e, ckG C m sn e = false) (hgs : ∀ sn es, ckGs C m sn es = false) : Dall K mg C Φ k m where
  e := he
  n := hn
  t := ht
  w := hw
  a := fun _ _ _ h => by rw [ha] at h; cases h
  o := fun _ _ _ h => by rw [ho] at h; cases h
  ts := fun _ _ _ h => by rw [hts] at h; cases h
  i := fun _ _ _ _ h => by rw [hi] at h; cases h
  g := fun _ _ _ h => by rw [hg] at h; cases h
  gs := fun _ _ _ h => by rw [hgs] at h; cases h
/-- a form whose test is its value's truth -/
theorem Dall.mk2 {m : M} (he : ∀ Wx sn e, ckE C m sn e = true → DE K mg C Φ k Wx sn e m) (hn : ∀ Wx sn e, fresh m = true → ckE C m sn e = true → DN K mg C Φ k Wx sn e m)
    (hp : ∀ sn e, ckE C m sn e = true → plainT e = true)
    (ha : ∀ sn es, ckA C m sn es = false) (ho : ∀ sn o, ckO C m sn o = false) (hts : ∀ sn es, ckTs C m sn es = false) (hi : ∀ sn tg e, ckI C m sn tg e = false) (hg : ∀ sn e, ckG C m sn e = false) (hgs : ∀ sn es, ckGs C m sn es = false) : Dall K mg C Φ k m :=
  .mk1 he hn (fun Wx sn e _ h => (he Wx sn e h).dt (hp sn e h)) (fun Wx sn e hb h => by
    have := hp sn e h
    cases e <;> first | (cases this; done) | (cases hb; done)) ha ho hts hi hg hgs
variable {ta tb te : TE} {tl : TA}
theorem d_var (i : Nat) : Dall K mg C Φ k (.var i) := by
  refine .mk2 (fun Wx sn e h => ?_) (fun _ _ _ h => by cases h) (fun sn e h => ?_) (fun _ _ => rfl) (fun _ _ => rfl) (fun _ _ => rfl) (fun _ _ _ => rfl) (fun _ _ => rfl) (fun _ _ => rfl)
  · unfold ckE at h
    split at h
    · simp only [Bool.and_eq_true, decide_eq_true_eq] at h
      obtain ⟨h1, h2, h3⟩ := h
      exact ⟨_, fun X c => pe_var (by rw [c.hN]; exact h1) (c.vis _ h2) (okN_d h3).1 (okN_d h3).2, fun ρ S => ev_var⟩
    · cases h
  · unfold ckE at h
    split at h
    · rfl
    · cases h
theorem d_int (j : Int) : Dall K mg C Φ k (.int j) := by
  refine .mk2 (fun Wx sn e h => ?_) (fun _ _ _ h => by cases h) (fun sn e h => ?_) (fun _ _ => rfl) (fun _ _ => rfl) (fun _ _ => rfl) (fun _ _ _ => rfl) (fun _ _ => rfl) (fun _ _ => rfl)
  · unfold ckE at h
    split at h
    · simp only [decide_eq_true_eq] at h
      subst h
      exact ⟨_, fun X c => pe_int, fun ρ S => ev_const (.int _)⟩
    · cases h
  · unfold ckE at h
    split at h
    · rfl
    · cases h
theorem d_str (j : Str) : Dall K mg C Φ k (.str j) := by
  refine .mk2 (fun Wx sn e h => ?_) (fun _ _ _ h => by cases h) (fun sn e h => ?_) (fun _ _ => rfl) (fun _ _ => rfl) (fun _ _ => rfl) (fun _ _ _ => rfl) (fun _ _ => rfl) (fun _ _ => rfl)
  · unfold ckE at h
    split at h
    · simp only [decide_eq_true_eq] at h
      subst h
      exact ⟨_, fun X c => pe_str, fun ρ S => ev_const (.str _)⟩
    · cases h
  · unfold ckE at h
    split at h
    · rfl
    · cases h
theorem d_bl (j : Bool) : Dall K mg C Φ k (.bl j) := by
  refine .mk2 (fun Wx sn e h => ?_) (fun _ _ _ h => by cases h) (fun sn e h => ?_) (fun _ _ => rfl) (fun _ _ => rfl) (fun _ _ => rfl) (fun _ _ _ => rfl) (fun _ _ => rfl) (fun _ _ => rfl)
  · unfold ckE at h
    split at h
    · rw [beq_iff_eq] at h
      subst h
      exact ⟨_, fun X c => pe_bl, fun ρ S => ev_const (.bl _)⟩
    · cases h
  · unfold ckE at h
    split at h
    · rfl
    · cases h
theorem d_non : Dall K mg C Φ k .non := by
  refine .mk2 (fun Wx sn e h => ?_) (fun _ _ _ h => by cases h) (fun sn e h => ?_) (fun _ _ => rfl) (fun _ _ => rfl) (fun _ _ => rfl) (fun _ _ _ => rfl) (fun _ _ => rfl) (fun _ _ => rfl)
  · unfold ckE at h
    split at h
    · exact ⟨_, fun X c => pe_non, fun ρ S => ev_const .non⟩
    · cases h
  · unfold ckE at h
    split at h
    · rfl
    · cases h
theorem d_gi (x : Str) (j : Int) : Dall K mg C Φ k (.gi x j) := by
  refine .mk2 (fun Wx sn e h => ?_) (fun _ _ _ h => by cases h) (fun sn e h => ?_) (fun _ _ => rfl) (fun _ _ => rfl) (fun _ _ => rfl) (fun _ _ _ => rfl) (fun _ _ => rfl) (fun _ _ => rfl)
  · unfold ckE at h
    split at h
    · simp only [Bool.and_eq_true, decide_eq_true_eq] at h
      obtain ⟨h1, h2, h3, h4⟩ := h
      subst h1
      refine ⟨tC (.int j), fun X c => ?_, fun ρ S => ev_const (.int _)⟩
      obtain ⟨u, hu, hr⟩ := c.st.gI _ _ h3
      exact pe_glob (c.gl _ h2) hu hr (okN_d h4).1
    · cases h
  · unfold ckE at h
    split at h
    · rfl
    · cases h
theorem d_gs (x : Str) (j : Str) : Dall K mg C Φ k (.gs x j) := by
  refine .mk2 (fun Wx sn e h => ?_) (fun _ _ _ h => by cases h) (fun sn e h => ?_) (fun _ _ => rfl) (fun _ _ => rfl) (fun _ _ => rfl) (fun _ _ _ => rfl) (fun _ _ => rfl) (fun _ _ => rfl)
  · unfold ckE at h
    split at h
    · simp only [Bool.and_eq_true, decide_eq_true_eq] at h
      obtain ⟨h1, h2, h3, h4⟩ := h
      subst h1
      refine ⟨tC (.str j), fun X c => ?_, fun ρ S => ev_const (.str _)⟩
      obtain ⟨u, hu, hr⟩ := c.st.gS _ _ h3
      exact pe_glob (c.gl _ h2) hu hr (okN_d h4).1
    · cases h
  · unfold ckE at h
    split at h
    · rfl
    · cases h
theorem bin_ops (o : O2) {op : Operator} (h : binOf o = some op) : OpS K (binaryOp op) (o2 o) := by
  cases o <;> first
    | (cases h; exact ops_add) | (cases h; exact ops_sub) | (cases h; exact ops_mul) | (cases h; exact ops_fdiv) | (cases h; exact ops_mod) | (cases h; exact ops_pow) | cases h
theorem cmp_ops (o : O2) {op : CmpOp} (h : cmpOf o = some op) : OpS K (compareOp op) (o2 o) := by
  cases o <;> first
    | (cases h; exact ops_eq) | (cases h; exact ops_ne) | (cases h; exact ops_lt) | (cases h; exact ops_le) | (cases h; exact ops_gt) | (cases h; exact ops_ge) | (cases h; exact ops_in) | (cases h; exact ops_notin) | (cases h; exact ops_is) | (cases h; exact ops_isnot) | cases h
theorem d_o2 (o : O2) {a b : M} (ia : Dall K mg C Φ k a) (ib : Dall K mg C Φ k b) : Dall K mg C Φ k (.o2 o a b) := by
  have he : ∀ Wx sn e, ckE C (.o2 o a b) sn e = true → DE K mg C Φ k Wx sn e (.o2 o a b) := fun Wx sn e h => by
    unfold ckE at h
    split at h
    · simp only [Bool.and_eq_true] at h
      obtain ⟨h1, h2, h3⟩ := h
      have ho := bin_ops (K := K) o (isOp_eq h1)
      obtain ⟨ta, pa, ea⟩ := ia.e Wx sn _ h2
      obtain ⟨tb, pb, eb⟩ := ib.e Wx sn _ h3
      exact ⟨_, fun X c => pe_op (ho.choose_spec.1 X c.cnd) (pa X c) (pb X c), fun ρ S => ev_o2 ho ea eb⟩
    · simp only [Bool.and_eq_true] at h
      obtain ⟨h1, h0, h2, h3⟩ := h
      have ho := cmp_ops (K := K) o (isCmp_eq h1)
      obtain ⟨ta, pa, ea⟩ := ia.e Wx sn _ h2
      obtain ⟨tb, pb, eb⟩ := ib.e Wx sn _ h3
      exact ⟨_, fun X c => pe_cmpR (ho.choose_spec.1 X c.cnd) (pa X c) (pb X c) (behind_of h0), fun ρ S => ev_o2 ho ea eb⟩
    · cases h
  refine .mk1 he (fun Wx sn e hf h => ?_) (fun Wx sn e ht h => ?_) (fun Wx sn e ht h => ?_) (fun _ _ => rfl) (fun _ _ => rfl) (fun _ _ => rfl) (fun _ _ _ => rfl) (fun _ _ => rfl) (fun _ _ => rfl)
  · cases o <;> first | cases hf | skip
    unfold ckE at h
    split at h
    · simp only [Bool.and_eq_true] at h
      obtain ⟨h1, h2, h3⟩ := h
      have ho := ops_addN (K := K)
      have h1' := isOp_eq h1
      cases h1'
      obtain ⟨ta, pa, ea⟩ := ia.e Wx sn _ h2
      obtain ⟨tb, pb, eb⟩ := ib.e Wx sn _ h3
      exact ⟨_, fun X c => pe_op (ho.choose_spec.1 X c.cnd) (pa X c) (pb X c), fun ρ S => ev_addN ea eb⟩
    · simp only [Bool.and_eq_true] at h
      cases isCmp_eq h.1
    · cases h
  · have h' := h
    unfold ckE at h
    split at h
    · exact (he Wx sn _ h').dt rfl
    · simp only [Bool.and_eq_true] at h
      obtain ⟨h1, h0, h2, h3⟩ := h
      have ho := cmp_ops (K := K) o (isCmp_eq h1)
      obtain ⟨ta, pa, ea⟩ := ia.e Wx sn _ h2
      obtain ⟨tb, pb, eb⟩ := ib.e Wx sn _ h3
      exact ⟨_, fun X c => pt_cmpR (ho.choose_spec.1 X c.cnd) (pa X c) (pb X c) (behind_of h0), fun ρ S => ev_test fun ρ S => ev_o2 ho ea eb⟩
    · cases h
  · unfold ckE at h
    split at h <;> first | cases ht | cases h
theorem d_ch (o o' : O2) {a b d : M} (ia : Dall K mg C Φ k a) (ib : Dall K mg C Φ k b) (id : Dall K mg C Φ k d) : Dall K mg C Φ k (.ch o o' a b d) := by
  refine .mk1 (fun Wx sn e h => ?_) (fun _ _ _ h => by cases h) (fun Wx sn e ht h => ?_) (fun Wx sn e ht h => ?_) (fun _ _ => rfl) (fun _ _ => rfl) (fun _ _ => rfl) (fun _ _ _ => rfl) (fun _ _ => rfl) (fun _ _ => rfl)
  · unfold ckE at h
    split at h
    · simp only [Bool.and_eq_true] at h
      obtain ⟨h1, h2, h0, h3, h4, h5⟩ := h
      have ho := cmp_ops (K := K) o (isCmp_eq h1)
      have ho' := cmp_ops (K := K) o' (isCmp_eq h2)
      obtain ⟨ta, pa, ea⟩ := ia.e Wx sn _ h3
      obtain ⟨tb, pb, eb⟩ := ib.e Wx sn _ h4
      obtain ⟨td, pd, ed⟩ := id.e Wx sn _ h5
      exact ⟨_, fun X c => pe_chain (ho.choose_spec.1 X c.cnd) (ho'.choose_spec.1 X c.cnd) (pa X c) (pb X c) (pd X c) (last_of h0), fun ρ S => ev_ch ho ho' ea eb ed⟩
    · cases h
  · unfold ckE at h
    split at h
    · simp only [Bool.and_eq_true] at h
      obtain ⟨h1, h2, h0, h3, h4, h5⟩ := h
      have ho := cmp_ops (K := K) o (isCmp_eq h1)
      have ho' := cmp_ops (K := K) o' (isCmp_eq h2)
      obtain ⟨ta, pa, ea⟩ := ia.e Wx sn _ h3
      obtain ⟨tb, pb, eb⟩ := ib.e Wx sn _ h4
      obtain ⟨td, pd, ed⟩ := id.e Wx sn _ h5
      exact ⟨_, fun X c => pt_chain (ho.choose_spec.1 X c.cnd) (ho'.choose_spec.1 X c.cnd) (pa X c) (pb X c) (pd X c) (last_of h0), fun ρ S => ev_test fun ρ S => ev_ch ho ho' ea eb ed⟩
    · cases h
  · unfold ckE at h
    split at h <;> first | cases ht | cases h
theorem d_neg {a : M} (ia : Dall K mg C Φ k a) : Dall K mg C Φ k (.neg a) := by
  refine .mk1 (fun Wx sn e h => ?_) (fun _ _ _ h => by cases h) (fun Wx sn e ht h => ?_) (fun Wx sn e ht h => ?_) (fun _ _ => rfl) (fun _ _ => rfl) (fun _ _ => rfl) (fun _ _ _ => rfl) (fun _ _ => rfl) (fun _ _ => rfl)
  · unfold ckE at h
    split at h
    · obtain ⟨ta, pa, ea⟩ := ia.e Wx sn _ h
      exact ⟨_, fun X c => pe_un un_neg (pa X c), fun ρ S => ev_neg ea⟩
    · cases h
  · unfold ckE at h
    split at h <;> first | cases ht | cases h
  · unfold ckE at h
    split at h <;> first | cases ht | cases h
theorem d_not {a : M} (ia : Dall K mg C Φ k a) : Dall K mg C Φ k (.not1 a) := by
  refine .mk1 (fun Wx sn e h => ?_) (fun _ _ _ h => by cases h) (fun Wx sn e ht h => ?_) (fun Wx sn e ht h => ?_) (fun _ _ => rfl) (fun _ _ => rfl) (fun _ _ => rfl) (fun _ _ _ => rfl) (fun _ _ => rfl) (fun _ _ => rfl)
  · unfold ckE at h
    split at h
    · simp only [Bool.and_eq_true] at h
      obtain ⟨ta, pa, ea⟩ := ia.e Wx sn _ h.2
      exact ⟨_, fun X c => pe_not (pa X c), fun ρ S => ev_not ea⟩
    · cases h
  · unfold ckE at h
    split at h
    · simp only [Bool.and_eq_true] at h
      obtain ⟨ta, pa, ea⟩ := ia.t Wx sn _ h.1 h.2
      exact ⟨_, fun X c => pt_not (pa X c), fun ρ S => et_not ea⟩
    · cases h
  · unfold ckE at h
    split at h <;> first | cases ht | cases h
theorem d_and {a b : M} (ia : Dall K mg C Φ k a) (ib : Dall K mg C Φ k b) : Dall K mg C Φ k (.and2 a b) := by
  have hw : ∀ Wx sn e, isBoolE e = true → ckE C (.and2 a b) sn e = true → DW K mg C Φ k Wx sn e (.and2 a b) := fun Wx sn e _ h => by
    unfold ckE at h
    split at h
    · simp only [Bool.and_eq_true] at h
      obtain ⟨ta, pa, ea⟩ := ia.t Wx sn _ h.1.1 h.1.2
      obtain ⟨tb, pb, eb⟩ := ib.w Wx sn _ rfl h.2
      exact ⟨_, fun X c => pw_and (pa X c) (pb X c), fun ρ S => et_and ea eb⟩
    · cases h
  refine .mk1 (fun Wx sn e h => ?_) (fun _ _ _ h => by cases h) (fun Wx sn e ht h => ?_) hw (fun _ _ => rfl) (fun _ _ => rfl) (fun _ _ => rfl) (fun _ _ _ => rfl) (fun _ _ => rfl) (fun _ _ => rfl)
  · unfold ckE at h
    split at h
    · simp only [Bool.and_eq_true] at h
      obtain ⟨ta, pa, ea⟩ := ia.e Wx sn _ h.1.2
      obtain ⟨tb, pb, eb⟩ := ib.e Wx sn _ h.2
      exact ⟨_, fun X c => pe_and (pa X c) (pb X c), fun ρ S => ev_and ea eb⟩
    · cases h
  · refine (hw Wx sn e ?_ h).dt
    unfold ckE at h
    split at h
    · rfl
    · cases h
theorem d_or {a b : M} (ia : Dall K mg C Φ k a) (ib : Dall K mg C Φ k b) : Dall K mg C Φ k (.or2 a b) := by
  have hw : ∀ Wx sn e, isBoolE e = true → ckE C (.or2 a b) sn e = true → DW K mg C Φ k Wx sn e (.or2 a b) := fun Wx sn e _ h => by
    unfold ckE at h
    split at h
    · simp only [Bool.and_eq_true] at h
      obtain ⟨ta, pa, ea⟩ := ia.t Wx sn _ h.1.1 h.1.2
      obtain ⟨tb, pb, eb⟩ := ib.w Wx sn _ rfl h.2
      exact ⟨_, fun X c => pw_or (pa X c) (pb X c), fun ρ S => et_or ea eb⟩
    · cases h
  refine .mk1 (fun Wx sn e h => ?_) (fun _ _ _ h => by cases h) (fun Wx sn e ht h => ?_) hw (fun _ _ => rfl) (fun _ _ => rfl) (fun _ _ => rfl) (fun _ _ _ => rfl) (fun _ _ => rfl) (fun _ _ => rfl)
  · unfold ckE at h
    split at h
    · simp only [Bool.and_eq_true] at h
      obtain ⟨ta, pa, ea⟩ := ia.e Wx sn _ h.1.2
      obtain ⟨tb, pb, eb⟩ := ib.e Wx sn _ h.2
      exact ⟨_, fun X c => pe_or (pa X c) (pb X c), fun ρ S => ev_or ea eb⟩
    · cases h
  · refine (hw Wx sn e ?_ h).dt
    unfold ckE at h
    split at h
    · rfl
    · cases h
theorem ev_one {a : M} {ρ : Rho} {S : Sto} : evE Φ (.one a) ρ S = evE Φ a ρ S := rfl
theorem d_one {a : M} (ia : Dall K mg C Φ k a) : Dall K mg C Φ k (.one a) := by
  have hw : ∀ Wx sn e, isBoolE e = true → ckE C (.one a) sn e = true → DW K mg C Φ k Wx sn e (.one a) := fun Wx sn e _ h => by
    unfold ckE at h
    split at h
    · rename_i op x p _
      simp only [Bool.and_eq_true] at h
      obtain ⟨ta, pa, ea⟩ := ia.t Wx sn _ h.1 h.2
      cases op
      · exact ⟨_, fun X c => pw_and1 (pa X c), ea⟩
      · exact ⟨_, fun X c => pw_or1 (pa X c), ea⟩
    · cases h
  refine ⟨fun Wx sn e h => ?_, fun _ _ _ h => (by cases h), fun Wx sn e ht h => ?_, hw, fun _ _ _ h => (by cases h), fun Wx sn o h => ?_, fun Wx sn es h => ?_, fun _ _ _ _ h => (by cases h), fun _ _ _ h => (by cases h), fun _ _ _ h => (by cases h)⟩
  · unfold ckE at h
    split at h
    · simp only [Bool.and_eq_true] at h
      obtain ⟨ta, pa, ea⟩ := ia.e Wx sn _ h.2
      exact ⟨_, fun X c => pe_one (pa X c), ea⟩
    · cases h
  · refine (hw Wx sn e ?_ h).dt
    unfold ckE at h
    split at h
    · rfl
    · cases h
  · unfold ckO at h
    split at h
    · obtain ⟨ta, pa, ea⟩ := ia.e Wx sn _ h
      exact ⟨_, fun X c => po_some (pa X c), fun ρ S => eo_some ea⟩
    · cases h
  · unfold ckTs at h
    split at h
    · simp only [Bool.and_eq_true] at h
      obtain ⟨ta, pa, ea⟩ := ia.t Wx sn _ h.1 h.2
      exact ⟨_, fun X c => pts_one (pa X c), ea⟩
    · cases h
theorem d_ife {t a b : M} (it : Dall K mg C Φ k t) (ia : Dall K mg C Φ k a) (ib : Dall K mg C Φ k b) : Dall K mg C Φ k (.ife t a b) := by
  refine .mk1 (fun Wx sn e h => ?_) (fun _ _ _ h => by cases h) (fun Wx sn e ht h => ?_) (fun Wx sn e ht h => ?_) (fun _ _ => rfl) (fun _ _ => rfl) (fun _ _ => rfl) (fun _ _ _ => rfl) (fun _ _ => rfl) (fun _ _ => rfl)
  · unfold ckE at h
    split at h
    · simp only [Bool.and_eq_true] at h
      obtain ⟨tt, pt, et⟩ := it.t Wx sn _ h.1.1 h.1.2
      obtain ⟨ta, pa, ea⟩ := ia.e Wx sn _ h.2.1
      obtain ⟨tb, pb, eb⟩ := ib.e Wx sn _ h.2.2
      exact ⟨_, fun X c => pe_ifExp (pt X c) (pa X c) (pb X c), fun ρ S => ev_ife et ea eb⟩
    · cases h
  · unfold ckE at h
    split at h <;> first | cases ht | cases h
  · unfold ckE at h
    split at h <;> first | cases ht | cases h
theorem d_tup {a : M} (ia : Dall K mg C Φ k a) : Dall K mg C Φ k (.tup a) := by
  refine .mk2 (fun Wx sn e h => ?_) (fun _ _ _ h => by cases h) (fun sn e h => ?_) (fun _ _ => rfl) (fun _ _ => rfl) (fun _ _ => rfl) (fun _ _ _ => rfl) (fun _ _ => rfl) (fun _ _ => rfl)
  · unfold ckE at h
    split at h
    · obtain ⟨ta, pa, ea⟩ := ia.a Wx sn _ h
      exact ⟨_, fun X c => pe_tup (pa X c), fun ρ S => ev_tup ea⟩
    · cases h
  · unfold ckE at h
    split at h
    · rfl
    · cases h
theorem d_lst {a : M} (ia : Dall K mg C Φ k a) : Dall K mg C Φ k (.lst a) := by
  have hn : ∀ Wx sn e, ckE C (.lst a) sn e = true → DN K mg C Φ k Wx sn e (.lst a) := fun Wx sn e h => by
    unfold ckE at h
    split at h
    · obtain ⟨ta, pa, ea⟩ := ia.a Wx sn _ h
      exact ⟨_, fun X c => pe_lst (pa X c), fun ρ S => ev_lstN ea⟩
    · cases h
  refine .mk2 (fun Wx sn e h => (hn Wx sn e h).de) (fun Wx sn e _ h => hn Wx sn e h) (fun sn e h => ?_) (fun _ _ => rfl) (fun _ _ => rfl) (fun _ _ => rfl) (fun _ _ _ => rfl) (fun _ _ => rfl) (fun _ _ => rfl)
  unfold ckE at h
  split at h
  · rfl
  · cases h
theorem d_new {a : M} (ia : Dall K mg C Φ k a) : Dall K mg C Φ k (.new a) := by
  refine .mk2 (fun Wx sn e h => ?_) (fun _ _ _ h => by cases h) (fun sn e h => ?_) (fun _ _ => rfl) (fun _ _ => rfl) (fun _ _ => rfl) (fun _ _ _ => rfl) (fun _ _ => rfl) (fun _ _ => rfl)
  · unfold ckE at h
    simp only [Bool.and_eq_true] at h
    obtain ⟨ta, pa, ea⟩ := ia.n Wx sn _ h.1 h.2.2
    exact ⟨_, pa, fun ρ S => ev_new ea⟩
  · unfold ckE at h
    simp only [Bool.and_eq_true] at h
    exact h.2.1
theorem d_frz {a : M} (ia : Dall K mg C Φ k a) : Dall K mg C Φ k (.frz a) := by
  refine .mk2 (fun Wx sn e h => ?_) (fun _ _ _ h => by cases h) (fun sn e h => ?_) (fun _ _ => rfl) (fun _ _ => rfl) (fun _ _ => rfl) (fun _ _ _ => rfl) (fun _ _ => rfl) (fun _ _ => rfl)
  · unfold ckE at h
    simp only [Bool.and_eq_true] at h
    obtain ⟨ta, pa, ea⟩ := ia.e Wx sn _ h.2
    exact ⟨_, pa, fun ρ S => ev_frz ea⟩
  · unfold ckE at h
    simp only [Bool.and_eq_true] at h
    exact h.1
theorem d_anil : Dall K mg C Φ k .anil := by
  refine ⟨fun _ _ _ h => (by cases h), fun _ _ _ h => (by cases h), fun _ _ _ _ h => (by cases h), fun _ _ _ _ h => (by cases h), fun Wx sn es h => ?_, fun _ _ _ h => (by cases h), fun Wx sn es h => ?_, fun _ _ _ _ h => (by cases h), fun _ _ _ h => (by cases h), fun Wx sn es h => ?_⟩
  · unfold ckA at h
    split at h
    · exact ⟨_, fun X c => pa_nil, fun ρ S => ea_nil⟩
    · cases h
  · unfold ckTs at h
    split at h
    · exact ⟨_, fun X c => pts_nil, fun ρ S σ F A H g rr Q p => p true F A H Stp.refl g rfl⟩
    · cases h
  · unfold ckGs at h
    split at h
    · exact ⟨_, fun X c => pgs_nil, egs_nil⟩
    · cases h
theorem assignEach_cons {e : Expr} {es : List Expr} {env : Env} (h : unst e = true) : assignEach (e :: es) env = (false, assign e env) :: assignEach es env := by
  cases e <;> first | rfl | cases h
theorem d_acons {a b : M} (ia : Dall K mg C Φ k a) (ib : Dall K mg C Φ k b) : Dall K mg C Φ k (.acons a b) := by
  refine ⟨fun _ _ _ h => (by cases h), fun _ _ _ h => (by cases h), fun _ _ _ _ h => (by cases h), fun _ _ _ _ h => (by cases h), fun Wx sn es h => ?_, fun _ _ _ h => (by cases h), fun _ _ _ h => (by cases h), fun _ _ _ _ h => (by cases h), fun _ _ _ h => (by cases h), fun Wx sn es h => ?_⟩
  · unfold ckA at h
    split at h
    · simp only [Bool.and_eq_true] at h
      obtain ⟨ta, pa, ea⟩ := ia.e Wx sn _ h.2.1
      obtain ⟨tb, pb, eb⟩ := ib.a Wx sn _ h.2.2
      exact ⟨_, fun X c => pa_cons (pa X c) (pb X c) (star_of h.1), fun ρ S => ea_cons ea eb⟩
    · cases h
  · unfold ckGs at h
    split at h
    · simp only [Bool.and_eq_true] at h
      obtain ⟨ta, pa, ea⟩ := ia.g Wx sn _ h.2.1
      obtain ⟨tb, pb, eb⟩ := ib.gs Wx sn _ h.2.2
      exact ⟨_, fun X c => pgs_cons (pa X c) (pb X c) (by rw [assignEach_cons h.1]; rfl), egs_cons ea eb⟩
    · cases h
theorem d_nop : Dall K mg C Φ k .nop := by
  refine ⟨fun _ _ _ h => (by cases h), fun _ _ _ h => (by cases h), fun _ _ _ _ h => (by cases h), fun _ _ _ _ h => (by cases h), fun _ _ _ h => (by cases h), fun Wx sn o h => ?_, fun _ _ _ h => (by cases h), fun _ _ _ _ h => (by cases h), fun _ _ _ h => (by cases h), fun _ _ _ h => (by cases h)⟩
  unfold ckO at h
  split at h
  · exact ⟨_, fun X c => po_none, fun ρ S => eo_none⟩
  · cases h
theorem d_tn (i : Nat) : Dall K mg C Φ k (.tn i) := by
  refine ⟨fun _ _ _ h => (by cases h), fun _ _ _ h => (by cases h), fun _ _ _ _ h => (by cases h), fun _ _ _ _ h => (by cases h), fun _ _ _ h => (by cases h), fun _ _ _ h => (by cases h), fun _ _ _ h => (by cases h), fun _ _ _ _ h => (by cases h), fun Wx sn e h => ?_, fun _ _ _ h => (by cases h)⟩
  unfold ckG at h
  split at h
  · simp only [Bool.and_eq_true, decide_eq_true_eq] at h
    refine ⟨_, fun X c => ?_, eg_name⟩
    obtain ⟨l1, l2⟩ := c.loc _ h.2
    exact pg_name (by rw [c.hN]; exact c.nd) (by rw [c.hN]; exact h.1) l1 l2
  · cases h
theorem PG.or {e : Expr} {t u : TG} (h1 : PG X e t) (h2 : PG X e u) : PG X e (fun v σ H Q => t v σ H Q ∨ u v σ H Q) := by
  refine ⟨fun pins s σ H v u' Q I r hw => ?_⟩
  rcases hw with hw | hw
  · exact h1.run pins s σ H v u' Q I r hw
  · exact h2.run pins s σ H v u' Q I r hw
theorem assignEach_len {env : Env} : ∀ {as : M} {es : List Expr}, ckGs C as sn es = true → (assignEach es env).length = cntG as ∧ (assignEach es env).findIdx? (·.1) = none := by
  intro as
  induction as with
  | anil =>
    intro es h
    unfold ckGs at h
    cases es with
    | nil => exact ⟨rfl, rfl⟩
    | cons _ _ => cases h
  | acons a r _ ih =>
    intro es h
    unfold ckGs at h
    cases es with
    | nil => cases h
    | cons e es =>
      simp only [Bool.and_eq_true] at h
      obtain ⟨h1, h2⟩ := ih h.2.2
      rw [assignEach_cons h.1]
      refine ⟨congrArg Nat.succ h1, ?_⟩
      rw [List.findIdx?_cons, h2]
      rfl
  | _ => intro es h; cases h
theorem d_tt {a : M} (ia : Dall K mg C Φ k a) : Dall K mg C Φ k (.tt a) := by
  refine ⟨fun _ _ _ h => (by cases h), fun _ _ _ h => (by cases h), fun _ _ _ _ h => (by cases h), fun _ _ _ _ h => (by cases h), fun _ _ _ h => (by cases h), fun _ _ _ h => (by cases h), fun _ _ _ h => (by cases h), fun _ _ _ _ h => (by cases h), fun Wx sn e h => ?_, fun _ _ _ h => (by cases h)⟩
  unfold ckG at h
  split at h
  · obtain ⟨ta, pa, ea⟩ := ia.gs Wx sn _ h
    refine ⟨gSeq K (cntG a) ta, fun X c => ?_, eg_tt ea⟩
    obtain ⟨l1, l2⟩ := assignEach_len (env := X.env) h
    have hK := c.hK
    subst hK
    exact PG.or (pg_tup c.calm (pa X c) l1 l2) (pg_lst c.calm (pa X c) l1 l2)
  · cases h
theorem bi_pe (k : Bi) : ∃ f, CallS K f (bi k) ∧ ((∃ id, f = .builtin id ∧ bootBuiltins (biName k) = some (.builtin id)) ∨ ∃ id, f = .type id ∧ bootBuiltins (biName k) = some (.type id)) := by
  cases k with
  | len => exact ⟨_, cs_len, .inl ⟨_, rfl, by decide +kernel⟩⟩
  | abs => exact ⟨_, cs_abs, .inl ⟨_, rfl, by decide +kernel⟩⟩
  | max2 => exact ⟨_, cs_max, .inl ⟨_, rfl, by decide +kernel⟩⟩
  | min2 => exact ⟨_, cs_min, .inl ⟨_, rfl, by decide +kernel⟩⟩
  | str_ => exact ⟨_, cs_str, .inr ⟨_, rfl, by decide +kernel⟩⟩
  | int_ => exact ⟨_, cs_int, .inr ⟨_, rfl, by decide +kernel⟩⟩
  | tup_ => exact ⟨_, cs_tuple, .inr ⟨_, rfl, by decide +kernel⟩⟩
  | list_ => exact ⟨_, cs_list, .inr ⟨_, rfl, by decide +kernel⟩⟩
theorem bi_nm (k : Bi) : biName k ≠ "__name__" ∧ (biName k == ("__debug__" : Str)) = false := by
  cases k <;> exact ⟨by decide, by decide⟩
theorem d_bi (b : Bi) {a : M} (ia : Dall K mg C Φ k a) : Dall K mg C Φ k (.bi b a) := by
  refine .mk2 (fun Wx sn e h => ?_) (fun Wx sn e hf h => ?_) (fun sn e h => ?_) (fun _ _ => rfl) (fun _ _ => rfl) (fun _ _ => rfl) (fun _ _ _ => rfl) (fun _ _ => rfl) (fun _ _ => rfl)
  · unfold ckE at h
    split at h
    · simp only [Bool.and_eq_true, decide_eq_true_eq] at h
      obtain ⟨h1, h2, h3, h4⟩ := h
      subst h1
      obtain ⟨f, hc, hf⟩ := bi_pe (K := K) b
      obtain ⟨ta, pa, ea⟩ := ia.a Wx sn _ h4
      have hu := (ckA_unst h4).1
      rw [List.all_cons, Bool.and_eq_true] at hu
      refine ⟨tCB hc.choose ta, fun X c => ?_, fun ρ S => ev_bi hc ea⟩
      have hr := hc.choose_spec.1 X c.cnd
      rcases hf with ⟨id, rfl, hb⟩ | ⟨id, rfl, hb⟩
      · exact pe_callB hr (c.gl _ h2) (c.st.gF _ h3) hb (pa X c) (bi_nm b).1 (bi_nm b).2 (star_of hu.1) (plain_of hu.2)
      · exact pe_callTy hr (c.gl _ h2) (c.st.gF _ h3) hb (pa X c) (bi_nm b).1 (bi_nm b).2 (star_of hu.1) (plain_of hu.2)
    · cases h
  · cases b <;> first | cases hf | skip
    unfold ckE at h
    split at h
    · simp only [Bool.and_eq_true, decide_eq_true_eq] at h
      obtain ⟨h1, h2, h3, h4⟩ := h
      subst h1
      obtain ⟨ta, pa, ea⟩ := ia.a Wx sn _ h4
      have hu := (ckA_unst h4).1
      rw [List.all_cons, Bool.and_eq_true] at hu
      refine ⟨tCB (rListN K) ta, fun X c => ?_, fun ρ S => ev_listN ea⟩
      have hK := c.hK
      have hc := c.calm
      subst hK
      exact pe_callTy call_list_of (c.gl _ h2) (c.st.gF _ h3) (by decide +kernel) (pa X c) (bi_nm .list_).1 (bi_nm .list_).2 (star_of hu.1) (plain_of hu.2)
    · cases h
  · unfold ckE at h
    split at h
    · rfl
    · cases h
theorem boot_isi (t : String) (h : isiOk t = true) : bootBuiltins (Str.ofString t) = some (.type t) ∧ Str.ofString t ≠ "__name__" ∧ (Str.ofString t == ("__debug__" : Str)) = false := by
  have h' : ∀ t ∈ ["int", "bool", "str", "list", "tuple"], bootBuiltins (Str.ofString t) = some (.type t) ∧ Str.ofString t ≠ "__name__" ∧ (Str.ofString t == ("__debug__" : Str)) = false := by decide +kernel
  exact h' t (by unfold isiOk at h; simpa using h)
theorem d_isi (t : String) {a : M} (ia : Dall K mg C Φ k a) : Dall K mg C Φ k (.isi t a) := by
  refine .mk2 (fun Wx sn e h => ?_) (fun _ _ _ h => by cases h) (fun sn e h => ?_) (fun _ _ => rfl) (fun _ _ => rfl) (fun _ _ => rfl) (fun _ _ _ => rfl) (fun _ _ => rfl) (fun _ _ => rfl)
  · unfold ckE at h
    split at h
    · simp only [Bool.and_eq_true, decide_eq_true_eq] at h
      obtain ⟨h1, h2, h3, h4, h5, h6, h7, h8, h9⟩ := h
      subst h1 h4
      obtain ⟨ta, pa, ea⟩ := ia.e Wx sn _ h9
      obtain ⟨b1, b2, b3⟩ := boot_isi t h7
      refine ⟨_, fun X c => ?_, fun ρ S => ev_isi ea⟩
      have hK := c.hK
      subst hK
      exact pe_callB call_isi (c.gl _ h2) (c.st.gF _ h3) (by decide +kernel) (pa_cons (pa X c) (pa_cons (pe_bltn (c.gl _ h5) (c.st.gF _ h6) b1 rfl b2 b3) pa_nil) (star_of h8)) (by decide) (by decide) (star_of h8) rfl
    · cases h
  · unfold ckE at h
    split at h
    · rfl
    · cases h
theorem kwall : True := trivial
theorem d_mt (b : Mt) {a as : M} (ia : Dall K mg C Φ k a) (ias : Dall K mg C Φ k as) : Dall K mg C Φ k (.mt b a as) := by
  refine .mk2 (fun Wx sn e h => ?_) (fun _ _ _ h => by cases h) (fun sn e h => ?_) (fun _ _ => rfl) (fun _ _ => rfl) (fun _ _ => rfl) (fun _ _ _ => rfl) (fun _ _ => rfl) (fun _ _ => rfl)
  · unfold ckE at h
    split at h
    · simp only [Bool.and_eq_true, decide_eq_true_eq] at h
      obtain ⟨h1, h2, h3, h4, h5, h6⟩ := h
      subst h1
      obtain ⟨ta, pa, ea⟩ := ia.e Wx sn _ h5
      obtain ⟨tl, pl, el⟩ := ias.a Wx sn _ h6
      obtain ⟨id, sl, ty, hm⟩ := slot_mt (K := K) b
      have hu := (ckA_unst h6).1
      have hu' := hu
      rw [List.all_cons, Bool.and_eq_true] at hu
      refine ⟨_, fun X c => ?_, fun ρ S => ev_mt hm ea el⟩
      have hr := hm.choose_spec.1 X c.cnd
      have hK := c.hK
      subst hK
      refine pe_bm (attrs_mt b) sl ty hr (pa X c) (pl X c) (base_of h2) ?_ h3 (star_of hu.1) (plain_of hu.2)
      rw [plainAll_of hu']
      simp only [List.length_cons, List.length_nil, List.isEmpty_nil, if_true, Bool.true_and]
      show (true && decide _) = true
      rw [Bool.true_and, decide_eq_true_eq]
      omega
    · cases h
  · unfold ckE at h
    split at h
    · rfl
    · cases h
theorem d_ix {a b : M} (ia : Dall K mg C Φ k a) (ib : Dall K mg C Φ k b) : Dall K mg C Φ k (.ix a b) := by
  refine .mk2 (fun Wx sn e h => ?_) (fun _ _ _ h => by cases h) (fun sn e h => ?_) (fun _ _ => rfl) (fun _ _ => rfl) (fun _ _ => rfl) (fun _ _ _ => rfl) (fun _ _ => rfl) (fun _ _ => rfl)
  · unfold ckE at h
    split at h
    · simp only [Bool.and_eq_true] at h
      obtain ⟨ta, pa, ea⟩ := ia.e Wx sn _ h.2.1
      obtain ⟨tb, pb, eb⟩ := ib.e Wx sn _ h.2.2
      exact ⟨_, fun X c => L2.pe_ix (ixs.choose_spec.1 X c.cnd) (pa X c) (pb X c) (plainIx_of h.1), fun ρ S => ev_ix ea eb⟩
    · cases h
  · unfold ckE at h
    split at h
    · rfl
    · cases h
theorem d_sl {a lo hi : M} (ia : Dall K mg C Φ k a) (il : Dall K mg C Φ k lo) (ih : Dall K mg C Φ k hi) : Dall K mg C Φ k (.sl a lo hi) := by
  have hn : ∀ Wx sn e, ckE C (.sl a lo hi) sn e = true → DN K mg C Φ k Wx sn e (.sl a lo hi) := fun Wx sn e h => by
    unfold ckE at h
    split at h
    · simp only [Bool.and_eq_true] at h
      obtain ⟨ta, pa, ea⟩ := ia.e Wx sn _ h.1
      obtain ⟨tb, pb, eb⟩ := il.o Wx sn _ h.2.1
      obtain ⟨tc, pc, ec⟩ := ih.o Wx sn _ h.2.2
      exact ⟨_, fun X c => pe_slice (sls_N.choose_spec.1 X c.cnd) (pa X c) (pb X c) (pc X c), fun ρ S => ev_slN ea eb ec⟩
    · cases h
  refine .mk2 (fun Wx sn e h => (hn Wx sn e h).de) (fun Wx sn e _ h => hn Wx sn e h) (fun sn e h => ?_) (fun _ _ => rfl) (fun _ _ => rfl) (fun _ _ => rfl) (fun _ _ _ => rfl) (fun _ _ => rfl) (fun _ _ => rfl)
  unfold ckE at h
  split at h
  · rfl
  · cases h
theorem d_call (hT : Tok K C Φ) (f : Nat) {as : M} (ia : Dall K mg C Φ k as) : Dall K mg C Φ k (.call f as) := by
  refine .mk2 (fun Wx sn e h => ?_) (fun _ _ _ h => by cases h) (fun sn e h => ?_) (fun _ _ => rfl) (fun _ _ => rfl) (fun _ _ => rfl) (fun _ _ _ => rfl) (fun _ _ => rfl) (fun _ _ => rfl)
  · unfold ckE at h
    split at h
    · split at h
      · rename_i fn hfn
        simp only [Bool.and_eq_true, decide_eq_true_eq] at h
        obtain ⟨h1, h2, h3, h4, h5, h6⟩ := h
        subst h1
        have hu := (ckA_unst h6).1
        rename_i x p0 es p1 _
        cases es with
        | nil =>
          have : as = .anil := by
            cases as <;> first | rfl | cases h6
          subst this
          refine ⟨_, fun X c => ?_, fun ρ S => ev_call hfn (hT.dv f fn hfn) (fun ws S => hT.idem f fn ws S hfn) fun ρ S => ea_nil⟩
          obtain ⟨ad, fd, g1, g2, g3, g4⟩ := c.st.fns f fn hfn
          obtain ⟨ds, d1, d2⟩ := g4 (fn.dv.length - (fn.ps.length - cntA .anil))
          exact pe_callSD0 g3 c.room (c.gl _ h2) g1 g2 d2 d1 (fun σ => passAt c.tk σ) (okN_d h3).1
        | cons e es =>
          obtain ⟨ta, pa, ea⟩ := ia.a Wx sn _ h6
          refine ⟨_, fun X c => ?_, fun ρ S => ev_call hfn (hT.dv f fn hfn) (fun ws S => hT.idem f fn ws S hfn) ea⟩
          obtain ⟨ad, fd, g1, g2, g3, g4⟩ := c.st.fns f fn hfn
          obtain ⟨ds, d1, d2⟩ := g4 (fn.dv.length - (fn.ps.length - cntA as))
          rw [List.all_cons, Bool.and_eq_true] at hu
          exact pe_callSD g3 c.room (c.gl _ h2) g1 g2 d2 d1 (fun σ => passAt c.tk σ) (pa X c) (okN_d h3).1 (star_of hu.1) (plain_of hu.2)
      · cases h
    · cases h
  · unfold ckE at h
    split at h
    · rfl
    · cases h
end
end Mi

/-! MiK: sources and comprehensions; every expression. -/
namespace Mi
open PySem PySem.Spec PyProof.Rows L2
section
variable {K : PySem.W.Frag} {mg : Str → Option Value} {C : Ci} {Φ : Phi} {k : Nat} {Wx : WX} {sn : Sn} {X : Cx}
theorem pi_any {tg e : Expr} {ta : TE} (h : PE X e ta) : PI X tg e (fun σ H R => ta σ H fun v H1 => (∃ a xs, v = .ref a ∧ SqL X.K H1 a xs ∧ R (Itl X.K a) H1) ∨ (∃ a xs, v = .ref a ∧ SqT X.K H1 a xs ∧ R (Itt X.K a) H1) ∨ ∃ x, v = .str x ∧ R (Its x) H1) := by
  refine ⟨fun pins s σ H R I hw => ?_⟩
  refine thn (h.run pins s σ H _ I hw) fun v s1 ⟨x, H1, I1, r1, q1⟩ => ?_
  let tc : TE := fun _ H' Q' => Q' x H'
  rcases q1 with ⟨a, xs, rfl, hq, q⟩ | ⟨a, xs, rfl, hq, q⟩ | ⟨z, rfl, q⟩
  · cases r1
    obtain ⟨its, rv, p, hz⟩ := I1.list hq
    refine wpAny_pyIter_list p.isList ?_
    refine ⟨s1.heap.objs.size, [s1.heap.objs.size], _, _, H1, rfl, I1.kept (t' := s1.toks) fun b o e => Heap.get?_push_of_some _ e, turn_list a _, ⟨_, Heap.get?_push_size _ rfl, rfl, rfl⟩, fun b hb => ?_, q⟩
    have e : b = s1.heap.objs.size := by simpa using hb
    subst e
    exact I1.fpOk (Nat.le_refl _) (I1.hok.fresh (Nat.le_refl _))
  · cases r1
    obtain ⟨its, rv, p, hz⟩ := I1.tuple hq
    refine wpAny_pyIter_tuple (show s1.heap.IsTuple a its.toArray from p) ?_
    refine ⟨s1.heap.objs.size, [s1.heap.objs.size], _, _, H1, rfl, I1.kept (t' := s1.toks) fun b o e => Heap.get?_push_of_some _ e, turn_tuple a _, ⟨_, Heap.get?_push_size _ rfl, rfl, rfl⟩, fun b hb => ?_, q⟩
    have e : b = s1.heap.objs.size := by simpa using hb
    subst e
    exact I1.fpOk (Nat.le_refl _) (I1.hok.fresh (Nat.le_refl _))
  · obtain ⟨t, rfl⟩ := r1
    cases ha : z.cps.all (· < 128)
    · exact wpAny_pyIter_wide ha (pi_one (tk := s1.toks) I1 _ (turn_str _ z t "str_iterator" (.inr rfl)) ⟨_, Heap.get?_push_size _ rfl, rfl, rfl⟩ q)
    · exact wpAny_pyIter_ascii ha (pi_one (tk := s1.toks) I1 _ (turn_str _ z t "str_ascii_iterator" (.inl rfl)) ⟨_, Heap.get?_push_size _ rfl, rfl, rfl⟩ q)
/-- a form that only stands as a source -/
theorem Dall.mkI {m : M} (hi : ∀ Wx sn tg e, ckI C m sn tg e = true → DI K mg C Φ k Wx sn tg e m) (hf : fresh m = false) (he : ∀ sn es, ckE C m sn es = false)
    (ha : ∀ sn es, ckA C m sn es = false) (ho : ∀ sn o, ckO C m sn o = false) (hts : ∀ sn es, ckTs C m sn es = false) (hg : ∀ sn e, ckG C m sn e = false) (hgs : ∀ sn es, ckGs C m sn es = false) : Dall K mg C Φ k m where
  e := fun _ _ _ h => by rw [he] at h; cases h
  n := fun _ _ _ h _ => by rw [hf] at h; cases h
  t := fun _ _ _ _ h => by rw [he] at h; cases h
  w := fun _ _ _ _ h => by rw [he] at h; cases h
  a := fun _ _ _ h => by rw [ha] at h; cases h
  o := fun _ _ _ h => by rw [ho] at h; cases h
  ts := fun _ _ _ h => by rw [hts] at h; cases h
  i := hi
  g := fun _ _ _ h => by rw [hg] at h; cases h
  gs := fun _ _ _ h => by rw [hgs] at h; cases h
theorem d_itE {a : M} (ia : Dall K mg C Φ k a) : Dall K mg C Φ k (.itE a) := by
  refine .mkI (fun Wx sn tg e h => ?_) rfl (fun _ _ => rfl) (fun _ _ => rfl) (fun _ _ => rfl) (fun _ _ => rfl) (fun _ _ => rfl) (fun _ _ => rfl)
  unfold ckI at h
  obtain ⟨ta, pa, ea⟩ := ia.e Wx sn _ h
  refine ⟨_, fun X c => ?_, fun ρ S => ej_any ea⟩
  have hK := c.hK
  subst hK
  exact pi_any (pa X c)
theorem two_of {es : List Expr} (h : (es.length == 1 || es.length == 2) = true) : (∃ a, es = [a]) ∨ ∃ a b, es = [a, b] := by
  cases es with
  | nil => cases h
  | cons a es =>
    cases es with
    | nil => exact .inl ⟨a, rfl⟩
    | cons b es =>
      cases es with
      | nil => exact .inr ⟨a, b, rfl⟩
      | cons _ _ => simp at h
theorem d_itR {a : M} (ia : Dall K mg C Φ k a) : Dall K mg C Φ k (.itR a) := by
  refine .mkI (fun Wx sn tg e h => ?_) rfl (fun _ _ => rfl) (fun _ _ => rfl) (fun _ _ => rfl) (fun _ _ => rfl) (fun _ _ => rfl) (fun _ _ => rfl)
  unfold ckI at h
  split at h
  · simp only [Bool.and_eq_true, decide_eq_true_eq] at h
    obtain ⟨h1, h2, h3, h4, h5⟩ := h
    subst h1
    obtain ⟨ta, pa, ea⟩ := ia.a Wx sn _ h5
    obtain ⟨hu, hl⟩ := ckA_unst h5
    rcases two_of h4 with ⟨x, rfl⟩ | ⟨x, y, rfl⟩
    · simp only [List.all_cons, List.all_nil, Bool.and_true] at hu
      exact ⟨_, fun X c => pi_range1 (c.gl _ h2) (c.st.gF _ h3) (pa X c) (star_of hu), fun ρ S => ej_rng1 ea hl.symm⟩
    · simp only [List.all_cons, List.all_nil, Bool.and_true, Bool.and_eq_true] at hu
      exact ⟨_, fun X c => pi_range2 (c.gl _ h2) (c.st.gF _ h3) (pa X c) (by rw [star_of hu.1, star_of hu.2]; rfl) (star_of hu.2), fun ρ S => ej_rng2 ea hl.symm⟩
  · cases h
theorem d_itN {a : M} (ia : Dall K mg C Φ k a) : Dall K mg C Φ k (.itN a) := by
  refine .mkI (fun Wx sn tg e h => ?_) rfl (fun _ _ => rfl) (fun _ _ => rfl) (fun _ _ => rfl) (fun _ _ => rfl) (fun _ _ => rfl) (fun _ _ => rfl)
  unfold ckI at h
  rw [Bool.and_eq_true] at h
  obtain ⟨h0, h⟩ := h
  split at h
  · simp only [Bool.and_eq_true, decide_eq_true_eq] at h
    obtain ⟨h1, h2, h3, h4, h5⟩ := h
    subst h1
    obtain ⟨ta, pa, ea⟩ := ia.e Wx sn _ h5
    refine ⟨_, fun X c => ?_, fun ρ S => ej_enum ea⟩
    have hK := c.hK
    subst hK
    cases tg <;> first | (cases h0; done) | skip
    exact pi_enum (c.gl _ h2) (c.st.gF _ h3) (pa_cons (pa X c) pa_nil (star_of h4)) (star_of h4)
  · cases h
theorem d_itZ {a b : M} (ia : Dall K mg C Φ k a) (ib : Dall K mg C Φ k b) : Dall K mg C Φ k (.itZ a b) := by
  refine .mkI (fun Wx sn tg e h => ?_) rfl (fun _ _ => rfl) (fun _ _ => rfl) (fun _ _ => rfl) (fun _ _ => rfl) (fun _ _ => rfl) (fun _ _ => rfl)
  unfold ckI at h
  rw [Bool.and_eq_true] at h
  obtain ⟨h0, h⟩ := h
  split at h
  · simp only [Bool.and_eq_true, decide_eq_true_eq] at h
    obtain ⟨h1, h2, h3, h4, h5, h6, h7⟩ := h
    subst h1
    obtain ⟨ta, pa, ea⟩ := ia.e Wx sn _ h6
    obtain ⟨tb, pb, eb⟩ := ib.e Wx sn _ h7
    refine ⟨_, fun X c => ?_, fun ρ S => ej_zip ea eb⟩
    have hK := c.hK
    subst hK
    cases tg <;> first | (cases h0; done) | skip
    exact pi_zip (c.gl _ h2) (c.st.gF _ h3) (pa_cons (pa X c) (pa_cons (pb X c) pa_nil (star_of h5)) (star_of h4)) (star_of h4) (plain_of (by rw [List.all_cons, h5]; rfl))
  · cases h
theorem zipOwn_snd {N : List Str} : ∀ own : List Nat, (zipOwn N own).map (·.2) = own
  | [] => rfl
  | i :: r => congrArg (i :: ·) (zipOwn_snd r)
theorem d_lc (own : List Nat) {tg it ts e : M} (ig : Dall K mg C Φ k tg) (ii : Dall K mg C Φ k it) (its : Dall K mg C Φ k ts) (ie : Dall K mg C Φ k e) : Dall K mg C Φ k (.lc own tg it ts e) := by
  have hn : ∀ Wx sn x, ckE C (.lc own tg it ts e) sn x = true → DN K mg C Φ k Wx sn x (.lc own tg it ts e) := fun Wx sn x h => by
    unfold ckE at h
    split at h
    · rename_i elt tgE itE ifs sc p
      simp only [Bool.and_eq_true] at h
      obtain ⟨h1, h2, h3, h4, h5, h6, h7⟩ := h
      obtain ⟨wi, pi, ei⟩ := ii.i Wx sn _ _ h4
      obtain ⟨g, pg, eg⟩ := ig.g NoX sc.names _ h5
      obtain ⟨tt, pt, et⟩ := its.ts NoX sc.names _ h6
      obtain ⟨te, pe, ee⟩ := ie.e NoX sc.names _ h7
      refine ⟨tLc wi g tt te own, fun X c => ?_, fun ρ S => ev_lc ei eg (fun i hi => ?_) et ee⟩
      · have hb := c.blkOk (a := true) (b := true) (l := []) (sc := ⟨.function, sn, false, false, []⟩) rfl h1
        have := pe_lc (pos := p) c.calm (by rw [c.hN]; exact c.nd) (pi X c) hb (fun s H Ca cl fp => pg _ (c.blk sc s H Ca cl fp)) (fun s H Ca cl fp => pt _ (c.blk sc s H Ca cl fp)) (fun s H Ca cl fp => pe _ (c.blk sc s H Ca cl fp)) (fold_of h2)
        rw [zipOwn_snd] at this
        exact this
      · rw [List.all_eq_true] at h3
        simpa using h3 i hi
    · cases h
  refine .mk2 (fun Wx sn e h => (hn Wx sn e h).de) (fun Wx sn e _ h => hn Wx sn e h) (fun sn e h => ?_) (fun _ _ => rfl) (fun _ _ => rfl) (fun _ _ => rfl) (fun _ _ _ => rfl) (fun _ _ => rfl) (fun _ _ => rfl)
  unfold ckE at h
  split at h
  · rfl
  · cases h
/-- a class, as a value -/
def Cz.w (K : PySem.W.Frag) : Cz → V
  | .bt n => .ty n
  | .own x => .ref (He.ga K x)
theorem ev_fld {f : Str} {cs : List Str} {a : M} {ta : TE} {ρ : Rho} {S : Sto} (hx : ∀ c ∈ cs, XfC K (He.ga K c) ∧ PySem.W.findIn K (.ref (He.ga K c)) f = some none) (ha : ∀ ρ S, EvE K mg Wx ta ρ S (evE Φ a ρ S)) : EvE K mg Wx (tXk K f ta) ρ S (evE Φ (.fld f cs a) ρ S) := by
  intro σ F A H g rr Q p
  unfold evE at p
  refine ha ρ S σ F A H g rr _ (p.bind fun x S1 v F1 A1 H1 e0 s1 g1 rx p1 => ?_)
  clear e0
  split at p1
  · rename_i x
    obtain ⟨ad, d, rfl, e1, e2⟩ := rx
    unfold XF at e2
    split at p1
    · rename_i h y hf
      rw [hf] at e2
      obtain ⟨dx, u, rfl, e3, e4⟩ := e2
      split at p1
      · rename_i hc
        obtain ⟨rfl, hc⟩ := hc
        exact ⟨ad, _, dx, _, u, rfl, g1.ex _ _ e1, g1.ex _ _ e3, (hx _ hc).1, (hx _ hc).2, by simp, p1 u F1 A1 H1 Stp.refl g1 e4⟩
      · exact p1.elim
    · exact p1.elim
  · exact p1.elim
theorem d_fld (hT : Tok K C Φ) (f : Str) (cs : List Str) {a : M} (ia : Dall K mg C Φ k a) : Dall K mg C Φ k (.fld f cs a) := by
  refine .mk2 (fun Wx sn e h => ?_) (fun _ _ _ h => by cases h) (fun sn e h => ?_) (fun _ _ => rfl) (fun _ _ => rfl) (fun _ _ => rfl) (fun _ _ _ => rfl) (fun _ _ => rfl) (fun _ _ => rfl)
  · unfold ckE at h
    split at h
    · simp only [Bool.and_eq_true, decide_eq_true_eq] at h
      obtain ⟨h1, h2, h3, h4⟩ := h
      subst h1
      obtain ⟨ta, pa, ea⟩ := ia.e Wx sn _ h4
      refine ⟨tXk K f ta, fun X c => ?_, fun ρ S => ev_fld (fun c hc => hT.xfc c f ?_) ea⟩
      · have hK := c.hK
        subst hK
        exact pe_xk (pa X c) (base_of h3)
      · exact of_decide_eq_true (List.all_eq_true.mp h2 c hc)
    · cases h
  · unfold ckE at h
    split at h
    · rfl
    · cases h
def tCs (K : PySem.W.Frag) : List Cz → TA
  | [] => tNil
  | z :: zs => tCons (tC (z.w K)) (tCs K zs)
theorem tCs_of {K : PySem.W.Frag} {σ : L2.St} {H : Hp} : ∀ {zs : List Cz} {Q : List V → Hp → Prop}, Q (zs.map (Cz.w K)) H → tCs K zs σ H Q
  | [], Q, h => h
  | z :: zs, Q, h => tCs_of (zs := zs) (Q := fun vs H2 => Q (z.w K :: vs) H2) h
theorem clsv_z {K : PySem.W.Frag} : ∀ zs : List Cz, Paired ClsV (zs.map (Cz.w K)) (zs.map (Cz.v K))
  | [] => .nil
  | .bt n :: zs => .cons (.ty n) (clsv_z zs)
  | .own x :: zs => .cons (.own _) (clsv_z zs)
theorem pz_name {z : Cz} {p2 : Pos} (c : Cok K mg C Φ k Wx sn X) (q2 : isGl sn (nmZ z) = true) (q3 : okN (nmZ z) = true) (hzo : zOk X.K X.mg z) : PE X (.Name (nmZ z) p2) (tC (z.w X.K)) := by
  have hg := c.gl _ q2
  cases z with
  | bt n => exact pe_bltn hg hzo.1 hzo.2.1 rfl hzo.2.2 (okN_d q3).1
  | own x => exact pe_glob hg hzo rfl (okN_d q3).1
theorem pa_cs (c : Cok K mg C Φ k Wx sn X) : ∀ {zs : List Cz} {es : List Expr}, isNm sn zs es = true → (∀ z ∈ zs, zOk X.K X.mg z) → PA X es (tCs X.K zs)
  | [], [], _, _ => pa_nil
  | [], _ :: _, h, _ => by cases h
  | z :: zs, e :: es, h, hz => by
    cases e <;> first | (cases h; done) | skip
    have h' : (decide (nmZ z = _) && (isGl sn _ && (okN _ && isNm sn zs es))) = true := h
    simp only [Bool.and_eq_true, decide_eq_true_eq] at h'
    obtain ⟨h1, h2, h3, h4⟩ := h'
    subst h1
    exact pa_cons (pz_name c h2 h3 (hz z (List.mem_cons_self ..))) (pa_cs c h4 fun y hy => hz y (List.mem_cons_of_mem _ hy))
  | _ :: _, [], h, _ => by cases h
theorem ev_isKT {q : Nat} {zs : List Cz} {a : M} {ta : TE} {ρ : Rho} {S : Sto} (hT : Tok K C Φ) (hz : C.ks[q]? = some zs) (hl : zs.length ≤ sizeLine) (ha : ∀ ρ S, EvE K mg Wx ta ρ S (evE Φ a ρ S)) : EvE K mg Wx (tCB (rIsKT K) (tCons ta (tCons (tTup (tCs K zs)) tNil))) ρ S (evE Φ (.isK q a) ρ S) := by
  intro σ F A H g rr Q p
  unfold evE at p
  refine ha ρ S σ F A H g rr _ (p.bind fun x S1 v F1 A1 H1 e0 s1 g1 rx p1 => ?_)
  clear e0
  refine tCs_of ⟨by rw [List.length_map]; exact hl, fun tp htp => ?_⟩
  split at p1
  · rename_i x
    obtain ⟨ad, d, rfl, e1, e2⟩ := rx
    obtain ⟨s2, g2⟩ := g1.laid (o := .tup (zs.map (Cz.w K))) htp
    split at p1
    · rename_i b hb
      obtain ⟨k1, k2⟩ := hT.kit q zs x.c b hz hb
      refine ⟨ad, He.ga K x.c, tp, d, zs.map (Cz.w K), zs.map (Cz.v K), b, rfl, upd_same, clsv_z zs, g2.ex _ _ (s2.exF _ _ e1), fun dx hd => ?_, k2, k1, p1 (.bl b) _ A1 _ s2 g2 (show Rp K _ (.bl b) (.bool b) from .bl b)⟩
      unfold XF at e2
      split at e2
      · rw [e2] at hd; cases hd
      · obtain ⟨dx', u, q1, q2, _⟩ := e2
        rw [q1] at hd
        cases hd
        exact ⟨_, g2.ex _ _ (s2.exF _ _ q2)⟩
    · exact p1.elim
  · exact p1.elim
theorem ev_isK1 {q : Nat} {z : Cz} {a : M} {ta : TE} {ρ : Rho} {S : Sto} (hT : Tok K C Φ) (hz : C.ks[q]? = some [z]) (ha : ∀ ρ S, EvE K mg Wx ta ρ S (evE Φ a ρ S)) : EvE K mg Wx (tCB (rIsK K) (tCons ta (tCons (tC (z.w K)) tNil))) ρ S (evE Φ (.isK q a) ρ S) := by
  intro σ F A H g rr Q p
  unfold evE at p
  refine ha ρ S σ F A H g rr _ (p.bind fun x S1 v F1 A1 H1 e0 s1 g1 rx p1 => ?_)
  clear e0
  split at p1
  · rename_i x
    obtain ⟨ad, d, rfl, e1, e2⟩ := rx
    split at p1
    · rename_i b hb
      refine ⟨ad, He.ga K x.c, d, z.w K, z.v K, b, rfl, g1.ex _ _ e1, fun dx hd => ?_, (hT.kit q [z] x.c b hz hb).2, fun u hu => ?_, hT.kit1 q z x.c b hz hb, p1 (.bl b) F1 A1 H1 Stp.refl g1 (show Rp K F1 (.bl b) (.bool b) from .bl b)⟩
      · unfold XF at e2
        split at e2
        · rw [e2] at hd; cases hd
        · obtain ⟨dx', u, q1, q2, _⟩ := e2
          rw [q1] at hd
          cases hd
          exact ⟨_, g1.ex _ _ q2⟩
      · cases z <;> exact hu
    · exact p1.elim
  · exact p1.elim
theorem d_isK (hT : Tok K C Φ) (q : Nat) {a : M} (ia : Dall K mg C Φ k a) : Dall K mg C Φ k (.isK q a) := by
  refine .mk2 (fun Wx sn e h => ?_) (fun _ _ _ h => by cases h) (fun sn e h => ?_) (fun _ _ => rfl) (fun _ _ => rfl) (fun _ _ => rfl) (fun _ _ _ => rfl) (fun _ _ => rfl) (fun _ _ => rfl)
  · unfold ckE at h
    split at h
    · rename_i x p0 y e2 p1
      simp only [Bool.and_eq_true, decide_eq_true_eq] at h
      obtain ⟨h1, h2, h3, h4, h5, h6, h7⟩ := h
      subst h1
      obtain ⟨ta, pa, ea⟩ := ia.e Wx sn _ h6
      unfold isIsE at h7
      split at h7
      · rename_i es2 cx p2
        split at h7
        · rename_i z y zs hz
          rw [Bool.and_eq_true, decide_eq_true_eq] at h7
          refine ⟨_, fun X c => ?_, fun ρ S => ev_isKT hT hz (by rw [List.length_cons, List.length_cons, sizeLine_eq]; omega) ea⟩
          have hzo := c.st.zO q (z :: y :: zs) hz
          have hK := c.hK
          subst hK
          exact pe_callB call_isKT (c.gl _ h2) (c.st.gF _ h3) (by decide +kernel) (pa_cons (pa X c) (pa_cons (pe_tup (pa_cs c h7.1 hzo)) pa_nil) (star_of h4)) (by decide) (by decide) (star_of h4) rfl
        · cases h7
      · rename_i x2 p2
        split at h7
        · rename_i z hz
          simp only [Bool.and_eq_true, decide_eq_true_eq] at h7
          obtain ⟨q1, q2, q3⟩ := h7
          subst q1
          refine ⟨_, fun X c => ?_, fun ρ S => ev_isK1 hT hz ea⟩
          have hzo := c.st.zO q [z] hz z (List.mem_singleton.mpr rfl)
          have hg := c.gl _ q2
          have pz : PE X (.Name (nmZ z) p2) (tC (z.w X.K)) := by
            cases z with
            | bt n => exact pe_bltn hg hzo.1 hzo.2.1 rfl hzo.2.2 (okN_d q3).1
            | own x => exact pe_glob hg hzo rfl (okN_d q3).1
          have hK := c.hK
          subst hK
          exact pe_callB call_isK (c.gl _ h2) (c.st.gF _ h3) (by decide +kernel) (pa_cons (pa X c) (pa_cons pz pa_nil) (star_of h4)) (by decide) (by decide) (star_of h4) rfl
        · cases h7
      · cases h7
    · cases h
  · unfold ckE at h
    split at h
    · rfl
    · cases h
/-- a statement -/
theorem Dall.mk0 {m : M} (hf : fresh m = false) (he : ∀ sn es, ckE C m sn es = false) (ha : ∀ sn es, ckA C m sn es = false) (ho : ∀ sn o, ckO C m sn o = false) (hts : ∀ sn es, ckTs C m sn es = false) (hi : ∀ sn tg e, ckI C m sn tg e = false) (hg : ∀ sn e, ckG C m sn e = false) (hgs : ∀ sn es, ckGs C m sn es = false) : Dall K mg C Φ k m :=
  .mkI (fun _ _ _ _ h => by rw [hi] at h; cases h) hf he ha ho hts hg hgs
theorem d_all (hT : Tok K C Φ) : ∀ m, Dall K mg C Φ k m := by
  intro m
  induction m with
  | var i => exact d_var i
  | int i => exact d_int i
  | str i => exact d_str i
  | bl i => exact d_bl i
  | non => exact d_non
  | gi x i => exact d_gi x i
  | gs x i => exact d_gs x i
  | o2 o a b ia ib => exact d_o2 o ia ib
  | ch o o' a b c ia ib ic => exact d_ch o o' ia ib ic
  | neg a ia => exact d_neg ia
  | and2 a b ia ib => exact d_and ia ib
  | or2 a b ia ib => exact d_or ia ib
  | one a ia => exact d_one ia
  | not1 a ia => exact d_not ia
  | ife a b c ia ib ic => exact d_ife ia ib ic
  | tup a ia => exact d_tup ia
  | lst a ia => exact d_lst ia
  | anil => exact d_anil
  | acons a b ia ib => exact d_acons ia ib
  | call f a ia => exact d_call hT f ia
  | bi b a ia => exact d_bi b ia
  | isi t a ia => exact d_isi t ia
  | mt b a as ia ias => exact d_mt b ia ias
  | ix a b ia ib => exact d_ix ia ib
  | sl a b c ia ib ic => exact d_sl ia ib ic
  | nop => exact d_nop
  | lc own tg it ts e ig ii its ie => exact d_lc own ig ii its ie
  | new a ia => exact d_new ia
  | frz a ia => exact d_frz ia
  | fld f cs a ia => exact d_fld hT f cs ia
  | isK q a ia => exact d_isK hT q ia
  | itE a ia => exact d_itE ia
  | itR a ia => exact d_itR ia
  | itN a ia => exact d_itN ia
  | itZ a b ia ib => exact d_itZ ia ib
  | tn i => exact d_tn i
  | tt a ia => exact d_tt ia
  | _ => exact .mk0 rfl (fun _ _ => rfl) (fun _ _ => rfl) (fun _ _ => rfl) (fun _ _ => rfl) (fun _ _ _ => rfl) (fun _ _ => rfl) (fun _ _ => rfl)
end
end Mi

/-! MiL: statements. -/
namespace Mi
open PySem PySem.Spec PyProof.Rows L2

/-- what must follow a statement's result -/
def PostS (K : PySem.W.Frag) (mg : Str → Option Value) (Wx : WX) (F : Hp) (A : List Addr) (H : Hp) (r : RS) (D : Ends) : Prop := match r with
  | .nx ρ S => ∀ σ F' A' H', Stp F A H F' A' H' → Good K F' A' S H' → RhoR K F' A' ρ σ → D.nx σ H'
  | .bk ρ S => ∀ σ F' A' H', Stp F A H F' A' H' → Good K F' A' S H' → RhoR K F' A' ρ σ → D.bk σ H'
  | .ct ρ S => ∀ σ F' A' H', Stp F A H F' A' H' → Good K F' A' S H' → RhoR K F' A' ρ σ → D.ct σ H'
  | .rt w S => ∀ v F' A' H', Stp F A H F' A' H' → Good K F' A' S H' → WR K F' A' w v → D.rt v H'
  | .exc x ρ S => ∀ cls d σ F' A' H', Stp F A H F' A' H' → Good K F' A' S H' → RhoR K F' A' ρ σ → XR K mg F' H' x cls d → Wx cls d σ H'
  | .err => False
def EvS (K : PySem.W.Frag) (mg : Str → Option Value) (Wx : WX) (t : TS) (ρ : Rho) (S : Sto) (r : RS) : Prop := ∀ σ F A H, Good K F A S H → RhoR K F A ρ σ → ∀ D, PostS K mg Wx F A H r D → t D σ H
section
variable {K : PySem.W.Frag} {mg : Str → Option Value} {Wx : WX} {σ : L2.St} {F F' : Hp} {A A' : List Addr} {H H' : Hp} {ρ : Rho} {S : Sto} {Φ : Phi} {α β : Type} {Rel : Hp → List Addr → α → β → Prop} {D : Ends}
theorem PostS.step {r : RS} (s : Stp F A H F' A' H') (p : PostS K mg Wx F A H r D) : PostS K mg Wx F' A' H' r D := by
  cases r with
  | nx ρ S => exact fun σ F2 A2 H2 s2 g rr => p σ F2 A2 H2 (s.trans s2) g rr
  | bk ρ S => exact fun σ F2 A2 H2 s2 g rr => p σ F2 A2 H2 (s.trans s2) g rr
  | ct ρ S => exact fun σ F2 A2 H2 s2 g rr => p σ F2 A2 H2 (s.trans s2) g rr
  | rt w S => exact fun v F2 A2 H2 s2 g rr => p v F2 A2 H2 (s.trans s2) g rr
  | exc x ρ S => exact fun cls d σ F2 A2 H2 s2 g rr x => p cls d σ F2 A2 H2 (s.trans s2) g rr x
  | err => exact p
/-- a result ahead of a statement's rest -/
theorem PostS.bind {r : R α} {k : α → Sto → RS} {Q1 : β → Hp → Prop} (rr : RhoR K F A ρ σ) (p : PostS K mg Wx F A H (r.st ρ k) D)
    (h : ∀ a S' b F' A' H', r = .ok a S' → Stp F A H F' A' H' → Good K F' A' S' H' → Rel F' A' a b → PostS K mg Wx F' A' H' (k a S') D → Q1 b H') : Post K mg Wx σ Rel F A H r Q1 := by
  cases r with
  | ok a S' => exact fun b F2 A2 H2 s g rel => h a S' b F2 A2 H2 rfl s g rel (PostS.step s p)
  | exc x S' => exact fun cls d F2 A2 H2 s g x => p cls d σ F2 A2 H2 s g (rr.mono s) x
  | err => exact p
theorem PostS.bindI {r : R Src} {k : Src → Sto → RS} {Q1 : It → Hp → Prop} (rr : RhoR K F A ρ σ) (p : PostS K mg Wx F A H (r.st ρ k) D)
    (h : ∀ a S' J F' A' H', r = .ok a S' → Stp F A H F' A' H' → Good K F' A' S' H' → ItR K F' A' J a → PostS K mg Wx F' A' H' (k a S') D → Q1 J H') : PostI K mg Wx σ F A H r Q1 := by
  cases r with
  | ok a S' => exact fun b F2 A2 H2 s g rel => h a S' b F2 A2 H2 rfl s g rel (PostS.step s p)
  | exc x S' => exact fun cls d F2 A2 H2 s g x => p cls d σ F2 A2 H2 s g (rr.mono s) x
  | err => exact p
theorem PostS.ofO {o : Option Rho} (p : PostS K mg Wx F A H (RS.ofO o S) D) : ∃ ρ', o = some ρ' ∧ ∀ σ F' A' H', Stp F A H F' A' H' → Good K F' A' S H' → RhoR K F' A' ρ' σ → D.nx σ H' := by
  cases o with
  | none => exact p.elim
  | some w => exact ⟨w, rfl, fun σ F2 A2 H2 s g rel => p σ F2 A2 H2 s g rel⟩
variable {ta tb te : TE} {tl : TA} {a b c e tg : M} {t u : TS}
theorem es_asg {g : TG} (ha : ∀ ρ S, EvE K mg Wx ta ρ S (evE Φ a ρ S)) (hg : EvG K g tg) : EvS K mg Wx (tAsg ta g) ρ S (exS Φ (.asg tg a) ρ S) := by
  intro σ F A H gd rr D p
  unfold exS at p
  refine ha ρ S σ F A H gd rr _ (p.bind rr fun w S1 v F1 A1 H1 _ s1 g1 rw p1 => ?_)
  obtain ⟨ρ', e, k⟩ := p1.ofO
  exact hg σ F1 A1 S1 H1 g1 w v ρ ρ' (rr.mono s1) rw e _ fun σ' r' _ => k σ' F1 A1 H1 Stp.refl g1 r'
theorem es_asgLc {i : Nat} (ha : ∀ ρ S, EvE K mg Wx ta ρ S (evE Φ a ρ S)) : EvS K mg Wx (tAsg ta (gName i)) ρ S (exS Φ (.asgLc i a) ρ S) := by
  intro σ F A H gd rr D p
  unfold exS at p
  refine ha ρ S σ F A H gd rr _ (p.bind rr fun w S1 v F1 A1 H1 _ s1 g1 rw p1 => ?_)
  obtain ⟨ρ', e, k⟩ := p1.ofO
  split at e
  · rename_i hi
    cases e
    exact k _ F1 A1 H1 Stp.refl g1 ((rr.mono s1).set rw hi)
  · cases e
theorem es_par {i j : Nat} (ha : ∀ ρ S, EvE K mg Wx ta ρ S (evE Φ a ρ S)) (hb : ∀ ρ S, EvE K mg Wx tb ρ S (evE Φ b ρ S)) : EvS K mg Wx (tPar i j (tCons ta (tCons tb tNil))) ρ S (exS Φ (.par2 i j a b) ρ S) := by
  intro σ F A H gd rr D p
  unfold exS at p
  refine ha ρ S σ F A H gd rr _ (p.bind rr fun w S1 v F1 A1 H1 _ s1 g1 rw p1 => ?_)
  refine hb ρ S1 σ F1 A1 H1 g1 (rr.mono s1) _ (p1.bind (rr.mono s1) fun w' S2 v' F2 A2 H2 _ s2 g2 rw' p2 => ?_)
  split at p2
  case isFalse => exact p2.elim
  rename_i hij
  obtain ⟨hi, hj⟩ := hij
  refine ⟨v, v', rfl, p2 _ F2 A2 H2 Stp.refl g2 ?_⟩
  exact (((rr.mono s1).mono s2).set (rw.mono s2) hi).set rw' (by rw [List.length_set]; exact hj)
theorem es_aug {i : Nat} {k : O2} {f : Int → Int → Int} (hf : ∀ x y w, augW k x y = some w → ∃ m n, x = .d (.int m) ∧ y = .d (.int n) ∧ w = .d (.int (f m n))) (ha : ∀ ρ S, EvE K mg Wx ta ρ S (evE Φ a ρ S)) : EvS K mg Wx (tAug i ta (ipI f)) ρ S (exS Φ (.aug i k a) ρ S) := by
  intro σ F A H gd rr D p
  unfold exS at p
  split at p
  · rename_i x hx
    obtain ⟨v, e1, rx⟩ := rr.2 i x hx
    refine ⟨v, e1, ha ρ S σ F A H gd rr _ (p.bind rr fun y S1 u F1 A1 H1 _ s1 g1 ry p1 => ?_)⟩
    split at p1
    · rename_i z hz
      obtain ⟨m, n, rfl, rfl, rfl⟩ := hf _ _ _ hz
      cases rx
      cases ry
      exact ⟨m, n, rfl, rfl, p1 _ F1 A1 H1 Stp.refl g1 ((rr.mono s1).set (show WR K F1 A1 (.d (.int _)) (.int _) from .int _) (List.getElem?_eq_some_iff.mp hx).1)⟩
    · exact p1.elim
  · exact p.elim
theorem es_setix (ha : ∀ ρ S, EvE K mg Wx ta ρ S (evE Φ a ρ S)) (hb : ∀ ρ S, EvE K mg Wx tb ρ S (evE Φ b ρ S)) (he : ∀ ρ S, EvE K mg Wx te ρ S (evE Φ e ρ S)) : EvS K mg Wx (tAsg te (gSub ta tb rSetL)) ρ S (exS Φ (.setix a b e) ρ S) := by
  intro σ F A H gd rr D p
  unfold exS at p
  refine he ρ S σ F A H gd rr _ (p.bind rr fun w S1 v F1 A1 H1 q1 s1 g1 rw p1 => ?_)
  refine ha ρ S1 σ F1 A1 H1 g1 (rr.mono s1) _ (p1.bind (rr.mono s1) fun x S2 o F2 A2 H2 q2 s2 g2 rx p2 => ?_)
  refine hb ρ S2 σ F2 A2 H2 g2 ((rr.mono s1).mono s2) _ (p2.bind ((rr.mono s1).mono s2) fun y S3 i F3 A3 H3 q3 s3 g3 ry p3 => ?_)
  clear q1 q2 q3
  have rr3 := ((rr.mono s1).mono s2).mono s3
  have rx3 := rx.mono s3
  have rw3 := (rw.mono s2).mono s3
  split at p3
  · rename_i S4 h4
    unfold setW at h4
    split at h4
    · rename_i p k d
      obtain ⟨ad, ea, rfl⟩ := rx3
      cases ry
      split at h4
      · rename_i xs hs
        cases hj : L2.ixN xs.length k with
        | none => rw [hj] at h4; cases h4
        | some j =>
          rw [hj] at h4
          cases h4
          obtain ⟨_, vs, h5, h6⟩ := g3.ob _ _ _ ea hs
          obtain ⟨s4, g4⟩ := g3.write ea hs (Rps.set j h6 rw3)
          exact ⟨_, vs, k, j, rfl, rfl, h5, by rw [h6.length]; exact hj, p3 σ F3 A3 _ s4 g4 (rr3.mono s4)⟩
      · cases h4
    · cases h4
  · exact p3.elim
theorem es_ex (ha : ∀ ρ S, EvE K mg Wx ta ρ S (evE Φ a ρ S)) : EvS K mg Wx (tDrop ta) ρ S (exS Φ (.ex a) ρ S) := by
  intro σ F A H gd rr D p
  unfold exS at p
  exact ha ρ S σ F A H gd rr _ (p.bind rr fun w S1 v F1 A1 H1 _ s1 g1 rw p1 => p1 σ F1 A1 H1 Stp.refl g1 (rr.mono s1))
theorem es_ret (ha : ∀ ρ S, EvE K mg Wx ta ρ S (evE Φ a ρ S)) : EvS K mg Wx (tRet ta) ρ S (exS Φ (.ret a) ρ S) := by
  intro σ F A H gd rr D p
  unfold exS at p
  exact ha ρ S σ F A H gd rr _ (p.bind rr fun w S1 v F1 A1 H1 _ s1 g1 rw p1 => p1 v F1 A1 H1 Stp.refl g1 rw)
theorem es_retN : EvS K mg Wx tRetN ρ S (exS Φ .retN ρ S) := fun σ F A H gd rr D p => p .non F A H Stp.refl gd (show Rp K F .non .none from .non)
theorem es_pss : EvS K mg Wx tNext ρ S (exS Φ .pss ρ S) := fun σ F A H gd rr D p => p σ F A H Stp.refl gd rr
theorem es_snil : EvS K mg Wx tNext ρ S (exS Φ .snil ρ S) := fun σ F A H gd rr D p => p σ F A H Stp.refl gd rr
theorem es_brk : EvS K mg Wx tBreak ρ S (exS Φ .brk ρ S) := fun σ F A H gd rr D p => p σ F A H Stp.refl gd rr
theorem es_cnt : EvS K mg Wx tCont ρ S (exS Φ .cnt ρ S) := fun σ F A H gd rr D p => p σ F A H Stp.refl gd rr
theorem es_ift {tt : TT} (ht : ∀ ρ S, EvT K mg Wx tt ρ S (tru (evE Φ a ρ S))) (hb : ∀ ρ S, EvS K mg Wx t ρ S (exS Φ b ρ S)) (hc : ∀ ρ S, EvS K mg Wx u ρ S (exS Φ c ρ S)) : EvS K mg Wx (tIfS tt t u) ρ S (exS Φ (.ift a b c) ρ S) := by
  intro σ F A H gd rr D p
  unfold exS at p
  refine ht ρ S σ F A H gd rr _ (p.bind rr fun w S1 v F1 A1 H1 _ s1 g1 rw p1 => ?_)
  cases rw
  cases w with
  | true => exact hb ρ S1 σ F1 A1 H1 g1 (rr.mono s1) D p1
  | false => exact hc ρ S1 σ F1 A1 H1 g1 (rr.mono s1) D p1
/-- other ends ahead of a rest -/
theorem PostS.then_ {r : RS} {k : Rho → Sto → RS} {D' : Ends} (p : PostS K mg Wx F A H (match r with | .nx ρ' S' => k ρ' S' | r' => r') D) (hr : D'.rt = D.rt) (hb : D'.bk = D.bk) (hc : D'.ct = D.ct)
    (h : ∀ ρ S σ F' A' H', Stp F A H F' A' H' → Good K F' A' S H' → RhoR K F' A' ρ σ → PostS K mg Wx F' A' H' (k ρ S) D → D'.nx σ H') : PostS K mg Wx F A H r D' := by
  cases r with
  | nx ρ S => exact fun σ F2 A2 H2 s2 g rr => h ρ S σ F2 A2 H2 s2 g rr (PostS.step s2 p)
  | bk ρ S => exact fun σ F2 A2 H2 s2 g rr => by rw [hb]; exact p σ F2 A2 H2 s2 g rr
  | ct ρ S => exact fun σ F2 A2 H2 s2 g rr => by rw [hc]; exact p σ F2 A2 H2 s2 g rr
  | rt w S => exact fun v F2 A2 H2 s2 g rr => by rw [hr]; exact p v F2 A2 H2 s2 g rr
  | exc x ρ S => exact p
  | err => exact p
theorem es_scons (ha : ∀ ρ S, EvS K mg Wx t ρ S (exS Φ a ρ S)) (hb : ∀ ρ S, EvS K mg Wx u ρ S (exS Φ b ρ S)) : EvS K mg Wx (tSeq t u) ρ S (exS Φ (.scons a b) ρ S) := by
  intro σ F A H gd rr D p
  unfold exS at p
  exact ha ρ S σ F A H gd rr _ (p.then_ rfl rfl rfl fun ρ' S' σ' F1 A1 H1 s1 g1 r1 p1 => hb ρ' S' σ' F1 A1 H1 g1 r1 D p1)
/-- a loop's turn ahead of the rest -/
theorem PostS.loop {r : RS} {k : Rho → Sto → RS} {N : L2.St → Hp → Prop} (p : PostS K mg Wx F A H (match r with | .nx ρ2 S2 => k ρ2 S2 | .ct ρ2 S2 => k ρ2 S2 | .bk ρ2 S2 => .nx ρ2 S2 | r' => r') D)
    (h : ∀ ρ S σ F' A' H', Stp F A H F' A' H' → Good K F' A' S H' → RhoR K F' A' ρ σ → PostS K mg Wx F' A' H' (k ρ S) D → N σ H') : PostS K mg Wx F A H r { D with nx := N, ct := N, bk := D.nx } := by
  cases r with
  | nx ρ S => exact fun σ F2 A2 H2 s2 g rr => h ρ S σ F2 A2 H2 s2 g rr (PostS.step s2 p)
  | bk ρ S => exact p
  | ct ρ S => exact fun σ F2 A2 H2 s2 g rr => h ρ S σ F2 A2 H2 s2 g rr (PostS.step s2 p)
  | rt w S => exact p
  | exc x ρ S => exact p
  | err => exact p
theorem es_for {wi : TI} {g : TG} (hi : ∀ ρ S, EvJ K mg Wx wi ρ S (evI Φ a ρ S)) (hg : EvG K g tg) (hb : ∀ ρ S, EvS K mg Wx t ρ S (exS Φ b ρ S)) : EvS K mg Wx (tFor wi g t) ρ S (exS Φ (.for_ tg a b) ρ S) := by
  intro σ F A H gd rr D p
  unfold exS at p
  refine hi ρ S σ F A H gd rr _ (p.bindI rr fun src S1 J F1 A1 H1 _ s1 g1 ij p1 => ?_)
  generalize hbt : (fun x ρ' S2 => bindT S2 tg x ρ') = bt at p1
  generalize hbd : (fun ρ' S2 => exS Φ b ρ' S2) = bd at p1
  refine ⟨fun i m σ H => ∃ F A S ρ, Good K F A S H ∧ RhoR K F A ρ σ ∧ Stp F1 A1 H1 F A H ∧ m + i = src.xs.length ∧ PostS K mg Wx F A H (forGo src.g bt bd (src.xs.drop i) ρ S) D,
    ⟨src.xs.length, F1, A1, S1, ρ, g1, rr.mono s1, Stp.refl, rfl, p1⟩, ?_⟩
  rintro i m σ2 H2 ⟨F2, A2, S2, ρ2, g2, rr2, s2, hm, p2⟩
  cases hd : src.xs.drop i with
  | nil =>
    rw [hd] at p2
    have hi : src.xs.length ≤ i := List.drop_eq_nil_iff.mp hd
    unfold forGo at p2
    split at p2
    · rename_i hgd
      exact .inl ⟨(ij F2 A2 S2 _ s2.exF s2.exA g2 hgd).2 i hi, p2 σ2 F2 A2 H2 Stp.refl g2 rr2⟩
    · exact p2.elim
  | cons x xs =>
    rw [hd] at p2
    have hx : src.xs[i]? = some x := by
      have := congrArg (fun l => l[0]?) hd
      simpa using this
    have hdr : src.xs.drop (i + 1) = xs := by
      have h1 : (src.xs.drop i).drop 1 = xs := by rw [hd]; rfl
      rw [List.drop_drop] at h1
      exact h1
    have hil : i < src.xs.length := (List.getElem?_eq_some_iff.mp hx).1
    unfold forGo at p2
    split at p2
    case isFalse => exact p2.elim
    rename_i hgd
    obtain ⟨jg, jy⟩ := (ij F2 A2 S2 _ s2.exF s2.exA g2 hgd).1 i x hx
    refine .inr ⟨jg, fun σ H => ∃ m', m' < m ∧ ∃ F A S ρ, Good K F A S H ∧ RhoR K F A ρ σ ∧ Stp F1 A1 H1 F A H ∧ m' + (i + 1) = src.xs.length ∧ PostS K mg Wx F A H (forGo src.g bt bd (src.xs.drop (i + 1)) ρ S) D, fun _ _ h => h, fun v H3 hy => ?_⟩
    obtain ⟨F3, s3, g3, rv⟩ := jy v H3 hy
    split at p2
    case h_2 => exact p2.elim
    rename_i ρ3 hb3
    rw [← hbt] at hb3
    refine hg _ F3 A2 S2 _ g3 x v ρ2 ρ3 (rr2.mono s3) rv hb3 _ fun σ4 rr4 _ => ?_
    refine hb ρ3 S2 σ4 F3 A2 H3 g3 rr4 _ ?_
    have hb' : exS Φ b ρ3 S2 = bd ρ3 S2 := by rw [← hbd]
    rw [hb']
    refine PostS.loop (PostS.step s3 p2) fun ρ5 S5 σ5 F5 A5 H5 s5 g5 r5 p5 => ?_
    exact ⟨m - 1, by omega, F5, A5, S5, ρ5, g5, r5, s2.trans (s3.trans s5), by omega, by rw [hdr]; exact p5⟩
theorem es_wh {tt : TT} {n : Nat} (ht : ∀ ρ S, EvT K mg Wx tt ρ S (tru (evE Φ a ρ S))) (hb : ∀ ρ S, EvS K mg Wx t ρ S (exS Φ b ρ S)) : EvS K mg Wx (tWhile tt t) ρ S (exS Φ (.wh n a b) ρ S) := by
  intro σ F A H gd rr D p
  unfold exS at p
  generalize htt : (fun ρ' S2 => tru (evE Φ a ρ' S2)) = tst at p
  generalize hbd : (fun ρ' S2 => exS Φ b ρ' S2) = bd at p
  refine ⟨fun m σ H => ∃ F A S ρ, Good K F A S H ∧ RhoR K F A ρ σ ∧ PostS K mg Wx F A H (whGo tst bd m ρ S) D, ⟨n, F, A, S, ρ, gd, rr, p⟩, ?_⟩
  rintro m σ2 H2 ⟨F2, A2, S2, ρ2, g2, rr2, p2⟩
  cases m with
  | zero => exact p2.elim
  | succ m =>
    refine ht ρ2 S2 σ2 F2 A2 H2 g2 rr2 _ ?_
    have ht' : tru (evE Φ a ρ2 S2) = tst ρ2 S2 := by rw [← htt]
    rw [ht']
    unfold whGo at p2
    cases et : tst ρ2 S2 with
    | err => rw [et] at p2; exact p2.elim
    | exc x S3 =>
      rw [et] at p2
      exact fun cls d F3 A3 H3 s3 g3 x => p2 cls d σ2 F3 A3 H3 s3 g3 (rr2.mono s3) x
    | ok c S3 =>
      rw [et] at p2
      intro c' F3 A3 H3 s3 g3 rc
      cases rc
      cases c with
      | false =>
        rw [if_neg Bool.false_ne_true]
        exact p2 σ2 F3 A3 H3 s3 g3 (rr2.mono s3)
      | true =>
        rw [if_pos rfl]
        refine ⟨fun σ' H' => ∃ m', m' < m + 1 ∧ ∃ F A S ρ, Good K F A S H' ∧ RhoR K F A ρ σ' ∧ PostS K mg Wx F A H' (whGo tst bd m' ρ S) D, fun _ _ h => h, ?_⟩
        refine hb ρ2 S3 σ2 F3 A3 H3 g3 (rr2.mono s3) _ ?_
        have hb' : exS Φ b ρ2 S3 = bd ρ2 S3 := by rw [← hbd]
        rw [hb']
        refine PostS.loop (PostS.step s3 p2) fun ρ5 S5 σ5 F5 A5 H5 s5 g5 r5 p5 => ?_
        exact ⟨m, Nat.lt_succ_self m, F5, A5, S5, ρ5, g5, r5, p5⟩
/-! ### exceptions -/
def tRais (K : PySem.W.Frag) (Wx : WX) (c : Str) : TS := fun _ σ H => Wx (.ref (He.ga K c)) none σ H
theorem es_rais {c : Str} : EvS K mg Wx (tRais K Wx c) ρ S (exS Φ (.rais c) ρ S) := fun σ F A H gd rr D p => p _ none σ F A H Stp.refl gd rr ⟨rfl, rfl⟩
def tRaisF (K : PySem.W.Frag) (Wx : WX) (c f : Str) (te : TE) : TS := fun _ σ H => te σ H fun v H1 => ∃ v', [v] = [v'] ∧ ∀ d, H1 d = none → Wx (.ref (He.ga K c)) (some d) σ (upd H1 d (.xd [(f, v')]))
theorem es_raisF {c f : Str} (ha : ∀ ρ S, EvE K mg Wx ta ρ S (evE Φ a ρ S)) : EvS K mg Wx (tRaisF K Wx c f ta) ρ S (exS Φ (.raisF c f a) ρ S) := by
  intro σ F A H gd rr D p
  unfold exS at p
  refine ha ρ S σ F A H gd rr _ (p.bind rr fun w S1 v F1 A1 H1 e0 s1 g1 rw p1 => ⟨v, rfl, fun d hd => ?_⟩)
  clear e0
  split at p1
  · rename_i x
    obtain ⟨s2, g2⟩ := g1.laid (o := .xd [(f, v)]) hd
    exact p1 _ (some d) σ _ _ _ s2 g2 ((rr.mono s1).mono s2) ⟨rfl, d, v, rfl, upd_same, Rp.mono s2.exF rw⟩
  · exact p1.elim
theorem es_tryK {k ie i : Nat} {z : Cz} {C : Ci} {b : M} {tb : WX → TS} (hT : Tok K C Φ) (hz : C.ks[k]? = some [z]) (hb : ∀ Wx ρ S, EvS K mg Wx (tb Wx) ρ S (exS Φ b ρ S)) :
    EvS K mg Wx (fun D σ H => tb (wKeep K (z.v K) ie i Wx D) D σ H) ρ S (exS Φ (.tryK k ie i b) ρ S) := by
  intro σ F A H gd rr D p
  refine hb _ ρ S σ F A H gd rr D ?_
  unfold exS at p
  cases e : exS Φ b ρ S with
  | nx ρ' S' => rw [e] at p; exact p
  | rt w S' => rw [e] at p; exact p
  | bk ρ' S' => rw [e] at p; exact p
  | ct ρ' S' => rw [e] at p; exact p
  | err => rw [e] at p; exact p
  | exc x ρ1 S1 =>
    rw [e] at p
    intro cls d σ1 F1 A1 H1 s1 g1 r1 xr
    obtain ⟨rfl, xf⟩ := xr
    have p' : PostS K mg Wx F A H (match Φ.kn.ask k x.c with
      | some true => if ie < ρ1.length ∧ i < ρ1.length then .nx (((ρ1.set ie (some (.exn x))).set i (some (.exn x))).set ie none) S1 else .err
      | some false => .exc x ρ1 S1
      | none => .err) D := p
    cases q : Φ.kn.ask k x.c with
    | none => rw [q] at p'; exact p'.elim
    | some b =>
      rw [q] at p'
      refine ⟨b, hT.exm k z x.c b hz q, fun hb ad hn => ?_, fun hb => ?_⟩
      · subst hb
        have p2 : PostS K mg Wx F A H (if ie < ρ1.length ∧ i < ρ1.length then .nx (((ρ1.set ie (some (.exn x))).set i (some (.exn x))).set ie none) S1 else .err) D := p'
        split at p2
        · rename_i hl
          obtain ⟨s2, g2⟩ := g1.laid (o := ExK (.ref (He.ga K x.c)) d ad) hn
          have r2 := r1.mono s2
          have wr : WR K (upd F1 ad (ExK (.ref (He.ga K x.c)) d ad)) A1 (.exn x) (.ref ad) := ⟨ad, d, rfl, upd_same, xf.mono s2.exF⟩
          exact p2 _ _ _ _ (s1.trans s2) g2 (((r2.set wr hl.1).set wr (by rw [List.length_set]; exact hl.2)).setN)
        · exact p2.elim
      · subst hb
        exact p' _ d σ1 F1 A1 H1 s1 g1 r1 ⟨rfl, xf⟩
end
end Mi

/-! MiM: statements that pass the check do what the interpreter says. -/
namespace Mi
open PySem PySem.Spec PyProof.Rows L2

structure Xok (K : PySem.W.Frag) (mg : Str → Option Value) (C : Ci) (Φ : Phi) (k : Nat) (Wx : WX) (sn : Sn) (X : Cx) : Prop where
  c : Cok K mg C Φ k Wx sn X
  pas : PassesOwn (model X.prog X.w) X.A X.env X.xe
  nm : X.env.scope.names = sn
  kd : X.env.scope.kind = .function
  stk : X.stack = X.env :: X.outer
  frm : X.env.frame = some X.env.locals
  hex : X.ex = []
/-- the exception classes of the module may be made -/
structure Rok (K : PySem.W.Frag) (mg : Str → Option Value) (C : Ci) : Prop where
  rr : ∀ X : Cx, X.K = K → X.mg = mg → ∀ c ∈ C.xr, ∀ m j p p2 pos, Gl X c → (c == ("__debug__" : Str)) = false → PMk X (.Call (.Name c p) [.Constant (.str m) j p2] [] pos) (fun _ H Q => Q (.ref (He.ga K c)) none H)
  rf : ∀ X : Cx, X.K = K → X.mg = mg → ∀ k, Room k X.A → ∀ c f, (c, f) ∈ C.xf → ∀ e te p pos, PE X e te → unst e = true → Gl X c → PMk X (.Call (.Name c p) [e] [] pos) (fun σ H Q => te σ H fun v H1 => ∃ v', [v] = [v'] ∧ ∀ d, H1 d = none → Q (.ref (He.ga K c)) (some d) (upd H1 d (.xd [(f, v')])))
section
variable (K : PySem.W.Frag) (mg : Str → Option Value) (C : Ci) (Φ : Phi) (k : Nat)
def DS (Wx : WX) (sn : Sn) (s : Stmt) (m : M) : Prop := ∃ t, (∀ X, Xok K mg C Φ k Wx sn X → PS X s t) ∧ ∀ ρ S, EvS K mg Wx t ρ S (exS Φ m ρ S)
def DSs (Wx : WX) (sn : Sn) (s : List Stmt) (m : M) : Prop := ∃ t, (∀ X, Xok K mg C Φ k Wx sn X → PSs X s t) ∧ ∀ ρ S, EvS K mg Wx t ρ S (exS Φ m ρ S)
structure Dst (m : M) : Prop where
  s : ∀ Wx sn s, ckS C m sn s = true → DS K mg C Φ k Wx sn s m
  ss : ∀ Wx sn s, ckS.ckSs C m sn s = true → DSs K mg C Φ k Wx sn s m
end
section
variable {K : PySem.W.Frag} {mg : Str → Option Value} {C : Ci} {Φ : Phi} {k : Nat} {Wx : WX} {sn : Sn} {X : Cx}
theorem swF {e : Expr} {o : Option Expr} {l : Nat} {env : Env} (h : notLc e = true) : swapsWith e o l env = pure false := by
  cases e <;> first | rfl | cases h
theorem swC {t e : Expr} {l : Nat} {env : Env} (hn : env.scope.names = sn) (hk : env.scope.kind = .function) (h : (notLc e || isCellT sn t) = true) : swapsWith e (some t) l env = pure false := by
  rcases Bool.or_eq_true _ _ ▸ h with h | h
  · exact swF h
  · unfold isCellT at h
    split at h
    · rename_i x px _
      split at h
      · rename_i hc
        have kx : env.kindOf x = some .cell := by unfold Env.kindOf; rw [hn]; exact hc
        have hb : env.blockKind = .function := by unfold Env.blockKind; rw [hk]; rfl
        cases e <;> first
          | rfl
          | (unfold swapsWith; simp only [hb, kx]; rfl)
      · cases h
    · cases h
theorem d_asg (hT : Tok K C Φ) (tg a : M) : Dst K mg C Φ k (.asg tg a) := by
  refine ⟨fun Wx sn s h => ?_, fun _ _ _ h => by cases h⟩
  unfold ckS at h
  split at h
  · rename_i t e p
    simp only [Bool.and_eq_true] at h
    obtain ⟨h1, h2, h3, h4, h5⟩ := h
    obtain ⟨ta, pa, ea⟩ := (d_all (K := K) (mg := mg) (k := k) hT a).e Wx sn _ h4
    obtain ⟨g, pg, eg⟩ := (d_all (K := K) (mg := mg) (k := k) hT tg).g Wx sn _ h5
    refine ⟨_, fun X x => ps_asg (pa X x.c) (pg X x.c) (swC x.nm x.kd h1) ?_ ?_, fun ρ S => es_asg ea eg⟩
    · cases t <;> first
        | rfl
        | (cases e <;> first | rfl | cases h2)
    · rw [assignEach_cons h3]
      rfl
  · cases h
theorem d_asgLc (hT : Tok K C Φ) (i : Nat) (a : M) : Dst K mg C Φ k (.asgLc i a) := by
  refine ⟨fun Wx sn s h => ?_, fun _ _ _ h => by cases h⟩
  unfold ckS at h
  split at h
  · rename_i x px elt gs sc ep p
    simp only [Bool.and_eq_true, decide_eq_true_eq] at h
    obtain ⟨h1, h2, h3, h4, h5⟩ := h
    have core : ∀ own tg it ts e, ckE C (.lc own tg it ts e) sn (.ListComp elt gs sc ep) = true → ∃ t, (∀ X, Xok K mg C Φ k Wx sn X → PS X (.Assign [.Name x px] (.ListComp elt gs sc ep) p) (tAsg t (gName i))) ∧ ∀ ρ S, EvN K mg Wx t ρ S (evE Φ (.lc own tg it ts e) ρ S) := fun own tg it ts e h => by
      unfold ckE at h
      split at h
      · rename_i elt' tgE itE ifs sc' p' hq
        cases hq
        simp only [Bool.and_eq_true] at h
        obtain ⟨q1, q2, q3, q4, q5, q6, q7⟩ := h
        obtain ⟨wi, pi, ei⟩ := (d_all (K := K) (mg := mg) (k := k) hT it).i Wx sn _ _ q4
        obtain ⟨g, pg, eg⟩ := (d_all (K := K) (mg := mg) (k := k) hT tg).g NoX sc.names _ q5
        obtain ⟨tt, pt, et⟩ := (d_all (K := K) (mg := mg) (k := k) hT ts).ts NoX sc.names _ q6
        obtain ⟨te, pe, ee⟩ := (d_all (K := K) (mg := mg) (k := k) hT e).e NoX sc.names _ q7
        refine ⟨tLc wi g tt te own, fun X xk => ?_, fun ρ S => ev_lc ei eg (fun i hi => ?_) et ee⟩
        · have c := xk.c
          have hb := c.blkOk (a := true) (b := true) (l := []) (sc := ⟨.function, sn, false, false, []⟩) rfl q1
          have hl : X.env.scope.names.lookup x = some .local := c.lcl _ h2
          have := ps_setLc (elt := elt) (i := i) (py := px) (pos := ep) (spos := p) c.calm (by rw [c.hN]; exact c.nd) (by rw [c.hN]; exact h1) hl (sw_true xk.kd hl h4 (by simpa using h3)) (pi X c) hb (fun s H Ca cl fp => pg _ (c.blk sc s H Ca cl fp)) (fun s H Ca cl fp => pt _ (c.blk sc s H Ca cl fp)) (fun s H Ca cl fp => pe _ (c.blk sc s H Ca cl fp)) (fold_of q2)
          rw [zipOwn_snd] at this
          exact this
        · rw [List.all_eq_true] at q3
          simpa using q3 i hi
      · cases h
    split at h5
    · obtain ⟨t, pt, et⟩ := core _ _ _ _ _ h5
      exact ⟨_, pt, fun ρ S => es_asgLc fun ρ S => (et ρ S).ev⟩
    · obtain ⟨t, pt, et⟩ := core _ _ _ _ _ h5
      exact ⟨_, pt, fun ρ S => es_asgLc fun ρ S => ev_new et⟩
    · cases h5
  · cases h
def starB : Expr → Bool
  | .Starred .. => true
  | _ => false
theorem ns_of {a : Expr} (ha : unst a = true) : starB a = false := by
  cases a <;> first | rfl | cases ha
theorem sw_pair {x y : Str} {px py pt p2 : Pos} {kt k2} {a b : Expr} {env : Env} (hk : env.scope.kind = .function) (hx : env.scope.names.lookup x = some .local) (hy : env.scope.names.lookup y = some .local) (hxy : x ≠ y) (ha : unst a = true) (hb : unst b = true) (hl : (py.line == px.line) = true)
    (h1 : [a, b].all (foldedForSure 8) = false) (h2 : [a, b].all (constantsAlone 8) = false) : swappedStores [.Tuple [.Name x px, .Name y py] kt pt] (.Tuple [a, b] k2 p2) env = pure (some [x, y]) := by
  have kx : env.kindOf x = some .local := hx
  have ky : env.kindOf y = some .local := hy
  have hb' : env.blockKind = .function := by unfold Env.blockKind; rw [hk]; rfl
  have hd : ([x, y] : List Str).eraseDups.length = 2 := by
    rw [List.eraseDups_cons]
    have : (y == x) = false := by
      rw [Bool.eq_false_iff]
      intro h
      exact hxy (beq_iff_eq.mp h).symm
    simp [this, List.eraseDups_cons]
  unfold swappedStores
  simp only [List.length_cons, List.length_nil, hb', List.head?_cons, Option.map_some, Option.getD_some, Expr.pos, List.filterMap_cons, List.filterMap_nil, kx, ky, hl, h1, h2]
  simp [hd]
  intro h
  rcases h with h | h
  · have e := ns_of ha
    cases (h.symm.trans e : true = false)
  · have e := ns_of hb
    cases (h.symm.trans e : true = false)
theorem d_par (hT : Tok K C Φ) (i j : Nat) (a b : M) : Dst K mg C Φ k (.par2 i j a b) := by
  refine ⟨fun Wx sn s h => ?_, fun _ _ _ h => by cases h⟩
  unfold ckS at h
  split at h
  · simp only [Bool.and_eq_true, decide_eq_true_eq] at h
    obtain ⟨h1, h2, h3, h4, h5, h6⟩ := h
    unfold swOk at h4
    simp only [Bool.and_eq_true, decide_eq_true_eq, Bool.not_eq_true'] at h4
    obtain ⟨q1, q2, q3, q4, q5, q6, q7, q8⟩ := h4
    obtain ⟨ta, pa, ea⟩ := (d_all (K := K) (mg := mg) (k := k) hT a).e Wx sn _ h5
    obtain ⟨tb, pb, eb⟩ := (d_all (K := K) (mg := mg) (k := k) hT b).e Wx sn _ h6
    refine ⟨_, fun X x => ?_, fun ρ S => es_par ea eb⟩
    have c := x.c
    exact ps_par c.calm (by rw [c.hN]; exact c.nd) (by rw [c.hN]; exact h1) (by rw [c.hN]; exact h2) h3 (c.lcl _ q1) (c.lcl _ q2) (pa_cons (pa X c) (pa_cons (pb X c) pa_nil (star_of q5)) (star_of q4))
      (sw_pair x.kd (c.lcl _ q1) (c.lcl _ q2) q3 q4 q5 q6 q7 q8)
  · cases h
theorem d_aug (hT : Tok K C Φ) (i : Nat) (o : O2) (a : M) : Dst K mg C Φ k (.aug i o a) := by
  refine ⟨fun Wx sn s h => ?_, fun _ _ _ h => by cases h⟩
  unfold ckS at h
  split at h
  · simp only [Bool.and_eq_true, decide_eq_true_eq] at h
    obtain ⟨h1, h2, h3, h4, h5⟩ := h
    obtain ⟨ta, pa, ea⟩ := (d_all (K := K) (mg := mg) (k := k) hT a).e Wx sn _ h5
    cases o <;> first | (cases h4; done) | skip
    · have h3' := isOp_eq h3
      cases h3'
      refine ⟨_, fun X x => ?_, fun ρ S => es_aug (f := fun i j => i + j) (fun x y w e => ?_) ea⟩
      · have c := x.c
        obtain ⟨l1, l2⟩ := c.loc _ h2
        exact ps_aug (by rw [c.hN]; exact c.nd) (by rw [c.hN]; exact h1) l1 (pa X c) ip_add l2
      · unfold augW at e
        split at e
        · cases e; exact ⟨_, _, rfl, rfl, rfl⟩
        · rename_i hq; cases hq
        · cases e
    · have h3' := isOp_eq h3
      cases h3'
      refine ⟨_, fun X x => ?_, fun ρ S => es_aug (f := fun i j => i - j) (fun x y w e => ?_) ea⟩
      · have c := x.c
        obtain ⟨l1, l2⟩ := c.loc _ h2
        exact ps_aug (by rw [c.hN]; exact c.nd) (by rw [c.hN]; exact h1) l1 (pa X c) ip_sub l2
      · unfold augW at e
        split at e
        · rename_i hq; cases hq
        · cases e; exact ⟨_, _, rfl, rfl, rfl⟩
        · cases e
  · cases h
theorem d_setix (hT : Tok K C Φ) (a b v : M) : Dst K mg C Φ k (.setix a b v) := by
  refine ⟨fun Wx sn s h => ?_, fun _ _ _ h => by cases h⟩
  unfold ckS at h
  split at h
  · simp only [Bool.and_eq_true] at h
    obtain ⟨h0, h1, h2, h3, h4⟩ := h
    obtain ⟨te, pe, ee⟩ := (d_all (K := K) (mg := mg) (k := k) hT v).e Wx sn _ h2
    obtain ⟨ta, pa, ea⟩ := (d_all (K := K) (mg := mg) (k := k) hT a).e Wx sn _ h3
    obtain ⟨tb, pb, eb⟩ := (d_all (K := K) (mg := mg) (k := k) hT b).e Wx sn _ h4
    rename_i x1 y p' e p
    refine ⟨_, fun X x => ps_asg (pe X x.c) (pg_sub (pa X x.c) (pb X x.c) set_list ?_) (show swapsWith e (some (.Subscript x1 y p')) p.line X.env = pure false from swF h1), fun ρ S => es_setix ea eb ee⟩
    intro v
    cases y <;> first | rfl | cases h0
  · cases h
theorem d_ex (hT : Tok K C Φ) (a : M) : Dst K mg C Φ k (.ex a) := by
  refine ⟨fun Wx sn s h => ?_, fun _ _ _ h => by cases h⟩
  unfold ckS at h
  split at h
  · simp only [Bool.and_eq_true] at h
    obtain ⟨ta, pa, ea⟩ := (d_all (K := K) (mg := mg) (k := k) hT a).e Wx sn _ h.2
    exact ⟨_, fun X x => ps_expr (pa X x.c) (swF h.1), fun ρ S => es_ex ea⟩
  · cases h
theorem d_ret (hT : Tok K C Φ) (a : M) : Dst K mg C Φ k (.ret a) := by
  refine ⟨fun Wx sn s h => ?_, fun _ _ _ h => by cases h⟩
  unfold ckS at h
  split at h
  · obtain ⟨ta, pa, ea⟩ := (d_all (K := K) (mg := mg) (k := k) hT a).e Wx sn _ h
    exact ⟨_, fun X x => ps_ret (pa X x.c), fun ρ S => es_ret ea⟩
  · cases h
theorem d_retN : Dst K mg C Φ k .retN := by
  refine ⟨fun Wx sn s h => ?_, fun _ _ _ h => by cases h⟩
  unfold ckS at h
  split at h
  · exact ⟨_, fun X x => ps_retN, fun ρ S => es_retN⟩
  · cases h
theorem d_ift (hT : Tok K C Φ) {t a b : M} (ia : Dst K mg C Φ k a) (ib : Dst K mg C Φ k b) : Dst K mg C Φ k (.ift t a b) := by
  refine ⟨fun Wx sn s h => ?_, fun _ _ _ h => by cases h⟩
  unfold ckS at h
  split at h
  · simp only [Bool.and_eq_true] at h
    obtain ⟨tt, pt, et⟩ := (d_all (K := K) (mg := mg) (k := k) hT t).t Wx sn _ h.1.1 h.1.2
    obtain ⟨ta, pa, ea⟩ := ia.ss Wx sn _ h.2.1
    obtain ⟨tb, pb, eb⟩ := ib.ss Wx sn _ h.2.2
    exact ⟨_, fun X x => ps_if (pt X x.c) (pa X x) (pb X x), fun ρ S => es_ift et ea eb⟩
  · cases h
theorem d_for (hT : Tok K C Φ) {tg it body : M} (ib : Dst K mg C Φ k body) : Dst K mg C Φ k (.for_ tg it body) := by
  refine ⟨fun Wx sn s h => ?_, fun _ _ _ h => by cases h⟩
  unfold ckS at h
  split at h
  · simp only [Bool.and_eq_true] at h
    obtain ⟨wi, pi, ei⟩ := (d_all (K := K) (mg := mg) (k := k) hT it).i Wx sn _ _ h.2.1
    obtain ⟨g, pg, eg⟩ := (d_all (K := K) (mg := mg) (k := k) hT tg).g Wx sn _ h.2.2.1
    obtain ⟨tb, pb, eb⟩ := ib.ss Wx sn _ h.2.2.2
    exact ⟨_, fun X x => ps_for x.pas x.c.calm (pi X x.c) (pg X x.c) (pb X x) (fold_of h.1), fun ρ S => es_for ei eg eb⟩
  · cases h
theorem d_wh (hT : Tok K C Φ) {n : Nat} {t body : M} (ib : Dst K mg C Φ k body) : Dst K mg C Φ k (.wh n t body) := by
  refine ⟨fun Wx sn s h => ?_, fun _ _ _ h => by cases h⟩
  unfold ckS at h
  split at h
  · simp only [Bool.and_eq_true] at h
    obtain ⟨tt, pt, et⟩ := (d_all (K := K) (mg := mg) (k := k) hT t).t Wx sn _ h.1.1 h.1.2
    obtain ⟨tb, pb, eb⟩ := ib.ss Wx sn _ h.2
    exact ⟨_, fun X x => ps_while x.pas (pt X x.c) (pb X x), fun ρ S => es_wh et eb⟩
  · cases h
theorem d_brk : Dst K mg C Φ k .brk := by
  refine ⟨fun Wx sn s h => ?_, fun _ _ _ h => by cases h⟩
  unfold ckS at h
  split at h
  · exact ⟨_, fun X x => ps_break, fun ρ S => es_brk⟩
  · cases h
theorem d_cnt : Dst K mg C Φ k .cnt := by
  refine ⟨fun Wx sn s h => ?_, fun _ _ _ h => by cases h⟩
  unfold ckS at h
  split at h
  · exact ⟨_, fun X x => ps_continue, fun ρ S => es_cnt⟩
  · cases h
theorem d_pss : Dst K mg C Φ k .pss := by
  refine ⟨fun Wx sn s h => ?_, fun _ _ _ h => by cases h⟩
  unfold ckS at h
  split at h
  · exact ⟨_, fun X x => ps_pass, fun ρ S => es_pss⟩
  · cases h
theorem d_nev : Dst K mg C Φ k .nev := ⟨fun Wx sn s h => ⟨_, fun X x => ps_never, fun ρ S σ F A H g rr D p => p⟩, fun _ _ _ h => by cases h⟩
theorem Xok.tr {W : WX} {pn : List (Addr × Obj)} {xe : Value → Shared → Prop} (x : Xok K mg C Φ k Wx sn X) (tk : Takes (X.tr pn xe) W) (pas : PassesOwn (model X.prog X.w) X.A X.env xe) : Xok K mg C Φ k W sn (X.tr pn xe) :=
  ⟨⟨x.c.hK, x.c.hm, x.c.hN, x.c.nd, x.c.calm, x.c.room, x.c.vis, x.c.loc, x.c.lcl, x.c.gl, x.c.cl, tk, ⟨x.c.st.gI, x.c.st.gS, x.c.st.gF, x.c.st.zO, x.c.st.fns⟩⟩, pas, x.nm, x.kd, x.stk, x.frm, x.hex⟩
theorem d_rais (hR : Rok K mg C) (c : Str) : Dst K mg C Φ k (.rais c) := by
  refine ⟨fun Wx sn s h => ?_, fun _ _ _ h => by cases h⟩
  unfold ckS at h
  split at h
  · simp only [Bool.and_eq_true, decide_eq_true_eq] at h
    obtain ⟨h1, h2, h3, h4⟩ := h
    subst h1
    exact ⟨tRais K Wx c, fun X x => ps_raise x.c.calm x.c.tk (hR.rr X x.c.hK x.c.hm c h2 _ _ _ _ _ (x.c.gl _ h3) (okN_d h4).1), fun ρ S => es_rais⟩
  · cases h
theorem d_raisF (hT : Tok K C Φ) (hR : Rok K mg C) (c f : Str) (a : M) : Dst K mg C Φ k (.raisF c f a) := by
  refine ⟨fun Wx sn s h => ?_, fun _ _ _ h => by cases h⟩
  unfold ckS at h
  split at h
  · simp only [Bool.and_eq_true, decide_eq_true_eq] at h
    obtain ⟨h1, h2, h3, h4, h5, h6⟩ := h
    subst h1
    obtain ⟨ta, pa, ea⟩ := (d_all (K := K) (mg := mg) (k := k) hT a).e Wx sn _ h6
    exact ⟨tRaisF K Wx c f ta, fun X x => ps_raise x.c.calm x.c.tk (hR.rf X x.c.hK x.c.hm k x.c.room c f h2 _ ta _ _ (pa X x.c) h5 (x.c.gl _ h3)), fun ρ S => es_raisF ea⟩
  · cases h
theorem d_tryK (hT : Tok K C Φ) (q ie i : Nat) {b : M} (ib : Dst K mg C Φ k b) : Dst K mg C Φ k (.tryK q ie i b) := by
  refine ⟨fun Wx sn s h => ?_, fun _ _ _ h => by cases h⟩
  unfold ckS at h
  split at h
  · simp only [Bool.and_eq_true, decide_eq_true_eq] at h
    obtain ⟨h1, h2, h3, h4, h5, h6, h7, h8, h9, h10⟩ := h
    subst h1
    unfold isTryE at h9
    split at h9
    · rename_i z hz
      rw [decide_eq_true_eq] at h9
      subst h9
      have hb := fun Wx => ib.ss Wx sn _ h10
      refine ⟨fun D σ H => (hb (wKeep K (z.v K) ie i Wx D)).choose D σ H, fun X x => ?_, fun ρ S => es_tryK (tb := fun W => (hb W).choose) hT hz fun W ρ S => (hb W).choose_spec.2 ρ S⟩
      have c := x.c
      have hzo := c.st.zO q [z] hz z (List.mem_singleton.mpr rfl)
      have hnm : Names X (nmZ z) (z.v X.K) := by
        refine ⟨c.gl _ h6, (okN_d h7).1, ?_⟩
        cases z with
        | bt n => exact .inr ⟨hzo.1, hzo.2.1, hzo.2.2⟩
        | own x => exact .inl hzo
      have hK := c.hK
      subst hK
      exact ps_try_keep (tb := fun W => (hb W).choose) x.stk x.frm x.hex (by rw [c.hN]; exact c.nd) (by rw [c.hN]; exact h2) (c.lcl _ h4) (by rw [c.hN]; exact h3) (c.lcl _ h5) (okN_d h8).1 (okN_d h8).2 hnm c.tk
        fun W pn xe tk pas => (hb W).choose_spec.1 _ (x.tr tk pas)
    · cases h9
  · cases h
theorem d_snil : Dst K mg C Φ k .snil := by
  refine ⟨fun _ _ _ h => (by cases h), fun Wx sn s h => ?_⟩
  unfold ckS.ckSs at h
  split at h
  · exact ⟨_, fun X x => pss_nil, fun ρ S => es_snil⟩
  · cases h
theorem d_scons {a b : M} (ia : Dst K mg C Φ k a) (ib : Dst K mg C Φ k b) : Dst K mg C Φ k (.scons a b) := by
  refine ⟨fun _ _ _ h => (by cases h), fun Wx sn s h => ?_⟩
  unfold ckS.ckSs at h
  split at h
  · simp only [Bool.and_eq_true] at h
    obtain ⟨ta, pa, ea⟩ := ia.s Wx sn _ h.1
    obtain ⟨tb, pb, eb⟩ := ib.ss Wx sn _ h.2
    exact ⟨_, fun X x => pss_cons (pa X x) (pb X x), fun ρ S => es_scons ea eb⟩
  · cases h
theorem d_stm (hT : Tok K C Φ) (hR : Rok K mg C) : ∀ m, Dst K mg C Φ k m := by
  intro m
  induction m with
  | asg tg e _ _ => exact d_asg hT tg e
  | asgLc i e _ => exact d_asgLc hT i e
  | par2 i j a b _ _ => exact d_par hT i j a b
  | aug i o e _ => exact d_aug hT i o e
  | setix a b e _ _ _ => exact d_setix hT a b e
  | ex e _ => exact d_ex hT e
  | ret e _ => exact d_ret hT e
  | retN => exact d_retN
  | ift t a b _ ia ib => exact d_ift hT ia ib
  | for_ tg it b _ _ ib => exact d_for hT ib
  | wh n t b _ ib => exact d_wh hT ib
  | brk => exact d_brk
  | cnt => exact d_cnt
  | pss => exact d_pss
  | nev => exact d_nev
  | rais c => exact d_rais hR c
  | raisF c f a _ => exact d_raisF hT hR c f a
  | tryK q ie i b ib => exact d_tryK hT q ie i ib
  | snil => exact d_snil
  | scons a b ia ib => exact d_scons ia ib
  | _ => exact ⟨fun _ _ _ h => (by cases h), fun _ _ _ h => (by cases h)⟩
end
end Mi

/-! MiN: every def of the table keeps the interpreter's promise. -/
namespace Mi
open PySem PySem.Spec PyProof.Rows L2

section
variable {K : PySem.W.Frag} {mg : Str → Option Value} {F F' : Hp} {A A' : List Addr} {H H' : Hp} {S : Sto}
theorem withD_full {fn : Fn} {ws : List W} (h : ws.length = fn.ps.length) : withD fn ws = ws := by
  unfold withD
  rw [h, Nat.sub_self, Nat.sub_zero, List.drop_length]
  exact List.append_nil _
theorem WRs.get {ws : List W} : ∀ {vs : List V} {i : Nat} {w : W}, WRs K F A ws vs → ws[i]? = some w → ∃ v, vs[i]? = some v ∧ WR K F A w v := by
  induction ws with
  | nil => intro vs i w _ e; simp at e
  | cons x ws ih =>
    intro vs i w h e
    cases vs with
    | nil => exact h.elim
    | cons v vs =>
      cases i with
      | zero =>
        simp at e
        subst e
        exact ⟨v, rfl, h.1⟩
      | succ i =>
        obtain ⟨u, e1, e2⟩ := ih (i := i) h.2 (by simpa using e)
        exact ⟨u, by simpa using e1, e2⟩
theorem rho_start {fn : Fn} {ws : List W} {vs : List V} (h : WRs K F A ws vs) : RhoR K F A (startR fn ws) (L2.start fn.N vs) := by
  have hl := h.length
  unfold startR L2.start
  refine ⟨by simp only [List.length_append, List.length_map, List.length_replicate, hl], fun i w e => ?_⟩
  by_cases hi : i < ws.length
  · rw [List.getElem?_append_left (by simpa using hi), List.getElem?_map] at e
    cases q : ws[i]? with
    | none => rw [q] at e; cases e
    | some x =>
      rw [q] at e
      cases e
      obtain ⟨v, e1, e2⟩ := h.get q
      exact ⟨v, by rw [List.getElem?_append_left (by rw [List.length_map, ← hl]; exact hi), List.getElem?_map, e1]; rfl, e2⟩
  · rw [List.getElem?_append_right (by simpa using Nat.le_of_not_lt hi), List.getElem?_replicate] at e
    split at e <;> cases e
theorem fin_post {r : RS} {Q : VK} {E : XK} {n : Nat} (hn : n = A.length) (p : Post K mg (fun cls d _ H' => E cls d H') [] (WR K) F A H (fin n r) Q) : PostS K mg (fun cls d _ H' => E cls d H') F A H r { nx := fun _ H' => Q .non H', rt := Q } := by
  have lv : ∀ (w : W) (S : Sto) (v : V) (F' : Hp) (A' : List Addr) (H' : Hp), Post K mg (fun cls d _ H' => E cls d H') [] (WR K) F A H (leave n w S) Q → Stp F A H F' A' H' → Good K F' A' S H' → WR K F' A' w v → Q v H' := fun w S v F' A' H' p s g r => by
    unfold leave at p
    have s' : Stp F A H F' (A'.take n) H' := by rw [hn]; exact s.cut
    split at p
    · rename_i q
      split at p
      · rename_i hq
        refine p v F' (A'.take n) H' s' (g.cut n) ?_
        obtain ⟨a, e1, e2⟩ := r
        exact ⟨a, by rw [List.getElem?_take, if_pos hq]; exact e1, e2⟩
      · exact p v F' A' H' s g r
    · rename_i hw
      refine p v F' (A'.take n) H' s' (g.cut n) ?_
      cases w with
      | d x => exact r
      | ptr q => exact absurd rfl (hw q)
      | exn x => exact r
  cases r with
  | nx ρ S => exact fun σ F' A' H' s g rr => lv (.d .none) S .non F' A' H' p s g (show Rp K F' .non .none from .non)
  | rt w S => exact fun v F' A' H' s g rr => lv w S v F' A' H' p s g rr
  | bk ρ S => exact p.elim
  | ct ρ S => exact p.elim
  | exc x ρ S => exact fun cls d σ F' A' H' s g rr xr => p cls d F' (A'.take n) H' (by rw [hn]; exact s.cut) (g.cut n) xr
  | err => exact p.elim
end
theorem run_kn (kn : Kn) (T : List Fn) (n : Nat) : (run kn T n).kn = kn := by
  cases n <;> rfl
theorem run_idem (kn : Kn) (T : List Fn) (n f : Nat) (fn : Fn) (ws : List W) (S : Sto) (hf : T[f]? = some fn) : (run kn T n).run f ws S = .err ∨ ((withD fn ws).length = fn.ps.length ∧ (run kn T n).run f (withD fn ws) S = (run kn T n).run f ws S) := by
  cases n with
  | zero => exact .inl rfl
  | succ n =>
    unfold run
    simp only [hf]
    unfold runF
    by_cases h : (withD fn ws).length = fn.ps.length
    · right
      refine ⟨h, ?_⟩
      rw [withD_full h]
    · left
      rw [if_neg h]

/-- what is known of a def -/
structure Fdef (K : PySem.W.Frag) (mg : Str → Option Value) (B : Tb) (fn : Fn) (a : Addr) (fd : FuncData) : Prop where
  mgf : mg fn.name = some (.ref a)
  ex : ∃ qual params body scope, FunD K fn.name qual params body scope (fn.dv.map dV) [] a fd ∧ C8.scC fn.N fn.ps scope = true ∧ ckS.ckSs ⟨B, fn.N⟩ fn.body scope.names body = true
  bd : ∀ j, ∃ ds, Vals ((fn.dv.drop j).map dV) ds ∧ Binds K fd fn.ps ds
  ba : fn.dv = [] → ∀ (s : Shared) (us : List Value), us.length = fn.ps.length → BindsTo s fd ⟨us, []⟩ (fn.ps.zip us)
structure Facts (K : PySem.W.Frag) (mg : Str → Option Value) (B : Tb) (kn : Kn) : Prop where
  cI : ∀ x j, (x, j) ∈ B.gI → ∃ u, mg x = some u ∧ RelV (.int j) u
  cS : ∀ x j, (x, j) ∈ B.gS → ∃ u, mg x = some u ∧ RelV (.str j) u
  cF : ∀ x ∈ B.gF, mg x = none
  cZ : ∀ (k : Nat) (zs : List Cz), B.ks[k]? = some zs → ∀ z ∈ zs, zOk K mg z
  exm : ∀ k z c b, B.ks[k]? = some [z] → kn.ask k c = some b → PySem.W.exmOne K (.ref (He.ga K c)) (z.v K) = some b
  kit : ∀ k zs c b, B.ks[k]? = some zs → kn.ask k c = some b → PySem.W.kitAny K (.ref (He.ga K c)) (zs.map (Cz.v K)) = some b ∧ ExcC K (He.ga K c)
  kit1 : ∀ k z c b, B.ks[k]? = some [z] → kn.ask k c = some b → PySem.W.kitOne K (.ref (He.ga K c)) (z.v K) = some b
  xfc : ∀ c f, (c, f) ∈ B.xf → XfC K (He.ga K c) ∧ PySem.W.findIn K (.ref (He.ga K c)) f = some none
  rok : ∀ N, Rok K mg ⟨B, N⟩
  dv : ∀ (f : Nat) (fn : Fn), B.T[f]? = some fn → fn.dv.all dOk = true
  fns : ∀ (f : Nat) (fn : Fn), B.T[f]? = some fn → ∃ a fd, Fdef K mg B fn a fd
theorem sound {P : Program} {w : World} {K : PySem.W.Frag} {mg : Str → Option Value} {base : Heap} {B : Tb} {kn : Kn} (hF : Facts K mg B kn) :
    ∀ (n f : Nat) (fn : Fn), B.T[f]? = some fn → ∀ a fd, Fdef K mg B fn a fd → FnOk P w K mg base (L2.CX P w) n a fd fn.ps (spW K mg fn ((run kn B.T n).run f)) := by
  intro n
  induction n with
  | zero =>
    intro f fn hf a fd D
    refine ⟨fun vs H Q E h => h.1, fun A outer s H args us vs Q E hr e0 hb hv h => ?_⟩
    obtain ⟨_, F, A, S, ws, _, _, p⟩ := h
    exact p.elim
  | succ n ih =>
    intro f fn hf a fd D
    obtain ⟨qual, params, body, scope, hD, hsc, hck⟩ := D.ex
    have hS := C8.fnScope_by hsc
    refine hD.ok hS (fun vs H Q E h => h.1) fun cdv A outer s H vs Q E hr h => ?_
    obtain ⟨hl, F, A1, S, ws, g, rs, p⟩ := h
    have hk := run_kn kn B.T n
    have hT : Tok K ⟨B, fn.N⟩ (run kn B.T n) := ⟨fun k z c b h1 h2 => hF.exm k z c b h1 (by rw [hk] at h2; exact h2), fun k zs c b h1 h2 => hF.kit k zs c b h1 (by rw [hk] at h2; exact h2), fun k z c b h1 h2 => hF.kit1 k z c b h1 (by rw [hk] at h2; exact h2), hF.xfc, hF.dv, fun f fn ws S hf => run_idem kn B.T n f fn ws S hf⟩
    obtain ⟨t, pt, et⟩ := (d_stm (K := K) (mg := mg) (C := ⟨B, fn.N⟩) (Φ := run kn B.T n) (k := n) hT (hF.rok fn.N) fn.body).ss (fun cls d _ H' => E cls d H') scope.names body hck
    refine ⟨t, pt _ ⟨⟨rfl, rfl, rfl, hS.nd, rfl, hr, fun x h => isVis_eq h, fun x h => ⟨isLoc_eq h, .inl rfl⟩, fun x h => isLcl_eq h, fun x h => isGl_eq h, fun x h => h, takes_of rfl rfl rfl rfl, ⟨hF.cI, hF.cS, hF.cF, hF.cZ, fun f fn hf => ?_⟩⟩, passes_of rfl, rfl, hS.kind, rfl, rfl, rfl⟩, ?_⟩
    · obtain ⟨a, fd, D⟩ := hF.fns f fn hf
      obtain ⟨_, _, _, _, hD, _, _⟩ := D.ex
      exact ⟨a, fd, D.mgf, hD.kp, ih f fn hf a fd D, D.bd⟩
    have hw : ws.length = fn.ps.length := rs.length.trans hl
    have e : (run kn B.T (n + 1)).run f ws S = fin S.length (exS (run kn B.T n) fn.body (startR fn ws) S) := by
      show (match B.T[f]? with | some fn => runF (run kn B.T n) fn ws S | none => .err) = _
      rw [hf]
      show runF (run kn B.T n) fn ws S = _
      unfold runF
      rw [withD_full hw, if_pos hw]
    rw [e] at p
    exact et _ _ _ F A1 H g (rho_start rs) _ (fin_post g.len.symm p)
end Mi

namespace PySem
namespace FRow
open PySem.W PySem.Calls PyProof.Rows PySem.HandSPX
/-! ### the text of __init__ -/
def iA (p1 p2 : Pos) : Arguments := { posonlyargs := [], args := [{ arg := "self", annotation := none, pos := p1 }, { arg := "row", annotation := none, pos := p2 }], vararg := none, kwonlyargs := [], kw_defaults := [], kwarg := none, defaults := [] }
def iB (q1 q2 q3 q4 : Pos) : List Stmt := [.Assign [.Attribute (.Name "self" q1) "row" q2] (.Name "row" q3) q4]
def iS : Scope := { kind := .function, names := [(PySem.Str.ofString "self", .local), (PySem.Str.ofString "row", .local)], isGenerator := false, isCoroutine := false, more := [] }
/-- what the written part says of Low, at C, and of its __init__, at fI -/
structure FRowT (K : Frag) (mg : Str → Option Value) (C fI : Addr) : Prop where
  gC : mg "NoText" = some (.ref C)
  cls : ∃ nm q N bs bm sn sub ab col dd k0 k1 k2 k3 k5, K.lookup C = some (excClassObj nm q C N bs bm true sn sub ab col dd k0 k1 k2 k3 k5 "ValueError.__new__") ∧ refsVE bm = true
  sa : findIn K (.ref C) "__setattr__" = some (some (.builtin "object.__setattr__"))
  ga : findIn K (.ref C) "__getattribute__" = some (some (.builtin "BaseException.__getattribute__"))
  gg : findIn K (.ref C) "__getattr__" = some none
  noN : findIn K (.ref C) "row" = some none
  iC : findIn K (.ref C) "__init__" = some (some (.ref fI))
  tC : typeIn K (.ref fI) = some (.type "function")
  kC : keepIn K (.ref C) = true
  exC : subIn K (.ref C) (.type "BaseException") = some true
  tyC : typeIn K (.ref C) = some (.type "type")
  hdC : hasDictIn K C = true
  te : exmOne K (.ref C) (.ref C) = some true
  fn : ∃ (oc : Value) (od : Option Addr) (doc pm : Value) (an : Option Addr) (cdv ct : Value) (osl : Array (Option Value)) (p1 p2 q1 q2 q3 q4 : Pos),
    K.lookup fI = some ⟨oc, od, .func (fnOf "__init__" "NoText.__init__" (iA p1 p2) (iB q1 q2 q3 q4) iS .none .none doc pm an cdv ct), osl⟩ ∧ codeIn K cdv "NoText.__init__" = true
theorem one_size (v : Value) : [v].length ≤ sizeLine := by
  rw [sizeLine_eq]
  exact (by decide : 1 ≤ 16777216)
theorem kept_but {K : Frag} {h h' : Heap} {x : Addr} (X : K.In h) (hx : K.lookup x = none) (k : ∀ b o, b ≠ x → h.get? b = some o → h'.get? b = some o) : K.In h' := fun a o e =>
  k a o (fun z => by rw [z, hx] at e; cases e) (X a o e)
theorem ldC {M : Model} {s : Shared} {name : Str} {scope : Scope} {L a : Addr} {cd : Value} {m : Str → Option Value} {x : Str} {pos : Pos} {v : Value} {Q : Value → Shared → Prop} {A : Around} {E : Value → Shared → Prop} (hn : s.heap.Ns L m) (hv : m x = some v) (h : Q v s)
    (hk : scope.kind = .function := by rfl) (hl : (envOfC name scope L a cd).kindOf x = some .local := by rfl) (hd : (x == ("__debug__" : Str)) = false := by decide) :
    wpAny M A (eval (.Name x pos) (envOfC name scope L a cd)) Q E s := wpAny_Name (wpAny_loadName_local hk hl hn hv h) hd
/-- what __init__ leaves of a fresh exception at x -/
structure InitEnd (h h' : Heap) (x C dx t1 : Addr) (v : Value) : Prop where
  keep : ∀ b o, b ≠ x → h.get? b = some o → h'.get? b = some o
  obj : h'.get? x = some { cls := .ref C, dict := some dx, data := .fields #[.ref t1, .none, .none, .none, .bool false, .none] }
  dbig : h.objs.size ≤ dx
  dne : dx ≠ x
  ns : h'.Ns1 dx (fun y => if y = "row" then some v else none)
/-- a made Low -/
structure OwnMade (h h' : Heap) (e C d : Addr) (v : Value) : Prop where
  keep : ∀ b o, h.get? b = some o → h'.get? b = some o
  new : h.objs.size ≤ e
  obj : ∃ oe vs, h'.get? e = some oe ∧ oe.cls = .ref C ∧ oe.dict = some d ∧ oe.data = .fields vs ∧ vs[1]? = some .none
  dbig : h.objs.size ≤ d
  dne : d ≠ e
  ns : h'.Ns1 d (fun y => if y = "row" then some v else none)
section
variable {prog : Program} {w : World} {A : Around} {E : Value → Shared → Prop} {R : Result → Shared → Prop} {s : Shared} {K : Frag} {mg : Str → Option Value} {C fI : Addr}
theorem low_init (T : FRowT K mg C fI) {x t0 : Addr} {v : Value} (X : K.In s.heap) (hlim : s.heap.NoLimit) (hx : s.heap.get? x = some (excO C t0)) (hnx : K.lookup x = none) (hroom : A.depth < recursionLimit)
    (hq : ∀ h' tk dx, InitEnd s.heap h' x C dx t0 v → R (.ok (.ret .none)) { s with heap := h', toks := tk }) :
    codeAny (model prog w) A (.call (.ref fI) ⟨[.ref x, v], []⟩) R s := by
  obtain ⟨oc, od, doc, pm, an, cdv, ct, osl, p1, p2, q1, q2, q3, q4, ho, hcd⟩ := T.fn
  obtain ⟨nm, q, N, bs, bm, sn, sub, ab, col, dd, k0, k1, k2, k3, k5, hC, hbm⟩ := T.cls
  have hcl : clsIn K C = some { name := nm, bases := bs, mro := .ref C :: bm, ns := N, qualname := q, hasDict := true, slotNames := sn, subclasses := sub, abstract := ab, collection := col, hasDel := false } := by unfold clsIn; rw [hC] <;> rfl
  refine Att.call_fn (binds := [("self", .ref x), ("row", v)]) X hlim ho hcd hroom (BindsTo.of_eq (by first | rfl | with_unfolding_all rfl)) (by first | rfl | decide | with_unfolding_all rfl) (fun s₁ IC => ?_) rfl rfl rfl
  obtain ⟨h₁, tk₁, rfl⟩ := IC.toInCall.same
  have k : ∀ b o, s.heap.get? b = some o → h₁.get? b = some o := IC.toInCall.keep
  have hn := IC.toInCall.ns
  have hxL : s.heap.objs.size ≠ x := Nat.ne_of_gt (Heap.lt_size hx)
  have X₁ : K.In h₁ := X.keeps k
  have hx₁ := k _ _ hx
  -- self.by = by
  show wpAny _ _ (execs _ _) _ _ _
  refine wpAny_execs_cons (plainObj_wpAny_Assign_Attribute ?_)
  refine ldC (v := v) hn (by first | rfl | with_unfolding_all rfl | kernel_rfl) (ldC (v := .ref x) hn (by first | rfl | with_unfolding_all rfl | kernel_rfl) ?_)
  refine set_plain X₁ (ox := excO C t0) (od := none) ⟨hx₁, rfl, rfl, trivial⟩ T.sa ?_
  refine exc_osa X₁ hx₁ hcl (show refsVE (.ref C :: bm) = true from hbm) rfl T.noN (fun h₃ tk₃ dx k₃ dn dne hx₃ hn₃ => ?_)
  show wpAny _ _ (execs _ _) _ _ _
  have z : s.heap.objs.size < h₁.objs.size := hn.lt
  exact wpAny_execs_nil (hq h₃ tk₃ dx ⟨fun b o hb e => k₃ b o hb (k b o e), hx₃, Nat.le_of_lt (Nat.lt_of_lt_of_le z dn), dne, hn₃⟩)
theorem low_made (T : FRowT K mg C fI) {v : Value} (X : K.In s.heap) (hlim : s.heap.NoLimit) (hroom : A.depth + 1 < recursionLimit)
    (hq : ∀ h' tk e d, OwnMade s.heap h' e C d v → R (.ok (.ret (.ref e))) { s with heap := h', toks := tk }) :
    codeAny (model prog w) A (.call (.ref C) ⟨[v], []⟩) R s := by
  obtain ⟨nm, q, N, bs, bm, sn, sub, ab, col, dd, k0, k1, k2, k3, k5, hC, hbm⟩ := T.cls
  obtain ⟨hp, g, dr, tk, os⟩ := s
  have k : ∀ b o, hp.get? b = some o → ((hp.push (kdv_tup [v])).push (excO C hp.objs.size)).get? b = some o := fun b o e => Heap.get?_push_of_some _ (Heap.get?_push_of_some _ e)
  have hget : ((hp.push (kdv_tup [v])).push (excO C hp.objs.size)).get? (hp.objs.size + 1) = some (excO C hp.objs.size) := by heap_get
  have hnx : K.lookup (hp.objs.size + 1) = none := by
    cases e : K.lookup (hp.objs.size + 1) with
    | none => rfl
    | some o =>
      have z : hp.get? (hp.objs.size + 1) = some o := X _ _ e
      exact absurd (Nat.lt_of_succ_lt (Heap.lt_size z)) (Nat.lt_irrefl _)
  refine call_own F.excBase_ValueError (fun X => refsVE_contains X bm hbm) (X _ _ hC) (looks_findIn X T.iC) (fun self => bind_fn X self T.tC) (one_size v) ?_
  refine low_init (s := ⟨(hp.push (kdv_tup [v])).push (excO C hp.objs.size), g, dr, tk, os⟩) T (X.keeps k) (hlim.keeps k) hget hnx ?_ fun h' tk' dx ⟨k', hx, dn, dne, hns⟩ => ?_
  · show A.depth + 1 < recursionLimit
    exact hroom
  · have old : ∀ b o, hp.get? b = some o → h'.get? b = some o := fun b o e => k' b o (Nat.ne_of_lt (Nat.lt_succ_of_lt (Heap.lt_size e))) (k b o e)
    have z : hp.objs.size + 1 + 1 ≤ dx := by
      first
        | (simpa only [Heap.size_push] using dn)
        | exact dn
        | (have q := dn; rw [Heap.size_push, Heap.size_push] at q; exact q)
    exact ⟨rfl, hq h' tk' (hp.objs.size + 1) dx ⟨old, Nat.le_succ _, ⟨_, _, hx, rfl, rfl, rfl, rfl⟩, Nat.le_trans (Nat.le_trans (Nat.le_succ _) (Nat.le_succ _)) z, dne, hns⟩⟩
end
end FRow
end PySem
namespace L2
open PySem PySem.Spec PyProof.Rows
theorem relO_lowFRow {v : V} {v' : Value} (r : RelV v v') (f : Str) : RelO (List.lookup f [(("row" : Str), v)]) (if f = "row" then some v' else none) := by
  by_cases hw : f = "row"
  · subst hw
    rw [if_pos rfl]
    have q : List.lookup ("row" : Str) [(("row" : Str), v)] = some v := by simp [List.lookup]
    rw [q]
    exact r
  · rw [if_neg hw]
    have qw : (f == ("row" : Str)) = false := by simpa using hw
    have q2 : List.lookup f [(("row" : Str), v)] = none := by simp [List.lookup, qw]
    rw [q2]
    trivial
section
variable {X : Cx} {C fI : Addr}
/-- Low(e) -/
def tMkLowFRow (C : Addr) (ta : TA) : St → Hp → XK → Prop := fun σ H Q => ta σ H fun vs H1 => ∃ v, vs = [v] ∧ ∀ d, H1 d = none → Q (.ref C) (some d) (upd H1 d (.xd [(("row" : Str), v)]))
theorem pmk_lowFRow {a : Expr} {ta : TA} {p pos : Pos} {k : Nat} (T : PySem.FRow.FRowT X.K X.mg C fI) (hr : Room k X.A) (ha : PA X [a] ta) (hg : Gl X "NoText" := by rfl)
    (he : starEach (a :: []) X.env = (false, eval a X.env) :: starEach [] X.env := by rfl) (hpl : (backTo pos (starEach [] X.env)).any (·.1) = false := by rfl) :
    PMk X (.Call (.Name "NoText" p) [a] [] pos) (tMkLowFRow C ta) := by
  intro pins s σ H Q I h
  refine wpAny_Call_Name_kw (ld_glob I hg T.gC ?_)
  refine PySem.W.callWith_K (h₀ := X.base) I.ok.mod.kin T.kC (thn (ha.run pos pins s σ H _ I h) fun us s1 hh => ?_) he hpl
  obtain ⟨vs, H1, I1, r1, v, ev, q1⟩ := hh
  subst ev
  refine ⟨I1.kIn, ?_⟩
  cases r1 with
  | cons rv rn =>
    rename_i v' us'
    cases rn
    show wpAny _ _ (call (.ref C) [v']) _ _ _
    have hlim := I1.nolimit
    obtain ⟨hp, g, dr, tk, os⟩ := s1
    refine wpAny_call (PySem.FRow.low_made T I1.kIn hlim (by have := hr.dp; omega) fun h' tk' e d M => ?_)
    show MkP X pins σ Q (.ref e) ⟨h', g, dr, tk', os⟩
    obtain ⟨oe, fv, hoe, hc, hd, hdat, h1⟩ := M.obj
    have hns := M.ns
    obtain ⟨G', g1, g2⟩ := restrict h' fun b => decide (b ≠ e)
    have gk : ∀ b, b ≠ e → G'.get? b = h'.get? b := fun b hb => g1 b (decide_eq_true hb)
    have ge : G'.get? e = none := g2 e (by simp)
    have old : ∀ b o, hp.get? b = some o → G'.get? b = some o := fun b o q => (gk b (Nat.ne_of_lt (Nat.lt_of_lt_of_le (Heap.lt_size q) M.new))).trans (M.keep b o q)
    have ob : ObjOk X.prog X.w (upd H1 d (.xd [(("row" : Str), v)])) G' d (.xd [(("row" : Str), v)]) :=
      ⟨_, hns.at (fun o q => (gk d M.dne).trans q), fun f => relO_lowFRow rv f⟩
    have J : Inv X pins σ (upd H1 d (.xd [(("row" : Str), v)])) ⟨G', g, dr, tk', os⟩ := I1.laid (t' := tk') old M.dbig ob
    refine ⟨e, oe, fv, ⟨G', g, dr, tk', os⟩, _, .ref C, some d, rfl, J, fun b o q => ?_, ge, hoe, ⟨hc, hd⟩, hdat, h1, ?_, rfl, I1.bare, raises_own T.exC T.tyC, q1 d (I1.hok.fresh M.dbig)⟩
    · by_cases hb : b = e
      · have q' : G'.get? b = some o := q
        rw [hb, ge] at q'; cases q'
      · exact (gk b hb).symm.trans q
    · rw [upd_ne (Ne.symm M.dne)]
      exact I1.hok.fresh M.new
/-- raise Low(e) -/
def tRaiseLowFRow (C : Addr) (W : WX) (ta : TA) : TS := fun _ σ H => tMkLowFRow C ta σ H fun cls d H' => W cls d σ H'
theorem ps_raiseLowFRow {a : Expr} {ta : TA} {W : WX} {p pos pos2 : Pos} {k : Nat} (hc : X.calm = true) (T : PySem.FRow.FRowT X.K X.mg C fI) (hr : Room k X.A) (tk : Takes X W) (ha : PA X [a] ta) (hg : Gl X "NoText" := by rfl)
    (he : starEach (a :: []) X.env = (false, eval a X.env) :: starEach [] X.env := by rfl) (hpl : (backTo pos (starEach [] X.env)).any (·.1) = false := by rfl) :
    PS X (.Raise (some (.Call (.Name "NoText" p) [a] [] pos)) none pos2) (tRaiseLowFRow C W ta) := ps_raise hc tk (pmk_lowFRow T hr ha hg he hpl)
end
end L2

/-! MiX4: what the head says of the exception classes. -/
namespace Mi
open PySem PySem.Spec PyProof.Rows L2
/-- the class object of an exception class over ValueError (its own bases between), instances with a dict -/
def clsB (K : PySem.W.Frag) (C : Addr) : Bool := match K.lookup C with
  | some ⟨.type "type", _, .cls cd, sl⟩ => (match cd.mro, sl.toList with
    | .ref D :: bm, [_, _, _, _, some (.builtin n), _] => D == C && (n == "ValueError.__new__" && (!cd.hasDel && (cd.hasDict && PySem.HandSPX.refsVE bm)))
    | _, _ => false)
  | _ => false
theorem clsB_ok {K : PySem.W.Frag} {C : Addr} (h : clsB K C = true) : ∃ nm q N bs bm sn sub ab col dd k0 k1 k2 k3 k5, K.lookup C = some (excClassObj nm q C N bs bm true sn sub ab col dd k0 k1 k2 k3 k5 "ValueError.__new__") ∧ PySem.HandSPX.refsVE bm = true := by
  unfold clsB at h
  split at h
  · rename_i dd cd sl e
    split at h
    · rename_i D bm k0 k1 k2 k3 n k5 em es
      simp only [Bool.and_eq_true, beq_iff_eq, Bool.not_eq_true'] at h
      obtain ⟨h1, h2, h3, h4, h5⟩ := h
      subst h1 h2
      obtain ⟨nm, bs, mro, ns, qn, hd, sn, sub, ab, col, del⟩ := cd
      dsimp only at em h3 h4
      subst em h3 h4
      have hsl : sl = #[k0, k1, k2, k3, some (.builtin "ValueError.__new__"), k5] := by
        obtain ⟨l⟩ := sl
        exact congrArg Array.mk es
      subst hsl
      exact ⟨_, _, _, _, _, _, _, _, _, _, _, _, _, _, _, e, h5⟩
    · cases h
  · cases h
/-- what is asked of every exception class: isinstance and fields read it so -/
def excB (K : PySem.W.Frag) (D : Addr) : Bool :=
  decide (PySem.W.findIn K (.ref D) "__getattribute__" = some (some (.builtin "BaseException.__getattribute__"))) && (decide (PySem.W.findIn K (.ref D) "__getattr__" = some none) && (decide (PySem.W.subIn K (.ref D) (.type "BaseException") = some true) && (PySem.W.hasDictIn K D &&
  (decide (PySem.W.findIn K (.ref D) "__class__" = some (some (.builtin "object.__class__"))) && (decide (PySem.W.specialIn K (.builtin "object.__class__") "__get__" = some (some (.builtin "getset_descriptor.__get__"))) && (decide (PySem.W.takesIn K (.builtin "object.__class__") = some true) && decide (PySem.W.mroIn K D (.type "object") = some true)))))))
theorem excB_ok {K : PySem.W.Frag} {D : Addr} (h : excB K D = true) : ExcC K D ∧ XfC K D := by
  unfold excB at h
  simp only [Bool.and_eq_true, decide_eq_true_eq] at h
  obtain ⟨h1, h2, h3, h4, h5, h6, h7, h8⟩ := h
  exact ⟨⟨h1, h2, h3, h4, h5, h6, h7, h8⟩, ⟨h1, h2, h3, h4⟩⟩
/-- a def without keyword-only defaults -/
def nkB (K : PySem.W.Frag) (a : Addr) : Bool := match K.lookup a with
  | some ⟨_, _, .func fd, _⟩ => decide (fd.kwdefaults = .none)
  | _ => false
/-- a class whose __init__ stores its one argument in f -/
def fldB (K : PySem.W.Frag) (x f : Str) : Bool :=
  clsB K (He.ga K x) && (decide (PySem.W.findIn K (.ref (He.ga K x)) "__setattr__" = some (some (.builtin "object.__setattr__"))) && (decide (PySem.W.findIn K (.ref (He.ga K x)) f = some none) &&
  (decide (PySem.W.findIn K (.ref (He.ga K x)) "__init__" = some (some (.ref (He.ma K (He.ga K x) "__init__")))) && (decide (PySem.W.typeIn K (.ref (He.ma K (He.ga K x) "__init__")) = some (.type "function")) && (PySem.W.keepIn K (.ref (He.ga K x)) &&
  (decide (PySem.W.typeIn K (.ref (He.ga K x)) = some (.type "type")) && (decide (PySem.W.exmOne K (.ref (He.ga K x)) (.ref (He.ga K x)) = some true) && nkB K (He.ma K (He.ga K x) "__init__"))))))))
/-- a class without __init__, made with a text -/
def rawB (K : PySem.W.Frag) (x : Str) : Bool :=
  PySem.W.excIn K (He.ga K x) He.veBase "ValueError.__new__" && (PySem.W.keepIn K (.ref (He.ga K x)) && decide (PySem.W.typeIn K (.ref (He.ga K x)) = some (.type "type")))
/-! ### a Hook with one look more -/
def obsM (n : Nat) (P : PySem.W.Frag → Bool) (fa : List He.Fa) (fn : List He.DefD) (g : Addr → Option Obj) : Bool × He.AlD := (P (He.frG g (He.asD g n)), He.obsDG n fa fn g)
def hookM (n : Nat) (P : PySem.W.Frag → Bool) (fa : List He.Fa) (fn : List He.DefD) : PySem.W.Hook where
  α := Bool × He.AlD
  obs := fun s => obsM n P fa fn s.heap.get?
  val := fun _ => (true, He.valD fn)
  says := fun _ h => ∃ K : PySem.W.Frag, K.In h ∧ (P K = true ∧ He.SaysD fa fn K)
  of := fun _ _ e => ⟨_, He.frG_in, congrArg Prod.fst e, congrArg Prod.snd e⟩
  keeps := fun _ _ _ ⟨K, hK, c⟩ k => ⟨K, PySem.W.Frag.In.keeps hK k, c⟩
theorem obsM_eq {n : Nat} {P : PySem.W.Frag → Bool} {fa : List He.Fa} {fn : List He.DefD} {g : Addr → Option Obj} {s : Shared} (h : ∀ a, g a = s.heap.get? a) : obsM n P fa fn g = (hookM n P fa fn).obs s := by
  have e : g = s.heap.get? := funext h
  rw [e]
  rfl
end Mi

/-! MiO: from the head to the interpreter. -/
namespace Mi
open PySem PySem.Spec PyProof.Rows L2

theorem look_zip : ∀ {ns : List Str} {us : List Value}, ns.Nodup → us.length = ns.length → ∀ n ∈ ns, ((ns.zip us).lookup n).isNone = false
  | [], _, _, _, n, h => by cases h
  | m :: ns, [], _, h, _, _ => by cases h
  | m :: ns, u :: us, nd, hl, n, h => by
    rw [List.zip_cons_cons, List.lookup_cons]
    cases e : n == m with
    | true => rfl
    | false =>
      rcases List.mem_cons.mp h with z | z
      · rw [z, beq_self_eq_true] at e; cases e
      · exact look_zip (List.nodup_cons.mp nd).2 (by simpa using hl) n z
theorem fm_zip : ∀ {ns : List Str} {us : List Value} {l : List (Str × Value)}, ns.Nodup → us.length = ns.length → (∀ n ∈ ns, l.lookup n = (ns.zip us).lookup n) → ns.filterMap (fun n => (l.lookup n).map (n, ·)) = ns.zip us
  | [], _, _, _, _, _ => rfl
  | m :: ns, [], _, _, h, _ => by cases h
  | m :: ns, u :: us, l, nd, hl, h => by
    have h0 := h m (List.mem_cons_self ..)
    rw [List.zip_cons_cons, List.lookup_cons, beq_self_eq_true] at h0
    rw [List.filterMap_cons, h0]
    show (m, u) :: _ = _
    rw [List.zip_cons_cons]
    refine congrArg _ (fm_zip (List.nodup_cons.mp nd).2 (by simpa using hl) fun n hn => ?_)
    rw [h n (List.mem_cons_of_mem _ hn), List.zip_cons_cons, List.lookup_cons]
    have : (n == m) = false := by
      rw [Bool.eq_false_iff]
      intro z
      rw [beq_iff_eq] at z
      exact (List.nodup_cons.mp nd).1 (z ▸ hn)
    rw [this]
theorem bind_plain {x qual : Str} {as : List Arg} {body : List Stmt} {scope : Scope} {kV doc pm : Value} {an : Option Addr} {cdv ct : Value} {us : List Value} {dd : List Expr} (nd : (as.map (·.arg)).Nodup) (hl : us.length = (as.map (·.arg)).length) :
    bindArgs (PySem.W.fnOf x qual ⟨[], as, none, [], [], none, dd⟩ body scope .none kV doc pm an cdv ct) ⟨us, []⟩ = pure ((as.map (·.arg)).zip us) := by
  have e1 : (List.filter (fun n => (((as.map (·.arg)).zip us).lookup n).isNone) (as.map (·.arg))) = [] := by
    rw [List.filter_eq_nil_iff]
    intro n hn
    rw [look_zip nd hl n hn]
    exact Bool.false_ne_true
  have e2 := fm_zip (l := (as.map (·.arg)).zip us) nd hl fun _ _ => rfl
  have s0 : seqItems? Value.none = pure none := rfl
  unfold bindArgs PySem.W.fnOf
  simp only [List.map_nil, List.nil_append, List.append_nil, List.forIn_nil, pure_bind, s0, Option.getD_none, List.drop_nil, List.length_nil, Nat.sub_zero, List.take_length, List.zip_nil_right, hl, e1, e2]
  simp [e1, e2]

/-! ### the head's data, from the table -/
def toDv : PyData → He.Dv
  | .bool b => .bl b
  | .int i => .int i
  | .str x => .str x
  | _ => .non
theorem toDv_v {K : PySem.W.Frag} : ∀ {ds : List PyData}, ds.all dOk = true → (ds.map toDv).map (He.Dv.v K) = ds.map dV
  | [], _ => rfl
  | d :: ds, h => by
    rw [List.all_cons, Bool.and_eq_true] at h
    have e : He.Dv.v K (toDv d) = dV d := by
      cases d <;> first | rfl | cases h.1
    show He.Dv.v K (toDv d) :: (ds.map toDv).map (He.Dv.v K) = dV d :: ds.map dV
    rw [e, toDv_v h.2]
def stAt (p : Program) (i : Nat) : Stmt := p.main.body.getD i (.Pass ⟨0, 0, 0, 0⟩)
def mkD (f : Fn) (st : Stmt) : He.DefD := ⟨(f.name, none), f.name, f.name, defArgs st, defBody st, defScope st, f.dv.map toDv, []⟩
def fnD (p : Program) (T : List Fn) (ix : List Nat) : List He.DefD := List.zipWith (fun f i => mkD f (stAt p i)) T ix
def clsFa : Cz → He.Fa
  | .bt n => .free (Str.ofString n)
  | .own x => .glo x
def faOf (B : Tb) : List He.Fa := B.T.map (fun f => .glo f.name) ++ (B.gI.map (fun q => .int q.1 q.2) ++ (B.gS.map (fun q => .str q.1 q.2) ++ (B.gF.map .free ++ (B.ks.flatten.map clsFa ++ (B.xr.map .glo ++ B.xf.map (fun q => .glo q.1))))))
def plainP (ps : List Str) : Arguments → Bool
  | ⟨[], as, none, [], [], none, _⟩ => decide (as.map (·.arg) = ps) && decide ps.Nodup
  | _ => false
def okF (B : Tb) (f : Fn) (st : Stmt) : Bool :=
  f.dv.all dOk && (plainP f.ps (defArgs st) && (C8.scC f.N f.ps (defScope st) && ckS.ckSs ⟨B, f.N⟩ f.body (defScope st).names (defBody st)))
def czOk : Cz → Bool
  | .bt n => decide (bootBuiltins (Str.ofString n) = some (.type n)) && decide (Str.ofString n ≠ "__name__")
  | .own _ => true
def okAll (p : Program) (B : Tb) (ix : List Nat) : Bool :=
  decide (B.T.length = ix.length) && ((List.zipWith (fun f i => okF B f (stAt p i)) B.T ix).all id && B.ks.flatten.all czOk)
/-- the look at the classes -/
def askB (K : PySem.W.Frag) (zs : List Cz) (b : Bool) (c : Str) : Bool :=
  decide (PySem.W.kitAny K (.ref (He.ga K c)) (zs.map (Cz.v K)) = some b) && (excB K (He.ga K c) && (match zs with
    | [z] => decide (PySem.W.exmOne K (.ref (He.ga K c)) (z.v K) = some b) && decide (PySem.W.kitOne K (.ref (He.ga K c)) (z.v K) = some b)
    | _ => true))
def lookB (B : Tb) (kn : Kn) (K : PySem.W.Frag) : Bool :=
  (List.zipWith (fun zs (q : List Str × List Str) => q.1.all (askB K zs true) && q.2.all (askB K zs false)) B.ks kn).all id && (B.xr.all (fun c => rawB K c && excB K (He.ga K c)) && B.xf.all (fun q => fldB K q.1 q.2 && excB K (He.ga K q.1)))
theorem ask_ok {B : Tb} {kn : Kn} {K : PySem.W.Frag} (h : lookB B kn K = true) {k : Nat} {zs : List Cz} {c : Str} {b : Bool} (hz : B.ks[k]? = some zs) (ha : kn.ask k c = some b) : askB K zs b c = true := by
  unfold lookB at h
  rw [Bool.and_eq_true] at h
  unfold Kn.ask at ha
  split at ha
  · rename_i y n hk
    have := List.all_eq_true.mp h.1 (y.all (askB K zs true) && n.all (askB K zs false)) (List.mem_of_getElem? (i := k) (by rw [List.getElem?_zipWith, hz, hk]))
    rw [id, Bool.and_eq_true] at this
    split at ha
    · rename_i hy
      cases ha
      exact List.all_eq_true.mp this.1 c hy
    · split at ha
      · rename_i hn
        cases ha
        exact List.all_eq_true.mp this.2 c hn
      · cases ha
  · cases ha
/-- a def's defaults, bound -/
def BdOk (f : Fn) (st : Stmt) : Prop := f.dv ≠ [] → ∀ n j, j ≤ f.dv.length → n + (f.dv.length - j) = f.ps.length → ∀ (T : Addr) (kV doc pm : Value) (an : Option Addr) (cdv ct : Value) (us its : List Value), us.length = n → its.length = f.dv.length →
  ∃ k, bindArgs (PySem.W.fnOf f.name f.name (defArgs st) (defBody st) (defScope st) (.ref T) kV doc pm an cdv ct) ⟨us, []⟩ = seqItems? (.ref T) >>= k ∧ k (some its.toArray) = pure (f.ps.zip (us ++ its.drop j))
theorem Binds.out {K : PySem.W.Frag} {fd : FuncData} {ps : List Str} {ds : List Value} (h : ps.length < ds.length) : Binds K fd ps ds := fun s us _ hl => by
  rw [List.length_append] at hl
  omega
theorem facts_of {p : Program} {K : PySem.W.Frag} {h : Heap} {mg : Str → Option Value} {B : Tb} {kn : Kn} {ix : List Nat} {dx : List He.DefD} (X : K.In h) (G : h.Ns mainGlobals mg)
    (c : He.SaysD (faOf B) (fnD p B.T ix ++ dx) K) (lk : lookB B kn K = true) (hrok : ∀ N, Rok K mg ⟨B, N⟩) (ok : okAll p B ix = true) (hb : ∀ (i j : Nat) (f : Fn), B.T[i]? = some f → ix[i]? = some j → BdOk f (stAt p j)) : Facts K mg B kn := by
  unfold okAll at ok
  rw [Bool.and_eq_true, Bool.and_eq_true, decide_eq_true_eq] at ok
  obtain ⟨hl, ok, okz⟩ := ok
  have at_ : ∀ (i : Nat) (f : Fn), B.T[i]? = some f → ∃ j, ix[i]? = some j ∧ okF B f (stAt p j) = true := fun i f hf => by
    have hi := (List.getElem?_eq_some_iff.mp hf).1
    obtain ⟨j, hj⟩ : ∃ j, ix[i]? = some j := ⟨ix[i]'(by omega), List.getElem?_eq_getElem (by omega)⟩
    refine ⟨j, hj, ?_⟩
    rw [List.all_eq_true] at ok
    refine ok _ (List.mem_of_getElem? (i := i) ?_)
    rw [List.getElem?_zipWith, hf, hj]
    rfl
  have ask := fun {k : Nat} {zs : List Cz} {c : Str} {b : Bool} (h1 : B.ks[k]? = some zs) (h2 : kn.ask k c = some b) => ask_ok lk h1 h2
  refine ⟨fun x j hx => ?_, fun x j hx => ?_, fun x hx => ?_, fun k zs hk z hz => ?_, fun k z c b h1 h2 => ?_, fun k zs c b h1 h2 => ?_, fun k z c b h1 h2 => ?_, fun c f hcf => ?_, hrok, fun i f hf => ?_, fun i f hf => ?_⟩
  · obtain ⟨t, e⟩ := He.int_ok X G (c.facts (f := .int x j) (by
      unfold faOf
      exact List.mem_append_right _ (List.mem_append_left _ (List.mem_map.mpr ⟨(x, j), hx, rfl⟩))))
    exact ⟨_, e, t, rfl⟩
  · obtain ⟨t, e⟩ := He.str_ok X G (c.facts (f := .str x j) (by
      unfold faOf
      exact List.mem_append_right _ (List.mem_append_right _ (List.mem_append_left _ (List.mem_map.mpr ⟨(x, j), hx, rfl⟩)))))
    exact ⟨_, e, t, rfl⟩
  · exact He.free_ok X G (c.facts (f := .free x) (by
      unfold faOf
      exact List.mem_append_right _ (List.mem_append_right _ (List.mem_append_right _ (List.mem_append_left _ (List.mem_map.mpr ⟨x, hx, rfl⟩))))))
  · have hm : z ∈ B.ks.flatten := List.mem_flatten.mpr ⟨zs, List.mem_of_getElem? hk, hz⟩
    have hfa : clsFa z ∈ faOf B := by
      unfold faOf
      exact List.mem_append_right _ (List.mem_append_right _ (List.mem_append_right _ (List.mem_append_right _ (List.mem_append_left _ (List.mem_map.mpr ⟨z, hm, rfl⟩)))))
    have hq := c.facts hfa
    cases z with
    | own x => exact He.glo_ok X G hq
    | bt n =>
      have := List.all_eq_true.mp okz _ hm
      unfold czOk at this
      rw [Bool.and_eq_true, decide_eq_true_eq, decide_eq_true_eq] at this
      exact ⟨He.free_ok X G hq, this.1, this.2⟩
  · have := ask h1 h2
    unfold askB at this
    simp only [Bool.and_eq_true, decide_eq_true_eq] at this
    exact this.2.2.1
  · have := ask h1 h2
    unfold askB at this
    simp only [Bool.and_eq_true, decide_eq_true_eq] at this
    exact ⟨this.1, (excB_ok this.2.1).1⟩
  · have := ask h1 h2
    unfold askB at this
    simp only [Bool.and_eq_true, decide_eq_true_eq] at this
    exact this.2.2.2
  · unfold lookB at lk
    simp only [Bool.and_eq_true] at lk
    have := List.all_eq_true.mp lk.2.2 (c, f) hcf
    rw [Bool.and_eq_true] at this
    refine ⟨(excB_ok this.2).2, ?_⟩
    have q := this.1
    unfold fldB at q
    simp only [Bool.and_eq_true, decide_eq_true_eq] at q
    exact q.2.2.1
  · obtain ⟨j, _, q⟩ := at_ i f hf
    unfold okF at q
    rw [Bool.and_eq_true] at q
    exact q.1
  · obtain ⟨j, hj, q⟩ := at_ i f hf
    unfold okF at q
    simp only [Bool.and_eq_true] at q
    obtain ⟨q1, q2, q3, q4⟩ := q
    obtain ⟨fd, F⟩ := c.def_ i (d := mkD f (stAt p j)) (by
      have q : (fnD p B.T ix)[i]? = some (mkD f (stAt p j)) := by unfold fnD; rw [List.getElem?_zipWith, hf, hj]
      rw [List.getElem?_append_left (List.getElem?_eq_some_iff.mp q).1]
      exact q)
    have F' : FunD K f.name f.name (defArgs (stAt p j)) (defBody (stAt p j)) (defScope (stAt p j)) (f.dv.map dV) [] (He.fAd K (f.name, none)) fd := by
      have e : (mkD f (stAt p j)).dvs K = f.dv.map dV := toDv_v q1
      rw [← e]
      exact F
    have hN : ∀ (hd : f.dv = []) (kV doc pm : Value) (an : Option Addr) (cdv ct : Value) (us : List Value), us.length = f.ps.length → bindArgs (PySem.W.fnOf f.name f.name (defArgs (stAt p j)) (defBody (stAt p j)) (defScope (stAt p j)) .none kV doc pm an cdv ct) ⟨us, []⟩ = pure (f.ps.zip us) := fun hd kV doc pm an cdv ct us hu => by
      unfold plainP at q2
      split at q2
      · rename_i as dd he
        rw [Bool.and_eq_true, decide_eq_true_eq, decide_eq_true_eq] at q2
        obtain ⟨r1, r2⟩ := q2
        rw [he, ← r1]
        exact bind_plain (by rw [r1]; exact r2) (by rw [r1]; exact hu)
      · cases q2
    have hF0 : f.dv = [] → FunD K f.name f.name (defArgs (stAt p j)) (defBody (stAt p j)) (defScope (stAt p j)) [] [] (He.fAd K (f.name, none)) fd := fun hd => by
      rw [hd] at F'
      exact F'
    refine ⟨_, fd, ⟨He.glo_ok X G (c.facts (f := .glo f.name) (by
      unfold faOf
      exact List.mem_append_left _ (List.mem_map.mpr ⟨f, List.mem_of_getElem? hf, rfl⟩))), ⟨_, _, _, _, F', q3, q4⟩, fun j' => ?_, fun hd s us hu => (hF0 hd).bindsA (ps := f.ps) (hN hd) s us hu⟩⟩
    by_cases hd : f.dv = []
    · exact ⟨[], by rw [hd, List.drop_nil]; exact .nil, (hF0 hd).bindsN (hN hd)⟩
    · have F1 := F'
      by_cases hj' : f.dv.length ≤ j'
      · -- none of them is needed
        have e0 : f.dv.drop j' = f.dv.drop f.dv.length := by rw [List.drop_eq_nil_of_le hj', List.drop_length]
        obtain ⟨ds, d1, d2⟩ := FunD.binds1 (ps := f.ps) F1 f.ps.length f.dv.length (by simpa using hd) (by rw [List.length_map]; omega) (fun T kV doc pm an cdv ct us its h1 h2 => hb i j f hf hj hd _ f.dv.length (Nat.le_refl _) (by omega) T kV doc pm an cdv ct us its h1 (by rw [h2, List.length_map]))
        refine ⟨ds, ?_, d2⟩
        rw [e0, List.map_drop]
        exact d1
      · by_cases hn : f.dv.length - j' ≤ f.ps.length
        · obtain ⟨ds, d1, d2⟩ := FunD.binds1 (ps := f.ps) F1 (f.ps.length - (f.dv.length - j')) j' (by simpa using hd) (by rw [List.length_map]; omega) (fun T kV doc pm an cdv ct us its h1 h2 => hb i j f hf hj hd _ j' (by omega) (by omega) T kV doc pm an cdv ct us its h1 (by rw [h2, List.length_map]))
          exact ⟨ds, by rw [List.map_drop]; exact d1, d2⟩
        · -- more defaults than parameters: never bound
          obtain ⟨oc, od, dVv, kVv, doc, pm, an, cdv, ct, osl, rfl, lk, hcd, hD, hK⟩ := F1.ex
          rcases hD with ⟨e, _⟩ | ⟨_, Ta, o, its, m, rfl, lT, oT, rT⟩
          · exact absurd e (by simpa using hd)
          · refine ⟨its.drop j', by rw [List.map_drop]; exact rT.drop j', Binds.out ?_⟩
            have := rT.length
            rw [List.length_map] at this
            rw [List.length_drop]
            omega

/-! ### the end -/
theorem ints_rps {K : PySem.W.Frag} {F : Hp} : ∀ ns : List Int, Rps K F (ns.map V.int) (ns.map PyData.int)
  | [] => .nil
  | n :: ns => .cons (.int n) (ints_rps ns)
theorem walk_mi {l : PySem.W.OpenLaw} {n k : Nat} {q : Program} {loose : List Str} {XP : (Str → Option Value) → Heap → Prop} {d : DefRec} {x : Str} {p : Program} {B : Tb} {kn : Kn} {ix : List Nat} {dx : List He.DefD} {j : Nat} {fn : Fn} {w0 : World → Heap → Prop}
    (hn : l.most = some n) (hn2 : n ≤ lim) (hdf : d.params.defaults = []) (hr : Room k callerA) (hdn : d.name = fn.name) (hj : B.T[j]? = some fn) (hps : fn.ps = [x]) (hdv : fn.dv = [])
    (hw0 : ∀ w h, w0 w h → ∃ K, K.In h ∧ (lookB B kn K = true ∧ He.SaysD (faOf B) (fnD p B.T ix ++ dx) K)) (hrok : ∀ (K : PySem.W.Frag) (mg : Str → Option Value) (h : Heap), K.In h → h.Ns mainGlobals mg → lookB B kn K = true → He.SaysD (faOf B) (fnD p B.T ix ++ dx) K → ∀ N, Rok K mg ⟨B, N⟩) (ok : okAll p B ix = true) (hb : ∀ (i j : Nat) (f : Fn), B.T[i]? = some f → ix[i]? = some j → BdOk f (stAt p j))
    (hrun : ∀ ns : List Int, ns.length ≤ n → (∀ k ∈ ns, Builtin.Int.intBits k ≤ 1048576) → ∃ S, (run kn B.T k).run j [.d (.list (ns.map .int))] [] = .ok (.d (.bool true)) S) :
    PySem.W.WalkO q loose XP w0 l.row.toRowW d [] (fun f vs => PySem.call f vs) := by
  refine Att.attach_callB hn hdf fun w s₀ s₁ mg mb fa o pm cd doc a vs ns G Y ho hd hcd hmg hobj hints hlen hbits hg => ?_
  obtain ⟨K, KX, lk, c⟩ := hw0 w _ Y
  have F := facts_of KX G.T.g c lk (hrok K mg _ KX G.T.g lk c) ok hb
  obtain ⟨a0, fd0, D⟩ := F.fns j fn hj
  have ea : a0 = fa := by
    have e := D.mgf
    rw [← hdn, hmg] at e
    cases e
    rfl
  subst ea
  refine law_call (sp := spW K mg fn ((run kn B.T k).run j)) (fd := fd0) (x := x) (CX := L2.CX l.prog w) KX G.T.g G.T.b G.T.builtins G.T.nolimit hg hobj hints (Nat.le_trans hlen (Nat.le_trans hn2 (by decide))) hr (fun base hB hN => ?_) (fun s u => ?_) (fun H hO hS => ?_) fun H e s' hc => ?_
  · have := sound (P := l.prog) (w := w) (base := base) F k j fn hj a0 fd0 D
    rw [hps] at this
    exact this
  · have := D.ba hdv s [u] (by rw [hps]; rfl)
    rw [hps] at this
    exact this
  · obtain ⟨S, e⟩ := hrun ns hlen hbits
    refine ⟨by rw [hps]; rfl, H, [], [], [.d (.list (ns.map .int))], ⟨rfl, List.nodup_nil, Ex.refl H, fun a ha => (by cases ha), fun p a mo ha => (by simp at ha)⟩, ⟨show Rp K H _ _ from .lst hS (ints_rps ns), trivial⟩, ?_⟩
    rw [e]
    intro v F' A' H' _ _ hv
    cases hv
    rfl
  · obtain ⟨_, _, _, _, _, _, _, _, _, _, _, _, h⟩ := hc
    exact h
end Mi

/-! MiX5: the exception classes may be made. -/
namespace Mi
open PySem PySem.Spec PyProof.Rows L2
/-- the __init__ of NoText, as the head has it -/
def dNoText (st : Stmt) : He.DefD := ⟨("NoText", some "__init__"), "__init__", "NoText.__init__", defArgs st, defBody st, defScope st, [], []⟩
theorem row_of {K : PySem.W.Frag} {mg : Str → Option Value} {h : Heap} {st : Stmt} {fd : FuncData} (X : K.In h) (G : h.Ns mainGlobals mg) (hg : mg "NoText" = some (.ref (He.ga K "NoText"))) (b : fldB K "NoText" "row" = true) (e : excB K (He.ga K "NoText") = true)
    (F : FunD K "__init__" "NoText.__init__" (defArgs st) (defBody st) (defScope st) [] [] (He.fAd K ("NoText", some "__init__")) fd)
    (h1 : ∃ p1 p2, defArgs st = PySem.FRow.iA p1 p2) (h2 : ∃ q1 q2 q3 q4, defBody st = PySem.FRow.iB q1 q2 q3 q4) (h3 : defScope st = PySem.FRow.iS) : PySem.FRow.FRowT K mg (He.ga K "NoText") (He.ma K (He.ga K "NoText") "__init__") := by
  unfold fldB at b
  simp only [Bool.and_eq_true, decide_eq_true_eq] at b
  obtain ⟨b1, b2, b3, b4, b5, b6, b7, b8, b9⟩ := b
  obtain ⟨e1, e2⟩ := excB_ok e
  obtain ⟨oc, od, dVv, kVv, doc, pm, an, cdv, ct, osl, rfl, lk, hcd, hD, hK⟩ := F.ex
  obtain ⟨p1, p2, r1⟩ := h1
  obtain ⟨q1, q2, q3, q4, r2⟩ := h2
  have hd : dVv = .none := by
    rcases hD with ⟨_, z⟩ | ⟨z, _⟩
    · exact z
    · exact absurd rfl z
  have hk : kVv = .none := by
    unfold nkB at b9
    have lk' : K.lookup (He.ma K (He.ga K "NoText") "__init__") = _ := lk
    rw [lk'] at b9
    exact of_decide_eq_true b9
  subst hd hk
  rw [r1, r2, h3] at lk
  exact ⟨hg, clsB_ok b1, b2, e2.ga, e2.gg, b3, b4, b5, b6, e2.exC, b7, e2.hdC, b8, ⟨oc, od, doc, pm, an, cdv, ct, osl, p1, p2, q1, q2, q3, q4, lk, hcd⟩⟩
theorem raw_mk {K : PySem.W.Frag} {mg : Str → Option Value} {c : Str} (hc : mg c = some (.ref (He.ga K c))) (b : rawB K c = true) (e : excB K (He.ga K c) = true) {X : Cx} (hK : X.K = K) (hm : X.mg = mg) {m : Str} {j : Nat} {p p2 pos : Pos} (hg : Gl X c) (hd : (c == ("__debug__" : Str)) = false) :
    PMk X (.Call (.Name c p) [.Constant (.str m) j p2] [] pos) (fun _ H Q => Q (.ref (He.ga K c)) none H) := by
  subst hK hm
  unfold rawB at b
  simp only [Bool.and_eq_true, decide_eq_true_eq] at b
  exact pmk_own PySem.F.excBase_ValueError b.1 hc b.2.1 (raises_own (excB_ok e).2.exC b.2.2) hg hd
theorem row_mk {K : PySem.W.Frag} {mg : Str → Option Value} {C fI : Addr} (T : PySem.FRow.FRowT K mg C fI) {X : Cx} (hK : X.K = K) (hm : X.mg = mg) {k : Nat} (hr : Room k X.A) {e : Expr} {te : TE} {p pos : Pos} (he : PE X e te) (hu : unst e = true) (hg : Gl X "NoText") :
    PMk X (.Call (.Name "NoText" p) [e] [] pos) (fun σ H Q => te σ H fun v H1 => ∃ v', [v] = [v'] ∧ ∀ d, H1 d = none → Q (.ref C) (some d) (upd H1 d (.xd [(("row" : Str), v')]))) := by
  subst hK hm
  exact pmk_lowFRow T hr (pa_cons he pa_nil (star_of hu)) hg (star_of hu) rfl
end Mi
namespace Mi
open PySem PySem.Spec PyProof.Rows L2
/-- the j-th statement of the i-th one's body, a class -/
def stIn (p : Program) (i j : Nat) : Stmt := match stAt p i with
  | .ClassDef _ _ _ b _ _ _ _ _ _ _ => b.getD j (.Pass ⟨0, 0, 0, 0⟩)
  | s => s
theorem rok_of {p : Program} {K : PySem.W.Frag} {h : Heap} {mg : Str → Option Value} {B : Tb} {kn : Kn} {ix : List Nat} {st : Stmt} (hxf : B.xf = [(("NoText" : Str), ("row" : Str))])
    (h1 : ∃ p1 p2, defArgs st = PySem.FRow.iA p1 p2) (h2 : ∃ q1 q2 q3 q4, defBody st = PySem.FRow.iB q1 q2 q3 q4) (h3 : defScope st = PySem.FRow.iS) (hd : ∀ c ∈ B.xr, (c == ("__debug__" : Str)) = false)
    (X : K.In h) (G : h.Ns mainGlobals mg) (lk : lookB B kn K = true) (c : He.SaysD (faOf B) (fnD p B.T ix ++ [dNoText st]) K) (N : List Str) : Rok K mg ⟨B, N⟩ := by
  have lk' := lk
  unfold lookB at lk'
  simp only [Bool.and_eq_true] at lk'
  have hgl : ∀ x : Str, (x ∈ B.xr ∨ x ∈ B.xf.map (·.1)) → mg x = some (.ref (He.ga K x)) := fun x hx => He.glo_ok X G (c.facts (f := .glo x) (by
    unfold faOf
    refine List.mem_append_right _ (List.mem_append_right _ (List.mem_append_right _ (List.mem_append_right _ (List.mem_append_right _ ?_))))
    rcases hx with hx | hx
    · exact List.mem_append_left _ (List.mem_map.mpr ⟨x, hx, rfl⟩)
    · obtain ⟨q, hq, rfl⟩ := List.mem_map.mp hx
      exact List.mem_append_right _ (List.mem_map.mpr ⟨q, hq, rfl⟩)))
  refine ⟨fun Y hK hm x hx m j p0 p2 pos hg hdb => ?_, fun Y hK hm k hr x f hx e te p0 pos he hu hg => ?_⟩
  · have := List.all_eq_true.mp lk'.2.1 x hx
    rw [Bool.and_eq_true] at this
    exact raw_mk (hgl x (.inl hx)) this.1 this.2 hK hm hg hdb
  · have hx0 : (x, f) ∈ B.xf := hx
    rw [hxf] at hx
    have hx' : (x, f) = (("NoText" : Str), ("row" : Str)) := by simpa using hx
    cases hx'
    have := List.all_eq_true.mp lk'.2.2 _ hx0
    rw [Bool.and_eq_true] at this
    obtain ⟨fd, F⟩ := c.def_ (fnD p B.T ix).length (d := dNoText st) (by rw [List.getElem?_append_right (Nat.le_refl _), Nat.sub_self]; rfl)
    have T := row_of X G (hgl "NoText" (.inr (List.mem_map.mpr ⟨_, hx0, rfl⟩))) this.1 this.2 F h1 h2 h3
    exact row_mk T hK hm hr he hu hg
end Mi

/-! MiP: the interpreter, step by step. -/
namespace Mi
open PySem
section
variable {Φ : Phi} {x : Option W} {ρ : Rho} {S : Sto}
@[simp] theorem x_var {i : Nat} : evE Φ (.var i) (x :: ρ) S = (match (x :: ρ)[i]? with | some (some w) => .ok w S | _ => .err) := rfl
@[simp] theorem x_int {k : Int} : evE Φ (.int k) ρ S = .ok (.d (.int k)) S := rfl
@[simp] theorem x_str {k : Str} : evE Φ (.str k) ρ S = .ok (.d (.str k)) S := rfl
@[simp] theorem x_bl {k : Bool} : evE Φ (.bl k) ρ S = .ok (.d (.bool k)) S := rfl
@[simp] theorem x_non : evE Φ .non ρ S = .ok (.d .none) S := rfl
@[simp] theorem x_gi {n : Str} {k : Int} : evE Φ (.gi n k) ρ S = .ok (.d (.int k)) S := rfl
@[simp] theorem x_gs {n k : Str} : evE Φ (.gs n k) ρ S = .ok (.d (.str k)) S := rfl
@[simp] theorem x_o2 {k : O2} {a b : M} : evE Φ (.o2 k a b) (x :: ρ) S = (evE Φ a (x :: ρ) S).bind fun u S1 => (evE Φ b (x :: ρ) S1).bind fun v S2 => R.ofO (Mi.o2 k S2 u v) S2 := rfl
@[simp] theorem x_ch {k1 k2 : O2} {a b c : M} : evE Φ (.ch k1 k2 a b c) (x :: ρ) S = (evE Φ a (x :: ρ) S).bind fun u S1 => (evE Φ b (x :: ρ) S1).bind fun v S2 => (tru (R.ofO (Mi.o2 k1 S2 u v) S2)).bind fun t S3 =>
      if t then (evE Φ c (x :: ρ) S3).bind fun z S4 => R.ofO (Mi.o2 k2 S4 v z) S4 else .ok (.d (.bool false)) S3 := rfl
@[simp] theorem x_neg {a : M} : evE Φ (.neg a) (x :: ρ) S = (evE Φ a (x :: ρ) S).bind fun x S1 => match x with
    | .d (.int i) => .ok (.d (.int (-i))) S1
    | _ => .err := rfl
@[simp] theorem x_and {a b : M} : evE Φ (.and2 a b) (x :: ρ) S = (tru (evE Φ a (x :: ρ) S)).bind fun t S1 => if t then evE Φ b (x :: ρ) S1 else .ok (.d (.bool false)) S1 := rfl
@[simp] theorem x_or {a b : M} : evE Φ (.or2 a b) (x :: ρ) S = (tru (evE Φ a (x :: ρ) S)).bind fun t S1 => if t then .ok (.d (.bool true)) S1 else evE Φ b (x :: ρ) S1 := rfl
@[simp] theorem x_one {a : M} : evE Φ (.one a) (x :: ρ) S = evE Φ a (x :: ρ) S := rfl
@[simp] theorem x_not {a : M} : evE Φ (.not1 a) (x :: ρ) S = (tru (evE Φ a (x :: ρ) S)).bind fun t S1 => .ok (.d (.bool (!t))) S1 := rfl
@[simp] theorem x_ife {t a b : M} : evE Φ (.ife t a b) (x :: ρ) S = (tru (evE Φ t (x :: ρ) S)).bind fun t S1 => if t then evE Φ a (x :: ρ) S1 else evE Φ b (x :: ρ) S1 := rfl
@[simp] theorem x_tup {a : M} : evE Φ (.tup a) (x :: ρ) S = mkL (evA Φ a (x :: ρ) S) tupW := rfl
@[simp] theorem x_lst {a : M} : evE Φ (.lst a) (x :: ρ) S = mkL (evA Φ a (x :: ρ) S) lstW := rfl
@[simp] theorem x_call {f : Nat} {a : M} : evE Φ (.call f a) (x :: ρ) S = (evA Φ a (x :: ρ) S).bind fun ws S1 => Φ.run f ws S1 := rfl
@[simp] theorem x_bi {k : Bi} {a : M} : evE Φ (.bi k a) (x :: ρ) S = (evA Φ a (x :: ρ) S).bind fun ws S1 => R.ofO (Mi.bi k S1 ws) S1 := rfl
@[simp] theorem x_isi {t : String} {a : M} : evE Φ (.isi t a) (x :: ρ) S = (evE Φ a (x :: ρ) S).bind fun u S1 => R.ofO (isiW t S1 u) S1 := rfl
@[simp] theorem x_mt {k : Mt} {a b : M} : evE Φ (.mt k a b) (x :: ρ) S = (evE Φ a (x :: ρ) S).bind fun u S1 => if mtTy k S1 u then (evA Φ b (x :: ρ) S1).bind fun ws S2 => R.ofP (Mi.mt k S2 u ws) else .err := rfl
@[simp] theorem x_ix {a b : M} : evE Φ (.ix a b) (x :: ρ) S = (evE Φ a (x :: ρ) S).bind fun u S1 => (evE Φ b (x :: ρ) S1).bind fun v S2 => R.ofO (ixW S2 u v) S2 := rfl
@[simp] theorem x_sl {a b c : M} : evE Φ (.sl a b c) (x :: ρ) S = (evE Φ a (x :: ρ) S).bind fun u S1 => (evO Φ b (x :: ρ) S1).bind fun l S2 => (evO Φ c (x :: ρ) S2).bind fun h S3 => R.ofO (slW S3 u l h) S3 := rfl
theorem x_lc {own : List Nat} {tg it ts e : M} : evE Φ (.lc own tg it ts e) ρ S = (evI Φ it ρ S).bind fun src S1 => lcGo src.g (fun x S2 => bindT S2 tg x (wipeR ρ own)) (fun ρ' S2 => evT Φ ts ρ' S2) (fun ρ' S2 => evE Φ e ρ' S2) src.xs S1 [] := rfl
@[simp] theorem x_new {a : M} : evE Φ (.new a) (x :: ρ) S = (evE Φ a (x :: ρ) S).bind fun x S1 => match x with
    | .d (.list xs) => .ok (.ptr S1.length) (S1 ++ [.lst xs])
    | _ => .err := rfl
@[simp] theorem x_frz {a : M} : evE Φ (.frz a) (x :: ρ) S = (evE Φ a (x :: ρ) S).bind fun x S1 => match x with
    | .ptr p => (match S1[p]? with
      | some (.lst xs) => .ok (.d (.list xs)) (S1.set p .dead)
      | _ => .err)
    | _ => .err := rfl
@[simp] theorem x_anil : evA Φ .anil ρ S = .ok [] S := rfl
@[simp] theorem x_acons {a r : M} : evA Φ (.acons a r) (x :: ρ) S = (evE Φ a (x :: ρ) S).bind fun u S1 => (evA Φ r (x :: ρ) S1).bind fun xs S2 => .ok (u :: xs) S2 := rfl
@[simp] theorem x_nop : evO Φ .nop ρ S = .ok none S := rfl
@[simp] theorem x_some {a : M} : evO Φ (.one a) (x :: ρ) S = (evE Φ a (x :: ρ) S).bind fun x S1 => match x with
    | .d (.int i) => .ok (some i) S1
    | _ => .err := rfl
@[simp] theorem x_tnil : evT Φ .anil ρ S = .ok true S := rfl
@[simp] theorem x_tone {a : M} : evT Φ (.one a) (x :: ρ) S = tru (evE Φ a (x :: ρ) S) := rfl
@[simp] theorem x_itE {a : M} : evI Φ (.itE a) (x :: ρ) S = (evE Φ a (x :: ρ) S).bind fun w S1 => R.ofO (srcW S1 w) S1 := rfl
@[simp] theorem x_itR {a : M} : evI Φ (.itR a) (x :: ρ) S = (evA Φ a (x :: ρ) S).bind fun ws S1 => R.ofO (srcR ws) S1 := rfl
@[simp] theorem x_itN {a : M} : evI Φ (.itN a) (x :: ρ) S = (evE Φ a (x :: ρ) S).bind fun w S1 => R.ofO (srcN S1 w) S1 := rfl
@[simp] theorem x_itZ {a b : M} : evI Φ (.itZ a b) (x :: ρ) S = (evE Φ a (x :: ρ) S).bind fun u S1 => (evE Φ b (x :: ρ) S1).bind fun v S2 => match u, v with
    | .d (.list xs), .d (.list ys) => .ok ⟨zipL xs ys, none⟩ S2
    | _, _ => .err := rfl
@[simp] theorem x_tru {b : Bool} : tru (.ok (.d (.bool b)) S) = .ok b S := rfl
@[simp] theorem x_mkL {ws : List W} {f : List PyData → Option W} : mkL (.ok ws S) f = R.ofO ((dats? ws).bind f) S := rfl
@[simp] theorem x_dnil : dats? [] = some [] := rfl
@[simp] theorem x_dcons {d : PyData} {r : List W} : dats? (.d d :: r) = (dats? r).map (d :: ·) := rfl
@[simp] theorem x_ofP {w : W} : R.ofP (some (w, S)) = .ok w S := rfl
@[simp] theorem x_fld {f : Str} {cs : List Str} {a : M} : evE Φ (.fld f cs a) (x :: ρ) S = (evE Φ a (x :: ρ) S).bind fun x S1 => match x with
    | .exn x => (match x.f with
      | some (g, y) => if g = f ∧ x.c ∈ cs then .ok (.d y) S1 else .err
      | none => .err)
    | _ => .err := rfl
@[simp] theorem x_isK {k : Nat} {a : M} : evE Φ (.isK k a) (x :: ρ) S = (evE Φ a (x :: ρ) S).bind fun x S1 => match x with
    | .exn x => (match Φ.kn.ask k x.c with
      | some b => .ok (.d (.bool b)) S1
      | none => .err)
    | _ => .err := rfl
/-! statements -/
@[simp] theorem s_rais {c : Str} : exS Φ (.rais c) ρ S = .exc ⟨c, none⟩ ρ S := rfl
@[simp] theorem s_raisF {c f : Str} {e : M} : exS Φ (.raisF c f e) (x :: ρ) S = (evE Φ e (x :: ρ) S).st (x :: ρ) fun w S1 => match w with
    | .d x' => .exc ⟨c, some (f, x')⟩ (x :: ρ) S1
    | _ => .err := rfl
@[simp] theorem s_tryK {k ie i : Nat} {b : M} : exS Φ (.tryK k ie i b) (x :: ρ) S = (match exS Φ b (x :: ρ) S with
    | .exc x ρ1 S1 => (match Φ.kn.ask k x.c with
      | some true => if ie < ρ1.length ∧ i < ρ1.length then .nx (((ρ1.set ie (some (.exn x))).set i (some (.exn x))).set ie none) S1 else .err
      | some false => .exc x ρ1 S1
      | none => .err)
    | r => r) := rfl
@[simp] theorem s_asg {tg e : M} : exS Φ (.asg tg e) (x :: ρ) S = (evE Φ e (x :: ρ) S).st (x :: ρ) fun w S1 => RS.ofO (bindT S1 tg w (x :: ρ)) S1 := rfl
@[simp] theorem s_asgLc {i : Nat} {e : M} : exS Φ (.asgLc i e) (x :: ρ) S = (evE Φ e (x :: ρ) S).st (x :: ρ) fun w S1 => RS.ofO (if i < (x :: ρ).length then some ((x :: ρ).set i (some w)) else none) S1 := rfl
@[simp] theorem s_par {i j : Nat} {a b : M} : exS Φ (.par2 i j a b) (x :: ρ) S = (evE Φ a (x :: ρ) S).st (x :: ρ) fun u S1 => (evE Φ b (x :: ρ) S1).st (x :: ρ) fun v S2 => if i < (x :: ρ).length ∧ j < (x :: ρ).length then .nx (((x :: ρ).set i (some u)).set j (some v)) S2 else .err := rfl
@[simp] theorem s_aug {i : Nat} {k : O2} {e : M} : exS Φ (.aug i k e) (x :: ρ) S = (match (x :: ρ)[i]? with
    | some (some u) => (evE Φ e (x :: ρ) S).st (x :: ρ) fun y S1 => match augW k u y with
      | some z => .nx ((x :: ρ).set i (some z)) S1
      | none => .err
    | _ => .err) := rfl
@[simp] theorem s_setix {a b e : M} : exS Φ (.setix a b e) (x :: ρ) S = (evE Φ e (x :: ρ) S).st (x :: ρ) fun v S1 => (evE Φ a (x :: ρ) S1).st (x :: ρ) fun u S2 => (evE Φ b (x :: ρ) S2).st (x :: ρ) fun i S3 => match setW S3 u i v with
    | some S4 => .nx (x :: ρ) S4
    | none => .err := rfl
@[simp] theorem s_ex {e : M} : exS Φ (.ex e) (x :: ρ) S = (evE Φ e (x :: ρ) S).st (x :: ρ) fun _ S1 => .nx (x :: ρ) S1 := rfl
@[simp] theorem s_ret {e : M} : exS Φ (.ret e) (x :: ρ) S = (evE Φ e (x :: ρ) S).st (x :: ρ) fun w S1 => .rt w S1 := rfl
@[simp] theorem s_retN : exS Φ .retN ρ S = .rt (.d .none) S := rfl
@[simp] theorem s_ift {t a b : M} : exS Φ (.ift t a b) (x :: ρ) S = (tru (evE Φ t (x :: ρ) S)).st (x :: ρ) fun c S1 => if c then exS Φ a (x :: ρ) S1 else exS Φ b (x :: ρ) S1 := rfl
theorem s_for {tg it body : M} : exS Φ (.for_ tg it body) ρ S = (evI Φ it ρ S).st ρ fun src S1 => forGo src.g (fun x ρ' S2 => bindT S2 tg x ρ') (fun ρ' S2 => exS Φ body ρ' S2) src.xs ρ S1 := rfl
theorem s_wh {n : Nat} {t body : M} : exS Φ (.wh n t body) ρ S = whGo (fun ρ' S2 => tru (evE Φ t ρ' S2)) (fun ρ' S2 => exS Φ body ρ' S2) n ρ S := rfl
@[simp] theorem s_brk : exS Φ .brk ρ S = .bk ρ S := rfl
@[simp] theorem s_cnt : exS Φ .cnt ρ S = .ct ρ S := rfl
@[simp] theorem s_pss : exS Φ .pss ρ S = .nx ρ S := rfl
@[simp] theorem s_nev : exS Φ .nev ρ S = .err := rfl
@[simp] theorem s_snil : exS Φ .snil ρ S = .nx ρ S := rfl
@[simp] theorem s_scons {a r : M} : exS Φ (.scons a r) (x :: ρ) S = (match exS Φ a (x :: ρ) S with
    | .nx ρ' S' => exS Φ r ρ' S'
    | r' => r') := rfl
@[simp] theorem t_tn {i : Nat} {w : W} : bindT S (.tn i) w (x :: ρ) = if i < (x :: ρ).length then some ((x :: ρ).set i (some w)) else none := rfl
@[simp] theorem t_tt {a : M} {xs : List PyData} : bindT S (.tt a) (.d (.tuple xs)) (x :: ρ) = bindTs S a (xs.map .d) (x :: ρ) := rfl
@[simp] theorem t_tl {a : M} {xs : List PyData} : bindT S (.tt a) (.d (.list xs)) (x :: ρ) = bindTs S a (xs.map .d) (x :: ρ) := rfl
@[simp] theorem t_nil : bindTs S .anil [] ρ = some ρ := rfl
@[simp] theorem t_cons {a r : M} {w : W} {ws : List W} : bindTs S (.acons a r) (w :: ws) (x :: ρ) = (match bindT S a w (x :: ρ) with
    | some ρ' => bindTs S r ws ρ'
    | none => none) := rfl
@[simp] theorem RS.ofO_some {ρ : Rho} : RS.ofO (some ρ) S = .nx ρ S := rfl
/-! operators -/
variable {a b : Int} {z y : Str} {p q : Bool}
@[simp] theorem o_add : o2 .add S (.d (.int a)) (.d (.int b)) = some (.d (.int (a + b))) := rfl
@[simp] theorem o_adds : o2 .add S (.d (.str z)) (.d (.str y)) = if z.length + y.length ≤ lim then some (.d (.str (z ++ y))) else none := rfl
@[simp] theorem o_sub : o2 .sub S (.d (.int a)) (.d (.int b)) = some (.d (.int (a - b))) := rfl
@[simp] theorem o_mul : o2 .mul S (.d (.int a)) (.d (.int b)) = if mulOk a b then some (.d (.int (a * b))) else none := rfl
@[simp] theorem o_muls : o2 .mul S (.d (.str z)) (.d (.int b)) = if z.length * b.toNat ≤ lim ∧ b ≤ lim ∧ 1 ≤ b then some (.d (.str (repS z b.toNat))) else none := rfl
@[simp] theorem o_fdiv : o2 .fdiv S (.d (.int a)) (.d (.int b)) = if divOk b then some (.d (.int (a.fdiv b))) else none := rfl
@[simp] theorem o_mod : o2 .mod S (.d (.int a)) (.d (.int b)) = if b = 0 then none else some (.d (.int (a.fmod b))) := rfl
@[simp] theorem o_pow : o2 .pow S (.d (.int a)) (.d (.int b)) = if powOk a b then some (.d (.int (a ^ b.toNat))) else none := rfl
@[simp] theorem o_lt : o2 .lt S (.d (.int a)) (.d (.int b)) = some (.d (.bool (decide (a < b)))) := rfl
@[simp] theorem o_le : o2 .le S (.d (.int a)) (.d (.int b)) = some (.d (.bool (decide (a ≤ b)))) := rfl
@[simp] theorem o_gt : o2 .gt S (.d (.int a)) (.d (.int b)) = some (.d (.bool (decide (b < a)))) := rfl
@[simp] theorem o_ge : o2 .ge S (.d (.int a)) (.d (.int b)) = some (.d (.bool (decide (b ≤ a)))) := rfl
@[simp] theorem o_eqi : o2 .eq S (.d (.int a)) (.d (.int b)) = some (.d (.bool (a == b))) := by
  show blW (some (peq (.int a) (.int b))) = _
  simp [peq, blW]
@[simp] theorem o_nei : o2 .ne S (.d (.int a)) (.d (.int b)) = some (.d (.bool (!(a == b)))) := by
  show blW ((some (peq (.int a) (.int b))).map not) = _
  simp [peq, blW]
@[simp] theorem o_eqs : o2 .eq S (.d (.str z)) (.d (.str y)) = some (.d (.bool (z == y))) := by
  show blW (some (peq (.str z) (.str y))) = _
  simp [peq, blW]
@[simp] theorem o_nes : o2 .ne S (.d (.str z)) (.d (.str y)) = some (.d (.bool (!(z == y)))) := by
  show blW ((some (peq (.str z) (.str y))).map not) = _
  simp [peq, blW]
@[simp] theorem o_eqb : o2 .eq S (.d (.bool p)) (.d (.bool q)) = some (.d (.bool (p == q))) := by
  show blW (some (peq (.bool p) (.bool q))) = _
  simp [peq, blW]
@[simp] theorem o_isb : o2 .is_ S (.d (.bool p)) (.d (.bool q)) = some (.d (.bool (p == q))) := rfl
@[simp] theorem o_isnb : o2 .isnot S (.d (.bool p)) (.d (.bool q)) = some (.d (.bool (!(p == q)))) := rfl
@[simp] theorem o_isN {d : PyData} : o2 .is_ S (.d d) (.d .none) = some (.d (.bool (match d with | .none => true | _ => false))) := by
  cases d <;> rfl
@[simp] theorem o_isnN {d : PyData} : o2 .isnot S (.d d) (.d .none) = some (.d (.bool (!(match d with | .none => true | _ => false)))) := by
  cases d <;> rfl
@[simp] theorem o_in1 {c : Nat} : o2 .in_ S (.d (.str ⟨#[c]⟩)) (.d (.str z)) = some (.d (.bool (decide (c ∈ z.cps.toList)))) := rfl
@[simp] theorem o_notin1 {c : Nat} : o2 .notin S (.d (.str ⟨#[c]⟩)) (.d (.str z)) = some (.d (.bool (!decide (c ∈ z.cps.toList)))) := rfl
@[simp] theorem b_abs : bi .abs S [.d (.int a)] = some (.d (.int (if a < 0 then -a else a))) := rfl
@[simp] theorem b_max : bi .max2 S [.d (.int a), .d (.int b)] = some (.d (.int (if b > a then b else a))) := rfl
@[simp] theorem b_min : bi .min2 S [.d (.int a), .d (.int b)] = some (.d (.int (if b < a then b else a))) := rfl
@[simp] theorem b_lens : bi .len S [.d (.str z)] = if z.length ≤ lim then some (.d (.int z.length)) else none := rfl
@[simp] theorem b_lenl {xs : List PyData} : bi .len S [.d (.list xs)] = some (.d (.int xs.length)) := rfl
@[simp] theorem b_lent {xs : List PyData} : bi .len S [.d (.tuple xs)] = some (.d (.int xs.length)) := rfl
@[simp] theorem b_str : bi .str_ S [.d (.int a)] = if a.natAbs.log2 < 1920 then some (.d (.str (toString a))) else none := rfl
@[simp] theorem b_ints : bi .int_ S [.d (.str z)] = if z.length ≤ 640 then (PySem.intText? z).map fun n => .d (.int n) else none := rfl
@[simp] theorem b_tupl {xs : List PyData} : bi .tup_ S [.d (.list xs)] = some (.d (.tuple xs)) := rfl
@[simp] theorem b_tupt {xs : List PyData} : bi .tup_ S [.d (.tuple xs)] = some (.d (.tuple xs)) := rfl
@[simp] theorem b_lstl {xs : List PyData} : bi .list_ S [.d (.list xs)] = some (.d (.list xs)) := rfl
@[simp] theorem b_lstt {xs : List PyData} : bi .list_ S [.d (.tuple xs)] = some (.d (.list xs)) := rfl
@[simp] theorem i_ixs : ixW S (.d (.str z)) (.d (.int a)) = if z.length ≤ lim then (L2.atI z.cps.toList a).map fun c => .d (.str ⟨#[c]⟩) else none := rfl
@[simp] theorem i_ixl {xs : List PyData} : ixW S (.d (.list xs)) (.d (.int a)) = (L2.atI xs a).map .d := rfl
@[simp] theorem i_ixt {xs : List PyData} : ixW S (.d (.tuple xs)) (.d (.int a)) = (L2.atI xs a).map .d := rfl
@[simp] theorem i_sls {lo hi : Option Int} : slW S (.d (.str z)) lo hi = if z.length ≤ lim then some (.d (.str ⟨(cutG z.cps.toList lo hi).toArray⟩)) else none := rfl
@[simp] theorem i_sll {xs : List PyData} {lo hi : Option Int} : slW S (.d (.list xs)) lo hi = some (.d (.list (cutG xs lo hi))) := rfl
@[simp] theorem i_slt {xs : List PyData} {lo hi : Option Int} : slW S (.d (.tuple xs)) lo hi = if HT.sIx xs.length 0 lo = 0 ∧ HT.sIx xs.length xs.length hi = xs.length then none else some (.d (.tuple (cutG xs lo hi))) := rfl
@[simp] theorem i_srcs : srcW S (.d (.str z)) = some ⟨z.cps.toList.map fun c => .d (.str ⟨#[c]⟩), none⟩ := rfl
@[simp] theorem i_srcl {xs : List PyData} : srcW S (.d (.list xs)) = some ⟨xs.map .d, none⟩ := rfl
@[simp] theorem i_srct {xs : List PyData} : srcW S (.d (.tuple xs)) = some ⟨xs.map .d, none⟩ := rfl
@[simp] theorem i_srcR1 : srcR [.d (.int a)] = if rngOk a then some ⟨rngL 0 a.toNat, none⟩ else none := rfl
@[simp] theorem i_srcR2 : srcR [.d (.int a), .d (.int b)] = if rngOk a && rngOk b then some ⟨rngL a (b - a).toNat, none⟩ else none := rfl
@[simp] theorem i_srcN {xs : List PyData} : srcN S (.d (.list xs)) = some ⟨enumL 0 xs, none⟩ := rfl
@[simp] theorem g_none : guard none S = true := rfl
@[simp] theorem leave_d {n : Nat} {d : PyData} : leave n (.d d) S = .ok (.d d) (S.take n) := rfl
@[simp] theorem fin_nx {n : Nat} : fin n (.nx ρ S) = .ok (.d .none) (S.take n) := rfl
@[simp] theorem fin_rt {n : Nat} {w : W} : fin n (.rt w S) = leave n w S := rfl
@[simp] theorem fin_exc {n : Nat} {e : Exn} : fin n (.exc e ρ S) = .exc e (S.take n) := rfl
end
/-- a run of a def -/
theorem run_at {kn : Kn} {T : List Fn} {n f : Nat} {fn : Fn} {ws : List W} {S : Sto} {r : R W} (hf : T[f]? = some fn) (hw : withD fn ws = ws) (hl : ws.length = fn.ps.length) (h : fin S.length (exS (run kn T n) fn.body (startR fn ws) S) = r) : (run kn T (n + 1)).run f ws S = r := by
  show (match T[f]? with | some fn => runF (run kn T n) fn ws S | none => .err) = r
  rw [hf]
  show runF (run kn T n) fn ws S = r
  unfold runF
  rw [hw, if_pos hl]
  exact h
/-! ### loops -/
section
variable {bt : W → Rho → Sto → Option Rho} {body : Rho → Sto → RS} {S : Sto} {g : Option (Nat × List PyData)}
/-- a loop that goes through, the store as it was -/
theorem for_inv (I : Nat → Rho → Prop) : ∀ (xs : List W) (j : Nat) (ρ : Rho), I j ρ → (∀ i x ρ, xs[i]? = some x → I (j + i) ρ → ∃ ρ1 ρ2, bt x ρ S = some ρ1 ∧ body ρ1 S = .nx ρ2 S ∧ I (j + i + 1) ρ2) →
    ∃ ρ', forGo none bt body xs ρ S = .nx ρ' S ∧ I (j + xs.length) ρ'
  | [], j, ρ, h, _ => ⟨ρ, rfl, h⟩
  | x :: xs, j, ρ, h, step => by
    obtain ⟨ρ1, ρ2, e1, e2, h2⟩ := step 0 x ρ rfl h
    obtain ⟨ρ', e3, h3⟩ := for_inv I xs (j + 1) ρ2 h2 fun i y ρ hy hi => by
      have := step (i + 1) y ρ (by simpa using hy) (by rw [show j + (i + 1) = j + 1 + i by omega]; exact hi)
      rw [show j + (i + 1) + 1 = j + 1 + i + 1 by omega] at this
      exact this
    refine ⟨ρ', ?_, by rw [List.length_cons, show j + (xs.length + 1) = j + 1 + xs.length by omega]; exact h3⟩
    unfold forGo
    rw [g_none, if_pos rfl, e1]
    simp only [e2]
    exact e3
/-- the same, the store changing -/
theorem for_invS (I : Nat → Rho → Sto → Prop) : ∀ (xs : List W) (j : Nat) (ρ : Rho) (S : Sto), I j ρ S → (∀ i x ρ S, xs[i]? = some x → I (j + i) ρ S → ∃ ρ1 ρ2 S2, bt x ρ S = some ρ1 ∧ body ρ1 S = .nx ρ2 S2 ∧ I (j + i + 1) ρ2 S2) →
    ∃ ρ' S', forGo none bt body xs ρ S = .nx ρ' S' ∧ I (j + xs.length) ρ' S'
  | [], j, ρ, S, h, _ => ⟨ρ, S, rfl, h⟩
  | x :: xs, j, ρ, S, h, step => by
    obtain ⟨ρ1, ρ2, S2, e1, e2, h2⟩ := step 0 x ρ S rfl h
    obtain ⟨ρ', S', e3, h3⟩ := for_invS I xs (j + 1) ρ2 S2 h2 fun i y ρ S hy hi => by
      have := step (i + 1) y ρ S (by simpa using hy) (by rw [show j + (i + 1) = j + 1 + i by omega]; exact hi)
      rw [show j + (i + 1) + 1 = j + 1 + i + 1 by omega] at this
      exact this
    refine ⟨ρ', S', ?_, by rw [List.length_cons, show j + (xs.length + 1) = j + 1 + xs.length by omega]; exact h3⟩
    unfold forGo
    rw [g_none, if_pos rfl, e1]
    simp only [e2]
    exact e3
/-- a loop that looks for the first that answers P, and returns w there -/
theorem for_find (P : W → Bool) (w : W) (Iv : Rho → Prop) : ∀ (xs : List W), (∀ x ∈ xs, ∀ ρ, Iv ρ → ∃ ρ1, bt x ρ S = some ρ1 ∧ if P x then body ρ1 S = .rt w S else ∃ ρ2, body ρ1 S = .nx ρ2 S ∧ Iv ρ2) → ∀ ρ, Iv ρ →
    if xs.any P then forGo none bt body xs ρ S = .rt w S else ∃ ρ2, forGo none bt body xs ρ S = .nx ρ2 S ∧ Iv ρ2
  | [], _, ρ, h => ⟨ρ, rfl, h⟩
  | x :: xs, step, ρ, h => by
    obtain ⟨ρ1, e1, h1⟩ := step x (List.mem_cons_self ..) ρ h
    rw [List.any_cons]
    cases e : P x with
    | true =>
      rw [e, if_pos rfl] at h1
      rw [Bool.true_or, if_pos rfl]
      unfold forGo
      rw [g_none, if_pos rfl, e1]
      simp only [h1]
    | false =>
      rw [e, if_neg Bool.false_ne_true] at h1
      obtain ⟨ρ2, e2, h2⟩ := h1
      have ih := for_find P w Iv xs (fun y hy => step y (List.mem_cons_of_mem _ hy)) ρ2 h2
      have ef : forGo none bt body (x :: xs) ρ S = forGo none bt body xs ρ2 S := by
        show (if guard none S = true then _ else _) = _
        rw [g_none, if_pos rfl, e1]
        simp only [e2]
      rw [Bool.false_or, ef]
      exact ih
end
/-- while, by a measure -/
theorem wh_inv {t : Rho → Sto → R Bool} {body : Rho → Sto → RS} {S : Sto} (I : Rho → Prop) (D : Rho → Prop) (m : Rho → Nat) (step : ∀ ρ, I ρ → (∃ b, t ρ S = .ok b S ∧ if b then ∃ ρ2, body ρ S = .nx ρ2 S ∧ I ρ2 ∧ m ρ2 < m ρ else D ρ)) :
    ∀ (n : Nat) (ρ : Rho), I ρ → m ρ < n → ∃ ρ', whGo t body n ρ S = .nx ρ' S ∧ D ρ'
  | 0, ρ, _, h => by omega
  | n + 1, ρ, hi, h => by
    obtain ⟨b, e, hb⟩ := step ρ hi
    unfold whGo
    rw [e]
    cases b with
    | false => exact ⟨ρ, rfl, hb⟩
    | true =>
      obtain ⟨ρ2, e2, h2, h3⟩ := hb
      simp only [e2]
      exact wh_inv I D m step n ρ2 h2 (by omega)
end Mi

/-! MiQ: plain facts. -/
namespace Mi
open PySem
theorem log2_lt {a m : Nat} (h : a < 2 ^ m) (hm : 1 ≤ m) : a.log2 < m := by
  by_cases h0 : a = 0
  · subst h0
    exact hm
  · exact (Nat.log2_lt h0).mpr h
theorem mulOk_lt {a b : Int} (m n : Nat) (ha : a.natAbs < 2 ^ m) (hb : b.natAbs < 2 ^ n) (hm : 1 ≤ m) (hn : 1 ≤ n) (h : m + n ≤ 1000000) : mulOk a b = true := by
  have h1 := log2_lt ha hm
  have h2 := log2_lt hb hn
  unfold mulOk
  rw [decide_eq_true_eq]
  omega
theorem divOk_lt {b : Int} (h0 : b ≠ 0) (h : b.natAbs < 2 ^ 8999) : divOk b = true := by
  have := log2_lt h (by decide)
  unfold divOk
  rw [Bool.and_eq_true, decide_eq_true_eq, bne_iff_ne]
  exact ⟨h0, by omega⟩
theorem divOk_small {b : Int} (h0 : b ≠ 0) (h : b.natAbs < 2 ^ 200) : divOk b = true := divOk_lt h0 (Nat.lt_of_lt_of_le h (Nat.pow_le_pow_right (by decide) (by decide)))
theorem rng_ok {a : Int} (h1 : -4000000000000000000 ≤ a) (h2 : a < 4000000000000000000) : rngOk a = true := by
  unfold rngOk
  rw [Bool.and_eq_true, decide_eq_true_eq, decide_eq_true_eq]
  omega
theorem canLay_ints : ∀ ns : List Int, PyData.canLayAll0 (ns.map .int) = true
  | [] => rfl
  | n :: ns => canLay_ints ns
theorem depth_ints : ∀ ns : List Int, PyData.depthAll (ns.map .int) ≤ 1
  | [] => by simp [PyData.depthAll]
  | n :: ns => by
    have := depth_ints ns
    simp [PyData.depthAll, PyData.depth]
    omega
theorem shaped_ints (ns : List Int) : SeqAt.shaped (.list (ns.map .int)) = true := by
  have h := depth_ints ns
  unfold SeqAt.shaped
  rw [Bool.and_eq_true, decide_eq_true_eq]
  exact ⟨canLay_ints ns, by simp [PyData.depth]; omega⟩
theorem eqv_ints : ∀ ns ms : List Int, PyData.eqvAll (ns.map .int) (ms.map .int) = decide (ns = ms)
  | [], [] => rfl
  | [], _ :: _ => rfl
  | _ :: _, [] => rfl
  | n :: ns, m :: ms => by
    show (PyData.eqv (.int n) (.int m) && PyData.eqvAll (ns.map .int) (ms.map .int)) = _
    rw [eqv_ints ns ms]
    show ((n == m) && _) = _
    simp
    by_cases h1 : n = m <;> by_cases h2 : ns = ms <;> simp [h1, h2]
theorem eqD_ints (ns ms : List Int) : eqD (.list (ns.map .int)) (.list (ms.map .int)) = some (decide (ns = ms)) := by
  unfold eqD
  rw [shaped_ints, shaped_ints]
  show (if (true && true) = true then some (PyData.eqvAll (ns.map .int) (ms.map .int)) else none) = _
  rw [eqv_ints]
  rfl
theorem o_neL {S : Sto} (ns ms : List Int) : o2 .ne S (.d (.list (ns.map .int))) (.d (.list (ms.map .int))) = some (.d (.bool (!decide (ns = ms)))) := by
  show blW ((eqD _ _).map not) = _
  rw [eqD_ints]
  rfl
theorem o_eqL {S : Sto} (ns ms : List Int) : o2 .eq S (.d (.list (ns.map .int))) (.d (.list (ms.map .int))) = some (.d (.bool (decide (ns = ms)))) := by
  show blW (eqD _ _) = _
  rw [eqD_ints]
  rfl
theorem atI_nn {α : Type} {xs : List α} {i : Int} (h0 : 0 ≤ i) (h1 : i < xs.length) : ∃ x, L2.atI xs i = some x ∧ xs[i.toNat]? = some x := by
  have hx : xs[i.toNat]? = some (xs[i.toNat]'(by omega)) := List.getElem?_eq_getElem (by omega)
  refine ⟨_, ?_, hx⟩
  unfold L2.atI L2.ixN
  rw [if_pos h0, if_pos h1]
  exact hx
theorem fmod_nn {a b : Int} (h : 0 < b) : 0 ≤ a.fmod b ∧ a.fmod b < b := ⟨Int.fmod_nonneg_of_pos a h, Int.fmod_lt_of_pos a h⟩
theorem fdiv_nn {a b : Int} (h : 0 < b) (ha : 0 ≤ a) : 0 ≤ a.fdiv b ∧ a.fdiv b ≤ a := by
  rw [Int.fdiv_eq_ediv_of_nonneg a (Int.le_of_lt h)]
  exact ⟨Int.ediv_nonneg ha (Int.le_of_lt h), Int.ediv_le_self b ha⟩
/-- a comprehension over plain items, each giving a value, the store as it is -/
theorem lc_map {bt : W → Sto → Option Rho} {tst : Rho → Sto → R Bool} {el : Rho → Sto → R W} {S : Sto} (f : W → PyData) : ∀ (xs : List W) (acc : List PyData), acc.length + xs.length ≤ lim → (∀ x ∈ xs, ∃ ρ, bt x S = some ρ ∧ tst ρ S = .ok true S ∧ el ρ S = .ok (.d (f x)) S) → lcGo none bt tst el xs S acc = .ok (.d (.list (acc ++ xs.map f))) S
  | [], acc, _, _ => by
    show (if guard none S = true then _ else _) = _
    rw [g_none, if_pos rfl, List.map_nil, List.append_nil]
  | x :: xs, acc, hl, h => by
    obtain ⟨ρ, h1, h2, h3⟩ := h x (List.mem_cons_self ..)
    have ih := lc_map f xs (acc ++ [f x]) (by rw [List.length_append]; simp at hl ⊢; omega) fun y hy => h y (List.mem_cons_of_mem _ hy)
    conv => lhs; unfold lcGo
    rw [g_none, if_pos rfl]
    simp only [h1, h2, h3]
    rw [if_pos (by simp at hl; omega), ih]
    simp
end Mi

/-! MiT: numbers as texts. -/
namespace Mi
open PySem TL
/-- a number's signs -/
def tx (x : Int) : List Nat := if x < 0 then 45 :: numL x.natAbs else numL x.natAbs
abbrev NS (x : Int) : PySem.Str := Str.ofString (toString x)
theorem tl_NS (x : Int) : tl (NS x) = tx x := by
  unfold tx
  by_cases h : x < 0
  · rw [if_pos h]
    obtain ⟨n, rfl⟩ : ∃ n : Nat, x = -((n + 1 : Nat) : Int) := ⟨x.natAbs - 1, by omega⟩
    have e : toString (-((n + 1 : Nat) : Int)) = "-" ++ toString ((n + 1 : Nat) : Int) := rfl
    rw [NS, e, tl_ofString, String.toList_append, List.map_append, ← tl_ofString, ← tl_ofString, tl_num]
    rw [show (-((n + 1 : Nat) : Int)).natAbs = n + 1 by omega]
    rfl
  · rw [if_neg h]
    obtain ⟨n, rfl⟩ : ∃ n : Nat, x = (n : Int) := ⟨x.natAbs, by omega⟩
    rw [NS, tl_num]
    rfl
theorem tx_len {x : Int} (h : x.natAbs < 10 ^ 30) : (tx x).length ≤ 31 := by
  have := numL_len (by decide) h
  unfold tx
  split
  · rw [List.length_cons]; omega
  · omega
theorem tx_free {x : Int} {s : Nat} (h : (s < 48 ∨ 57 < s) ∧ s ≠ 45) : s ∉ tx x := by
  unfold tx
  split
  · intro hm
    rcases List.mem_cons.mp hm with z | z
    · exact h.2 z
    · exact numL_free h.1 z
  · exact numL_free h.1
theorem NS_len {x : Int} (h : x.natAbs < 10 ^ 30) : (NS x).length ≤ 31 := by
  rw [len_tl, tl_NS]
  exact tx_len h
theorem NS_len_pos (x : Int) : 1 ≤ (NS x).length := by
  rw [len_tl, tl_NS]
  unfold tx
  split
  · simp
  · have := numL_ne x.natAbs
    cases e : numL x.natAbs with
    | nil => exact absurd e this
    | cons _ _ => simp
theorem NS_int {x : Int} (h : x.natAbs < 10 ^ 30) : intText? (NS x) = some x := by
  have hl := NS_len h
  by_cases h0 : x < 0
  · have e : (NS x).cps.toList = 45 :: numL x.natAbs := by
      have := tl_NS x
      unfold tx at this
      rw [if_pos h0] at this
      exact this
    have := intText_neg (x := NS x) e (numL_digits _) (numL_ne _) (by omega)
    rw [numL_val] at this
    rw [this]
    congr 1
    omega
  · obtain ⟨n, rfl⟩ : ∃ n : Nat, x = (n : Int) := ⟨x.natAbs, by omega⟩
    exact int_num (Nat.le_trans (numL_len (k := 30) (by decide) (by simpa using h)) (by decide))
theorem numL_zero {n : Nat} (h : (numL n).head? = some 48) : n = 0 := by
  induction n using Nat.strongRecOn with
  | _ n ih =>
    by_cases h1 : n < 10
    · rw [numL_lt h1] at h
      simp at h
      omega
    · rw [numL_step (by omega)] at h
      have hne := numL_ne (n / 10)
      cases e : numL (n / 10) with
      | nil => exact absurd e hne
      | cons c r =>
        rw [e] at h
        have := ih (n / 10) (by omega) (by rw [e]; simpa using h)
        omega
theorem log_small {x : Int} (h : x.natAbs < 10 ^ 30) : x.natAbs.log2 < 1920 := log2_lt (Nat.lt_of_lt_of_le h (by
  have : (10 : Nat) ^ 30 ≤ 2 ^ 200 := by decide
  exact Nat.le_trans this (Nat.pow_le_pow_right (by decide) (by decide)))) (by decide)
theorem cut_head {α : Type} (xs : List α) (h : 1 ≤ xs.length) : cutG xs none (some 1) = xs.take 1 := by
  unfold cutG HT.sIx
  have h1 : ¬ ((1 : Int) < 0) := by decide
  simp only [if_neg h1, List.drop_zero, Nat.sub_zero]
  congr 1
  show min 1 xs.length = 1
  omega
theorem cut_tail {α : Type} (xs : List α) (h : 1 ≤ xs.length) : cutG xs (some 1) none = xs.drop 1 := by
  unfold cutG HT.sIx
  have h1 : ¬ ((1 : Int) < 0) := by decide
  simp only [if_neg h1]
  have : min (1 : Int).toNat xs.length = 1 := by
    show min 1 xs.length = 1
    omega
  rw [this]
  exact List.take_of_length_le (by rw [List.length_drop]; exact Nat.le_refl _)
/-- a comprehension that takes none -/
theorem lc_none {bt : W → Sto → Option Rho} {tst : Rho → Sto → R Bool} {el : Rho → Sto → R W} {S : Sto} : ∀ (xs : List W) (acc : List PyData), (∀ x ∈ xs, ∃ ρ, bt x S = some ρ ∧ tst ρ S = .ok false S) → lcGo none bt tst el xs S acc = .ok (.d (.list acc)) S
  | [], acc, _ => by
    show (if guard none S = true then _ else _) = _
    rw [g_none, if_pos rfl]
  | x :: xs, acc, h => by
    obtain ⟨ρ, h1, h2⟩ := h x (List.mem_cons_self ..)
    have ih := lc_none (el := el) xs acc fun y hy => h y (List.mem_cons_of_mem _ hy)
    conv => lhs; unfold lcGo
    rw [g_none, if_pos rfl]
    simp only [h1, h2]
    exact ih
theorem str_inj {a b : PySem.Str} : (a == b) = decide (tl a = tl b) := by
  rw [Bool.eq_iff_iff]
  simp only [beq_iff_eq, decide_eq_true_eq]
  exact ⟨fun h => by rw [h], ext_tl⟩
end Mi

/-! MiR: more steps. -/
namespace Mi
open PySem TL
abbrev wi (i : Int) : W := .d (.int i)
abbrev wS (z : PySem.Str) : W := .d (.str z)
abbrev cellM (v : Int) : MO := .lst [.int v]
section
variable {α : Type} {a b c d e f : α} {l : List α} {S S' : Sto} {p : PyData}
theorem at_nat {xs : List α} {i : Nat} (h : i < xs.length) : L2.atI xs (i : Int) = xs[i]? := by
  unfold L2.atI L2.ixN
  rw [if_pos (Int.natCast_nonneg i), if_pos (Int.ofNat_lt.mpr h)]
  rfl
theorem at_0 : L2.atI (a :: l) 0 = some a := at_nat (i := 0) (by simp)
theorem at_1 : L2.atI (a :: b :: l) 1 = some b := at_nat (i := 1) (by simp)
theorem at_2 : L2.atI (a :: b :: c :: l) 2 = some c := at_nat (i := 2) (by simp)
theorem at_3 : L2.atI (a :: b :: c :: d :: l) 3 = some d := at_nat (i := 3) (by simp)
theorem at_4 : L2.atI (a :: b :: c :: d :: e :: l) 4 = some e := at_nat (i := 4) (by simp)
theorem at_5 : L2.atI (a :: b :: c :: d :: e :: f :: l) 5 = some f := at_nat (i := 5) (by simp)
theorem at_m1 {xs : List α} {x : α} : L2.atI (xs ++ [x]) (-1) = some x := by
  have h2 : L2.ixN (xs ++ [x]).length (-1) = some xs.length := by
    unfold L2.ixN
    rw [if_neg (by decide), List.length_append, List.length_cons, List.length_nil, if_pos (by omega)]
    congr 1
    omega
  unfold L2.atI
  rw [h2]
  simp
theorem x_ofP2 {w : W} : R.ofP (some (w, S)) = .ok w S := rfl
end
section
variable {a b c d e : PyData}
theorem tupW1 : tupW [a] = some (.d (.tuple [a])) := if_pos (by show 1 ≤ 1000000; decide)
theorem tupW2 : tupW [a, b] = some (.d (.tuple [a, b])) := if_pos (by show 2 ≤ 1000000; decide)
theorem tupW3 : tupW [a, b, c] = some (.d (.tuple [a, b, c])) := if_pos (by show 3 ≤ 1000000; decide)
theorem tupW4 : tupW [a, b, c, d] = some (.d (.tuple [a, b, c, d])) := if_pos (by show 4 ≤ 1000000; decide)
theorem tupW5 : tupW [a, b, c, d, e] = some (.d (.tuple [a, b, c, d, e])) := if_pos (by show 5 ≤ 1000000; decide)
theorem lstW0 : lstW [] = some (.d (.list [])) := if_pos (by show 0 ≤ 1000000; decide)
theorem lstW1 : lstW [a] = some (.d (.list [a])) := if_pos (by show 1 ≤ 1000000; decide)
theorem lstW2 : lstW [a, b] = some (.d (.list [a, b])) := if_pos (by show 2 ≤ 1000000; decide)
theorem lstW3 : lstW [a, b, c] = some (.d (.list [a, b, c])) := if_pos (by show 3 ≤ 1000000; decide)
theorem lstW4 : lstW [a, b, c, d] = some (.d (.list [a, b, c, d])) := if_pos (by show 4 ≤ 1000000; decide)
end
theorem lstW_ok {xs : List PyData} (h : xs.length ≤ 1000000) : lstW xs = some (.d (.list xs)) := if_pos h
theorem tupW_ok {xs : List PyData} (h : xs.length ≤ 1000000) : tupW xs = some (.d (.tuple xs)) := if_pos h
theorem lst_ptr {S : Sto} {p : Nat} {xs : List PyData} (h : S[p]? = some (.lst xs)) : lst? S (.ptr p) = some xs := by
  show (match S[p]? with | some (.lst xs) => some xs | _ => none) = _
  rw [h]
theorem ix_ptr {S : Sto} {p : Nat} {xs : List PyData} {k : Int} (h : S[p]? = some (.lst xs)) : ixW S (.ptr p) (.d (.int k)) = (L2.atI xs k).map .d := by
  show (match lst? S (.ptr p) with | some xs => (L2.atI xs k).map W.d | none => none) = _
  rw [lst_ptr h]
theorem len_ptr {S : Sto} {p : Nat} {xs : List PyData} (h : S[p]? = some (.lst xs)) : bi .len S [.ptr p] = some (.d (.int xs.length)) := by
  show (lst? S (.ptr p)).map (fun xs => W.d (.int xs.length)) = _
  rw [lst_ptr h]
  rfl
theorem tup_ptr {S : Sto} {p : Nat} {xs : List PyData} (h : S[p]? = some (.lst xs)) : bi .tup_ S [.ptr p] = some (.d (.tuple xs)) := by
  show (lst? S (.ptr p)).map (fun xs => W.d (.tuple xs)) = _
  rw [lst_ptr h]
  rfl
theorem set_ptr {S : Sto} {p : Nat} {xs : List PyData} {k : Int} {j : Nat} {d : PyData} (h : S[p]? = some (.lst xs)) (hj : L2.ixN xs.length k = some j) : setW S (.ptr p) (.d (.int k)) (.d d) = some (S.set p (.lst (xs.set j d))) := by
  show (match S[p]? with | some (.lst xs) => (L2.ixN xs.length k).map fun j => S.set p (.lst (xs.set j d)) | _ => none) = _
  rw [h]
  show (L2.ixN xs.length k).map _ = _
  rw [hj]
  rfl
theorem get_last {S : Sto} {m : MO} : (S ++ [m])[S.length]? = some m := by simp
theorem set_last {S : Sto} {m m' : MO} : (S ++ [m]).set S.length m' = S ++ [m'] := by
  rw [List.set_append_right _ _ (Nat.le_refl _), Nat.sub_self]
  rfl
theorem take_last {S J : Sto} : (S ++ J).take S.length = S := List.take_left' rfl
theorem take_set {S : Sto} {p : Nat} {m : MO} : (S.set p m).take S.length = S.set p m := by
  rw [List.take_of_length_le]
  rw [List.length_set]
  exact Nat.le_refl _
theorem get_set {S : Sto} {p : Nat} {a b : MO} (h : S[p]? = some a) : (S.set p b)[p]? = some b := List.getElem?_set_self (List.getElem?_eq_some_iff.mp h).1
theorem cut_head' {α : Type} (xs : List α) : cutG xs none (some 1) = xs.take 1 := by
  cases xs with
  | nil => rfl
  | cons x r => exact cut_head _ (by simp)
theorem cut_tail' {α : Type} (xs : List α) : cutG xs (some 1) none = xs.drop 1 := by
  cases xs with
  | nil => rfl
  | cons x r => exact cut_tail _ (by simp)
/-- a comprehension with a test that keeps its items -/
theorem lc_filter {bt : W → Sto → Option Rho} {tst : Rho → Sto → R Bool} {el : Rho → Sto → R W} {S : Sto} (p : PyData → Bool) : ∀ (xs : List PyData) (acc : List PyData), acc.length + xs.length ≤ lim → (∀ x ∈ xs, ∃ ρ, bt (.d x) S = some ρ ∧ tst ρ S = .ok (p x) S ∧ el ρ S = .ok (.d x) S) →
    lcGo none bt tst el (xs.map W.d) S acc = .ok (.d (.list (acc ++ xs.filter p))) S
  | [], acc, _, _ => by
    show (if guard none S = true then _ else _) = _
    rw [g_none, if_pos rfl, List.filter_nil, List.append_nil]
  | x :: xs, acc, hl, h => by
    obtain ⟨ρ, h1, h2, h3⟩ := h x (List.mem_cons_self ..)
    rw [List.map_cons]
    conv => lhs; unfold lcGo
    rw [g_none, if_pos rfl]
    simp only [h1, h2]
    simp at hl
    cases hp : p x with
    | true =>
      simp only [h3]
      rw [if_pos (by omega), lc_filter p xs (acc ++ [x]) (by simp; omega) fun y hy => h y (List.mem_cons_of_mem _ hy), List.filter_cons, hp]
      simp
    | false =>
      simp only []
      rw [lc_filter p xs acc (by omega) fun y hy => h y (List.mem_cons_of_mem _ hy), List.filter_cons, hp]
      simp
theorem canLay_strs : ∀ {ns : List PySem.Str}, (∀ n ∈ ns, PyData.strOk n = true) → PyData.canLayAll0 (ns.map .str) = true
  | [], _ => rfl
  | n :: ns, h => by
    show (PyData.strOk n && PyData.canLayAll0 (ns.map .str)) = true
    rw [h n (List.mem_cons_self ..), canLay_strs fun m hm => h m (List.mem_cons_of_mem _ hm)]
    rfl
theorem depth_strs : ∀ ns : List PySem.Str, PyData.depthAll (ns.map .str) ≤ 1
  | [] => by simp [PyData.depthAll]
  | n :: ns => by
    have := depth_strs ns
    simp [PyData.depthAll, PyData.depth]
    omega
theorem shaped_strs (ns : List PySem.Str) (hs : ∀ n ∈ ns, PyData.strOk n = true) : SeqAt.shaped (.list (ns.map .str)) = true := by
  have h := depth_strs ns
  unfold SeqAt.shaped
  rw [Bool.and_eq_true, decide_eq_true_eq]
  exact ⟨canLay_strs hs, by simp [PyData.depth]; omega⟩
theorem o_neNil {S : Sto} {xs : List PyData} (h : SeqAt.shaped (.list xs) = true) : o2 .ne S (.d (.list xs)) (.d (.list [])) = some (.d (.bool (!xs.isEmpty))) := by
  show blW ((eqD (.list xs) (.list [])).map not) = _
  unfold eqD
  rw [h, show SeqAt.shaped (.list []) = true from shaped_ints []]
  show blW ((some (PyData.eqvAll xs [])).map not) = _
  cases xs <;> rfl
theorem o_eqNil {S : Sto} {xs : List PyData} (h : SeqAt.shaped (.list xs) = true) : o2 .eq S (.d (.list xs)) (.d (.list [])) = some (.d (.bool xs.isEmpty)) := by
  show blW (eqD (.list xs) (.list [])) = _
  unfold eqD
  rw [h, show SeqAt.shaped (.list []) = true from shaped_ints []]
  show blW (some (PyData.eqvAll xs [])) = _
  cases xs <;> rfl
/-- a comprehension whose turns may change the store, over plain items -/
theorem lc_inv {bt : W → Sto → Option Rho} {tst : Rho → Sto → R Bool} {el : Rho → Sto → R W} (I : List PyData → Sto → Prop) : ∀ (xs : List W) (acc : List PyData) (S : Sto), acc.length + xs.length ≤ lim → I acc S →
    (∀ x ∈ xs, ∀ acc S, I acc S → ∃ ρ v S', bt x S = some ρ ∧ tst ρ S = .ok true S ∧ el ρ S = .ok (.d v) S' ∧ I (acc ++ [v]) S') → ∃ ds S', lcGo none bt tst el xs S acc = .ok (.d (.list ds)) S' ∧ I ds S' ∧ ds.length = acc.length + xs.length
  | [], acc, S, _, hI, _ => ⟨acc, S, by
    show (if guard none S = true then _ else _) = _
    rw [g_none, if_pos rfl], hI, rfl⟩
  | x :: xs, acc, S, hl, hI, h => by
    obtain ⟨ρ, v, S1, h1, h2, h3, hI1⟩ := h x (List.mem_cons_self ..) acc S hI
    obtain ⟨ds, S2, e, hI2, hz⟩ := lc_inv I xs (acc ++ [v]) S1 (by rw [List.length_append]; simp at hl ⊢; omega) hI1 fun y hy => h y (List.mem_cons_of_mem _ hy)
    refine ⟨ds, S2, ?_, hI2, by rw [hz, List.length_append, List.length_cons, List.length_cons, List.length_nil]; omega⟩
    conv => lhs; unfold lcGo
    rw [g_none, if_pos rfl]
    simp only [h1, h2, h3]
    rw [if_pos (by simp at hl; omega), e]
/-- a list built by a comprehension, as a map -/
theorem lc_mapP {bt : W → Sto → Option Rho} {tst : Rho → Sto → R Bool} {el : Rho → Sto → R W} {S : Sto} (f : PyData → PyData) (xs : List PyData) (hl : xs.length ≤ lim) (h : ∀ x ∈ xs, ∃ ρ, bt (.d x) S = some ρ ∧ tst ρ S = .ok true S ∧ el ρ S = .ok (.d (f x)) S) :
    lcGo none bt tst el (xs.map W.d) S [] = .ok (.d (.list (xs.map f))) S := by
  have := lc_map (bt := bt) (tst := tst) (el := el) (S := S) (fun w => match w with | .d x => f x | _ => .none) (xs.map W.d) [] (by simpa using hl) (fun w hw => by
    obtain ⟨x, hx, rfl⟩ := List.mem_map.mp hw
    exact h x hx)
  rw [this, List.map_map, List.nil_append]
  rfl
end Mi

namespace My
open PySem PySem.Spec PyProof.Rows L2 Mi
def r_divisor_0 : M := (.scons (.ret (.var 0)) .snil)
def l_divisor_0 : M := (.scons (.par2 0 1 (.var 1) (.o2 .mod (.var 0) (.var 1))) .snil)
def b_divisor : M := (.scons (.asg (.tn 0) (.bi .abs (.acons (.var 0) .anil))) (.scons (.asg (.tn 1) (.bi .abs (.acons (.var 1) .anil))) (.scons (.wh 1000000000000000000000000000000000000000000000000000000000000000000000000000000000000000000000000000000000000000000000000000000000000000000000000000000000000000000000000000000000000000000000000000000000000000000000000000000000000000000000000000000000000000000000000000000000000000000000000000000000000 (.o2 .gt (.var 1) (.int 0)) l_divisor_0) r_divisor_0)))
def r_made_spot_0 : M := (.scons (.ret (.tup (.acons (.o2 .fdiv (.var 0) (.var 4)) (.acons (.o2 .fdiv (.var 1) (.var 4)) (.acons (.o2 .fdiv (.var 2) (.var 4)) (.acons (.o2 .fdiv (.var 3) (.var 4)) .anil)))))) .snil)
def r_made_spot_1 : M := (.scons (.asg (.tn 4) (.call 0 (.acons (.call 0 (.acons (.var 0) (.acons (.var 1) .anil))) (.acons (.call 0 (.acons (.var 2) (.acons (.var 3) .anil))) .anil)))) (.scons (.ift (.o2 .lt (.var 3) (.int 0)) (.scons (.asg (.tn 4) (.o2 .sub (.int 0) (.var 4))) .snil) .snil) r_made_spot_0))
def b_made_spot : M := (.scons (.ift (.o2 .eq (.var 3) (.int 0)) (.scons (.rais "NoSpot") .snil) .snil) r_made_spot_1)
def r_whole_of_0 : M := (.scons (.ret (.bi .int_ (.acons (.var 0) .anil))) .snil)
def r_whole_of_1 : M := (.scons (.ift (.and2 (.o2 .eq (.ix (.var 1) (.int 0)) (.str "0")) (.one (.o2 .ne (.var 0) (.str "0")))) (.scons (.ret .non) .snil) .snil) r_whole_of_0)
def r_whole_of_2 : M := (.scons (.ift (.or2 (.not1 (.ch .le .le (.int 1) (.bi .len (.acons (.var 1) .anil)) (.gi "MOST_FIGURES" 30))) (.one (.o2 .ne (.lc [2] (.tn 2) (.itE (.var 1)) (.one (.o2 .notin (.var 2) (.gs "FIGURES" "0123456789"))) (.var 2)) (.lst .anil)))) (.scons (.ret .non) .snil) .snil) r_whole_of_1)
def b_whole_of : M := (.scons (.asg (.tn 1) (.var 0)) (.scons (.ift (.o2 .eq (.sl (.var 0) .nop (.one (.int 1))) (.str "-")) (.scons (.asg (.tn 1) (.sl (.var 0) (.one (.int 1)) .nop)) .snil) .snil) r_whole_of_2))
def r_spot_of_0 : M := (.scons (.ret (.bi .tup_ (.acons (.var 4) .anil))) .snil)
def r_spot_of_1 : M := (.scons (.ift (.o2 .ne (.call 1 (.acons (.ix (.var 4) (.int 0)) (.acons (.ix (.var 4) (.int 1)) (.acons (.ix (.var 4) (.int 2)) (.acons (.ix (.var 4) (.int 3)) .anil))))) (.bi .tup_ (.acons (.var 4) .anil))) (.scons (.ret .non) .snil) .snil) r_spot_of_0)
def r_spot_of_2 : M := (.scons (.ift (.or2 (.o2 .ne (.bi .len (.acons (.var 4) .anil)) (.int 4)) (.or2 (.o2 .in_ .non (.var 4)) (.or2 (.o2 .lt (.ix (.var 4) (.int 3)) (.int 1)) (.one (.and2 (.o2 .ne (.var 2) (.str "")) (.one (.o2 .eq (.ix (.var 4) (.int 3)) (.int 1)))))))) (.scons (.ret .non) .snil) .snil) r_spot_of_1)
def b_spot_of : M := (.scons (.asg (.tt (.acons (.tn 1) (.acons (.tn 2) (.acons (.tn 3) .anil)))) (.mt .partition (.var 0) (.acons (.str "/") .anil))) (.scons (.asg (.tn 4) (.new (.o2 .add (.lc [5] (.tn 5) (.itE (.mt .split (.var 1) (.acons (.str ",") .anil))) .anil (.call 2 (.acons (.var 5) .anil))) (.lst (.acons (.int 1) .anil))))) (.scons (.ift (.o2 .ne (.var 2) (.str "")) (.scons (.setix (.var 4) (.neg (.int 1)) (.call 2 (.acons (.var 3) .anil))) .snil) .snil) r_spot_of_2)))
def r_told_or_none_0 : M := (.scons (.ret (.var 0)) .snil)
def b_told_or_none : M := (.scons (.ift (.o2 .is_ (.var 0) .non) (.scons (.raisF "NoText" "row" (.int 0)) .snil) .snil) r_told_or_none_0)
def b_read_spot : M := (.scons (.ret (.call 4 (.acons (.call 3 (.acons (.var 0) .anil)) .anil))) .snil)
def b_law_next : M := (.scons (.asg (.tn 2) (.o2 .mod (.ix (.var 0) (.int 0)) (.var 1))) (.scons (.setix (.var 0) (.int 0) (.o2 .fdiv (.ix (.var 0) (.int 0)) (.var 1))) (.scons (.ret (.var 2)) .snil)))
def r_law_left_0 : M := (.scons (.ret (.new (.lst (.acons (.o2 .fdiv (.var 2) (.int 1000003)) .anil)))) .snil)
def l_law_left_0 : M := (.scons (.asg (.tn 1) (.o2 .mod (.o2 .mul (.o2 .mod (.o2 .add (.o2 .add (.o2 .mul (.var 1) (.var 1)) (.o2 .mul (.int 977) (.var 3))) (.int 11)) (.int 2305843009213693951)) (.int 69621)) (.int 2305843009213693951))) (.scons (.asg (.tn 2) (.o2 .add (.o2 .mul (.var 2) (.int 2305843009213693952)) (.var 1))) .snil))
def r_law_left_1 : M := (.scons (.asg (.tn 1) (.o2 .mod (.o2 .add (.o2 .mul (.o2 .mod (.var 0) (.int 2305843009213693951)) (.int 48271)) (.int 7)) (.int 2305843009213693951))) (.scons (.asg (.tn 2) (.int 0)) (.scons (.for_ (.tn 3) (.itR (.acons (.int 9) .anil)) l_law_left_0) r_law_left_0)))
def b_law_left : M := (.scons (.ift (.or2 (.o2 .ge (.var 0) (.o2 .pow (.int 10) (.int 18))) (.one (.o2 .le (.var 0) (.neg (.o2 .pow (.int 10) (.int 18)))))) (.scons (.ret (.new (.lst (.acons (.var 0) .anil)))) .snil) .snil) r_law_left_1)
def r_law_divisor_0 : M := (.scons (.ret (.var 1)) .snil)
def l_law_divisor_0 : M := (.scons (.par2 1 3 (.var 3) (.o2 .mod (.var 1) (.var 3))) .snil)
def l_law_divisor_1 : M := (.scons (.asg (.tn 3) (.bi .abs (.acons (.var 2) .anil))) (.scons (.wh 1000000000000000000000000000000000000000000000000000000000000000000000000000000000000000000000000000000000000000000000000000000000000000000000000000000000000000000000000000000000000000000000000000000000000000000000000000000000000000000000000000000000000000000000000000000000000000000000000000000000000 (.o2 .gt (.var 3) (.int 0)) l_law_divisor_0) .snil))
def b_law_divisor : M := (.scons (.asg (.tn 1) (.int 0)) (.scons (.for_ (.tn 2) (.itE (.var 0)) l_law_divisor_1) r_law_divisor_0))
def b_law_lowest : M := (.scons (.asg (.tn 1) (.call 8 (.acons (.var 0) .anil))) (.scons (.ret (.bi .tup_ (.acons (.lc [2] (.tn 2) (.itE (.var 0)) .anil (.o2 .fdiv (.var 2) (.var 1))) .anil))) .snil))
def b_law_words : M := (.scons (.ret (.lc [1] (.tn 1) (.itE (.var 0)) .anil (.bi .str_ (.acons (.var 1) .anil)))) .snil)
def r_law_joined_0 : M := (.scons (.ret (.o2 .add (.o2 .add (.mt .join (.str ",") (.acons (.sl (.var 0) .nop (.one (.int 3))) .anil)) (.str "/")) (.ix (.var 0) (.int 3)))) .snil)
def b_law_joined : M := (.scons (.ift (.o2 .eq (.ix (.var 0) (.int 3)) (.str "1")) (.scons (.ret (.mt .join (.str ",") (.acons (.sl (.var 0) .nop (.one (.int 3))) .anil))) .snil) .snil) r_law_joined_0)
def b_law_bad_word : M := (.scons (.asg (.tn 2) (.bi .str_ (.acons (.bi .abs (.acons (.var 1) .anil)) .anil))) (.scons (.asg (.tn 3) (.new (.lst (.acons (.str "-0") (.acons (.o2 .mul (.str "1") (.int 31)) (.acons (.str "") (.acons (.str "-") (.acons (.o2 .add (.str "-1") (.o2 .mul (.str "0") (.int 30))) (.acons (.str "00") (.acons (.str "- 1") .anil)))))))))) (.scons (.ex (.mt .extend (.var 3) (.acons (.lc [4] (.tn 4) (.itE (.lst (.acons (.str "0") (.acons (.str "+") (.acons (.str "--") (.acons (.str " ") .anil)))))) .anil (.o2 .add (.var 4) (.var 2))) .anil))) (.scons (.ex (.mt .extend (.var 3) (.acons (.lc [4] (.tn 4) (.itE (.lst (.acons (.str "a") (.acons (.str ".0") (.acons (.str " ") (.acons (.str ",") .anil)))))) .anil (.o2 .add (.var 2) (.var 4))) .anil))) (.scons (.ret (.ix (.var 3) (.call 6 (.acons (.var 0) (.acons (.bi .len (.acons (.var 3) .anil)) .anil))))) .snil)))))
def b_law_spoilt : M := (.scons (.asg (.tn 2) (.call 10 (.acons (.var 1) .anil))) (.scons (.asg (.tn 3) (.mt .join (.str ",") (.acons (.sl (.var 2) .nop (.one (.int 3))) .anil))) (.scons (.asg (.tn 4) (.call 6 (.acons (.var 0) (.acons (.int 3) .anil)))) (.scons (.asg (.tn 5) (.o2 .add (.o2 .add (.sl (.var 2) .nop (.one (.var 4))) (.lst (.acons (.call 12 (.acons (.var 0) (.acons (.ix (.var 1) (.var 4)) .anil))) .anil))) (.sl (.var 2) (.one (.o2 .add (.var 4) (.int 1))) .nop))) (.scons (.asg (.tn 6) (.o2 .add (.o2 .add (.mt .join (.str ",") (.acons (.lc [9] (.tn 9) (.itE (.sl (.var 1) .nop (.one (.int 3)))) .anil (.bi .str_ (.acons (.o2 .mul (.int 2) (.var 9)) .anil))) .anil)) (.str "/")) (.bi .str_ (.acons (.o2 .mul (.int 2) (.ix (.var 1) (.int 3))) .anil)))) (.scons (.asg (.tn 7) (.call 11 (.acons (.var 2) .anil))) (.scons (.asg (.tn 8) (.new (.lst (.acons (.call 11 (.acons (.var 5) .anil)) (.acons (.mt .join (.str ",") (.acons (.sl (.var 2) .nop (.one (.int 2))) .anil)) (.acons (.var 6) (.acons (.str "1,1,1/2/3") (.acons (.o2 .add (.o2 .add (.str "(") (.var 7)) (.str ")")) (.acons (.str "") .anil))))))))) (.scons (.ex (.mt .extend (.var 8) (.acons (.lst (.acons (.str "/2") (.acons (.str ",,") (.acons (.str "1,1,1/02") (.acons (.str "1,1,1/+2") (.acons (.o2 .add (.str "1,1,1/") (.o2 .mul (.str "2") (.int 31))) (.acons (.str "1 1 1") .anil))))))) .anil))) (.scons (.ex (.mt .extend (.var 8) (.acons (.lc [10] (.tn 10) (.itE (.lst (.acons (.str ",7") (.acons (.str "/1") (.acons (.str "/0") (.acons (.str "/-2") (.acons (.str "/") .anil))))))) .anil (.o2 .add (.var 3) (.var 10))) .anil))) (.scons (.ex (.mt .extend (.var 8) (.acons (.lc [10] (.tn 10) (.itE (.lst (.acons (.str " ") (.acons (.str "\n") (.acons (.str ";") .anil))))) .anil (.o2 .add (.var 7) (.var 10))) .anil))) (.scons (.ex (.mt .extend (.var 8) (.acons (.lc [11] (.tn 11) (.itE (.lst (.acons (.str " ") (.acons (.str "\n") (.acons (.str "+") .anil))))) .anil (.o2 .add (.var 11) (.var 7))) .anil))) (.scons (.ret (.o2 .add (.lst (.acons (.call 11 (.acons (.var 5) .anil)) .anil)) (.lc [12] (.tn 12) (.itR (.acons (.int 5) .anil)) .anil (.ix (.var 8) (.call 6 (.acons (.var 0) (.acons (.bi .len (.acons (.var 8) .anil)) .anil))))))) .snil))))))))))))
def r_law_refused_0 : M := (.scons (.ret (.and2 (.isi "int" (.fld "row" ["NoText"] (.var 1))) (.and2 (.not1 (.isi "bool" (.fld "row" ["NoText"] (.var 1)))) (.one (.o2 .eq (.fld "row" ["NoText"] (.var 1)) (.int 0)))))) .snil)
def r_law_refused_1 : M := (.scons (.ift (.or2 (.not1 (.isK 1 (.var 1))) (.one (.not1 (.isK 0 (.var 1))))) (.scons (.ret (.bl false)) .snil) .snil) r_law_refused_0)
def r_law_refused_2 : M := (.scons (.ift (.isK 2 (.var 1)) (.scons (.ret (.bl false)) .snil) .snil) r_law_refused_1)
def l_law_refused_0 : M := (.scons (.ex (.call 5 (.acons (.var 0) .anil))) .snil)
def b_law_refused : M := (.scons (.asg (.tn 1) .non) (.scons (.tryK 3 2 1 l_law_refused_0) r_law_refused_2))
def r_law_0 : M := (.scons (.ret (.bl true)) .snil)
def r_law_1 : M := (.scons (.ift (.o2 .ne (.call 5 (.acons (.call 11 (.acons (.call 10 (.acons (.var 5) .anil)) .anil)) .anil)) (.var 5)) (.scons (.ret (.bl false)) .snil) .snil) .snil)
def l_law_0 : M := (.scons (.ift (.not1 (.call 14 (.acons (.var 6) .anil))) (.scons (.ret (.bl false)) .snil) .snil) .snil)
def l_law_1 : M := (.scons (.asg (.tn 2) (.call 7 (.acons (.var 1) .anil))) (.scons (.asg (.tn 3) (.ix (.lst (.acons (.int 3) (.acons (.int 1000) (.acons (.o2 .pow (.int 10) (.int 28)) .anil)))) (.call 6 (.acons (.var 2) (.acons (.int 3) .anil))))) (.scons (.asgLc 4 (.lc [7] (.tn 7) (.itR (.acons (.int 3) .anil)) .anil (.o2 .sub (.call 6 (.acons (.var 2) (.acons (.o2 .add (.o2 .mul (.int 2) (.var 3)) (.int 1)) .anil))) (.var 3)))) (.scons (.asg (.tn 5) (.call 9 (.acons (.o2 .add (.var 4) (.lst (.acons (.o2 .add (.int 1) (.call 6 (.acons (.var 2) (.acons (.int 12) .anil)))) .anil))) .anil))) (.scons (.for_ (.tn 6) (.itE (.call 13 (.acons (.var 2) (.acons (.var 5) .anil)))) l_law_0) r_law_1)))))
def b_law : M := (.scons (.for_ (.tn 1) (.itE (.o2 .add (.lst (.acons (.int 0) .anil)) (.var 0))) l_law_1) r_law_0)
def f_divisor : Fn := ⟨"divisor", ["one", "other"], ["one", "other"], [], b_divisor⟩
def f_made_spot : Fn := ⟨"made_spot", ["x", "y", "z", "w"], ["x", "y", "z", "w", "by"], [.int 1], b_made_spot⟩
def f_whole_of : Fn := ⟨"whole_of", ["word"], ["word", "figures", "sign"], [], b_whole_of⟩
def f_spot_of : Fn := ⟨"spot_of", ["word"], ["word", "top", "stroke", "bottom", "numbers", "part"], [], b_spot_of⟩
def f_told_or_none : Fn := ⟨"told_or_none", ["found"], ["found"], [], b_told_or_none⟩
def f_read_spot : Fn := ⟨"read_spot", ["text"], ["text"], [], b_read_spot⟩
def f_law_next : Fn := ⟨"_law_next", ["left", "base"], ["left", "base", "digit"], [], b_law_next⟩
def f_law_left : Fn := ⟨"_law_left", ["cell"], ["cell", "near", "far", "k"], [], b_law_left⟩
def f_law_divisor : Fn := ⟨"_law_divisor", ["numbers"], ["numbers", "found", "number", "other"], [], b_law_divisor⟩
def f_law_lowest : Fn := ⟨"_law_lowest", ["numbers"], ["numbers", "by", "number"], [], b_law_lowest⟩
def f_law_words : Fn := ⟨"_law_words", ["spot"], ["spot", "number"], [], b_law_words⟩
def f_law_joined : Fn := ⟨"_law_joined", ["words"], ["words"], [], b_law_joined⟩
def f_law_bad_word : Fn := ⟨"_law_bad_word", ["left", "number"], ["left", "number", "figures", "some", "sign"], [], b_law_bad_word⟩
def f_law_spoilt : Fn := ⟨"_law_spoilt", ["left", "spot"], ["left", "spot", "words", "whole", "at", "bad", "twice", "text", "some", "number", "end", "start", "k"], [], b_law_spoilt⟩
def f_law_refused : Fn := ⟨"_law_refused", ["text"], ["text", "error", "e"], [], b_law_refused⟩
def f_law : Fn := ⟨"law", ["script"], ["script", "cell", "left", "span", "numbers", "spot", "text", "k"], [], b_law⟩
def T : List Fn := [f_divisor, f_made_spot, f_whole_of, f_spot_of, f_told_or_none, f_read_spot, f_law_next, f_law_left, f_law_divisor, f_law_lowest, f_law_words, f_law_joined, f_law_bad_word, f_law_spoilt, f_law_refused, f_law]
def ix : List Nat := [13, 15, 19, 20, 21, 22, 24, 25, 26, 27, 30, 31, 32, 33, 34, 35]
def gI : List (PySem.Str × Int) := [("MOST_FIGURES", 30)]
def gS : List (PySem.Str × PySem.Str) := [("FIGURES", "0123456789")]
def gF : List PySem.Str := ["abs", "int", "len", "tuple", "range", "str", "isinstance", "bool"]
def xr : List PySem.Str := ["NoSpot"]
def xf : List (PySem.Str × PySem.Str) := [("NoText", "row")]
def ks : List (List Cz) := [[.bt "ValueError"], [.own "NoText"], [.own "NoBoard", .own "NoDeed", .own "NoFrame", .own "NoName", .own "NoNumber", .own "NoPlane", .own "NoSpot", .own "NotFree", .own "TooMany"], [.own "SightError"]]
def kn : Kn := [(["NoSpot", "NoText"], []), (["NoText"], ["NoSpot"]), (["NoSpot"], ["NoText"]), (["NoSpot", "NoText"], [])]
def B : Tb := ⟨T, gI, gS, gF, xr, xf, ks⟩
def loose0 : List PySem.Str := ["SightError", "NoNumber", "NoSpot", "NoPlane", "NoBoard", "NoFrame", "TooMany", "NoName", "NoDeed", "NotFree", "NoText", "divisor", "made_spot", "FIGURES", "MOST_FIGURES", "whole_of", "spot_of", "told_or_none", "read_spot", "_law_next", "_law_left", "_law_divisor", "_law_lowest", "_law_cross", "_law_dot", "_law_words", "_law_joined", "_law_bad_word", "_law_spoilt", "_law_refused"]
def loose : List PySem.Str := loose0
abbrev rw0 := PySem.Challenge.rw_boardsight_k85_no_spots
abbrev Rw0 : PySem.W.OpenRow := PySem.W.OpenLaw.row rw0
abbrev Pw : Program := PySem.Challenge.pw_boardsight_k85_no_spots
def fa : List He.Fa := faOf B
def sNoText : Stmt := stIn Pw 11 0
def dx : List He.DefD := [dNoText sNoText]
def fn : List He.DefD := fnD Pw T ix ++ dx
def lkB : PySem.W.Frag → Bool := lookB B kn
abbrev hk : PySem.W.Hook := hookM 6 lkB fa fn
def ob (s : PySem.W.SharedT) : Bool × He.AlD := obsM 6 lkB fa fn (HandSHeadRun.getT s)
theorem ob_eq (s : PySem.W.SharedT) : ob s = hk.obs s.abs := obsM_eq (HandSHeadRun.getT_eq s)
theorem run_ (w : World) : HandSHeadRun.RunEq Rw0 (PySem.W.view Rw0.prog [35]) hk ob 8000 loose w := by
  intro os
  kernel_rfl
theorem ok_all : okAll Pw B ix = true := by kernel_rfl
theorem hrok (K : PySem.W.Frag) (mg : Str → Option Value) (h : Heap) (X : K.In h) (G : h.Ns mainGlobals mg) (lk : lookB B kn K = true) (c : He.SaysD (faOf B) (fnD Pw B.T ix ++ dx) K) (N : List Str) : Rok K mg ⟨B, N⟩ :=
  rok_of rfl ⟨_, _, rfl⟩ ⟨_, _, _, _, rfl⟩ rfl (by decide) X G lk c N
theorem bd_made_spot : BdOk f_made_spot (stAt Pw 15) := by
  intro _ n j hj hn T kV doc pm an cdv ct us its h1 h2
  have hj : j ≤ 1 := hj
  have hn : n + (1 - j) = 4 := hn
  have h2 : its.length = 1 := h2
  match j, us, its, hj, hn, h1, h2 with
  | 0, us, its, _, hn, h1, h2 =>
    match us, its, (show us.length = 3 by omega), h2 with
    | [a0, a1, a2], [d], _, _ => exact ⟨_, rfl, rfl⟩
  | 1, us, its, _, hn, h1, h2 =>
    match us, its, (show us.length = 4 by omega), h2 with
    | [a0, a1, a2, a3], [d], _, _ => exact ⟨_, rfl, rfl⟩
theorem bd_all : ∀ (i j : Nat) (f : Fn), T[i]? = some f → ix[i]? = some j → BdOk f (stAt Pw j)
  | 0, _, _, hf, hj => by cases hf; exact fun hd => absurd rfl hd
  | 1, _, _, hf, hj => by cases hf; cases hj; exact bd_made_spot
  | 2, _, _, hf, hj => by cases hf; exact fun hd => absurd rfl hd
  | 3, _, _, hf, hj => by cases hf; exact fun hd => absurd rfl hd
  | 4, _, _, hf, hj => by cases hf; exact fun hd => absurd rfl hd
  | 5, _, _, hf, hj => by cases hf; exact fun hd => absurd rfl hd
  | 6, _, _, hf, hj => by cases hf; exact fun hd => absurd rfl hd
  | 7, _, _, hf, hj => by cases hf; exact fun hd => absurd rfl hd
  | 8, _, _, hf, hj => by cases hf; exact fun hd => absurd rfl hd
  | 9, _, _, hf, hj => by cases hf; exact fun hd => absurd rfl hd
  | 10, _, _, hf, hj => by cases hf; exact fun hd => absurd rfl hd
  | 11, _, _, hf, hj => by cases hf; exact fun hd => absurd rfl hd
  | 12, _, _, hf, hj => by cases hf; exact fun hd => absurd rfl hd
  | 13, _, _, hf, hj => by cases hf; exact fun hd => absurd rfl hd
  | 14, _, _, hf, hj => by cases hf; exact fun hd => absurd rfl hd
  | 15, _, _, hf, hj => by cases hf; exact fun hd => absurd rfl hd
  | _ + 16, _, _, hf, _ => by cases hf
end My

namespace My
open PySem Mi
theorem r_next (n : Nat) (S : Sto) (p : Nat) (v b : Int) (hp : S[p]? = some (cellM v)) (h0 : 0 < b) (h1 : b < 2 ^ 200) : (run kn T (n + 1)).run 6 [.ptr p, wi b] S = .ok (wi (v.fmod b)) (S.set p (cellM (v.fdiv b))) := by
  refine run_at (fn := f_law_next) rfl rfl rfl ?_
  show fin S.length (exS _ b_law_next [some (.ptr p), some (wi b), none] S) = _
  have hi : ixW S (.ptr p) (.d (.int 0)) = some (wi v) := by
    show (match lst? S (.ptr p) with | some xs => (L2.atI xs 0).map W.d | none => none) = _
    rw [lst_ptr hp]
    rfl
  have hs : ∀ w, setW S (.ptr p) (.d (.int 0)) (.d w) = some (S.set p (.lst [w])) := fun w => by
    show (match S[p]? with | some (.lst xs) => (L2.ixN xs.length 0).map fun j => S.set p (.lst (xs.set j w)) | _ => none) = _
    rw [hp]
    rfl
  have hb : ¬ (b = 0) := by omega
  have hd : divOk b = true := divOk_small (by omega) (by omega)
  unfold b_law_next
  simp only [s_scons, s_asg, x_o2, x_ix, x_var, x_int, List.getElem?_cons_succ, List.getElem?_cons_zero, R.bind_ok, hi, R.ofO_some, o_mod, if_neg hb, R.st_ok, t_tn, List.length_cons, List.length_nil, Nat.reduceAdd, Nat.reduceLT, if_true, List.set_cons_succ, List.set_cons_zero, RS.ofO_some, s_setix, o_fdiv, hd, hs, s_ret, fin_rt, leave_d, take_set]

theorem fmod_abs {a b : Int} (h : 0 < b) : (a.fmod b).natAbs < b.natAbs := by
  obtain ⟨h0, h1⟩ := fmod_nn (a := a) h
  omega
theorem mul_lt (a b : Int) (h1 : a.natAbs < 2 ^ 200) (h2 : b.natAbs < 2 ^ 200) : mulOk a b = true := mulOk_lt 200 200 h1 h2 (by decide) (by decide) (by decide)
theorem rngL_get {lo : Int} {n i : Nat} {x : W} (h : (rngL lo n)[i]? = some x) : i < n ∧ x = wi (lo + (i : Nat)) := by
  unfold rngL at h
  rw [List.getElem?_map] at h
  by_cases hi : i < n
  · rw [List.getElem?_range hi] at h
    cases h
    exact ⟨hi, rfl⟩
  · rw [List.getElem?_eq_none (by simpa using Nat.le_of_not_lt hi)] at h
    cases h
theorem far_le {far near : Int} {i : Nat} (h0 : 0 ≤ far) (h1 : far < 2 ^ (62 * i)) (n0 : 0 ≤ near) (n1 : near < 2305843009213693951) : 0 ≤ far * 2305843009213693952 + near ∧ far * 2305843009213693952 + near < 2 ^ (62 * (i + 1)) := by
  have e : (2 : Int) ^ (62 * (i + 1)) = 2 ^ (62 * i) * 4611686018427387904 := by
    rw [show 62 * (i + 1) = 62 * i + 62 by omega, Int.pow_add]
    rfl
  rw [e]
  generalize (2 : Int) ^ (62 * i) = p at h1
  omega
theorem left_loop (Φ : Phi) (S : Sto) (c : Option W) (near : Int) (n0 : 0 ≤ near) (n1 : near < 2305843009213693951) : ∃ nr fr k, exS Φ (.for_ (.tn 3) (.itR (.acons (.int 9) .anil)) l_law_left_0) [c, some (wi near), some (wi 0), none] S = .nx [c, some (wi nr), some (wi fr), k] S := by
  obtain ⟨ρ', e, nr, fr, k, rfl, _⟩ := for_inv (S := S) (bt := fun x ρ' S2 => bindT S2 (.tn 3) x ρ') (body := fun ρ' S2 => exS Φ l_law_left_0 ρ' S2) (fun i ρ => ∃ nr fr k, ρ = [c, some (wi nr), some (wi fr), k] ∧ 0 ≤ nr ∧ nr < 2305843009213693951 ∧ 0 ≤ fr ∧ fr < 2 ^ (62 * i)) (rngL 0 9) 0 [c, some (wi near), some (wi 0), none] ⟨near, 0, none, rfl, n0, n1, by decide, by decide⟩ (fun i x ρ hx hI => by
    obtain ⟨nr, fr, k, rfl, a0, a1, f0, f1⟩ := hI
    obtain ⟨hi, rfl⟩ := rngL_get hx
    obtain ⟨b0, b1⟩ := fmod_nn (a := nr * nr + 977 * (0 + (i : Nat)) + 11) (b := 2305843009213693951) (by decide)
    obtain ⟨c0, c1⟩ := fmod_nn (a := (nr * nr + 977 * (0 + (i : Nat)) + 11).fmod 2305843009213693951 * 69621) (b := 2305843009213693951) (by decide)
    obtain ⟨g0, g1⟩ := far_le f0 f1 c0 c1
    have m1 : mulOk nr nr = true := mul_lt _ _ (by omega) (by omega)
    have m2 : mulOk 977 (0 + (i : Nat)) = true := mul_lt _ _ (by decide) (by omega)
    have m3 : mulOk ((nr * nr + 977 * (0 + (i : Nat)) + 11).fmod 2305843009213693951) 69621 = true := mul_lt _ _ (by omega) (by decide)
    have m4 : mulOk fr 2305843009213693952 = true := by
      refine mulOk_lt 700 200 ?_ (by decide) (by decide) (by decide) (by decide)
      have : fr < 2 ^ 700 := Int.lt_of_lt_of_le f1 (by
        have h := Nat.pow_le_pow_right (n := 2) (by decide) (show 62 * (0 + i) ≤ 700 by omega)
        have h2 : ((2 ^ (62 * (0 + i)) : Nat) : Int) ≤ ((2 ^ 700 : Nat) : Int) := Int.ofNat_le.mpr h
        rw [Int.natCast_pow, Int.natCast_pow] at h2
        exact h2)
      omega
    generalize hu : ((nr * nr + 977 * (0 + (i : Nat)) + 11).fmod 2305843009213693951 * 69621).fmod 2305843009213693951 = u at c0 c1 g0 g1
    refine ⟨[c, some (wi nr), some (wi fr), some (wi (0 + (i : Nat)))], [c, some (wi u), some (wi (fr * 2305843009213693952 + u)), some (wi (0 + (i : Nat)))], by simp, ?_, u, fr * 2305843009213693952 + u, _, rfl, c0, c1, g0, g1⟩
    have z : ¬ ((2305843009213693951 : Int) = 0) := by decide
    unfold l_law_left_0
    simp only [s_scons, s_asg, s_snil, x_o2, x_var, x_int, List.getElem?_cons_succ, List.getElem?_cons_zero, R.bind_ok, o_mul, m1, m2, m3, m4, if_true, R.ofO_some, o_add, o_mod, if_neg z, hu, R.st_ok, t_tn, List.length_cons, List.length_nil, Nat.reduceAdd, Nat.reduceLT, List.set_cons_succ, List.set_cons_zero, RS.ofO_some])
  refine ⟨nr, fr, k, ?_⟩
  have hr : rngOk 9 = true := by decide
  simp only [s_for, x_itR, x_acons, x_anil, x_int, R.bind_ok, i_srcR1, hr, if_true, R.ofO_some, R.st_ok]
  exact e
theorem r_left (n : Nat) (S : Sto) (c : Int) : ∃ v, (run kn T (n + 1)).run 7 [wi c] S = .ok (.ptr S.length) (S ++ [cellM v]) := by
  have lv : ∀ v, leave S.length (.ptr S.length) (S ++ [cellM v]) = .ok (.ptr S.length) (S ++ [cellM v]) := fun v => by
    show (if S.length < S.length then _ else _) = _
    rw [if_neg (Nat.lt_irrefl _)]
  have p1 : powOk 10 18 = true := by decide
  by_cases hc : 10 ^ 18 ≤ c ∨ c ≤ -10 ^ 18
  · refine ⟨c, run_at (fn := f_law_left) rfl rfl rfl ?_⟩
    show fin S.length (exS _ b_law_left [some (wi c), none, none, none] S) = _
    unfold b_law_left
    simp [p1, lstW, show 1 ≤ lim by decide]
    rcases hc with hc | hc
    · simp at hc
      simp [hc, lv]
    · simp at hc
      by_cases h2 : (1000000000000000000 : Int) ≤ c
      · simp [h2, lv]
      · simp [h2, hc, lv]
  · obtain ⟨a0, a1⟩ := fmod_nn (a := c) (b := 2305843009213693951) (by decide)
    obtain ⟨b0, b1⟩ := fmod_nn (a := c.fmod 2305843009213693951 * 48271 + 7) (b := 2305843009213693951) (by decide)
    obtain ⟨nr, fr, k, e⟩ := left_loop (run kn T n) S (some (wi c)) _ b0 b1
    refine ⟨fr.fdiv 1000003, run_at (fn := f_law_left) rfl rfl rfl ?_⟩
    show fin S.length (exS _ b_law_left [some (wi c), none, none, none] S) = _
    have m1 : mulOk (c.fmod 2305843009213693951) 48271 = true := mul_lt _ _ (by omega) (by decide)
    have d1 : divOk 1000003 = true := by decide
    have z : ¬ ((2305843009213693951 : Int) = 0) := by decide
    have h1 : ¬ (1000000000000000000 : Int) ≤ c := fun h => hc (.inl (by simpa using h))
    have h2 : ¬ c ≤ (-1000000000000000000 : Int) := fun h => hc (.inr (by simpa using h))
    unfold b_law_left
    simp [p1, h1, h2]
    unfold r_law_left_1
    simp only [s_scons, s_asg, x_o2, x_var, x_int, List.getElem?_cons_succ, List.getElem?_cons_zero, R.bind_ok, o_mul, m1, if_true, R.ofO_some, o_add, o_mod, if_neg z, R.st_ok, t_tn, List.length_cons, List.length_nil, Nat.reduceAdd, Nat.reduceLT, List.set_cons_succ, List.set_cons_zero, RS.ofO_some, e]
    unfold r_law_left_0
    simp [d1, lstW, show 1 ≤ lim by decide, lv]
end My

namespace My
open PySem Mi
/-! ### the greatest common divisor -/
def mB : Rho → Nat
  | [_, some (.d (.int b))] => b.toNat
  | [_, _, _, some (.d (.int b))] => b.toNat
  | _ => 0
theorem gcd_step {a b : Nat} (h : 0 < b) : (a : Int).fmod (b : Int) = ((a % b : Nat) : Int) ∧ Nat.gcd b (a % b) = Nat.gcd a b := by
  refine ⟨?_, ?_⟩
  · rw [Int.fmod_eq_emod_of_nonneg _ (by omega)]
    rfl
  · rw [Nat.gcd_comm a b, Nat.gcd_rec b a, Nat.gcd_comm]
theorem r_gcd (n : Nat) (S : Sto) (a b : Int) (hb : b.natAbs < 10 ^ 200) : (run kn T (n + 1)).run 0 [wi a, wi b] S = .ok (wi (Nat.gcd a.natAbs b.natAbs : Nat)) S := by
  refine run_at (fn := f_divisor) rfl rfl rfl ?_
  show fin S.length (exS _ b_divisor [some (wi a), some (wi b)] S) = _
  have ha : ∀ x : Int, (if x < 0 then -x else x) = ((x.natAbs : Nat) : Int) := fun x => by split <;> omega
  obtain ⟨ρ', e, rfl⟩ := wh_inv (S := S) (t := fun ρ' S2 => tru (evE (run kn T n) (.o2 .gt (.var 1) (.int 0)) ρ' S2)) (body := fun ρ' S2 => exS (run kn T n) l_divisor_0 ρ' S2) (fun ρ => ∃ x y : Nat, ρ = [some (wi x), some (wi y)] ∧ Nat.gcd x y = Nat.gcd a.natAbs b.natAbs) (fun ρ => ρ = [some (wi (Nat.gcd a.natAbs b.natAbs : Nat)), some (wi 0)]) mB (fun ρ hI => by
    obtain ⟨x, y, rfl, hg⟩ := hI
    by_cases hy : 0 < y
    · have hy' : (0 : Int) < y := by omega
      obtain ⟨g1, g2⟩ := gcd_step (a := x) hy
      refine ⟨true, by simp [hy], ?_⟩
      rw [if_pos rfl]
      refine ⟨[some (wi y), some (wi (x % y : Nat))], ?_, ⟨y, x % y, rfl, g2.trans hg⟩, ?_⟩
      · have z : ¬ ((y : Int) = 0) := by omega
        unfold l_divisor_0
        simp only [s_scons, s_par, s_snil, x_o2, x_var, List.getElem?_cons_succ, List.getElem?_cons_zero, R.bind_ok, R.st_ok, o_mod, if_neg z, g1, R.ofO_some]
        simp
      · show ((x % y : Nat) : Int).toNat < ((y : Nat) : Int).toNat
        have := Nat.mod_lt x hy
        omega
    · have hy0 : y = 0 := by omega
      subst hy0
      refine ⟨false, by simp, ?_⟩
      rw [if_neg Bool.false_ne_true]
      rw [← hg, Nat.gcd_zero_right]
      rfl) (10 ^ 300) [some (wi (a.natAbs : Nat)), some (wi (b.natAbs : Nat))] ⟨_, _, rfl, rfl⟩ (by
    show ((b.natAbs : Nat) : Int).toNat < 10 ^ 300
    have : (10 : Nat) ^ 200 ≤ 10 ^ 300 := Nat.pow_le_pow_right (by decide) (by decide)
    omega)
  unfold b_divisor
  have e' : whGo (fun ρ' S2 => tru (evE (run kn T n) (.o2 .gt (.var 1) (.int 0)) ρ' S2)) (fun ρ' S2 => exS (run kn T n) l_divisor_0 ρ' S2) 1000000000000000000000000000000000000000000000000000000000000000000000000000000000000000000000000000000000000000000000000000000000000000000000000000000000000000000000000000000000000000000000000000000000000000000000000000000000000000000000000000000000000000000000000000000000000000000000000000000000000 [some (wi (a.natAbs : Nat)), some (wi (b.natAbs : Nat))] S = .nx [some (wi (Nat.gcd a.natAbs b.natAbs : Nat)), some (wi 0)] S := e
  simp only [s_scons, s_asg, x_bi, x_acons, x_anil, x_var, List.getElem?_cons_succ, List.getElem?_cons_zero, R.bind_ok, b_abs, ha, R.ofO_some, R.st_ok, t_tn, List.length_cons, List.length_nil, Nat.reduceAdd, Nat.reduceLT, if_true, List.set_cons_succ, List.set_cons_zero, RS.ofO_some, s_wh, e']
  unfold r_divisor_0
  simp
end My

namespace My
open PySem Mi
def gcdL : List Int → Nat
  | [] => 0
  | x :: xs => Nat.gcd x.natAbs (gcdL xs)
/-- the numbers, one by one -/
def gcdF (g : Nat) : List Int → Nat
  | [] => g
  | x :: xs => gcdF (Nat.gcd g x.natAbs) xs
theorem inner (Φ : Phi) (S : Sto) (s q : Option W) (x y : Nat) (hy : y < 10 ^ 200) : exS Φ (.wh 1000000000000000000000000000000000000000000000000000000000000000000000000000000000000000000000000000000000000000000000000000000000000000000000000000000000000000000000000000000000000000000000000000000000000000000000000000000000000000000000000000000000000000000000000000000000000000000000000000000000000 (.o2 .gt (.var 3) (.int 0)) l_law_divisor_0) [s, some (wi x), q, some (wi y)] S = .nx [s, some (wi (Nat.gcd x y : Nat)), q, some (wi 0)] S := by
  obtain ⟨ρ', e, rfl⟩ := wh_inv (S := S) (t := fun ρ' S2 => tru (evE Φ (.o2 .gt (.var 3) (.int 0)) ρ' S2)) (body := fun ρ' S2 => exS Φ l_law_divisor_0 ρ' S2) (fun ρ => ∃ x' y' : Nat, ρ = [s, some (wi x'), q, some (wi y')] ∧ Nat.gcd x' y' = Nat.gcd x y) (fun ρ => ρ = [s, some (wi (Nat.gcd x y : Nat)), q, some (wi 0)]) mB (fun ρ hI => by
    obtain ⟨x, y, rfl, hg⟩ := hI
    by_cases hy : 0 < y
    · obtain ⟨g1, g2⟩ := gcd_step (a := x) hy
      refine ⟨true, by simp [hy], ?_⟩
      rw [if_pos rfl]
      refine ⟨[s, some (wi y), q, some (wi (x % y : Nat))], ?_, ⟨y, x % y, rfl, g2.trans hg⟩, ?_⟩
      · have z : ¬ ((y : Int) = 0) := by omega
        unfold l_law_divisor_0
        simp only [s_scons, s_par, s_snil, x_o2, x_var, List.getElem?_cons_succ, List.getElem?_cons_zero, R.bind_ok, R.st_ok, o_mod, if_neg z, g1, R.ofO_some]
        simp
      · show ((x % y : Nat) : Int).toNat < ((y : Nat) : Int).toNat
        have := Nat.mod_lt x hy
        omega
    · have hy0 : y = 0 := by omega
      subst hy0
      refine ⟨false, by simp, ?_⟩
      rw [if_neg Bool.false_ne_true]
      rw [← hg, Nat.gcd_zero_right]
      rfl) (10 ^ 300) [s, some (wi x), q, some (wi y)] ⟨_, _, rfl, rfl⟩ (by
    show ((y : Nat) : Int).toNat < 10 ^ 300
    have : (10 : Nat) ^ 200 ≤ 10 ^ 300 := Nat.pow_le_pow_right (by decide) (by decide)
    omega)
  rw [s_wh]
  exact e
theorem outer (Φ : Phi) (S : Sto) (s : Option W) : ∀ (xs : List Int) (g : Nat) (q o : Option W), (∀ x ∈ xs, x.natAbs < 10 ^ 200) → ∃ q' o', forGo none (fun x ρ' S2 => bindT S2 (.tn 2) x ρ') (fun ρ' S2 => exS Φ l_law_divisor_1 ρ' S2) (xs.map fun x => .d (.int x)) [s, some (wi g), q, o] S = .nx [s, some (wi (gcdF g xs : Nat)), q', o'] S
  | [], g, q, o, _ => ⟨q, o, rfl⟩
  | x :: xs, g, q, o, h => by
    obtain ⟨q', o', e⟩ := outer Φ S s xs (Nat.gcd g x.natAbs) (some (wi x)) (some (wi 0)) (fun y hy => h y (List.mem_cons_of_mem _ hy))
    refine ⟨q', o', ?_⟩
    have hi := inner Φ S s (some (wi x)) g x.natAbs (h x (List.mem_cons_self ..))
    have ha : (if x < 0 then -x else x) = ((x.natAbs : Nat) : Int) := by split <;> omega
    have hb : exS Φ l_law_divisor_1 [s, some (wi g), some (wi x), o] S = .nx [s, some (wi (Nat.gcd g x.natAbs : Nat)), some (wi x), some (wi 0)] S := by
      unfold l_law_divisor_1
      simp only [s_scons, s_asg, s_snil, x_bi, x_acons, x_anil, x_var, List.getElem?_cons_succ, List.getElem?_cons_zero, R.bind_ok, b_abs, ha, R.ofO_some, R.st_ok, t_tn, List.length_cons, List.length_nil, Nat.reduceAdd, Nat.reduceLT, if_true, List.set_cons_succ, List.set_cons_zero, RS.ofO_some, hi]
    rw [List.map_cons]
    conv => lhs; unfold forGo
    rw [g_none, if_pos rfl]
    have ht : bindT S (.tn 2) (.d (.int x)) [s, some (wi g), q, o] = some [s, some (wi g), some (wi x), o] := by simp
    simp only [ht, hb]
    exact e
theorem r_divisor (n : Nat) (S : Sto) (xs : List Int) (h : ∀ x ∈ xs, x.natAbs < 10 ^ 200) : (run kn T (n + 1)).run 8 [.d (.list (xs.map .int))] S = .ok (wi (gcdF 0 xs : Nat)) S := by
  refine run_at (fn := f_law_divisor) rfl rfl rfl ?_
  show fin S.length (exS _ b_law_divisor [some (.d (.list (xs.map .int))), none, none, none] S) = _
  obtain ⟨q', o', e⟩ := outer (run kn T n) S (some (.d (.list (xs.map .int)))) xs 0 none none h
  have e' : forGo none (fun x ρ' S2 => bindT S2 (.tn 2) x ρ') (fun ρ' S2 => exS (run kn T n) l_law_divisor_1 ρ' S2) ((xs.map PyData.int).map W.d) [some (.d (.list (xs.map .int))), some (wi 0), none, none] S = .nx [some (.d (.list (xs.map .int))), some (wi (gcdF 0 xs : Nat)), q', o'] S := by
    rw [List.map_map]
    exact e
  unfold b_law_divisor
  simp only [s_scons, s_asg, x_int, R.st_ok, t_tn, List.length_cons, List.length_nil, Nat.reduceAdd, Nat.reduceLT, if_true, List.set_cons_succ, List.set_cons_zero, RS.ofO_some, s_for, x_itE, x_var, List.getElem?_cons_succ, List.getElem?_cons_zero, R.bind_ok, i_srcl, R.ofO_some, e']
  unfold r_law_divisor_0
  simp
theorem gcdF_div : ∀ (xs : List Int) (g : Nat), gcdF g xs ∣ g ∧ ∀ x ∈ xs, gcdF g xs ∣ x.natAbs
  | [], g => ⟨Nat.dvd_refl g, fun x hx => by cases hx⟩
  | y :: xs, g => by
    obtain ⟨h1, h2⟩ := gcdF_div xs (Nat.gcd g y.natAbs)
    refine ⟨Nat.dvd_trans h1 (Nat.gcd_dvd_left _ _), fun x hx => ?_⟩
    rcases List.mem_cons.mp hx with rfl | hx
    · exact Nat.dvd_trans h1 (Nat.gcd_dvd_right _ _)
    · exact h2 x hx
theorem r_lowest (n : Nat) (S : Sto) (xs : List Int) (h : ∀ x ∈ xs, x.natAbs < 10 ^ 200) (hl : xs.length ≤ lim) (g : Nat) (hg : gcdF 0 xs = g) (h0 : 0 < g) (h1 : g < 10 ^ 50) : (run kn T (n + 2)).run 9 [.d (.list (xs.map .int))] S = .ok (.d (.tuple (xs.map fun x => .int (x.fdiv g)))) S := by
  refine run_at (fn := f_law_lowest) rfl rfl rfl ?_
  show fin S.length (exS _ b_law_lowest [some (.d (.list (xs.map .int))), none, none] S) = _
  have e := r_divisor n S xs h
  rw [hg] at e
  have hd : divOk (g : Int) = true := divOk_small (by omega) (by omega)
  have el := lc_map (S := S) (bt := fun x S2 => bindT S2 (.tn 2) x (wipeR [some (.d (.list (xs.map .int))), some (wi g), none] [2])) (tst := fun ρ' S2 => evT (run kn T (n + 1)) .anil ρ' S2) (el := fun ρ' S2 => evE (run kn T (n + 1)) (.o2 .fdiv (.var 2) (.var 1)) ρ' S2) (fun w => match w with | .d (.int x) => .int (x.fdiv g) | _ => .none) ((xs.map PyData.int).map W.d) [] (by simpa using hl) (fun w hw => by
    rw [List.map_map] at hw
    obtain ⟨x, hx, rfl⟩ := List.mem_map.mp hw
    refine ⟨[some (.d (.list (xs.map .int))), some (wi g), some (wi x)], by simp [wipeR], rfl, ?_⟩
    simp [hd])
  unfold b_law_lowest
  simp only [s_scons, s_asg, x_call, x_acons, x_anil, x_var, List.getElem?_cons_succ, List.getElem?_cons_zero, R.bind_ok, e, R.st_ok, t_tn, List.length_cons, List.length_nil, Nat.reduceAdd, Nat.reduceLT, if_true, List.set_cons_succ, List.set_cons_zero, RS.ofO_some, s_ret, x_bi, x_lc, x_itE, i_srcl, R.ofO_some, el, b_tupl]
  simp
end My

namespace My
open PySem Mi TL
/-! ### a whole number read -/
def figs : List Nat → List Nat
  | 45 :: r => r
  | w => w
def dig (c : Nat) : Bool := decide (48 ≤ c) && decide (c ≤ 57)
/-- the whole number that signs write -/
def wholeD (w : List Nat) : Option Int :=
  if 1 ≤ (figs w).length ∧ (figs w).length ≤ 30 then
    if (figs w).all dig then
      if (figs w).head? = some 48 ∧ w ≠ [48] then none else intText? ⟨w.toArray⟩
    else none
  else none
def optI : Option Int → PyData
  | none => .none
  | some i => .int i
theorem fig_mem {c : Nat} : (c ∈ (Str.ofString "0123456789").cps.toList) ↔ dig c = true := by
  have e : (Str.ofString "0123456789").cps.toList = [48, 49, 50, 51, 52, 53, 54, 55, 56, 57] := by decide +kernel
  rw [e]
  unfold dig
  simp only [List.mem_cons, List.not_mem_nil, or_false, Bool.and_eq_true, decide_eq_true_eq]
  omega
abbrev chD (c : Nat) : PyData := .str ⟨#[c]⟩
theorem intText_some {w : PySem.Str} (hne : figs (tl w) ≠ []) (ha : (figs (tl w)).all dig = true) (hl : w.length ≤ 640) : ∃ j, intText? w = some j := by
  have hd : ∀ c ∈ figs (tl w), 48 ≤ c ∧ c ≤ 57 := fun c hc => by
    have := List.all_eq_true.mp ha c hc
    unfold dig at this
    rw [Bool.and_eq_true, decide_eq_true_eq, decide_eq_true_eq] at this
    exact this
  unfold figs at hne hd
  split at hne
  · rename_i r e
    rw [e] at hd
    exact ⟨_, intText_neg (x := w) e hd hne (by omega)⟩
  · rename_i hx
    have : (match tl w with | 45 :: r => r | w => w) = tl w := by
      split
      · rename_i r e
        exact absurd e (hx r)
      · rfl
    rw [this] at hd
    exact ⟨_, intText_digits (x := w) hd hne (by omega)⟩
theorem whole2 (Φ : Phi) (S : Sto) (w F : PySem.Str) (hw : w.length ≤ 10000) (hs : PyData.strOk w = true) (hF : tl F = figs (tl w)) (o : Option W) : exS Φ r_whole_of_2 [some (wS w), some (wS F), o] S = .rt (.d (optI (wholeD (tl w)))) S := by
  have hl : F.length ≤ 10000 := by
    rw [len_tl, hF]
    rw [len_tl] at hw
    unfold figs
    split
    · rename_i r e
      rw [e] at hw
      simp at hw
      omega
    · exact hw
  have hlim : lim = 1000000 := rfl
  have lF : bi .len S [.d (.str F)] = some (.d (.int F.length)) := by rw [b_lens, if_pos (by omega)]
  have eF : F.length = (figs (tl w)).length := by rw [len_tl, hF]
  unfold r_whole_of_2 wholeD
  by_cases h1 : 1 ≤ (figs (tl w)).length ∧ (figs (tl w)).length ≤ 30
  · have d1 : decide ((1 : Int) ≤ (F.length : Nat)) = true := by simp; omega
    have d2 : decide (((F.length : Nat) : Int) ≤ 30) = true := by simp; omega
    have el := lc_filter (S := S) (bt := fun w' S2 => bindT S2 (.tn 2) w' (wipeR [some (wS w), some (wS F), o] [2])) (tst := fun ρ' S2 => evT Φ (.one (.o2 .notin (.var 2) (.gs "FIGURES" "0123456789"))) ρ' S2) (el := fun ρ' S2 => evE Φ (.var 2) ρ' S2) (fun d => match d with | .str ⟨⟨[c]⟩⟩ => !dig c | _ => false) (F.cps.toList.map chD) [] (by
      rw [List.length_map]
      have : F.cps.toList.length = F.length := rfl
      simp only [List.length_nil]
      omega) (fun d hd => by
      obtain ⟨c, hc, rfl⟩ := List.mem_map.mp hd
      refine ⟨[some (wS w), some (wS F), some (.d (chD c))], by simp [wipeR], ?_, by simp⟩
      simp only [s_scons, s_snil, s_asg, s_asgLc, s_par, s_aug, s_setix, s_ex, s_ret, s_retN, s_ift, s_brk, s_cnt, s_pss, s_rais, s_raisF, x_var, x_int, x_str, x_bl, x_non, x_gi, x_gs, x_o2, x_ch, x_neg, x_and, x_or, x_one, x_not, x_ife, x_tup, x_lst, x_call, x_bi, x_isi, x_mt, x_ix, x_sl, x_new, x_frz, x_anil, x_acons, x_nop, x_some, x_itE, x_itR, x_itN, x_itZ, x_tru, x_mkL, x_dnil, x_dcons, x_ofP, x_ofP2, x_fld, x_isK, t_tn, t_tt, t_tl, t_nil, t_cons, RS.ofO_some, R.bind_ok, R.bind_exc, R.ofO_some, R.st_ok, R.st_exc, List.getElem?_cons_succ, List.getElem?_cons_zero, List.length_cons, List.length_nil, Nat.reduceAdd, Nat.reduceLT, if_true, Bool.false_eq_true, if_false, Bool.not_true, Bool.not_false, List.set_cons_succ, List.set_cons_zero, Option.map_some, Option.bind_some, o_add, o_sub, o_lt, o_le, o_gt, o_ge, o_eqi, o_nei, o_eqs, o_nes, o_eqb, o_isb, o_isnb, o_isN, o_isnN, b_abs, b_lenl, b_lent, b_tupl, b_tupt, b_lstl, b_lstt, i_ixl, i_ixt, i_srcs, i_srcl, i_srct, i_srcN, g_none, leave_d, fin_nx, fin_rt, fin_exc, at_0, at_1, at_2, at_3, at_4, at_5, tupW1, tupW2, tupW3, tupW4, tupW5, lstW0, lstW1, lstW2, lstW3, lstW4, List.map_cons, List.map_nil, x_tone, o_notin1]
      have : decide (c ∈ (Str.ofString "0123456789").cps.toList) = dig c := by
        rw [Bool.eq_iff_iff, decide_eq_true_eq]
        exact fig_mem
      show Mi.R.ok (!decide (c ∈ (Str.ofString "0123456789").cps.toList)) S = Mi.R.ok (!dig c) S
      rw [this])
    rw [List.map_map, List.nil_append] at el
    have ef : (F.cps.toList.map chD).filter (fun d => match d with | .str ⟨⟨[c]⟩⟩ => !dig c | _ => false) = ((F.cps.toList.filter fun c => !dig c).map fun c => (⟨#[c]⟩ : PySem.Str)).map .str := by
      rw [List.filter_map, List.map_map]
      rfl
    rw [ef] at el
    have hne := o_neNil (S := S) (shaped_strs ((F.cps.toList.filter fun c => !dig c).map fun c => (⟨#[c]⟩ : PySem.Str)) fun z hz => by
      obtain ⟨c, hc, rfl⟩ := List.mem_map.mp hz
      have h1 : c ∈ figs (tl w) := by
        rw [← hF]
        exact (List.mem_filter.mp hc).1
      have h2 : c ∈ tl w := by
        unfold figs at h1
        split at h1
        · rename_i r e
          rw [e]
          exact List.mem_cons_of_mem _ h1
        · exact h1
      unfold PyData.strOk at hs ⊢
      rw [Array.all_eq_true_iff_forall_mem] at hs
      have := hs c (by simpa [tl] using h2)
      simpa using this)
    have hFe : F.cps.toList = figs (tl w) := hF
    have hemp : (((F.cps.toList.filter fun c => !dig c).map fun c => (⟨#[c]⟩ : PySem.Str)).map PyData.str).isEmpty = (figs (tl w)).all dig := by
      rw [hFe, Bool.eq_iff_iff, List.isEmpty_iff, List.map_eq_nil_iff, List.map_eq_nil_iff, List.filter_eq_nil_iff, List.all_eq_true]
      simp
    rw [hemp] at hne
    have el' : lcGo none (fun w' S2 => bindT S2 (.tn 2) w' (wipeR [some (wS w), some (wS F), o] [2])) (fun ρ' S2 => evT Φ (.one (.o2 .notin (.var 2) (.gs "FIGURES" "0123456789"))) ρ' S2) (fun ρ' S2 => evE Φ (.var 2) ρ' S2) (F.cps.toList.map fun c => .d (.str ⟨#[c]⟩)) S [] = .ok (.d (.list (((F.cps.toList.filter fun c => !dig c).map fun c => (⟨#[c]⟩ : PySem.Str)).map PyData.str))) S := el
    rw [if_pos h1]
    simp only [s_scons, s_snil, s_asg, s_asgLc, s_par, s_aug, s_setix, s_ex, s_ret, s_retN, s_ift, s_brk, s_cnt, s_pss, s_rais, s_raisF, x_var, x_int, x_str, x_bl, x_non, x_gi, x_gs, x_o2, x_ch, x_neg, x_and, x_or, x_one, x_not, x_ife, x_tup, x_lst, x_call, x_bi, x_isi, x_mt, x_ix, x_sl, x_new, x_frz, x_anil, x_acons, x_nop, x_some, x_itE, x_itR, x_itN, x_itZ, x_tru, x_mkL, x_dnil, x_dcons, x_ofP, x_ofP2, x_fld, x_isK, t_tn, t_tt, t_tl, t_nil, t_cons, RS.ofO_some, R.bind_ok, R.bind_exc, R.ofO_some, R.st_ok, R.st_exc, List.getElem?_cons_succ, List.getElem?_cons_zero, List.length_cons, List.length_nil, Nat.reduceAdd, Nat.reduceLT, if_true, Bool.false_eq_true, if_false, Bool.not_true, Bool.not_false, List.set_cons_succ, List.set_cons_zero, Option.map_some, Option.bind_some, o_add, o_sub, o_lt, o_le, o_gt, o_ge, o_eqi, o_nei, o_eqs, o_nes, o_eqb, o_isb, o_isnb, o_isN, o_isnN, b_abs, b_lenl, b_lent, b_tupl, b_tupt, b_lstl, b_lstt, i_ixl, i_ixt, i_srcs, i_srcl, i_srct, i_srcN, g_none, leave_d, fin_nx, fin_rt, fin_exc, at_0, at_1, at_2, at_3, at_4, at_5, tupW1, tupW2, tupW3, tupW4, tupW5, lstW0, lstW1, lstW2, lstW3, lstW4, List.map_cons, List.map_nil, lF, d1, d2, x_lc, el', hne]
    cases ha : (figs (tl w)).all dig with
    | false =>
      simp only [s_scons, s_snil, s_asg, s_asgLc, s_par, s_aug, s_setix, s_ex, s_ret, s_retN, s_ift, s_brk, s_cnt, s_pss, s_rais, s_raisF, x_var, x_int, x_str, x_bl, x_non, x_gi, x_gs, x_o2, x_ch, x_neg, x_and, x_or, x_one, x_not, x_ife, x_tup, x_lst, x_call, x_bi, x_isi, x_mt, x_ix, x_sl, x_new, x_frz, x_anil, x_acons, x_nop, x_some, x_itE, x_itR, x_itN, x_itZ, x_tru, x_mkL, x_dnil, x_dcons, x_ofP, x_ofP2, x_fld, x_isK, t_tn, t_tt, t_tl, t_nil, t_cons, RS.ofO_some, R.bind_ok, R.bind_exc, R.ofO_some, R.st_ok, R.st_exc, List.getElem?_cons_succ, List.getElem?_cons_zero, List.length_cons, List.length_nil, Nat.reduceAdd, Nat.reduceLT, if_true, Bool.false_eq_true, if_false, Bool.not_true, Bool.not_false, List.set_cons_succ, List.set_cons_zero, Option.map_some, Option.bind_some, o_add, o_sub, o_lt, o_le, o_gt, o_ge, o_eqi, o_nei, o_eqs, o_nes, o_eqb, o_isb, o_isnb, o_isN, o_isnN, b_abs, b_lenl, b_lent, b_tupl, b_tupt, b_lstl, b_lstt, i_ixl, i_ixt, i_srcs, i_srcl, i_srct, i_srcN, g_none, leave_d, fin_nx, fin_rt, fin_exc, at_0, at_1, at_2, at_3, at_4, at_5, tupW1, tupW2, tupW3, tupW4, tupW5, lstW0, lstW1, lstW2, lstW3, lstW4, List.map_cons, List.map_nil]
      rfl
    | true =>
      simp only [s_scons, s_snil, s_asg, s_asgLc, s_par, s_aug, s_setix, s_ex, s_ret, s_retN, s_ift, s_brk, s_cnt, s_pss, s_rais, s_raisF, x_var, x_int, x_str, x_bl, x_non, x_gi, x_gs, x_o2, x_ch, x_neg, x_and, x_or, x_one, x_not, x_ife, x_tup, x_lst, x_call, x_bi, x_isi, x_mt, x_ix, x_sl, x_new, x_frz, x_anil, x_acons, x_nop, x_some, x_itE, x_itR, x_itN, x_itZ, x_tru, x_mkL, x_dnil, x_dcons, x_ofP, x_ofP2, x_fld, x_isK, t_tn, t_tt, t_tl, t_nil, t_cons, RS.ofO_some, R.bind_ok, R.bind_exc, R.ofO_some, R.st_ok, R.st_exc, List.getElem?_cons_succ, List.getElem?_cons_zero, List.length_cons, List.length_nil, Nat.reduceAdd, Nat.reduceLT, if_true, Bool.false_eq_true, if_false, Bool.not_true, Bool.not_false, List.set_cons_succ, List.set_cons_zero, Option.map_some, Option.bind_some, o_add, o_sub, o_lt, o_le, o_gt, o_ge, o_eqi, o_nei, o_eqs, o_nes, o_eqb, o_isb, o_isnb, o_isN, o_isnN, b_abs, b_lenl, b_lent, b_tupl, b_tupt, b_lstl, b_lstt, i_ixl, i_ixt, i_srcs, i_srcl, i_srct, i_srcN, g_none, leave_d, fin_nx, fin_rt, fin_exc, at_0, at_1, at_2, at_3, at_4, at_5, tupW1, tupW2, tupW3, tupW4, tupW5, lstW0, lstW1, lstW2, lstW3, lstW4, List.map_cons, List.map_nil]
      unfold r_whole_of_1
      obtain ⟨c, r, hcr⟩ : ∃ c r, figs (tl w) = c :: r := by
        cases e : figs (tl w) with
        | nil => rw [e] at h1; simp at h1
        | cons c r => exact ⟨c, r, rfl⟩
      have ia : ixW S (.d (.str F)) (.d (.int 0)) = some (.d (.str ⟨#[c]⟩)) := by
        rw [i_ixs, if_pos (by omega), hFe, hcr, at_0]
        rfl
      have hc0 : ((⟨#[c]⟩ : PySem.Str) == Str.ofString "0") = decide (c = 48) := by
        rw [str_inj]
        have : tl (Str.ofString "0") = [48] := by decide +kernel
        rw [this]
        show decide ([c] = [48]) = _
        simp
      have hw0 : (w == Str.ofString "0") = decide (tl w = [48]) := by
        rw [str_inj]
        have : tl (Str.ofString "0") = [48] := by decide +kernel
        rw [this]
      have l2 : w.length ≤ 640 := by
        rw [len_tl]
        have : (tl w).length ≤ (figs (tl w)).length + 1 := by
          unfold figs
          split
          · rename_i r e
            rw [e]
            simp
          · omega
        omega
      have tail : exS Φ r_whole_of_0 [some (wS w), some (wS F), o] S = .rt (.d (optI (intText? w))) S := by
        unfold r_whole_of_0
        obtain ⟨j, hj⟩ : ∃ j, intText? w = some j := intText_some (by rw [hcr]; simp) ha l2
        simp only [s_scons, s_snil, s_asg, s_asgLc, s_par, s_aug, s_setix, s_ex, s_ret, s_retN, s_ift, s_brk, s_cnt, s_pss, s_rais, s_raisF, x_var, x_int, x_str, x_bl, x_non, x_gi, x_gs, x_o2, x_ch, x_neg, x_and, x_or, x_one, x_not, x_ife, x_tup, x_lst, x_call, x_bi, x_isi, x_mt, x_ix, x_sl, x_new, x_frz, x_anil, x_acons, x_nop, x_some, x_itE, x_itR, x_itN, x_itZ, x_tru, x_mkL, x_dnil, x_dcons, x_ofP, x_ofP2, x_fld, x_isK, t_tn, t_tt, t_tl, t_nil, t_cons, RS.ofO_some, R.bind_ok, R.bind_exc, R.ofO_some, R.st_ok, R.st_exc, List.getElem?_cons_succ, List.getElem?_cons_zero, List.length_cons, List.length_nil, Nat.reduceAdd, Nat.reduceLT, if_true, Bool.false_eq_true, if_false, Bool.not_true, Bool.not_false, List.set_cons_succ, List.set_cons_zero, Option.map_some, Option.bind_some, o_add, o_sub, o_lt, o_le, o_gt, o_ge, o_eqi, o_nei, o_eqs, o_nes, o_eqb, o_isb, o_isnb, o_isN, o_isnN, b_abs, b_lenl, b_lent, b_tupl, b_tupt, b_lstl, b_lstt, i_ixl, i_ixt, i_srcs, i_srcl, i_srct, i_srcN, g_none, leave_d, fin_nx, fin_rt, fin_exc, at_0, at_1, at_2, at_3, at_4, at_5, tupW1, tupW2, tupW3, tupW4, tupW5, lstW0, lstW1, lstW2, lstW3, lstW4, List.map_cons, List.map_nil, b_ints, if_pos l2, hj]
        rfl
      have hwe : (⟨(tl w).toArray⟩ : PySem.Str) = w := ext_tl rfl
      rw [hwe, hcr]
      simp only [s_scons, s_snil, s_asg, s_asgLc, s_par, s_aug, s_setix, s_ex, s_ret, s_retN, s_ift, s_brk, s_cnt, s_pss, s_rais, s_raisF, x_var, x_int, x_str, x_bl, x_non, x_gi, x_gs, x_o2, x_ch, x_neg, x_and, x_or, x_one, x_not, x_ife, x_tup, x_lst, x_call, x_bi, x_isi, x_mt, x_ix, x_sl, x_new, x_frz, x_anil, x_acons, x_nop, x_some, x_itE, x_itR, x_itN, x_itZ, x_tru, x_mkL, x_dnil, x_dcons, x_ofP, x_ofP2, x_fld, x_isK, t_tn, t_tt, t_tl, t_nil, t_cons, RS.ofO_some, R.bind_ok, R.bind_exc, R.ofO_some, R.st_ok, R.st_exc, List.getElem?_cons_succ, List.getElem?_cons_zero, List.length_cons, List.length_nil, Nat.reduceAdd, Nat.reduceLT, if_true, Bool.false_eq_true, if_false, Bool.not_true, Bool.not_false, List.set_cons_succ, List.set_cons_zero, Option.map_some, Option.bind_some, o_add, o_sub, o_lt, o_le, o_gt, o_ge, o_eqi, o_nei, o_eqs, o_nes, o_eqb, o_isb, o_isnb, o_isN, o_isnN, b_abs, b_lenl, b_lent, b_tupl, b_tupt, b_lstl, b_lstt, i_ixl, i_ixt, i_srcs, i_srcl, i_srct, i_srcN, g_none, leave_d, fin_nx, fin_rt, fin_exc, at_0, at_1, at_2, at_3, at_4, at_5, tupW1, tupW2, tupW3, tupW4, tupW5, lstW0, lstW1, lstW2, lstW3, lstW4, List.map_cons, List.map_nil, ia, hc0, hw0, List.head?_cons]
      by_cases hc : c = 48
      · subst hc
        by_cases hw1 : tl w = [48]
        · simp only [s_scons, s_snil, s_asg, s_asgLc, s_par, s_aug, s_setix, s_ex, s_ret, s_retN, s_ift, s_brk, s_cnt, s_pss, s_rais, s_raisF, x_var, x_int, x_str, x_bl, x_non, x_gi, x_gs, x_o2, x_ch, x_neg, x_and, x_or, x_one, x_not, x_ife, x_tup, x_lst, x_call, x_bi, x_isi, x_mt, x_ix, x_sl, x_new, x_frz, x_anil, x_acons, x_nop, x_some, x_itE, x_itR, x_itN, x_itZ, x_tru, x_mkL, x_dnil, x_dcons, x_ofP, x_ofP2, x_fld, x_isK, t_tn, t_tt, t_tl, t_nil, t_cons, RS.ofO_some, R.bind_ok, R.bind_exc, R.ofO_some, R.st_ok, R.st_exc, List.getElem?_cons_succ, List.getElem?_cons_zero, List.length_cons, List.length_nil, Nat.reduceAdd, Nat.reduceLT, if_true, Bool.false_eq_true, if_false, Bool.not_true, Bool.not_false, List.set_cons_succ, List.set_cons_zero, Option.map_some, Option.bind_some, o_add, o_sub, o_lt, o_le, o_gt, o_ge, o_eqi, o_nei, o_eqs, o_nes, o_eqb, o_isb, o_isnb, o_isN, o_isnN, b_abs, b_lenl, b_lent, b_tupl, b_tupt, b_lstl, b_lstt, i_ixl, i_ixt, i_srcs, i_srcl, i_srct, i_srcN, g_none, leave_d, fin_nx, fin_rt, fin_exc, at_0, at_1, at_2, at_3, at_4, at_5, tupW1, tupW2, tupW3, tupW4, tupW5, lstW0, lstW1, lstW2, lstW3, lstW4, List.map_cons, List.map_nil, hw1, decide_true, hw0]
          simpa [hw1] using tail
        · simp [hw1, hw0]
          rfl
      · simp [hc]
        exact tail
  · rw [if_neg h1]
    have d0 : (decide ((1 : Int) ≤ (F.length : Nat)) && decide (((F.length : Nat) : Int) ≤ 30)) = false := by
      rw [Bool.and_eq_false_iff, decide_eq_false_iff_not, decide_eq_false_iff_not]
      omega
    by_cases h2 : (1 : Int) ≤ (F.length : Nat)
    · have d1 : decide ((1 : Int) ≤ (F.length : Nat)) = true := decide_eq_true h2
      have d2 : decide (((F.length : Nat) : Int) ≤ 30) = false := by rw [d1] at d0; simpa using d0
      simp only [s_scons, s_snil, s_asg, s_asgLc, s_par, s_aug, s_setix, s_ex, s_ret, s_retN, s_ift, s_brk, s_cnt, s_pss, s_rais, s_raisF, x_var, x_int, x_str, x_bl, x_non, x_gi, x_gs, x_o2, x_ch, x_neg, x_and, x_or, x_one, x_not, x_ife, x_tup, x_lst, x_call, x_bi, x_isi, x_mt, x_ix, x_sl, x_new, x_frz, x_anil, x_acons, x_nop, x_some, x_itE, x_itR, x_itN, x_itZ, x_tru, x_mkL, x_dnil, x_dcons, x_ofP, x_ofP2, x_fld, x_isK, t_tn, t_tt, t_tl, t_nil, t_cons, RS.ofO_some, R.bind_ok, R.bind_exc, R.ofO_some, R.st_ok, R.st_exc, List.getElem?_cons_succ, List.getElem?_cons_zero, List.length_cons, List.length_nil, Nat.reduceAdd, Nat.reduceLT, if_true, Bool.false_eq_true, if_false, Bool.not_true, Bool.not_false, List.set_cons_succ, List.set_cons_zero, Option.map_some, Option.bind_some, o_add, o_sub, o_lt, o_le, o_gt, o_ge, o_eqi, o_nei, o_eqs, o_nes, o_eqb, o_isb, o_isnb, o_isN, o_isnN, b_abs, b_lenl, b_lent, b_tupl, b_tupt, b_lstl, b_lstt, i_ixl, i_ixt, i_srcs, i_srcl, i_srct, i_srcN, g_none, leave_d, fin_nx, fin_rt, fin_exc, at_0, at_1, at_2, at_3, at_4, at_5, tupW1, tupW2, tupW3, tupW4, tupW5, lstW0, lstW1, lstW2, lstW3, lstW4, List.map_cons, List.map_nil, lF, d1, d2]
      rfl
    · have d1 : decide ((1 : Int) ≤ (F.length : Nat)) = false := decide_eq_false h2
      simp only [s_scons, s_snil, s_asg, s_asgLc, s_par, s_aug, s_setix, s_ex, s_ret, s_retN, s_ift, s_brk, s_cnt, s_pss, s_rais, s_raisF, x_var, x_int, x_str, x_bl, x_non, x_gi, x_gs, x_o2, x_ch, x_neg, x_and, x_or, x_one, x_not, x_ife, x_tup, x_lst, x_call, x_bi, x_isi, x_mt, x_ix, x_sl, x_new, x_frz, x_anil, x_acons, x_nop, x_some, x_itE, x_itR, x_itN, x_itZ, x_tru, x_mkL, x_dnil, x_dcons, x_ofP, x_ofP2, x_fld, x_isK, t_tn, t_tt, t_tl, t_nil, t_cons, RS.ofO_some, R.bind_ok, R.bind_exc, R.ofO_some, R.st_ok, R.st_exc, List.getElem?_cons_succ, List.getElem?_cons_zero, List.length_cons, List.length_nil, Nat.reduceAdd, Nat.reduceLT, if_true, Bool.false_eq_true, if_false, Bool.not_true, Bool.not_false, List.set_cons_succ, List.set_cons_zero, Option.map_some, Option.bind_some, o_add, o_sub, o_lt, o_le, o_gt, o_ge, o_eqi, o_nei, o_eqs, o_nes, o_eqb, o_isb, o_isnb, o_isN, o_isnN, b_abs, b_lenl, b_lent, b_tupl, b_tupt, b_lstl, b_lstt, i_ixl, i_ixt, i_srcs, i_srcl, i_srct, i_srcN, g_none, leave_d, fin_nx, fin_rt, fin_exc, at_0, at_1, at_2, at_3, at_4, at_5, tupW1, tupW2, tupW3, tupW4, tupW5, lstW0, lstW1, lstW2, lstW3, lstW4, List.map_cons, List.map_nil, lF, d1]
      rfl
theorem r_whole (n : Nat) (S : Sto) (w : PySem.Str) (hw : w.length ≤ 10000) (hok : PyData.strOk w = true) : (run kn T (n + 1)).run 2 [wS w] S = .ok (.d (optI (wholeD (tl w)))) S := by
  refine run_at (fn := f_whole_of) rfl rfl rfl ?_
  show fin S.length (exS _ b_whole_of [some (wS w), none, none] S) = _
  have hlim : lim = 1000000 := rfl
  have hm : tl (Str.ofString "-") = [45] := by decide +kernel
  have s1 : slW S (.d (.str w)) none (some 1) = some (.d (.str ⟨((tl w).take 1).toArray⟩)) := by
    rw [i_sls, if_pos (by omega), cut_head']
  have s2 : slW S (.d (.str w)) (some 1) none = some (.d (.str ⟨((tl w).drop 1).toArray⟩)) := by
    rw [i_sls, if_pos (by omega), cut_tail']
  have hs : ((⟨((tl w).take 1).toArray⟩ : PySem.Str) == Str.ofString "-") = decide ((tl w).take 1 = [45]) := by
    rw [str_inj, hm]
  unfold b_whole_of
  by_cases h : (tl w).take 1 = [45]
  · have e1 : ∃ r, tl w = 45 :: r := by
      cases e : tl w with
      | nil => rw [e] at h; cases h
      | cons c r =>
        rw [e] at h
        simp at h
        exact ⟨r, by rw [h]⟩
    obtain ⟨r, e1⟩ := e1
    have w2 := whole2 (run kn T n) S w ⟨((tl w).drop 1).toArray⟩ hw hok (by rw [e1]; rfl) none
    simp only [s_scons, s_snil, s_asg, s_asgLc, s_par, s_aug, s_setix, s_ex, s_ret, s_retN, s_ift, s_brk, s_cnt, s_pss, s_rais, s_raisF, x_var, x_int, x_str, x_bl, x_non, x_gi, x_gs, x_o2, x_ch, x_neg, x_and, x_or, x_one, x_not, x_ife, x_tup, x_lst, x_call, x_bi, x_isi, x_mt, x_ix, x_sl, x_new, x_frz, x_anil, x_acons, x_nop, x_some, x_itE, x_itR, x_itN, x_itZ, x_tru, x_mkL, x_dnil, x_dcons, x_ofP, x_ofP2, x_fld, x_isK, t_tn, t_tt, t_tl, t_nil, t_cons, RS.ofO_some, R.bind_ok, R.bind_exc, R.ofO_some, R.st_ok, R.st_exc, List.getElem?_cons_succ, List.getElem?_cons_zero, List.length_cons, List.length_nil, Nat.reduceAdd, Nat.reduceLT, if_true, Bool.false_eq_true, if_false, Bool.not_true, Bool.not_false, List.set_cons_succ, List.set_cons_zero, Option.map_some, Option.bind_some, o_add, o_sub, o_lt, o_le, o_gt, o_ge, o_eqi, o_nei, o_eqs, o_nes, o_eqb, o_isb, o_isnb, o_isN, o_isnN, b_abs, b_lenl, b_lent, b_tupl, b_tupt, b_lstl, b_lstt, i_ixl, i_ixt, i_srcs, i_srcl, i_srct, i_srcN, g_none, leave_d, fin_nx, fin_rt, fin_exc, at_0, at_1, at_2, at_3, at_4, at_5, tupW1, tupW2, tupW3, tupW4, tupW5, lstW0, lstW1, lstW2, lstW3, lstW4, List.map_cons, List.map_nil, s1, s2, hs, decide_eq_true h, w2, List.take_length]
  · have w2 := whole2 (run kn T n) S w w hw hok (by
      unfold figs
      split
      · rename_i r e
        rw [e] at h
        exact absurd rfl h
      · rfl) none
    simp only [s_scons, s_snil, s_asg, s_asgLc, s_par, s_aug, s_setix, s_ex, s_ret, s_retN, s_ift, s_brk, s_cnt, s_pss, s_rais, s_raisF, x_var, x_int, x_str, x_bl, x_non, x_gi, x_gs, x_o2, x_ch, x_neg, x_and, x_or, x_one, x_not, x_ife, x_tup, x_lst, x_call, x_bi, x_isi, x_mt, x_ix, x_sl, x_new, x_frz, x_anil, x_acons, x_nop, x_some, x_itE, x_itR, x_itN, x_itZ, x_tru, x_mkL, x_dnil, x_dcons, x_ofP, x_ofP2, x_fld, x_isK, t_tn, t_tt, t_tl, t_nil, t_cons, RS.ofO_some, R.bind_ok, R.bind_exc, R.ofO_some, R.st_ok, R.st_exc, List.getElem?_cons_succ, List.getElem?_cons_zero, List.length_cons, List.length_nil, Nat.reduceAdd, Nat.reduceLT, if_true, Bool.false_eq_true, if_false, Bool.not_true, Bool.not_false, List.set_cons_succ, List.set_cons_zero, Option.map_some, Option.bind_some, o_add, o_sub, o_lt, o_le, o_gt, o_ge, o_eqi, o_nei, o_eqs, o_nes, o_eqb, o_isb, o_isnb, o_isN, o_isnN, b_abs, b_lenl, b_lent, b_tupl, b_tupt, b_lstl, b_lstt, i_ixl, i_ixt, i_srcs, i_srcl, i_srct, i_srcN, g_none, leave_d, fin_nx, fin_rt, fin_exc, at_0, at_1, at_2, at_3, at_4, at_5, tupW1, tupW2, tupW3, tupW4, tupW5, lstW0, lstW1, lstW2, lstW3, lstW4, List.map_cons, List.map_nil, s1, s2, hs, decide_eq_false h, w2, List.take_length]
end My

namespace My
open PySem Mi TL
theorem foldl_lt : ∀ (cs : List Nat) (a : Nat), (∀ c ∈ cs, 48 ≤ c ∧ c ≤ 57) → cs.foldl (fun acc c => acc * 10 + (c - 48)) a < (a + 1) * 10 ^ cs.length
  | [], a, _ => by simp
  | c :: cs, a, h => by
    have hc := h c (List.mem_cons_self ..)
    have ih := foldl_lt cs (a * 10 + (c - 48)) fun d hd => h d (List.mem_cons_of_mem _ hd)
    rw [List.foldl_cons, List.length_cons, Nat.pow_succ]
    refine Nat.lt_of_lt_of_le ih ?_
    rw [← Nat.mul_assoc, Nat.mul_right_comm]
    exact Nat.mul_le_mul_right _ (by omega)
theorem wholeD_lt {w : PySem.Str} {i : Int} (h : wholeD (tl w) = some i) : i.natAbs < 10 ^ 30 := by
  unfold wholeD at h
  split at h
  case isFalse => cases h
  rename_i h1
  split at h
  case isFalse => cases h
  rename_i h2
  split at h
  · cases h
  have hwe : (⟨(tl w).toArray⟩ : PySem.Str) = w := ext_tl rfl
  rw [hwe] at h
  have hd : ∀ c ∈ figs (tl w), 48 ≤ c ∧ c ≤ 57 := fun c hc => by
    have := List.all_eq_true.mp h2 c hc
    unfold dig at this
    rw [Bool.and_eq_true, decide_eq_true_eq, decide_eq_true_eq] at this
    exact this
  have hb : NumText.digitsVal (figs (tl w)) < 10 ^ 30 := by
    have := foldl_lt (figs (tl w)) 0 hd
    rw [Nat.zero_add, Nat.one_mul] at this
    exact Nat.lt_of_lt_of_le this (Nat.pow_le_pow_right (by decide) h1.2)
  have hl : w.length ≤ 31 := by
    rw [len_tl]
    have := h1.2
    unfold figs at this
    split at this
    · rename_i r e
      rw [e, List.length_cons]
      omega
    · omega
  unfold figs at hd hb h1
  split at hd
  · rename_i r e
    rw [e] at hb h1
    rw [intText_neg (x := w) e hd (by intro z; rw [z] at h1; simp at h1) (by omega)] at h
    cases h
    simpa using hb
  · rename_i hx
    have hm : (match tl w with | 45 :: r => r | w => w) = tl w := by
      split
      · rename_i r e
        exact absurd e (hx r)
      · rfl
    have hf : figs (tl w) = tl w := hm
    change NumText.digitsVal (figs (tl w)) < 10 ^ 30 at hb
    change 1 ≤ (figs (tl w)).length ∧ (figs (tl w)).length ≤ 30 at h1
    rw [hf] at hb h1
    rw [intText_digits (x := w) hd (by intro z; rw [show tl w = [] from z] at h1; simp at h1) (by omega)] at h
    cases h
    simpa using hb
/-! ### parts -/
theorem spl_mem (s : Nat) : ∀ (l acc p : List Nat), p ∈ spl [s] 0 acc l → (∀ c ∈ p, c ∈ acc ++ l) ∧ p.length ≤ acc.length + l.length
  | [], acc, p, h => by
    rw [spl_nil] at h
    rw [List.mem_singleton.mp h]
    exact ⟨fun c hc => by simpa using hc, by simp⟩
  | c :: r, acc, p, h => by
    cases hp : pre [s] (c :: r) with
    | true =>
      rw [spl_hit hp] at h
      rcases List.mem_cons.mp h with rfl | h
      · exact ⟨fun c hc => List.mem_append_left _ hc, by omega⟩
      · obtain ⟨h1, h2⟩ := spl_mem s r [] p h
        exact ⟨fun d hd => List.mem_append_right _ (List.mem_cons_of_mem _ (by simpa using h1 d hd)), by simp at h2 ⊢; omega⟩
    | false =>
      rw [spl_miss hp] at h
      obtain ⟨h1, h2⟩ := spl_mem s r (acc ++ [c]) p h
      exact ⟨fun d hd => by
        have := h1 d hd
        rw [List.append_assoc] at this
        exact this, by rw [List.length_append, List.length_cons, List.length_nil] at h2; rw [List.length_cons]; omega⟩
theorem spl_len (s : Nat) : ∀ (l acc : List Nat), (spl [s] 0 acc l).length ≤ l.length + 1
  | [], acc => by rw [spl_nil]; simp
  | c :: r, acc => by
    cases hp : pre [s] (c :: r) with
    | true =>
      rw [spl_hit hp]
      have := spl_len s r []
      show (spl [s] 0 [] r).length + 1 ≤ r.length + 1 + 1
      omega
    | false =>
      rw [spl_miss hp, List.length_cons]
      have := spl_len s r (acc ++ [c])
      omega
theorem comma_tl : tl (Str.ofString ",") = [44] := by decide +kernel
theorem slash_tl : tl (Str.ofString "/") = [47] := by decide +kernel
theorem comma_len : (Str.ofString ",").length = 1 := by decide +kernel
theorem slash_len : (Str.ofString "/").length = 1 := by decide +kernel
theorem app_len (a b : PySem.Str) : (a ++ b).length = a.length + b.length := by
  rw [len_tl, tl_append, List.length_append, len_tl, len_tl]
/-- a word of modest length and signs -/
def Wd (w : PySem.Str) : Prop := w.length ≤ 10000 ∧ PyData.strOk w = true
theorem wd_sub {w p : PySem.Str} (h : Wd w) (hl : p.length ≤ w.length) (hm : ∀ c ∈ tl p, c ∈ tl w) : Wd p := by
  refine ⟨Nat.le_trans hl h.1, ?_⟩
  have h2 := h.2
  unfold PyData.strOk at h2 ⊢
  rw [Array.all_eq_true_iff_forall_mem] at h2 ⊢
  exact fun c hc => h2 c (by simpa [tl] using hm c (by simpa [tl] using hc))
theorem split_wd {w : PySem.Str} (h : Wd w) : (∀ p ∈ Txt.split w (Str.ofString ","), Wd p) ∧ (Txt.split w (Str.ofString ",")).length ≤ 10001 := by
  have e := split_spl w (Str.ofString ",") (by rw [comma_tl]; simp) (kind_ok (by decide +kernel))
  rw [comma_tl] at e
  refine ⟨fun p hp => ?_, ?_⟩
  · have hm : tl p ∈ spl [44] 0 [] (tl w) := by
      rw [← e]
      exact List.mem_map.mpr ⟨p, hp, rfl⟩
    obtain ⟨h1, h2⟩ := spl_mem 44 (tl w) [] (tl p) hm
    refine wd_sub h ?_ fun c hc => by simpa using h1 c hc
    rw [len_tl, len_tl]
    simpa using h2
  · have := spl_len 44 (tl w) []
    rw [← e, List.length_map, ← len_tl] at this
    have := h.1
    omega
theorem first_at (s : Nat) : ∀ l : List Nat, s ∉ l ∨ ∃ a b, l = a ++ s :: b ∧ s ∉ a
  | [] => .inl (by simp)
  | c :: r => by
    by_cases hc : c = s
    · subst hc
      exact .inr ⟨[], r, rfl, by simp⟩
    · rcases first_at s r with h | ⟨a, b, e, h⟩
      · exact .inl fun hm => by
          rcases List.mem_cons.mp hm with z | z
          · exact hc z.symm
          · exact h z
      · exact .inr ⟨c :: a, b, by rw [e]; rfl, fun hm => by
          rcases List.mem_cons.mp hm with z | z
          · exact hc z.symm
          · exact h z⟩
theorem part_cases (w : PySem.Str) : (Txt.partition w (Str.ofString "/") = (w, Str.empty, Str.empty)) ∨ ∃ a b, w = a ++ Str.ofString "/" ++ b ∧ Txt.partition w (Str.ofString "/") = (a, Str.ofString "/", b) := by
  rcases first_at 47 (tl w) with h | ⟨a, b, e, h⟩
  · exact .inl (partition_none slash_tl h)
  · refine .inr ⟨⟨a.toArray⟩, ⟨b.toArray⟩, ?_, ?_⟩
    · refine ext_tl ?_
      rw [tl_append, tl_append, slash_tl, e]
      show a ++ 47 :: b = a ++ [47] ++ b
      simp
    · have e2 : w = (⟨a.toArray⟩ : PySem.Str) ++ Str.ofString "/" ++ ⟨b.toArray⟩ := by
        refine ext_tl ?_
        rw [tl_append, tl_append, slash_tl, e]
        show a ++ 47 :: b = a ++ [47] ++ b
        simp
      rw [e2]
      exact partition_app slash_tl h
/-! ### a spot read -/
def gcd4 (x y z w : Int) : Nat := Nat.gcd (Nat.gcd x.natAbs y.natAbs) (Nat.gcd z.natAbs w.natAbs)
abbrev t4 (x y z w : Int) : PyData := .tuple [.int x, .int y, .int z, .int w]
def spotOf (xs : List (Option Int)) (l : Option Int) (st : Bool) : PyData := match xs, l with
  | [some x, some y, some z], some w => if w < 1 then .none else if st = true ∧ w = 1 then .none else if gcd4 x y z w = 1 then t4 x y z w else .none
  | _, _ => .none
/-- what a word writes, or None -/
def spotD (w : PySem.Str) : PyData :=
  spotOf ((Txt.split (Txt.partition w (Str.ofString "/")).1 (Str.ofString ",")).map fun q => wholeD (tl q))
    (if tl (Txt.partition w (Str.ofString "/")).2.1 = [] then some 1 else wholeD (tl (Txt.partition w (Str.ofString "/")).2.2)) (!decide (tl (Txt.partition w (Str.ofString "/")).2.1 = []))
theorem shaped_tints (ns : List Int) : SeqAt.shaped (.tuple (ns.map .int)) = true := by
  have h := depth_ints ns
  unfold SeqAt.shaped
  rw [Bool.and_eq_true, decide_eq_true_eq]
  exact ⟨canLay_ints ns, by simp [PyData.depth]; omega⟩
theorem eqD_tints (ns ms : List Int) : eqD (.tuple (ns.map .int)) (.tuple (ms.map .int)) = some (decide (ns = ms)) := by
  unfold eqD
  rw [shaped_tints, shaped_tints]
  show (if (true && true) = true then some (PyData.eqvAll (ns.map .int) (ms.map .int)) else none) = _
  rw [eqv_ints]
  rfl
theorem o_neT {S : Sto} (ns ms : List Int) : o2 .ne S (.d (.tuple (ns.map .int))) (.d (.tuple (ms.map .int))) = some (.d (.bool (!decide (ns = ms)))) := by
  show blW ((eqD _ _).map not) = _
  rw [eqD_tints]
  rfl
theorem o_eqT {S : Sto} (ns ms : List Int) : o2 .eq S (.d (.tuple (ns.map .int))) (.d (.tuple (ms.map .int))) = some (.d (.bool (decide (ns = ms)))) := by
  show blW (eqD _ _) = _
  rw [eqD_tints]
  rfl
theorem big30 {x : Int} (h : x.natAbs < 10 ^ 30) : x.natAbs < 10 ^ 200 := Nat.lt_of_lt_of_le h (Nat.pow_le_pow_right (by decide) (by decide))
theorem r_made (n : Nat) (S : Sto) (x y z w : Int) (hy : y.natAbs < 10 ^ 30) (hw : w.natAbs < 10 ^ 30) (h1 : 1 ≤ w) : (run kn T (n + 2)).run 1 [wi x, wi y, wi z, wi w] S = .ok (.d (t4 (x.fdiv (gcd4 x y z w)) (y.fdiv (gcd4 x y z w)) (z.fdiv (gcd4 x y z w)) (w.fdiv (gcd4 x y z w)))) S := by
  refine run_at (fn := f_made_spot) rfl rfl rfl ?_
  show fin S.length (exS _ b_made_spot [some (wi x), some (wi y), some (wi z), some (wi w), none] S) = _
  have e1 := r_gcd n S x y (big30 hy)
  have e2 := r_gcd n S z w (big30 hw)
  have gw : Nat.gcd z.natAbs w.natAbs ≤ w.natAbs := Nat.gcd_le_right _ (by omega)
  have e3 := r_gcd n S (Nat.gcd x.natAbs y.natAbs : Nat) (Nat.gcd z.natAbs w.natAbs : Nat) (by
    rw [Int.natAbs_natCast]
    exact Nat.lt_of_le_of_lt gw (big30 hw))
  rw [Int.natAbs_natCast, Int.natAbs_natCast] at e3
  change _ = Mi.R.ok (wi (gcd4 x y z w : Nat)) S at e3
  have gp : 0 < gcd4 x y z w := Nat.gcd_pos_of_pos_right _ (Nat.gcd_pos_of_pos_right _ (by omega))
  have gl : gcd4 x y z w ≤ w.natAbs := Nat.le_trans (Nat.gcd_le_right _ (Nat.gcd_pos_of_pos_right _ (by omega))) gw
  have z0 : (w == (0 : Int)) = false := by
    rw [beq_eq_false_iff_ne]
    omega
  have z1 : decide (w < 0) = false := by
    rw [decide_eq_false_iff_not]
    omega
  have d1 : divOk ((gcd4 x y z w : Nat) : Int) = true := divOk_small (by omega) (by
    rw [Int.natAbs_natCast]
    refine Nat.lt_of_le_of_lt gl (Nat.lt_of_lt_of_le hw ?_)
    decide)
  unfold b_made_spot
  simp only [s_scons, s_snil, s_asg, s_asgLc, s_par, s_aug, s_setix, s_ex, s_ret, s_retN, s_ift, s_brk, s_cnt, s_pss, s_rais, s_raisF, x_var, x_int, x_str, x_bl, x_non, x_gi, x_gs, x_o2, x_ch, x_neg, x_and, x_or, x_one, x_not, x_ife, x_tup, x_lst, x_call, x_bi, x_isi, x_mt, x_ix, x_sl, x_new, x_frz, x_anil, x_acons, x_nop, x_some, x_itE, x_itR, x_itN, x_itZ, x_tru, x_mkL, x_dnil, x_dcons, x_ofP, x_ofP2, x_fld, x_isK, t_tn, t_tt, t_tl, t_nil, t_cons, RS.ofO_some, R.bind_ok, R.bind_exc, R.ofO_some, R.st_ok, R.st_exc, List.getElem?_cons_succ, List.getElem?_cons_zero, List.length_cons, List.length_nil, Nat.reduceAdd, Nat.reduceLT, if_true, Bool.false_eq_true, if_false, Bool.not_true, Bool.not_false, List.set_cons_succ, List.set_cons_zero, Option.map_some, Option.bind_some, o_add, o_sub, o_lt, o_le, o_gt, o_ge, o_eqi, o_nei, o_eqs, o_nes, o_eqb, o_isb, o_isnb, o_isN, o_isnN, b_abs, b_lenl, b_lent, b_tupl, b_tupt, b_lstl, b_lstt, i_ixl, i_ixt, i_srcs, i_srcl, i_srct, i_srcN, g_none, leave_d, fin_nx, fin_rt, fin_exc, at_0, at_1, at_2, at_3, at_4, at_5, tupW1, tupW2, tupW3, tupW4, tupW5, lstW0, lstW1, lstW2, lstW3, lstW4, List.map_cons, List.map_nil, z0]
  unfold r_made_spot_1
  simp only [s_scons, s_snil, s_asg, s_asgLc, s_par, s_aug, s_setix, s_ex, s_ret, s_retN, s_ift, s_brk, s_cnt, s_pss, s_rais, s_raisF, x_var, x_int, x_str, x_bl, x_non, x_gi, x_gs, x_o2, x_ch, x_neg, x_and, x_or, x_one, x_not, x_ife, x_tup, x_lst, x_call, x_bi, x_isi, x_mt, x_ix, x_sl, x_new, x_frz, x_anil, x_acons, x_nop, x_some, x_itE, x_itR, x_itN, x_itZ, x_tru, x_mkL, x_dnil, x_dcons, x_ofP, x_ofP2, x_fld, x_isK, t_tn, t_tt, t_tl, t_nil, t_cons, RS.ofO_some, R.bind_ok, R.bind_exc, R.ofO_some, R.st_ok, R.st_exc, List.getElem?_cons_succ, List.getElem?_cons_zero, List.length_cons, List.length_nil, Nat.reduceAdd, Nat.reduceLT, if_true, Bool.false_eq_true, if_false, Bool.not_true, Bool.not_false, List.set_cons_succ, List.set_cons_zero, Option.map_some, Option.bind_some, o_add, o_sub, o_lt, o_le, o_gt, o_ge, o_eqi, o_nei, o_eqs, o_nes, o_eqb, o_isb, o_isnb, o_isN, o_isnN, b_abs, b_lenl, b_lent, b_tupl, b_tupt, b_lstl, b_lstt, i_ixl, i_ixt, i_srcs, i_srcl, i_srct, i_srcN, g_none, leave_d, fin_nx, fin_rt, fin_exc, at_0, at_1, at_2, at_3, at_4, at_5, tupW1, tupW2, tupW3, tupW4, tupW5, lstW0, lstW1, lstW2, lstW3, lstW4, List.map_cons, List.map_nil, e1, e2, e3, z1]
  unfold r_made_spot_0
  simp only [s_scons, s_snil, s_asg, s_asgLc, s_par, s_aug, s_setix, s_ex, s_ret, s_retN, s_ift, s_brk, s_cnt, s_pss, s_rais, s_raisF, x_var, x_int, x_str, x_bl, x_non, x_gi, x_gs, x_o2, x_ch, x_neg, x_and, x_or, x_one, x_not, x_ife, x_tup, x_lst, x_call, x_bi, x_isi, x_mt, x_ix, x_sl, x_new, x_frz, x_anil, x_acons, x_nop, x_some, x_itE, x_itR, x_itN, x_itZ, x_tru, x_mkL, x_dnil, x_dcons, x_ofP, x_ofP2, x_fld, x_isK, t_tn, t_tt, t_tl, t_nil, t_cons, RS.ofO_some, R.bind_ok, R.bind_exc, R.ofO_some, R.st_ok, R.st_exc, List.getElem?_cons_succ, List.getElem?_cons_zero, List.length_cons, List.length_nil, Nat.reduceAdd, Nat.reduceLT, if_true, Bool.false_eq_true, if_false, Bool.not_true, Bool.not_false, List.set_cons_succ, List.set_cons_zero, Option.map_some, Option.bind_some, o_add, o_sub, o_lt, o_le, o_gt, o_ge, o_eqi, o_nei, o_eqs, o_nes, o_eqb, o_isb, o_isnb, o_isN, o_isnN, b_abs, b_lenl, b_lent, b_tupl, b_tupt, b_lstl, b_lstt, i_ixl, i_ixt, i_srcs, i_srcl, i_srct, i_srcN, g_none, leave_d, fin_nx, fin_rt, fin_exc, at_0, at_1, at_2, at_3, at_4, at_5, tupW1, tupW2, tupW3, tupW4, tupW5, lstW0, lstW1, lstW2, lstW3, lstW4, List.map_cons, List.map_nil, o_fdiv, d1, List.take_length]
theorem optI_in (xs : List (Option Int)) : inL .none (xs.map optI) = some (xs.any (·.isNone)) := by
  have h1 : (xs.map optI).all flatD = true := by
    rw [List.all_eq_true]
    intro d hd
    obtain ⟨o, _, rfl⟩ := List.mem_map.mp hd
    cases o <;> rfl
  unfold inL
  rw [h1, if_pos (by rfl)]
  congr 1
  rw [List.any_map]
  congr 1
  funext o
  cases o <;> rfl
theorem spot_tail (n : Nat) (S : Sto) (a b d o : Option W) (st : PySem.Str) (xs : List (Option Int)) (l : Option Int) (hx : ∀ i, some i ∈ xs → i.natAbs < 10 ^ 30) (hl : ∀ i, l = some i → i.natAbs < 10 ^ 30) :
    ∃ v, exS (run kn T (n + 2)) r_spot_of_2 [a, b, some (wS st), d, some (.ptr S.length), o] (S ++ [.lst (xs.map optI ++ [optI l])]) = .rt (.d (spotOf xs l (!decide (tl st = [])))) (S ++ [v]) := by
  refine ⟨.lst (xs.map optI ++ [optI l]), ?_⟩
  have hp : (S ++ [.lst (xs.map optI ++ [optI l])])[S.length]? = some (.lst (xs.map optI ++ [optI l])) := get_last
  generalize hS1 : S ++ [.lst (xs.map optI ++ [optI l])] = S1 at hp
  have e0 : xs.map optI ++ [optI l] = (xs ++ [l]).map optI := by simp
  have hin : o2 .in_ S1 (.d .none) (.ptr S.length) = some (.d (.bool ((xs ++ [l]).any (·.isNone)))) := by
    show blW (match lst? S1 (.ptr S.length) with | some xs => inL .none xs | none => none) = _
    rw [lst_ptr hp, e0]
    show blW (inL .none _) = _
    rw [optI_in]
    rfl
  have hlen := len_ptr hp
  have hz : ((xs.map optI ++ [optI l]).length : Int) = (xs.length + 1 : Nat) := by simp
  rw [hz] at hlen
  unfold r_spot_of_2
  by_cases h3 : xs.length = 3
  · have q4 : ((4 : Int) == 4) = true := rfl
    replace hlen : bi .len S1 [.ptr S.length] = some (.d (.int 4)) := by
      rw [h3] at hlen
      exact hlen
    obtain ⟨x, y, z, rfl⟩ : ∃ x y z, xs = [x, y, z] := by
      match xs, h3 with
      | [x, y, z], _ => exact ⟨x, y, z, rfl⟩
    by_cases hn : ([x, y, z] ++ [l]).any (·.isNone) = true
    · rw [hn] at hin
      simp only [s_scons, s_snil, s_asg, s_asgLc, s_par, s_aug, s_setix, s_ex, s_ret, s_retN, s_ift, s_brk, s_cnt, s_pss, s_rais, s_raisF, x_var, x_int, x_str, x_bl, x_non, x_gi, x_gs, x_o2, x_ch, x_neg, x_and, x_or, x_one, x_not, x_ife, x_tup, x_lst, x_call, x_bi, x_isi, x_mt, x_ix, x_sl, x_new, x_frz, x_anil, x_acons, x_nop, x_some, x_itE, x_itR, x_itN, x_itZ, x_tru, x_mkL, x_dnil, x_dcons, x_ofP, x_ofP2, x_fld, x_isK, t_tn, t_tt, t_tl, t_nil, t_cons, RS.ofO_some, R.bind_ok, R.bind_exc, R.ofO_some, R.st_ok, R.st_exc, List.getElem?_cons_succ, List.getElem?_cons_zero, List.length_cons, List.length_nil, Nat.reduceAdd, Nat.reduceLT, if_true, Bool.false_eq_true, if_false, Bool.not_true, Bool.not_false, List.set_cons_succ, List.set_cons_zero, Option.map_some, Option.bind_some, o_add, o_sub, o_lt, o_le, o_gt, o_ge, o_eqi, o_nei, o_eqs, o_nes, o_eqb, o_isb, o_isnb, o_isN, o_isnN, b_abs, b_lenl, b_lent, b_tupl, b_tupt, b_lstl, b_lstt, i_ixl, i_ixt, i_srcs, i_srcl, i_srct, i_srcN, g_none, leave_d, fin_nx, fin_rt, fin_exc, at_0, at_1, at_2, at_3, at_4, at_5, tupW1, tupW2, tupW3, tupW4, tupW5, lstW0, lstW1, lstW2, lstW3, lstW4, List.map_cons, List.map_nil, hlen, q4, hin]
      have : spotOf [x, y, z] l (!decide (tl st = [])) = .none := by
        unfold spotOf
        split
        · rename_i hxs
          cases hxs
          simp at hn
        · rfl
      rw [this]
    · rw [Bool.not_eq_true] at hn
      rw [hn] at hin
      obtain ⟨x, rfl⟩ : ∃ i, x = some i := by cases x with | none => simp at hn | some i => exact ⟨i, rfl⟩
      obtain ⟨y, rfl⟩ : ∃ i, y = some i := by cases y with | none => simp at hn | some i => exact ⟨i, rfl⟩
      obtain ⟨z, rfl⟩ : ∃ i, z = some i := by cases z with | none => simp at hn | some i => exact ⟨i, rfl⟩
      obtain ⟨w, rfl⟩ : ∃ i, l = some i := by cases l with | none => simp at hn | some i => exact ⟨i, rfl⟩
      have hx' := hx x (by simp)
      have hy' := hx y (by simp)
      have hz' := hx z (by simp)
      have hw' := hl w rfl
      have hix : ∀ k, ixW S1 (.ptr S.length) (.d (.int k)) = (L2.atI [PyData.int x, .int y, .int z, .int w] k).map .d := fun k => ix_ptr hp
      have htup : bi .tup_ S1 [.ptr S.length] = some (.d (t4 x y z w)) := tup_ptr hp
      show _ = RS.rt (.d (if w < 1 then .none else if (!decide (tl st = [])) = true ∧ w = 1 then .none else if gcd4 x y z w = 1 then t4 x y z w else .none)) S1
      have hst : (st == Str.ofString "") = decide (tl st = []) := by
        rw [str_inj]
        rfl
      by_cases h1 : w < 1
      · have q1 : decide (w < 1) = true := decide_eq_true h1
        simp only [s_scons, s_snil, s_asg, s_asgLc, s_par, s_aug, s_setix, s_ex, s_ret, s_retN, s_ift, s_brk, s_cnt, s_pss, s_rais, s_raisF, x_var, x_int, x_str, x_bl, x_non, x_gi, x_gs, x_o2, x_ch, x_neg, x_and, x_or, x_one, x_not, x_ife, x_tup, x_lst, x_call, x_bi, x_isi, x_mt, x_ix, x_sl, x_new, x_frz, x_anil, x_acons, x_nop, x_some, x_itE, x_itR, x_itN, x_itZ, x_tru, x_mkL, x_dnil, x_dcons, x_ofP, x_ofP2, x_fld, x_isK, t_tn, t_tt, t_tl, t_nil, t_cons, RS.ofO_some, R.bind_ok, R.bind_exc, R.ofO_some, R.st_ok, R.st_exc, List.getElem?_cons_succ, List.getElem?_cons_zero, List.length_cons, List.length_nil, Nat.reduceAdd, Nat.reduceLT, if_true, Bool.false_eq_true, if_false, Bool.not_true, Bool.not_false, List.set_cons_succ, List.set_cons_zero, Option.map_some, Option.bind_some, o_add, o_sub, o_lt, o_le, o_gt, o_ge, o_eqi, o_nei, o_eqs, o_nes, o_eqb, o_isb, o_isnb, o_isN, o_isnN, b_abs, b_lenl, b_lent, b_tupl, b_tupt, b_lstl, b_lstt, i_ixl, i_ixt, i_srcs, i_srcl, i_srct, i_srcN, g_none, leave_d, fin_nx, fin_rt, fin_exc, at_0, at_1, at_2, at_3, at_4, at_5, tupW1, tupW2, tupW3, tupW4, tupW5, lstW0, lstW1, lstW2, lstW3, lstW4, List.map_cons, List.map_nil, hlen, q4, hin, hix, q1, if_pos h1]
      · have q1 : decide (w < 1) = false := decide_eq_false h1
        have rest : exS (run kn T (n + 2)) r_spot_of_1 [a, b, some (wS st), d, some (.ptr S.length), o] S1 = .rt (.d (if gcd4 x y z w = 1 then t4 x y z w else .none)) S1 := by
          have em := r_made n S1 x y z w hy' hw' (by omega)
          have hne := o_neT (S := S1) [x.fdiv (gcd4 x y z w), y.fdiv (gcd4 x y z w), z.fdiv (gcd4 x y z w), w.fdiv (gcd4 x y z w)] [x, y, z, w]
          simp only [List.map_cons, List.map_nil] at hne
          have hg : decide ([x.fdiv (gcd4 x y z w), y.fdiv (gcd4 x y z w), z.fdiv (gcd4 x y z w), w.fdiv (gcd4 x y z w)] = [x, y, z, w]) = decide (gcd4 x y z w = 1) := by
            rw [Bool.eq_iff_iff, decide_eq_true_eq, decide_eq_true_eq]
            constructor
            · intro h
              simp only [List.cons.injEq, and_true] at h
              have h4 := h.2.2.2
              have gp : 0 < gcd4 x y z w := Nat.gcd_pos_of_pos_right _ (Nat.gcd_pos_of_pos_right _ (by omega))
              have dv : gcd4 x y z w ∣ w.natAbs := Nat.dvd_trans (Nat.gcd_dvd_right _ _) (Nat.gcd_dvd_right _ _)
              obtain ⟨k, hk⟩ := Int.ofNat_dvd_left.mpr dv
              rw [Int.fdiv_eq_ediv_of_nonneg _ (by omega)] at h4
              have h5 := Int.ediv_mul_cancel (Int.ofNat_dvd_left.mpr dv)
              rw [h4] at h5
              have : w * ((gcd4 x y z w : Nat) : Int) = w * 1 := by rw [h5, Int.mul_one]
              have := Int.eq_of_mul_eq_mul_left (by omega) this
              omega
            · intro h
              rw [h]
              simp [Int.fdiv_one]
          rw [hg] at hne
          unfold r_spot_of_1
          simp only [s_scons, s_snil, s_asg, s_asgLc, s_par, s_aug, s_setix, s_ex, s_ret, s_retN, s_ift, s_brk, s_cnt, s_pss, s_rais, s_raisF, x_var, x_int, x_str, x_bl, x_non, x_gi, x_gs, x_o2, x_ch, x_neg, x_and, x_or, x_one, x_not, x_ife, x_tup, x_lst, x_call, x_bi, x_isi, x_mt, x_ix, x_sl, x_new, x_frz, x_anil, x_acons, x_nop, x_some, x_itE, x_itR, x_itN, x_itZ, x_tru, x_mkL, x_dnil, x_dcons, x_ofP, x_ofP2, x_fld, x_isK, t_tn, t_tt, t_tl, t_nil, t_cons, RS.ofO_some, R.bind_ok, R.bind_exc, R.ofO_some, R.st_ok, R.st_exc, List.getElem?_cons_succ, List.getElem?_cons_zero, List.length_cons, List.length_nil, Nat.reduceAdd, Nat.reduceLT, if_true, Bool.false_eq_true, if_false, Bool.not_true, Bool.not_false, List.set_cons_succ, List.set_cons_zero, Option.map_some, Option.bind_some, o_add, o_sub, o_lt, o_le, o_gt, o_ge, o_eqi, o_nei, o_eqs, o_nes, o_eqb, o_isb, o_isnb, o_isN, o_isnN, b_abs, b_lenl, b_lent, b_tupl, b_tupt, b_lstl, b_lstt, i_ixl, i_ixt, i_srcs, i_srcl, i_srct, i_srcN, g_none, leave_d, fin_nx, fin_rt, fin_exc, at_0, at_1, at_2, at_3, at_4, at_5, tupW1, tupW2, tupW3, tupW4, tupW5, lstW0, lstW1, lstW2, lstW3, lstW4, List.map_cons, List.map_nil, hix, em, htup, hne]
          by_cases hgc : gcd4 x y z w = 1
          · simp only [s_scons, s_snil, s_asg, s_asgLc, s_par, s_aug, s_setix, s_ex, s_ret, s_retN, s_ift, s_brk, s_cnt, s_pss, s_rais, s_raisF, x_var, x_int, x_str, x_bl, x_non, x_gi, x_gs, x_o2, x_ch, x_neg, x_and, x_or, x_one, x_not, x_ife, x_tup, x_lst, x_call, x_bi, x_isi, x_mt, x_ix, x_sl, x_new, x_frz, x_anil, x_acons, x_nop, x_some, x_itE, x_itR, x_itN, x_itZ, x_tru, x_mkL, x_dnil, x_dcons, x_ofP, x_ofP2, x_fld, x_isK, t_tn, t_tt, t_tl, t_nil, t_cons, RS.ofO_some, R.bind_ok, R.bind_exc, R.ofO_some, R.st_ok, R.st_exc, List.getElem?_cons_succ, List.getElem?_cons_zero, List.length_cons, List.length_nil, Nat.reduceAdd, Nat.reduceLT, if_true, Bool.false_eq_true, if_false, Bool.not_true, Bool.not_false, List.set_cons_succ, List.set_cons_zero, Option.map_some, Option.bind_some, o_add, o_sub, o_lt, o_le, o_gt, o_ge, o_eqi, o_nei, o_eqs, o_nes, o_eqb, o_isb, o_isnb, o_isN, o_isnN, b_abs, b_lenl, b_lent, b_tupl, b_tupt, b_lstl, b_lstt, i_ixl, i_ixt, i_srcs, i_srcl, i_srct, i_srcN, g_none, leave_d, fin_nx, fin_rt, fin_exc, at_0, at_1, at_2, at_3, at_4, at_5, tupW1, tupW2, tupW3, tupW4, tupW5, lstW0, lstW1, lstW2, lstW3, lstW4, List.map_cons, List.map_nil, decide_eq_true hgc, if_pos hgc]
            unfold r_spot_of_0
            simp only [s_scons, s_snil, s_asg, s_asgLc, s_par, s_aug, s_setix, s_ex, s_ret, s_retN, s_ift, s_brk, s_cnt, s_pss, s_rais, s_raisF, x_var, x_int, x_str, x_bl, x_non, x_gi, x_gs, x_o2, x_ch, x_neg, x_and, x_or, x_one, x_not, x_ife, x_tup, x_lst, x_call, x_bi, x_isi, x_mt, x_ix, x_sl, x_new, x_frz, x_anil, x_acons, x_nop, x_some, x_itE, x_itR, x_itN, x_itZ, x_tru, x_mkL, x_dnil, x_dcons, x_ofP, x_ofP2, x_fld, x_isK, t_tn, t_tt, t_tl, t_nil, t_cons, RS.ofO_some, R.bind_ok, R.bind_exc, R.ofO_some, R.st_ok, R.st_exc, List.getElem?_cons_succ, List.getElem?_cons_zero, List.length_cons, List.length_nil, Nat.reduceAdd, Nat.reduceLT, if_true, Bool.false_eq_true, if_false, Bool.not_true, Bool.not_false, List.set_cons_succ, List.set_cons_zero, Option.map_some, Option.bind_some, o_add, o_sub, o_lt, o_le, o_gt, o_ge, o_eqi, o_nei, o_eqs, o_nes, o_eqb, o_isb, o_isnb, o_isN, o_isnN, b_abs, b_lenl, b_lent, b_tupl, b_tupt, b_lstl, b_lstt, i_ixl, i_ixt, i_srcs, i_srcl, i_srct, i_srcN, g_none, leave_d, fin_nx, fin_rt, fin_exc, at_0, at_1, at_2, at_3, at_4, at_5, tupW1, tupW2, tupW3, tupW4, tupW5, lstW0, lstW1, lstW2, lstW3, lstW4, List.map_cons, List.map_nil, htup]
          · simp only [s_scons, s_snil, s_asg, s_asgLc, s_par, s_aug, s_setix, s_ex, s_ret, s_retN, s_ift, s_brk, s_cnt, s_pss, s_rais, s_raisF, x_var, x_int, x_str, x_bl, x_non, x_gi, x_gs, x_o2, x_ch, x_neg, x_and, x_or, x_one, x_not, x_ife, x_tup, x_lst, x_call, x_bi, x_isi, x_mt, x_ix, x_sl, x_new, x_frz, x_anil, x_acons, x_nop, x_some, x_itE, x_itR, x_itN, x_itZ, x_tru, x_mkL, x_dnil, x_dcons, x_ofP, x_ofP2, x_fld, x_isK, t_tn, t_tt, t_tl, t_nil, t_cons, RS.ofO_some, R.bind_ok, R.bind_exc, R.ofO_some, R.st_ok, R.st_exc, List.getElem?_cons_succ, List.getElem?_cons_zero, List.length_cons, List.length_nil, Nat.reduceAdd, Nat.reduceLT, if_true, Bool.false_eq_true, if_false, Bool.not_true, Bool.not_false, List.set_cons_succ, List.set_cons_zero, Option.map_some, Option.bind_some, o_add, o_sub, o_lt, o_le, o_gt, o_ge, o_eqi, o_nei, o_eqs, o_nes, o_eqb, o_isb, o_isnb, o_isN, o_isnN, b_abs, b_lenl, b_lent, b_tupl, b_tupt, b_lstl, b_lstt, i_ixl, i_ixt, i_srcs, i_srcl, i_srct, i_srcN, g_none, leave_d, fin_nx, fin_rt, fin_exc, at_0, at_1, at_2, at_3, at_4, at_5, tupW1, tupW2, tupW3, tupW4, tupW5, lstW0, lstW1, lstW2, lstW3, lstW4, List.map_cons, List.map_nil, decide_eq_false hgc, if_neg hgc]
        simp only [s_scons, s_snil, s_asg, s_asgLc, s_par, s_aug, s_setix, s_ex, s_ret, s_retN, s_ift, s_brk, s_cnt, s_pss, s_rais, s_raisF, x_var, x_int, x_str, x_bl, x_non, x_gi, x_gs, x_o2, x_ch, x_neg, x_and, x_or, x_one, x_not, x_ife, x_tup, x_lst, x_call, x_bi, x_isi, x_mt, x_ix, x_sl, x_new, x_frz, x_anil, x_acons, x_nop, x_some, x_itE, x_itR, x_itN, x_itZ, x_tru, x_mkL, x_dnil, x_dcons, x_ofP, x_ofP2, x_fld, x_isK, t_tn, t_tt, t_tl, t_nil, t_cons, RS.ofO_some, R.bind_ok, R.bind_exc, R.ofO_some, R.st_ok, R.st_exc, List.getElem?_cons_succ, List.getElem?_cons_zero, List.length_cons, List.length_nil, Nat.reduceAdd, Nat.reduceLT, if_true, Bool.false_eq_true, if_false, Bool.not_true, Bool.not_false, List.set_cons_succ, List.set_cons_zero, Option.map_some, Option.bind_some, o_add, o_sub, o_lt, o_le, o_gt, o_ge, o_eqi, o_nei, o_eqs, o_nes, o_eqb, o_isb, o_isnb, o_isN, o_isnN, b_abs, b_lenl, b_lent, b_tupl, b_tupt, b_lstl, b_lstt, i_ixl, i_ixt, i_srcs, i_srcl, i_srct, i_srcN, g_none, leave_d, fin_nx, fin_rt, fin_exc, at_0, at_1, at_2, at_3, at_4, at_5, tupW1, tupW2, tupW3, tupW4, tupW5, lstW0, lstW1, lstW2, lstW3, lstW4, List.map_cons, List.map_nil, hlen, q4, hin, hix, q1, if_neg h1, hst]
        cases hs : decide (tl st = []) with
        | true =>
          simp only [s_scons, s_snil, s_asg, s_asgLc, s_par, s_aug, s_setix, s_ex, s_ret, s_retN, s_ift, s_brk, s_cnt, s_pss, s_rais, s_raisF, x_var, x_int, x_str, x_bl, x_non, x_gi, x_gs, x_o2, x_ch, x_neg, x_and, x_or, x_one, x_not, x_ife, x_tup, x_lst, x_call, x_bi, x_isi, x_mt, x_ix, x_sl, x_new, x_frz, x_anil, x_acons, x_nop, x_some, x_itE, x_itR, x_itN, x_itZ, x_tru, x_mkL, x_dnil, x_dcons, x_ofP, x_ofP2, x_fld, x_isK, t_tn, t_tt, t_tl, t_nil, t_cons, RS.ofO_some, R.bind_ok, R.bind_exc, R.ofO_some, R.st_ok, R.st_exc, List.getElem?_cons_succ, List.getElem?_cons_zero, List.length_cons, List.length_nil, Nat.reduceAdd, Nat.reduceLT, if_true, Bool.false_eq_true, if_false, Bool.not_true, Bool.not_false, List.set_cons_succ, List.set_cons_zero, Option.map_some, Option.bind_some, o_add, o_sub, o_lt, o_le, o_gt, o_ge, o_eqi, o_nei, o_eqs, o_nes, o_eqb, o_isb, o_isnb, o_isN, o_isnN, b_abs, b_lenl, b_lent, b_tupl, b_tupt, b_lstl, b_lstt, i_ixl, i_ixt, i_srcs, i_srcl, i_srct, i_srcN, g_none, leave_d, fin_nx, fin_rt, fin_exc, at_0, at_1, at_2, at_3, at_4, at_5, tupW1, tupW2, tupW3, tupW4, tupW5, lstW0, lstW1, lstW2, lstW3, lstW4, List.map_cons, List.map_nil, Bool.not_true, Bool.false_eq_true, false_and, if_false]
          exact rest
        | false =>
          by_cases hw1 : w = 1
          · have : (w == (1 : Int)) = true := by rw [beq_iff_eq]; exact hw1
            subst hw1
            simp only [s_scons, s_snil, s_asg, s_asgLc, s_par, s_aug, s_setix, s_ex, s_ret, s_retN, s_ift, s_brk, s_cnt, s_pss, s_rais, s_raisF, x_var, x_int, x_str, x_bl, x_non, x_gi, x_gs, x_o2, x_ch, x_neg, x_and, x_or, x_one, x_not, x_ife, x_tup, x_lst, x_call, x_bi, x_isi, x_mt, x_ix, x_sl, x_new, x_frz, x_anil, x_acons, x_nop, x_some, x_itE, x_itR, x_itN, x_itZ, x_tru, x_mkL, x_dnil, x_dcons, x_ofP, x_ofP2, x_fld, x_isK, t_tn, t_tt, t_tl, t_nil, t_cons, RS.ofO_some, R.bind_ok, R.bind_exc, R.ofO_some, R.st_ok, R.st_exc, List.getElem?_cons_succ, List.getElem?_cons_zero, List.length_cons, List.length_nil, Nat.reduceAdd, Nat.reduceLT, if_true, Bool.false_eq_true, if_false, Bool.not_true, Bool.not_false, List.set_cons_succ, List.set_cons_zero, Option.map_some, Option.bind_some, o_add, o_sub, o_lt, o_le, o_gt, o_ge, o_eqi, o_nei, o_eqs, o_nes, o_eqb, o_isb, o_isnb, o_isN, o_isnN, b_abs, b_lenl, b_lent, b_tupl, b_tupt, b_lstl, b_lstt, i_ixl, i_ixt, i_srcs, i_srcl, i_srct, i_srcN, g_none, leave_d, fin_nx, fin_rt, fin_exc, at_0, at_1, at_2, at_3, at_4, at_5, tupW1, tupW2, tupW3, tupW4, tupW5, lstW0, lstW1, lstW2, lstW3, lstW4, List.map_cons, List.map_nil, hix, this, and_self, if_true]
          · have : (w == (1 : Int)) = false := by rw [beq_eq_false_iff_ne]; exact hw1
            simp only [s_scons, s_snil, s_asg, s_asgLc, s_par, s_aug, s_setix, s_ex, s_ret, s_retN, s_ift, s_brk, s_cnt, s_pss, s_rais, s_raisF, x_var, x_int, x_str, x_bl, x_non, x_gi, x_gs, x_o2, x_ch, x_neg, x_and, x_or, x_one, x_not, x_ife, x_tup, x_lst, x_call, x_bi, x_isi, x_mt, x_ix, x_sl, x_new, x_frz, x_anil, x_acons, x_nop, x_some, x_itE, x_itR, x_itN, x_itZ, x_tru, x_mkL, x_dnil, x_dcons, x_ofP, x_ofP2, x_fld, x_isK, t_tn, t_tt, t_tl, t_nil, t_cons, RS.ofO_some, R.bind_ok, R.bind_exc, R.ofO_some, R.st_ok, R.st_exc, List.getElem?_cons_succ, List.getElem?_cons_zero, List.length_cons, List.length_nil, Nat.reduceAdd, Nat.reduceLT, if_true, Bool.false_eq_true, if_false, Bool.not_true, Bool.not_false, List.set_cons_succ, List.set_cons_zero, Option.map_some, Option.bind_some, o_add, o_sub, o_lt, o_le, o_gt, o_ge, o_eqi, o_nei, o_eqs, o_nes, o_eqb, o_isb, o_isnb, o_isN, o_isnN, b_abs, b_lenl, b_lent, b_tupl, b_tupt, b_lstl, b_lstt, i_ixl, i_ixt, i_srcs, i_srcl, i_srct, i_srcN, g_none, leave_d, fin_nx, fin_rt, fin_exc, at_0, at_1, at_2, at_3, at_4, at_5, tupW1, tupW2, tupW3, tupW4, tupW5, lstW0, lstW1, lstW2, lstW3, lstW4, List.map_cons, List.map_nil, hix, this, hw1, and_false, if_false]
            exact rest
  · have q4 : (((xs.length + 1 : Nat) : Int) == 4) = false := by
      rw [beq_eq_false_iff_ne]
      omega
    simp only [s_scons, s_snil, s_asg, s_asgLc, s_par, s_aug, s_setix, s_ex, s_ret, s_retN, s_ift, s_brk, s_cnt, s_pss, s_rais, s_raisF, x_var, x_int, x_str, x_bl, x_non, x_gi, x_gs, x_o2, x_ch, x_neg, x_and, x_or, x_one, x_not, x_ife, x_tup, x_lst, x_call, x_bi, x_isi, x_mt, x_ix, x_sl, x_new, x_frz, x_anil, x_acons, x_nop, x_some, x_itE, x_itR, x_itN, x_itZ, x_tru, x_mkL, x_dnil, x_dcons, x_ofP, x_ofP2, x_fld, x_isK, t_tn, t_tt, t_tl, t_nil, t_cons, RS.ofO_some, R.bind_ok, R.bind_exc, R.ofO_some, R.st_ok, R.st_exc, List.getElem?_cons_succ, List.getElem?_cons_zero, List.length_cons, List.length_nil, Nat.reduceAdd, Nat.reduceLT, if_true, Bool.false_eq_true, if_false, Bool.not_true, Bool.not_false, List.set_cons_succ, List.set_cons_zero, Option.map_some, Option.bind_some, o_add, o_sub, o_lt, o_le, o_gt, o_ge, o_eqi, o_nei, o_eqs, o_nes, o_eqb, o_isb, o_isnb, o_isN, o_isnN, b_abs, b_lenl, b_lent, b_tupl, b_tupt, b_lstl, b_lstt, i_ixl, i_ixt, i_srcs, i_srcl, i_srct, i_srcN, g_none, leave_d, fin_nx, fin_rt, fin_exc, at_0, at_1, at_2, at_3, at_4, at_5, tupW1, tupW2, tupW3, tupW4, tupW5, lstW0, lstW1, lstW2, lstW3, lstW4, List.map_cons, List.map_nil, hlen, q4]
    have : spotOf xs l (!decide (tl st = [])) = .none := by
      unfold spotOf
      split
      · exact absurd rfl h3
      · rfl
    rw [this]
theorem r_spot_of (n : Nat) (S : Sto) (w : PySem.Str) (hw : Wd w) : (run kn T (n + 3)).run 3 [wS w] S = .ok (.d (spotD w)) S := by
  refine run_at (fn := f_spot_of) rfl rfl rfl ?_
  show fin S.length (exS _ b_spot_of [some (wS w), none, none, none, none, none] S) = _
  have hlim : lim = 1000000 := rfl
  obtain ⟨a, st, b, hpt, ha, hb, hab⟩ : ∃ a st b, Txt.partition w (Str.ofString "/") = (a, st, b) ∧ Wd a ∧ Wd b ∧ True := by
    rcases part_cases w with h | ⟨a, b, e, h⟩
    · exact ⟨_, _, _, h, hw, ⟨by decide, by decide +kernel⟩, trivial⟩
    · refine ⟨a, _, b, h, ?_, ?_, trivial⟩
      · refine wd_sub hw ?_ fun c hc => ?_
        · rw [e, app_len, app_len]; omega
        · rw [e, tl_append, tl_append]
          simp [hc]
      · refine wd_sub hw ?_ fun c hc => ?_
        · rw [e, app_len, app_len]; omega
        · rw [e, tl_append, tl_append]
          simp [hc]
  have hpart : mt .partition S (wS w) [wS (Str.ofString "/")] = some (.d (.tuple [.str a, .str st, .str b]), S) := by
    show (if ((Str.ofString "/").length == 0) = false ∧ w.length ≤ lim then some (W.d (.tuple [.str (Txt.partition w (Str.ofString "/")).1, .str (Txt.partition w (Str.ofString "/")).2.1, .str (Txt.partition w (Str.ofString "/")).2.2])) else none).map (·, S) = _
    have := hw.1
    rw [if_pos ⟨by decide +kernel, by omega⟩, hpt]
    rfl
  obtain ⟨hsp, hsl⟩ := split_wd ha
  have esplit : mt .split S (wS a) [wS (Str.ofString ",")] = some (.d (.list ((Txt.split a (Str.ofString ",")).map strD)), S) := by
    show (if ((Str.ofString ",").length == 0) = false ∧ a.length ≤ lim then some (W.d (.list ((Txt.split a (Str.ofString ",")).map strD))) else none).map (·, S) = _
    have := ha.1
    rw [if_pos ⟨by decide +kernel, by omega⟩]
    rfl
  have ety : mtTy .split S (wS a) = true := rfl
  have epy : mtTy .partition S (wS w) = true := rfl
  have el := lc_mapP (S := S) (bt := fun w' S2 => bindT S2 (.tn 5) w' (wipeR [some (wS w), some (wS a), some (wS st), some (wS b), none, none] [5])) (tst := fun ρ' S2 => evT (run kn T (n + 2)) .anil ρ' S2) (el := fun ρ' S2 => evE (run kn T (n + 2)) (.call 2 (.acons (.var 5) .anil)) ρ' S2)
    (fun d => match d with | .str q => optI (wholeD (tl q)) | _ => .none) ((Txt.split a (Str.ofString ",")).map strD) (by rw [List.length_map]; omega) (fun d hd => by
      obtain ⟨q, hq, rfl⟩ := List.mem_map.mp hd
      have e := r_whole (n + 1) S q (hsp q hq).1 (hsp q hq).2
      refine ⟨[some (wS w), some (wS a), some (wS st), some (wS b), none, some (wS q)], by simp [wipeR, strD], rfl, ?_⟩
      simp only [s_scons, s_snil, s_asg, s_asgLc, s_par, s_aug, s_setix, s_ex, s_ret, s_retN, s_ift, s_brk, s_cnt, s_pss, s_rais, s_raisF, x_var, x_int, x_str, x_bl, x_non, x_gi, x_gs, x_o2, x_ch, x_neg, x_and, x_or, x_one, x_not, x_ife, x_tup, x_lst, x_call, x_bi, x_isi, x_mt, x_ix, x_sl, x_new, x_frz, x_anil, x_acons, x_nop, x_some, x_itE, x_itR, x_itN, x_itZ, x_tru, x_mkL, x_dnil, x_dcons, x_ofP, x_ofP2, x_fld, x_isK, t_tn, t_tt, t_tl, t_nil, t_cons, RS.ofO_some, R.bind_ok, R.bind_exc, R.ofO_some, R.st_ok, R.st_exc, List.getElem?_cons_succ, List.getElem?_cons_zero, List.length_cons, List.length_nil, Nat.reduceAdd, Nat.reduceLT, if_true, Bool.false_eq_true, if_false, Bool.not_true, Bool.not_false, List.set_cons_succ, List.set_cons_zero, Option.map_some, Option.bind_some, o_add, o_sub, o_lt, o_le, o_gt, o_ge, o_eqi, o_nei, o_eqs, o_nes, o_eqb, o_isb, o_isnb, o_isN, o_isnN, b_abs, b_lenl, b_lent, b_tupl, b_tupt, b_lstl, b_lstt, i_ixl, i_ixt, i_srcs, i_srcl, i_srct, i_srcN, g_none, leave_d, fin_nx, fin_rt, fin_exc, at_0, at_1, at_2, at_3, at_4, at_5, tupW1, tupW2, tupW3, tupW4, tupW5, lstW0, lstW1, lstW2, lstW3, lstW4, List.map_cons, List.map_nil, e]
      rfl)
  generalize hxs : (Txt.split a (Str.ofString ",")).map (fun q => wholeD (tl q)) = xs
  have exs : ((Txt.split a (Str.ofString ",")).map strD).map (fun d => match d with | .str q => optI (wholeD (tl q)) | _ => .none) = xs.map optI := by
    rw [← hxs, List.map_map, List.map_map]
    rfl
  rw [exs] at el
  have hxl : xs.length ≤ 10001 := by rw [← hxs, List.length_map]; exact hsl
  have hxb : ∀ i, some i ∈ xs → i.natAbs < 10 ^ 30 := fun i hi => by
    rw [← hxs] at hi
    obtain ⟨q, _, e⟩ := List.mem_map.mp hi
    exact wholeD_lt e
  have eadd : o2 .add S (.d (.list (xs.map optI))) (.d (.list [.int 1])) = some (.d (.list (xs.map optI ++ [.int 1]))) := by
    show (if (xs.map optI).length + 1 ≤ lim then some (W.d (.list (xs.map optI ++ [.int 1]))) else none) = _
    rw [if_pos (by rw [List.length_map]; omega)]
  have hst : (st == Str.ofString "") = decide (tl st = []) := by
    rw [str_inj]
    rfl
  have hD : spotD w = spotOf xs (if tl st = [] then some 1 else wholeD (tl b)) (!decide (tl st = [])) := by
    unfold spotD
    rw [hpt, hxs]
  rw [hD]
  unfold b_spot_of
  simp only [s_scons, s_snil, s_asg, s_asgLc, s_par, s_aug, s_setix, s_ex, s_ret, s_retN, s_ift, s_brk, s_cnt, s_pss, s_rais, s_raisF, x_var, x_int, x_str, x_bl, x_non, x_gi, x_gs, x_o2, x_ch, x_neg, x_and, x_or, x_one, x_not, x_ife, x_tup, x_lst, x_call, x_bi, x_isi, x_mt, x_ix, x_sl, x_new, x_frz, x_anil, x_acons, x_nop, x_some, x_itE, x_itR, x_itN, x_itZ, x_tru, x_mkL, x_dnil, x_dcons, x_ofP, x_ofP2, x_fld, x_isK, t_tn, t_tt, t_tl, t_nil, t_cons, RS.ofO_some, R.bind_ok, R.bind_exc, R.ofO_some, R.st_ok, R.st_exc, List.getElem?_cons_succ, List.getElem?_cons_zero, List.length_cons, List.length_nil, Nat.reduceAdd, Nat.reduceLT, if_true, Bool.false_eq_true, if_false, Bool.not_true, Bool.not_false, List.set_cons_succ, List.set_cons_zero, Option.map_some, Option.bind_some, o_add, o_sub, o_lt, o_le, o_gt, o_ge, o_eqi, o_nei, o_eqs, o_nes, o_eqb, o_isb, o_isnb, o_isN, o_isnN, b_abs, b_lenl, b_lent, b_tupl, b_tupt, b_lstl, b_lstt, i_ixl, i_ixt, i_srcs, i_srcl, i_srct, i_srcN, g_none, leave_d, fin_nx, fin_rt, fin_exc, at_0, at_1, at_2, at_3, at_4, at_5, tupW1, tupW2, tupW3, tupW4, tupW5, lstW0, lstW1, lstW2, lstW3, lstW4, List.map_cons, List.map_nil, epy, hpart, ety, esplit, x_lc, el, eadd, hst]
  by_cases hs : tl st = []
  · obtain ⟨v, et⟩ := spot_tail n S (some (wS w)) (some (wS a)) (some (wS b)) none st xs (some 1) hxb (fun i hi => by cases hi; decide)
    simp only [s_scons, s_snil, s_asg, s_asgLc, s_par, s_aug, s_setix, s_ex, s_ret, s_retN, s_ift, s_brk, s_cnt, s_pss, s_rais, s_raisF, x_var, x_int, x_str, x_bl, x_non, x_gi, x_gs, x_o2, x_ch, x_neg, x_and, x_or, x_one, x_not, x_ife, x_tup, x_lst, x_call, x_bi, x_isi, x_mt, x_ix, x_sl, x_new, x_frz, x_anil, x_acons, x_nop, x_some, x_itE, x_itR, x_itN, x_itZ, x_tru, x_mkL, x_dnil, x_dcons, x_ofP, x_ofP2, x_fld, x_isK, t_tn, t_tt, t_tl, t_nil, t_cons, RS.ofO_some, R.bind_ok, R.bind_exc, R.ofO_some, R.st_ok, R.st_exc, List.getElem?_cons_succ, List.getElem?_cons_zero, List.length_cons, List.length_nil, Nat.reduceAdd, Nat.reduceLT, if_true, Bool.false_eq_true, if_false, Bool.not_true, Bool.not_false, List.set_cons_succ, List.set_cons_zero, Option.map_some, Option.bind_some, o_add, o_sub, o_lt, o_le, o_gt, o_ge, o_eqi, o_nei, o_eqs, o_nes, o_eqb, o_isb, o_isnb, o_isN, o_isnN, b_abs, b_lenl, b_lent, b_tupl, b_tupt, b_lstl, b_lstt, i_ixl, i_ixt, i_srcs, i_srcl, i_srct, i_srcN, g_none, leave_d, fin_nx, fin_rt, fin_exc, at_0, at_1, at_2, at_3, at_4, at_5, tupW1, tupW2, tupW3, tupW4, tupW5, lstW0, lstW1, lstW2, lstW3, lstW4, List.map_cons, List.map_nil, decide_eq_true hs, if_pos hs]
    have et' : exS (run kn T (n + 2)) r_spot_of_2 [some (wS w), some (wS a), some (wS st), some (wS b), some (.ptr S.length), none] (S ++ [.lst (xs.map optI ++ [.int 1])]) = _ := et
    simp only [decide_eq_true hs, Bool.not_true] at et'
    simp only [et', fin_rt, leave_d, take_last]
  · obtain ⟨v, et⟩ := spot_tail n S (some (wS w)) (some (wS a)) (some (wS b)) none st xs (wholeD (tl b)) hxb (fun i hi => wholeD_lt hi)
    have ew := r_whole (n + 1) (S ++ [.lst (xs.map optI ++ [.int 1])]) b hb.1 hb.2
    have es : setW (S ++ [.lst (xs.map optI ++ [.int 1])]) (.ptr S.length) (.d (.int (-1))) (.d (optI (wholeD (tl b)))) = some (S ++ [.lst (xs.map optI ++ [optI (wholeD (tl b))])]) := by
      rw [set_ptr (j := xs.length) get_last (by
        unfold L2.ixN
        rw [if_neg (by decide), List.length_append, List.length_cons, List.length_nil, List.length_map, if_pos (by omega)]
        congr 1
        omega), set_last]
      congr 4
      rw [List.set_append_right _ _ (by rw [List.length_map]; exact Nat.le_refl _), List.length_map, Nat.sub_self]
      rfl
    simp only [s_scons, s_snil, s_asg, s_asgLc, s_par, s_aug, s_setix, s_ex, s_ret, s_retN, s_ift, s_brk, s_cnt, s_pss, s_rais, s_raisF, x_var, x_int, x_str, x_bl, x_non, x_gi, x_gs, x_o2, x_ch, x_neg, x_and, x_or, x_one, x_not, x_ife, x_tup, x_lst, x_call, x_bi, x_isi, x_mt, x_ix, x_sl, x_new, x_frz, x_anil, x_acons, x_nop, x_some, x_itE, x_itR, x_itN, x_itZ, x_tru, x_mkL, x_dnil, x_dcons, x_ofP, x_ofP2, x_fld, x_isK, t_tn, t_tt, t_tl, t_nil, t_cons, RS.ofO_some, R.bind_ok, R.bind_exc, R.ofO_some, R.st_ok, R.st_exc, List.getElem?_cons_succ, List.getElem?_cons_zero, List.length_cons, List.length_nil, Nat.reduceAdd, Nat.reduceLT, if_true, Bool.false_eq_true, if_false, Bool.not_true, Bool.not_false, List.set_cons_succ, List.set_cons_zero, Option.map_some, Option.bind_some, o_add, o_sub, o_lt, o_le, o_gt, o_ge, o_eqi, o_nei, o_eqs, o_nes, o_eqb, o_isb, o_isnb, o_isN, o_isnN, b_abs, b_lenl, b_lent, b_tupl, b_tupt, b_lstl, b_lstt, i_ixl, i_ixt, i_srcs, i_srcl, i_srct, i_srcN, g_none, leave_d, fin_nx, fin_rt, fin_exc, at_0, at_1, at_2, at_3, at_4, at_5, tupW1, tupW2, tupW3, tupW4, tupW5, lstW0, lstW1, lstW2, lstW3, lstW4, List.map_cons, List.map_nil, decide_eq_false hs, if_neg hs, ew, es]
    simp only [decide_eq_false hs, Bool.not_false] at et
    simp only [et, fin_rt, leave_d, take_last]
end My

namespace My
open PySem Mi TL
/-! ### what is no number -/
theorem figs_mem {c : Nat} {w : List Nat} (h : c ∈ w) (h45 : c ≠ 45) : c ∈ figs w := by
  unfold figs
  split
  · rcases List.mem_cons.mp h with z | z
    · exact absurd z h45
    · exact z
  · exact h
theorem bad_sign {c : Nat} {w : List Nat} (h : c ∈ w) (h45 : c ≠ 45) (hd : dig c = false) : wholeD w = none := by
  unfold wholeD
  split
  · rw [if_neg]
    intro z
    have := List.all_eq_true.mp z c (figs_mem h h45)
    rw [hd] at this
    cases this
  · rfl
theorem numL_dig (n : Nat) : ∀ c ∈ numL n, dig c = true := fun c hc => by
  have := numL_digits n c hc
  unfold dig
  rw [Bool.and_eq_true, decide_eq_true_eq, decide_eq_true_eq]
  exact this
theorem wholeD_NS {x : Int} (h : x.natAbs < 10 ^ 30) : wholeD (tl (NS x)) = some x := by
  have hl := numL_len (by decide) h
  have hne := numL_ne x.natAbs
  have hall : (numL x.natAbs).all dig = true := List.all_eq_true.mpr (numL_dig _)
  have hw : (⟨(tl (NS x)).toArray⟩ : PySem.Str) = NS x := ext_tl rfl
  have h1 : 1 ≤ (numL x.natAbs).length := by
    cases e : numL x.natAbs with
    | nil => exact absurd e hne
    | cons _ _ => simp
  have hf : figs (tl (NS x)) = numL x.natAbs := by
    rw [tl_NS]
    unfold tx
    split
    · rfl
    · unfold figs
      split
      · rename_i r e
        have := numL_digits x.natAbs 45 (by rw [e]; exact List.mem_cons_self ..)
        omega
      · rfl
  unfold wholeD
  rw [hf, if_pos ⟨h1, hl⟩, if_pos hall, hw, NS_int h, if_neg]
  rintro ⟨h2, h3⟩
  have h0 := numL_zero h2
  have : x = 0 := by omega
  subst this
  exact h3 (by decide +kernel)
theorem NS_free (a : Int) : 44 ∉ tl (NS a) ∧ 47 ∉ tl (NS a) := by
  rw [tl_NS]
  exact ⟨tx_free ⟨.inl (by decide), by decide⟩, tx_free ⟨.inl (by decide), by decide⟩⟩
/-! ### words put together -/
/-- parts joined by commas, what stands behind a stroke -/
def txt (ps : List PySem.Str) : Option PySem.Str → PySem.Str
  | none => Txt.join (Str.ofString ",") ps
  | some d => Txt.join (Str.ofString ",") ps ++ Str.ofString "/" ++ d
def Free (p : PySem.Str) : Prop := 44 ∉ tl p ∧ 47 ∉ tl p
theorem joinL_free : ∀ {ps : List (List Nat)}, (∀ p ∈ ps, 47 ∉ p) → 47 ∉ joinL [44] ps
  | [], _ => by simp [joinL]
  | [p], h => by simpa [joinL] using h p (List.mem_cons_self ..)
  | p :: q :: r, h => by
    have ih := joinL_free (ps := q :: r) fun x hx => h x (List.mem_cons_of_mem _ hx)
    have hp := h p (List.mem_cons_self ..)
    show 47 ∉ p ++ ([44] ++ joinL [44] (q :: r))
    simp only [List.mem_append, List.mem_singleton, not_or]
    exact ⟨hp, by decide, ih⟩
theorem join_free {ps : List PySem.Str} (h : ∀ p ∈ ps, Free p) : 47 ∉ tl (Txt.join (Str.ofString ",") ps) := by
  rw [join_eq, tl_join, comma_tl]
  refine joinL_free fun p hp => ?_
  obtain ⟨q, hq, rfl⟩ := List.mem_map.mp hp
  exact (h q hq).2
theorem spot_txt {ps : List PySem.Str} (hne : ps ≠ []) (h : ∀ p ∈ ps, Free p) : ∀ d : Option PySem.Str, spotD (txt ps d) = spotOf (ps.map fun q => wholeD (tl q)) (match d with | none => some 1 | some d => wholeD (tl d)) d.isSome
  | none => by
    unfold spotD txt
    rw [partition_none slash_tl (join_free h)]
    have e : tl Str.empty = [] := by decide +kernel
    simp only [e, if_true, decide_true, Bool.not_true, Option.isSome_none]
    rw [split_join comma_tl (by decide +kernel) hne fun p hp => (h p hp).1]
  | some d => by
    unfold spotD txt
    rw [partition_app slash_tl (join_free h)]
    have e : ¬ (tl (Str.ofString "/") = []) := by rw [slash_tl]; simp
    simp only [if_neg e, decide_eq_false e, Bool.not_false, Option.isSome_some]
    rw [split_join comma_tl (by decide +kernel) hne fun p hp => (h p hp).1]
theorem spotOf_len {xs : List (Option Int)} {l : Option Int} {st : Bool} (h : xs.length ≠ 3) : spotOf xs l st = .none := by
  unfold spotOf
  split
  · exact absurd rfl h
  · rfl
theorem spotOf_part {xs : List (Option Int)} {l : Option Int} {st : Bool} (h : none ∈ xs) : spotOf xs l st = .none := by
  unfold spotOf
  split
  · simp at h
  · rfl
theorem spotOf_last {xs : List (Option Int)} {st : Bool} : spotOf xs none st = .none := by
  unfold spotOf
  split
  · rename_i h
    cases h
  · rfl
/-- a text that writes no spot -/
def Bad (t : PySem.Str) : Prop := spotD t = .none ∧ Wd t
theorem bad_len {ps : List PySem.Str} {d : Option PySem.Str} (hne : ps ≠ []) (h : ∀ p ∈ ps, Free p) (hw : Wd (txt ps d)) (hl : ps.length ≠ 3) : Bad (txt ps d) :=
  ⟨by rw [spot_txt hne h, spotOf_len (by rw [List.length_map]; exact hl)], hw⟩
theorem bad_part {ps : List PySem.Str} {d : Option PySem.Str} (h : ∀ p ∈ ps, Free p) (hw : Wd (txt ps d)) {p : PySem.Str} (hp : p ∈ ps) (hn : wholeD (tl p) = none) : Bad (txt ps d) :=
  ⟨by rw [spot_txt (by intro z; rw [z] at hp; cases hp) h, spotOf_part (List.mem_map.mpr ⟨p, hp, hn⟩)], hw⟩
theorem bad_last {ps : List PySem.Str} {d : PySem.Str} (hne : ps ≠ []) (h : ∀ p ∈ ps, Free p) (hw : Wd (txt ps (some d))) (hn : wholeD (tl d) = none) : Bad (txt ps (some d)) :=
  ⟨by rw [spot_txt hne h]; show spotOf _ (wholeD (tl d)) _ = _; rw [hn, spotOf_last], hw⟩
/-! ### lengths, signs -/
theorem wd_of {t : PySem.Str} (hl : (tl t).length ≤ 10000) (hs : ∀ c ∈ tl t, c < 1114112) : Wd t := by
  refine ⟨by rw [len_tl]; exact hl, ?_⟩
  unfold PyData.strOk
  rw [Array.all_eq_true_iff_forall_mem]
  exact fun c hc => decide_eq_true (hs c (by simpa [tl] using hc))
def Low (t : PySem.Str) (n : Nat) : Prop := (tl t).length ≤ n ∧ ∀ c ∈ tl t, c < 1114112
theorem Low.wd {t : PySem.Str} {n : Nat} (h : Low t n) (hn : n ≤ 10000) : Wd t := wd_of (Nat.le_trans h.1 hn) h.2
theorem Low.app {a b : PySem.Str} {m n : Nat} (ha : Low a m) (hb : Low b n) : Low (a ++ b) (m + n) := by
  refine ⟨by rw [tl_append, List.length_append]; exact Nat.add_le_add ha.1 hb.1, fun c hc => ?_⟩
  rw [tl_append] at hc
  rcases List.mem_append.mp hc with z | z
  · exact ha.2 c z
  · exact hb.2 c z
theorem Low.mono {a : PySem.Str} {m n : Nat} (ha : Low a m) (h : m ≤ n) : Low a n := ⟨Nat.le_trans ha.1 h, ha.2⟩
theorem low_NS {x : Int} (h : x.natAbs < 10 ^ 30) : Low (NS x) 31 := by
  refine ⟨by rw [tl_NS]; exact tx_len h, fun c hc => ?_⟩
  rw [tl_NS] at hc
  unfold tx at hc
  split at hc
  · rcases List.mem_cons.mp hc with z | z
    · omega
    · have := numL_digits _ c z
      omega
  · have := numL_digits _ c hc
    omega
theorem low_join : ∀ {ps : List PySem.Str} {m : Nat}, (∀ p ∈ ps, Low p m) → Low (Txt.join (Str.ofString ",") ps) (ps.length * (m + 1)) := by
  intro ps m h
  have key : ∀ (qs : List PySem.Str), (∀ p ∈ qs, Low p m) → (joinL [44] (qs.map tl)).length ≤ qs.length * (m + 1) ∧ ∀ c ∈ joinL [44] (qs.map tl), c < 1114112 := by
    intro qs
    induction qs with
    | nil => intro _; exact ⟨by simp [joinL], fun c hc => by simp [joinL] at hc⟩
    | cons p r ih =>
      intro hq
      obtain ⟨i1, i2⟩ := ih fun x hx => hq x (List.mem_cons_of_mem _ hx)
      have hp := hq p (List.mem_cons_self ..)
      cases r with
      | nil =>
        refine ⟨?_, fun c hc => hp.2 c (by simpa [joinL] using hc)⟩
        have := hp.1
        show (tl p).length ≤ 1 * (m + 1)
        omega
      | cons q r =>
        have e : joinL [44] ((p :: q :: r).map tl) = tl p ++ ([44] ++ joinL [44] ((q :: r).map tl)) := rfl
        rw [e]
        refine ⟨?_, fun c hc => ?_⟩
        · have := hp.1
          rw [List.length_append, List.length_append, List.length_cons, List.length_nil, List.length_cons (a := p), Nat.succ_mul]
          omega
        · simp only [List.mem_append, List.mem_singleton] at hc
          rcases hc with z | z | z
          · exact hp.2 c z
          · omega
          · exact i2 c z
  unfold Low
  rw [join_eq, tl_join, comma_tl]
  exact key ps h
end My

namespace My
open PySem Mi TL
theorem join_M {S : Sto} {ys : List PySem.Str} {m : Nat} (h : ∀ p ∈ ys, Low p m) (hm : ys.length * (m + 1) ≤ 100000) : mt .join S (wS (Str.ofString ",")) [.d (.list (ys.map .str))] = some (wS (Txt.join (Str.ofString ",") ys), S) := by
  have hs : strs? (ys.map PyData.str) = some ys := by
    have : ∀ zs : List PySem.Str, strs? (zs.map PyData.str) = some zs := fun zs => by
      induction zs with
      | nil => rfl
      | cons z zs ih =>
        show (strs? (zs.map PyData.str)).map (z :: ·) = _
        rw [ih]
        rfl
    exact this ys
  have hsum : ∀ zs : List PySem.Str, (∀ p ∈ zs, Low p m) → (zs.map (·.length)).sum + zs.length * (Str.ofString ",").length ≤ zs.length * (m + 1) := fun zs => by
    induction zs with
    | nil => intro _; simp
    | cons z zs ih =>
      intro hz
      have i := ih fun p hp => hz p (List.mem_cons_of_mem _ hp)
      have hl := (hz z (List.mem_cons_self ..)).1
      rw [← len_tl] at hl
      rw [comma_len] at i ⊢
      rw [List.map_cons, List.sum_cons, List.length_cons, Nat.succ_mul, Nat.succ_mul]
      omega
  have hq := hsum ys h
  show (mtJoin S (wS (Str.ofString ",")) [.d (.list (ys.map .str))]).map (·, S) = _
  show (match strs? (ys.map PyData.str) with
      | some (ys : List PySem.Str) => if (ys.map (fun (z : PySem.Str) => z.length)).sum + ys.length * (Str.ofString ",").length ≤ lim then some (W.d (.str (PySem.Txt.join (Str.ofString ",") ys))) else none
      | none => none).map (·, S) = _
  rw [hs]
  show (if (ys.map (fun (z : PySem.Str) => z.length)).sum + ys.length * (Str.ofString ",").length ≤ lim then some (W.d (.str (PySem.Txt.join (Str.ofString ",") ys))) else none).map (·, S) = _
  have hlim : lim = 1000000 := rfl
  rw [if_pos (by omega)]
  rfl
theorem join_ty {S : Sto} {a : PySem.Str} : mtTy .join S (wS a) = true := rfl
theorem ext_M {S : Sto} {p : Nat} {xs ys : List PyData} (h : S[p]? = some (.lst xs)) (hl : xs.length + ys.length ≤ 1000000) : mt .extend S (.ptr p) [.d (.list ys)] = some (.d .none, S.set p (.lst (xs ++ ys))) := by
  show (match S[p]?, lst? S (.d (.list ys)) with
    | some (.lst xs), some ys => if xs.length + ys.length ≤ lim then some (W.d .none, S.set p (.lst (xs ++ ys))) else none
    | _, _ => none) = _
  rw [h]
  exact if_pos hl
theorem ext_ty {S : Sto} {p : Nat} {xs : List PyData} (h : S[p]? = some (.lst xs)) : mtTy .extend S (.ptr p) = true := by
  show (lst? S (.ptr p)).isSome = true
  rw [lst_ptr h]
  rfl
theorem pick {xs : List PySem.Str} {i : Int} (h0 : 0 ≤ i) (h1 : i < xs.length) : ∃ u ∈ xs, L2.atI (xs.map PyData.str) i = some (.str u) := by
  obtain ⟨d, e1, e2⟩ := atI_nn (xs := xs.map PyData.str) h0 (by rw [List.length_map]; exact h1)
  have hm := List.mem_of_getElem? e2
  obtain ⟨u, hu, rfl⟩ := List.mem_map.mp hm
  exact ⟨u, hu, e1⟩
theorem adds_ok {S : Sto} {a b : PySem.Str} {m n : Nat} (ha : Low a m) (hb : Low b n) (h : m + n ≤ 100000) : o2 .add S (wS a) (wS b) = some (wS (a ++ b)) := by
  rw [o_adds, if_pos]
  have h1 := ha.1
  have h2 := hb.1
  rw [← len_tl] at h1 h2
  have hlim : lim = 1000000 := rfl
  omega
theorem low_lit {t : PySem.Str} {n : Nat} (h : ((tl t).length ≤ n && (tl t).all (· < 1114112)) = true) : Low t n := by
  rw [Bool.and_eq_true, decide_eq_true_eq, List.all_eq_true] at h
  exact ⟨h.1, fun c hc => of_decide_eq_true (h.2 c hc)⟩
/-- words of a spot -/
theorem r_words (n : Nat) (S : Sto) (x y z w : Int) (hx : x.natAbs < 10 ^ 30) (hy : y.natAbs < 10 ^ 30) (hz : z.natAbs < 10 ^ 30) (hw : w.natAbs < 10 ^ 30) : (run kn T (n + 1)).run 10 [.d (t4 x y z w)] S = .ok (.d (.list ([NS x, NS y, NS z, NS w].map .str))) S := by
  refine run_at (fn := f_law_words) rfl rfl rfl ?_
  show fin S.length (exS _ b_law_words [some (.d (t4 x y z w)), none] S) = _
  have el := lc_mapP (S := S) (bt := fun w' S2 => bindT S2 (.tn 1) w' (wipeR [some (.d (t4 x y z w)), none] [1])) (tst := fun ρ' S2 => evT (run kn T n) .anil ρ' S2) (el := fun ρ' S2 => evE (run kn T n) (.bi .str_ (.acons (.var 1) .anil)) ρ' S2) (fun d => match d with | .int a => .str (NS a) | _ => .none) [.int x, .int y, .int z, .int w] (by show 4 ≤ 1000000; decide) (fun d hd => by
    have st : ∀ a : Int, a.natAbs < 10 ^ 30 → ∃ ρ, bindT S (.tn 1) (.d (.int a)) (wipeR [some (.d (t4 x y z w)), none] [1]) = some ρ ∧ evT (run kn T n) .anil ρ S = .ok true S ∧ evE (run kn T n) (.bi .str_ (.acons (.var 1) .anil)) ρ S = .ok (.d (.str (NS a))) S := fun a ga => by
      refine ⟨[some (.d (t4 x y z w)), some (wi a)], by simp [wipeR], rfl, ?_⟩
      simp only [s_scons, s_snil, s_asg, s_asgLc, s_par, s_aug, s_setix, s_ex, s_ret, s_retN, s_ift, s_brk, s_cnt, s_pss, s_rais, s_raisF, x_var, x_int, x_str, x_bl, x_non, x_gi, x_gs, x_o2, x_ch, x_neg, x_and, x_or, x_one, x_not, x_ife, x_tup, x_lst, x_call, x_bi, x_isi, x_mt, x_ix, x_sl, x_new, x_frz, x_anil, x_acons, x_nop, x_some, x_itE, x_itR, x_itN, x_itZ, x_tru, x_mkL, x_dnil, x_dcons, x_ofP, x_ofP2, x_fld, x_isK, t_tn, t_tt, t_tl, t_nil, t_cons, RS.ofO_some, R.bind_ok, R.bind_exc, R.ofO_some, R.st_ok, R.st_exc, List.getElem?_cons_succ, List.getElem?_cons_zero, List.length_cons, List.length_nil, Nat.reduceAdd, Nat.reduceLT, if_true, Bool.false_eq_true, if_false, Bool.not_true, Bool.not_false, List.set_cons_succ, List.set_cons_zero, Option.map_some, Option.bind_some, o_add, o_sub, o_lt, o_le, o_gt, o_ge, o_eqi, o_nei, o_eqs, o_nes, o_eqb, o_isb, o_isnb, o_isN, o_isnN, b_abs, b_lenl, b_lent, b_tupl, b_tupt, b_lstl, b_lstt, i_ixl, i_ixt, i_srcs, i_srcl, i_srct, i_srcN, g_none, leave_d, fin_nx, fin_rt, fin_exc, at_0, at_1, at_2, at_3, at_4, at_5, tupW1, tupW2, tupW3, tupW4, tupW5, lstW0, lstW1, lstW2, lstW3, lstW4, List.map_cons, List.map_nil, b_str, if_pos (log_small ga)]
    simp only [List.mem_cons, List.not_mem_nil, or_false] at hd
    rcases hd with rfl | rfl | rfl | rfl
    · exact st x hx
    · exact st y hy
    · exact st z hz
    · exact st w hw)
  unfold b_law_words
  simp only [List.map_cons, List.map_nil] at el
  simp only [s_scons, s_snil, s_asg, s_asgLc, s_par, s_aug, s_setix, s_ex, s_ret, s_retN, s_ift, s_brk, s_cnt, s_pss, s_rais, s_raisF, x_var, x_int, x_str, x_bl, x_non, x_gi, x_gs, x_o2, x_ch, x_neg, x_and, x_or, x_one, x_not, x_ife, x_tup, x_lst, x_call, x_bi, x_isi, x_mt, x_ix, x_sl, x_new, x_frz, x_anil, x_acons, x_nop, x_some, x_itE, x_itR, x_itN, x_itZ, x_tru, x_mkL, x_dnil, x_dcons, x_ofP, x_ofP2, x_fld, x_isK, t_tn, t_tt, t_tl, t_nil, t_cons, RS.ofO_some, R.bind_ok, R.bind_exc, R.ofO_some, R.st_ok, R.st_exc, List.getElem?_cons_succ, List.getElem?_cons_zero, List.length_cons, List.length_nil, Nat.reduceAdd, Nat.reduceLT, if_true, Bool.false_eq_true, if_false, Bool.not_true, Bool.not_false, List.set_cons_succ, List.set_cons_zero, Option.map_some, Option.bind_some, o_add, o_sub, o_lt, o_le, o_gt, o_ge, o_eqi, o_nei, o_eqs, o_nes, o_eqb, o_isb, o_isnb, o_isN, o_isnN, b_abs, b_lenl, b_lent, b_tupl, b_tupt, b_lstl, b_lstt, i_ixl, i_ixt, i_srcs, i_srcl, i_srct, i_srcN, g_none, leave_d, fin_nx, fin_rt, fin_exc, at_0, at_1, at_2, at_3, at_4, at_5, tupW1, tupW2, tupW3, tupW4, tupW5, lstW0, lstW1, lstW2, lstW3, lstW4, List.map_cons, List.map_nil, x_lc, el, List.take_length]
theorem r_joined (n : Nat) (S : Sto) (a b c d : PySem.Str) (ha : Low a 100) (hb : Low b 100) (hc : Low c 100) (hd : Low d 100) : (run kn T (n + 1)).run 11 [.d (.list ([a, b, c, d].map .str))] S = .ok (wS (txt [a, b, c] (if d = Str.ofString "1" then none else some d))) S := by
  refine run_at (fn := f_law_joined) rfl rfl rfl ?_
  show fin S.length (exS _ b_law_joined [some (.d (.list [.str a, .str b, .str c, .str d]))] S) = _
  have c3 : cutG [PyData.str a, .str b, .str c, .str d] none (some 3) = [a, b, c].map .str := rfl
  have hlow : ∀ p ∈ [a, b, c], Low p 100 := fun p hp => by
    simp only [List.mem_cons, List.not_mem_nil, or_false] at hp
    rcases hp with rfl | rfl | rfl <;> assumption
  have ej := join_M (S := S) hlow (by show 3 * 101 ≤ 100000; decide)
  simp only [List.map_cons, List.map_nil] at ej c3
  have lj : Low (Txt.join (Str.ofString ",") [a, b, c]) 303 := low_join hlow
  have ls : Low (Str.ofString "/") 1 := low_lit (by decide +kernel)
  have a1 := adds_ok (S := S) lj ls (by decide)
  have a2 := adds_ok (S := S) (lj.app ls) hd (by decide)
  have hq : (d == Str.ofString "1") = decide (d = Str.ofString "1") := by
    rw [Bool.eq_iff_iff, beq_iff_eq, decide_eq_true_eq]
  unfold b_law_joined
  by_cases h1 : d = Str.ofString "1"
  · simp only [s_scons, s_snil, s_asg, s_asgLc, s_par, s_aug, s_setix, s_ex, s_ret, s_retN, s_ift, s_brk, s_cnt, s_pss, s_rais, s_raisF, x_var, x_int, x_str, x_bl, x_non, x_gi, x_gs, x_o2, x_ch, x_neg, x_and, x_or, x_one, x_not, x_ife, x_tup, x_lst, x_call, x_bi, x_isi, x_mt, x_ix, x_sl, x_new, x_frz, x_anil, x_acons, x_nop, x_some, x_itE, x_itR, x_itN, x_itZ, x_tru, x_mkL, x_dnil, x_dcons, x_ofP, x_ofP2, x_fld, x_isK, t_tn, t_tt, t_tl, t_nil, t_cons, RS.ofO_some, R.bind_ok, R.bind_exc, R.ofO_some, R.st_ok, R.st_exc, List.getElem?_cons_succ, List.getElem?_cons_zero, List.length_cons, List.length_nil, Nat.reduceAdd, Nat.reduceLT, if_true, Bool.false_eq_true, if_false, Bool.not_true, Bool.not_false, List.set_cons_succ, List.set_cons_zero, Option.map_some, Option.bind_some, o_add, o_sub, o_lt, o_le, o_gt, o_ge, o_eqi, o_nei, o_eqs, o_nes, o_eqb, o_isb, o_isnb, o_isN, o_isnN, b_abs, b_lenl, b_lent, b_tupl, b_tupt, b_lstl, b_lstt, i_ixl, i_ixt, i_srcs, i_srcl, i_srct, i_srcN, g_none, leave_d, fin_nx, fin_rt, fin_exc, at_0, at_1, at_2, at_3, at_4, at_5, tupW1, tupW2, tupW3, tupW4, tupW5, lstW0, lstW1, lstW2, lstW3, lstW4, List.map_cons, List.map_nil, hq, decide_eq_true h1, if_pos h1, join_ty, i_sll, c3, ej, List.take_length]
    rfl
  · simp only [s_scons, s_snil, s_asg, s_asgLc, s_par, s_aug, s_setix, s_ex, s_ret, s_retN, s_ift, s_brk, s_cnt, s_pss, s_rais, s_raisF, x_var, x_int, x_str, x_bl, x_non, x_gi, x_gs, x_o2, x_ch, x_neg, x_and, x_or, x_one, x_not, x_ife, x_tup, x_lst, x_call, x_bi, x_isi, x_mt, x_ix, x_sl, x_new, x_frz, x_anil, x_acons, x_nop, x_some, x_itE, x_itR, x_itN, x_itZ, x_tru, x_mkL, x_dnil, x_dcons, x_ofP, x_ofP2, x_fld, x_isK, t_tn, t_tt, t_tl, t_nil, t_cons, RS.ofO_some, R.bind_ok, R.bind_exc, R.ofO_some, R.st_ok, R.st_exc, List.getElem?_cons_succ, List.getElem?_cons_zero, List.length_cons, List.length_nil, Nat.reduceAdd, Nat.reduceLT, if_true, Bool.false_eq_true, if_false, Bool.not_true, Bool.not_false, List.set_cons_succ, List.set_cons_zero, Option.map_some, Option.bind_some, o_add, o_sub, o_lt, o_le, o_gt, o_ge, o_eqi, o_nei, o_eqs, o_nes, o_eqb, o_isb, o_isnb, o_isN, o_isnN, b_abs, b_lenl, b_lent, b_tupl, b_tupt, b_lstl, b_lstt, i_ixl, i_ixt, i_srcs, i_srcl, i_srct, i_srcN, g_none, leave_d, fin_nx, fin_rt, fin_exc, at_0, at_1, at_2, at_3, at_4, at_5, tupW1, tupW2, tupW3, tupW4, tupW5, lstW0, lstW1, lstW2, lstW3, lstW4, List.map_cons, List.map_nil, hq, decide_eq_false h1, if_neg h1]
    unfold r_law_joined_0
    simp only [s_scons, s_snil, s_asg, s_asgLc, s_par, s_aug, s_setix, s_ex, s_ret, s_retN, s_ift, s_brk, s_cnt, s_pss, s_rais, s_raisF, x_var, x_int, x_str, x_bl, x_non, x_gi, x_gs, x_o2, x_ch, x_neg, x_and, x_or, x_one, x_not, x_ife, x_tup, x_lst, x_call, x_bi, x_isi, x_mt, x_ix, x_sl, x_new, x_frz, x_anil, x_acons, x_nop, x_some, x_itE, x_itR, x_itN, x_itZ, x_tru, x_mkL, x_dnil, x_dcons, x_ofP, x_ofP2, x_fld, x_isK, t_tn, t_tt, t_tl, t_nil, t_cons, RS.ofO_some, R.bind_ok, R.bind_exc, R.ofO_some, R.st_ok, R.st_exc, List.getElem?_cons_succ, List.getElem?_cons_zero, List.length_cons, List.length_nil, Nat.reduceAdd, Nat.reduceLT, if_true, Bool.false_eq_true, if_false, Bool.not_true, Bool.not_false, List.set_cons_succ, List.set_cons_zero, Option.map_some, Option.bind_some, o_add, o_sub, o_lt, o_le, o_gt, o_ge, o_eqi, o_nei, o_eqs, o_nes, o_eqb, o_isb, o_isnb, o_isN, o_isnN, b_abs, b_lenl, b_lent, b_tupl, b_tupt, b_lstl, b_lstt, i_ixl, i_ixt, i_srcs, i_srcl, i_srct, i_srcN, g_none, leave_d, fin_nx, fin_rt, fin_exc, at_0, at_1, at_2, at_3, at_4, at_5, tupW1, tupW2, tupW3, tupW4, tupW5, lstW0, lstW1, lstW2, lstW3, lstW4, List.map_cons, List.map_nil, join_ty, i_sll, c3, ej, a1, a2, List.take_length]
    rfl
/-! ### a bad word -/
def BadU (u : PySem.Str) : Prop := ((Free u ∧ wholeD (tl u) = none) ∨ ∃ f, u = f ++ Str.ofString "," ∧ Free f) ∧ Low u 64
theorem badU_lit {u : PySem.Str} (h : (!(tl u).contains 44 && (!(tl u).contains 47 && (decide (wholeD (tl u) = none) && ((tl u).length ≤ 64 && (tl u).all (· < 1114112))))) = true) : BadU u := by
  simp only [Bool.and_eq_true, Bool.not_eq_true', decide_eq_true_eq] at h
  obtain ⟨h1, h2, h3, h4⟩ := h
  exact ⟨.inl ⟨⟨by simpa using h1, by simpa using h2⟩, h3⟩, low_lit (by rw [Bool.and_eq_true]; exact ⟨decide_eq_true h4.1, h4.2⟩)⟩
def repl (s : PySem.Str) (k : Nat) : PySem.Str := repS s k
def words0 : List PySem.Str := [Str.ofString "-0", repS (Str.ofString "1") 31, Str.ofString "", Str.ofString "-", Str.ofString "-1" ++ repS (Str.ofString "0") 30, Str.ofString "00", Str.ofString "- 1"]
def words1 (f : PySem.Str) : List PySem.Str := [Str.ofString "0" ++ f, Str.ofString "+" ++ f, Str.ofString "--" ++ f, Str.ofString " " ++ f]
def words2 (f : PySem.Str) : List PySem.Str := [f ++ Str.ofString "a", f ++ Str.ofString ".0", f ++ Str.ofString " ", f ++ Str.ofString ","]
theorem free_app {a b : PySem.Str} (ha : Free a) (hb : Free b) : Free (a ++ b) := by
  unfold Free at *
  rw [tl_append]
  simp only [List.mem_append, not_or]
  exact ⟨⟨ha.1, hb.1⟩, ha.2, hb.2⟩
theorem free_lit {t : PySem.Str} (h : (!(tl t).contains 44 && !(tl t).contains 47) = true) : Free t := by
  simp only [Bool.and_eq_true, Bool.not_eq_true'] at h
  exact ⟨by simpa using h.1, by simpa using h.2⟩
theorem words_bad {x : Int} (hx : x.natAbs < 10 ^ 30) (h0 : 0 ≤ x) : ∀ u ∈ words0 ++ words1 (NS x) ++ words2 (NS x), BadU u := by
  have fx := NS_free x
  have lx := low_NS hx
  have ex : tl (NS x) = numL x.natAbs := by
    rw [tl_NS]
    unfold tx
    rw [if_neg (by omega)]
  have ne := numL_ne x.natAbs
  have bs : ∀ {u : PySem.Str} (c : Nat), Free u → c ∈ tl u → c ≠ 45 → dig c = false → Low u 64 → BadU u := fun c hf hc h45 hd hl => ⟨.inl ⟨hf, bad_sign hc h45 hd⟩, hl⟩
  have fl : ∀ s : String, Free (Str.ofString s) → Low (Str.ofString s) 2 → (Free (Str.ofString s ++ NS x) ∧ Low (Str.ofString s ++ NS x) 64) ∧ (Free (NS x ++ Str.ofString s) ∧ Low (NS x ++ Str.ofString s) 64) := fun s h1 h2 =>
    ⟨⟨free_app h1 fx, (h2.app lx).mono (by decide)⟩, free_app fx h1, (lx.app h2).mono (by decide)⟩
  intro u hu
  simp only [words0, words1, words2, List.cons_append, List.nil_append, List.mem_cons, List.not_mem_nil, or_false] at hu
  rcases hu with rfl | rfl | rfl | rfl | rfl | rfl | rfl | rfl | rfl | rfl | rfl | rfl | rfl | rfl | rfl
  · exact badU_lit (by decide +kernel)
  · exact badU_lit (by decide +kernel)
  · exact badU_lit (by decide +kernel)
  · exact badU_lit (by decide +kernel)
  · exact badU_lit (by decide +kernel)
  · exact badU_lit (by decide +kernel)
  · exact badU_lit (by decide +kernel)
  · obtain ⟨⟨f1, f2⟩, _⟩ := fl "0" (free_lit (by decide +kernel)) (low_lit (by decide +kernel))
    refine ⟨.inl ⟨f1, ?_⟩, f2⟩
    have e0 : tl (Str.ofString "0") = [48] := by decide +kernel
    rw [tl_append, e0, ex]
    show wholeD (48 :: numL x.natAbs) = none
    unfold wholeD
    split
    · split
      · rw [if_pos]
        refine ⟨rfl, fun z => ne ?_⟩
        simpa using z
      · rfl
    · rfl
  · obtain ⟨⟨f1, f2⟩, _⟩ := fl "+" (free_lit (by decide +kernel)) (low_lit (by decide +kernel))
    exact bs 43 f1 (by rw [tl_append]; exact List.mem_append_left _ (by decide +kernel)) (by decide) (by decide) f2
  · obtain ⟨⟨f1, f2⟩, _⟩ := fl "--" (free_lit (by decide +kernel)) (low_lit (by decide +kernel))
    refine ⟨.inl ⟨f1, ?_⟩, f2⟩
    have e0 : tl (Str.ofString "--") = [45, 45] := by decide +kernel
    rw [tl_append, e0]
    show wholeD (45 :: 45 :: tl (NS x)) = none
    unfold wholeD
    split
    · rw [if_neg]
      intro z
      have := List.all_eq_true.mp z 45 (List.mem_cons_self ..)
      cases this
    · rfl
  · obtain ⟨⟨f1, f2⟩, _⟩ := fl " " (free_lit (by decide +kernel)) (low_lit (by decide +kernel))
    exact bs 32 f1 (by rw [tl_append]; exact List.mem_append_left _ (by decide +kernel)) (by decide) (by decide) f2
  · obtain ⟨_, f1, f2⟩ := fl "a" (free_lit (by decide +kernel)) (low_lit (by decide +kernel))
    exact bs 97 f1 (by rw [tl_append]; exact List.mem_append_right _ (by decide +kernel)) (by decide) (by decide) f2
  · obtain ⟨_, f1, f2⟩ := fl ".0" (free_lit (by decide +kernel)) (low_lit (by decide +kernel))
    exact bs 46 f1 (by rw [tl_append]; exact List.mem_append_right _ (by decide +kernel)) (by decide) (by decide) f2
  · obtain ⟨_, f1, f2⟩ := fl " " (free_lit (by decide +kernel)) (low_lit (by decide +kernel))
    exact bs 32 f1 (by rw [tl_append]; exact List.mem_append_right _ (by decide +kernel)) (by decide) (by decide) f2
  · exact ⟨.inr ⟨NS x, rfl, fx⟩, (lx.app (low_lit (n := 1) (by decide +kernel))).mono (by decide)⟩
theorem r_bad (n : Nat) (S : Sto) (p : Nat) (v x : Int) (hp : S[p]? = some (cellM v)) (hx : x.natAbs < 10 ^ 30) : ∃ u v', (run kn T (n + 2)).run 12 [.ptr p, wi x] S = .ok (wS u) (S.set p (cellM v')) ∧ BadU u := by
  have hpl : p < S.length := (List.getElem?_eq_some_iff.mp hp).1
  have ha : (if x < 0 then -x else x) = ((x.natAbs : Nat) : Int) := by split <;> omega
  generalize hf : NS ((x.natAbs : Nat) : Int) = f
  have hxa : (((x.natAbs : Nat) : Int)).natAbs < 10 ^ 30 := by simpa using hx
  have hbad : ∀ u ∈ words0 ++ words1 f ++ words2 f, BadU u := by
    rw [← hf]
    exact words_bad hxa (by omega)
  have lf : Low f 31 := by
    rw [← hf]
    exact low_NS hxa
  have h15 : (words0 ++ words1 f ++ words2 f).length = 15 := rfl
  obtain ⟨b0, b1⟩ := fmod_nn (a := v) (b := 15) (by decide)
  obtain ⟨u, hu, eu⟩ := pick (xs := words0 ++ words1 f ++ words2 f) (i := v.fmod 15) b0 (by rw [h15]; exact b1)
  refine ⟨u, v.fdiv 15, run_at (fn := f_law_bad_word) rfl rfl rfl ?_, hbad u hu⟩
  show fin S.length (exS _ b_law_bad_word [some (.ptr p), some (wi x), none, none, none] S) = _
  have m1 : o2 .mul S (wS (Str.ofString "1")) (wi 31) = some (wS (repS (Str.ofString "1") 31)) := by
    rw [o_muls, if_pos (by decide +kernel)]
    rfl
  have m2 : o2 .mul S (wS (Str.ofString "0")) (wi 30) = some (wS (repS (Str.ofString "0") 30)) := by
    rw [o_muls, if_pos (by decide +kernel)]
    rfl
  have m3 : o2 .add S (wS (Str.ofString "-1")) (wS (repS (Str.ofString "0") 30)) = some (wS (Str.ofString "-1" ++ repS (Str.ofString "0") 30)) := adds_ok (m := 64) (n := 64) (low_lit (by decide +kernel)) (low_lit (by decide +kernel)) (by decide)
  have l0 : lstW (words0.map .str) = some (.d (.list (words0.map .str))) := lstW_ok (by decide)
  generalize hS1 : S ++ [MO.lst (words0.map .str)] = S1
  have g1 : S1[S.length]? = some (.lst (words0.map .str)) := by rw [← hS1]; exact get_last
  have e1 := lc_mapP (S := S1) (bt := fun w' S2 => bindT S2 (.tn 4) w' (wipeR [some (.ptr p), some (wi x), some (wS f), some (.ptr S.length), none] [4])) (tst := fun ρ' S2 => evT (run kn T (n + 1)) .anil ρ' S2) (el := fun ρ' S2 => evE (run kn T (n + 1)) (.o2 .add (.var 4) (.var 2)) ρ' S2) (fun d => match d with | .str a => .str (a ++ f) | _ => .none) ([Str.ofString "0", Str.ofString "+", Str.ofString "--", Str.ofString " "].map .str) (by decide) (fun d hd => by
    obtain ⟨a, ha, rfl⟩ := List.mem_map.mp hd
    refine ⟨[some (.ptr p), some (wi x), some (wS f), some (.ptr S.length), some (wS a)], by simp [wipeR], rfl, ?_⟩
    have la : Low a 2 := by
      simp only [List.mem_cons, List.not_mem_nil, or_false] at ha
      rcases ha with rfl | rfl | rfl | rfl <;> exact low_lit (by decide +kernel)
    simp only [s_scons, s_snil, s_asg, s_asgLc, s_par, s_aug, s_setix, s_ex, s_ret, s_retN, s_ift, s_brk, s_cnt, s_pss, s_rais, s_raisF, x_var, x_int, x_str, x_bl, x_non, x_gi, x_gs, x_o2, x_ch, x_neg, x_and, x_or, x_one, x_not, x_ife, x_tup, x_lst, x_call, x_bi, x_isi, x_mt, x_ix, x_sl, x_new, x_frz, x_anil, x_acons, x_nop, x_some, x_itE, x_itR, x_itN, x_itZ, x_tru, x_mkL, x_dnil, x_dcons, x_ofP, x_ofP2, x_fld, x_isK, t_tn, t_tt, t_tl, t_nil, t_cons, RS.ofO_some, R.bind_ok, R.bind_exc, R.ofO_some, R.st_ok, R.st_exc, List.getElem?_cons_succ, List.getElem?_cons_zero, List.length_cons, List.length_nil, Nat.reduceAdd, Nat.reduceLT, if_true, Bool.false_eq_true, if_false, Bool.not_true, Bool.not_false, List.set_cons_succ, List.set_cons_zero, Option.map_some, Option.bind_some, o_add, o_sub, o_lt, o_le, o_gt, o_ge, o_eqi, o_nei, o_eqs, o_nes, o_eqb, o_isb, o_isnb, o_isN, o_isnN, b_abs, b_lenl, b_lent, b_tupl, b_tupt, b_lstl, b_lstt, i_ixl, i_ixt, i_srcs, i_srcl, i_srct, i_srcN, g_none, leave_d, fin_nx, fin_rt, fin_exc, at_0, at_1, at_2, at_3, at_4, at_5, tupW1, tupW2, tupW3, tupW4, tupW5, lstW0, lstW1, lstW2, lstW3, lstW4, List.map_cons, List.map_nil, adds_ok la lf (by decide)])
  have x1 := ext_M (ys := (words1 f).map .str) g1 (by show 7 + 4 ≤ 1000000; decide)
  generalize hS2 : S1.set S.length (.lst (words0.map .str ++ (words1 f).map .str)) = S2 at x1
  have g2 : S2[S.length]? = some (.lst (words0.map .str ++ (words1 f).map .str)) := by rw [← hS2]; exact get_set g1
  have e2 := lc_mapP (S := S2) (bt := fun w' S2 => bindT S2 (.tn 4) w' (wipeR [some (.ptr p), some (wi x), some (wS f), some (.ptr S.length), none] [4])) (tst := fun ρ' S2 => evT (run kn T (n + 1)) .anil ρ' S2) (el := fun ρ' S2 => evE (run kn T (n + 1)) (.o2 .add (.var 2) (.var 4)) ρ' S2) (fun d => match d with | .str a => .str (f ++ a) | _ => .none) ([Str.ofString "a", Str.ofString ".0", Str.ofString " ", Str.ofString ","].map .str) (by decide) (fun d hd => by
    obtain ⟨a, ha, rfl⟩ := List.mem_map.mp hd
    refine ⟨[some (.ptr p), some (wi x), some (wS f), some (.ptr S.length), some (wS a)], by simp [wipeR], rfl, ?_⟩
    have la : Low a 2 := by
      simp only [List.mem_cons, List.not_mem_nil, or_false] at ha
      rcases ha with rfl | rfl | rfl | rfl <;> exact low_lit (by decide +kernel)
    simp only [s_scons, s_snil, s_asg, s_asgLc, s_par, s_aug, s_setix, s_ex, s_ret, s_retN, s_ift, s_brk, s_cnt, s_pss, s_rais, s_raisF, x_var, x_int, x_str, x_bl, x_non, x_gi, x_gs, x_o2, x_ch, x_neg, x_and, x_or, x_one, x_not, x_ife, x_tup, x_lst, x_call, x_bi, x_isi, x_mt, x_ix, x_sl, x_new, x_frz, x_anil, x_acons, x_nop, x_some, x_itE, x_itR, x_itN, x_itZ, x_tru, x_mkL, x_dnil, x_dcons, x_ofP, x_ofP2, x_fld, x_isK, t_tn, t_tt, t_tl, t_nil, t_cons, RS.ofO_some, R.bind_ok, R.bind_exc, R.ofO_some, R.st_ok, R.st_exc, List.getElem?_cons_succ, List.getElem?_cons_zero, List.length_cons, List.length_nil, Nat.reduceAdd, Nat.reduceLT, if_true, Bool.false_eq_true, if_false, Bool.not_true, Bool.not_false, List.set_cons_succ, List.set_cons_zero, Option.map_some, Option.bind_some, o_add, o_sub, o_lt, o_le, o_gt, o_ge, o_eqi, o_nei, o_eqs, o_nes, o_eqb, o_isb, o_isnb, o_isN, o_isnN, b_abs, b_lenl, b_lent, b_tupl, b_tupt, b_lstl, b_lstt, i_ixl, i_ixt, i_srcs, i_srcl, i_srct, i_srcN, g_none, leave_d, fin_nx, fin_rt, fin_exc, at_0, at_1, at_2, at_3, at_4, at_5, tupW1, tupW2, tupW3, tupW4, tupW5, lstW0, lstW1, lstW2, lstW3, lstW4, List.map_cons, List.map_nil, adds_ok lf la (by decide)])
  have x2 := ext_M (ys := (words2 f).map .str) g2 (by show 11 + 4 ≤ 1000000; decide)
  generalize hS3 : S2.set S.length (.lst (words0.map .str ++ (words1 f).map .str ++ (words2 f).map .str)) = S3 at x2
  have g3 : S3[S.length]? = some (.lst ((words0 ++ words1 f ++ words2 f).map .str)) := by
    rw [← hS3, List.map_append, List.map_append]
    exact get_set g2
  have eS3 : S3 = S ++ [.lst ((words0 ++ words1 f ++ words2 f).map .str)] := by
    rw [← hS3, ← hS2, ← hS1, set_last, set_last, List.map_append, List.map_append]
  have hp3 : S3[p]? = some (cellM v) := by
    rw [eS3, List.getElem?_append_left hpl]
    exact hp
  have en := r_next n S3 p v 15 hp3 (by decide) (by decide)
  have hlen := len_ptr g3
  rw [List.length_map, h15] at hlen
  have g4 : (S3.set p (cellM (v.fdiv 15)))[S.length]? = some (.lst ((words0 ++ words1 f ++ words2 f).map .str)) := by
    rw [List.getElem?_set_ne (by omega)]
    exact g3
  have hix : ixW (S3.set p (cellM (v.fdiv 15))) (.ptr S.length) (wi (v.fmod 15)) = some (wS u) := by
    rw [ix_ptr g4, eu]
    rfl
  have hend : (S3.set p (cellM (v.fdiv 15))).take S.length = S.set p (cellM (v.fdiv 15)) := by
    rw [eS3, List.set_append_left _ _ hpl]
    exact List.take_left' (by rw [List.length_set])
  have hl15 : ((15 : Nat) : Int) = 15 := rfl
  rw [hl15] at hlen
  unfold b_law_bad_word
  have ww : words0.map PyData.str = [.str (Str.ofString "-0"), .str (repS (Str.ofString "1") 31), .str (Str.ofString ""), .str (Str.ofString "-"), .str (Str.ofString "-1" ++ repS (Str.ofString "0") 30), .str (Str.ofString "00"), .str (Str.ofString "- 1")] := rfl
  have w1 : ([Str.ofString "0", Str.ofString "+", Str.ofString "--", Str.ofString " "].map PyData.str).map (fun d => match d with | .str a => PyData.str (a ++ f) | _ => .none) = (words1 f).map .str := rfl
  have w2 : ([Str.ofString "a", Str.ofString ".0", Str.ofString " ", Str.ofString ","].map PyData.str).map (fun d => match d with | .str a => PyData.str (f ++ a) | _ => .none) = (words2 f).map .str := rfl
  rw [w1] at e1
  rw [w2] at e2
  rw [ww] at l0 hS1
  simp only [List.map_cons, List.map_nil] at e1 e2
  simp only [s_scons, s_snil, s_asg, s_asgLc, s_par, s_aug, s_setix, s_ex, s_ret, s_retN, s_ift, s_brk, s_cnt, s_pss, s_rais, s_raisF, x_var, x_int, x_str, x_bl, x_non, x_gi, x_gs, x_o2, x_ch, x_neg, x_and, x_or, x_one, x_not, x_ife, x_tup, x_lst, x_call, x_bi, x_isi, x_mt, x_ix, x_sl, x_new, x_frz, x_anil, x_acons, x_nop, x_some, x_itE, x_itR, x_itN, x_itZ, x_tru, x_mkL, x_dnil, x_dcons, x_ofP, x_ofP2, x_fld, x_isK, t_tn, t_tt, t_tl, t_nil, t_cons, RS.ofO_some, R.bind_ok, R.bind_exc, R.ofO_some, R.st_ok, R.st_exc, List.getElem?_cons_succ, List.getElem?_cons_zero, List.length_cons, List.length_nil, Nat.reduceAdd, Nat.reduceLT, if_true, Bool.false_eq_true, if_false, Bool.not_true, Bool.not_false, List.set_cons_succ, List.set_cons_zero, Option.map_some, Option.bind_some, o_add, o_sub, o_lt, o_le, o_gt, o_ge, o_eqi, o_nei, o_eqs, o_nes, o_eqb, o_isb, o_isnb, o_isN, o_isnN, b_abs, b_lenl, b_lent, b_tupl, b_tupt, b_lstl, b_lstt, i_ixl, i_ixt, i_srcs, i_srcl, i_srct, i_srcN, g_none, leave_d, fin_nx, fin_rt, fin_exc, at_0, at_1, at_2, at_3, at_4, at_5, tupW1, tupW2, tupW3, tupW4, tupW5, lstW0, lstW1, lstW2, lstW3, lstW4, List.map_cons, List.map_nil, ha, b_str, if_pos (log_small hxa), hf]
  simp only [s_scons, s_snil, s_asg, s_asgLc, s_par, s_aug, s_setix, s_ex, s_ret, s_retN, s_ift, s_brk, s_cnt, s_pss, s_rais, s_raisF, x_var, x_int, x_str, x_bl, x_non, x_gi, x_gs, x_o2, x_ch, x_neg, x_and, x_or, x_one, x_not, x_ife, x_tup, x_lst, x_call, x_bi, x_isi, x_mt, x_ix, x_sl, x_new, x_frz, x_anil, x_acons, x_nop, x_some, x_itE, x_itR, x_itN, x_itZ, x_tru, x_mkL, x_dnil, x_dcons, x_ofP, x_ofP2, x_fld, x_isK, t_tn, t_tt, t_tl, t_nil, t_cons, RS.ofO_some, R.bind_ok, R.bind_exc, R.ofO_some, R.st_ok, R.st_exc, List.getElem?_cons_succ, List.getElem?_cons_zero, List.length_cons, List.length_nil, Nat.reduceAdd, Nat.reduceLT, if_true, Bool.false_eq_true, if_false, Bool.not_true, Bool.not_false, List.set_cons_succ, List.set_cons_zero, Option.map_some, Option.bind_some, o_add, o_sub, o_lt, o_le, o_gt, o_ge, o_eqi, o_nei, o_eqs, o_nes, o_eqb, o_isb, o_isnb, o_isN, o_isnN, b_abs, b_lenl, b_lent, b_tupl, b_tupt, b_lstl, b_lstt, i_ixl, i_ixt, i_srcs, i_srcl, i_srct, i_srcN, g_none, leave_d, fin_nx, fin_rt, fin_exc, at_0, at_1, at_2, at_3, at_4, at_5, tupW1, tupW2, tupW3, tupW4, tupW5, lstW0, lstW1, lstW2, lstW3, lstW4, List.map_cons, List.map_nil, m1, m2, m3, l0, hS1, ext_ty g1, x_lc, e1, x1, ext_ty g2, e2, x2, hlen, en, hix, hend]
end My

namespace My
open PySem Mi TL
/-! ### every spoilt text is bad -/
theorem tl_txt3 (a b c : PySem.Str) : tl (txt [a, b, c] none) = tl a ++ 44 :: (tl b ++ 44 :: tl c) := by
  show tl (Txt.join _ _) = _
  rw [join_eq, tl_join, comma_tl]
  rfl
theorem tl_txt3s (a b c d : PySem.Str) : tl (txt [a, b, c] (some d)) = tl a ++ 44 :: (tl b ++ 44 :: tl c) ++ 47 :: tl d := by
  show tl (Txt.join _ _ ++ _ ++ _) = _
  rw [tl_append, tl_append, show tl (Txt.join (Str.ofString ",") [a, b, c]) = _ from tl_txt3 a b c, slash_tl]
  simp
theorem pre_txt (s a b c : PySem.Str) (d : Option PySem.Str) : s ++ txt [a, b, c] d = txt [s ++ a, b, c] d := by
  refine ext_tl ?_
  cases d with
  | none => rw [tl_append, tl_txt3, tl_txt3, tl_append, List.append_assoc]
  | some d => rw [tl_append, tl_txt3s, tl_txt3s, tl_append]; simp
theorem post_none (s a b c : PySem.Str) : txt [a, b, c] none ++ s = txt [a, b, c ++ s] none := by
  refine ext_tl ?_
  rw [tl_append, tl_txt3, tl_txt3, tl_append]
  simp
theorem post_some (s a b c d : PySem.Str) : txt [a, b, c] (some d) ++ s = txt [a, b, c] (some (d ++ s)) := by
  refine ext_tl ?_
  rw [tl_append, tl_txt3s, tl_txt3s, tl_append]
  simp
theorem low_txt3 {a b c : PySem.Str} {d : Option PySem.Str} {m : Nat} (ha : Low a m) (hb : Low b m) (hc : Low c m) (hd : ∀ e, d = some e → Low e m) : Low (txt [a, b, c] d) (4 * m + 4) := by
  have l3 : Low (Txt.join (Str.ofString ",") [a, b, c]) (3 * (m + 1)) := low_join fun p hp => by
    simp only [List.mem_cons, List.not_mem_nil, or_false] at hp
    rcases hp with rfl | rfl | rfl <;> assumption
  cases d with
  | none => exact l3.mono (by omega)
  | some e => exact ((l3.app (low_lit (n := 1) (by decide +kernel))).app (hd e rfl)).mono (by omega)
theorem mem3 {P : PySem.Str → Prop} {a b c : PySem.Str} (ha : P a) (hb : P b) (hc : P c) : ∀ p ∈ [a, b, c], P p := fun p hp => by
  simp only [List.mem_cons, List.not_mem_nil, or_false] at hp
  rcases hp with rfl | rfl | rfl <;> assumption
theorem bad_num {a b c : PySem.Str} {d : PySem.Str} (ha : Free a) (hb : Free b) (hc : Free c) (hw : Wd (txt [a, b, c] (some d))) {i : Int} (hd : wholeD (tl d) = some i) (hi : i ≤ 1) : Bad (txt [a, b, c] (some d)) := by
  refine ⟨?_, hw⟩
  rw [spot_txt (by simp) (mem3 ha hb hc)]
  show spotOf _ (wholeD (tl d)) true = .none
  rw [hd]
  unfold spotOf
  split
  · rename_i x y z w h1 h2
    cases h2
    by_cases h : i < 1
    · rw [if_pos h]
    · rw [if_neg h, if_pos ⟨rfl, by omega⟩]
  · rfl
theorem emp_free : Free (Str.ofString "") := free_lit (by decide +kernel)
theorem emp_tl : tl (Str.ofString "") = [] := by decide +kernel
/-- one word of three is bad -/
theorem bad_at {u : PySem.Str} (h : BadU u) {a b : PySem.Str} {d : Option PySem.Str} (fa : Free a) (fb : Free b) (la : Low a 64) (lb : Low b 64) (ld : ∀ e, d = some e → Low e 64) : Bad (txt [u, a, b] d) ∧ Bad (txt [a, u, b] d) ∧ Bad (txt [a, b, u] d) := by
  obtain ⟨hu, lu⟩ := h
  have w1 : Wd (txt [u, a, b] d) := (low_txt3 lu la lb ld).wd (by decide)
  have w2 : Wd (txt [a, u, b] d) := (low_txt3 la lu lb ld).wd (by decide)
  have w3 : Wd (txt [a, b, u] d) := (low_txt3 la lb lu ld).wd (by decide)
  rcases hu with ⟨fu, hn⟩ | ⟨f, rfl, ff⟩
  · exact ⟨bad_part (mem3 fu fa fb) w1 (p := u) (by simp) hn, bad_part (mem3 fa fu fb) w2 (p := u) (by simp) hn, bad_part (mem3 fa fb fu) w3 (p := u) (by simp) hn⟩
  · have ej : ∀ ps qs : List PySem.Str, joinL [44] (ps.map tl) = joinL [44] (qs.map tl) → ∀ d, txt ps d = txt qs d := fun ps qs h d => by
      have : Txt.join (Str.ofString ",") ps = Txt.join (Str.ofString ",") qs := ext_tl (by rw [join_eq, join_eq, tl_join, tl_join, comma_tl, h])
      unfold txt
      rw [this]
    have e1 := ej [f ++ Str.ofString ",", a, b] [f, Str.ofString "", a, b] (by simp [joinL, tl_append, comma_tl, emp_tl]) d
    have e2 := ej [a, f ++ Str.ofString ",", b] [a, f, Str.ofString "", b] (by simp [joinL, tl_append, comma_tl, emp_tl]) d
    have e3 := ej [a, b, f ++ Str.ofString ","] [a, b, f, Str.ofString ""] (by simp [joinL, tl_append, comma_tl, emp_tl]) d
    rw [e1] at w1 ⊢
    rw [e2] at w2 ⊢
    rw [e3] at w3 ⊢
    refine ⟨bad_len (by simp) (fun p hp => ?_) w1 (by simp), bad_len (by simp) (fun p hp => ?_) w2 (by simp), bad_len (by simp) (fun p hp => ?_) w3 (by simp)⟩ <;>
      (simp only [List.mem_cons, List.not_mem_nil, or_false] at hp; rcases hp with rfl | rfl | rfl | rfl <;> first | assumption | exact emp_free)
section
variable {x y z w : Int}
theorem gcd4_even (x y z w : Int) : gcd4 (2 * x) (2 * y) (2 * z) (2 * w) ≠ 1 := by
  have h : 2 ∣ gcd4 (2 * x) (2 * y) (2 * z) (2 * w) := by
    have d : ∀ a : Int, 2 ∣ (2 * a).natAbs := fun a => by rw [Int.natAbs_mul]; exact Nat.dvd_mul_right ..
    exact Nat.dvd_gcd (Nat.dvd_gcd (d _) (d _)) (Nat.dvd_gcd (d _) (d _))
  intro e
  rw [e] at h
  revert h
  decide
/-- the spoilt texts -/
def L0 (jb text : PySem.Str) (x y z w : Int) : List PySem.Str := [jb, txt [NS x, NS y] none, txt [NS (2 * x), NS (2 * y), NS (2 * z)] (some (NS (2 * w))), Str.ofString "1,1,1/2/3", Str.ofString "(" ++ text ++ Str.ofString ")", Str.ofString ""]
def L1 : List PySem.Str := [Str.ofString "/2", Str.ofString ",,", Str.ofString "1,1,1/02", Str.ofString "1,1,1/+2", Str.ofString "1,1,1/" ++ repS (Str.ofString "2") 31, Str.ofString "1 1 1"]
def L2' (J : PySem.Str) : List PySem.Str := [J ++ Str.ofString ",7", J ++ Str.ofString "/1", J ++ Str.ofString "/0", J ++ Str.ofString "/-2", J ++ Str.ofString "/"]
def L3 (t : PySem.Str) : List PySem.Str := [t ++ Str.ofString " ", t ++ Str.ofString "\n", t ++ Str.ofString ";"]
def L4 (t : PySem.Str) : List PySem.Str := [Str.ofString " " ++ t, Str.ofString "\n" ++ t, Str.ofString "+" ++ t]
variable (hx : x.natAbs ≤ 10 ^ 28) (hy : y.natAbs ≤ 10 ^ 28) (hz : z.natAbs ≤ 10 ^ 28) (hw : 1 ≤ w) (hw2 : w ≤ 100)
include hx hy hz hw hw2
theorem l1_bad : ∀ t ∈ L1, Bad t := by
  intro t ht
  simp only [L1, List.mem_cons, List.not_mem_nil, or_false] at ht
  have o1 : Free (Str.ofString "1") := free_lit (by decide +kernel)
  rcases ht with rfl | rfl | rfl | rfl | rfl | rfl
  · have e : Str.ofString "/2" = txt [Str.ofString ""] (some (Str.ofString "2")) := by decide +kernel
    have h : Wd (Str.ofString "/2") := (low_lit (n := 9) (by decide +kernel)).wd (by decide)
    rw [e] at h ⊢
    exact bad_len (by simp) (fun p hp => by rw [List.mem_singleton.mp hp]; exact emp_free) h (by decide)
  · have e : Str.ofString ",," = txt [Str.ofString "", Str.ofString "", Str.ofString ""] none := by decide +kernel
    have h : Wd (Str.ofString ",,") := (low_lit (n := 9) (by decide +kernel)).wd (by decide)
    rw [e] at h ⊢
    exact bad_part (mem3 emp_free emp_free emp_free) h (p := Str.ofString "") (by simp) (by decide +kernel)
  · have e : Str.ofString "1,1,1/02" = txt [Str.ofString "1", Str.ofString "1", Str.ofString "1"] (some (Str.ofString "02")) := by decide +kernel
    have h : Wd (Str.ofString "1,1,1/02") := (low_lit (n := 9) (by decide +kernel)).wd (by decide)
    rw [e] at h ⊢
    exact bad_last (by simp) (mem3 o1 o1 o1) h (by decide +kernel)
  · have e : Str.ofString "1,1,1/+2" = txt [Str.ofString "1", Str.ofString "1", Str.ofString "1"] (some (Str.ofString "+2")) := by decide +kernel
    have h : Wd (Str.ofString "1,1,1/+2") := (low_lit (n := 9) (by decide +kernel)).wd (by decide)
    rw [e] at h ⊢
    exact bad_last (by simp) (mem3 o1 o1 o1) h (by decide +kernel)
  · have e : Str.ofString "1,1,1/" ++ repS (Str.ofString "2") 31 = txt [Str.ofString "1", Str.ofString "1", Str.ofString "1"] (some (repS (Str.ofString "2") 31)) := by decide +kernel
    have h : Wd (Str.ofString "1,1,1/" ++ repS (Str.ofString "2") 31) := (low_lit (n := 99) (by decide +kernel)).wd (by decide)
    rw [e] at h ⊢
    exact bad_last (by simp) (mem3 o1 o1 o1) h (by decide +kernel)
  · have e : Str.ofString "1 1 1" = txt [Str.ofString "1 1 1"] none := by decide +kernel
    have h : Wd (Str.ofString "1 1 1") := (low_lit (n := 9) (by decide +kernel)).wd (by decide)
    rw [e] at h ⊢
    exact bad_len (by simp) (fun p hp => by rw [List.mem_singleton.mp hp]; exact free_lit (by decide +kernel)) h (by decide)
theorem all_bad {jb : PySem.Str} {d : Option PySem.Str} (hj : Bad jb) (hd : d = none ∨ d = some (NS w)) : ∀ t ∈ L0 jb (txt [NS x, NS y, NS z] d) x y z w ++ L1 ++ L2' (txt [NS x, NS y, NS z] none) ++ L3 (txt [NS x, NS y, NS z] d) ++ L4 (txt [NS x, NS y, NS z] d), Bad t := by
  have b : ∀ {a : Int}, a.natAbs ≤ 10 ^ 28 → a.natAbs < 10 ^ 30 := fun h => by omega
  have b2 : ∀ {a : Int}, a.natAbs ≤ 10 ^ 28 → (2 * a).natAbs < 10 ^ 30 := fun h => by omega
  have bw : w.natAbs < 10 ^ 30 := by omega
  have fx := NS_free x
  have fy := NS_free y
  have fz := NS_free z
  have lx : Low (NS x) 64 := (low_NS (b hx)).mono (by decide)
  have ly : Low (NS y) 64 := (low_NS (b hy)).mono (by decide)
  have lz : Low (NS z) 64 := (low_NS (b hz)).mono (by decide)
  have lw : Low (NS w) 64 := (low_NS bw).mono (by decide)
  have ld : ∀ e, d = some e → Low e 64 := fun e he => by
    rcases hd with z | z
    · rw [z] at he; cases he
    · rw [z] at he; cases he; exact lw
  have pre : ∀ (s : String) (c : Nat), Free (Str.ofString s) → Low (Str.ofString s) 2 → c ∈ tl (Str.ofString s) → c ≠ 45 → dig c = false → BadU (Str.ofString s ++ NS x) := fun s c f l hc h45 hdg =>
    ⟨.inl ⟨free_app f fx, bad_sign (c := c) (by rw [tl_append]; exact List.mem_append_left _ hc) h45 hdg⟩, (l.app (low_NS (b hx))).mono (by decide)⟩
  have post : ∀ (a : Int) (s : String) (c : Nat), a.natAbs < 10 ^ 30 → Free (Str.ofString s) → Low (Str.ofString s) 2 → c ∈ tl (Str.ofString s) → c ≠ 45 → dig c = false → BadU (NS a ++ Str.ofString s) := fun a s c ha f l hc h45 hdg =>
    ⟨.inl ⟨free_app (NS_free a) f, bad_sign (c := c) (by rw [tl_append]; exact List.mem_append_right _ hc) h45 hdg⟩, ((low_NS ha).app l).mono (by decide)⟩
  have behind : ∀ (s : String) (c : Nat), Free (Str.ofString s) → Low (Str.ofString s) 2 → c ∈ tl (Str.ofString s) → c ≠ 45 → dig c = false → Bad (txt [NS x, NS y, NS z] d ++ Str.ofString s) := fun s c f l hc h45 hdg => by
    rcases hd with e | e
    · rw [e, post_none]
      exact (bad_at (d := none) (post z s c (b hz) f l hc h45 hdg) fx fy lx ly (fun e he => by cases he)).2.2
    · rw [e, post_some]
      obtain ⟨h, hl⟩ := post w s c bw f l hc h45 hdg
      have hw' : Wd (txt [NS x, NS y, NS z] (some (NS w ++ Str.ofString s))) := (low_txt3 lx ly lz (fun e he => by cases he; exact hl)).wd (by decide)
      exact bad_last (by simp) (mem3 fx fy fz) hw' (bad_sign (c := c) (by rw [tl_append]; exact List.mem_append_right _ hc) h45 hdg)
  have ahead : ∀ (s : String) (c : Nat), Free (Str.ofString s) → Low (Str.ofString s) 2 → c ∈ tl (Str.ofString s) → c ≠ 45 → dig c = false → Bad (Str.ofString s ++ txt [NS x, NS y, NS z] d) := fun s c f l hc h45 hdg => by
    rw [pre_txt]
    exact (bad_at (pre s c f l hc h45 hdg) fy fz ly lz ld).1
  have fl : ∀ {s : String}, (!(tl (Str.ofString s)).contains 44 && !(tl (Str.ofString s)).contains 47) = true → Free (Str.ofString s) := fun h => free_lit h
  intro t ht
  simp only [List.mem_append] at ht
  rcases ht with (((ht | ht) | ht) | ht) | ht
  · simp only [L0, List.mem_cons, List.not_mem_nil, or_false] at ht
    rcases ht with rfl | rfl | rfl | rfl | rfl | rfl
    · exact hj
    · refine bad_len (by simp) (fun p hp => ?_) ?_ (by simp)
      · simp only [List.mem_cons, List.not_mem_nil, or_false] at hp
        rcases hp with rfl | rfl <;> assumption
      · refine Low.wd (n := 2 * 65) (low_join fun p hp => ?_) (by decide)
        simp only [List.mem_cons, List.not_mem_nil, or_false] at hp
        rcases hp with rfl | rfl <;> assumption
    · refine ⟨?_, (low_txt3 (m := 64) ((low_NS (b2 hx)).mono (by decide)) ((low_NS (b2 hy)).mono (by decide)) ((low_NS (b2 hz)).mono (by decide)) (fun e he => by cases he; exact (low_NS (by omega)).mono (by decide))).wd (by decide)⟩
      rw [spot_txt (by simp) (mem3 (NS_free _) (NS_free _) (NS_free _))]
      show spotOf [wholeD (tl (NS (2 * x))), wholeD (tl (NS (2 * y))), wholeD (tl (NS (2 * z)))] (wholeD (tl (NS (2 * w)))) true = .none
      rw [wholeD_NS (b2 hx), wholeD_NS (b2 hy), wholeD_NS (b2 hz), wholeD_NS (by omega)]
      show (if 2 * w < 1 then PyData.none else if true = true ∧ 2 * w = 1 then .none else if gcd4 (2 * x) (2 * y) (2 * z) (2 * w) = 1 then _ else .none) = _
      rw [if_neg (by omega), if_neg (by omega), if_neg (gcd4_even _ _ _ _)]
    · have e : Str.ofString "1,1,1/2/3" = txt [Str.ofString "1", Str.ofString "1", Str.ofString "1"] (some (Str.ofString "2/3")) := by decide +kernel
      have o1 : Free (Str.ofString "1") := free_lit (by decide +kernel)
      have h : Wd (Str.ofString "1,1,1/2/3") := (low_lit (n := 9) (by decide +kernel)).wd (by decide)
      rw [e] at h ⊢
      exact bad_last (by simp) (mem3 o1 o1 o1) h (by decide +kernel)
    · have f : Free (Str.ofString "(") := fl (by decide +kernel)
      have l : Low (Str.ofString "(") 2 := low_lit (by decide +kernel)
      rw [pre_txt]
      have hu := pre "(" 40 f l (by decide +kernel) (by decide) (by decide)
      rcases hd with e | e
      · rw [e, post_none]
        have lz2 : Low (NS z ++ Str.ofString ")") 64 := ((low_NS (b hz)).app (low_lit (n := 2) (by decide +kernel))).mono (by decide)
        exact (bad_at (d := none) hu fy (free_app fz (fl (by decide +kernel))) ly lz2 (fun e he => by cases he)).1
      · rw [e, post_some]
        have lw2 : Low (NS w ++ Str.ofString ")") 64 := ((low_NS bw).app (low_lit (n := 2) (by decide +kernel))).mono (by decide)
        exact (bad_at hu fy fz ly lz (fun e he => by cases he; exact lw2)).1
    · have e : Str.ofString "" = txt [Str.ofString ""] none := by decide +kernel
      have h : Wd (Str.ofString "") := (low_lit (n := 9) (by decide +kernel)).wd (by decide)
      rw [e] at h ⊢
      exact bad_len (by simp) (fun p hp => by rw [List.mem_singleton.mp hp]; exact emp_free) h (by decide)
  · exact l1_bad hx hy hz hw hw2 t ht
  · simp only [L2', List.mem_cons, List.not_mem_nil, or_false] at ht
    have wd : ∀ s : String, Low (Str.ofString s) 2 → Wd (txt [NS x, NS y, NS z] (some (Str.ofString s))) := fun s l => (low_txt3 lx ly lz (fun e he => by cases he; exact l.mono (by decide))).wd (by decide)
    have sl : ∀ s t : String, tl (Str.ofString s) = 47 :: tl (Str.ofString t) → txt [NS x, NS y, NS z] none ++ Str.ofString s = txt [NS x, NS y, NS z] (some (Str.ofString t)) := fun s t h => ext_tl (by rw [tl_append, tl_txt3, tl_txt3s, h])
    rcases ht with rfl | rfl | rfl | rfl | rfl
    · have e : txt [NS x, NS y, NS z] none ++ Str.ofString ",7" = txt [NS x, NS y, NS z, Str.ofString "7"] none := by
        refine ext_tl ?_
        have e7 : tl (Str.ofString ",7") = 44 :: tl (Str.ofString "7") := by decide +kernel
        rw [tl_append, tl_txt3, e7]
        show _ = tl (Txt.join _ _)
        rw [join_eq, tl_join, comma_tl]
        simp [joinL]
      have h : Wd (txt [NS x, NS y, NS z] none ++ Str.ofString ",7") := (((low_txt3 lx ly lz (fun e he => by cases he)).app (low_lit (n := 2) (by decide +kernel)))).wd (by decide)
      rw [e] at h ⊢
      refine bad_len (by simp) (fun p hp => ?_) h (by simp)
      simp only [List.mem_cons, List.not_mem_nil, or_false] at hp
      rcases hp with rfl | rfl | rfl | rfl <;> first | assumption | exact free_lit (by decide +kernel)
    · rw [sl "/1" "1" (by decide +kernel)]
      exact bad_num fx fy fz (wd _ (low_lit (by decide +kernel))) (i := 1) (by decide +kernel) (by decide)
    · rw [sl "/0" "0" (by decide +kernel)]
      exact bad_num fx fy fz (wd _ (low_lit (by decide +kernel))) (i := 0) (by decide +kernel) (by decide)
    · rw [sl "/-2" "-2" (by decide +kernel)]
      exact bad_num fx fy fz (wd _ (low_lit (by decide +kernel))) (i := -2) (by decide +kernel) (by decide)
    · rw [sl "/" "" (by decide +kernel)]
      exact bad_last (by simp) (mem3 fx fy fz) (wd _ (low_lit (by decide +kernel))) (by decide +kernel)
  · simp only [L3, List.mem_cons, List.not_mem_nil, or_false] at ht
    rcases ht with rfl | rfl | rfl
    · exact behind " " 32 (fl (by decide +kernel)) (low_lit (by decide +kernel)) (by decide +kernel) (by decide) (by decide)
    · exact behind "\n" 10 (fl (by decide +kernel)) (low_lit (by decide +kernel)) (by decide +kernel) (by decide) (by decide)
    · exact behind ";" 59 (fl (by decide +kernel)) (low_lit (by decide +kernel)) (by decide +kernel) (by decide) (by decide)
  · simp only [L4, List.mem_cons, List.not_mem_nil, or_false] at ht
    rcases ht with rfl | rfl | rfl
    · exact ahead " " 32 (fl (by decide +kernel)) (low_lit (by decide +kernel)) (by decide +kernel) (by decide) (by decide)
    · exact ahead "\n" 10 (fl (by decide +kernel)) (low_lit (by decide +kernel)) (by decide +kernel) (by decide) (by decide)
    · exact ahead "+" 43 (fl (by decide +kernel)) (low_lit (by decide +kernel)) (by decide +kernel) (by decide) (by decide)
end
end My

namespace My
open PySem Mi TL
def bad3 (a : Int) (u x y z : PySem.Str) : List PySem.Str := if a = 0 then [u, y, z] else if a = 1 then [x, u, z] else [x, y, u]
theorem r_spoilt (n : Nat) (S : Sto) (p : Nat) (v x y z w : Int) (hp : S[p]? = some (cellM v)) (hx : x.natAbs ≤ 10 ^ 28) (hy : y.natAbs ≤ 10 ^ 28) (hz : z.natAbs ≤ 10 ^ 28) (hw : 1 ≤ w) (hw2 : w ≤ 100) :
    ∃ (ts : List PySem.Str) (v' : Int), (run kn T (n + 3)).run 13 [.ptr p, .d (t4 x y z w)] S = .ok (.d (.list (ts.map .str))) (S.set p (cellM v')) ∧ ∀ t ∈ ts, Bad t := by
  have hpl : p < S.length := (List.getElem?_eq_some_iff.mp hp).1
  have b : ∀ {a : Int}, a.natAbs ≤ 10 ^ 28 → a.natAbs < 10 ^ 30 := fun h => by omega
  have b2 : ∀ {a : Int}, a.natAbs ≤ 10 ^ 28 → (2 * a).natAbs < 10 ^ 30 := fun h => by omega
  have bw : w.natAbs < 10 ^ 30 := by omega
  have l31 : ∀ {a : Int}, a.natAbs < 10 ^ 30 → Low (NS a) 64 := fun h => (low_NS h).mono (by decide)
  have lx := l31 (b hx)
  have ly := l31 (b hy)
  have lz := l31 (b hz)
  have lw := l31 bw
  obtain ⟨a0, a1⟩ := fmod_nn (a := v) (b := 3) (by decide)
  have e0 := r_words (n + 1) S x y z w (b hx) (b hy) (b hz) bw
  have e1 := r_next (n + 1) S p v 3 hp (by decide) (by decide)
  generalize hS1 : S.set p (cellM (v.fdiv 3)) = S1 at e1
  have hp1 : S1[p]? = some (cellM (v.fdiv 3)) := by rw [← hS1]; exact get_set hp
  generalize ha : v.fmod 3 = a at a0 a1 e1
  -- the number spoilt
  obtain ⟨c, hc, hcb⟩ : ∃ c : Int, L2.atI [PyData.int x, .int y, .int z, .int w] a = some (.int c) ∧ c.natAbs < 10 ^ 30 := by
    have : a = 0 ∨ a = 1 ∨ a = 2 := by omega
    rcases this with rfl | rfl | rfl
    · exact ⟨x, rfl, b hx⟩
    · exact ⟨y, rfl, b hy⟩
    · exact ⟨z, rfl, b hz⟩
  obtain ⟨u, v2, e2, hu⟩ := r_bad n S1 p (v.fdiv 3) c hp1 hcb
  have lu := hu.2
  generalize hS2 : S1.set p (cellM v2) = S2 at e2
  have hp2 : S2[p]? = some (cellM v2) := by rw [← hS2]; exact get_set hp1
  have hS2' : S2 = S.set p (cellM v2) := by rw [← hS2, ← hS1, List.set_set]
  have hz2 : S2.length = S.length := by rw [hS2', List.length_set]
  -- slices of the words
  have hsl : ∃ q1 q2, cutG ([NS x, NS y, NS z, NS w].map PyData.str) none (some a) = q1.map .str ∧ cutG ([NS x, NS y, NS z, NS w].map PyData.str) (some (a + 1)) none = q2.map .str ∧ q1 ++ [u] ++ q2 = bad3 a u (NS x) (NS y) (NS z) ++ [NS w] ∧ q1.length ≤ 4 ∧ q2.length ≤ 4 := by
    have : a = 0 ∨ a = 1 ∨ a = 2 := by omega
    rcases this with rfl | rfl | rfl
    · exact ⟨[], [NS y, NS z, NS w], rfl, rfl, rfl, by simp, by simp⟩
    · exact ⟨[NS x], [NS z, NS w], rfl, rfl, rfl, by simp, by simp⟩
    · exact ⟨[NS x, NS y], [NS w], rfl, rfl, rfl, by simp, by simp⟩
  obtain ⟨q1, q2, s1, s2, hq, z1, z2⟩ := hsl
  obtain ⟨p1, p2, p3, hb3⟩ : ∃ p1 p2 p3, bad3 a u (NS x) (NS y) (NS z) = [p1, p2, p3] := by
    unfold bad3
    split
    · exact ⟨_, _, _, rfl⟩
    · split
      · exact ⟨_, _, _, rfl⟩
      · exact ⟨_, _, _, rfl⟩
  have hlow3 : Low p1 64 ∧ Low p2 64 ∧ Low p3 64 := by
    unfold bad3 at hb3
    split at hb3
    · cases hb3; exact ⟨lu, ly, lz⟩
    · split at hb3
      · cases hb3; exact ⟨lx, lu, lz⟩
      · cases hb3; exact ⟨lx, ly, lu⟩
  have hadd1 : o2 .add S2 (.d (.list (q1.map .str))) (.d (.list [.str u])) = some (.d (.list ((q1 ++ [u]).map .str))) := by
    show (if (q1.map PyData.str).length + 1 ≤ lim then some (W.d (.list (q1.map PyData.str ++ [.str u]))) else none) = _
    have hlim : lim = 1000000 := rfl
    rw [if_pos (by rw [List.length_map]; omega), List.map_append]
    rfl
  have hadd2 : o2 .add S2 (.d (.list ((q1 ++ [u]).map .str))) (.d (.list (q2.map .str))) = some (.d (.list ([p1, p2, p3, NS w].map .str))) := by
    show (if ((q1 ++ [u]).map PyData.str).length + (q2.map PyData.str).length ≤ lim then some (W.d (.list ((q1 ++ [u]).map PyData.str ++ q2.map PyData.str))) else none) = _
    have hlim : lim = 1000000 := rfl
    rw [if_pos (by simp; omega), ← List.map_append, hq, hb3]
    rfl
  -- the words joined
  have m3 : ∀ {a b c : PySem.Str}, Low a 64 → Low b 64 → Low c 64 → ∀ q ∈ [a, b, c], Low q 64 := fun ha hb hc => mem3 ha hb hc
  have m2 : ∀ q ∈ [NS x, NS y], Low q 64 := fun q hq => by
    simp only [List.mem_cons, List.not_mem_nil, or_false] at hq
    rcases hq with rfl | rfl <;> assumption
  have j1 : ∀ S : Sto, mt .join S (wS (Str.ofString ",")) [.d (.list ([NS x, NS y, NS z].map .str))] = some (wS (txt [NS x, NS y, NS z] none), S) := fun S => join_M (m3 lx ly lz) (by show 3 * 65 ≤ 100000; decide)
  have j2 : ∀ S : Sto, mt .join S (wS (Str.ofString ",")) [.d (.list ([NS (2 * x), NS (2 * y), NS (2 * z)].map .str))] = some (wS (Txt.join (Str.ofString ",") [NS (2 * x), NS (2 * y), NS (2 * z)]), S) := fun S => join_M (m3 (l31 (b2 hx)) (l31 (b2 hy)) (l31 (b2 hz))) (by show 3 * 65 ≤ 100000; decide)
  have j3 : ∀ S : Sto, mt .join S (wS (Str.ofString ",")) [.d (.list ([NS x, NS y].map .str))] = some (wS (txt [NS x, NS y] none), S) := fun S => join_M m2 (by show 2 * 65 ≤ 100000; decide)
  have lJ2 : Low (Txt.join (Str.ofString ",") [NS (2 * x), NS (2 * y), NS (2 * z)]) 195 := low_join (m3 (l31 (b2 hx)) (l31 (b2 hy)) (l31 (b2 hz)))
  have lst' : Low (Str.ofString "/") 1 := low_lit (by decide +kernel)
  have k1 := fun S : Sto => adds_ok (S := S) lJ2 lst' (by decide)
  have k2 := fun S : Sto => adds_ok (S := S) (lJ2.app lst') (l31 (a := 2 * w) (by omega)) (by decide)
  have c3 : ∀ a b c d : PyData, cutG [a, b, c, d] none (some 3) = [a, b, c] := fun _ _ _ _ => rfl
  have c2 : ∀ a b c d : PyData, cutG [a, b, c, d] none (some 2) = [a, b] := fun _ _ _ _ => rfl
  have ct : slW S2 (.d (t4 x y z w)) none (some 3) = some (.d (.tuple [.int x, .int y, .int z])) := by
    rw [i_slt, if_neg (by rintro ⟨_, h⟩; exact absurd h (by show ¬ (3 = 4); decide))]
    rfl
  have hmul : ∀ a : Int, a.natAbs < 10 ^ 30 → mulOk 2 a = true := fun a h => mul_lt _ _ (by decide) (Nat.lt_of_lt_of_le h (by decide))
  have l100 : ∀ {q : PySem.Str}, Low q 64 → Low q 100 := fun h => h.mono (by decide)
  generalize hd : (if NS w = Str.ofString "1" then none else some (NS w)) = d
  have hd' : d = none ∨ d = some (NS w) := by
    rw [← hd]
    split
    · exact .inl rfl
    · exact .inr rfl
  have ld : ∀ e, d = some e → Low e 64 := fun e he => by
    rcases hd' with q | q
    · rw [q] at he; cases he
    · rw [q] at he; cases he; exact lw
  have t1 := fun S : Sto => r_joined (n + 1) S (NS x) (NS y) (NS z) (NS w) (l100 lx) (l100 ly) (l100 lz) (l100 lw)
  have t2 := fun S : Sto => r_joined (n + 1) S p1 p2 p3 (NS w) (l100 hlow3.1) (l100 hlow3.2.1) (l100 hlow3.2.2) (l100 lw)
  rw [hd] at t1 t2
  have hbad3 : Bad (txt [p1, p2, p3] d) := by
    have fx := NS_free x
    have fy := NS_free y
    have fz := NS_free z
    unfold bad3 at hb3
    split at hb3
    · cases hb3; exact (bad_at hu fy fz ly lz ld).1
    · split at hb3
      · cases hb3; exact (bad_at hu fx fz lx lz ld).2.1
      · cases hb3; exact (bad_at hu fx fy lx ly ld).2.2
  have hall := all_bad hx hy hz hw hw2 hbad3 hd'
  generalize hJ : txt [NS x, NS y, NS z] none = J at j1 hall
  generalize hTx : txt [NS x, NS y, NS z] d = tx at t1 hall
  generalize hJb : txt [p1, p2, p3] d = jb at t2 hall hbad3
  have lJ : Low J 300 := by rw [← hJ]; exact (low_txt3 lx ly lz (fun e he => by cases he)).mono (by decide)
  have lt : Low tx 300 := by rw [← hTx]; exact (low_txt3 lx ly lz ld).mono (by decide)
  have lit : ∀ {s : String}, ((tl (Str.ofString s)).length ≤ 10 && (tl (Str.ofString s)).all (· < 1114112)) = true → Low (Str.ofString s) 10 := fun h => low_lit h
  have f0 := lc_mapP (S := S2) (bt := fun w' S2' => bindT S2' (.tn 9) w' (wipeR [some (.ptr p), some (.d (t4 x y z w)), some (.d (.list ([NS x, NS y, NS z, NS w].map .str))), some (wS J), some (wi a), some (.d (.list ([p1, p2, p3, NS w].map .str))), none, none, none, none, none, none, none] [9])) (tst := fun ρ' S2 => evT (run kn T (n + 2)) .anil ρ' S2) (el := fun ρ' S2 => evE (run kn T (n + 2)) (.bi .str_ (.acons (.o2 .mul (.int 2) (.var 9)) .anil)) ρ' S2) (fun d => match d with | .int a => .str (NS (2 * a)) | _ => .none) [.int x, .int y, .int z] (by show 3 ≤ 1000000; decide) (fun d hd => by
    have st : ∀ q : Int, q.natAbs ≤ 10 ^ 28 → ∃ ρ, bindT S2 (.tn 9) (.d (.int q)) (wipeR [some (.ptr p), some (.d (t4 x y z w)), some (.d (.list ([NS x, NS y, NS z, NS w].map .str))), some (wS J), some (wi a), some (.d (.list ([p1, p2, p3, NS w].map .str))), none, none, none, none, none, none, none] [9]) = some ρ ∧ evT (run kn T (n + 2)) .anil ρ S2 = .ok true S2 ∧ evE (run kn T (n + 2)) (.bi .str_ (.acons (.o2 .mul (.int 2) (.var 9)) .anil)) ρ S2 = .ok (.d (.str (NS (2 * q)))) S2 := fun q hq => by
      refine ⟨_, by simp [wipeR]; rfl, rfl, ?_⟩
      simp only [s_scons, s_snil, s_asg, s_asgLc, s_par, s_aug, s_setix, s_ex, s_ret, s_retN, s_ift, s_brk, s_cnt, s_pss, s_rais, s_raisF, x_var, x_int, x_str, x_bl, x_non, x_gi, x_gs, x_o2, x_ch, x_neg, x_and, x_or, x_one, x_not, x_ife, x_tup, x_lst, x_call, x_bi, x_isi, x_mt, x_ix, x_sl, x_new, x_frz, x_anil, x_acons, x_nop, x_some, x_itE, x_itR, x_itN, x_itZ, x_tru, x_mkL, x_dnil, x_dcons, x_ofP, x_ofP2, x_fld, x_isK, t_tn, t_tt, t_tl, t_nil, t_cons, RS.ofO_some, R.bind_ok, R.bind_exc, R.ofO_some, R.st_ok, R.st_exc, List.getElem?_cons_succ, List.getElem?_cons_zero, List.length_cons, List.length_nil, Nat.reduceAdd, Nat.reduceLT, if_true, Bool.false_eq_true, if_false, Bool.not_true, Bool.not_false, List.set_cons_succ, List.set_cons_zero, Option.map_some, Option.bind_some, o_add, o_sub, o_lt, o_le, o_gt, o_ge, o_eqi, o_nei, o_eqs, o_nes, o_eqb, o_isb, o_isnb, o_isN, o_isnN, b_abs, b_lenl, b_lent, b_tupl, b_tupt, b_lstl, b_lstt, i_ixl, i_ixt, i_srcs, i_srcl, i_srct, i_srcN, g_none, leave_d, fin_nx, fin_rt, fin_exc, at_0, at_1, at_2, at_3, at_4, at_5, tupW1, tupW2, tupW3, tupW4, tupW5, lstW0, lstW1, lstW2, lstW3, lstW4, List.map_cons, List.map_nil, o_mul, hmul q (b hq), b_str, if_pos (log_small (b2 hq))]
    simp only [List.mem_cons, List.not_mem_nil, or_false] at hd
    rcases hd with rfl | rfl | rfl
    · exact st x hx
    · exact st y hy
    · exact st z hz)
  -- the texts
  generalize hQ : L0 jb tx x y z w = q0 at hall
  have eq0 : q0.map PyData.str = [.str jb, .str (txt [NS x, NS y] none), .str (Txt.join (Str.ofString ",") [NS (2 * x), NS (2 * y), NS (2 * z)] ++ Str.ofString "/" ++ NS (2 * w)), .str (Str.ofString "1,1,1/2/3"), .str (Str.ofString "(" ++ tx ++ Str.ofString ")"), .str (Str.ofString "")] := by
    rw [← hQ]
    rfl
  have hq0 : q0.length = 6 := by rw [← hQ]; rfl
  have lw6 : lstW (q0.map .str) = some (.d (.list (q0.map .str))) := lstW_ok (by rw [List.length_map, hq0]; decide)
  have o1 := adds_ok (S := S2) (lit (s := "(") (by decide +kernel)) lt (by decide)
  have o2' := adds_ok (S := S2) ((lit (s := "(") (by decide +kernel)).app lt) (lit (s := ")") (by decide +kernel)) (by decide)
  generalize hS3 : S2 ++ [MO.lst (q0.map .str)] = S3
  have g3 : S3[S2.length]? = some (.lst (q0.map .str)) := by rw [← hS3]; exact get_last
  have r1 : o2 .mul S3 (wS (Str.ofString "2")) (wi 31) = some (wS (repS (Str.ofString "2") 31)) := by
    rw [o_muls, if_pos (by decide +kernel)]
    rfl
  have r2 : o2 .add S3 (wS (Str.ofString "1,1,1/")) (wS (repS (Str.ofString "2") 31)) = some (wS (Str.ofString "1,1,1/" ++ repS (Str.ofString "2") 31)) := adds_ok (m := 64) (n := 64) (low_lit (by decide +kernel)) (low_lit (by decide +kernel)) (by decide)
  have eL1 : L1.map PyData.str = [.str (Str.ofString "/2"), .str (Str.ofString ",,"), .str (Str.ofString "1,1,1/02"), .str (Str.ofString "1,1,1/+2"), .str (Str.ofString "1,1,1/" ++ repS (Str.ofString "2") 31), .str (Str.ofString "1 1 1")] := rfl
  have lL1 : lstW (L1.map .str) = some (.d (.list (L1.map .str))) := lstW_ok (by decide)
  have x1 := ext_M (ys := L1.map .str) g3 (by rw [List.length_map, hq0]; show 6 + 6 ≤ 1000000; decide)
  generalize hS4 : S3.set S2.length (.lst (q0.map .str ++ L1.map .str)) = S4 at x1
  have g4 : S4[S2.length]? = some (.lst (q0.map .str ++ L1.map .str)) := by rw [← hS4]; exact get_set g3
  have envL : ∀ (S4 : Sto) (q : Nat) (tg : Nat) (htg : tg = 10), True := fun _ _ _ _ => trivial
  have f1 := lc_mapP (S := S4) (bt := fun w' S2' => bindT S2' (.tn 10) w' (wipeR [some (.ptr p), some (.d (t4 x y z w)), some (.d (.list ([NS x, NS y, NS z, NS w].map .str))), some (wS J), some (wi a), some (.d (.list ([p1, p2, p3, NS w].map .str))), some (wS (Txt.join (Str.ofString ",") [NS (2 * x), NS (2 * y), NS (2 * z)] ++ Str.ofString "/" ++ NS (2 * w))), some (wS tx), some (.ptr S2.length), none, none, none, none] [10])) (tst := fun ρ' S2 => evT (run kn T (n + 2)) .anil ρ' S2) (el := fun ρ' S2 => evE (run kn T (n + 2)) (.o2 .add (.var 3) (.var 10)) ρ' S2) (fun d => match d with | .str a => .str (J ++ a) | _ => .none) ([Str.ofString ",7", Str.ofString "/1", Str.ofString "/0", Str.ofString "/-2", Str.ofString "/"].map .str) (by decide) (fun d hd => by
    obtain ⟨q, hq, rfl⟩ := List.mem_map.mp hd
    refine ⟨_, by simp [wipeR]; rfl, rfl, ?_⟩
    have lq : Low q 10 := by
      simp only [List.mem_cons, List.not_mem_nil, or_false] at hq
      rcases hq with rfl | rfl | rfl | rfl | rfl <;> exact low_lit (by decide +kernel)
    simp only [s_scons, s_snil, s_asg, s_asgLc, s_par, s_aug, s_setix, s_ex, s_ret, s_retN, s_ift, s_brk, s_cnt, s_pss, s_rais, s_raisF, x_var, x_int, x_str, x_bl, x_non, x_gi, x_gs, x_o2, x_ch, x_neg, x_and, x_or, x_one, x_not, x_ife, x_tup, x_lst, x_call, x_bi, x_isi, x_mt, x_ix, x_sl, x_new, x_frz, x_anil, x_acons, x_nop, x_some, x_itE, x_itR, x_itN, x_itZ, x_tru, x_mkL, x_dnil, x_dcons, x_ofP, x_ofP2, x_fld, x_isK, t_tn, t_tt, t_tl, t_nil, t_cons, RS.ofO_some, R.bind_ok, R.bind_exc, R.ofO_some, R.st_ok, R.st_exc, List.getElem?_cons_succ, List.getElem?_cons_zero, List.length_cons, List.length_nil, Nat.reduceAdd, Nat.reduceLT, if_true, Bool.false_eq_true, if_false, Bool.not_true, Bool.not_false, List.set_cons_succ, List.set_cons_zero, Option.map_some, Option.bind_some, o_add, o_sub, o_lt, o_le, o_gt, o_ge, o_eqi, o_nei, o_eqs, o_nes, o_eqb, o_isb, o_isnb, o_isN, o_isnN, b_abs, b_lenl, b_lent, b_tupl, b_tupt, b_lstl, b_lstt, i_ixl, i_ixt, i_srcs, i_srcl, i_srct, i_srcN, g_none, leave_d, fin_nx, fin_rt, fin_exc, at_0, at_1, at_2, at_3, at_4, at_5, tupW1, tupW2, tupW3, tupW4, tupW5, lstW0, lstW1, lstW2, lstW3, lstW4, List.map_cons, List.map_nil, adds_ok lJ lq (by decide)])
  have x2 := ext_M (ys := (L2' J).map .str) g4 (by rw [List.length_append, List.length_map, hq0]; show 6 + 6 + 5 ≤ 1000000; decide)
  generalize hS5 : S4.set S2.length (.lst (q0.map .str ++ L1.map .str ++ (L2' J).map .str)) = S5 at x2
  have g5 : S5[S2.length]? = some (.lst (q0.map .str ++ L1.map .str ++ (L2' J).map .str)) := by rw [← hS5]; exact get_set g4
  have f2 := lc_mapP (S := S5) (bt := fun w' S2' => bindT S2' (.tn 10) w' (wipeR [some (.ptr p), some (.d (t4 x y z w)), some (.d (.list ([NS x, NS y, NS z, NS w].map .str))), some (wS J), some (wi a), some (.d (.list ([p1, p2, p3, NS w].map .str))), some (wS (Txt.join (Str.ofString ",") [NS (2 * x), NS (2 * y), NS (2 * z)] ++ Str.ofString "/" ++ NS (2 * w))), some (wS tx), some (.ptr S2.length), none, none, none, none] [10])) (tst := fun ρ' S2 => evT (run kn T (n + 2)) .anil ρ' S2) (el := fun ρ' S2 => evE (run kn T (n + 2)) (.o2 .add (.var 7) (.var 10)) ρ' S2) (fun d => match d with | .str a => .str (tx ++ a) | _ => .none) ([Str.ofString " ", Str.ofString "\n", Str.ofString ";"].map .str) (by decide) (fun d hd => by
    obtain ⟨q, hq, rfl⟩ := List.mem_map.mp hd
    refine ⟨_, by simp [wipeR]; rfl, rfl, ?_⟩
    have lq : Low q 10 := by
      simp only [List.mem_cons, List.not_mem_nil, or_false] at hq
      rcases hq with rfl | rfl | rfl <;> exact low_lit (by decide +kernel)
    simp only [s_scons, s_snil, s_asg, s_asgLc, s_par, s_aug, s_setix, s_ex, s_ret, s_retN, s_ift, s_brk, s_cnt, s_pss, s_rais, s_raisF, x_var, x_int, x_str, x_bl, x_non, x_gi, x_gs, x_o2, x_ch, x_neg, x_and, x_or, x_one, x_not, x_ife, x_tup, x_lst, x_call, x_bi, x_isi, x_mt, x_ix, x_sl, x_new, x_frz, x_anil, x_acons, x_nop, x_some, x_itE, x_itR, x_itN, x_itZ, x_tru, x_mkL, x_dnil, x_dcons, x_ofP, x_ofP2, x_fld, x_isK, t_tn, t_tt, t_tl, t_nil, t_cons, RS.ofO_some, R.bind_ok, R.bind_exc, R.ofO_some, R.st_ok, R.st_exc, List.getElem?_cons_succ, List.getElem?_cons_zero, List.length_cons, List.length_nil, Nat.reduceAdd, Nat.reduceLT, if_true, Bool.false_eq_true, if_false, Bool.not_true, Bool.not_false, List.set_cons_succ, List.set_cons_zero, Option.map_some, Option.bind_some, o_add, o_sub, o_lt, o_le, o_gt, o_ge, o_eqi, o_nei, o_eqs, o_nes, o_eqb, o_isb, o_isnb, o_isN, o_isnN, b_abs, b_lenl, b_lent, b_tupl, b_tupt, b_lstl, b_lstt, i_ixl, i_ixt, i_srcs, i_srcl, i_srct, i_srcN, g_none, leave_d, fin_nx, fin_rt, fin_exc, at_0, at_1, at_2, at_3, at_4, at_5, tupW1, tupW2, tupW3, tupW4, tupW5, lstW0, lstW1, lstW2, lstW3, lstW4, List.map_cons, List.map_nil, adds_ok lt lq (by decide)])
  have x3 := ext_M (ys := (L3 tx).map .str) g5 (by rw [List.length_append, List.length_append, List.length_map, hq0]; show 6 + 6 + 5 + 3 ≤ 1000000; decide)
  generalize hS6 : S5.set S2.length (.lst (q0.map .str ++ L1.map .str ++ (L2' J).map .str ++ (L3 tx).map .str)) = S6 at x3
  have g6 : S6[S2.length]? = some (.lst (q0.map .str ++ L1.map .str ++ (L2' J).map .str ++ (L3 tx).map .str)) := by rw [← hS6]; exact get_set g5
  have f3 := lc_mapP (S := S6) (bt := fun w' S2' => bindT S2' (.tn 11) w' (wipeR [some (.ptr p), some (.d (t4 x y z w)), some (.d (.list ([NS x, NS y, NS z, NS w].map .str))), some (wS J), some (wi a), some (.d (.list ([p1, p2, p3, NS w].map .str))), some (wS (Txt.join (Str.ofString ",") [NS (2 * x), NS (2 * y), NS (2 * z)] ++ Str.ofString "/" ++ NS (2 * w))), some (wS tx), some (.ptr S2.length), none, none, none, none] [11])) (tst := fun ρ' S2 => evT (run kn T (n + 2)) .anil ρ' S2) (el := fun ρ' S2 => evE (run kn T (n + 2)) (.o2 .add (.var 11) (.var 7)) ρ' S2) (fun d => match d with | .str a => .str (a ++ tx) | _ => .none) ([Str.ofString " ", Str.ofString "\n", Str.ofString "+"].map .str) (by decide) (fun d hd => by
    obtain ⟨q, hq, rfl⟩ := List.mem_map.mp hd
    refine ⟨_, by simp [wipeR]; rfl, rfl, ?_⟩
    have lq : Low q 10 := by
      simp only [List.mem_cons, List.not_mem_nil, or_false] at hq
      rcases hq with rfl | rfl | rfl <;> exact low_lit (by decide +kernel)
    simp only [s_scons, s_snil, s_asg, s_asgLc, s_par, s_aug, s_setix, s_ex, s_ret, s_retN, s_ift, s_brk, s_cnt, s_pss, s_rais, s_raisF, x_var, x_int, x_str, x_bl, x_non, x_gi, x_gs, x_o2, x_ch, x_neg, x_and, x_or, x_one, x_not, x_ife, x_tup, x_lst, x_call, x_bi, x_isi, x_mt, x_ix, x_sl, x_new, x_frz, x_anil, x_acons, x_nop, x_some, x_itE, x_itR, x_itN, x_itZ, x_tru, x_mkL, x_dnil, x_dcons, x_ofP, x_ofP2, x_fld, x_isK, t_tn, t_tt, t_tl, t_nil, t_cons, RS.ofO_some, R.bind_ok, R.bind_exc, R.ofO_some, R.st_ok, R.st_exc, List.getElem?_cons_succ, List.getElem?_cons_zero, List.length_cons, List.length_nil, Nat.reduceAdd, Nat.reduceLT, if_true, Bool.false_eq_true, if_false, Bool.not_true, Bool.not_false, List.set_cons_succ, List.set_cons_zero, Option.map_some, Option.bind_some, o_add, o_sub, o_lt, o_le, o_gt, o_ge, o_eqi, o_nei, o_eqs, o_nes, o_eqb, o_isb, o_isnb, o_isN, o_isnN, b_abs, b_lenl, b_lent, b_tupl, b_tupt, b_lstl, b_lstt, i_ixl, i_ixt, i_srcs, i_srcl, i_srct, i_srcN, g_none, leave_d, fin_nx, fin_rt, fin_exc, at_0, at_1, at_2, at_3, at_4, at_5, tupW1, tupW2, tupW3, tupW4, tupW5, lstW0, lstW1, lstW2, lstW3, lstW4, List.map_cons, List.map_nil, adds_ok lq lt (by decide)])
  have x4 := ext_M (ys := (L4 tx).map .str) g6 (by rw [List.length_append, List.length_append, List.length_append, List.length_map, hq0]; show 6 + 6 + 5 + 3 + 3 ≤ 1000000; decide)
  generalize hAll : q0 ++ L1 ++ L2' J ++ L3 tx ++ L4 tx = qs at hall
  have hqs : qs.length = 23 := by
    rw [← hAll, List.length_append, List.length_append, List.length_append, List.length_append, hq0]
    rfl
  have hmap : q0.map .str ++ L1.map .str ++ (L2' J).map .str ++ (L3 tx).map .str ++ (L4 tx).map .str = qs.map PyData.str := by
    rw [← hAll, List.map_append, List.map_append, List.map_append, List.map_append]
  rw [hmap] at x4
  generalize hS7 : S6.set S2.length (.lst (qs.map .str)) = S7 at x4
  have g7 : S7[S2.length]? = some (.lst (qs.map .str)) := by rw [← hS7]; exact get_set g6
  have eS7 : S7 = S2 ++ [.lst (qs.map .str)] := by
    rw [← hS7, ← hS6, ← hS5, ← hS4, ← hS3, set_last, set_last, set_last, set_last]
  have hp7 : S7[p]? = some (cellM v2) := by
    rw [eS7, List.getElem?_append_left (by omega)]
    exact hp2
  -- the draws
  obtain ⟨ds, S8, f4, ⟨⟨v8, hS8⟩, us, hus, hub⟩, hds⟩ := lc_inv (bt := fun w' S2' => bindT S2' (.tn 12) w' (wipeR [some (.ptr p), some (.d (t4 x y z w)), some (.d (.list ([NS x, NS y, NS z, NS w].map .str))), some (wS J), some (wi a), some (.d (.list ([p1, p2, p3, NS w].map .str))), some (wS (Txt.join (Str.ofString ",") [NS (2 * x), NS (2 * y), NS (2 * z)] ++ Str.ofString "/" ++ NS (2 * w))), some (wS tx), some (.ptr S2.length), none, none, none, none] [12])) (tst := fun ρ' S2 => evT (run kn T (n + 2)) .anil ρ' S2) (el := fun ρ' S2 => evE (run kn T (n + 2)) (.ix (.var 8) (.call 6 (.acons (.var 0) (.acons (.bi .len (.acons (.var 8) .anil)) .anil)))) ρ' S2)
    (fun acc S => (∃ v, S = S7.set p (cellM v)) ∧ ∃ us : List PySem.Str, acc = us.map .str ∧ ∀ t ∈ us, Bad t) (rngL 0 (5 : Int).toNat) [] S7 (by decide) ⟨⟨v2, by
      refine (List.ext_getElem? fun i => ?_)
      by_cases hi : p = i
      · subst hi
        rw [get_set hp7, hp7]
      · rw [List.getElem?_set_ne hi]⟩, [], rfl, by simp⟩ (fun r hr acc S' hI => by
      obtain ⟨⟨v', rfl⟩, us, rfl, hub⟩ := hI
      have hps : (S7.set p (cellM v'))[p]? = some (cellM v') := get_set hp7
      have hgs : (S7.set p (cellM v'))[S2.length]? = some (.lst (qs.map .str)) := by
        rw [List.getElem?_set_ne (by omega)]
        exact g7
      have hln := len_ptr hgs
      have h23 : (((qs.map PyData.str).length : Nat) : Int) = 23 := by rw [List.length_map, hqs]; rfl
      rw [h23] at hln
      have en := r_next (n + 1) (S7.set p (cellM v')) p v' 23 hps (by decide) (by decide)
      rw [List.set_set] at en
      obtain ⟨b0, b1⟩ := fmod_nn (a := v') (b := 23) (by decide)
      obtain ⟨t, ht, et⟩ := pick (xs := qs) (i := v'.fmod 23) b0 (by rw [hqs]; exact b1)
      have hgs2 : (S7.set p (cellM (v'.fdiv 23)))[S2.length]? = some (.lst (qs.map .str)) := by
        rw [List.getElem?_set_ne (by omega)]
        exact g7
      have hix : ixW (S7.set p (cellM (v'.fdiv 23))) (.ptr S2.length) (wi (v'.fmod 23)) = some (wS t) := by
        rw [ix_ptr hgs2, et]
        rfl
      refine ⟨_, .str t, S7.set p (cellM (v'.fdiv 23)), by simp [wipeR]; rfl, rfl, ?_, ⟨_, rfl⟩, us ++ [t], by simp, fun q hq => ?_⟩
      · simp only [s_scons, s_snil, s_asg, s_asgLc, s_par, s_aug, s_setix, s_ex, s_ret, s_retN, s_ift, s_brk, s_cnt, s_pss, s_rais, s_raisF, x_var, x_int, x_str, x_bl, x_non, x_gi, x_gs, x_o2, x_ch, x_neg, x_and, x_or, x_one, x_not, x_ife, x_tup, x_lst, x_call, x_bi, x_isi, x_mt, x_ix, x_sl, x_new, x_frz, x_anil, x_acons, x_nop, x_some, x_itE, x_itR, x_itN, x_itZ, x_tru, x_mkL, x_dnil, x_dcons, x_ofP, x_ofP2, x_fld, x_isK, t_tn, t_tt, t_tl, t_nil, t_cons, RS.ofO_some, R.bind_ok, R.bind_exc, R.ofO_some, R.st_ok, R.st_exc, List.getElem?_cons_succ, List.getElem?_cons_zero, List.length_cons, List.length_nil, Nat.reduceAdd, Nat.reduceLT, if_true, Bool.false_eq_true, if_false, Bool.not_true, Bool.not_false, List.set_cons_succ, List.set_cons_zero, Option.map_some, Option.bind_some, o_add, o_sub, o_lt, o_le, o_gt, o_ge, o_eqi, o_nei, o_eqs, o_nes, o_eqb, o_isb, o_isnb, o_isN, o_isnN, b_abs, b_lenl, b_lent, b_tupl, b_tupt, b_lstl, b_lstt, i_ixl, i_ixt, i_srcs, i_srcl, i_srct, i_srcN, g_none, leave_d, fin_nx, fin_rt, fin_exc, at_0, at_1, at_2, at_3, at_4, at_5, tupW1, tupW2, tupW3, tupW4, tupW5, lstW0, lstW1, lstW2, lstW3, lstW4, List.map_cons, List.map_nil, hln, en, hix]
      · rcases List.mem_append.mp hq with h | h
        · exact hub q h
        · rw [List.mem_singleton.mp h]
          exact hall t ht)
  subst hus
  have hend : S8.take S.length = S.set p (cellM v8) := by
    rw [hS8, eS7, List.set_append_left _ _ (by omega), ← hz2]
    rw [List.take_left' (by rw [List.length_set]), hS2', List.set_set]
  have haddF : o2 .add S8 (.d (.list [.str jb])) (.d (.list (us.map .str))) = some (.d (.list ((jb :: us).map .str))) := by
    show (if 1 + (us.map PyData.str).length ≤ lim then some (W.d (.list ([.str jb] ++ us.map PyData.str))) else none) = _
    have hlim : lim = 1000000 := rfl
    rw [if_pos (by have h5 : (us.map PyData.str).length = 0 + (rngL 0 (5 : Int).toNat).length := hds; have : (rngL 0 (5 : Int).toNat).length = 5 := rfl; omega)]
    rfl
  refine ⟨jb :: us, v8, run_at (fn := f_law_spoilt) rfl rfl rfl ?_, fun t ht => ?_⟩
  · show fin S.length (exS _ b_law_spoilt [some (.ptr p), some (.d (t4 x y z w)), none, none, none, none, none, none, none, none, none, none, none] S) = _
    unfold b_law_spoilt
    have hmw : mulOk 2 w = true := hmul w bw
    have l2w := log_small (x := 2 * w) (by omega)
    have hr5 : rngOk 5 = true := by decide
    rw [eq0] at hS3
    have eL2 : (L2' J).map PyData.str = [.str (J ++ Str.ofString ",7"), .str (J ++ Str.ofString "/1"), .str (J ++ Str.ofString "/0"), .str (J ++ Str.ofString "/-2"), .str (J ++ Str.ofString "/")] := rfl
    have eL3 : (L3 tx).map PyData.str = [.str (tx ++ Str.ofString " "), .str (tx ++ Str.ofString "\n"), .str (tx ++ Str.ofString ";")] := rfl
    have eL4 : (L4 tx).map PyData.str = [.str (Str.ofString " " ++ tx), .str (Str.ofString "\n" ++ tx), .str (Str.ofString "+" ++ tx)] := rfl
    rw [eL1] at x1 lL1
    rw [eL2] at x2
    rw [eL3] at x3
    rw [eL4] at x4
    rw [eq0] at lw6
    have lL2 : lstW [PyData.str (Str.ofString ",7"), .str (Str.ofString "/1"), .str (Str.ofString "/0"), .str (Str.ofString "/-2"), .str (Str.ofString "/")] = some (.d (.list [PyData.str (Str.ofString ",7"), .str (Str.ofString "/1"), .str (Str.ofString "/0"), .str (Str.ofString "/-2"), .str (Str.ofString "/")])) := lstW_ok (by show 5 ≤ 1000000; decide)
    simp only [List.map_cons, List.map_nil] at e0 j1 j2 j3 t1 t2 hadd2 s1 s2 f0 f1 f2 f3 f4 lw6 eq0
    simp only [s_scons, s_snil, s_asg, s_asgLc, s_par, s_aug, s_setix, s_ex, s_ret, s_retN, s_ift, s_brk, s_cnt, s_pss, s_rais, s_raisF, x_var, x_int, x_str, x_bl, x_non, x_gi, x_gs, x_o2, x_ch, x_neg, x_and, x_or, x_one, x_not, x_ife, x_tup, x_lst, x_call, x_bi, x_isi, x_mt, x_ix, x_sl, x_new, x_frz, x_anil, x_acons, x_nop, x_some, x_itE, x_itR, x_itN, x_itZ, x_tru, x_mkL, x_dnil, x_dcons, x_ofP, x_ofP2, x_fld, x_isK, t_tn, t_tt, t_tl, t_nil, t_cons, RS.ofO_some, R.bind_ok, R.bind_exc, R.ofO_some, R.st_ok, R.st_exc, List.getElem?_cons_succ, List.getElem?_cons_zero, List.length_cons, List.length_nil, Nat.reduceAdd, Nat.reduceLT, if_true, Bool.false_eq_true, if_false, Bool.not_true, Bool.not_false, List.set_cons_succ, List.set_cons_zero, Option.map_some, Option.bind_some, o_add, o_sub, o_lt, o_le, o_gt, o_ge, o_eqi, o_nei, o_eqs, o_nes, o_eqb, o_isb, o_isnb, o_isN, o_isnN, b_abs, b_lenl, b_lent, b_tupl, b_tupt, b_lstl, b_lstt, i_ixl, i_ixt, i_srcs, i_srcl, i_srct, i_srcN, g_none, leave_d, fin_nx, fin_rt, fin_exc, at_0, at_1, at_2, at_3, at_4, at_5, tupW1, tupW2, tupW3, tupW4, tupW5, lstW0, lstW1, lstW2, lstW3, lstW4, List.map_cons, List.map_nil, e0, join_ty, i_sll, c3, j1, e1, s1, hc, e2, hadd1, s2, hadd2, ct, x_lc, f0, j2, k1, o_mul, hmw, b_str, if_pos l2w, k2, t1, t2, c2, j3]
    simp only [s_scons, s_snil, s_asg, s_asgLc, s_par, s_aug, s_setix, s_ex, s_ret, s_retN, s_ift, s_brk, s_cnt, s_pss, s_rais, s_raisF, x_var, x_int, x_str, x_bl, x_non, x_gi, x_gs, x_o2, x_ch, x_neg, x_and, x_or, x_one, x_not, x_ife, x_tup, x_lst, x_call, x_bi, x_isi, x_mt, x_ix, x_sl, x_new, x_frz, x_anil, x_acons, x_nop, x_some, x_itE, x_itR, x_itN, x_itZ, x_tru, x_mkL, x_dnil, x_dcons, x_ofP, x_ofP2, x_fld, x_isK, t_tn, t_tt, t_tl, t_nil, t_cons, RS.ofO_some, R.bind_ok, R.bind_exc, R.ofO_some, R.st_ok, R.st_exc, List.getElem?_cons_succ, List.getElem?_cons_zero, List.length_cons, List.length_nil, Nat.reduceAdd, Nat.reduceLT, if_true, Bool.false_eq_true, if_false, Bool.not_true, Bool.not_false, List.set_cons_succ, List.set_cons_zero, Option.map_some, Option.bind_some, o_add, o_sub, o_lt, o_le, o_gt, o_ge, o_eqi, o_nei, o_eqs, o_nes, o_eqb, o_isb, o_isnb, o_isN, o_isnN, b_abs, b_lenl, b_lent, b_tupl, b_tupt, b_lstl, b_lstt, i_ixl, i_ixt, i_srcs, i_srcl, i_srct, i_srcN, g_none, leave_d, fin_nx, fin_rt, fin_exc, at_0, at_1, at_2, at_3, at_4, at_5, tupW1, tupW2, tupW3, tupW4, tupW5, lstW0, lstW1, lstW2, lstW3, lstW4, List.map_cons, List.map_nil, o1, o2', lw6, hS3, ext_ty g3, r1, r2, lL1, x1, ext_ty g4, lL2, x_lc, f1, x2, ext_ty g5, f2, x3, ext_ty g6, f3, x4, t2, i_srcR1, hr5, f4, haddF, hend]
  · rcases List.mem_cons.mp ht with rfl | h
    · exact hbad3
    · exact hub t h
end My

namespace My
open PySem Mi TL
theorem bad_exc (n : Nat) (S : Sto) (t : PySem.Str) (h : Bad t) : (run kn T (n + 4)).run 5 [wS t] S = .exc ⟨"NoText", some ("row", .int 0)⟩ S := by
  refine run_at (fn := f_read_spot) rfl rfl rfl ?_
  show fin S.length (exS _ b_read_spot [some (wS t)] S) = _
  have e := r_spot_of n S t h.2
  rw [h.1] at e
  have e2 : (run kn T (n + 3)).run 4 [.d .none] S = .exc ⟨"NoText", some ("row", .int 0)⟩ S := by
    refine run_at (fn := f_told_or_none) rfl rfl rfl ?_
    show fin S.length (exS _ b_told_or_none [some (.d .none)] S) = _
    unfold b_told_or_none
    simp only [s_scons, s_snil, s_asg, s_asgLc, s_par, s_aug, s_setix, s_ex, s_ret, s_retN, s_ift, s_brk, s_cnt, s_pss, s_rais, s_raisF, x_var, x_int, x_str, x_bl, x_non, x_gi, x_gs, x_o2, x_ch, x_neg, x_and, x_or, x_one, x_not, x_ife, x_tup, x_lst, x_call, x_bi, x_isi, x_mt, x_ix, x_sl, x_new, x_frz, x_anil, x_acons, x_nop, x_some, x_itE, x_itR, x_itN, x_itZ, x_tru, x_mkL, x_dnil, x_dcons, x_ofP, x_ofP2, x_fld, x_isK, t_tn, t_tt, t_tl, t_nil, t_cons, RS.ofO_some, R.bind_ok, R.bind_exc, R.ofO_some, R.st_ok, R.st_exc, List.getElem?_cons_succ, List.getElem?_cons_zero, List.length_cons, List.length_nil, Nat.reduceAdd, Nat.reduceLT, if_true, Bool.false_eq_true, if_false, Bool.not_true, Bool.not_false, List.set_cons_succ, List.set_cons_zero, Option.map_some, Option.bind_some, o_add, o_sub, o_lt, o_le, o_gt, o_ge, o_eqi, o_nei, o_eqs, o_nes, o_eqb, o_isb, o_isnb, o_isN, o_isnN, b_abs, b_lenl, b_lent, b_tupl, b_tupt, b_lstl, b_lstt, i_ixl, i_ixt, i_srcs, i_srcl, i_srct, i_srcN, g_none, leave_d, fin_nx, fin_rt, fin_exc, at_0, at_1, at_2, at_3, at_4, at_5, tupW1, tupW2, tupW3, tupW4, tupW5, lstW0, lstW1, lstW2, lstW3, lstW4, List.map_cons, List.map_nil, List.take_length]
  unfold b_read_spot
  simp only [s_scons, s_snil, s_asg, s_asgLc, s_par, s_aug, s_setix, s_ex, s_ret, s_retN, s_ift, s_brk, s_cnt, s_pss, s_rais, s_raisF, x_var, x_int, x_str, x_bl, x_non, x_gi, x_gs, x_o2, x_ch, x_neg, x_and, x_or, x_one, x_not, x_ife, x_tup, x_lst, x_call, x_bi, x_isi, x_mt, x_ix, x_sl, x_new, x_frz, x_anil, x_acons, x_nop, x_some, x_itE, x_itR, x_itN, x_itZ, x_tru, x_mkL, x_dnil, x_dcons, x_ofP, x_ofP2, x_fld, x_isK, t_tn, t_tt, t_tl, t_nil, t_cons, RS.ofO_some, R.bind_ok, R.bind_exc, R.ofO_some, R.st_ok, R.st_exc, List.getElem?_cons_succ, List.getElem?_cons_zero, List.length_cons, List.length_nil, Nat.reduceAdd, Nat.reduceLT, if_true, Bool.false_eq_true, if_false, Bool.not_true, Bool.not_false, List.set_cons_succ, List.set_cons_zero, Option.map_some, Option.bind_some, o_add, o_sub, o_lt, o_le, o_gt, o_ge, o_eqi, o_nei, o_eqs, o_nes, o_eqb, o_isb, o_isnb, o_isN, o_isnN, b_abs, b_lenl, b_lent, b_tupl, b_tupt, b_lstl, b_lstt, i_ixl, i_ixt, i_srcs, i_srcl, i_srct, i_srcN, g_none, leave_d, fin_nx, fin_rt, fin_exc, at_0, at_1, at_2, at_3, at_4, at_5, tupW1, tupW2, tupW3, tupW4, tupW5, lstW0, lstW1, lstW2, lstW3, lstW4, List.map_cons, List.map_nil, e, e2, List.take_length]
theorem good_read (n : Nat) (S : Sto) (t : PySem.Str) (hw : Wd t) {x y z w : Int} (h : spotD t = t4 x y z w) : (run kn T (n + 4)).run 5 [wS t] S = .ok (.d (t4 x y z w)) S := by
  refine run_at (fn := f_read_spot) rfl rfl rfl ?_
  show fin S.length (exS _ b_read_spot [some (wS t)] S) = _
  have e := r_spot_of n S t hw
  rw [h] at e
  have e2 : (run kn T (n + 3)).run 4 [.d (t4 x y z w)] S = .ok (.d (t4 x y z w)) S := by
    refine run_at (fn := f_told_or_none) rfl rfl rfl ?_
    show fin S.length (exS _ b_told_or_none [some (.d (t4 x y z w))] S) = _
    unfold b_told_or_none
    simp only [s_scons, s_snil, s_asg, s_asgLc, s_par, s_aug, s_setix, s_ex, s_ret, s_retN, s_ift, s_brk, s_cnt, s_pss, s_rais, s_raisF, x_var, x_int, x_str, x_bl, x_non, x_gi, x_gs, x_o2, x_ch, x_neg, x_and, x_or, x_one, x_not, x_ife, x_tup, x_lst, x_call, x_bi, x_isi, x_mt, x_ix, x_sl, x_new, x_frz, x_anil, x_acons, x_nop, x_some, x_itE, x_itR, x_itN, x_itZ, x_tru, x_mkL, x_dnil, x_dcons, x_ofP, x_ofP2, x_fld, x_isK, t_tn, t_tt, t_tl, t_nil, t_cons, RS.ofO_some, R.bind_ok, R.bind_exc, R.ofO_some, R.st_ok, R.st_exc, List.getElem?_cons_succ, List.getElem?_cons_zero, List.length_cons, List.length_nil, Nat.reduceAdd, Nat.reduceLT, if_true, Bool.false_eq_true, if_false, Bool.not_true, Bool.not_false, List.set_cons_succ, List.set_cons_zero, Option.map_some, Option.bind_some, o_add, o_sub, o_lt, o_le, o_gt, o_ge, o_eqi, o_nei, o_eqs, o_nes, o_eqb, o_isb, o_isnb, o_isN, o_isnN, b_abs, b_lenl, b_lent, b_tupl, b_tupt, b_lstl, b_lstt, i_ixl, i_ixt, i_srcs, i_srcl, i_srct, i_srcN, g_none, leave_d, fin_nx, fin_rt, fin_exc, at_0, at_1, at_2, at_3, at_4, at_5, tupW1, tupW2, tupW3, tupW4, tupW5, lstW0, lstW1, lstW2, lstW3, lstW4, List.map_cons, List.map_nil]
    unfold r_told_or_none_0
    simp only [s_scons, s_snil, s_asg, s_asgLc, s_par, s_aug, s_setix, s_ex, s_ret, s_retN, s_ift, s_brk, s_cnt, s_pss, s_rais, s_raisF, x_var, x_int, x_str, x_bl, x_non, x_gi, x_gs, x_o2, x_ch, x_neg, x_and, x_or, x_one, x_not, x_ife, x_tup, x_lst, x_call, x_bi, x_isi, x_mt, x_ix, x_sl, x_new, x_frz, x_anil, x_acons, x_nop, x_some, x_itE, x_itR, x_itN, x_itZ, x_tru, x_mkL, x_dnil, x_dcons, x_ofP, x_ofP2, x_fld, x_isK, t_tn, t_tt, t_tl, t_nil, t_cons, RS.ofO_some, R.bind_ok, R.bind_exc, R.ofO_some, R.st_ok, R.st_exc, List.getElem?_cons_succ, List.getElem?_cons_zero, List.length_cons, List.length_nil, Nat.reduceAdd, Nat.reduceLT, if_true, Bool.false_eq_true, if_false, Bool.not_true, Bool.not_false, List.set_cons_succ, List.set_cons_zero, Option.map_some, Option.bind_some, o_add, o_sub, o_lt, o_le, o_gt, o_ge, o_eqi, o_nei, o_eqs, o_nes, o_eqb, o_isb, o_isnb, o_isN, o_isnN, b_abs, b_lenl, b_lent, b_tupl, b_tupt, b_lstl, b_lstt, i_ixl, i_ixt, i_srcs, i_srcl, i_srct, i_srcN, g_none, leave_d, fin_nx, fin_rt, fin_exc, at_0, at_1, at_2, at_3, at_4, at_5, tupW1, tupW2, tupW3, tupW4, tupW5, lstW0, lstW1, lstW2, lstW3, lstW4, List.map_cons, List.map_nil, List.take_length]
  unfold b_read_spot
  simp only [s_scons, s_snil, s_asg, s_asgLc, s_par, s_aug, s_setix, s_ex, s_ret, s_retN, s_ift, s_brk, s_cnt, s_pss, s_rais, s_raisF, x_var, x_int, x_str, x_bl, x_non, x_gi, x_gs, x_o2, x_ch, x_neg, x_and, x_or, x_one, x_not, x_ife, x_tup, x_lst, x_call, x_bi, x_isi, x_mt, x_ix, x_sl, x_new, x_frz, x_anil, x_acons, x_nop, x_some, x_itE, x_itR, x_itN, x_itZ, x_tru, x_mkL, x_dnil, x_dcons, x_ofP, x_ofP2, x_fld, x_isK, t_tn, t_tt, t_tl, t_nil, t_cons, RS.ofO_some, R.bind_ok, R.bind_exc, R.ofO_some, R.st_ok, R.st_exc, List.getElem?_cons_succ, List.getElem?_cons_zero, List.length_cons, List.length_nil, Nat.reduceAdd, Nat.reduceLT, if_true, Bool.false_eq_true, if_false, Bool.not_true, Bool.not_false, List.set_cons_succ, List.set_cons_zero, Option.map_some, Option.bind_some, o_add, o_sub, o_lt, o_le, o_gt, o_ge, o_eqi, o_nei, o_eqs, o_nes, o_eqb, o_isb, o_isnb, o_isN, o_isnN, b_abs, b_lenl, b_lent, b_tupl, b_tupt, b_lstl, b_lstt, i_ixl, i_ixt, i_srcs, i_srcl, i_srct, i_srcN, g_none, leave_d, fin_nx, fin_rt, fin_exc, at_0, at_1, at_2, at_3, at_4, at_5, tupW1, tupW2, tupW3, tupW4, tupW5, lstW0, lstW1, lstW2, lstW3, lstW4, List.map_cons, List.map_nil, e, e2, List.take_length]
theorem r_refused (n : Nat) (S : Sto) (t : PySem.Str) (h : Bad t) : (run kn T (n + 5)).run 14 [wS t] S = .ok (.d (.bool true)) S := by
  refine run_at (fn := f_law_refused) rfl rfl rfl ?_
  show fin S.length (exS _ b_law_refused [some (wS t), none, none] S) = _
  have e := bad_exc n S t h
  have q0 : kn.ask 0 "NoText" = some true := by decide +kernel
  have q1 : kn.ask 1 "NoText" = some true := by decide +kernel
  have q2 : kn.ask 2 "NoText" = some false := by decide +kernel
  have q3 : kn.ask 3 "NoText" = some true := by decide +kernel
  have hm : ("NoText" : PySem.Str) ∈ [("NoText" : PySem.Str)] := List.mem_singleton.mpr rfl
  have hl : exS (run kn T (n + 4)) l_law_refused_0 [some (wS t), some (.d .none), none] S = .exc ⟨"NoText", some ("row", .int 0)⟩ [some (wS t), some (.d .none), none] S := by
    unfold l_law_refused_0
    simp only [s_scons, s_snil, s_asg, s_asgLc, s_par, s_aug, s_setix, s_ex, s_ret, s_retN, s_ift, s_brk, s_cnt, s_pss, s_rais, s_raisF, x_var, x_int, x_str, x_bl, x_non, x_gi, x_gs, x_o2, x_ch, x_neg, x_and, x_or, x_one, x_not, x_ife, x_tup, x_lst, x_call, x_bi, x_isi, x_mt, x_ix, x_sl, x_new, x_frz, x_anil, x_acons, x_nop, x_some, x_itE, x_itR, x_itN, x_itZ, x_tru, x_mkL, x_dnil, x_dcons, x_ofP, x_ofP2, x_fld, x_isK, t_tn, t_tt, t_tl, t_nil, t_cons, RS.ofO_some, R.bind_ok, R.bind_exc, R.ofO_some, R.st_ok, R.st_exc, List.getElem?_cons_succ, List.getElem?_cons_zero, List.length_cons, List.length_nil, Nat.reduceAdd, Nat.reduceLT, if_true, Bool.false_eq_true, if_false, Bool.not_true, Bool.not_false, List.set_cons_succ, List.set_cons_zero, Option.map_some, Option.bind_some, o_add, o_sub, o_lt, o_le, o_gt, o_ge, o_eqi, o_nei, o_eqs, o_nes, o_eqb, o_isb, o_isnb, o_isN, o_isnN, b_abs, b_lenl, b_lent, b_tupl, b_tupt, b_lstl, b_lstt, i_ixl, i_ixt, i_srcs, i_srcl, i_srct, i_srcN, g_none, leave_d, fin_nx, fin_rt, fin_exc, at_0, at_1, at_2, at_3, at_4, at_5, tupW1, tupW2, tupW3, tupW4, tupW5, lstW0, lstW1, lstW2, lstW3, lstW4, List.map_cons, List.map_nil, e]
  have i1 : ∀ S : Sto, isiW "int" S (wi 0) = some (.d (.bool true)) := fun S => rfl
  have i2 : ∀ S : Sto, isiW "bool" S (wi 0) = some (.d (.bool false)) := fun S => rfl
  have h12 : 2 < 3 ∧ 1 < 3 := ⟨by decide, by decide⟩
  unfold b_law_refused
  simp only [s_scons, s_snil, s_asg, s_asgLc, s_par, s_aug, s_setix, s_ex, s_ret, s_retN, s_ift, s_brk, s_cnt, s_pss, s_rais, s_raisF, x_var, x_int, x_str, x_bl, x_non, x_gi, x_gs, x_o2, x_ch, x_neg, x_and, x_or, x_one, x_not, x_ife, x_tup, x_lst, x_call, x_bi, x_isi, x_mt, x_ix, x_sl, x_new, x_frz, x_anil, x_acons, x_nop, x_some, x_itE, x_itR, x_itN, x_itZ, x_tru, x_mkL, x_dnil, x_dcons, x_ofP, x_ofP2, x_fld, x_isK, t_tn, t_tt, t_tl, t_nil, t_cons, RS.ofO_some, R.bind_ok, R.bind_exc, R.ofO_some, R.st_ok, R.st_exc, List.getElem?_cons_succ, List.getElem?_cons_zero, List.length_cons, List.length_nil, Nat.reduceAdd, Nat.reduceLT, if_true, Bool.false_eq_true, if_false, Bool.not_true, Bool.not_false, List.set_cons_succ, List.set_cons_zero, Option.map_some, Option.bind_some, o_add, o_sub, o_lt, o_le, o_gt, o_ge, o_eqi, o_nei, o_eqs, o_nes, o_eqb, o_isb, o_isnb, o_isN, o_isnN, b_abs, b_lenl, b_lent, b_tupl, b_tupt, b_lstl, b_lstt, i_ixl, i_ixt, i_srcs, i_srcl, i_srct, i_srcN, g_none, leave_d, fin_nx, fin_rt, fin_exc, at_0, at_1, at_2, at_3, at_4, at_5, tupW1, tupW2, tupW3, tupW4, tupW5, lstW0, lstW1, lstW2, lstW3, lstW4, List.map_cons, List.map_nil, s_tryK, hl, run_kn, q3, and_self]
  unfold r_law_refused_2
  simp only [s_scons, s_snil, s_asg, s_asgLc, s_par, s_aug, s_setix, s_ex, s_ret, s_retN, s_ift, s_brk, s_cnt, s_pss, s_rais, s_raisF, x_var, x_int, x_str, x_bl, x_non, x_gi, x_gs, x_o2, x_ch, x_neg, x_and, x_or, x_one, x_not, x_ife, x_tup, x_lst, x_call, x_bi, x_isi, x_mt, x_ix, x_sl, x_new, x_frz, x_anil, x_acons, x_nop, x_some, x_itE, x_itR, x_itN, x_itZ, x_tru, x_mkL, x_dnil, x_dcons, x_ofP, x_ofP2, x_fld, x_isK, t_tn, t_tt, t_tl, t_nil, t_cons, RS.ofO_some, R.bind_ok, R.bind_exc, R.ofO_some, R.st_ok, R.st_exc, List.getElem?_cons_succ, List.getElem?_cons_zero, List.length_cons, List.length_nil, Nat.reduceAdd, Nat.reduceLT, if_true, Bool.false_eq_true, if_false, Bool.not_true, Bool.not_false, List.set_cons_succ, List.set_cons_zero, Option.map_some, Option.bind_some, o_add, o_sub, o_lt, o_le, o_gt, o_ge, o_eqi, o_nei, o_eqs, o_nes, o_eqb, o_isb, o_isnb, o_isN, o_isnN, b_abs, b_lenl, b_lent, b_tupl, b_tupt, b_lstl, b_lstt, i_ixl, i_ixt, i_srcs, i_srcl, i_srct, i_srcN, g_none, leave_d, fin_nx, fin_rt, fin_exc, at_0, at_1, at_2, at_3, at_4, at_5, tupW1, tupW2, tupW3, tupW4, tupW5, lstW0, lstW1, lstW2, lstW3, lstW4, List.map_cons, List.map_nil, run_kn, q2]
  unfold r_law_refused_1
  simp only [s_scons, s_snil, s_asg, s_asgLc, s_par, s_aug, s_setix, s_ex, s_ret, s_retN, s_ift, s_brk, s_cnt, s_pss, s_rais, s_raisF, x_var, x_int, x_str, x_bl, x_non, x_gi, x_gs, x_o2, x_ch, x_neg, x_and, x_or, x_one, x_not, x_ife, x_tup, x_lst, x_call, x_bi, x_isi, x_mt, x_ix, x_sl, x_new, x_frz, x_anil, x_acons, x_nop, x_some, x_itE, x_itR, x_itN, x_itZ, x_tru, x_mkL, x_dnil, x_dcons, x_ofP, x_ofP2, x_fld, x_isK, t_tn, t_tt, t_tl, t_nil, t_cons, RS.ofO_some, R.bind_ok, R.bind_exc, R.ofO_some, R.st_ok, R.st_exc, List.getElem?_cons_succ, List.getElem?_cons_zero, List.length_cons, List.length_nil, Nat.reduceAdd, Nat.reduceLT, if_true, Bool.false_eq_true, if_false, Bool.not_true, Bool.not_false, List.set_cons_succ, List.set_cons_zero, Option.map_some, Option.bind_some, o_add, o_sub, o_lt, o_le, o_gt, o_ge, o_eqi, o_nei, o_eqs, o_nes, o_eqb, o_isb, o_isnb, o_isN, o_isnN, b_abs, b_lenl, b_lent, b_tupl, b_tupt, b_lstl, b_lstt, i_ixl, i_ixt, i_srcs, i_srcl, i_srct, i_srcN, g_none, leave_d, fin_nx, fin_rt, fin_exc, at_0, at_1, at_2, at_3, at_4, at_5, tupW1, tupW2, tupW3, tupW4, tupW5, lstW0, lstW1, lstW2, lstW3, lstW4, List.map_cons, List.map_nil, run_kn, q0, q1]
  unfold r_law_refused_0
  simp only [s_scons, s_snil, s_asg, s_asgLc, s_par, s_aug, s_setix, s_ex, s_ret, s_retN, s_ift, s_brk, s_cnt, s_pss, s_rais, s_raisF, x_var, x_int, x_str, x_bl, x_non, x_gi, x_gs, x_o2, x_ch, x_neg, x_and, x_or, x_one, x_not, x_ife, x_tup, x_lst, x_call, x_bi, x_isi, x_mt, x_ix, x_sl, x_new, x_frz, x_anil, x_acons, x_nop, x_some, x_itE, x_itR, x_itN, x_itZ, x_tru, x_mkL, x_dnil, x_dcons, x_ofP, x_ofP2, x_fld, x_isK, t_tn, t_tt, t_tl, t_nil, t_cons, RS.ofO_some, R.bind_ok, R.bind_exc, R.ofO_some, R.st_ok, R.st_exc, List.getElem?_cons_succ, List.getElem?_cons_zero, List.length_cons, List.length_nil, Nat.reduceAdd, Nat.reduceLT, if_true, Bool.false_eq_true, if_false, Bool.not_true, Bool.not_false, List.set_cons_succ, List.set_cons_zero, Option.map_some, Option.bind_some, o_add, o_sub, o_lt, o_le, o_gt, o_ge, o_eqi, o_nei, o_eqs, o_nes, o_eqb, o_isb, o_isnb, o_isN, o_isnN, b_abs, b_lenl, b_lent, b_tupl, b_tupt, b_lstl, b_lstt, i_ixl, i_ixt, i_srcs, i_srcl, i_srct, i_srcN, g_none, leave_d, fin_nx, fin_rt, fin_exc, at_0, at_1, at_2, at_3, at_4, at_5, tupW1, tupW2, tupW3, tupW4, tupW5, lstW0, lstW1, lstW2, lstW3, lstW4, List.map_cons, List.map_nil, hm, and_self, i1, i2, beq_self_eq_true, List.take_length]
theorem NS_one {w : Int} (h1 : 1 ≤ w) (hw : w.natAbs < 10 ^ 30) : (NS w = Str.ofString "1") ↔ w = 1 := by
  constructor
  · intro h
    have e1 := NS_int hw
    rw [h] at e1
    have e2 : intText? (Str.ofString "1") = some 1 := by decide +kernel
    rw [e2] at e1
    exact (Option.some.inj e1).symm
  · rintro rfl
    decide +kernel
theorem law_good {x y z w : Int} (hx : x.natAbs < 10 ^ 30) (hy : y.natAbs < 10 ^ 30) (hz : z.natAbs < 10 ^ 30) (hw : w.natAbs < 10 ^ 30) (h1 : 1 ≤ w) (hg : gcd4 x y z w = 1) :
    spotD (txt [NS x, NS y, NS z] (if NS w = Str.ofString "1" then none else some (NS w))) = t4 x y z w ∧ Wd (txt [NS x, NS y, NS z] (if NS w = Str.ofString "1" then none else some (NS w))) := by
  have l : ∀ {a : Int}, a.natAbs < 10 ^ 30 → Low (NS a) 64 := fun h => (low_NS h).mono (by decide)
  refine ⟨?_, (low_txt3 (l hx) (l hy) (l hz) (fun e he => ?_)).wd (by decide)⟩
  · rw [spot_txt (by simp) (mem3 (NS_free _) (NS_free _) (NS_free _))]
    by_cases hw1 : w = 1
    · rw [if_pos ((NS_one h1 hw).mpr hw1)]
      show spotOf [wholeD (tl (NS x)), wholeD (tl (NS y)), wholeD (tl (NS z))] (some 1) false = _
      rw [wholeD_NS hx, wholeD_NS hy, wholeD_NS hz, hw1]
      rw [hw1] at hg
      show (if (1 : Int) < 1 then PyData.none else if false = true ∧ (1 : Int) = 1 then .none else if gcd4 x y z 1 = 1 then t4 x y z 1 else .none) = _
      rw [if_neg (by decide), if_neg (by simp), if_pos hg]
    · rw [if_neg (fun z => hw1 ((NS_one h1 hw).mp z))]
      show spotOf [wholeD (tl (NS x)), wholeD (tl (NS y)), wholeD (tl (NS z))] (wholeD (tl (NS w))) true = _
      rw [wholeD_NS hx, wholeD_NS hy, wholeD_NS hz, wholeD_NS hw]
      show (if w < 1 then PyData.none else if true = true ∧ w = 1 then .none else if gcd4 x y z w = 1 then t4 x y z w else .none) = _
      rw [if_neg (by omega), if_neg (by simpa using hw1), if_pos hg]
  · split at he
    · cases he
    · cases he
      exact l hw
/-! ### lowest terms -/
theorem low_one {a : Int} {g : Nat} (h0 : 0 < g) (hd : g ∣ a.natAbs) : a.natAbs = g * (a.fdiv g).natAbs ∧ (1 ≤ a → 1 ≤ a.fdiv g) := by
  obtain ⟨k, hk⟩ := Int.ofNat_dvd_left.mpr hd
  have e : a.fdiv g = k := by
    rw [hk, Int.fdiv_eq_ediv_of_nonneg _ (by omega), Int.mul_ediv_cancel_left _ (by omega)]
  rw [e]
  refine ⟨by rw [hk, Int.natAbs_mul, Int.natAbs_natCast], fun h1 => ?_⟩
  rw [hk] at h1
  by_cases hk0 : 1 ≤ k
  · exact hk0
  · have : (g : Int) * k ≤ 0 := Int.mul_nonpos_of_nonneg_of_nonpos (by omega) (by omega)
    omega
theorem le_mul {a g k : Nat} (h : a = g * k) (h0 : 0 < g) : k ≤ a := by
  rw [h]
  exact Nat.le_mul_of_pos_left k h0
theorem low4 (a b c d : Int) (h1 : 1 ≤ d) : ∃ g : Nat, gcdF 0 [a, b, c, d] = g ∧ 0 < g ∧ g ≤ d.natAbs ∧
    (a.fdiv g).natAbs ≤ a.natAbs ∧ (b.fdiv g).natAbs ≤ b.natAbs ∧ (c.fdiv g).natAbs ≤ c.natAbs ∧ (d.fdiv g).natAbs ≤ d.natAbs ∧ 1 ≤ d.fdiv g ∧ gcd4 (a.fdiv g) (b.fdiv g) (c.fdiv g) (d.fdiv g) = 1 := by
  obtain ⟨_, hdv⟩ := gcdF_div [a, b, c, d] 0
  have e : gcdF 0 [a, b, c, d] = Nat.gcd (Nat.gcd a.natAbs b.natAbs) (Nat.gcd c.natAbs d.natAbs) := by
    show Nat.gcd (Nat.gcd (Nat.gcd (Nat.gcd 0 a.natAbs) b.natAbs) c.natAbs) d.natAbs = _
    rw [Nat.gcd_zero_left, Nat.gcd_assoc (Nat.gcd a.natAbs b.natAbs)]
  generalize hg : gcdF 0 [a, b, c, d] = g at hdv e
  have da := hdv a (by simp)
  have db := hdv b (by simp)
  have dc := hdv c (by simp)
  have dd := hdv d (by simp)
  have h0 : 0 < g := Nat.pos_of_ne_zero fun z => by
    rw [z] at dd
    have := Nat.eq_zero_of_zero_dvd dd
    omega
  obtain ⟨a1, _⟩ := low_one h0 da
  obtain ⟨b1, _⟩ := low_one h0 db
  obtain ⟨c1, _⟩ := low_one h0 dc
  obtain ⟨d1, d2⟩ := low_one h0 dd
  refine ⟨g, rfl, h0, Nat.le_of_dvd (by omega) dd, le_mul a1 h0, le_mul b1 h0, le_mul c1 h0, le_mul d1 h0, d2 h1, ?_⟩
  unfold gcd4
  generalize (a.fdiv g).natAbs = p at a1 ⊢
  generalize (b.fdiv g).natAbs = q at b1 ⊢
  generalize (c.fdiv g).natAbs = r at c1 ⊢
  generalize (d.fdiv g).natAbs = s at d1 ⊢
  rw [a1, b1, c1, d1, Nat.gcd_mul_left, Nat.gcd_mul_left, Nat.gcd_mul_left] at e
  exact (Nat.mul_left_cancel h0 (by rw [Nat.mul_one]; exact e)).symm
/-! ### the law -/
theorem refuse_all (n : Nat) (S : Sto) (o : List (Option W)) (ho : o.length = 6) : ∀ (ts : List PySem.Str) (q r : Option W), (∀ t ∈ ts, Bad t) → ∃ q', forGo none (fun x ρ' S2 => bindT S2 (.tn 6) x ρ') (fun ρ' S2 => exS (run kn T (n + 5)) l_law_0 ρ' S2) ((ts.map PyData.str).map .d) (o ++ [q, r]) S = .nx (o ++ [q', r]) S
  | [], q, r, _ => ⟨q, rfl⟩
  | t :: ts, q, r, h => by
    obtain ⟨q', e⟩ := refuse_all n S o ho ts (some (wS t)) r fun u hu => h u (List.mem_cons_of_mem _ hu)
    refine ⟨q', ?_⟩
    match o, ho with
    | [a, b, c, d, f, g], _ =>
      have er := r_refused n S t (h t (List.mem_cons_self ..))
      rw [List.map_cons, List.map_cons]
      conv => lhs; unfold forGo
      rw [g_none, if_pos rfl]
      have hb : exS (run kn T (n + 5)) l_law_0 [a, b, c, d, f, g, some (wS t), r] S = .nx [a, b, c, d, f, g, some (wS t), r] S := by
        unfold l_law_0
        simp only [s_scons, s_snil, s_asg, s_asgLc, s_par, s_aug, s_setix, s_ex, s_ret, s_retN, s_ift, s_brk, s_cnt, s_pss, s_rais, s_raisF, x_var, x_int, x_str, x_bl, x_non, x_gi, x_gs, x_o2, x_ch, x_neg, x_and, x_or, x_one, x_not, x_ife, x_tup, x_lst, x_call, x_bi, x_isi, x_mt, x_ix, x_sl, x_new, x_frz, x_anil, x_acons, x_nop, x_some, x_itE, x_itR, x_itN, x_itZ, x_tru, x_mkL, x_dnil, x_dcons, x_ofP, x_ofP2, x_fld, x_isK, t_tn, t_tt, t_tl, t_nil, t_cons, RS.ofO_some, R.bind_ok, R.bind_exc, R.ofO_some, R.st_ok, R.st_exc, List.getElem?_cons_succ, List.getElem?_cons_zero, List.length_cons, List.length_nil, Nat.reduceAdd, Nat.reduceLT, if_true, Bool.false_eq_true, if_false, Bool.not_true, Bool.not_false, List.set_cons_succ, List.set_cons_zero, Option.map_some, Option.bind_some, o_add, o_sub, o_lt, o_le, o_gt, o_ge, o_eqi, o_nei, o_eqs, o_nes, o_eqb, o_isb, o_isnb, o_isN, o_isnN, b_abs, b_lenl, b_lent, b_tupl, b_tupt, b_lstl, b_lstt, i_ixl, i_ixt, i_srcs, i_srcl, i_srct, i_srcN, g_none, leave_d, fin_nx, fin_rt, fin_exc, at_0, at_1, at_2, at_3, at_4, at_5, tupW1, tupW2, tupW3, tupW4, tupW5, lstW0, lstW1, lstW2, lstW3, lstW4, List.map_cons, List.map_nil, er]
      have ht : bindT S (.tn 6) (wS t) [a, b, c, d, f, g, q, r] = some [a, b, c, d, f, g, some (wS t), r] := by simp
      simp only [List.cons_append, List.nil_append] at e ⊢
      simp only [ht, hb]
      exact e
theorem law_body (n : Nat) (S : Sto) (s q a b d e f : Option W) (c : Int) : ∃ q' a' b' d' e' f' S', exS (run kn T (n + 6)) l_law_1 [s, some (wi c), q, a, b, d, e, f] S = .nx [s, some (wi c), q', a', b', d', e', f'] S' := by
  obtain ⟨v, ev⟩ := r_left (n + 5) S c
  generalize hS1 : S ++ [cellM v] = S1 at ev
  have p1 : S1[S.length]? = some (cellM v) := by rw [← hS1]; exact get_last
  have en := r_next (n + 5) S1 S.length v 3 p1 (by decide) (by decide)
  obtain ⟨a0, a1⟩ := fmod_nn (a := v) (b := 3) (by decide)
  obtain ⟨sp, hsp, hs0, hs1⟩ : ∃ sp : Int, L2.atI [PyData.int 3, .int 1000, .int (10 ^ (28 : Int).toNat)] (v.fmod 3) = some (.int sp) ∧ 0 < sp ∧ sp ≤ 10 ^ 28 := by
    have : v.fmod 3 = 0 ∨ v.fmod 3 = 1 ∨ v.fmod 3 = 2 := by omega
    rcases this with h | h | h <;> rw [h]
    · exact ⟨3, rfl, by decide, by decide⟩
    · exact ⟨1000, rfl, by decide, by decide⟩
    · exact ⟨10 ^ 28, rfl, by decide, by decide⟩
  generalize hS2 : S1.set S.length (cellM (v.fdiv 3)) = S2 at en
  have p2 : S2[S.length]? = some (cellM (v.fdiv 3)) := by rw [← hS2]; exact get_set p1
  have hm2 : mulOk 2 sp = true := mul_lt _ _ (by decide) (by omega)
  have hr3 : rngOk 3 = true := by decide
  have hp28 : powOk 10 28 = true := by decide
  have b1 := r_next (n + 5) S2 S.length (v.fdiv 3) (2 * sp + 1) p2 (by omega) (by omega)
  generalize hv3 : (v.fdiv 3).fdiv (2 * sp + 1) = v3 at b1
  obtain ⟨x0, x1⟩ := fmod_nn (a := v.fdiv 3) (b := 2 * sp + 1) (by omega)
  generalize (v.fdiv 3).fmod (2 * sp + 1) = x' at b1 x0 x1
  generalize hS3 : S2.set S.length (cellM v3) = S3 at b1
  have p3 : S3[S.length]? = some (cellM v3) := by rw [← hS3]; exact get_set p2
  have b2 := r_next (n + 5) S3 S.length v3 (2 * sp + 1) p3 (by omega) (by omega)
  obtain ⟨y0, y1⟩ := fmod_nn (a := v3) (b := 2 * sp + 1) (by omega)
  generalize v3.fmod (2 * sp + 1) = y' at b2 y0 y1
  generalize v3.fdiv (2 * sp + 1) = v4 at b2
  generalize hS4 : S3.set S.length (cellM v4) = S4 at b2
  have p4 : S4[S.length]? = some (cellM v4) := by rw [← hS4]; exact get_set p3
  have b3 := r_next (n + 5) S4 S.length v4 (2 * sp + 1) p4 (by omega) (by omega)
  obtain ⟨z0, z1⟩ := fmod_nn (a := v4) (b := 2 * sp + 1) (by omega)
  generalize v4.fmod (2 * sp + 1) = z' at b3 z0 z1
  generalize v4.fdiv (2 * sp + 1) = v5 at b3
  generalize hS5 : S4.set S.length (cellM v5) = S5 at b3
  have p5 : S5[S.length]? = some (cellM v5) := by rw [← hS5]; exact get_set p4
  have b4 := r_next (n + 5) S5 S.length v5 12 p5 (by decide) (by decide)
  obtain ⟨w0, w1⟩ := fmod_nn (a := v5) (b := 12) (by decide)
  generalize v5.fmod 12 = w' at b4 w0 w1
  generalize v5.fdiv 12 = v6 at b4
  generalize hS6 : S5.set S.length (cellM v6) = S6 at b4
  have p6 : S6[S.length]? = some (cellM v6) := by rw [← hS6]; exact get_set p5
  obtain ⟨g, hg, g0, g1, ba, bb, bc, bd, bw1, hgc⟩ := low4 (x' - sp) (y' - sp) (z' - sp) (1 + w') (by omega)
  have elow : (run kn T (n + 6)).run 9 [.d (.list [.int (x' - sp), .int (y' - sp), .int (z' - sp), .int (1 + w')])] S6 = .ok (.d (t4 ((x' - sp).fdiv g) ((y' - sp).fdiv g) ((z' - sp).fdiv g) ((1 + w').fdiv g))) S6 := by
    refine r_lowest (n + 4) S6 [x' - sp, y' - sp, z' - sp, 1 + w'] (fun q hq => ?_) (by show 4 ≤ 1000000; decide) g hg g0 (by omega)
    simp only [List.mem_cons, List.not_mem_nil, or_false] at hq
    rcases hq with rfl | rfl | rfl | rfl <;> exact big30 (by omega)
  generalize (x' - sp).fdiv g = x at elow ba hgc
  generalize (y' - sp).fdiv g = y at elow bb hgc
  generalize (z' - sp).fdiv g = z at elow bc hgc
  generalize (1 + w').fdiv g = w at elow bd bw1 hgc
  have hx : x.natAbs ≤ 10 ^ 28 := by omega
  have hy : y.natAbs ≤ 10 ^ 28 := by omega
  have hz : z.natAbs ≤ 10 ^ 28 := by omega
  have hw2 : w ≤ 100 := by omega
  obtain ⟨ts, v7, esp, hts⟩ := r_spoilt (n + 3) S6 S.length v6 x y z w p6 hx hy hz bw1 hw2
  generalize hS7 : S6.set S.length (cellM v7) = S7 at esp
  obtain ⟨q', efor⟩ := refuse_all (n + 1) S7 [s, some (wi c), some (.ptr S.length), some (wi sp), some (.d (.list [.int (x' - sp), .int (y' - sp), .int (z' - sp)])), some (.d (t4 x y z w))] rfl ts e f hts
  have bx : x.natAbs < 10 ^ 30 := by omega
  have by' : y.natAbs < 10 ^ 30 := by omega
  have bz : z.natAbs < 10 ^ 30 := by omega
  have bw : w.natAbs < 10 ^ 30 := by omega
  have ew := r_words (n + 5) S7 x y z w bx by' bz bw
  have l : ∀ {a : Int}, a.natAbs < 10 ^ 30 → Low (NS a) 100 := fun h => (low_NS h).mono (by decide)
  have ej := r_joined (n + 5) S7 (NS x) (NS y) (NS z) (NS w) (l bx) (l by') (l bz) (l bw)
  obtain ⟨hgd, hgw⟩ := law_good bx by' bz bw bw1 hgc
  have er := good_read (n + 2) S7 _ hgw hgd
  generalize txt [NS x, NS y, NS z] (if NS w = Str.ofString "1" then none else some (NS w)) = tt at ej er
  have hne := o_neT (S := S7) [x, y, z, w] [x, y, z, w]
  simp only [List.map_cons, List.map_nil, decide_true, Bool.not_true] at hne ew ej
  have hadd : o2 .add S5 (.d (.list [.int (x' - sp), .int (y' - sp), .int (z' - sp)])) (.d (.list [.int (1 + w')])) = some (.d (.list [.int (x' - sp), .int (y' - sp), .int (z' - sp), .int (1 + w')])) := rfl
  have hadd6 : o2 .add S6 (.d (.list [.int (x' - sp), .int (y' - sp), .int (z' - sp)])) (.d (.list [.int (1 + w')])) = some (.d (.list [.int (x' - sp), .int (y' - sp), .int (z' - sp), .int (1 + w')])) := rfl
  have hlim : lim = 1000000 := rfl
  have elc : lcGo none (fun x S2 => bindT S2 (.tn 7) x (wipeR [s, some (wi c), some (.ptr S.length), some (wi sp), b, d, e, f] [7])) (fun ρ' S2 => evT (run kn T (n + 6)) .anil ρ' S2) (fun ρ' S2 => evE (run kn T (n + 6)) (.o2 .sub (.call 6 (.acons (.var 2) (.acons (.o2 .add (.o2 .mul (.int 2) (.var 3)) (.int 1)) .anil))) (.var 3)) ρ' S2) (rngL 0 (3 : Int).toNat) S2 [] = .ok (.d (.list [.int (x' - sp), .int (y' - sp), .int (z' - sp)])) S5 := by
    have hrng : rngL 0 (3 : Int).toNat = [wi 0, wi 1, wi 2] := rfl
    have hb : ∀ (S : Sto) (k : Int), bindT S (.tn 7) (wi k) (wipeR [s, some (wi c), some (.ptr S1.length.pred), some (wi sp), b, d, e, f] [7]) = some [s, some (wi c), some (.ptr S1.length.pred), some (wi sp), b, d, e, some (wi k)] := fun S k => by simp [wipeR]
    have hpl : S1.length.pred = S.length := by rw [← hS1]; simp
    rw [hpl] at hb
    rw [hrng]
    simp only [lcGo, g_none, if_true, hb, x_tnil]
    simp only [s_scons, s_snil, s_asg, s_asgLc, s_par, s_aug, s_setix, s_ex, s_ret, s_retN, s_ift, s_brk, s_cnt, s_pss, s_rais, s_raisF, x_var, x_int, x_str, x_bl, x_non, x_gi, x_gs, x_o2, x_ch, x_neg, x_and, x_or, x_one, x_not, x_ife, x_tup, x_lst, x_call, x_bi, x_isi, x_mt, x_ix, x_sl, x_new, x_frz, x_anil, x_acons, x_nop, x_some, x_itE, x_itR, x_itN, x_itZ, x_tru, x_mkL, x_dnil, x_dcons, x_ofP, x_ofP2, x_fld, x_isK, t_tn, t_tt, t_tl, t_nil, t_cons, RS.ofO_some, R.bind_ok, R.bind_exc, R.ofO_some, R.st_ok, R.st_exc, List.getElem?_cons_succ, List.getElem?_cons_zero, List.length_cons, List.length_nil, Nat.reduceAdd, Nat.reduceLT, if_true, Bool.false_eq_true, if_false, Bool.not_true, Bool.not_false, List.set_cons_succ, List.set_cons_zero, Option.map_some, Option.bind_some, o_add, o_sub, o_lt, o_le, o_gt, o_ge, o_eqi, o_nei, o_eqs, o_nes, o_eqb, o_isb, o_isnb, o_isN, o_isnN, b_abs, b_lenl, b_lent, b_tupl, b_tupt, b_lstl, b_lstt, i_ixl, i_ixt, i_srcs, i_srcl, i_srct, i_srcN, g_none, leave_d, fin_nx, fin_rt, fin_exc, at_0, at_1, at_2, at_3, at_4, at_5, tupW1, tupW2, tupW3, tupW4, tupW5, lstW0, lstW1, lstW2, lstW3, lstW4, List.map_cons, List.map_nil, o_mul, hm2, b1, b2, b3, hlim, Nat.reduceAdd, Nat.reduceLT, List.nil_append, List.cons_append, List.length_cons, List.length_nil]
  refine ⟨some (.ptr S.length), some (wi sp), some (.d (.list [.int (x' - sp), .int (y' - sp), .int (z' - sp)])), some (.d (t4 x y z w)), q', f, S7, ?_⟩
  unfold l_law_1
  simp only [s_scons, s_snil, s_asg, s_asgLc, s_par, s_aug, s_setix, s_ex, s_ret, s_retN, s_ift, s_brk, s_cnt, s_pss, s_rais, s_raisF, x_var, x_int, x_str, x_bl, x_non, x_gi, x_gs, x_o2, x_ch, x_neg, x_and, x_or, x_one, x_not, x_ife, x_tup, x_lst, x_call, x_bi, x_isi, x_mt, x_ix, x_sl, x_new, x_frz, x_anil, x_acons, x_nop, x_some, x_itE, x_itR, x_itN, x_itZ, x_tru, x_mkL, x_dnil, x_dcons, x_ofP, x_ofP2, x_fld, x_isK, t_tn, t_tt, t_tl, t_nil, t_cons, RS.ofO_some, R.bind_ok, R.bind_exc, R.ofO_some, R.st_ok, R.st_exc, List.getElem?_cons_succ, List.getElem?_cons_zero, List.length_cons, List.length_nil, Nat.reduceAdd, Nat.reduceLT, if_true, Bool.false_eq_true, if_false, Bool.not_true, Bool.not_false, List.set_cons_succ, List.set_cons_zero, Option.map_some, Option.bind_some, o_add, o_sub, o_lt, o_le, o_gt, o_ge, o_eqi, o_nei, o_eqs, o_nes, o_eqb, o_isb, o_isnb, o_isN, o_isnN, b_abs, b_lenl, b_lent, b_tupl, b_tupt, b_lstl, b_lstt, i_ixl, i_ixt, i_srcs, i_srcl, i_srct, i_srcN, g_none, leave_d, fin_nx, fin_rt, fin_exc, at_0, at_1, at_2, at_3, at_4, at_5, tupW1, tupW2, tupW3, tupW4, tupW5, lstW0, lstW1, lstW2, lstW3, lstW4, List.map_cons, List.map_nil, ev, en, o_pow, hp28, hsp, i_srcR1, hr3, x_lc, elc, b4, hadd6, elow, esp, s_for]
  simp only [List.cons_append, List.nil_append] at efor
  simp only [efor]
  unfold r_law_1
  simp only [s_scons, s_snil, s_asg, s_asgLc, s_par, s_aug, s_setix, s_ex, s_ret, s_retN, s_ift, s_brk, s_cnt, s_pss, s_rais, s_raisF, x_var, x_int, x_str, x_bl, x_non, x_gi, x_gs, x_o2, x_ch, x_neg, x_and, x_or, x_one, x_not, x_ife, x_tup, x_lst, x_call, x_bi, x_isi, x_mt, x_ix, x_sl, x_new, x_frz, x_anil, x_acons, x_nop, x_some, x_itE, x_itR, x_itN, x_itZ, x_tru, x_mkL, x_dnil, x_dcons, x_ofP, x_ofP2, x_fld, x_isK, t_tn, t_tt, t_tl, t_nil, t_cons, RS.ofO_some, R.bind_ok, R.bind_exc, R.ofO_some, R.st_ok, R.st_exc, List.getElem?_cons_succ, List.getElem?_cons_zero, List.length_cons, List.length_nil, Nat.reduceAdd, Nat.reduceLT, if_true, Bool.false_eq_true, if_false, Bool.not_true, Bool.not_false, List.set_cons_succ, List.set_cons_zero, Option.map_some, Option.bind_some, o_add, o_sub, o_lt, o_le, o_gt, o_ge, o_eqi, o_nei, o_eqs, o_nes, o_eqb, o_isb, o_isnb, o_isN, o_isnN, b_abs, b_lenl, b_lent, b_tupl, b_tupt, b_lstl, b_lstt, i_ixl, i_ixt, i_srcs, i_srcl, i_srct, i_srcN, g_none, leave_d, fin_nx, fin_rt, fin_exc, at_0, at_1, at_2, at_3, at_4, at_5, tupW1, tupW2, tupW3, tupW4, tupW5, lstW0, lstW1, lstW2, lstW3, lstW4, List.map_cons, List.map_nil, ew, ej, er, hne]
theorem law_true : ∀ ns : List Int, ns.length ≤ 63 → (∀ k ∈ ns, Builtin.Int.intBits k ≤ 1048576) → ∃ S, (run kn T 20).run 15 [.d (.list (ns.map .int))] [] = .ok (.d (.bool true)) S := by
  intro ns hz _
  have ea : o2 .add [] (.d (.list [.int 0])) (.d (.list (ns.map .int))) = some (.d (.list ((0 :: ns).map .int))) := by
    show (if [PyData.int 0].length + (ns.map PyData.int).length ≤ lim then some (W.d (.list ([PyData.int 0] ++ ns.map .int))) else none) = _
    rw [if_pos (by rw [List.length_map]; show 1 + _ ≤ 1000000; omega)]
    rfl
  obtain ⟨ρ', S', ef, q, c, a, b, d, e, f, rfl⟩ := for_invS (bt := fun x ρ' S2 => bindT S2 (.tn 1) x ρ') (body := fun ρ' S2 => exS (run kn T 19) l_law_1 ρ' S2) (fun _ ρ _ => ∃ c q a b d e f, ρ = [some (.d (.list (ns.map .int))), c, q, a, b, d, e, f]) (((0 :: ns).map PyData.int).map W.d) 0 [some (.d (.list (ns.map .int))), none, none, none, none, none, none, none] [] ⟨_, _, _, _, _, _, _, rfl⟩ (fun i x ρ S1 hx hI => by
    obtain ⟨c, q, a, b, d, e, f, rfl⟩ := hI
    rw [List.map_map, List.getElem?_map] at hx
    cases hc : (0 :: ns)[i]? with
    | none => rw [hc] at hx; cases hx
    | some cell =>
      rw [hc] at hx
      cases hx
      obtain ⟨q', a', b', d', e', f', S2, e1⟩ := law_body 13 S1 (some (.d (.list (ns.map .int)))) q a b d e f cell
      exact ⟨_, _, _, by simp, e1, _, _, _, _, _, _, _, rfl⟩)
  refine ⟨[], run_at (fn := f_law) rfl rfl rfl ?_⟩
  show fin 0 (exS (run kn T 19) b_law [some (.d (.list (ns.map .int))), none, none, none, none, none, none, none] []) = _
  simp only [List.map_cons] at ef
  unfold b_law
  simp only [s_scons, s_snil, s_asg, s_asgLc, s_par, s_aug, s_setix, s_ex, s_ret, s_retN, s_ift, s_brk, s_cnt, s_pss, s_rais, s_raisF, x_var, x_int, x_str, x_bl, x_non, x_gi, x_gs, x_o2, x_ch, x_neg, x_and, x_or, x_one, x_not, x_ife, x_tup, x_lst, x_call, x_bi, x_isi, x_mt, x_ix, x_sl, x_new, x_frz, x_anil, x_acons, x_nop, x_some, x_itE, x_itR, x_itN, x_itZ, x_tru, x_mkL, x_dnil, x_dcons, x_ofP, x_ofP2, x_fld, x_isK, t_tn, t_tt, t_tl, t_nil, t_cons, RS.ofO_some, R.bind_ok, R.bind_exc, R.ofO_some, R.st_ok, R.st_exc, List.getElem?_cons_succ, List.getElem?_cons_zero, List.length_cons, List.length_nil, Nat.reduceAdd, Nat.reduceLT, if_true, Bool.false_eq_true, if_false, Bool.not_true, Bool.not_false, List.set_cons_succ, List.set_cons_zero, Option.map_some, Option.bind_some, o_add, o_sub, o_lt, o_le, o_gt, o_ge, o_eqi, o_nei, o_eqs, o_nes, o_eqb, o_isb, o_isnb, o_isN, o_isnN, b_abs, b_lenl, b_lent, b_tupl, b_tupt, b_lstl, b_lstt, i_ixl, i_ixt, i_srcs, i_srcl, i_srct, i_srcN, g_none, leave_d, fin_nx, fin_rt, fin_exc, at_0, at_1, at_2, at_3, at_4, at_5, tupW1, tupW2, tupW3, tupW4, tupW5, lstW0, lstW1, lstW2, lstW3, lstW4, List.map_cons, List.map_nil, s_for, ea, ef]
  unfold r_law_0
  simp
end My

open PySem PySem.W PySem.Calls PyProof.Rows
theorem PySem.Challenge.cw_boardsight_k85_no_spots_holds : PySem.Challenge.rw_boardsight_k85_no_spots.Holds := by
  w_on; o_law
  refine HandSHeadRun.head_any (r := OpenLaw.row PySem.Challenge.rw_boardsight_k85_no_spots) (q := view (OpenLaw.row PySem.Challenge.rw_boardsight_k85_no_spots).prog [35]) (H := My.hk) (ob := My.ob) (M := 8000) (loose := My.loose) (d := HandSHeadRun.topDef (OpenLaw.row PySem.Challenge.rw_boardsight_k85_no_spots).prog 35) (kwd := []) My.ob_eq
    (by kernel_rfl) (fun s => by kernel_rfl) My.run_ (by kernel_rfl) (by kernel_rfl) (by kernel_rfl) (by rfl) (by first | assumption | decide +kernel) (by decide +kernel) ⟨rfl, rfl, rfl, rfl, rfl, by decide +kernel⟩ ?hw ?hc
  case hw => w_witness2
  case hc =>
    exact Mi.walk_mi (l := PySem.Challenge.rw_boardsight_k85_no_spots) (n := 63) (k := 20) (x := "script") (j := 15) (fn := My.f_law) (p := My.Pw) (B := My.B) (kn := My.kn) (ix := My.ix) (dx := My.dx) rfl (by decide) (by kernel_rfl) ⟨rfl, by decide, by decide⟩ (by kernel_rfl) rfl rfl rfl
      (fun w h Y => Y) My.hrok My.ok_all My.bd_all My.law_true
