import PyProof.Rows.All
import Wide.All
import OpenK.AllK
import Wide.FinOn
import HandS.ForMost
import HandS.Wide
import HandS.Exc
import HandS.Style
import HandS.Deep
import HandS.IsInst
import HandS.CallSlots
import HandS.TryOnly
import HandS.Comp
import HandS.Defaults
import HandS.Codes
import HandS.HeadHook2
import HandS.HeadHook4
import HandS.HeadEnd
import HandS.EndBits
import HandS.Text
import KE.KStateDown
import HandS.Base
import HandS.Call
import HandS.Ends
import HandS.More
import HandS.Words
import HandS.WordsExc
import HandS.Head0
import HandS.Head1
import HandS.Head2
import HandS.HeadHook1
import PySem.Challenge.RW_boardsight_k84_spots_and_fractions_writt
set_option Elab.async false
set_option linter.all false
set_option maxRecDepth 100000
set_option maxHeartbeats 4000000

/-! MiA: a small language for plain Python defs, its data and what it does with them (no heap). -/
namespace Mi
open PySem

/-! ### data -/
structure Exn where
  c : Str
  f : Option (Str × PyData)

/-- a value: plain data that never changes, a pointer to a thing that may change, an exception -/
inductive W where
  | d (x : PyData)
  | ptr (p : Nat)
  | exn (x : Exn)
/-- a thing that may change -/
inductive MO where
  | lst (xs : List PyData)
  | dead
abbrev Sto := List MO
abbrev Rho := List (Option W)

inductive R (α : Type) where
  | ok (a : α) (S : Sto)
  | exc (x : Exn) (S : Sto)
  | err
def R.bind {α β : Type} (r : R α) (k : α → Sto → R β) : R β := match r with
  | .ok a S => k a S
  | .exc x S => .exc x S
  | .err => .err
def R.ofO {α : Type} (o : Option α) (S : Sto) : R α := match o with
  | some a => .ok a S
  | none => .err
@[simp] theorem R.bind_ok {α β : Type} (a : α) (S : Sto) (k : α → Sto → R β) : (R.ok a S).bind k = k a S := rfl
@[simp] theorem R.bind_exc {α β : Type} (x : Exn) (S : Sto) (k : α → Sto → R β) : (R.exc x S : R α).bind k = .exc x S := rfl
@[simp] theorem R.bind_err {α β : Type} (k : α → Sto → R β) : (R.err : R α).bind k = .err := rfl
@[simp] theorem R.ofO_some {α : Type} (a : α) (S : Sto) : R.ofO (some a) S = .ok a S := rfl
@[simp] theorem R.ofO_none {α : Type} (S : Sto) : R.ofO (none : Option α) S = .err := rfl

mutual
def peq : PyData → PyData → Bool
  | .none, .none => true
  | .bool a, .bool b => a == b
  | .int a, .int b => a == b
  | .str a, .str b => a == b
  | .list a, .list b => peqs a b
  | .tuple a, .tuple b => peqs a b
  | _, _ => false
def peqs : List PyData → List PyData → Bool
  | [], [] => true
  | x :: xs, y :: ys => peq x y && peqs xs ys
  | _, _ => false
end
mutual
theorem peq_eq : ∀ {a b : PyData}, peq a b = true → a = b
  | .none, b, h => by cases b <;> simp [peq] at h ⊢
  | .bool _, b, h => by cases b <;> simp [peq] at h ⊢; exact h
  | .int _, b, h => by cases b <;> simp [peq] at h ⊢; exact h
  | .str _, b, h => by cases b <;> simp [peq] at h ⊢; exact h
  | .list x, b, h => by cases b <;> simp [peq] at h ⊢; exact peqs_eq h
  | .tuple x, b, h => by cases b <;> simp [peq] at h ⊢; exact peqs_eq h
  | .dict _, b, h => by cases b <;> simp [peq] at h
theorem peqs_eq : ∀ {a b : List PyData}, peqs a b = true → a = b
  | [], b, h => by cases b <;> simp [peqs] at h ⊢
  | x :: xs, [], h => by simp [peqs] at h
  | x :: xs, y :: ys, h => by
    simp [peqs] at h
    rw [peq_eq h.1, peqs_eq h.2]
end

/-! ### readers -/
def lim : Nat := 1000000
/-- a list's items -/
def lst? (S : Sto) : W → Option (List PyData)
  | .d (.list xs) => some xs
  | .ptr p => match S[p]? with
    | some (.lst xs) => some xs
    | _ => none
  | _ => none
/-- plain data, a list that may change read as it stands -/
def dat? (S : Sto) : W → Option PyData
  | .d x => some x
  | .ptr p => match S[p]? with
    | some (.lst xs) => some (.list xs)
    | _ => none
  | _ => none

/-! ### operators -/
inductive O2 where
  | add | sub | mul | fdiv | mod | pow
  | eq | ne | lt | le | gt | ge | in_ | notin | is_ | isnot
  deriving DecidableEq
def mulOk (a b : Int) : Bool := decide (a.natAbs.log2 + b.natAbs.log2 < 1000000)
def divOk (b : Int) : Bool := b != 0 && decide (b.natAbs.log2 < 9000)
def powOk (a b : Int) : Bool := decide (0 ≤ b) && (decide (b ≤ 1000000) && decide (a.natAbs < 2 ^ 64))
def addW (S : Sto) (x y : W) : Option W := match x, y with
  | .d (.int a), .d (.int b) => some (.d (.int (a + b)))
  | .d (.str a), .d (.str b) => if a.length + b.length ≤ lim then some (.d (.str (a ++ b))) else none
  | _, _ => match lst? S x, lst? S y with
    | some a, some b => if a.length + b.length ≤ lim then some (.d (.list (a ++ b))) else none
    | _, _ => none
def repS (z : Str) (n : Nat) : Str := ⟨((List.replicate n z.cps.toList).flatten).toArray⟩
def mulW (x y : W) : Option W := match x, y with
  | .d (.int a), .d (.int b) => if mulOk a b then some (.d (.int (a * b))) else none
  | .d (.str a), .d (.int b) => if a.length * b.toNat ≤ lim ∧ b ≤ lim ∧ 1 ≤ b then some (.d (.str (repS a b.toNat))) else none
  | _, _ => none
def int2 (f : Int → Int → Option W) (x y : W) : Option W := match x, y with
  | .d (.int a), .d (.int b) => f a b
  | _, _ => none
/-- the scalars that == tells apart by their kinds alone -/
def scal2 : PyData → PyData → Bool
  | .none, .none => true | .none, .int _ => true | .int _, .none => true | .none, .bool _ => true | .bool _, .none => true | .none, .str _ => true | .str _, .none => true
  | .int _, .int _ => true | .bool _, .bool _ => true | .str _, .str _ => true
  | .int _, .str _ => true | .str _, .int _ => true | .bool _, .str _ => true | .str _, .bool _ => true
  | _, _ => false
def eqD (x y : PyData) : Option Bool :=
  if scal2 x y then some (peq x y) else if SeqAt.shaped x && SeqAt.shaped y then some (PyData.eqv x y) else none
def eqW (S : Sto) (x y : W) : Option Bool := match dat? S x, dat? S y with
  | some a, some b => eqD a b
  | _, _ => none
def flatD : PyData → Bool
  | .none => true | .bool _ => true | .int _ => true | .str _ => true | _ => false
/-- == of flat data -/
def eqF : PyData → PyData → Bool
  | .none, .none => true
  | .bool a, .bool b => a == b
  | .bool a, .int b => (if a then 1 else 0) == b
  | .int a, .bool b => a == (if b then 1 else 0)
  | .int a, .int b => a == b
  | .str a, .str b => a == b
  | _, _ => false
def inL (x : PyData) (xs : List PyData) : Option Bool :=
  if flatD x && xs.all flatD then some (xs.any fun y => eqF y x) else if SeqAt.shaped x && SeqAt.shaped (.list xs) then some (xs.any fun y => PyData.eqv y x) else none
def inW (S : Sto) (x y : W) : Option Bool := match x, y with
  | .d (.str a), .d (.str z) => match a.cps.toList with
    | [c] => some (decide (c ∈ z.cps.toList))
    | _ => none
  | .d a, _ => match lst? S y with
    | some xs => inL a xs
    | none => none
  | _, _ => none
def isW (x y : W) : Option Bool := match x, y with
  | .d (.bool a), .d (.bool b) => some (a == b)
  | .d a, .d .none => some (match a with | .none => true | _ => false)
  | .ptr _, .d .none => some false
  | .exn _, .d .none => some false
  | _, _ => none
def blW (o : Option Bool) : Option W := o.map fun b => .d (.bool b)
def o2 (k : O2) (S : Sto) (x y : W) : Option W := match k with
  | .add => addW S x y
  | .sub => int2 (fun a b => some (.d (.int (a - b)))) x y
  | .mul => mulW x y
  | .fdiv => int2 (fun a b => if divOk b then some (.d (.int (a.fdiv b))) else none) x y
  | .mod => int2 (fun a b => if b = 0 then none else some (.d (.int (a.fmod b)))) x y
  | .pow => int2 (fun a b => if powOk a b then some (.d (.int (a ^ b.toNat))) else none) x y
  | .eq => blW (eqW S x y)
  | .ne => blW ((eqW S x y).map not)
  | .lt => int2 (fun a b => some (.d (.bool (decide (a < b))))) x y
  | .le => int2 (fun a b => some (.d (.bool (decide (a ≤ b))))) x y
  | .gt => int2 (fun a b => some (.d (.bool (decide (b < a))))) x y
  | .ge => int2 (fun a b => some (.d (.bool (decide (b ≤ a))))) x y
  | .in_ => blW (inW S x y)
  | .notin => blW ((inW S x y).map not)
  | .is_ => blW (isW x y)
  | .isnot => blW ((isW x y).map not)

/-- o[i] -/
def ixW (S : Sto) (x i : W) : Option W := match x, i with
  | .d (.str z), .d (.int k) => if z.length ≤ lim then (L2.atI z.cps.toList k).map fun c => .d (.str ⟨#[c]⟩) else none
  | .d (.tuple xs), .d (.int k) => (L2.atI xs k).map .d
  | _, .d (.int k) => match lst? S x with
    | some xs => (L2.atI xs k).map .d
    | none => none
  | _, _ => none
def cutG {α : Type} (xs : List α) (lo hi : Option Int) : List α := (xs.drop (HT.sIx xs.length 0 lo)).take (HT.sIx xs.length xs.length hi - HT.sIx xs.length 0 lo)
/-- o[lo:hi] -/
def slW (S : Sto) (x : W) (lo hi : Option Int) : Option W := match x with
  | .d (.str z) => if z.length ≤ lim then some (.d (.str ⟨(cutG z.cps.toList lo hi).toArray⟩)) else none
  | .d (.tuple xs) => if HT.sIx xs.length 0 lo = 0 ∧ HT.sIx xs.length xs.length hi = xs.length then none else some (.d (.tuple (cutG xs lo hi)))
  | _ => match lst? S x with
    | some xs => some (.d (.list (cutG xs lo hi)))
    | none => none

/-! ### builtins, called -/
inductive Bi where
  | len | abs | max2 | min2 | str_ | int_ | tup_ | list_
  deriving DecidableEq
def tyD : PyData → String
  | .none => "NoneType" | .bool _ => "bool" | .int _ => "int" | .str _ => "str" | .list _ => "list" | .tuple _ => "tuple" | .dict _ => "dict"
def isiD (t : String) (x : PyData) : Bool := tyD x == t || (tyD x == "bool" && t == "int")
def isiOk (t : String) : Bool := ["int", "bool", "str", "list", "tuple"].contains t
def biLen (S : Sto) (xs : List W) : Option W := match xs with
  | [.d (.str z)] => if z.length ≤ lim then some (.d (.int z.length)) else none
  | [.d (.tuple xs)] => some (.d (.int xs.length))
  | [x] => (lst? S x).map fun xs => .d (.int xs.length)
  | _ => none
def biInt (S : Sto) (xs : List W) : Option W := match xs with
  | [.d (.str z)] => if z.length ≤ 640 then (PySem.intText? z).map fun n => .d (.int n) else none
  | [.d (.int a)] => some (.d (.int a))
  | [.d (.bool a)] => some (.d (.int (if a then 1 else 0)))
  | _ => none
def biTup (S : Sto) (xs : List W) : Option W := match xs with
  | [.d (.tuple xs)] => some (.d (.tuple xs))
  | [x] => (lst? S x).map fun xs => .d (.tuple xs)
  | _ => none
def biLst (S : Sto) (xs : List W) : Option W := match xs with
  | [.d (.tuple xs)] => some (.d (.list xs))
  | [x] => (lst? S x).map fun xs => .d (.list xs)
  | _ => none
def int1 (f : Int → Option W) (xs : List W) : Option W := match xs with
  | [.d (.int a)] => f a
  | _ => none
def int11 (f : Int → Int → Option W) (xs : List W) : Option W := match xs with
  | [.d (.int a), .d (.int b)] => f a b
  | _ => none
def bi (k : Bi) (S : Sto) (xs : List W) : Option W := match k with
  | .len => biLen S xs
  | .abs => int1 (fun a => some (.d (.int (if a < 0 then -a else a)))) xs
  | .max2 => int11 (fun a b => some (.d (.int (if b > a then b else a)))) xs
  | .min2 => int11 (fun a b => some (.d (.int (if b < a then b else a)))) xs
  | .str_ => int1 (fun a => if a.natAbs.log2 < 1920 then some (.d (.str (toString a))) else none) xs
  | .int_ => biInt S xs
  | .tup_ => biTup S xs
  | .list_ => biLst S xs
/-- isinstance(x, t), t a builtin class -/
def isiW (t : String) (S : Sto) (x : W) : Option W := if isiOk t then (dat? S x).map fun y => .d (.bool (isiD t y)) else none

/-! ### methods of builtin types -/
inductive Mt where
  | append | split | partition | join
  deriving DecidableEq
def mtTy (k : Mt) (S : Sto) (x : W) : Bool := match k with
  | .append => (lst? S x).isSome
  | .split | .partition | .join => match x with
    | .d (.str _) => true
    | _ => false
/-- all texts -/
def strs? : List PyData → Option (List Str)
  | [] => some []
  | .str z :: r => (strs? r).map (z :: ·)
  | _ :: _ => none
def strD (z : Str) : PyData := .str z
def mtAppend (S : Sto) (x : W) (xs : List W) : Option (W × Sto) := match x, xs with
  | .ptr p, [.d v] => match S[p]? with
    | some (.lst xs) => if xs.length < lim then some (.d .none, S.set p (.lst (xs ++ [v]))) else none
    | _ => none
  | _, _ => none
def str1 (f : Str → Str → Option W) (x : W) (xs : List W) : Option W := match x, xs with
  | .d (.str a), [.d (.str b)] => f a b
  | _, _ => none
def mtJoin (S : Sto) (x : W) (xs : List W) : Option W := match x, xs with
  | .d (.str a), [x] => match lst? S x with
    | some ds => match strs? ds with
      | some ys => if (ys.map (·.length)).sum + ys.length * a.length ≤ lim then some (.d (.str (PySem.Txt.join a ys))) else none
      | none => none
    | none => none
  | _, _ => none
def mt (k : Mt) (S : Sto) (x : W) (xs : List W) : Option (W × Sto) := match k with
  | .append => mtAppend S x xs
  | .split => (str1 (fun a b => if (b.length == 0) = false ∧ a.length ≤ lim then some (.d (.list ((PySem.Txt.split a b).map strD))) else none) x xs).map (·, S)
  | .partition => (str1 (fun a b => if (b.length == 0) = false ∧ a.length ≤ lim then
      some (.d (.tuple [.str (PySem.Txt.partition a b).1, .str (PySem.Txt.partition a b).2.1, .str (PySem.Txt.partition a b).2.2])) else none) x xs).map (·, S)
  | .join => (mtJoin S x xs).map (·, S)
end Mi

/-! MiB: the language and its interpreter. -/
namespace Mi
open PySem

/-- one type for expressions, argument lists, sources of a loop, targets, statements -/
inductive M where
  -- expressions
  | var (i : Nat)
  | int (k : Int) | str (s : Str) | bl (b : Bool) | non
  | gi (x : Str) (k : Int) | gs (x : Str) (s : Str)
  | o2 (k : O2) (a b : M)
  | ch (k1 k2 : O2) (a b c : M)
  | neg (a : M)
  | and2 (a b : M) | or2 (a b : M) | one (a : M) | not1 (a : M)
  | ife (t a b : M)
  | tup (as : M) | lst (as : M)
  | anil | acons (a r : M)
  | call (f : Nat) (as : M)
  | bi (k : Bi) (as : M)
  | isi (t : String) (e : M)
  | mt (k : Mt) (a as : M)
  | ix (a b : M)
  | sl (a lo hi : M) | nop
  | lc (own : List Nat) (tg it ts e : M)
  | new (a : M) | frz (a : M)
  -- what a loop walks
  | itE (e : M) | itR (as : M) | itN (e : M) | itZ (a b : M)
  -- targets
  | tn (i : Nat) | tt (as : M)
  -- statements
  | asg (tg e : M) | asgLc (i : Nat) (e : M) | par2 (i j : Nat) (a b : M) | aug (i : Nat) (k : O2) (e : M) | setix (a b e : M)
  | ex (e : M) | ret (e : M) | retN
  | ift (t a b : M) | for_ (tg it body : M) | wh (n : Nat) (t body : M)
  | rais (c : Str) (as : M) | raisF (c f : Str) (e : M)
  | brk | cnt | pss | nev
  | snil | scons (a r : M)

abbrev Phi := Nat → List W → Sto → R W

def tru (r : R W) : R Bool := match r with
  | .ok (.d (.bool b)) S => .ok b S
  | .ok _ _ => .err
  | .exc x S => .exc x S
  | .err => .err
def dats? : List W → Option (List PyData)
  | [] => some []
  | .d x :: r => (dats? r).map (x :: ·)
  | _ :: _ => none
def mkL (r : R (List W)) (f : List PyData → Option W) : R W := match r with
  | .ok ws S => R.ofO ((dats? ws).bind f) S
  | .exc x S => .exc x S
  | .err => .err
def tupW (xs : List PyData) : Option W := if xs.length ≤ lim then some (.d (.tuple xs)) else none
def lstW (xs : List PyData) : Option W := if xs.length ≤ lim then some (.d (.list xs)) else none
/-- what is walked: the items; a list that may change must stand as it did -/
structure Src where
  xs : List W
  g : Option (Nat × List PyData)
def guard (g : Option (Nat × List PyData)) (S : Sto) : Bool := match g with
  | none => true
  | some (p, l) => match S[p]? with
    | some (.lst xs) => peqs xs l
    | _ => false
/-- a value walked item by item -/
def srcW (S : Sto) (w : W) : Option Src := match w with
  | .d (.str z) => some ⟨z.cps.toList.map fun c => .d (.str ⟨#[c]⟩), none⟩
  | .d (.list xs) => some ⟨xs.map .d, none⟩
  | .d (.tuple xs) => some ⟨xs.map .d, none⟩
  | .ptr p => match S[p]? with
    | some (.lst xs) => some ⟨xs.map .d, some (p, xs)⟩
    | _ => none
  | _ => none
def rngOk (i : Int) : Bool := decide (-(2 ^ 62) ≤ i) && decide (i < 2 ^ 62)
def rngL (lo : Int) (n : Nat) : List W := (List.range n).map fun i => .d (.int (lo + (i : Nat)))
def srcR (ws : List W) : Option Src := match ws with
  | [.d (.int n)] => if rngOk n then some ⟨rngL 0 n.toNat, none⟩ else none
  | [.d (.int a), .d (.int b)] => if rngOk a && rngOk b then some ⟨rngL a (b - a).toNat, none⟩ else none
  | _ => none
def enumL : Nat → List PyData → List W
  | _, [] => []
  | i, x :: r => .d (.tuple [.int (i : Nat), x]) :: enumL (i + 1) r
def zipL : List PyData → List PyData → List W
  | x :: r, y :: s => .d (.tuple [x, y]) :: zipL r s
  | _, _ => []
def srcN (S : Sto) (w : W) : Option Src := match w with
  | .d (.list xs) => some ⟨enumL 0 xs, none⟩
  | .ptr p => match S[p]? with
    | some (.lst xs) => some ⟨enumL 0 xs, some (p, xs)⟩
    | _ => none
  | _ => none

def R.ofP (o : Option (W × Sto)) : R W := match o with
  | some (w, S) => .ok w S
  | none => .err
mutual
/-- a target takes a value -/
def bindT (S : Sto) : M → W → Rho → Option Rho
  | .tn i, w, ρ => if i < ρ.length then some (ρ.set i (some w)) else none
  | .tt as, w, ρ => match w with
    | .d (.tuple xs) => bindTs S as (xs.map .d) ρ
    | .d (.list xs) => bindTs S as (xs.map .d) ρ
    | _ => none
  | _, _, _ => none
def bindTs (S : Sto) : M → List W → Rho → Option Rho
  | .anil, [], ρ => some ρ
  | .acons a r, w :: ws, ρ => match bindT S a w ρ with
    | some ρ' => bindTs S r ws ρ'
    | none => none
  | _, _, _ => none
end
def wipeR (ρ : Rho) : List Nat → Rho
  | [] => ρ
  | v :: vs => (wipeR ρ vs).set v none

/-- a comprehension's turns -/
def lcGo (g : Option (Nat × List PyData)) (bt : W → Sto → Option Rho) (tst : Rho → Sto → R Bool) (el : Rho → Sto → R W) : List W → Sto → List PyData → R W
  | [], S, acc => if guard g S then .ok (.d (.list acc)) S else .err
  | x :: xs, S, acc => if guard g S then (match bt x S with
    | some ρ => (match tst ρ S with
      | .ok true S1 => (match el ρ S1 with
        | .ok (.d v) S2 => if acc.length < lim then lcGo g bt tst el xs S2 (acc ++ [v]) else .err
        | _ => .err)
      | .ok false S1 => lcGo g bt tst el xs S1 acc
      | _ => .err)
    | none => .err) else .err

mutual
def evE (Φ : Phi) : M → Rho → Sto → R W
  | .var i, ρ, S => match ρ[i]? with
    | some (some w) => .ok w S
    | _ => .err
  | .int k, _, S => .ok (.d (.int k)) S
  | .str s, _, S => .ok (.d (.str s)) S
  | .bl b, _, S => .ok (.d (.bool b)) S
  | .non, _, S => .ok (.d .none) S
  | .gi _ k, _, S => .ok (.d (.int k)) S
  | .gs _ s, _, S => .ok (.d (.str s)) S
  | .o2 k a b, ρ, S => (evE Φ a ρ S).bind fun x S1 => (evE Φ b ρ S1).bind fun y S2 => R.ofO (Mi.o2 k S2 x y) S2
  | .ch k1 k2 a b c, ρ, S => (evE Φ a ρ S).bind fun x S1 => (evE Φ b ρ S1).bind fun y S2 => (tru (R.ofO (Mi.o2 k1 S2 x y) S2)).bind fun t S3 =>
      if t then (evE Φ c ρ S3).bind fun z S4 => R.ofO (Mi.o2 k2 S4 y z) S4 else .ok (.d (.bool false)) S3
  | .neg a, ρ, S => (evE Φ a ρ S).bind fun x S1 => match x with
    | .d (.int i) => .ok (.d (.int (-i))) S1
    | _ => .err
  | .and2 a b, ρ, S => (tru (evE Φ a ρ S)).bind fun t S1 => if t then evE Φ b ρ S1 else .ok (.d (.bool false)) S1
  | .or2 a b, ρ, S => (tru (evE Φ a ρ S)).bind fun t S1 => if t then .ok (.d (.bool true)) S1 else evE Φ b ρ S1
  | .one a, ρ, S => evE Φ a ρ S
  | .not1 a, ρ, S => (tru (evE Φ a ρ S)).bind fun t S1 => .ok (.d (.bool (!t))) S1
  | .ife t a b, ρ, S => (tru (evE Φ t ρ S)).bind fun t S1 => if t then evE Φ a ρ S1 else evE Φ b ρ S1
  | .tup as, ρ, S => mkL (evA Φ as ρ S) tupW
  | .lst as, ρ, S => mkL (evA Φ as ρ S) lstW
  | .call f as, ρ, S => (evA Φ as ρ S).bind fun ws S1 => Φ f ws S1
  | .bi k as, ρ, S => (evA Φ as ρ S).bind fun ws S1 => R.ofO (Mi.bi k S1 ws) S1
  | .isi t e, ρ, S => (evE Φ e ρ S).bind fun x S1 => R.ofO (isiW t S1 x) S1
  | .mt k a as, ρ, S => (evE Φ a ρ S).bind fun x S1 => if mtTy k S1 x then (evA Φ as ρ S1).bind fun ws S2 => R.ofP (Mi.mt k S2 x ws) else .err
  | .ix a b, ρ, S => (evE Φ a ρ S).bind fun x S1 => (evE Φ b ρ S1).bind fun y S2 => R.ofO (ixW S2 x y) S2
  | .sl a lo hi, ρ, S => (evE Φ a ρ S).bind fun x S1 => (evO Φ lo ρ S1).bind fun l S2 => (evO Φ hi ρ S2).bind fun h S3 => R.ofO (slW S3 x l h) S3
  | .lc own tg it ts e, ρ, S => (evI Φ it ρ S).bind fun src S1 => lcGo src.g (fun x S2 => bindT S2 tg x (wipeR ρ own)) (fun ρ' S2 => evT Φ ts ρ' S2) (fun ρ' S2 => evE Φ e ρ' S2) src.xs S1 []
  | .new a, ρ, S => (evE Φ a ρ S).bind fun x S1 => match x with
    | .d (.list xs) => .ok (.ptr S1.length) (S1 ++ [.lst xs])
    | _ => .err
  | .frz a, ρ, S => (evE Φ a ρ S).bind fun x S1 => match x with
    | .ptr p => (match S1[p]? with
      | some (.lst xs) => .ok (.d (.list xs)) (S1.set p .dead)
      | _ => .err)
    | _ => .err
  | _, _, _ => .err
def evA (Φ : Phi) : M → Rho → Sto → R (List W)
  | .anil, _, S => .ok [] S
  | .acons a r, ρ, S => (evE Φ a ρ S).bind fun x S1 => (evA Φ r ρ S1).bind fun xs S2 => .ok (x :: xs) S2
  | _, _, _ => .err
/-- a slice's part -/
def evO (Φ : Phi) : M → Rho → Sto → R (Option Int)
  | .nop, _, S => .ok none S
  | .one a, ρ, S => (evE Φ a ρ S).bind fun x S1 => match x with
    | .d (.int i) => .ok (some i) S1
    | _ => .err
  | _, _, _ => .err
/-- a clause's tests -/
def evT (Φ : Phi) : M → Rho → Sto → R Bool
  | .anil, _, S => .ok true S
  | .one a, ρ, S => tru (evE Φ a ρ S)
  | _, _, _ => .err
def evI (Φ : Phi) : M → Rho → Sto → R Src
  | .itE e, ρ, S => (evE Φ e ρ S).bind fun w S1 => R.ofO (srcW S1 w) S1
  | .itR as, ρ, S => (evA Φ as ρ S).bind fun ws S1 => R.ofO (srcR ws) S1
  | .itN e, ρ, S => (evE Φ e ρ S).bind fun w S1 => R.ofO (srcN S1 w) S1
  | .itZ a b, ρ, S => (evE Φ a ρ S).bind fun x S1 => (evE Φ b ρ S1).bind fun y S2 => match x, y with
    | .d (.list xs), .d (.list ys) => .ok ⟨zipL xs ys, none⟩ S2
    | _, _ => .err
  | _, _, _ => .err
end

/-! ### statements -/
inductive RS where
  | nx (ρ : Rho) (S : Sto)
  | rt (w : W) (S : Sto)
  | bk (ρ : Rho) (S : Sto)
  | ct (ρ : Rho) (S : Sto)
  | exc (x : Exn) (ρ : Rho) (S : Sto)
  | err
def R.st {α : Type} (r : R α) (ρ : Rho) (k : α → Sto → RS) : RS := match r with
  | .ok a S => k a S
  | .exc x S => .exc x ρ S
  | .err => .err
@[simp] theorem R.st_ok {α : Type} (a : α) (S : Sto) (ρ : Rho) (k : α → Sto → RS) : (R.ok a S).st ρ k = k a S := rfl
@[simp] theorem R.st_exc {α : Type} (x : Exn) (S : Sto) (ρ : Rho) (k : α → Sto → RS) : (R.exc x S : R α).st ρ k = .exc x ρ S := rfl
@[simp] theorem R.st_err {α : Type} (ρ : Rho) (k : α → Sto → RS) : (R.err : R α).st ρ k = .err := rfl
def RS.ofO (o : Option Rho) (S : Sto) : RS := match o with
  | some ρ => .nx ρ S
  | none => .err
def forGo (g : Option (Nat × List PyData)) (bt : W → Rho → Sto → Option Rho) (body : Rho → Sto → RS) : List W → Rho → Sto → RS
  | [], ρ, S => if guard g S then .nx ρ S else .err
  | x :: xs, ρ, S => if guard g S then (match bt x ρ S with
    | some ρ1 => (match body ρ1 S with
      | .nx ρ2 S2 => forGo g bt body xs ρ2 S2
      | .ct ρ2 S2 => forGo g bt body xs ρ2 S2
      | .bk ρ2 S2 => .nx ρ2 S2
      | r => r)
    | none => .err) else .err
def whGo (t : Rho → Sto → R Bool) (body : Rho → Sto → RS) : Nat → Rho → Sto → RS
  | 0, _, _ => .err
  | n + 1, ρ, S => match t ρ S with
    | .ok true S1 => (match body ρ S1 with
      | .nx ρ2 S2 => whGo t body n ρ2 S2
      | .ct ρ2 S2 => whGo t body n ρ2 S2
      | .bk ρ2 S2 => .nx ρ2 S2
      | r => r)
    | .ok false S1 => .nx ρ S1
    | .exc x S1 => .exc x ρ S1
    | .err => .err
/-- o[i] = v -/
def setW (S : Sto) (x i : W) (v : W) : Option Sto := match x, i, v with
  | .ptr p, .d (.int k), .d v => match S[p]? with
    | some (.lst xs) => (L2.ixN xs.length k).map fun j => S.set p (.lst (xs.set j v))
    | _ => none
  | _, _, _ => none
def augW (k : O2) (x y : W) : Option W := match k, x, y with
  | .add, .d (.int i), .d (.int j) => some (.d (.int (i + j)))
  | .sub, .d (.int i), .d (.int j) => some (.d (.int (i - j)))
  | _, _, _ => none
def exS (Φ : Phi) : M → Rho → Sto → RS
  | .asg tg e, ρ, S => (evE Φ e ρ S).st ρ fun w S1 => RS.ofO (bindT S1 tg w ρ) S1
  | .asgLc i e, ρ, S => (evE Φ e ρ S).st ρ fun w S1 => RS.ofO (if i < ρ.length then some (ρ.set i (some w)) else none) S1
  | .par2 i j a b, ρ, S => (evE Φ a ρ S).st ρ fun x S1 => (evE Φ b ρ S1).st ρ fun y S2 => if i < ρ.length ∧ j < ρ.length then .nx ((ρ.set i (some x)).set j (some y)) S2 else .err
  | .aug i k e, ρ, S => match ρ[i]? with
    | some (some x) => (evE Φ e ρ S).st ρ fun y S1 => match augW k x y with
      | some z => .nx (ρ.set i (some z)) S1
      | none => .err
    | _ => .err
  | .setix a b e, ρ, S => (evE Φ e ρ S).st ρ fun v S1 => (evE Φ a ρ S1).st ρ fun x S2 => (evE Φ b ρ S2).st ρ fun i S3 => match setW S3 x i v with
    | some S4 => .nx ρ S4
    | none => .err
  | .ex e, ρ, S => (evE Φ e ρ S).st ρ fun _ S1 => .nx ρ S1
  | .ret e, ρ, S => (evE Φ e ρ S).st ρ fun w S1 => .rt w S1
  | .retN, _, S => .rt (.d .none) S
  | .ift t a b, ρ, S => (tru (evE Φ t ρ S)).st ρ fun c S1 => if c then exS Φ a ρ S1 else exS Φ b ρ S1
  | .for_ tg it body, ρ, S => (evI Φ it ρ S).st ρ fun src S1 => forGo src.g (fun x ρ' S2 => bindT S2 tg x ρ') (fun ρ' S2 => exS Φ body ρ' S2) src.xs ρ S1
  | .wh n t body, ρ, S => whGo (fun ρ' S2 => tru (evE Φ t ρ' S2)) (fun ρ' S2 => exS Φ body ρ' S2) n ρ S
  | .rais c as, ρ, S => (evA Φ as ρ S).st ρ fun _ S1 => .exc ⟨c, none⟩ ρ S1
  | .raisF c f e, ρ, S => (evE Φ e ρ S).st ρ fun w S1 => match w with
    | .d x => .exc ⟨c, some (f, x)⟩ ρ S1
    | _ => .err
  | .brk, ρ, S => .bk ρ S
  | .cnt, ρ, S => .ct ρ S
  | .pss, ρ, S => .nx ρ S
  | .snil, ρ, S => .nx ρ S
  | .scons a r, ρ, S => match exS Φ a ρ S with
    | .nx ρ' S' => exS Φ r ρ' S'
    | r' => r'
  | _, _, _ => .err

/-! ### defs -/
structure Fn where
  name : Str
  ps : List Str
  N : List Str
  dv : List PyData
  body : M
/-- a def's end: what it made for itself is forgotten -/
def leave (n : Nat) (w : W) (S : Sto) : R W := match w with
  | .ptr p => if p < n then .ok w (S.take n) else .ok w S
  | _ => .ok w (S.take n)
def fin (n : Nat) : RS → R W
  | .nx _ S => leave n (.d .none) S
  | .rt w S => leave n w S
  | .exc x _ S => .exc x (S.take n)
  | _ => .err
def startR (fn : Fn) (ws : List W) : Rho := ws.map some ++ List.replicate (fn.N.length - ws.length) none
def withD (fn : Fn) (ws : List W) : List W := ws ++ ((fn.dv.drop (fn.dv.length - (fn.ps.length - ws.length))).map .d)
def runF (Φ : Phi) (fn : Fn) (ws : List W) (S : Sto) : R W :=
  if (withD fn ws).length = fn.ps.length then fin S.length (exS Φ fn.body (startR fn (withD fn ws)) S) else .err
def run (T : List Fn) : Nat → Phi
  | 0 => fun _ _ _ => .err
  | n + 1 => fun f ws S => match T[f]? with
    | some fn => runF (run T n) fn ws S
    | none => .err
end Mi

/-! MiC: data over the heap. -/
namespace Mi
open PySem PySem.Spec PyProof.Rows L2

def Ex (H H' : Hp) : Prop := ∀ a o, H a = some o → H' a = some o
theorem Ex.refl (H : Hp) : Ex H H := fun _ _ h => h
theorem Ex.trans {H H1 H2 : Hp} (a : Ex H H1) (b : Ex H1 H2) : Ex H H2 := fun x o h => b x o (a x o h)
theorem Ex.rd {H H' : Hp} {a : Addr} {u : HO} (e : Ex H H') (h : Rd H a u) : Rd H' a u := by
  rcases h with h | ⟨o, h⟩
  · exact Or.inl (e a _ h)
  · exact Or.inr ⟨o, e a _ h⟩
theorem Ex.l {K : PySem.W.Frag} {H H' : Hp} {a : Addr} {xs : List V} (e : Ex H H') (h : SqL K H a xs) : SqL K H' a xs := by
  rcases h with h | h
  · exact Or.inl (e.rd h)
  · exact Or.inr h
theorem Ex.t {K : PySem.W.Frag} {H H' : Hp} {a : Addr} {xs : List V} (e : Ex H H') (h : SqT K H a xs) : SqT K H' a xs := by
  rcases h with h | h
  · exact Or.inl (e.rd h)
  · exact Or.inr h

/-! ### plain data -/
mutual
inductive Rp (K : PySem.W.Frag) (F : Hp) : V → PyData → Prop
  | non : Rp K F .non .none
  | bl (b : Bool) : Rp K F (.bl b) (.bool b)
  | int (i : Int) : Rp K F (.int i) (.int i)
  | str (x : Str) : Rp K F (.str x) (.str x)
  | lst {a : Addr} {xs : List V} {ds : List PyData} : SqL K F a xs → Rps K F xs ds → Rp K F (.ref a) (.list ds)
  | tup {a : Addr} {xs : List V} {ds : List PyData} : SqT K F a xs → Rps K F xs ds → Rp K F (.ref a) (.tuple ds)
inductive Rps (K : PySem.W.Frag) (F : Hp) : List V → List PyData → Prop
  | nil : Rps K F [] []
  | cons {v : V} {vs : List V} {d : PyData} {ds : List PyData} : Rp K F v d → Rps K F vs ds → Rps K F (v :: vs) (d :: ds)
end
section
variable {K : PySem.W.Frag} {F F' : Hp}
mutual
theorem Rp.mono (e : Ex F F') : ∀ {d : PyData} {v : V}, Rp K F v d → Rp K F' v d
  | .none, _, h => by cases h; exact .non
  | .bool b, _, h => by cases h; exact .bl b
  | .int i, _, h => by cases h; exact .int i
  | .str x, _, h => by cases h; exact .str x
  | .list ds, _, h => by
    cases h with
    | lst h1 h2 => exact .lst (e.l h1) (Rps.mono e h2)
  | .tuple ds, _, h => by
    cases h with
    | tup h1 h2 => exact .tup (e.t h1) (Rps.mono e h2)
  | .dict _, _, h => by cases h
theorem Rps.mono (e : Ex F F') : ∀ {ds : List PyData} {vs : List V}, Rps K F vs ds → Rps K F' vs ds
  | [], _, h => by cases h; exact .nil
  | d :: ds, _, h => by
    cases h with
    | cons h1 h2 => exact .cons (Rp.mono e h1) (Rps.mono e h2)
end
mutual
theorem Rp.dp : ∀ {d : PyData} {v : V}, Rp K F v d → Dp K F v d
  | .none, _, h => by cases h; exact .non
  | .bool b, _, h => by cases h; exact .bl b
  | .int i, _, h => by cases h; exact .int i
  | .str x, _, h => by cases h; exact .str x
  | .list ds, _, h => by
    cases h with
    | lst h1 h2 => exact .lst h1 (Rps.dp h2)
  | .tuple ds, _, h => by
    cases h with
    | tup h1 h2 => exact .tup h1 (Rps.dp h2)
  | .dict _, _, h => by cases h
theorem Rps.dp : ∀ {ds : List PyData} {vs : List V}, Rps K F vs ds → DpAll K F vs ds
  | [], _, h => by cases h; exact .nil
  | d :: ds, _, h => by
    cases h with
    | cons h1 h2 => exact .cons (Rp.dp h1) (Rps.dp h2)
end
theorem Rps.length : ∀ {ds : List PyData} {vs : List V}, Rps K F vs ds → vs.length = ds.length
  | [], _, h => by cases h; rfl
  | d :: ds, _, h => by
    cases h with
    | cons h1 h2 => exact congrArg Nat.succ (Rps.length h2)
theorem Rps.append : ∀ {ds es : List PyData} {vs ws : List V}, Rps K F vs ds → Rps K F ws es → Rps K F (vs ++ ws) (ds ++ es)
  | [], _, _, _, h, g => by cases h; exact g
  | d :: ds, _, _, _, h, g => by
    cases h with
    | cons h1 h2 => exact .cons h1 (Rps.append h2 g)
theorem Rps.drop : ∀ (n : Nat) {ds : List PyData} {vs : List V}, Rps K F vs ds → Rps K F (vs.drop n) (ds.drop n)
  | 0, _, _, h => h
  | n + 1, [], _, h => by cases h; exact .nil
  | n + 1, d :: ds, _, h => by
    cases h with
    | cons h1 h2 => exact Rps.drop n h2
theorem Rps.take : ∀ (n : Nat) {ds : List PyData} {vs : List V}, Rps K F vs ds → Rps K F (vs.take n) (ds.take n)
  | 0, _, _, _ => .nil
  | n + 1, [], _, h => by cases h; exact .nil
  | n + 1, d :: ds, _, h => by
    cases h with
    | cons h1 h2 => exact .cons h1 (Rps.take n h2)
theorem Rps.get : ∀ {ds : List PyData} {vs : List V} {i : Nat} {d : PyData}, Rps K F vs ds → ds[i]? = some d → ∃ v, vs[i]? = some v ∧ Rp K F v d
  | [], _, _, _, _, h => by simp at h
  | x :: ds, _, 0, d, h, e => by
    cases h with
    | cons h1 h2 =>
      simp at e
      subst e
      exact ⟨_, rfl, h1⟩
  | x :: ds, _, i + 1, d, h, e => by
    cases h with
    | cons h1 h2 =>
      obtain ⟨v, q, r⟩ := Rps.get (i := i) h2 (by simpa using e)
      exact ⟨v, by simpa using q, r⟩
theorem Rps.getV : ∀ {ds : List PyData} {vs : List V} {i : Nat} {v : V}, Rps K F vs ds → vs[i]? = some v → ∃ d, ds[i]? = some d ∧ Rp K F v d
  | [], _, _, _, h, e => by cases h; simp at e
  | x :: ds, _, 0, v, h, e => by
    cases h with
    | cons h1 h2 =>
      simp at e
      subst e
      exact ⟨_, rfl, h1⟩
  | x :: ds, _, i + 1, v, h, e => by
    cases h with
    | cons h1 h2 =>
      obtain ⟨d, q, r⟩ := Rps.getV (i := i) h2 (by simpa using e)
      exact ⟨d, by simpa using q, r⟩
theorem Rps.set : ∀ {ds : List PyData} {vs : List V} (i : Nat) {v : V} {d : PyData}, Rps K F vs ds → Rp K F v d → Rps K F (vs.set i v) (ds.set i d)
  | [], _, _, _, _, h, _ => by cases h; exact .nil
  | x :: ds, _, 0, v, d, h, r => by
    cases h with
    | cons h1 h2 => exact .cons r h2
  | x :: ds, _, i + 1, v, d, h, r => by
    cases h with
    | cons h1 h2 => exact .cons h1 (Rps.set i h2 r)
end

/-! ### values, things that change -/
def WR (K : PySem.W.Frag) (F : Hp) (A : List Addr) : W → V → Prop
  | .d x, v => Rp K F v x
  | .ptr p, v => ∃ a, A[p]? = some a ∧ v = .ref a
  | .exn _, _ => False
def WRs (K : PySem.W.Frag) (F : Hp) (A : List Addr) : List W → List V → Prop
  | [], [] => True
  | w :: ws, v :: vs => WR K F A w v ∧ WRs K F A ws vs
  | _, _ => False
def MR (K : PySem.W.Frag) (F H : Hp) (a : Addr) : MO → Prop
  | .lst xs => F a = none ∧ ∃ vs, H a = some (.lst vs) ∧ Rps K F vs xs
  | .dead => True
structure Good (K : PySem.W.Frag) (F : Hp) (A : List Addr) (S : Sto) (H : Hp) : Prop where
  len : A.length = S.length
  nd : A.Nodup
  ex : Ex F H
  inH : ∀ a ∈ A, H a ≠ none
  ob : ∀ (p : Nat) (a : Addr) (mo : MO), A[p]? = some a → S[p]? = some mo → MR K F H a mo
structure Stp (F : Hp) (A : List Addr) (H F' : Hp) (A' : List Addr) (H' : Hp) : Prop where
  exF : Ex F F'
  exA : ∃ B, A' = A ++ B
  fr : ∀ b o, H b = some o → b ∉ A → H' b = some o
  kp : ∀ b, H b ≠ none → H' b ≠ none
  nA : ∀ b ∈ A', b ∈ A ∨ H b = none
  nF : ∀ b, F b = none → F' b ≠ none → b ∈ A ∨ H b = none
section
variable {K : PySem.W.Frag} {F F1 F2 : Hp} {A A1 A2 : List Addr} {H H1 H2 : Hp}
theorem Stp.refl : Stp F A H F A H := ⟨Ex.refl F, ⟨[], by simp⟩, fun _ _ h _ => h, fun _ h => h, fun _ h => .inl h, fun b h h' => absurd h h'⟩
theorem Stp.trans (s : Stp F A H F1 A1 H1) (t : Stp F1 A1 H1 F2 A2 H2) : Stp F A H F2 A2 H2 := by
  have back : ∀ b, H1 b = none → H b = none := fun b h => by
    cases q : H b with
    | none => rfl
    | some o => exact absurd h (s.kp b (by rw [q]; simp))
  refine ⟨s.exF.trans t.exF, ?_, fun b o h hn => ?_, fun b h => t.kp b (s.kp b h), fun b hb => ?_, fun b h h' => ?_⟩
  · obtain ⟨B, e⟩ := s.exA
    obtain ⟨C, e'⟩ := t.exA
    exact ⟨B ++ C, by rw [e', e, List.append_assoc]⟩
  · refine t.fr b o (s.fr b o h hn) fun hm => ?_
    rcases s.nA b hm with z | z
    · exact hn z
    · rw [h] at z; cases z
  · rcases t.nA b hb with z | z
    · exact s.nA b z
    · exact .inr (back b z)
  · cases q : F1 b with
    | some o => exact s.nF b h (by rw [q]; simp)
    | none =>
      rcases t.nF b q h' with z | z
      · exact s.nA b z
      · exact .inr (back b z)
theorem WR.mono {w : W} {v : V} (s : Stp F A H F1 A1 H1) (h : WR K F A w v) : WR K F1 A1 w v := by
  cases w with
  | d x => exact Rp.mono s.exF h
  | ptr p =>
    obtain ⟨a, e, q⟩ := h
    obtain ⟨B, e'⟩ := s.exA
    refine ⟨a, ?_, q⟩
    rw [e', List.getElem?_append_left (List.getElem?_eq_some_iff.mp e).1]
    exact e
  | exn x => exact h
theorem WRs.mono (s : Stp F A H F1 A1 H1) : ∀ {ws : List W} {vs : List V}, WRs K F A ws vs → WRs K F1 A1 ws vs
  | [], [], _ => trivial
  | w :: ws, v :: vs, h => ⟨h.1.mono s, WRs.mono s h.2⟩
  | [], _ :: _, h => h.elim
  | _ :: _, [], h => h.elim
theorem WRs.length : ∀ {ws : List W} {vs : List V}, WRs K F A ws vs → ws.length = vs.length
  | [], [], _ => rfl
  | w :: ws, v :: vs, h => congrArg Nat.succ (WRs.length h.2)
  | [], _ :: _, h => h.elim
  | _ :: _, [], h => h.elim
/-- a list read: plain or one that may change -/
theorem Good.list {S : Sto} {w : W} {v : V} {xs : List PyData} (g : Good K F A S H) (r : WR K F A w v) (e : lst? S w = some xs) : ∃ a vs, v = .ref a ∧ SqL K H a vs ∧ Rps K F vs xs := by
  unfold lst? at e
  split at e
  · cases e
    cases r with
    | lst h1 h2 => exact ⟨_, _, rfl, g.ex.l h1, h2⟩
  · rename_i p
    obtain ⟨a, ea, rfl⟩ := r
    cases q : S[p]? with
    | none => rw [q] at e; cases e
    | some mo =>
      rw [q] at e
      cases mo with
      | dead => cases e
      | lst ys =>
        cases e
        obtain ⟨_, vs, h1, h2⟩ := g.ob p a _ ea q
        exact ⟨a, vs, rfl, .inl (.inl h1), h2⟩
  · cases e
theorem Good.dat {S : Sto} {w : W} {v : V} {x : PyData} (g : Good K F A S H) (r : WR K F A w v) (e : dat? S w = some x) : Dp K H v x := by
  unfold dat? at e
  split at e
  · cases e
    exact (Rp.mono g.ex r).dp
  · rename_i p
    obtain ⟨a, ea, rfl⟩ := r
    cases q : S[p]? with
    | none => rw [q] at e; cases e
    | some mo =>
      rw [q] at e
      cases mo with
      | dead => cases e
      | lst ys =>
        cases e
        obtain ⟨_, vs, h1, h2⟩ := g.ob p a _ ea q
        exact .lst (.inl (.inl h1)) (Rps.mono g.ex h2).dp
  · cases e
/-- a new thing is laid, plain data from now on -/
theorem Good.laid {S : Sto} {p : Addr} {o : HO} (g : Good K F A S H) (h : H p = none) : Stp F A H (upd F p o) A (upd H p o) ∧ Good K (upd F p o) A S (upd H p o) := by
  have hF : F p = none := by
    cases q : F p with
    | none => rfl
    | some u => rw [g.ex p u q] at h; cases h
  have hA : ∀ a ∈ A, a ≠ p := fun a ha e => g.inH a ha (e ▸ h)
  have eF : Ex F (upd F p o) := fun b u e => by rw [upd_ne (ne_of_none e hF)]; exact e
  refine ⟨⟨eF, ⟨[], by simp⟩, fun b u e _ => by rw [upd_ne (ne_of_none e h)]; exact e, fun b hb => ?_, fun b hb => .inl hb, fun b h1 h2 => ?_⟩, ⟨g.len, g.nd, fun b u e => ?_, fun a ha => ?_, fun q a mo e1 e2 => ?_⟩⟩
  · by_cases e : b = p
    · rw [e, upd_same]; simp
    · rw [upd_ne e]; exact hb
  · by_cases e : b = p
    · exact .inr (e ▸ h)
    · rw [upd_ne e] at h2; exact absurd h1 h2
  · by_cases z : b = p
    · subst z
      rw [upd_same] at e ⊢
      exact e
    · rw [upd_ne z] at e ⊢
      exact g.ex b u e
  · rw [upd_ne (hA a ha)]
    exact g.inH a ha
  · have ha := hA a (List.mem_of_getElem? e1)
    have m := g.ob q a mo e1 e2
    cases mo with
    | dead => trivial
    | lst xs =>
      obtain ⟨m1, vs, m2, m3⟩ := m
      exact ⟨by rw [upd_ne ha]; exact m1, vs, by rw [upd_ne ha]; exact m2, Rps.mono eF m3⟩
/-- a new list is laid, one that may change -/
theorem Good.laidM {S : Sto} {p : Addr} {vs : List V} {xs : List PyData} (g : Good K F A S H) (h : H p = none) (r : Rps K F vs xs) : Stp F A H F (A ++ [p]) (upd H p (.lst vs)) ∧ Good K F (A ++ [p]) (S ++ [.lst xs]) (upd H p (.lst vs)) := by
  have hF : F p = none := by
    cases q : F p with
    | none => rfl
    | some u => rw [g.ex p u q] at h; cases h
  have hA : ∀ a ∈ A, a ≠ p := fun a ha e => g.inH a ha (e ▸ h)
  refine ⟨⟨Ex.refl F, ⟨[p], rfl⟩, fun b u e _ => by rw [upd_ne (ne_of_none e h)]; exact e, fun b hb => ?_, fun b hb => ?_, fun b h1 h2 => absurd h1 h2⟩, ⟨by rw [List.length_append, List.length_append, g.len]; rfl, ?_, fun b u e => ?_, fun a ha => ?_, fun q a mo e1 e2 => ?_⟩⟩
  · by_cases e : b = p
    · rw [e, upd_same]; simp
    · rw [upd_ne e]; exact hb
  · rcases List.mem_append.mp hb with z | z
    · exact .inl z
    · rw [List.mem_singleton.mp z]; exact .inr h
  · rw [List.nodup_append]
    exact ⟨g.nd, by simp, fun a ha b hb => by rw [List.mem_singleton.mp hb]; exact hA a ha⟩
  · rw [upd_ne (ne_of_none e hF)]
    exact g.ex b u e
  · rcases List.mem_append.mp ha with z | z
    · rw [upd_ne (hA a z)]; exact g.inH a z
    · rw [List.mem_singleton.mp z, upd_same]; simp
  · by_cases hq : q < A.length
    · rw [List.getElem?_append_left hq] at e1
      rw [List.getElem?_append_left (by rw [← g.len]; exact hq)] at e2
      have ha := hA a (List.mem_of_getElem? e1)
      have m := g.ob q a mo e1 e2
      cases mo with
      | dead => trivial
      | lst xs =>
        obtain ⟨m1, vs, m2, m3⟩ := m
        exact ⟨m1, vs, by rw [upd_ne ha]; exact m2, m3⟩
    · rw [List.getElem?_append_right (by omega)] at e1
      rw [List.getElem?_append_right (by rw [← g.len]; omega), ← g.len] at e2
      cases z : q - A.length with
      | succ n => rw [z] at e1; simp at e1
      | zero =>
        rw [z] at e1 e2
        simp at e1 e2
        subst e1 e2
        exact ⟨hF, vs, upd_same, r⟩
/-- a list that may change is changed -/
theorem Good.write {S : Sto} {p : Nat} {a : Addr} {vs : List V} {xs ys : List PyData} (g : Good K F A S H) (ha : A[p]? = some a) (hs : S[p]? = some (.lst ys)) (r : Rps K F vs xs) :
    Stp F A H F A (upd H a (.lst vs)) ∧ Good K F A (S.set p (.lst xs)) (upd H a (.lst vs)) := by
  obtain ⟨hF, _⟩ := g.ob p a _ ha hs
  have hm : a ∈ A := List.mem_of_getElem? ha
  have hp := (List.getElem?_eq_some_iff.mp hs).1
  refine ⟨⟨Ex.refl F, ⟨[], by simp⟩, fun b u e hn => by
    have hb : b ≠ a := fun z => hn (by rw [z]; exact hm)
    rw [upd_ne hb]; exact e, fun b hb => ?_, fun b hb => .inl hb, fun b h1 h2 => absurd h1 h2⟩, ⟨by rw [List.length_set]; exact g.len, g.nd, fun b u e => ?_, fun b hb => ?_, fun q b mo e1 e2 => ?_⟩⟩
  · by_cases e : b = a
    · rw [e, upd_same]; simp
    · rw [upd_ne e]; exact hb
  · rw [upd_ne (ne_of_none e hF)]
    exact g.ex b u e
  · by_cases e : b = a
    · rw [e, upd_same]; simp
    · rw [upd_ne e]; exact g.inH b hb
  · by_cases hq : q = p
    · subst hq
      rw [ha] at e1
      cases e1
      rw [List.getElem?_set_self hp] at e2
      cases e2
      exact ⟨hF, vs, upd_same, r⟩
    · rw [List.getElem?_set_ne (Ne.symm hq)] at e2
      have hab : b ≠ a := by
        rintro rfl
        obtain ⟨l1, f1⟩ := List.getElem?_eq_some_iff.mp ha
        obtain ⟨l2, f2⟩ := List.getElem?_eq_some_iff.mp e1
        exact hq ((List.getElem_inj g.nd).mp (f2.trans f1.symm))
      have m := g.ob q b mo e1 e2
      cases mo with
      | dead => trivial
      | lst xs =>
        obtain ⟨m1, us, m2, m3⟩ := m
        exact ⟨m1, us, by rw [upd_ne hab]; exact m2, m3⟩
/-- a list that may change is plain data from now on -/
theorem Good.freeze {S : Sto} {p : Nat} {a : Addr} {ys : List PyData} (g : Good K F A S H) (ha : A[p]? = some a) (hs : S[p]? = some (.lst ys)) :
    ∃ vs, H a = some (.lst vs) ∧ Stp F A H (upd F a (.lst vs)) A H ∧ Good K (upd F a (.lst vs)) A (S.set p .dead) H ∧ Rp K (upd F a (.lst vs)) (.ref a) (.list ys) := by
  obtain ⟨hF, vs, hH, r⟩ := g.ob p a _ ha hs
  have hm : a ∈ A := List.mem_of_getElem? ha
  have hp := (List.getElem?_eq_some_iff.mp hs).1
  have eF : Ex F (upd F a (.lst vs)) := fun b u e => by rw [upd_ne (ne_of_none e hF)]; exact e
  refine ⟨vs, hH, ⟨eF, ⟨[], by simp⟩, fun b u e hn => e, fun b hb => hb, fun b hb => .inl hb, fun b h1 h2 => ?_⟩, ⟨by rw [List.length_set]; exact g.len, g.nd, fun b u e => ?_, g.inH, fun q b mo e1 e2 => ?_⟩, .lst (.inl (.inl upd_same)) (Rps.mono eF r)⟩
  · by_cases z : b = a
    · exact .inl (z ▸ hm)
    · rw [upd_ne z] at h2; exact absurd h1 h2
  · by_cases z : b = a
    · subst z
      rw [upd_same] at e
      cases e
      exact hH
    · rw [upd_ne z] at e
      exact g.ex b u e
  · by_cases hq : q = p
    · subst hq
      rw [List.getElem?_set_self hp] at e2
      cases e2
      trivial
    · rw [List.getElem?_set_ne (Ne.symm hq)] at e2
      have hab : b ≠ a := by
        rintro rfl
        obtain ⟨l1, f1⟩ := List.getElem?_eq_some_iff.mp ha
        obtain ⟨l2, f2⟩ := List.getElem?_eq_some_iff.mp e1
        exact hq ((List.getElem_inj g.nd).mp (f2.trans f1.symm))
      have m := g.ob q b mo e1 e2
      cases mo with
      | dead => trivial
      | lst xs =>
        obtain ⟨m1, us, m2, m3⟩ := m
        exact ⟨by rw [upd_ne hab]; exact m1, us, m2, Rps.mono eF m3⟩
/-- only the first n things stay known -/
theorem Good.cut {S : Sto} (g : Good K F A S H) (n : Nat) : Good K F (A.take n) (S.take n) H := by
  refine ⟨by rw [List.length_take, List.length_take, g.len], g.nd.sublist (List.take_sublist _ _), g.ex, fun a ha => g.inH a (List.mem_of_mem_take ha), fun p a mo e1 e2 => ?_⟩
  have h1 : A[p]? = some a := by
    rw [List.getElem?_take] at e1
    split at e1
    · exact e1
    · cases e1
  have h2 : S[p]? = some mo := by
    rw [List.getElem?_take] at e2
    split at e2
    · exact e2
    · cases e2
  exact g.ob p a mo h1 h2
theorem Stp.cut (s : Stp F A H F1 A1 H1) : Stp F A H F1 (A1.take A.length) H1 := by
  obtain ⟨B, e⟩ := s.exA
  refine ⟨s.exF, ⟨[], by rw [e]; simp⟩, s.fr, s.kp, fun b hb => .inl ?_, s.nF⟩
  rw [e, List.take_left'] at hb
  · exact hb
  · rfl
end
end Mi

/-! MiD: operators, subscripts, slices, builtins, methods: each has a rule. -/
namespace Mi
open PySem PySem.Spec PyProof.Rows L2

theorem lim_line {n : Nat} (h : n ≤ lim) : n ≤ sizeLine := Nat.le_trans h (by decide)
theorem lim_line_lt {n : Nat} (h : n < lim) : n < sizeLine := Nat.lt_of_lt_of_le h (by decide)

/-- what follows an operation that gives w -/
def Then (K : PySem.W.Frag) (F : Hp) (A : List Addr) (H : Hp) (S' : Sto) (w : W) (Q : VK) : Prop :=
  ∀ z F' A' H', Stp F A H F' A' H' → Good K F' A' S' H' → WR K F' A' w z → Q z H'
section
variable {K : PySem.W.Frag} {F : Hp} {A : List Addr} {H : Hp} {S : Sto} {w : W} {Q : VK}
theorem Then.now {v : V} (k : Then K F A H S w Q) (g : Good K F A S H) (r : WR K F A w v) : Q v H := k v F A H Stp.refl g r
theorem Then.tup {vs : List V} {xs : List PyData} {p : Addr} (k : Then K F A H S (.d (.tuple xs)) Q) (g : Good K F A S H) (r : Rps K F vs xs) (h : H p = none) : Q (.ref p) (upd H p (.tup vs)) := by
  obtain ⟨s, g'⟩ := g.laid (o := .tup vs) h
  exact k _ _ _ _ s g' (show Rp K _ _ _ from .tup (.inl (.inl upd_same)) (Rps.mono s.exF r))
theorem Then.lst {vs : List V} {xs : List PyData} {p : Addr} (k : Then K F A H S (.d (.list xs)) Q) (g : Good K F A S H) (r : Rps K F vs xs) (h : H p = none) : Q (.ref p) (upd H p (.lst vs)) := by
  obtain ⟨s, g'⟩ := g.laid (o := .lst vs) h
  exact k _ _ _ _ s g' (show Rp K _ _ _ from .lst (.inl (.inl upd_same)) (Rps.mono s.exF r))
end

/-! ### two-place operators -/
/-- what every context of ours has -/
structure Cnd (K : PySem.W.Frag) (X : Cx) : Prop where
  hK : X.K = K
  un : X.A.units + 65 < cLine
  calm : X.calm = true
def OpS (K : PySem.W.Frag) (f : Value → Value → Sem Value) (g : Sto → W → W → Option W) : Prop :=
  ∃ r : R2, (∀ X, Cnd K X → OpR X f r) ∧ ∀ F A S H x y v u w Q, Good K F A S H → WR K F A x v → WR K F A y u → g S x y = some w → Then K F A H S w Q → r v u H Q
section
variable {K : PySem.W.Frag} {X : Cx}
theorem ops_int {f : Value → Value → Sem Value} {C : Int → Int → Prop} {g : Int → Int → V} {G : Int → Int → Option W} (h : ∀ X, OpR X f (rI C g))
    (hc : ∀ i j w, G i j = some w → C i j ∧ ∃ x, w = .d x ∧ ∀ F, Rp K F (g i j) x) : OpS K f (fun _ => int2 G) := by
  refine ⟨_, fun X _ => h X, fun F A S H x y v u w Q gd rx ry e k => ?_⟩
  replace e : int2 G x y = some w := e
  unfold int2 at e
  split at e
  · rename_i a b
    cases rx
    cases ry
    obtain ⟨c, x, rfl, r⟩ := hc a b w e
    exact ⟨a, b, rfl, rfl, c, k.now gd (r F)⟩
  · cases e
theorem OpR.of0 {f : Value → Value → Sem Value} {g : Int → Int → V} (h : OpR X f (rI0 g)) : OpR X f (rI (fun _ _ => True) g) := fun pins s σ H x y v u Q I rx ry q => by
  obtain ⟨i, j, e1, e2, _, q⟩ := q
  exact h pins s σ H x y v u Q I rx ry ⟨i, j, e1, e2, q⟩
theorem ops_sub : OpS K (binaryOp .Sub) (o2 .sub) := ops_int (fun X => OpR.of0 op_sub) fun i j w e => by
  cases e
  exact ⟨trivial, _, rfl, fun F => .int _⟩
theorem ops_lt : OpS K (compareOp .Lt) (o2 .lt) := ops_int (fun X => OpR.of0 op_lt) fun i j w e => by
  cases e
  exact ⟨trivial, _, rfl, fun F => .bl _⟩
theorem ops_le : OpS K (compareOp .LtE) (o2 .le) := ops_int (fun X => OpR.of0 op_le) fun i j w e => by
  cases e
  exact ⟨trivial, _, rfl, fun F => .bl _⟩
theorem ops_gt : OpS K (compareOp .Gt) (o2 .gt) := ops_int (fun X => OpR.of0 op_gt) fun i j w e => by
  cases e
  exact ⟨trivial, _, rfl, fun F => .bl _⟩
theorem ops_ge : OpS K (compareOp .GtE) (o2 .ge) := ops_int (fun X => OpR.of0 op_ge) fun i j w e => by
  cases e
  exact ⟨trivial, _, rfl, fun F => .bl _⟩
theorem op_fdivA : OpR X (binaryOp .FloorDiv) (rI (fun _ j => j ≠ 0 ∧ j.natAbs.log2 < 9000) fun i j => .int (i.fdiv j)) := opI fun i j _ _ _ _ _ hc q =>
  floordiv_int hc.1 q (.inl (PyProof.noPylong_of_log2 hc.2))
theorem ops_fdiv : OpS K (binaryOp .FloorDiv) (o2 .fdiv) := ops_int (fun X => op_fdivA) fun i j w e => by
  by_cases h : divOk j = true
  · rw [if_pos h] at e
    cases e
    unfold divOk at h
    rw [Bool.and_eq_true] at h
    exact ⟨⟨by simpa using h.1, of_decide_eq_true h.2⟩, _, rfl, fun F => .int _⟩
  · rw [if_neg h] at e
    cases e
theorem ops_mod : OpS K (binaryOp .Mod) (o2 .mod) := ops_int (fun X => op_modN) fun i j w e => by
  by_cases h : j = 0
  · rw [if_pos h] at e
    cases e
  · rw [if_neg h] at e
    cases e
    exact ⟨h, _, rfl, fun F => .int _⟩
theorem ops_pow : OpS K (binaryOp .Pow) (o2 .pow) := ops_int (fun X => op_pow) fun i j w e => by
  by_cases h : powOk i j = true
  · rw [if_pos h] at e
    cases e
    unfold powOk at h
    rw [Bool.and_eq_true, Bool.and_eq_true] at h
    exact ⟨⟨of_decide_eq_true h.1, of_decide_eq_true h.2.1, of_decide_eq_true h.2.2⟩, _, rfl, fun F => .int _⟩
  · rw [if_neg h] at e
    cases e
/-- list + list, both read -/
def rCatS (K : PySem.W.Frag) : R2 := fun x y H Q => ∃ l b xs zs, x = .ref l ∧ y = .ref b ∧ SqL K H l xs ∧ SqL K H b zs ∧ xs.length + zs.length ≤ sizeLine ∧ ∀ p, H p = none → Q (.ref p) (upd H p (.lst (xs ++ zs)))
theorem op_catS : OpR X (binaryOp .Add) (rCatS X.K) := by
  intro pins s σ H x y v u Q I rx ry h
  obtain ⟨l, b, xs, zs, rfl, rfl, hH, hB, hz, q⟩ := h
  cases rx
  cases ry
  obtain ⟨its, r, pl, z⟩ := I.list hH
  obtain ⟨its2, r2, pl2, z2⟩ := I.list hB
  have hl := r.length
  have hl2 := r2.length
  obtain ⟨⟨cls, dd, data, sl⟩, n, ho, hc, _, hd⟩ := pl
  obtain ⟨⟨cls2, dd2, data2, sl2⟩, n2, ho2, hc2, _, hd2⟩ := pl2
  simp only at hc hd hc2 hd2
  subst hc hd hc2 hd2
  have ea : its.toArray ++ its2.toArray = (its ++ its2).toArray := by simp
  refine concat_meets ⟨_, ho, rfl⟩ ⟨_, ho2, rfl⟩ noFill_list_add seq_list_add PySem.F.slot_list_add PySem.F.entry_list_add (PySem.F.args_list_add_2 _ _) (list_addW l b its.toArray its2.toArray n n2 dd dd2 sl sl2 (by rw [List.size_toArray, List.size_toArray]; omega)) ⟨ho, ho2, ?_⟩
  rw [ea]
  exact ⟨.ref _, _, I.lnew (t' := s.toks) (r.append r2) (by rw [List.length_append]; omega), rfl, q _ I.fresh⟩
theorem ops_add : OpS K (binaryOp .Add) (o2 .add) := by
  refine ⟨fun x y H Q => (rI0 (fun i j => .int (i + j)) x y H Q ∨ ∃ i j, x = .str i ∧ y = .str j ∧ i.length + j.length ≤ sizeLine ∧ Q (.str (i ++ j)) H) ∨ rCatS K x y H Q, fun X hX => by
    have hK := hX.hK
    subst hK
    exact (op_add.or op_add_str).or op_catS, fun F A S H x y v u w Q gd rx ry e k => ?_⟩
  have e' : addW S x y = some w := e
  unfold addW at e'
  split at e'
  · cases e'
    cases rx
    cases ry
    exact .inl (.inl ⟨_, _, rfl, rfl, k.now gd (.int _)⟩)
  · rename_i a b
    cases rx
    cases ry
    split at e'
    · rename_i h
      cases e'
      exact .inl (.inr ⟨_, _, rfl, rfl, lim_line h, k.now gd (.str _)⟩)
    · cases e'
  · split at e'
    · rename_i a b e1 e2
      split at e'
      · rename_i h
        cases e'
        obtain ⟨l, vs, rfl, h1, r1⟩ := gd.list rx e1
        obtain ⟨m, us, rfl, h2, r2⟩ := gd.list ry e2
        refine .inr ⟨l, m, vs, us, rfl, rfl, h1, h2, ?_, fun p hp => k.lst gd (r1.append r2) hp⟩
        rw [r1.length, r2.length]
        exact lim_line h
      · cases e'
    · cases e'
def rMulS : R2 := fun x y H Q => ∃ z i, x = .str z ∧ y = .int i ∧ 1 ≤ i ∧ i ≤ lim ∧ z.length * i.toNat ≤ lim ∧ Q (.str (repS z i.toNat)) H
theorem foldl_reps (a : Array Nat) : ∀ (k : Nat) (acc : Array Nat), (List.foldl (fun x1 x2 => x1 ++ x2) acc (List.replicate k a)) = acc ++ ((List.replicate k a.toList).flatten).toArray
  | 0, acc => by simp
  | k + 1, acc => by
    rw [List.replicate_succ, List.foldl_cons, foldl_reps a k]
    apply Array.ext'
    simp [List.replicate_succ]
theorem op_mulS : OpR X (binaryOp .Mult) rMulS := by
  intro pins s σ H x y v u Q I rx ry h
  obtain ⟨z, i, rfl, rfl, h1, h2, h3, q⟩ := h
  obtain ⟨t, rfl⟩ := rx
  obtain ⟨t', rfl⟩ := ry
  have hi : i ≤ 1000000 := h2
  have h3' : z.length * i.toNat ≤ 1000000 := h3
  refine PySem.P.mul_str ?_ (fun _ _ => ?_) (fun _ _ => ?_) ?_
  · rw [decide_eq_false (by omega), decide_eq_false (by omega)]; rfl
  · have hz : (z.length : Int) ≤ 1000000 := by
      have : z.length ≤ z.length * i.toNat := Nat.le_mul_of_pos_right _ (by omega)
      omega
    have : (1000000 : Int) ≤ (2 ^ 63 - 1) / i := Int.le_ediv_of_mul_le (by omega) (by omega)
    omega
  · unfold Builtin.Str.tooLong
    have : sizeLine = 16777216 := sizeLine_eq
    simp
    omega
  · rw [if_neg (by omega)]
    have fin : ∀ (s' : Shared), Inv X pins σ H s' → ∀ t2, EP X pins σ Q (.str (repS z i.toNat) t2) s' := fun s' I' t2 => ⟨.str _, H, I', ⟨_, rfl⟩, q⟩
    by_cases c : (i == 1 || z.length == 0) = true
    · rw [if_pos c]
      have e : repS z i.toNat = z := by
        rw [Bool.or_eq_true] at c
        rcases c with c | c
        · have : i = 1 := by simpa using c
          subst this
          unfold repS
          apply TL.ext_tl
          simp [TL.tl]
        · have hz : z.cps.toList = [] := by
            have : z.cps.size = 0 := by simpa [Str.length] using c
            simpa using this
          unfold repS
          apply TL.ext_tl
          simp [TL.tl, hz]
      have := fin s I t
      rw [e] at this
      exact this
    · rw [if_neg c]
      have e : (⟨(List.replicate i.toNat z.cps).foldl (· ++ ·) #[]⟩ : Str) = repS z i.toNat := by
        unfold repS
        rw [foldl_reps]
        simp
      rw [e]
      refine ⟨?_, fin _ (I.tok _) _⟩
      show (repS z i.toNat).length ≤ sizeLine
      unfold repS Str.length
      have e2 : z.cps.toList.length = z.length := by simp [Str.length]
      rw [List.size_toArray, List.length_flatten, List.map_replicate, List.sum_replicate_nat, e2, Nat.mul_comm]
      exact lim_line h3
theorem ops_mul : OpS K (binaryOp .Mult) (o2 .mul) := by
  refine ⟨_, fun X _ => op_mulW.or op_mulS, fun F A S H x y v u w Q gd rx ry e k => ?_⟩
  have e' : mulW x y = some w := e
  unfold mulW at e'
  split at e'
  · cases rx
    cases ry
    split at e'
    · rename_i h
      cases e'
      exact .inl ⟨_, _, rfl, rfl, (by unfold mulOk at h; simpa [CMulW] using h), k.now gd (.int _)⟩
    · cases e'
  · cases rx
    cases ry
    split at e'
    · rename_i h
      cases e'
      exact .inr ⟨_, _, rfl, rfl, h.2.2, h.2.1, h.1, k.now gd (.str _)⟩
    · cases e'
  · cases e'
end
end Mi

/-! MiD2: ==, in, is, subscripts, slices, builtins, methods. -/
namespace Mi
open PySem PySem.Spec PyProof.Rows L2

section
variable {K : PySem.W.Frag} {X : Cx}
theorem blW_some {o : Option Bool} {w : W} (h : blW o = some w) : ∃ b, o = some b ∧ w = .d (.bool b) := by
  cases o with
  | none => cases h
  | some b => exact ⟨b, rfl, (Option.some.inj h).symm⟩
theorem not_some {o : Option Bool} {b : Bool} (h : o.map not = some b) : ∃ c, o = some c ∧ b = !c := by
  cases o with
  | none => cases h
  | some c => exact ⟨c, rfl, (Option.some.inj h).symm⟩
theorem scal_of {K : PySem.W.Frag} {H : Hp} {a b : PyData} {v u : V} (h : scal2 a b = true) (ha : Dp K H v a) (hb : Dp K H u b) : scal v u = true ∧ decide (v = u) = peq a b := by
  cases ha <;> cases hb <;> simp [scal2] at h <;> refine ⟨rfl, ?_⟩ <;> simp [peq] <;> first | (apply Bool.eq_iff_iff.mpr; simp) | rfl
theorem eq_core {K : PySem.W.Frag} {F : Hp} {A : List Addr} {S : Sto} {H : Hp} {x y : W} {v u : V} {b : Bool} (gd : Good K F A S H) (rx : WR K F A x v) (ry : WR K F A y u) (e : eqW S x y = some b) :
    (scal v u = true ∧ decide (v = u) = b) ∨ ∃ d f, Dp K H v d ∧ Dp K H u f ∧ SeqAt.shaped d = true ∧ SeqAt.shaped f = true ∧ PyData.eqv d f = b := by
  unfold eqW at e
  split at e
  · rename_i a c e1 e2
    have h1 := gd.dat rx e1
    have h2 := gd.dat ry e2
    unfold eqD at e
    split at e
    · rename_i hs
      obtain ⟨q1, q2⟩ := scal_of hs h1 h2
      exact .inl ⟨q1, by rw [q2]; exact Option.some.inj e⟩
    · split at e
      · rename_i hs
        rw [Bool.and_eq_true] at hs
        exact .inr ⟨a, c, h1, h2, hs.1, hs.2, Option.some.inj e⟩
      · cases e
  · cases e
theorem ops_eq : OpS K (compareOp .Eq) (o2 .eq) := by
  refine ⟨fun x y H Q => rEq x y H Q ∨ rEqD K x y H Q, fun X hX => by
    have hK := hX.hK
    have hu := hX.un
    subst hK
    exact op_eq.or (op_eqD (by omega)), fun F A S H x y v u w Q gd rx ry e k => ?_⟩
  obtain ⟨b, e1, rfl⟩ := blW_some (show blW (eqW S x y) = some w from e)
  rcases eq_core gd rx ry e1 with ⟨h1, h2⟩ | ⟨d, f, h1, h2, h3, h4, h5⟩
  · exact .inl ⟨h1, by rw [h2]; exact k.now gd (.bl b)⟩
  · exact .inr ⟨d, f, h1, h2, h3, h4, by rw [h5]; exact k.now gd (.bl b)⟩
theorem ops_ne : OpS K (compareOp .NotEq) (o2 .ne) := by
  refine ⟨fun x y H Q => rNe x y H Q ∨ rNeD K x y H Q, fun X hX => by
    have hK := hX.hK
    have hu := hX.un
    subst hK
    exact op_ne.or (op_neD (by omega)), fun F A S H x y v u w Q gd rx ry e k => ?_⟩
  obtain ⟨b, e1, rfl⟩ := blW_some (show blW ((eqW S x y).map not) = some w from e)
  obtain ⟨c, e2, rfl⟩ := not_some e1
  rcases eq_core gd rx ry e2 with ⟨h1, h2⟩ | ⟨d, f, h1, h2, h3, h4, h5⟩
  · exact .inl ⟨h1, by rw [h2]; exact k.now gd (.bl _)⟩
  · exact .inr ⟨d, f, h1, h2, h3, h4, by rw [h5]; exact k.now gd (.bl _)⟩
/-! ### in -/
theorem flat_of {K : PySem.W.Frag} {F : Hp} {x : PyData} {v : V} (h : flatD x = true) (r : Rp K F v x) : flatV v = true := by
  cases r <;> simp [flatD] at h <;> rfl
theorem eqV_of {K : PySem.W.Frag} {F F' : Hp} {x y : PyData} {v u : V} (hx : flatD x = true) (hy : flatD y = true) (r : Rp K F v x) (q : Rp K F' u y) : eqV v u = eqF x y := by
  cases r <;> cases q <;> simp [flatD] at hx hy <;> simp [eqV, eqF]
theorem flats_of {K : PySem.W.Frag} {F : Hp} : ∀ {xs : List PyData} {vs : List V}, xs.all flatD = true → Rps K F vs xs → vs.all flatV = true
  | [], _, _, r => by cases r; rfl
  | x :: xs, _, h, r => by
    cases r with
    | cons r1 r2 =>
      rw [List.all_cons, Bool.and_eq_true] at h
      rw [List.all_cons, flat_of h.1 r1, flats_of h.2 r2]; rfl
theorem inV_of {K : PySem.W.Frag} {F F' : Hp} {x : PyData} {v : V} (hx : flatD x = true) (r : Rp K F v x) : ∀ {xs : List PyData} {vs : List V}, xs.all flatD = true → Rps K F' vs xs → inV v vs = xs.any fun y => eqF y x
  | [], _, _, r => by cases r; rfl
  | y :: xs, _, h, q => by
    cases q with
    | cons r1 r2 =>
      rw [List.all_cons, Bool.and_eq_true] at h
      have ih := inV_of hx r h.2 r2
      unfold inV at ih ⊢
      rw [List.any_cons, List.any_cons, ih, eqV_of h.1 hx r1 r]
theorem in_core {K : PySem.W.Frag} {F : Hp} {A : List Addr} {S : Sto} {H : Hp} {x y : W} {v u : V} {b : Bool} (gd : Good K F A S H) (rx : WR K F A x v) (ry : WR K F A y u) (e : inW S x y = some b) :
    (∃ (c : Nat) (z : Str), v = .str ⟨#[c]⟩ ∧ u = .str z ∧ decide (c ∈ z.cps.toList) = b) ∨ (∃ p xs, u = .ref p ∧ SqL K H p xs ∧ flatV v = true ∧ xs.all flatV = true ∧ inV v xs = b) ∨
      ∃ d ds, Dp K H v d ∧ Dp K H u (.list ds) ∧ SeqAt.shaped d = true ∧ SeqAt.shaped (.list ds) = true ∧ (ds.any fun z => PyData.eqv z d) = b := by
  unfold inW at e
  split at e
  · rename_i a z
    cases rx
    cases ry
    split at e
    · rename_i c hc
      refine .inl ⟨c, z, ?_, rfl, Option.some.inj e⟩
      have : a = ⟨#[c]⟩ := TL.ext_tl hc
      rw [this]
    · cases e
  · rename_i a hn
    split at e
    · rename_i xs e1
      obtain ⟨p, vs, rfl, h1, r1⟩ := gd.list ry e1
      unfold inL at e
      split at e
      · rename_i hs
        rw [Bool.and_eq_true] at hs
        exact .inr (.inl ⟨p, vs, rfl, h1, flat_of hs.1 rx, flats_of hs.2 r1, by rw [inV_of hs.1 rx hs.2 r1]; exact Option.some.inj e⟩)
      · split at e
        · rename_i hs
          rw [Bool.and_eq_true] at hs
          exact .inr (.inr ⟨a, xs, (Rp.mono gd.ex rx).dp, .lst (h1) (Rps.mono gd.ex r1).dp, hs.1, hs.2, Option.some.inj e⟩)
        · cases e
    · cases e
  · cases e
theorem ops_in : OpS K (compareOp .In) (o2 .in_) := by
  refine ⟨fun x y H Q => (∃ (c : Nat) (z : Str), x = .str ⟨#[c]⟩ ∧ y = .str z ∧ Q (.bl (decide (c ∈ z.cps.toList))) H) ∨ rIn K false x y H Q ∨ rInD K x y H Q, fun X hX => by
    have hK := hX.hK
    have hu := hX.un
    subst hK
    exact op_in_sign.or (op_in_seq.or (op_inD hu)), fun F A S H x y v u w Q gd rx ry e k => ?_⟩
  obtain ⟨b, e1, rfl⟩ := blW_some (show blW (inW S x y) = some w from e)
  rcases in_core gd rx ry e1 with ⟨c, z, h1, h2, h3⟩ | ⟨p, xs, h1, h2, h3, h4, h5⟩ | ⟨d, ds, h1, h2, h3, h4, h5⟩
  · exact .inl ⟨c, z, h1, h2, by rw [h3]; exact k.now gd (.bl _)⟩
  · refine .inr (.inl ⟨p, xs, h1, .inl h2, h3, h4, ?_⟩)
    rw [h5]
    exact k.now gd (.bl _)
  · exact .inr (.inr ⟨d, ds, h1, h2, h3, h4, by rw [h5]; exact k.now gd (.bl _)⟩)
theorem ops_notin : OpS K (compareOp .NotIn) (o2 .notin) := by
  refine ⟨fun x y H Q => (∃ (c : Nat) (z : Str), x = .str ⟨#[c]⟩ ∧ y = .str z ∧ Q (.bl (!decide (c ∈ z.cps.toList))) H) ∨ rIn K true x y H Q ∨ rNotInD K x y H Q, fun X hX => by
    have hK := hX.hK
    have hu := hX.un
    subst hK
    exact op_notIn_sign.or (op_notIn_seq.or (op_notInD hu)), fun F A S H x y v u w Q gd rx ry e k => ?_⟩
  obtain ⟨b, e1, rfl⟩ := blW_some (show blW ((inW S x y).map not) = some w from e)
  obtain ⟨c, e2, rfl⟩ := not_some e1
  rcases in_core gd rx ry e2 with ⟨c, z, h1, h2, h3⟩ | ⟨p, xs, h1, h2, h3, h4, h5⟩ | ⟨d, ds, h1, h2, h3, h4, h5⟩
  · exact .inl ⟨c, z, h1, h2, by rw [h3]; exact k.now gd (.bl _)⟩
  · refine .inr (.inl ⟨p, xs, h1, .inl h2, h3, h4, ?_⟩)
    rw [h5]
    exact k.now gd (.bl _)
  · exact .inr (.inr ⟨d, ds, h1, h2, h3, h4, by rw [h5]; exact k.now gd (.bl _)⟩)
/-! ### is -/
theorem is_core {K : PySem.W.Frag} {F : Hp} {A : List Addr} {H : Hp} {x y : W} {v u : V} {b : Bool} (rx : WR K F A x v) (ry : WR K F A y u) (e : isW x y = some b) :
    (∃ c d : Bool, v = .bl c ∧ u = .bl d ∧ decide (c = d) = b) ∨ (u = .non ∧ decide (v = .non) = b) := by
  unfold isW at e
  split at e
  · rename_i c d
    cases rx
    cases ry
    exact .inl ⟨c, d, rfl, rfl, by rw [← Option.some.inj e]; apply Bool.eq_iff_iff.mpr; simp⟩
  · rename_i a hn
    cases ry
    refine .inr ⟨rfl, ?_⟩
    rw [← Option.some.inj e]
    cases rx <;> simp
  · cases ry
    obtain ⟨a, _, rfl⟩ := rx
    exact .inr ⟨rfl, by rw [← Option.some.inj e]; simp⟩
  · exact rx.elim
  · cases e
theorem ops_is : OpS K (compareOp .Is) (o2 .is_) := by
  refine ⟨fun x y H Q => rIsB x y H Q ∨ (y = .non ∧ Q (.bl (decide (x = .non))) H), fun X hX => by
    have hK := hX.hK
    have hu := hX.un
    subst hK
    exact op_isBl.or op_isN, fun F A S H x y v u w Q gd rx ry e k => ?_⟩
  obtain ⟨b, e1, rfl⟩ := blW_some (show blW (isW x y) = some w from e)
  rcases is_core (H := H) rx ry e1 with ⟨c, d, h1, h2, h3⟩ | ⟨h1, h2⟩
  · exact .inl ⟨c, d, h1, h2, by rw [h3]; exact k.now gd (.bl _)⟩
  · exact .inr ⟨h1, by rw [h2]; exact k.now gd (.bl _)⟩
theorem ops_isnot : OpS K (compareOp .IsNot) (o2 .isnot) := by
  refine ⟨fun x y H Q => rNotB x y H Q ∨ (y = .non ∧ Q (.bl (!decide (x = .non))) H), fun X hX => by
    have hK := hX.hK
    have hu := hX.un
    subst hK
    exact op_notBl.or op_notN, fun F A S H x y v u w Q gd rx ry e k => ?_⟩
  obtain ⟨b, e1, rfl⟩ := blW_some (show blW ((isW x y).map not) = some w from e)
  obtain ⟨c, e2, rfl⟩ := not_some e1
  rcases is_core (H := H) rx ry e2 with ⟨c, d, h1, h2, h3⟩ | ⟨h1, h2⟩
  · exact .inl ⟨c, d, h1, h2, by rw [h3]; exact k.now gd (.bl _)⟩
  · exact .inr ⟨h1, by rw [h2]; exact k.now gd (.bl _)⟩
/-! ### o[i] -/
def IxS (K : PySem.W.Frag) (g : Sto → W → W → Option W) : Prop :=
  ∃ r : R2, (∀ X, Cnd K X → IxR X r) ∧ ∀ F A S H x y v u w Q, Good K F A S H → WR K F A x v → WR K F A y u → g S x y = some w → Then K F A H S w Q → r v u H Q
theorem atI_rps {K : PySem.W.Frag} {F : Hp} {xs : List PyData} {vs : List V} {i : Int} {d : PyData} (r : Rps K F vs xs) (h : atI xs i = some d) : ∃ v, atI vs i = some v ∧ Rp K F v d := by
  unfold atI at h ⊢
  rw [r.length]
  cases q : ixN xs.length i with
  | none => rw [q] at h; cases h
  | some j =>
    rw [q] at h
    exact Rps.get r (show xs[j]? = some d from h)
theorem ixs : IxS K ixW := by
  refine ⟨fun x y H Q => rIxL K x y H Q ∨ rIxT K x y H Q ∨ rIxS x y H Q, fun X hX => by
    have hK := hX.hK
    have hu := hX.un
    subst hK
    exact ix_list.or (ix_tup.or ix_str), fun F A S H x y v u w Q gd rx ry e k => ?_⟩
  unfold ixW at e
  split at e
  · rename_i z i
    cases rx
    cases ry
    split at e
    · rename_i hl
      cases q : atI z.cps.toList i with
      | none => rw [q] at e; cases e
      | some c =>
        rw [q] at e
        cases e
        exact .inr (.inr ⟨z, i, c, rfl, rfl, lim_line hl, q, k.now gd (.str _)⟩)
    · cases e
  · rename_i xs i
    cases ry
    cases rx with
    | tup h1 h2 =>
      cases q : atI xs i with
      | none => rw [q] at e; cases e
      | some d =>
        rw [q] at e
        cases e
        obtain ⟨v, q1, q2⟩ := atI_rps h2 q
        exact .inr (.inl ⟨_, _, i, v, rfl, rfl, gd.ex.t h1, q1, k.now gd q2⟩)
  · rename_i i hn1 hn2
    cases ry
    split at e
    · rename_i xs e1
      obtain ⟨p, vs, rfl, h1, r1⟩ := gd.list rx e1
      cases q : atI xs i with
      | none => rw [q] at e; cases e
      | some d =>
        rw [q] at e
        cases e
        obtain ⟨v, q1, q2⟩ := atI_rps r1 q
        exact .inl ⟨p, vs, i, v, rfl, rfl, h1, q1, k.now gd q2⟩
    · cases e
  · cases e
/-! ### o[lo:hi] -/
theorem cut_rps {K : PySem.W.Frag} {F : Hp} {xs : List PyData} {vs : List V} (r : Rps K F vs xs) (lo hi : Option Int) : Rps K F (cutV vs lo hi) (cutG xs lo hi) := by
  unfold cutV cutG
  rw [r.length]
  exact (r.drop _).take _
def SlS (K : PySem.W.Frag) (g : Sto → W → Option Int → Option Int → Option W) : Prop :=
  ∃ r : V → Option Int → Option Int → Hp → VK → Prop, (∀ X, Cnd K X → SlR X r) ∧ ∀ F A S H x v lo hi w Q, Good K F A S H → WR K F A x v → g S x lo hi = some w → Then K F A H S w Q → r v lo hi H Q
theorem sls : SlS K slW := by
  refine ⟨fun x lo hi H Q => rSlL K x lo hi H Q ∨ rSlT K x lo hi H Q ∨ rSlS x lo hi H Q, fun X hX => by
    have hK := hX.hK
    have hu := hX.un
    subst hK
    exact sl_list.or (sl_tup.or sl_str), fun F A S H x v lo hi w Q gd rx e k => ?_⟩
  unfold slW at e
  split at e
  · rename_i z
    cases rx
    split at e
    · rename_i hl
      cases e
      exact .inr (.inr ⟨z, rfl, lim_line hl, k.now gd (.str _)⟩)
    · cases e
  · rename_i xs
    cases rx with
    | tup h1 h2 =>
      split at e
      · cases e
      · rename_i hc
        cases e
        refine .inr (.inl ⟨_, _, rfl, gd.ex.t h1, by rw [h2.length]; exact hc, fun p hp => k.tup gd (cut_rps h2 lo hi) hp⟩)
  · split at e
    · rename_i xs e1
      cases e
      obtain ⟨p, vs, rfl, h1, r1⟩ := gd.list rx e1
      exact .inl ⟨p, vs, rfl, h1, fun q hq => k.lst gd (cut_rps r1 lo hi) hq⟩
    · cases e
end
end Mi

/-! MiD3: builtins, methods. -/
namespace Mi
open PySem PySem.Spec PyProof.Rows L2
def CallS (K : PySem.W.Frag) (f : Value) (g : Sto → List W → Option W) : Prop :=
  ∃ r : List V → Hp → VK → Prop, (∀ X, Cnd K X → CallR X f r) ∧ ∀ F A S H ws vs w Q, Good K F A S H → WRs K F A ws vs → g S ws = some w → Then K F A H S w Q → r vs H Q
section
variable {K : PySem.W.Frag} {F : Hp} {A : List Addr}
theorem WRs.one {w : W} {vs : List V} (h : WRs K F A [w] vs) : ∃ v, vs = [v] ∧ WR K F A w v := by
  cases vs with
  | nil => exact h.elim
  | cons v r =>
    cases r with
    | nil => exact ⟨v, rfl, h.1⟩
    | cons _ _ => exact h.2.elim
theorem WRs.two {w x : W} {vs : List V} (h : WRs K F A [w, x] vs) : ∃ v u, vs = [v, u] ∧ WR K F A w v ∧ WR K F A x u := by
  cases vs with
  | nil => exact h.elim
  | cons v r =>
    obtain ⟨u, rfl, q⟩ := WRs.one h.2
    exact ⟨v, u, rfl, h.1, q⟩
end
section
variable {K : PySem.W.Frag} {X : Cx}
theorem cs_len : CallS K (.builtin "len") (bi .len) := by
  refine ⟨fun xs H Q => (∃ z, xs = [.str z] ∧ z.length ≤ sizeLine ∧ Q (.int z.length) H) ∨ ∃ p ys, xs = [.ref p] ∧ (SqL K H p ys ∨ SqT K H p ys) ∧ Q (.int ys.length) H, fun X hX => by
    have hK := hX.hK
    have hc := hX.calm
    subst hK
    exact call_len_str.or call_len_seq, fun F A S H ws vs w Q gd rs e k => ?_⟩
  replace e : biLen S ws = some w := e
  unfold biLen at e
  split at e
  · obtain ⟨v, rfl, r⟩ := rs.one
    cases r
    split at e
    · rename_i hl
      cases e
      exact .inl ⟨_, rfl, lim_line hl, k.now gd (.int _)⟩
    · cases e
  · obtain ⟨v, rfl, r⟩ := rs.one
    cases r with
    | tup h1 h2 =>
      cases e
      exact .inr ⟨_, _, rfl, .inr (gd.ex.t h1), by rw [h2.length]; exact k.now gd (.int _)⟩
  · rename_i x _ _
    obtain ⟨v, rfl, r⟩ := rs.one
    cases q : lst? S x with
    | none => rw [q] at e; cases e
    | some xs =>
      rw [q] at e
      cases e
      obtain ⟨p, us, rfl, h1, r1⟩ := gd.list r q
      exact .inr ⟨p, us, rfl, .inl (h1), by rw [r1.length]; exact k.now gd (.int _)⟩
  · cases e
theorem int1_of {f : Int → Option W} {ws : List W} {w : W} (e : int1 f ws = some w) : ∃ a, ws = [.d (.int a)] ∧ f a = some w := by
  unfold int1 at e
  split at e
  · exact ⟨_, rfl, e⟩
  · cases e
theorem int11_of {f : Int → Int → Option W} {ws : List W} {w : W} (e : int11 f ws = some w) : ∃ a b, ws = [.d (.int a), .d (.int b)] ∧ f a b = some w := by
  unfold int11 at e
  split at e
  · exact ⟨_, _, rfl, e⟩
  · cases e
theorem cs_abs : CallS K (.builtin "abs") (bi .abs) := by
  refine ⟨_, fun X _ => call_abs, fun F A S H ws vs w Q gd rs e k => ?_⟩
  obtain ⟨a, rfl, e⟩ := int1_of e
  obtain ⟨v, rfl, r⟩ := rs.one
  cases r
  cases e
  exact ⟨_, rfl, k.now gd (.int _)⟩
theorem cs_max : CallS K (.builtin "max") (bi .max2) := by
  refine ⟨fun xs H Q => ∃ i j, xs = [.int i, .int j] ∧ Q (.int (if j > i then j else i)) H, fun X hX => by
    have hK := hX.hK
    have hc := hX.calm
    subst hK
    exact call_max2 hc, fun F A S H ws vs w Q gd rs e k => ?_⟩
  obtain ⟨a, b, rfl, e⟩ := int11_of e
  obtain ⟨v, u, rfl, r, r'⟩ := rs.two
  cases r
  cases r'
  cases e
  exact ⟨_, _, rfl, k.now gd (.int _)⟩
theorem cs_min : CallS K (.builtin "min") (bi .min2) := by
  refine ⟨fun xs H Q => ∃ i j, xs = [.int i, .int j] ∧ Q (.int (if j < i then j else i)) H, fun X hX => by
    have hK := hX.hK
    have hc := hX.calm
    subst hK
    exact call_min2 hc, fun F A S H ws vs w Q gd rs e k => ?_⟩
  obtain ⟨a, b, rfl, e⟩ := int11_of e
  obtain ⟨v, u, rfl, r, r'⟩ := rs.two
  cases r
  cases r'
  cases e
  exact ⟨_, _, rfl, k.now gd (.int _)⟩
theorem cs_str : CallS K (.type "str") (bi .str_) := by
  refine ⟨_, fun X _ => call_str_int, fun F A S H ws vs w Q gd rs e k => ?_⟩
  obtain ⟨a, rfl, e1⟩ := int1_of e
  obtain ⟨v, rfl, r⟩ := rs.one
  cases r
  split at e1
  · rename_i h
    cases e1
    exact ⟨_, rfl, h, k.now gd (.str _)⟩
  · cases e1
theorem cs_int : CallS K (.type "int") (bi .int_) := by
  refine ⟨_, fun X _ => call_int_str.or call_int1, fun F A S H ws vs w Q gd rs e k => ?_⟩
  replace e : biInt S ws = some w := e
  unfold biInt at e
  split at e
  · rename_i z
    obtain ⟨v, rfl, r⟩ := rs.one
    cases r
    split at e
    · rename_i h
      cases q : PySem.intText? z with
      | none => rw [q] at e; cases e
      | some n =>
        rw [q] at e
        cases e
        exact .inl ⟨_, n, rfl, q, h, k.now gd (.int _)⟩
    · cases e
  · obtain ⟨v, rfl, r⟩ := rs.one
    cases r
    cases e
    exact .inr (.inl ⟨_, rfl, k.now gd (.int _)⟩)
  · obtain ⟨v, rfl, r⟩ := rs.one
    cases r
    cases e
    exact .inr (.inr ⟨_, rfl, k.now gd (.int _)⟩)
  · cases e
theorem cs_tuple : CallS K (.type "tuple") (bi .tup_) := by
  refine ⟨fun xs H Q => ∃ p ys, xs = [.ref p] ∧ ((SqL K H p ys ∧ ∀ l, H l = none → Q (.ref l) (upd H l (.tup ys))) ∨ (SqT K H p ys ∧ Q (.ref p) H)), fun X hX => by
    have hK := hX.hK
    have hc := hX.calm
    subst hK
    exact call_tuple_of, fun F A S H ws vs w Q gd rs e k => ?_⟩
  replace e : biTup S ws = some w := e
  unfold biTup at e
  split at e
  · obtain ⟨v, rfl, r⟩ := rs.one
    cases r with
    | tup h1 h2 =>
      cases e
      exact ⟨_, _, rfl, .inr ⟨gd.ex.t h1, k.now gd (show Rp K F _ _ from .tup h1 h2)⟩⟩
  · rename_i x _
    obtain ⟨v, rfl, r⟩ := rs.one
    cases q : lst? S x with
    | none => rw [q] at e; cases e
    | some xs =>
      rw [q] at e
      cases e
      obtain ⟨p, us, rfl, h1, r1⟩ := gd.list r q
      exact ⟨p, us, rfl, .inl ⟨h1, fun l hl => k.tup gd (Rps.mono (Ex.refl F) r1) hl⟩⟩
  · cases e
/-- list(..): the new list may be one that changes -/
def rListN (K : PySem.W.Frag) : List V → Hp → VK → Prop := fun xs H Q => ∃ p ys, xs = [.ref p] ∧ (SqL K H p ys ∨ SqT K H p ys) ∧ ∀ l, H l = none → Q (.ref l) (upd H l (.lst ys))
theorem list_core {K : PySem.W.Frag} {F : Hp} {A : List Addr} {S : Sto} {H : Hp} {ws : List W} {vs : List V} {w : W} (gd : Good K F A S H) (rs : WRs K F A ws vs) (e : bi .list_ S ws = some w) :
    ∃ p us xs, vs = [.ref p] ∧ w = .d (.list xs) ∧ (SqL K H p us ∨ SqT K H p us) ∧ Rps K F us xs := by
  replace e : biLst S ws = some w := e
  unfold biLst at e
  split at e
  · obtain ⟨v, rfl, r⟩ := rs.one
    cases r with
    | tup h1 h2 =>
      cases e
      exact ⟨_, _, _, rfl, rfl, .inr (gd.ex.t h1), h2⟩
  · rename_i x _
    obtain ⟨v, rfl, r⟩ := rs.one
    cases q : lst? S x with
    | none => rw [q] at e; cases e
    | some xs =>
      rw [q] at e
      cases e
      obtain ⟨p, us, rfl, h1, r1⟩ := gd.list r q
      exact ⟨_, _, _, rfl, rfl, .inl (h1), r1⟩
  · cases e
theorem cs_list : CallS K (.type "list") (bi .list_) := by
  refine ⟨rListN K, fun X hX => by
    have hK := hX.hK
    have hc := hX.calm
    subst hK
    exact call_list_of, fun F A S H ws vs w Q gd rs e k => ?_⟩
  obtain ⟨p, us, xs, rfl, rfl, h, r⟩ := list_core gd rs e
  exact ⟨p, us, rfl, h, fun l hl => k.lst gd r hl⟩
/-! ### isinstance -/
theorem isi_ty {K : PySem.W.Frag} {H : Hp} {x : PyData} {v : V} (r : Dp K H v x) (hd : ∀ a xs, v = .ref a → (SqL K H a xs ∨ SqT K H a xs) → True) : True := trivial
theorem tyX_of {K : PySem.W.Frag} {F H : Hp} {x : PyData} {v : V} (e : Ex F H) (r : Rp K F v x) : TyX K H v (.type (tyD x)) := by
  cases r with
  | non => exact .base .non
  | bl b => exact .base (.bl b)
  | int i => exact .base (.int i)
  | str x => exact .base (.str x)
  | lst h1 h2 =>
    rcases e.l h1 with (h | ⟨o, h⟩) | ⟨o, its, n, h, hc, _⟩
    · exact .base (.lst h)
    · exact .base (.frz h)
    · exact .kList h hc
  | tup h1 h2 =>
    rcases e.t h1 with (h | ⟨o, h⟩) | ⟨o, its, n, h, hc, _⟩
    · exact .base (.tup h)
    · exact .fTuple h
    · exact .kTuple h hc
theorem kitB_ok : ∀ t ∈ ["int", "bool", "str", "list", "tuple"], ∀ a ∈ ["NoneType", "bool", "int", "str", "list", "tuple"], kitB a t = some (a == t || (a == "bool" && t == "int")) := by decide +kernel
theorem kit_isi {K : PySem.W.Frag} {t : String} {x : PyData} (h : isiOk t = true) (hx : ∀ k, x ≠ .dict k) : PySem.W.kitOne K (.type (tyD x)) (.type t) = some (isiD t x) := by
  refine kit_ty ?_
  have ht : t ∈ ["int", "bool", "str", "list", "tuple"] := by
    unfold isiOk at h
    simpa using h
  have ha : tyD x ∈ ["NoneType", "bool", "int", "str", "list", "tuple"] := by
    cases x <;> simp [tyD]
    exact absurd rfl (hx _)
  exact kitB_ok t ht (tyD x) ha
def rIsi1 (K : PySem.W.Frag) (t : String) : V → Hp → VK → Prop := fun v H Q => rIsi K [v, .ty t] H Q
theorem isi_ok {K : PySem.W.Frag} {F : Hp} {A : List Addr} {S : Sto} {H : Hp} {t : String} {x w : W} {v : V} {Q : VK} (gd : Good K F A S H) (rx : WR K F A x v) (e : isiW t S x = some w) (k : Then K F A H S w Q) : rIsi K [v, .ty t] H Q := by
  unfold isiW at e
  split at e
  · rename_i ht
    cases q : dat? S x with
    | none => rw [q] at e; cases e
    | some y =>
      rw [q] at e
      cases e
      have ty : TyX K H v (.type (tyD y)) ∧ ∀ kk, y ≠ .dict kk := by
        unfold dat? at q
        split at q
        · cases q
          refine ⟨tyX_of gd.ex rx, fun kk z => ?_⟩
          subst z
          cases rx
        · rename_i p
          obtain ⟨a, ea, rfl⟩ := rx
          cases q2 : S[p]? with
          | none => rw [q2] at q; cases q
          | some mo =>
            rw [q2] at q
            cases mo with
            | dead => cases q
            | lst ys =>
              cases q
              obtain ⟨_, vs, h1, h2⟩ := gd.ob p a _ ea q2
              exact ⟨.base (.lst h1), fun kk z => by cases z⟩
        · cases q
      exact ⟨v, .ty t, _, _, _, rfl, .ty t, ty.1, kit_isi ht ty.2, k.now gd (.bl _)⟩
  · cases e
/-! ### methods -/
def mtName : Mt → Str
  | .append => "append" | .split => "split" | .partition => "partition" | .join => "join"
def mtT : Mt → String
  | .append => "list" | _ => "str"
theorem mtTy_ok {K : PySem.W.Frag} {F : Hp} {A : List Addr} {S : Sto} {H : Hp} {k : Mt} {x : W} {v : V} (gd : Good K F A S H) (rx : WR K F A x v) (e : mtTy k S x = true) : tyV K (mtT k) v H := by
  have hs : ∀ {k}, (match x with | .d (.str _) => true | _ => false) = true → k = "str" → tyV K k v H := by
    intro k h hk
    split at h
    · cases rx
      exact hk
    · cases h
  cases k with
  | append =>
    have e' : (lst? S x).isSome = true := e
    cases q : lst? S x with
    | none => rw [q] at e'; cases e'
    | some xs =>
      obtain ⟨p, us, rfl, h1, r1⟩ := gd.list rx q
      exact .inl ⟨rfl, us, h1⟩
  | split => exact hs e rfl
  | partition => exact hs e rfl
  | join => exact hs e rfl
def ThenS (K : PySem.W.Frag) (F : Hp) (A : List Addr) (H : Hp) (o : W × Sto) (Q : VK) : Prop := Then K F A H o.2 o.1 Q
def MtS (K : PySem.W.Frag) (id : String) (g : Sto → W → List W → Option (W × Sto)) : Prop :=
  ∃ r : V → List V → Hp → VK → Prop, (∀ X, Cnd K X → MtR X id r) ∧ ∀ F A S H x v ws vs o Q, Good K F A S H → WR K F A x v → WRs K F A ws vs → g S x ws = some o → ThenS K F A H o Q → r v vs H Q
theorem ms_append : MtS K "list.append" (mt .append) := by
  refine ⟨_, fun X _ => mt_append, fun F A S H x v ws vs o Q gd rx rs e k => ?_⟩
  replace e : mtAppend S x ws = some o := e
  unfold mtAppend at e
  split at e
  · rename_i p y
    obtain ⟨u, rfl, ru⟩ := rs.one
    split at e
    · rename_i xs q
      split at e
      · rename_i hl
        cases e
        obtain ⟨a, ea, rfl⟩ := rx
        obtain ⟨h0, us, h1, h2⟩ := gd.ob p a _ ea q
        obtain ⟨st, g'⟩ := gd.write ea q (h2.append (.cons ru .nil))
        exact ⟨a, us, u, rfl, rfl, h1, by rw [h2.length]; exact lim_line_lt hl, k _ _ _ _ st g' .non⟩
      · cases e
    · cases e
  · cases e
theorem str1_of {f : Str → Str → Option W} {x : W} {ws : List W} {w : W} (e : str1 f x ws = some w) : ∃ a b, x = .d (.str a) ∧ ws = [.d (.str b)] ∧ f a b = some w := by
  unfold str1 at e
  split at e
  · exact ⟨_, _, rfl, rfl, e⟩
  · cases e
theorem map_of {o : Option W} {S : Sto} {p : W × Sto} (e : o.map (·, S) = some p) : ∃ w, o = some w ∧ p = (w, S) := by
  cases o with
  | none => cases e
  | some w => exact ⟨w, rfl, (Option.some.inj e).symm⟩
theorem rps_strs {K : PySem.W.Frag} {F : Hp} : ∀ ys : List Str, Rps K F (ys.map V.str) (ys.map strD)
  | [] => .nil
  | y :: ys => .cons (.str y) (rps_strs ys)
theorem ms_split : MtS K "str.split" (mt .split) := by
  refine ⟨_, fun X _ => mt_split, fun F A S H x v ws vs o Q gd rx rs e k => ?_⟩
  obtain ⟨w, e1, rfl⟩ := map_of e
  obtain ⟨a, b, rfl, rfl, e2⟩ := str1_of e1
  obtain ⟨u, rfl, ru⟩ := rs.one
  cases rx
  cases ru
  split at e2
  · rename_i h
    cases e2
    refine ⟨a, b, rfl, rfl, h.1, ?_, fun p hp => Then.lst (S := S) k gd (rps_strs _) hp⟩
    have h2 : a.length ≤ 1000000 := h.2
    have : sizeLine = 16777216 := sizeLine_eq
    omega
  · cases e2
theorem ms_partition : MtS K "str.partition" (mt .partition) := by
  refine ⟨_, fun X _ => mt_partition, fun F A S H x v ws vs o Q gd rx rs e k => ?_⟩
  obtain ⟨w, e1, rfl⟩ := map_of e
  obtain ⟨a, b, rfl, rfl, e2⟩ := str1_of e1
  obtain ⟨u, rfl, ru⟩ := rs.one
  cases rx
  cases ru
  split at e2
  · rename_i h
    cases e2
    exact ⟨a, b, rfl, rfl, h.1, lim_line h.2, fun p hp => Then.tup (S := S) k gd (.cons (.str _) (.cons (.str _) (.cons (.str _) .nil))) hp⟩
  · cases e2
theorem strs_of {K : PySem.W.Frag} {F : Hp} : ∀ {ds : List PyData} {ys : List Str} {vs : List V}, strs? ds = some ys → Rps K F vs ds → vs = ys.map V.str
  | [], ys, vs, h, r => by
    cases r
    cases h
    rfl
  | .str z :: ds, ys, vs, h, r => by
    unfold strs? at h
    cases r with
    | cons r1 r2 =>
      cases r1
      cases q : strs? ds with
      | none => rw [q] at h; cases h
      | some zs =>
        rw [q] at h
        cases h
        rw [strs_of q r2]
        rfl
  | .none :: ds, ys, vs, h, r => by cases h
  | .bool _ :: ds, ys, vs, h, r => by cases h
  | .int _ :: ds, ys, vs, h, r => by cases h
  | .list _ :: ds, ys, vs, h, r => by cases h
  | .tuple _ :: ds, ys, vs, h, r => by cases h
  | .dict _ :: ds, ys, vs, h, r => by cases h
theorem ms_join : MtS K "str.join" (mt .join) := by
  refine ⟨fun x xs H Q => ∃ a p, ∃ ys : List Str, x = .str a ∧ xs = [.ref p] ∧ (SqL K H p (ys.map V.str) ∨ SqT K H p (ys.map V.str)) ∧
    (ys.map (·.length)).sum + ys.length * a.length ≤ 16777216 ∧ Q (.str (Txt.join a ys)) H, fun X hX => by
    have hK := hX.hK
    have hc := hX.calm
    subst hK
    exact mt_join, fun F A S H x v ws vs o Q gd rx rs e k => ?_⟩
  obtain ⟨w, e1, rfl⟩ := map_of e
  unfold mtJoin at e1
  split at e1
  · rename_i a y
    obtain ⟨u, rfl, ru⟩ := rs.one
    cases rx
    split at e1
    · rename_i ds q
      obtain ⟨p, us, rfl, h1, r1⟩ := gd.list ru q
      split at e1
      · rename_i ys q2
        split at e1
        · rename_i h
          cases e1
          have := strs_of q2 r1
          subst this
          exact ⟨a, p, ys, rfl, rfl, .inl (h1), Nat.le_trans h (by decide), Then.now (S := S) k gd (.str _)⟩
        · cases e1
      · cases e1
    · cases e1
  · cases e1
end
end Mi

/-! MiE: the check of a term of the language against the text. -/
namespace Mi
open PySem PySem.Spec PyProof.Rows L2

abbrev Sn := List (Str × NameKind)
/-- what the check knows: the defs, the names that hold constants, the builtins that are not covered, the def's slots -/
structure Ci where
  T : List Fn
  gI : List (Str × Int)
  gS : List (Str × Str)
  gF : List Str
  N : List Str
def isVis (sn : Sn) (x : Str) : Bool := match sn.lookup x with
  | some .local => true
  | some .cell => true
  | some .free => true
  | _ => false
def isLoc (sn : Sn) (x : Str) : Bool := match sn.lookup x with
  | some .local => true
  | some .cell => true
  | _ => false
def isLcl (sn : Sn) (x : Str) : Bool := match sn.lookup x with
  | some .local => true
  | _ => false
def isGl (sn : Sn) (x : Str) : Bool := match sn.lookup x with
  | some .globalImplicit => true
  | _ => false
def okN (x : Str) : Bool := !(x == ("__debug__" : Str)) && !(x == ("__classdict__" : Str))
def binOf : O2 → Option Operator
  | .add => some .Add | .sub => some .Sub | .mul => some .Mult | .fdiv => some .FloorDiv | .mod => some .Mod | .pow => some .Pow | _ => none
def cmpOf : O2 → Option CmpOp
  | .eq => some .Eq | .ne => some .NotEq | .lt => some .Lt | .le => some .LtE | .gt => some .Gt | .ge => some .GtE | .in_ => some .In | .notin => some .NotIn
  | .is_ => some .Is | .isnot => some .IsNot | _ => none
def isOp : Option Operator → Operator → Bool
  | some .Add, .Add => true | some .Sub, .Sub => true | some .Mult, .Mult => true | some .FloorDiv, .FloorDiv => true | some .Mod, .Mod => true | some .Pow, .Pow => true | _, _ => false
theorem isOp_eq : ∀ {a : Option Operator} {b : Operator}, isOp a b = true → a = some b
  | none, b, h => by cases b <;> cases h
  | some a, b, h => by cases a <;> cases b <;> first | rfl | cases h
def isCmp : Option CmpOp → CmpOp → Bool
  | some .Eq, .Eq => true | some .NotEq, .NotEq => true | some .Lt, .Lt => true | some .LtE, .LtE => true | some .Gt, .Gt => true | some .GtE, .GtE => true
  | some .In, .In => true | some .NotIn, .NotIn => true | some .Is, .Is => true | some .IsNot, .IsNot => true | _, _ => false
theorem isCmp_eq : ∀ {a : Option CmpOp} {b : CmpOp}, isCmp a b = true → a = some b
  | none, b, h => by cases b <;> cases h
  | some a, b, h => by cases a <;> cases b <;> first | rfl | cases h
def biName : Bi → Str
  | .len => "len" | .abs => "abs" | .max2 => "max" | .min2 => "min" | .str_ => "str" | .int_ => "int" | .tup_ => "tuple" | .list_ => "list"
/-- no starred one -/
def unst : Expr → Bool
  | .Starred _ _ => false
  | _ => true
def notSl : Expr → Bool
  | .Slice _ _ _ _ => false
  | _ => true
def notCall : Expr → Bool
  | .Call _ _ _ _ => false
  | _ => true
def notSet : Expr → Bool
  | .Set _ _ _ => false
  | _ => true
def notLc : Expr → Bool
  | .ListComp _ _ _ _ => false
  | .SetComp _ _ _ _ => false
  | .DictComp _ _ _ _ _ => false
  | _ => true
/-- a test that is its value's truth -/
def plainT : Expr → Bool
  | .UnaryOp _ _ _ => false
  | .BoolOp _ _ _ => false
  | .IfExp _ _ _ _ => false
  | .Compare _ _ _ _ => false
  | _ => true
def tstOk (e : Expr) : Bool := match e with
  | .UnaryOp .Not _ _ => true
  | .UnaryOp _ _ _ => false
  | .IfExp _ _ _ _ => false
  | _ => true
/-- forms that make a new list -/
def fresh : M → Bool
  | .lst _ => true
  | .lc _ _ _ _ _ => true
  | .bi .list_ _ => true
  | .o2 .add _ _ => true
  | .sl _ _ _ => true
  | _ => false
/-- a method called on the line where its name stands (or with arguments) -/
def lineOk (es : List Expr) (ap p : Pos) : Bool := match es with
  | [] => ap.endLine == p.line
  | _ => true
def zipOwn (N : List Str) (own : List Nat) : List (Str × Nat) := own.map fun i => (N.getD i "", i)

def cntA : M → Nat
  | .acons _ r => cntA r + 1
  | _ => 0
mutual
def tgS : M → List Nat
  | .tn i => [i]
  | .tt as => tgSs as
  | _ => []
def tgSs : M → List Nat
  | .acons a r => tgS a ++ tgSs r
  | _ => []
end
def isTupE : Expr → Bool
  | .Tuple _ _ _ => true
  | _ => false
mutual
def ckE (C : Ci) : M → Sn → Expr → Bool
  | .var i, sn, e => match e with
    | .Name x _ => decide (C.N[i]? = some x) && (isVis sn x && okN x)
    | _ => false
  | .int k, _, e => match e with
    | .Constant (.int j) _ _ => decide (k = j)
    | _ => false
  | .str s, _, e => match e with
    | .Constant (.str z) _ _ => decide (s = z)
    | _ => false
  | .bl b, _, e => match e with
    | .Constant (.bool c) _ _ => b == c
    | _ => false
  | .non, _, e => match e with
    | .Constant .none _ _ => true
    | _ => false
  | .gi x k, sn, e => match e with
    | .Name y _ => decide (x = y) && (isGl sn x && (decide ((x, k) ∈ C.gI) && okN x))
    | _ => false
  | .gs x s, sn, e => match e with
    | .Name y _ => decide (x = y) && (isGl sn x && (decide ((x, s) ∈ C.gS) && okN x))
    | _ => false
  | .o2 k a b, sn, e => match e with
    | .BinOp l op r _ => isOp (binOf k) op && (ckE C a sn l && ckE C b sn r)
    | .Compare l [op] [r] _ => isCmp (cmpOf k) op && (notSet r && (ckE C a sn l && ckE C b sn r))
    | _ => false
  | .ch k1 k2 a b c, sn, e => match e with
    | .Compare l [op1, op2] [m, r] _ => isCmp (cmpOf k1) op1 && (isCmp (cmpOf k2) op2 && (notSet r && (ckE C a sn l && (ckE C b sn m && ckE C c sn r))))
    | _ => false
  | .neg a, sn, e => match e with
    | .UnaryOp .USub x _ => ckE C a sn x
    | _ => false
  | .not1 a, sn, e => match e with
    | .UnaryOp .Not x _ => tstOk x && ckE C a sn x
    | _ => false
  | .and2 a b, sn, e => match e with
    | .BoolOp .And (x :: y :: rest) p => tstOk x && ckE C a sn x && ckE C b sn (.BoolOp .And (y :: rest) p)
    | _ => false
  | .or2 a b, sn, e => match e with
    | .BoolOp .Or (x :: y :: rest) p => tstOk x && ckE C a sn x && ckE C b sn (.BoolOp .Or (y :: rest) p)
    | _ => false
  | .one a, sn, e => match e with
    | .BoolOp _ [x] _ => tstOk x && ckE C a sn x
    | _ => false
  | .ife t a b, sn, e => match e with
    | .IfExp c x y _ => tstOk c && ckE C t sn c && (ckE C a sn x && ckE C b sn y)
    | _ => false
  | .tup as, sn, e => match e with
    | .Tuple es _ _ => ckA C as sn es
    | _ => false
  | .lst as, sn, e => match e with
    | .List es _ => ckA C as sn es
    | _ => false
  | .call f as, sn, e => match e with
    | .Call (.Name x _) es [] _ => (match C.T[f]? with
      | some fn => decide (fn.name = x) && (isGl sn x && (okN x && (decide (cntA as ≤ fn.ps.length) && (decide (fn.ps.length - cntA as ≤ fn.dv.length) && ckA C as sn es))))
      | none => false)
    | _ => false
  | .bi k as, sn, e => match e with
    | .Call (.Name x _) (y :: es) [] _ => decide (x = biName k) && (isGl sn x && (decide (x ∈ C.gF) && ckA C as sn (y :: es)))
    | _ => false
  | .isi t a, sn, e => match e with
    | .Call (.Name x _) [y, .Name z _] [] _ => decide (x = "isinstance") && (isGl sn x && (decide (x ∈ C.gF) && (decide (z = Str.ofString t) && (isGl sn z && (decide (z ∈ C.gF) && (isiOk t && (unst y && ckE C a sn y)))))))
    | _ => false
  | .mt k a as, sn, e => match e with
    | .Call (.Attribute o m ap) (y :: es) [] p => decide (m = mtName k) && (notCall o && (ap.endLine == p.line && (decide (es.length < 29) && (ckE C a sn o && ckA C as sn (y :: es)))))
    | _ => false
  | .ix a b, sn, e => match e with
    | .Subscript x y _ => notSl y && (ckE C a sn x && ckE C b sn y)
    | _ => false
  | .sl a lo hi, sn, e => match e with
    | .Subscript x (.Slice l h none _) _ => ckE C a sn x && (ckO C lo sn l && ckO C hi sn h)
    | _ => false
  | .lc own tg it ts a, sn, e => match e with
    | .ListComp elt [⟨tgE, itE, ifs, 0⟩] sc _ => blkC C.N ⟨.function, sn, false, false, []⟩ sc (zipOwn C.N own) && (notSet itE && ((tgS tg).all (fun i => own.contains i) && (ckI C it sn tgE itE && (ckG C tg sc.names tgE && (ckTs C ts sc.names ifs && ckE C a sc.names elt)))))
    | _ => false
  | .new a, sn, e => fresh a && (plainT e && ckE C a sn e)
  | .frz a, sn, e => plainT e && ckE C a sn e
  | _, _, _ => false
def ckA (C : Ci) : M → Sn → List Expr → Bool
  | .anil, _, es => match es with
    | [] => true
    | _ => false
  | .acons a r, sn, es => match es with
    | e :: es => unst e && (ckE C a sn e && ckA C r sn es)
    | _ => false
  | _, _, _ => false
def ckO (C : Ci) : M → Sn → Option Expr → Bool
  | .nop, _, e => match e with
    | none => true
    | _ => false
  | .one a, sn, e => match e with
    | some x => ckE C a sn x
    | _ => false
  | _, _, _ => false
def ckTs (C : Ci) : M → Sn → List Expr → Bool
  | .anil, _, es => match es with
    | [] => true
    | _ => false
  | .one a, sn, es => match es with
    | [e] => tstOk e && ckE C a sn e
    | _ => false
  | _, _, _ => false
def ckI (C : Ci) : M → Sn → Expr → Expr → Bool
  | .itE a, sn, _, e => ckE C a sn e
  | .itR as, sn, _, e => match e with
    | .Call (.Name x _) es [] _ => decide (x = "range") && (isGl sn x && (decide (x ∈ C.gF) && ((es.length == 1 || es.length == 2) && ckA C as sn es)))
    | _ => false
  | .itN a, sn, te, e => isTupE te && match e with
    | .Call (.Name x _) [y] [] _ => decide (x = "enumerate") && (isGl sn x && (decide (x ∈ C.gF) && (unst y && ckE C a sn y)))
    | _ => false
  | .itZ a b, sn, te, e => isTupE te && match e with
    | .Call (.Name x _) [y, z] [] _ => decide (x = "zip") && (isGl sn x && (decide (x ∈ C.gF) && (unst y && (unst z && (ckE C a sn y && ckE C b sn z)))))
    | _ => false
  | _, _, _, _ => false
/-- targets -/
def ckG (C : Ci) : M → Sn → Expr → Bool
  | .tn i, sn, e => match e with
    | .Name x _ => decide (C.N[i]? = some x) && isLoc sn x
    | _ => false
  | .tt as, sn, e => match e with
    | .Tuple es _ _ => ckGs C as sn es
    | _ => false
  | _, _, _ => false
def ckGs (C : Ci) : M → Sn → List Expr → Bool
  | .anil, _, es => match es with
    | [] => true
    | _ => false
  | .acons a r, sn, es => match es with
    | e :: es => unst e && (ckG C a sn e && ckGs C r sn es)
    | _ => false
  | _, _, _ => false
end

/-- a name that a block within reads -/
def isCellT (sn : Sn) : Expr → Bool
  | .Name x _ => (match sn.lookup x with
    | some .cell => true
    | _ => false)
  | _ => false
/-- a, b = x, y stored name by name -/
def swOk (sn : Sn) (x y : Str) (px py : Pos) (a b : Expr) : Bool :=
  isLcl sn x && (isLcl sn y && (decide (x ≠ y) && (unst a && (unst b && (py.line == px.line && (!([a, b].all (foldedForSure 8)) && !([a, b].all (constantsAlone 8))))))))
def ckS (C : Ci) : M → Sn → Stmt → Bool
  | .asg tg a, sn, s => match s with
    | .Assign [t] e _ => (notLc e || isCellT sn t) && ((match t, e with
      | .Tuple _ _ _, .Tuple _ _ _ => false
      | .List _ _, .Tuple _ _ _ => false
      | _, _ => true) && (unst t && (ckE C a sn e && ckG C tg sn t)))
    | _ => false
  | .asgLc i a, sn, s => match s with
    | .Assign [.Name x px] (.ListComp elt gs sc ep) p => decide (C.N[i]? = some x) && (isLcl sn x && (!(sc.names.any fun (n, k) => n == x && (k == .local || k == .cell)) && (px.line == ep.line && (match a with
      | .lc own tg it ts e => ckE C (.lc own tg it ts e) sn (.ListComp elt gs sc ep)
      | .new (.lc own tg it ts e) => ckE C (.lc own tg it ts e) sn (.ListComp elt gs sc ep)
      | _ => false))))
    | _ => false
  | .par2 i j a b, sn, s => match s with
    | .Assign [.Tuple [.Name x px, .Name y py] _ _] (.Tuple [l, r] _ _) _ => decide (C.N[i]? = some x) && (decide (C.N[j]? = some y) && (decide (i ≠ j) && (swOk sn x y px py l r && (ckE C a sn l && ckE C b sn r))))
    | _ => false
  | .aug i k a, sn, s => match s with
    | .AugAssign (.Name x _) op e _ => decide (C.N[i]? = some x) && (isLoc sn x && (isOp (binOf k) op && ((match k with | .add => true | .sub => true | _ => false) && ckE C a sn e)))
    | _ => false
  | .setix a b v, sn, s => match s with
    | .Assign [.Subscript x y _] e _ => notSl y && (notLc e && (ckE C v sn e && (ckE C a sn x && ckE C b sn y)))
    | _ => false
  | .ex a, sn, s => match s with
    | .Expr e _ => notLc e && ckE C a sn e
    | _ => false
  | .ret a, sn, s => match s with
    | .Return (some e) _ => ckE C a sn e
    | _ => false
  | .retN, _, s => match s with
    | .Return none _ => true
    | _ => false
  | .ift t a b, sn, s => match s with
    | .If e x y _ => tstOk e && ckE C t sn e && (ckSs C a sn x && ckSs C b sn y)
    | _ => false
  | .for_ tg it body, sn, s => match s with
    | .For t e b [] _ => notSet e && (ckI C it sn t e && (ckG C tg sn t && ckSs C body sn b))
    | _ => false
  | .wh _ t body, sn, s => match s with
    | .While e b [] _ => tstOk e && ckE C t sn e && ckSs C body sn b
    | _ => false
  | .brk, _, s => match s with
    | .Break _ => true
    | _ => false
  | .cnt, _, s => match s with
    | .Continue _ => true
    | _ => false
  | .pss, _, s => match s with
    | .Pass _ => true
    | _ => false
  | .nev, _, _ => true
  | _, _, _ => false
where ckSs (C : Ci) : M → Sn → List Stmt → Bool
  | .snil, _, ss => match ss with
    | [] => true
    | _ => false
  | .scons a r, sn, ss => match ss with
    | s :: ss => ckS C a sn s && ckSs C r sn ss
    | _ => false
  | _, _, _ => false
end Mi

/-! MiF: what a reading asks, and what the interpreter gives. -/
namespace Mi
open PySem PySem.Spec PyProof.Rows L2

/-- an exception as it flies: its class, its dict -/
def XR (K : PySem.W.Frag) (mg : Str → Option Value) (F H : Hp) (x : Exn) (cls : Value) (d : Option Addr) : Prop :=
  mg x.c = some cls ∧ match x.f with
    | none => d = none
    | some (f, y) => ∃ dx v, d = some dx ∧ H dx = some (.xd [(f, v)]) ∧ Rp K F v y
section
variable (K : PySem.W.Frag) (mg : Str → Option Value)
/-- what must follow a result -/
def Post {α β : Type} (Wx : WX) (σ : L2.St) (Rel : Hp → List Addr → α → β → Prop) (F : Hp) (A : List Addr) (H : Hp) (r : R α) (Q : β → Hp → Prop) : Prop := match r with
  | .ok a S' => ∀ b F' A' H', Stp F A H F' A' H' → Good K F' A' S' H' → Rel F' A' a b → Q b H'
  | .exc x S' => ∀ cls d F' A' H', Stp F A H F' A' H' → Good K F' A' S' H' → XR K mg F' H' x cls d → Wx cls d σ H'
  | .err => False
def RhoR (F : Hp) (A : List Addr) (ρ : Rho) (σ : L2.St) : Prop := ρ.length = σ.length ∧ ∀ (i : Nat) (w : W), ρ[i]? = some (some w) → ∃ v, σ[i]? = some (some v) ∧ WR K F A w v
def EvE (Wx : WX) (t : TE) (ρ : Rho) (S : Sto) (r : R W) : Prop := ∀ σ F A H, Good K F A S H → RhoR K F A ρ σ → ∀ Q, Post K mg Wx σ (WR K) F A H r Q → t σ H Q
def EvA (Wx : WX) (t : TA) (ρ : Rho) (S : Sto) (r : R (List W)) : Prop := ∀ σ F A H, Good K F A S H → RhoR K F A ρ σ → ∀ Q, Post K mg Wx σ (WRs K) F A H r Q → t σ H Q
def EqB {α : Type} (_ : Hp) (_ : List Addr) (a b : α) : Prop := a = b
def EvT (Wx : WX) (t : TT) (ρ : Rho) (S : Sto) (r : R Bool) : Prop := ∀ σ F A H, Good K F A S H → RhoR K F A ρ σ → ∀ Q, Post K mg Wx σ EqB F A H r Q → t σ H Q
def EvO (Wx : WX) (t : TO) (ρ : Rho) (S : Sto) (r : R (Option Int)) : Prop := ∀ σ F A H, Good K F A S H → RhoR K F A ρ σ → ∀ Q, Post K mg Wx σ EqB F A H r Q → t σ H Q
end
section
variable {K : PySem.W.Frag} {mg : Str → Option Value} {α β γ δ : Type} {Wx : WX} {σ : L2.St} {Rel : Hp → List Addr → α → β → Prop} {Rel' : Hp → List Addr → γ → δ → Prop} {F F' : Hp} {A A' : List Addr} {H H' : Hp} {ρ : Rho} {S : Sto}
theorem RhoR.mono (s : Stp F A H F' A' H') (r : RhoR K F A ρ σ) : RhoR K F' A' ρ σ := ⟨r.1, fun i w e => let ⟨v, q, z⟩ := r.2 i w e; ⟨v, q, z.mono s⟩⟩
theorem Post.step {r : R α} {Q : β → Hp → Prop} (s : Stp F A H F' A' H') (p : Post K mg Wx σ Rel F A H r Q) : Post K mg Wx σ Rel F' A' H' r Q := by
  cases r with
  | ok a S' => exact fun b F2 A2 H2 s2 g rel => p b F2 A2 H2 (s.trans s2) g rel
  | exc x S' => exact fun cls d F2 A2 H2 s2 g x => p cls d F2 A2 H2 (s.trans s2) g x
  | err => exact p
/-- one result behind another -/
theorem Post.bind {r : R α} {k : α → Sto → R γ} {Q : δ → Hp → Prop} {Q1 : β → Hp → Prop} (p : Post K mg Wx σ Rel' F A H (r.bind k) Q)
    (h : ∀ a S' b F' A' H', r = .ok a S' → Stp F A H F' A' H' → Good K F' A' S' H' → Rel F' A' a b → Post K mg Wx σ Rel' F' A' H' (k a S') Q → Q1 b H') : Post K mg Wx σ Rel F A H r Q1 := by
  cases r with
  | ok a S' => exact fun b F2 A2 H2 s g rel => h a S' b F2 A2 H2 rfl s g rel (Post.step s p)
  | exc x S' => exact p
  | err => exact p
theorem Post.tru {r : R W} {Q : Bool → Hp → Prop} {Q1 : VK} (p : Post K mg Wx σ EqB F A H (Mi.tru r) Q) (h : ∀ c H', Q c H' → Q1 (.bl c) H') : Post K mg Wx σ (WR K) F A H r Q1 := by
  cases r with
  | ok w S' =>
    cases w with
    | d x =>
      cases x with
      | bool c =>
        intro b F2 A2 H2 s g rel
        cases rel
        exact h c H2 (p c F2 A2 H2 s g rfl)
      | _ => exact p.elim
    | _ => exact p.elim
  | exc x S' => exact p
  | err => exact p
theorem Post.ofO {o : Option W} {Q : VK} (p : Post K mg Wx σ (WR K) F A H (R.ofO o S) Q) : ∃ w, o = some w ∧ Then K F A H S w Q := by
  cases o with
  | none => exact p.elim
  | some w => exact ⟨w, rfl, fun z F2 A2 H2 s g rel => p z F2 A2 H2 s g rel⟩
theorem Post.ofP {o : Option (W × Sto)} {Q : VK} (p : Post K mg Wx σ (WR K) F A H (R.ofP o) Q) : ∃ w, o = some w ∧ ThenS K F A H w Q := by
  cases o with
  | none => exact p.elim
  | some w => exact ⟨w, rfl, fun z F2 A2 H2 s g rel => p z F2 A2 H2 s g rel⟩

/-! ### expressions -/
variable {Φ : Phi} {ta tb tc : TE} {a b c : M}
theorem ev_var {i : Nat} : EvE K mg Wx (tVar i) ρ S (evE Φ (.var i) ρ S) := by
  intro σ F A H g rr Q p
  unfold evE at p
  split at p
  · rename_i w e
    obtain ⟨v, q, z⟩ := rr.2 i w e
    exact ⟨v, q, p v F A H Stp.refl g z⟩
  · exact p.elim
theorem ev_const {v : V} {x : PyData} (h : Rp K (fun _ => none) v x) : EvE K mg Wx (tC v) ρ S (.ok (.d x) S) := by
  intro σ F A H g rr Q p
  exact p v F A H Stp.refl g (show Rp K F v x from Rp.mono (fun a o e => by cases e) h)
theorem ev_o2 {k : O2} {f : Value → Value → Sem Value} (ho : OpS K f (o2 k)) (ha : ∀ ρ S, EvE K mg Wx ta ρ S (evE Φ a ρ S)) (hb : ∀ ρ S, EvE K mg Wx tb ρ S (evE Φ b ρ S)) :
    EvE K mg Wx (tOp ho.choose ta tb) ρ S (evE Φ (.o2 k a b) ρ S) := by
  intro σ F A H g rr Q p
  unfold evE at p
  refine ha ρ S σ F A H g rr _ (p.bind fun x S1 v F1 A1 H1 _ s1 g1 rx p1 => ?_)
  refine hb ρ S1 σ F1 A1 H1 g1 (rr.mono s1) _ (p1.bind fun y S2 u F2 A2 H2 _ s2 g2 ry p2 => ?_)
  obtain ⟨w, e, k2⟩ := p2.ofO
  exact ho.choose_spec.2 F2 A2 S2 H2 x y v u w Q g2 (rx.mono s2) ry e k2
theorem ev_ch {k1 k2 : O2} {f1 f2 : Value → Value → Sem Value} (h1 : OpS K f1 (o2 k1)) (h2 : OpS K f2 (o2 k2)) (ha : ∀ ρ S, EvE K mg Wx ta ρ S (evE Φ a ρ S)) (hb : ∀ ρ S, EvE K mg Wx tb ρ S (evE Φ b ρ S)) (hc : ∀ ρ S, EvE K mg Wx tc ρ S (evE Φ c ρ S)) :
    EvE K mg Wx (tChain h1.choose h2.choose ta tb tc) ρ S (evE Φ (.ch k1 k2 a b c) ρ S) := by
  intro σ F A H g rr Q p
  unfold evE at p
  refine ha ρ S σ F A H g rr _ (p.bind fun x S1 v F1 A1 H1 _ s1 g1 rx p1 => ?_)
  refine hb ρ S1 σ F1 A1 H1 g1 (rr.mono s1) _ (p1.bind fun y S2 u F2 A2 H2 _ s2 g2 ry p2 => ?_)
  have p3 := Post.bind (Rel := EqB) (Q1 := fun t H3 => if t = true then tc σ H3 fun w' H4 => h2.choose u w' H4 Q else Q (.bl false) H3) p2 fun t S3 t' F3 A3 H3 _ s3 g3 rt p3 => by
    cases rt
    cases t with
    | false => exact p3 (.bl false) F3 A3 H3 Stp.refl g3 (.bl false)
    | true =>
      refine hc ρ S3 σ F3 A3 H3 g3 ((rr.mono s1).mono (s2.trans s3)) _ (p3.bind fun z S4 z' F4 A4 H4 _ s4 g4 rz p4 => ?_)
      obtain ⟨w, e, k4⟩ := p4.ofO
      exact h2.choose_spec.2 F4 A4 S4 H4 y z u z' w Q g4 (ry.mono (s3.trans s4)) rz e k4
  have p4 := Post.tru (Q1 := fun z H3 => ∃ k, z = .bl k ∧ if k = true then tc σ H3 fun w' H4 => h2.choose u w' H4 Q else Q (.bl false) H3) p3 fun c H' q => ⟨c, rfl, q⟩
  obtain ⟨w, e, k4⟩ := p4.ofO
  exact h1.choose_spec.2 F2 A2 S2 H2 x y v u w _ g2 (rx.mono s2) ry e k4
theorem ev_neg (ha : ∀ ρ S, EvE K mg Wx ta ρ S (evE Φ a ρ S)) : EvE K mg Wx (tUn (rU fun i => .int (-i)) ta) ρ S (evE Φ (.neg a) ρ S) := by
  intro σ F A H g rr Q p
  unfold evE at p
  refine ha ρ S σ F A H g rr _ (p.bind fun x S1 v F1 A1 H1 _ s1 g1 rx p1 => ?_)
  split at p1
  · cases rx
    exact ⟨_, rfl, p1 _ F1 A1 H1 Stp.refl g1 (.int _)⟩
  · exact p1.elim
theorem ev_test (ha : ∀ ρ S, EvE K mg Wx ta ρ S (evE Φ a ρ S)) : EvT K mg Wx (tB ta) ρ S (tru (evE Φ a ρ S)) := by
  intro σ F A H g rr Q p
  exact ha ρ S σ F A H g rr _ (p.tru fun c H' q => ⟨c, rfl, q⟩)
theorem ev_and (ha : ∀ ρ S, EvE K mg Wx ta ρ S (evE Φ a ρ S)) (hb : ∀ ρ S, EvE K mg Wx tb ρ S (evE Φ b ρ S)) : EvE K mg Wx (tAndV ta tb) ρ S (evE Φ (.and2 a b) ρ S) := by
  intro σ F A H g rr Q p
  unfold evE at p
  refine ha ρ S σ F A H g rr _ (Post.tru (Q := fun c H1 => if c = true then tb σ H1 Q else Q (.bl false) H1) (Post.bind (Rel := EqB) p fun c S1 c' F1 A1 H1 _ s1 g1 rc p1 => ?_) fun c H' q => ⟨c, rfl, q⟩)
  cases rc
  cases c with
  | false => exact p1 (.bl false) F1 A1 H1 Stp.refl g1 (.bl false)
  | true => exact hb ρ S1 σ F1 A1 H1 g1 (rr.mono s1) Q p1
theorem ev_or (ha : ∀ ρ S, EvE K mg Wx ta ρ S (evE Φ a ρ S)) (hb : ∀ ρ S, EvE K mg Wx tb ρ S (evE Φ b ρ S)) : EvE K mg Wx (tOrV ta tb) ρ S (evE Φ (.or2 a b) ρ S) := by
  intro σ F A H g rr Q p
  unfold evE at p
  refine ha ρ S σ F A H g rr _ (Post.tru (Q := fun c H1 => if c = true then Q (.bl true) H1 else tb σ H1 Q) (Post.bind (Rel := EqB) p fun c S1 c' F1 A1 H1 _ s1 g1 rc p1 => ?_) fun c H' q => ⟨c, rfl, q⟩)
  cases rc
  cases c with
  | true => exact p1 (.bl true) F1 A1 H1 Stp.refl g1 (.bl true)
  | false => exact hb ρ S1 σ F1 A1 H1 g1 (rr.mono s1) Q p1
theorem ev_not (ha : ∀ ρ S, EvE K mg Wx ta ρ S (evE Φ a ρ S)) : EvE K mg Wx (tNotV ta) ρ S (evE Φ (.not1 a) ρ S) := by
  intro σ F A H g rr Q p
  unfold evE at p
  refine ha ρ S σ F A H g rr _ (Post.tru (Q := fun c H1 => Q (.bl (!c)) H1) (Post.bind (Rel := EqB) p fun c S1 c' F1 A1 H1 _ s1 g1 rc p1 => ?_) fun c H' q => ⟨c, rfl, q⟩)
  cases rc
  exact p1 (.bl (!c)) F1 A1 H1 Stp.refl g1 (.bl _)
/-! ### tests -/
variable {t u : TT}
theorem et_and (ha : ∀ ρ S, EvT K mg Wx t ρ S (tru (evE Φ a ρ S))) (hb : ∀ ρ S, EvT K mg Wx u ρ S (tru (evE Φ b ρ S))) : EvT K mg Wx (tAnd t u) ρ S (tru (evE Φ (.and2 a b) ρ S)) := by
  intro σ F A H g rr Q p
  unfold evE at p
  have p' : Post K mg Wx σ EqB F A H ((tru (evE Φ a ρ S)).bind fun c S1 => if c then tru (evE Φ b ρ S1) else .ok false S1) Q := by
    cases h : tru (evE Φ a ρ S) with
    | ok c S1 => rw [h] at p; cases c <;> exact p
    | exc x S1 => rw [h] at p; exact p
    | err => rw [h] at p; exact p
  refine ha ρ S σ F A H g rr _ (p'.bind fun c S1 c' F1 A1 H1 _ s1 g1 rc p1 => ?_)
  cases rc
  cases c with
  | false => exact p1 false F1 A1 H1 Stp.refl g1 rfl
  | true => exact hb ρ S1 σ F1 A1 H1 g1 (rr.mono s1) Q p1
theorem et_or (ha : ∀ ρ S, EvT K mg Wx t ρ S (tru (evE Φ a ρ S))) (hb : ∀ ρ S, EvT K mg Wx u ρ S (tru (evE Φ b ρ S))) : EvT K mg Wx (tOr t u) ρ S (tru (evE Φ (.or2 a b) ρ S)) := by
  intro σ F A H g rr Q p
  unfold evE at p
  have p' : Post K mg Wx σ EqB F A H ((tru (evE Φ a ρ S)).bind fun c S1 => if c then .ok true S1 else tru (evE Φ b ρ S1)) Q := by
    cases h : tru (evE Φ a ρ S) with
    | ok c S1 => rw [h] at p; cases c <;> exact p
    | exc x S1 => rw [h] at p; exact p
    | err => rw [h] at p; exact p
  refine ha ρ S σ F A H g rr _ (p'.bind fun c S1 c' F1 A1 H1 _ s1 g1 rc p1 => ?_)
  cases rc
  cases c with
  | true => exact p1 true F1 A1 H1 Stp.refl g1 rfl
  | false => exact hb ρ S1 σ F1 A1 H1 g1 (rr.mono s1) Q p1
theorem et_not (ha : ∀ ρ S, EvT K mg Wx t ρ S (tru (evE Φ a ρ S))) : EvT K mg Wx (tNot t) ρ S (tru (evE Φ (.not1 a) ρ S)) := by
  intro σ F A H g rr Q p
  unfold evE at p
  have p' : Post K mg Wx σ EqB F A H ((tru (evE Φ a ρ S)).bind fun c S1 => .ok (!c) S1) Q := by
    cases h : tru (evE Φ a ρ S) with
    | ok c S1 => rw [h] at p; exact p
    | exc x S1 => rw [h] at p; exact p
    | err => rw [h] at p; exact p
  refine ha ρ S σ F A H g rr _ (p'.bind fun c S1 c' F1 A1 H1 _ s1 g1 rc p1 => ?_)
  cases rc
  exact p1 (!c) F1 A1 H1 Stp.refl g1 rfl
theorem ev_ife (ht : ∀ ρ S, EvT K mg Wx t ρ S (tru (evE Φ a ρ S))) (hb : ∀ ρ S, EvE K mg Wx tb ρ S (evE Φ b ρ S)) (hc : ∀ ρ S, EvE K mg Wx tc ρ S (evE Φ c ρ S)) : EvE K mg Wx (tIf t tb tc) ρ S (evE Φ (.ife a b c) ρ S) := by
  intro σ F A H g rr Q p
  unfold evE at p
  refine ht ρ S σ F A H g rr _ (p.bind fun c S1 c' F1 A1 H1 _ s1 g1 rc p1 => ?_)
  cases rc
  cases c with
  | true => exact hb ρ S1 σ F1 A1 H1 g1 (rr.mono s1) Q p1
  | false => exact hc ρ S1 σ F1 A1 H1 g1 (rr.mono s1) Q p1
/-! ### lists of arguments, displays -/
variable {tl : TA}
theorem ea_nil : EvA K mg Wx tNil ρ S (evA Φ .anil ρ S) := fun σ F A H g rr Q p => p [] F A H Stp.refl g trivial
theorem ea_cons (ha : ∀ ρ S, EvE K mg Wx ta ρ S (evE Φ a ρ S)) (hr : ∀ ρ S, EvA K mg Wx tl ρ S (evA Φ b ρ S)) : EvA K mg Wx (tCons ta tl) ρ S (evA Φ (.acons a b) ρ S) := by
  intro σ F A H g rr Q p
  unfold evA at p
  refine ha ρ S σ F A H g rr _ (p.bind fun x S1 v F1 A1 H1 _ s1 g1 rx p1 => ?_)
  refine hr ρ S1 σ F1 A1 H1 g1 (rr.mono s1) _ (p1.bind fun xs S2 vs F2 A2 H2 _ s2 g2 rs p2 => ?_)
  exact p2 (v :: vs) F2 A2 H2 Stp.refl g2 ⟨rx.mono s2, rs⟩
theorem dats_of : ∀ {ws : List W} {ds : List PyData} {vs : List V}, dats? ws = some ds → WRs K F A ws vs → Rps K F vs ds
  | [], ds, vs, h, r => by
    cases h
    cases vs with
    | nil => exact .nil
    | cons _ _ => exact r.elim
  | .d x :: ws, ds, vs, h, r => by
    unfold dats? at h
    cases vs with
    | nil => exact r.elim
    | cons v vs =>
      cases q : dats? ws with
      | none => rw [q] at h; cases h
      | some es =>
        rw [q] at h
        cases h
        exact .cons r.1 (dats_of q r.2)
  | .ptr _ :: ws, ds, vs, h, r => by cases h
  | .exn _ :: ws, ds, vs, h, r => by cases h
theorem mkL_post {r : R (List W)} {f : List PyData → Option W} {Q : VK} {Q1 : List V → Hp → Prop} (p : Post K mg Wx σ (WR K) F A H (mkL r f) Q)
    (h : ∀ ds w S' vs F' A' H', Stp F A H F' A' H' → Good K F' A' S' H' → Rps K F' vs ds → f ds = some w → Then K F' A' H' S' w Q → Q1 vs H') : Post K mg Wx σ (WRs K) F A H r Q1 := by
  cases r with
  | ok ws S' =>
    intro vs F1 A1 H1 s g rel
    unfold mkL at p
    obtain ⟨w, e, k⟩ := (Post.step s p).ofO
    cases q : dats? ws with
    | none => rw [q] at e; cases e
    | some ds =>
      rw [q] at e
      exact h ds w S' vs F1 A1 H1 s g (dats_of q rel) e k
  | exc x S' => exact p
  | err => exact p
theorem ev_tup (hl : ∀ ρ S, EvA K mg Wx tl ρ S (evA Φ a ρ S)) : EvE K mg Wx (tTup tl) ρ S (evE Φ (.tup a) ρ S) := by
  intro σ F A H g rr Q p
  unfold evE at p
  refine hl ρ S σ F A H g rr _ (mkL_post p fun ds w S' vs F1 A1 H1 s1 g1 r e k => ?_)
  unfold tupW at e
  split at e
  · rename_i h
    cases e
    exact ⟨by rw [r.length]; exact lim_line h, fun p hp => k.tup g1 r hp⟩
  · cases e
/-! ### new lists: they may be ones that change -/
/-- what must follow a result, a list being at a new address -/
def ThenN (K : PySem.W.Frag) (F : Hp) (A : List Addr) (H : Hp) (S' : Sto) (w : W) (Q : VK) : Prop := match w with
  | .d (.list xs) => ∀ p vs F' A' H1, Stp F A H F' A' H1 → Good K F' A' S' H1 → Rps K F' vs xs → H1 p = none → Q (.ref p) (upd H1 p (.lst vs))
  | w => ∀ b F' A' H', Stp F A H F' A' H' → Good K F' A' S' H' → WR K F' A' w b → Q b H'
def PostN (K : PySem.W.Frag) (mg : Str → Option Value) (Wx : WX) (σ : L2.St) (F : Hp) (A : List Addr) (H : Hp) (r : R W) (Q : VK) : Prop := match r with
  | .ok w S' => ThenN K F A H S' w Q
  | .exc x S' => ∀ cls d F' A' H', Stp F A H F' A' H' → Good K F' A' S' H' → XR K mg F' H' x cls d → Wx cls d σ H'
  | .err => False
def EvN (K : PySem.W.Frag) (mg : Str → Option Value) (Wx : WX) (t : TE) (ρ : Rho) (S : Sto) (r : R W) : Prop := ∀ σ F A H, Good K F A S H → RhoR K F A ρ σ → ∀ Q, PostN K mg Wx σ F A H r Q → t σ H Q
theorem ThenN.of {w : W} {Q : VK} (k : Then K F A H S w Q) : ThenN K F A H S w Q := by
  unfold ThenN
  split
  · intro p vs F1 A1 H1 s g r hp
    obtain ⟨s2, g2⟩ := g.laid (o := .lst vs) hp
    exact k _ _ _ _ (s.trans s2) g2 (show Rp K _ _ _ from .lst (.inl (.inl upd_same)) (Rps.mono s2.exF r))
  · intro b F1 A1 H1 s g r
    exact k b F1 A1 H1 s g r
theorem ThenN.step {w : W} {Q : VK} (s : Stp F A H F' A' H') (k : ThenN K F A H S w Q) : ThenN K F' A' H' S w Q := by
  unfold ThenN at k ⊢
  split at k
  · exact fun p vs F1 A1 H1 s2 g r hp => k p vs F1 A1 H1 (s.trans s2) g r hp
  · exact fun b F1 A1 H1 s2 g r => k b F1 A1 H1 (s.trans s2) g r
theorem EvN.ev {t : TE} {r : R W} (h : EvN K mg Wx t ρ S r) : EvE K mg Wx t ρ S r := by
  intro σ F A H g rr Q p
  refine h σ F A H g rr Q ?_
  cases r with
  | ok w S' => exact ThenN.of fun z F1 A1 H1 s g r => p z F1 A1 H1 s g r
  | exc x S' => exact p
  | err => exact p
/-- the new list is one that changes -/
theorem ev_new {t : TE} (h : ∀ ρ S, EvN K mg Wx t ρ S (evE Φ a ρ S)) : EvE K mg Wx t ρ S (evE Φ (.new a) ρ S) := by
  intro σ F A H g rr Q p
  unfold evE at p
  refine h ρ S σ F A H g rr Q ?_
  cases e : evE Φ a ρ S with
  | err => rw [e] at p; exact p
  | exc x S' => rw [e] at p; exact p
  | ok w S' =>
    rw [e] at p
    cases w with
    | ptr _ => exact p.elim
    | exn _ => exact p.elim
    | d x =>
      cases x with
      | list xs =>
        intro q vs F1 A1 H1 s g1 r hq
        obtain ⟨s2, g2⟩ := g1.laidM hq r
        exact p _ _ _ _ (s.trans s2) g2 ⟨q, by rw [← g1.len]; simp, rfl⟩
      | _ => exact p.elim
theorem PostN.bind {r : R α} {k : α → Sto → R W} {Q : VK} {Q1 : β → Hp → Prop} (p : PostN K mg Wx σ F A H (r.bind k) Q)
    (h : ∀ a S' b F' A' H', r = .ok a S' → Stp F A H F' A' H' → Good K F' A' S' H' → Rel F' A' a b → PostN K mg Wx σ F' A' H' (k a S') Q → Q1 b H') : Post K mg Wx σ Rel F A H r Q1 := by
  cases r with
  | ok a S' =>
    intro b F2 A2 H2 s g rel
    refine h a S' b F2 A2 H2 rfl s g rel ?_
    have p' : PostN K mg Wx σ F A H (k a S') Q := p
    unfold PostN at p' ⊢
    split at p'
    · exact p'.step s
    · exact fun cls d F3 A3 H3 s3 g3 x => p' cls d F3 A3 H3 (s.trans s3) g3 x
    · exact p'
  | exc x S' => exact p
  | err => exact p
theorem PostN.ofO {o : Option W} {Q : VK} (p : PostN K mg Wx σ F A H (R.ofO o S) Q) : ∃ w, o = some w ∧ ThenN K F A H S w Q := by
  cases o with
  | none => exact p.elim
  | some w => exact ⟨w, rfl, p⟩
theorem ThenN.lst {xs : List PyData} {vs : List V} {p : Addr} {Q : VK} (k : ThenN K F A H S (.d (.list xs)) Q) (g : Good K F A S H) (r : Rps K F vs xs) (h : H p = none) : Q (.ref p) (upd H p (.lst vs)) := k p vs F A H Stp.refl g r h
theorem ev_lstN (hl : ∀ ρ S, EvA K mg Wx tl ρ S (evA Φ a ρ S)) : EvN K mg Wx (tLst tl) ρ S (evE Φ (.lst a) ρ S) := by
  intro σ F A H g rr Q p
  unfold evE at p
  refine hl ρ S σ F A H g rr _ ?_
  cases e : evA Φ a ρ S with
  | err => rw [e] at p; exact p
  | exc x S' => rw [e] at p; exact p
  | ok ws S' =>
    rw [e] at p
    intro vs F1 A1 H1 s1 g1 r
    unfold mkL at p
    obtain ⟨w, e1, k⟩ := p.ofO
    cases q : dats? ws with
    | none => rw [q] at e1; cases e1
    | some ds =>
      rw [q] at e1
      have e2 : lstW ds = some w := e1
      unfold lstW at e2
      split at e2
      · rename_i h
        cases e2
        have r' := dats_of q r
        exact ⟨by rw [r'.length]; exact lim_line h, fun p hp => (k.step s1).lst g1 r' hp⟩
      · cases e2
/-- + of two lists makes a new one -/
theorem ops_addN : ∃ r : R2, (∀ X, Cnd K X → OpR X (binaryOp .Add) r) ∧ ∀ F A S H x y v u w Q, Good K F A S H → WR K F A x v → WR K F A y u → o2 .add S x y = some w → ThenN K F A H S w Q → r v u H Q := by
  refine ⟨fun x y H Q => (rI0 (fun i j => .int (i + j)) x y H Q ∨ ∃ i j, x = .str i ∧ y = .str j ∧ i.length + j.length ≤ sizeLine ∧ Q (.str (i ++ j)) H) ∨ rCatS K x y H Q, fun X hX => by
    have hK := hX.hK
    subst hK
    exact (op_add.or op_add_str).or op_catS, fun F A S H x y v u w Q gd rx ry e k => ?_⟩
  have e' : addW S x y = some w := e
  unfold addW at e'
  split at e'
  · cases e'
    cases rx
    cases ry
    exact .inl (.inl ⟨_, _, rfl, rfl, k _ F A H Stp.refl gd (.int _)⟩)
  · rename_i a b
    cases rx
    cases ry
    split at e'
    · rename_i h
      cases e'
      exact .inl (.inr ⟨_, _, rfl, rfl, lim_line h, k _ F A H Stp.refl gd (.str _)⟩)
    · cases e'
  · split at e'
    · rename_i a b e1 e2
      split at e'
      · rename_i h
        cases e'
        obtain ⟨l, vs, rfl, h1, r1⟩ := gd.list rx e1
        obtain ⟨m, us, rfl, h2, r2⟩ := gd.list ry e2
        refine .inr ⟨l, m, vs, us, rfl, rfl, h1, h2, ?_, fun p hp => k.lst gd (r1.append r2) hp⟩
        rw [r1.length, r2.length]
        exact lim_line h
      · cases e'
    · cases e'
theorem ev_addN (ha : ∀ ρ S, EvE K mg Wx ta ρ S (evE Φ a ρ S)) (hb : ∀ ρ S, EvE K mg Wx tb ρ S (evE Φ b ρ S)) :
    EvN K mg Wx (tOp (ops_addN (K := K)).choose ta tb) ρ S (evE Φ (.o2 .add a b) ρ S) := by
  intro σ F A H g rr Q p
  unfold evE at p
  refine ha ρ S σ F A H g rr _ (p.bind fun x S1 v F1 A1 H1 _ s1 g1 rx p1 => ?_)
  refine hb ρ S1 σ F1 A1 H1 g1 (rr.mono s1) _ (p1.bind fun y S2 u F2 A2 H2 _ s2 g2 ry p2 => ?_)
  obtain ⟨w, e, k2⟩ := p2.ofO
  exact ops_addN.choose_spec.2 F2 A2 S2 H2 x y v u w Q g2 (rx.mono s2) ry e k2
theorem cs_listN : ∀ {F A S H ws vs w Q}, Good K F A S H → WRs K F A ws vs → bi .list_ S ws = some w → ThenN K F A H S w Q → rListN K vs H Q := by
  intro F A S H ws vs w Q gd rs e k
  obtain ⟨p, us, xs, rfl, rfl, h, r⟩ := list_core gd rs e
  exact ⟨p, us, rfl, h, fun l hl => k.lst gd r hl⟩
theorem ev_listN (hl : ∀ ρ S, EvA K mg Wx tl ρ S (evA Φ a ρ S)) : EvN K mg Wx (tCB (rListN K) tl) ρ S (evE Φ (.bi .list_ a) ρ S) := by
  intro σ F A H g rr Q p
  unfold evE at p
  refine hl ρ S σ F A H g rr _ (p.bind fun ws S1 vs F1 A1 H1 _ s1 g1 rs p1 => ?_)
  obtain ⟨w, e, k⟩ := p1.ofO
  exact cs_listN g1 rs e k
theorem ev_bi {k : Bi} {f : Value} (hc : CallS K f (bi k)) (hl : ∀ ρ S, EvA K mg Wx tl ρ S (evA Φ a ρ S)) : EvE K mg Wx (tCB hc.choose tl) ρ S (evE Φ (.bi k a) ρ S) := by
  intro σ F A H g rr Q p
  unfold evE at p
  refine hl ρ S σ F A H g rr _ (p.bind fun ws S1 vs F1 A1 H1 _ s1 g1 rs p1 => ?_)
  obtain ⟨w, e, k⟩ := p1.ofO
  exact hc.choose_spec.2 F1 A1 S1 H1 ws vs w Q g1 rs e k
theorem ev_isi {t : String} (ha : ∀ ρ S, EvE K mg Wx ta ρ S (evE Φ a ρ S)) : EvE K mg Wx (tCB (rIsi K) (tCons ta (tCons (tC (.ty t)) tNil))) ρ S (evE Φ (.isi t a) ρ S) := by
  intro σ F A H g rr Q p
  unfold evE at p
  refine ha ρ S σ F A H g rr _ (p.bind fun x S1 v F1 A1 H1 _ s1 g1 rx p1 => ?_)
  obtain ⟨w, e, k⟩ := p1.ofO
  exact isi_ok g1 rx e k
theorem ev_mt {k : Mt} {id : String} (hm : MtS K id (mt k)) (ha : ∀ ρ S, EvE K mg Wx ta ρ S (evE Φ a ρ S)) (hl : ∀ ρ S, EvA K mg Wx tl ρ S (evA Φ b ρ S)) :
    EvE K mg Wx (tBM K (mtT k) hm.choose ta tl) ρ S (evE Φ (.mt k a b) ρ S) := by
  intro σ F A H g rr Q p
  unfold evE at p
  refine ha ρ S σ F A H g rr _ (p.bind fun x S1 v F1 A1 H1 _ s1 g1 rx p1 => ?_)
  split at p1
  · rename_i ht
    refine ⟨mtTy_ok g1 rx ht, ?_⟩
    refine hl ρ S1 σ F1 A1 H1 g1 (rr.mono s1) _ (p1.bind fun ws S2 vs F2 A2 H2 _ s2 g2 rs p2 => ?_)
    obtain ⟨w, e, k⟩ := p2.ofP
    exact hm.choose_spec.2 F2 A2 S2 H2 x v ws vs w Q g2 (rx.mono s2) rs e k
  · exact p1.elim
theorem ev_ix (ha : ∀ ρ S, EvE K mg Wx ta ρ S (evE Φ a ρ S)) (hb : ∀ ρ S, EvE K mg Wx tb ρ S (evE Φ b ρ S)) : EvE K mg Wx (tOp (ixs (K := K)).choose ta tb) ρ S (evE Φ (.ix a b) ρ S) := by
  intro σ F A H g rr Q p
  unfold evE at p
  refine ha ρ S σ F A H g rr _ (p.bind fun x S1 v F1 A1 H1 _ s1 g1 rx p1 => ?_)
  refine hb ρ S1 σ F1 A1 H1 g1 (rr.mono s1) _ (p1.bind fun y S2 u F2 A2 H2 _ s2 g2 ry p2 => ?_)
  obtain ⟨w, e, k2⟩ := p2.ofO
  exact ixs.choose_spec.2 F2 A2 S2 H2 x y v u w Q g2 (rx.mono s2) ry e k2
variable {tlo thi : TO}
theorem eo_none : EvO K mg Wx tNoPart ρ S (evO Φ .nop ρ S) := fun σ F A H g rr Q p => p none F A H Stp.refl g rfl
theorem eo_some (ha : ∀ ρ S, EvE K mg Wx ta ρ S (evE Φ a ρ S)) : EvO K mg Wx (tPart ta) ρ S (evO Φ (.one a) ρ S) := by
  intro σ F A H g rr Q p
  unfold evO at p
  refine ha ρ S σ F A H g rr _ (p.bind fun x S1 v F1 A1 H1 _ s1 g1 rx p1 => ?_)
  split at p1
  · cases rx
    exact ⟨_, rfl, p1 _ F1 A1 H1 Stp.refl g1 rfl⟩
  · exact p1.elim
/-- slices: a list's is a new list -/
theorem sls_N : ∃ r : V → Option Int → Option Int → Hp → VK → Prop, (∀ X, Cnd K X → SlR X r) ∧ ∀ F A S H x v lo hi w Q, Good K F A S H → WR K F A x v → slW S x lo hi = some w → ThenN K F A H S w Q → r v lo hi H Q := by
  refine ⟨fun x lo hi H Q => rSlL K x lo hi H Q ∨ rSlT K x lo hi H Q ∨ rSlS x lo hi H Q, fun X hX => by
    have hK := hX.hK
    subst hK
    exact sl_list.or (sl_tup.or sl_str), fun F A S H x v lo hi w Q gd rx e k => ?_⟩
  unfold slW at e
  split at e
  · rename_i z
    cases rx
    split at e
    · rename_i hl
      cases e
      exact .inr (.inr ⟨z, rfl, lim_line hl, k _ F A H Stp.refl gd (.str _)⟩)
    · cases e
  · rename_i xs
    cases rx with
    | tup h1 h2 =>
      split at e
      · cases e
      · rename_i hc
        cases e
        refine .inr (.inl ⟨_, _, rfl, gd.ex.t h1, by rw [h2.length]; exact hc, fun p hp => ?_⟩)
        exact Then.tup (fun z F1 A1 H1 s g r => k z F1 A1 H1 s g r) gd (cut_rps h2 lo hi) hp
  · split at e
    · rename_i xs e1
      cases e
      obtain ⟨p, vs, rfl, h1, r1⟩ := gd.list rx e1
      exact .inl ⟨p, vs, rfl, h1, fun q hq => k.lst gd (cut_rps r1 lo hi) hq⟩
    · cases e
theorem ev_slN (ha : ∀ ρ S, EvE K mg Wx ta ρ S (evE Φ a ρ S)) (hlo : ∀ ρ S, EvO K mg Wx tlo ρ S (evO Φ b ρ S)) (hhi : ∀ ρ S, EvO K mg Wx thi ρ S (evO Φ c ρ S)) :
    EvN K mg Wx (tSl (sls_N (K := K)).choose ta tlo thi) ρ S (evE Φ (.sl a b c) ρ S) := by
  intro σ F A H g rr Q p
  unfold evE at p
  refine ha ρ S σ F A H g rr _ (p.bind fun x S1 v F1 A1 H1 _ s1 g1 rx p1 => ?_)
  refine hlo ρ S1 σ F1 A1 H1 g1 (rr.mono s1) _ (p1.bind fun l S2 l' F2 A2 H2 _ s2 g2 rl p2 => ?_)
  refine hhi ρ S2 σ F2 A2 H2 g2 ((rr.mono s1).mono s2) _ (p2.bind fun h S3 h' F3 A3 H3 _ s3 g3 rh p3 => ?_)
  cases rl
  cases rh
  obtain ⟨w, e, k⟩ := p3.ofO
  exact sls_N.choose_spec.2 F3 A3 S3 H3 x v l h w Q g3 ((rx.mono s2).mono s3) e k
theorem ev_frz (ha : ∀ ρ S, EvE K mg Wx ta ρ S (evE Φ a ρ S)) : EvE K mg Wx ta ρ S (evE Φ (.frz a) ρ S) := by
  intro σ F A H g rr Q p
  unfold evE at p
  refine ha ρ S σ F A H g rr _ (p.bind fun x S1 v F1 A1 H1 _ s1 g1 rx p1 => ?_)
  split at p1
  · rename_i q
    obtain ⟨ad, e, rfl⟩ := rx
    split at p1
    · rename_i xs e2
      obtain ⟨vs, hH, s2, g2, r2⟩ := g1.freeze e e2
      exact p1 _ _ _ _ s2 g2 r2
    · exact p1.elim
  · exact p1.elim
end
end Mi

/-! MiG: targets, sources, comprehensions, statements. -/
namespace Mi
open PySem PySem.Spec PyProof.Rows L2

section
variable {K : PySem.W.Frag} {mg : Str → Option Value} {Wx : WX} {σ : L2.St} {F F' : Hp} {A A' : List Addr} {H H' : Hp} {ρ : Rho} {S : Sto} {Φ : Phi}
/-! ### targets -/
def cntG : M → Nat
  | .acons _ r => cntG r + 1
  | _ => 0
theorem RhoR.set {i : Nat} {w : W} {v : V} (rr : RhoR K F A ρ σ) (r : WR K F A w v) (hi : i < ρ.length) : RhoR K F A (ρ.set i (some w)) (σ.set i (some v)) := by
  refine ⟨by rw [List.length_set, List.length_set]; exact rr.1, fun j x e => ?_⟩
  by_cases hj : j = i
  · subst hj
    rw [List.getElem?_set_self hi] at e
    cases e
    exact ⟨v, List.getElem?_set_self (by rw [← rr.1]; exact hi), r⟩
  · rw [List.getElem?_set_ne (Ne.symm hj)] at e ⊢
    exact rr.2 j x e
theorem RhoR.setN {i : Nat} (rr : RhoR K F A ρ σ) : RhoR K F A (ρ.set i none) (σ.set i none) := by
  refine ⟨by rw [List.length_set, List.length_set]; exact rr.1, fun j x e => ?_⟩
  by_cases hj : j = i
  · subst hj
    by_cases hi : j < ρ.length
    · rw [List.getElem?_set_self hi] at e
      cases e
    · rw [List.getElem?_eq_none (by simpa using hi)] at e
      cases e
  · rw [List.getElem?_set_ne (Ne.symm hj)] at e ⊢
    exact rr.2 j x e
theorem RhoR.wipe : ∀ (vs : List Nat), RhoR K F A ρ σ → RhoR K F A (wipeR ρ vs) (L2.wipe σ vs)
  | [], r => r
  | v :: vs, r => (RhoR.wipe vs r).setN
theorem wipeR_length (ρ : Rho) : ∀ vs : List Nat, (wipeR ρ vs).length = ρ.length
  | [] => rfl
  | v :: vs => by unfold wipeR; rw [List.length_set, wipeR_length ρ vs]
theorem wipe_set {σ : L2.St} {i : Nat} {x : Option V} : ∀ {vs : List Nat}, i ∈ vs → L2.wipe (σ.set i x) vs = L2.wipe σ vs
  | [], h => by cases h
  | v :: vs, h => by
    unfold L2.wipe
    by_cases hv : v = i
    · subst hv
      by_cases h2 : v ∈ vs
      · rw [wipe_set h2]
      · have : ∀ ws : List Nat, v ∉ ws → L2.wipe (σ.set v x) ws = (L2.wipe σ ws).set v x := by
          intro ws
          induction ws with
          | nil => intro _; rfl
          | cons u us ih =>
            intro hu
            have h1 : v ≠ u := fun e => hu (by rw [e]; exact List.mem_cons_self)
            unfold L2.wipe
            rw [ih (fun z => hu (List.mem_cons_of_mem _ z)), List.set_comm _ _ h1]
        rw [this vs h2, List.set_set]
    · rcases List.mem_cons.mp h with e | e
      · exact absurd e.symm hv
      · rw [wipe_set e]
theorem wipe_wipe {σ : L2.St} : ∀ (us vs : List Nat), (∀ i ∈ us, i ∈ vs) → L2.wipe (L2.wipe σ us) vs = L2.wipe σ vs
  | [], vs, _ => rfl
  | u :: us, vs, h => by
    show L2.wipe ((L2.wipe σ us).set u none) vs = _
    rw [wipe_set (h u List.mem_cons_self), wipe_wipe us vs fun i hi => h i (List.mem_cons_of_mem _ hi)]
/-- what a target's reading asks -/
def EvG (K : PySem.W.Frag) (g : TG) (tg : M) : Prop := ∀ σ F A S H, Good K F A S H → ∀ w v ρ ρ', RhoR K F A ρ σ → WR K F A w v → bindT S tg w ρ = some ρ' → ∀ Q : L2.St → Hp → Prop,
  (∀ σ', RhoR K F A ρ' σ' → (∀ vs, (∀ i ∈ tgS tg, i ∈ vs) → L2.wipe σ' vs = L2.wipe σ vs) → Q σ' H) → g v σ H Q
def EvGs (K : PySem.W.Frag) (g : TGs) (tg : M) : Prop := ∀ σ F A S H, Good K F A S H → ∀ ws vs ρ ρ', RhoR K F A ρ σ → WRs K F A ws vs → bindTs S tg ws ρ = some ρ' → ∀ Q : L2.St → Hp → Prop,
  (∀ σ', RhoR K F A ρ' σ' → (∀ us, (∀ i ∈ tgSs tg, i ∈ us) → L2.wipe σ' us = L2.wipe σ us) → Q σ' H) → g vs σ H Q
theorem eg_name {i : Nat} : EvG K (gName i) (.tn i) := by
  intro σ F A S H g w v ρ ρ' rr r e Q q
  unfold bindT at e
  split at e
  · rename_i hi
    cases e
    exact q _ (rr.set r hi) fun vs h => wipe_set (h i (by simp [tgS]))
  · cases e
theorem egs_nil : EvGs K gNil .anil := by
  intro σ F A S H g ws vs ρ ρ' rr r e Q q
  unfold bindTs at e
  split at e
  · rename_i h1 h2 h3
    cases e
    cases vs with
    | nil => exact ⟨rfl, q σ rr fun _ _ => rfl⟩
    | cons _ _ => exact r.elim
  · rename_i h
    cases h
  · cases e
theorem egs_cons {t : TG} {u : TGs} {a r : M} (h1 : EvG K t a) (h2 : EvGs K u r) : EvGs K (gCons t u) (.acons a r) := by
  intro σ F A S H g ws vs ρ ρ' rr rs e Q q
  cases ws with
  | nil => simp [bindTs] at e
  | cons w ws' =>
    cases vs with
    | nil => exact rs.elim
    | cons v vs =>
      unfold bindTs at e
      split at e
      · rename_i ρ1 hb
        refine ⟨v, vs, rfl, h1 σ F A S H g w v ρ ρ1 rr rs.1 hb _ fun σ1 rr1 w1 => ?_⟩
        exact h2 σ1 F A S H g ws' vs ρ1 ρ' rr1 rs.2 e _ fun σ2 rr2 w2 => q σ2 rr2 fun us hu =>
          (w2 us fun i hi => hu i (by simp [tgSs, hi])).trans (w1 us fun i hi => hu i (by simp [tgSs, hi]))
      · cases e
theorem bindTs_len : ∀ {tg : M} {ws : List W} {ρ ρ' : Rho}, bindTs S tg ws ρ = some ρ' → ws.length = cntG tg
  | .anil, ws, ρ, ρ', e => by
    cases ws with
    | nil => rfl
    | cons _ _ => simp [bindTs] at e
  | .acons a r, ws, ρ, ρ', e => by
    cases ws with
    | nil => simp [bindTs] at e
    | cons w ws =>
      unfold bindTs at e
      split at e
      · exact congrArg Nat.succ (bindTs_len e)
      · cases e
  | .var _, ws, ρ, ρ', e => by simp [bindTs] at e
  | .int _, ws, ρ, ρ', e => by simp [bindTs] at e
  | .str _, ws, ρ, ρ', e => by simp [bindTs] at e
  | .bl _, ws, ρ, ρ', e => by simp [bindTs] at e
  | .non, ws, ρ, ρ', e => by simp [bindTs] at e
  | .gi _ _, ws, ρ, ρ', e => by simp [bindTs] at e
  | .gs _ _, ws, ρ, ρ', e => by simp [bindTs] at e
  | .o2 _ _ _, ws, ρ, ρ', e => by simp [bindTs] at e
  | .ch _ _ _ _ _, ws, ρ, ρ', e => by simp [bindTs] at e
  | .neg _, ws, ρ, ρ', e => by simp [bindTs] at e
  | .and2 _ _, ws, ρ, ρ', e => by simp [bindTs] at e
  | .or2 _ _, ws, ρ, ρ', e => by simp [bindTs] at e
  | .one _, ws, ρ, ρ', e => by simp [bindTs] at e
  | .not1 _, ws, ρ, ρ', e => by simp [bindTs] at e
  | .ife _ _ _, ws, ρ, ρ', e => by simp [bindTs] at e
  | .tup _, ws, ρ, ρ', e => by simp [bindTs] at e
  | .lst _, ws, ρ, ρ', e => by simp [bindTs] at e
  | .call _ _, ws, ρ, ρ', e => by simp [bindTs] at e
  | .bi _ _, ws, ρ, ρ', e => by simp [bindTs] at e
  | .isi _ _, ws, ρ, ρ', e => by simp [bindTs] at e
  | .mt _ _ _, ws, ρ, ρ', e => by simp [bindTs] at e
  | .ix _ _, ws, ρ, ρ', e => by simp [bindTs] at e
  | .sl _ _ _, ws, ρ, ρ', e => by simp [bindTs] at e
  | .nop, ws, ρ, ρ', e => by simp [bindTs] at e
  | .lc _ _ _ _ _, ws, ρ, ρ', e => by simp [bindTs] at e
  | .new _, ws, ρ, ρ', e => by simp [bindTs] at e
  | .frz _, ws, ρ, ρ', e => by simp [bindTs] at e
  | .itE _, ws, ρ, ρ', e => by simp [bindTs] at e
  | .itR _, ws, ρ, ρ', e => by simp [bindTs] at e
  | .itN _, ws, ρ, ρ', e => by simp [bindTs] at e
  | .itZ _ _, ws, ρ, ρ', e => by simp [bindTs] at e
  | .tn _, ws, ρ, ρ', e => by simp [bindTs] at e
  | .tt _, ws, ρ, ρ', e => by simp [bindTs] at e
  | .asg _ _, ws, ρ, ρ', e => by simp [bindTs] at e
  | .asgLc _ _, ws, ρ, ρ', e => by simp [bindTs] at e
  | .par2 _ _ _ _, ws, ρ, ρ', e => by simp [bindTs] at e
  | .aug _ _ _, ws, ρ, ρ', e => by simp [bindTs] at e
  | .setix _ _ _, ws, ρ, ρ', e => by simp [bindTs] at e
  | .ex _, ws, ρ, ρ', e => by simp [bindTs] at e
  | .ret _, ws, ρ, ρ', e => by simp [bindTs] at e
  | .retN, ws, ρ, ρ', e => by simp [bindTs] at e
  | .ift _ _ _, ws, ρ, ρ', e => by simp [bindTs] at e
  | .for_ _ _ _, ws, ρ, ρ', e => by simp [bindTs] at e
  | .wh _ _ _, ws, ρ, ρ', e => by simp [bindTs] at e
  | .rais _ _, ws, ρ, ρ', e => by simp [bindTs] at e
  | .raisF _ _ _, ws, ρ, ρ', e => by simp [bindTs] at e
  | .brk, ws, ρ, ρ', e => by simp [bindTs] at e
  | .cnt, ws, ρ, ρ', e => by simp [bindTs] at e
  | .pss, ws, ρ, ρ', e => by simp [bindTs] at e
  | .nev, ws, ρ, ρ', e => by simp [bindTs] at e
  | .snil, ws, ρ, ρ', e => by simp [bindTs] at e
  | .scons _ _, ws, ρ, ρ', e => by simp [bindTs] at e
theorem wrs_of : ∀ {ds : List PyData} {vs : List V}, Rps K F vs ds → WRs K F A (ds.map .d) vs
  | [], _, h => by cases h; trivial
  | d :: ds, _, h => by
    cases h with
    | cons h1 h2 => exact ⟨h1, wrs_of h2⟩
/-- a tuple or a list, taken apart -/
def gSeq (K : PySem.W.Frag) (n : Nat) (t : TGs) : TG := fun v σ H Q => gTup K n t v σ H Q ∨ L2.gLst K n t v σ H Q
theorem eg_tt {u : TGs} {a : M} (h : EvGs K u a) : EvG K (gSeq K (cntG a) u) (.tt a) := by
  intro σ F A S H g w v ρ ρ' rr r e Q q
  unfold bindT at e
  split at e
  · rename_i xs
    cases r with
    | tup h1 h2 =>
      have l := bindTs_len e
      rw [List.length_map] at l
      exact .inl ⟨_, _, rfl, g.ex.t h1, by rw [h2.length, l], h σ F A S H g _ _ ρ ρ' rr (wrs_of h2) e Q fun σ' r' w' => q σ' r' fun vs hv => w' vs fun i hi => hv i (by simpa [tgS] using hi)⟩
  · rename_i xs
    cases r with
    | lst h1 h2 =>
      have l := bindTs_len e
      rw [List.length_map] at l
      exact .inr ⟨_, _, rfl, g.ex.l h1, by rw [h2.length, l], h σ F A S H g _ _ ρ ρ' rr (wrs_of h2) e Q fun σ' r' w' => q σ' r' fun vs hv => w' vs fun i hi => hv i (by simpa [tgS] using hi)⟩
  · cases e
theorem bindT_len : ∀ {tg : M} {w : W} {ρ ρ' : Rho}, bindT S tg w ρ = some ρ' → True := fun _ => trivial

/-! ### sources -/
/-- the iterator gives the items, while the list stands -/
def ItR (K : PySem.W.Frag) (F0 : Hp) (A0 : List Addr) (J : It) (src : Src) : Prop :=
  ∀ F A S H, Ex F0 F → (∃ B, A = A0 ++ B) → Good K F A S H → guard src.g S = true →
    (∀ (i : Nat) (w : W), src.xs[i]? = some w → J.go i H ∧ ∀ x H', J.yld i H x H' → ∃ F', Stp F A H F' A H' ∧ Good K F' A S H' ∧ WR K F' A w x) ∧ ∀ i, src.xs.length ≤ i → J.stop i H
def EvI (K : PySem.W.Frag) (mg : Str → Option Value) (Wx : WX) (wi : TI) (ρ : Rho) (S : Sto) (r : R Src) : Prop := ∀ σ F A H, Good K F A S H → RhoR K F A ρ σ → ∀ R : It → Hp → Prop,
  (match r with
    | .ok src S' => ∀ J F' A' H', Stp F A H F' A' H' → Good K F' A' S' H' → ItR K F' A' J src → R J H'
    | .exc x S' => ∀ cls d F' A' H', Stp F A H F' A' H' → Good K F' A' S' H' → XR K mg F' H' x cls d → Wx cls d σ H'
    | .err => False) → wi σ H R
theorem itR_list {a : Addr} {vs : List V} {xs : List PyData} (h : SqL K F a vs) (r : Rps K F vs xs) : ItR K F A (Itl K a) ⟨xs.map .d, none⟩ := by
  intro F1 A1 S1 H1 e _ g _
  have hr : SqL K H1 a vs := g.ex.l (e.l h)
  refine ⟨fun i w hw => ?_, fun i hi => ⟨vs, hr, by rw [r.length]; simpa using hi⟩⟩
  rw [List.getElem?_map] at hw
  cases q : xs[i]? with
  | none => rw [q] at hw; cases hw
  | some d =>
    rw [q] at hw
    cases hw
    obtain ⟨v, e1, e2⟩ := (Rps.mono e r).get q
    refine ⟨⟨vs, v, hr, e1⟩, fun x H' y => ?_⟩
    obtain ⟨rfl, y⟩ := y
    have := y vs hr
    rw [e1] at this
    cases this
    exact ⟨F1, Stp.refl, g, e2⟩
theorem itR_tup {a : Addr} {vs : List V} {xs : List PyData} (h : SqT K F a vs) (r : Rps K F vs xs) : ItR K F A (Itt K a) ⟨xs.map .d, none⟩ := by
  intro F1 A1 S1 H1 e _ g _
  have hr : SqT K H1 a vs := g.ex.t (e.t h)
  refine ⟨fun i w hw => ?_, fun i hi => ⟨vs, hr, by rw [r.length]; simpa using hi⟩⟩
  rw [List.getElem?_map] at hw
  cases q : xs[i]? with
  | none => rw [q] at hw; cases hw
  | some d =>
    rw [q] at hw
    cases hw
    obtain ⟨v, e1, e2⟩ := (Rps.mono e r).get q
    refine ⟨⟨vs, v, hr, e1⟩, fun x H' y => ?_⟩
    obtain ⟨rfl, y⟩ := y
    have := y vs hr
    rw [e1] at this
    cases this
    exact ⟨F1, Stp.refl, g, e2⟩
theorem itR_str {x : Str} : ItR K F A (Its x) ⟨x.cps.toList.map fun c => .d (.str ⟨#[c]⟩), none⟩ := by
  intro F1 A1 S1 H1 e _ g _
  refine ⟨fun i w hw => ?_, fun i hi => ?_⟩
  · rw [List.getElem?_map] at hw
    cases q : x.cps.toList[i]? with
    | none => rw [q] at hw; cases hw
    | some c =>
      rw [q] at hw
      cases hw
      have hi := (List.getElem?_eq_some_iff.mp q).1
      refine ⟨by show i < x.cps.size; simpa using hi, fun v H' y => ?_⟩
      obtain ⟨rfl, c', e1, rfl⟩ := y
      have e2 : x.cps.toList[i]? = some c' := by simpa using e1
      rw [q] at e2
      cases e2
      exact ⟨F1, Stp.refl, g, .str _⟩
  · show x.cps.size ≤ i
    simpa using hi
theorem guard_some {p : Nat} {xs : List PyData} {S : Sto} (h : guard (some (p, xs)) S = true) : S[p]? = some (.lst xs) := by
  have h' : (match S[p]? with | some (.lst ys) => peqs ys xs | _ => false) = true := h
  split at h'
  · rename_i ys e
    rw [e, peqs_eq h']
  · cases h'
theorem itR_ptr {p : Nat} {a : Addr} {xs : List PyData} (ha : A[p]? = some a) : ItR K F A (Itl K a) ⟨xs.map .d, some (p, xs)⟩ := by
  intro F1 A1 S1 H1 e hA g hg
  have ha1 : A1[p]? = some a := by
    obtain ⟨B, e'⟩ := hA
    rw [e', List.getElem?_append_left (List.getElem?_eq_some_iff.mp ha).1]
    exact ha
  obtain ⟨_, vs, h1, r⟩ := g.ob p a _ ha1 (guard_some hg)
  have hr : SqL K H1 a vs := .inl (.inl h1)
  refine ⟨fun i w hw => ?_, fun i hi => ⟨vs, hr, by rw [r.length]; simpa using hi⟩⟩
  rw [List.getElem?_map] at hw
  cases q : xs[i]? with
  | none => rw [q] at hw; cases hw
  | some d =>
    rw [q] at hw
    cases hw
    obtain ⟨v, e1, e2⟩ := r.get q
    refine ⟨⟨vs, v, hr, e1⟩, fun x H' y => ?_⟩
    obtain ⟨rfl, y⟩ := y
    have := y vs hr
    rw [e1] at this
    cases this
    exact ⟨F1, Stp.refl, g, e2⟩
theorem itR_rng {lo : Int} {n : Nat} : ItR K F A (Itr lo n) ⟨rngL lo n, none⟩ := by
  intro F1 A1 S1 H1 e hA g hg
  refine ⟨fun i w hw => ?_, fun i hi => ?_⟩
  · unfold rngL at hw
    have hw' : ((List.range n).map fun i => W.d (.int (lo + (i : Nat))))[i]? = some w := hw
    rw [List.getElem?_map] at hw'
    cases q : (List.range n)[i]? with
    | none => rw [q] at hw'; cases hw'
    | some j =>
      rw [q] at hw'
      cases hw'
      obtain ⟨h1, h2⟩ := List.getElem?_eq_some_iff.mp q
      rw [List.getElem_range] at h2
      subst h2
      refine ⟨by show i < n; simpa using h1, fun x H' y => ?_⟩
      obtain ⟨rfl, rfl⟩ := y
      exact ⟨F1, Stp.refl, g, .int _⟩
  · show n ≤ i
    simpa [rngL] using hi
theorem enumL_get : ∀ (k : Nat) (xs : List PyData) (i : Nat) (w : W), (enumL k xs)[i]? = some w → ∃ x, xs[i]? = some x ∧ w = .d (.tuple [.int ((k + i : Nat) : Int), x])
  | k, [], i, w, h => by simp [enumL] at h
  | k, x :: xs, 0, w, h => by
    simp [enumL] at h
    exact ⟨x, rfl, h.symm⟩
  | k, x :: xs, i + 1, w, h => by
    obtain ⟨y, e1, e2⟩ := enumL_get (k + 1) xs i w (by simpa [enumL] using h)
    refine ⟨y, by simpa using e1, ?_⟩
    rw [e2, show k + 1 + i = k + (i + 1) by omega]
theorem enumL_len : ∀ (k : Nat) (xs : List PyData), (enumL k xs).length = xs.length
  | k, [] => rfl
  | k, x :: xs => congrArg Nat.succ (enumL_len (k + 1) xs)
theorem itR_enum_core {a : Addr} {xs : List PyData} {g0 : Option (Nat × List PyData)} (hs : ∀ F1 A1 S1 H1, Ex F F1 → (∃ B, A1 = A ++ B) → Good K F1 A1 S1 H1 → guard g0 S1 = true → ∃ vs, SqL K H1 a vs ∧ Rps K F1 vs xs) :
    ItR K F A (Ite K a) ⟨enumL 0 xs, g0⟩ := by
  intro F1 A1 S1 H1 e hA g hg
  obtain ⟨vs, hr, r⟩ := hs F1 A1 S1 H1 e hA g hg
  refine ⟨fun i w hw => ?_, fun i hi => ⟨vs, hr, by rw [r.length]; simpa [enumL_len] using hi⟩⟩
  obtain ⟨d, q, rfl⟩ := enumL_get 0 xs i w hw
  obtain ⟨v, e1, e2⟩ := r.get q
  refine ⟨⟨vs, v, hr, e1⟩, fun x H' y => ?_⟩
  obtain ⟨T, z, rfl, hT, rfl, y⟩ := y
  have := y vs hr
  rw [e1] at this
  cases this
  obtain ⟨s, g'⟩ := g.laid (o := .tup [.int (i : Nat), v]) hT
  refine ⟨_, s, g', (show Rp K _ _ _ from .tup (.inl (.inl upd_same)) (.cons ?_ (.cons (Rp.mono s.exF e2) .nil)))⟩
  rw [Nat.zero_add]
  exact .int _
theorem itR_enum {a : Addr} {vs : List V} {xs : List PyData} (h : SqL K F a vs) (r : Rps K F vs xs) : ItR K F A (Ite K a) ⟨enumL 0 xs, none⟩ :=
  itR_enum_core fun F1 A1 S1 H1 e _ g _ => ⟨vs, g.ex.l (e.l h), Rps.mono e r⟩
theorem itR_enumP {p : Nat} {a : Addr} {xs : List PyData} (ha : A[p]? = some a) : ItR K F A (Ite K a) ⟨enumL 0 xs, some (p, xs)⟩ :=
  itR_enum_core fun F1 A1 S1 H1 e hA g hg => by
    have ha1 : A1[p]? = some a := by
      obtain ⟨B, e'⟩ := hA
      rw [e', List.getElem?_append_left (List.getElem?_eq_some_iff.mp ha).1]
      exact ha
    obtain ⟨_, vs, h1, r⟩ := g.ob p a _ ha1 (guard_some hg)
    exact ⟨vs, .inl (.inl h1), r⟩
theorem zipL_get : ∀ (xs ys : List PyData) (i : Nat) (w : W), (zipL xs ys)[i]? = some w → ∃ x y, xs[i]? = some x ∧ ys[i]? = some y ∧ w = .d (.tuple [x, y])
  | [], ys, i, w, h => by simp [zipL] at h
  | x :: xs, [], i, w, h => by simp [zipL] at h
  | x :: xs, y :: ys, 0, w, h => by
    simp [zipL] at h
    exact ⟨x, y, rfl, rfl, h.symm⟩
  | x :: xs, y :: ys, i + 1, w, h => by
    obtain ⟨a, b, e1, e2, e3⟩ := zipL_get xs ys i w (by simpa [zipL] using h)
    exact ⟨a, b, by simpa using e1, by simpa using e2, e3⟩
theorem zipL_len : ∀ (xs ys : List PyData) (i : Nat), (zipL xs ys).length ≤ i → xs.length ≤ i ∨ ys.length ≤ i
  | [], ys, i, h => .inl (Nat.zero_le _)
  | x :: xs, [], i, h => .inr (Nat.zero_le _)
  | x :: xs, y :: ys, 0, h => by simp [zipL] at h
  | x :: xs, y :: ys, i + 1, h => by
    rcases zipL_len xs ys i (by simpa [zipL] using h) with z | z
    · exact .inl (by simpa using z)
    · exact .inr (by simpa using z)
theorem itR_zip {a b : Addr} {vs us : List V} {xs ys : List PyData} (h : SqL K F a vs) (r : Rps K F vs xs) (h' : SqL K F b us) (r' : Rps K F us ys) : ItR K F A (Itz K a b) ⟨zipL xs ys, none⟩ := by
  intro F1 A1 S1 H1 e _ g _
  have hr : SqL K H1 a vs := g.ex.l (e.l h)
  have hr' : SqL K H1 b us := g.ex.l (e.l h')
  refine ⟨fun i w hw => ?_, fun i hi => ⟨vs, us, hr, hr', ?_⟩⟩
  · obtain ⟨d, f, q, q', rfl⟩ := zipL_get xs ys i w hw
    obtain ⟨v, e1, e2⟩ := (Rps.mono e r).get q
    obtain ⟨u, e3, e4⟩ := (Rps.mono e r').get q'
    refine ⟨⟨vs, us, v, u, hr, hr', e1, e3⟩, fun x H' y => ?_⟩
    obtain ⟨T, z, z', rfl, hT, rfl, y1, y2⟩ := y
    have := y1 vs hr
    rw [e1] at this
    cases this
    have := y2 us hr'
    rw [e3] at this
    cases this
    obtain ⟨s, g'⟩ := g.laid (o := .tup [v, u]) hT
    exact ⟨_, s, g', (show Rp K _ _ _ from .tup (.inl (.inl upd_same)) (.cons (Rp.mono s.exF e2) (.cons (Rp.mono s.exF e4) .nil)))⟩
  · rw [r.length, r'.length]
    exact zipL_len xs ys i hi
variable {ta tb te : TE} {tl : TA} {a b e : M}
theorem Post.bindI {α β : Type} {Rel : Hp → List Addr → α → β → Prop} {r : R α} {k : α → Sto → R Src} {R : It → Hp → Prop} {Q1 : β → Hp → Prop}
    (p : (match r.bind k with
      | .ok src S' => ∀ J F' A' H', Stp F A H F' A' H' → Good K F' A' S' H' → ItR K F' A' J src → R J H'
      | .exc x S' => ∀ cls d F' A' H', Stp F A H F' A' H' → Good K F' A' S' H' → XR K mg F' H' x cls d → Wx cls d σ H'
      | .err => False))
    (h : ∀ a S' b F' A' H', Stp F A H F' A' H' → Good K F' A' S' H' → Rel F' A' a b → (match k a S' with
      | .ok src S' => ∀ J F'' A'' H'', Stp F' A' H' F'' A'' H'' → Good K F'' A'' S' H'' → ItR K F'' A'' J src → R J H''
      | .exc x S' => ∀ cls d F'' A'' H'', Stp F' A' H' F'' A'' H'' → Good K F'' A'' S' H'' → XR K mg F'' H'' x cls d → Wx cls d σ H''
      | .err => False) → Q1 b H') : Post K mg Wx σ Rel F A H r Q1 := by
  cases r with
  | ok a S' =>
    intro b F2 A2 H2 s g rel
    refine h a S' b F2 A2 H2 s g rel ?_
    have p' : (match k a S' with
      | .ok src S' => ∀ J F' A' H', Stp F A H F' A' H' → Good K F' A' S' H' → ItR K F' A' J src → R J H'
      | .exc x S' => ∀ cls d F' A' H', Stp F A H F' A' H' → Good K F' A' S' H' → XR K mg F' H' x cls d → Wx cls d σ H'
      | .err => False) := p
    cases q : k a S' with
    | ok src S2 =>
      rw [q] at p'
      exact fun J F3 A3 H3 s3 g3 i => p' J F3 A3 H3 (s.trans s3) g3 i
    | exc x S2 =>
      rw [q] at p'
      exact fun cls d F3 A3 H3 s3 g3 x => p' cls d F3 A3 H3 (s.trans s3) g3 x
    | err => rw [q] at p'; exact p'
  | exc x S' => exact p
  | err => exact p
/-- a list, a tuple, a text -/
def iAny (K : PySem.W.Frag) (te : TE) : TI := fun σ H R => iList K te σ H R ∨ iTup K te σ H R ∨ iStr te σ H R
end
end Mi

/-! MiH: what a loop walks, comprehensions. -/
namespace Mi
open PySem PySem.Spec PyProof.Rows L2

/-- what must follow a source -/
def PostI (K : PySem.W.Frag) (mg : Str → Option Value) (Wx : WX) (σ : L2.St) (F : Hp) (A : List Addr) (H : Hp) (r : R Src) (R : It → Hp → Prop) : Prop := match r with
  | .ok src S' => ∀ J F' A' H', Stp F A H F' A' H' → Good K F' A' S' H' → ItR K F' A' J src → R J H'
  | .exc x S' => ∀ cls d F' A' H', Stp F A H F' A' H' → Good K F' A' S' H' → XR K mg F' H' x cls d → Wx cls d σ H'
  | .err => False
section
variable {K : PySem.W.Frag} {mg : Str → Option Value} {Wx : WX} {σ : L2.St} {F F' : Hp} {A A' : List Addr} {H H' : Hp} {ρ : Rho} {S : Sto} {Φ : Phi} {α β : Type} {Rel : Hp → List Addr → α → β → Prop}
theorem PostI.step {r : R Src} {Q : It → Hp → Prop} (s : Stp F A H F' A' H') (p : PostI K mg Wx σ F A H r Q) : PostI K mg Wx σ F' A' H' r Q := by
  cases r with
  | ok a S' => exact fun b F2 A2 H2 s2 g rel => p b F2 A2 H2 (s.trans s2) g rel
  | exc x S' => exact fun cls d F2 A2 H2 s2 g x => p cls d F2 A2 H2 (s.trans s2) g x
  | err => exact p
theorem PostI.bind {r : R α} {k : α → Sto → R Src} {Q : It → Hp → Prop} {Q1 : β → Hp → Prop} (p : PostI K mg Wx σ F A H (r.bind k) Q)
    (h : ∀ a S' b F' A' H', r = .ok a S' → Stp F A H F' A' H' → Good K F' A' S' H' → Rel F' A' a b → PostI K mg Wx σ F' A' H' (k a S') Q → Q1 b H') : Post K mg Wx σ Rel F A H r Q1 := by
  cases r with
  | ok a S' => exact fun b F2 A2 H2 s g rel => h a S' b F2 A2 H2 rfl s g rel (PostI.step s p)
  | exc x S' => exact p
  | err => exact p
theorem PostI.ofO {o : Option Src} {Q : It → Hp → Prop} (p : PostI K mg Wx σ F A H (R.ofO o S) Q) : ∃ w, o = some w ∧ ∀ J F' A' H', Stp F A H F' A' H' → Good K F' A' S H' → ItR K F' A' J w → Q J H' := by
  cases o with
  | none => exact p.elim
  | some w => exact ⟨w, rfl, fun z F2 A2 H2 s g rel => p z F2 A2 H2 s g rel⟩
def EvJ (K : PySem.W.Frag) (mg : Str → Option Value) (Wx : WX) (wi : TI) (ρ : Rho) (S : Sto) (r : R Src) : Prop := ∀ σ F A H, Good K F A S H → RhoR K F A ρ σ → ∀ R : It → Hp → Prop, PostI K mg Wx σ F A H r R → wi σ H R
variable {ta tb te : TE} {tl : TA} {a b e : M}
theorem ej_any (ha : ∀ ρ S, EvE K mg Wx ta ρ S (evE Φ a ρ S)) : EvJ K mg Wx (fun σ H R => ta σ H fun v H1 => (∃ a xs, v = .ref a ∧ SqL K H1 a xs ∧ R (Itl K a) H1) ∨ (∃ a xs, v = .ref a ∧ SqT K H1 a xs ∧ R (Itt K a) H1) ∨ ∃ x, v = .str x ∧ R (Its x) H1) ρ S (evI Φ (.itE a) ρ S) := by
  intro σ F A H g rr Q p
  unfold evI at p
  refine ha ρ S σ F A H g rr _ (p.bind fun x S1 v F1 A1 H1 _ s1 g1 rx p1 => ?_)
  obtain ⟨src, e, k⟩ := p1.ofO
  unfold srcW at e
  split at e
  · cases e
    cases rx
    exact .inr (.inr ⟨_, rfl, k _ F1 A1 H1 Stp.refl g1 itR_str⟩)
  · cases e
    cases rx with
    | lst h1 h2 => exact .inl ⟨_, _, rfl, g1.ex.l h1, k _ F1 A1 H1 Stp.refl g1 (itR_list h1 h2)⟩
  · cases e
    cases rx with
    | tup h1 h2 => exact .inr (.inl ⟨_, _, rfl, g1.ex.t h1, k _ F1 A1 H1 Stp.refl g1 (itR_tup h1 h2)⟩)
  · obtain ⟨q, eq, rfl⟩ := rx
    split at e
    · rename_i p xs e2
      cases e
      obtain ⟨_, vs, h1, _⟩ := g1.ob _ _ _ eq e2
      exact .inl ⟨_, vs, rfl, .inl (.inl h1), k _ F1 A1 H1 Stp.refl g1 (itR_ptr eq)⟩
    · cases e
  · cases e
theorem rng_of {i : Int} (h : rngOk i = true) : -(2 ^ 62) ≤ i ∧ i < 2 ^ 62 := by
  unfold rngOk at h
  rw [Bool.and_eq_true, decide_eq_true_eq, decide_eq_true_eq] at h
  exact h
theorem ea_len : ∀ {a : M} {ρ : Rho} {S : Sto} {ws : List W} {S' : Sto}, evA Φ a ρ S = .ok ws S' → ws.length = cntA a := by
  intro a
  induction a with
  | anil =>
    intro ρ S ws S' h
    unfold evA at h
    cases h
    rfl
  | acons x r _ ih =>
    intro ρ S ws S' h
    unfold evA at h
    cases e1 : evE Φ x ρ S with
    | ok w S1 =>
      rw [e1] at h
      cases e2 : evA Φ r ρ S1 with
      | ok us S2 =>
        have h' : (evA Φ r ρ S1).bind (fun xs S2 => .ok (w :: xs) S2) = R.ok ws S' := h
        rw [e2] at h'
        cases h'
        exact congrArg Nat.succ (ih e2)
      | exc _ _ =>
        have h' : (evA Φ r ρ S1).bind (fun xs S2 => .ok (w :: xs) S2) = R.ok ws S' := h
        rw [e2] at h'
        cases h'
      | err =>
        have h' : (evA Φ r ρ S1).bind (fun xs S2 => .ok (w :: xs) S2) = R.ok ws S' := h
        rw [e2] at h'
        cases h'
    | exc _ _ => rw [e1] at h; cases h
    | err => rw [e1] at h; cases h
  | _ =>
    intro ρ S ws S' h
    unfold evA at h
    cases h
theorem srcR_1 {ws : List W} {src : Src} (e : srcR ws = some src) (l : ws.length = 1) : ∃ j, ws = [.d (.int j)] ∧ rngOk j = true ∧ src = ⟨rngL 0 j.toNat, none⟩ := by
  unfold srcR at e
  split at e
  · split at e
    · rename_i j h
      cases e
      exact ⟨_, rfl, h, rfl⟩
    · cases e
  · cases l
  · cases e
theorem srcR_2 {ws : List W} {src : Src} (e : srcR ws = some src) (l : ws.length = 2) : ∃ i j, ws = [.d (.int i), .d (.int j)] ∧ rngOk i = true ∧ rngOk j = true ∧ src = ⟨rngL i (j - i).toNat, none⟩ := by
  unfold srcR at e
  split at e
  · cases l
  · split at e
    · rename_i h
      cases e
      rw [Bool.and_eq_true] at h
      exact ⟨_, _, rfl, h.1, h.2, rfl⟩
    · cases e
  · cases e
theorem ej_rng1 (hl : ∀ ρ S, EvA K mg Wx tl ρ S (evA Φ a ρ S)) (hn : cntA a = 1) : EvJ K mg Wx (iRng1 tl) ρ S (evI Φ (.itR a) ρ S) := by
  intro σ F A H g rr Q p
  unfold evI at p
  refine hl ρ S σ F A H g rr _ (p.bind fun ws S1 vs F1 A1 H1 e1 s1 g1 rs p1 => ?_)
  obtain ⟨src, e, k⟩ := p1.ofO
  obtain ⟨j, rfl, hj, rfl⟩ := srcR_1 e ((ea_len e1).trans hn)
  cases vs with
  | nil => exact rs.elim
  | cons v vs =>
    cases vs with
    | cons _ _ => exact rs.2.elim
    | nil =>
      obtain ⟨r1, _⟩ := rs
      cases r1
      exact ⟨j, rfl, (rng_of hj).1, (rng_of hj).2, k _ F1 A1 H1 Stp.refl g1 itR_rng⟩
theorem ej_rng2 (hl : ∀ ρ S, EvA K mg Wx tl ρ S (evA Φ a ρ S)) (hn : cntA a = 2) : EvJ K mg Wx (iRng2 tl) ρ S (evI Φ (.itR a) ρ S) := by
  intro σ F A H g rr Q p
  unfold evI at p
  refine hl ρ S σ F A H g rr _ (p.bind fun ws S1 vs F1 A1 H1 e1 s1 g1 rs p1 => ?_)
  obtain ⟨src, e, k⟩ := p1.ofO
  obtain ⟨i, j, rfl, hi, hj, rfl⟩ := srcR_2 e ((ea_len e1).trans hn)
  cases vs with
  | nil => exact rs.elim
  | cons v vs =>
    cases vs with
    | nil => exact rs.2.elim
    | cons u us =>
      cases us with
      | cons _ _ => exact rs.2.2.elim
      | nil =>
        obtain ⟨r1, r2, _⟩ := rs
        cases r1
        cases r2
        exact ⟨i, j, rfl, ⟨(rng_of hi).1, (rng_of hi).2, (rng_of hj).1, (rng_of hj).2⟩, k _ F1 A1 H1 Stp.refl g1 itR_rng⟩
theorem ej_enum (ha : ∀ ρ S, EvE K mg Wx ta ρ S (evE Φ a ρ S)) : EvJ K mg Wx (iEnum K (tCons ta tNil)) ρ S (evI Φ (.itN a) ρ S) := by
  intro σ F A H g rr Q p
  unfold evI at p
  refine ha ρ S σ F A H g rr _ (p.bind fun x S1 v F1 A1 H1 _ s1 g1 rx p1 => ?_)
  obtain ⟨src, e, k⟩ := p1.ofO
  unfold srcN at e
  split at e
  · cases e
    cases rx with
    | lst h1 h2 => exact ⟨_, _, rfl, g1.ex.l h1, k _ F1 A1 H1 Stp.refl g1 (itR_enum h1 h2)⟩
  · obtain ⟨q, eq, rfl⟩ := rx
    split at e
    · rename_i p xs e2
      cases e
      obtain ⟨_, vs, h1, _⟩ := g1.ob _ _ _ eq e2
      exact ⟨_, vs, rfl, .inl (.inl h1), k _ F1 A1 H1 Stp.refl g1 (itR_enumP eq)⟩
    · cases e
  · cases e
theorem ej_zip (ha : ∀ ρ S, EvE K mg Wx ta ρ S (evE Φ a ρ S)) (hb : ∀ ρ S, EvE K mg Wx tb ρ S (evE Φ b ρ S)) : EvJ K mg Wx (iZip K (tCons ta (tCons tb tNil))) ρ S (evI Φ (.itZ a b) ρ S) := by
  intro σ F A H g rr Q p
  unfold evI at p
  refine ha ρ S σ F A H g rr _ (p.bind fun x S1 v F1 A1 H1 _ s1 g1 rx p1 => ?_)
  refine hb ρ S1 σ F1 A1 H1 g1 (rr.mono s1) _ (p1.bind fun y S2 u F2 A2 H2 _ s2 g2 ry p2 => ?_)
  split at p2
  · cases rx with
    | lst h1 h2 =>
      cases ry with
      | lst h3 h4 =>
        exact ⟨_, _, _, _, rfl, g2.ex.l (s2.exF.l h1), g2.ex.l h3, p2 _ F2 A2 H2 Stp.refl g2 (itR_zip (s2.exF.l h1) (Rps.mono s2.exF h2) h3 h4)⟩
  · exact p2.elim

/-! ### a list that is being made, beside -/
theorem Good.addD {D : Addr} {o : HO} (g : Good K F A S H) (h : H D = none) : Good K F A S (upd H D o) := by
  have hF : F D = none := by
    cases q : F D with
    | none => rfl
    | some u => rw [g.ex D u q] at h; cases h
  have hA : ∀ a ∈ A, a ≠ D := fun a ha e => g.inH a ha (e ▸ h)
  refine ⟨g.len, g.nd, fun b u e => ?_, fun a ha => ?_, fun q a mo e1 e2 => ?_⟩
  · rw [upd_ne (ne_of_none e hF)]
    exact g.ex b u e
  · rw [upd_ne (hA a ha)]
    exact g.inH a ha
  · have ha := hA a (List.mem_of_getElem? e1)
    have m := g.ob q a mo e1 e2
    cases mo with
    | dead => trivial
    | lst xs =>
      obtain ⟨m1, vs, m2, m3⟩ := m
      exact ⟨m1, vs, by rw [upd_ne ha]; exact m2, m3⟩
theorem Stp.subD {D : Addr} {o : HO} {A0 : List Addr} (g0 : Good K F A S H) (h : H D = none) (s : Stp F A (upd H D o) F' A' H') {S' : Sto} (g : Good K F' A' S' H') :
    ∃ Hm, H' = upd Hm D o ∧ Hm D = none ∧ Stp F A H F' A' Hm ∧ Good K F' A' S' Hm := by
  have hF : F D = none := by
    cases q : F D with
    | none => rfl
    | some u => rw [g0.ex D u q] at h; cases h
  have hA : D ∉ A := fun e => g0.inH D e h
  have hA' : D ∉ A' := fun e => by
    rcases s.nA D e with z | z
    · exact hA z
    · rw [upd_same] at z; cases z
  have hF' : F' D = none := by
    cases q : F' D with
    | none => rfl
    | some u =>
      rcases s.nF D hF (by rw [q]; simp) with z | z
      · exact absurd z hA
      · rw [upd_same] at z; cases z
  have hD : H' D = some o := s.fr D o upd_same hA
  refine ⟨fun b => if b = D then none else H' b, ?_, if_pos rfl, ⟨s.exF, s.exA, fun b u e hn => ?_, fun b hb => ?_, fun b hb => ?_, fun b h1 h2 => ?_⟩, ⟨g.len, g.nd, fun b u e => ?_, fun a ha => ?_, fun q a mo e1 e2 => ?_⟩⟩
  · funext b
    unfold upd
    split
    · rename_i z; rw [z, hD]
    · rename_i z; exact (if_neg z).symm
  · have hb : b ≠ D := fun z => by rw [z, h] at e; cases e
    show (if b = D then none else H' b) = _
    rw [if_neg hb]
    exact s.fr b u (by rw [upd_ne hb]; exact e) hn
  · have hb' : b ≠ D := fun z => hb (by rw [z, h])
    show (if b = D then none else H' b) ≠ _
    rw [if_neg hb']
    exact s.kp b (by rw [upd_ne hb']; exact hb)
  · rcases s.nA b hb with z | z
    · exact .inl z
    · have hb' : b ≠ D := fun q => hA' (q ▸ hb)
      rw [upd_ne hb'] at z
      exact .inr z
  · rcases s.nF b h1 h2 with z | z
    · exact .inl z
    · have hb' : b ≠ D := fun q => by rw [q, upd_same] at z; cases z
      rw [upd_ne hb'] at z
      exact .inr z
  · have hb' : b ≠ D := fun q => by rw [q, hF'] at e; cases e
    show (if b = D then none else H' b) = _
    rw [if_neg hb']
    exact g.ex b u e
  · have hb' : a ≠ D := fun q => hA' (q ▸ ha)
    show (if a = D then none else H' a) ≠ _
    rw [if_neg hb']
    exact g.inH a ha
  · have hb' : a ≠ D := fun q => hA' (q ▸ List.mem_of_getElem? e1)
    have m := g.ob q a mo e1 e2
    cases mo with
    | dead => trivial
    | lst xs =>
      obtain ⟨m1, vs, m2, m3⟩ := m
      exact ⟨m1, vs, by show (if a = D then none else H' a) = _; rw [if_neg hb']; exact m2, m3⟩
theorem PostN.step {r : R W} {Q : VK} (s : Stp F A H F' A' H') (p : PostN K mg Wx σ F A H r Q) : PostN K mg Wx σ F' A' H' r Q := by
  cases r with
  | ok w S' => exact ThenN.step s p
  | exc x S' => exact fun cls d F2 A2 H2 s2 g x => p cls d F2 A2 H2 (s.trans s2) g x
  | err => exact p
def NoX : WX := fun _ _ _ _ => False
theorem ev_lc {wi : TI} {g : TG} {tt : TT} {own : List Nat} {tg it ts e : M} (hi : ∀ ρ S, EvJ K mg Wx wi ρ S (evI Φ it ρ S)) (hg : EvG K g tg) (ho : ∀ i ∈ tgS tg, i ∈ own)
    (ht : ∀ ρ S, EvT K mg NoX tt ρ S (evT Φ ts ρ S)) (he : ∀ ρ S, EvE K mg NoX te ρ S (evE Φ e ρ S)) : EvN K mg Wx (tLc wi g tt te own) ρ S (evE Φ (.lc own tg it ts e) ρ S) := by
  intro σ F A H gd rr Q p
  unfold evE at p
  refine hi ρ S σ F A H gd rr _ ?_
  cases ei : evI Φ it ρ S with
  | err => rw [ei] at p; exact p
  | exc x S' => rw [ei] at p; exact p
  | ok src S1 =>
    rw [ei] at p
    have p' : PostN K mg Wx σ F A H (lcGo src.g (fun x S2 => bindT S2 tg x (wipeR ρ own)) (fun ρ' S2 => evT Φ ts ρ' S2) (fun ρ' S2 => evE Φ e ρ' S2) src.xs S1 []) Q := p
    clear p
    intro J F1 A1 H1 s1 g1 ij D hD
    generalize hbt : (fun x S2 => bindT S2 tg x (wipeR ρ own)) = bt at p'
    generalize htst : (fun ρ' S2 => evT Φ ts ρ' S2) = tst at p'
    generalize hel : (fun ρ' S2 => evE Φ e ρ' S2) = el at p'
    refine ⟨fun i m Hh => ∃ F2 A2 S2 Hm acc ds, Hh = upd Hm D (.lst acc) ∧ Hm D = none ∧ Good K F2 A2 S2 Hm ∧ Stp F1 A1 H1 F2 A2 Hm ∧ Rps K F2 acc ds ∧ m + i = src.xs.length ∧ PostN K mg Wx σ F A H (lcGo src.g bt tst el (src.xs.drop i) S2 ds) Q,
      ⟨src.xs.length, F1, A1, S1, H1, [], [], rfl, hD, g1, Stp.refl, .nil, rfl, p'⟩, ?_⟩
    rintro i m Hh ⟨F2, A2, S2, Hm, acc, ds, rfl, hm, g2, s2, ra, hmi, p2⟩
    have s02 := s1.trans s2
    have rr2 := rr.mono s02
    have gD := g2.addD (o := .lst acc) hm
    cases hd : src.xs.drop i with
    | nil =>
      rw [hd] at p2
      have hi : src.xs.length ≤ i := List.drop_eq_nil_iff.mp hd
      unfold lcGo at p2
      split at p2
      · rename_i hgd
        refine .inl ⟨(ij F2 A2 S2 _ s2.exF s2.exA gD hgd).2 i hi, ?_⟩
        exact ThenN.lst (ThenN.step s02 p2) g2 ra hm
      · exact p2.elim
    | cons x xs =>
      rw [hd] at p2
      have hx : src.xs[i]? = some x := by
        have := congrArg (fun l => l[0]?) hd
        simpa using this
      have hdr : src.xs.drop (i + 1) = xs := by
        have h1 : (src.xs.drop i).drop 1 = xs := by rw [hd]; rfl
        rw [List.drop_drop] at h1
        exact h1
      have hil : i < src.xs.length := (List.getElem?_eq_some_iff.mp hx).1
      unfold lcGo at p2
      split at p2
      case isFalse => exact p2.elim
      rename_i hgd
      obtain ⟨jg, jy⟩ := (ij F2 A2 S2 _ s2.exF s2.exA gD hgd).1 i x hx
      refine .inr ⟨jg, fun H' => ∃ m', m' < m ∧ ∃ F2 A2 S2 Hm acc ds, H' = upd Hm D (.lst acc) ∧ Hm D = none ∧ Good K F2 A2 S2 Hm ∧ Stp F1 A1 H1 F2 A2 Hm ∧ Rps K F2 acc ds ∧ m' + (i + 1) = src.xs.length ∧ PostN K mg Wx σ F A H (lcGo src.g bt tst el (src.xs.drop (i + 1)) S2 ds) Q, fun H' h => h, fun v H3 hy => ?_⟩
      obtain ⟨F3, s3, g3, rv⟩ := jy v H3 hy
      obtain ⟨Hm3, rfl, hm3, s3', g3'⟩ := Stp.subD (A0 := []) g2 hm s3 g3
      split at p2
      case h_2 => exact p2.elim
      rename_i ρ1 hb
      rw [← hbt] at hb
      refine hg _ F3 A2 S2 _ g3 x v (wipeR ρ own) ρ1 (RhoR.wipe own (rr2.mono s3)) rv hb _ fun σ2 rr4 wp => ⟨?_, ?_⟩
      · rw [wp own ho, wipe_wipe own own fun _ h => h]
      refine ht ρ1 S2 σ2 F3 A2 _ g3 rr4 _ ?_
      have htst' : evT Φ ts ρ1 S2 = tst ρ1 S2 := by rw [← htst]
      rw [htst']
      cases et : tst ρ1 S2 with
      | err => rw [et] at p2; exact p2.elim
      | exc _ _ => rw [et] at p2; exact p2.elim
      | ok c S4 =>
        rw [et] at p2
        intro c' F4 A4 H4 s4 g4 rc
        cases rc
        obtain ⟨Hm4, rfl, hm4, s4', g4'⟩ := Stp.subD (A0 := []) g3' hm3 s4 g4
        cases c with
        | false =>
          rw [if_neg Bool.false_ne_true]
          exact ⟨m - 1, by omega, F4, A4, S4, Hm4, acc, ds, rfl, hm4, g4', s2.trans (s3'.trans s4'), Rps.mono (s3'.exF.trans s4'.exF) ra, by omega, by rw [hdr]; exact p2⟩
        | true =>
          rw [if_pos rfl]
          have hel' : evE Φ e ρ1 S4 = el ρ1 S4 := by rw [← hel]
          refine he ρ1 S4 σ2 F4 A4 _ g4 (rr4.mono s4) _ ?_
          rw [hel']
          have p3 : PostN K mg Wx σ F A H (match el ρ1 S4 with
            | .ok (.d v) S2 => if ds.length < lim then lcGo src.g bt tst el xs S2 (ds ++ [v]) else .err
            | _ => .err) Q := p2
          cases ee : el ρ1 S4 with
          | err => rw [ee] at p3; exact p3.elim
          | exc _ _ => rw [ee] at p3; exact p3.elim
          | ok w S5 =>
            rw [ee] at p3
            cases w with
            | ptr _ => exact p3.elim
            | exn _ => exact p3.elim
            | d y =>
              intro z F5 A5 H5 s5 g5 rz
              obtain ⟨Hm5, rfl, hm5, s5', g5'⟩ := Stp.subD (A0 := []) g4' hm4 s5 g5
              have p4 : PostN K mg Wx σ F A H (if ds.length < lim then lcGo src.g bt tst el xs S5 (ds ++ [y]) else .err) Q := p3
              split at p4
              case isFalse => exact p4.elim
              rename_i hl
              refine ⟨acc, upd_same, lim_line_lt (by rw [ra.length]; exact hl), m - 1, by omega, F5, A5, S5, Hm5, acc ++ [z], ds ++ [y], upd_upd, hm5, g5', s2.trans (s3'.trans (s4'.trans s5')), (Rps.mono (s3'.exF.trans (s4'.exF.trans s5'.exF)) ra).append (.cons rz .nil), by omega, by rw [hdr]; exact p4⟩
end
end Mi

/-! MiI: the context, what a def promises, calls. -/
namespace Mi
open PySem PySem.Spec PyProof.Rows L2

/-- a default, as a value -/
def dV : PyData → V
  | .none => .non
  | .bool b => .bl b
  | .int i => .int i
  | .str s => .str s
  | _ => .non
def dOk : PyData → Bool
  | .none => true
  | .bool _ => true
  | .int _ => true
  | .str _ => true
  | _ => false
/-- a def's promise, by the interpreter -/
def spW (K : PySem.W.Frag) (mg : Str → Option Value) (fn : Fn) (g : List W → Sto → R W) : Sp := fun vs H Q E =>
  vs.length = fn.ps.length ∧ ∃ F A S ws, Good K F A S H ∧ WRs K F A ws vs ∧ Post K mg (fun cls d _ H' => E cls d H') [] (WR K) F A H (g ws S) Q
structure Sok (K : PySem.W.Frag) (mg : Str → Option Value) (C : Ci) (Φ : Phi) (k : Nat) (X : Cx) : Prop where
  gI : ∀ x j, (x, j) ∈ C.gI → ∃ u, X.mg x = some u ∧ RelV (.int j) u
  gS : ∀ x j, (x, j) ∈ C.gS → ∃ u, X.mg x = some u ∧ RelV (.str j) u
  gF : ∀ x ∈ C.gF, X.mg x = none
  fns : ∀ (f : Nat) (fn : Fn), C.T[f]? = some fn → ∃ a fd, X.mg fn.name = some (.ref a) ∧ PySem.W.keepIn X.K (.ref a) = true ∧ FnOk X.prog X.w X.K X.mg X.base (L2.CX X.prog X.w) k a fd fn.ps (spW K mg fn (Φ f)) ∧
    ∀ j, ∃ ds, Vals ((fn.dv.drop j).map dV) ds ∧ Binds X.K fd fn.ps ds
/-- what the interpreter has of the defs -/
structure Tok (C : Ci) (Φ : Phi) : Prop where
  dv : ∀ (f : Nat) (fn : Fn), C.T[f]? = some fn → fn.dv.all dOk = true
  idem : ∀ (f : Nat) (fn : Fn) (ws : List W) (S : Sto), C.T[f]? = some fn → Φ f ws S = .err ∨ ((withD fn ws).length = fn.ps.length ∧ Φ f (withD fn ws) S = Φ f ws S)
structure Cok (K : PySem.W.Frag) (mg : Str → Option Value) (C : Ci) (Φ : Phi) (k : Nat) (Wx : WX) (sn : Sn) (X : Cx) : Prop where
  hK : X.K = K
  hm : X.mg = mg
  hN : X.N = C.N
  nd : C.N.Nodup
  calm : X.calm = true
  room : Room k X.A
  vis : ∀ x, isVis sn x = true → Vis X.env.scope x
  loc : ∀ x, isLoc sn x = true → Loc X.env.scope x ∧ (X.fn x = true ∨ X.env.scope.names.lookup x = some .local)
  lcl : ∀ x, isLcl sn x = true → X.env.scope.names.lookup x = some .local
  gl : ∀ x, isGl sn x = true → Gl X x
  cl : ∀ x, (sn.lookup x = some .cell ∨ sn.lookup x = some .free) → (X.env.scope.names.lookup x = some .cell ∨ X.env.scope.names.lookup x = some .free)
  tk : Takes X Wx
  st : Sok K mg C Φ k X
section
variable {K : PySem.W.Frag} {mg : Str → Option Value} {C : Ci} {Φ : Phi} {k : Nat} {Wx : WX} {sn : Sn} {X : Cx}
theorem Cok.cnd (c : Cok K mg C Φ k Wx sn X) : Cnd K X := ⟨c.hK, by have := c.room.un; omega, c.calm⟩
theorem lookup_rel_free {sc : Scope} : ∀ {names : List (Str × NameKind)} {x : Str}, names.lookup x = some .free →
    (names.map fun (n, k) => if (k == NameKind.free && sc.kind == .function && sc.names.lookup n == some .cell) then (n, NameKind.cell) else (n, k)).lookup x = some .cell ∨
    (names.map fun (n, k) => if (k == NameKind.free && sc.kind == .function && sc.names.lookup n == some .cell) then (n, NameKind.cell) else (n, k)).lookup x = some .free
  | [], _, h => by simp at h
  | (n, k₀) :: r, x, h => by
    have ih := @lookup_rel_free sc r x
    show List.lookup x ((if (k₀ == NameKind.free && sc.kind == .function && sc.names.lookup n == some .cell) = true then (n, NameKind.cell) else (n, k₀)) :: (r.map _)) = _ ∨ List.lookup x ((if (k₀ == NameKind.free && sc.kind == .function && sc.names.lookup n == some .cell) = true then (n, NameKind.cell) else (n, k₀)) :: (r.map _)) = _
    cases hx : x == n with
    | true =>
      simp only [List.lookup_cons, hx] at h
      cases h
      split
      · exact .inl (by simp only [List.lookup_cons, hx])
      · exact .inr (by simp only [List.lookup_cons, hx])
    | false =>
      simp only [List.lookup_cons, hx] at h
      split
      · simp only [List.lookup_cons, hx]; exact ih h
      · simp only [List.lookup_cons, hx]; exact ih h
theorem isLcl_eq {x : Str} (h : isLcl sn x = true) : sn.lookup x = some .local := by
  unfold isLcl at h
  split at h
  · assumption
  · cases h
theorem isLoc_eq {x : Str} (h : isLoc sn x = true) : sn.lookup x = some .local ∨ sn.lookup x = some .cell := by
  unfold isLoc at h
  split at h
  · exact .inl (by assumption)
  · exact .inr (by assumption)
  · cases h
theorem isVis_eq {x : Str} (h : isVis sn x = true) : sn.lookup x = some .local ∨ sn.lookup x = some .cell ∨ sn.lookup x = some .free := by
  unfold isVis at h
  split at h
  · exact .inl (by assumption)
  · exact .inr (.inl (by assumption))
  · exact .inr (.inr (by assumption))
  · cases h
theorem isGl_eq {x : Str} (h : isGl sn x = true) : sn.lookup x = some .globalImplicit := by
  unfold isGl at h
  split at h
  · assumption
  · cases h
theorem Cok.blk (c : Cok K mg C Φ k Wx sn X) (scope : Scope) (s : Shared) (H : Hp) (Ca : Addr) (cl : List (Str × Addr)) (fp : List Addr) : Cok K mg C Φ k NoX scope.names (X.blk s H scope (compEnvC scope cl Ca X.env) fp) where
  hK := c.hK
  hm := c.hm
  hN := c.hN
  nd := c.nd
  calm := c.calm
  room := c.room
  vis := fun x h => by
    rcases isVis_eq h with h | h | h
    · exact .inl (lookup_relS_keep (by decide) h)
    · exact .inr (.inl (lookup_relS_keep (by decide) h))
    · rcases lookup_rel_free (sc := X.env.scope) h with h | h
      · exact .inr (.inl h)
      · exact .inr (.inr h)
  loc := fun x h => by
    rcases isLoc_eq h with h | h
    · exact ⟨.inl (lookup_relS_keep (by decide) h), .inr (lookup_relS_keep (by decide) h)⟩
    · exact ⟨.inr (lookup_relS_keep (by decide) h), .inl (by show (scope.names.lookup x == some NameKind.cell) = true; rw [h]; rfl)⟩
  lcl := fun x h => lookup_relS_keep (by decide) (isLcl_eq h)
  gl := fun x h => lookup_relS_keep (by decide) (isGl_eq h)
  cl := fun x h => by
    rcases h with h | h
    · exact .inl (lookup_relS_keep (by decide) h)
    · exact lookup_rel_free (sc := X.env.scope) h
  tk := fun u s' ⟨_, _, _, _, _, _, _, _, _, _, _, _, _, _, _, _, w⟩ => w.elim
  st := ⟨c.st.gI, c.st.gS, c.st.gF, c.st.fns⟩
theorem Cok.blkOk (c : Cok K mg C Φ k Wx sn X) {scope : Scope} {own : List (Str × Nat)} {a b : Bool} {l : List (Str × Nat)} {sc : Scope} (hs : sc.names = sn) (h : blkC C.N sc scope own = true) : BlkOk X.N X.env.scope scope own := by
  obtain ⟨h1, h2, h3, h4, h5⟩ := blkOk_by h
  rw [c.hN]
  refine ⟨h1, h2, h3, fun y hy e => ?_, h5⟩
  have := h4 y hy e
  rw [hs] at this
  exact c.cl _ this

/-! ### calls of defs -/
theorem wrs_dv : ∀ {ds : List PyData} {F : Hp} {A : List Addr}, ds.all dOk = true → WRs K F A (ds.map .d) (ds.map dV)
  | [], _, _, _ => trivial
  | d :: ds, F, A, h => by
    rw [List.all_cons, Bool.and_eq_true] at h
    refine ⟨?_, wrs_dv h.2⟩
    cases d with
    | none => exact .non
    | bool b => exact .bl b
    | int i => exact .int i
    | str s => exact .str s
    | list _ => cases h.1
    | tuple _ => cases h.1
    | dict _ => cases h.1
theorem WRs.append {F : Hp} {A : List Addr} : ∀ {ws us : List W} {vs xs : List V}, WRs K F A ws vs → WRs K F A us xs → WRs K F A (ws ++ us) (vs ++ xs)
  | [], _, [], _, _, h => h
  | _ :: _, _, _ :: _, _, h, h' => ⟨h.1, WRs.append h.2 h'⟩
  | [], _, _ :: _, _, h, _ => h.elim
  | _ :: _, _, [], _, h, _ => h.elim
theorem all_drop {p : PyData → Bool} {l : List PyData} (h : l.all p = true) (j : Nat) : (l.drop j).all p = true := by
  rw [List.all_eq_true] at h ⊢
  exact fun x hx => h x (List.mem_of_mem_drop hx)
theorem Post.nilσ {α β : Type} {Rel : Hp → List Addr → α → β → Prop} {σ σ' : L2.St} {F : Hp} {A : List Addr} {H : Hp} {r : R α} {Q : β → Hp → Prop} {E : XK} (p : Post K mg (fun cls d _ H' => E cls d H') σ Rel F A H r Q) : Post K mg (fun cls d _ H' => E cls d H') σ' Rel F A H r Q := by
  cases r with
  | ok a S => exact p
  | exc x S => exact p
  | err => exact p
theorem Post.wx {α β : Type} {Rel : Hp → List Addr → α → β → Prop} {σ σ' : L2.St} {F : Hp} {A : List Addr} {H : Hp} {r : R α} {Q : β → Hp → Prop} (p : Post K mg Wx σ Rel F A H r Q) : Post K mg (fun cls d _ H' => Wx cls d σ H') σ' Rel F A H r Q := by
  cases r with
  | ok a S => exact p
  | exc x S => exact p
  | err => exact p
def sCall (K : PySem.W.Frag) (mg : Str → Option Value) (fn : Fn) (g : List W → Sto → R W) (n : Nat) : Sp × List V := (spW K mg fn g, (fn.dv.drop (fn.dv.length - (fn.ps.length - n))).map dV)
theorem ev_call {f : Nat} {fn : Fn} {as : M} {tl : TA} {ρ : Rho} {S : Sto} (hf : C.T[f]? = some fn) (hdv : fn.dv.all dOk = true) (hi : ∀ ws S, Φ f ws S = .err ∨ ((withD fn ws).length = fn.ps.length ∧ Φ f (withD fn ws) S = Φ f ws S))
    (hl : ∀ ρ S, EvA K mg Wx tl ρ S (evA Φ as ρ S)) : EvE K mg Wx (tCallSD (spW K mg fn (Φ f)) ((fn.dv.drop (fn.dv.length - (fn.ps.length - cntA as))).map dV) (WE Wx) tl) ρ S (evE Φ (.call f as) ρ S) := by
  intro σ F A H g rr Q p
  unfold evE at p
  refine hl ρ S σ F A H g rr _ (p.bind fun ws S1 vs F1 A1 H1 e1 s1 g1 rs p1 => ?_)
  rcases hi ws S1 with e | ⟨e2, e3⟩
  · rw [e] at p1
    exact p1.elim
  · have hn := ea_len e1
    have hw : WRs K F1 A1 (withD fn ws) (vs ++ (fn.dv.drop (fn.dv.length - (fn.ps.length - cntA as))).map dV) := by
      unfold withD
      rw [hn]
      exact rs.append (wrs_dv (all_drop hdv _))
    refine ⟨by rw [← hw.length, e2], F1, A1, S1, withD fn ws, g1, hw, ?_⟩
    rw [e3]
    exact p1.wx
theorem pe_callSD0 {X : Cx} {CX : CXT} {k : Nat} {f : Addr} {fd : FuncData} {ps : List Str} {sp : Sp} {dvs : List V} {ds : List Value} {E : L2.St → XK} {x : Str} {p pos : Pos} (F : FnOk X.prog X.w X.K X.mg X.base CX k f fd ps sp) (hr : Room k X.A) (hg : Gl X x) (hm : X.mg x = some (.ref f)) (hk : PySem.W.keepIn X.K (.ref f) = true) (hb : Binds X.K fd ps ds) (hd : Vals dvs ds) (hx : ∀ σ, PassesAt CX X σ (E σ))
    (hdb : (x == ("__debug__" : Str)) = false := by decide) : PE X (.Call (.Name x p) [] [] pos) (tCallSD sp dvs E tNil) := by
  refine ⟨fun pins s σ H Q I h => ?_⟩
  refine wpAny_Call_Name_kw (ld_glob I hg hm ?_ hdb)
  exact PySem.W.callWith_K0 I.kIn hk (run_fnSD (us := []) F hr hb hd (hx σ) I .nil h)
/-- no star among the arguments -/
theorem star_of {e : Expr} {es : List Expr} {env : Env} (h : unst e = true) : starEach (e :: es) env = (false, eval e env) :: starEach es env := by
  cases e <;> first | rfl | cases h
theorem plain_of {env : Env} {pos : Pos} : ∀ {es : List Expr}, es.all unst = true → (backTo pos (starEach es env)).any (·.1) = false
  | [], _ => rfl
  | e :: es, h => by
    rw [List.all_cons, Bool.and_eq_true] at h
    rw [star_of h.1]
    have := plain_of (env := env) (pos := pos) h.2
    show (false || (backTo pos (starEach es env)).any (·.1)) = false
    rw [this]
    rfl
theorem plainAll_of {env : Env} {pos : Pos} : ∀ {es : List Expr}, es.all unst = true → (backTo pos (starEach es env)).all (fun x => !x.1) = true
  | [], _ => rfl
  | e :: es, h => by
    rw [List.all_cons, Bool.and_eq_true] at h
    rw [star_of h.1]
    have := plainAll_of (env := env) (pos := pos) h.2
    show (true && (backTo pos (starEach es env)).all (fun x => !x.1)) = true
    rw [this]
    rfl
theorem ckA_unst : ∀ {as : M} {es : List Expr}, ckA C as sn es = true → es.all unst = true ∧ es.length = cntA as := by
  intro as
  induction as with
  | anil =>
    intro es h
    unfold ckA at h
    cases es with
    | nil => exact ⟨rfl, rfl⟩
    | cons _ _ => cases h
  | acons a r _ ih =>
    intro es h
    unfold ckA at h
    cases es with
    | nil => cases h
    | cons e es =>
      simp only [Bool.and_eq_true] at h
      obtain ⟨h1, h2⟩ := ih h.2.2
      exact ⟨by rw [List.all_cons, h.1, h1]; rfl, congrArg Nat.succ h2⟩
  | _ => intro es h; cases h
theorem base_of {o : Expr} {name : Str} {env : Env} {whole : Sem Value} (h : notCall o = true) : attributeBase o name env whole = whole := by
  cases o <;> first | rfl | cases h
theorem fold_of {e : Expr} {env : Env} (h : notSet e = true) : ∀ x, foldedSetIterable e env x = pure x := by
  intro x
  cases e <;> first | rfl | cases h
theorem plainIx_of {b : Expr} (h : notSl b = true) : PlainIx b := by
  intro o i
  cases b <;> first | rfl | cases h
theorem behind_of {op : CmpOp} {b : Expr} (h : notSet b = true) : behindInMarks op b = false := by
  cases b <;> first | rfl | cases h
theorem last_of {op op' : CmpOp} {b c : Expr} (h : notSet c = true) : lastMarks [op, op'] [b, c] = false := behind_of h
theorem slot_mt (k : Mt) : ∃ id, Slot (mtT k) (mtName k) id ∧ typeOf (.builtin id) = pure (.type "method_descriptor") ∧ MtS K id (mt k) := by
  cases k with
  | append => exact ⟨_, slot_list_append, rfl, ms_append⟩
  | split => exact ⟨_, F.slot_str_split, rfl, ms_split⟩
  | partition => exact ⟨_, F.slot_str_partition, rfl, ms_partition⟩
  | join => exact ⟨_, F.slot_str_join, rfl, ms_join⟩
theorem attrs_mt (k : Mt) : PlainAttrs (mtT k) := by
  cases k with
  | append => exact F.plainAttrs_list
  | split => exact F.plainAttrs_str
  | partition => exact F.plainAttrs_str
  | join => exact F.plainAttrs_str
end
end Mi

/-! MiJ: expressions that pass the check do what the interpreter says. -/
namespace Mi
open PySem PySem.Spec PyProof.Rows L2

section
variable (K : PySem.W.Frag) (mg : Str → Option Value) (C : Ci) (Φ : Phi) (k : Nat)
def DE (Wx : WX) (sn : Sn) (e : Expr) (m : M) : Prop := ∃ t, (∀ X, Cok K mg C Φ k Wx sn X → PE X e t) ∧ ∀ ρ S, EvE K mg Wx t ρ S (evE Φ m ρ S)
def DN (Wx : WX) (sn : Sn) (e : Expr) (m : M) : Prop := ∃ t, (∀ X, Cok K mg C Φ k Wx sn X → PE X e t) ∧ ∀ ρ S, EvN K mg Wx t ρ S (evE Φ m ρ S)
def DT (Wx : WX) (sn : Sn) (e : Expr) (m : M) : Prop := ∃ t, (∀ X, Cok K mg C Φ k Wx sn X → PT X e t) ∧ ∀ ρ S, EvT K mg Wx t ρ S (tru (evE Φ m ρ S))
def DW (Wx : WX) (sn : Sn) (e : Expr) (m : M) : Prop := ∃ t, (∀ X, Cok K mg C Φ k Wx sn X → PW X e t) ∧ ∀ ρ S, EvT K mg Wx t ρ S (tru (evE Φ m ρ S))
def DA (Wx : WX) (sn : Sn) (es : List Expr) (m : M) : Prop := ∃ t, (∀ X, Cok K mg C Φ k Wx sn X → PA X es t) ∧ ∀ ρ S, EvA K mg Wx t ρ S (evA Φ m ρ S)
def DO (Wx : WX) (sn : Sn) (o : Option Expr) (m : M) : Prop := ∃ t, (∀ X, Cok K mg C Φ k Wx sn X → PO X o t) ∧ ∀ ρ S, EvO K mg Wx t ρ S (evO Φ m ρ S)
def DTs (Wx : WX) (sn : Sn) (es : List Expr) (m : M) : Prop := ∃ t, (∀ X, Cok K mg C Φ k Wx sn X → PTs X es t) ∧ ∀ ρ S, EvT K mg Wx t ρ S (evT Φ m ρ S)
def DI (Wx : WX) (sn : Sn) (tg e : Expr) (m : M) : Prop := ∃ t, (∀ X, Cok K mg C Φ k Wx sn X → PI X tg e t) ∧ ∀ ρ S, EvJ K mg Wx t ρ S (evI Φ m ρ S)
def DG (Wx : WX) (sn : Sn) (e : Expr) (m : M) : Prop := ∃ t, (∀ X, Cok K mg C Φ k Wx sn X → PG X e t) ∧ EvG K t m
def DGs (Wx : WX) (sn : Sn) (es : List Expr) (m : M) : Prop := ∃ t, (∀ X, Cok K mg C Φ k Wx sn X → PGs X es t) ∧ EvGs K t m
def isBoolE : Expr → Bool
  | .BoolOp _ _ _ => true
  | _ => false
structure Dall (m : M) : Prop where
  e : ∀ Wx sn e, ckE C m sn e = true → DE K mg C Φ k Wx sn e m
  n : ∀ Wx sn e, fresh m = true → ckE C m sn e = true → DN K mg C Φ k Wx sn e m
  t : ∀ Wx sn e, tstOk e = true → ckE C m sn e = true → DT K mg C Φ k Wx sn e m
  w : ∀ Wx sn e, isBoolE e = true → ckE C m sn e = true → DW K mg C Φ k Wx sn e m
  a : ∀ Wx sn es, ckA C m sn es = true → DA K mg C Φ k Wx sn es m
  o : ∀ Wx sn o, ckO C m sn o = true → DO K mg C Φ k Wx sn o m
  ts : ∀ Wx sn es, ckTs C m sn es = true → DTs K mg C Φ k Wx sn es m
  i : ∀ Wx sn tg e, ckI C m sn tg e = true → DI K mg C Φ k Wx sn tg e m
  g : ∀ Wx sn e, ckG C m sn e = true → DG K mg C Φ k Wx sn e m
  gs : ∀ Wx sn es, ckGs C m sn es = true → DGs K mg C Φ k Wx sn es m
end
section
variable {K : PySem.W.Frag} {mg : Str → Option Value} {C : Ci} {Φ : Phi} {k : Nat} {Wx : WX} {sn : Sn} {X : Cx}
theorem DN.de {e : Expr} {m : M} (h : DN K mg C Φ k Wx sn e m) : DE K mg C Φ k Wx sn e m := ⟨h.choose, h.choose_spec.1, fun ρ S => (h.choose_spec.2 ρ S).ev⟩
theorem DW.dt {e : Expr} {m : M} (h : DW K mg C Φ k Wx sn e m) : DT K mg C Φ k Wx sn e m := ⟨h.choose, fun X c => (h.choose_spec.1 X c).pt, h.choose_spec.2⟩
theorem isTrue_plain {e : Expr} {env : Env} (h : plainT e = true) : ∀ whole, isTrue e env whole = (do let v ← whole; standAt e.pos; holding [v] (truthy v)) := by
  intro whole
  cases e <;> first | rfl | cases h
theorem DE.dt {e : Expr} {m : M} (h : DE K mg C Φ k Wx sn e m) (hp : plainT e = true) : DT K mg C Φ k Wx sn e m :=
  ⟨tB h.choose, fun X c => pt_val (h.choose_spec.1 X c) (isTrue_plain hp), fun ρ S => ev_test h.choose_spec.2⟩
theorem okN_d {x : Str} (h : okN x = true) : (x == ("__debug__" : Str)) = false ∧ (x == ("__classdict__" : Str)) = false := by
  unfold okN at h
  simp only [Bool.and_eq_true, Bool.not_eq_true'] at h
  exact h
/-- a form that only stands as an expression -/
theorem Dall.mk1 {m : M} (he : ∀ Wx sn e, ckE C m sn e = true → DE K mg C Φ k Wx sn e m) (hn : ∀ Wx sn e, fresh m = true → ckE C m sn e = true → DN K mg C Φ k Wx sn e m)
    (ht : ∀ Wx sn e, tstOk e = true → ckE C m sn e = true → DT K mg C Φ k Wx sn e m) (hw : ∀ Wx sn e, isBoolE e = true → ckE C m sn e = true → DW K mg C Φ k Wx sn e m)
    (ha : ∀ sn es, ckA C m sn es = false) (ho : ∀ sn o, ckO C m sn o = false) (hts : ∀ sn es, ckTs C m sn es = false) (hi : ∀ sn tg e, ckI C m sn tg e = false) (hg : ∀ sn e, ckG C m sn e = false) (hgs : ∀ sn es, ckGs C m sn es = false) : Dall K mg C Φ k m where
  e := he
  n := hn
  t := ht
  w := hw
  a := fun _ _ _ h => by rw [ha] at h; cases h
  o := fun _ _ _ h => by rw [ho] at h; cases h
  ts := fun _ _ _ h => by rw [hts] at h; cases h
  i := fun _ _ _ _ h => by rw [hi] at h; cases h
  g := fun _ _ _ h => by rw [hg] at h; cases h
  gs := fun _ _ _ h => by rw [hgs] at h; cases h
/-- a form whose test is its value's truth -/
theorem Dall.mk2 {m : M} (he : ∀ Wx sn e, ckE C m sn e = true → DE K mg C Φ k Wx sn e m) (hn : ∀ Wx sn e, fresh m = true → ckE C m sn e = true → DN K mg C Φ k Wx sn e m)
    (hp : ∀ sn e, ckE C m sn e = true → plainT e = true)
    (ha : ∀ sn es, ckA C m sn es = false) (ho : ∀ sn o, ckO C m sn o = false) (hts : ∀ sn es, ckTs C m sn es = false) (hi : ∀ sn tg e, ckI C m sn tg e = false) (hg : ∀ sn e, ckG C m sn e = false) (hgs : ∀ sn es, ckGs C m sn es = false) : Dall K mg C Φ k m :=
  .mk1 he hn (fun Wx sn e _ h => (he Wx sn e h).dt (hp sn e h)) (fun Wx sn e hb h => by
    have := hp sn e h
    cases e <;> first | (cases this; done) | (cases hb; done)) ha ho hts hi hg hgs
variable {ta tb te : TE} {tl : TA}
theorem d_var (i : Nat) : Dall K mg C Φ k (.var i) := by
  refine .mk2 (fun Wx sn e h => ?_) (fun _ _ _ h => by cases h) (fun sn e h => ?_) (fun _ _ => rfl) (fun _ _ => rfl) (fun _ _ => rfl) (fun _ _ _ => rfl) (fun _ _ => rfl) (fun _ _ => rfl)
  · unfold ckE at h
    split at h
    · simp only [Bool.and_eq_true, decide_eq_true_eq] at h
      obtain ⟨h1, h2, h3⟩ := h
      exact ⟨_, fun X c => pe_var (by rw [c.hN]; exact h1) (c.vis _ h2) (okN_d h3).1 (okN_d h3).2, fun ρ S => ev_var⟩
    · cases h
  · unfold ckE at h
    split at h
    · rfl
    · cases h
theorem d_int (j : Int) : Dall K mg C Φ k (.int j) := by
  refine .mk2 (fun Wx sn e h => ?_) (fun _ _ _ h => by cases h) (fun sn e h => ?_) (fun _ _ => rfl) (fun _ _ => rfl) (fun _ _ => rfl) (fun _ _ _ => rfl) (fun _ _ => rfl) (fun _ _ => rfl)
  · unfold ckE at h
    split at h
    · simp only [decide_eq_true_eq] at h
      subst h
      exact ⟨_, fun X c => pe_int, fun ρ S => ev_const (.int _)⟩
    · cases h
  · unfold ckE at h
    split at h
    · rfl
    · cases h
theorem d_str (j : Str) : Dall K mg C Φ k (.str j) := by
  refine .mk2 (fun Wx sn e h => ?_) (fun _ _ _ h => by cases h) (fun sn e h => ?_) (fun _ _ => rfl) (fun _ _ => rfl) (fun _ _ => rfl) (fun _ _ _ => rfl) (fun _ _ => rfl) (fun _ _ => rfl)
  · unfold ckE at h
    split at h
    · simp only [decide_eq_true_eq] at h
      subst h
      exact ⟨_, fun X c => pe_str, fun ρ S => ev_const (.str _)⟩
    · cases h
  · unfold ckE at h
    split at h
    · rfl
    · cases h
theorem d_bl (j : Bool) : Dall K mg C Φ k (.bl j) := by
  refine .mk2 (fun Wx sn e h => ?_) (fun _ _ _ h => by cases h) (fun sn e h => ?_) (fun _ _ => rfl) (fun _ _ => rfl) (fun _ _ => rfl) (fun _ _ _ => rfl) (fun _ _ => rfl) (fun _ _ => rfl)
  · unfold ckE at h
    split at h
    · rw [beq_iff_eq] at h
      subst h
      exact ⟨_, fun X c => pe_bl, fun ρ S => ev_const (.bl _)⟩
    · cases h
  · unfold ckE at h
    split at h
    · rfl
    · cases h
theorem d_non : Dall K mg C Φ k .non := by
  refine .mk2 (fun Wx sn e h => ?_) (fun _ _ _ h => by cases h) (fun sn e h => ?_) (fun _ _ => rfl) (fun _ _ => rfl) (fun _ _ => rfl) (fun _ _ _ => rfl) (fun _ _ => rfl) (fun _ _ => rfl)
  · unfold ckE at h
    split at h
    · exact ⟨_, fun X c => pe_non, fun ρ S => ev_const .non⟩
    · cases h
  · unfold ckE at h
    split at h
    · rfl
    · cases h
theorem d_gi (x : Str) (j : Int) : Dall K mg C Φ k (.gi x j) := by
  refine .mk2 (fun Wx sn e h => ?_) (fun _ _ _ h => by cases h) (fun sn e h => ?_) (fun _ _ => rfl) (fun _ _ => rfl) (fun _ _ => rfl) (fun _ _ _ => rfl) (fun _ _ => rfl) (fun _ _ => rfl)
  · unfold ckE at h
    split at h
    · simp only [Bool.and_eq_true, decide_eq_true_eq] at h
      obtain ⟨h1, h2, h3, h4⟩ := h
      subst h1
      refine ⟨tC (.int j), fun X c => ?_, fun ρ S => ev_const (.int _)⟩
      obtain ⟨u, hu, hr⟩ := c.st.gI _ _ h3
      exact pe_glob (c.gl _ h2) hu hr (okN_d h4).1
    · cases h
  · unfold ckE at h
    split at h
    · rfl
    · cases h
theorem d_gs (x : Str) (j : Str) : Dall K mg C Φ k (.gs x j) := by
  refine .mk2 (fun Wx sn e h => ?_) (fun _ _ _ h => by cases h) (fun sn e h => ?_) (fun _ _ => rfl) (fun _ _ => rfl) (fun _ _ => rfl) (fun _ _ _ => rfl) (fun _ _ => rfl) (fun _ _ => rfl)
  · unfold ckE at h
    split at h
    · simp only [Bool.and_eq_true, decide_eq_true_eq] at h
      obtain ⟨h1, h2, h3, h4⟩ := h
      subst h1
      refine ⟨tC (.str j), fun X c => ?_, fun ρ S => ev_const (.str _)⟩
      obtain ⟨u, hu, hr⟩ := c.st.gS _ _ h3
      exact pe_glob (c.gl _ h2) hu hr (okN_d h4).1
    · cases h
  · unfold ckE at h
    split at h
    · rfl
    · cases h
theorem bin_ops (o : O2) {op : Operator} (h : binOf o = some op) : OpS K (binaryOp op) (o2 o) := by
  cases o <;> first
    | (cases h; exact ops_add) | (cases h; exact ops_sub) | (cases h; exact ops_mul) | (cases h; exact ops_fdiv) | (cases h; exact ops_mod) | (cases h; exact ops_pow) | cases h
theorem cmp_ops (o : O2) {op : CmpOp} (h : cmpOf o = some op) : OpS K (compareOp op) (o2 o) := by
  cases o <;> first
    | (cases h; exact ops_eq) | (cases h; exact ops_ne) | (cases h; exact ops_lt) | (cases h; exact ops_le) | (cases h; exact ops_gt) | (cases h; exact ops_ge) | (cases h; exact ops_in) | (cases h; exact ops_notin) | (cases h; exact ops_is) | (cases h; exact ops_isnot) | cases h
theorem d_o2 (o : O2) {a b : M} (ia : Dall K mg C Φ k a) (ib : Dall K mg C Φ k b) : Dall K mg C Φ k (.o2 o a b) := by
  have he : ∀ Wx sn e, ckE C (.o2 o a b) sn e = true → DE K mg C Φ k Wx sn e (.o2 o a b) := fun Wx sn e h => by
    unfold ckE at h
    split at h
    · simp only [Bool.and_eq_true] at h
      obtain ⟨h1, h2, h3⟩ := h
      have ho := bin_ops (K := K) o (isOp_eq h1)
      obtain ⟨ta, pa, ea⟩ := ia.e Wx sn _ h2
      obtain ⟨tb, pb, eb⟩ := ib.e Wx sn _ h3
      exact ⟨_, fun X c => pe_op (ho.choose_spec.1 X c.cnd) (pa X c) (pb X c), fun ρ S => ev_o2 ho ea eb⟩
    · simp only [Bool.and_eq_true] at h
      obtain ⟨h1, h0, h2, h3⟩ := h
      have ho := cmp_ops (K := K) o (isCmp_eq h1)
      obtain ⟨ta, pa, ea⟩ := ia.e Wx sn _ h2
      obtain ⟨tb, pb, eb⟩ := ib.e Wx sn _ h3
      exact ⟨_, fun X c => pe_cmpR (ho.choose_spec.1 X c.cnd) (pa X c) (pb X c) (behind_of h0), fun ρ S => ev_o2 ho ea eb⟩
    · cases h
  refine .mk1 he (fun Wx sn e hf h => ?_) (fun Wx sn e ht h => ?_) (fun Wx sn e ht h => ?_) (fun _ _ => rfl) (fun _ _ => rfl) (fun _ _ => rfl) (fun _ _ _ => rfl) (fun _ _ => rfl) (fun _ _ => rfl)
  · cases o <;> first | cases hf | skip
    unfold ckE at h
    split at h
    · simp only [Bool.and_eq_true] at h
      obtain ⟨h1, h2, h3⟩ := h
      have ho := ops_addN (K := K)
      have h1' := isOp_eq h1
      cases h1'
      obtain ⟨ta, pa, ea⟩ := ia.e Wx sn _ h2
      obtain ⟨tb, pb, eb⟩ := ib.e Wx sn _ h3
      exact ⟨_, fun X c => pe_op (ho.choose_spec.1 X c.cnd) (pa X c) (pb X c), fun ρ S => ev_addN ea eb⟩
    · simp only [Bool.and_eq_true] at h
      cases isCmp_eq h.1
    · cases h
  · have h' := h
    unfold ckE at h
    split at h
    · exact (he Wx sn _ h').dt rfl
    · simp only [Bool.and_eq_true] at h
      obtain ⟨h1, h0, h2, h3⟩ := h
      have ho := cmp_ops (K := K) o (isCmp_eq h1)
      obtain ⟨ta, pa, ea⟩ := ia.e Wx sn _ h2
      obtain ⟨tb, pb, eb⟩ := ib.e Wx sn _ h3
      exact ⟨_, fun X c => pt_cmpR (ho.choose_spec.1 X c.cnd) (pa X c) (pb X c) (behind_of h0), fun ρ S => ev_test fun ρ S => ev_o2 ho ea eb⟩
    · cases h
  · unfold ckE at h
    split at h <;> first | cases ht | cases h
theorem d_ch (o o' : O2) {a b d : M} (ia : Dall K mg C Φ k a) (ib : Dall K mg C Φ k b) (id : Dall K mg C Φ k d) : Dall K mg C Φ k (.ch o o' a b d) := by
  refine .mk1 (fun Wx sn e h => ?_) (fun _ _ _ h => by cases h) (fun Wx sn e ht h => ?_) (fun Wx sn e ht h => ?_) (fun _ _ => rfl) (fun _ _ => rfl) (fun _ _ => rfl) (fun _ _ _ => rfl) (fun _ _ => rfl) (fun _ _ => rfl)
  · unfold ckE at h
    split at h
    · simp only [Bool.and_eq_true] at h
      obtain ⟨h1, h2, h0, h3, h4, h5⟩ := h
      have ho := cmp_ops (K := K) o (isCmp_eq h1)
      have ho' := cmp_ops (K := K) o' (isCmp_eq h2)
      obtain ⟨ta, pa, ea⟩ := ia.e Wx sn _ h3
      obtain ⟨tb, pb, eb⟩ := ib.e Wx sn _ h4
      obtain ⟨td, pd, ed⟩ := id.e Wx sn _ h5
      exact ⟨_, fun X c => pe_chain (ho.choose_spec.1 X c.cnd) (ho'.choose_spec.1 X c.cnd) (pa X c) (pb X c) (pd X c) (last_of h0), fun ρ S => ev_ch ho ho' ea eb ed⟩
    · cases h
  · unfold ckE at h
    split at h
    · simp only [Bool.and_eq_true] at h
      obtain ⟨h1, h2, h0, h3, h4, h5⟩ := h
      have ho := cmp_ops (K := K) o (isCmp_eq h1)
      have ho' := cmp_ops (K := K) o' (isCmp_eq h2)
      obtain ⟨ta, pa, ea⟩ := ia.e Wx sn _ h3
      obtain ⟨tb, pb, eb⟩ := ib.e Wx sn _ h4
      obtain ⟨td, pd, ed⟩ := id.e Wx sn _ h5
      exact ⟨_, fun X c => pt_chain (ho.choose_spec.1 X c.cnd) (ho'.choose_spec.1 X c.cnd) (pa X c) (pb X c) (pd X c) (last_of h0), fun ρ S => ev_test fun ρ S => ev_ch ho ho' ea eb ed⟩
    · cases h
  · unfold ckE at h
    split at h <;> first | cases ht | cases h
theorem d_neg {a : M} (ia : Dall K mg C Φ k a) : Dall K mg C Φ k (.neg a) := by
  refine .mk1 (fun Wx sn e h => ?_) (fun _ _ _ h => by cases h) (fun Wx sn e ht h => ?_) (fun Wx sn e ht h => ?_) (fun _ _ => rfl) (fun _ _ => rfl) (fun _ _ => rfl) (fun _ _ _ => rfl) (fun _ _ => rfl) (fun _ _ => rfl)
  · unfold ckE at h
    split at h
    · obtain ⟨ta, pa, ea⟩ := ia.e Wx sn _ h
      exact ⟨_, fun X c => pe_un un_neg (pa X c), fun ρ S => ev_neg ea⟩
    · cases h
  · unfold ckE at h
    split at h <;> first | cases ht | cases h
  · unfold ckE at h
    split at h <;> first | cases ht | cases h
theorem d_not {a : M} (ia : Dall K mg C Φ k a) : Dall K mg C Φ k (.not1 a) := by
  refine .mk1 (fun Wx sn e h => ?_) (fun _ _ _ h => by cases h) (fun Wx sn e ht h => ?_) (fun Wx sn e ht h => ?_) (fun _ _ => rfl) (fun _ _ => rfl) (fun _ _ => rfl) (fun _ _ _ => rfl) (fun _ _ => rfl) (fun _ _ => rfl)
  · unfold ckE at h
    split at h
    · simp only [Bool.and_eq_true] at h
      obtain ⟨ta, pa, ea⟩ := ia.e Wx sn _ h.2
      exact ⟨_, fun X c => pe_not (pa X c), fun ρ S => ev_not ea⟩
    · cases h
  · unfold ckE at h
    split at h
    · simp only [Bool.and_eq_true] at h
      obtain ⟨ta, pa, ea⟩ := ia.t Wx sn _ h.1 h.2
      exact ⟨_, fun X c => pt_not (pa X c), fun ρ S => et_not ea⟩
    · cases h
  · unfold ckE at h
    split at h <;> first | cases ht | cases h
theorem d_and {a b : M} (ia : Dall K mg C Φ k a) (ib : Dall K mg C Φ k b) : Dall K mg C Φ k (.and2 a b) := by
  have hw : ∀ Wx sn e, isBoolE e = true → ckE C (.and2 a b) sn e = true → DW K mg C Φ k Wx sn e (.and2 a b) := fun Wx sn e _ h => by
    unfold ckE at h
    split at h
    · simp only [Bool.and_eq_true] at h
      obtain ⟨ta, pa, ea⟩ := ia.t Wx sn _ h.1.1 h.1.2
      obtain ⟨tb, pb, eb⟩ := ib.w Wx sn _ rfl h.2
      exact ⟨_, fun X c => pw_and (pa X c) (pb X c), fun ρ S => et_and ea eb⟩
    · cases h
  refine .mk1 (fun Wx sn e h => ?_) (fun _ _ _ h => by cases h) (fun Wx sn e ht h => ?_) hw (fun _ _ => rfl) (fun _ _ => rfl) (fun _ _ => rfl) (fun _ _ _ => rfl) (fun _ _ => rfl) (fun _ _ => rfl)
  · unfold ckE at h
    split at h
    · simp only [Bool.and_eq_true] at h
      obtain ⟨ta, pa, ea⟩ := ia.e Wx sn _ h.1.2
      obtain ⟨tb, pb, eb⟩ := ib.e Wx sn _ h.2
      exact ⟨_, fun X c => pe_and (pa X c) (pb X c), fun ρ S => ev_and ea eb⟩
    · cases h
  · refine (hw Wx sn e ?_ h).dt
    unfold ckE at h
    split at h
    · rfl
    · cases h
theorem d_or {a b : M} (ia : Dall K mg C Φ k a) (ib : Dall K mg C Φ k b) : Dall K mg C Φ k (.or2 a b) := by
  have hw : ∀ Wx sn e, isBoolE e = true → ckE C (.or2 a b) sn e = true → DW K mg C Φ k Wx sn e (.or2 a b) := fun Wx sn e _ h => by
    unfold ckE at h
    split at h
    · simp only [Bool.and_eq_true] at h
      obtain ⟨ta, pa, ea⟩ := ia.t Wx sn _ h.1.1 h.1.2
      obtain ⟨tb, pb, eb⟩ := ib.w Wx sn _ rfl h.2
      exact ⟨_, fun X c => pw_or (pa X c) (pb X c), fun ρ S => et_or ea eb⟩
    · cases h
  refine .mk1 (fun Wx sn e h => ?_) (fun _ _ _ h => by cases h) (fun Wx sn e ht h => ?_) hw (fun _ _ => rfl) (fun _ _ => rfl) (fun _ _ => rfl) (fun _ _ _ => rfl) (fun _ _ => rfl) (fun _ _ => rfl)
  · unfold ckE at h
    split at h
    · simp only [Bool.and_eq_true] at h
      obtain ⟨ta, pa, ea⟩ := ia.e Wx sn _ h.1.2
      obtain ⟨tb, pb, eb⟩ := ib.e Wx sn _ h.2
      exact ⟨_, fun X c => pe_or (pa X c) (pb X c), fun ρ S => ev_or ea eb⟩
    · cases h
  · refine (hw Wx sn e ?_ h).dt
    unfold ckE at h
    split at h
    · rfl
    · cases h
theorem ev_one {a : M} {ρ : Rho} {S : Sto} : evE Φ (.one a) ρ S = evE Φ a ρ S := rfl
theorem d_one {a : M} (ia : Dall K mg C Φ k a) : Dall K mg C Φ k (.one a) := by
  have hw : ∀ Wx sn e, isBoolE e = true → ckE C (.one a) sn e = true → DW K mg C Φ k Wx sn e (.one a) := fun Wx sn e _ h => by
    unfold ckE at h
    split at h
    · rename_i op x p _
      simp only [Bool.and_eq_true] at h
      obtain ⟨ta, pa, ea⟩ := ia.t Wx sn _ h.1 h.2
      cases op
      · exact ⟨_, fun X c => pw_and1 (pa X c), ea⟩
      · exact ⟨_, fun X c => pw_or1 (pa X c), ea⟩
    · cases h
  refine ⟨fun Wx sn e h => ?_, fun _ _ _ h => (by cases h), fun Wx sn e ht h => ?_, hw, fun _ _ _ h => (by cases h), fun Wx sn o h => ?_, fun Wx sn es h => ?_, fun _ _ _ _ h => (by cases h), fun _ _ _ h => (by cases h), fun _ _ _ h => (by cases h)⟩
  · unfold ckE at h
    split at h
    · simp only [Bool.and_eq_true] at h
      obtain ⟨ta, pa, ea⟩ := ia.e Wx sn _ h.2
      exact ⟨_, fun X c => pe_one (pa X c), ea⟩
    · cases h
  · refine (hw Wx sn e ?_ h).dt
    unfold ckE at h
    split at h
    · rfl
    · cases h
  · unfold ckO at h
    split at h
    · obtain ⟨ta, pa, ea⟩ := ia.e Wx sn _ h
      exact ⟨_, fun X c => po_some (pa X c), fun ρ S => eo_some ea⟩
    · cases h
  · unfold ckTs at h
    split at h
    · simp only [Bool.and_eq_true] at h
      obtain ⟨ta, pa, ea⟩ := ia.t Wx sn _ h.1 h.2
      exact ⟨_, fun X c => pts_one (pa X c), ea⟩
    · cases h
theorem d_ife {t a b : M} (it : Dall K mg C Φ k t) (ia : Dall K mg C Φ k a) (ib : Dall K mg C Φ k b) : Dall K mg C Φ k (.ife t a b) := by
  refine .mk1 (fun Wx sn e h => ?_) (fun _ _ _ h => by cases h) (fun Wx sn e ht h => ?_) (fun Wx sn e ht h => ?_) (fun _ _ => rfl) (fun _ _ => rfl) (fun _ _ => rfl) (fun _ _ _ => rfl) (fun _ _ => rfl) (fun _ _ => rfl)
  · unfold ckE at h
    split at h
    · simp only [Bool.and_eq_true] at h
      obtain ⟨tt, pt, et⟩ := it.t Wx sn _ h.1.1 h.1.2
      obtain ⟨ta, pa, ea⟩ := ia.e Wx sn _ h.2.1
      obtain ⟨tb, pb, eb⟩ := ib.e Wx sn _ h.2.2
      exact ⟨_, fun X c => pe_ifExp (pt X c) (pa X c) (pb X c), fun ρ S => ev_ife et ea eb⟩
    · cases h
  · unfold ckE at h
    split at h <;> first | cases ht | cases h
  · unfold ckE at h
    split at h <;> first | cases ht | cases h
theorem d_tup {a : M} (ia : Dall K mg C Φ k a) : Dall K mg C Φ k (.tup a) := by
  refine .mk2 (fun Wx sn e h => ?_) (fun _ _ _ h => by cases h) (fun sn e h => ?_) (fun _ _ => rfl) (fun _ _ => rfl) (fun _ _ => rfl) (fun _ _ _ => rfl) (fun _ _ => rfl) (fun _ _ => rfl)
  · unfold ckE at h
    split at h
    · obtain ⟨ta, pa, ea⟩ := ia.a Wx sn _ h
      exact ⟨_, fun X c => pe_tup (pa X c), fun ρ S => ev_tup ea⟩
    · cases h
  · unfold ckE at h
    split at h
    · rfl
    · cases h
theorem d_lst {a : M} (ia : Dall K mg C Φ k a) : Dall K mg C Φ k (.lst a) := by
  have hn : ∀ Wx sn e, ckE C (.lst a) sn e = true → DN K mg C Φ k Wx sn e (.lst a) := fun Wx sn e h => by
    unfold ckE at h
    split at h
    · obtain ⟨ta, pa, ea⟩ := ia.a Wx sn _ h
      exact ⟨_, fun X c => pe_lst (pa X c), fun ρ S => ev_lstN ea⟩
    · cases h
  refine .mk2 (fun Wx sn e h => (hn Wx sn e h).de) (fun Wx sn e _ h => hn Wx sn e h) (fun sn e h => ?_) (fun _ _ => rfl) (fun _ _ => rfl) (fun _ _ => rfl) (fun _ _ _ => rfl) (fun _ _ => rfl) (fun _ _ => rfl)
  unfold ckE at h
  split at h
  · rfl
  · cases h
theorem d_new {a : M} (ia : Dall K mg C Φ k a) : Dall K mg C Φ k (.new a) := by
  refine .mk2 (fun Wx sn e h => ?_) (fun _ _ _ h => by cases h) (fun sn e h => ?_) (fun _ _ => rfl) (fun _ _ => rfl) (fun _ _ => rfl) (fun _ _ _ => rfl) (fun _ _ => rfl) (fun _ _ => rfl)
  · unfold ckE at h
    simp only [Bool.and_eq_true] at h
    obtain ⟨ta, pa, ea⟩ := ia.n Wx sn _ h.1 h.2.2
    exact ⟨_, pa, fun ρ S => ev_new ea⟩
  · unfold ckE at h
    simp only [Bool.and_eq_true] at h
    exact h.2.1
theorem d_frz {a : M} (ia : Dall K mg C Φ k a) : Dall K mg C Φ k (.frz a) := by
  refine .mk2 (fun Wx sn e h => ?_) (fun _ _ _ h => by cases h) (fun sn e h => ?_) (fun _ _ => rfl) (fun _ _ => rfl) (fun _ _ => rfl) (fun _ _ _ => rfl) (fun _ _ => rfl) (fun _ _ => rfl)
  · unfold ckE at h
    simp only [Bool.and_eq_true] at h
    obtain ⟨ta, pa, ea⟩ := ia.e Wx sn _ h.2
    exact ⟨_, pa, fun ρ S => ev_frz ea⟩
  · unfold ckE at h
    simp only [Bool.and_eq_true] at h
    exact h.1
theorem d_anil : Dall K mg C Φ k .anil := by
  refine ⟨fun _ _ _ h => (by cases h), fun _ _ _ h => (by cases h), fun _ _ _ _ h => (by cases h), fun _ _ _ _ h => (by cases h), fun Wx sn es h => ?_, fun _ _ _ h => (by cases h), fun Wx sn es h => ?_, fun _ _ _ _ h => (by cases h), fun _ _ _ h => (by cases h), fun Wx sn es h => ?_⟩
  · unfold ckA at h
    split at h
    · exact ⟨_, fun X c => pa_nil, fun ρ S => ea_nil⟩
    · cases h
  · unfold ckTs at h
    split at h
    · exact ⟨_, fun X c => pts_nil, fun ρ S σ F A H g rr Q p => p true F A H Stp.refl g rfl⟩
    · cases h
  · unfold ckGs at h
    split at h
    · exact ⟨_, fun X c => pgs_nil, egs_nil⟩
    · cases h
theorem assignEach_cons {e : Expr} {es : List Expr} {env : Env} (h : unst e = true) : assignEach (e :: es) env = (false, assign e env) :: assignEach es env := by
  cases e <;> first | rfl | cases h
theorem d_acons {a b : M} (ia : Dall K mg C Φ k a) (ib : Dall K mg C Φ k b) : Dall K mg C Φ k (.acons a b) := by
  refine ⟨fun _ _ _ h => (by cases h), fun _ _ _ h => (by cases h), fun _ _ _ _ h => (by cases h), fun _ _ _ _ h => (by cases h), fun Wx sn es h => ?_, fun _ _ _ h => (by cases h), fun _ _ _ h => (by cases h), fun _ _ _ _ h => (by cases h), fun _ _ _ h => (by cases h), fun Wx sn es h => ?_⟩
  · unfold ckA at h
    split at h
    · simp only [Bool.and_eq_true] at h
      obtain ⟨ta, pa, ea⟩ := ia.e Wx sn _ h.2.1
      obtain ⟨tb, pb, eb⟩ := ib.a Wx sn _ h.2.2
      exact ⟨_, fun X c => pa_cons (pa X c) (pb X c) (star_of h.1), fun ρ S => ea_cons ea eb⟩
    · cases h
  · unfold ckGs at h
    split at h
    · simp only [Bool.and_eq_true] at h
      obtain ⟨ta, pa, ea⟩ := ia.g Wx sn _ h.2.1
      obtain ⟨tb, pb, eb⟩ := ib.gs Wx sn _ h.2.2
      exact ⟨_, fun X c => pgs_cons (pa X c) (pb X c) (by rw [assignEach_cons h.1]; rfl), egs_cons ea eb⟩
    · cases h
theorem d_nop : Dall K mg C Φ k .nop := by
  refine ⟨fun _ _ _ h => (by cases h), fun _ _ _ h => (by cases h), fun _ _ _ _ h => (by cases h), fun _ _ _ _ h => (by cases h), fun _ _ _ h => (by cases h), fun Wx sn o h => ?_, fun _ _ _ h => (by cases h), fun _ _ _ _ h => (by cases h), fun _ _ _ h => (by cases h), fun _ _ _ h => (by cases h)⟩
  unfold ckO at h
  split at h
  · exact ⟨_, fun X c => po_none, fun ρ S => eo_none⟩
  · cases h
theorem d_tn (i : Nat) : Dall K mg C Φ k (.tn i) := by
  refine ⟨fun _ _ _ h => (by cases h), fun _ _ _ h => (by cases h), fun _ _ _ _ h => (by cases h), fun _ _ _ _ h => (by cases h), fun _ _ _ h => (by cases h), fun _ _ _ h => (by cases h), fun _ _ _ h => (by cases h), fun _ _ _ _ h => (by cases h), fun Wx sn e h => ?_, fun _ _ _ h => (by cases h)⟩
  unfold ckG at h
  split at h
  · simp only [Bool.and_eq_true, decide_eq_true_eq] at h
    refine ⟨_, fun X c => ?_, eg_name⟩
    obtain ⟨l1, l2⟩ := c.loc _ h.2
    exact pg_name (by rw [c.hN]; exact c.nd) (by rw [c.hN]; exact h.1) l1 l2
  · cases h
theorem PG.or {e : Expr} {t u : TG} (h1 : PG X e t) (h2 : PG X e u) : PG X e (fun v σ H Q => t v σ H Q ∨ u v σ H Q) := by
  refine ⟨fun pins s σ H v u' Q I r hw => ?_⟩
  rcases hw with hw | hw
  · exact h1.run pins s σ H v u' Q I r hw
  · exact h2.run pins s σ H v u' Q I r hw
theorem assignEach_len {env : Env} : ∀ {as : M} {es : List Expr}, ckGs C as sn es = true → (assignEach es env).length = cntG as ∧ (assignEach es env).findIdx? (·.1) = none := by
  intro as
  induction as with
  | anil =>
    intro es h
    unfold ckGs at h
    cases es with
    | nil => exact ⟨rfl, rfl⟩
    | cons _ _ => cases h
  | acons a r _ ih =>
    intro es h
    unfold ckGs at h
    cases es with
    | nil => cases h
    | cons e es =>
      simp only [Bool.and_eq_true] at h
      obtain ⟨h1, h2⟩ := ih h.2.2
      rw [assignEach_cons h.1]
      refine ⟨congrArg Nat.succ h1, ?_⟩
      rw [List.findIdx?_cons, h2]
      rfl
  | _ => intro es h; cases h
theorem d_tt {a : M} (ia : Dall K mg C Φ k a) : Dall K mg C Φ k (.tt a) := by
  refine ⟨fun _ _ _ h => (by cases h), fun _ _ _ h => (by cases h), fun _ _ _ _ h => (by cases h), fun _ _ _ _ h => (by cases h), fun _ _ _ h => (by cases h), fun _ _ _ h => (by cases h), fun _ _ _ h => (by cases h), fun _ _ _ _ h => (by cases h), fun Wx sn e h => ?_, fun _ _ _ h => (by cases h)⟩
  unfold ckG at h
  split at h
  · obtain ⟨ta, pa, ea⟩ := ia.gs Wx sn _ h
    refine ⟨gSeq K (cntG a) ta, fun X c => ?_, eg_tt ea⟩
    obtain ⟨l1, l2⟩ := assignEach_len (env := X.env) h
    have hK := c.hK
    subst hK
    exact PG.or (pg_tup c.calm (pa X c) l1 l2) (pg_lst c.calm (pa X c) l1 l2)
  · cases h
theorem bi_pe (k : Bi) : ∃ f, CallS K f (bi k) ∧ ((∃ id, f = .builtin id ∧ bootBuiltins (biName k) = some (.builtin id)) ∨ ∃ id, f = .type id ∧ bootBuiltins (biName k) = some (.type id)) := by
  cases k with
  | len => exact ⟨_, cs_len, .inl ⟨_, rfl, by decide +kernel⟩⟩
  | abs => exact ⟨_, cs_abs, .inl ⟨_, rfl, by decide +kernel⟩⟩
  | max2 => exact ⟨_, cs_max, .inl ⟨_, rfl, by decide +kernel⟩⟩
  | min2 => exact ⟨_, cs_min, .inl ⟨_, rfl, by decide +kernel⟩⟩
  | str_ => exact ⟨_, cs_str, .inr ⟨_, rfl, by decide +kernel⟩⟩
  | int_ => exact ⟨_, cs_int, .inr ⟨_, rfl, by decide +kernel⟩⟩
  | tup_ => exact ⟨_, cs_tuple, .inr ⟨_, rfl, by decide +kernel⟩⟩
  | list_ => exact ⟨_, cs_list, .inr ⟨_, rfl, by decide +kernel⟩⟩
theorem bi_nm (k : Bi) : biName k ≠ "__name__" ∧ (biName k == ("__debug__" : Str)) = false := by
  cases k <;> exact ⟨by decide, by decide⟩
theorem d_bi (b : Bi) {a : M} (ia : Dall K mg C Φ k a) : Dall K mg C Φ k (.bi b a) := by
  refine .mk2 (fun Wx sn e h => ?_) (fun Wx sn e hf h => ?_) (fun sn e h => ?_) (fun _ _ => rfl) (fun _ _ => rfl) (fun _ _ => rfl) (fun _ _ _ => rfl) (fun _ _ => rfl) (fun _ _ => rfl)
  · unfold ckE at h
    split at h
    · simp only [Bool.and_eq_true, decide_eq_true_eq] at h
      obtain ⟨h1, h2, h3, h4⟩ := h
      subst h1
      obtain ⟨f, hc, hf⟩ := bi_pe (K := K) b
      obtain ⟨ta, pa, ea⟩ := ia.a Wx sn _ h4
      have hu := (ckA_unst h4).1
      rw [List.all_cons, Bool.and_eq_true] at hu
      refine ⟨tCB hc.choose ta, fun X c => ?_, fun ρ S => ev_bi hc ea⟩
      have hr := hc.choose_spec.1 X c.cnd
      rcases hf with ⟨id, rfl, hb⟩ | ⟨id, rfl, hb⟩
      · exact pe_callB hr (c.gl _ h2) (c.st.gF _ h3) hb (pa X c) (bi_nm b).1 (bi_nm b).2 (star_of hu.1) (plain_of hu.2)
      · exact pe_callTy hr (c.gl _ h2) (c.st.gF _ h3) hb (pa X c) (bi_nm b).1 (bi_nm b).2 (star_of hu.1) (plain_of hu.2)
    · cases h
  · cases b <;> first | cases hf | skip
    unfold ckE at h
    split at h
    · simp only [Bool.and_eq_true, decide_eq_true_eq] at h
      obtain ⟨h1, h2, h3, h4⟩ := h
      subst h1
      obtain ⟨ta, pa, ea⟩ := ia.a Wx sn _ h4
      have hu := (ckA_unst h4).1
      rw [List.all_cons, Bool.and_eq_true] at hu
      refine ⟨tCB (rListN K) ta, fun X c => ?_, fun ρ S => ev_listN ea⟩
      have hK := c.hK
      have hc := c.calm
      subst hK
      exact pe_callTy call_list_of (c.gl _ h2) (c.st.gF _ h3) (by decide +kernel) (pa X c) (bi_nm .list_).1 (bi_nm .list_).2 (star_of hu.1) (plain_of hu.2)
    · cases h
  · unfold ckE at h
    split at h
    · rfl
    · cases h
theorem boot_isi (t : String) (h : isiOk t = true) : bootBuiltins (Str.ofString t) = some (.type t) ∧ Str.ofString t ≠ "__name__" ∧ (Str.ofString t == ("__debug__" : Str)) = false := by
  have h' : ∀ t ∈ ["int", "bool", "str", "list", "tuple"], bootBuiltins (Str.ofString t) = some (.type t) ∧ Str.ofString t ≠ "__name__" ∧ (Str.ofString t == ("__debug__" : Str)) = false := by decide +kernel
  exact h' t (by unfold isiOk at h; simpa using h)
theorem d_isi (t : String) {a : M} (ia : Dall K mg C Φ k a) : Dall K mg C Φ k (.isi t a) := by
  refine .mk2 (fun Wx sn e h => ?_) (fun _ _ _ h => by cases h) (fun sn e h => ?_) (fun _ _ => rfl) (fun _ _ => rfl) (fun _ _ => rfl) (fun _ _ _ => rfl) (fun _ _ => rfl) (fun _ _ => rfl)
  · unfold ckE at h
    split at h
    · simp only [Bool.and_eq_true, decide_eq_true_eq] at h
      obtain ⟨h1, h2, h3, h4, h5, h6, h7, h8, h9⟩ := h
      subst h1 h4
      obtain ⟨ta, pa, ea⟩ := ia.e Wx sn _ h9
      obtain ⟨b1, b2, b3⟩ := boot_isi t h7
      refine ⟨_, fun X c => ?_, fun ρ S => ev_isi ea⟩
      have hK := c.hK
      subst hK
      exact pe_callB call_isi (c.gl _ h2) (c.st.gF _ h3) (by decide +kernel) (pa_cons (pa X c) (pa_cons (pe_bltn (c.gl _ h5) (c.st.gF _ h6) b1 rfl b2 b3) pa_nil) (star_of h8)) (by decide) (by decide) (star_of h8) rfl
    · cases h
  · unfold ckE at h
    split at h
    · rfl
    · cases h
theorem kwall : True := trivial
theorem d_mt (b : Mt) {a as : M} (ia : Dall K mg C Φ k a) (ias : Dall K mg C Φ k as) : Dall K mg C Φ k (.mt b a as) := by
  refine .mk2 (fun Wx sn e h => ?_) (fun _ _ _ h => by cases h) (fun sn e h => ?_) (fun _ _ => rfl) (fun _ _ => rfl) (fun _ _ => rfl) (fun _ _ _ => rfl) (fun _ _ => rfl) (fun _ _ => rfl)
  · unfold ckE at h
    split at h
    · simp only [Bool.and_eq_true, decide_eq_true_eq] at h
      obtain ⟨h1, h2, h3, h4, h5, h6⟩ := h
      subst h1
      obtain ⟨ta, pa, ea⟩ := ia.e Wx sn _ h5
      obtain ⟨tl, pl, el⟩ := ias.a Wx sn _ h6
      obtain ⟨id, sl, ty, hm⟩ := slot_mt (K := K) b
      have hu := (ckA_unst h6).1
      have hu' := hu
      rw [List.all_cons, Bool.and_eq_true] at hu
      refine ⟨_, fun X c => ?_, fun ρ S => ev_mt hm ea el⟩
      have hr := hm.choose_spec.1 X c.cnd
      have hK := c.hK
      subst hK
      refine pe_bm (attrs_mt b) sl ty hr (pa X c) (pl X c) (base_of h2) ?_ h3 (star_of hu.1) (plain_of hu.2)
      rw [plainAll_of hu']
      simp only [List.length_cons, List.length_nil, List.isEmpty_nil, if_true, Bool.true_and]
      show (true && decide _) = true
      rw [Bool.true_and, decide_eq_true_eq]
      omega
    · cases h
  · unfold ckE at h
    split at h
    · rfl
    · cases h
theorem d_ix {a b : M} (ia : Dall K mg C Φ k a) (ib : Dall K mg C Φ k b) : Dall K mg C Φ k (.ix a b) := by
  refine .mk2 (fun Wx sn e h => ?_) (fun _ _ _ h => by cases h) (fun sn e h => ?_) (fun _ _ => rfl) (fun _ _ => rfl) (fun _ _ => rfl) (fun _ _ _ => rfl) (fun _ _ => rfl) (fun _ _ => rfl)
  · unfold ckE at h
    split at h
    · simp only [Bool.and_eq_true] at h
      obtain ⟨ta, pa, ea⟩ := ia.e Wx sn _ h.2.1
      obtain ⟨tb, pb, eb⟩ := ib.e Wx sn _ h.2.2
      exact ⟨_, fun X c => L2.pe_ix (ixs.choose_spec.1 X c.cnd) (pa X c) (pb X c) (plainIx_of h.1), fun ρ S => ev_ix ea eb⟩
    · cases h
  · unfold ckE at h
    split at h
    · rfl
    · cases h
theorem d_sl {a lo hi : M} (ia : Dall K mg C Φ k a) (il : Dall K mg C Φ k lo) (ih : Dall K mg C Φ k hi) : Dall K mg C Φ k (.sl a lo hi) := by
  have hn : ∀ Wx sn e, ckE C (.sl a lo hi) sn e = true → DN K mg C Φ k Wx sn e (.sl a lo hi) := fun Wx sn e h => by
    unfold ckE at h
    split at h
    · simp only [Bool.and_eq_true] at h
      obtain ⟨ta, pa, ea⟩ := ia.e Wx sn _ h.1
      obtain ⟨tb, pb, eb⟩ := il.o Wx sn _ h.2.1
      obtain ⟨tc, pc, ec⟩ := ih.o Wx sn _ h.2.2
      exact ⟨_, fun X c => pe_slice (sls_N.choose_spec.1 X c.cnd) (pa X c) (pb X c) (pc X c), fun ρ S => ev_slN ea eb ec⟩
    · cases h
  refine .mk2 (fun Wx sn e h => (hn Wx sn e h).de) (fun Wx sn e _ h => hn Wx sn e h) (fun sn e h => ?_) (fun _ _ => rfl) (fun _ _ => rfl) (fun _ _ => rfl) (fun _ _ _ => rfl) (fun _ _ => rfl) (fun _ _ => rfl)
  unfold ckE at h
  split at h
  · rfl
  · cases h
theorem d_call (hT : Tok C Φ) (f : Nat) {as : M} (ia : Dall K mg C Φ k as) : Dall K mg C Φ k (.call f as) := by
  refine .mk2 (fun Wx sn e h => ?_) (fun _ _ _ h => by cases h) (fun sn e h => ?_) (fun _ _ => rfl) (fun _ _ => rfl) (fun _ _ => rfl) (fun _ _ _ => rfl) (fun _ _ => rfl) (fun _ _ => rfl)
  · unfold ckE at h
    split at h
    · split at h
      · rename_i fn hfn
        simp only [Bool.and_eq_true, decide_eq_true_eq] at h
        obtain ⟨h1, h2, h3, h4, h5, h6⟩ := h
        subst h1
        have hu := (ckA_unst h6).1
        rename_i x p0 es p1 _
        cases es with
        | nil =>
          have : as = .anil := by
            cases as <;> first | rfl | cases h6
          subst this
          refine ⟨_, fun X c => ?_, fun ρ S => ev_call hfn (hT.dv f fn hfn) (fun ws S => hT.idem f fn ws S hfn) fun ρ S => ea_nil⟩
          obtain ⟨ad, fd, g1, g2, g3, g4⟩ := c.st.fns f fn hfn
          obtain ⟨ds, d1, d2⟩ := g4 (fn.dv.length - (fn.ps.length - cntA .anil))
          exact pe_callSD0 g3 c.room (c.gl _ h2) g1 g2 d2 d1 (fun σ => passAt c.tk σ) (okN_d h3).1
        | cons e es =>
          obtain ⟨ta, pa, ea⟩ := ia.a Wx sn _ h6
          refine ⟨_, fun X c => ?_, fun ρ S => ev_call hfn (hT.dv f fn hfn) (fun ws S => hT.idem f fn ws S hfn) ea⟩
          obtain ⟨ad, fd, g1, g2, g3, g4⟩ := c.st.fns f fn hfn
          obtain ⟨ds, d1, d2⟩ := g4 (fn.dv.length - (fn.ps.length - cntA as))
          rw [List.all_cons, Bool.and_eq_true] at hu
          exact pe_callSD g3 c.room (c.gl _ h2) g1 g2 d2 d1 (fun σ => passAt c.tk σ) (pa X c) (okN_d h3).1 (star_of hu.1) (plain_of hu.2)
      · cases h
    · cases h
  · unfold ckE at h
    split at h
    · rfl
    · cases h
end
end Mi

/-! MiK: sources and comprehensions; every expression. -/
namespace Mi
open PySem PySem.Spec PyProof.Rows L2
section
variable {K : PySem.W.Frag} {mg : Str → Option Value} {C : Ci} {Φ : Phi} {k : Nat} {Wx : WX} {sn : Sn} {X : Cx}
theorem pi_any {tg e : Expr} {ta : TE} (h : PE X e ta) : PI X tg e (fun σ H R => ta σ H fun v H1 => (∃ a xs, v = .ref a ∧ SqL X.K H1 a xs ∧ R (Itl X.K a) H1) ∨ (∃ a xs, v = .ref a ∧ SqT X.K H1 a xs ∧ R (Itt X.K a) H1) ∨ ∃ x, v = .str x ∧ R (Its x) H1) := by
  refine ⟨fun pins s σ H R I hw => ?_⟩
  refine thn (h.run pins s σ H _ I hw) fun v s1 ⟨x, H1, I1, r1, q1⟩ => ?_
  let tc : TE := fun _ H' Q' => Q' x H'
  rcases q1 with ⟨a, xs, rfl, hq, q⟩ | ⟨a, xs, rfl, hq, q⟩ | ⟨z, rfl, q⟩
  · cases r1
    obtain ⟨its, rv, p, hz⟩ := I1.list hq
    refine wpAny_pyIter_list p.isList ?_
    refine ⟨s1.heap.objs.size, [s1.heap.objs.size], _, _, H1, rfl, I1.kept (t' := s1.toks) fun b o e => Heap.get?_push_of_some _ e, turn_list a _, ⟨_, Heap.get?_push_size _ rfl, rfl, rfl⟩, fun b hb => ?_, q⟩
    have e : b = s1.heap.objs.size := by simpa using hb
    subst e
    exact I1.fpOk (Nat.le_refl _) (I1.hok.fresh (Nat.le_refl _))
  · cases r1
    obtain ⟨its, rv, p, hz⟩ := I1.tuple hq
    refine wpAny_pyIter_tuple (show s1.heap.IsTuple a its.toArray from p) ?_
    refine ⟨s1.heap.objs.size, [s1.heap.objs.size], _, _, H1, rfl, I1.kept (t' := s1.toks) fun b o e => Heap.get?_push_of_some _ e, turn_tuple a _, ⟨_, Heap.get?_push_size _ rfl, rfl, rfl⟩, fun b hb => ?_, q⟩
    have e : b = s1.heap.objs.size := by simpa using hb
    subst e
    exact I1.fpOk (Nat.le_refl _) (I1.hok.fresh (Nat.le_refl _))
  · obtain ⟨t, rfl⟩ := r1
    cases ha : z.cps.all (· < 128)
    · exact wpAny_pyIter_wide ha (pi_one (tk := s1.toks) I1 _ (turn_str _ z t "str_iterator" (.inr rfl)) ⟨_, Heap.get?_push_size _ rfl, rfl, rfl⟩ q)
    · exact wpAny_pyIter_ascii ha (pi_one (tk := s1.toks) I1 _ (turn_str _ z t "str_ascii_iterator" (.inl rfl)) ⟨_, Heap.get?_push_size _ rfl, rfl, rfl⟩ q)
/-- a form that only stands as a source -/
theorem Dall.mkI {m : M} (hi : ∀ Wx sn tg e, ckI C m sn tg e = true → DI K mg C Φ k Wx sn tg e m) (hf : fresh m = false) (he : ∀ sn es, ckE C m sn es = false)
    (ha : ∀ sn es, ckA C m sn es = false) (ho : ∀ sn o, ckO C m sn o = false) (hts : ∀ sn es, ckTs C m sn es = false) (hg : ∀ sn e, ckG C m sn e = false) (hgs : ∀ sn es, ckGs C m sn es = false) : Dall K mg C Φ k m where
  e := fun _ _ _ h => by rw [he] at h; cases h
  n := fun _ _ _ h _ => by rw [hf] at h; cases h
  t := fun _ _ _ _ h => by rw [he] at h; cases h
  w := fun _ _ _ _ h => by rw [he] at h; cases h
  a := fun _ _ _ h => by rw [ha] at h; cases h
  o := fun _ _ _ h => by rw [ho] at h; cases h
  ts := fun _ _ _ h => by rw [hts] at h; cases h
  i := hi
  g := fun _ _ _ h => by rw [hg] at h; cases h
  gs := fun _ _ _ h => by rw [hgs] at h; cases h
theorem d_itE {a : M} (ia : Dall K mg C Φ k a) : Dall K mg C Φ k (.itE a) := by
  refine .mkI (fun Wx sn tg e h => ?_) rfl (fun _ _ => rfl) (fun _ _ => rfl) (fun _ _ => rfl) (fun _ _ => rfl) (fun _ _ => rfl) (fun _ _ => rfl)
  unfold ckI at h
  obtain ⟨ta, pa, ea⟩ := ia.e Wx sn _ h
  refine ⟨_, fun X c => ?_, fun ρ S => ej_any ea⟩
  have hK := c.hK
  subst hK
  exact pi_any (pa X c)
theorem two_of {es : List Expr} (h : (es.length == 1 || es.length == 2) = true) : (∃ a, es = [a]) ∨ ∃ a b, es = [a, b] := by
  cases es with
  | nil => cases h
  | cons a es =>
    cases es with
    | nil => exact .inl ⟨a, rfl⟩
    | cons b es =>
      cases es with
      | nil => exact .inr ⟨a, b, rfl⟩
      | cons _ _ => simp at h
theorem d_itR {a : M} (ia : Dall K mg C Φ k a) : Dall K mg C Φ k (.itR a) := by
  refine .mkI (fun Wx sn tg e h => ?_) rfl (fun _ _ => rfl) (fun _ _ => rfl) (fun _ _ => rfl) (fun _ _ => rfl) (fun _ _ => rfl) (fun _ _ => rfl)
  unfold ckI at h
  split at h
  · simp only [Bool.and_eq_true, decide_eq_true_eq] at h
    obtain ⟨h1, h2, h3, h4, h5⟩ := h
    subst h1
    obtain ⟨ta, pa, ea⟩ := ia.a Wx sn _ h5
    obtain ⟨hu, hl⟩ := ckA_unst h5
    rcases two_of h4 with ⟨x, rfl⟩ | ⟨x, y, rfl⟩
    · simp only [List.all_cons, List.all_nil, Bool.and_true] at hu
      exact ⟨_, fun X c => pi_range1 (c.gl _ h2) (c.st.gF _ h3) (pa X c) (star_of hu), fun ρ S => ej_rng1 ea hl.symm⟩
    · simp only [List.all_cons, List.all_nil, Bool.and_true, Bool.and_eq_true] at hu
      exact ⟨_, fun X c => pi_range2 (c.gl _ h2) (c.st.gF _ h3) (pa X c) (by rw [star_of hu.1, star_of hu.2]; rfl) (star_of hu.2), fun ρ S => ej_rng2 ea hl.symm⟩
  · cases h
theorem d_itN {a : M} (ia : Dall K mg C Φ k a) : Dall K mg C Φ k (.itN a) := by
  refine .mkI (fun Wx sn tg e h => ?_) rfl (fun _ _ => rfl) (fun _ _ => rfl) (fun _ _ => rfl) (fun _ _ => rfl) (fun _ _ => rfl) (fun _ _ => rfl)
  unfold ckI at h
  rw [Bool.and_eq_true] at h
  obtain ⟨h0, h⟩ := h
  split at h
  · simp only [Bool.and_eq_true, decide_eq_true_eq] at h
    obtain ⟨h1, h2, h3, h4, h5⟩ := h
    subst h1
    obtain ⟨ta, pa, ea⟩ := ia.e Wx sn _ h5
    refine ⟨_, fun X c => ?_, fun ρ S => ej_enum ea⟩
    have hK := c.hK
    subst hK
    cases tg <;> first | (cases h0; done) | skip
    exact pi_enum (c.gl _ h2) (c.st.gF _ h3) (pa_cons (pa X c) pa_nil (star_of h4)) (star_of h4)
  · cases h
theorem d_itZ {a b : M} (ia : Dall K mg C Φ k a) (ib : Dall K mg C Φ k b) : Dall K mg C Φ k (.itZ a b) := by
  refine .mkI (fun Wx sn tg e h => ?_) rfl (fun _ _ => rfl) (fun _ _ => rfl) (fun _ _ => rfl) (fun _ _ => rfl) (fun _ _ => rfl) (fun _ _ => rfl)
  unfold ckI at h
  rw [Bool.and_eq_true] at h
  obtain ⟨h0, h⟩ := h
  split at h
  · simp only [Bool.and_eq_true, decide_eq_true_eq] at h
    obtain ⟨h1, h2, h3, h4, h5, h6, h7⟩ := h
    subst h1
    obtain ⟨ta, pa, ea⟩ := ia.e Wx sn _ h6
    obtain ⟨tb, pb, eb⟩ := ib.e Wx sn _ h7
    refine ⟨_, fun X c => ?_, fun ρ S => ej_zip ea eb⟩
    have hK := c.hK
    subst hK
    cases tg <;> first | (cases h0; done) | skip
    exact pi_zip (c.gl _ h2) (c.st.gF _ h3) (pa_cons (pa X c) (pa_cons (pb X c) pa_nil (star_of h5)) (star_of h4)) (star_of h4) (plain_of (by rw [List.all_cons, h5]; rfl))
  · cases h
theorem zipOwn_snd {N : List Str} : ∀ own : List Nat, (zipOwn N own).map (·.2) = own
  | [] => rfl
  | i :: r => congrArg (i :: ·) (zipOwn_snd r)
theorem d_lc (own : List Nat) {tg it ts e : M} (ig : Dall K mg C Φ k tg) (ii : Dall K mg C Φ k it) (its : Dall K mg C Φ k ts) (ie : Dall K mg C Φ k e) : Dall K mg C Φ k (.lc own tg it ts e) := by
  have hn : ∀ Wx sn x, ckE C (.lc own tg it ts e) sn x = true → DN K mg C Φ k Wx sn x (.lc own tg it ts e) := fun Wx sn x h => by
    unfold ckE at h
    split at h
    · rename_i elt tgE itE ifs sc p
      simp only [Bool.and_eq_true] at h
      obtain ⟨h1, h2, h3, h4, h5, h6, h7⟩ := h
      obtain ⟨wi, pi, ei⟩ := ii.i Wx sn _ _ h4
      obtain ⟨g, pg, eg⟩ := ig.g NoX sc.names _ h5
      obtain ⟨tt, pt, et⟩ := its.ts NoX sc.names _ h6
      obtain ⟨te, pe, ee⟩ := ie.e NoX sc.names _ h7
      refine ⟨tLc wi g tt te own, fun X c => ?_, fun ρ S => ev_lc ei eg (fun i hi => ?_) et ee⟩
      · have hb := c.blkOk (a := true) (b := true) (l := []) (sc := ⟨.function, sn, false, false, []⟩) rfl h1
        have := pe_lc (pos := p) c.calm (by rw [c.hN]; exact c.nd) (pi X c) hb (fun s H Ca cl fp => pg _ (c.blk sc s H Ca cl fp)) (fun s H Ca cl fp => pt _ (c.blk sc s H Ca cl fp)) (fun s H Ca cl fp => pe _ (c.blk sc s H Ca cl fp)) (fold_of h2)
        rw [zipOwn_snd] at this
        exact this
      · rw [List.all_eq_true] at h3
        simpa using h3 i hi
    · cases h
  refine .mk2 (fun Wx sn e h => (hn Wx sn e h).de) (fun Wx sn e _ h => hn Wx sn e h) (fun sn e h => ?_) (fun _ _ => rfl) (fun _ _ => rfl) (fun _ _ => rfl) (fun _ _ _ => rfl) (fun _ _ => rfl) (fun _ _ => rfl)
  unfold ckE at h
  split at h
  · rfl
  · cases h
/-- a statement -/
theorem Dall.mk0 {m : M} (hf : fresh m = false) (he : ∀ sn es, ckE C m sn es = false) (ha : ∀ sn es, ckA C m sn es = false) (ho : ∀ sn o, ckO C m sn o = false) (hts : ∀ sn es, ckTs C m sn es = false) (hi : ∀ sn tg e, ckI C m sn tg e = false) (hg : ∀ sn e, ckG C m sn e = false) (hgs : ∀ sn es, ckGs C m sn es = false) : Dall K mg C Φ k m :=
  .mkI (fun _ _ _ _ h => by rw [hi] at h; cases h) hf he ha ho hts hg hgs
theorem d_all (hT : Tok C Φ) : ∀ m, Dall K mg C Φ k m := by
  intro m
  induction m with
  | var i => exact d_var i
  | int i => exact d_int i
  | str i => exact d_str i
  | bl i => exact d_bl i
  | non => exact d_non
  | gi x i => exact d_gi x i
  | gs x i => exact d_gs x i
  | o2 o a b ia ib => exact d_o2 o ia ib
  | ch o o' a b c ia ib ic => exact d_ch o o' ia ib ic
  | neg a ia => exact d_neg ia
  | and2 a b ia ib => exact d_and ia ib
  | or2 a b ia ib => exact d_or ia ib
  | one a ia => exact d_one ia
  | not1 a ia => exact d_not ia
  | ife a b c ia ib ic => exact d_ife ia ib ic
  | tup a ia => exact d_tup ia
  | lst a ia => exact d_lst ia
  | anil => exact d_anil
  | acons a b ia ib => exact d_acons ia ib
  | call f a ia => exact d_call hT f ia
  | bi b a ia => exact d_bi b ia
  | isi t a ia => exact d_isi t ia
  | mt b a as ia ias => exact d_mt b ia ias
  | ix a b ia ib => exact d_ix ia ib
  | sl a b c ia ib ic => exact d_sl ia ib ic
  | nop => exact d_nop
  | lc own tg it ts e ig ii its ie => exact d_lc own ig ii its ie
  | new a ia => exact d_new ia
  | frz a ia => exact d_frz ia
  | itE a ia => exact d_itE ia
  | itR a ia => exact d_itR ia
  | itN a ia => exact d_itN ia
  | itZ a b ia ib => exact d_itZ ia ib
  | tn i => exact d_tn i
  | tt a ia => exact d_tt ia
  | _ => exact .mk0 rfl (fun _ _ => rfl) (fun _ _ => rfl) (fun _ _ => rfl) (fun _ _ => rfl) (fun _ _ _ => rfl) (fun _ _ => rfl) (fun _ _ => rfl)
end
end Mi

/-! MiL: statements. -/
namespace Mi
open PySem PySem.Spec PyProof.Rows L2

/-- what must follow a statement's result -/
def PostS (K : PySem.W.Frag) (mg : Str → Option Value) (Wx : WX) (F : Hp) (A : List Addr) (H : Hp) (r : RS) (D : Ends) : Prop := match r with
  | .nx ρ S => ∀ σ F' A' H', Stp F A H F' A' H' → Good K F' A' S H' → RhoR K F' A' ρ σ → D.nx σ H'
  | .bk ρ S => ∀ σ F' A' H', Stp F A H F' A' H' → Good K F' A' S H' → RhoR K F' A' ρ σ → D.bk σ H'
  | .ct ρ S => ∀ σ F' A' H', Stp F A H F' A' H' → Good K F' A' S H' → RhoR K F' A' ρ σ → D.ct σ H'
  | .rt w S => ∀ v F' A' H', Stp F A H F' A' H' → Good K F' A' S H' → WR K F' A' w v → D.rt v H'
  | .exc x ρ S => ∀ cls d σ F' A' H', Stp F A H F' A' H' → Good K F' A' S H' → RhoR K F' A' ρ σ → XR K mg F' H' x cls d → Wx cls d σ H'
  | .err => False
def EvS (K : PySem.W.Frag) (mg : Str → Option Value) (Wx : WX) (t : TS) (ρ : Rho) (S : Sto) (r : RS) : Prop := ∀ σ F A H, Good K F A S H → RhoR K F A ρ σ → ∀ D, PostS K mg Wx F A H r D → t D σ H
section
variable {K : PySem.W.Frag} {mg : Str → Option Value} {Wx : WX} {σ : L2.St} {F F' : Hp} {A A' : List Addr} {H H' : Hp} {ρ : Rho} {S : Sto} {Φ : Phi} {α β : Type} {Rel : Hp → List Addr → α → β → Prop} {D : Ends}
theorem PostS.step {r : RS} (s : Stp F A H F' A' H') (p : PostS K mg Wx F A H r D) : PostS K mg Wx F' A' H' r D := by
  cases r with
  | nx ρ S => exact fun σ F2 A2 H2 s2 g rr => p σ F2 A2 H2 (s.trans s2) g rr
  | bk ρ S => exact fun σ F2 A2 H2 s2 g rr => p σ F2 A2 H2 (s.trans s2) g rr
  | ct ρ S => exact fun σ F2 A2 H2 s2 g rr => p σ F2 A2 H2 (s.trans s2) g rr
  | rt w S => exact fun v F2 A2 H2 s2 g rr => p v F2 A2 H2 (s.trans s2) g rr
  | exc x ρ S => exact fun cls d σ F2 A2 H2 s2 g rr x => p cls d σ F2 A2 H2 (s.trans s2) g rr x
  | err => exact p
/-- a result ahead of a statement's rest -/
theorem PostS.bind {r : R α} {k : α → Sto → RS} {Q1 : β → Hp → Prop} (rr : RhoR K F A ρ σ) (p : PostS K mg Wx F A H (r.st ρ k) D)
    (h : ∀ a S' b F' A' H', r = .ok a S' → Stp F A H F' A' H' → Good K F' A' S' H' → Rel F' A' a b → PostS K mg Wx F' A' H' (k a S') D → Q1 b H') : Post K mg Wx σ Rel F A H r Q1 := by
  cases r with
  | ok a S' => exact fun b F2 A2 H2 s g rel => h a S' b F2 A2 H2 rfl s g rel (PostS.step s p)
  | exc x S' => exact fun cls d F2 A2 H2 s g x => p cls d σ F2 A2 H2 s g (rr.mono s) x
  | err => exact p
theorem PostS.bindI {r : R Src} {k : Src → Sto → RS} {Q1 : It → Hp → Prop} (rr : RhoR K F A ρ σ) (p : PostS K mg Wx F A H (r.st ρ k) D)
    (h : ∀ a S' J F' A' H', r = .ok a S' → Stp F A H F' A' H' → Good K F' A' S' H' → ItR K F' A' J a → PostS K mg Wx F' A' H' (k a S') D → Q1 J H') : PostI K mg Wx σ F A H r Q1 := by
  cases r with
  | ok a S' => exact fun b F2 A2 H2 s g rel => h a S' b F2 A2 H2 rfl s g rel (PostS.step s p)
  | exc x S' => exact fun cls d F2 A2 H2 s g x => p cls d σ F2 A2 H2 s g (rr.mono s) x
  | err => exact p
theorem PostS.ofO {o : Option Rho} (p : PostS K mg Wx F A H (RS.ofO o S) D) : ∃ ρ', o = some ρ' ∧ ∀ σ F' A' H', Stp F A H F' A' H' → Good K F' A' S H' → RhoR K F' A' ρ' σ → D.nx σ H' := by
  cases o with
  | none => exact p.elim
  | some w => exact ⟨w, rfl, fun σ F2 A2 H2 s g rel => p σ F2 A2 H2 s g rel⟩
variable {ta tb te : TE} {tl : TA} {a b c e tg : M} {t u : TS}
theorem es_asg {g : TG} (ha : ∀ ρ S, EvE K mg Wx ta ρ S (evE Φ a ρ S)) (hg : EvG K g tg) : EvS K mg Wx (tAsg ta g) ρ S (exS Φ (.asg tg a) ρ S) := by
  intro σ F A H gd rr D p
  unfold exS at p
  refine ha ρ S σ F A H gd rr _ (p.bind rr fun w S1 v F1 A1 H1 _ s1 g1 rw p1 => ?_)
  obtain ⟨ρ', e, k⟩ := p1.ofO
  exact hg σ F1 A1 S1 H1 g1 w v ρ ρ' (rr.mono s1) rw e _ fun σ' r' _ => k σ' F1 A1 H1 Stp.refl g1 r'
theorem es_asgLc {i : Nat} (ha : ∀ ρ S, EvE K mg Wx ta ρ S (evE Φ a ρ S)) : EvS K mg Wx (tAsg ta (gName i)) ρ S (exS Φ (.asgLc i a) ρ S) := by
  intro σ F A H gd rr D p
  unfold exS at p
  refine ha ρ S σ F A H gd rr _ (p.bind rr fun w S1 v F1 A1 H1 _ s1 g1 rw p1 => ?_)
  obtain ⟨ρ', e, k⟩ := p1.ofO
  split at e
  · rename_i hi
    cases e
    exact k _ F1 A1 H1 Stp.refl g1 ((rr.mono s1).set rw hi)
  · cases e
theorem es_par {i j : Nat} (ha : ∀ ρ S, EvE K mg Wx ta ρ S (evE Φ a ρ S)) (hb : ∀ ρ S, EvE K mg Wx tb ρ S (evE Φ b ρ S)) : EvS K mg Wx (tPar i j (tCons ta (tCons tb tNil))) ρ S (exS Φ (.par2 i j a b) ρ S) := by
  intro σ F A H gd rr D p
  unfold exS at p
  refine ha ρ S σ F A H gd rr _ (p.bind rr fun w S1 v F1 A1 H1 _ s1 g1 rw p1 => ?_)
  refine hb ρ S1 σ F1 A1 H1 g1 (rr.mono s1) _ (p1.bind (rr.mono s1) fun w' S2 v' F2 A2 H2 _ s2 g2 rw' p2 => ?_)
  split at p2
  case isFalse => exact p2.elim
  rename_i hij
  obtain ⟨hi, hj⟩ := hij
  refine ⟨v, v', rfl, p2 _ F2 A2 H2 Stp.refl g2 ?_⟩
  exact (((rr.mono s1).mono s2).set (rw.mono s2) hi).set rw' (by rw [List.length_set]; exact hj)
theorem es_aug {i : Nat} {k : O2} {f : Int → Int → Int} (hf : ∀ x y w, augW k x y = some w → ∃ m n, x = .d (.int m) ∧ y = .d (.int n) ∧ w = .d (.int (f m n))) (ha : ∀ ρ S, EvE K mg Wx ta ρ S (evE Φ a ρ S)) : EvS K mg Wx (tAug i ta (ipI f)) ρ S (exS Φ (.aug i k a) ρ S) := by
  intro σ F A H gd rr D p
  unfold exS at p
  split at p
  · rename_i x hx
    obtain ⟨v, e1, rx⟩ := rr.2 i x hx
    refine ⟨v, e1, ha ρ S σ F A H gd rr _ (p.bind rr fun y S1 u F1 A1 H1 _ s1 g1 ry p1 => ?_)⟩
    split at p1
    · rename_i z hz
      obtain ⟨m, n, rfl, rfl, rfl⟩ := hf _ _ _ hz
      cases rx
      cases ry
      exact ⟨m, n, rfl, rfl, p1 _ F1 A1 H1 Stp.refl g1 ((rr.mono s1).set (show WR K F1 A1 (.d (.int _)) (.int _) from .int _) (List.getElem?_eq_some_iff.mp hx).1)⟩
    · exact p1.elim
  · exact p.elim
theorem es_setix (ha : ∀ ρ S, EvE K mg Wx ta ρ S (evE Φ a ρ S)) (hb : ∀ ρ S, EvE K mg Wx tb ρ S (evE Φ b ρ S)) (he : ∀ ρ S, EvE K mg Wx te ρ S (evE Φ e ρ S)) : EvS K mg Wx (tAsg te (gSub ta tb rSetL)) ρ S (exS Φ (.setix a b e) ρ S) := by
  intro σ F A H gd rr D p
  unfold exS at p
  refine he ρ S σ F A H gd rr _ (p.bind rr fun w S1 v F1 A1 H1 q1 s1 g1 rw p1 => ?_)
  refine ha ρ S1 σ F1 A1 H1 g1 (rr.mono s1) _ (p1.bind (rr.mono s1) fun x S2 o F2 A2 H2 q2 s2 g2 rx p2 => ?_)
  refine hb ρ S2 σ F2 A2 H2 g2 ((rr.mono s1).mono s2) _ (p2.bind ((rr.mono s1).mono s2) fun y S3 i F3 A3 H3 q3 s3 g3 ry p3 => ?_)
  clear q1 q2 q3
  have rr3 := ((rr.mono s1).mono s2).mono s3
  have rx3 := rx.mono s3
  have rw3 := (rw.mono s2).mono s3
  split at p3
  · rename_i S4 h4
    unfold setW at h4
    split at h4
    · rename_i p k d
      obtain ⟨ad, ea, rfl⟩ := rx3
      cases ry
      split at h4
      · rename_i xs hs
        cases hj : L2.ixN xs.length k with
        | none => rw [hj] at h4; cases h4
        | some j =>
          rw [hj] at h4
          cases h4
          obtain ⟨_, vs, h5, h6⟩ := g3.ob _ _ _ ea hs
          obtain ⟨s4, g4⟩ := g3.write ea hs (Rps.set j h6 rw3)
          exact ⟨_, vs, k, j, rfl, rfl, h5, by rw [h6.length]; exact hj, p3 σ F3 A3 _ s4 g4 (rr3.mono s4)⟩
      · cases h4
    · cases h4
  · exact p3.elim
theorem es_ex (ha : ∀ ρ S, EvE K mg Wx ta ρ S (evE Φ a ρ S)) : EvS K mg Wx (tDrop ta) ρ S (exS Φ (.ex a) ρ S) := by
  intro σ F A H gd rr D p
  unfold exS at p
  exact ha ρ S σ F A H gd rr _ (p.bind rr fun w S1 v F1 A1 H1 _ s1 g1 rw p1 => p1 σ F1 A1 H1 Stp.refl g1 (rr.mono s1))
theorem es_ret (ha : ∀ ρ S, EvE K mg Wx ta ρ S (evE Φ a ρ S)) : EvS K mg Wx (tRet ta) ρ S (exS Φ (.ret a) ρ S) := by
  intro σ F A H gd rr D p
  unfold exS at p
  exact ha ρ S σ F A H gd rr _ (p.bind rr fun w S1 v F1 A1 H1 _ s1 g1 rw p1 => p1 v F1 A1 H1 Stp.refl g1 rw)
theorem es_retN : EvS K mg Wx tRetN ρ S (exS Φ .retN ρ S) := fun σ F A H gd rr D p => p .non F A H Stp.refl gd (show Rp K F .non .none from .non)
theorem es_pss : EvS K mg Wx tNext ρ S (exS Φ .pss ρ S) := fun σ F A H gd rr D p => p σ F A H Stp.refl gd rr
theorem es_snil : EvS K mg Wx tNext ρ S (exS Φ .snil ρ S) := fun σ F A H gd rr D p => p σ F A H Stp.refl gd rr
theorem es_brk : EvS K mg Wx tBreak ρ S (exS Φ .brk ρ S) := fun σ F A H gd rr D p => p σ F A H Stp.refl gd rr
theorem es_cnt : EvS K mg Wx tCont ρ S (exS Φ .cnt ρ S) := fun σ F A H gd rr D p => p σ F A H Stp.refl gd rr
theorem es_ift {tt : TT} (ht : ∀ ρ S, EvT K mg Wx tt ρ S (tru (evE Φ a ρ S))) (hb : ∀ ρ S, EvS K mg Wx t ρ S (exS Φ b ρ S)) (hc : ∀ ρ S, EvS K mg Wx u ρ S (exS Φ c ρ S)) : EvS K mg Wx (tIfS tt t u) ρ S (exS Φ (.ift a b c) ρ S) := by
  intro σ F A H gd rr D p
  unfold exS at p
  refine ht ρ S σ F A H gd rr _ (p.bind rr fun w S1 v F1 A1 H1 _ s1 g1 rw p1 => ?_)
  cases rw
  cases w with
  | true => exact hb ρ S1 σ F1 A1 H1 g1 (rr.mono s1) D p1
  | false => exact hc ρ S1 σ F1 A1 H1 g1 (rr.mono s1) D p1
/-- other ends ahead of a rest -/
theorem PostS.then_ {r : RS} {k : Rho → Sto → RS} {D' : Ends} (p : PostS K mg Wx F A H (match r with | .nx ρ' S' => k ρ' S' | r' => r') D) (hr : D'.rt = D.rt) (hb : D'.bk = D.bk) (hc : D'.ct = D.ct)
    (h : ∀ ρ S σ F' A' H', Stp F A H F' A' H' → Good K F' A' S H' → RhoR K F' A' ρ σ → PostS K mg Wx F' A' H' (k ρ S) D → D'.nx σ H') : PostS K mg Wx F A H r D' := by
  cases r with
  | nx ρ S => exact fun σ F2 A2 H2 s2 g rr => h ρ S σ F2 A2 H2 s2 g rr (PostS.step s2 p)
  | bk ρ S => exact fun σ F2 A2 H2 s2 g rr => by rw [hb]; exact p σ F2 A2 H2 s2 g rr
  | ct ρ S => exact fun σ F2 A2 H2 s2 g rr => by rw [hc]; exact p σ F2 A2 H2 s2 g rr
  | rt w S => exact fun v F2 A2 H2 s2 g rr => by rw [hr]; exact p v F2 A2 H2 s2 g rr
  | exc x ρ S => exact p
  | err => exact p
theorem es_scons (ha : ∀ ρ S, EvS K mg Wx t ρ S (exS Φ a ρ S)) (hb : ∀ ρ S, EvS K mg Wx u ρ S (exS Φ b ρ S)) : EvS K mg Wx (tSeq t u) ρ S (exS Φ (.scons a b) ρ S) := by
  intro σ F A H gd rr D p
  unfold exS at p
  exact ha ρ S σ F A H gd rr _ (p.then_ rfl rfl rfl fun ρ' S' σ' F1 A1 H1 s1 g1 r1 p1 => hb ρ' S' σ' F1 A1 H1 g1 r1 D p1)
/-- a loop's turn ahead of the rest -/
theorem PostS.loop {r : RS} {k : Rho → Sto → RS} {N : L2.St → Hp → Prop} (p : PostS K mg Wx F A H (match r with | .nx ρ2 S2 => k ρ2 S2 | .ct ρ2 S2 => k ρ2 S2 | .bk ρ2 S2 => .nx ρ2 S2 | r' => r') D)
    (h : ∀ ρ S σ F' A' H', Stp F A H F' A' H' → Good K F' A' S H' → RhoR K F' A' ρ σ → PostS K mg Wx F' A' H' (k ρ S) D → N σ H') : PostS K mg Wx F A H r { D with nx := N, ct := N, bk := D.nx } := by
  cases r with
  | nx ρ S => exact fun σ F2 A2 H2 s2 g rr => h ρ S σ F2 A2 H2 s2 g rr (PostS.step s2 p)
  | bk ρ S => exact p
  | ct ρ S => exact fun σ F2 A2 H2 s2 g rr => h ρ S σ F2 A2 H2 s2 g rr (PostS.step s2 p)
  | rt w S => exact p
  | exc x ρ S => exact p
  | err => exact p
theorem es_for {wi : TI} {g : TG} (hi : ∀ ρ S, EvJ K mg Wx wi ρ S (evI Φ a ρ S)) (hg : EvG K g tg) (hb : ∀ ρ S, EvS K mg Wx t ρ S (exS Φ b ρ S)) : EvS K mg Wx (tFor wi g t) ρ S (exS Φ (.for_ tg a b) ρ S) := by
  intro σ F A H gd rr D p
  unfold exS at p
  refine hi ρ S σ F A H gd rr _ (p.bindI rr fun src S1 J F1 A1 H1 _ s1 g1 ij p1 => ?_)
  generalize hbt : (fun x ρ' S2 => bindT S2 tg x ρ') = bt at p1
  generalize hbd : (fun ρ' S2 => exS Φ b ρ' S2) = bd at p1
  refine ⟨fun i m σ H => ∃ F A S ρ, Good K F A S H ∧ RhoR K F A ρ σ ∧ Stp F1 A1 H1 F A H ∧ m + i = src.xs.length ∧ PostS K mg Wx F A H (forGo src.g bt bd (src.xs.drop i) ρ S) D,
    ⟨src.xs.length, F1, A1, S1, ρ, g1, rr.mono s1, Stp.refl, rfl, p1⟩, ?_⟩
  rintro i m σ2 H2 ⟨F2, A2, S2, ρ2, g2, rr2, s2, hm, p2⟩
  cases hd : src.xs.drop i with
  | nil =>
    rw [hd] at p2
    have hi : src.xs.length ≤ i := List.drop_eq_nil_iff.mp hd
    unfold forGo at p2
    split at p2
    · rename_i hgd
      exact .inl ⟨(ij F2 A2 S2 _ s2.exF s2.exA g2 hgd).2 i hi, p2 σ2 F2 A2 H2 Stp.refl g2 rr2⟩
    · exact p2.elim
  | cons x xs =>
    rw [hd] at p2
    have hx : src.xs[i]? = some x := by
      have := congrArg (fun l => l[0]?) hd
      simpa using this
    have hdr : src.xs.drop (i + 1) = xs := by
      have h1 : (src.xs.drop i).drop 1 = xs := by rw [hd]; rfl
      rw [List.drop_drop] at h1
      exact h1
    have hil : i < src.xs.length := (List.getElem?_eq_some_iff.mp hx).1
    unfold forGo at p2
    split at p2
    case isFalse => exact p2.elim
    rename_i hgd
    obtain ⟨jg, jy⟩ := (ij F2 A2 S2 _ s2.exF s2.exA g2 hgd).1 i x hx
    refine .inr ⟨jg, fun σ H => ∃ m', m' < m ∧ ∃ F A S ρ, Good K F A S H ∧ RhoR K F A ρ σ ∧ Stp F1 A1 H1 F A H ∧ m' + (i + 1) = src.xs.length ∧ PostS K mg Wx F A H (forGo src.g bt bd (src.xs.drop (i + 1)) ρ S) D, fun _ _ h => h, fun v H3 hy => ?_⟩
    obtain ⟨F3, s3, g3, rv⟩ := jy v H3 hy
    split at p2
    case h_2 => exact p2.elim
    rename_i ρ3 hb3
    rw [← hbt] at hb3
    refine hg _ F3 A2 S2 _ g3 x v ρ2 ρ3 (rr2.mono s3) rv hb3 _ fun σ4 rr4 _ => ?_
    refine hb ρ3 S2 σ4 F3 A2 H3 g3 rr4 _ ?_
    have hb' : exS Φ b ρ3 S2 = bd ρ3 S2 := by rw [← hbd]
    rw [hb']
    refine PostS.loop (PostS.step s3 p2) fun ρ5 S5 σ5 F5 A5 H5 s5 g5 r5 p5 => ?_
    exact ⟨m - 1, by omega, F5, A5, S5, ρ5, g5, r5, s2.trans (s3.trans s5), by omega, by rw [hdr]; exact p5⟩
theorem es_wh {tt : TT} {n : Nat} (ht : ∀ ρ S, EvT K mg Wx tt ρ S (tru (evE Φ a ρ S))) (hb : ∀ ρ S, EvS K mg Wx t ρ S (exS Φ b ρ S)) : EvS K mg Wx (tWhile tt t) ρ S (exS Φ (.wh n a b) ρ S) := by
  intro σ F A H gd rr D p
  unfold exS at p
  generalize htt : (fun ρ' S2 => tru (evE Φ a ρ' S2)) = tst at p
  generalize hbd : (fun ρ' S2 => exS Φ b ρ' S2) = bd at p
  refine ⟨fun m σ H => ∃ F A S ρ, Good K F A S H ∧ RhoR K F A ρ σ ∧ PostS K mg Wx F A H (whGo tst bd m ρ S) D, ⟨n, F, A, S, ρ, gd, rr, p⟩, ?_⟩
  rintro m σ2 H2 ⟨F2, A2, S2, ρ2, g2, rr2, p2⟩
  cases m with
  | zero => exact p2.elim
  | succ m =>
    refine ht ρ2 S2 σ2 F2 A2 H2 g2 rr2 _ ?_
    have ht' : tru (evE Φ a ρ2 S2) = tst ρ2 S2 := by rw [← htt]
    rw [ht']
    unfold whGo at p2
    cases et : tst ρ2 S2 with
    | err => rw [et] at p2; exact p2.elim
    | exc x S3 =>
      rw [et] at p2
      exact fun cls d F3 A3 H3 s3 g3 x => p2 cls d σ2 F3 A3 H3 s3 g3 (rr2.mono s3) x
    | ok c S3 =>
      rw [et] at p2
      intro c' F3 A3 H3 s3 g3 rc
      cases rc
      cases c with
      | false =>
        rw [if_neg Bool.false_ne_true]
        exact p2 σ2 F3 A3 H3 s3 g3 (rr2.mono s3)
      | true =>
        rw [if_pos rfl]
        refine ⟨fun σ' H' => ∃ m', m' < m + 1 ∧ ∃ F A S ρ, Good K F A S H' ∧ RhoR K F A ρ σ' ∧ PostS K mg Wx F A H' (whGo tst bd m' ρ S) D, fun _ _ h => h, ?_⟩
        refine hb ρ2 S3 σ2 F3 A3 H3 g3 (rr2.mono s3) _ ?_
        have hb' : exS Φ b ρ2 S3 = bd ρ2 S3 := by rw [← hbd]
        rw [hb']
        refine PostS.loop (PostS.step s3 p2) fun ρ5 S5 σ5 F5 A5 H5 s5 g5 r5 p5 => ?_
        exact ⟨m, Nat.lt_succ_self m, F5, A5, S5, ρ5, g5, r5, p5⟩
end
end Mi

/-! MiM: statements that pass the check do what the interpreter says. -/
namespace Mi
open PySem PySem.Spec PyProof.Rows L2

structure Xok (K : PySem.W.Frag) (mg : Str → Option Value) (C : Ci) (Φ : Phi) (k : Nat) (Wx : WX) (sn : Sn) (X : Cx) : Prop where
  c : Cok K mg C Φ k Wx sn X
  pas : PassesOwn (model X.prog X.w) X.A X.env X.xe
  nm : X.env.scope.names = sn
  kd : X.env.scope.kind = .function
section
variable (K : PySem.W.Frag) (mg : Str → Option Value) (C : Ci) (Φ : Phi) (k : Nat)
def DS (Wx : WX) (sn : Sn) (s : Stmt) (m : M) : Prop := ∃ t, (∀ X, Xok K mg C Φ k Wx sn X → PS X s t) ∧ ∀ ρ S, EvS K mg Wx t ρ S (exS Φ m ρ S)
def DSs (Wx : WX) (sn : Sn) (s : List Stmt) (m : M) : Prop := ∃ t, (∀ X, Xok K mg C Φ k Wx sn X → PSs X s t) ∧ ∀ ρ S, EvS K mg Wx t ρ S (exS Φ m ρ S)
structure Dst (m : M) : Prop where
  s : ∀ Wx sn s, ckS C m sn s = true → DS K mg C Φ k Wx sn s m
  ss : ∀ Wx sn s, ckS.ckSs C m sn s = true → DSs K mg C Φ k Wx sn s m
end
section
variable {K : PySem.W.Frag} {mg : Str → Option Value} {C : Ci} {Φ : Phi} {k : Nat} {Wx : WX} {sn : Sn} {X : Cx}
theorem swF {e : Expr} {o : Option Expr} {l : Nat} {env : Env} (h : notLc e = true) : swapsWith e o l env = pure false := by
  cases e <;> first | rfl | cases h
theorem swC {t e : Expr} {l : Nat} {env : Env} (hn : env.scope.names = sn) (hk : env.scope.kind = .function) (h : (notLc e || isCellT sn t) = true) : swapsWith e (some t) l env = pure false := by
  rcases Bool.or_eq_true _ _ ▸ h with h | h
  · exact swF h
  · unfold isCellT at h
    split at h
    · rename_i x px _
      split at h
      · rename_i hc
        have kx : env.kindOf x = some .cell := by unfold Env.kindOf; rw [hn]; exact hc
        have hb : env.blockKind = .function := by unfold Env.blockKind; rw [hk]; rfl
        cases e <;> first
          | rfl
          | (unfold swapsWith; simp only [hb, kx]; rfl)
      · cases h
    · cases h
theorem d_asg (hT : Tok C Φ) (tg a : M) : Dst K mg C Φ k (.asg tg a) := by
  refine ⟨fun Wx sn s h => ?_, fun _ _ _ h => by cases h⟩
  unfold ckS at h
  split at h
  · rename_i t e p
    simp only [Bool.and_eq_true] at h
    obtain ⟨h1, h2, h3, h4, h5⟩ := h
    obtain ⟨ta, pa, ea⟩ := (d_all (K := K) (mg := mg) (k := k) hT a).e Wx sn _ h4
    obtain ⟨g, pg, eg⟩ := (d_all (K := K) (mg := mg) (k := k) hT tg).g Wx sn _ h5
    refine ⟨_, fun X x => ps_asg (pa X x.c) (pg X x.c) (swC x.nm x.kd h1) ?_ ?_, fun ρ S => es_asg ea eg⟩
    · cases t <;> first
        | rfl
        | (cases e <;> first | rfl | cases h2)
    · rw [assignEach_cons h3]
      rfl
  · cases h
theorem d_asgLc (hT : Tok C Φ) (i : Nat) (a : M) : Dst K mg C Φ k (.asgLc i a) := by
  refine ⟨fun Wx sn s h => ?_, fun _ _ _ h => by cases h⟩
  unfold ckS at h
  split at h
  · rename_i x px elt gs sc ep p
    simp only [Bool.and_eq_true, decide_eq_true_eq] at h
    obtain ⟨h1, h2, h3, h4, h5⟩ := h
    have core : ∀ own tg it ts e, ckE C (.lc own tg it ts e) sn (.ListComp elt gs sc ep) = true → ∃ t, (∀ X, Xok K mg C Φ k Wx sn X → PS X (.Assign [.Name x px] (.ListComp elt gs sc ep) p) (tAsg t (gName i))) ∧ ∀ ρ S, EvN K mg Wx t ρ S (evE Φ (.lc own tg it ts e) ρ S) := fun own tg it ts e h => by
      unfold ckE at h
      split at h
      · rename_i elt' tgE itE ifs sc' p' hq
        cases hq
        simp only [Bool.and_eq_true] at h
        obtain ⟨q1, q2, q3, q4, q5, q6, q7⟩ := h
        obtain ⟨wi, pi, ei⟩ := (d_all (K := K) (mg := mg) (k := k) hT it).i Wx sn _ _ q4
        obtain ⟨g, pg, eg⟩ := (d_all (K := K) (mg := mg) (k := k) hT tg).g NoX sc.names _ q5
        obtain ⟨tt, pt, et⟩ := (d_all (K := K) (mg := mg) (k := k) hT ts).ts NoX sc.names _ q6
        obtain ⟨te, pe, ee⟩ := (d_all (K := K) (mg := mg) (k := k) hT e).e NoX sc.names _ q7
        refine ⟨tLc wi g tt te own, fun X xk => ?_, fun ρ S => ev_lc ei eg (fun i hi => ?_) et ee⟩
        · have c := xk.c
          have hb := c.blkOk (a := true) (b := true) (l := []) (sc := ⟨.function, sn, false, false, []⟩) rfl q1
          have hl : X.env.scope.names.lookup x = some .local := c.lcl _ h2
          have := ps_setLc (elt := elt) (i := i) (py := px) (pos := ep) (spos := p) c.calm (by rw [c.hN]; exact c.nd) (by rw [c.hN]; exact h1) hl (sw_true xk.kd hl h4 (by simpa using h3)) (pi X c) hb (fun s H Ca cl fp => pg _ (c.blk sc s H Ca cl fp)) (fun s H Ca cl fp => pt _ (c.blk sc s H Ca cl fp)) (fun s H Ca cl fp => pe _ (c.blk sc s H Ca cl fp)) (fold_of q2)
          rw [zipOwn_snd] at this
          exact this
        · rw [List.all_eq_true] at q3
          simpa using q3 i hi
      · cases h
    split at h5
    · obtain ⟨t, pt, et⟩ := core _ _ _ _ _ h5
      exact ⟨_, pt, fun ρ S => es_asgLc fun ρ S => (et ρ S).ev⟩
    · obtain ⟨t, pt, et⟩ := core _ _ _ _ _ h5
      exact ⟨_, pt, fun ρ S => es_asgLc fun ρ S => ev_new et⟩
    · cases h5
  · cases h
def starB : Expr → Bool
  | .Starred .. => true
  | _ => false
theorem ns_of {a : Expr} (ha : unst a = true) : starB a = false := by
  cases a <;> first | rfl | cases ha
theorem sw_pair {x y : Str} {px py pt p2 : Pos} {kt k2} {a b : Expr} {env : Env} (hk : env.scope.kind = .function) (hx : env.scope.names.lookup x = some .local) (hy : env.scope.names.lookup y = some .local) (hxy : x ≠ y) (ha : unst a = true) (hb : unst b = true) (hl : (py.line == px.line) = true)
    (h1 : [a, b].all (foldedForSure 8) = false) (h2 : [a, b].all (constantsAlone 8) = false) : swappedStores [.Tuple [.Name x px, .Name y py] kt pt] (.Tuple [a, b] k2 p2) env = pure (some [x, y]) := by
  have kx : env.kindOf x = some .local := hx
  have ky : env.kindOf y = some .local := hy
  have hb' : env.blockKind = .function := by unfold Env.blockKind; rw [hk]; rfl
  have hd : ([x, y] : List Str).eraseDups.length = 2 := by
    rw [List.eraseDups_cons]
    have : (y == x) = false := by
      rw [Bool.eq_false_iff]
      intro h
      exact hxy (beq_iff_eq.mp h).symm
    simp [this, List.eraseDups_cons]
  unfold swappedStores
  simp only [List.length_cons, List.length_nil, hb', List.head?_cons, Option.map_some, Option.getD_some, Expr.pos, List.filterMap_cons, List.filterMap_nil, kx, ky, hl, h1, h2]
  simp [hd]
  intro h
  rcases h with h | h
  · have e := ns_of ha
    cases (h.symm.trans e : true = false)
  · have e := ns_of hb
    cases (h.symm.trans e : true = false)
theorem d_par (hT : Tok C Φ) (i j : Nat) (a b : M) : Dst K mg C Φ k (.par2 i j a b) := by
  refine ⟨fun Wx sn s h => ?_, fun _ _ _ h => by cases h⟩
  unfold ckS at h
  split at h
  · simp only [Bool.and_eq_true, decide_eq_true_eq] at h
    obtain ⟨h1, h2, h3, h4, h5, h6⟩ := h
    unfold swOk at h4
    simp only [Bool.and_eq_true, decide_eq_true_eq, Bool.not_eq_true'] at h4
    obtain ⟨q1, q2, q3, q4, q5, q6, q7, q8⟩ := h4
    obtain ⟨ta, pa, ea⟩ := (d_all (K := K) (mg := mg) (k := k) hT a).e Wx sn _ h5
    obtain ⟨tb, pb, eb⟩ := (d_all (K := K) (mg := mg) (k := k) hT b).e Wx sn _ h6
    refine ⟨_, fun X x => ?_, fun ρ S => es_par ea eb⟩
    have c := x.c
    exact ps_par c.calm (by rw [c.hN]; exact c.nd) (by rw [c.hN]; exact h1) (by rw [c.hN]; exact h2) h3 (c.lcl _ q1) (c.lcl _ q2) (pa_cons (pa X c) (pa_cons (pb X c) pa_nil (star_of q5)) (star_of q4))
      (sw_pair x.kd (c.lcl _ q1) (c.lcl _ q2) q3 q4 q5 q6 q7 q8)
  · cases h
theorem d_aug (hT : Tok C Φ) (i : Nat) (o : O2) (a : M) : Dst K mg C Φ k (.aug i o a) := by
  refine ⟨fun Wx sn s h => ?_, fun _ _ _ h => by cases h⟩
  unfold ckS at h
  split at h
  · simp only [Bool.and_eq_true, decide_eq_true_eq] at h
    obtain ⟨h1, h2, h3, h4, h5⟩ := h
    obtain ⟨ta, pa, ea⟩ := (d_all (K := K) (mg := mg) (k := k) hT a).e Wx sn _ h5
    cases o <;> first | (cases h4; done) | skip
    · have h3' := isOp_eq h3
      cases h3'
      refine ⟨_, fun X x => ?_, fun ρ S => es_aug (f := fun i j => i + j) (fun x y w e => ?_) ea⟩
      · have c := x.c
        obtain ⟨l1, l2⟩ := c.loc _ h2
        exact ps_aug (by rw [c.hN]; exact c.nd) (by rw [c.hN]; exact h1) l1 (pa X c) ip_add l2
      · unfold augW at e
        split at e
        · cases e; exact ⟨_, _, rfl, rfl, rfl⟩
        · rename_i hq; cases hq
        · cases e
    · have h3' := isOp_eq h3
      cases h3'
      refine ⟨_, fun X x => ?_, fun ρ S => es_aug (f := fun i j => i - j) (fun x y w e => ?_) ea⟩
      · have c := x.c
        obtain ⟨l1, l2⟩ := c.loc _ h2
        exact ps_aug (by rw [c.hN]; exact c.nd) (by rw [c.hN]; exact h1) l1 (pa X c) ip_sub l2
      · unfold augW at e
        split at e
        · rename_i hq; cases hq
        · cases e; exact ⟨_, _, rfl, rfl, rfl⟩
        · cases e
  · cases h
theorem d_setix (hT : Tok C Φ) (a b v : M) : Dst K mg C Φ k (.setix a b v) := by
  refine ⟨fun Wx sn s h => ?_, fun _ _ _ h => by cases h⟩
  unfold ckS at h
  split at h
  · simp only [Bool.and_eq_true] at h
    obtain ⟨h0, h1, h2, h3, h4⟩ := h
    obtain ⟨te, pe, ee⟩ := (d_all (K := K) (mg := mg) (k := k) hT v).e Wx sn _ h2
    obtain ⟨ta, pa, ea⟩ := (d_all (K := K) (mg := mg) (k := k) hT a).e Wx sn _ h3
    obtain ⟨tb, pb, eb⟩ := (d_all (K := K) (mg := mg) (k := k) hT b).e Wx sn _ h4
    rename_i x1 y p' e p
    refine ⟨_, fun X x => ps_asg (pe X x.c) (pg_sub (pa X x.c) (pb X x.c) set_list ?_) (show swapsWith e (some (.Subscript x1 y p')) p.line X.env = pure false from swF h1), fun ρ S => es_setix ea eb ee⟩
    intro v
    cases y <;> first | rfl | cases h0
  · cases h
theorem d_ex (hT : Tok C Φ) (a : M) : Dst K mg C Φ k (.ex a) := by
  refine ⟨fun Wx sn s h => ?_, fun _ _ _ h => by cases h⟩
  unfold ckS at h
  split at h
  · simp only [Bool.and_eq_true] at h
    obtain ⟨ta, pa, ea⟩ := (d_all (K := K) (mg := mg) (k := k) hT a).e Wx sn _ h.2
    exact ⟨_, fun X x => ps_expr (pa X x.c) (swF h.1), fun ρ S => es_ex ea⟩
  · cases h
theorem d_ret (hT : Tok C Φ) (a : M) : Dst K mg C Φ k (.ret a) := by
  refine ⟨fun Wx sn s h => ?_, fun _ _ _ h => by cases h⟩
  unfold ckS at h
  split at h
  · obtain ⟨ta, pa, ea⟩ := (d_all (K := K) (mg := mg) (k := k) hT a).e Wx sn _ h
    exact ⟨_, fun X x => ps_ret (pa X x.c), fun ρ S => es_ret ea⟩
  · cases h
theorem d_retN : Dst K mg C Φ k .retN := by
  refine ⟨fun Wx sn s h => ?_, fun _ _ _ h => by cases h⟩
  unfold ckS at h
  split at h
  · exact ⟨_, fun X x => ps_retN, fun ρ S => es_retN⟩
  · cases h
theorem d_ift (hT : Tok C Φ) {t a b : M} (ia : Dst K mg C Φ k a) (ib : Dst K mg C Φ k b) : Dst K mg C Φ k (.ift t a b) := by
  refine ⟨fun Wx sn s h => ?_, fun _ _ _ h => by cases h⟩
  unfold ckS at h
  split at h
  · simp only [Bool.and_eq_true] at h
    obtain ⟨tt, pt, et⟩ := (d_all (K := K) (mg := mg) (k := k) hT t).t Wx sn _ h.1.1 h.1.2
    obtain ⟨ta, pa, ea⟩ := ia.ss Wx sn _ h.2.1
    obtain ⟨tb, pb, eb⟩ := ib.ss Wx sn _ h.2.2
    exact ⟨_, fun X x => ps_if (pt X x.c) (pa X x) (pb X x), fun ρ S => es_ift et ea eb⟩
  · cases h
theorem d_for (hT : Tok C Φ) {tg it body : M} (ib : Dst K mg C Φ k body) : Dst K mg C Φ k (.for_ tg it body) := by
  refine ⟨fun Wx sn s h => ?_, fun _ _ _ h => by cases h⟩
  unfold ckS at h
  split at h
  · simp only [Bool.and_eq_true] at h
    obtain ⟨wi, pi, ei⟩ := (d_all (K := K) (mg := mg) (k := k) hT it).i Wx sn _ _ h.2.1
    obtain ⟨g, pg, eg⟩ := (d_all (K := K) (mg := mg) (k := k) hT tg).g Wx sn _ h.2.2.1
    obtain ⟨tb, pb, eb⟩ := ib.ss Wx sn _ h.2.2.2
    exact ⟨_, fun X x => ps_for x.pas x.c.calm (pi X x.c) (pg X x.c) (pb X x) (fold_of h.1), fun ρ S => es_for ei eg eb⟩
  · cases h
theorem d_wh (hT : Tok C Φ) {n : Nat} {t body : M} (ib : Dst K mg C Φ k body) : Dst K mg C Φ k (.wh n t body) := by
  refine ⟨fun Wx sn s h => ?_, fun _ _ _ h => by cases h⟩
  unfold ckS at h
  split at h
  · simp only [Bool.and_eq_true] at h
    obtain ⟨tt, pt, et⟩ := (d_all (K := K) (mg := mg) (k := k) hT t).t Wx sn _ h.1.1 h.1.2
    obtain ⟨tb, pb, eb⟩ := ib.ss Wx sn _ h.2
    exact ⟨_, fun X x => ps_while x.pas (pt X x.c) (pb X x), fun ρ S => es_wh et eb⟩
  · cases h
theorem d_brk : Dst K mg C Φ k .brk := by
  refine ⟨fun Wx sn s h => ?_, fun _ _ _ h => by cases h⟩
  unfold ckS at h
  split at h
  · exact ⟨_, fun X x => ps_break, fun ρ S => es_brk⟩
  · cases h
theorem d_cnt : Dst K mg C Φ k .cnt := by
  refine ⟨fun Wx sn s h => ?_, fun _ _ _ h => by cases h⟩
  unfold ckS at h
  split at h
  · exact ⟨_, fun X x => ps_continue, fun ρ S => es_cnt⟩
  · cases h
theorem d_pss : Dst K mg C Φ k .pss := by
  refine ⟨fun Wx sn s h => ?_, fun _ _ _ h => by cases h⟩
  unfold ckS at h
  split at h
  · exact ⟨_, fun X x => ps_pass, fun ρ S => es_pss⟩
  · cases h
theorem d_nev : Dst K mg C Φ k .nev := ⟨fun Wx sn s h => ⟨_, fun X x => ps_never, fun ρ S σ F A H g rr D p => p⟩, fun _ _ _ h => by cases h⟩
theorem d_snil : Dst K mg C Φ k .snil := by
  refine ⟨fun _ _ _ h => (by cases h), fun Wx sn s h => ?_⟩
  unfold ckS.ckSs at h
  split at h
  · exact ⟨_, fun X x => pss_nil, fun ρ S => es_snil⟩
  · cases h
theorem d_scons {a b : M} (ia : Dst K mg C Φ k a) (ib : Dst K mg C Φ k b) : Dst K mg C Φ k (.scons a b) := by
  refine ⟨fun _ _ _ h => (by cases h), fun Wx sn s h => ?_⟩
  unfold ckS.ckSs at h
  split at h
  · simp only [Bool.and_eq_true] at h
    obtain ⟨ta, pa, ea⟩ := ia.s Wx sn _ h.1
    obtain ⟨tb, pb, eb⟩ := ib.ss Wx sn _ h.2
    exact ⟨_, fun X x => pss_cons (pa X x) (pb X x), fun ρ S => es_scons ea eb⟩
  · cases h
theorem d_stm (hT : Tok C Φ) : ∀ m, Dst K mg C Φ k m := by
  intro m
  induction m with
  | asg tg e _ _ => exact d_asg hT tg e
  | asgLc i e _ => exact d_asgLc hT i e
  | par2 i j a b _ _ => exact d_par hT i j a b
  | aug i o e _ => exact d_aug hT i o e
  | setix a b e _ _ _ => exact d_setix hT a b e
  | ex e _ => exact d_ex hT e
  | ret e _ => exact d_ret hT e
  | retN => exact d_retN
  | ift t a b _ ia ib => exact d_ift hT ia ib
  | for_ tg it b _ _ ib => exact d_for hT ib
  | wh n t b _ ib => exact d_wh hT ib
  | brk => exact d_brk
  | cnt => exact d_cnt
  | pss => exact d_pss
  | nev => exact d_nev
  | snil => exact d_snil
  | scons a b ia ib => exact d_scons ia ib
  | _ => exact ⟨fun _ _ _ h => (by cases h), fun _ _ _ h => (by cases h)⟩
end
end Mi

/-! MiN: every def of the table keeps the interpreter's promise. -/
namespace Mi
open PySem PySem.Spec PyProof.Rows L2

section
variable {K : PySem.W.Frag} {mg : Str → Option Value} {F F' : Hp} {A A' : List Addr} {H H' : Hp} {S : Sto}
theorem withD_full {fn : Fn} {ws : List W} (h : ws.length = fn.ps.length) : withD fn ws = ws := by
  unfold withD
  rw [h, Nat.sub_self, Nat.sub_zero, List.drop_length]
  exact List.append_nil _
theorem WRs.get {ws : List W} : ∀ {vs : List V} {i : Nat} {w : W}, WRs K F A ws vs → ws[i]? = some w → ∃ v, vs[i]? = some v ∧ WR K F A w v := by
  induction ws with
  | nil => intro vs i w _ e; simp at e
  | cons x ws ih =>
    intro vs i w h e
    cases vs with
    | nil => exact h.elim
    | cons v vs =>
      cases i with
      | zero =>
        simp at e
        subst e
        exact ⟨v, rfl, h.1⟩
      | succ i =>
        obtain ⟨u, e1, e2⟩ := ih (i := i) h.2 (by simpa using e)
        exact ⟨u, by simpa using e1, e2⟩
theorem rho_start {fn : Fn} {ws : List W} {vs : List V} (h : WRs K F A ws vs) : RhoR K F A (startR fn ws) (L2.start fn.N vs) := by
  have hl := h.length
  unfold startR L2.start
  refine ⟨by simp only [List.length_append, List.length_map, List.length_replicate, hl], fun i w e => ?_⟩
  by_cases hi : i < ws.length
  · rw [List.getElem?_append_left (by simpa using hi), List.getElem?_map] at e
    cases q : ws[i]? with
    | none => rw [q] at e; cases e
    | some x =>
      rw [q] at e
      cases e
      obtain ⟨v, e1, e2⟩ := h.get q
      exact ⟨v, by rw [List.getElem?_append_left (by rw [List.length_map, ← hl]; exact hi), List.getElem?_map, e1]; rfl, e2⟩
  · rw [List.getElem?_append_right (by simpa using Nat.le_of_not_lt hi), List.getElem?_replicate] at e
    split at e <;> cases e
theorem fin_post {r : RS} {Q : VK} {E : XK} {n : Nat} (hn : n = A.length) (p : Post K mg (fun cls d _ H' => E cls d H') [] (WR K) F A H (fin n r) Q) : PostS K mg (fun cls d _ H' => E cls d H') F A H r { nx := fun _ H' => Q .non H', rt := Q } := by
  have lv : ∀ (w : W) (S : Sto) (v : V) (F' : Hp) (A' : List Addr) (H' : Hp), Post K mg (fun cls d _ H' => E cls d H') [] (WR K) F A H (leave n w S) Q → Stp F A H F' A' H' → Good K F' A' S H' → WR K F' A' w v → Q v H' := fun w S v F' A' H' p s g r => by
    unfold leave at p
    have s' : Stp F A H F' (A'.take n) H' := by rw [hn]; exact s.cut
    split at p
    · rename_i q
      split at p
      · rename_i hq
        refine p v F' (A'.take n) H' s' (g.cut n) ?_
        obtain ⟨a, e1, e2⟩ := r
        exact ⟨a, by rw [List.getElem?_take, if_pos hq]; exact e1, e2⟩
      · exact p v F' A' H' s g r
    · rename_i hw
      refine p v F' (A'.take n) H' s' (g.cut n) ?_
      cases w with
      | d x => exact r
      | ptr q => exact absurd rfl (hw q)
      | exn x => exact r
  cases r with
  | nx ρ S => exact fun σ F' A' H' s g rr => lv (.d .none) S .non F' A' H' p s g (show Rp K F' .non .none from .non)
  | rt w S => exact fun v F' A' H' s g rr => lv w S v F' A' H' p s g rr
  | bk ρ S => exact p.elim
  | ct ρ S => exact p.elim
  | exc x ρ S => exact fun cls d σ F' A' H' s g rr xr => p cls d F' (A'.take n) H' (by rw [hn]; exact s.cut) (g.cut n) xr
  | err => exact p.elim
end
theorem run_idem (T : List Fn) (n f : Nat) (fn : Fn) (ws : List W) (S : Sto) (hf : T[f]? = some fn) : run T n f ws S = .err ∨ ((withD fn ws).length = fn.ps.length ∧ run T n f (withD fn ws) S = run T n f ws S) := by
  cases n with
  | zero => exact .inl rfl
  | succ n =>
    unfold run
    simp only [hf]
    unfold runF
    by_cases h : (withD fn ws).length = fn.ps.length
    · right
      refine ⟨h, ?_⟩
      rw [withD_full h]
    · left
      rw [if_neg h]

/-- what is known of a def -/
structure Fdef (K : PySem.W.Frag) (mg : Str → Option Value) (T : List Fn) (gI : List (Str × Int)) (gS : List (Str × Str)) (gF : List Str) (fn : Fn) (a : Addr) (fd : FuncData) : Prop where
  mgf : mg fn.name = some (.ref a)
  ex : ∃ qual params body scope, FunD K fn.name qual params body scope (fn.dv.map dV) [] a fd ∧ C8.scC fn.N fn.ps scope = true ∧ ckS.ckSs ⟨T, gI, gS, gF, fn.N⟩ fn.body scope.names body = true
  bd : ∀ j, ∃ ds, Vals ((fn.dv.drop j).map dV) ds ∧ Binds K fd fn.ps ds
  ba : fn.dv = [] → ∀ (s : Shared) (us : List Value), us.length = fn.ps.length → BindsTo s fd ⟨us, []⟩ (fn.ps.zip us)
structure Facts (K : PySem.W.Frag) (mg : Str → Option Value) (T : List Fn) (gI : List (Str × Int)) (gS : List (Str × Str)) (gF : List Str) : Prop where
  cI : ∀ x j, (x, j) ∈ gI → ∃ u, mg x = some u ∧ RelV (.int j) u
  cS : ∀ x j, (x, j) ∈ gS → ∃ u, mg x = some u ∧ RelV (.str j) u
  cF : ∀ x ∈ gF, mg x = none
  dv : ∀ (f : Nat) (fn : Fn), T[f]? = some fn → fn.dv.all dOk = true
  fns : ∀ (f : Nat) (fn : Fn), T[f]? = some fn → ∃ a fd, Fdef K mg T gI gS gF fn a fd
theorem sound {P : Program} {w : World} {K : PySem.W.Frag} {mg : Str → Option Value} {base : Heap} {T : List Fn} {gI : List (Str × Int)} {gS : List (Str × Str)} {gF : List Str} (hF : Facts K mg T gI gS gF) :
    ∀ (n f : Nat) (fn : Fn), T[f]? = some fn → ∀ a fd, Fdef K mg T gI gS gF fn a fd → FnOk P w K mg base (L2.CX P w) n a fd fn.ps (spW K mg fn (run T n f)) := by
  intro n
  induction n with
  | zero =>
    intro f fn hf a fd D
    refine ⟨fun vs H Q E h => h.1, fun A outer s H args us vs Q E hr e0 hb hv h => ?_⟩
    obtain ⟨_, F, A, S, ws, _, _, p⟩ := h
    exact p.elim
  | succ n ih =>
    intro f fn hf a fd D
    obtain ⟨qual, params, body, scope, hD, hsc, hck⟩ := D.ex
    have hS := C8.fnScope_by hsc
    refine hD.ok hS (fun vs H Q E h => h.1) fun cdv A outer s H vs Q E hr h => ?_
    obtain ⟨hl, F, A1, S, ws, g, rs, p⟩ := h
    have hT : Tok ⟨T, gI, gS, gF, fn.N⟩ (run T n) := ⟨hF.dv, fun f fn ws S hf => run_idem T n f fn ws S hf⟩
    obtain ⟨t, pt, et⟩ := (d_stm (K := K) (mg := mg) (C := ⟨T, gI, gS, gF, fn.N⟩) (Φ := run T n) (k := n) hT fn.body).ss (fun cls d _ H' => E cls d H') scope.names body hck
    refine ⟨t, pt _ ⟨⟨rfl, rfl, rfl, hS.nd, rfl, hr, fun x h => isVis_eq h, fun x h => ⟨isLoc_eq h, .inl rfl⟩, fun x h => isLcl_eq h, fun x h => isGl_eq h, fun x h => h, takes_of rfl rfl rfl rfl, ⟨hF.cI, hF.cS, hF.cF, fun f fn hf => ?_⟩⟩, passes_of rfl, rfl, hS.kind⟩, ?_⟩
    · obtain ⟨a, fd, D⟩ := hF.fns f fn hf
      obtain ⟨_, _, _, _, hD, _, _⟩ := D.ex
      exact ⟨a, fd, D.mgf, hD.kp, ih f fn hf a fd D, D.bd⟩
    have hw : ws.length = fn.ps.length := rs.length.trans hl
    have e : run T (n + 1) f ws S = fin S.length (exS (run T n) fn.body (startR fn ws) S) := by
      show (match T[f]? with | some fn => runF (run T n) fn ws S | none => .err) = _
      rw [hf]
      show runF (run T n) fn ws S = _
      unfold runF
      rw [withD_full hw, if_pos hw]
    rw [e] at p
    exact et _ _ _ F A1 H g (rho_start rs) _ (fin_post g.len.symm p)
end Mi

/-! MiO: from the head to the interpreter. -/
namespace Mi
open PySem PySem.Spec PyProof.Rows L2

theorem look_zip : ∀ {ns : List Str} {us : List Value}, ns.Nodup → us.length = ns.length → ∀ n ∈ ns, ((ns.zip us).lookup n).isNone = false
  | [], _, _, _, n, h => by cases h
  | m :: ns, [], _, h, _, _ => by cases h
  | m :: ns, u :: us, nd, hl, n, h => by
    rw [List.zip_cons_cons, List.lookup_cons]
    cases e : n == m with
    | true => rfl
    | false =>
      rcases List.mem_cons.mp h with z | z
      · rw [z, beq_self_eq_true] at e; cases e
      · exact look_zip (List.nodup_cons.mp nd).2 (by simpa using hl) n z
theorem fm_zip : ∀ {ns : List Str} {us : List Value} {l : List (Str × Value)}, ns.Nodup → us.length = ns.length → (∀ n ∈ ns, l.lookup n = (ns.zip us).lookup n) → ns.filterMap (fun n => (l.lookup n).map (n, ·)) = ns.zip us
  | [], _, _, _, _, _ => rfl
  | m :: ns, [], _, _, h, _ => by cases h
  | m :: ns, u :: us, l, nd, hl, h => by
    have h0 := h m (List.mem_cons_self ..)
    rw [List.zip_cons_cons, List.lookup_cons, beq_self_eq_true] at h0
    rw [List.filterMap_cons, h0]
    show (m, u) :: _ = _
    rw [List.zip_cons_cons]
    refine congrArg _ (fm_zip (List.nodup_cons.mp nd).2 (by simpa using hl) fun n hn => ?_)
    rw [h n (List.mem_cons_of_mem _ hn), List.zip_cons_cons, List.lookup_cons]
    have : (n == m) = false := by
      rw [Bool.eq_false_iff]
      intro z
      rw [beq_iff_eq] at z
      exact (List.nodup_cons.mp nd).1 (z ▸ hn)
    rw [this]
theorem bind_plain {x qual : Str} {as : List Arg} {body : List Stmt} {scope : Scope} {kV doc pm : Value} {an : Option Addr} {cdv ct : Value} {us : List Value} {dd : List Expr} (nd : (as.map (·.arg)).Nodup) (hl : us.length = (as.map (·.arg)).length) :
    bindArgs (PySem.W.fnOf x qual ⟨[], as, none, [], [], none, dd⟩ body scope .none kV doc pm an cdv ct) ⟨us, []⟩ = pure ((as.map (·.arg)).zip us) := by
  have e1 : (List.filter (fun n => (((as.map (·.arg)).zip us).lookup n).isNone) (as.map (·.arg))) = [] := by
    rw [List.filter_eq_nil_iff]
    intro n hn
    rw [look_zip nd hl n hn]
    exact Bool.false_ne_true
  have e2 := fm_zip (l := (as.map (·.arg)).zip us) nd hl fun _ _ => rfl
  have s0 : seqItems? Value.none = pure none := rfl
  unfold bindArgs PySem.W.fnOf
  simp only [List.map_nil, List.nil_append, List.append_nil, List.forIn_nil, pure_bind, s0, Option.getD_none, List.drop_nil, List.length_nil, Nat.sub_zero, List.take_length, List.zip_nil_right, hl, e1, e2]
  simp [e1, e2]

/-! ### the head's data, from the table -/
def toDv : PyData → He.Dv
  | .bool b => .bl b
  | .int i => .int i
  | .str x => .str x
  | _ => .non
theorem toDv_v {K : PySem.W.Frag} : ∀ {ds : List PyData}, ds.all dOk = true → (ds.map toDv).map (He.Dv.v K) = ds.map dV
  | [], _ => rfl
  | d :: ds, h => by
    rw [List.all_cons, Bool.and_eq_true] at h
    have e : He.Dv.v K (toDv d) = dV d := by
      cases d <;> first | rfl | cases h.1
    show He.Dv.v K (toDv d) :: (ds.map toDv).map (He.Dv.v K) = dV d :: ds.map dV
    rw [e, toDv_v h.2]
def stAt (p : Program) (i : Nat) : Stmt := p.main.body.getD i (.Pass ⟨0, 0, 0, 0⟩)
def mkD (f : Fn) (st : Stmt) : He.DefD := ⟨(f.name, none), f.name, f.name, defArgs st, defBody st, defScope st, f.dv.map toDv, []⟩
def fnD (p : Program) (T : List Fn) (ix : List Nat) : List He.DefD := List.zipWith (fun f i => mkD f (stAt p i)) T ix
def faOf (T : List Fn) (gI : List (Str × Int)) (gS : List (Str × Str)) (gF : List Str) : List He.Fa := T.map (fun f => .glo f.name) ++ (gI.map (fun q => .int q.1 q.2) ++ (gS.map (fun q => .str q.1 q.2) ++ gF.map .free))
def plainP (ps : List Str) : Arguments → Bool
  | ⟨[], as, none, [], [], none, _⟩ => decide (as.map (·.arg) = ps) && decide ps.Nodup
  | _ => false
def okF (T : List Fn) (gI : List (Str × Int)) (gS : List (Str × Str)) (gF : List Str) (f : Fn) (st : Stmt) : Bool :=
  f.dv.all dOk && (plainP f.ps (defArgs st) && (C8.scC f.N f.ps (defScope st) && ckS.ckSs ⟨T, gI, gS, gF, f.N⟩ f.body (defScope st).names (defBody st)))
def okAll (p : Program) (T : List Fn) (ix : List Nat) (gI : List (Str × Int)) (gS : List (Str × Str)) (gF : List Str) : Bool :=
  decide (T.length = ix.length) && (List.zipWith (fun f i => okF T gI gS gF f (stAt p i)) T ix).all id
/-- a def's defaults, bound -/
def BdOk (f : Fn) (st : Stmt) : Prop := f.dv ≠ [] → ∀ n j, j ≤ f.dv.length → n + (f.dv.length - j) = f.ps.length → ∀ (T : Addr) (kV doc pm : Value) (an : Option Addr) (cdv ct : Value) (us its : List Value), us.length = n → its.length = f.dv.length →
  ∃ k, bindArgs (PySem.W.fnOf f.name f.name (defArgs st) (defBody st) (defScope st) (.ref T) kV doc pm an cdv ct) ⟨us, []⟩ = seqItems? (.ref T) >>= k ∧ k (some its.toArray) = pure (f.ps.zip (us ++ its.drop j))
theorem Binds.out {K : PySem.W.Frag} {fd : FuncData} {ps : List Str} {ds : List Value} (h : ps.length < ds.length) : Binds K fd ps ds := fun s us _ hl => by
  rw [List.length_append] at hl
  omega
theorem facts_of {p : Program} {K : PySem.W.Frag} {h : Heap} {mg : Str → Option Value} {T : List Fn} {ix : List Nat} {gI : List (Str × Int)} {gS : List (Str × Str)} {gF : List Str} (X : K.In h) (G : h.Ns mainGlobals mg)
    (c : He.SaysD (faOf T gI gS gF) (fnD p T ix) K) (ok : okAll p T ix gI gS gF = true) (hb : ∀ (i j : Nat) (f : Fn), T[i]? = some f → ix[i]? = some j → BdOk f (stAt p j)) : Facts K mg T gI gS gF := by
  unfold okAll at ok
  rw [Bool.and_eq_true, decide_eq_true_eq] at ok
  obtain ⟨hl, ok⟩ := ok
  have at_ : ∀ (i : Nat) (f : Fn), T[i]? = some f → ∃ j, ix[i]? = some j ∧ okF T gI gS gF f (stAt p j) = true := fun i f hf => by
    have hi := (List.getElem?_eq_some_iff.mp hf).1
    obtain ⟨j, hj⟩ : ∃ j, ix[i]? = some j := ⟨ix[i]'(by omega), List.getElem?_eq_getElem (by omega)⟩
    refine ⟨j, hj, ?_⟩
    rw [List.all_eq_true] at ok
    refine ok _ (List.mem_of_getElem? (i := i) ?_)
    rw [List.getElem?_zipWith, hf, hj]
    rfl
  refine ⟨fun x j hx => ?_, fun x j hx => ?_, fun x hx => ?_, fun i f hf => ?_, fun i f hf => ?_⟩
  · obtain ⟨t, e⟩ := He.int_ok X G (c.facts (f := .int x j) (by
      unfold faOf
      exact List.mem_append_right _ (List.mem_append_left _ (List.mem_map.mpr ⟨(x, j), hx, rfl⟩))))
    exact ⟨_, e, t, rfl⟩
  · obtain ⟨t, e⟩ := He.str_ok X G (c.facts (f := .str x j) (by
      unfold faOf
      exact List.mem_append_right _ (List.mem_append_right _ (List.mem_append_left _ (List.mem_map.mpr ⟨(x, j), hx, rfl⟩)))))
    exact ⟨_, e, t, rfl⟩
  · exact He.free_ok X G (c.facts (f := .free x) (by
      unfold faOf
      exact List.mem_append_right _ (List.mem_append_right _ (List.mem_append_right _ (List.mem_map.mpr ⟨x, hx, rfl⟩)))))
  · obtain ⟨j, _, q⟩ := at_ i f hf
    unfold okF at q
    rw [Bool.and_eq_true] at q
    exact q.1
  · obtain ⟨j, hj, q⟩ := at_ i f hf
    unfold okF at q
    simp only [Bool.and_eq_true] at q
    obtain ⟨q1, q2, q3, q4⟩ := q
    obtain ⟨fd, F⟩ := c.def_ i (d := mkD f (stAt p j)) (by unfold fnD; rw [List.getElem?_zipWith, hf, hj])
    have F' : FunD K f.name f.name (defArgs (stAt p j)) (defBody (stAt p j)) (defScope (stAt p j)) (f.dv.map dV) [] (He.fAd K (f.name, none)) fd := by
      have e : (mkD f (stAt p j)).dvs K = f.dv.map dV := toDv_v q1
      rw [← e]
      exact F
    have hN : ∀ (hd : f.dv = []) (kV doc pm : Value) (an : Option Addr) (cdv ct : Value) (us : List Value), us.length = f.ps.length → bindArgs (PySem.W.fnOf f.name f.name (defArgs (stAt p j)) (defBody (stAt p j)) (defScope (stAt p j)) .none kV doc pm an cdv ct) ⟨us, []⟩ = pure (f.ps.zip us) := fun hd kV doc pm an cdv ct us hu => by
      unfold plainP at q2
      split at q2
      · rename_i as dd he
        rw [Bool.and_eq_true, decide_eq_true_eq, decide_eq_true_eq] at q2
        obtain ⟨r1, r2⟩ := q2
        rw [he, ← r1]
        exact bind_plain (by rw [r1]; exact r2) (by rw [r1]; exact hu)
      · cases q2
    have hF0 : f.dv = [] → FunD K f.name f.name (defArgs (stAt p j)) (defBody (stAt p j)) (defScope (stAt p j)) [] [] (He.fAd K (f.name, none)) fd := fun hd => by
      rw [hd] at F'
      exact F'
    refine ⟨_, fd, ⟨He.glo_ok X G (c.facts (f := .glo f.name) (by
      unfold faOf
      exact List.mem_append_left _ (List.mem_map.mpr ⟨f, List.mem_of_getElem? hf, rfl⟩))), ⟨_, _, _, _, F', q3, q4⟩, fun j' => ?_, fun hd s us hu => (hF0 hd).bindsA (ps := f.ps) (hN hd) s us hu⟩⟩
    by_cases hd : f.dv = []
    · exact ⟨[], by rw [hd, List.drop_nil]; exact .nil, (hF0 hd).bindsN (hN hd)⟩
    · have F1 := F'
      by_cases hj' : f.dv.length ≤ j'
      · -- none of them is needed
        have e0 : f.dv.drop j' = f.dv.drop f.dv.length := by rw [List.drop_eq_nil_of_le hj', List.drop_length]
        obtain ⟨ds, d1, d2⟩ := FunD.binds1 (ps := f.ps) F1 f.ps.length f.dv.length (by simpa using hd) (by rw [List.length_map]; omega) (fun T kV doc pm an cdv ct us its h1 h2 => hb i j f hf hj hd _ f.dv.length (Nat.le_refl _) (by omega) T kV doc pm an cdv ct us its h1 (by rw [h2, List.length_map]))
        refine ⟨ds, ?_, d2⟩
        rw [e0, List.map_drop]
        exact d1
      · by_cases hn : f.dv.length - j' ≤ f.ps.length
        · obtain ⟨ds, d1, d2⟩ := FunD.binds1 (ps := f.ps) F1 (f.ps.length - (f.dv.length - j')) j' (by simpa using hd) (by rw [List.length_map]; omega) (fun T kV doc pm an cdv ct us its h1 h2 => hb i j f hf hj hd _ j' (by omega) (by omega) T kV doc pm an cdv ct us its h1 (by rw [h2, List.length_map]))
          exact ⟨ds, by rw [List.map_drop]; exact d1, d2⟩
        · -- more defaults than parameters: never bound
          obtain ⟨oc, od, dVv, kVv, doc, pm, an, cdv, ct, osl, rfl, lk, hcd, hD, hK⟩ := F1.ex
          rcases hD with ⟨e, _⟩ | ⟨_, Ta, o, its, m, rfl, lT, oT, rT⟩
          · exact absurd e (by simpa using hd)
          · refine ⟨its.drop j', by rw [List.map_drop]; exact rT.drop j', Binds.out ?_⟩
            have := rT.length
            rw [List.length_map] at this
            rw [List.length_drop]
            omega

/-! ### the end -/
theorem ints_rps {K : PySem.W.Frag} {F : Hp} : ∀ ns : List Int, Rps K F (ns.map V.int) (ns.map PyData.int)
  | [] => .nil
  | n :: ns => .cons (.int n) (ints_rps ns)
theorem walk_mi {l : PySem.W.OpenLaw} {n k : Nat} {q : Program} {loose : List Str} {XP : (Str → Option Value) → Heap → Prop} {d : DefRec} {x : Str} {p : Program} {T : List Fn} {ix : List Nat} {gI : List (Str × Int)} {gS : List (Str × Str)} {gF : List Str} {j : Nat} {fn : Fn} {w0 : World → Heap → Prop}
    (hn : l.most = some n) (hn2 : n ≤ lim) (hdf : d.params.defaults = []) (hr : Room k callerA) (hdn : d.name = fn.name) (hj : T[j]? = some fn) (hps : fn.ps = [x]) (hdv : fn.dv = [])
    (hw0 : ∀ w h, w0 w h → ∃ K, K.In h ∧ He.SaysD (faOf T gI gS gF) (fnD p T ix) K) (ok : okAll p T ix gI gS gF = true) (hb : ∀ (i j : Nat) (f : Fn), T[i]? = some f → ix[i]? = some j → BdOk f (stAt p j))
    (hrun : ∀ ns : List Int, ns.length ≤ n → (∀ k ∈ ns, Builtin.Int.intBits k ≤ 1048576) → ∃ S, run T k j [.d (.list (ns.map .int))] [] = .ok (.d (.bool true)) S) :
    PySem.W.WalkO q loose XP w0 l.row.toRowW d [] (fun f vs => PySem.call f vs) := by
  refine Att.attach_callB hn hdf fun w s₀ s₁ mg mb fa o pm cd doc a vs ns G Y ho hd hcd hmg hobj hints hlen hbits hg => ?_
  obtain ⟨K, KX, c⟩ := hw0 w _ Y
  have F := facts_of KX G.T.g c ok hb
  obtain ⟨a0, fd0, D⟩ := F.fns j fn hj
  have ea : a0 = fa := by
    have e := D.mgf
    rw [← hdn, hmg] at e
    cases e
    rfl
  subst ea
  refine law_call (sp := spW K mg fn (run T k j)) (fd := fd0) (x := x) (CX := L2.CX l.prog w) KX G.T.g G.T.b G.T.builtins G.T.nolimit hg hobj hints (Nat.le_trans hlen (Nat.le_trans hn2 (by decide))) hr (fun base hB hN => ?_) (fun s u => ?_) (fun H hO hS => ?_) fun H e s' hc => ?_
  · have := sound (P := l.prog) (w := w) (base := base) F k j fn hj a0 fd0 D
    rw [hps] at this
    exact this
  · have := D.ba hdv s [u] (by rw [hps]; rfl)
    rw [hps] at this
    exact this
  · obtain ⟨S, e⟩ := hrun ns hlen hbits
    refine ⟨by rw [hps]; rfl, H, [], [], [.d (.list (ns.map .int))], ⟨rfl, List.nodup_nil, Ex.refl H, fun a ha => (by cases ha), fun p a mo ha => (by simp at ha)⟩, ⟨show Rp K H _ _ from .lst hS (ints_rps ns), trivial⟩, ?_⟩
    rw [e]
    intro v F' A' H' _ _ hv
    cases hv
    rfl
  · obtain ⟨_, _, _, _, _, _, _, _, _, _, _, _, h⟩ := hc
    exact h
end Mi

/-! MiP: the interpreter, step by step. -/
namespace Mi
open PySem
section
variable {Φ : Phi} {x : Option W} {ρ : Rho} {S : Sto}
@[simp] theorem x_var {i : Nat} : evE Φ (.var i) (x :: ρ) S = (match (x :: ρ)[i]? with | some (some w) => .ok w S | _ => .err) := rfl
@[simp] theorem x_int {k : Int} : evE Φ (.int k) ρ S = .ok (.d (.int k)) S := rfl
@[simp] theorem x_str {k : Str} : evE Φ (.str k) ρ S = .ok (.d (.str k)) S := rfl
@[simp] theorem x_bl {k : Bool} : evE Φ (.bl k) ρ S = .ok (.d (.bool k)) S := rfl
@[simp] theorem x_non : evE Φ .non ρ S = .ok (.d .none) S := rfl
@[simp] theorem x_gi {n : Str} {k : Int} : evE Φ (.gi n k) ρ S = .ok (.d (.int k)) S := rfl
@[simp] theorem x_gs {n k : Str} : evE Φ (.gs n k) ρ S = .ok (.d (.str k)) S := rfl
@[simp] theorem x_o2 {k : O2} {a b : M} : evE Φ (.o2 k a b) (x :: ρ) S = (evE Φ a (x :: ρ) S).bind fun u S1 => (evE Φ b (x :: ρ) S1).bind fun v S2 => R.ofO (Mi.o2 k S2 u v) S2 := rfl
@[simp] theorem x_ch {k1 k2 : O2} {a b c : M} : evE Φ (.ch k1 k2 a b c) (x :: ρ) S = (evE Φ a (x :: ρ) S).bind fun u S1 => (evE Φ b (x :: ρ) S1).bind fun v S2 => (tru (R.ofO (Mi.o2 k1 S2 u v) S2)).bind fun t S3 =>
      if t then (evE Φ c (x :: ρ) S3).bind fun z S4 => R.ofO (Mi.o2 k2 S4 v z) S4 else .ok (.d (.bool false)) S3 := rfl
@[simp] theorem x_neg {a : M} : evE Φ (.neg a) (x :: ρ) S = (evE Φ a (x :: ρ) S).bind fun x S1 => match x with
    | .d (.int i) => .ok (.d (.int (-i))) S1
    | _ => .err := rfl
@[simp] theorem x_and {a b : M} : evE Φ (.and2 a b) (x :: ρ) S = (tru (evE Φ a (x :: ρ) S)).bind fun t S1 => if t then evE Φ b (x :: ρ) S1 else .ok (.d (.bool false)) S1 := rfl
@[simp] theorem x_or {a b : M} : evE Φ (.or2 a b) (x :: ρ) S = (tru (evE Φ a (x :: ρ) S)).bind fun t S1 => if t then .ok (.d (.bool true)) S1 else evE Φ b (x :: ρ) S1 := rfl
@[simp] theorem x_one {a : M} : evE Φ (.one a) (x :: ρ) S = evE Φ a (x :: ρ) S := rfl
@[simp] theorem x_not {a : M} : evE Φ (.not1 a) (x :: ρ) S = (tru (evE Φ a (x :: ρ) S)).bind fun t S1 => .ok (.d (.bool (!t))) S1 := rfl
@[simp] theorem x_ife {t a b : M} : evE Φ (.ife t a b) (x :: ρ) S = (tru (evE Φ t (x :: ρ) S)).bind fun t S1 => if t then evE Φ a (x :: ρ) S1 else evE Φ b (x :: ρ) S1 := rfl
@[simp] theorem x_tup {a : M} : evE Φ (.tup a) (x :: ρ) S = mkL (evA Φ a (x :: ρ) S) tupW := rfl
@[simp] theorem x_lst {a : M} : evE Φ (.lst a) (x :: ρ) S = mkL (evA Φ a (x :: ρ) S) lstW := rfl
@[simp] theorem x_call {f : Nat} {a : M} : evE Φ (.call f a) (x :: ρ) S = (evA Φ a (x :: ρ) S).bind fun ws S1 => Φ f ws S1 := rfl
@[simp] theorem x_bi {k : Bi} {a : M} : evE Φ (.bi k a) (x :: ρ) S = (evA Φ a (x :: ρ) S).bind fun ws S1 => R.ofO (Mi.bi k S1 ws) S1 := rfl
@[simp] theorem x_isi {t : String} {a : M} : evE Φ (.isi t a) (x :: ρ) S = (evE Φ a (x :: ρ) S).bind fun u S1 => R.ofO (isiW t S1 u) S1 := rfl
@[simp] theorem x_mt {k : Mt} {a b : M} : evE Φ (.mt k a b) (x :: ρ) S = (evE Φ a (x :: ρ) S).bind fun u S1 => if mtTy k S1 u then (evA Φ b (x :: ρ) S1).bind fun ws S2 => R.ofP (Mi.mt k S2 u ws) else .err := rfl
@[simp] theorem x_ix {a b : M} : evE Φ (.ix a b) (x :: ρ) S = (evE Φ a (x :: ρ) S).bind fun u S1 => (evE Φ b (x :: ρ) S1).bind fun v S2 => R.ofO (ixW S2 u v) S2 := rfl
@[simp] theorem x_sl {a b c : M} : evE Φ (.sl a b c) (x :: ρ) S = (evE Φ a (x :: ρ) S).bind fun u S1 => (evO Φ b (x :: ρ) S1).bind fun l S2 => (evO Φ c (x :: ρ) S2).bind fun h S3 => R.ofO (slW S3 u l h) S3 := rfl
theorem x_lc {own : List Nat} {tg it ts e : M} : evE Φ (.lc own tg it ts e) ρ S = (evI Φ it ρ S).bind fun src S1 => lcGo src.g (fun x S2 => bindT S2 tg x (wipeR ρ own)) (fun ρ' S2 => evT Φ ts ρ' S2) (fun ρ' S2 => evE Φ e ρ' S2) src.xs S1 [] := rfl
@[simp] theorem x_new {a : M} : evE Φ (.new a) (x :: ρ) S = (evE Φ a (x :: ρ) S).bind fun x S1 => match x with
    | .d (.list xs) => .ok (.ptr S1.length) (S1 ++ [.lst xs])
    | _ => .err := rfl
@[simp] theorem x_frz {a : M} : evE Φ (.frz a) (x :: ρ) S = (evE Φ a (x :: ρ) S).bind fun x S1 => match x with
    | .ptr p => (match S1[p]? with
      | some (.lst xs) => .ok (.d (.list xs)) (S1.set p .dead)
      | _ => .err)
    | _ => .err := rfl
@[simp] theorem x_anil : evA Φ .anil ρ S = .ok [] S := rfl
@[simp] theorem x_acons {a r : M} : evA Φ (.acons a r) (x :: ρ) S = (evE Φ a (x :: ρ) S).bind fun u S1 => (evA Φ r (x :: ρ) S1).bind fun xs S2 => .ok (u :: xs) S2 := rfl
@[simp] theorem x_nop : evO Φ .nop ρ S = .ok none S := rfl
@[simp] theorem x_some {a : M} : evO Φ (.one a) (x :: ρ) S = (evE Φ a (x :: ρ) S).bind fun x S1 => match x with
    | .d (.int i) => .ok (some i) S1
    | _ => .err := rfl
@[simp] theorem x_tnil : evT Φ .anil ρ S = .ok true S := rfl
@[simp] theorem x_tone {a : M} : evT Φ (.one a) (x :: ρ) S = tru (evE Φ a (x :: ρ) S) := rfl
@[simp] theorem x_itE {a : M} : evI Φ (.itE a) (x :: ρ) S = (evE Φ a (x :: ρ) S).bind fun w S1 => R.ofO (srcW S1 w) S1 := rfl
@[simp] theorem x_itR {a : M} : evI Φ (.itR a) (x :: ρ) S = (evA Φ a (x :: ρ) S).bind fun ws S1 => R.ofO (srcR ws) S1 := rfl
@[simp] theorem x_itN {a : M} : evI Φ (.itN a) (x :: ρ) S = (evE Φ a (x :: ρ) S).bind fun w S1 => R.ofO (srcN S1 w) S1 := rfl
@[simp] theorem x_itZ {a b : M} : evI Φ (.itZ a b) (x :: ρ) S = (evE Φ a (x :: ρ) S).bind fun u S1 => (evE Φ b (x :: ρ) S1).bind fun v S2 => match u, v with
    | .d (.list xs), .d (.list ys) => .ok ⟨zipL xs ys, none⟩ S2
    | _, _ => .err := rfl
@[simp] theorem x_tru {b : Bool} : tru (.ok (.d (.bool b)) S) = .ok b S := rfl
@[simp] theorem x_mkL {ws : List W} {f : List PyData → Option W} : mkL (.ok ws S) f = R.ofO ((dats? ws).bind f) S := rfl
@[simp] theorem x_dnil : dats? [] = some [] := rfl
@[simp] theorem x_dcons {d : PyData} {r : List W} : dats? (.d d :: r) = (dats? r).map (d :: ·) := rfl
@[simp] theorem x_ofP {w : W} : R.ofP (some (w, S)) = .ok w S := rfl
/-! statements -/
@[simp] theorem s_asg {tg e : M} : exS Φ (.asg tg e) (x :: ρ) S = (evE Φ e (x :: ρ) S).st (x :: ρ) fun w S1 => RS.ofO (bindT S1 tg w (x :: ρ)) S1 := rfl
@[simp] theorem s_asgLc {i : Nat} {e : M} : exS Φ (.asgLc i e) (x :: ρ) S = (evE Φ e (x :: ρ) S).st (x :: ρ) fun w S1 => RS.ofO (if i < (x :: ρ).length then some ((x :: ρ).set i (some w)) else none) S1 := rfl
@[simp] theorem s_par {i j : Nat} {a b : M} : exS Φ (.par2 i j a b) (x :: ρ) S = (evE Φ a (x :: ρ) S).st (x :: ρ) fun u S1 => (evE Φ b (x :: ρ) S1).st (x :: ρ) fun v S2 => if i < (x :: ρ).length ∧ j < (x :: ρ).length then .nx (((x :: ρ).set i (some u)).set j (some v)) S2 else .err := rfl
@[simp] theorem s_aug {i : Nat} {k : O2} {e : M} : exS Φ (.aug i k e) (x :: ρ) S = (match (x :: ρ)[i]? with
    | some (some u) => (evE Φ e (x :: ρ) S).st (x :: ρ) fun y S1 => match augW k u y with
      | some z => .nx ((x :: ρ).set i (some z)) S1
      | none => .err
    | _ => .err) := rfl
@[simp] theorem s_setix {a b e : M} : exS Φ (.setix a b e) (x :: ρ) S = (evE Φ e (x :: ρ) S).st (x :: ρ) fun v S1 => (evE Φ a (x :: ρ) S1).st (x :: ρ) fun u S2 => (evE Φ b (x :: ρ) S2).st (x :: ρ) fun i S3 => match setW S3 u i v with
    | some S4 => .nx (x :: ρ) S4
    | none => .err := rfl
@[simp] theorem s_ex {e : M} : exS Φ (.ex e) (x :: ρ) S = (evE Φ e (x :: ρ) S).st (x :: ρ) fun _ S1 => .nx (x :: ρ) S1 := rfl
@[simp] theorem s_ret {e : M} : exS Φ (.ret e) (x :: ρ) S = (evE Φ e (x :: ρ) S).st (x :: ρ) fun w S1 => .rt w S1 := rfl
@[simp] theorem s_retN : exS Φ .retN ρ S = .rt (.d .none) S := rfl
@[simp] theorem s_ift {t a b : M} : exS Φ (.ift t a b) (x :: ρ) S = (tru (evE Φ t (x :: ρ) S)).st (x :: ρ) fun c S1 => if c then exS Φ a (x :: ρ) S1 else exS Φ b (x :: ρ) S1 := rfl
theorem s_for {tg it body : M} : exS Φ (.for_ tg it body) ρ S = (evI Φ it ρ S).st ρ fun src S1 => forGo src.g (fun x ρ' S2 => bindT S2 tg x ρ') (fun ρ' S2 => exS Φ body ρ' S2) src.xs ρ S1 := rfl
theorem s_wh {n : Nat} {t body : M} : exS Φ (.wh n t body) ρ S = whGo (fun ρ' S2 => tru (evE Φ t ρ' S2)) (fun ρ' S2 => exS Φ body ρ' S2) n ρ S := rfl
@[simp] theorem s_brk : exS Φ .brk ρ S = .bk ρ S := rfl
@[simp] theorem s_cnt : exS Φ .cnt ρ S = .ct ρ S := rfl
@[simp] theorem s_pss : exS Φ .pss ρ S = .nx ρ S := rfl
@[simp] theorem s_nev : exS Φ .nev ρ S = .err := rfl
@[simp] theorem s_snil : exS Φ .snil ρ S = .nx ρ S := rfl
@[simp] theorem s_scons {a r : M} : exS Φ (.scons a r) (x :: ρ) S = (match exS Φ a (x :: ρ) S with
    | .nx ρ' S' => exS Φ r ρ' S'
    | r' => r') := rfl
@[simp] theorem t_tn {i : Nat} {w : W} : bindT S (.tn i) w (x :: ρ) = if i < (x :: ρ).length then some ((x :: ρ).set i (some w)) else none := rfl
@[simp] theorem t_tt {a : M} {xs : List PyData} : bindT S (.tt a) (.d (.tuple xs)) (x :: ρ) = bindTs S a (xs.map .d) (x :: ρ) := rfl
@[simp] theorem t_tl {a : M} {xs : List PyData} : bindT S (.tt a) (.d (.list xs)) (x :: ρ) = bindTs S a (xs.map .d) (x :: ρ) := rfl
@[simp] theorem t_nil : bindTs S .anil [] ρ = some ρ := rfl
@[simp] theorem t_cons {a r : M} {w : W} {ws : List W} : bindTs S (.acons a r) (w :: ws) (x :: ρ) = (match bindT S a w (x :: ρ) with
    | some ρ' => bindTs S r ws ρ'
    | none => none) := rfl
@[simp] theorem RS.ofO_some {ρ : Rho} : RS.ofO (some ρ) S = .nx ρ S := rfl
/-! operators -/
variable {a b : Int} {z y : Str} {p q : Bool}
@[simp] theorem o_add : o2 .add S (.d (.int a)) (.d (.int b)) = some (.d (.int (a + b))) := rfl
@[simp] theorem o_adds : o2 .add S (.d (.str z)) (.d (.str y)) = if z.length + y.length ≤ lim then some (.d (.str (z ++ y))) else none := rfl
@[simp] theorem o_sub : o2 .sub S (.d (.int a)) (.d (.int b)) = some (.d (.int (a - b))) := rfl
@[simp] theorem o_mul : o2 .mul S (.d (.int a)) (.d (.int b)) = if mulOk a b then some (.d (.int (a * b))) else none := rfl
@[simp] theorem o_muls : o2 .mul S (.d (.str z)) (.d (.int b)) = if z.length * b.toNat ≤ lim ∧ b ≤ lim ∧ 1 ≤ b then some (.d (.str (repS z b.toNat))) else none := rfl
@[simp] theorem o_fdiv : o2 .fdiv S (.d (.int a)) (.d (.int b)) = if divOk b then some (.d (.int (a.fdiv b))) else none := rfl
@[simp] theorem o_mod : o2 .mod S (.d (.int a)) (.d (.int b)) = if b = 0 then none else some (.d (.int (a.fmod b))) := rfl
@[simp] theorem o_pow : o2 .pow S (.d (.int a)) (.d (.int b)) = if powOk a b then some (.d (.int (a ^ b.toNat))) else none := rfl
@[simp] theorem o_lt : o2 .lt S (.d (.int a)) (.d (.int b)) = some (.d (.bool (decide (a < b)))) := rfl
@[simp] theorem o_le : o2 .le S (.d (.int a)) (.d (.int b)) = some (.d (.bool (decide (a ≤ b)))) := rfl
@[simp] theorem o_gt : o2 .gt S (.d (.int a)) (.d (.int b)) = some (.d (.bool (decide (b < a)))) := rfl
@[simp] theorem o_ge : o2 .ge S (.d (.int a)) (.d (.int b)) = some (.d (.bool (decide (b ≤ a)))) := rfl
@[simp] theorem o_eqi : o2 .eq S (.d (.int a)) (.d (.int b)) = some (.d (.bool (a == b))) := by
  show blW (some (peq (.int a) (.int b))) = _
  simp [peq, blW]
@[simp] theorem o_nei : o2 .ne S (.d (.int a)) (.d (.int b)) = some (.d (.bool (!(a == b)))) := by
  show blW ((some (peq (.int a) (.int b))).map not) = _
  simp [peq, blW]
@[simp] theorem o_eqs : o2 .eq S (.d (.str z)) (.d (.str y)) = some (.d (.bool (z == y))) := by
  show blW (some (peq (.str z) (.str y))) = _
  simp [peq, blW]
@[simp] theorem o_nes : o2 .ne S (.d (.str z)) (.d (.str y)) = some (.d (.bool (!(z == y)))) := by
  show blW ((some (peq (.str z) (.str y))).map not) = _
  simp [peq, blW]
@[simp] theorem o_eqb : o2 .eq S (.d (.bool p)) (.d (.bool q)) = some (.d (.bool (p == q))) := by
  show blW (some (peq (.bool p) (.bool q))) = _
  simp [peq, blW]
@[simp] theorem o_isb : o2 .is_ S (.d (.bool p)) (.d (.bool q)) = some (.d (.bool (p == q))) := rfl
@[simp] theorem o_isnb : o2 .isnot S (.d (.bool p)) (.d (.bool q)) = some (.d (.bool (!(p == q)))) := rfl
@[simp] theorem o_isN {d : PyData} : o2 .is_ S (.d d) (.d .none) = some (.d (.bool (match d with | .none => true | _ => false))) := by
  cases d <;> rfl
@[simp] theorem o_isnN {d : PyData} : o2 .isnot S (.d d) (.d .none) = some (.d (.bool (!(match d with | .none => true | _ => false)))) := by
  cases d <;> rfl
@[simp] theorem o_in1 {c : Nat} : o2 .in_ S (.d (.str ⟨#[c]⟩)) (.d (.str z)) = some (.d (.bool (decide (c ∈ z.cps.toList)))) := rfl
@[simp] theorem o_notin1 {c : Nat} : o2 .notin S (.d (.str ⟨#[c]⟩)) (.d (.str z)) = some (.d (.bool (!decide (c ∈ z.cps.toList)))) := rfl
@[simp] theorem b_abs : bi .abs S [.d (.int a)] = some (.d (.int (if a < 0 then -a else a))) := rfl
@[simp] theorem b_max : bi .max2 S [.d (.int a), .d (.int b)] = some (.d (.int (if b > a then b else a))) := rfl
@[simp] theorem b_min : bi .min2 S [.d (.int a), .d (.int b)] = some (.d (.int (if b < a then b else a))) := rfl
@[simp] theorem b_lens : bi .len S [.d (.str z)] = if z.length ≤ lim then some (.d (.int z.length)) else none := rfl
@[simp] theorem b_lenl {xs : List PyData} : bi .len S [.d (.list xs)] = some (.d (.int xs.length)) := rfl
@[simp] theorem b_lent {xs : List PyData} : bi .len S [.d (.tuple xs)] = some (.d (.int xs.length)) := rfl
@[simp] theorem b_str : bi .str_ S [.d (.int a)] = if a.natAbs.log2 < 1920 then some (.d (.str (toString a))) else none := rfl
@[simp] theorem b_ints : bi .int_ S [.d (.str z)] = if z.length ≤ 640 then (PySem.intText? z).map fun n => .d (.int n) else none := rfl
@[simp] theorem b_tupl {xs : List PyData} : bi .tup_ S [.d (.list xs)] = some (.d (.tuple xs)) := rfl
@[simp] theorem b_tupt {xs : List PyData} : bi .tup_ S [.d (.tuple xs)] = some (.d (.tuple xs)) := rfl
@[simp] theorem b_lstl {xs : List PyData} : bi .list_ S [.d (.list xs)] = some (.d (.list xs)) := rfl
@[simp] theorem b_lstt {xs : List PyData} : bi .list_ S [.d (.tuple xs)] = some (.d (.list xs)) := rfl
@[simp] theorem i_ixs : ixW S (.d (.str z)) (.d (.int a)) = if z.length ≤ lim then (L2.atI z.cps.toList a).map fun c => .d (.str ⟨#[c]⟩) else none := rfl
@[simp] theorem i_ixl {xs : List PyData} : ixW S (.d (.list xs)) (.d (.int a)) = (L2.atI xs a).map .d := rfl
@[simp] theorem i_ixt {xs : List PyData} : ixW S (.d (.tuple xs)) (.d (.int a)) = (L2.atI xs a).map .d := rfl
@[simp] theorem i_sls {lo hi : Option Int} : slW S (.d (.str z)) lo hi = if z.length ≤ lim then some (.d (.str ⟨(cutG z.cps.toList lo hi).toArray⟩)) else none := rfl
@[simp] theorem i_sll {xs : List PyData} {lo hi : Option Int} : slW S (.d (.list xs)) lo hi = some (.d (.list (cutG xs lo hi))) := rfl
@[simp] theorem i_slt {xs : List PyData} {lo hi : Option Int} : slW S (.d (.tuple xs)) lo hi = if HT.sIx xs.length 0 lo = 0 ∧ HT.sIx xs.length xs.length hi = xs.length then none else some (.d (.tuple (cutG xs lo hi))) := rfl
@[simp] theorem i_srcs : srcW S (.d (.str z)) = some ⟨z.cps.toList.map fun c => .d (.str ⟨#[c]⟩), none⟩ := rfl
@[simp] theorem i_srcl {xs : List PyData} : srcW S (.d (.list xs)) = some ⟨xs.map .d, none⟩ := rfl
@[simp] theorem i_srct {xs : List PyData} : srcW S (.d (.tuple xs)) = some ⟨xs.map .d, none⟩ := rfl
@[simp] theorem i_srcR1 : srcR [.d (.int a)] = if rngOk a then some ⟨rngL 0 a.toNat, none⟩ else none := rfl
@[simp] theorem i_srcR2 : srcR [.d (.int a), .d (.int b)] = if rngOk a && rngOk b then some ⟨rngL a (b - a).toNat, none⟩ else none := rfl
@[simp] theorem i_srcN {xs : List PyData} : srcN S (.d (.list xs)) = some ⟨enumL 0 xs, none⟩ := rfl
@[simp] theorem g_none : guard none S = true := rfl
@[simp] theorem leave_d {n : Nat} {d : PyData} : leave n (.d d) S = .ok (.d d) (S.take n) := rfl
@[simp] theorem fin_nx {n : Nat} : fin n (.nx ρ S) = .ok (.d .none) (S.take n) := rfl
@[simp] theorem fin_rt {n : Nat} {w : W} : fin n (.rt w S) = leave n w S := rfl
@[simp] theorem fin_exc {n : Nat} {e : Exn} : fin n (.exc e ρ S) = .exc e (S.take n) := rfl
end
/-- a run of a def -/
theorem run_at {T : List Fn} {n f : Nat} {fn : Fn} {ws : List W} {S : Sto} {r : R W} (hf : T[f]? = some fn) (hw : withD fn ws = ws) (hl : ws.length = fn.ps.length) (h : fin S.length (exS (run T n) fn.body (startR fn ws) S) = r) : run T (n + 1) f ws S = r := by
  show (match T[f]? with | some fn => runF (run T n) fn ws S | none => .err) = r
  rw [hf]
  show runF (run T n) fn ws S = r
  unfold runF
  rw [hw, if_pos hl]
  exact h
/-! ### loops -/
section
variable {bt : W → Rho → Sto → Option Rho} {body : Rho → Sto → RS} {S : Sto} {g : Option (Nat × List PyData)}
/-- a loop that goes through, the store as it was -/
theorem for_inv (I : Nat → Rho → Prop) : ∀ (xs : List W) (j : Nat) (ρ : Rho), I j ρ → (∀ i x ρ, xs[i]? = some x → I (j + i) ρ → ∃ ρ1 ρ2, bt x ρ S = some ρ1 ∧ body ρ1 S = .nx ρ2 S ∧ I (j + i + 1) ρ2) →
    ∃ ρ', forGo none bt body xs ρ S = .nx ρ' S ∧ I (j + xs.length) ρ'
  | [], j, ρ, h, _ => ⟨ρ, rfl, h⟩
  | x :: xs, j, ρ, h, step => by
    obtain ⟨ρ1, ρ2, e1, e2, h2⟩ := step 0 x ρ rfl h
    obtain ⟨ρ', e3, h3⟩ := for_inv I xs (j + 1) ρ2 h2 fun i y ρ hy hi => by
      have := step (i + 1) y ρ (by simpa using hy) (by rw [show j + (i + 1) = j + 1 + i by omega]; exact hi)
      rw [show j + (i + 1) + 1 = j + 1 + i + 1 by omega] at this
      exact this
    refine ⟨ρ', ?_, by rw [List.length_cons, show j + (xs.length + 1) = j + 1 + xs.length by omega]; exact h3⟩
    unfold forGo
    rw [g_none, if_pos rfl, e1]
    simp only [e2]
    exact e3
/-- the same, the store changing -/
theorem for_invS (I : Nat → Rho → Sto → Prop) : ∀ (xs : List W) (j : Nat) (ρ : Rho) (S : Sto), I j ρ S → (∀ i x ρ S, xs[i]? = some x → I (j + i) ρ S → ∃ ρ1 ρ2 S2, bt x ρ S = some ρ1 ∧ body ρ1 S = .nx ρ2 S2 ∧ I (j + i + 1) ρ2 S2) →
    ∃ ρ' S', forGo none bt body xs ρ S = .nx ρ' S' ∧ I (j + xs.length) ρ' S'
  | [], j, ρ, S, h, _ => ⟨ρ, S, rfl, h⟩
  | x :: xs, j, ρ, S, h, step => by
    obtain ⟨ρ1, ρ2, S2, e1, e2, h2⟩ := step 0 x ρ S rfl h
    obtain ⟨ρ', S', e3, h3⟩ := for_invS I xs (j + 1) ρ2 S2 h2 fun i y ρ S hy hi => by
      have := step (i + 1) y ρ S (by simpa using hy) (by rw [show j + (i + 1) = j + 1 + i by omega]; exact hi)
      rw [show j + (i + 1) + 1 = j + 1 + i + 1 by omega] at this
      exact this
    refine ⟨ρ', S', ?_, by rw [List.length_cons, show j + (xs.length + 1) = j + 1 + xs.length by omega]; exact h3⟩
    unfold forGo
    rw [g_none, if_pos rfl, e1]
    simp only [e2]
    exact e3
/-- a loop that looks for the first that answers P, and returns w there -/
theorem for_find (P : W → Bool) (w : W) (Iv : Rho → Prop) : ∀ (xs : List W), (∀ x ∈ xs, ∀ ρ, Iv ρ → ∃ ρ1, bt x ρ S = some ρ1 ∧ if P x then body ρ1 S = .rt w S else ∃ ρ2, body ρ1 S = .nx ρ2 S ∧ Iv ρ2) → ∀ ρ, Iv ρ →
    if xs.any P then forGo none bt body xs ρ S = .rt w S else ∃ ρ2, forGo none bt body xs ρ S = .nx ρ2 S ∧ Iv ρ2
  | [], _, ρ, h => ⟨ρ, rfl, h⟩
  | x :: xs, step, ρ, h => by
    obtain ⟨ρ1, e1, h1⟩ := step x (List.mem_cons_self ..) ρ h
    rw [List.any_cons]
    cases e : P x with
    | true =>
      rw [e, if_pos rfl] at h1
      rw [Bool.true_or, if_pos rfl]
      unfold forGo
      rw [g_none, if_pos rfl, e1]
      simp only [h1]
    | false =>
      rw [e, if_neg Bool.false_ne_true] at h1
      obtain ⟨ρ2, e2, h2⟩ := h1
      have ih := for_find P w Iv xs (fun y hy => step y (List.mem_cons_of_mem _ hy)) ρ2 h2
      have ef : forGo none bt body (x :: xs) ρ S = forGo none bt body xs ρ2 S := by
        show (if guard none S = true then _ else _) = _
        rw [g_none, if_pos rfl, e1]
        simp only [e2]
      rw [Bool.false_or, ef]
      exact ih
end
/-- while, by a measure -/
theorem wh_inv {t : Rho → Sto → R Bool} {body : Rho → Sto → RS} {S : Sto} (I : Rho → Prop) (D : Rho → Prop) (m : Rho → Nat) (step : ∀ ρ, I ρ → (∃ b, t ρ S = .ok b S ∧ if b then ∃ ρ2, body ρ S = .nx ρ2 S ∧ I ρ2 ∧ m ρ2 < m ρ else D ρ)) :
    ∀ (n : Nat) (ρ : Rho), I ρ → m ρ < n → ∃ ρ', whGo t body n ρ S = .nx ρ' S ∧ D ρ'
  | 0, ρ, _, h => by omega
  | n + 1, ρ, hi, h => by
    obtain ⟨b, e, hb⟩ := step ρ hi
    unfold whGo
    rw [e]
    cases b with
    | false => exact ⟨ρ, rfl, hb⟩
    | true =>
      obtain ⟨ρ2, e2, h2, h3⟩ := hb
      simp only [e2]
      exact wh_inv I D m step n ρ2 h2 (by omega)
end Mi

/-! MiQ: plain facts. -/
namespace Mi
open PySem
theorem log2_lt {a m : Nat} (h : a < 2 ^ m) (hm : 1 ≤ m) : a.log2 < m := by
  by_cases h0 : a = 0
  · subst h0
    exact hm
  · exact (Nat.log2_lt h0).mpr h
theorem mulOk_lt {a b : Int} (m n : Nat) (ha : a.natAbs < 2 ^ m) (hb : b.natAbs < 2 ^ n) (hm : 1 ≤ m) (hn : 1 ≤ n) (h : m + n ≤ 1000000) : mulOk a b = true := by
  have h1 := log2_lt ha hm
  have h2 := log2_lt hb hn
  unfold mulOk
  rw [decide_eq_true_eq]
  omega
theorem divOk_lt {b : Int} (h0 : b ≠ 0) (h : b.natAbs < 2 ^ 8999) : divOk b = true := by
  have := log2_lt h (by decide)
  unfold divOk
  rw [Bool.and_eq_true, decide_eq_true_eq, bne_iff_ne]
  exact ⟨h0, by omega⟩
theorem divOk_small {b : Int} (h0 : b ≠ 0) (h : b.natAbs < 2 ^ 200) : divOk b = true := divOk_lt h0 (Nat.lt_of_lt_of_le h (Nat.pow_le_pow_right (by decide) (by decide)))
theorem rng_ok {a : Int} (h1 : -4000000000000000000 ≤ a) (h2 : a < 4000000000000000000) : rngOk a = true := by
  unfold rngOk
  rw [Bool.and_eq_true, decide_eq_true_eq, decide_eq_true_eq]
  omega
theorem canLay_ints : ∀ ns : List Int, PyData.canLayAll0 (ns.map .int) = true
  | [] => rfl
  | n :: ns => canLay_ints ns
theorem depth_ints : ∀ ns : List Int, PyData.depthAll (ns.map .int) ≤ 1
  | [] => by simp [PyData.depthAll]
  | n :: ns => by
    have := depth_ints ns
    simp [PyData.depthAll, PyData.depth]
    omega
theorem shaped_ints (ns : List Int) : SeqAt.shaped (.list (ns.map .int)) = true := by
  have h := depth_ints ns
  unfold SeqAt.shaped
  rw [Bool.and_eq_true, decide_eq_true_eq]
  exact ⟨canLay_ints ns, by simp [PyData.depth]; omega⟩
theorem eqv_ints : ∀ ns ms : List Int, PyData.eqvAll (ns.map .int) (ms.map .int) = decide (ns = ms)
  | [], [] => rfl
  | [], _ :: _ => rfl
  | _ :: _, [] => rfl
  | n :: ns, m :: ms => by
    show (PyData.eqv (.int n) (.int m) && PyData.eqvAll (ns.map .int) (ms.map .int)) = _
    rw [eqv_ints ns ms]
    show ((n == m) && _) = _
    simp
    by_cases h1 : n = m <;> by_cases h2 : ns = ms <;> simp [h1, h2]
theorem eqD_ints (ns ms : List Int) : eqD (.list (ns.map .int)) (.list (ms.map .int)) = some (decide (ns = ms)) := by
  unfold eqD
  rw [shaped_ints, shaped_ints]
  show (if (true && true) = true then some (PyData.eqvAll (ns.map .int) (ms.map .int)) else none) = _
  rw [eqv_ints]
  rfl
theorem o_neL {S : Sto} (ns ms : List Int) : o2 .ne S (.d (.list (ns.map .int))) (.d (.list (ms.map .int))) = some (.d (.bool (!decide (ns = ms)))) := by
  show blW ((eqD _ _).map not) = _
  rw [eqD_ints]
  rfl
theorem o_eqL {S : Sto} (ns ms : List Int) : o2 .eq S (.d (.list (ns.map .int))) (.d (.list (ms.map .int))) = some (.d (.bool (decide (ns = ms)))) := by
  show blW (eqD _ _) = _
  rw [eqD_ints]
  rfl
theorem atI_nn {α : Type} {xs : List α} {i : Int} (h0 : 0 ≤ i) (h1 : i < xs.length) : ∃ x, L2.atI xs i = some x ∧ xs[i.toNat]? = some x := by
  have hx : xs[i.toNat]? = some (xs[i.toNat]'(by omega)) := List.getElem?_eq_getElem (by omega)
  refine ⟨_, ?_, hx⟩
  unfold L2.atI L2.ixN
  rw [if_pos h0, if_pos h1]
  exact hx
theorem fmod_nn {a b : Int} (h : 0 < b) : 0 ≤ a.fmod b ∧ a.fmod b < b := ⟨Int.fmod_nonneg_of_pos a h, Int.fmod_lt_of_pos a h⟩
theorem fdiv_nn {a b : Int} (h : 0 < b) (ha : 0 ≤ a) : 0 ≤ a.fdiv b ∧ a.fdiv b ≤ a := by
  rw [Int.fdiv_eq_ediv_of_nonneg a (Int.le_of_lt h)]
  exact ⟨Int.ediv_nonneg ha (Int.le_of_lt h), Int.ediv_le_self b ha⟩
/-- a comprehension over plain items, each giving a value, the store as it is -/
theorem lc_map {bt : W → Sto → Option Rho} {tst : Rho → Sto → R Bool} {el : Rho → Sto → R W} {S : Sto} (f : W → PyData) : ∀ (xs : List W) (acc : List PyData), acc.length + xs.length ≤ lim → (∀ x ∈ xs, ∃ ρ, bt x S = some ρ ∧ tst ρ S = .ok true S ∧ el ρ S = .ok (.d (f x)) S) → lcGo none bt tst el xs S acc = .ok (.d (.list (acc ++ xs.map f))) S
  | [], acc, _, _ => by
    show (if guard none S = true then _ else _) = _
    rw [g_none, if_pos rfl, List.map_nil, List.append_nil]
  | x :: xs, acc, hl, h => by
    obtain ⟨ρ, h1, h2, h3⟩ := h x (List.mem_cons_self ..)
    have ih := lc_map f xs (acc ++ [f x]) (by rw [List.length_append]; simp at hl ⊢; omega) fun y hy => h y (List.mem_cons_of_mem _ hy)
    conv => lhs; unfold lcGo
    rw [g_none, if_pos rfl]
    simp only [h1, h2, h3]
    rw [if_pos (by simp at hl; omega), ih]
    simp
end Mi

/-! MiT: numbers as texts. -/
namespace Mi
open PySem TL
/-- a number's signs -/
def tx (x : Int) : List Nat := if x < 0 then 45 :: numL x.natAbs else numL x.natAbs
abbrev NS (x : Int) : PySem.Str := Str.ofString (toString x)
theorem tl_NS (x : Int) : tl (NS x) = tx x := by
  unfold tx
  by_cases h : x < 0
  · rw [if_pos h]
    obtain ⟨n, rfl⟩ : ∃ n : Nat, x = -((n + 1 : Nat) : Int) := ⟨x.natAbs - 1, by omega⟩
    have e : toString (-((n + 1 : Nat) : Int)) = "-" ++ toString ((n + 1 : Nat) : Int) := rfl
    rw [NS, e, tl_ofString, String.toList_append, List.map_append, ← tl_ofString, ← tl_ofString, tl_num]
    rw [show (-((n + 1 : Nat) : Int)).natAbs = n + 1 by omega]
    rfl
  · rw [if_neg h]
    obtain ⟨n, rfl⟩ : ∃ n : Nat, x = (n : Int) := ⟨x.natAbs, by omega⟩
    rw [NS, tl_num]
    rfl
theorem tx_len {x : Int} (h : x.natAbs < 10 ^ 30) : (tx x).length ≤ 31 := by
  have := numL_len (by decide) h
  unfold tx
  split
  · rw [List.length_cons]; omega
  · omega
theorem tx_free {x : Int} {s : Nat} (h : (s < 48 ∨ 57 < s) ∧ s ≠ 45) : s ∉ tx x := by
  unfold tx
  split
  · intro hm
    rcases List.mem_cons.mp hm with z | z
    · exact h.2 z
    · exact numL_free h.1 z
  · exact numL_free h.1
theorem NS_len {x : Int} (h : x.natAbs < 10 ^ 30) : (NS x).length ≤ 31 := by
  rw [len_tl, tl_NS]
  exact tx_len h
theorem NS_len_pos (x : Int) : 1 ≤ (NS x).length := by
  rw [len_tl, tl_NS]
  unfold tx
  split
  · simp
  · have := numL_ne x.natAbs
    cases e : numL x.natAbs with
    | nil => exact absurd e this
    | cons _ _ => simp
theorem NS_int {x : Int} (h : x.natAbs < 10 ^ 30) : intText? (NS x) = some x := by
  have hl := NS_len h
  by_cases h0 : x < 0
  · have e : (NS x).cps.toList = 45 :: numL x.natAbs := by
      have := tl_NS x
      unfold tx at this
      rw [if_pos h0] at this
      exact this
    have := intText_neg (x := NS x) e (numL_digits _) (numL_ne _) (by omega)
    rw [numL_val] at this
    rw [this]
    congr 1
    omega
  · obtain ⟨n, rfl⟩ : ∃ n : Nat, x = (n : Int) := ⟨x.natAbs, by omega⟩
    exact int_num (Nat.le_trans (numL_len (k := 30) (by decide) (by simpa using h)) (by decide))
theorem numL_zero {n : Nat} (h : (numL n).head? = some 48) : n = 0 := by
  induction n using Nat.strongRecOn with
  | _ n ih =>
    by_cases h1 : n < 10
    · rw [numL_lt h1] at h
      simp at h
      omega
    · rw [numL_step (by omega)] at h
      have hne := numL_ne (n / 10)
      cases e : numL (n / 10) with
      | nil => exact absurd e hne
      | cons c r =>
        rw [e] at h
        have := ih (n / 10) (by omega) (by rw [e]; simpa using h)
        omega
theorem log_small {x : Int} (h : x.natAbs < 10 ^ 30) : x.natAbs.log2 < 1920 := log2_lt (Nat.lt_of_lt_of_le h (by
  have : (10 : Nat) ^ 30 ≤ 2 ^ 200 := by decide
  exact Nat.le_trans this (Nat.pow_le_pow_right (by decide) (by decide)))) (by decide)
theorem cut_head {α : Type} (xs : List α) (h : 1 ≤ xs.length) : cutG xs none (some 1) = xs.take 1 := by
  unfold cutG HT.sIx
  have h1 : ¬ ((1 : Int) < 0) := by decide
  simp only [if_neg h1, List.drop_zero, Nat.sub_zero]
  congr 1
  show min 1 xs.length = 1
  omega
theorem cut_tail {α : Type} (xs : List α) (h : 1 ≤ xs.length) : cutG xs (some 1) none = xs.drop 1 := by
  unfold cutG HT.sIx
  have h1 : ¬ ((1 : Int) < 0) := by decide
  simp only [if_neg h1]
  have : min (1 : Int).toNat xs.length = 1 := by
    show min 1 xs.length = 1
    omega
  rw [this]
  exact List.take_of_length_le (by rw [List.length_drop]; exact Nat.le_refl _)
/-- a comprehension that takes none -/
theorem lc_none {bt : W → Sto → Option Rho} {tst : Rho → Sto → R Bool} {el : Rho → Sto → R W} {S : Sto} : ∀ (xs : List W) (acc : List PyData), (∀ x ∈ xs, ∃ ρ, bt x S = some ρ ∧ tst ρ S = .ok false S) → lcGo none bt tst el xs S acc = .ok (.d (.list acc)) S
  | [], acc, _ => by
    show (if guard none S = true then _ else _) = _
    rw [g_none, if_pos rfl]
  | x :: xs, acc, h => by
    obtain ⟨ρ, h1, h2⟩ := h x (List.mem_cons_self ..)
    have ih := lc_none (el := el) xs acc fun y hy => h y (List.mem_cons_of_mem _ hy)
    conv => lhs; unfold lcGo
    rw [g_none, if_pos rfl]
    simp only [h1, h2]
    exact ih
theorem str_inj {a b : PySem.Str} : (a == b) = decide (tl a = tl b) := by
  rw [Bool.eq_iff_iff]
  simp only [beq_iff_eq, decide_eq_true_eq]
  exact ⟨fun h => by rw [h], ext_tl⟩
end Mi

namespace My
open PySem PySem.Spec PyProof.Rows L2 Mi
def r_divisor_0 : M := (.scons (.ret (.var 0)) .snil)
def l_divisor_0 : M := (.scons (.par2 0 1 (.var 1) (.o2 .mod (.var 0) (.var 1))) .snil)
def b_divisor : M := (.scons (.asg (.tn 0) (.bi .abs (.acons (.var 0) .anil))) (.scons (.asg (.tn 1) (.bi .abs (.acons (.var 1) .anil))) (.scons (.wh 1000000000000000000000000000000000000000000000000000000000000000000000000000000000000000000000000000000000000000000000000000000000000000000000000000000000000000000000000000000000000000000000000000000000000000000000000000000000000000000000000000000000000000000000000000000000000000000000000000000000000 (.o2 .gt (.var 1) (.int 0)) l_divisor_0) r_divisor_0)))
def r_made_spot_0 : M := (.scons (.ret (.tup (.acons (.o2 .fdiv (.var 0) (.var 4)) (.acons (.o2 .fdiv (.var 1) (.var 4)) (.acons (.o2 .fdiv (.var 2) (.var 4)) (.acons (.o2 .fdiv (.var 3) (.var 4)) .anil)))))) .snil)
def r_made_spot_1 : M := (.scons (.asg (.tn 4) (.call 0 (.acons (.call 0 (.acons (.var 0) (.acons (.var 1) .anil))) (.acons (.call 0 (.acons (.var 2) (.acons (.var 3) .anil))) .anil)))) (.scons (.ift (.o2 .lt (.var 3) (.int 0)) (.scons (.asg (.tn 4) (.o2 .sub (.int 0) (.var 4))) .snil) .snil) r_made_spot_0))
def b_made_spot : M := (.scons (.ift (.o2 .eq (.var 3) (.int 0)) (.scons .nev .snil) .snil) r_made_spot_1)
def r_whole_of_0 : M := (.scons (.ret (.bi .int_ (.acons (.var 0) .anil))) .snil)
def r_whole_of_1 : M := (.scons (.ift (.and2 (.o2 .eq (.ix (.var 1) (.int 0)) (.str "0")) (.one (.o2 .ne (.var 0) (.str "0")))) (.scons (.ret .non) .snil) .snil) r_whole_of_0)
def r_whole_of_2 : M := (.scons (.ift (.or2 (.not1 (.ch .le .le (.int 1) (.bi .len (.acons (.var 1) .anil)) (.gi "MOST_FIGURES" 30))) (.one (.o2 .ne (.lc [2] (.tn 2) (.itE (.var 1)) (.one (.o2 .notin (.var 2) (.gs "FIGURES" "0123456789"))) (.var 2)) (.lst .anil)))) (.scons (.ret .non) .snil) .snil) r_whole_of_1)
def b_whole_of : M := (.scons (.asg (.tn 1) (.var 0)) (.scons (.ift (.o2 .eq (.sl (.var 0) .nop (.one (.int 1))) (.str "-")) (.scons (.asg (.tn 1) (.sl (.var 0) (.one (.int 1)) .nop)) .snil) .snil) r_whole_of_2))
def r_spot_of_0 : M := (.scons (.ret (.bi .tup_ (.acons (.var 4) .anil))) .snil)
def r_spot_of_1 : M := (.scons (.ift (.o2 .ne (.call 1 (.acons (.ix (.var 4) (.int 0)) (.acons (.ix (.var 4) (.int 1)) (.acons (.ix (.var 4) (.int 2)) (.acons (.ix (.var 4) (.int 3)) .anil))))) (.bi .tup_ (.acons (.var 4) .anil))) (.scons (.ret .non) .snil) .snil) r_spot_of_0)
def r_spot_of_2 : M := (.scons (.ift (.or2 (.o2 .ne (.bi .len (.acons (.var 4) .anil)) (.int 4)) (.or2 (.o2 .in_ .non (.var 4)) (.or2 (.o2 .lt (.ix (.var 4) (.int 3)) (.int 1)) (.one (.and2 (.o2 .ne (.var 2) (.str "")) (.one (.o2 .eq (.ix (.var 4) (.int 3)) (.int 1)))))))) (.scons (.ret .non) .snil) .snil) r_spot_of_1)
def b_spot_of : M := (.scons (.asg (.tt (.acons (.tn 1) (.acons (.tn 2) (.acons (.tn 3) .anil)))) (.mt .partition (.var 0) (.acons (.str "/") .anil))) (.scons (.asg (.tn 4) (.new (.o2 .add (.lc [5] (.tn 5) (.itE (.mt .split (.var 1) (.acons (.str ",") .anil))) .anil (.call 2 (.acons (.var 5) .anil))) (.lst (.acons (.int 1) .anil))))) (.scons (.ift (.o2 .ne (.var 2) (.str "")) (.scons (.setix (.var 4) (.neg (.int 1)) (.call 2 (.acons (.var 3) .anil))) .snil) .snil) r_spot_of_2)))
def r_told_or_none_0 : M := (.scons (.ret (.var 0)) .snil)
def b_told_or_none : M := (.scons (.ift (.o2 .is_ (.var 0) .non) (.scons .nev .snil) .snil) r_told_or_none_0)
def b_read_spot : M := (.scons (.ret (.call 4 (.acons (.call 3 (.acons (.var 0) .anil)) .anil))) .snil)
def r_fraction_text_0 : M := (.scons (.ret (.o2 .add (.o2 .add (.bi .str_ (.acons (.ix (.var 0) (.int 0)) .anil)) (.str "/")) (.bi .str_ (.acons (.ix (.var 0) (.int 1)) .anil)))) .snil)
def b_fraction_text : M := (.scons (.ift (.o2 .eq (.ix (.var 0) (.int 1)) (.int 1)) (.scons (.ret (.bi .str_ (.acons (.ix (.var 0) (.int 0)) .anil))) .snil) .snil) r_fraction_text_0)
def r_spot_text_0 : M := (.scons (.ret (.o2 .add (.o2 .add (.var 1) (.str "/")) (.bi .str_ (.acons (.ix (.var 0) (.int 3)) .anil)))) .snil)
def b_spot_text : M := (.scons (.asg (.tn 1) (.mt .join (.str ",") (.acons (.lc [2] (.tn 2) (.itE (.sl (.var 0) .nop (.one (.int 3)))) .anil (.bi .str_ (.acons (.var 2) .anil))) .anil))) (.scons (.ift (.o2 .eq (.ix (.var 0) (.int 3)) (.int 1)) (.scons (.ret (.var 1)) .snil) .snil) r_spot_text_0))
def b_law_next : M := (.scons (.asg (.tn 2) (.o2 .mod (.ix (.var 0) (.int 0)) (.var 1))) (.scons (.setix (.var 0) (.int 0) (.o2 .fdiv (.ix (.var 0) (.int 0)) (.var 1))) (.scons (.ret (.var 2)) .snil)))
def r_law_left_0 : M := (.scons (.ret (.new (.lst (.acons (.o2 .fdiv (.var 2) (.int 1000003)) .anil)))) .snil)
def l_law_left_0 : M := (.scons (.asg (.tn 1) (.o2 .mod (.o2 .mul (.o2 .mod (.o2 .add (.o2 .add (.o2 .mul (.var 1) (.var 1)) (.o2 .mul (.int 977) (.var 3))) (.int 11)) (.int 2305843009213693951)) (.int 69621)) (.int 2305843009213693951))) (.scons (.asg (.tn 2) (.o2 .add (.o2 .mul (.var 2) (.int 2305843009213693952)) (.var 1))) .snil))
def r_law_left_1 : M := (.scons (.asg (.tn 1) (.o2 .mod (.o2 .add (.o2 .mul (.o2 .mod (.var 0) (.int 2305843009213693951)) (.int 48271)) (.int 7)) (.int 2305843009213693951))) (.scons (.asg (.tn 2) (.int 0)) (.scons (.for_ (.tn 3) (.itR (.acons (.int 9) .anil)) l_law_left_0) r_law_left_0)))
def b_law_left : M := (.scons (.ift (.or2 (.o2 .ge (.var 0) (.o2 .pow (.int 10) (.int 18))) (.one (.o2 .le (.var 0) (.neg (.o2 .pow (.int 10) (.int 18)))))) (.scons (.ret (.new (.lst (.acons (.var 0) .anil)))) .snil) .snil) r_law_left_1)
def r_law_divisor_0 : M := (.scons (.ret (.var 1)) .snil)
def l_law_divisor_0 : M := (.scons (.par2 1 3 (.var 3) (.o2 .mod (.var 1) (.var 3))) .snil)
def l_law_divisor_1 : M := (.scons (.asg (.tn 3) (.bi .abs (.acons (.var 2) .anil))) (.scons (.wh 1000000000000000000000000000000000000000000000000000000000000000000000000000000000000000000000000000000000000000000000000000000000000000000000000000000000000000000000000000000000000000000000000000000000000000000000000000000000000000000000000000000000000000000000000000000000000000000000000000000000000 (.o2 .gt (.var 3) (.int 0)) l_law_divisor_0) .snil))
def b_law_divisor : M := (.scons (.asg (.tn 1) (.int 0)) (.scons (.for_ (.tn 2) (.itE (.var 0)) l_law_divisor_1) r_law_divisor_0))
def b_law_lowest : M := (.scons (.asg (.tn 1) (.call 10 (.acons (.var 0) .anil))) (.scons (.ret (.bi .tup_ (.acons (.lc [2] (.tn 2) (.itE (.var 0)) .anil (.o2 .fdiv (.var 2) (.var 1))) .anil))) .snil))
def r_law_spot_text_0 : M := (.scons (.ret (.var 1)) .snil)
def b_law_spot_text : M := (.scons (.asg (.tn 1) (.o2 .add (.o2 .add (.o2 .add (.o2 .add (.bi .str_ (.acons (.ix (.var 0) (.int 0)) .anil)) (.str ",")) (.bi .str_ (.acons (.ix (.var 0) (.int 1)) .anil))) (.str ",")) (.bi .str_ (.acons (.ix (.var 0) (.int 2)) .anil)))) (.scons (.ift (.o2 .gt (.ix (.var 0) (.int 3)) (.int 1)) (.scons (.ret (.o2 .add (.o2 .add (.var 1) (.str "/")) (.bi .str_ (.acons (.ix (.var 0) (.int 3)) .anil)))) .snil) .snil) r_law_spot_text_0))
def b_law_number : M := (.scons (.asg (.tn 1) (.ix (.lst (.acons (.int 10) (.acons (.int 1000) (.acons (.o2 .pow (.int 10) (.int 12)) (.acons (.o2 .pow (.int 10) (.int 30)) .anil))))) (.call 8 (.acons (.var 0) (.acons (.int 4) .anil))))) (.scons (.ret (.o2 .add (.o2 .sub (.call 8 (.acons (.var 0) (.acons (.o2 .sub (.o2 .mul (.int 2) (.var 1)) (.int 1)) .anil))) (.var 1)) (.int 1))) .snil))
def b_law_bottom : M := (.scons (.ret (.o2 .add (.int 1) (.call 8 (.acons (.var 0) (.acons (.ix (.lst (.acons (.int 1) (.acons (.int 9) (.acons (.o2 .pow (.int 10) (.int 12)) (.acons (.o2 .sub (.o2 .pow (.int 10) (.int 30)) (.int 1)) .anil))))) (.call 8 (.acons (.var 0) (.acons (.int 4) .anil)))) .anil))))) .snil)
def r_law_fraction_text_0 : M := (.scons (.ret (.o2 .add (.o2 .add (.bi .str_ (.acons (.ix (.var 0) (.int 0)) .anil)) (.str "/")) (.bi .str_ (.acons (.ix (.var 0) (.int 1)) .anil)))) .snil)
def b_law_fraction_text : M := (.scons (.ift (.o2 .eq (.ix (.var 0) (.int 1)) (.int 1)) (.scons (.ret (.bi .str_ (.acons (.ix (.var 0) (.int 0)) .anil))) .snil) .snil) r_law_fraction_text_0)
def r_law_same_0 : M := (.scons (.ret (.o2 .eq (.var 0) (.var 1))) .snil)
def l_law_same_0 : M := (.scons (.ift (.or2 (.not1 (.isi "int" (.var 2))) (.one (.isi "bool" (.var 2)))) (.scons (.ret (.bl false)) .snil) .snil) .snil)
def r_law_same_1 : M := (.scons (.for_ (.tn 2) (.itE (.var 0)) l_law_same_0) r_law_same_0)
def b_law_same : M := (.scons (.ift (.or2 (.not1 (.isi "tuple" (.var 0))) (.one (.o2 .ne (.bi .len (.acons (.var 0) .anil)) (.bi .len (.acons (.var 1) .anil))))) (.scons (.ret (.bl false)) .snil) .snil) r_law_same_1)
def r_law_0 : M := (.scons (.ret (.bl true)) .snil)
def r_law_1 : M := (.scons (.asg (.tn 6) (.call 11 (.acons (.lst (.acons (.call 13 (.acons (.var 2) .anil)) (.acons (.call 14 (.acons (.var 2) .anil)) .anil))) .anil))) (.scons (.asg (.tn 5) (.call 6 (.acons (.var 6) .anil))) (.scons (.ift (.or2 (.not1 (.isi "str" (.var 5))) (.one (.o2 .ne (.var 5) (.call 15 (.acons (.var 6) .anil))))) (.scons (.ret (.bl false)) .snil) .snil) .snil)))
def l_law_0 : M := (.scons (.asg (.tn 4) (.call 11 (.acons (.lst (.acons (.call 13 (.acons (.var 2) .anil)) (.acons (.call 13 (.acons (.var 2) .anil)) (.acons (.call 13 (.acons (.var 2) .anil)) (.acons (.call 14 (.acons (.var 2) .anil)) .anil))))) .anil))) (.scons (.asg (.tn 5) (.call 7 (.acons (.var 4) .anil))) (.scons (.ift (.or2 (.not1 (.isi "str" (.var 5))) (.or2 (.o2 .ne (.var 5) (.call 12 (.acons (.var 4) .anil))) (.one (.not1 (.call 16 (.acons (.call 5 (.acons (.var 5) .anil)) (.acons (.var 4) .anil))))))) (.scons (.ret (.bl false)) .snil) .snil) r_law_1)))
def l_law_1 : M := (.scons (.asg (.tn 2) (.call 9 (.acons (.var 1) .anil))) (.scons (.for_ (.tn 3) (.itR (.acons (.int 3) .anil)) l_law_0) .snil))
def b_law : M := (.scons (.for_ (.tn 1) (.itE (.o2 .add (.lst (.acons (.int 0) .anil)) (.var 0))) l_law_1) r_law_0)
def f_divisor : Fn := ⟨"divisor", ["one", "other"], ["one", "other"], [], b_divisor⟩
def f_made_spot : Fn := ⟨"made_spot", ["x", "y", "z", "w"], ["x", "y", "z", "w", "by"], [.int 1], b_made_spot⟩
def f_whole_of : Fn := ⟨"whole_of", ["word"], ["word", "figures", "sign"], [], b_whole_of⟩
def f_spot_of : Fn := ⟨"spot_of", ["word"], ["word", "top", "stroke", "bottom", "numbers", "part"], [], b_spot_of⟩
def f_told_or_none : Fn := ⟨"told_or_none", ["found"], ["found"], [], b_told_or_none⟩
def f_read_spot : Fn := ⟨"read_spot", ["text"], ["text"], [], b_read_spot⟩
def f_fraction_text : Fn := ⟨"fraction_text", ["one"], ["one"], [], b_fraction_text⟩
def f_spot_text : Fn := ⟨"spot_text", ["spot"], ["spot", "top", "number"], [], b_spot_text⟩
def f_law_next : Fn := ⟨"_law_next", ["left", "base"], ["left", "base", "digit"], [], b_law_next⟩
def f_law_left : Fn := ⟨"_law_left", ["cell"], ["cell", "near", "far", "k"], [], b_law_left⟩
def f_law_divisor : Fn := ⟨"_law_divisor", ["numbers"], ["numbers", "found", "number", "other"], [], b_law_divisor⟩
def f_law_lowest : Fn := ⟨"_law_lowest", ["numbers"], ["numbers", "by", "number"], [], b_law_lowest⟩
def f_law_spot_text : Fn := ⟨"_law_spot_text", ["spot"], ["spot", "text"], [], b_law_spot_text⟩
def f_law_number : Fn := ⟨"_law_number", ["left"], ["left", "span"], [], b_law_number⟩
def f_law_bottom : Fn := ⟨"_law_bottom", ["left"], ["left"], [], b_law_bottom⟩
def f_law_fraction_text : Fn := ⟨"_law_fraction_text", ["one"], ["one"], [], b_law_fraction_text⟩
def f_law_same : Fn := ⟨"_law_same", ["found", "due"], ["found", "due", "number"], [], b_law_same⟩
def f_law : Fn := ⟨"law", ["script"], ["script", "cell", "left", "k", "spot", "told", "one"], [], b_law⟩
def T : List Fn := [f_divisor, f_made_spot, f_whole_of, f_spot_of, f_told_or_none, f_read_spot, f_fraction_text, f_spot_text, f_law_next, f_law_left, f_law_divisor, f_law_lowest, f_law_spot_text, f_law_number, f_law_bottom, f_law_fraction_text, f_law_same, f_law]
def ix : List Nat := [5, 7, 11, 12, 13, 14, 15, 16, 18, 19, 20, 21, 24, 25, 26, 27, 28, 29]
def gI : List (PySem.Str × Int) := [("MOST_FIGURES", 30)]
def gS : List (PySem.Str × PySem.Str) := [("FIGURES", "0123456789")]
def gF : List PySem.Str := ["abs", "int", "len", "tuple", "str", "range", "isinstance", "bool"]
def loose0 : List PySem.Str := ["SightError", "NoSpot", "NoText", "divisor", "made_spot", "FIGURES", "MOST_FIGURES", "whole_of", "spot_of", "told_or_none", "read_spot", "fraction_text", "spot_text", "_law_next", "_law_left", "_law_divisor", "_law_lowest", "_law_cross", "_law_dot", "_law_spot_text", "_law_number", "_law_bottom", "_law_fraction_text", "_law_same"]
def loose : List PySem.Str := loose0
abbrev rw0 := PySem.Challenge.rw_boardsight_k84_spots_and_fractions_writt
abbrev R : PySem.W.OpenRow := PySem.W.OpenLaw.row rw0
abbrev Pw : Program := PySem.Challenge.pw_boardsight_k84_spots_and_fractions_writt
def fa : List He.Fa := faOf T gI gS gF
def fn : List He.DefD := fnD Pw T ix
abbrev hk : PySem.W.Hook := He.hookD 6 fa fn
def ob (s : PySem.W.SharedT) : He.AlD := He.obsDG 6 fa fn (HandSHeadRun.getT s)
theorem ob_eq (s : PySem.W.SharedT) : ob s = hk.obs s.abs := He.obsDG_eq (HandSHeadRun.getT_eq s)
theorem run_ (w : World) : HandSHeadRun.RunEq R (PySem.W.view R.prog [29]) hk ob 3000 loose w := by
  intro os
  kernel_rfl
theorem ok_all : okAll Pw T ix gI gS gF = true := by kernel_rfl
theorem bd_made_spot : BdOk f_made_spot (stAt Pw 7) := by
  intro _ n j hj hn T kV doc pm an cdv ct us its h1 h2
  have hj : j ≤ 1 := hj
  have hn : n + (1 - j) = 4 := hn
  have h2 : its.length = 1 := h2
  match j, us, its, hj, hn, h1, h2 with
  | 0, us, its, _, hn, h1, h2 =>
    match us, its, (show us.length = 3 by omega), h2 with
    | [a0, a1, a2], [d], _, _ => exact ⟨_, rfl, rfl⟩
  | 1, us, its, _, hn, h1, h2 =>
    match us, its, (show us.length = 4 by omega), h2 with
    | [a0, a1, a2, a3], [d], _, _ => exact ⟨_, rfl, rfl⟩
theorem bd_all : ∀ (i j : Nat) (f : Fn), T[i]? = some f → ix[i]? = some j → BdOk f (stAt Pw j)
  | 0, _, _, hf, hj => by cases hf; exact fun hd => absurd rfl hd
  | 1, _, _, hf, hj => by cases hf; cases hj; exact bd_made_spot
  | 2, _, _, hf, hj => by cases hf; exact fun hd => absurd rfl hd
  | 3, _, _, hf, hj => by cases hf; exact fun hd => absurd rfl hd
  | 4, _, _, hf, hj => by cases hf; exact fun hd => absurd rfl hd
  | 5, _, _, hf, hj => by cases hf; exact fun hd => absurd rfl hd
  | 6, _, _, hf, hj => by cases hf; exact fun hd => absurd rfl hd
  | 7, _, _, hf, hj => by cases hf; exact fun hd => absurd rfl hd
  | 8, _, _, hf, hj => by cases hf; exact fun hd => absurd rfl hd
  | 9, _, _, hf, hj => by cases hf; exact fun hd => absurd rfl hd
  | 10, _, _, hf, hj => by cases hf; exact fun hd => absurd rfl hd
  | 11, _, _, hf, hj => by cases hf; exact fun hd => absurd rfl hd
  | 12, _, _, hf, hj => by cases hf; exact fun hd => absurd rfl hd
  | 13, _, _, hf, hj => by cases hf; exact fun hd => absurd rfl hd
  | 14, _, _, hf, hj => by cases hf; exact fun hd => absurd rfl hd
  | 15, _, _, hf, hj => by cases hf; exact fun hd => absurd rfl hd
  | 16, _, _, hf, hj => by cases hf; exact fun hd => absurd rfl hd
  | 17, _, _, hf, hj => by cases hf; exact fun hd => absurd rfl hd
  | _ + 18, _, _, hf, _ => by cases hf
end My

namespace My
open PySem Mi
abbrev wi (i : Int) : W := .d (.int i)
abbrev cellM (v : Int) : MO := .lst [.int v]
theorem lst_ptr {S : Sto} {p : Nat} {xs : List PyData} (h : S[p]? = some (.lst xs)) : lst? S (.ptr p) = some xs := by
  show (match S[p]? with | some (.lst xs) => some xs | _ => none) = _
  rw [h]
theorem take_set {S : Sto} {p : Nat} {m : MO} : (S.set p m).take S.length = S.set p m := by
  rw [List.take_of_length_le]
  rw [List.length_set]
  exact Nat.le_refl _
theorem r_next (n : Nat) (S : Sto) (p : Nat) (v b : Int) (hp : S[p]? = some (cellM v)) (h0 : 0 < b) (h1 : b < 2 ^ 200) : run T (n + 1) 8 [.ptr p, wi b] S = .ok (wi (v.fmod b)) (S.set p (cellM (v.fdiv b))) := by
  refine run_at (fn := f_law_next) rfl rfl rfl ?_
  show fin S.length (exS _ b_law_next [some (.ptr p), some (wi b), none] S) = _
  have hi : ixW S (.ptr p) (.d (.int 0)) = some (wi v) := by
    show (match lst? S (.ptr p) with | some xs => (L2.atI xs 0).map W.d | none => none) = _
    rw [lst_ptr hp]
    rfl
  have hs : ∀ w, setW S (.ptr p) (.d (.int 0)) (.d w) = some (S.set p (.lst [w])) := fun w => by
    show (match S[p]? with | some (.lst xs) => (L2.ixN xs.length 0).map fun j => S.set p (.lst (xs.set j w)) | _ => none) = _
    rw [hp]
    rfl
  have hb : ¬ (b = 0) := by omega
  have hd : divOk b = true := divOk_small (by omega) (by omega)
  unfold b_law_next
  simp only [s_scons, s_asg, x_o2, x_ix, x_var, x_int, List.getElem?_cons_succ, List.getElem?_cons_zero, R.bind_ok, hi, R.ofO_some, o_mod, if_neg hb, R.st_ok, t_tn, List.length_cons, List.length_nil, Nat.reduceAdd, Nat.reduceLT, if_true, List.set_cons_succ, List.set_cons_zero, RS.ofO_some, s_setix, o_fdiv, hd, hs, s_ret, fin_rt, leave_d, take_set]

theorem fmod_abs {a b : Int} (h : 0 < b) : (a.fmod b).natAbs < b.natAbs := by
  obtain ⟨h0, h1⟩ := fmod_nn (a := a) h
  omega
theorem mul_lt (a b : Int) (h1 : a.natAbs < 2 ^ 200) (h2 : b.natAbs < 2 ^ 200) : mulOk a b = true := mulOk_lt 200 200 h1 h2 (by decide) (by decide) (by decide)
theorem rngL_get {lo : Int} {n i : Nat} {x : W} (h : (rngL lo n)[i]? = some x) : i < n ∧ x = wi (lo + (i : Nat)) := by
  unfold rngL at h
  rw [List.getElem?_map] at h
  by_cases hi : i < n
  · rw [List.getElem?_range hi] at h
    cases h
    exact ⟨hi, rfl⟩
  · rw [List.getElem?_eq_none (by simpa using Nat.le_of_not_lt hi)] at h
    cases h
theorem far_le {far near : Int} {i : Nat} (h0 : 0 ≤ far) (h1 : far < 2 ^ (62 * i)) (n0 : 0 ≤ near) (n1 : near < 2305843009213693951) : 0 ≤ far * 2305843009213693952 + near ∧ far * 2305843009213693952 + near < 2 ^ (62 * (i + 1)) := by
  have e : (2 : Int) ^ (62 * (i + 1)) = 2 ^ (62 * i) * 4611686018427387904 := by
    rw [show 62 * (i + 1) = 62 * i + 62 by omega, Int.pow_add]
    rfl
  rw [e]
  generalize (2 : Int) ^ (62 * i) = p at h1
  omega
theorem left_loop (Φ : Phi) (S : Sto) (c : Option W) (near : Int) (n0 : 0 ≤ near) (n1 : near < 2305843009213693951) : ∃ nr fr k, exS Φ (.for_ (.tn 3) (.itR (.acons (.int 9) .anil)) l_law_left_0) [c, some (wi near), some (wi 0), none] S = .nx [c, some (wi nr), some (wi fr), k] S := by
  obtain ⟨ρ', e, nr, fr, k, rfl, _⟩ := for_inv (S := S) (bt := fun x ρ' S2 => bindT S2 (.tn 3) x ρ') (body := fun ρ' S2 => exS Φ l_law_left_0 ρ' S2) (fun i ρ => ∃ nr fr k, ρ = [c, some (wi nr), some (wi fr), k] ∧ 0 ≤ nr ∧ nr < 2305843009213693951 ∧ 0 ≤ fr ∧ fr < 2 ^ (62 * i)) (rngL 0 9) 0 [c, some (wi near), some (wi 0), none] ⟨near, 0, none, rfl, n0, n1, by decide, by decide⟩ (fun i x ρ hx hI => by
    obtain ⟨nr, fr, k, rfl, a0, a1, f0, f1⟩ := hI
    obtain ⟨hi, rfl⟩ := rngL_get hx
    obtain ⟨b0, b1⟩ := fmod_nn (a := nr * nr + 977 * (0 + (i : Nat)) + 11) (b := 2305843009213693951) (by decide)
    obtain ⟨c0, c1⟩ := fmod_nn (a := (nr * nr + 977 * (0 + (i : Nat)) + 11).fmod 2305843009213693951 * 69621) (b := 2305843009213693951) (by decide)
    obtain ⟨g0, g1⟩ := far_le f0 f1 c0 c1
    have m1 : mulOk nr nr = true := mul_lt _ _ (by omega) (by omega)
    have m2 : mulOk 977 (0 + (i : Nat)) = true := mul_lt _ _ (by decide) (by omega)
    have m3 : mulOk ((nr * nr + 977 * (0 + (i : Nat)) + 11).fmod 2305843009213693951) 69621 = true := mul_lt _ _ (by omega) (by decide)
    have m4 : mulOk fr 2305843009213693952 = true := by
      refine mulOk_lt 700 200 ?_ (by decide) (by decide) (by decide) (by decide)
      have : fr < 2 ^ 700 := Int.lt_of_lt_of_le f1 (by
        have h := Nat.pow_le_pow_right (n := 2) (by decide) (show 62 * (0 + i) ≤ 700 by omega)
        have h2 : ((2 ^ (62 * (0 + i)) : Nat) : Int) ≤ ((2 ^ 700 : Nat) : Int) := Int.ofNat_le.mpr h
        rw [Int.natCast_pow, Int.natCast_pow] at h2
        exact h2)
      omega
    generalize hu : ((nr * nr + 977 * (0 + (i : Nat)) + 11).fmod 2305843009213693951 * 69621).fmod 2305843009213693951 = u at c0 c1 g0 g1
    refine ⟨[c, some (wi nr), some (wi fr), some (wi (0 + (i : Nat)))], [c, some (wi u), some (wi (fr * 2305843009213693952 + u)), some (wi (0 + (i : Nat)))], by simp, ?_, u, fr * 2305843009213693952 + u, _, rfl, c0, c1, g0, g1⟩
    have z : ¬ ((2305843009213693951 : Int) = 0) := by decide
    unfold l_law_left_0
    simp only [s_scons, s_asg, s_snil, x_o2, x_var, x_int, List.getElem?_cons_succ, List.getElem?_cons_zero, R.bind_ok, o_mul, m1, m2, m3, m4, if_true, R.ofO_some, o_add, o_mod, if_neg z, hu, R.st_ok, t_tn, List.length_cons, List.length_nil, Nat.reduceAdd, Nat.reduceLT, List.set_cons_succ, List.set_cons_zero, RS.ofO_some])
  refine ⟨nr, fr, k, ?_⟩
  have hr : rngOk 9 = true := by decide
  simp only [s_for, x_itR, x_acons, x_anil, x_int, R.bind_ok, i_srcR1, hr, if_true, R.ofO_some, R.st_ok]
  exact e
theorem r_left (n : Nat) (S : Sto) (c : Int) : ∃ v, run T (n + 1) 9 [wi c] S = .ok (.ptr S.length) (S ++ [cellM v]) := by
  have lv : ∀ v, leave S.length (.ptr S.length) (S ++ [cellM v]) = .ok (.ptr S.length) (S ++ [cellM v]) := fun v => by
    show (if S.length < S.length then _ else _) = _
    rw [if_neg (Nat.lt_irrefl _)]
  have p1 : powOk 10 18 = true := by decide
  by_cases hc : 10 ^ 18 ≤ c ∨ c ≤ -10 ^ 18
  · refine ⟨c, run_at (fn := f_law_left) rfl rfl rfl ?_⟩
    show fin S.length (exS _ b_law_left [some (wi c), none, none, none] S) = _
    unfold b_law_left
    simp [p1, lstW, show 1 ≤ lim by decide]
    rcases hc with hc | hc
    · simp at hc
      simp [hc, lv]
    · simp at hc
      by_cases h2 : (1000000000000000000 : Int) ≤ c
      · simp [h2, lv]
      · simp [h2, hc, lv]
  · obtain ⟨a0, a1⟩ := fmod_nn (a := c) (b := 2305843009213693951) (by decide)
    obtain ⟨b0, b1⟩ := fmod_nn (a := c.fmod 2305843009213693951 * 48271 + 7) (b := 2305843009213693951) (by decide)
    obtain ⟨nr, fr, k, e⟩ := left_loop (run T n) S (some (wi c)) _ b0 b1
    refine ⟨fr.fdiv 1000003, run_at (fn := f_law_left) rfl rfl rfl ?_⟩
    show fin S.length (exS _ b_law_left [some (wi c), none, none, none] S) = _
    have m1 : mulOk (c.fmod 2305843009213693951) 48271 = true := mul_lt _ _ (by omega) (by decide)
    have d1 : divOk 1000003 = true := by decide
    have z : ¬ ((2305843009213693951 : Int) = 0) := by decide
    have h1 : ¬ (1000000000000000000 : Int) ≤ c := fun h => hc (.inl (by simpa using h))
    have h2 : ¬ c ≤ (-1000000000000000000 : Int) := fun h => hc (.inr (by simpa using h))
    unfold b_law_left
    simp [p1, h1, h2]
    unfold r_law_left_1
    simp only [s_scons, s_asg, x_o2, x_var, x_int, List.getElem?_cons_succ, List.getElem?_cons_zero, R.bind_ok, o_mul, m1, if_true, R.ofO_some, o_add, o_mod, if_neg z, R.st_ok, t_tn, List.length_cons, List.length_nil, Nat.reduceAdd, Nat.reduceLT, List.set_cons_succ, List.set_cons_zero, RS.ofO_some, e]
    unfold r_law_left_0
    simp [d1, lstW, show 1 ≤ lim by decide, lv]
end My

namespace My
open PySem Mi
theorem get_set {S : Sto} {p : Nat} {a b : MO} (h : S[p]? = some a) : (S.set p b)[p]? = some b := List.getElem?_set_self (List.getElem?_eq_some_iff.mp h).1
theorem pick {a b c d i : Int} (h0 : 0 ≤ i) (h1 : i < 4) : ∃ x, L2.atI [PyData.int a, .int b, .int c, .int d] i = some (.int x) ∧ (x = a ∨ x = b ∨ x = c ∨ x = d) := by
  have : i = 0 ∨ i = 1 ∨ i = 2 ∨ i = 3 := by omega
  rcases this with rfl | rfl | rfl | rfl
  · exact ⟨a, rfl, .inl rfl⟩
  · exact ⟨b, rfl, .inr (.inl rfl)⟩
  · exact ⟨c, rfl, .inr (.inr (.inl rfl))⟩
  · exact ⟨d, rfl, .inr (.inr (.inr rfl))⟩
theorem r_number (n : Nat) (S : Sto) (p : Nat) (v : Int) (hp : S[p]? = some (cellM v)) : ∃ x v', run T (n + 2) 13 [.ptr p] S = .ok (wi x) (S.set p (cellM v')) ∧ -10 ^ 30 < x ∧ x < 10 ^ 30 := by
  obtain ⟨a0, a1⟩ := fmod_nn (a := v) (b := 4) (by decide)
  obtain ⟨x, ex, hx⟩ := pick (a := 10) (b := 1000) (c := 10 ^ 12) (d := 10 ^ 30) a0 a1
  have x0 : 10 ≤ x ∧ x ≤ 10 ^ 30 := by
    rcases hx with rfl | rfl | rfl | rfl <;> decide
  have e1 := r_next n S p v 4 hp (by decide) (by decide)
  have e2 := r_next n (S.set p (cellM (v.fdiv 4))) p (v.fdiv 4) (2 * x - 1) (get_set hp) (by omega) (by omega)
  obtain ⟨b0, b1⟩ := fmod_nn (a := v.fdiv 4) (b := 2 * x - 1) (by omega)
  refine ⟨(v.fdiv 4).fmod (2 * x - 1) - x + 1, (v.fdiv 4).fdiv (2 * x - 1), run_at (fn := f_law_number) rfl rfl rfl ?_, by omega, by omega⟩
  show fin S.length (exS _ b_law_number [some (.ptr p), none] S) = _
  have m1 : mulOk 2 x = true := mul_lt _ _ (by decide) (by omega)
  have p1 : powOk 10 12 = true := by decide
  have p2 : powOk 10 30 = true := by decide
  have ex' : L2.atI [PyData.int 10, PyData.int 1000, PyData.int (10 ^ (12 : Int).toNat), PyData.int (10 ^ (30 : Int).toNat)] (v.fmod 4) = some (.int x) := ex
  have l4 : lstW [PyData.int 10, PyData.int 1000, PyData.int (10 ^ (12 : Int).toNat), PyData.int (10 ^ (30 : Int).toNat)] = some (.d (.list [PyData.int 10, PyData.int 1000, PyData.int (10 ^ (12 : Int).toNat), PyData.int (10 ^ (30 : Int).toNat)])) := if_pos (by show 4 ≤ 1000000; decide)
  rw [List.set_set] at e2
  unfold b_law_number
  simp only [s_scons, s_asg, x_ix, x_lst, x_call, x_acons, x_anil, x_o2, x_var, x_int, List.getElem?_cons_succ, List.getElem?_cons_zero, R.bind_ok, o_pow, p1, p2, if_true, R.ofO_some, x_mkL, x_dnil, x_dcons, Option.map_some, Option.bind_some, l4, e1, i_ixl, ex', R.st_ok, t_tn, List.length_cons, List.length_nil, Nat.reduceAdd, Nat.reduceLT, List.set_cons_succ, List.set_cons_zero, RS.ofO_some, s_ret, o_mul, m1, o_sub, e2, o_add, fin_rt, leave_d, take_set]
theorem r_bottom (n : Nat) (S : Sto) (p : Nat) (v : Int) (hp : S[p]? = some (cellM v)) : ∃ x v', run T (n + 2) 14 [.ptr p] S = .ok (wi x) (S.set p (cellM v')) ∧ 1 ≤ x ∧ x < 10 ^ 30 := by
  obtain ⟨a0, a1⟩ := fmod_nn (a := v) (b := 4) (by decide)
  obtain ⟨x, ex, hx⟩ := pick (a := 1) (b := 9) (c := 10 ^ 12) (d := 10 ^ 30 - 1) a0 a1
  have x0 : 1 ≤ x ∧ x ≤ 10 ^ 30 - 1 := by
    rcases hx with rfl | rfl | rfl | rfl <;> decide
  have e1 := r_next n S p v 4 hp (by decide) (by decide)
  have e2 := r_next n (S.set p (cellM (v.fdiv 4))) p (v.fdiv 4) x (get_set hp) (by omega) (by omega)
  obtain ⟨b0, b1⟩ := fmod_nn (a := v.fdiv 4) (b := x) (by omega)
  refine ⟨1 + (v.fdiv 4).fmod x, (v.fdiv 4).fdiv x, run_at (fn := f_law_bottom) rfl rfl rfl ?_, by omega, by omega⟩
  show fin S.length (exS _ b_law_bottom [some (.ptr p)] S) = _
  have p1 : powOk 10 12 = true := by decide
  have p2 : powOk 10 30 = true := by decide
  have ex' : L2.atI [PyData.int 1, PyData.int 9, PyData.int (10 ^ (12 : Int).toNat), PyData.int (10 ^ (30 : Int).toNat - 1)] (v.fmod 4) = some (.int x) := ex
  have l4 : lstW [PyData.int 1, PyData.int 9, PyData.int (10 ^ (12 : Int).toNat), PyData.int (10 ^ (30 : Int).toNat - 1)] = some (.d (.list [PyData.int 1, PyData.int 9, PyData.int (10 ^ (12 : Int).toNat), PyData.int (10 ^ (30 : Int).toNat - 1)])) := if_pos (by show 4 ≤ 1000000; decide)
  rw [List.set_set] at e2
  unfold b_law_bottom
  simp only [s_scons, s_ret, x_ix, x_lst, x_call, x_acons, x_anil, x_o2, x_var, x_int, List.getElem?_cons_succ, List.getElem?_cons_zero, R.bind_ok, o_pow, p1, p2, if_true, R.ofO_some, x_mkL, x_dnil, x_dcons, Option.map_some, Option.bind_some, o_sub, l4, e1, i_ixl, ex', R.st_ok, e2, o_add, fin_rt, leave_d, take_set]
/-! ### the greatest common divisor -/
def mB : Rho → Nat
  | [_, some (.d (.int b))] => b.toNat
  | [_, _, _, some (.d (.int b))] => b.toNat
  | _ => 0
theorem gcd_step {a b : Nat} (h : 0 < b) : (a : Int).fmod (b : Int) = ((a % b : Nat) : Int) ∧ Nat.gcd b (a % b) = Nat.gcd a b := by
  refine ⟨?_, ?_⟩
  · rw [Int.fmod_eq_emod_of_nonneg _ (by omega)]
    rfl
  · rw [Nat.gcd_comm a b, Nat.gcd_rec b a, Nat.gcd_comm]
theorem r_gcd (n : Nat) (S : Sto) (a b : Int) (hb : b.natAbs < 10 ^ 200) : run T (n + 1) 0 [wi a, wi b] S = .ok (wi (Nat.gcd a.natAbs b.natAbs : Nat)) S := by
  refine run_at (fn := f_divisor) rfl rfl rfl ?_
  show fin S.length (exS _ b_divisor [some (wi a), some (wi b)] S) = _
  have ha : ∀ x : Int, (if x < 0 then -x else x) = ((x.natAbs : Nat) : Int) := fun x => by split <;> omega
  obtain ⟨ρ', e, rfl⟩ := wh_inv (S := S) (t := fun ρ' S2 => tru (evE (run T n) (.o2 .gt (.var 1) (.int 0)) ρ' S2)) (body := fun ρ' S2 => exS (run T n) l_divisor_0 ρ' S2) (fun ρ => ∃ x y : Nat, ρ = [some (wi x), some (wi y)] ∧ Nat.gcd x y = Nat.gcd a.natAbs b.natAbs) (fun ρ => ρ = [some (wi (Nat.gcd a.natAbs b.natAbs : Nat)), some (wi 0)]) mB (fun ρ hI => by
    obtain ⟨x, y, rfl, hg⟩ := hI
    by_cases hy : 0 < y
    · have hy' : (0 : Int) < y := by omega
      obtain ⟨g1, g2⟩ := gcd_step (a := x) hy
      refine ⟨true, by simp [hy], ?_⟩
      rw [if_pos rfl]
      refine ⟨[some (wi y), some (wi (x % y : Nat))], ?_, ⟨y, x % y, rfl, g2.trans hg⟩, ?_⟩
      · have z : ¬ ((y : Int) = 0) := by omega
        unfold l_divisor_0
        simp only [s_scons, s_par, s_snil, x_o2, x_var, List.getElem?_cons_succ, List.getElem?_cons_zero, R.bind_ok, R.st_ok, o_mod, if_neg z, g1, R.ofO_some]
        simp
      · show ((x % y : Nat) : Int).toNat < ((y : Nat) : Int).toNat
        have := Nat.mod_lt x hy
        omega
    · have hy0 : y = 0 := by omega
      subst hy0
      refine ⟨false, by simp, ?_⟩
      rw [if_neg Bool.false_ne_true]
      rw [← hg, Nat.gcd_zero_right]
      rfl) (10 ^ 300) [some (wi (a.natAbs : Nat)), some (wi (b.natAbs : Nat))] ⟨_, _, rfl, rfl⟩ (by
    show ((b.natAbs : Nat) : Int).toNat < 10 ^ 300
    have : (10 : Nat) ^ 200 ≤ 10 ^ 300 := Nat.pow_le_pow_right (by decide) (by decide)
    omega)
  unfold b_divisor
  have e' : whGo (fun ρ' S2 => tru (evE (run T n) (.o2 .gt (.var 1) (.int 0)) ρ' S2)) (fun ρ' S2 => exS (run T n) l_divisor_0 ρ' S2) 1000000000000000000000000000000000000000000000000000000000000000000000000000000000000000000000000000000000000000000000000000000000000000000000000000000000000000000000000000000000000000000000000000000000000000000000000000000000000000000000000000000000000000000000000000000000000000000000000000000000000 [some (wi (a.natAbs : Nat)), some (wi (b.natAbs : Nat))] S = .nx [some (wi (Nat.gcd a.natAbs b.natAbs : Nat)), some (wi 0)] S := e
  simp only [s_scons, s_asg, x_bi, x_acons, x_anil, x_var, List.getElem?_cons_succ, List.getElem?_cons_zero, R.bind_ok, b_abs, ha, R.ofO_some, R.st_ok, t_tn, List.length_cons, List.length_nil, Nat.reduceAdd, Nat.reduceLT, if_true, List.set_cons_succ, List.set_cons_zero, RS.ofO_some, s_wh, e']
  unfold r_divisor_0
  simp
end My

namespace My
open PySem Mi
def gcdL : List Int → Nat
  | [] => 0
  | x :: xs => Nat.gcd x.natAbs (gcdL xs)
/-- the numbers, one by one -/
def gcdF (g : Nat) : List Int → Nat
  | [] => g
  | x :: xs => gcdF (Nat.gcd g x.natAbs) xs
theorem inner (Φ : Phi) (S : Sto) (s q : Option W) (x y : Nat) (hy : y < 10 ^ 200) : exS Φ (.wh 1000000000000000000000000000000000000000000000000000000000000000000000000000000000000000000000000000000000000000000000000000000000000000000000000000000000000000000000000000000000000000000000000000000000000000000000000000000000000000000000000000000000000000000000000000000000000000000000000000000000000 (.o2 .gt (.var 3) (.int 0)) l_law_divisor_0) [s, some (wi x), q, some (wi y)] S = .nx [s, some (wi (Nat.gcd x y : Nat)), q, some (wi 0)] S := by
  obtain ⟨ρ', e, rfl⟩ := wh_inv (S := S) (t := fun ρ' S2 => tru (evE Φ (.o2 .gt (.var 3) (.int 0)) ρ' S2)) (body := fun ρ' S2 => exS Φ l_law_divisor_0 ρ' S2) (fun ρ => ∃ x' y' : Nat, ρ = [s, some (wi x'), q, some (wi y')] ∧ Nat.gcd x' y' = Nat.gcd x y) (fun ρ => ρ = [s, some (wi (Nat.gcd x y : Nat)), q, some (wi 0)]) mB (fun ρ hI => by
    obtain ⟨x, y, rfl, hg⟩ := hI
    by_cases hy : 0 < y
    · obtain ⟨g1, g2⟩ := gcd_step (a := x) hy
      refine ⟨true, by simp [hy], ?_⟩
      rw [if_pos rfl]
      refine ⟨[s, some (wi y), q, some (wi (x % y : Nat))], ?_, ⟨y, x % y, rfl, g2.trans hg⟩, ?_⟩
      · have z : ¬ ((y : Int) = 0) := by omega
        unfold l_law_divisor_0
        simp only [s_scons, s_par, s_snil, x_o2, x_var, List.getElem?_cons_succ, List.getElem?_cons_zero, R.bind_ok, R.st_ok, o_mod, if_neg z, g1, R.ofO_some]
        simp
      · show ((x % y : Nat) : Int).toNat < ((y : Nat) : Int).toNat
        have := Nat.mod_lt x hy
        omega
    · have hy0 : y = 0 := by omega
      subst hy0
      refine ⟨false, by simp, ?_⟩
      rw [if_neg Bool.false_ne_true]
      rw [← hg, Nat.gcd_zero_right]
      rfl) (10 ^ 300) [s, some (wi x), q, some (wi y)] ⟨_, _, rfl, rfl⟩ (by
    show ((y : Nat) : Int).toNat < 10 ^ 300
    have : (10 : Nat) ^ 200 ≤ 10 ^ 300 := Nat.pow_le_pow_right (by decide) (by decide)
    omega)
  rw [s_wh]
  exact e
theorem outer (Φ : Phi) (S : Sto) (s : Option W) : ∀ (xs : List Int) (g : Nat) (q o : Option W), (∀ x ∈ xs, x.natAbs < 10 ^ 200) → ∃ q' o', forGo none (fun x ρ' S2 => bindT S2 (.tn 2) x ρ') (fun ρ' S2 => exS Φ l_law_divisor_1 ρ' S2) (xs.map fun x => .d (.int x)) [s, some (wi g), q, o] S = .nx [s, some (wi (gcdF g xs : Nat)), q', o'] S
  | [], g, q, o, _ => ⟨q, o, rfl⟩
  | x :: xs, g, q, o, h => by
    obtain ⟨q', o', e⟩ := outer Φ S s xs (Nat.gcd g x.natAbs) (some (wi x)) (some (wi 0)) (fun y hy => h y (List.mem_cons_of_mem _ hy))
    refine ⟨q', o', ?_⟩
    have hi := inner Φ S s (some (wi x)) g x.natAbs (h x (List.mem_cons_self ..))
    have ha : (if x < 0 then -x else x) = ((x.natAbs : Nat) : Int) := by split <;> omega
    have hb : exS Φ l_law_divisor_1 [s, some (wi g), some (wi x), o] S = .nx [s, some (wi (Nat.gcd g x.natAbs : Nat)), some (wi x), some (wi 0)] S := by
      unfold l_law_divisor_1
      simp only [s_scons, s_asg, s_snil, x_bi, x_acons, x_anil, x_var, List.getElem?_cons_succ, List.getElem?_cons_zero, R.bind_ok, b_abs, ha, R.ofO_some, R.st_ok, t_tn, List.length_cons, List.length_nil, Nat.reduceAdd, Nat.reduceLT, if_true, List.set_cons_succ, List.set_cons_zero, RS.ofO_some, hi]
    rw [List.map_cons]
    conv => lhs; unfold forGo
    rw [g_none, if_pos rfl]
    have ht : bindT S (.tn 2) (.d (.int x)) [s, some (wi g), q, o] = some [s, some (wi g), some (wi x), o] := by simp
    simp only [ht, hb]
    exact e
theorem r_divisor (n : Nat) (S : Sto) (xs : List Int) (h : ∀ x ∈ xs, x.natAbs < 10 ^ 200) : run T (n + 1) 10 [.d (.list (xs.map .int))] S = .ok (wi (gcdF 0 xs : Nat)) S := by
  refine run_at (fn := f_law_divisor) rfl rfl rfl ?_
  show fin S.length (exS _ b_law_divisor [some (.d (.list (xs.map .int))), none, none, none] S) = _
  obtain ⟨q', o', e⟩ := outer (run T n) S (some (.d (.list (xs.map .int)))) xs 0 none none h
  have e' : forGo none (fun x ρ' S2 => bindT S2 (.tn 2) x ρ') (fun ρ' S2 => exS (run T n) l_law_divisor_1 ρ' S2) ((xs.map PyData.int).map W.d) [some (.d (.list (xs.map .int))), some (wi 0), none, none] S = .nx [some (.d (.list (xs.map .int))), some (wi (gcdF 0 xs : Nat)), q', o'] S := by
    rw [List.map_map]
    exact e
  unfold b_law_divisor
  simp only [s_scons, s_asg, x_int, R.st_ok, t_tn, List.length_cons, List.length_nil, Nat.reduceAdd, Nat.reduceLT, if_true, List.set_cons_succ, List.set_cons_zero, RS.ofO_some, s_for, x_itE, x_var, List.getElem?_cons_succ, List.getElem?_cons_zero, R.bind_ok, i_srcl, R.ofO_some, e']
  unfold r_law_divisor_0
  simp
theorem gcdF_div : ∀ (xs : List Int) (g : Nat), gcdF g xs ∣ g ∧ ∀ x ∈ xs, gcdF g xs ∣ x.natAbs
  | [], g => ⟨Nat.dvd_refl g, fun x hx => by cases hx⟩
  | y :: xs, g => by
    obtain ⟨h1, h2⟩ := gcdF_div xs (Nat.gcd g y.natAbs)
    refine ⟨Nat.dvd_trans h1 (Nat.gcd_dvd_left _ _), fun x hx => ?_⟩
    rcases List.mem_cons.mp hx with rfl | hx
    · exact Nat.dvd_trans h1 (Nat.gcd_dvd_right _ _)
    · exact h2 x hx
theorem r_lowest (n : Nat) (S : Sto) (xs : List Int) (h : ∀ x ∈ xs, x.natAbs < 10 ^ 200) (hl : xs.length ≤ lim) (g : Nat) (hg : gcdF 0 xs = g) (h0 : 0 < g) (h1 : g < 10 ^ 50) : run T (n + 2) 11 [.d (.list (xs.map .int))] S = .ok (.d (.tuple (xs.map fun x => .int (x.fdiv g)))) S := by
  refine run_at (fn := f_law_lowest) rfl rfl rfl ?_
  show fin S.length (exS _ b_law_lowest [some (.d (.list (xs.map .int))), none, none] S) = _
  have e := r_divisor n S xs h
  rw [hg] at e
  have hd : divOk (g : Int) = true := divOk_small (by omega) (by omega)
  have el := lc_map (S := S) (bt := fun x S2 => bindT S2 (.tn 2) x (wipeR [some (.d (.list (xs.map .int))), some (wi g), none] [2])) (tst := fun ρ' S2 => evT (run T (n + 1)) .anil ρ' S2) (el := fun ρ' S2 => evE (run T (n + 1)) (.o2 .fdiv (.var 2) (.var 1)) ρ' S2) (fun w => match w with | .d (.int x) => .int (x.fdiv g) | _ => .none) ((xs.map PyData.int).map W.d) [] (by simpa using hl) (fun w hw => by
    rw [List.map_map] at hw
    obtain ⟨x, hx, rfl⟩ := List.mem_map.mp hw
    refine ⟨[some (.d (.list (xs.map .int))), some (wi g), some (wi x)], by simp [wipeR], rfl, ?_⟩
    simp [hd])
  unfold b_law_lowest
  simp only [s_scons, s_asg, x_call, x_acons, x_anil, x_var, List.getElem?_cons_succ, List.getElem?_cons_zero, R.bind_ok, e, R.st_ok, t_tn, List.length_cons, List.length_nil, Nat.reduceAdd, Nat.reduceLT, if_true, List.set_cons_succ, List.set_cons_zero, RS.ofO_some, s_ret, x_bi, x_lc, x_itE, i_srcl, R.ofO_some, el, b_tupl]
  simp
end My

namespace My
open PySem Mi TL
abbrev wS (z : PySem.Str) : W := .d (.str z)
theorem fig_mem {c : Nat} (h : 48 ≤ c ∧ c ≤ 57) : c ∈ (Str.ofString "0123456789").cps.toList := by
  have e : (Str.ofString "0123456789").cps.toList = [48, 49, 50, 51, 52, 53, 54, 55, 56, 57] := by decide +kernel
  rw [e]
  have : c = 48 ∨ c = 49 ∨ c = 50 ∨ c = 51 ∨ c = 52 ∨ c = 53 ∨ c = 54 ∨ c = 55 ∨ c = 56 ∨ c = 57 := by omega
  rcases this with h | h | h | h | h | h | h | h | h | h <;> simp [h]
theorem whole0 (Φ : Phi) (S : Sto) (x : Int) (hx : x.natAbs < 10 ^ 30) (F : PySem.Str) (hF : tl F = numL x.natAbs) (o : Option W) : exS Φ r_whole_of_1 [some (wS (NS x)), some (wS F), o] S = .rt (wi x) S := by
  have hl := NS_len hx
  have hlF : F.length ≤ 30 := by rw [len_tl, hF]; exact numL_len (by decide) hx
  have l1 : F.length ≤ lim := Nat.le_trans hlF (by decide)
  have l2 : (NS x).length ≤ 640 := by omega
  have hi := NS_int hx
  cases e : numL x.natAbs with
  | nil => exact absurd e (numL_ne _)
  | cons c r =>
    have ea : L2.atI F.cps.toList 0 = some c := by
      rw [show F.cps.toList = c :: r from hF.trans e]
      have h0 : (0 : Int) < ((c :: r).length : Nat) := by
        rw [List.length_cons]
        omega
      unfold L2.atI L2.ixN
      rw [if_pos (Int.le_refl 0), if_pos h0]
      rfl
    have tail : exS Φ r_whole_of_0 [some (wS (NS x)), some (wS F), o] S = .rt (wi x) S := by
      unfold r_whole_of_0
      simp only [s_scons, s_ret, x_bi, x_acons, x_anil, x_var, List.getElem?_cons_succ, List.getElem?_cons_zero, R.bind_ok, b_ints, if_pos l2, hi, Option.map_some, R.ofO_some, R.st_ok]
    have hc : ((⟨#[c]⟩ : PySem.Str) == Str.ofString "0") = decide (c = 48) := by
      rw [str_inj]
      have : tl (Str.ofString "0") = [48] := by decide +kernel
      rw [this]
      show decide ([c] = [48]) = _
      simp
    unfold r_whole_of_1
    by_cases h48 : c = 48
    · have hz : x.natAbs = 0 := numL_zero (by rw [e, h48]; rfl)
      have hx0 : x = 0 := by omega
      have hn : (NS x == Str.ofString "0") = true := by
        subst hx0
        decide +kernel
      simp only [s_scons, s_ift, x_and, x_one, x_o2, x_ix, x_var, x_int, x_str, List.getElem?_cons_succ, List.getElem?_cons_zero, R.bind_ok, i_ixs, if_pos l1, ea, Option.map_some, R.ofO_some, o_eqs, hc, decide_eq_true h48, x_tru, if_true, o_nes, hn, R.st_ok]
      simpa using tail
    · simp only [s_scons, s_ift, x_and, x_one, x_o2, x_ix, x_var, x_int, x_str, List.getElem?_cons_succ, List.getElem?_cons_zero, R.bind_ok, i_ixs, if_pos l1, ea, Option.map_some, R.ofO_some, o_eqs, hc, decide_eq_false h48, x_tru, R.st_ok]
      simpa using tail
theorem whole2 (Φ : Phi) (S : Sto) (x : Int) (hx : x.natAbs < 10 ^ 30) (F : PySem.Str) (hF : tl F = numL x.natAbs) (o : Option W) : exS Φ r_whole_of_2 [some (wS (NS x)), some (wS F), o] S = .rt (wi x) S := by
  have hlF : F.length ≤ 30 := by rw [len_tl, hF]; exact numL_len (by decide) hx
  have l1 : F.length ≤ lim := Nat.le_trans hlF (by decide)
  have hp : 1 ≤ F.length := by
    rw [len_tl, hF]
    cases e : numL x.natAbs with
    | nil => exact absurd e (numL_ne _)
    | cons _ _ => simp
  have el := lc_none (S := S) (bt := fun w S2 => bindT S2 (.tn 2) w (wipeR [some (wS (NS x)), some (wS F), o] [2])) (tst := fun ρ' S2 => evT Φ (.one (.o2 .notin (.var 2) (.gs "FIGURES" "0123456789"))) ρ' S2) (el := fun ρ' S2 => evE Φ (.var 2) ρ' S2) (F.cps.toList.map fun c => .d (.str ⟨#[c]⟩)) [] (fun w hw => by
    obtain ⟨c, hc, rfl⟩ := List.mem_map.mp hw
    have hd : 48 ≤ c ∧ c ≤ 57 := numL_digits _ c (by rw [← hF]; exact hc)
    refine ⟨[some (wS (NS x)), some (wS F), some (.d (.str ⟨#[c]⟩))], by simp [wipeR], ?_⟩
    simp only [x_tone, x_o2, x_var, x_gs, List.getElem?_cons_succ, List.getElem?_cons_zero, R.bind_ok, o_notin1, decide_eq_true (fig_mem hd), R.ofO_some, x_tru]
    rfl)
  have hne : o2 .ne S (.d (.list [])) (.d (.list [])) = some (.d (.bool false)) := o_neL (S := S) [] []
  have h1 : decide ((1 : Int) ≤ (F.length : Nat)) = true := by simp; omega
  have h2 : decide (((F.length : Nat) : Int) ≤ 30) = true := by simp; omega
  unfold r_whole_of_2
  simp only [s_scons, s_ift, x_or, x_not, x_one, x_ch, x_o2, x_int, x_gi, x_bi, x_acons, x_anil, x_var, List.getElem?_cons_succ, List.getElem?_cons_zero, R.bind_ok, b_lens, if_pos l1, R.ofO_some, o_le, h1, h2, x_tru, if_true, Bool.not_true, if_neg Bool.false_ne_true, x_lc, x_itE, i_srcs, el, x_lst, x_mkL, x_dnil, Option.bind_some, lstW, List.length_nil, if_pos (Nat.zero_le _), hne, R.st_ok, s_snil]
  exact whole0 Φ S x hx F hF o
theorem r_whole (n : Nat) (S : Sto) (x : Int) (hx : x.natAbs < 10 ^ 30) : run T (n + 1) 2 [wS (NS x)] S = .ok (wi x) S := by
  refine run_at (fn := f_whole_of) rfl rfl rfl ?_
  show fin S.length (exS _ b_whole_of [some (wS (NS x)), none, none] S) = _
  have hl := NS_len hx
  have l1 : (NS x).length ≤ lim := Nat.le_trans hl (by decide)
  have lp := NS_len_pos x
  have lp' : 1 ≤ (NS x).cps.toList.length := by rw [← len_tl]; exact lp
  have ch := cut_head (NS x).cps.toList lp'
  have ct := cut_tail (NS x).cps.toList lp'
  have et := tl_NS x
  have hm : tl (Str.ofString "-") = [45] := by decide +kernel
  unfold b_whole_of
  by_cases h0 : x < 0
  · have e1 : (NS x).cps.toList = 45 :: numL x.natAbs := by
      unfold tx at et
      rw [if_pos h0] at et
      exact et
    have hs : ((⟨(cutG (NS x).cps.toList none (some 1)).toArray⟩ : PySem.Str) == Str.ofString "-") = true := by
      rw [str_inj, hm, ch, e1]
      simp
    have w2 := whole2 (run T n) S x hx ⟨(cutG (NS x).cps.toList (some 1) none).toArray⟩ (by
      rw [ct, e1]
      rfl) none
    simp only [s_scons, s_asg, s_ift, s_snil, x_o2, x_sl, x_nop, x_some, x_var, x_int, x_str, List.getElem?_cons_succ, List.getElem?_cons_zero, R.bind_ok, R.st_ok, t_tn, List.length_cons, List.length_nil, Nat.reduceAdd, Nat.reduceLT, if_true, List.set_cons_succ, List.set_cons_zero, RS.ofO_some, i_sls, if_pos l1, R.ofO_some, o_eqs, hs, x_tru]
    rw [w2]
    simp
  · have e1 : (NS x).cps.toList = numL x.natAbs := by
      unfold tx at et
      rw [if_neg h0] at et
      exact et
    have hs : ((⟨(cutG (NS x).cps.toList none (some 1)).toArray⟩ : PySem.Str) == Str.ofString "-") = false := by
      rw [str_inj, hm, ch, e1]
      cases e : numL x.natAbs with
      | nil => exact absurd e (numL_ne _)
      | cons c r =>
        have hd := numL_digits x.natAbs c (by rw [e]; exact List.mem_cons_self ..)
        show decide ([c] = [45]) = false
        simp
        omega
    have w2 := whole2 (run T n) S x hx (NS x) e1 none
    simp only [s_scons, s_asg, s_ift, s_snil, x_o2, x_sl, x_nop, x_some, x_var, x_int, x_str, List.getElem?_cons_succ, List.getElem?_cons_zero, R.bind_ok, R.st_ok, t_tn, List.length_cons, List.length_nil, Nat.reduceAdd, Nat.reduceLT, if_true, List.set_cons_succ, List.set_cons_zero, RS.ofO_some, i_sls, if_pos l1, R.ofO_some, o_eqs, hs, x_tru, if_neg Bool.false_ne_true]
    rw [w2]
    simp
end My

namespace My
open PySem Mi TL
abbrev t4 (x y z w : Int) : PyData := .tuple [.int x, .int y, .int z, .int w]
abbrev t2 (x y : Int) : PyData := .tuple [.int x, .int y]
theorem big30 {x : Int} (h : x.natAbs < 10 ^ 30) : x.natAbs < 10 ^ 200 := Nat.lt_of_lt_of_le h (Nat.pow_le_pow_right (by decide) (by decide))
theorem r_made (n : Nat) (S : Sto) (x y z w : Int) (hx : x.natAbs < 10 ^ 30) (hy : y.natAbs < 10 ^ 30) (hz : z.natAbs < 10 ^ 30) (hw : w.natAbs < 10 ^ 30) (h1 : 1 ≤ w) (hg : Nat.gcd (Nat.gcd x.natAbs y.natAbs) (Nat.gcd z.natAbs w.natAbs) = 1) : run T (n + 2) 1 [wi x, wi y, wi z, wi w] S = .ok (.d (t4 x y z w)) S := by
  refine run_at (fn := f_made_spot) rfl rfl rfl ?_
  show fin S.length (exS _ b_made_spot [some (wi x), some (wi y), some (wi z), some (wi w), none] S) = _
  have e1 := r_gcd n S x y (big30 hy)
  have e2 := r_gcd n S z w (big30 hw)
  have e3 := r_gcd n S (Nat.gcd x.natAbs y.natAbs : Nat) (Nat.gcd z.natAbs w.natAbs : Nat) (by
    rw [Int.natAbs_natCast]
    refine Nat.lt_of_le_of_lt (Nat.gcd_le_right _ ?_) (big30 hw)
    omega)
  rw [Int.natAbs_natCast, Int.natAbs_natCast, hg] at e3
  have z0 : (w == (0 : Int)) = false := by
    rw [beq_eq_false_iff_ne]
    omega
  have z1 : decide (w < 0) = false := by
    rw [decide_eq_false_iff_not]
    omega
  have d1 : divOk ((1 : Nat) : Int) = true := by decide
  have tw : tupW [PyData.int x, PyData.int y, PyData.int z, PyData.int w] = some (.d (t4 x y z w)) := if_pos (by show 4 ≤ 1000000; decide)
  have f1 : ∀ a : Int, a.fdiv ((1 : Nat) : Int) = a := fun a => Int.fdiv_one a
  unfold b_made_spot
  simp only [s_scons, s_ift, s_snil, x_o2, x_var, x_int, List.getElem?_cons_succ, List.getElem?_cons_zero, R.bind_ok, o_eqi, z0, R.ofO_some, x_tru, R.st_ok, if_neg Bool.false_ne_true]
  unfold r_made_spot_1
  simp only [s_scons, s_asg, s_ift, s_snil, x_call, x_acons, x_anil, x_o2, x_var, x_int, List.getElem?_cons_succ, List.getElem?_cons_zero, R.bind_ok, e1, e2, e3, R.st_ok, t_tn, List.length_cons, List.length_nil, Nat.reduceAdd, Nat.reduceLT, if_true, List.set_cons_succ, List.set_cons_zero, RS.ofO_some, o_lt, z1, R.ofO_some, x_tru, if_neg Bool.false_ne_true]
  unfold r_made_spot_0
  simp only [s_scons, s_ret, x_tup, x_acons, x_anil, x_o2, x_var, List.getElem?_cons_succ, List.getElem?_cons_zero, R.bind_ok, o_fdiv, d1, if_true, R.ofO_some, f1, x_mkL, x_dcons, x_dnil, Option.map_some, Option.bind_some, tw, R.st_ok, fin_rt, leave_d]
  rw [List.take_length]
/-- the text of a spot -/
def spT (x y z w : Int) : PySem.Str := if w = 1 then NS x ++ Str.ofString "," ++ NS y ++ Str.ofString "," ++ NS z else NS x ++ Str.ofString "," ++ NS y ++ Str.ofString "," ++ NS z ++ Str.ofString "/" ++ NS w
theorem comma_tl : tl (Str.ofString ",") = [44] := by decide +kernel
theorem slash_tl : tl (Str.ofString "/") = [47] := by decide +kernel
theorem comma_len : (Str.ofString ",").length = 1 := by decide +kernel
theorem slash_len : (Str.ofString "/").length = 1 := by decide +kernel
theorem app_len (a b : PySem.Str) : (a ++ b).length = a.length + b.length := by
  rw [len_tl, tl_append, List.length_append, len_tl, len_tl]
theorem join3 (x y z : Int) : Txt.join (Str.ofString ",") [NS x, NS y, NS z] = NS x ++ Str.ofString "," ++ NS y ++ Str.ofString "," ++ NS z := by
  rw [join_eq]
  refine ext_tl ?_
  rw [tl_join, tl_append, tl_append, tl_append, tl_append]
  show tl (NS x) ++ (tl (Str.ofString ",") ++ (tl (NS y) ++ (tl (Str.ofString ",") ++ tl (NS z)))) = _
  simp only [List.append_assoc]
section
variable {x y z w : Int} (hx : x.natAbs < 10 ^ 30) (hy : y.natAbs < 10 ^ 30) (hz : z.natAbs < 10 ^ 30) (hw : w.natAbs < 10 ^ 30)
include hx hy hz hw
theorem r_law_spot_text (n : Nat) (S : Sto) (h1 : 1 ≤ w) : run T (n + 1) 12 [.d (t4 x y z w)] S = .ok (wS (spT x y z w)) S := by
  refine run_at (fn := f_law_spot_text) rfl rfl rfl ?_
  show fin S.length (exS _ b_law_spot_text [some (.d (t4 x y z w)), none] S) = _
  have lx := NS_len hx
  have ly := NS_len hy
  have lz := NS_len hz
  have lw := NS_len hw
  have gx := log_small hx
  have gy := log_small hy
  have gz := log_small hz
  have gw := log_small hw
  have i0 : L2.atI [PyData.int x, .int y, .int z, .int w] 0 = some (.int x) := rfl
  have i1 : L2.atI [PyData.int x, .int y, .int z, .int w] 1 = some (.int y) := rfl
  have i2 : L2.atI [PyData.int x, .int y, .int z, .int w] 2 = some (.int z) := rfl
  have i3 : L2.atI [PyData.int x, .int y, .int z, .int w] 3 = some (.int w) := rfl
  have hlim : lim = 1000000 := rfl
  have q1 : (NS x).length + (Str.ofString ",").length ≤ lim := by rw [comma_len]; omega
  have q2 : (NS x ++ Str.ofString ",").length + (NS y).length ≤ lim := by rw [app_len, comma_len]; omega
  have q3 : (NS x ++ Str.ofString "," ++ NS y).length + (Str.ofString ",").length ≤ lim := by rw [app_len, app_len, comma_len]; omega
  have q4 : (NS x ++ Str.ofString "," ++ NS y ++ Str.ofString ",").length + (NS z).length ≤ lim := by rw [app_len, app_len, app_len, comma_len]; omega
  have q5 : (NS x ++ Str.ofString "," ++ NS y ++ Str.ofString "," ++ NS z).length + (Str.ofString "/").length ≤ lim := by rw [app_len, app_len, app_len, app_len, comma_len, slash_len]; omega
  have q6 : (NS x ++ Str.ofString "," ++ NS y ++ Str.ofString "," ++ NS z ++ Str.ofString "/").length + (NS w).length ≤ lim := by rw [app_len, app_len, app_len, app_len, app_len, comma_len, slash_len]; omega
  unfold b_law_spot_text spT
  simp only [s_scons, s_asg, s_ift, s_snil, x_o2, x_bi, x_acons, x_anil, x_ix, x_var, x_int, x_str, List.getElem?_cons_succ, List.getElem?_cons_zero, R.bind_ok, i_ixt, i0, i1, i2, i3, Option.map_some, R.ofO_some, b_str, if_pos gx, if_pos gy, if_pos gz, o_adds, if_pos q1, if_pos q2, if_pos q3, if_pos q4, R.st_ok, t_tn, List.length_cons, List.length_nil, Nat.reduceAdd, Nat.reduceLT, if_true, List.set_cons_succ, List.set_cons_zero, RS.ofO_some, o_gt, x_tru]
  by_cases hw1 : w = 1
  · have : decide ((1 : Int) < w) = false := by rw [decide_eq_false_iff_not]; omega
    simp only [this, if_neg Bool.false_ne_true, if_pos hw1]
    unfold r_law_spot_text_0
    simp only [s_scons, s_ret, x_var, List.getElem?_cons_succ, List.getElem?_cons_zero, R.st_ok, fin_rt, leave_d, List.take_length]
  · have : decide ((1 : Int) < w) = true := by rw [decide_eq_true_eq]; omega
    simp only [this, if_true, if_neg hw1, s_ret, x_o2, x_bi, x_acons, x_anil, x_ix, x_var, x_int, x_str, List.getElem?_cons_succ, List.getElem?_cons_zero, R.bind_ok, i_ixt, i3, Option.map_some, R.ofO_some, b_str, if_pos gw, o_adds, if_pos q5, if_pos q6, R.st_ok, fin_rt, leave_d, List.take_length]
theorem r_spot_text (n : Nat) (S : Sto) (h1 : 1 ≤ w) : run T (n + 1) 7 [.d (t4 x y z w)] S = .ok (wS (spT x y z w)) S := by
  refine run_at (fn := f_spot_text) rfl rfl rfl ?_
  show fin S.length (exS _ b_spot_text [some (.d (t4 x y z w)), none, none] S) = _
  have lx := NS_len hx
  have ly := NS_len hy
  have lz := NS_len hz
  have lw := NS_len hw
  have gx := log_small hx
  have gy := log_small hy
  have gz := log_small hz
  have gw := log_small hw
  have hlim : lim = 1000000 := rfl
  have i3 : L2.atI [PyData.int x, .int y, .int z, .int w] 3 = some (.int w) := rfl
  have sl : slW S (.d (t4 x y z w)) none (some 3) = some (.d (.tuple [.int x, .int y, .int z])) := by
    rw [i_slt, if_neg (by rintro ⟨_, h⟩; exact absurd h (by show ¬ (3 = 4); decide))]
    rfl
  have el := lc_map (S := S) (bt := fun w' S2 => bindT S2 (.tn 2) w' (wipeR [some (.d (t4 x y z w)), none, none] [2])) (tst := fun ρ' S2 => evT (run T n) .anil ρ' S2) (el := fun ρ' S2 => evE (run T n) (.bi .str_ (.acons (.var 2) .anil)) ρ' S2) (fun w' => match w' with | .d (.int a) => .str (NS a) | _ => .none) ([PyData.int x, .int y, .int z].map W.d) [] (by show 0 + 3 ≤ 1000000; decide) (fun w' hw' => by
    have st : ∀ a : Int, a.natAbs.log2 < 1920 → ∃ ρ, bindT S (.tn 2) (.d (.int a)) (wipeR [some (.d (t4 x y z w)), none, none] [2]) = some ρ ∧ evT (run T n) .anil ρ S = .ok true S ∧ evE (run T n) (.bi .str_ (.acons (.var 2) .anil)) ρ S = .ok (.d (.str (NS a))) S := fun a ga => by
      refine ⟨[some (.d (t4 x y z w)), none, some (wi a)], by simp [wipeR], rfl, ?_⟩
      simp only [x_bi, x_acons, x_anil, x_var, List.getElem?_cons_succ, List.getElem?_cons_zero, R.bind_ok, b_str, if_pos ga, R.ofO_some]
    simp only [List.map_cons, List.map_nil, List.mem_cons, List.not_mem_nil, or_false] at hw'
    rcases hw' with rfl | rfl | rfl
    · exact st x gx
    · exact st y gy
    · exact st z gz)
  have ej : mtJoin S (wS (Str.ofString ",")) [.d (.list [.str (NS x), .str (NS y), .str (NS z)])] = some (wS (NS x ++ Str.ofString "," ++ NS y ++ Str.ofString "," ++ NS z)) := by
    show (if ([NS x, NS y, NS z].map (·.length)).sum + [NS x, NS y, NS z].length * (Str.ofString ",").length ≤ lim then some (W.d (.str (Txt.join (Str.ofString ",") [NS x, NS y, NS z]))) else none) = _
    rw [if_pos (by
      rw [comma_len]
      simp only [List.map_cons, List.map_nil, List.sum_cons, List.sum_nil, List.length_cons, List.length_nil]
      omega), join3]
  have et : mtTy .join S (wS (Str.ofString ",")) = true := rfl
  have em : ∀ ws, mt .join S (wS (Str.ofString ",")) ws = (mtJoin S (wS (Str.ofString ",")) ws).map (·, S) := fun _ => rfl
  have q5 : (NS x ++ Str.ofString "," ++ NS y ++ Str.ofString "," ++ NS z).length + (Str.ofString "/").length ≤ lim := by rw [app_len, app_len, app_len, app_len, comma_len, slash_len]; omega
  have q6 : (NS x ++ Str.ofString "," ++ NS y ++ Str.ofString "," ++ NS z ++ Str.ofString "/").length + (NS w).length ≤ lim := by rw [app_len, app_len, app_len, app_len, app_len, comma_len, slash_len]; omega
  unfold b_spot_text spT
  simp only [s_scons, s_asg, s_ift, s_snil, x_mt, x_str, R.bind_ok, et, if_true, x_acons, x_anil, x_lc, x_itE, x_sl, x_nop, x_some, x_int, x_var, List.getElem?_cons_succ, List.getElem?_cons_zero, sl, R.ofO_some, i_srct, el]
  have ee : ([] : List PyData) ++ ([PyData.int x, .int y, .int z].map W.d).map (fun w' => match w' with | .d (.int a) => .str (NS a) | _ => .none) = [.str (NS x), .str (NS y), .str (NS z)] := rfl
  simp only [ee, em, ej, Option.map_some, x_ofP, R.st_ok, t_tn, List.length_cons, List.length_nil, Nat.reduceAdd, Nat.reduceLT, if_true, List.set_cons_succ, List.set_cons_zero, RS.ofO_some, s_ift, s_scons, s_snil, x_o2, x_ix, x_var, x_int, List.getElem?_cons_succ, List.getElem?_cons_zero, R.bind_ok, i_ixt, i3, Option.map_some, R.ofO_some, o_eqi, x_tru]
  by_cases hw1 : w = 1
  · simp only [hw1, beq_self_eq_true, if_true, s_scons, s_ret, x_var, List.getElem?_cons_succ, List.getElem?_cons_zero, R.st_ok, fin_rt, leave_d, List.take_length]
  · have : (w == (1 : Int)) = false := by rw [beq_eq_false_iff_ne]; exact hw1
    simp only [this, if_neg Bool.false_ne_true, if_neg hw1]
    unfold r_spot_text_0
    simp only [s_scons, s_ret, x_o2, x_bi, x_acons, x_anil, x_ix, x_var, x_int, x_str, List.getElem?_cons_succ, List.getElem?_cons_zero, R.bind_ok, i_ixt, i3, Option.map_some, R.ofO_some, b_str, if_pos gw, o_adds, if_pos q5, if_pos q6, R.st_ok, fin_rt, leave_d, List.take_length]
end
end My

namespace My
open PySem Mi TL
theorem shaped_tints (ns : List Int) : SeqAt.shaped (.tuple (ns.map .int)) = true := by
  have h := depth_ints ns
  unfold SeqAt.shaped
  rw [Bool.and_eq_true, decide_eq_true_eq]
  exact ⟨canLay_ints ns, by simp [PyData.depth]; omega⟩
theorem eqD_tints (ns ms : List Int) : eqD (.tuple (ns.map .int)) (.tuple (ms.map .int)) = some (decide (ns = ms)) := by
  unfold eqD
  rw [shaped_tints, shaped_tints]
  show (if (true && true) = true then some (PyData.eqvAll (ns.map .int) (ms.map .int)) else none) = _
  rw [eqv_ints]
  rfl
theorem o_neT {S : Sto} (ns ms : List Int) : o2 .ne S (.d (.tuple (ns.map .int))) (.d (.tuple (ms.map .int))) = some (.d (.bool (!decide (ns = ms)))) := by
  show blW ((eqD _ _).map not) = _
  rw [eqD_tints]
  rfl
theorem o_eqT {S : Sto} (ns ms : List Int) : o2 .eq S (.d (.tuple (ns.map .int))) (.d (.tuple (ms.map .int))) = some (.d (.bool (decide (ns = ms)))) := by
  show blW (eqD _ _) = _
  rw [eqD_tints]
  rfl
section
variable {x y z w : Int} (hx : x.natAbs < 10 ^ 30) (hy : y.natAbs < 10 ^ 30) (hz : z.natAbs < 10 ^ 30) (hw : w.natAbs < 10 ^ 30) (h1 : 1 ≤ w) (hg : Nat.gcd (Nat.gcd x.natAbs y.natAbs) (Nat.gcd z.natAbs w.natAbs) = 1)
include hx hy hz hw h1 hg
theorem spot_tail (n : Nat) (S : Sto) (a b d o : Option W) (st : PySem.Str) (hst : (st == Str.ofString "") = false → w ≠ 1) :
    exS (run T (n + 2)) r_spot_of_2 [a, b, some (wS st), d, some (.ptr S.length), o] (S ++ [.lst [.int x, .int y, .int z, .int w]]) = .rt (.d (t4 x y z w)) (S ++ [.lst [.int x, .int y, .int z, .int w]]) := by
  generalize hS1 : S ++ [MO.lst [.int x, .int y, .int z, .int w]] = S1
  have hp : S1[S.length]? = some (.lst [.int x, .int y, .int z, .int w]) := by
    rw [← hS1]
    simp
  have hl : lst? S1 (.ptr S.length) = some [.int x, .int y, .int z, .int w] := lst_ptr hp
  have hlen : bi .len S1 [.ptr S.length] = some (.d (.int 4)) := by
    show (lst? S1 (.ptr S.length)).map (fun xs => W.d (.int xs.length)) = _
    rw [hl]
    rfl
  have hix : ∀ k, ixW S1 (.ptr S.length) (.d (.int k)) = (L2.atI [PyData.int x, .int y, .int z, .int w] k).map .d := fun k => by
    show (match lst? S1 (.ptr S.length) with | some xs => (L2.atI xs k).map W.d | none => none) = _
    rw [hl]
  have i0 : L2.atI [PyData.int x, .int y, .int z, .int w] 0 = some (.int x) := rfl
  have i1 : L2.atI [PyData.int x, .int y, .int z, .int w] 1 = some (.int y) := rfl
  have i2 : L2.atI [PyData.int x, .int y, .int z, .int w] 2 = some (.int z) := rfl
  have i3 : L2.atI [PyData.int x, .int y, .int z, .int w] 3 = some (.int w) := rfl
  have hin : o2 .in_ S1 (.d .none) (.ptr S.length) = some (.d (.bool false)) := by
    show blW (match lst? S1 (.ptr S.length) with | some xs => inL .none xs | none => none) = _
    rw [hl]
    rfl
  have htup : bi .tup_ S1 [.ptr S.length] = some (.d (t4 x y z w)) := by
    show (lst? S1 (.ptr S.length)).map (fun xs => W.d (.tuple xs)) = _
    rw [hl]
    rfl
  have em := r_made n S1 x y z w hx hy hz hw h1 hg
  have hne : o2 .ne S1 (.d (t4 x y z w)) (.d (t4 x y z w)) = some (.d (.bool false)) := by
    have := o_neT (S := S1) [x, y, z, w] [x, y, z, w]
    simpa using this
  have q1 : decide (w < 1) = false := by rw [decide_eq_false_iff_not]; omega
  have q4 : (!((4 : Int) == 4)) = false := by decide
  unfold r_spot_of_2
  simp only [s_scons, s_ift, s_snil, x_or, x_and, x_one, x_o2, x_bi, x_acons, x_anil, x_var, x_int, x_non, x_str, x_ix, List.getElem?_cons_succ, List.getElem?_cons_zero, R.bind_ok, hlen, R.ofO_some, o_nei, q4, x_tru, if_neg Bool.false_ne_true, hin, hix, i3, Option.map_some, o_lt, q1, o_nes]
  have rest : exS (run T (n + 2)) r_spot_of_1 [a, b, some (wS st), d, some (.ptr S.length), o] S1 = .rt (.d (t4 x y z w)) S1 := by
    unfold r_spot_of_1
    simp only [s_scons, s_ift, s_snil, x_call, x_o2, x_bi, x_acons, x_anil, x_var, x_int, x_ix, List.getElem?_cons_succ, List.getElem?_cons_zero, R.bind_ok, hix, i0, i1, i2, i3, Option.map_some, R.ofO_some, em, htup, hne, x_tru, R.st_ok, if_neg Bool.false_ne_true]
    unfold r_spot_of_0
    simp only [s_scons, s_ret, x_bi, x_acons, x_anil, x_var, List.getElem?_cons_succ, List.getElem?_cons_zero, R.bind_ok, htup, R.ofO_some, R.st_ok]
  cases hs : (st == Str.ofString "") with
  | true =>
    simp only [Bool.not_true, if_neg Bool.false_ne_true, R.st_ok]
    exact rest
  | false =>
    have hw1 : (w == (1 : Int)) = false := by
      rw [beq_eq_false_iff_ne]
      exact hst hs
    simp only [Bool.not_false, if_true, x_o2, x_ix, x_var, x_int, List.getElem?_cons_succ, List.getElem?_cons_zero, R.bind_ok, hix, i3, Option.map_some, R.ofO_some, o_eqi, hw1, x_tru, R.st_ok, if_neg Bool.false_ne_true]
    exact rest
theorem r_spot_of (n : Nat) (S : Sto) : run T (n + 3) 3 [wS (spT x y z w)] S = .ok (.d (t4 x y z w)) S := by
  refine run_at (fn := f_spot_of) rfl rfl rfl ?_
  show fin S.length (exS _ b_spot_of [some (wS (spT x y z w)), none, none, none, none, none] S) = _
  have lx := NS_len hx
  have ly := NS_len hy
  have lz := NS_len hz
  have lw := NS_len hw
  have hlim : lim = 1000000 := rfl
  -- the three numbers
  have hJ := join3 x y z
  generalize hJe : NS x ++ Str.ofString "," ++ NS y ++ Str.ofString "," ++ NS z = J at hJ
  have lJ : J.length ≤ 95 := by
    rw [← hJe, app_len, app_len, app_len, app_len, comma_len]
    omega
  have free : ∀ a : Int, (44 ∉ tl (NS a)) ∧ 47 ∉ tl (NS a) := fun a => by
    rw [tl_NS]
    exact ⟨tx_free ⟨.inl (by decide), by decide⟩, tx_free ⟨.inl (by decide), by decide⟩⟩
  have hsp : Txt.split J (Str.ofString ",") = [NS x, NS y, NS z] := by
    rw [← hJ]
    refine split_join comma_tl (by decide +kernel) (by simp) fun p hp => ?_
    simp only [List.mem_cons, List.not_mem_nil, or_false] at hp
    rcases hp with rfl | rfl | rfl
    · exact (free x).1
    · exact (free y).1
    · exact (free z).1
  have h47 : 47 ∉ tl J := by
    rw [← hJe, tl_append, tl_append, tl_append, tl_append, comma_tl]
    simp only [List.mem_append, List.mem_singleton, not_or]
    exact ⟨⟨⟨⟨(free x).2, by decide⟩, (free y).2⟩, by decide⟩, (free z).2⟩
  have el : ∀ (S : Sto) (o1 o2 o3 o4 o5 o6 : Option W), lcGo none (fun w' S2 => bindT S2 (.tn 5) w' (wipeR [o1, o2, o3, o4, o5, o6] [5])) (fun ρ' S2 => evT (run T (n + 2)) .anil ρ' S2) (fun ρ' S2 => evE (run T (n + 2)) (.call 2 (.acons (.var 5) .anil)) ρ' S2) ([PyData.str (NS x), .str (NS y), .str (NS z)].map W.d) S [] = .ok (.d (.list [.int x, .int y, .int z])) S := fun S o1 o2 o3 o4 o5 o6 => by
    have st : ∀ a : Int, a.natAbs < 10 ^ 30 → ∃ ρ, bindT S (.tn 5) (.d (.str (NS a))) (wipeR [o1, o2, o3, o4, o5, o6] [5]) = some ρ ∧ evT (run T (n + 2)) .anil ρ S = .ok true S ∧ evE (run T (n + 2)) (.call 2 (.acons (.var 5) .anil)) ρ S = .ok (wi a) S := fun a ha => by
      have e := r_whole (n + 1) S a ha
      refine ⟨[o1, o2, o3, o4, o5, some (wS (NS a))], by simp [wipeR], rfl, ?_⟩
      simp only [x_call, x_acons, x_anil, x_var, List.getElem?_cons_succ, List.getElem?_cons_zero, R.bind_ok, e]
    obtain ⟨ρ1, a1, a2, a3⟩ := st x hx
    obtain ⟨ρ2, b1, b2, b3⟩ := st y hy
    obtain ⟨ρ3, c1, c2, c3⟩ := st z hz
    simp only [List.map_cons, List.map_nil, lcGo, g_none, if_true, a1, a2, a3, b1, b2, b3, c1, c2, c3, List.length_nil, List.length_append, List.length_cons, hlim, Nat.reduceAdd, Nat.reduceLT, List.nil_append, List.cons_append]
  have esplit : ∀ S : Sto, mt .split S (wS J) [wS (Str.ofString ",")] = some (.d (.list [.str (NS x), .str (NS y), .str (NS z)]), S) := fun S => by
    show (if ((Str.ofString ",").length == 0) = false ∧ J.length ≤ lim then some (W.d (.list ((Txt.split J (Str.ofString ",")).map strD))) else none).map (·, S) = _
    rw [if_pos ⟨by decide +kernel, by omega⟩, hsp]
    rfl
  have ety : ∀ S : Sto, mtTy .split S (wS J) = true := fun S => rfl
  have epy : ∀ (S : Sto) (s : PySem.Str), mtTy .partition S (wS s) = true := fun S s => rfl
  have eadd : ∀ S : Sto, o2 .add S (.d (.list [.int x, .int y, .int z])) (.d (.list [.int 1])) = some (.d (.list [.int x, .int y, .int z, .int 1])) := fun S => by
    show (if 3 + 1 ≤ lim then some (W.d (.list [.int x, .int y, .int z, .int 1])) else none) = _
    rw [if_pos (by rw [hlim]; decide)]
  have l1 : lstW [PyData.int 1] = some (.d (.list [.int 1])) := if_pos (by show 1 ≤ 1000000; decide)
  have emp : tl (Str.ofString "") = [] := by decide +kernel
  by_cases hw1 : w = 1
  · have hpart : mt .partition S (wS (spT x y z w)) [wS (Str.ofString "/")] = some (.d (.tuple [.str J, .str Str.empty, .str Str.empty]), S) := by
      unfold spT
      rw [if_pos hw1, hJe]
      show (if ((Str.ofString "/").length == 0) = false ∧ J.length ≤ lim then some (W.d (.tuple [.str (Txt.partition J (Str.ofString "/")).1, .str (Txt.partition J (Str.ofString "/")).2.1, .str (Txt.partition J (Str.ofString "/")).2.2])) else none).map (·, S) = _
      rw [if_pos ⟨by decide +kernel, by omega⟩, partition_none slash_tl h47]
      rfl
    have he : (Str.empty == Str.ofString "") = true := by decide +kernel
    have tail := spot_tail hx hy hz hw h1 hg n S (some (wS (spT x y z w))) (some (wS J)) (some (wS Str.empty)) none Str.empty (fun h => by rw [he] at h; cases h)
    have hw1' : (MO.lst [PyData.int x, .int y, .int z, .int 1]) = .lst [.int x, .int y, .int z, .int w] := by rw [hw1]
    unfold b_spot_of
    simp only [s_scons, s_asg, s_ift, s_snil, x_mt, x_str, x_var, x_acons, x_anil, List.getElem?_cons_succ, List.getElem?_cons_zero, R.bind_ok, epy, if_true, hpart, x_ofP, R.st_ok, t_tt, List.map_cons, List.map_nil, t_cons, t_tn, t_nil, List.length_cons, List.length_nil, Nat.reduceAdd, Nat.reduceLT, List.set_cons_succ, List.set_cons_zero, RS.ofO_some, x_new, x_o2, x_lc, x_itE, ety, esplit, i_srcl, R.ofO_some]
    simp only [List.map_cons, List.map_nil] at el
    simp only [el, R.bind_ok, x_lst, x_acons, x_anil, x_int, x_mkL, x_dcons, x_dnil, Option.map_some, Option.bind_some, l1, R.ofO_some, eadd, R.st_ok, t_tn, List.length_cons, List.length_nil, Nat.reduceAdd, Nat.reduceLT, if_true, List.set_cons_succ, List.set_cons_zero, RS.ofO_some, x_o2, x_var, x_str, List.getElem?_cons_succ, List.getElem?_cons_zero, o_nes, he, Bool.not_true, x_tru, if_neg Bool.false_ne_true, s_scons, s_ift, s_snil, hw1', tail, fin_rt, leave_d]
    rw [List.take_left' rfl]
  · have hpart : mt .partition S (wS (spT x y z w)) [wS (Str.ofString "/")] = some (.d (.tuple [.str J, .str (Str.ofString "/"), .str (NS w)]), S) := by
      unfold spT
      rw [if_neg hw1, hJe]
      show (if ((Str.ofString "/").length == 0) = false ∧ (J ++ Str.ofString "/" ++ NS w).length ≤ lim then some (W.d (.tuple [.str (Txt.partition (J ++ Str.ofString "/" ++ NS w) (Str.ofString "/")).1, .str (Txt.partition (J ++ Str.ofString "/" ++ NS w) (Str.ofString "/")).2.1, .str (Txt.partition (J ++ Str.ofString "/" ++ NS w) (Str.ofString "/")).2.2])) else none).map (·, S) = _
      rw [if_pos ⟨by decide +kernel, by rw [app_len, app_len, slash_len]; omega⟩, partition_app slash_tl h47]
      rfl
    have he : (Str.ofString "/" == Str.ofString "") = false := by decide +kernel
    have tail := spot_tail hx hy hz hw h1 hg n S (some (wS (spT x y z w))) (some (wS J)) (some (wS (NS w))) none (Str.ofString "/") (fun _ => hw1)
    have ew := r_whole (n + 1) (S ++ [.lst [.int x, .int y, .int z, .int 1]]) w hw
    have es : setW (S ++ [.lst [.int x, .int y, .int z, .int 1]]) (.ptr S.length) (.d (.int (-1))) (wi w) = some (S ++ [.lst [.int x, .int y, .int z, .int w]]) := by
      show (match (S ++ [MO.lst [.int x, .int y, .int z, .int 1]])[S.length]? with | some (.lst xs) => (L2.ixN xs.length (-1)).map fun j => (S ++ [MO.lst [.int x, .int y, .int z, .int 1]]).set S.length (.lst (xs.set j (.int w))) | _ => none) = _
      have : (S ++ [MO.lst [PyData.int x, .int y, .int z, .int 1]])[S.length]? = some (.lst [.int x, .int y, .int z, .int 1]) := by simp
      rw [this]
      show some ((S ++ [MO.lst [PyData.int x, .int y, .int z, .int 1]]).set S.length (.lst [.int x, .int y, .int z, .int w])) = _
      rw [List.set_append_right _ _ (Nat.le_refl _), Nat.sub_self]
      rfl
    unfold b_spot_of
    simp only [s_scons, s_asg, s_ift, s_snil, x_mt, x_str, x_var, x_acons, x_anil, List.getElem?_cons_succ, List.getElem?_cons_zero, R.bind_ok, epy, if_true, hpart, x_ofP, R.st_ok, t_tt, List.map_cons, List.map_nil, t_cons, t_tn, t_nil, List.length_cons, List.length_nil, Nat.reduceAdd, Nat.reduceLT, List.set_cons_succ, List.set_cons_zero, RS.ofO_some, x_new, x_o2, x_lc, x_itE, ety, esplit, i_srcl, R.ofO_some]
    simp only [List.map_cons, List.map_nil] at el
    simp only [el, R.bind_ok, x_lst, x_acons, x_anil, x_int, x_mkL, x_dcons, x_dnil, Option.map_some, Option.bind_some, l1, R.ofO_some, eadd, R.st_ok, t_tn, List.length_cons, List.length_nil, Nat.reduceAdd, Nat.reduceLT, if_true, List.set_cons_succ, List.set_cons_zero, RS.ofO_some, x_o2, x_var, x_str, List.getElem?_cons_succ, List.getElem?_cons_zero, o_nes, he, Bool.not_false, x_tru, s_scons, s_ift, s_setix, x_call, ew, x_neg, es, s_snil, tail, fin_rt, leave_d]
    rw [List.take_left' rfl]
theorem r_read (n : Nat) (S : Sto) : run T (n + 4) 5 [wS (spT x y z w)] S = .ok (.d (t4 x y z w)) S := by
  refine run_at (fn := f_read_spot) rfl rfl rfl ?_
  show fin S.length (exS _ b_read_spot [some (wS (spT x y z w))] S) = _
  have e := r_spot_of hx hy hz hw h1 hg n S
  have e2 : run T (n + 3) 4 [.d (t4 x y z w)] S = .ok (.d (t4 x y z w)) S := by
    refine run_at (fn := f_told_or_none) rfl rfl rfl ?_
    show fin S.length (exS _ b_told_or_none [some (.d (t4 x y z w))] S) = _
    unfold b_told_or_none
    simp only [s_scons, s_ift, s_snil, x_o2, x_var, x_non, List.getElem?_cons_succ, List.getElem?_cons_zero, R.bind_ok, o_isN, R.ofO_some, x_tru, R.st_ok, if_neg Bool.false_ne_true]
    unfold r_told_or_none_0
    simp
  unfold b_read_spot
  simp only [s_scons, s_ret, x_call, x_acons, x_anil, x_var, List.getElem?_cons_succ, List.getElem?_cons_zero, R.bind_ok, e, e2, R.st_ok, fin_rt, leave_d, List.take_length]
end
end My

namespace My
open PySem Mi TL
def frT (t b : Int) : PySem.Str := if b = 1 then NS t else NS t ++ Str.ofString "/" ++ NS b
theorem r_frac (n : Nat) (S : Sto) (t b : Int) (ht : t.natAbs < 10 ^ 30) (hb : b.natAbs < 10 ^ 30) : run T (n + 1) 6 [.d (t2 t b)] S = .ok (wS (frT t b)) S ∧ run T (n + 1) 15 [.d (t2 t b)] S = .ok (wS (frT t b)) S := by
  have lt := NS_len ht
  have lb := NS_len hb
  have gt := log_small ht
  have gb := log_small hb
  have hlim : lim = 1000000 := rfl
  have i0 : L2.atI [PyData.int t, .int b] 0 = some (.int t) := rfl
  have i1 : L2.atI [PyData.int t, .int b] 1 = some (.int b) := rfl
  have q1 : (NS t).length + (Str.ofString "/").length ≤ lim := by rw [slash_len]; omega
  have q2 : (NS t ++ Str.ofString "/").length + (NS b).length ≤ lim := by rw [app_len, slash_len]; omega
  have core : ∀ (Φ : Phi), fin S.length (exS Φ b_fraction_text [some (.d (t2 t b))] S) = .ok (wS (frT t b)) S := fun Φ => by
    unfold b_fraction_text frT
    simp only [s_scons, s_ift, s_snil, x_o2, x_ix, x_var, x_int, List.getElem?_cons_succ, List.getElem?_cons_zero, R.bind_ok, i_ixt, i1, Option.map_some, R.ofO_some, o_eqi, x_tru, R.st_ok]
    by_cases h1 : b = 1
    · have : (b == (1 : Int)) = true := by rw [beq_iff_eq]; exact h1
      simp only [this, if_true, if_pos h1, s_scons, s_ret, x_bi, x_acons, x_anil, x_ix, x_var, x_int, List.getElem?_cons_succ, List.getElem?_cons_zero, R.bind_ok, i_ixt, i0, Option.map_some, R.ofO_some, b_str, if_pos gt, R.st_ok, fin_rt, leave_d, List.take_length]
    · have : (b == (1 : Int)) = false := by rw [beq_eq_false_iff_ne]; exact h1
      simp only [this, if_neg Bool.false_ne_true, if_neg h1]
      unfold r_fraction_text_0
      simp only [s_scons, s_ret, x_o2, x_bi, x_acons, x_anil, x_ix, x_var, x_int, x_str, List.getElem?_cons_succ, List.getElem?_cons_zero, R.bind_ok, i_ixt, i0, i1, Option.map_some, R.ofO_some, b_str, if_pos gt, if_pos gb, o_adds, if_pos q1, if_pos q2, R.st_ok, fin_rt, leave_d, List.take_length]
  exact ⟨run_at (fn := f_fraction_text) rfl rfl rfl (core _), run_at (fn := f_law_fraction_text) rfl rfl rfl (core _)⟩
theorem r_same (n : Nat) (S : Sto) (x y z w : Int) : run T (n + 1) 16 [.d (t4 x y z w), .d (t4 x y z w)] S = .ok (.d (.bool true)) S := by
  refine run_at (fn := f_law_same) rfl rfl rfl ?_
  show fin S.length (exS _ b_law_same [some (.d (t4 x y z w)), some (.d (t4 x y z w)), none] S) = _
  have st : ∀ (a : Int), exS (run T n) l_law_same_0 [some (.d (t4 x y z w)), some (.d (t4 x y z w)), some (wi a)] S = .nx [some (.d (t4 x y z w)), some (.d (t4 x y z w)), some (wi a)] S := fun a => by
    have e1 : isiW "int" S (wi a) = some (.d (.bool true)) := rfl
    have e2 : isiW "bool" S (wi a) = some (.d (.bool false)) := rfl
    unfold l_law_same_0
    simp only [s_scons, s_ift, s_snil, x_or, x_not, x_one, x_isi, x_var, List.getElem?_cons_succ, List.getElem?_cons_zero, R.bind_ok, e1, e2, R.ofO_some, x_tru, Bool.not_true, if_neg Bool.false_ne_true, R.st_ok]
  have e1 : isiW "tuple" S (.d (t4 x y z w)) = some (.d (.bool true)) := rfl
  have he : o2 .eq S (.d (t4 x y z w)) (.d (t4 x y z w)) = some (.d (.bool true)) := by
    have := o_eqT (S := S) [x, y, z, w] [x, y, z, w]
    simpa using this
  have hl : (!((([PyData.int x, .int y, .int z, .int w].length : Nat) : Int) == (([PyData.int x, .int y, .int z, .int w].length : Nat) : Int))) = false := by
    rw [beq_self_eq_true]
    rfl
  unfold b_law_same
  simp only [s_scons, s_ift, s_snil, x_or, x_not, x_one, x_isi, x_o2, x_bi, x_acons, x_anil, x_var, List.getElem?_cons_succ, List.getElem?_cons_zero, R.bind_ok, e1, R.ofO_some, x_tru, Bool.not_true, if_neg Bool.false_ne_true, b_lent, o_nei, hl, R.st_ok]
  unfold r_law_same_1
  simp only [s_scons, s_for, x_itE, x_var, List.getElem?_cons_succ, List.getElem?_cons_zero, R.bind_ok, i_srct, R.ofO_some, R.st_ok, List.map_cons, List.map_nil, forGo, g_none, if_true, t_tn, List.length_cons, List.length_nil, Nat.reduceAdd, Nat.reduceLT, List.set_cons_succ, List.set_cons_zero, st]
  unfold r_law_same_0
  simp only [s_scons, s_ret, x_o2, x_var, List.getElem?_cons_succ, List.getElem?_cons_zero, R.bind_ok, he, R.ofO_some, R.st_ok, fin_rt, leave_d, List.take_length]
/-! ### lowest terms -/
theorem low_one {a : Int} {g : Nat} (h0 : 0 < g) (hd : g ∣ a.natAbs) : a.natAbs = g * (a.fdiv g).natAbs ∧ (1 ≤ a → 1 ≤ a.fdiv g) := by
  obtain ⟨k, hk⟩ := Int.ofNat_dvd_left.mpr hd
  have e : a.fdiv g = k := by
    rw [hk, Int.fdiv_eq_ediv_of_nonneg _ (by omega), Int.mul_ediv_cancel_left _ (by omega)]
  rw [e]
  refine ⟨by rw [hk, Int.natAbs_mul, Int.natAbs_natCast], fun h1 => ?_⟩
  rw [hk] at h1
  by_cases hk0 : 1 ≤ k
  · exact hk0
  · have : (g : Int) * k ≤ 0 := Int.mul_nonpos_of_nonneg_of_nonpos (by omega) (by omega)
    omega
theorem le_mul {a g k : Nat} (h : a = g * k) (h0 : 0 < g) : k ≤ a := by
  rw [h]
  exact Nat.le_mul_of_pos_left k h0
theorem low4 (a b c d : Int) (ha : a.natAbs < 10 ^ 30) (hb : b.natAbs < 10 ^ 30) (hc : c.natAbs < 10 ^ 30) (hd : d.natAbs < 10 ^ 30) (h1 : 1 ≤ d) : ∃ g : Nat, gcdF 0 [a, b, c, d] = g ∧ 0 < g ∧ g < 10 ^ 50 ∧
    (a.fdiv g).natAbs < 10 ^ 30 ∧ (b.fdiv g).natAbs < 10 ^ 30 ∧ (c.fdiv g).natAbs < 10 ^ 30 ∧ (d.fdiv g).natAbs < 10 ^ 30 ∧ 1 ≤ d.fdiv g ∧ Nat.gcd (Nat.gcd (a.fdiv g).natAbs (b.fdiv g).natAbs) (Nat.gcd (c.fdiv g).natAbs (d.fdiv g).natAbs) = 1 := by
  obtain ⟨_, hdv⟩ := gcdF_div [a, b, c, d] 0
  have e : gcdF 0 [a, b, c, d] = Nat.gcd (Nat.gcd a.natAbs b.natAbs) (Nat.gcd c.natAbs d.natAbs) := by
    show Nat.gcd (Nat.gcd (Nat.gcd (Nat.gcd 0 a.natAbs) b.natAbs) c.natAbs) d.natAbs = _
    rw [Nat.gcd_zero_left, Nat.gcd_assoc (Nat.gcd a.natAbs b.natAbs)]
  generalize hg : gcdF 0 [a, b, c, d] = g at hdv e
  have da := hdv a (by simp)
  have db := hdv b (by simp)
  have dc := hdv c (by simp)
  have dd := hdv d (by simp)
  have h0 : 0 < g := Nat.pos_of_ne_zero fun z => by
    rw [z] at dd
    have := Nat.eq_zero_of_zero_dvd dd
    omega
  obtain ⟨a1, _⟩ := low_one h0 da
  obtain ⟨b1, _⟩ := low_one h0 db
  obtain ⟨c1, _⟩ := low_one h0 dc
  obtain ⟨d1, d2⟩ := low_one h0 dd
  have gl : g ≤ d.natAbs := Nat.le_of_dvd (by omega) dd
  refine ⟨g, rfl, h0, by omega, Nat.lt_of_le_of_lt (le_mul a1 h0) ha, Nat.lt_of_le_of_lt (le_mul b1 h0) hb, Nat.lt_of_le_of_lt (le_mul c1 h0) hc, Nat.lt_of_le_of_lt (le_mul d1 h0) hd, d2 h1, ?_⟩
  generalize (a.fdiv g).natAbs = p at a1 ⊢
  generalize (b.fdiv g).natAbs = q at b1 ⊢
  generalize (c.fdiv g).natAbs = r at c1 ⊢
  generalize (d.fdiv g).natAbs = s at d1 ⊢
  rw [a1, b1, c1, d1, Nat.gcd_mul_left, Nat.gcd_mul_left, Nat.gcd_mul_left] at e
  exact (Nat.mul_left_cancel h0 (by rw [Nat.mul_one]; exact e)).symm
theorem low2 (a d : Int) (ha : a.natAbs < 10 ^ 30) (hd : d.natAbs < 10 ^ 30) (h1 : 1 ≤ d) : ∃ g : Nat, gcdF 0 [a, d] = g ∧ 0 < g ∧ g < 10 ^ 50 ∧ (a.fdiv g).natAbs < 10 ^ 30 ∧ (d.fdiv g).natAbs < 10 ^ 30 := by
  obtain ⟨_, hdv⟩ := gcdF_div [a, d] 0
  generalize hg : gcdF 0 [a, d] = g at hdv
  have da := hdv a (by simp)
  have dd := hdv d (by simp)
  have h0 : 0 < g := Nat.pos_of_ne_zero fun z => by
    rw [z] at dd
    have := Nat.eq_zero_of_zero_dvd dd
    omega
  obtain ⟨a1, _⟩ := low_one h0 da
  obtain ⟨d1, d2⟩ := low_one h0 dd
  have gl : g ≤ d.natAbs := Nat.le_of_dvd (by omega) dd
  exact ⟨g, rfl, h0, by omega, Nat.lt_of_le_of_lt (le_mul a1 h0) ha, Nat.lt_of_le_of_lt (le_mul d1 h0) hd⟩
end My

namespace My
open PySem Mi TL
theorem body0 (n : Nat) (S : Sto) (p : Nat) (v : Int) (hp : S[p]? = some (cellM v)) (s c k a b d : Option W) : ∃ v' a' b' d', exS (run T (n + 6)) l_law_0 [s, c, some (.ptr p), k, a, b, d] S = .nx [s, c, some (.ptr p), k, a', b', d'] (S.set p (cellM v')) := by
  obtain ⟨x1, v1, e1, m1, n1⟩ := r_number (n + 4) S p v hp
  have p1 := get_set (b := cellM v1) hp
  obtain ⟨x2, v2, e2, m2, n2⟩ := r_number (n + 4) (S.set p (cellM v1)) p v1 p1
  have p2 := get_set (b := cellM v2) hp
  rw [List.set_set] at e2
  obtain ⟨x3, v3, e3, m3, n3⟩ := r_number (n + 4) (S.set p (cellM v2)) p v2 p2
  have p3 := get_set (b := cellM v3) hp
  rw [List.set_set] at e3
  obtain ⟨x4, v4, e4, m4, n4⟩ := r_bottom (n + 4) (S.set p (cellM v3)) p v3 p3
  have p4 := get_set (b := cellM v4) hp
  rw [List.set_set] at e4
  obtain ⟨x5, v5, e5, m5, n5⟩ := r_number (n + 4) (S.set p (cellM v4)) p v4 p4
  have p5 := get_set (b := cellM v5) hp
  rw [List.set_set] at e5
  obtain ⟨x6, v6, e6, m6, n6⟩ := r_bottom (n + 4) (S.set p (cellM v5)) p v5 p5
  rw [List.set_set] at e6
  obtain ⟨g, hg, g0, g1, ba, bb, bc, bd, w1, gg⟩ := low4 x1 x2 x3 x4 (by omega) (by omega) (by omega) (by omega) m4
  obtain ⟨h, hh, h0, h1, bt, bu⟩ := low2 x5 x6 (by omega) (by omega) m6
  have big : ∀ {x : Int}, x.natAbs < 10 ^ 30 → x.natAbs < 10 ^ 200 := fun h => big30 h
  have f1 : run T (n + 6) 11 [.d (.list [.int x1, .int x2, .int x3, .int x4])] (S.set p (cellM v4)) = .ok (.d (t4 (x1.fdiv g) (x2.fdiv g) (x3.fdiv g) (x4.fdiv g))) (S.set p (cellM v4)) := by
    refine r_lowest (n + 4) (S.set p (cellM v4)) [x1, x2, x3, x4] (fun x hx => ?_) (by show 4 ≤ 1000000; decide) g hg g0 g1
    simp only [List.mem_cons, List.not_mem_nil, or_false] at hx
    rcases hx with rfl | rfl | rfl | rfl <;> exact big (by omega)
  have f2 : run T (n + 6) 11 [.d (.list [.int x5, .int x6])] (S.set p (cellM v6)) = .ok (.d (t2 (x5.fdiv h) (x6.fdiv h))) (S.set p (cellM v6)) := by
    refine r_lowest (n + 4) (S.set p (cellM v6)) [x5, x6] (fun x hx => ?_) (by show 2 ≤ 1000000; decide) h hh h0 h1
    simp only [List.mem_cons, List.not_mem_nil, or_false] at hx
    rcases hx with rfl | rfl <;> exact big (by omega)
  generalize x1.fdiv g = x at f1 ba gg
  generalize x2.fdiv g = y at f1 bb gg
  generalize x3.fdiv g = z at f1 bc gg
  generalize x4.fdiv g = w at f1 bd gg w1
  generalize x5.fdiv h = t at f2 bt
  generalize x6.fdiv h = u at f2 bu
  generalize hS4 : S.set p (cellM v4) = S4 at e4 e5 f1
  generalize hS5 : S.set p (cellM v5) = S5 at e5 e6
  generalize hS6 : S.set p (cellM v6) = S6 at e6 f2
  have q1 := r_spot_text ba bb bc bd (n + 5) S4 w1
  have q2 := r_law_spot_text ba bb bc bd (n + 5) S4 w1
  have q3 := r_read ba bb bc bd w1 gg (n + 2) S4
  have q4 := r_same (n + 5) S4 x y z w
  obtain ⟨q5, q6⟩ := r_frac (n + 5) S6 t u bt bu
  have i1 : ∀ (S : Sto) (s : PySem.Str), isiW "str" S (wS s) = some (.d (.bool true)) := fun S s => rfl
  have l4 : lstW [PyData.int x1, .int x2, .int x3, .int x4] = some (.d (.list [.int x1, .int x2, .int x3, .int x4])) := if_pos (by show 4 ≤ 1000000; decide)
  have l2 : lstW [PyData.int x5, .int x6] = some (.d (.list [.int x5, .int x6])) := if_pos (by show 2 ≤ 1000000; decide)
  have be : ∀ s : PySem.Str, (!(s == s)) = false := fun s => by rw [beq_self_eq_true]; rfl
  refine ⟨v6, some (.d (t4 x y z w)), some (wS (frT t u)), some (.d (t2 t u)), ?_⟩
  rw [hS6]
  unfold l_law_0
  simp only [s_scons, s_asg, s_ift, s_snil, x_call, x_acons, x_anil, x_lst, x_var, List.getElem?_cons_succ, List.getElem?_cons_zero, R.bind_ok, e1, e2, e3, e4, x_mkL, x_dcons, x_dnil, Option.map_some, Option.bind_some, l4, R.ofO_some, f1, R.st_ok, t_tn, List.length_cons, List.length_nil, Nat.reduceAdd, Nat.reduceLT, if_true, List.set_cons_succ, List.set_cons_zero, RS.ofO_some, q1, x_or, x_not, x_one, x_isi, i1, x_tru, Bool.not_true, if_neg Bool.false_ne_true, x_o2, q2, o_nes, be, q3, q4]
  unfold r_law_1
  simp only [s_scons, s_asg, s_ift, s_snil, x_call, x_acons, x_anil, x_lst, x_var, List.getElem?_cons_succ, List.getElem?_cons_zero, R.bind_ok, e5, e6, x_mkL, x_dcons, x_dnil, Option.map_some, Option.bind_some, l2, R.ofO_some, f2, R.st_ok, t_tn, List.length_cons, List.length_nil, Nat.reduceAdd, Nat.reduceLT, if_true, List.set_cons_succ, List.set_cons_zero, RS.ofO_some, q5, x_or, x_not, x_one, x_isi, i1, x_tru, Bool.not_true, if_neg Bool.false_ne_true, x_o2, q6, o_nes, be]
theorem body1 (n : Nat) (S : Sto) (s q a b d e : Option W) (c : Int) : ∃ q' a' b' d' e' S', exS (run T (n + 6)) l_law_1 [s, some (wi c), q, a, b, d, e] S = .nx [s, some (wi c), q', a', b', d', e'] S' := by
  obtain ⟨v, ev⟩ := r_left (n + 5) S c
  obtain ⟨ρ', S', ef, hI⟩ := for_invS (bt := fun x ρ' S2 => bindT S2 (.tn 3) x ρ') (body := fun ρ' S2 => exS (run T (n + 6)) l_law_0 ρ' S2) (fun _ ρ S1 => (∃ k a b d, ρ = [s, some (wi c), some (.ptr S.length), k, a, b, d]) ∧ ∃ v, S1[S.length]? = some (cellM v)) (rngL 0 3) 0 [s, some (wi c), some (.ptr S.length), a, b, d, e] (S ++ [cellM v]) ⟨⟨a, b, d, e, rfl⟩, v, by simp⟩ (fun i x ρ S1 hx hI => by
    obtain ⟨⟨k, a, b, d, rfl⟩, v, hv⟩ := hI
    obtain ⟨v', a', b', d', e1⟩ := body0 n S1 S.length v hv s (some (wi c)) (some x) a b d
    exact ⟨_, _, _, by simp, e1, ⟨_, _, _, _, rfl⟩, v', get_set hv⟩)
  obtain ⟨⟨k, a', b', d', rfl⟩, _⟩ := hI
  refine ⟨some (.ptr S.length), k, a', b', d', S', ?_⟩
  have hr : rngOk 3 = true := by decide
  have ef' : forGo none (fun x ρ' S2 => bindT S2 (.tn 3) x ρ') (fun ρ' S2 => exS (run T (n + 6)) l_law_0 ρ' S2) (rngL 0 (3 : Int).toNat) [s, some (wi c), some (.ptr S.length), a, b, d, e] (S ++ [cellM v]) = .nx [s, some (wi c), some (.ptr S.length), k, a', b', d'] S' := ef
  unfold l_law_1
  simp only [s_scons, s_asg, s_snil, x_call, x_acons, x_anil, x_var, List.getElem?_cons_succ, List.getElem?_cons_zero, R.bind_ok, ev, R.st_ok, t_tn, List.length_cons, List.length_nil, Nat.reduceAdd, Nat.reduceLT, if_true, List.set_cons_succ, List.set_cons_zero, RS.ofO_some, s_for, x_itR, x_int, i_srcR1, hr, R.ofO_some, ef']
theorem law_true : ∀ ns : List Int, ns.length ≤ 63 → (∀ k ∈ ns, Builtin.Int.intBits k ≤ 1048576) → ∃ S, run T 20 17 [.d (.list (ns.map .int))] [] = .ok (.d (.bool true)) S := by
  intro ns hz _
  have ea : o2 .add [] (.d (.list [.int 0])) (.d (.list (ns.map .int))) = some (.d (.list ((0 :: ns).map .int))) := by
    show (if [PyData.int 0].length + (ns.map PyData.int).length ≤ lim then some (W.d (.list ([PyData.int 0] ++ ns.map .int))) else none) = _
    rw [if_pos (by rw [List.length_map]; show 1 + _ ≤ 1000000; omega)]
    rfl
  obtain ⟨ρ', S', ef, q, c, a, b, d, e, rfl⟩ := for_invS (bt := fun x ρ' S2 => bindT S2 (.tn 1) x ρ') (body := fun ρ' S2 => exS (run T 19) l_law_1 ρ' S2) (fun _ ρ _ => ∃ c q a b d e, ρ = [some (.d (.list (ns.map .int))), c, q, a, b, d, e]) (((0 :: ns).map PyData.int).map W.d) 0 [some (.d (.list (ns.map .int))), none, none, none, none, none, none] [] ⟨_, _, _, _, _, _, rfl⟩ (fun i x ρ S1 hx hI => by
    obtain ⟨c, q, a, b, d, e, rfl⟩ := hI
    rw [List.map_map, List.getElem?_map] at hx
    cases hc : (0 :: ns)[i]? with
    | none => rw [hc] at hx; cases hx
    | some cell =>
      rw [hc] at hx
      cases hx
      obtain ⟨q', a', b', d', e', S2, e1⟩ := body1 13 S1 (some (.d (.list (ns.map .int)))) q a b d e cell
      exact ⟨_, _, _, by simp, e1, _, _, _, _, _, _, rfl⟩)
  refine ⟨[], run_at (fn := f_law) rfl rfl rfl ?_⟩
  show fin 0 (exS (run T 19) b_law [some (.d (.list (ns.map .int))), none, none, none, none, none, none] []) = _
  have l1 : lstW [PyData.int 0] = some (.d (.list [.int 0])) := if_pos (by show 1 ≤ 1000000; decide)
  unfold b_law
  simp only [s_scons, s_for, x_itE, x_o2, x_lst, x_acons, x_anil, x_int, x_var, List.getElem?_cons_succ, List.getElem?_cons_zero, R.bind_ok, x_mkL, x_dcons, x_dnil, Option.map_some, Option.bind_some, l1, R.ofO_some, ea, i_srcl, R.st_ok, ef]
  unfold r_law_0
  simp
end My

open PySem PySem.W PySem.Calls PyProof.Rows
theorem PySem.Challenge.cw_boardsight_k84_spots_and_fractions_writt_holds : PySem.Challenge.rw_boardsight_k84_spots_and_fractions_writt.Holds := by
  w_on; o_law
  refine HandSHeadRun.head_any (r := OpenLaw.row PySem.Challenge.rw_boardsight_k84_spots_and_fractions_writt) (q := view (OpenLaw.row PySem.Challenge.rw_boardsight_k84_spots_and_fractions_writt).prog [29]) (H := My.hk) (ob := My.ob) (M := 3000) (loose := My.loose) (d := HandSHeadRun.topDef (OpenLaw.row PySem.Challenge.rw_boardsight_k84_spots_and_fractions_writt).prog 29) (kwd := []) My.ob_eq
    (by kernel_rfl) (fun s => by kernel_rfl) My.run_ (by kernel_rfl) (by kernel_rfl) (by kernel_rfl) (by rfl) (by first | assumption | decide +kernel) (by decide +kernel) ⟨rfl, rfl, rfl, rfl, rfl, by decide +kernel⟩ ?hw ?hc
  case hw => w_witness2
  case hc =>
    exact Mi.walk_mi (l := PySem.Challenge.rw_boardsight_k84_spots_and_fractions_writt) (n := 63) (k := 20) (x := "script") (j := 17) (fn := My.f_law) (p := My.Pw) (T := My.T) (ix := My.ix) (gI := My.gI) (gS := My.gS) (gF := My.gF) rfl (by decide) (by kernel_rfl) ⟨rfl, by decide, by decide⟩ (by kernel_rfl) rfl rfl rfl
      (fun w h Y => Y) My.ok_all My.bd_all My.law_true
