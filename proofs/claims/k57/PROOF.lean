import PyProof.Rows.All
import Wide.All
import OpenK.AllK
import Wide.FinOn
import HandS.ForMost
import HandS.ForExc
import HandS.Wide
import HandS.WideBits
import HandS.Text
import HandS.StrMore
import PyProof.StrBlock2
import HandS.IsInst
import HandS.ExcIs
import HandS.ExcValue
import HandS.Comp
import HandS.Iter
import HandS.Zip
import HandS.More
import HandS.SortKw
import KE.DatumOrd
import HandS.TryOnly
import HandS.ForDict
import HandS.Defaults
import HandS.Head0
import HandS.Head1
import HandS.Head2
import HandS.HeadEnd
import HandS.HeadHook1
import HandS.HeadHook2
import HandS.EndBits
import KE.KBits
import KE.BitLaws
import KE.KBitsMul
import PySem.Challenge.RW_roundmill_k57_whole_shown_and_read
set_option Elab.async false
set_option linter.all false
set_option maxRecDepth 100000
set_option maxHeartbeats 4000000
/-! Rm, part A: values, the small language, its evaluator. -/
namespace Rm
open PySem L2

inductive MV where
  | non | bl (b : Bool) | int (i : Int) | str (s : Str)
  | tup (xs : List MV) | lst (xs : List MV)
  | ref (i : Nat)
  | obj (c : Nat) (fs : List MV)
  | exc (c : Nat) (fs : List MV)
  deriving Inhabited

inductive MO where
  | lst (xs : List MV)
  | ins (c : Nat) (fs : List MV)
  deriving Inhabited

abbrev HP := List MO
abbrev MX := Nat × List MV
abbrev EN := List (Option MV)

inductive R (α : Type) where
  | ok (a : α) (h : HP) | exc (x : MX) (h : HP) | bad

def R.bind {α β : Type} (r : R α) (f : α → HP → R β) : R β := match r with
  | .ok a h => f a h
  | .exc x h => .exc x h
  | .bad => .bad
@[simp] theorem R.bind_ok {α β : Type} (a : α) (h : HP) (f : α → HP → R β) : (R.ok a h).bind f = f a h := rfl
@[simp] theorem R.bind_exc {α β : Type} (x : MX) (h : HP) (f : α → HP → R β) : (R.exc x h : R α).bind f = .exc x h := rfl
@[simp] theorem R.bind_bad {α β : Type} (f : α → HP → R β) : (R.bad : R α).bind f = .bad := rfl
def R.of {α : Type} (o : Option α) (h : HP) : R α := match o with
  | some a => .ok a h
  | none => .bad
@[simp] theorem R.of_some {α : Type} (a : α) (h : HP) : R.of (some a) h = .ok a h := rfl
@[simp] theorem R.of_none {α : Type} (h : HP) : (R.of none h : R α) = .bad := rfl

inductive Bop where
  | add | sub | mul | fdv | mod | pow | shl | shr | and | or | xor
  deriving DecidableEq
inductive Cop where
  | eq | ne | lt | le | gt | ge | is | isn | inn | nin
  deriving DecidableEq
inductive Bi where
  | len | dvm | abs | max2 | min2 | int1 | str1 | list1 | sum1 | all1 | max1
  deriving DecidableEq
inductive Me where
  | bitlen | strip1 | rstrip1 | starts | part | zfill | split1 | join1 | upper
  deriving DecidableEq
inductive Tg where
  | one (i : Nat) | tup (is : List Nat)
mutual
inductive E where
  | var (i : Nat) | cI (i : Int) | cS (s : Str) | cB (b : Bool) | cN | gI (x : Str) (i : Int) | gS (x s : Str)
  | neg (a : E) | not (a : E)
  | bin (o : Bop) (a b : E) | cmp (o : Cop) (a b : E) | chn (o p : Cop) (a b c : E)
  | and (a b : E) | or (a b : E) | ife (t a b : E)
  | tup (es : Es) | lst (es : Es) | cel (es : Es)
  | idx (a i : E) | slc (a lo hi : E)
  | call (f : Nat) (es : Es)
  | bi (b : Bi) (es : Es)
  | me (m : Me) (o : E) (es : Es)
  | isT (a : E) (n : String)
  | isC (a : E) (c : Nat)
  | isCs (a : E) (cs : List Nat)
  | atr (o : E) (f : Str)
  | mcl (o : E) (m : Str) (es : Es)
  | new (c : Nat) (es : Es)
  | cll (a : E)
  | lcm (cl : Bool) (tg : Tg) (vs : List Nat) (it : I) (a : E)
  | lcf (tg : Tg) (vs : List Nat) (it : I) (t a : E)
  | mnd (a d : E)
inductive Es where
  | nil | cons (e : E) (es : Es)
inductive I where
  | seq (e : E) | rng1 (a : E) | rng2 (a b : E) | rng3 (a b c : E) | zip (a b : E) | enm (a : E)
end
mutual
inductive S where
  | asg (t : Tg) (e : E)
  | aug (i : Nat) (o : Bop) (e : E)
  | exp (e : E)
  | app (o e : E)
  | rvs (o : E)
  | ins (o i e : E)
  | sto (o i e : E)
  | sta (o : E) (f : Str) (e : E)
  | iff (t : E) (a b : Ss)
  | whl (t : E) (b : Ss)
  | fr (tg : Tg) (it : I) (b : Ss)
  | ret (e : E) | retN
  | rais (c : Nat)
  | tri (b : Ss) (c : Nat) (i y : Nat)
  | cont
inductive Ss where
  | nil | cons (s : S) (ss : Ss)
end

/-! ### operations on values -/
def sz : Nat := 16777216
def getL (h : HP) : MV → Option (List MV)
  | .lst xs => some xs
  | .ref i => match h[i]? with
    | some (.lst xs) => some xs
    | _ => none
  | _ => none
def mulB (i j : Int) : Bool := decide (Builtin.Int.intBits i ≤ 64) || decide (Builtin.Int.intBits j ≤ 64) || decide ((Builtin.Int.intBits i : Int) + (Builtin.Int.intBits j : Int) ≤ 134217728)
def dvB (i j : Int) : Bool := decide (0 < j) && (decide (j < 1073741824) || !Builtin.divisionGoesByPylong i j)
def powB (i j : Int) : Bool := decide (0 ≤ j) && ((decide (j ≤ 1000000) && decide (i.natAbs < 2 ^ 64)) || decide ((Builtin.Int.intBits i : Int) * j ≤ 134217728))
def shlB (i j : Int) : Bool := decide (0 ≤ j) && decide ((Builtin.Int.intBits i : Int) + j ≤ 134217728)

-- plain data of a value
mutual
def toD (h : HP) : MV → Option PyData
  | .non => some .none
  | .bl b => some (.bool b)
  | .int i => some (.int i)
  | .str s => some (.str s)
  | .tup xs => (toDs h xs).map .tuple
  | .lst xs => (toDs h xs).map .list
  | _ => none
def toDs (h : HP) : List MV → Option (List PyData)
  | [] => some []
  | x :: xs => (toD h x).bind fun d => (toDs h xs).map fun ds => d :: ds
end
def flat0 (h : HP) : MV → Option PyData
  | .ref i => match h[i]? with
    | some (.lst xs) => (toDs h xs).map .list
    | _ => none
  | v => toD h v
def flats0 (h : HP) : List MV → Option (List PyData)
  | [] => some []
  | x :: xs => (flat0 h x).bind fun d => (flats0 h xs).map fun ds => d :: ds
def lstD (h : HP) (xs : List MV) : Option PyData := match toDs h xs with
  | some ds => some (.list ds)
  | none => (flats0 h xs).map .list
def flatD (h : HP) : MV → Option PyData
  | .ref i => match h[i]? with
    | some (.lst xs) => (toDs h xs).map .list
    | _ => none
  | .lst xs => lstD h xs
  | v => toD h v
def eqM (h : HP) (x y : MV) : Option Bool := (flatD h x).bind fun d => (flatD h y).bind fun e => if SeqAt.shaped d && SeqAt.shaped e then some (PyData.eqv d e) else none

def int2 (x y : MV) (f : Int → Int → Option MV) : Option MV := match x, y with
  | .int a, .int b => f a b
  | _, _ => none
@[simp] theorem int2_ii (a b : Int) (f : Int → Int → Option MV) : int2 (.int a) (.int b) f = f a b := rfl
theorem int2_some {x y z : MV} {f : Int → Int → Option MV} (h : int2 x y f = some z) : ∃ a b, x = .int a ∧ y = .int b ∧ f a b = some z := by
  unfold int2 at h
  split at h
  · exact ⟨_, _, rfl, rfl, h⟩
  · cases h
def catL (h : HP) (x y : MV) : Option MV := (getL h x).bind fun xs => (getL h y).bind fun ys => if xs.length + ys.length ≤ sz then some (.lst (xs ++ ys)) else none
def addV (h : HP) : MV → MV → Option MV
  | .int a, y => int2 (.int a) y fun a b => some (.int (a + b))
  | .str a, .str b => if a.length + b.length ≤ sz then some (.str (a ++ b)) else none
  | x, y => catL h x y
def mulV (h : HP) : MV → MV → Option MV
  | .int a, y => int2 (.int a) y fun a b => if mulB a b then some (.int (a * b)) else none
  | .str a, .int k => if 0 ≤ k ∧ k < 1000000 ∧ a.length * k.toNat ≤ sz then some (.str (Txt.mul a k)) else none
  | x, .int k => (getL h x).bind fun xs => if 0 ≤ k ∧ k < 1000000 ∧ xs.length * k.toNat ≤ sz then some (.lst (List.replicate k.toNat xs).flatten) else none
  | _, _ => none
def binV (h : HP) (o : Bop) (x y : MV) : Option MV := match o with
  | .add => addV h x y
  | .sub => int2 x y fun a b => some (.int (a - b))
  | .mul => mulV h x y
  | .fdv => int2 x y fun a b => if dvB a b || decide (0 < b) then some (.int (a / b)) else none
  | .mod => int2 x y fun a b => if 0 < b then some (.int (a % b)) else none
  | .pow => int2 x y fun a b => if powB a b then some (.int (a ^ b.toNat)) else none
  | .shl => int2 x y fun a b => if shlB a b then some (.int (a * 2 ^ b.toNat)) else none
  | .shr => int2 x y fun a b => if 0 ≤ b then some (.int (a / 2 ^ b.toNat)) else none
  | .and => int2 x y fun a b => some (.int (Builtin.bitAnd a b))
  | .or => int2 x y fun a b => some (.int (Builtin.bitOr a b))
  | .xor => int2 x y fun a b => some (.int (Builtin.bitXor a b))
def augA : MV → MV → Option MV
  | .str a, .str b => if a.length + b.length ≤ sz then some (.str (a ++ b)) else none
  | x, y => int2 x y fun a b => some (.int (a + b))
def augV (o : Bop) (x y : MV) : Option MV := match o with
  | .add => augA x y
  | .sub => int2 x y fun a b => some (.int (a - b))
  | .mul => int2 x y fun a b => if mulB a b then some (.int (a * b)) else none
  | .shr => int2 x y fun a b => if 0 ≤ b then some (.int (a / 2 ^ b.toNat)) else none
  | .or => int2 x y fun a b => some (.int (Builtin.bitOr a b))
  | _ => none

def flatM : MV → Bool
  | .non => true | .bl _ => true | .int _ => true | .str _ => true | _ => false
def eqF : MV → MV → Bool
  | .non, .non => true
  | .bl a, .bl b => a == b
  | .bl a, .int b => (if a then 1 else 0) == b
  | .int a, .bl b => a == (if b then 1 else 0)
  | .int a, .int b => a == b
  | .str a, .str b => a == b
  | _, _ => false
def inF (x : MV) (xs : List MV) : Bool := xs.any fun y => eqF y x
def seqOf (h : HP) : MV → Option (List MV)
  | .tup xs => some xs
  | v => getL h v
def isNon : MV → Bool
  | .non => true
  | _ => false
def cmp2 (x y : MV) (f : Int → Int → Bool) : Option Bool := match x, y with
  | .int a, .int b => some (f a b)
  | _, _ => none
@[simp] theorem cmp2_ii (a b : Int) (f : Int → Int → Bool) : cmp2 (.int a) (.int b) f = some (f a b) := rfl
theorem cmp2_some {x y : MV} {z : Bool} {f : Int → Int → Bool} (h : cmp2 x y f = some z) : ∃ a b, x = .int a ∧ y = .int b ∧ f a b = z := by
  unfold cmp2 at h
  split at h
  · cases h; exact ⟨_, _, rfl, rfl, rfl⟩
  · cases h
/-- one sign in a text -/
def inS : MV → Str → Option Bool
  | .str c, z => match c.cps.toList with
    | [k] => some (decide (k ∈ z.cps.toList))
    | _ => none
  | _, _ => none
def inV (h : HP) (x y : MV) : Option Bool := match y with
  | .str z => inS x z
  | y => (seqOf h y).bind fun ys => if flatM x && ys.all flatM then some (inF x ys) else none
def cmpV (h : HP) (o : Cop) (x y : MV) : Option Bool := match o with
  | .eq => eqM h x y
  | .ne => (eqM h x y).map (!·)
  | .lt => cmp2 x y fun a b => decide (a < b)
  | .le => cmp2 x y fun a b => decide (a ≤ b)
  | .gt => cmp2 x y fun a b => decide (b < a)
  | .ge => cmp2 x y fun a b => decide (b ≤ a)
  | .is => if isNon y then some (isNon x) else none
  | .isn => if isNon y then some (!isNon x) else none
  | .inn => inV h x y
  | .nin => (inV h x y).map (!·)

def idxV (h : HP) : MV → MV → Option MV
  | .tup xs, .int i => atI xs i
  | .str z, .int i => if z.length ≤ sz then (atI z.cps.toList i).map fun c => .str ⟨#[c]⟩ else none
  | v, .int i => (getL h v).bind fun xs => atI xs i
  | _, _ => none
def cutM (xs : List MV) (lo hi : Option Int) : List MV := (xs.drop (HT.sIx xs.length 0 lo)).take (HT.sIx xs.length xs.length hi - HT.sIx xs.length 0 lo)
def pI : MV → Option (Option Int)
  | .int i => some (some i)
  | _ => none
def slcV (h : HP) (v : MV) (l u : Option Int) : Option MV := match v with
  | .str z => if z.length ≤ sz then some (.str (cutS z l u)) else none
  | v => (getL h v).map fun xs => .lst (cutM xs l u)
def isN : E → Bool
  | .cN => true
  | _ => false
def b1 (xs : List MV) (f : MV → Option MV) : Option MV := match xs with
  | [x] => f x
  | _ => none
def b2 (xs : List MV) (f : MV → MV → Option MV) : Option MV := match xs with
  | [x, y] => f x y
  | _ => none
@[simp] theorem b1_one (x : MV) (f : MV → Option MV) : b1 [x] f = f x := rfl
@[simp] theorem b2_two (x y : MV) (f : MV → MV → Option MV) : b2 [x, y] f = f x y := rfl
theorem b1_some {xs : List MV} {f : MV → Option MV} {z : MV} (h : b1 xs f = some z) : ∃ x, xs = [x] ∧ f x = some z := by
  unfold b1 at h
  split at h
  · exact ⟨_, rfl, h⟩
  · cases h
theorem b2_some {xs : List MV} {f : MV → MV → Option MV} {z : MV} (h : b2 xs f = some z) : ∃ x y, xs = [x, y] ∧ f x y = some z := by
  unfold b2 at h
  split at h
  · exact ⟨_, _, rfl, h⟩
  · cases h
def int1 (x : MV) (f : Int → Option MV) : Option MV := match x with
  | .int a => f a
  | _ => none
@[simp] theorem int1_i (a : Int) (f : Int → Option MV) : int1 (.int a) f = f a := rfl
theorem int1_some {x z : MV} {f : Int → Option MV} (h : int1 x f = some z) : ∃ a, x = .int a ∧ f a = some z := by
  unfold int1 at h
  split at h
  · exact ⟨_, rfl, h⟩
  · cases h
def toI : MV → Option MV
  | .int a => some (.int a)
  | .str a => if a.length ≤ 640 then (PySem.intText? a).map .int else none
  | .bl b => some (.int (if b then 1 else 0))
  | _ => none
def intsOf : List MV → Option (List Int)
  | [] => some []
  | .int i :: xs => (intsOf xs).map fun is => i :: is
  | _ => none
def blsOf : List MV → Option (List Bool)
  | [] => some []
  | .bl b :: xs => (blsOf xs).map fun bs => b :: bs
  | _ => none
def lenS : MV → Option MV
  | .str z => if z.length ≤ sz then some (.int z.length) else none
  | _ => none
def strsOf : List MV → Option (List Str)
  | [] => some []
  | .str i :: xs => (strsOf xs).map fun is => i :: is
  | _ => none
def strI : MV → Option MV
  | .int i => if i.natAbs.log2 < 1920 then some (.str (toString i)) else none
  | _ => none
def mnL (m : Int) (is : List Int) : Int := is.foldl (fun a y => if y < a then y else a) m
def mxL (m : Int) (is : List Int) : Int := is.foldl (fun a y => if a < y then y else a) m
def mxV : List Int → Option MV
  | [] => none
  | i :: is => some (.int (mxL i is))
def mnV (d : MV) : List Int → MV
  | [] => d
  | i :: is => .int (mnL i is)
def mndV (h : HP) (x d : MV) : Option MV := (getL h x).bind fun ys => (intsOf ys).map (mnV d)
def biV (h : HP) (b : Bi) (xs : List MV) : Option MV := match b with
  | .len => b1 xs fun x => ((seqOf h x).map fun ys => .int ys.length).or (lenS x)
  | .dvm => b2 xs fun x y => int2 x y fun a b => if dvB a b then some (.tup [.int (a / b), .int (a % b)]) else none
  | .abs => b1 xs fun x => int1 x fun a => some (.int (if a < 0 then -a else a))
  | .max2 => b2 xs fun x y => int2 x y fun a b => some (.int (if b > a then b else a))
  | .min2 => b2 xs fun x y => int2 x y fun a b => some (.int (if b < a then b else a))
  | .int1 => b1 xs toI
  | .str1 => b1 xs strI
  | .list1 => b1 xs fun x => (seqOf h x).map .lst
  | .max1 => b1 xs fun x => (getL h x).bind fun ys => (intsOf ys).bind mxV
  | .sum1 => b1 xs fun x => (getL h x).bind fun ys => (intsOf ys).map fun is => .int is.sum
  | .all1 => b1 xs fun x => (getL h x).bind fun ys => (blsOf ys).map fun bs => .bl (bs.all id)
def isStr : MV → Bool
  | .str _ => true
  | _ => false
/-- what a method may be asked of -/
def meK : Me → MV → Bool
  | .bitlen, _ => true
  | _, x => isStr x
def meV (h : HP) : Me → MV → List MV → Option MV
  | .bitlen, .int a, [] => some (.int (Builtin.Int.intBits a : Nat))
  | .strip1, .str a, [.str b] => if a.length ≤ sz then some (.str (Txt.stripChars a b)) else none
  | .rstrip1, .str a, [.str b] => if a.length ≤ sz then some (.str (Txt.rstripChars a b)) else none
  | .starts, .str a, [.str b] => some (.bl (Txt.startswith a b))
  | .part, .str a, [.str b] => if (b.length == 0) = false ∧ a.length ≤ sz then some (.tup [.str (Txt.partition a b).1, .str (Txt.partition a b).2.1, .str (Txt.partition a b).2.2]) else none
  | .zfill, .str a, [.int i] => if PadOk i = true then some (.str (Txt.zfill a i)) else none
  | .split1, .str a, [.str b] => if (b.length == 0) = false ∧ a.length + 2 ≤ sz then some (.lst ((Txt.split a b).map .str)) else none
  | .join1, .str a, [x] => (seqOf h x).bind fun ys => (strsOf ys).bind fun ss => if (ss.map (·.length)).sum + ss.length * a.length ≤ 16777216 then some (.str (Txt.join a ss)) else none
  | .upper, .str a, [] => if a.length ≤ 5592405 then some (.str (Txt.upper a)) else none
  | _, _, _ => none

/-- what the program's classes say -/
structure Tab where
  obj : Nat → Bool
  n0 : Nat → Bool
  mth : Nat → Str → Option Nat
  ini : Nat → Option Nat
  fld : Nat → List Str
  sub : Nat → Nat → Bool
  ve : Nat → Bool
  exc : Nat → Bool
  rz : Nat → Bool

def tyNs : List String := ["int", "bool", "str", "tuple", "list"]
def isTV (T : Tab) (h : HP) : MV → String → Option Bool
  | .int _, n => if n ∈ tyNs then some (n == "int") else none
  | .bl _, n => if n ∈ tyNs then some (n == "int" || n == "bool") else none
  | .str _, n => if n ∈ tyNs then some (n == "str") else none
  | .tup _, n => if n ∈ tyNs then some (n == "tuple") else none
  | .lst _, n => if n ∈ tyNs then some (n == "list") else none
  | .ref i, n => match h[i]? with
    | some (.lst _) => if n ∈ tyNs then some (n == "list") else none
    | _ => none
  | .non, n => if n ∈ tyNs then some false else none
  | .exc c _, n => if n = "ValueError" && T.exc c then some (T.ve c) else none
  | .obj _ _, _ => none
def isCV (T : Tab) : MV → Nat → Option Bool
  | .exc c _, d => if T.exc c && T.exc d then some (T.sub c d) else none
  | .obj c _, d => if T.obj c && T.obj d then some (T.sub c d) else none
  | .non, d => if T.exc d then some false else none
  | _, _ => none

/-- isinstance(x, (C1, C2, ..)) -/
def isCsV (T : Tab) : MV → List Nat → Option Bool
  | _, [] => some false
  | .exc c xs, d :: ds => if T.exc c && T.exc d then (isCsV T (.exc c xs) ds).map fun b => T.sub c d || b else none
  | .non, d :: ds => if T.exc d then isCsV T .non ds else none
  | _, _ => none
def clsM (h : HP) : MV → Option (Nat × List MV)
  | .obj c xs => some (c, xs)
  | .ref i => match h[i]? with
    | some (.ins c xs) => some (c, xs)
    | _ => none
  | _ => none
/-- the place of an attribute -/
def fix (T : Tab) (c : Nat) (f : Str) : Option Nat := if (T.fld c).idxOf f < (T.fld c).length then some ((T.fld c).idxOf f) else none
def atrV (T : Tab) (h : HP) (x : MV) (f : Str) : Option MV := (clsM h x).bind fun p => if T.obj p.1 then (fix T p.1 f).bind fun j => p.2[j]? else none
def mthV (T : Tab) (h : HP) (x : MV) (m : Str) : Option Nat := (clsM h x).bind fun p => if T.obj p.1 then T.mth p.1 m else none
def putL (xs : List MV) (j : Nat) (v : MV) : Option (List MV) := if j = xs.length then some (xs ++ [v]) else if j < xs.length then some (xs.set j v) else none
def staV (T : Tab) (h : HP) (x : MV) (f : Str) (v : MV) : Option HP := match x with
  | .ref i => match h[i]? with
    | some (.ins c xs) => if T.obj c && decide (xs.length < 900) then (fix T c f).bind fun j => (putL xs j v).map fun ys => h.set i (.ins c ys) else none
    | _ => none
  | _ => none

def nilE : Es → Bool
  | .nil => true
  | _ => false

mutual
def low (b : Nat) : MV → Bool
  | .ref i => decide (i < b)
  | .tup xs => lows b xs
  | .lst xs => lows b xs
  | .obj _ xs => lows b xs
  | .exc _ xs => lows b xs
  | _ => true
def lows (b : Nat) : List MV → Bool
  | [] => true
  | x :: xs => low b x && lows b xs
end
def setT : List Nat → List MV → EN → Option EN
  | [], [], e => some e
  | i :: is, v :: vs, e => setT is vs (e.set i (some v))
  | _, _, _ => none
def setG : Tg → MV → EN → Option EN
  | .one i, v, e => some (e.set i (some v))
  | .tup is, .tup vs, e => setT is vs e
  | .tup is, .lst vs, e => setT is vs e
  | _, _, _ => none
def wipE (e : EN) : List Nat → EN
  | [] => e
  | v :: vs => (wipE e vs).set v none
def zipM (xs ys : List MV) : List MV := List.zipWith (fun a b => MV.tup [a, b]) xs ys
def zipS (x y : MV) (h : HP) : Option (List MV) := (getL h x).bind fun xs => (getL h y).map fun ys => zipM xs ys
def enmM : Nat → List MV → List MV
  | _, [] => []
  | n, x :: xs => .tup [.int n, x] :: enmM (n + 1) xs
def enmS (x : MV) (h : HP) : Option (List MV) := (getL h x).map (enmM 0)
def rg3 (i j c : Int) : List MV := (List.range (Builtin.Range.rangeSize i j c).toNat).map fun (k : Nat) => .int (i + (k : Int) * c)
def rg3B (i j c : Int) : Bool := decide (c ≠ 0) && (decide (c.natAbs < 1073741824) && (Builtin.Range.small i j c && decide (0 ≤ Builtin.Range.rangeSize i j c)))
def signs (z : Str) : List MV := z.cps.toList.map fun c => .str ⟨#[c]⟩
abbrev IR := List MV × (HP → Option (List MV))
open Classical in
/-- the turns of a list comprehension: h the heap without the new list -/
noncomputable def lcL (cl : Bool) (tg : Tg) (src : HP → Option (List MV)) (all : List MV) (f : EN → HP → R MV) (e : EN) (h : HP) : List MV → List MV → R MV
  | [], acc => if src (h ++ [.lst acc]) = some all then (if cl then .ok (.ref h.length) (h ++ [.lst acc]) else .ok (.lst acc) h) else .bad
  | x :: xs, acc => if src (h ++ [.lst acc]) = some all then (match setG tg x e with
    | none => .bad
    | some e' => (match f e' (h ++ [.lst acc]) with
      | .ok y h2 => if h2 = h ++ [.lst acc] ∧ low h.length y = true ∧ acc.length < sz then lcL cl tg src all f e h xs (acc ++ [y]) else .bad
      | _ => .bad)) else .bad

open Classical in
/-- the turns of a list comprehension with a test -/
noncomputable def lcF (tg : Tg) (src : HP → Option (List MV)) (all : List MV) (tt f : EN → HP → R MV) (e : EN) (h : HP) : List MV → List MV → R MV
  | [], acc => if src (h ++ [.lst acc]) = some all then .ok (.lst acc) h else .bad
  | x :: xs, acc => if src (h ++ [.lst acc]) = some all then (match setG tg x e with
    | none => .bad
    | some e' => (match tt e' (h ++ [.lst acc]) with
      | .ok (.bl b) h1 => if h1 = h ++ [.lst acc] then (if b = true then (match f e' (h ++ [.lst acc]) with
        | .ok y h2 => if h2 = h ++ [.lst acc] ∧ low h.length y = true ∧ acc.length < sz then lcF tg src all tt f e h xs (acc ++ [y]) else .bad
        | _ => .bad) else lcF tg src all tt f e h xs acc) else .bad
      | _ => .bad)) else .bad

/-! ### the evaluator -/
section
variable (T : Tab) (C : Nat → List MV → HP → R MV)
mutual
noncomputable def evE : E → EN → HP → R MV
  | .var i, e, h => match e[i]? with
    | some (some v) => .ok v h
    | _ => .bad
  | .cI i, _, h => .ok (.int i) h
  | .cS s, _, h => .ok (.str s) h
  | .cB b, _, h => .ok (.bl b) h
  | .cN, _, h => .ok .non h
  | .gI _ i, _, h => .ok (.int i) h
  | .gS _ s, _, h => .ok (.str s) h
  | .neg a, e, h => (evE a e h).bind fun x h => match x with
    | .int i => .ok (.int (-i)) h
    | _ => .bad
  | .not a, e, h => (evE a e h).bind fun x h => match x with
    | .bl b => .ok (.bl (!b)) h
    | _ => .bad
  | .bin o a b, e, h => (evE a e h).bind fun x h => (evE b e h).bind fun y h => R.of (binV h o x y) h
  | .cmp o a b, e, h => (evE a e h).bind fun x h => (evE b e h).bind fun y h => R.of ((cmpV h o x y).map .bl) h
  | .chn o p a b c, e, h => (evE a e h).bind fun x h => (evE b e h).bind fun y h => match cmpV h o x y with
    | some true => (evE c e h).bind fun z h => R.of ((cmpV h p y z).map .bl) h
    | some false => .ok (.bl false) h
    | none => .bad
  | .and a b, e, h => (evE a e h).bind fun x h => match x with
    | .bl true => (evE b e h).bind fun y h => match y with
      | .bl c => .ok (.bl c) h
      | _ => .bad
    | .bl false => .ok (.bl false) h
    | _ => .bad
  | .or a b, e, h => (evE a e h).bind fun x h => match x with
    | .bl false => (evE b e h).bind fun y h => match y with
      | .bl c => .ok (.bl c) h
      | _ => .bad
    | .bl true => .ok (.bl true) h
    | _ => .bad
  | .ife t a b, e, h => (evE t e h).bind fun x h => match x with
    | .bl true => evE a e h
    | .bl false => evE b e h
    | _ => .bad
  | .tup es, e, h => (evEs es e h).bind fun xs h => if xs.length ≤ sz then .ok (.tup xs) h else .bad
  | .lst es, e, h => (evEs es e h).bind fun xs h => if xs.length ≤ sz then .ok (.lst xs) h else .bad
  | .cel es, e, h => (evEs es e h).bind fun xs h => if xs.length ≤ sz then .ok (.ref h.length) (h ++ [.lst xs]) else .bad
  | .idx a i, e, h => (evE a e h).bind fun x h => (evE i e h).bind fun y h => R.of (idxV h x y) h
  | .slc a lo hi, e, h => (evE a e h).bind fun x h => (if isN lo then .ok none h else (evE lo e h).bind fun v h => R.of (pI v) h).bind fun l h => (if isN hi then .ok none h else (evE hi e h).bind fun v h => R.of (pI v) h).bind fun u h => R.of (slcV h x l u) h
  | .call f es, e, h => (evEs es e h).bind fun xs h => C f xs h
  | .bi b es, e, h => (evEs es e h).bind fun xs h => R.of (biV h b xs) h
  | .me m o es, e, h => (evE o e h).bind fun x h => if meK m x then (evEs es e h).bind fun xs h => R.of (meV h m x xs) h else .bad
  | .isT a n, e, h => (evE a e h).bind fun x h => R.of ((isTV T h x n).map .bl) h
  | .isC a c, e, h => (evE a e h).bind fun x h => R.of ((isCV T x c).map .bl) h
  | .isCs a cs, e, h => (evE a e h).bind fun x h => R.of ((isCsV T x cs).map .bl) h
  | .atr o f, e, h => (evE o e h).bind fun x h => R.of (atrV T h x f) h
  | .mcl o m es, e, h => (evE o e h).bind fun x h => (R.of (mthV T h x m) h).bind fun f h => (evEs es e h).bind fun xs h => C f (x :: xs) h
  | .new c es, e, h => match T.ini c with
    | none => if nilE es && (T.n0 c && T.obj c) then .ok (.obj c []) h else .bad
    | some f => if T.obj c then (evEs es e h).bind fun xs h => (C f (.ref h.length :: xs) (h ++ [.ins c []])).bind fun v h' => if isNon v then .ok (.ref h.length) h' else .bad else .bad
  | .cll a, e, h => (evE a e h).bind fun x h => match seqOf h x with
    | some xs => .ok (.ref h.length) (h ++ [.lst xs])
    | none => .bad
  | .lcm cl tg vs it a, e, h => (itE it e h).bind fun p h => lcL cl tg p.2 p.1 (fun e h => evE a e h) (wipE e vs) h p.1 []
  | .lcf tg vs it t a, e, h => (itE it e h).bind fun p h => lcF tg p.2 p.1 (fun e h => evE t e h) (fun e h => evE a e h) (wipE e vs) h p.1 []
  | .mnd a d, e, h => (evE a e h).bind fun x h => (evE d e h).bind fun y h => R.of (mndV h x y) h
noncomputable def evEs : Es → EN → HP → R (List MV)
  | .nil, _, h => .ok [] h
  | .cons a es, e, h => (evE a e h).bind fun x h => (evEs es e h).bind fun xs h => .ok (x :: xs) h
/-- what a for walks: the items, and how it is told later that they stand -/
noncomputable def itE : I → EN → HP → R IR
  | .seq a, e, h => (evE a e h).bind fun x h => match seqOf h x with
    | some xs => .ok (xs, fun h => seqOf h x) h
    | none => match x with
      | .str z => .ok (signs z, fun _ => some (signs z)) h
      | _ => .bad
  | .rng1 a, e, h => (evE a e h).bind fun x h => match x with
    | .int j => if -(2 ^ 62) ≤ j ∧ j < 2 ^ 62 then .ok ((List.range j.toNat).map fun (i : Nat) => .int (0 + (i : Int)), fun _ => some ((List.range j.toNat).map fun (i : Nat) => .int (0 + (i : Int)))) h else .bad
    | _ => .bad
  | .rng2 a b, e, h => (evE a e h).bind fun x h => (evE b e h).bind fun y h => match x, y with
    | .int i, .int j => if (-(2 ^ 62) ≤ i ∧ i < 2 ^ 62) ∧ -(2 ^ 62) ≤ j ∧ j < 2 ^ 62 then .ok ((List.range (j - i).toNat).map fun (k : Nat) => .int (i + (k : Int)), fun _ => some ((List.range (j - i).toNat).map fun (k : Nat) => .int (i + (k : Int)))) h else .bad
    | _, _ => .bad
  | .rng3 a b c, e, h => (evE a e h).bind fun x h => (evE b e h).bind fun y h => (evE c e h).bind fun z h => match x, y, z with
    | .int i, .int j, .int k => if rg3B i j k then .ok (rg3 i j k, fun _ => some (rg3 i j k)) h else .bad
    | _, _, _ => .bad
  | .zip a b, e, h => (evE a e h).bind fun x h => (evE b e h).bind fun y h => match zipS x y h with
    | some xs => .ok (xs, zipS x y) h
    | none => .bad
  | .enm a, e, h => (evE a e h).bind fun x h => match enmS x h with
    | some xs => .ok (xs, enmS x) h
    | none => .bad
end

inductive O where
  | nx (e : EN) (h : HP) | ret (v : MV) (h : HP) | exc (x : MX) (e : EN) (h : HP) | ct (e : EN) (h : HP) | bad

/-- the result of an expression, handed on within a statement -/
def R.go {α : Type} (r : R α) (e : EN) (f : α → HP → O) : O := match r with
  | .ok a h => f a h
  | .exc x h => .exc x e h
  | .bad => .bad
@[simp] theorem R.go_ok {α : Type} (a : α) (h : HP) (e : EN) (f : α → HP → O) : (R.ok a h).go e f = f a h := rfl
@[simp] theorem R.go_exc {α : Type} (x : MX) (h : HP) (e : EN) (f : α → HP → O) : (R.exc x h : R α).go e f = .exc x e h := rfl
@[simp] theorem R.go_bad {α : Type} (e : EN) (f : α → HP → O) : (R.bad : R α).go e f = .bad := rfl
def O.then (o : O) (f : EN → HP → O) : O := match o with
  | .nx e h => f e h
  | o => o
@[simp] theorem O.then_nx (e : EN) (h : HP) (f : EN → HP → O) : (O.nx e h).then f = f e h := rfl
@[simp] theorem O.then_ret (v : MV) (h : HP) (f : EN → HP → O) : (O.ret v h).then f = .ret v h := rfl
@[simp] theorem O.then_exc (x : MX) (e : EN) (h : HP) (f : EN → HP → O) : (O.exc x e h).then f = .exc x e h := rfl
@[simp] theorem O.then_ct (e : EN) (h : HP) (f : EN → HP → O) : (O.ct e h).then f = .ct e h := rfl
@[simp] theorem O.then_bad (f : EN → HP → O) : (O.bad).then f = .bad := rfl

open Classical in
noncomputable def forL (tg : Tg) (src : HP → Option (List MV)) (all : List MV) (f : EN → HP → O) : List MV → EN → HP → O
  | [], e, h => if src h = some all then .nx e h else .bad
  | x :: xs, e, h => if src h = some all then (match setG tg x e with
    | none => .bad
    | some e => (match f e h with
      | .nx e h => forL tg src all f xs e h
      | .ct e h => forL tg src all f xs e h
      | o => o)) else .bad
def whlL (t : EN → HP → R MV) (f : EN → HP → O) : Nat → EN → HP → O
  | 0, _, _ => .bad
  | n + 1, e, h => (t e h).go e fun x h => match x with
    | .bl true => (match f e h with
      | .nx e h => whlL t f n e h
      | .ct e h => whlL t f n e h
      | o => o)
    | .bl false => .nx e h
    | _ => .bad
def isCell (h : HP) (x : MV) : Bool := match x with
  | .ref i => match h[i]? with
    | some (.lst _) => true
    | _ => false
  | _ => false
def appV (h : HP) (o v : MV) : Option HP := match o with
  | .ref i => match h[i]? with
    | some (.lst xs) => if xs.length < sz then some (h.set i (.lst (xs ++ [v]))) else none
    | _ => none
  | _ => none
def rvsV (h : HP) (o : MV) : Option HP := match o with
  | .ref i => match h[i]? with
    | some (.lst xs) => some (h.set i (.lst xs.reverse))
    | _ => none
  | _ => none
def insV (h : HP) (o i v : MV) : Option HP := match o, i with
  | .ref j, .int n => match h[j]? with
    | some (.lst xs) => if xs.length < sz ∧ 0 ≤ n ∧ n < 2 ^ 63 then some (h.set j (.lst (xs.take n.toNat ++ [v] ++ xs.drop n.toNat))) else none
    | _ => none
  | _, _ => none
def stoV (h : HP) (o i v : MV) : Option HP := match o, i with
  | .ref j, .int n => match h[j]? with
    | some (.lst xs) => (ixN xs.length n).map fun k => h.set j (.lst (xs.set k v))
    | _ => none
  | _, _ => none
def fuel : Nat := 1000000000000000000000000000000
mutual
noncomputable def exS : S → EN → HP → O
  | .asg t a, e, h => (evE T C a e h).go e fun v h => match setG t v e with
    | some e => .nx e h
    | none => .bad
  | .aug i o a, e, h => match e[i]? with
    | some (some x) => (evE T C a e h).go e fun y h => match augV o x y with
      | some z => .nx (e.set i (some z)) h
      | none => .bad
    | _ => .bad
  | .exp a, e, h => (evE T C a e h).go e fun _ h => .nx e h
  | .app o a, e, h => (evE T C o e h).go e fun x h => if isCell h x then (evE T C a e h).go e fun v h => match appV h x v with
    | some h => .nx e h
    | none => .bad else .bad
  | .rvs o, e, h => (evE T C o e h).go e fun x h => match rvsV h x with
    | some h => .nx e h
    | none => .bad
  | .ins o i a, e, h => (evE T C o e h).go e fun x h => if isCell h x then (evE T C i e h).go e fun n h => (evE T C a e h).go e fun v h => match insV h x n v with
    | some h => .nx e h
    | none => .bad else .bad
  | .sto o i a, e, h => (evE T C a e h).go e fun v h => (evE T C o e h).go e fun x h => (evE T C i e h).go e fun n h => match stoV h x n v with
    | some h => .nx e h
    | none => .bad
  | .sta o f a, e, h => (evE T C a e h).go e fun v h => (evE T C o e h).go e fun x h => match staV T h x f v with
    | some h => .nx e h
    | none => .bad
  | .iff t a b, e, h => (evE T C t e h).go e fun x h => match x with
    | .bl true => exSs a e h
    | .bl false => exSs b e h
    | _ => .bad
  | .whl t b, e, h => whlL (fun e h => evE T C t e h) (fun e h => exSs b e h) fuel e h
  | .fr tg it b, e, h => (itE T C it e h).go e fun p h => forL tg p.2 p.1 (fun e h => exSs b e h) p.1 e h
  | .ret a, e, h => (evE T C a e h).go e fun v h => .ret v h
  | .retN, _, h => .ret .non h
  | .rais c, e, h => if T.rz c then .exc (c, []) e h else .bad
  | .tri b c i y, e, h => match exSs b e h with
    | .exc (d, []) e h => if T.exc d && T.exc c then (if T.sub d c then .nx (((e.set i (some (.exc d []))).set y (some (.exc d []))).set i none) h else .exc (d, []) e h) else .bad
    | .exc _ _ _ => .bad
    | o => o
  | .cont, e, h => .ct e h
noncomputable def exSs : Ss → EN → HP → O
  | .nil, e, h => .nx e h
  | .cons s ss, e, h => (exS s e h).then fun e h => exSs ss e h
end
end

/-! ### functions -/
structure FI where
  np : Nat
  nl : Nat
  body : Ss
  keep : Bool := false
mutual
def frz (h : HP) (b : Nat) : MV → Option MV
  | .ref i => if i < b then some (.ref i) else match h[i]? with
    | some (.lst xs) => if lows b xs then some (.lst xs) else none
    | some (.ins c xs) => if lows b xs then some (.obj c xs) else none
    | none => none
  | .tup xs => (frzs h b xs).map .tup
  | .lst xs => (frzs h b xs).map .lst
  | .obj c xs => (frzs h b xs).map (.obj c)
  | .exc c xs => (frzs h b xs).map (.exc c)
  | v => some v
def frzs (h : HP) (b : Nat) : List MV → Option (List MV)
  | [] => some []
  | x :: xs => (frz h b x).bind fun y => (frzs h b xs).map fun ys => y :: ys
end
open Classical in
noncomputable def fin (keep : Bool) (h : HP) (v : MV) (h' : HP) : R MV :=
  if keep then .ok v h' else if h'.take h.length = h then (match frz h' h.length v with
    | some w => .ok w h
    | none => .bad) else .bad
open Classical in
/-- the result of a call taken as a cell of the caller's -/
noncomputable def finC (h : HP) (v : MV) (h' : HP) : R MV :=
  if h'.take h.length = h then (match v with
    | .ref i => if h.length ≤ i then (match h'[i]? with
      | some (.lst xs) => if lows h.length xs then .ok (.ref h.length) (h ++ [.lst xs]) else .bad
      | _ => .bad) else .bad
    | _ => .bad) else .bad
def big : Nat := 100000
def start (F : FI) (vs : List MV) : EN := vs.map some ++ List.replicate (F.nl - F.np) none
open Classical in
noncomputable def run (T : Tab) (fs : List FI) : Nat → Nat → List MV → HP → R MV
  | 0, _, _, _ => .bad
  | n + 1, f, vs, h => match fs[f]? with
    | none => (match fs[f - big]? with
      | none => .bad
      | some F => if vs.length = F.np then (match exSs T (run T fs n) F.body (start F vs) h with
        | .ret v h' => finC h v h'
        | .exc x _ h' => if h'.take h.length = h then .exc x h else .bad
        | _ => .bad) else .bad)
    | some F => if vs.length = F.np then (match exSs T (run T fs n) F.body (start F vs) h with
      | .nx _ h' => fin F.keep h .non h'
      | .ret v h' => fin F.keep h v h'
      | .exc x _ h' => if h'.take h.length = h then .exc x h else .bad
      | _ => .bad) else .bad
noncomputable def leaveB (fr : Bool) (F : FI) (h : HP) (o : O) : R MV := match o with
  | .nx _ h' => if fr then .bad else fin F.keep h .non h'
  | .ret v h' => if fr then finC h v h' else fin F.keep h v h'
  | .exc x _ h' => open Classical in if h'.take h.length = h then .exc x h else .bad
  | _ => .bad
theorem run_at {T : Tab} {fs : List FI} {n f : Nat} {F : FI} (e : fs[f]? = some F) (vs : List MV) (h : HP) : run T fs (n + 1) f vs h = if vs.length = F.np then leaveB false F h (exSs T (run T fs n) F.body (start F vs) h) else .bad := by
  simp only [run, e]
  split
  · generalize exSs T (run T fs n) F.body (start F vs) h = o
    cases o <;> rfl
  · rfl
theorem run_atC {T : Tab} {fs : List FI} {n f : Nat} {F : FI} (e : fs[f]? = some F) (e0 : fs[f + big]? = none) (vs : List MV) (h : HP) : run T fs (n + 1) (f + big) vs h = if vs.length = F.np then leaveB true F h (exSs T (run T fs n) F.body (start F vs) h) else .bad := by
  simp only [run, e0, Nat.add_sub_cancel, e]
  split
  · generalize exSs T (run T fs n) F.body (start F vs) h = o
    cases o <;> rfl
  · rfl
end Rm

/-! Rm, part B: how values of the small language stand in the heap. -/
namespace Rm
open PySem L2

/-- a caught exception of the class at C, without a dict of its own -/
def ExcV (C a : Addr) : HO := .ext fun h => ∃ oe vs, h.get? a = some oe ∧ Zc (.ref C) none oe ∧ oe.data = .fields vs
/-- a list that nobody changes -/
def FzL (K : PySem.W.Frag) (H : Hp) (r : List Addr) (a : Addr) (vs : List V) : Prop :=
  (a ∉ r ∧ Rd H a (.lst vs)) ∨ ∃ (its : Array Value) (n : Nat), K.lookup a = some { cls := .type "list", data := .seq its n } ∧ its.size ≤ sizeLine ∧ Vals vs its.toList
theorem FzL.sq {K : PySem.W.Frag} {H : Hp} {r : List Addr} {a : Addr} {vs : List V} (h : FzL K H r a vs) : SqL K H a vs := by
  rcases h with ⟨_, h⟩ | ⟨its, n, h, z, q⟩
  · exact .inl h
  · exact .inr ⟨_, its, n, h, rfl, rfl, rfl, z, q⟩

section
variable (K : PySem.W.Frag) (cA : Nat → Addr) (cF : Nat → List Str)
mutual
def Rep (H : Hp) (r : List Addr) : MV → V → Prop
  | .non, v => v = .non
  | .bl b, v => v = .bl b
  | .int i, v => v = .int i
  | .str s, v => v = .str s
  | .tup xs, v => ∃ a vs, v = .ref a ∧ (a ∉ r ∧ H a = some (.tup vs)) ∧ Reps H r xs vs
  | .lst xs, v => ∃ a vs, v = .ref a ∧ FzL K H r a vs ∧ Reps H r xs vs
  | .ref i, v => ∃ a, v = .ref a ∧ r[i]? = some a
  | .obj c xs, v => ∃ a dx vs, v = .ref a ∧ (a ∉ r ∧ H a = some (.ins (cA c) dx ((cF c).zip vs))) ∧ Reps H r xs vs
  | .exc c xs, v => ∃ a, v = .ref a ∧ (a ∉ r ∧ H a = some (ExcV (cA c) a)) ∧ xs = []
def Reps (H : Hp) (r : List Addr) : List MV → List V → Prop
  | [], vs => vs = []
  | x :: xs, vs => ∃ v ws, vs = v :: ws ∧ Rep H r x v ∧ Reps H r xs ws
end

/-- what may have happened: cells may be new and be written, all else stays -/
structure Ext (r : List Addr) (H : Hp) (r' : List Addr) (H' : Hp) : Prop where
  pre : ∃ t, r' = r ++ t
  keep : ∀ a o, H a = some o → a ∉ r → H' a = some o ∧ a ∉ r'
end
theorem nodup_inj {α : Type} : ∀ {l : List α} {i j : Nat} {a : α}, l.Nodup → l[i]? = some a → l[j]? = some a → i = j
  | [], i, j, a, _, h, _ => by simp at h
  | x :: l, 0, 0, a, _, _, _ => rfl
  | x :: l, 0, j + 1, a, n, h, k => by
    simp at h k; subst h
    exact absurd (List.mem_of_getElem? k) (List.nodup_cons.mp n).1
  | x :: l, i + 1, 0, a, n, h, k => by
    simp at h k; subst k
    exact absurd (List.mem_of_getElem? h) (List.nodup_cons.mp n).1
  | x :: l, i + 1, j + 1, a, n, h, k => by
    have := nodup_inj (List.nodup_cons.mp n).2 (by simpa using h) (by simpa using k)
    omega
section
variable {K : PySem.W.Frag} {cA : Nat → Addr} {cF : Nat → List Str} {r r' r'' : List Addr} {H H' H'' : Hp}
theorem Ext.refl : Ext r H r H := ⟨⟨[], by simp⟩, fun _ _ h n => ⟨h, n⟩⟩
theorem Ext.trans (a : Ext r H r' H') (b : Ext r' H' r'' H'') : Ext r H r'' H'' := by
  obtain ⟨t, rfl⟩ := a.pre
  obtain ⟨u, rfl⟩ := b.pre
  exact ⟨⟨t ++ u, by simp⟩, fun x o h n => let ⟨h1, n1⟩ := a.keep x o h n; b.keep x o h1 n1⟩
theorem Ext.new {p : Addr} {o : HO} (h : H p = none) (hr : ∀ a ∈ r, H a ≠ none) : Ext r H r (upd H p o) := ⟨⟨[], by simp⟩, fun a u e n => ⟨by rw [upd_ne (ne_of_none e h)]; exact e, n⟩⟩
theorem Ext.get {i : Nat} {a : Addr} (e : Ext r H r' H') (h : r[i]? = some a) : r'[i]? = some a := by
  obtain ⟨t, rfl⟩ := e.pre
  have hi : i < r.length := (List.getElem?_eq_some_iff.mp h).1
  rw [List.getElem?_append_left hi]; exact h
theorem FzL.mono {a : Addr} {vs : List V} (e : Ext r H r' H') (h : FzL K H r a vs) : FzL K H' r' a vs := by
  rcases h with ⟨n, h⟩ | h
  · rcases h with h | ⟨o, h⟩
    · obtain ⟨h1, n1⟩ := e.keep a _ h n
      exact .inl ⟨n1, .inl h1⟩
    · obtain ⟨h1, n1⟩ := e.keep a _ h n
      exact .inl ⟨n1, .inr ⟨o, h1⟩⟩
  · exact .inr h
mutual
theorem Rep.mono (e : Ext r H r' H') : ∀ (x : MV) (v : V), Rep K cA cF H r x v → Rep K cA cF H' r' x v
  | .non, v, h => by simpa only [Rep] using h
  | .bl b, v, h => by simpa only [Rep] using h
  | .int i, v, h => by simpa only [Rep] using h
  | .str s, v, h => by simpa only [Rep] using h
  | .tup xs, v, h => by
    simp only [Rep] at h ⊢
    obtain ⟨a, vs, e1, ⟨n, h1⟩, h2⟩ := h
    obtain ⟨h3, n3⟩ := e.keep a _ h1 n
    exact ⟨a, vs, e1, ⟨n3, h3⟩, Reps.mono e xs vs h2⟩
  | .lst xs, v, h => by
    simp only [Rep] at h ⊢
    obtain ⟨a, vs, e1, h1, h2⟩ := h
    exact ⟨a, vs, e1, h1.mono e, Reps.mono e xs vs h2⟩
  | .ref i, v, h => by
    simp only [Rep] at h ⊢
    obtain ⟨a, e1, h1⟩ := h
    exact ⟨a, e1, e.get h1⟩
  | .obj c xs, v, h => by
    simp only [Rep] at h ⊢
    obtain ⟨a, dx, vs, e1, ⟨n, h1⟩, h2⟩ := h
    obtain ⟨h3, n3⟩ := e.keep a _ h1 n
    exact ⟨a, dx, vs, e1, ⟨n3, h3⟩, Reps.mono e xs vs h2⟩
  | .exc c xs, v, h => by
    simp only [Rep] at h ⊢
    obtain ⟨a, e1, ⟨n, h1⟩, h2⟩ := h
    obtain ⟨h3, n3⟩ := e.keep a _ h1 n
    exact ⟨a, e1, ⟨n3, h3⟩, h2⟩
theorem Reps.mono (e : Ext r H r' H') : ∀ (xs : List MV) (vs : List V), Reps K cA cF H r xs vs → Reps K cA cF H' r' xs vs
  | [], vs, h => by simpa only [Reps] using h
  | x :: xs, vs, h => by
    simp only [Reps] at h ⊢
    obtain ⟨v, ws, e1, h1, h2⟩ := h
    exact ⟨v, ws, e1, Rep.mono e x v h1, Reps.mono e xs ws h2⟩
end
theorem Reps.length : ∀ {xs : List MV} {vs : List V}, Reps K cA cF H r xs vs → vs.length = xs.length
  | [], vs, h => by simp only [Reps] at h; rw [h]; rfl
  | x :: xs, vs, h => by
    simp only [Reps] at h
    obtain ⟨v, ws, e1, h1, h2⟩ := h
    rw [e1, List.length_cons, List.length_cons, Reps.length h2]
theorem Reps.get : ∀ {xs : List MV} {vs : List V} {i : Nat} {x : MV}, Reps K cA cF H r xs vs → xs[i]? = some x → ∃ v, vs[i]? = some v ∧ Rep K cA cF H r x v
  | [], vs, i, x, h, e => by simp at e
  | y :: xs, vs, 0, x, h, e => by
    simp only [Reps] at h
    obtain ⟨v, ws, e1, h1, h2⟩ := h
    simp at e; subst e
    exact ⟨v, by rw [e1]; rfl, h1⟩
  | y :: xs, vs, i + 1, x, h, e => by
    simp only [Reps] at h
    obtain ⟨v, ws, e1, h1, h2⟩ := h
    obtain ⟨u, h3, h4⟩ := Reps.get (i := i) (x := x) h2 (by simpa using e)
    exact ⟨u, by rw [e1]; simpa using h3, h4⟩
theorem Reps.append : ∀ {xs ys : List MV} {vs ws : List V}, Reps K cA cF H r xs vs → Reps K cA cF H r ys ws → Reps K cA cF H r (xs ++ ys) (vs ++ ws)
  | [], ys, vs, ws, h, k => by simp only [Reps] at h; rw [h]; exact k
  | x :: xs, ys, vs, ws, h, k => by
    simp only [Reps] at h
    obtain ⟨v, us, e1, h1, h2⟩ := h
    rw [e1]
    simp only [List.cons_append, Reps]
    exact ⟨v, us ++ ws, rfl, h1, Reps.append h2 k⟩
theorem Reps.drop : ∀ {xs : List MV} {vs : List V} (n : Nat), Reps K cA cF H r xs vs → Reps K cA cF H r (xs.drop n) (vs.drop n)
  | xs, vs, 0, h => by simpa using h
  | [], vs, n + 1, h => by simp only [Reps] at h; rw [h]; simp [Reps]
  | x :: xs, vs, n + 1, h => by
    simp only [Reps] at h
    obtain ⟨v, us, e1, h1, h2⟩ := h
    rw [e1]; simpa using Reps.drop n h2
theorem Reps.take : ∀ {xs : List MV} {vs : List V} (n : Nat), Reps K cA cF H r xs vs → Reps K cA cF H r (xs.take n) (vs.take n)
  | xs, vs, 0, h => by simp [Reps]
  | [], vs, n + 1, h => by simp only [Reps] at h; rw [h]; simp [Reps]
  | x :: xs, vs, n + 1, h => by
    simp only [Reps] at h
    obtain ⟨v, us, e1, h1, h2⟩ := h
    rw [e1]; simp only [List.take_succ_cons, Reps]
    exact ⟨v, us.take n, rfl, h1, Reps.take n h2⟩
theorem Reps.set : ∀ {xs : List MV} {vs : List V} {i : Nat} {x : MV} {v : V}, Reps K cA cF H r xs vs → Rep K cA cF H r x v → Reps K cA cF H r (xs.set i x) (vs.set i v)
  | [], vs, i, x, v, h, p => by simp only [Reps] at h; rw [h]; simp [Reps]
  | y :: xs, vs, 0, x, v, h, p => by
    simp only [Reps] at h
    obtain ⟨u, us, e1, h1, h2⟩ := h
    rw [e1]; simp only [List.set_cons_zero, Reps]
    exact ⟨v, us, rfl, p, h2⟩
  | y :: xs, vs, i + 1, x, v, h, p => by
    simp only [Reps] at h
    obtain ⟨u, us, e1, h1, h2⟩ := h
    rw [e1]; simp only [List.set_cons_succ, Reps]
    exact ⟨u, us.set i v, rfl, h1, Reps.set h2 p⟩
theorem Reps.atI {xs : List MV} {vs : List V} {i : Int} {x : MV} (h : Reps K cA cF H r xs vs) (e : L2.atI xs i = some x) : ∃ v, L2.atI vs i = some v ∧ Rep K cA cF H r x v := by
  have hl := h.length
  unfold L2.atI at e ⊢
  rw [hl]
  cases q : ixN xs.length i with
  | none => rw [q] at e; cases e
  | some j =>
    rw [q] at e
    exact h.get e
theorem Reps.cut {xs : List MV} {vs : List V} {lo hi : Option Int} (h : Reps K cA cF H r xs vs) : Reps K cA cF H r (cutM xs lo hi) (cutV vs lo hi) := by
  have hl := h.length
  unfold cutM cutV
  rw [hl]
  exact (h.drop _).take _

/-! ### the cells -/
def RepO (K : PySem.W.Frag) (cA : Nat → Addr) (cF : Nat → List Str) (H : Hp) (r : List Addr) : MO → Addr → Prop
  | .lst xs, a => ∃ vs, H a = some (.lst vs) ∧ Reps K cA cF H r xs vs
  | .ins c xs, a => ∃ dx vs, H a = some (.ins (cA c) dx ((cF c).zip vs)) ∧ Reps K cA cF H r xs vs
structure Emb (K : PySem.W.Frag) (cA : Nat → Addr) (cF : Nat → List Str) (H : Hp) (r : List Addr) (h : HP) : Prop where
  len : r.length = h.length
  nd : r.Nodup
  at_ : ∀ (i : Nat) o a, h[i]? = some o → r[i]? = some a → RepO K cA cF H r o a
variable {h h' : HP}
theorem Emb.get (E : Emb K cA cF H r h) {i : Nat} {o : MO} (e : h[i]? = some o) : ∃ a, r[i]? = some a ∧ RepO K cA cF H r o a := by
  have hi : i < h.length := (List.getElem?_eq_some_iff.mp e).1
  have hr : i < r.length := by rw [E.len]; exact hi
  exact ⟨r[i], by simp [hr], E.at_ i o _ e (by simp [hr])⟩
theorem RepO.some {o : MO} {a : Addr} (h : RepO K cA cF H r o a) : ∃ u, H a = some u := by
  cases o with
  | lst xs => obtain ⟨vs, h1, _⟩ := h; exact ⟨_, h1⟩
  | ins c xs => obtain ⟨dx, vs, h1, _⟩ := h; exact ⟨_, h1⟩
theorem Emb.tracked (E : Emb K cA cF H r h) {a : Addr} (ha : a ∈ r) : ∃ u, H a = some u := by
  obtain ⟨i, hi, e⟩ := List.mem_iff_getElem.mp ha
  have hh : i < h.length := by rw [← E.len]; exact hi
  exact (E.at_ i h[i] a (by simp [hh]) (by rw [← e]; simp [hi])).some
/-- something new that is no cell -/
theorem Emb.new (E : Emb K cA cF H r h) {p : Addr} {o : HO} (hp : H p = none) : Ext r H r (upd H p o) ∧ Emb K cA cF (upd H p o) r h ∧ p ∉ r := by
  have hpr : p ∉ r := fun z => by obtain ⟨u, q⟩ := E.tracked z; rw [hp] at q; cases q
  have X : Ext r H r (upd H p o) := ⟨⟨[], by simp⟩, fun a u e n => ⟨by rw [upd_ne (ne_of_none e hp)]; exact e, n⟩⟩
  refine ⟨X, ⟨E.len, E.nd, fun i u a e1 e2 => ?_⟩, hpr⟩
  have q := E.at_ i u a e1 e2
  have hne : a ≠ p := fun z => hpr (z ▸ List.mem_of_getElem? e2)
  cases u with
  | lst xs => obtain ⟨vs, h1, h2⟩ := q; exact ⟨vs, by rw [upd_ne hne]; exact h1, Reps.mono X _ _ h2⟩
  | ins c xs => obtain ⟨dx, vs, h1, h2⟩ := q; exact ⟨dx, vs, by rw [upd_ne hne]; exact h1, Reps.mono X _ _ h2⟩
/-- a new cell that holds a list -/
theorem Emb.cell (E : Emb K cA cF H r h) {p : Addr} {xs : List MV} {vs : List V} (hp : H p = none) (hv : Reps K cA cF H r xs vs) :
    Ext r H (r ++ [p]) (upd H p (.lst vs)) ∧ Emb K cA cF (upd H p (.lst vs)) (r ++ [p]) (h ++ [.lst xs]) := by
  have hpr : p ∉ r := fun z => by obtain ⟨u, q⟩ := E.tracked z; rw [hp] at q; cases q
  have X : Ext r H (r ++ [p]) (upd H p (.lst vs)) := ⟨⟨[p], rfl⟩, fun a u e n => by
    have hne := ne_of_none e hp
    exact ⟨by rw [upd_ne hne]; exact e, fun z => by
      rcases List.mem_append.mp z with z | z
      · exact n z
      · exact hne (by simpa using z)⟩⟩
  refine ⟨X, ⟨by simp [E.len], ?_, fun i u a e1 e2 => ?_⟩⟩
  · rw [List.nodup_append]
    refine ⟨E.nd, by simp, fun a ha b hb => ?_⟩
    have : b = p := by simpa using hb
    subst this
    exact fun z => hpr (z ▸ ha)
  · by_cases hi : i < h.length
    · rw [List.getElem?_append_left hi] at e1
      rw [List.getElem?_append_left (by rw [E.len]; exact hi)] at e2
      have q := E.at_ i u a e1 e2
      have hne : a ≠ p := fun z => hpr (z ▸ List.mem_of_getElem? e2)
      cases u with
      | lst xs => obtain ⟨ws, h1, h2⟩ := q; exact ⟨ws, by rw [upd_ne hne]; exact h1, Reps.mono X _ _ h2⟩
      | ins c xs => obtain ⟨dx, ws, h1, h2⟩ := q; exact ⟨dx, ws, by rw [upd_ne hne]; exact h1, Reps.mono X _ _ h2⟩
    · have hi2 : i = h.length := by
        have : i < (h ++ [MO.lst xs]).length := (List.getElem?_eq_some_iff.mp e1).1
        simp at this; omega
      subst hi2
      rw [List.getElem?_append_right (Nat.le_refl _), Nat.sub_self] at e1
      rw [← E.len, List.getElem?_append_right (Nat.le_refl _), Nat.sub_self] at e2
      simp at e1 e2
      subst e1 e2
      exact ⟨vs, upd_same, Reps.mono X _ _ hv⟩
/-- a cell's list is written -/
theorem Emb.write (E : Emb K cA cF H r h) {i : Nat} {a : Addr} {xs : List MV} {vs : List V} (hi : r[i]? = some a) (hv : Reps K cA cF H r xs vs) :
    Ext r H r (upd H a (.lst vs)) ∧ Emb K cA cF (upd H a (.lst vs)) r (h.set i (.lst xs)) := by
  have X : Ext r H r (upd H a (.lst vs)) := ⟨⟨[], by simp⟩, fun b u e n => ⟨by
    have hne : b ≠ a := fun z => by subst z; exact n (List.mem_of_getElem? hi)
    rw [upd_ne hne]; exact e, n⟩⟩
  refine ⟨X, ⟨by simp [E.len], E.nd, fun j u b e1 e2 => ?_⟩⟩
  have hir : i < r.length := (List.getElem?_eq_some_iff.mp hi).1
  by_cases hj : i = j
  · subst hj
    rw [hi] at e2; cases e2
    rw [List.getElem?_set_self (by rw [← E.len]; exact hir)] at e1
    cases e1
    exact ⟨vs, upd_same, Reps.mono X _ _ hv⟩
  · rw [List.getElem?_set_ne hj] at e1
    have q := E.at_ j u b e1 e2
    have hne : b ≠ a := fun z => by
      subst z
      exact hj (nodup_inj E.nd hi e2)
    cases u with
    | lst ys => obtain ⟨ws, h1, h2⟩ := q; exact ⟨ws, by rw [upd_ne hne]; exact h1, Reps.mono X _ _ h2⟩
    | ins c ys => obtain ⟨dx, ws, h1, h2⟩ := q; exact ⟨dx, ws, by rw [upd_ne hne]; exact h1, Reps.mono X _ _ h2⟩

/-- a new cell that holds an instance -/
theorem Emb.inst (E : Emb K cA cF H r h) {p dx : Addr} {c : Nat} (hp : H p = none) (hd : H dx = none) (hne : dx ≠ p) :
    Ext r H (r ++ [p]) (upd (upd H dx (.own p)) p (.ins (cA c) dx [])) ∧ Emb K cA cF (upd (upd H dx (.own p)) p (.ins (cA c) dx [])) (r ++ [p]) (h ++ [.ins c []]) := by
  have hpr : p ∉ r := fun z => by obtain ⟨u, q⟩ := E.tracked z; rw [hp] at q; cases q
  have keep : ∀ {a : Addr} {u : HO}, H a = some u → upd (upd H dx (.own p)) p (.ins (cA c) dx []) a = some u := fun {a u} e => by
    rw [upd_ne (ne_of_none e hp), upd_ne (ne_of_none e hd)]; exact e
  have X : Ext r H (r ++ [p]) (upd (upd H dx (.own p)) p (.ins (cA c) dx [])) := ⟨⟨[p], rfl⟩, fun a u e n => by
    exact ⟨keep e, fun z => by
      rcases List.mem_append.mp z with z | z
      · exact n z
      · exact ne_of_none e hp (by simpa using z)⟩⟩
  refine ⟨X, ⟨by simp [E.len], ?_, fun i u a e1 e2 => ?_⟩⟩
  · rw [List.nodup_append]
    refine ⟨E.nd, by simp, fun a ha b hb => ?_⟩
    have : b = p := by simpa using hb
    subst this
    exact fun z => hpr (z ▸ ha)
  · by_cases hi : i < h.length
    · rw [List.getElem?_append_left hi] at e1
      rw [List.getElem?_append_left (by rw [E.len]; exact hi)] at e2
      have q := E.at_ i u a e1 e2
      cases u with
      | lst xs => obtain ⟨ws, h1, h2⟩ := q; exact ⟨ws, keep h1, Reps.mono X _ _ h2⟩
      | ins c xs => obtain ⟨dx, ws, h1, h2⟩ := q; exact ⟨dx, ws, keep h1, Reps.mono X _ _ h2⟩
    · have hi2 : i = h.length := by
        have : i < (h ++ [MO.ins c []]).length := (List.getElem?_eq_some_iff.mp e1).1
        simp at this; omega
      subst hi2
      rw [List.getElem?_append_right (Nat.le_refl _), Nat.sub_self] at e1
      rw [← E.len, List.getElem?_append_right (Nat.le_refl _), Nat.sub_self] at e2
      simp at e1 e2
      subst e1 e2
      exact ⟨dx, [], by rw [List.zip_nil_right]; exact upd_same, by simp only [Reps]⟩
/-- a cell's instance is written -/
theorem Emb.writeI (E : Emb K cA cF H r h) {i c : Nat} {a dx : Addr} {xs : List MV} {vs : List V} (hi : r[i]? = some a) (hv : Reps K cA cF H r xs vs) :
    Ext r H r (upd H a (.ins (cA c) dx ((cF c).zip vs))) ∧ Emb K cA cF (upd H a (.ins (cA c) dx ((cF c).zip vs))) r (h.set i (.ins c xs)) := by
  have X : Ext r H r (upd H a (.ins (cA c) dx ((cF c).zip vs))) := ⟨⟨[], by simp⟩, fun b u e n => ⟨by
    have hne : b ≠ a := fun z => by subst z; exact n (List.mem_of_getElem? hi)
    rw [upd_ne hne]; exact e, n⟩⟩
  refine ⟨X, ⟨by simp [E.len], E.nd, fun j u b e1 e2 => ?_⟩⟩
  have hir : i < r.length := (List.getElem?_eq_some_iff.mp hi).1
  by_cases hj : i = j
  · subst hj
    rw [hi] at e2; cases e2
    rw [List.getElem?_set_self (by rw [← E.len]; exact hir)] at e1
    cases e1
    exact ⟨dx, vs, upd_same, Reps.mono X _ _ hv⟩
  · rw [List.getElem?_set_ne hj] at e1
    have q := E.at_ j u b e1 e2
    have hne : b ≠ a := fun z => by
      subst z
      exact hj (nodup_inj E.nd hi e2)
    cases u with
    | lst ys => obtain ⟨ws, h1, h2⟩ := q; exact ⟨ws, by rw [upd_ne hne]; exact h1, Reps.mono X _ _ h2⟩
    | ins c ys => obtain ⟨dx, ws, h1, h2⟩ := q; exact ⟨dx, ws, by rw [upd_ne hne]; exact h1, Reps.mono X _ _ h2⟩
/-- the attributes by place -/
theorem lookup_zip : ∀ (ns : List Str) (vs : List V) (f : Str), ns.idxOf f < ns.length → (ns.zip vs).lookup f = vs[ns.idxOf f]?
  | [], vs, f, h => by simp at h
  | n :: ns, [], f, h => by simp
  | n :: ns, v :: vs, f, h => by
    rw [List.zip_cons_cons, List.lookup_cons]
    by_cases e : f = n
    · subst e; simp
    · have e2 : (f == n) = false := by simp [e]
      have e3 : (n == f) = false := by simp; exact fun z => e z.symm
      rw [e2]
      rw [List.idxOf_cons, e3] at h ⊢
      simp only [cond_false] at h ⊢
      rw [lookup_zip ns vs f (by simpa using h)]
      simp
theorem lookup_zip_none : ∀ (ns : List Str) (vs : List V) (f : Str), f ∉ ns → (ns.zip vs).lookup f = none
  | [], vs, f, h => by simp
  | n :: ns, [], f, h => by simp
  | n :: ns, v :: vs, f, h => by
    rw [List.zip_cons_cons, List.lookup_cons]
    have e2 : (f == n) = false := by simp; exact fun z => h (z ▸ List.mem_cons_self ..)
    rw [e2]
    exact lookup_zip_none ns vs f (fun z => h (List.mem_cons_of_mem _ z))
theorem putF_zip : ∀ (ns : List Str) (vs : List V) (f : Str) (v : V), ns.idxOf f < ns.length → ns.idxOf f ≤ vs.length →
    putF f v (ns.zip vs) = ns.zip (if ns.idxOf f = vs.length then vs ++ [v] else vs.set (ns.idxOf f) v)
  | [], vs, f, v, h, _ => by simp at h
  | n :: ns, [], f, v, h, k => by
    have : (n :: ns).idxOf f = 0 := by simpa using k
    have e : n = f := by
      rw [List.idxOf_cons] at this
      cases q : n == f with
      | true => simpa using q
      | false => rw [q] at this; simp at this
    subst e
    simp [putF]
  | n :: ns, u :: vs, f, v, h, k => by
    rw [List.zip_cons_cons]
    unfold putF
    by_cases e : n = f
    · subst e
      simp
    · have e3 : (n == f) = false := by simp [e]
      rw [if_neg e]
      rw [List.idxOf_cons, e3] at h k ⊢
      simp only [cond_false, List.length_cons] at h k ⊢
      rw [putF_zip ns vs f v (by omega) (by omega)]
      by_cases z : ns.idxOf f = vs.length
      · rw [if_pos z, if_pos (by omega)]; simp
      · rw [if_neg z, if_neg (by omega)]; simp
theorem cls_rep (E : Emb K cA cF H r h) {x : MV} {c : Nat} {xs : List MV} {v : V} (e : clsM h x = some (c, xs)) (hx : Rep K cA cF H r x v) : ∃ a dx vs, v = .ref a ∧ H a = some (.ins (cA c) dx ((cF c).zip vs)) ∧ Reps K cA cF H r xs vs := by
  cases x with
  | obj d ys =>
    simp only [clsM, Option.some.injEq, Prod.mk.injEq] at e
    obtain ⟨rfl, rfl⟩ := e
    simp only [Rep] at hx
    obtain ⟨a, dx, vs, e1, ⟨_, h1⟩, h2⟩ := hx
    exact ⟨a, dx, vs, e1, h1, h2⟩
  | ref i =>
    simp only [clsM] at e
    simp only [Rep] at hx
    obtain ⟨a, e1, h1⟩ := hx
    cases q : h[i]? with
    | none => rw [q] at e; cases e
    | some o =>
      rw [q] at e
      cases o with
      | ins d ys =>
        simp only [Option.some.injEq, Prod.mk.injEq] at e
        obtain ⟨rfl, rfl⟩ := e
        obtain ⟨dx, vs, h2, h3⟩ := E.at_ i _ a q h1
        exact ⟨a, dx, vs, e1, h2, h3⟩
      | lst ys => cases e
  | _ => simp [clsM] at e

/-- a list value is read -/
theorem getL_ok (E : Emb K cA cF H r h) {x : MV} {xs : List MV} {v : V} (e : getL h x = some xs) (hx : Rep K cA cF H r x v) : ∃ a vs, v = .ref a ∧ (H a = some (.lst vs) ∨ FzL K H r a vs) ∧ Reps K cA cF H r xs vs := by
  cases x with
  | lst ys =>
    simp only [getL, Option.some.injEq] at e
    subst e
    simp only [Rep] at hx
    obtain ⟨a, vs, e1, h1, h2⟩ := hx
    exact ⟨a, vs, e1, .inr h1, h2⟩
  | ref i =>
    simp only [getL] at e
    simp only [Rep] at hx
    obtain ⟨a, e1, h1⟩ := hx
    cases q : h[i]? with
    | none => rw [q] at e; cases e
    | some o =>
      rw [q] at e
      cases o with
      | lst ys =>
        simp only [Option.some.injEq] at e
        subst e
        obtain ⟨vs, h2, h3⟩ := E.at_ i _ a q h1
        exact ⟨a, vs, e1, .inl h2, h3⟩
      | ins c ys => cases e
  | _ => simp [getL] at e
theorem sq_of {K : PySem.W.Frag} {H : Hp} {r : List Addr} {a : Addr} {vs : List V} (h : H a = some (.lst vs) ∨ FzL K H r a vs) : SqL K H a vs := by
  rcases h with h | h
  · exact SqL.of h
  · exact h.sq

/-! ### giving up cells: what is left is frozen -/
mutual
theorem Rep.low {t : List Addr} : ∀ (x : MV) (v : V), low r.length x = true → Rep K cA cF H (r ++ t) x v → Rep K cA cF H r x v
  | .non, v, _, h => by simpa only [Rep] using h
  | .bl b, v, _, h => by simpa only [Rep] using h
  | .int i, v, _, h => by simpa only [Rep] using h
  | .str s, v, _, h => by simpa only [Rep] using h
  | .tup xs, v, hl, h => by
    simp only [Rep] at h ⊢
    simp only [low] at hl
    obtain ⟨a, vs, e1, ⟨n, h1⟩, h2⟩ := h
    exact ⟨a, vs, e1, ⟨fun z => n (List.mem_append_left _ z), h1⟩, Reps.low xs vs hl h2⟩
  | .lst xs, v, hl, h => by
    simp only [Rep] at h ⊢
    simp only [low] at hl
    obtain ⟨a, vs, e1, h1, h2⟩ := h
    refine ⟨a, vs, e1, ?_, Reps.low xs vs hl h2⟩
    rcases h1 with ⟨n, h1⟩ | h1
    · exact .inl ⟨fun z => n (List.mem_append_left _ z), h1⟩
    · exact .inr h1
  | .ref i, v, hl, h => by
    simp only [Rep] at h ⊢
    simp only [low, decide_eq_true_eq] at hl
    obtain ⟨a, e1, h1⟩ := h
    rw [List.getElem?_append_left hl] at h1
    exact ⟨a, e1, h1⟩
  | .obj c xs, v, hl, h => by
    simp only [Rep] at h ⊢
    simp only [low] at hl
    obtain ⟨a, dx, vs, e1, ⟨n, h1⟩, h2⟩ := h
    exact ⟨a, dx, vs, e1, ⟨fun z => n (List.mem_append_left _ z), h1⟩, Reps.low xs vs hl h2⟩
  | .exc c xs, v, hl, h => by
    simp only [Rep] at h ⊢
    obtain ⟨a, e1, ⟨n, h1⟩, h2⟩ := h
    exact ⟨a, e1, ⟨fun z => n (List.mem_append_left _ z), h1⟩, h2⟩
theorem Reps.low {t : List Addr} : ∀ (xs : List MV) (vs : List V), lows r.length xs = true → Reps K cA cF H (r ++ t) xs vs → Reps K cA cF H r xs vs
  | [], vs, _, h => by simpa only [Reps] using h
  | x :: xs, vs, hl, h => by
    simp only [Reps] at h ⊢
    simp only [lows, Bool.and_eq_true] at hl
    obtain ⟨v, ws, e1, h1, h2⟩ := h
    exact ⟨v, ws, e1, Rep.low x v hl.1 h1, Reps.low xs ws hl.2 h2⟩
end
mutual
theorem Rep.low2 {t u : List Addr} (hu : ∀ a ∈ u, a ∈ t) : ∀ (x : MV) (v : V), low r.length x = true → Rep K cA cF H (r ++ t) x v → Rep K cA cF H (r ++ u) x v
  | .non, v, _, h => by simpa only [Rep] using h
  | .bl b, v, _, h => by simpa only [Rep] using h
  | .int i, v, _, h => by simpa only [Rep] using h
  | .str s, v, _, h => by simpa only [Rep] using h
  | .tup xs, v, hl, h => by
    simp only [Rep] at h ⊢
    simp only [low] at hl
    obtain ⟨a, vs, e1, ⟨n, h1⟩, h2⟩ := h
    exact ⟨a, vs, e1, ⟨fun z => n ((List.mem_append.mp z).elim (List.mem_append_left _) fun y => List.mem_append_right _ (hu _ y)), h1⟩, Reps.low2 hu xs vs hl h2⟩
  | .lst xs, v, hl, h => by
    simp only [Rep] at h ⊢
    simp only [low] at hl
    obtain ⟨a, vs, e1, h1, h2⟩ := h
    refine ⟨a, vs, e1, ?_, Reps.low2 hu xs vs hl h2⟩
    rcases h1 with ⟨n, h1⟩ | h1
    · exact .inl ⟨fun z => n ((List.mem_append.mp z).elim (List.mem_append_left _) fun y => List.mem_append_right _ (hu _ y)), h1⟩
    · exact .inr h1
  | .ref i, v, hl, h => by
    simp only [Rep] at h ⊢
    simp only [low, decide_eq_true_eq] at hl
    obtain ⟨a, e1, h1⟩ := h
    rw [List.getElem?_append_left hl] at h1
    exact ⟨a, e1, by rw [List.getElem?_append_left hl]; exact h1⟩
  | .obj c xs, v, hl, h => by
    simp only [Rep] at h ⊢
    simp only [low] at hl
    obtain ⟨a, dx, vs, e1, ⟨n, h1⟩, h2⟩ := h
    exact ⟨a, dx, vs, e1, ⟨fun z => n ((List.mem_append.mp z).elim (List.mem_append_left _) fun y => List.mem_append_right _ (hu _ y)), h1⟩, Reps.low2 hu xs vs hl h2⟩
  | .exc c xs, v, hl, h => by
    simp only [Rep] at h ⊢
    obtain ⟨a, e1, ⟨n, h1⟩, h2⟩ := h
    exact ⟨a, e1, ⟨fun z => n ((List.mem_append.mp z).elim (List.mem_append_left _) fun y => List.mem_append_right _ (hu _ y)), h1⟩, h2⟩
theorem Reps.low2 {t u : List Addr} (hu : ∀ a ∈ u, a ∈ t) : ∀ (xs : List MV) (vs : List V), lows r.length xs = true → Reps K cA cF H (r ++ t) xs vs → Reps K cA cF H (r ++ u) xs vs
  | [], vs, _, h => by simpa only [Reps] using h
  | x :: xs, vs, hl, h => by
    simp only [Reps] at h ⊢
    simp only [lows, Bool.and_eq_true] at hl
    obtain ⟨v, ws, e1, h1, h2⟩ := h
    exact ⟨v, ws, e1, Rep.low2 hu x v hl.1 h1, Reps.low2 hu xs ws hl.2 h2⟩
end
mutual
theorem Rep.islow : ∀ (x : MV) (v : V), Rep K cA cF H r x v → Rm.low r.length x = true
  | .non, v, h => by simp only [Rm.low]
  | .bl b, v, h => by simp only [Rm.low]
  | .int i, v, h => by simp only [Rm.low]
  | .str s, v, h => by simp only [Rm.low]
  | .tup xs, v, h => by
    simp only [Rep] at h
    simp only [Rm.low]
    obtain ⟨a, vs, e1, _, h2⟩ := h
    exact Reps.islow xs vs h2
  | .lst xs, v, h => by
    simp only [Rep] at h
    simp only [Rm.low]
    obtain ⟨a, vs, e1, _, h2⟩ := h
    exact Reps.islow xs vs h2
  | .ref i, v, h => by
    simp only [Rep] at h
    simp only [Rm.low, decide_eq_true_eq]
    obtain ⟨a, e1, h1⟩ := h
    exact (List.getElem?_eq_some_iff.mp h1).1
  | .obj c xs, v, h => by
    simp only [Rep] at h
    simp only [Rm.low]
    obtain ⟨a, dx, vs, e1, _, h2⟩ := h
    exact Reps.islow xs vs h2
  | .exc c xs, v, h => by
    simp only [Rep] at h
    obtain ⟨a, e1, _, h2⟩ := h
    subst h2
    simp only [Rm.low, lows]
theorem Reps.islow : ∀ (xs : List MV) (vs : List V), Reps K cA cF H r xs vs → lows r.length xs = true
  | [], vs, h => by simp only [lows]
  | x :: xs, vs, h => by
    simp only [Reps] at h
    simp only [lows, Bool.and_eq_true]
    obtain ⟨v, ws, e1, h1, h2⟩ := h
    exact ⟨Rep.islow x v h1, Reps.islow xs ws h2⟩
end
theorem Emb.cut {t : List Addr} {H0 : Hp} (E : Emb K cA cF H (r ++ t) h') (E0 : Emb K cA cF H0 r h) (e : h'.take h.length = h) : Emb K cA cF H r h := by
  refine ⟨E0.len, E0.nd, fun i o a e1 e2 => ?_⟩
  have hi : i < r.length := (List.getElem?_eq_some_iff.mp e2).1
  have e3 : h'[i]? = some o := by
    rw [← e] at e1
    rw [List.getElem?_take] at e1
    split at e1
    · exact e1
    · cases e1
  have q := E.at_ i o a e3 (by rw [List.getElem?_append_left hi]; exact e2)
  have q0 := E0.at_ i o a e1 e2
  cases o with
  | lst xs =>
    obtain ⟨vs, h1, h2⟩ := q
    obtain ⟨ws, _, h4⟩ := q0
    exact ⟨vs, h1, Reps.low xs vs (Reps.islow xs ws h4) h2⟩
  | ins c xs =>
    obtain ⟨dx, vs, h1, h2⟩ := q
    obtain ⟨dx', ws, _, h4⟩ := q0
    exact ⟨dx, vs, h1, Reps.low xs vs (Reps.islow xs ws h4) h2⟩
theorem Emb.pick {t : List Addr} {H0 : Hp} {i : Nat} {a : Addr} {xs : List MV} (E : Emb K cA cF H (r ++ t) h') (E0 : Emb K cA cF H0 r h) (e : h'.take h.length = h) (hi : r.length ≤ i) (hr : (r ++ t)[i]? = some a) (hx : h'[i]? = some (.lst xs)) (hl : lows r.length xs = true) :
    Emb K cA cF H (r ++ [a]) (h ++ [.lst xs]) := by
  have hat : a ∈ t := by
    rw [List.getElem?_append_right hi] at hr
    exact List.mem_of_getElem? hr
  have sub : ∀ b ∈ [a], b ∈ t := fun b hb => by
    have : b = a := by simpa using hb
    rw [this]; exact hat
  have nd := E.nd
  rw [List.nodup_append] at nd
  refine ⟨by simp [E0.len], ?_, fun j o b e1 e2 => ?_⟩
  · rw [List.nodup_append]
    refine ⟨E0.nd, by simp, fun x hx y hy => ?_⟩
    have : y = a := by simpa using hy
    rw [this]
    exact nd.2.2 x hx a hat
  · by_cases hj : j < h.length
    · rw [List.getElem?_append_left hj] at e1
      rw [List.getElem?_append_left (by rw [E0.len]; exact hj)] at e2
      have e3 : h'[j]? = some o := by
        have z : (h'.take h.length)[j]? = some o := by rw [e]; exact e1
        rw [List.getElem?_take, if_pos hj] at z
        exact z
      have q := E.at_ j o b e3 (by rw [List.getElem?_append_left (by rw [E0.len]; exact hj)]; exact e2)
      have q0 := E0.at_ j o b e1 e2
      cases o with
      | lst ys =>
        obtain ⟨vs, h1, h2⟩ := q
        obtain ⟨ws, _, h4⟩ := q0
        exact ⟨vs, h1, Reps.low2 sub ys vs (Reps.islow ys ws h4) h2⟩
      | ins c ys =>
        obtain ⟨dx, vs, h1, h2⟩ := q
        obtain ⟨dx', ws, _, h4⟩ := q0
        exact ⟨dx, vs, h1, Reps.low2 sub ys vs (Reps.islow ys ws h4) h2⟩
    · have hj2 : j = h.length := by
        have : j < (h ++ [MO.lst xs]).length := (List.getElem?_eq_some_iff.mp e1).1
        simp at this; omega
      subst hj2
      rw [List.getElem?_append_right (Nat.le_refl _), Nat.sub_self] at e1
      rw [← E0.len, List.getElem?_append_right (Nat.le_refl _), Nat.sub_self] at e2
      simp at e1 e2
      subst e1 e2
      obtain ⟨vs, h1, h2⟩ := E.at_ i (.lst xs) a hx hr
      exact ⟨vs, h1, Reps.low2 sub xs vs hl h2⟩
mutual
theorem frz_ok {t : List Addr} (E : Emb K cA cF H (r ++ t) h') : ∀ (x y : MV) (v : V), frz h' r.length x = some y → Rep K cA cF H (r ++ t) x v → Rep K cA cF H r y v
  | .non, y, v, e, h => by simp only [frz, Option.some.injEq] at e; subst e; simpa only [Rep] using h
  | .bl b, y, v, e, h => by simp only [frz, Option.some.injEq] at e; subst e; simpa only [Rep] using h
  | .int i, y, v, e, h => by simp only [frz, Option.some.injEq] at e; subst e; simpa only [Rep] using h
  | .str s, y, v, e, h => by simp only [frz, Option.some.injEq] at e; subst e; simpa only [Rep] using h
  | .tup xs, y, v, e, h => by
    simp only [frz] at e
    obtain ⟨ys, e1, e2⟩ := Option.map_eq_some_iff.mp e
    subst e2
    simp only [Rep] at h ⊢
    obtain ⟨a, vs, e1', ⟨n, h1⟩, h2⟩ := h
    exact ⟨a, vs, e1', ⟨fun z => n (List.mem_append_left _ z), h1⟩, frzs_ok E xs ys vs e1 h2⟩
  | .lst xs, y, v, e, h => by
    simp only [frz] at e
    obtain ⟨ys, e1, e2⟩ := Option.map_eq_some_iff.mp e
    subst e2
    simp only [Rep] at h ⊢
    obtain ⟨a, vs, e1', h1, h2⟩ := h
    refine ⟨a, vs, e1', ?_, frzs_ok E xs ys vs e1 h2⟩
    rcases h1 with ⟨n, h1⟩ | h1
    · exact .inl ⟨fun z => n (List.mem_append_left _ z), h1⟩
    · exact .inr h1
  | .obj c xs, y, v, e, h => by
    simp only [frz] at e
    obtain ⟨ys, e1, e2⟩ := Option.map_eq_some_iff.mp e
    subst e2
    simp only [Rep] at h ⊢
    obtain ⟨a, dx, vs, e1', ⟨n, h1⟩, h2⟩ := h
    exact ⟨a, dx, vs, e1', ⟨fun z => n (List.mem_append_left _ z), h1⟩, frzs_ok E xs ys vs e1 h2⟩
  | .exc c xs, y, v, e, h => by
    simp only [frz] at e
    obtain ⟨ys, e1, e2⟩ := Option.map_eq_some_iff.mp e
    subst e2
    simp only [Rep] at h ⊢
    obtain ⟨a, e1', ⟨n, h1⟩, h2⟩ := h
    subst h2
    simp only [frzs, Option.some.injEq] at e1
    exact ⟨a, e1', ⟨fun z => n (List.mem_append_left _ z), h1⟩, e1.symm⟩
  | .ref i, y, v, e, h => by
    simp only [frz] at e
    simp only [Rep] at h
    obtain ⟨a, e1, h1⟩ := h
    by_cases hi : i < r.length
    · rw [if_pos hi] at e
      simp only [Option.some.injEq] at e
      subst e
      rw [List.getElem?_append_left hi] at h1
      simp only [Rep]
      exact ⟨a, e1, h1⟩
    · rw [if_neg hi] at e
      have ha : a ∉ r := fun z => by
        obtain ⟨j, hj, e2⟩ := List.mem_iff_getElem.mp z
        have e4 : (r ++ t)[j]? = some a := by rw [List.getElem?_append_left hj, ← e2]; simp [hj]
        have := nodup_inj E.nd h1 e4
        omega
      cases q : h'[i]? with
      | none => rw [q] at e; cases e
      | some o =>
        rw [q] at e
        have qo := E.at_ i o a q h1
        cases o with
        | lst xs =>
          simp only at e
          split at e
          · rename_i hl
            simp only [Option.some.injEq] at e
            subst e
            obtain ⟨vs, h2, h3⟩ := qo
            simp only [Rep]
            exact ⟨a, vs, e1, .inl ⟨ha, .inl h2⟩, Reps.low xs vs hl h3⟩
          · cases e
        | ins c xs =>
          simp only at e
          split at e
          · rename_i hl
            simp only [Option.some.injEq] at e
            subst e
            obtain ⟨dx, vs, h2, h3⟩ := qo
            simp only [Rep]
            exact ⟨a, dx, vs, e1, ⟨ha, h2⟩, Reps.low xs vs hl h3⟩
          · cases e
theorem frzs_ok {t : List Addr} (E : Emb K cA cF H (r ++ t) h') : ∀ (xs ys : List MV) (vs : List V), frzs h' r.length xs = some ys → Reps K cA cF H (r ++ t) xs vs → Reps K cA cF H r ys vs
  | [], ys, vs, e, h => by simp only [frzs, Option.some.injEq] at e; subst e; simpa only [Reps] using h
  | x :: xs, ys, vs, e, h => by
    simp only [frzs] at e
    obtain ⟨y, e1, e2⟩ := Option.bind_eq_some_iff.mp e
    obtain ⟨zs, e3, e4⟩ := Option.map_eq_some_iff.mp e2
    subst e4
    simp only [Reps] at h ⊢
    obtain ⟨v, ws, e5, h1, h2⟩ := h
    exact ⟨v, ws, e5, frz_ok E x y v e1 h1, frzs_ok E xs zs ws e3 h2⟩
end
end
end Rm

/-! Rm, part C: the text against the small language; expressions. -/
namespace Rm
open PySem L2 PySem.Spec PyProof.Rows

structure Ck where
  N : List Str
  sc : Scope
  fnm : List (Option Str)
  cnm : List Str
  free : List Str
  gI : List (Str × Int)
  gS : List (Str × Str)

/-- the def's name at an index; from big on: the call's result is taken as a cell -/
def Ck.fa (c : Ck) (f : Nat) : Option (Option Str) := match c.fnm[f]? with
  | some o => some o
  | none => if big ≤ f then c.fnm[f - big]? else none
def visB (sc : Scope) (x : Str) : Bool := match sc.names.lookup x with
  | some .local => true
  | some .cell => true
  | some .free => true
  | _ => false
def glB (sc : Scope) (x : Str) : Bool := decide (sc.names.lookup x = some .globalImplicit) && !(x == ("__debug__" : Str))
def bopB : Bop → Operator → Bool
  | .add, .Add => true | .sub, .Sub => true | .mul, .Mult => true | .fdv, .FloorDiv => true | .mod, .Mod => true | .pow, .Pow => true
  | .shl, .LShift => true | .shr, .RShift => true | .and, .BitAnd => true | .or, .BitOr => true | .xor, .BitXor => true
  | _, _ => false
def copB : Cop → CmpOp → Bool
  | .eq, .Eq => true | .ne, .NotEq => true | .lt, .Lt => true | .le, .LtE => true | .gt, .Gt => true | .ge, .GtE => true
  | .is, .Is => true | .isn, .IsNot => true | .inn, .In => true | .nin, .NotIn => true
  | _, _ => false
def biN : Bi → String
  | .len => "len" | .dvm => "divmod" | .abs => "abs" | .max2 => "max" | .min2 => "min" | .int1 => "int" | .str1 => "str" | .list1 => "list" | .sum1 => "sum" | .all1 => "all" | .max1 => "max"
def meN : Me → String
  | .bitlen => "bit_length" | .strip1 => "strip" | .rstrip1 => "rstrip" | .starts => "startswith" | .part => "partition" | .zfill => "zfill" | .split1 => "split" | .join1 => "join" | .upper => "upper"
def meA : Me → Nat
  | .bitlen => 0 | .upper => 0 | _ => 1
def esL : Es → Nat
  | .nil => 0
  | .cons _ es => esL es + 1
def isBO : Expr → Bool
  | .BoolOp _ _ _ => true
  | _ => false
def plT : Expr → Bool
  | .Name _ _ => true
  | .Constant _ _ _ => true
  | .Call _ _ _ _ => true
  | .Subscript _ _ _ => true
  | .Attribute _ _ _ => true
  | _ => false
def tsB : Expr → Bool
  | .UnaryOp .Not _ _ => true
  | .BoolOp _ _ _ => true
  | .Compare _ _ _ _ => true
  | e => plT e
def plIx : Expr → Bool
  | .Slice _ _ _ _ => false
  | _ => true
def noStar : Expr → Bool
  | .Starred _ _ => false
  | _ => true
def plB : Expr → Bool
  | .Call _ (_ :: _) _ _ => true
  | .Call _ _ _ _ => false
  | _ => true

/-- a row of classes' names -/
def ckCs (c : Ck) : List Nat → List Expr → Bool
  | [], xs => match xs with
    | [] => true
    | _ => false
  | k :: ks, xs => match xs with
    | .Name y _ :: xs => decide (c.cnm[k]? = some y) && glB c.sc y && ckCs c ks xs
    | _ => false
def locB (sc : Scope) (x : Str) : Bool := match sc.names.lookup x with
  | some .local => true
  | some .cell => true
  | _ => false
def ckNs (c : Ck) : List Nat → List Expr → Bool
  | [], xs => match xs with
    | [] => true
    | _ => false
  | i :: is, xs => match xs with
    | .Name x _ :: xs => decide (c.N[i]? = some x) && locB c.sc x && ckNs c is xs
    | _ => false
def ckG (c : Ck) : Tg → Expr → Bool
  | .one i, x => match x with
    | .Name x _ => decide (c.N[i]? = some x) && locB c.sc x
    | _ => false
  | .tup is, x => match x with
    | .Tuple xs _ _ => ckNs c is xs
    | _ => false
def noSet : Expr → Bool
  | .Set _ _ _ => false
  | _ => true
/-- the targets of a comprehension: names of its block -/
def ckNw (c : Ck) (vs : List Nat) : List Nat → List Expr → Bool
  | [], xs => match xs with
    | [] => true
    | _ => false
  | i :: is, xs => match xs with
    | .Name x _ :: xs => decide (c.N[i]? = some x) && decide (c.sc.names.lookup x = some .local) && decide (i ∈ vs) && ckNw c vs is xs
    | _ => false
def ckGw (c : Ck) (vs : List Nat) : Tg → Expr → Bool
  | .one i, x => match x with
    | .Name x _ => decide (c.N[i]? = some x) && decide (c.sc.names.lookup x = some .local) && decide (i ∈ vs)
    | _ => false
  | .tup is, x => match x with
    | .Tuple xs _ _ => ckNw c vs is xs
    | _ => false
def ownOf (N : List Str) (vs : List Nat) : List (Str × Nat) := vs.map fun i => (N.getD i (Str.ofString ""), i)
theorem ownOf_snd (N : List Str) (vs : List Nat) : (ownOf N vs).map (·.2) = vs := by
  unfold ownOf
  rw [List.map_map]
  induction vs with
  | nil => rfl
  | cons v vs ih => simp only [List.map_cons, Function.comp]; congr 1
def Ck.blk (c : Ck) (scope : Scope) : Ck := { c with sc := relS scope c.sc }
/-- a tuple of targets -/
def isTup : Expr → Bool
  | .Tuple _ _ _ => true
  | _ => false
mutual
def ckE (c : Ck) : E → Expr → Bool
  | .var i, x => match x with
    | .Name x _ => decide (c.N[i]? = some x) && visB c.sc x && !(x == ("__debug__" : Str)) && !(x == ("__classdict__" : Str))
    | _ => false
  | .cI i, x => match x with
    | .Constant (.int j) _ _ => decide (i = j)
    | _ => false
  | .cS s, x => match x with
    | .Constant (.str t) _ _ => decide (s = t)
    | _ => false
  | .cB b, x => match x with
    | .Constant (.bool d) _ _ => b == d
    | _ => false
  | .cN, x => match x with
    | .Constant .none _ _ => true
    | _ => false
  | .gI x i, y => match y with
    | .Name y _ => decide (x = y) && glB c.sc y && decide ((x, i) ∈ c.gI)
    | _ => false
  | .gS x i, y => match y with
    | .Name y _ => decide (x = y) && glB c.sc y && decide ((x, i) ∈ c.gS)
    | _ => false
  | .neg a, x => match x with
    | .UnaryOp .USub e _ => ckE c a e
    | _ => false
  | .not a, x => match x with
    | .UnaryOp .Not e _ => tsB e && ckE c a e
    | _ => false
  | .bin o a b, x => match x with
    | .BinOp e op f _ => bopB o op && ckE c a e && ckE c b f
    | _ => false
  | .cmp o a b, x => match x with
    | .Compare e [op] [f] _ => copB o op && !behindInMarks op f && ckE c a e && ckE c b f
    | _ => false
  | .chn o p a b d, x => match x with
    | .Compare e [op, oq] [f, g] _ => copB o op && copB p oq && !lastMarks [op, oq] [f, g] && ckE c a e && ckE c b f && ckE c d g
    | _ => false
  | .and a b, x => match x with
    | .BoolOp .And (e :: f :: r) pos => tsB e && ckE c a e && (match r with
      | [] => tsB f && ckE c b f
      | _ :: _ => ckE c b (.BoolOp .And (f :: r) pos))
    | _ => false
  | .or a b, x => match x with
    | .BoolOp .Or (e :: f :: r) pos => tsB e && ckE c a e && (match r with
      | [] => tsB f && ckE c b f
      | _ :: _ => ckE c b (.BoolOp .Or (f :: r) pos))
    | _ => false
  | .ife t a b, x => match x with
    | .IfExp e f g _ => tsB e && ckE c t e && ckE c a f && ckE c b g
    | _ => false
  | .tup es, x => match x with
    | .Tuple xs _ _ => ckEs c es xs
    | _ => false
  | .lst es, x => match x with
    | .List xs _ => ckEs c es xs
    | _ => false
  | .cel es, x => match x with
    | .List xs _ => ckEs c es xs
    | _ => false
  | .idx a i, x => match x with
    | .Subscript e f _ => plIx f && ckE c a e && ckE c i f
    | _ => false
  | .slc a l u, x => match x with
    | .Subscript e (.Slice f g none _) _ => ckE c a e && (match f with
      | none => isN l
      | some f => ckE c l f && !isN l) && (match g with
      | none => isN u
      | some g => ckE c u g && !isN u)
    | _ => false
  | .call f es, x => match x with
    | .Call (.Name x _) xs [] _ => decide (c.fa f = some (some x)) && glB c.sc x && ckEs c es xs
    | _ => false
  | .bi b es, x => match x with
    | .Call (.Name x _) (e :: xs) [] _ => decide (x = Str.ofString (biN b)) && glB c.sc x && decide (x ∈ c.free) && ckEs c es (e :: xs)
    | _ => false
  | .me m o es, x => match x with
    | .Call (.Attribute e a ap) xs [] pos => decide (esL es = meA m) && decide (a = Str.ofString (meN m)) && plB e && (ap.endLine == pos.line) && ckE c o e && ckEs c es xs
    | _ => false
  | .isT a n, x => match x with
    | .Call (.Name x _) [e, .Name y _] [] _ => noStar e && decide (x = Str.ofString "isinstance") && glB c.sc x && decide (x ∈ c.free) && glB c.sc y && decide (y ∈ c.free) && decide (bootBuiltins y = some (.type n)) && decide (y ≠ "__name__") && ckE c a e
    | _ => false
  | .isC a k, x => match x with
    | .Call (.Name x _) [e, .Name y _] [] _ => noStar e && decide (x = Str.ofString "isinstance") && glB c.sc x && decide (x ∈ c.free) && decide (c.cnm[k]? = some y) && glB c.sc y && ckE c a e
    | _ => false
  | .isCs a ks, x => match x with
    | .Call (.Name x _) [e, .Tuple ys _ _] [] _ => noStar e && decide (x = Str.ofString "isinstance") && glB c.sc x && decide (x ∈ c.free) && ckCs c ks ys && decide (ks.length ≤ 100) && !ks.isEmpty && ckE c a e
    | _ => false
  | .atr o f, x => match x with
    | .Attribute e g _ => decide (f = g) && plB e && ckE c o e
    | _ => false
  | .mcl o m es, x => match x with
    | .Call (.Attribute e g ap) xs [] pos => decide (m = g) && plB e && (ap.endLine == pos.line) && decide (xs.length < 29) && ckE c o e && ckEs c es xs
    | _ => false
  | .new k es, x => match x with
    | .Call (.Name x _) xs [] _ => decide (c.cnm[k]? = some x) && glB c.sc x && ckEs c es xs
    | _ => false
  | .cll a, x => match x with
    | .Call (.Name x _) [e] [] _ => noStar e && decide (x = Str.ofString "list") && glB c.sc x && decide (x ∈ c.free) && ckE c a e
    | _ => false
  | .lcm cl tg vs it a, x => match x with
    | .ListComp elt [⟨t, iter, [], z⟩] scope _ => decide (z = 0) && blkC c.N c.sc scope (ownOf c.N vs) && noSet iter && ckI c t it iter && ckGw (c.blk scope) vs tg t && ckE (c.blk scope) a elt
    | _ => false
  | .lcf tg vs it b a, x => match x with
    | .ListComp elt [⟨t, iter, [cd], z⟩] scope _ => decide (z = 0) && blkC c.N c.sc scope (ownOf c.N vs) && noSet iter && ckI c t it iter && ckGw (c.blk scope) vs tg t && ckE (c.blk scope) a elt && ckE (c.blk scope) b cd && tsB cd
    | _ => false
  | .mnd a d, x => match x with
    | .Call (.Name x _) [e] [⟨some k, f, _⟩] _ => noStar e && decide (x = Str.ofString "min") && decide (k = Str.ofString "default") && glB c.sc x && decide (x ∈ c.free) && ckE c a e && ckE c d f
    | _ => false
def ckEs (c : Ck) : Es → List Expr → Bool
  | .nil, xs => match xs with
    | [] => true
    | _ => false
  | .cons a es, xs => match xs with
    | e :: xs => noStar e && ckE c a e && ckEs c es xs
    | _ => false
def ckI (c : Ck) (t : Expr) : I → Expr → Bool
  | .seq e, x => noSet x && ckE c e x
  | .rng1 a, x => match x with
    | .Call (.Name y _) [e] [] _ => noStar e && decide (y = Str.ofString "range") && glB c.sc y && decide (y ∈ c.free) && ckE c a e
    | _ => false
  | .rng2 a b, x => match x with
    | .Call (.Name y _) [e, f] [] _ => noStar e && noStar f && decide (y = Str.ofString "range") && glB c.sc y && decide (y ∈ c.free) && ckE c a e && ckE c b f
    | _ => false
  | .rng3 a b d, x => match x with
    | .Call (.Name y _) [e, f, g] [] _ => noStar e && noStar f && noStar g && decide (y = Str.ofString "range") && glB c.sc y && decide (y ∈ c.free) && ckE c a e && ckE c b f && ckE c d g
    | _ => false
  | .zip a b, x => match x with
    | .Call (.Name y _) [e, f] [] _ => isTup t && noStar e && noStar f && decide (y = Str.ofString "zip") && glB c.sc y && decide (y ∈ c.free) && ckE c a e && ckE c b f
    | _ => false
  | .enm a, x => match x with
    | .Call (.Name y _) [e] [] _ => isTup t && noStar e && decide (y = Str.ofString "enumerate") && glB c.sc y && decide (y ∈ c.free) && ckE c a e
    | _ => false
end

/-- a value that is stored as it is -/
def plV : Expr → Bool
  | .ListComp _ _ _ _ => false
  | .SetComp _ _ _ _ => false
  | .DictComp _ _ _ _ _ => false
  | .Tuple _ _ _ => false
  | .List _ _ => false
  | _ => true
def plC : Expr → Bool
  | .ListComp _ _ _ _ => false
  | .SetComp _ _ _ _ => false
  | .DictComp _ _ _ _ _ => false
  | _ => true
def augB : Bop → Operator → Bool
  | .add, .Add => true | .sub, .Sub => true | .mul, .Mult => true | .shr, .RShift => true | .or, .BitOr => true
  | _, _ => false
/-- a comprehension stored into a name: it may be swapped with it -/
def swB (sc : Scope) (y : Str) (l l' : Nat) (scope : Scope) : Bool := decide (sc.names.lookup y = some .local) && ((l == l') && !(scope.names.any fun (n, k) => n == y && (k == .local || k == .cell)))
def isFn : ScopeKind → Bool
  | .function => true
  | _ => false
def lcB (c : Ck) (t e : Expr) : Bool := match t, e with
  | .Name _ _, .ListComp _ _ _ _ => isFn c.sc.kind
  | _, _ => false
mutual
def ckS (c : Ck) : S → Stmt → Bool
  | .asg (.one i) a, x => match x with
    | .Assign [t] e _ => ckG c (.one i) t && (plC e || lcB c t e) && ckE c a e
    | _ => false
  | .asg (.tup is) a, x => match x with
    | .Assign [t] e _ => ckG c (.tup is) t && plV e && ckE c a e
    | _ => false
  | .aug i o a, x => match x with
    | .AugAssign (.Name y _) op e _ => decide (c.N[i]? = some y) && locB c.sc y && augB o op && ckE c a e
    | _ => false
  | .exp a, x => match x with
    | .Expr e _ => plC e && ckE c a e
    | _ => false
  | .app o a, x => match x with
    | .Expr (.Call (.Attribute e m ap) [f] [] pos) _ => decide (m = Str.ofString "append") && noStar f && plB e && (ap.endLine == pos.line) && ckE c o e && ckE c a f
    | _ => false
  | .rvs o, x => match x with
    | .Expr (.Call (.Attribute e m ap) [] [] pos) _ => decide (m = Str.ofString "reverse") && plB e && (ap.endLine == pos.line) && ckE c o e
    | _ => false
  | .ins o i a, x => match x with
    | .Expr (.Call (.Attribute e m ap) [g, f] [] pos) _ => decide (m = Str.ofString "insert") && noStar g && noStar f && plB e && (ap.endLine == pos.line) && ckE c o e && ckE c i g && ckE c a f
    | _ => false
  | .sto o i a, x => match x with
    | .Assign [.Subscript e f _] g _ => plIx f && plV g && ckE c o e && ckE c i f && ckE c a g
    | _ => false
  | .sta o f a, x => match x with
    | .Assign [.Attribute e g _] v _ => decide (f = g) && plC v && ckE c o e && ckE c a v
    | _ => false
  | .iff t a b, x => match x with
    | .If e xs ys _ => tsB e && ckE c t e && ckSs c a xs && ckSs c b ys
    | _ => false
  | .whl t b, x => match x with
    | .While e xs [] _ => tsB e && ckE c t e && ckSs c b xs
    | _ => false
  | .fr tg it b, x => match x with
    | .For t e xs [] _ => ckG c tg t && noSet e && ckI c t it e && ckSs c b xs
    | _ => false
  | .ret a, x => match x with
    | .Return (some e) _ => ckE c a e
    | _ => false
  | .retN, x => match x with
    | .Return none _ => true
    | _ => false
  | .rais d, x => match x with
    | .Raise (some (.Call (.Name y _) [.Constant (.str _) _ _] [] _)) none _ => decide (c.cnm[d]? = some y) && glB c.sc y
    | _ => false
  | .tri b d i y, x => match x with
    | .Try xs [.ExceptHandler (some (.Name z _)) (some n) [.Assign [.Name u _] (.Name v _) _] _] [] [] _ =>
      decide (c.cnm[d]? = some z) && glB c.sc z && decide (c.N[i]? = some n) && decide (c.sc.names.lookup n = some .local) && decide (v = n) && visB c.sc n && !(n == ("__debug__" : Str)) && !(n == ("__classdict__" : Str)) && decide (c.N[y]? = some u) && locB c.sc u && decide (i ≠ y) && ckSs c b xs
    | _ => false
  | .cont, x => match x with
    | .Continue _ => true
    | _ => false
def ckSs (c : Ck) : Ss → List Stmt → Bool
  | .nil, xs => match xs with
    | [] => true
    | _ => false
  | .cons s ss, xs => match xs with
    | x :: xs => ckS c s x && ckSs c ss xs
    | _ => false
end

/-! ### readings -/
section
variable (K : PySem.W.Frag) (cA : Nat → Addr) (cF : Nat → List Str)
def RepX (x : MX) (cls : Value) (d : Option Addr) : Prop := cls = .ref (cA x.1) ∧ x.2 = [] ∧ d = none
def wpG {α β : Type} (rel : Hp → List Addr → α → β → Prop) (r : List Addr) (H : Hp) (res : R α) (Q : β → Hp → Prop) (X : XK) : Prop := match res with
  | .ok x h' => ∀ r' H' V, Ext r H r' H' → Emb K cA cF H' r' h' → rel H' r' x V → Q V H'
  | .exc x h' => ∀ r' H' cls d, Ext r H r' H' → Emb K cA cF H' r' h' → RepX cA x cls d → X cls d H'
  | .bad => False
abbrev wpR := wpG K cA cF (Rep K cA cF)
abbrev wpRs := wpG K cA cF (Reps K cA cF)
structure REn (H : Hp) (r : List Addr) (e : EN) (σ : L2.St) : Prop where
  len : e.length = σ.length
  at_ : ∀ (i : Nat) v, e[i]? = some (some v) → ∃ V, σ[i]? = some (some V) ∧ Rep K cA cF H r v V
def tE (W : WX) (f : EN → HP → R MV) : TE := fun σ H Q => ∃ r e h, Emb K cA cF H r h ∧ REn K cA cF H r e σ ∧ wpR K cA cF r H (f e h) Q fun cls d H' => W cls d σ H'
def tAs (W : WX) (f : EN → HP → R (List MV)) : TA := fun σ H Q => ∃ r e h, Emb K cA cF H r h ∧ REn K cA cF H r e σ ∧ wpRs K cA cF r H (f e h) Q fun cls d H' => W cls d σ H'
def RepB (_ : Hp) (_ : List Addr) (x : MV) (b : Bool) : Prop := x = .bl b
def tTt (W : WX) (f : EN → HP → R MV) : TT := fun σ H Q => ∃ r e h, Emb K cA cF H r h ∧ REn K cA cF H r e σ ∧ (match f e h with
  | .ok (.bl b) h' => ∀ r' H', Ext r H r' H' → Emb K cA cF H' r' h' → Q b H'
  | .exc x h' => ∀ r' H' cls d, Ext r H r' H' → Emb K cA cF H' r' h' → RepX cA x cls d → W cls d σ H'
  | _ => False)
/-- a def's promise: what the evaluator's call says -/
def spR (C : Nat → List MV → HP → R MV) (f : Nat) : Sp := fun vs H Q X => ∃ r args h, Emb K cA cF H r h ∧ Reps K cA cF H r args vs ∧ wpR K cA cF r H (C f args h) Q X
end
section
variable {K : PySem.W.Frag} {cA : Nat → Addr} {cF : Nat → List Str} {r r1 : List Addr} {H H1 : Hp} {h : HP} {e : EN} {σ : L2.St} {W : WX}
theorem wpG.mono {α β : Type} {rel : Hp → List Addr → α → β → Prop} {res : R α} {Q : β → Hp → Prop} {X : XK} (x : Ext r H r1 H1) (w : wpG K cA cF rel r H res Q X) : wpG K cA cF rel r1 H1 res Q X := by
  cases res with
  | ok a h' => exact fun r' H' V e1 e2 e3 => w r' H' V (x.trans e1) e2 e3
  | exc a h' => exact fun r' H' cls d e1 e2 e3 => w r' H' cls d (x.trans e1) e2 e3
  | bad => exact w
theorem REn.mono (x : Ext r H r1 H1) (n : REn K cA cF H r e σ) : REn K cA cF H1 r1 e σ := ⟨n.len, fun i v q => let ⟨V, h1, h2⟩ := n.at_ i v q; ⟨V, h1, Rep.mono x v V h2⟩⟩
/-- the first part of an evaluation -/
theorem step {α β : Type} {rel : Hp → List Addr → α → β → Prop} {a : R MV} {k : MV → HP → R α} {Q : β → Hp → Prop} {X : XK} {Q' : VK}
    (w : wpG K cA cF rel r H (a.bind k) Q X)
    (cont : ∀ r1 H1 h1 x V, Ext r H r1 H1 → Emb K cA cF H1 r1 h1 → Rep K cA cF H1 r1 x V → wpG K cA cF rel r1 H1 (k x h1) Q X → Q' V H1) : wpR K cA cF r H a Q' X := by
  cases a with
  | ok x h1 => exact fun r1 H1 V e1 e2 e3 => cont r1 H1 h1 x V e1 e2 e3 (wpG.mono e1 w)
  | exc x h1 => exact w
  | bad => exact w
theorem stepE {α β : Type} {rel : Hp → List Addr → α → β → Prop} {f : EN → HP → R MV} {k : MV → HP → R α} {Q : β → Hp → Prop} {Q' : VK}
    (E : Emb K cA cF H r h) (n : REn K cA cF H r e σ) (w : wpG K cA cF rel r H ((f e h).bind k) Q fun cls d H' => W cls d σ H')
    (cont : ∀ r1 H1 h1 x V, Ext r H r1 H1 → Emb K cA cF H1 r1 h1 → REn K cA cF H1 r1 e σ → Rep K cA cF H1 r1 x V → wpG K cA cF rel r1 H1 (k x h1) Q (fun cls d H' => W cls d σ H') → Q' V H1) : tE K cA cF W f σ H Q' :=
  ⟨r, e, h, E, n, step w fun r1 H1 h1 x V e1 e2 e3 w1 => cont r1 H1 h1 x V e1 e2 (n.mono e1) e3 w1⟩
theorem stepA {α β : Type} {rel : Hp → List Addr → α → β → Prop} {f : EN → HP → R (List MV)} {k : List MV → HP → R α} {Q : β → Hp → Prop} {Q' : List V → Hp → Prop}
    (E : Emb K cA cF H r h) (n : REn K cA cF H r e σ) (w : wpG K cA cF rel r H ((f e h).bind k) Q fun cls d H' => W cls d σ H')
    (cont : ∀ r1 H1 h1 x V, Ext r H r1 H1 → Emb K cA cF H1 r1 h1 → REn K cA cF H1 r1 e σ → Reps K cA cF H1 r1 x V → wpG K cA cF rel r1 H1 (k x h1) Q (fun cls d H' => W cls d σ H') → Q' V H1) : tAs K cA cF W f σ H Q' := by
  refine ⟨r, e, h, E, n, ?_⟩
  cases q : f e h with
  | ok x h1 =>
    rw [q] at w
    exact fun r1 H1 V e1 e2 e3 => cont r1 H1 h1 x V e1 e2 (n.mono e1) e3 (wpG.mono e1 w)
  | exc x h1 => rw [q] at w; exact w
  | bad => rw [q] at w; exact w
theorem PEimp {X : Cx} {x : Expr} {t u : TE} (p : PE X x t) (i : ∀ σ H Q, u σ H Q → t σ H Q) : PE X x u := ⟨fun pins s σ H Q I q => p.run pins s σ H Q I (i σ H Q q)⟩
theorem PTimp {X : Cx} {x : Expr} {t u : TT} (p : PT X x t) (i : ∀ σ H Q, u σ H Q → t σ H Q) : PT X x u := ⟨fun pins s σ H Q I q => p.run pins s σ H Q I (i σ H Q q)⟩
theorem PWimp {X : Cx} {x : Expr} {t u : TT} (p : PW X x t) (i : ∀ σ H Q, u σ H Q → t σ H Q) : PW X x u := ⟨fun wh pins s σ H Q I q => p.run wh pins s σ H Q I (i σ H Q q)⟩
theorem PAimp {X : Cx} {x : List Expr} {t u : TA} (p : PA X x t) (i : ∀ σ H Q, u σ H Q → t σ H Q) : PA X x u := ⟨fun pos pins s σ H Q I q => p.run pos pins s σ H Q I (i σ H Q q)⟩
/-- the end of an evaluation: a value that needs nothing -/
theorem wpR.ok {x : MV} {h' : HP} {Q : VK} {X : XK} {V : V} (w : wpR K cA cF r H (.ok x h') Q X) (E : Emb K cA cF H r h') (p : Rep K cA cF H r x V) : Q V H := w r H V Ext.refl E p
end

/-! ### operators, by values -/
section
variable {X : Cx} {cA : Nat → Addr} {cF : Nat → List Str}
/-- a value of two values: what comes of them where they stand -/
def rV2 (K : PySem.W.Frag) (cA : Nat → Addr) (cF : Nat → List Str) (g : HP → MV → MV → Option MV) : R2 := fun v u H Q =>
  ∃ r h x y z, Emb K cA cF H r h ∧ Rep K cA cF H r x v ∧ Rep K cA cF H r y u ∧ g h x y = some z ∧ ∀ r' H' V, Ext r H r' H' → Emb K cA cF H' r' h → Rep K cA cF H' r' z V → Q V H'
theorem Inv.isL {pins : List (Addr × Obj)} {σ : L2.St} {H : Hp} {s : Shared} {r : List Addr} {a : Addr} {vs : List V} (I : Inv X pins σ H s) (q : H a = some (.lst vs) ∨ FzL X.K H r a vs) :
    ∃ (its : List Value) (n : Nat), Vals vs its ∧ s.heap.get? a = some { cls := .type "list", data := .seq its.toArray n } ∧ vs.length ≤ sizeLine := by
  rcases q with q | ⟨_, q⟩ | ⟨its, n, q, z, rv⟩
  · obtain ⟨z, its, n, rv, e⟩ := I.hok a _ q
    exact ⟨its, n, rv, e, z⟩
  · obtain ⟨z, its, n, rv, e⟩ := q.ok I.hok
    exact ⟨its, n, rv, e, z⟩
  · refine ⟨its.toList, n, rv, by simpa using I.kIn a _ q, ?_⟩
    have e := rv.length
    simp only [Array.length_toList] at e
    omega
/-- a new list of values is a frozen one -/
theorem new_lst {K : PySem.W.Frag} {H : Hp} {r : List Addr} {h : HP} {p : Addr} {xs : List MV} {vs : List V} (E : Emb K cA cF H r h) (hp : H p = none) (q : Reps K cA cF H r xs vs) :
    Ext r H r (upd H p (.lst vs)) ∧ Emb K cA cF (upd H p (.lst vs)) r h ∧ Rep K cA cF (upd H p (.lst vs)) r (.lst xs) (.ref p) := by
  obtain ⟨x1, x2, x3⟩ := E.new (o := .lst vs) hp
  refine ⟨x1, x2, ?_⟩
  simp only [Rep]
  exact ⟨p, vs, rfl, .inl ⟨x3, .inl upd_same⟩, Reps.mono x1 _ _ q⟩
theorem new_tup {K : PySem.W.Frag} {H : Hp} {r : List Addr} {h : HP} {p : Addr} {xs : List MV} {vs : List V} (E : Emb K cA cF H r h) (hp : H p = none) (q : Reps K cA cF H r xs vs) :
    Ext r H r (upd H p (.tup vs)) ∧ Emb K cA cF (upd H p (.tup vs)) r h ∧ Rep K cA cF (upd H p (.tup vs)) r (.tup xs) (.ref p) := by
  obtain ⟨x1, x2, x3⟩ := E.new (o := .tup vs) hp
  refine ⟨x1, x2, ?_⟩
  simp only [Rep]
  exact ⟨p, vs, rfl, ⟨x3, upd_same⟩, Reps.mono x1 _ _ q⟩
theorem rep_int {K : PySem.W.Frag} {H : Hp} {r : List Addr} {i : Int} : Rep K cA cF H r (.int i) (.int i) := by simp only [Rep]
theorem rep_bl {K : PySem.W.Frag} {H : Hp} {r : List Addr} {i : Bool} : Rep K cA cF H r (.bl i) (.bl i) := by simp only [Rep]
theorem rep_str {K : PySem.W.Frag} {H : Hp} {r : List Addr} {i : Str} : Rep K cA cF H r (.str i) (.str i) := by simp only [Rep]
theorem rep_non {K : PySem.W.Frag} {H : Hp} {r : List Addr} : Rep K cA cF H r .non .non := by simp only [Rep]
theorem mulB_ok {i j : Int} (h : mulB i j = true) : IntMulOk i j := by
  unfold mulB at h
  simp only [Bool.or_eq_true, decide_eq_true_eq] at h
  rcases h with (h | h) | h
  · exact .of_left h
  · exact .of_right h
  · exact CMulX.ok h
theorem sz_eq : sz = sizeLine := by rw [sizeLine_eq]; rfl
theorem dvB_ok {i j : Int} (h : dvB i j = true) : 0 < j ∧ Builtin.divisionGoesByPylong i j = false := by
  unfold dvB at h
  simp only [Bool.and_eq_true, Bool.or_eq_true, decide_eq_true_eq, Bool.not_eq_true'] at h
  obtain ⟨h0, h1 | h1⟩ := h
  · exact ⟨h0, PyProof.noPylong_small (by omega)⟩
  · exact ⟨h0, h1⟩
/-- room for a long division by _pylong -/
structure Deep (X : Cx) : Prop where
  seer : X.base.NoSeer
  tree : X.prog.given.tree = none
  room : X.A.depth + 100 < recursionLimit
  stk : ∃ env l, X.stack = env :: l ∧ env.scope.isGenerator = false ∧ env.scope.isCoroutine = false ∧ env.builtins = builtinsNs ∧ env.globals = mainGlobals
theorem op_fdivM (dp : Deep X) : OpR X (binaryOp .FloorDiv) (rI (fun i j => (dvB i j || decide (0 < j)) = true) fun i j => .int (i / j)) := by
  intro pins s σ H v1 v2 u1 u2 Q I r1 r2 q
  obtain ⟨i, j, rfl, rfl, hc, q⟩ := q
  obtain ⟨t1, rfl⟩ := _root_.id r1
  obtain ⟨t2, rfl⟩ := _root_.id r2
  have hj : 0 < j := by
    simp only [Bool.or_eq_true, decide_eq_true_eq] at hc
    rcases hc with h | h
    · exact (dvB_ok h).1
    · exact h
  obtain ⟨env, l, e0, e1, e2, e3, e4⟩ := dp.stk
  have sa : SeerAt (model X.prog X.w) X.A s.heap := SeerAt.of (dp.seer.keeps I.bk) dp.tree (by rw [I.ok.frames, e0]) e1 e2 e3 e4
  refine floordiv_int (by omega) ?_ (.inr (PylongRoom.of I.nolimit dp.room sa))
  rw [Int.fdiv_eq_ediv_of_nonneg i (by omega)]
  exact ⟨.int (i / j), H, I.tok _, ⟨_, rfl⟩, q⟩
theorem op_mulM : OpR X (binaryOp .Mult) (rI (fun i j => mulB i j = true) fun i j => .int (i * j)) := opI fun _ _ _ _ _ _ _ hc q => mul_int q (mulB_ok hc)
theorem iop_mulM : OpR X (inplaceOp .Mult) (rI (fun i j => mulB i j = true) fun i j => .int (i * j)) := opI fun _ _ _ _ _ _ _ hc q => imul_int q (mulB_ok hc)
theorem op_powM : OpR X (binaryOp .Pow) (rI (fun i j => powB i j = true) fun i j => .int (i ^ j.toNat)) := opI fun _ _ _ _ _ _ _ hc q => by
  unfold powB at hc
  simp only [Bool.and_eq_true, Bool.or_eq_true, decide_eq_true_eq] at hc
  rcases hc.2 with h | h
  · exact pow_int_small hc.1 h.1 h.2 q
  · exact pow_int hc.1 (by have : (2 : Int) ^ 27 = 134217728 := rfl; omega) q
theorem op_shlM : OpR X (binaryOp .LShift) (rI (fun i j => shlB i j = true) fun i j => .int (i * 2 ^ j.toNat)) := opI fun _ _ _ _ _ _ _ hc q => by
  unfold shlB at hc
  simp only [Bool.and_eq_true, decide_eq_true_eq] at hc
  exact lshift_int hc.1 (by have := hc.2; omega) q
/-- two ints, a condition on them -/
theorem int_op {f : Value → Value → Sem Value} {c : Int → Int → Bool} {g : Int → Int → Int} (ho : OpR X f (rI (fun i j => c i j = true) fun i j => .int (g i j))) :
    OpR X f (rV2 X.K cA cF fun _ x y => int2 x y fun a b => if c a b then some (.int (g a b)) else none) := by
  intro pins s σ H v u w t Q I rv ru hq
  obtain ⟨r, h, x, y, z, E, rx, ry, e, q⟩ := hq
  obtain ⟨a, b, ex, ey, e2⟩ := int2_some e
  clear e
  subst ex ey
  split at e2
  · rename_i hc
    cases e2
    simp only [Rep] at rx ry
    exact ho pins s σ H v u w t Q I rv ru ⟨a, b, rx, ry, hc, q _ _ _ Ext.refl E rep_int⟩
  · cases e2
theorem int_op0 {f : Value → Value → Sem Value} {g : Int → Int → Int} (ho : OpR X f (rI0 fun i j => .int (g i j))) :
    OpR X f (rV2 X.K cA cF fun _ x y => int2 x y fun a b => some (.int (g a b))) := by
  intro pins s σ H v u w t Q I rv ru hq
  obtain ⟨r, h, x, y, z, E, rx, ry, e, q⟩ := hq
  obtain ⟨a, b, ex, ey, e2⟩ := int2_some e
  clear e
  subst ex ey
  cases e2
  simp only [Rep] at rx ry
  exact ho pins s σ H v u w t Q I rv ru ⟨a, b, rx, ry, q _ _ _ Ext.refl E rep_int⟩
theorem int_opP {f : Value → Value → Sem Value} {c : Int → Int → Prop} [∀ i j, Decidable (c i j)] {g : Int → Int → Int} (ho : OpR X f (rI c fun i j => .int (g i j))) :
    OpR X f (rV2 X.K cA cF fun _ x y => int2 x y fun a b => if c a b then some (.int (g a b)) else none) := by
  intro pins s σ H v u w t Q I rv ru hq
  obtain ⟨r, h, x, y, z, E, rx, ry, e, q⟩ := hq
  obtain ⟨a, b, ex, ey, e2⟩ := int2_some e
  clear e
  subst ex ey
  split at e2
  · rename_i hc
    cases e2
    simp only [Rep] at rx ry
    exact ho pins s σ H v u w t Q I rv ru ⟨a, b, rx, ry, hc, q _ _ _ Ext.refl E rep_int⟩
  · cases e2
theorem OpR.imp {f : Value → Value → Sem Value} {r r' : R2} (ho : OpR X f r) (h : ∀ x y H Q, r' x y H Q → r x y H Q) : OpR X f r' := fun pins s σ H x y v u Q I rx ry q => ho pins s σ H x y v u Q I rx ry (h _ _ _ _ q)
theorem add_op : OpR X (binaryOp .Add) (rV2 X.K cA cF addV) := by
  intro pins s σ H v u w t Q I rv ru hq
  obtain ⟨r, h, x, y, z, E, rx, ry, g, q⟩ := hq
  unfold addV at g
  split at g
  · exact int_op0 (g := fun a b => a + b) op_add pins s σ H v u w t Q I rv ru ⟨r, h, _, _, z, E, rx, ry, g, q⟩
  · split at g
    · rename_i hl
      cases g
      simp only [Rep] at rx ry
      exact op_add_str pins s σ H v u w t Q I rv ru ⟨_, _, rx, ry, by rw [← sz_eq]; exact hl, q _ _ _ Ext.refl E rep_str⟩
    · cases g
  · unfold catL at g
    obtain ⟨xs, g1, g⟩ := Option.bind_eq_some_iff.mp g
    obtain ⟨ys, g2, g⟩ := Option.bind_eq_some_iff.mp g
    split at g
    · rename_i hl
      cases g
      obtain ⟨a, vs, rfl, l1, q1⟩ := getL_ok E g1 rx
      obtain ⟨b, us, rfl, l2, q2⟩ := getL_ok E g2 ry
      cases rv
      cases ru
      obtain ⟨its, n, k1, e1, z1⟩ := Inv.isL I l1
      obtain ⟨its2, n2, k2, e2, z2⟩ := Inv.isL I l2
      have hz : vs.length + us.length ≤ sizeLine := by rw [q1.length, q2.length, ← sz_eq]; exact hl
      refine PySem.P.add_list e1 e2 ?_ (by rw [List.size_toArray, List.size_toArray, ← k1.length, ← k2.length]; exact hz)
      have ea : its.toArray ++ its2.toArray = (its ++ its2).toArray := by simp
      rw [ea]
      obtain ⟨x1, x2, x3⟩ := new_lst E I.fresh (q1.append q2)
      exact ⟨.ref _, _, I.lnew (t' := s.toks) (k1.append k2) (by rw [List.length_append]; exact hz), rfl, q _ _ _ x1 x2 x3⟩
    · cases g
theorem Reps.rep {K : PySem.W.Frag} {cA : Nat → Addr} {cF : Nat → List Str} {H : Hp} {r : List Addr} {xs : List MV} {vs : List V} (q : Reps K cA cF H r xs vs) : ∀ k : Nat, Reps K cA cF H r (List.replicate k xs).flatten (List.replicate k vs).flatten
  | 0 => by simp [Reps]
  | k + 1 => by
    rw [List.replicate_succ, List.replicate_succ, List.flatten_cons, List.flatten_cons]
    exact q.append (Reps.rep q k)
theorem mul_op : OpR X (binaryOp .Mult) (rV2 X.K cA cF mulV) := by
  intro pins s σ H v u w t Q I rv ru hq
  obtain ⟨r, h, x, y, z, E, rx, ry, g, q⟩ := hq
  unfold mulV at g
  split at g
  · exact int_op op_mulM pins s σ H v u w t Q I rv ru ⟨r, h, _, _, z, E, rx, ry, g, q⟩
  · split at g
    · rename_i a k hl
      cases g
      obtain ⟨h1, h2, hz⟩ := hl
      simp only [Rep] at rx ry
      subst rx ry
      obtain ⟨t1, rfl⟩ := rv
      obtain ⟨t2, rfl⟩ := ru
      have hz' : a.length * k.toNat ≤ 16777216 := hz
      refine PySem.SB.mul ⟨?_, fun h3 _ => ?_, fun _ _ => PyProof.Rows.short24 hz'⟩ fun t' k' => ⟨.str _, H, I.tok _, ⟨_, rfl⟩, q _ _ _ Ext.refl E rep_str⟩
      · simp; omega
      · have h5 : a.length ≤ a.length * k.toNat := Nat.le_mul_of_pos_right _ (by omega)
        have h6 : (16777216 : Int) ≤ (2 ^ 63 - 1) / k := (Int.le_ediv_iff_mul_le (by omega)).mpr (by omega)
        omega
    · cases g
  · rename_i x' k _ _
    obtain ⟨xs, g1, g⟩ := Option.bind_eq_some_iff.mp g
    split at g
    · rename_i hl
      cases g
      obtain ⟨h1, h2, hz⟩ := hl
      obtain ⟨l, vs, rfl, l1, q1⟩ := getL_ok E g1 rx
      simp only [Rep] at ry
      subst ry
      cases rv
      obtain ⟨tk, rfl⟩ := ru
      obtain ⟨its, n, k1, e, z1⟩ := Inv.isL I l1
      have hl : vs.length = its.length := k1.length
      have hz' : vs.length * k.toNat ≤ sizeLine := by rw [q1.length, ← sz_eq]; exact hz
      have hlen : its.toArray.size * k.toNat ≤ sizeLine := by rw [List.size_toArray, ← hl]; exact hz'
      have hcap : ¬ its.toArray.size * k.toNat > (2 ^ 63 - 1) / 8 := by
        have : (sizeLine : Nat) ≤ (2 ^ 63 - 1) / 8 := by decide
        omega
      have hfit : ¬ (!Builtin.List.listFitsIndex k) = true := by
        rw [fitsIndex_both (by omega) (by omega)]
        exact Bool.false_ne_true
      have hlong : ¬ Builtin.List.listTooLong (its.toArray.size * k.toNat) = true := by
        rw [notLongL hlen]
        exact Bool.false_ne_true
      have hnew : List.foldl (fun x1 x2 => x1 ++ x2) #[] (List.replicate (if its.toArray.isEmpty = true then 0 else k.toNat) its.toArray) = (List.replicate k.toNat its).flatten.toArray := by
        have f0 : ∀ m : Nat, List.foldl (fun x1 x2 => x1 ++ x2) #[] (List.replicate m its.toArray) = (List.replicate m its).flatten.toArray := fun m => by
          have := L2.foldl_rep its m []
          rw [List.nil_append] at this
          exact this
        rw [f0]
        cases its with
        | nil => simp
        | cons a r' => rw [if_neg (by simp)]
      refine PySem.wpAny_binaryOp_repeat_ref (T := "list") (U := "int") (by decide) ⟨_, e, rfl⟩ (fun s' => typeIs_int s' k tk) noFill_list_mul F.fills_int_mul F.slot_int_rmul repeat_list F.slot_int_index.lookup
        (call_meets F.slot_int_rmul (typeIs_int s k tk) F.entry_int_rmul (F.args_int_rmul_2 _ _) (int___rmul___int_list k tk l its.toArray n)
          ⟨e, rfl, ⟨_, e, rfl⟩, call_meets F.slot_list_mul ⟨_, e, rfl⟩ F.entry_list_mul (F.args_list_mul_2 _ _) (AutoListH.list___mul___list_int_3 l its.toArray n k tk hfit hcap hlong) ⟨e, ?_⟩⟩)
      rw [hnew]
      obtain ⟨x1, x2, x3⟩ := new_lst E I.fresh (q1.rep k.toNat)
      exact ⟨.ref _, _, I.lnew (t' := s.toks) (k1.rep k.toNat) (by rw [PyProof.Rows.lm_len_rep_flat, Nat.mul_comm]; exact hz'), rfl, q _ _ _ x1 x2 x3⟩
    · cases g
  · cases g
theorem binop_ok (dp : Deep X) {o : Bop} {op : Operator} (hb : bopB o op = true) : OpR X (binaryOp op) (rV2 X.K cA cF fun h => binV h o) := by
  cases o <;> cases op <;> first | (exact absurd hb (by decide)) | skip
  · exact add_op
  · exact int_op0 op_sub
  · exact mul_op
  · exact int_op (op_fdivM dp)
  · exact int_opP (c := fun _ j => 0 < j) op_mod
  · exact int_op op_powM
  · exact int_op op_shlM
  · exact int_opP (c := fun _ j => 0 ≤ j) op_shr
  · exact int_op0 op_and
  · exact int_op0 op_or
  · exact int_op0 op_xor
theorem augA_op : OpR X (inplaceOp .Add) (rV2 X.K cA cF fun _ => augA) := by
  intro pins s σ H v u w t Q I rv ru hq
  obtain ⟨r, h, x, y, z, E, rx, ry, g, q⟩ := hq
  replace g : augA x y = some z := g
  unfold augA at g
  split at g
  · split at g
    · rename_i hl
      cases g
      simp only [Rep] at rx ry
      exact iop_add_str pins s σ H v u w t Q I rv ru ⟨_, _, rx, ry, by rw [← sz_eq]; exact hl, q _ _ _ Ext.refl E rep_str⟩
    · cases g
  · exact int_op0 (g := fun a b => a + b) iop_add pins s σ H v u w t Q I rv ru ⟨r, h, _, _, z, E, rx, ry, g, q⟩
theorem augop_ok {o : Bop} {op : Operator} (hb : augB o op = true) : OpR X (inplaceOp op) (rV2 X.K cA cF fun _ => augV o) := by
  cases o <;> cases op <;> first | (exact absurd hb (by decide)) | skip
  · exact augA_op
  · exact int_op0 iop_sub
  · exact int_op iop_mulM
  · exact int_opP (c := fun _ j => 0 ≤ j) iop_shr
  · exact int_op0 iop_or
end
end Rm

/-! Rm, part D: expressions do what the evaluator says. -/
namespace Rm
open PySem L2 PySem.Spec PyProof.Rows

section
variable {X : Cx} {cA : Nat → Addr} {cF : Nat → List Str}
/-! ### comparisons -/
mutual
theorem toD_ok {K : PySem.W.Frag} {H : Hp} {r : List Addr} {h : HP} : ∀ (x : MV) (d : PyData) (v : V), toD h x = some d → Rep K cA cF H r x v → Dp K H v d
  | .non, d, v, e, p => by simp only [toD, Option.some.injEq] at e; subst e; simp only [Rep] at p; subst p; exact .non
  | .bl b, d, v, e, p => by simp only [toD, Option.some.injEq] at e; subst e; simp only [Rep] at p; subst p; exact .bl b
  | .int i, d, v, e, p => by simp only [toD, Option.some.injEq] at e; subst e; simp only [Rep] at p; subst p; exact .int i
  | .str s, d, v, e, p => by simp only [toD, Option.some.injEq] at e; subst e; simp only [Rep] at p; subst p; exact .str s
  | .tup xs, d, v, e, p => by
    simp only [toD] at e
    obtain ⟨ds, e1, e2⟩ := Option.map_eq_some_iff.mp e
    subst e2
    simp only [Rep] at p
    obtain ⟨a, vs, rfl, ⟨_, h1⟩, h2⟩ := p
    exact .tup (SqT.of h1) (toDs_ok xs ds vs e1 h2)
  | .lst xs, d, v, e, p => by
    simp only [toD] at e
    obtain ⟨ds, e1, e2⟩ := Option.map_eq_some_iff.mp e
    subst e2
    simp only [Rep] at p
    obtain ⟨a, vs, rfl, h1, h2⟩ := p
    exact .lst h1.sq (toDs_ok xs ds vs e1 h2)
  | .ref i, d, v, e, p => by simp only [toD] at e; cases e
  | .obj c xs, d, v, e, p => by simp only [toD] at e; cases e
  | .exc c xs, d, v, e, p => by simp only [toD] at e; cases e
theorem toDs_ok {K : PySem.W.Frag} {H : Hp} {r : List Addr} {h : HP} : ∀ (xs : List MV) (ds : List PyData) (vs : List V), toDs h xs = some ds → Reps K cA cF H r xs vs → DpAll K H vs ds
  | [], ds, vs, e, p => by simp only [toDs, Option.some.injEq] at e; subst e; simp only [Reps] at p; subst p; exact .nil
  | x :: xs, ds, vs, e, p => by
    simp only [toDs] at e
    obtain ⟨d, e1, e2⟩ := Option.bind_eq_some_iff.mp e
    obtain ⟨ds', e3, e4⟩ := Option.map_eq_some_iff.mp e2
    subst e4
    simp only [Reps] at p
    obtain ⟨v, ws, rfl, h1, h2⟩ := p
    exact .cons (toD_ok x d v e1 h1) (toDs_ok xs ds' ws e3 h2)
end
theorem flat0_ok {K : PySem.W.Frag} {H : Hp} {r : List Addr} {h : HP} (E : Emb K cA cF H r h) {x : MV} {d : PyData} {v : V} (e : flat0 h x = some d) (p : Rep K cA cF H r x v) : Dp K H v d := by
  cases x with
  | ref i =>
    simp only [flat0] at e
    cases q : h[i]? with
    | none => rw [q] at e; cases e
    | some o =>
      rw [q] at e
      cases o with
      | lst xs =>
        obtain ⟨ds, e1, e2⟩ := Option.map_eq_some_iff.mp e
        subst e2
        have g : getL h (.ref i) = some xs := by simp only [getL, q]
        obtain ⟨a, vs, rfl, l1, q1⟩ := getL_ok E g p
        exact .lst (sq_of l1) (toDs_ok xs ds vs e1 q1)
      | ins c xs => cases e
  | _ => exact toD_ok _ _ _ (by simpa only [flat0] using e) p
theorem flats0_ok {K : PySem.W.Frag} {H : Hp} {r : List Addr} {h : HP} (E : Emb K cA cF H r h) : ∀ (xs : List MV) (ds : List PyData) (vs : List V), flats0 h xs = some ds → Reps K cA cF H r xs vs → DpAll K H vs ds
  | [], ds, vs, e, p => by simp only [flats0, Option.some.injEq] at e; subst e; simp only [Reps] at p; subst p; exact .nil
  | x :: xs, ds, vs, e, p => by
    simp only [flats0] at e
    obtain ⟨d, e1, e2⟩ := Option.bind_eq_some_iff.mp e
    obtain ⟨ds', e3, e4⟩ := Option.map_eq_some_iff.mp e2
    subst e4
    simp only [Reps] at p
    obtain ⟨v, ws, rfl, h1, h2⟩ := p
    exact .cons (flat0_ok E e1 h1) (flats0_ok E xs ds' ws e3 h2)
theorem flatD_ok {K : PySem.W.Frag} {H : Hp} {r : List Addr} {h : HP} (E : Emb K cA cF H r h) {x : MV} {d : PyData} {v : V} (e : flatD h x = some d) (p : Rep K cA cF H r x v) : Dp K H v d := by
  cases x with
  | ref i => exact flat0_ok E (by simpa only [flat0, flatD] using e) p
  | lst xs =>
    simp only [flatD, lstD] at e
    simp only [Rep] at p
    obtain ⟨a, vs, rfl, h1, h2⟩ := p
    split at e
    · rename_i ds q
      simp only [Option.some.injEq] at e
      subst e
      exact .lst h1.sq (toDs_ok xs ds vs q h2)
    · obtain ⟨ds, e1, e2⟩ := Option.map_eq_some_iff.mp e
      subst e2
      exact .lst h1.sq (flats0_ok E xs ds vs e1 h2)
  | _ => exact toD_ok _ _ _ (by simpa only [flatD] using e) p
def rB2 (K : PySem.W.Frag) (cA : Nat → Addr) (cF : Nat → List Str) (g : HP → MV → MV → Option Bool) : R2 := fun v u H Q =>
  ∃ r h x y b, Emb K cA cF H r h ∧ Rep K cA cF H r x v ∧ Rep K cA cF H r y u ∧ g h x y = some b ∧ Q (.bl b) H
theorem eqM_ok {K : PySem.W.Frag} {H : Hp} {r : List Addr} {h : HP} (E : Emb K cA cF H r h) {x y : MV} {v u : V} {b : Bool} (g : eqM h x y = some b) (p : Rep K cA cF H r x v) (q : Rep K cA cF H r y u) :
    ∃ d e, Dp K H v d ∧ Dp K H u e ∧ SeqAt.shaped d = true ∧ SeqAt.shaped e = true ∧ PyData.eqv d e = b := by
  unfold eqM at g
  obtain ⟨d, e1, g⟩ := Option.bind_eq_some_iff.mp g
  obtain ⟨e, e2, g⟩ := Option.bind_eq_some_iff.mp g
  split at g
  · rename_i hs
    simp only [Bool.and_eq_true] at hs
    cases g
    exact ⟨d, e, flatD_ok E e1 p, flatD_ok E e2 q, hs.1, hs.2, rfl⟩
  · cases g
theorem flat_rep {K : PySem.W.Frag} {H : Hp} {r : List Addr} {x : MV} {v : V} (f : flatM x = true) (p : Rep K cA cF H r x v) : flatV v = true ∧ ∀ y w, flatM y = true → Rep K cA cF H r y w → eqV w v = eqF y x := by
  have key : ∀ {x : MV} {v : V}, flatM x = true → Rep K cA cF H r x v → (x = .non ∧ v = .non) ∨ (∃ b, x = .bl b ∧ v = .bl b) ∨ (∃ i, x = .int i ∧ v = .int i) ∨ ∃ s, x = .str s ∧ v = .str s := by
    intro x v f p
    cases x with
    | non => simp only [Rep] at p; exact .inl ⟨rfl, p⟩
    | bl b => simp only [Rep] at p; exact .inr (.inl ⟨b, rfl, p⟩)
    | int i => simp only [Rep] at p; exact .inr (.inr (.inl ⟨i, rfl, p⟩))
    | str s => simp only [Rep] at p; exact .inr (.inr (.inr ⟨s, rfl, p⟩))
    | _ => cases f
  rcases key f p with ⟨rfl, rfl⟩ | ⟨b, rfl, rfl⟩ | ⟨i, rfl, rfl⟩ | ⟨s, rfl, rfl⟩ <;> refine ⟨rfl, fun y w fy py => ?_⟩ <;>
    rcases key fy py with ⟨rfl, rfl⟩ | ⟨b', rfl, rfl⟩ | ⟨i', rfl, rfl⟩ | ⟨s', rfl, rfl⟩ <;> rfl
theorem flats_rep {K : PySem.W.Frag} {H : Hp} {r : List Addr} {x : MV} {v : V} (f : flatM x = true) (p : Rep K cA cF H r x v) : ∀ {ys : List MV} {us : List V}, ys.all flatM = true → Reps K cA cF H r ys us → us.all flatV = true ∧ L2.inV v us = inF x ys
  | [], us, fs, q => by simp only [Reps] at q; subst q; exact ⟨rfl, rfl⟩
  | y :: ys, us, fs, q => by
    simp only [Reps] at q
    obtain ⟨w, ws, rfl, h1, h2⟩ := q
    simp only [List.all_cons, Bool.and_eq_true] at fs
    obtain ⟨k1, k2⟩ := flats_rep f p fs.2 h2
    refine ⟨by rw [List.all_cons, k1, (flat_rep fs.1 h1).1]; rfl, ?_⟩
    have e := (flat_rep f p).2 y w fs.1 h1
    unfold L2.inV inF at *
    rw [List.any_cons, List.any_cons, e, k2]
theorem seq_ok {K : PySem.W.Frag} {H : Hp} {r : List Addr} {h : HP} (E : Emb K cA cF H r h) {x : MV} {xs : List MV} {v : V} (e : seqOf h x = some xs) (p : Rep K cA cF H r x v) :
    ∃ a vs, v = .ref a ∧ (SqL K H a vs ∨ SqT K H a vs) ∧ Reps K cA cF H r xs vs := by
  cases x with
  | tup ys =>
    simp only [seqOf, Option.some.injEq] at e
    subst e
    simp only [Rep] at p
    obtain ⟨a, vs, e1, ⟨_, h1⟩, h2⟩ := p
    exact ⟨a, vs, e1, .inr (SqT.of h1), h2⟩
  | _ =>
    obtain ⟨a, vs, e1, l1, q1⟩ := getL_ok E (by simpa only [seqOf] using e) p
    exact ⟨a, vs, e1, .inl (sq_of l1), q1⟩
theorem int_cmp {f : Value → Value → Sem Value} {g : Int → Int → Bool} (ho : OpR X f (rI0 fun i j => .bl (g i j))) : OpR X f (rB2 X.K cA cF fun _ x y => cmp2 x y g) :=
  OpR.imp ho fun v u H Q q => by
    obtain ⟨r, h, x, y, b, E, rx, ry, e, q⟩ := q
    obtain ⟨i, j, ex, ey, e2⟩ := cmp2_some e
    subst ex ey e2
    simp only [Rep] at rx ry
    exact ⟨i, j, rx, ry, q⟩
theorem rep_non_iff {K : PySem.W.Frag} {H : Hp} {r : List Addr} {x : MV} {v : V} (p : Rep K cA cF H r x v) : decide (v = .non) = isNon x := by
  cases x with
  | non => simp only [Rep] at p; subst p; rfl
  | bl b => simp only [Rep] at p; subst p; rfl
  | int i => simp only [Rep] at p; subst p; rfl
  | str s => simp only [Rep] at p; subst p; rfl
  | tup xs => simp only [Rep] at p; obtain ⟨a, vs, rfl, _⟩ := p; rfl
  | lst xs => simp only [Rep] at p; obtain ⟨a, vs, rfl, _⟩ := p; rfl
  | ref i => simp only [Rep] at p; obtain ⟨a, rfl, _⟩ := p; rfl
  | obj c xs => simp only [Rep] at p; obtain ⟨a, dx, vs, rfl, _⟩ := p; rfl
  | exc c xs => simp only [Rep] at p; obtain ⟨a, rfl, _⟩ := p; rfl
theorem cmpop_ok (hu : X.A.units + 64 < cLine) {o : Cop} {op : CmpOp} (hb : copB o op = true) : OpR X (compareOp op) (rB2 X.K cA cF fun h => cmpV h o) := by
  have isn : ∀ {g : Bool → Bool} {x y : MV} {v u : V} {b : Bool} {H : Hp} {r : List Addr}, (if isNon y then some (g (isNon x)) else none) = some b → Rep X.K cA cF H r x v → Rep X.K cA cF H r y u → u = .non ∧ g (decide (v = .non)) = b := by
    intro g x y v u b H r e p q
    split at e
    · rename_i hy
      cases e
      have := rep_non_iff q
      rw [hy] at this
      exact ⟨of_decide_eq_true this, by rw [rep_non_iff p]⟩
    · cases e
  have ins : ∀ {x y : MV} {v u : V} {b : Bool} {H : Hp} {r : List Addr} {h : HP}, Emb X.K cA cF H r h → inV h x y = some b → Rep X.K cA cF H r x v → Rep X.K cA cF H r y u →
      (∃ p xs, u = .ref p ∧ (SqL X.K H p xs ∨ SqT X.K H p xs) ∧ flatV v = true ∧ xs.all flatV = true ∧ L2.inV v xs = b) ∨ ∃ (c : Nat) (z : Str), v = .str ⟨#[c]⟩ ∧ u = .str z ∧ decide (c ∈ z.cps.toList) = b := by
    intro x y v u b H r h E e p q
    unfold Rm.inV at e
    split at e
    · unfold inS at e
      split at e
      · split at e
        · rename_i c z k hk
          cases e
          simp only [Rep] at p q
          refine .inr ⟨k, _, ?_, q, rfl⟩
          rw [p]
          congr 1
          have : c.cps = #[k] := by rw [← Array.toArray_toList (xs := c.cps), hk]
          cases c
          simp_all
        · cases e
      · cases e
    left
    obtain ⟨ys, e1, e⟩ := Option.bind_eq_some_iff.mp e
    split at e
    · rename_i hf
      simp only [Bool.and_eq_true] at hf
      cases e
      obtain ⟨a, vs, rfl, hs, q1⟩ := seq_ok E e1 q
      obtain ⟨k1, k2⟩ := flats_rep hf.1 p hf.2 q1
      exact ⟨a, vs, rfl, hs, (flat_rep hf.1 p).1, k1, k2⟩
    · cases e
  cases o <;> cases op <;> first | (exact absurd hb (by decide)) | skip
  · exact OpR.imp (op_eqD hu) fun v u H Q q => by
      obtain ⟨r, h, x, y, b, E, rx, ry, e, q⟩ := q
      obtain ⟨d, f, h1, h2, h3, h4, h5⟩ := eqM_ok E e rx ry
      exact ⟨d, f, h1, h2, h3, h4, by rw [h5]; exact q⟩
  · exact OpR.imp (op_neD hu) fun v u H Q q => by
      obtain ⟨r, h, x, y, b, E, rx, ry, e, q⟩ := q
      obtain ⟨c, e1, e2⟩ := Option.map_eq_some_iff.mp e
      obtain ⟨d, f, h1, h2, h3, h4, h5⟩ := eqM_ok E e1 rx ry
      exact ⟨d, f, h1, h2, h3, h4, by rw [h5, e2]; exact q⟩
  · exact int_cmp op_lt
  · exact int_cmp op_le
  · exact int_cmp op_gt
  · exact int_cmp op_ge
  · exact OpR.imp op_isN fun v u H Q q => by
      obtain ⟨r, h, x, y, b, E, rx, ry, e, q⟩ := q
      obtain ⟨h1, h2⟩ := isn (g := fun b => b) e rx ry
      exact ⟨h1, by rw [h2]; exact q⟩
  · exact OpR.imp op_notN fun v u H Q q => by
      obtain ⟨r, h, x, y, b, E, rx, ry, e, q⟩ := q
      obtain ⟨h1, h2⟩ := isn (g := fun b => !b) e rx ry
      exact ⟨h1, by rw [h2]; exact q⟩
  · exact OpR.imp (L2.OpR.or op_in_seq op_in_sign) fun v u H Q q => by
      obtain ⟨r, h, x, y, b, E, rx, ry, e, q⟩ := q
      rcases ins E e rx ry with ⟨p, xs, h1, h2, h3, h4, h5⟩ | ⟨c, z, h1, h2, h3⟩
      · exact .inl ⟨p, xs, h1, h2, h3, h4, by rw [if_neg Bool.false_ne_true, h5]; exact q⟩
      · exact .inr ⟨c, z, h1, h2, by rw [h3]; exact q⟩
  · exact OpR.imp (L2.OpR.or op_notIn_seq op_notIn_sign) fun v u H Q q => by
      obtain ⟨r, h, x, y, b, E, rx, ry, e, q⟩ := q
      obtain ⟨c, e1, e2⟩ := Option.map_eq_some_iff.mp e
      rcases ins E e1 rx ry with ⟨p, xs, h1, h2, h3, h4, h5⟩ | ⟨k, z, h1, h2, h3⟩
      · exact .inl ⟨p, xs, h1, h2, h3, h4, by rw [if_pos rfl, h5, e2]; exact q⟩
      · exact .inr ⟨k, z, h1, h2, by rw [h3, e2]; exact q⟩

/-! ### items and slices -/
theorem IxR.imp {r r' : R2} (h : IxR X r) (i : ∀ x y H Q, r' x y H Q → r x y H Q) : IxR X r' := fun value slice pins s σ H x y v u Q I rx ry q hs => h value slice pins s σ H x y v u Q I rx ry (i _ _ _ _ q) hs
theorem IxR.or {r r' : R2} (h : IxR X r) (h' : IxR X r') : IxR X (fun x y H Q => r x y H Q ∨ r' x y H Q) := fun value slice pins s σ H x y v u Q I rx ry q hs => by
  rcases q with q | q
  · exact h value slice pins s σ H x y v u Q I rx ry q hs
  · exact h' value slice pins s σ H x y v u Q I rx ry q hs
theorem ix_ok : IxR X (rV2 X.K cA cF idxV) :=
  IxR.imp (IxR.or ix_tup (IxR.or ix_list ix_str)) fun v u H Q q => by
    obtain ⟨r, h, x, y, z, E, rx, ry, e, q⟩ := q
    unfold idxV at e
    split at e
    · simp only [Rep] at rx ry
      obtain ⟨a, vs, e1, ⟨_, h1⟩, h2⟩ := rx
      obtain ⟨w, h3, h4⟩ := h2.atI e
      exact .inl ⟨a, vs, _, w, e1, ry, SqT.of h1, h3, q _ _ _ Ext.refl E h4⟩
    · split at e
      · rename_i hz
        obtain ⟨c, e1, e2⟩ := Option.map_eq_some_iff.mp e
        subst e2
        simp only [Rep] at rx ry
        exact .inr (.inr ⟨_, _, c, rx, ry, by rw [← sz_eq]; exact hz, e1, q _ _ _ Ext.refl E rep_str⟩)
      · cases e
    · obtain ⟨xs, e1, e⟩ := Option.bind_eq_some_iff.mp e
      obtain ⟨a, vs, e2, l1, q1⟩ := getL_ok E e1 rx
      simp only [Rep] at ry
      obtain ⟨w, h3, h4⟩ := q1.atI e
      exact .inr (.inl ⟨a, vs, _, w, e2, ry, sq_of l1, h3, q _ _ _ Ext.refl E h4⟩)
    · cases e

/-! ### built-ins -/
def rBi (K : PySem.W.Frag) (cA : Nat → Addr) (cF : Nat → List Str) (g : HP → List MV → Option MV) : List V → Hp → VK → Prop := fun vs H Q =>
  ∃ r h xs z, Emb K cA cF H r h ∧ Reps K cA cF H r xs vs ∧ g h xs = some z ∧ ∀ r' H' V, Ext r H r' H' → Emb K cA cF H' r' h → Rep K cA cF H' r' z V → Q V H'
theorem CallR.imp {f : Value} {r r' : List V → Hp → VK → Prop} (h : CallR X f r) (i : ∀ xs H Q, r' xs H Q → r xs H Q) : CallR X f r' := fun pins s σ H xs us Q I rv q => h pins s σ H xs us Q I rv (i _ _ _ q)
theorem reps1 {K : PySem.W.Frag} {H : Hp} {r : List Addr} {x : MV} {vs : List V} (p : Reps K cA cF H r [x] vs) : ∃ v, vs = [v] ∧ Rep K cA cF H r x v := by
  simp only [Reps] at p
  obtain ⟨w, ws, e1, h1, h2⟩ := p
  subst h2
  exact ⟨w, e1, h1⟩
theorem reps2 {K : PySem.W.Frag} {H : Hp} {r : List Addr} {x y : MV} {vs : List V} (p : Reps K cA cF H r [x, y] vs) : ∃ v u, vs = [v, u] ∧ Rep K cA cF H r x v ∧ Rep K cA cF H r y u := by
  simp only [Reps] at p
  obtain ⟨w, ws, e1, h1, u, us, e2, h2, h3⟩ := p
  subst h3 e2
  exact ⟨w, u, e1, h1, h2⟩
def biVal : Bi → Value
  | .len => .builtin "len" | .dvm => .builtin "divmod" | .abs => .builtin "abs" | .max2 => .builtin "max" | .min2 => .builtin "min"
  | .int1 => .type "int" | .str1 => .type "str" | .list1 => .type "list" | .sum1 => .builtin "sum" | .all1 => .builtin "all" | .max1 => .builtin "max"
theorem intsOf_ok : ∀ (xs : List MV) (is : List Int), intsOf xs = some is → xs = is.map .int
  | [], is, e => by simp only [intsOf, Option.some.injEq] at e; subst e; rfl
  | .int i :: xs, is, e => by
    simp only [intsOf] at e
    obtain ⟨js, e1, e2⟩ := Option.map_eq_some_iff.mp e
    subst e2
    rw [intsOf_ok xs js e1]; rfl
  | .non :: xs, is, e => by simp only [intsOf] at e; cases e
  | .bl b :: xs, is, e => by simp only [intsOf] at e; cases e
  | .str b :: xs, is, e => by simp only [intsOf] at e; cases e
  | .tup b :: xs, is, e => by simp only [intsOf] at e; cases e
  | .lst b :: xs, is, e => by simp only [intsOf] at e; cases e
  | .ref b :: xs, is, e => by simp only [intsOf] at e; cases e
  | .obj b c :: xs, is, e => by simp only [intsOf] at e; cases e
  | .exc b c :: xs, is, e => by simp only [intsOf] at e; cases e
theorem blsOf_ok : ∀ (xs : List MV) (is : List Bool), blsOf xs = some is → xs = is.map .bl
  | [], is, e => by simp only [blsOf, Option.some.injEq] at e; subst e; rfl
  | .bl i :: xs, is, e => by
    simp only [blsOf] at e
    obtain ⟨js, e1, e2⟩ := Option.map_eq_some_iff.mp e
    subst e2
    rw [blsOf_ok xs js e1]; rfl
  | .non :: xs, is, e => by simp only [blsOf] at e; cases e
  | .int b :: xs, is, e => by simp only [blsOf] at e; cases e
  | .str b :: xs, is, e => by simp only [blsOf] at e; cases e
  | .tup b :: xs, is, e => by simp only [blsOf] at e; cases e
  | .lst b :: xs, is, e => by simp only [blsOf] at e; cases e
  | .ref b :: xs, is, e => by simp only [blsOf] at e; cases e
  | .obj b c :: xs, is, e => by simp only [blsOf] at e; cases e
  | .exc b c :: xs, is, e => by simp only [blsOf] at e; cases e
theorem reps_ints {K : PySem.W.Frag} {H : Hp} {r : List Addr} : ∀ (is : List Int) (vs : List V), Reps K cA cF H r (is.map .int) vs → vs = is.map V.int
  | [], vs, p => by simpa only [List.map_nil, Reps] using p
  | i :: is, vs, p => by
    simp only [List.map_cons, Reps, Rep] at p
    obtain ⟨v, ws, rfl, rfl, p⟩ := p
    rw [reps_ints is ws p]; rfl
theorem reps_bls {K : PySem.W.Frag} {H : Hp} {r : List Addr} : ∀ (is : List Bool) (vs : List V), Reps K cA cF H r (is.map .bl) vs → vs = is.map V.bl
  | [], vs, p => by simpa only [List.map_nil, Reps] using p
  | i :: is, vs, p => by
    simp only [List.map_cons, Reps, Rep] at p
    obtain ⟨v, ws, rfl, rfl, p⟩ := p
    rw [reps_bls is ws p]; rfl
theorem mxL_ok : ∀ (is : List Int) (m : Int), (mxL m is = m ∨ mxL m is ∈ is) ∧ m ≤ mxL m is ∧ ∀ y ∈ is, y ≤ mxL m is
  | [], m => ⟨.inl rfl, Int.le_refl _, fun y hy => by cases hy⟩
  | i :: is, m => by
    obtain ⟨a, b, c⟩ := mxL_ok is (if m < i then i else m)
    have e : mxL m (i :: is) = mxL (if m < i then i else m) is := rfl
    rw [e]
    refine ⟨?_, ?_, fun y hy => ?_⟩
    · rcases a with a | a
      · rw [a]; split
        · exact .inr (List.mem_cons_self ..)
        · exact .inl rfl
      · exact .inr (List.mem_cons_of_mem _ a)
    · split at b <;> split <;> omega
    · rcases List.mem_cons.mp hy with z | z
      · subst z; split at b <;> split <;> omega
      · exact c y z
/-- min(xs, default=d), ints -/
def rMnd (K : PySem.W.Frag) : List V → List V → Hp → VK → Prop := fun vs zs H Q => ∃ (a : Addr) (ns : List Int) (d : V), vs = [.ref a] ∧ zs = [d] ∧ SqL K H a (ns.map V.int) ∧ Q (match ns with | [] => d | i :: is => .int (mnL i is)) H
theorem cr_mnd (hc : X.calm = true) (hu : X.A.units + 64 < cLine) : CallRK X (.builtin "min") [Str.ofString "default"] (rMnd X.K) := by
  intro pins s σ H vs zs us ws Q I r rz h
  obtain ⟨a, ns, d, rfl, rfl, hs, q⟩ := h
  obtain ⟨its, rv, hl, _⟩ := I.list hs
  rw [Vals.ref1 r]
  obtain ⟨w1, rfl, e1⟩ := vals1 rz
  refine PySem.W.min_list_datum_default (α := Int) (vs := its.toArray) (xs := ns) (I.ok.hd hc) hl.isList (PySem.W.HoldAll.of_ints (by simpa using rv.ints)) (by show X.A.units + 1 + 0 < cLine; omega) (fun e h' tk hk => ?_) (fun y ys i v h' tk e hi hv hk => ?_)
  · subst e
    exact ⟨d, H, I.kept hk, e1, q⟩
  · subst e
    obtain ⟨as, rd⟩ := hv
    have rd : Reads h' v (.int (mnL y ys)) as := by
      have e : PySem.W.minOf y ys = mnL y ys := by
        unfold PySem.W.minOf mnL
        congr 1
        funext a b
        show (if decide (b < a) = true then b else a) = _
        simp only [decide_eq_true_eq]
      rw [e] at rd; exact rd
    cases rd
    exact ⟨.int _, H, I.kept hk, ⟨_, rfl⟩, q⟩
theorem strsOf_ok : ∀ (xs : List MV) (is : List Str), strsOf xs = some is → xs = is.map .str
  | [], is, e => by simp only [strsOf, Option.some.injEq] at e; subst e; rfl
  | x :: xs, is, e => by
    cases x <;> first
      | (simp only [strsOf] at e; cases e; done)
      | skip
    simp only [strsOf] at e
    obtain ⟨js, e1, e2⟩ := Option.map_eq_some_iff.mp e
    subst e2
    rw [strsOf_ok xs js e1]; rfl
theorem reps_strs {K : PySem.W.Frag} {H : Hp} {r : List Addr} : ∀ (is : List Str) (vs : List V), Reps K cA cF H r (is.map .str) vs → vs = is.map V.str
  | [], vs, p => by simp only [List.map_nil, Reps] at p; exact p
  | i :: is, vs, p => by
    simp only [List.map_cons, Reps] at p
    obtain ⟨v, ws, rfl, h1, h2⟩ := p
    simp only [Rep] at h1
    rw [h1, reps_strs is ws h2]; rfl
theorem strs_reps {K : PySem.W.Frag} {H : Hp} {r : List Addr} : ∀ (is : List Str), Reps K cA cF H r (is.map .str) (is.map V.str)
  | [] => by simp only [List.map_nil, Reps]
  | i :: is => by
    simp only [List.map_cons, Reps]
    exact ⟨_, _, rfl, rep_str, strs_reps is⟩
theorem bi_ok (hc : X.calm = true) (b : Bi) : CallR X (biVal b) (rBi X.K cA cF fun h => biV h b) := by
  cases b with
  | len =>
    refine CallR.imp (L2.CallR.or call_len_seq call_len_str) fun vs H Q q => ?_
    obtain ⟨r, h, xs, z, E, p, e, q⟩ := q
    obtain ⟨x, e1, e2⟩ := b1_some e
    clear e
    subst e1
    obtain ⟨v, rfl, p1⟩ := reps1 p
    cases e3 : seqOf h x with
    | some ys =>
      rw [e3] at e2
      simp only [Option.map_some, Option.some_or, Option.some.injEq] at e2
      subst e2
      obtain ⟨a, us, rfl, h1, h2⟩ := seq_ok E e3 p1
      exact .inl ⟨a, us, rfl, h1, q _ _ _ Ext.refl E (by rw [h2.length]; exact rep_int)⟩
    | none =>
      rw [e3] at e2
      simp only [Option.map_none, Option.none_or] at e2
      unfold lenS at e2
      split at e2
      · split at e2
        · rename_i hz
          cases e2
          simp only [Rep] at p1
          subst p1
          exact .inr ⟨_, rfl, by rw [← sz_eq]; exact hz, q _ _ _ Ext.refl E rep_int⟩
        · cases e2
      · cases e2
  | dvm =>
    refine CallR.imp (r := fun xs H Q => ∃ i j, xs = [.int i, .int j] ∧ dvB i j = true ∧ ∀ p, H p = none → Q (.ref p) (upd H p (.tup [.int (i / j), .int (i % j)]))) ?_ fun vs H Q q => ?_
    · intro pins s σ H xs us Q I r h
      obtain ⟨i, j, rfl, hc, q⟩ := h
      obtain ⟨h1, h2⟩ := dvB_ok hc
      exact call_divmodW pins s σ H _ us Q I r ⟨i, j, rfl, ⟨h1, h2⟩, q⟩
    · obtain ⟨r, h, xs, z, E, p, e, q⟩ := q
      obtain ⟨x, y, e1, e2⟩ := b2_some e
      obtain ⟨i, j, e3, e4, e5⟩ := int2_some e2
      clear e e2
      subst e1 e3 e4
      obtain ⟨v, u, rfl, p1, p2⟩ := reps2 p
      split at e5
      · rename_i hd
        cases e5
        simp only [Rep] at p1 p2
        subst p1 p2
        refine ⟨i, j, rfl, hd, fun p hp => ?_⟩
        obtain ⟨x1, x2, x3⟩ := new_tup (cA := cA) (cF := cF) (xs := [.int (i / j), .int (i % j)]) (vs := [.int (i / j), .int (i % j)]) E hp (by simp only [Reps]; exact ⟨_, _, rfl, rep_int, _, _, rfl, rep_int, rfl⟩)
        exact q _ _ _ x1 x2 x3
      · cases e5
  | abs =>
    refine CallR.imp call_abs fun vs H Q q => ?_
    obtain ⟨r, h, xs, z, E, p, e, q⟩ := q
    obtain ⟨x, e1, e2⟩ := b1_some e
    obtain ⟨i, e3, e4⟩ := int1_some e2
    clear e e2
    cases e4
    subst e1 e3
    obtain ⟨v, rfl, p1⟩ := reps1 p
    simp only [Rep] at p1
    subst p1
    exact ⟨i, rfl, q _ _ _ Ext.refl E rep_int⟩
  | max2 =>
    refine CallR.imp (call_max2 hc) fun vs H Q q => ?_
    obtain ⟨r, h, xs, z, E, p, e, q⟩ := q
    obtain ⟨x, y, e1, e2⟩ := b2_some e
    obtain ⟨i, j, e3, e4, e5⟩ := int2_some e2
    clear e e2
    cases e5
    subst e1 e3 e4
    obtain ⟨v, u, rfl, p1, p2⟩ := reps2 p
    simp only [Rep] at p1 p2
    subst p1 p2
    exact ⟨i, j, rfl, q _ _ _ Ext.refl E rep_int⟩
  | min2 =>
    refine CallR.imp (call_min2 hc) fun vs H Q q => ?_
    obtain ⟨r, h, xs, z, E, p, e, q⟩ := q
    obtain ⟨x, y, e1, e2⟩ := b2_some e
    obtain ⟨i, j, e3, e4, e5⟩ := int2_some e2
    clear e e2
    cases e5
    subst e1 e3 e4
    obtain ⟨v, u, rfl, p1, p2⟩ := reps2 p
    simp only [Rep] at p1 p2
    subst p1 p2
    exact ⟨i, j, rfl, q _ _ _ Ext.refl E rep_int⟩
  | int1 =>
    refine CallR.imp (L2.CallR.or call_int1 call_int_str) fun vs H Q q => ?_
    obtain ⟨r, h, xs, z, E, p, e, q⟩ := q
    obtain ⟨x, e1, e2⟩ := b1_some e
    clear e
    subst e1
    obtain ⟨v, rfl, p1⟩ := reps1 p
    unfold toI at e2
    split at e2
    · cases e2
      simp only [Rep] at p1
      subst p1
      exact .inl (.inl ⟨_, rfl, q _ _ _ Ext.refl E rep_int⟩)
    · split at e2
      · rename_i hz
        obtain ⟨n, e3, e4⟩ := Option.map_eq_some_iff.mp e2
        subst e4
        simp only [Rep] at p1
        subst p1
        exact .inr ⟨_, n, rfl, e3, hz, q _ _ _ Ext.refl E rep_int⟩
      · cases e2
    · cases e2
      simp only [Rep] at p1
      subst p1
      exact .inl (.inr ⟨_, rfl, q _ _ _ Ext.refl E rep_int⟩)
    · cases e2
  | str1 =>
    refine CallR.imp call_str_int fun vs H Q q => ?_
    obtain ⟨r, h, xs, z, E, p, e, q⟩ := q
    obtain ⟨x, e1, e2⟩ := b1_some e
    clear e
    subst e1
    obtain ⟨v, rfl, p1⟩ := reps1 p
    unfold strI at e2
    split at e2
    · split at e2
      · rename_i hz
        cases e2
        simp only [Rep] at p1
        subst p1
        exact ⟨_, rfl, hz, q _ _ _ Ext.refl E rep_str⟩
      · cases e2
    · cases e2
  | list1 =>
    refine CallR.imp call_list_of fun vs H Q q => ?_
    obtain ⟨r, h, xs, z, E, p, e, q⟩ := q
    obtain ⟨x, e1, e2⟩ := b1_some e
    obtain ⟨ys, e3, e4⟩ := Option.map_eq_some_iff.mp e2
    clear e
    subst e1 e4
    obtain ⟨v, rfl, p1⟩ := reps1 p
    obtain ⟨a, us, rfl, h1, h2⟩ := seq_ok E e3 p1
    refine ⟨a, us, rfl, h1, fun l hl => ?_⟩
    obtain ⟨x1, x2, x3⟩ := new_lst E hl h2
    exact q _ _ _ x1 x2 x3
  | sum1 =>
    refine CallR.imp (cr_sum hc) fun vs H Q q => ?_
    obtain ⟨r, h, xs, z, E, p, e, q⟩ := q
    obtain ⟨x, e1, e2⟩ := b1_some e
    obtain ⟨ys, e3, e4⟩ := Option.bind_eq_some_iff.mp e2
    obtain ⟨is, e5, e6⟩ := Option.map_eq_some_iff.mp e4
    clear e
    subst e1 e6
    obtain ⟨v, rfl, p1⟩ := reps1 p
    obtain ⟨a, us, rfl, l1, q1⟩ := getL_ok E e3 p1
    rw [intsOf_ok _ _ e5] at q1
    have := reps_ints _ _ q1
    subst this
    exact ⟨a, is, rfl, sq_of l1, q _ _ _ Ext.refl E rep_int⟩
  | all1 =>
    refine CallR.imp (cr_all hc) fun vs H Q q => ?_
    obtain ⟨r, h, xs, z, E, p, e, q⟩ := q
    obtain ⟨x, e1, e2⟩ := b1_some e
    obtain ⟨ys, e3, e4⟩ := Option.bind_eq_some_iff.mp e2
    obtain ⟨is, e5, e6⟩ := Option.map_eq_some_iff.mp e4
    clear e
    subst e1 e6
    obtain ⟨v, rfl, p1⟩ := reps1 p
    obtain ⟨a, us, rfl, l1, q1⟩ := getL_ok E e3 p1
    rw [blsOf_ok _ _ e5] at q1
    have := reps_bls _ _ q1
    subst this
    exact ⟨a, is, rfl, sq_of l1, q _ _ _ Ext.refl E rep_bl⟩
  | max1 =>
    refine CallR.imp (cr_max hc) fun vs H Q q => ?_
    obtain ⟨r, h, xs, z, E, p, e, q⟩ := q
    obtain ⟨x, e1, e2⟩ := b1_some e
    obtain ⟨ys, e3, e4⟩ := Option.bind_eq_some_iff.mp e2
    obtain ⟨is, e5, e6⟩ := Option.bind_eq_some_iff.mp e4
    clear e
    cases is with
    | nil => cases e6
    | cons i is =>
      simp only [mxV, Option.some.injEq] at e6
      subst e1 e6
      obtain ⟨v, rfl, p1⟩ := reps1 p
      obtain ⟨a, us, rfl, l1, q1⟩ := getL_ok E e3 p1
      rw [intsOf_ok _ _ e5] at q1
      have := reps_ints _ _ q1
      subst this
      refine ⟨a, i :: is, rfl, sq_of l1, by simp, fun m hm hx => ?_⟩
      obtain ⟨k1, k2, k3⟩ := mxL_ok is i
      have em : m = mxL i is := by
        have a1 : mxL i is ≤ m := by
          rcases k1 with k | k
          · rw [k]; exact hx _ (List.mem_cons_self ..)
          · exact hx _ (List.mem_cons_of_mem _ k)
        have a2 : m ≤ mxL i is := by
          rcases List.mem_cons.mp hm with k | k
          · rw [k]; exact k2
          · exact k3 _ k
        omega
      rw [em]
      exact q _ _ _ Ext.refl E rep_int

/-! ### types asked -/
def rTy (K : PySem.W.Frag) (cA : Nat → Addr) (cF : Nat → List Str) (g : HP → MV → Option Bool) (c : V) : List V → Hp → VK → Prop := fun vs H Q =>
  ∃ r h x v b, Emb K cA cF H r h ∧ vs = [v, c] ∧ Rep K cA cF H r x v ∧ g h x = some b ∧ Q (.bl b) H
/-- what the classes of exceptions say -/
structure ExF (K : PySem.W.Frag) (cA : Nat → Addr) (T : Tab) : Prop where
  exc : ∀ c, T.exc c = true → ExcC K (cA c)
  ve : ∀ c, T.exc c = true → PySem.W.kitOne K (.ref (cA c)) (.type "ValueError") = some (T.ve c)
  sub : ∀ c d, T.exc c = true → T.exc d = true → PySem.W.kitOne K (.ref (cA c)) (.ref (cA d)) = some (T.sub c d)
  osub : ∀ c d, T.obj c = true → T.obj d = true → PySem.W.kitOne K (.ref (cA c)) (.ref (cA d)) = some (T.sub c d)
  oi : ∀ c, T.obj c = true → PySem.W.findIn K (.ref (cA c)) "__class__" = some (some (.builtin "object.__class__")) ∧ PySem.W.specialIn K (.builtin "object.__class__") "__get__" = some (some (.builtin "getset_descriptor.__get__")) ∧ PySem.W.takesIn K (.builtin "object.__class__") = some true ∧ PySem.W.mroIn K (cA c) (.type "object") = some true
  non : ∀ d, T.exc d = true → PySem.W.kitOne K (.type "NoneType") (.ref (cA d)) = some false
  em : ∀ c d, T.exc c = true → T.exc d = true → PySem.W.exmOne K (.ref (cA c)) (.ref (cA d)) = some (T.sub c d)
  rz : ∀ c, T.rz c = true → PySem.W.excIn K (cA c) [.type "ValueError", .type "Exception", .type "BaseException", .type "object"] "ValueError.__new__" = true ∧ PySem.W.subIn K (.ref (cA c)) (.type "BaseException") = some true ∧ PySem.W.typeIn K (.ref (cA c)) = some (.type "type")
theorem call_exc {D a : Addr} {cv : Value} {c : V} {b : Bool} (C : ExcC X.K D) (hcv : ∀ u, RelV c u → u = cv) (e : PySem.W.kitOne X.K (.ref D) cv = some b) {pins : List (Addr × Obj)} {s : Shared} {σ : L2.St} {H : Hp} {us : List Value} {Q : VK}
    (I : L2.Inv X pins σ H s) (hH : H a = some (ExcV D a)) (rv : Vals [.ref a, c] us) (q : Q (.bl b) H) : wpAny (model X.prog X.w) X.A (call (.builtin "isinstance") us) (EP X pins σ Q) X.xe s := by
  cases rv with
  | cons rx rr =>
    cases rr with
    | cons rt rr =>
      cases rr
      cases rx
      have ec := hcv _ rt
      subst ec
      have x := I.hok a _ hH
      obtain ⟨⟨oe, vs, hget, hz, hv⟩, _, _⟩ := x
      have J : PySem.W.InstAt s.heap a oe D none := by
        obtain ⟨oc, od, oda, osl⟩ := oe
        obtain ⟨h1, h2⟩ := hz
        dsimp only at h1 h2 hv
        subst h1 h2 hv
        exact ⟨hget, rfl, rfl, trivial⟩
      exact PySem.W.kia_one (PySem.W.handS_kitx_exc C.hg C.hk C.hs C.hd C.ha C.hn C.ht C.hm) I.kIn J e (fun z => nomatch z) fun tk => ⟨.bl b, H, I.kept (t' := tk) fun _ _ z => z, rfl, q⟩
theorem kit_tys {K : PySem.W.Frag} {t n : String} (ht : t ∈ "NoneType" :: tyNs) (hn : n ∈ tyNs) : PySem.W.kitOne K (.type t) (.type n) = some (n == t || (n == "int" && t == "bool")) := by
  simp only [tyNs, List.mem_cons, List.not_mem_nil, or_false] at ht hn
  rcases ht with rfl | rfl | rfl | rfl | rfl | rfl <;> rcases hn with rfl | rfl | rfl | rfl | rfl <;> exact kit_ty (by decide +kernel)
theorem FzL.ty {K : PySem.W.Frag} {H : Hp} {r : List Addr} {a : Addr} {vs : List V} (h : FzL K H r a vs) : TyX K H (.ref a) (.type "list") := by
  rcases h with ⟨_, h | ⟨o, h⟩⟩ | ⟨its, n, h, _⟩
  · exact .base (.lst h)
  · exact .base (.frz h)
  · exact .kList h rfl
/-- isinstance(x, n), n a built-in type -/
theorem isT_ok {T : Tab} (F : ExF X.K cA T) (n : String) : CallR X (.builtin "isinstance") (rTy X.K cA cF (fun h x => isTV T h x n) (.ty n)) := by
  intro pins s σ H us ws Q I rv q
  obtain ⟨r, h, x, v, b, E, rfl, p, e, q⟩ := q
  have base : ∀ {t : String}, t ∈ "NoneType" :: tyNs → TyX X.K H v (.type t) → (if n ∈ tyNs then some (n == t || (n == "int" && t == "bool")) else none) = some b → wpAny (model X.prog X.w) X.A (call (.builtin "isinstance") ws) (EP X pins σ Q) X.xe s := by
    intro t ht ty e
    split at e
    · rename_i hn
      cases e
      exact call_isi pins s σ H _ ws Q I rv ⟨v, .ty n, _, _, _, rfl, .ty n, ty, kit_tys ht hn, q⟩
    · cases e
  have go : ∀ {t : String}, t ∈ "NoneType" :: tyNs → TyX X.K H v (.type t) → ∀ {o : Option Bool}, o = some b → o = (if n ∈ tyNs then some (n == t || (n == "int" && t == "bool")) else none) → wpAny (model X.prog X.w) X.A (call (.builtin "isinstance") ws) (EP X pins σ Q) X.xe s :=
    fun ht ty _ e1 e2 => base ht ty (e2.symm.trans e1)
  have side : ∀ {t : String} {c : Bool}, (n ∈ tyNs → c = (n == t || (n == "int" && t == "bool"))) → (if n ∈ tyNs then some c else none) = (if n ∈ tyNs then some (n == t || (n == "int" && t == "bool")) else none) := by
    intro t c hc
    by_cases hn : n ∈ tyNs
    · rw [if_pos hn, if_pos hn, hc hn]
    · rw [if_neg hn, if_neg hn]
  have all : ∀ {t : String} {c : String → Bool}, (∀ m ∈ tyNs, c m = (m == t || (m == "int" && t == "bool"))) → (if n ∈ tyNs then some (c n) else none) = (if n ∈ tyNs then some (n == t || (n == "int" && t == "bool")) else none) := fun hc => side (fun hn => hc n hn)
  cases x with
  | non => simp only [Rep] at p; subst p; exact go (t := "NoneType") (by decide) (.base .non) e (all (c := fun _ => false) (by decide))
  | bl k => simp only [Rep] at p; subst p; exact go (t := "bool") (by decide) (.base (.bl k)) e (all (c := fun n => n == "int" || n == "bool") (by decide))
  | int i => simp only [Rep] at p; subst p; exact go (t := "int") (by decide) (.base (.int i)) e (all (c := fun n => n == "int") (by decide))
  | str i => simp only [Rep] at p; subst p; exact go (t := "str") (by decide) (.base (.str i)) e (all (c := fun n => n == "str") (by decide))
  | tup xs =>
    simp only [Rep] at p
    obtain ⟨a, vs, rfl, ⟨_, h1⟩, h2⟩ := p
    exact go (t := "tuple") (by decide) (.base (.tup h1)) e (all (c := fun n => n == "tuple") (by decide))
  | lst xs =>
    simp only [Rep] at p
    obtain ⟨a, vs, rfl, h1, h2⟩ := p
    exact go (t := "list") (by decide) h1.ty e (all (c := fun n => n == "list") (by decide))
  | ref i =>
    have e0 : isTV T h (.ref i) n = some b := e
    simp only [isTV] at e0
    cases hg : h[i]? with
    | none => rw [hg] at e0; cases e0
    | some o =>
      rw [hg] at e0
      cases o with
      | ins c fs => cases e0
      | lst ys =>
        have g1 : getL h (.ref i) = some ys := by simp only [getL, hg]
        obtain ⟨a, vs, rfl, l1, q1⟩ := getL_ok E g1 p
        have ty : TyX X.K H (.ref a) (.type "list") := l1.elim (fun z => .base (.lst z)) (fun z => z.ty)
        exact go (t := "list") (by decide) ty e0 (all (c := fun n => n == "list") (by decide))
  | obj c xs => simp only [isTV] at e; cases e
  | exc c xs =>
    simp only [Rep] at p
    obtain ⟨a, rfl, ⟨_, h1⟩, h2⟩ := p
    simp only [isTV] at e
    split at e
    · rename_i hc
      simp only [Bool.and_eq_true, decide_eq_true_eq] at hc
      cases e
      obtain ⟨rfl, hc⟩ := hc
      exact call_exc (c := .ty "ValueError") (cv := .type "ValueError") (F.exc c hc) (fun u ru => (show u = Value.type "ValueError" from ru)) (F.ve c hc) I h1 rv q
    · cases e
/-- isinstance(x, C), C an own class of exceptions -/
theorem isC_ok {T : Tab} (F : ExF X.K cA T) (hob : ∀ d, T.obj d = true → Cls X.K (cA d)) (d : Nat) : CallR X (.builtin "isinstance") (rTy X.K cA cF (fun _ x => isCV T x d) (.ref (cA d))) := by
  intro pins s σ H us ws Q I rv q
  obtain ⟨r, h, x, v, b, E, rfl, p, e, q⟩ := q
  replace e : isCV T x d = some b := e
  unfold isCV at e
  split at e
  · split at e
    · rename_i _ _ c xs hc
      simp only [Bool.and_eq_true] at hc
      cases e
      simp only [Rep] at p
      obtain ⟨a, rfl, ⟨_, h1⟩, h2⟩ := p
      exact call_exc (c := .ref (cA d)) (cv := .ref (cA d)) (F.exc c hc.1) (fun u ru => (show u = Value.ref (cA d) from ru)) (F.sub c d hc.1 hc.2) I h1 rv q
    · cases e
  · split at e
    · rename_i _ _ c xs hc
      simp only [Bool.and_eq_true] at hc
      cases e
      simp only [Rep] at p
      obtain ⟨a, dx, vs, rfl, ⟨_, h1⟩, h2⟩ := p
      obtain ⟨i1, i2, i3, i4⟩ := F.oi c hc.1
      exact call_isi pins s σ H _ ws Q I rv ⟨.ref a, .ref (cA d), _, _, _, rfl, .own _, .base (.ins h1 (hob c hc.1) i1 i2 i3 i4), F.osub c d hc.1 hc.2, q⟩
    · cases e
  · split at e
    · rename_i hd
      cases e
      simp only [Rep] at p
      subst p
      exact call_isi pins s σ H _ ws Q I rv ⟨.non, .ref (cA d), _, _, _, rfl, .own _, .base .non, F.non d hd, q⟩
    · cases e
  · cases e

/-! ### a row of classes asked -/
def rTyT (K : PySem.W.Frag) (cA : Nat → Addr) (cF : Nat → List Str) (g : MV → Option Bool) (cs : List V) : List V → Hp → VK → Prop := fun vs H Q =>
  ∃ r h x v tp b, Emb K cA cF H r h ∧ vs = [v, .ref tp] ∧ H tp = some (.tup cs) ∧ Rep K cA cF H r x v ∧ g x = some b ∧ Q (.bl b) H
theorem kitAny_exc {K : PySem.W.Frag} {T : Tab} (F : ExF K cA T) {c : Nat} {xs : List MV} : ∀ {ds : List Nat} {b : Bool}, isCsV T (.exc c xs) ds = some b → (ds ≠ [] → T.exc c = true) ∧ PySem.W.kitAny K (.ref (cA c)) (ds.map fun d => Value.ref (cA d)) = some b
  | [], b, e => by simp only [isCsV, Option.some.injEq] at e; subst e; exact ⟨fun z => absurd rfl z, rfl⟩
  | d :: ds, b, e => by
    simp only [isCsV] at e
    split at e
    · rename_i hc
      simp only [Bool.and_eq_true] at hc
      obtain ⟨b2, e1, e2⟩ := Option.map_eq_some_iff.mp e
      obtain ⟨_, k⟩ := kitAny_exc F e1
      refine ⟨fun _ => hc.1, ?_⟩
      rw [List.map_cons]
      unfold PySem.W.kitAny
      rw [F.sub c d hc.1 hc.2]
      cases q : T.sub c d with
      | true => rw [q] at e2; simp at e2; subst e2; rfl
      | false => rw [q] at e2; simp at e2; subst e2; exact k
    · cases e
theorem kitAny_non {K : PySem.W.Frag} {T : Tab} (F : ExF K cA T) : ∀ {ds : List Nat} {b : Bool}, isCsV T .non ds = some b → PySem.W.kitAny K (.type "NoneType") (ds.map fun d => Value.ref (cA d)) = some b
  | [], b, e => by simp only [isCsV, Option.some.injEq] at e; subst e; rfl
  | d :: ds, b, e => by
    simp only [isCsV] at e
    split at e
    · rename_i hc
      rw [List.map_cons]
      unfold PySem.W.kitAny
      rw [F.non d hc]
      exact kitAny_non F e
    · cases e
theorem vals_cls : ∀ (ds : List Nat), Paired ClsV (ds.map fun d => V.ref (cA d)) (ds.map fun d => Value.ref (cA d))
  | [] => .nil
  | d :: ds => .cons (.own _) (vals_cls ds)
theorem isCs_ok {T : Tab} (F : ExF X.K cA T) (ds : List Nat) (hne : ds ≠ []) : CallR X (.builtin "isinstance") (rTyT X.K cA cF (fun x => isCsV T x ds) (ds.map fun d => V.ref (cA d))) := by
  intro pins s σ H us ws Q I rv q
  obtain ⟨r, h, x, v, tp, b, E, rfl, hT, p, e, q⟩ := q
  replace e : isCsV T x ds = some b := e
  cases x with
  | exc c xs =>
    obtain ⟨hc, k⟩ := kitAny_exc F e
    simp only [Rep] at p
    obtain ⟨a, rfl, ⟨_, h1⟩, h2⟩ := p
    have C := F.exc c (hc hne)
    cases rv with
    | cons rx rr =>
      cases rr with
      | cons rt rr =>
        cases rr
        cases rx
        rename_i u2
        cases (show u2 = Value.ref tp from rt)
        obtain ⟨_, its, rvs, o, g1, g2, n, g3⟩ := (show ObjOk X.prog X.w H s.heap tp (.tup (ds.map fun d => V.ref (cA d))) from I.hok tp _ hT)
        have e3 := ClsV.all (vals_cls ds) rvs
        subst e3
        obtain ⟨oc, od, dt, sl⟩ := o
        simp only at g2 g3
        subst g2 g3
        have x := I.hok a _ h1
        obtain ⟨⟨oe, vs, hget, hz, hv⟩, _, _⟩ := x
        have J : PySem.W.InstAt s.heap a oe (cA c) none := by
          obtain ⟨oc, od, oda, osl⟩ := oe
          obtain ⟨h1, h2⟩ := hz
          dsimp only at h1 h2 hv
          subst h1 h2 hv
          exact ⟨hget, rfl, rfl, trivial⟩
        exact PySem.W.kia_tup (PySem.W.handS_kitx_exc C.hg C.hk C.hs C.hd C.ha C.hn C.ht C.hm) I.kIn J g1 k (fun z => nomatch z) fun tk => ⟨.bl b, H, I.kept (t' := tk) fun _ _ z => z, rfl, q⟩
  | non =>
    simp only [Rep] at p
    subst p
    exact call_isiT pins s σ H _ ws Q I rv ⟨.non, tp, _, _, _, b, rfl, hT, vals_cls ds, .base .non, kitAny_non F e, q⟩
  | _ =>
    cases ds with
    | nil => exact absurd rfl hne
    | cons d ds => simp [isCsV] at e

/-! ### making an instance where __init__ is object's -/
theorem run_make0 {C : Addr} {pins : List (Addr × Obj)} {σ : L2.St} {H : Hp} {s : Shared} {Q : VK} (hm : PySem.W.makesIn X.K C = true) (hi : PySem.W.findIn X.K (.ref C) "__init__" = some (some (.builtin "object.__init__")))
    (I : L2.Inv X pins σ H s) (h : ∀ x dx, H x = none → H dx = none → dx ≠ x → Q (.ref x) (upd (upd H dx (.own x)) x (.ins C dx []))) : wpAny (model X.prog X.w) X.A (call (.ref C) []) (EP X pins σ Q) X.xe s := by
  have hq := h (s.heap.objs.size + 1) s.heap.objs.size (I.hok.fresh (Nat.le_succ _)) (I.hok.fresh (Nat.le_refl _)) (Nat.ne_of_lt (Nat.lt_succ_self _))
  have I2 := L2.Inv.made (C := C) I
  have Y := PySem.W.makes_of (M := model X.prog X.w) I.kIn hm
  obtain ⟨hh, g, d, t, os⟩ := s
  refine wpAny_call (make_map0 (s := ⟨hh, g, d, t, os⟩) I.kIn hm hi (fun self => PySem.W.Looks.of_pure (PySem.W.oi_bind self)) ?_)
  have ob : ((hh.push PySem.W.emptyDict).push (PySem.W.instObj C hh.objs.size)).get? (hh.objs.size + 1) = some (PySem.W.instObj C hh.objs.size) := by
    have := Heap.get?_push_size (hh.push PySem.W.emptyDict) (o := PySem.W.instObj C hh.objs.size) rfl
    rwa [Heap.size_push] at this
  have t1 : PySem.W.Looks (model X.prog X.w) ((hh.push PySem.W.emptyDict).push (PySem.W.instObj C hh.objs.size)) (typeOf (.ref (hh.objs.size + 1))) (.ref C) := (PySem.W.Looks.ld ob).andThen .now
  have t2 : PySem.W.Looks (model X.prog X.w) ((hh.push PySem.W.emptyDict).push (PySem.W.instObj C hh.objs.size)) (isInstance (.ref (hh.objs.size + 1)) (.type "object")) true := t1.andThen (Y.top.keeps fun b o e => Heap.get?_push_of_some _ (Heap.get?_push_of_some _ e))
  refine codeAny_call_builtin PySem.W.oi_plain PySem.W.entry_oi (@PySem.W.check_slot (model X.prog X.w) _ _ _ "object.__init__" "object" "__init__" (.ref (hh.objs.size + 1)) [] [] _ PySem.W.oi_kind PySem.W.oi_split t2 (PySem.W.oi_args (.ref (hh.objs.size + 1))) ?_)
  rw [PySem.W.oi_run]
  exact wpAny_pure (And.intro rfl ⟨V.ref (hh.objs.size + 1), _, I2, rfl, hq⟩)

/-! ### what holds of the program where the text runs -/
structure Fc (P : Program) (w : World) (K : PySem.W.Frag) (mg : Str → Option Value) (base : Heap) (cA : Nat → Addr) (cF : Nat → List Str) (T : Tab) (C : Nat → List MV → HP → R MV) (k : Nat) (c : Ck) : Prop where
  fn : ∀ (f : Nat) x, c.fa f = some (some x) → ∃ a fd ps, FnOk P w K mg base (L2.CX P w) k a fd ps (spR K cA cF C f) ∧ mg x = some (.ref a) ∧ PySem.W.keepIn K (.ref a) = true ∧ Binds K fd ps []
  free : ∀ x ∈ c.free, mg x = none
  gi : ∀ x i, (x, i) ∈ c.gI → ∃ t, mg x = some (.int i t)
  gs : ∀ x i, (x, i) ∈ c.gS → ∃ t, mg x = some (.str i t)
  cl : ∀ (d : Nat) x, c.cnm[d]? = some x → mg x = some (.ref (cA d)) ∧ PySem.W.keepIn K (.ref (cA d)) = true
  ex : ExF K cA T
  fl : cF = T.fld
  ob : ∀ d, T.obj d = true → Cls K (cA d) ∧ ∀ f ∈ T.fld d, NoAttr K (cA d) f
  mt : ∀ d m g, T.obj d = true → T.mth d m = some g → m ∉ T.fld d ∧ ∃ a fd ps, FnOk P w K mg base (L2.CX P w) k a fd ps (spR K cA cF C g) ∧ Meth K (cA d) m a ∧ Binds K fd ps []
  mkI : ∀ d g, T.obj d = true → T.ini d = some g → ∃ a fd ps, FnOk P w K mg base (L2.CX P w) k a fd ps (spR K cA cF C g) ∧ Mk K (cA d) a ∧ Binds K fd ps []
  m0 : ∀ d, T.n0 d = true → PySem.W.makesIn K (cA d) = true ∧ PySem.W.findIn K (.ref (cA d)) "__init__" = some (some (.builtin "object.__init__"))
structure Gd (X : Cx) (c : Ck) (k : Nat) : Prop where
  hN : X.N = c.N
  sc : X.env.scope = c.sc
  rm : Room (k + 1) X.A
  calm : X.calm = true
  nd : X.N.Nodup
  deep : Deep X

theorem vis_of {sc : Scope} {x : Str} (h : visB sc x = true) : Vis sc x := by
  unfold visB at h
  unfold Vis
  split at h
  · exact .inl (by assumption)
  · exact .inr (.inl (by assumption))
  · exact .inr (.inr (by assumption))
  · cases h
theorem gl_of {c : Ck} {k : Nat} (G : Gd X c k) {x : Str} (h : glB c.sc x = true) : Gl X x ∧ (x == ("__debug__" : Str)) = false := by
  unfold glB at h
  simp only [Bool.and_eq_true, decide_eq_true_eq, Bool.not_eq_true'] at h
  refine ⟨?_, h.2⟩
  show X.env.scope.names.lookup x = _
  rw [G.sc]; exact h.1
theorem star_cons {e : Expr} {es : List Expr} {env : Env} (h : noStar e = true) : starEach (e :: es) env = (false, eval e env) :: starEach es env := by
  cases e <;> first | rfl | cases h
theorem star_any {c : Ck} {env : Env} {pos : Pos} : ∀ {es : Es} {xs : List Expr}, ckEs c es xs = true → (backTo pos (starEach xs env)).any (·.1) = false
  | .nil, [], _ => rfl
  | .nil, _ :: _, h => by simp [ckEs] at h
  | .cons a es, [], h => by simp [ckEs] at h
  | .cons a es, x :: xs, h => by
    simp only [ckEs, Bool.and_eq_true] at h
    have ih := star_any (env := env) (pos := pos) h.2
    rw [star_cons h.1.1]
    show (false || (backTo pos (starEach xs env)).any (·.1)) = false
    rw [ih]; rfl
theorem pe_callS0 {CX : CXT} {k : Nat} {f : Addr} {fd : FuncData} {ps : List Str} {sp : Sp} {E : L2.St → XK} {x : Str} {p pos : Pos} (F : FnOk X.prog X.w X.K X.mg X.base CX k f fd ps sp) (hr : Room k X.A) (hg : Gl X x) (hm : X.mg x = some (.ref f)) (hk : PySem.W.keepIn X.K (.ref f) = true) (hb : Binds X.K fd ps []) (hx : ∀ σ, PassesAt CX X σ (E σ))
    (hdb : (x == ("__debug__" : Str)) = false) : PE X (.Call (.Name x p) [] [] pos) (tCallS sp E tNil) := by
  refine ⟨fun pins s σ H Q I h => ?_⟩
  refine wpAny_Call_Name_kw (ld_glob I hg hm ?_ hdb)
  exact PySem.W.callWith_K0 I.kIn hk (run_fnS (us := []) F hr hb (hx σ) I .nil h)
theorem pe_make0N {C : Addr} {x : Str} {p pos : Pos} (hm : PySem.W.makesIn X.K C = true) (hi : PySem.W.findIn X.K (.ref C) "__init__" = some (some (.builtin "object.__init__"))) (hk : PySem.W.keepIn X.K (.ref C) = true)
    (hg : Gl X x) (hmg : X.mg x = some (.ref C)) (hdb : (x == ("__debug__" : Str)) = false) :
    PE X (.Call (.Name x p) [] [] pos) (fun σ H Q => ∀ x dx, H x = none → H dx = none → dx ≠ x → Q (.ref x) (upd (upd H dx (.own x)) x (.ins C dx []))) := by
  refine ⟨fun pins s σ H Q I h => ?_⟩
  refine wpAny_Call_Name_kw (ld_glob I hg hmg ?_ hdb)
  exact PySem.W.callWith_K0 I.kIn hk (run_make0 hm hi I h)
/-- C(..) with its own __init__; what is let out, by the slots -/
def tMakeS (C : Addr) (sp : Sp) (E : L2.St → XK) (t : TA) : TE := fun σ H Q => t σ H fun vs H1 => ∀ x dx, H1 x = none → H1 dx = none → dx ≠ x →
  sp (.ref x :: vs) (upd (upd H1 dx (.own x)) x (.ins C dx [])) (fun v H2 => v = .non ∧ Q (.ref x) H2) (E σ)
section
variable {CX : CXT} {k : Nat} {f C : Addr} {fd : FuncData} {ps : List Str} {sp : Sp} {E : L2.St → XK} {x m : Str} {p pos apos : Pos} {e o : Expr} {es : List Expr} {ta : TE} {t : TA}
theorem run_makeS {pins : List (Addr × Obj)} {σ : L2.St} {H : Hp} {s : Shared} {Q : VK} {us : List Value} {vs : List V} (M : Mk X.K C f) (F : FnOk X.prog X.w X.K X.mg X.base CX k f fd ps sp) (hr : Room (k + 1) X.A) (hb : Binds X.K fd ps [])
    (hx : PassesAt CX X σ (E σ)) (I : L2.Inv X pins σ H s) (r : Vals vs us)
    (h : ∀ x dx, H x = none → H dx = none → dx ≠ x → sp (.ref x :: vs) (upd (upd H dx (.own x)) x (.ins C dx [])) (fun v H2 => v = .non ∧ Q (.ref x) H2) (E σ)) :
    wpAny (model X.prog X.w) X.A (call (.ref C) us) (EP X pins σ Q) X.xe s := by
  have hq := h (s.heap.objs.size + 1) s.heap.objs.size (I.hok.fresh (Nat.le_succ _)) (I.hok.fresh (Nat.le_refl _)) (Nat.ne_of_lt (Nat.lt_succ_self _))
  have I2 := L2.Inv.made (C := C) I
  have r2 : Vals (V.ref (s.heap.objs.size + 1) :: vs) (Value.ref (s.heap.objs.size + 1) :: us) := .cons rfl r
  have hl : (Value.ref (s.heap.objs.size + 1) :: us).length = ps.length := by
    rw [← r2.length]; exact F.len _ _ _ _ hq
  have b := hb { s with heap := (s.heap.push PySem.W.emptyDict).push (PySem.W.instObj C s.heap.objs.size) } (Value.ref (s.heap.objs.size + 1) :: us) I2.kIn (by rw [List.append_nil]; exact hl)
  rw [List.append_nil] at b
  refine wpAny_call (make_map (f := f) I.kIn M.makes M.init (beq_iff_eq.mp M.fn) (codeAny_mono (F.run _ X.stack _ _ ⟨Value.ref (s.heap.objs.size + 1) :: us, []⟩ (Value.ref (s.heap.objs.size + 1) :: us) _ _ (E σ) (hr.make C us [])
    (I2.env0.make C us []) b r2 hq) fun r s' hq' => ?_))
  cases r with
  | error e => exact hx pins _ _ e s' I2 hq'
  | ok fl =>
    cases fl with
    | ret u =>
      obtain ⟨v, H', I3, rv, ev, q3⟩ := I2.after hq'
      subst ev
      exact ⟨rv, ⟨V.ref (s.heap.objs.size + 1), H', I3, rfl, q3⟩⟩
    | next => exact False.elim hq'
    | brk => exact False.elim hq'
    | cont => exact False.elim hq'
theorem pe_makeS (M : Mk X.K C f) (F : FnOk X.prog X.w X.K X.mg X.base CX k f fd ps sp) (hr : Room (k + 1) X.A) (hg : Gl X x) (hm : X.mg x = some (.ref C)) (hb : Binds X.K fd ps []) (hx : ∀ σ, PassesAt CX X σ (E σ))
    (ha : PA X (e :: es) t) (hdb : (x == ("__debug__" : Str)) = false) (he : starEach (e :: es) X.env = (false, eval e X.env) :: starEach es X.env) (hpl : (backTo pos (starEach es X.env)).any (·.1) = false) :
    PE X (.Call (.Name x p) (e :: es) [] pos) (tMakeS C sp E t) := by
  refine ⟨fun pins s σ H Q I h => ?_⟩
  refine wpAny_Call_Name_kw (ld_glob I hg hm ?_ hdb)
  refine PySem.W.callWith_K (h₀ := X.base) I.ok.mod.kin M.kp (thn (ha.run pos pins s σ H _ I h) fun us s1 ⟨vs, H1, I1, r, q⟩ => ⟨I1.kIn, ?_⟩) he hpl
  exact run_makeS M F hr hb (hx σ) I1 r q
theorem pe_makeS0 (M : Mk X.K C f) (F : FnOk X.prog X.w X.K X.mg X.base CX k f fd ps sp) (hr : Room (k + 1) X.A) (hg : Gl X x) (hm : X.mg x = some (.ref C)) (hb : Binds X.K fd ps []) (hx : ∀ σ, PassesAt CX X σ (E σ))
    (hdb : (x == ("__debug__" : Str)) = false) : PE X (.Call (.Name x p) [] [] pos) (tMakeS C sp E tNil) := by
  refine ⟨fun pins s σ H Q I h => ?_⟩
  refine wpAny_Call_Name_kw (ld_glob I hg hm ?_ hdb)
  exact PySem.W.callWith_K0 I.kIn M.kp (run_makeS (us := []) M F hr hb (hx σ) I .nil h)
/-- a method's call, the class by what o is -/
structure MSel (X : Cx) (CX : CXT) (k : Nat) (m : Str) (E : L2.St → XK) (C : Addr) (sp : Sp) : Prop where
  cls : Cls X.K C
  fn : ∃ f fd ps, Meth X.K C m f ∧ FnOk X.prog X.w X.K X.mg X.base CX k f fd ps sp ∧ Binds X.K fd ps []
def tMethS2 (X : Cx) (CX : CXT) (k : Nat) (m : Str) (E : L2.St → XK) (ta : TE) (t : TA) : TE := fun σ H Q => ta σ H fun x H1 => ∃ a C dx fs sp, x = .ref a ∧ H1 a = some (.ins C dx fs) ∧ fs.lookup m = none ∧ MSel X CX k m E C sp ∧
  t σ H1 fun vs H2 => sp (x :: vs) H2 Q (E σ)
theorem pe_methS2 {pl : Sem Bool} (he : PE X o ta) (hr : Room k X.A) (hx : ∀ σ, PassesAt CX X σ (E σ)) (ha : PA X (e :: es) t)
    (hst : starEach (e :: es) X.env = (false, eval e X.env) :: starEach es X.env) (hpl : (backTo pos (starEach es X.env)).any (·.1) = false)
    (ht : eval (.Call (.Attribute o m apos) (e :: es) [] pos) X.env = (do
      let ov ← eval o X.env
      standAt apos.atName
      let (f, first) ← holding [ov] (getMethod ov m pl)
      callWith pos f first (backTo pos (starEach (e :: es) X.env)) (backToKw pos (keywordEach [] X.env)))) :
    PE X (.Call (.Attribute o m apos) (e :: es) [] pos) (tMethS2 X CX k m E ta t) := by
  refine ⟨fun pins s σ H Q I h => ?_⟩
  refine PySem.W.methodCall_KW (pl := pl) (thn (he.run pins s σ H _ I h) fun u s1 ⟨x, H1, I1, rx, a, C, dx, fs, sp, ex, ea, l, M, q⟩ => ?_) ht
  subst ex
  obtain rfl : u = Value.ref a := rx
  obtain ⟨f, fd, ps, hm, F, hb⟩ := M.fn
  refine getmeth_ok I1 ea M.cls hm l ?_
  refine PySem.W.callWith_K (first := [.ref a]) (h₀ := X.base) I.ok.mod.kin hm.kp (thn (ha.run pos pins s1 σ H1 _ I1 q) fun us s2 ⟨vs, H2, I2, r, q2⟩ => ⟨I2.kIn, ?_⟩) hst hpl
  exact run_fnS (us := .ref a :: us) (vs := .ref a :: vs) F hr hb (hx σ) I2 (.cons rfl r) q2
theorem pe_methS20 {pl : Sem Bool} (he : PE X o ta) (hr : Room k X.A) (hx : ∀ σ, PassesAt CX X σ (E σ))
    (ht : eval (.Call (.Attribute o m apos) [] [] pos) X.env = (do
      let ov ← eval o X.env
      standAt apos.atName
      let (f, first) ← holding [ov] (getMethod ov m pl)
      callWith pos f first (backTo pos (starEach [] X.env)) (backToKw pos (keywordEach [] X.env)))) :
    PE X (.Call (.Attribute o m apos) [] [] pos) (tMethS2 X CX k m E ta tNil) := by
  refine ⟨fun pins s σ H Q I h => ?_⟩
  refine PySem.W.methodCall_KW (pl := pl) (thn (he.run pins s σ H _ I h) fun u s1 ⟨x, H1, I1, rx, a, C, dx, fs, sp, ex, ea, l, M, q⟩ => ?_) ht
  subst ex
  obtain rfl : u = Value.ref a := rx
  obtain ⟨f, fd, ps, hm, F, hb⟩ := M.fn
  refine getmeth_ok I1 ea M.cls hm l ?_
  exact PySem.W.callWith_K0 (first := [.ref a]) I1.kIn hm.kp (run_fnS (us := [.ref a]) (vs := [.ref a]) F hr hb (hx σ) I1 (.cons rfl .nil) q)
end
theorem meth_eval {o : Expr} {m : Str} {args : List Expr} {pos apos : Pos} {env : Env} (hb : attributeBase o m env (eval o env) = eval o env)
    (hf : methodCallForm (args.length + ([] : List Keyword).length) (backTo pos (starEach args env)) (backToKw pos (keywordEach [] env)) = true) (hl : (apos.endLine == pos.line) = true) :
    eval (.Call (.Attribute o m apos) args [] pos) env = (do
      let ov ← eval o env
      standAt apos.atName
      let (f, first) ← holding [ov] (getMethod ov m (do return (← importBound o env).getD true))
      callWith pos f first (backTo pos (starEach args env)) (backToKw pos (keywordEach [] env))) := by
  have e : eval (.Call (.Attribute o m apos) args [] pos) env = (do
      let ov ← attributeBase o m env (eval o env)
      standAt apos.atName
      methodCall o m apos pos env ov (args.length + ([] : List Keyword).length) (backTo pos (starEach args env)) (backToKw pos (keywordEach [] env))) := rfl
  rw [e, hb]
  have k : ∀ ov, methodCall o m apos pos env ov (args.length + ([] : List Keyword).length) (backTo pos (starEach args env)) (backToKw pos (keywordEach [] env)) = (do
      let (f, first) ← holding [ov] (getMethod ov m (do return (← importBound o env).getD true))
      callWith pos f first (backTo pos (starEach args env)) (backToKw pos (keywordEach [] env))) := fun ov => by
    unfold methodCall
    rw [hf]
    unfold calleeOf methodCallPos
    rw [hl]
    rfl
  simp only [k]
theorem few_of {env : Env} {pos : Pos} {args : List Expr} (h : (backTo pos (starEach args env)).any (·.1) = false) (hl : args.length < 29) : methodCallForm (args.length + ([] : List Keyword).length) (backTo pos (starEach args env)) (backToKw pos (keywordEach [] env)) = true := by
  have a : (backTo pos (starEach args env)).all (!·.1) = true := by
    rw [List.all_eq_true]
    intro x hx
    have := List.any_eq_false.mp h x hx
    simpa using this
  unfold methodCallForm
  rw [a]
  have b : (backToKw pos (keywordEach [] env)).all (·.1.isSome) = true := rfl
  have c : (backToKw pos (keywordEach [] env)).isEmpty = true := rfl
  rw [b, c]
  simp only [Bool.true_and, if_true, decide_eq_true_eq]
  show args.length + 0 + 0 < 30
  omega
def tCs (cs : List V) : TA := fun _ H Q => Q cs H
end
end Rm

/-! Rm, part E: the theorem for expressions. -/
namespace Rm
open PySem L2 PySem.Spec PyProof.Rows
section
variable {K : PySem.W.Frag} {cA : Nat → Addr} {cF : Nat → List Str} {r r1 : List Addr} {H H1 : Hp} {h : HP} {e : EN} {σ : L2.St}
theorem REn.set {i : Nat} {v : MV} {V : V} (n : REn K cA cF H r e σ) (p : Rep K cA cF H r v V) : REn K cA cF H r (e.set i (some v)) (σ.set i (some V)) := by
  refine ⟨by simp [n.len], fun j u q => ?_⟩
  by_cases hj : i = j
  · subst hj
    by_cases hi : i < e.length
    · rw [List.getElem?_set_self hi] at q
      simp only [Option.some.injEq] at q
      subst q
      exact ⟨V, List.getElem?_set_self (by rw [← n.len]; exact hi), p⟩
    · rw [List.getElem?_eq_none (by simpa using hi)] at q; cases q
  · rw [List.getElem?_set_ne hj] at q
    obtain ⟨U, k1, k2⟩ := n.at_ j u q
    exact ⟨U, by rw [List.getElem?_set_ne hj]; exact k1, k2⟩
theorem REn.unset {i : Nat} {o : Option V} (n : REn K cA cF H r e σ) : REn K cA cF H r (e.set i none) (σ.set i o) := by
  refine ⟨by simp [n.len], fun j u q => ?_⟩
  by_cases hj : i = j
  · subst hj
    by_cases hi : i < e.length
    · rw [List.getElem?_set_self hi] at q; cases q
    · rw [List.getElem?_eq_none (by simpa using hi)] at q; cases q
  · rw [List.getElem?_set_ne hj] at q
    obtain ⟨U, k1, k2⟩ := n.at_ j u q
    exact ⟨U, by rw [List.getElem?_set_ne hj]; exact k1, k2⟩
end
theorem loc_of {sc : Scope} {x : Str} (h : locB sc x = true) : L2.Loc sc x := by
  unfold locB at h
  unfold L2.Loc
  split at h
  · exact .inl (by assumption)
  · exact .inr (by assumption)
  · cases h
theorem set_pl {e : Expr} {env : Env} (h : noSet e = true) : ∀ x, foldedSetIterable e env x = pure x := by
  intro x
  cases e <;> first | rfl | cases h
theorem PGimp {X : Cx} {x : Expr} {t u : TG} (p : PG X x t) (i : ∀ v σ H Q, u v σ H Q → t v σ H Q) : PG X x u := ⟨fun pins s σ H v w Q I rv q => p.run pins s σ H v w Q I rv (i v σ H Q q)⟩
theorem PGsimp {X : Cx} {x : List Expr} {t u : TGs} (p : PGs X x t) (i : ∀ v σ H Q, u v σ H Q → t v σ H Q) : PGs X x u := ⟨fun pins s σ H v w Q I rv q => p.run pins s σ H v w Q I rv (i v σ H Q q)⟩
section
variable {X : Cx} {cA : Nat → Addr} {cF : Nat → List Str} {T : Tab} {C : Nat → List MV → HP → R MV} {k : Nat} {c : Ck} {W : WX}
theorem pe_cst {x : Expr} {v : V} {m : MV} (p : PE X x (tC v)) (hm : ∀ H r, Rep X.K cA cF H r m v) : PE X x (tE X.K cA cF W fun _ h => .ok m h) :=
  PEimp p fun σ H Q q => by
    obtain ⟨r, e, h, E, n, w⟩ := q
    exact w r H v Ext.refl E (hm H r)
theorem bin_use {ea eb : EN → HP → R MV} {rr : R2} {g : HP → MV → MV → R MV} {x : Expr} (p : PE X x (tOp rr (tE X.K cA cF W ea) (tE X.K cA cF W eb)))
    (hr : ∀ r H h va vb A B Q (Y : XK), Emb X.K cA cF H r h → Rep X.K cA cF H r va A → Rep X.K cA cF H r vb B → wpR X.K cA cF r H (g h va vb) Q Y → rr A B H Q) :
    PE X x (tE X.K cA cF W fun e h => (ea e h).bind fun x h => (eb e h).bind fun y h => g h x y) :=
  PEimp p fun σ H Q q => by
    obtain ⟨r, e, h, E, n, w⟩ := q
    refine stepE E n w fun r1 H1 h1 va A x1 E1 n1 p1 w1 => ?_
    refine stepE E1 n1 w1 fun r2 H2 h2 vb B x2 E2 n2 p2 w2 => ?_
    exact hr r2 H2 h2 va vb A B Q _ E2 (Rep.mono x2 _ _ p1) p2 w2
theorem wpR_of {g : HP → MV → MV → Option MV} {r : List Addr} {H : Hp} {h : HP} {va vb : MV} {A B : V} {Q : VK} {Y : XK} (E : Emb X.K cA cF H r h) (p1 : Rep X.K cA cF H r va A) (p2 : Rep X.K cA cF H r vb B)
    (w : wpR X.K cA cF r H (R.of (g h va vb) h) Q Y) : rV2 X.K cA cF g A B H Q := by
  cases e : g h va vb with
  | none => rw [e] at w; exact w.elim
  | some z => rw [e] at w; exact ⟨r, h, va, vb, z, E, p1, p2, e, w⟩
theorem wpR_ofB {g : HP → MV → MV → Option Bool} {r : List Addr} {H : Hp} {h : HP} {va vb : MV} {A B : V} {Q : VK} {Y : XK} (E : Emb X.K cA cF H r h) (p1 : Rep X.K cA cF H r va A) (p2 : Rep X.K cA cF H r vb B)
    (w : wpR X.K cA cF r H (R.of ((g h va vb).map .bl) h) Q Y) : rB2 X.K cA cF g A B H Q := by
  cases e : g h va vb with
  | none => rw [e] at w; exact w.elim
  | some z => rw [e] at w; exact ⟨r, h, va, vb, z, E, p1, p2, e, w r H _ Ext.refl E rep_bl⟩
theorem una_use {ea : EN → HP → R MV} {rr : V → Hp → VK → Prop} {g : HP → MV → R MV} {x : Expr} (p : PE X x (tUn rr (tE X.K cA cF W ea)))
    (hr : ∀ r H h va A Q (Y : XK), Emb X.K cA cF H r h → Rep X.K cA cF H r va A → wpR X.K cA cF r H (g h va) Q Y → rr A H Q) :
    PE X x (tE X.K cA cF W fun e h => (ea e h).bind fun x h => g h x) :=
  PEimp p fun σ H Q q => by
    obtain ⟨r, e, h, E, n, w⟩ := q
    refine stepE E n w fun r1 H1 h1 va A x1 E1 n1 p1 w1 => ?_
    exact hr r1 H1 h1 va A Q _ E1 p1 w1
def tO (K : PySem.W.Frag) (cA : Nat → Addr) (cF : Nat → List Str) (W : WX) (f : EN → HP → R (Option Int)) : TO := fun σ H Q => ∃ r e h, Emb K cA cF H r h ∧ REn K cA cF H r e σ ∧ wpG K cA cF (fun _ _ (x y : Option Int) => x = y) r H (f e h) Q fun cls d H' => W cls d σ H'
theorem POimp {x : Option Expr} {t u : TO} (p : PO X x t) (i : ∀ σ H Q, u σ H Q → t σ H Q) : PO X x u := ⟨fun pins s σ H Q I q => p.run pins s σ H Q I (i σ H Q q)⟩
theorem stepO {α β : Type} {K : PySem.W.Frag} {rel : Hp → List Addr → α → β → Prop} {f : EN → HP → R (Option Int)} {k : Option Int → HP → R α} {Q : β → Hp → Prop} {Q' : Option Int → Hp → Prop} {r : List Addr} {H : Hp} {h : HP} {e : EN} {σ : L2.St}
    (E : Emb K cA cF H r h) (n : REn K cA cF H r e σ) (w : wpG K cA cF rel r H ((f e h).bind k) Q fun cls d H' => W cls d σ H')
    (cont : ∀ r1 H1 h1 x, Ext r H r1 H1 → Emb K cA cF H1 r1 h1 → REn K cA cF H1 r1 e σ → wpG K cA cF rel r1 H1 (k x h1) Q (fun cls d H' => W cls d σ H') → Q' x H1) : tO K cA cF W f σ H Q' := by
  refine ⟨r, e, h, E, n, ?_⟩
  cases q : f e h with
  | ok x h1 =>
    rw [q] at w
    intro r1 H1 V e1 e2 e3
    subst e3
    exact cont r1 H1 h1 x e1 e2 (n.mono e1) (wpG.mono e1 w)
  | exc x h1 => rw [q] at w; exact w
  | bad => rw [q] at w; exact w
theorem plix {f : Expr} (h : plIx f = true) : PlainIx f := by
  intro o i
  cases f <;> first | rfl | cases h

theorem attr_plain {o : Expr} {a : Str} {env : Env} (h : plB o = true) : attributeBase o a env (eval o env) = eval o env := by
  cases o <;> first | rfl | skip
  rename_i f xs ks pos
  cases xs with
  | nil => cases h
  | cons x xs => cases f <;> rfl
/-- a test's wish as a value's -/
theorem tt_wp {K : PySem.W.Frag} {cA : Nat → Addr} {cF : Nat → List Str} {r : List Addr} {H : Hp} {res : R MV} {Q : Bool → Hp → Prop} {Y : XK} (w : match res with
  | .ok (.bl b) h' => ∀ r' H', Ext r H r' H' → Emb K cA cF H' r' h' → Q b H'
  | .exc x h' => ∀ r' H' cls d, Ext r H r' H' → Emb K cA cF H' r' h' → RepX cA x cls d → Y cls d H'
  | _ => False) : wpR K cA cF r H res (fun x H' => ∃ k, x = .bl k ∧ Q k H') Y := by
  cases res with
  | bad => exact w
  | exc x h' => exact w
  | ok v h' =>
    cases v <;> first | exact w.elim | skip
    intro r' H' V e1 e2 e3
    simp only [Rep] at e3
    exact ⟨_, e3, w r' H' e1 e2⟩
theorem plT_ok {e : Expr} {env : Env} (h : plT e = true) : ∀ whole, isTrue e env whole = (do let v ← whole; standAt e.pos; holding [v] (truthy v)) := by
  intro whole
  cases e <;> first | rfl | cases h
theorem fin3 {x : Expr} {f : EN → HP → R MV} (p : PE X x (tE X.K cA cF W f)) (hx : plT x = true) : PE X x (tE X.K cA cF W f) ∧ (tsB x = true → PT X x (tTt X.K cA cF W f)) ∧ (isBO x = true → PW X x (tTt X.K cA cF W f)) := by
  refine ⟨p, fun _ => PTimp (pt_val p (plT_ok hx)) fun σ H Q q => ?_, fun z => ?_⟩
  · obtain ⟨r, e, h, E, n, w⟩ := q
    exact ⟨r, e, h, E, n, tt_wp w⟩
  · cases x <;> first | (cases hx; done) | (cases z; done)
theorem and_l {a b : Bool} (h : (a && b) = true) : a = true := (Bool.and_eq_true_iff.mp h).1
theorem and_r {a b : Bool} (h : (a && b) = true) : b = true := (Bool.and_eq_true_iff.mp h).2
theorem Fc.re {P : Program} {w : World} {K : PySem.W.Frag} {mg : Str → Option Value} {base : Heap} {c' : Ck} (F : Fc P w K mg base cA cF T C k c) (e1 : c'.fnm = c.fnm) (e2 : c'.cnm = c.cnm) (e3 : c'.free = c.free) (e4 : c'.gI = c.gI) (e5 : c'.gS = c.gS) : Fc P w K mg base cA cF T C k c' :=
  ⟨by unfold Ck.fa; rw [e1]; exact F.fn, by rw [e3]; exact F.free, by rw [e4]; exact F.gi, by rw [e5]; exact F.gs, by rw [e2]; exact F.cl, F.ex, F.fl, F.ob, F.mt, F.mkI, F.m0⟩
/-! ### what a for walks -/
structure Lk (K : PySem.W.Frag) (cA : Nat → Addr) (cF : Nat → List Str) (J : It) (src : HP → Option (List MV)) (all : List MV) (P : List Addr → Hp → Prop) : Prop where
  mono : ∀ r H r1 H1, P r H → Ext r H r1 H1 → P r1 H1
  go : ∀ r H h (i : Nat) x, P r H → Emb K cA cF H r h → src h = some all → all[i]? = some x → J.go i H ∧ ∀ V H', J.yld i H V H' → Ext r H r H' ∧ Emb K cA cF H' r h ∧ Rep K cA cF H' r x V
  stop : ∀ r H h, P r H → Emb K cA cF H r h → src h = some all → J.stop all.length H
def tI (K : PySem.W.Frag) (cA : Nat → Addr) (cF : Nat → List Str) (W : WX) (f : EN → HP → R (List MV × (HP → Option (List MV)))) : TI := fun σ H Rr => ∃ r e h, Emb K cA cF H r h ∧ REn K cA cF H r e σ ∧ (match f e h with
  | .ok p h' => ∀ r' H' J P, Ext r H r' H' → Emb K cA cF H' r' h' → P r' H' → Lk K cA cF J p.2 p.1 P → Rr J H'
  | .exc x h' => ∀ r' H' cls d, Ext r H r' H' → Emb K cA cF H' r' h' → RepX cA x cls d → W cls d σ H'
  | .bad => False)
theorem PIimp {X : Cx} {tg x : Expr} {t u : TI} (p : PI X tg x t) (i : ∀ σ H Q, u σ H Q → t σ H Q) : PI X tg x u := ⟨fun pins s σ H Q I q => p.run pins s σ H Q I (i σ H Q q)⟩
theorem pi_seq {tg l : Expr} {tl : TE} (hl : PE X l tl) : PI X tg l (fun σ H Rr => tl σ H fun x H1 => (∃ a, x = .ref a ∧ (((∃ xs, SqL X.K H1 a xs) ∧ Rr (Itl X.K a) H1) ∨ ((∃ xs, SqT X.K H1 a xs) ∧ Rr (Itt X.K a) H1))) ∨ ∃ z, x = .str z ∧ Rr (Its z) H1) := by
  refine ⟨fun pins s σ H Rr I h => ?_⟩
  refine thn (hl.run pins s σ H _ I h) fun v s1 ⟨x, H1, I1, r1, q1⟩ => ?_
  rcases q1 with q1 | ⟨z, ex, q⟩
  rotate_left
  · subst ex
    obtain ⟨t, rfl⟩ := r1
    cases ha : z.cps.all (· < 128)
    · exact wpAny_pyIter_wide ha (pi_one (tk := s1.toks) I1 _ (turn_str _ z t "str_iterator" (.inr rfl)) ⟨_, Heap.get?_push_size _ rfl, rfl, rfl⟩ q)
    · exact wpAny_pyIter_ascii ha (pi_one (tk := s1.toks) I1 _ (turn_str _ z t "str_ascii_iterator" (.inl rfl)) ⟨_, Heap.get?_push_size _ rfl, rfl, rfl⟩ q)
  obtain ⟨a, e, q1⟩ := q1
  subst e
  cases r1
  rcases q1 with ⟨⟨xs, hq⟩, q⟩ | ⟨⟨xs, hq⟩, q⟩
  · obtain ⟨its, rv, p, hz⟩ := I1.list hq
    refine wpAny_pyIter_list p.isList ?_
    refine ⟨s1.heap.objs.size, [s1.heap.objs.size], _, _, H1, rfl, I1.kept (t' := s1.toks) fun b o e => Heap.get?_push_of_some _ e, turn_list a _, ⟨_, Heap.get?_push_size _ rfl, rfl, rfl⟩, fun b hb => ?_, q⟩
    have e : b = s1.heap.objs.size := by simpa using hb
    subst e
    exact I1.fpOk (Nat.le_refl _) (I1.hok.fresh (Nat.le_refl _))
  · obtain ⟨its, rv, p, hz⟩ := I1.tuple hq
    refine wpAny_pyIter_tuple (show s1.heap.IsTuple a its.toArray from p) ?_
    refine ⟨s1.heap.objs.size, [s1.heap.objs.size], _, _, H1, rfl, I1.kept (t' := s1.toks) fun b o e => Heap.get?_push_of_some _ e, turn_tuple a _, ⟨_, Heap.get?_push_size _ rfl, rfl, rfl⟩, fun b hb => ?_, q⟩
    have e : b = s1.heap.objs.size := by simpa using hb
    subst e
    exact I1.fpOk (Nat.le_refl _) (I1.hok.fresh (Nat.le_refl _))
theorem lk_list {a : Addr} {v : MV} {all : List MV} (hv : ∀ h, seqOf h v = getL h v) : Lk X.K cA cF (Itl X.K a) (fun h => seqOf h v) all (fun r H => Rep X.K cA cF H r v (.ref a)) where
  mono := fun r H r1 H1 p x => Rep.mono x _ _ p
  go := fun r H h i x p E e q => by
    rw [hv] at e
    obtain ⟨b, vs, e1, l1, q1⟩ := getL_ok E e p
    cases e1
    obtain ⟨V, k1, k2⟩ := q1.get q
    refine ⟨⟨vs, V, sq_of l1, k1⟩, fun V' H' y => ?_⟩
    obtain ⟨rfl, y⟩ := y
    have := y vs (sq_of l1)
    rw [k1] at this
    cases this
    exact ⟨Ext.refl, E, k2⟩
  stop := fun r H h p E e => by
    rw [hv] at e
    obtain ⟨b, vs, e1, l1, q1⟩ := getL_ok E e p
    cases e1
    exact ⟨vs, sq_of l1, by rw [q1.length]; exact Nat.le_refl _⟩
theorem lk_str {z : Str} : Lk X.K cA cF (Its z) (fun _ => some (signs z)) (signs z) (fun _ _ => True) where
  mono := fun _ _ _ _ _ _ => trivial
  go := fun r H h i x _ E e q => by
    unfold signs at q
    rw [List.getElem?_map] at q
    obtain ⟨c, k1, k2⟩ := Option.map_eq_some_iff.mp q
    subst k2
    rw [Array.getElem?_toList] at k1
    refine ⟨(Array.getElem?_eq_some_iff.mp k1).1, fun V H' y => ?_⟩
    obtain ⟨rfl, c', y1, y2⟩ := y
    rw [k1] at y1
    cases y1
    rw [y2]
    exact ⟨Ext.refl, E, rep_str⟩
  stop := fun r H h _ E e => by
    show z.cps.size ≤ _
    simp [signs]
theorem lk_tup {a : Addr} {all : List MV} : Lk X.K cA cF (Itt X.K a) (fun h => seqOf h (.tup all)) all (fun r H => Rep X.K cA cF H r (.tup all) (.ref a)) where
  mono := fun r H r1 H1 p x => Rep.mono x _ _ p
  go := fun r H h i x p E e q => by
    simp only [Rep] at p
    obtain ⟨b, vs, e1, ⟨_, h1⟩, q1⟩ := p
    cases e1
    obtain ⟨V, k1, k2⟩ := q1.get q
    refine ⟨⟨vs, V, SqT.of h1, k1⟩, fun V' H' y => ?_⟩
    obtain ⟨rfl, y⟩ := y
    have := y vs (SqT.of h1)
    rw [k1] at this
    cases this
    exact ⟨Ext.refl, E, k2⟩
  stop := fun r H h p E e => by
    simp only [Rep] at p
    obtain ⟨b, vs, e1, ⟨_, h1⟩, q1⟩ := p
    cases e1
    exact ⟨vs, SqT.of h1, by rw [q1.length]; exact Nat.le_refl _⟩
theorem lk_rng {lo : Int} {n : Nat} : Lk X.K cA cF (Itr lo n) (fun _ => some ((List.range n).map fun (i : Nat) => MV.int (lo + (i : Int)))) ((List.range n).map fun (i : Nat) => MV.int (lo + (i : Int))) (fun _ _ => True) where
  mono := fun _ _ _ _ _ _ => trivial
  go := fun r H h i x _ E e q => by
    have hi : i < n := by
      have := (List.getElem?_eq_some_iff.mp q).1
      simpa using this
    refine ⟨hi, fun V H' y => ?_⟩
    rw [List.getElem?_map, List.getElem?_range hi] at q
    simp only [Option.map_some, Option.some.injEq] at q
    subst q
    obtain ⟨rfl, y⟩ := y
    rw [y]
    exact ⟨Ext.refl, E, rep_int⟩
  stop := fun r H h _ E e => by
    show n ≤ _
    simp
theorem lk_rg3 {lo c : Int} {n : Nat} : Lk X.K cA cF (Itc lo c n) (fun _ => some ((List.range n).map fun (i : Nat) => MV.int (lo + (i : Int) * c))) ((List.range n).map fun (i : Nat) => MV.int (lo + (i : Int) * c)) (fun _ _ => True) where
  mono := fun _ _ _ _ _ _ => trivial
  go := fun r H h i x _ E e q => by
    have hi : i < n := by
      have := (List.getElem?_eq_some_iff.mp q).1
      simpa using this
    refine ⟨hi, fun V H' y => ?_⟩
    rw [List.getElem?_map, List.getElem?_range hi] at q
    simp only [Option.map_some, Option.some.injEq] at q
    subst q
    obtain ⟨rfl, y⟩ := y
    rw [y]
    exact ⟨Ext.refl, E, rep_int⟩
  stop := fun r H h _ E e => by
    show n ≤ _
    simp
theorem zipM_get {xs ys : List MV} {i : Nat} {z : MV} (h : (zipM xs ys)[i]? = some z) : ∃ x y, xs[i]? = some x ∧ ys[i]? = some y ∧ z = .tup [x, y] := by
  unfold zipM at h
  rw [List.getElem?_zipWith] at h
  split at h
  · rename_i a b h1 h2
    cases h
    exact ⟨a, b, h1, h2, rfl⟩
  · cases h
theorem zipM_len (xs ys : List MV) : (zipM xs ys).length = min xs.length ys.length := by unfold zipM; simp
theorem pair_rep {K : PySem.W.Frag} {H : Hp} {r : List Addr} {x y : MV} {A B : L2.V} (h1 : Rep K cA cF H r x A) (h2 : Rep K cA cF H r y B) : Reps K cA cF H r [x, y] [A, B] := by
  simp only [Reps]
  exact ⟨A, [B], rfl, h1, B, [], rfl, h2, rfl⟩
theorem lk_zip {a b : Addr} {v u : MV} {all : List MV} : Lk X.K cA cF (Itz X.K a b) (zipS v u) all (fun r H => Rep X.K cA cF H r v (.ref a) ∧ Rep X.K cA cF H r u (.ref b)) where
  mono := fun r H r1 H1 p x => ⟨Rep.mono x _ _ p.1, Rep.mono x _ _ p.2⟩
  go := fun r H h i x p E e q => by
    unfold zipS at e
    obtain ⟨xs, e1, e⟩ := Option.bind_eq_some_iff.mp e
    obtain ⟨ys, e2, e⟩ := Option.map_eq_some_iff.mp e
    subst e
    obtain ⟨a', vs, e3, l1, q1⟩ := getL_ok E e1 p.1
    obtain ⟨b', us, e4, l2, q2⟩ := getL_ok E e2 p.2
    cases e3; cases e4
    obtain ⟨x1, y1, g1, g2, rfl⟩ := zipM_get q
    obtain ⟨V, k1, k2⟩ := q1.get g1
    obtain ⟨U, k3, k4⟩ := q2.get g2
    refine ⟨⟨vs, us, V, U, sq_of l1, sq_of l2, k1, k3⟩, fun V' H' y => ?_⟩
    obtain ⟨T, V2, U2, rfl, hT, rfl, y1, y2⟩ := y
    have z1 := y1 vs (sq_of l1)
    have z2 := y2 us (sq_of l2)
    rw [k1] at z1
    rw [k3] at z2
    cases z1; cases z2
    exact new_tup E hT (pair_rep k2 k4)
  stop := fun r H h p E e => by
    unfold zipS at e
    obtain ⟨xs, e1, e⟩ := Option.bind_eq_some_iff.mp e
    obtain ⟨ys, e2, e⟩ := Option.map_eq_some_iff.mp e
    subst e
    obtain ⟨a', vs, e3, l1, q1⟩ := getL_ok E e1 p.1
    obtain ⟨b', us, e4, l2, q2⟩ := getL_ok E e2 p.2
    cases e3; cases e4
    refine ⟨vs, us, sq_of l1, sq_of l2, ?_⟩
    rw [q1.length, q2.length, zipM_len]
    omega
theorem enmM_get : ∀ {xs : List MV} {n i : Nat} {z : MV}, (enmM n xs)[i]? = some z → ∃ x, xs[i]? = some x ∧ z = .tup [.int ((n + i : Nat) : Int), x]
  | [], n, i, z, h => by simp [enmM] at h
  | x :: xs, n, 0, z, h => by
    simp only [enmM, List.getElem?_cons_zero, Option.some.injEq] at h
    exact ⟨x, rfl, h.symm⟩
  | x :: xs, n, i + 1, z, h => by
    simp only [enmM, List.getElem?_cons_succ] at h
    obtain ⟨y, h1, h2⟩ := enmM_get h
    exact ⟨y, by simpa using h1, by rw [h2]; congr 3; omega⟩
theorem enmM_len : ∀ (xs : List MV) (n : Nat), (enmM n xs).length = xs.length
  | [], n => rfl
  | x :: xs, n => by simp only [enmM, List.length_cons, enmM_len xs]
theorem lk_enm {a : Addr} {v : MV} {all : List MV} : Lk X.K cA cF (Ite X.K a) (enmS v) all (fun r H => Rep X.K cA cF H r v (.ref a)) where
  mono := fun r H r1 H1 p x => Rep.mono x _ _ p
  go := fun r H h i x p E e q => by
    unfold enmS at e
    obtain ⟨xs, e1, e⟩ := Option.map_eq_some_iff.mp e
    subst e
    obtain ⟨a', vs, e3, l1, q1⟩ := getL_ok E e1 p
    cases e3
    obtain ⟨x1, g1, rfl⟩ := enmM_get q
    obtain ⟨V, k1, k2⟩ := q1.get g1
    refine ⟨⟨vs, V, sq_of l1, k1⟩, fun V' H' y => ?_⟩
    obtain ⟨T, V2, rfl, hT, rfl, y1⟩ := y
    have z1 := y1 vs (sq_of l1)
    rw [k1] at z1
    cases z1
    refine new_tup E hT (pair_rep ?_ k2)
    simp only [Rep, Nat.zero_add]
  stop := fun r H h p E e => by
    unfold enmS at e
    obtain ⟨xs, e1, e⟩ := Option.map_eq_some_iff.mp e
    subst e
    obtain ⟨a', vs, e3, l1, q1⟩ := getL_ok E e1 p
    cases e3
    exact ⟨vs, sq_of l1, by rw [q1.length, enmM_len]; exact Nat.le_refl _⟩
/-! ### list comprehensions -/
theorem wipe_set_comm : ∀ (vs : List Nat) (σ : L2.St) (i : Nat) (x : Option V), i ∉ vs → wipe (σ.set i x) vs = (wipe σ vs).set i x
  | [], σ, i, x, _ => rfl
  | v :: vs, σ, i, x, h => by
    simp only [List.mem_cons, not_or] at h
    unfold wipe
    rw [wipe_set_comm vs σ i x h.2, List.set_comm _ _ h.1]
theorem wipe_set : ∀ (vs : List Nat) (σ : L2.St) (i : Nat) (x : Option V), i ∈ vs → wipe (σ.set i x) vs = wipe σ vs
  | [], σ, i, x, h => by cases h
  | v :: vs, σ, i, x, h => by
    by_cases hv : i ∈ vs
    · unfold wipe
      rw [wipe_set vs σ i x hv]
    · have : i = v := by
        rcases List.mem_cons.mp h with z | z
        · exact z
        · exact absurd z hv
      subst this
      unfold wipe
      rw [wipe_set_comm vs σ i x hv, List.set_set]
theorem wipe_wipe (σ : L2.St) (ws : List Nat) : ∀ vs : List Nat, (∀ v ∈ vs, v ∈ ws) → wipe (wipe σ vs) ws = wipe σ ws
  | [], _ => rfl
  | v :: vs, h => by
    show wipe ((wipe σ vs).set v none) ws = _
    rw [wipe_set ws _ v none (h v (List.mem_cons_self ..))]
    exact wipe_wipe σ ws vs fun u hu => h u (List.mem_cons_of_mem _ hu)
theorem REn.wipe {K : PySem.W.Frag} {H : Hp} {r : List Addr} {e : EN} {σ : L2.St} (n : REn K cA cF H r e σ) : ∀ vs : List Nat, REn K cA cF H r (wipE e vs) (L2.wipe σ vs)
  | [] => n
  | v :: vs => (REn.wipe n vs).unset
def tGw (K : PySem.W.Frag) (cA : Nat → Addr) (cF : Nat → List Str) (vs : List Nat) (tg : Tg) : TG := fun V σ H Q => ∃ r e h v e', Emb K cA cF H r h ∧ REn K cA cF H r e σ ∧ Rep K cA cF H r v V ∧ setG tg v e = some e' ∧ ∀ σ', REn K cA cF H r e' σ' → L2.wipe σ' vs = L2.wipe σ vs → Q σ' H
def tGws (K : PySem.W.Frag) (cA : Nat → Addr) (cF : Nat → List Str) (vs : List Nat) (is : List Nat) : TGs := fun Vs σ H Q => ∃ r e h us e', Emb K cA cF H r h ∧ REn K cA cF H r e σ ∧ Reps K cA cF H r us Vs ∧ setT is us e = some e' ∧ ∀ σ', REn K cA cF H r e' σ' → L2.wipe σ' vs = L2.wipe σ vs → Q σ' H
theorem pgws_ok {vs : List Nat} (nd : X.N.Nodup) (hN : X.N = c.N) (sc : X.env.scope = c.sc) : ∀ (is : List Nat) (xs : List Expr), ckNw c vs is xs = true → PGs X xs (tGws X.K cA cF vs is)
  | [], xs, hh => by
    cases xs with
    | cons _ _ => simp [ckNw] at hh
    | nil =>
      refine PGsimp pgs_nil fun V σ H Q q => ?_
      obtain ⟨r, e, h, us, e', E, n, p, g, q⟩ := q
      cases us with
      | cons _ _ => simp [setT] at g
      | nil =>
        simp only [setT, Option.some.injEq] at g
        subst g
        simp only [Reps] at p
        exact ⟨p, q σ n rfl⟩
  | i :: is, xs, hh => by
    unfold ckNw at hh
    split at hh <;> first | (cases hh; done) | skip
    simp only [Bool.and_eq_true, decide_eq_true_eq] at hh
    obtain ⟨⟨⟨h1, h2⟩, h4⟩, h3⟩ := hh
    rename_i y pos ys
    have h2 : X.env.scope.names.lookup y = some .local := by rw [sc]; exact h2
    refine PGsimp (pgs_cons (pg_name (i := i) nd (by rw [hN]; exact h1) (.inl h2) (.inr h2)) (pgws_ok nd hN sc is ys h3) rfl) fun V σ H Q q => ?_
    obtain ⟨r, e, h, us, e', E, n, p, g, q⟩ := q
    cases us with
    | nil => simp [setT] at g
    | cons v us =>
      simp only [setT] at g
      simp only [Reps] at p
      obtain ⟨V1, Vs, rfl, p1, p2⟩ := p
      exact ⟨V1, Vs, rfl, r, _, h, us, e', E, n.set p1, p2, g, fun σ' n' w => q σ' n' (by rw [w, wipe_set _ _ _ _ h4])⟩
theorem assignEach_lenw {c : Ck} {vs : List Nat} {env : Env} : ∀ (is : List Nat) (xs : List Expr), ckNw c vs is xs = true → (assignEach xs env).length = is.length ∧ (assignEach xs env).findIdx? (·.1) = none
  | [], xs, hh => by
    cases xs with
    | cons _ _ => simp [ckNw] at hh
    | nil => exact ⟨rfl, rfl⟩
  | i :: is, xs, hh => by
    unfold ckNw at hh
    split at hh <;> first | (cases hh; done) | skip
    simp only [Bool.and_eq_true] at hh
    obtain ⟨a, b⟩ := assignEach_lenw (env := env) is _ hh.2
    rename_i y pos ys
    refine ⟨?_, ?_⟩
    · show (_ :: assignEach ys env).length = _
      rw [List.length_cons, a, List.length_cons]
    · show List.findIdx? _ (_ :: assignEach ys env) = none
      rw [List.findIdx?_cons, b]; rfl
theorem pgw_ok {vs : List Nat} (hc : X.calm = true) (nd : X.N.Nodup) (hN : X.N = c.N) (sc : X.env.scope = c.sc) (tg : Tg) (x : Expr) (hh : ckGw c vs tg x = true) : PG X x (tGw X.K cA cF vs tg) := by
  cases tg with
  | one i =>
    simp only [ckGw] at hh
    split at hh <;> first | (cases hh; done) | skip
    simp only [Bool.and_eq_true, decide_eq_true_eq] at hh
    obtain ⟨⟨h1, h2⟩, h4⟩ := hh
    rename_i y pos
    have h2 : X.env.scope.names.lookup y = some .local := by rw [sc]; exact h2
    refine PGimp (pg_name (i := i) nd (by rw [hN]; exact h1) (.inl h2) (.inr h2)) fun V σ H Q q => ?_
    obtain ⟨r, e, h, v, e', E, n, p, g, q⟩ := q
    simp only [setG, Option.some.injEq] at g
    subst g
    exact q _ (n.set p) (wipe_set _ _ _ _ h4)
  | tup is =>
    simp only [ckGw] at hh
    split at hh <;> first | (cases hh; done) | skip
    obtain ⟨a, b⟩ := assignEach_lenw (env := X.env) is _ hh
    rename_i kk pp
    have P1 := pg_tup (k := kk) (pos := pp) hc (pgws_ok (cA := cA) (cF := cF) nd hN sc is _ hh) a b
    have P2 := pg_lst (k := kk) (pos := pp) hc (pgws_ok (cA := cA) (cF := cF) nd hN sc is _ hh) a b
    have hl : ∀ (is : List Nat) (us : List MV) (e e' : EN), setT is us e = some e' → us.length = is.length := by
      intro is
      induction is with
      | nil => intro us e e' g; cases us with | nil => rfl | cons _ _ => simp [setT] at g
      | cons i is ih => intro us e e' g; cases us with | nil => simp [setT] at g | cons v us => simp only [setT] at g; simp [ih us _ _ g]
    refine ⟨fun pins s σ H V u Q I rr q => ?_⟩
    obtain ⟨r, e, h, v, e', E, n, p, g, q⟩ := q
    cases v <;> first | (simp only [setG] at g; cases g; done) | skip
    · simp only [setG] at g
      simp only [Rep] at p
      obtain ⟨ad, Vs, rfl, ⟨_, p1⟩, p2⟩ := p
      exact P1.run pins s σ H _ u Q I rr ⟨ad, Vs, rfl, SqT.of p1, by rw [p2.length]; exact hl _ _ _ _ g, r, e, h, _, e', E, n, p2, g, q⟩
    · simp only [setG] at g
      simp only [Rep] at p
      obtain ⟨ad, Vs, rfl, p1, p2⟩ := p
      exact P2.run pins s σ H _ u Q I rr ⟨ad, Vs, rfl, p1.sq, by rw [p2.length]; exact hl _ _ _ _ g, r, e, h, _, e', E, n, p2, g, q⟩
def noW : WX := fun _ _ _ _ => False
theorem takes_no : Takes X noW := fun u s' ⟨a, B, sI, pins, σ, H, cls, d, e, I, nb, up, sky, na, os, ag, w⟩ => w.elim
theorem lows_app (b : Nat) : ∀ (xs ys : List MV), lows b (xs ++ ys) = (lows b xs && lows b ys)
  | [], ys => by simp [lows]
  | x :: xs, ys => by simp only [List.cons_append, lows, lows_app b xs ys, Bool.and_assoc]
theorem lcm_ok {K : PySem.W.Frag} {J : It} {src : HP → Option (List MV)} {all : List MV} {P : List Addr → Hp → Prop} {cl : Bool} {tg : Tg} {vs : List Nat} {f : EN → HP → R MV} {r : List Addr} {H : Hp} {h : HP} {e : EN} {σ : L2.St} {Q : VK} {Y : XK}
    (L : Lk K cA cF J src all P) (p : P r H) (E : Emb K cA cF H r h) (n : REn K cA cF H r e σ) (w : wpR K cA cF r H (lcL cl tg src all f (wipE e vs) h all []) Q Y) :
    ∀ D, H D = none → ∃ Wi : Nat → Nat → Hp → Prop, (∃ m, Wi 0 m (upd H D (.lst []))) ∧ ∀ i m H, Wi i m H →
      (J.stop i H ∧ Q (.ref D) H) ∨ (J.go i H ∧ ∃ Nx : Hp → Prop, (∀ H', Nx H' → ∃ m', m' < m ∧ Wi (i + 1) m' H') ∧ ∀ x H', J.yld i H x H' → tGw K cA cF vs tg x (L2.wipe σ vs) H' fun σ2 H2 => L2.wipe σ2 vs = L2.wipe σ vs ∧ tYes σ2 H2 fun b H3 =>
        if b = true then tE K cA cF noW f σ2 H3 fun y H4 => ∃ acc, H4 D = some (.lst acc) ∧ acc.length < sizeLine ∧ Nx (upd H4 D (.lst (acc ++ [y]))) else Nx H3) := by
  intro D hD
  obtain ⟨x0, E0⟩ := E.cell hD (xs := []) (vs := []) (by simp only [Reps])
  refine ⟨fun i m Hc => m = all.length - i ∧ i ≤ all.length ∧ ∃ acc, Ext r H (r ++ [D]) Hc ∧ Emb K cA cF Hc (r ++ [D]) (h ++ [.lst acc]) ∧ lows h.length acc = true ∧ wpR K cA cF r H (lcL cl tg src all f (wipE e vs) h (all.drop i) acc) Q Y,
    ⟨all.length, by simp, Nat.zero_le _, [], x0, E0, by simp only [lows], by simpa using w⟩, ?_⟩
  rintro i m Hc ⟨rfl, hi, acc, xc, Ec, lo, w⟩
  have hDn : D ∉ r := fun z => by
    have := Ec.nd
    rw [List.nodup_append] at this
    exact this.2.2 D z D (by simp) rfl
  have atD : (h ++ [MO.lst acc])[h.length]? = some (.lst acc) := by simp
  have rD : (r ++ [D])[h.length]? = some D := by rw [← E.len]; simp
  obtain ⟨av, hav, rav⟩ := Ec.at_ h.length (.lst acc) D atD rD
  by_cases hlt : i < all.length
  · have ed : all.drop i = all[i] :: all.drop (i + 1) := List.drop_eq_getElem_cons hlt
    rw [ed] at w
    unfold lcL at w
    by_cases hs : src (h ++ [.lst acc]) = some all
    · rw [if_pos hs] at w
      obtain ⟨g1, g2⟩ := L.go (r ++ [D]) Hc _ i all[i] (L.mono _ _ _ _ p xc) Ec hs (by simp [hlt])
      refine .inr ⟨g1, _, fun H' z => ⟨all.length - (i + 1), by omega, rfl, hlt, z⟩, fun V H' y => ?_⟩
      obtain ⟨x1, E1, p1⟩ := g2 V H' y
      cases q : setG tg all[i] (wipE e vs) with
      | none => rw [q] at w; exact w.elim
      | some e' =>
        rw [q] at w
        refine ⟨r ++ [D], wipE e vs, _, all[i], e', E1, ((n.mono xc).mono x1).wipe vs, p1, q, fun σ' n' hw => ⟨by rw [hw, wipe_wipe σ vs vs fun v hv => hv], ?_⟩⟩
        unfold tYes
        dsimp only
        rw [if_pos rfl]
        refine ⟨r ++ [D], e', _, E1, n', ?_⟩
        cases q2 : f e' (h ++ [.lst acc]) with
        | bad => simp only [q2] at w; exact w.elim
        | exc x h2 => simp only [q2] at w; exact w.elim
        | ok y h2 =>
          simp only [q2] at w
          split at w
          · rename_i hh
            obtain ⟨rfl, ly, la⟩ := hh
            intro r2 H4 U x2 E2 p2
            obtain ⟨t, et⟩ := x2.pre
            have ht : t = [] := by
              have l2 := E2.len
              have l3 := E1.len
              rw [et, List.length_append, l3] at l2
              exact List.eq_nil_of_length_eq_zero (by omega)
            subst ht
            rw [List.append_nil] at et
            subst et
            obtain ⟨bv, hbv, rbv⟩ := E2.at_ h.length (.lst acc) D atD rD
            refine ⟨bv, hbv, by rw [rbv.length, ← sz_eq]; exact la, ?_⟩
            have q3 : Reps K cA cF H4 (r ++ [D]) (acc ++ [y]) (bv ++ [U]) := rbv.append (by simp only [Reps]; exact ⟨U, [], rfl, p2, rfl⟩)
            obtain ⟨y1, y2⟩ := E2.write rD q3
            have es : (h ++ [MO.lst acc]).set h.length (.lst (acc ++ [y])) = h ++ [.lst (acc ++ [y])] := by
              rw [List.set_append_right _ _ (Nat.le_refl _)]; simp
            rw [es] at y2
            refine ⟨acc ++ [y], ((xc.trans x1).trans x2).trans y1, y2, ?_, w⟩
            rw [lows_app, lo]
            simp only [lows, ly, Bool.and_true]
          · exact w.elim
    · rw [if_neg hs] at w; exact w.elim
  · have ei : i = all.length := by omega
    subst ei
    rw [List.drop_length] at w
    unfold lcL at w
    by_cases hs : src (h ++ [.lst acc]) = some all
    · rw [if_pos hs] at w
      cases cl with
      | true =>
        rw [if_pos rfl] at w
        refine .inl ⟨L.stop _ _ _ (L.mono _ _ _ _ p xc) Ec hs, w (r ++ [D]) Hc _ xc Ec ?_⟩
        simp only [Rep]
        exact ⟨D, rfl, rD⟩
      | false =>
        rw [if_neg Bool.false_ne_true] at w
        have E2 := Emb.cut Ec E (by simp)
        have x2 : Ext r H r Hc := ⟨⟨[], by simp⟩, fun a o e n => ⟨(xc.keep a o e n).1, n⟩⟩
        refine .inl ⟨L.stop _ _ _ (L.mono _ _ _ _ p xc) Ec hs, w r Hc _ x2 E2 ?_⟩
        simp only [Rep]
        exact ⟨D, av, rfl, .inl ⟨hDn, .inl hav⟩, Reps.low _ _ (by rw [E.len]; exact lo) rav⟩
    · rw [if_neg hs] at w; exact w.elim
theorem lc_imp {K : PySem.W.Frag} {cl : Bool} {tg : Tg} {vs : List Nat} {f : EN → HP → R MV} {g : EN → HP → R IR} {σ : L2.St} {H : Hp} {Q : VK}
    (q : tE K cA cF W (fun e h => (g e h).bind fun p h => lcL cl tg p.2 p.1 f (wipE e vs) h p.1 []) σ H Q) : tLc (tI K cA cF W g) (tGw K cA cF vs tg) tYes (tE K cA cF noW f) vs σ H Q := by
  obtain ⟨r, e, h, E, n, w⟩ := q
  refine ⟨r, e, h, E, n, ?_⟩
  cases q : g e h with
  | bad => simp only [q] at w; exact w
  | exc y h1 => simp only [q] at w; exact w
  | ok p h1 =>
    simp only [q, R.bind_ok] at w
    intro r1 H1 J P x1 E1 p1 L
    exact lcm_ok L p1 E1 (n.mono x1) (wpG.mono x1 w)
theorem lcf_ok {K : PySem.W.Frag} {J : It} {src : HP → Option (List MV)} {all : List MV} {P : List Addr → Hp → Prop} {tg : Tg} {vs : List Nat} {tt f : EN → HP → R MV} {r : List Addr} {H : Hp} {h : HP} {e : EN} {σ : L2.St} {Q : VK} {Y : XK}
    (L : Lk K cA cF J src all P) (p : P r H) (E : Emb K cA cF H r h) (n : REn K cA cF H r e σ) (w : wpR K cA cF r H (lcF tg src all tt f (wipE e vs) h all []) Q Y) :
    ∀ D, H D = none → ∃ Wi : Nat → Nat → Hp → Prop, (∃ m, Wi 0 m (upd H D (.lst []))) ∧ ∀ i m H, Wi i m H →
      (J.stop i H ∧ Q (.ref D) H) ∨ (J.go i H ∧ ∃ Nx : Hp → Prop, (∀ H', Nx H' → ∃ m', m' < m ∧ Wi (i + 1) m' H') ∧ ∀ x H', J.yld i H x H' → tGw K cA cF vs tg x (L2.wipe σ vs) H' fun σ2 H2 => L2.wipe σ2 vs = L2.wipe σ vs ∧ tTt K cA cF noW tt σ2 H2 fun b H3 =>
        if b = true then tE K cA cF noW f σ2 H3 fun y H4 => ∃ acc, H4 D = some (.lst acc) ∧ acc.length < sizeLine ∧ Nx (upd H4 D (.lst (acc ++ [y]))) else Nx H3) := by
  intro D hD
  obtain ⟨x0, E0⟩ := E.cell hD (xs := []) (vs := []) (by simp only [Reps])
  refine ⟨fun i m Hc => m = all.length - i ∧ i ≤ all.length ∧ ∃ acc, Ext r H (r ++ [D]) Hc ∧ Emb K cA cF Hc (r ++ [D]) (h ++ [.lst acc]) ∧ lows h.length acc = true ∧ wpR K cA cF r H (lcF tg src all tt f (wipE e vs) h (all.drop i) acc) Q Y,
    ⟨all.length, by simp, Nat.zero_le _, [], x0, E0, by simp only [lows], by simpa using w⟩, ?_⟩
  rintro i m Hc ⟨rfl, hi, acc, xc, Ec, lo, w⟩
  have hDn : D ∉ r := fun z => by
    have := Ec.nd
    rw [List.nodup_append] at this
    exact this.2.2 D z D (by simp) rfl
  have atD : (h ++ [MO.lst acc])[h.length]? = some (.lst acc) := by simp
  have rD : (r ++ [D])[h.length]? = some D := by rw [← E.len]; simp
  obtain ⟨av, hav, rav⟩ := Ec.at_ h.length (.lst acc) D atD rD
  by_cases hlt : i < all.length
  · have ed : all.drop i = all[i] :: all.drop (i + 1) := List.drop_eq_getElem_cons hlt
    rw [ed] at w
    unfold lcF at w
    by_cases hs : src (h ++ [.lst acc]) = some all
    · rw [if_pos hs] at w
      obtain ⟨g1, g2⟩ := L.go (r ++ [D]) Hc _ i all[i] (L.mono _ _ _ _ p xc) Ec hs (by simp [hlt])
      refine .inr ⟨g1, _, fun H' z => ⟨all.length - (i + 1), by omega, rfl, hlt, z⟩, fun V H' y => ?_⟩
      obtain ⟨x1, E1, p1⟩ := g2 V H' y
      cases q : setG tg all[i] (wipE e vs) with
      | none => rw [q] at w; exact w.elim
      | some e' =>
        rw [q] at w
        refine ⟨r ++ [D], wipE e vs, _, all[i], e', E1, ((n.mono xc).mono x1).wipe vs, p1, q, fun σ' n' hw => ⟨by rw [hw, wipe_wipe σ vs vs fun v hv => hv], ?_⟩⟩
        refine ⟨r ++ [D], e', _, E1, n', ?_⟩
        cases qt : tt e' (h ++ [.lst acc]) with
        | bad => simp only [qt] at w; exact w.elim
        | exc x h2 => simp only [qt] at w; exact w.elim
        | ok tb h1 =>
          cases tb with
          | bl b =>
            simp only [qt] at w
            split at w
            · rename_i hh1
              subst hh1
              intro r3 H3 x3 E3
              have pre3 : r3 = r ++ [D] := by
                obtain ⟨t, et⟩ := x3.pre
                have l2 := E3.len
                have l3 := E1.len
                rw [et, List.length_append, l3] at l2
                have : t = [] := List.eq_nil_of_length_eq_zero (by omega)
                rw [et, this, List.append_nil]
              subst pre3
              cases b with
              | false =>
                rw [if_neg Bool.false_ne_true] at w ⊢
                exact ⟨acc, ((xc.trans x1).trans x3), E3, lo, w⟩
              | true =>
                rw [if_pos rfl] at w ⊢
                refine ⟨r ++ [D], e', _, E3, n'.mono x3, ?_⟩
                cases q2 : f e' (h ++ [.lst acc]) with
                | bad => simp only [q2] at w; exact w.elim
                | exc x h2 => simp only [q2] at w; exact w.elim
                | ok y h2 =>
                  simp only [q2] at w
                  split at w
                  · rename_i hh
                    obtain ⟨rfl, ly, la⟩ := hh
                    intro r2 H4 U x2 E2 p2
                    obtain ⟨t, et⟩ := x2.pre
                    have ht : t = [] := by
                      have l2 := E2.len
                      have l3 := E1.len
                      rw [et, List.length_append, l3] at l2
                      exact List.eq_nil_of_length_eq_zero (by omega)
                    subst ht
                    rw [List.append_nil] at et
                    subst et
                    obtain ⟨bv, hbv, rbv⟩ := E2.at_ h.length (.lst acc) D atD rD
                    refine ⟨bv, hbv, by rw [rbv.length, ← sz_eq]; exact la, ?_⟩
                    have q3 : Reps K cA cF H4 (r ++ [D]) (acc ++ [y]) (bv ++ [U]) := rbv.append (by simp only [Reps]; exact ⟨U, [], rfl, p2, rfl⟩)
                    obtain ⟨y1, y2⟩ := E2.write rD q3
                    have es : (h ++ [MO.lst acc]).set h.length (.lst (acc ++ [y])) = h ++ [.lst (acc ++ [y])] := by
                      rw [List.set_append_right _ _ (Nat.le_refl _)]; simp
                    rw [es] at y2
                    refine ⟨acc ++ [y], (((xc.trans x1).trans x3).trans x2).trans y1, y2, ?_, w⟩
                    rw [lows_app, lo]
                    simp only [lows, ly, Bool.and_true]
                  · exact w.elim
            · exact w.elim
          | _ => simp only [qt] at w; exact w.elim
    · rw [if_neg hs] at w; exact w.elim
  · have ei : i = all.length := by omega
    subst ei
    rw [List.drop_length] at w
    unfold lcF at w
    by_cases hs : src (h ++ [.lst acc]) = some all
    · rw [if_pos hs] at w
      have E2 := Emb.cut Ec E (by simp)
      have x2 : Ext r H r Hc := ⟨⟨[], by simp⟩, fun a o e n => ⟨(xc.keep a o e n).1, n⟩⟩
      refine .inl ⟨L.stop _ _ _ (L.mono _ _ _ _ p xc) Ec hs, w r Hc _ x2 E2 ?_⟩
      simp only [Rep]
      exact ⟨D, av, rfl, .inl ⟨hDn, .inl hav⟩, Reps.low _ _ (by rw [E.len]; exact lo) rav⟩
    · rw [if_neg hs] at w; exact w.elim
theorem lcf_imp {K : PySem.W.Frag} {tg : Tg} {vs : List Nat} {tt f : EN → HP → R MV} {g : EN → HP → R IR} {σ : L2.St} {H : Hp} {Q : VK}
    (q : tE K cA cF W (fun e h => (g e h).bind fun p h => lcF tg p.2 p.1 tt f (wipE e vs) h p.1 []) σ H Q) : tLc (tI K cA cF W g) (tGw K cA cF vs tg) (tTt K cA cF noW tt) (tE K cA cF noW f) vs σ H Q := by
  obtain ⟨r, e, h, E, n, w⟩ := q
  refine ⟨r, e, h, E, n, ?_⟩
  cases q : g e h with
  | bad => simp only [q] at w; exact w
  | exc y h1 => simp only [q] at w; exact w
  | ok p h1 =>
    simp only [q, R.bind_ok] at w
    intro r1 H1 J P x1 E1 p1 L
    exact lcf_ok L p1 E1 (n.mono x1) (wpG.mono x1 w)
variable (FC : Fc X.prog X.w X.K X.mg X.base cA cF T C k c) (G : Gd X c k) (tk : Takes X W)
include FC G tk
include FC G in
omit tk in
theorem pcs_ok : ∀ (ds : List Nat) (ys : List Expr), ckCs c ds ys = true → PA X ys (tCs (ds.map fun d => V.ref (cA d)))
  | [], ys, hh => by
    cases ys with
    | cons _ _ => simp [ckCs] at hh
    | nil => exact PAimp pa_nil fun σ H Q q => q
  | d :: ds, ys, hh => by
    unfold ckCs at hh
    split at hh <;> first | (cases hh; done) | skip
    simp only [Bool.and_eq_true, decide_eq_true_eq] at hh
    obtain ⟨⟨h1, h2⟩, h3⟩ := hh
    obtain ⟨m1, m2⟩ := FC.cl _ _ h1
    obtain ⟨g1, g2⟩ := gl_of G h2
    exact PAimp (pa_cons (pe_glob (v := .ref (cA d)) g1 m1 rfl g2) (pcs_ok ds _ h3) rfl) fun σ H Q q => q
end
section
variable {cA : Nat → Addr} {cF : Nat → List Str} {T : Tab} {C : Nat → List MV → HP → R MV} {k : Nat}
mutual
theorem sndA : ∀ (e : E) (X : Cx) (c : Ck) (W : WX) (FC : Fc X.prog X.w X.K X.mg X.base cA cF T C k c) (G : Gd X c k) (tk : Takes X W) (x : Expr), ckE c e x = true → PE X x (tE X.K cA cF W (evE T C e)) ∧ (tsB x = true → PT X x (tTt X.K cA cF W (evE T C e))) ∧ (isBO x = true → PW X x (tTt X.K cA cF W (evE T C e)))
  | .var i, X, c, W, FC, G, tk, x, hh => by
    unfold ckE at hh
    split at hh <;> first | (cases hh; done) | skip
    refine fin3 ?_ rfl
    simp only [Bool.and_eq_true, decide_eq_true_eq, Bool.not_eq_true'] at hh
    obtain ⟨⟨⟨h1, h2⟩, h3⟩, h4⟩ := hh
    refine PEimp (pe_var (i := i) (by rw [G.hN]; exact h1) (by rw [G.sc]; exact vis_of h2) h3 h4) fun σ H Q q => ?_
    obtain ⟨r, e, h, E, n, w⟩ := q
    simp only [evE] at w
    split at w
    · rename_i v he
      obtain ⟨V, k1, k2⟩ := n.at_ i v he
      exact ⟨V, k1, w r H V Ext.refl E k2⟩
    · exact w.elim
  | .cI i, X, c, W, FC, G, tk, x, hh => by
    unfold ckE at hh
    split at hh <;> first | (cases hh; done) | skip
    refine fin3 ?_ rfl
    simp only [decide_eq_true_eq] at hh
    subst hh
    simpa only [evE] using pe_cst pe_int (fun _ _ => rep_int)
  | .cS i, X, c, W, FC, G, tk, x, hh => by
    unfold ckE at hh
    split at hh <;> first | (cases hh; done) | skip
    refine fin3 ?_ rfl
    simp only [decide_eq_true_eq] at hh
    subst hh
    simpa only [evE] using pe_cst pe_str (fun _ _ => rep_str)
  | .cB i, X, c, W, FC, G, tk, x, hh => by
    unfold ckE at hh
    split at hh <;> first | (cases hh; done) | skip
    refine fin3 ?_ rfl
    simp only [beq_iff_eq] at hh
    subst hh
    simpa only [evE] using pe_cst pe_bl (fun _ _ => rep_bl)
  | .cN, X, c, W, FC, G, tk, x, hh => by
    unfold ckE at hh
    split at hh <;> first | (cases hh; done) | skip
    refine fin3 ?_ rfl
    simpa only [evE] using pe_cst pe_non (fun _ _ => rep_non)
  | .gI y i, X, c, W, FC, G, tk, x, hh => by
    unfold ckE at hh
    split at hh <;> first | (cases hh; done) | skip
    refine fin3 ?_ rfl
    simp only [Bool.and_eq_true, decide_eq_true_eq] at hh
    obtain ⟨⟨rfl, h2⟩, h3⟩ := hh
    obtain ⟨t, h4⟩ := FC.gi _ _ h3
    obtain ⟨g1, g2⟩ := gl_of G h2
    simpa only [evE] using pe_cst (pe_glob (v := .int i) g1 h4 ⟨t, rfl⟩ g2) (fun _ _ => rep_int)
  | .gS y i, X, c, W, FC, G, tk, x, hh => by
    unfold ckE at hh
    split at hh <;> first | (cases hh; done) | skip
    refine fin3 ?_ rfl
    simp only [Bool.and_eq_true, decide_eq_true_eq] at hh
    obtain ⟨⟨rfl, h2⟩, h3⟩ := hh
    obtain ⟨t, h4⟩ := FC.gs _ _ h3
    obtain ⟨g1, g2⟩ := gl_of G h2
    simpa only [evE] using pe_cst (pe_glob (v := .str i) g1 h4 ⟨t, rfl⟩ g2) (fun _ _ => rep_str)
  | .neg a, X, c, W, FC, G, tk, x, hh => by
    unfold ckE at hh
    split at hh <;> first | (cases hh; done) | skip
    refine ⟨?_, fun z => (by cases z), fun z => (by cases z)⟩
    simp only [evE]
    refine una_use (pe_un un_neg (sndA a X c W FC G tk _ hh).1) fun r H h va A Q Y E p w => ?_
    split at w
    · simp only [Rep] at p
      exact ⟨_, p, w r H _ Ext.refl E rep_int⟩
    · exact w.elim
  | .not a, X, c, W, FC, G, tk, x, hh => by
    unfold ckE at hh
    split at hh <;> first | (cases hh; done) | skip
    simp only [Bool.and_eq_true] at hh
    obtain ⟨hts, hh⟩ := hh
    refine ⟨?_, fun _ => ?_, fun z => (by cases z)⟩
    · simp only [evE]
      refine una_use (rr := fun x H Q => ∃ c, x = .bl c ∧ Q (.bl (!c)) H) (pe_not (sndA a X c W FC G tk _ hh).1) fun r H h va A Q Y E p w => ?_
      split at w
      · simp only [Rep] at p
        exact ⟨_, p, w r H _ Ext.refl E rep_bl⟩
      · exact w.elim
    · simp only [evE]
      refine PTimp (pt_not ((sndA a X c W FC G tk _ hh).2.1 hts)) fun σ H Q q => ?_
      obtain ⟨r, e, h, E, n, w⟩ := q
      refine ⟨r, e, h, E, n, ?_⟩
      dsimp only at w
      cases q : evE T C a e h with
      | bad => rw [q] at w; exact w.elim
      | exc y h1 => rw [q] at w; exact w
      | ok v h1 =>
        rw [q] at w
        cases v <;> first | exact w.elim | skip
        exact w
  | .bin o a b, X, c, W, FC, G, tk, x, hh => by
    unfold ckE at hh
    split at hh <;> first | (cases hh; done) | skip
    refine ⟨?_, fun z => (by cases z), fun z => (by cases z)⟩
    simp only [Bool.and_eq_true] at hh
    obtain ⟨⟨h1, h2⟩, h3⟩ := hh
    simp only [evE]
    exact bin_use (pe_op (binop_ok G.deep h1) (sndA a X c W FC G tk _ h2).1 (sndA b X c W FC G tk _ h3).1) fun r H h va vb A B Q Y E p1 p2 w => wpR_of E p1 p2 w
  | .cmp o a b, X, c, W, FC, G, tk, x, hh => by
    unfold ckE at hh
    split at hh <;> first | (cases hh; done) | skip
    simp only [Bool.and_eq_true, Bool.not_eq_true'] at hh
    obtain ⟨⟨⟨h1, h0⟩, h2⟩, h3⟩ := hh
    refine ⟨?_, fun _ => ?_, fun z => (by cases z)⟩
    · simp only [evE]
      exact bin_use (pe_cmpR (cmpop_ok G.rm.units h1) (sndA a X c W FC G tk _ h2).1 (sndA b X c W FC G tk _ h3).1 h0) fun r H h va vb A B Q Y E p1 p2 w => wpR_ofB E p1 p2 w
    · simp only [evE]
      refine PTimp (pt_cmpR (cmpop_ok (cA := cA) (cF := cF) G.rm.units h1) (sndA a X c W FC G tk _ h2).1 (sndA b X c W FC G tk _ h3).1 h0) fun σ H Q q => ?_
      obtain ⟨r, e, h, E, n, w⟩ := q
      have w2 := tt_wp w
      refine stepE E n w2 fun r1 H1 h1 va A x1 E1 n1 p1 w1 => ?_
      refine stepE E1 n1 w1 fun r2 H2 h2 vb B x2 E2 n2 p2 w3 => ?_
      exact wpR_ofB E2 (Rep.mono x2 _ _ p1) p2 w3
  | .chn o p a b d, X, c, W, FC, G, tk, x, hh => by
    unfold ckE at hh
    split at hh <;> first | (cases hh; done) | skip
    simp only [Bool.and_eq_true, Bool.not_eq_true'] at hh
    obtain ⟨⟨⟨⟨⟨h1, h2⟩, h0⟩, h3⟩, h4⟩, h5⟩ := hh
    refine ⟨?_, fun _ => ?_, fun z => (by cases z)⟩
    · simp only [evE]
      refine PEimp (pe_chain (cmpop_ok (cA := cA) (cF := cF) G.rm.units h1) (cmpop_ok (cA := cA) (cF := cF) G.rm.units h2) (sndA a X c W FC G tk _ h3).1 (sndA b X c W FC G tk _ h4).1 (sndA d X c W FC G tk _ h5).1 h0) fun σ H Q q => ?_
      obtain ⟨r, e, h, E, n, w⟩ := q
      refine stepE E n w fun r1 H1 h1 va A x1 E1 n1 p1 w1 => ?_
      refine stepE E1 n1 w1 fun r2 H2 h2 vb B x2 E2 n2 p2 w2 => ?_
      cases g : cmpV h2 o va vb with
      | none => rw [g] at w2; exact w2.elim
      | some t =>
        rw [g] at w2
        refine ⟨r2, h2, va, vb, t, E2, Rep.mono x2 _ _ p1, p2, g, t, rfl, ?_⟩
        cases t with
        | false => rw [if_neg Bool.false_ne_true]; exact w2 r2 H2 _ Ext.refl E2 rep_bl
        | true =>
          rw [if_pos rfl]
          refine stepE E2 n2 w2 fun r3 H3 h3 vd D x3 E3 n3 p3 w3 => ?_
          exact wpR_ofB E3 (Rep.mono x3 _ _ p2) p3 w3
    · simp only [evE]
      refine PTimp (pt_chain (cmpop_ok (cA := cA) (cF := cF) G.rm.units h1) (cmpop_ok (cA := cA) (cF := cF) G.rm.units h2) (sndA a X c W FC G tk _ h3).1 (sndA b X c W FC G tk _ h4).1 (sndA d X c W FC G tk _ h5).1 h0) fun σ H Q q => ?_
      obtain ⟨r, e, h, E, n, w⟩ := q
      have w2 := tt_wp w
      refine stepE E n w2 fun r1 H1 h1 va A x1 E1 n1 p1 w1 => ?_
      refine stepE E1 n1 w1 fun r2 H2 h2 vb B x2 E2 n2 p2 w2 => ?_
      cases g : cmpV h2 o va vb with
      | none => rw [g] at w2; exact w2.elim
      | some t =>
        rw [g] at w2
        refine ⟨r2, h2, va, vb, t, E2, Rep.mono x2 _ _ p1, p2, g, t, rfl, ?_⟩
        cases t with
        | false => rw [if_neg Bool.false_ne_true]; exact w2 r2 H2 _ Ext.refl E2 rep_bl
        | true =>
          rw [if_pos rfl]
          refine stepE E2 n2 w2 fun r3 H3 h3 vd D x3 E3 n3 p3 w3 => ?_
          exact wpR_ofB E3 (Rep.mono x3 _ _ p2) p3 w3
  | .and a b, X, c, W, FC, G, tk, x, hh => by
    unfold ckE at hh
    split at hh <;> first | (cases hh; done) | skip
    rename_i f g rr pos
    simp only [Bool.and_eq_true] at hh
    obtain ⟨⟨h0, h1⟩, h2⟩ := hh
    have hw : PW X (.BoolOp .And (g :: rr) pos) (tTt X.K cA cF W (evE T C b)) := by
      split at h2
      · exact pw_and1 ((sndA b X c W FC G tk _ (and_r h2)).2.1 (and_l h2))
      · exact (sndA b X c W FC G tk _ h2).2.2 rfl
    have key : PW X (.BoolOp .And (f :: g :: rr) pos) (tTt X.K cA cF W (evE T C (.and a b))) := by
      simp only [evE]
      refine PWimp (pw_and ((sndA a X c W FC G tk _ h1).2.1 h0) hw) fun σ H Q q => ?_
      obtain ⟨r, e, h, E, n, w⟩ := q
      refine ⟨r, e, h, E, n, ?_⟩
      dsimp only at w
      cases q : evE T C a e h with
      | bad => rw [q] at w; exact w.elim
      | exc y h1 => rw [q] at w; exact w
      | ok v h1 =>
        rw [q] at w
        cases v <;> first | exact w.elim | skip
        rename_i bb
        intro r1 H1 x1 E1
        cases bb with
        | false => rw [if_neg Bool.false_ne_true]; exact w r1 H1 x1 E1
        | true =>
          rw [if_pos rfl]
          refine ⟨r1, e, h1, E1, n.mono x1, ?_⟩
          simp only [R.bind_ok] at w
          cases q2 : evE T C b e h1 with
          | bad => rw [q2] at w; exact w.elim
          | exc y h2 => rw [q2] at w; exact fun r' H' cls d e1 e2 e3 => w r' H' cls d (x1.trans e1) e2 e3
          | ok v h2 =>
            rw [q2] at w
            cases v <;> first | exact w.elim | skip
            exact fun r' H' e1 e2 => w r' H' (x1.trans e1) e2
    refine ⟨?_, fun _ => key.pt, fun _ => key⟩
    have hb : PE X (.BoolOp .And (g :: rr) pos) (tE X.K cA cF W (evE T C b)) := by
      split at h2
      · exact pe_one (sndA b X c W FC G tk _ (and_r h2)).1
      · exact (sndA b X c W FC G tk _ h2).1
    simp only [evE]
    refine PEimp (pe_and (sndA a X c W FC G tk _ h1).1 hb) fun σ H Q q => ?_
    obtain ⟨r, e, h, E, n, w⟩ := q
    refine stepE E n w fun r1 H1 h1 va A x1 E1 n1 p1 w1 => ?_
    split at w1
    · simp only [Rep] at p1
      refine ⟨true, p1, ?_⟩
      rw [if_pos rfl]
      refine stepE E1 n1 w1 fun r2 H2 h2 vb B x2 E2 n2 p2 w2 => ?_
      split at w2
      · simp only [Rep] at p2; subst p2; exact w2 r2 H2 _ Ext.refl E2 rep_bl
      · exact w2.elim
    · simp only [Rep] at p1
      refine ⟨false, p1, ?_⟩
      rw [if_neg Bool.false_ne_true]
      exact w1 r1 H1 _ Ext.refl E1 rep_bl
    · exact w1.elim
  | .or a b, X, c, W, FC, G, tk, x, hh => by
    unfold ckE at hh
    split at hh <;> first | (cases hh; done) | skip
    rename_i f g rr pos
    simp only [Bool.and_eq_true] at hh
    obtain ⟨⟨h0, h1⟩, h2⟩ := hh
    have hw : PW X (.BoolOp .Or (g :: rr) pos) (tTt X.K cA cF W (evE T C b)) := by
      split at h2
      · exact pw_or1 ((sndA b X c W FC G tk _ (and_r h2)).2.1 (and_l h2))
      · exact (sndA b X c W FC G tk _ h2).2.2 rfl
    have key : PW X (.BoolOp .Or (f :: g :: rr) pos) (tTt X.K cA cF W (evE T C (.or a b))) := by
      simp only [evE]
      refine PWimp (pw_or ((sndA a X c W FC G tk _ h1).2.1 h0) hw) fun σ H Q q => ?_
      obtain ⟨r, e, h, E, n, w⟩ := q
      refine ⟨r, e, h, E, n, ?_⟩
      dsimp only at w
      cases q : evE T C a e h with
      | bad => rw [q] at w; exact w.elim
      | exc y h1 => rw [q] at w; exact w
      | ok v h1 =>
        rw [q] at w
        cases v <;> first | exact w.elim | skip
        rename_i bb
        intro r1 H1 x1 E1
        cases bb with
        | true => rw [if_pos rfl]; exact w r1 H1 x1 E1
        | false =>
          rw [if_neg Bool.false_ne_true]
          refine ⟨r1, e, h1, E1, n.mono x1, ?_⟩
          simp only [R.bind_ok] at w
          cases q2 : evE T C b e h1 with
          | bad => rw [q2] at w; exact w.elim
          | exc y h2 => rw [q2] at w; exact fun r' H' cls d e1 e2 e3 => w r' H' cls d (x1.trans e1) e2 e3
          | ok v h2 =>
            rw [q2] at w
            cases v <;> first | exact w.elim | skip
            exact fun r' H' e1 e2 => w r' H' (x1.trans e1) e2
    refine ⟨?_, fun _ => key.pt, fun _ => key⟩
    have hb : PE X (.BoolOp .Or (g :: rr) pos) (tE X.K cA cF W (evE T C b)) := by
      split at h2
      · exact pe_one (sndA b X c W FC G tk _ (and_r h2)).1
      · exact (sndA b X c W FC G tk _ h2).1
    simp only [evE]
    refine PEimp (pe_or (sndA a X c W FC G tk _ h1).1 hb) fun σ H Q q => ?_
    obtain ⟨r, e, h, E, n, w⟩ := q
    refine stepE E n w fun r1 H1 h1 va A x1 E1 n1 p1 w1 => ?_
    split at w1
    · simp only [Rep] at p1
      refine ⟨false, p1, ?_⟩
      rw [if_neg Bool.false_ne_true]
      refine stepE E1 n1 w1 fun r2 H2 h2 vb B x2 E2 n2 p2 w2 => ?_
      split at w2
      · simp only [Rep] at p2; subst p2; exact w2 r2 H2 _ Ext.refl E2 rep_bl
      · exact w2.elim
    · simp only [Rep] at p1
      refine ⟨true, p1, ?_⟩
      rw [if_pos rfl]
      exact w1 r1 H1 _ Ext.refl E1 rep_bl
    · exact w1.elim
  | .ife t a b, X, c, W, FC, G, tk, x, hh => by
    unfold ckE at hh
    split at hh <;> first | (cases hh; done) | skip
    refine ⟨?_, fun z => (by cases z), fun z => (by cases z)⟩
    simp only [Bool.and_eq_true] at hh
    obtain ⟨⟨⟨h0, h1⟩, h2⟩, h3⟩ := hh
    simp only [evE]
    refine PEimp (pe_ifExp ((sndA t X c W FC G tk _ h1).2.1 h0) (sndA a X c W FC G tk _ h2).1 (sndA b X c W FC G tk _ h3).1) fun σ H Q q => ?_
    obtain ⟨r, e, h, E, n, w⟩ := q
    refine ⟨r, e, h, E, n, ?_⟩
    dsimp only at w
    cases q : evE T C t e h with
    | bad => rw [q] at w; exact w.elim
    | exc y h1 => rw [q] at w; exact w
    | ok v h1 =>
      rw [q] at w
      cases v <;> first | exact w.elim | skip
      rename_i bb
      intro r1 H1 x1 E1
      cases bb with
      | true => rw [if_pos rfl]; exact ⟨r1, e, h1, E1, n.mono x1, wpG.mono x1 w⟩
      | false => rw [if_neg Bool.false_ne_true]; exact ⟨r1, e, h1, E1, n.mono x1, wpG.mono x1 w⟩
  | .tup es, X, c, W, FC, G, tk, x, hh => by
    unfold ckE at hh
    split at hh <;> first | (cases hh; done) | skip
    refine ⟨?_, fun z => (by cases z), fun z => (by cases z)⟩
    simp only [evE]
    refine PEimp (pe_tup (sndEsA es X c W FC G tk _ hh)) fun σ H Q q => ?_
    obtain ⟨r, e, h, E, n, w⟩ := q
    refine stepA E n w fun r1 H1 h1 vs VS x1 E1 n1 p1 w1 => ?_
    split at w1
    · rename_i hl
      refine ⟨by rw [p1.length, ← sz_eq]; exact hl, fun p hp => ?_⟩
      obtain ⟨y1, y2, y3⟩ := new_tup E1 hp p1
      exact w1 _ _ _ y1 y2 y3
    · exact w1.elim
  | .lst es, X, c, W, FC, G, tk, x, hh => by
    unfold ckE at hh
    split at hh <;> first | (cases hh; done) | skip
    refine ⟨?_, fun z => (by cases z), fun z => (by cases z)⟩
    simp only [evE]
    refine PEimp (pe_lst (sndEsA es X c W FC G tk _ hh)) fun σ H Q q => ?_
    obtain ⟨r, e, h, E, n, w⟩ := q
    refine stepA E n w fun r1 H1 h1 vs VS x1 E1 n1 p1 w1 => ?_
    split at w1
    · rename_i hl
      refine ⟨by rw [p1.length, ← sz_eq]; exact hl, fun p hp => ?_⟩
      obtain ⟨y1, y2, y3⟩ := new_lst E1 hp p1
      exact w1 _ _ _ y1 y2 y3
    · exact w1.elim
  | .cel es, X, c, W, FC, G, tk, x, hh => by
    unfold ckE at hh
    split at hh <;> first | (cases hh; done) | skip
    refine ⟨?_, fun z => (by cases z), fun z => (by cases z)⟩
    simp only [evE]
    refine PEimp (pe_lst (sndEsA es X c W FC G tk _ hh)) fun σ H Q q => ?_
    obtain ⟨r, e, h, E, n, w⟩ := q
    refine stepA E n w fun r1 H1 h1 vs VS x1 E1 n1 p1 w1 => ?_
    split at w1
    · rename_i hl
      refine ⟨by rw [p1.length, ← sz_eq]; exact hl, fun p hp => ?_⟩
      obtain ⟨y1, y2⟩ := E1.cell hp p1
      refine w1 _ _ _ y1 y2 ?_
      simp only [Rep]
      exact ⟨p, rfl, by rw [← E1.len]; simp⟩
    · exact w1.elim
  | .idx a i, X, c, W, FC, G, tk, x, hh => by
    unfold ckE at hh
    split at hh <;> first | (cases hh; done) | skip
    refine fin3 ?_ rfl
    simp only [Bool.and_eq_true] at hh
    obtain ⟨⟨h1, h2⟩, h3⟩ := hh
    simp only [evE]
    exact bin_use (pe_ix ix_ok (sndA a X c W FC G tk _ h2).1 (sndA i X c W FC G tk _ h3).1 (plix h1)) fun r H h va vb A B Q Y E p1 p2 w => wpR_of E p1 p2 w
  | .slc a l u, X, c, W, FC, G, tk, x, hh => by
    unfold ckE at hh
    split at hh <;> first | (cases hh; done) | skip
    refine fin3 ?_ rfl
    rename_i f g pos' pos
    simp only [Bool.and_eq_true] at hh
    obtain ⟨⟨h1, h2⟩, h3⟩ := hh
    simp only [evE]
    have part : ∀ (z : E) (f : Option Expr), (∀ x, ckE c z x = true → PE X x (tE X.K cA cF W (evE T C z))) → (match f with
      | none => isN z
      | some f => ckE c z f && !isN z) = true → PO X f (tO X.K cA cF W fun e h => if isN z then .ok none h else (evE T C z e h).bind fun v h => R.of (pI v) h) := by
      intro z f hz hf
      cases f with
      | none =>
        have hf : isN z = true := hf
        refine POimp po_none fun σ H Q q => ?_
        obtain ⟨r, e, h, E, n, w⟩ := q
        dsimp only at w
        rw [if_pos hf] at w
        exact w r H none Ext.refl E rfl
      | some f =>
        have hf : (ckE c z f && !isN z) = true := hf
        simp only [Bool.and_eq_true, Bool.not_eq_true'] at hf
        refine POimp (po_some (hz f hf.1)) fun σ H Q q => ?_
        obtain ⟨r, e, h, E, n, w⟩ := q
        simp only [hf.2, Bool.false_eq_true, if_false] at w
        refine stepE E n w fun r1 H1 h1 v V x1 E1 n1 p1 w1 => ?_
        cases v <;> first | exact w1.elim | skip
        simp only [Rep] at p1
        exact ⟨_, p1, w1 r1 H1 _ Ext.refl E1 rfl⟩
    refine PEimp (pe_slice (L2.SlR.or sl_list sl_str) (sndA a X c W FC G tk _ h1).1 (part l f (fun x h => (sndA l X c W FC G tk x h).1) h2) (part u g (fun x h => (sndA u X c W FC G tk x h).1) h3)) fun σ H Q q => ?_
    obtain ⟨r, e, h, E, n, w⟩ := q
    refine stepE E n w fun r1 H1 h1 va A x1 E1 n1 p1 w1 => ?_
    refine stepO E1 n1 w1 fun r2 H2 h2 lo x2 E2 n2 w2 => ?_
    refine stepO E2 n2 w2 fun r3 H3 h3 hi x3 E3 n3 w3 => ?_
    cases g : slcV h3 va lo hi with
    | none => rw [g] at w3; exact w3.elim
    | some z =>
      rw [g] at w3
      unfold slcV at g
      split at g
      · split at g
        · rename_i hz
          cases g
          simp only [Rep] at p1
          exact .inr ⟨_, p1, by rw [← sz_eq]; exact hz, w3 _ _ _ Ext.refl E3 rep_str⟩
        · cases g
      left
      obtain ⟨xs, e1, e2⟩ := Option.map_eq_some_iff.mp g
      subst e2
      obtain ⟨b, vs, rfl, l1, q1⟩ := getL_ok E3 e1 (Rep.mono (x2.trans x3) _ _ p1)
      refine ⟨b, vs, rfl, sq_of l1, fun p hp => ?_⟩
      obtain ⟨y1, y2, y3⟩ := new_lst E3 hp (q1.cut (lo := lo) (hi := hi))
      exact w3 _ _ _ y1 y2 y3
  | .call f es, X, c, W, FC, G, tk, x, hh => by
    unfold ckE at hh
    split at hh <;> first | (cases hh; done) | skip
    refine fin3 ?_ rfl
    rename_i y p xs pos
    simp only [Bool.and_eq_true, decide_eq_true_eq] at hh
    obtain ⟨⟨h1, h2⟩, h3⟩ := hh
    obtain ⟨a, fd, ps, F, m1, m2, m3⟩ := FC.fn f _ h1
    obtain ⟨g1, g2⟩ := gl_of G h2
    simp only [evE]
    have use : ∀ {x : Expr}, PE X x (tCallS (spR X.K cA cF C f) (WE W) (tAs X.K cA cF W (evEs T C es))) → PE X x (tE X.K cA cF W fun e h => (evEs T C es e h).bind fun xs h => C f xs h) := fun p => PEimp p fun σ H Q q => by
      obtain ⟨r, e, h, E, n, w⟩ := q
      refine stepA E n w fun r1 H1 h1 vs VS x1 E1 n1 p1 w1 => ?_
      exact ⟨r1, vs, h1, E1, p1, w1⟩
    cases xs with
    | nil =>
      refine use (PEimp (pe_callS0 F (G.rm.mono (Nat.le_succ k)) g1 m1 m2 m3 (fun σ => passAt tk σ) g2) fun σ H Q q => ?_)
      cases es with
      | cons _ _ => simp [ckEs] at h3
      | nil =>
        obtain ⟨r, e, h, E, n, w⟩ := q
        simp only [evEs] at w
        exact w r H [] Ext.refl E (by simp only [Reps])
    | cons z zs =>
      have hs : noStar z = true := by
        cases es with
        | nil => simp [ckEs] at h3
        | cons b bs => simp only [ckEs, Bool.and_eq_true] at h3; exact h3.1.1
      have hany : (backTo pos (starEach zs X.env)).any (·.1) = false := by
        cases es with
        | nil => simp [ckEs] at h3
        | cons b bs => simp only [ckEs, Bool.and_eq_true] at h3; exact star_any h3.2
      exact use (pe_callS F (G.rm.mono (Nat.le_succ k)) g1 m1 m2 m3 (fun σ => passAt tk σ) (sndEsA es X c W FC G tk _ h3) g2 (star_cons hs) hany)
  | .bi b es, X, c, W, FC, G, tk, x, hh => by
    unfold ckE at hh
    split at hh <;> first | (cases hh; done) | skip
    refine fin3 ?_ rfl
    rename_i y p z zs pos
    simp only [Bool.and_eq_true, decide_eq_true_eq] at hh
    obtain ⟨⟨⟨rfl, h1⟩, h2⟩, h3⟩ := hh
    obtain ⟨g1, g2⟩ := gl_of G h1
    have hm := FC.free _ h2
    have hs : noStar z = true := by
      cases es with
      | nil => simp [ckEs] at h3
      | cons b bs => simp only [ckEs, Bool.and_eq_true] at h3; exact h3.1.1
    have hany : (backTo pos (starEach zs X.env)).any (·.1) = false := by
      cases es with
      | nil => simp [ckEs] at h3
      | cons b bs => simp only [ckEs, Bool.and_eq_true] at h3; exact star_any h3.2
    simp only [evE]
    have use : ∀ {x : Expr}, PE X x (tCB (rBi X.K cA cF fun h => biV h b) (tAs X.K cA cF W (evEs T C es))) → PE X x (tE X.K cA cF W fun e h => (evEs T C es e h).bind fun xs h => R.of (biV h b xs) h) := fun p => PEimp p fun σ H Q q => by
      obtain ⟨r, e, h, E, n, w⟩ := q
      refine stepA E n w fun r1 H1 h1 vs VS x1 E1 n1 p1 w1 => ?_
      cases g : biV h1 b vs with
      | none => rw [g] at w1; exact w1.elim
      | some z => rw [g] at w1; exact ⟨r1, h1, vs, z, E1, p1, g, w1⟩
    have fn : ∀ {id : String}, biVal b = .builtin id → bootBuiltins (Str.ofString (biN b)) = some (.builtin id) → Str.ofString (biN b) ≠ "__name__" → PE X (.Call (.Name (Str.ofString (biN b)) p) (z :: zs) [] pos) (tE X.K cA cF W fun e h => (evEs T C es e h).bind fun xs h => R.of (biV h b xs) h) := fun e1 e2 e3 =>
      use (pe_callB (by rw [← e1]; exact bi_ok G.calm b) g1 hm e2 (sndEsA es X c W FC G tk _ h3) e3 g2 (star_cons hs) hany)
    have ty : ∀ {id : String}, biVal b = .type id → bootBuiltins (Str.ofString (biN b)) = some (.type id) → Str.ofString (biN b) ≠ "__name__" → PE X (.Call (.Name (Str.ofString (biN b)) p) (z :: zs) [] pos) (tE X.K cA cF W fun e h => (evEs T C es e h).bind fun xs h => R.of (biV h b xs) h) := fun e1 e2 e3 =>
      use (pe_callTy (by rw [← e1]; exact bi_ok G.calm b) g1 hm e2 (sndEsA es X c W FC G tk _ h3) e3 g2 (star_cons hs) hany)
    cases b <;> first
      | exact fn rfl (by decide +kernel) (by decide +kernel)
      | exact ty rfl (by decide +kernel) (by decide +kernel)
  | .me m o es, X, c, W, FC, G, tk, x, hh => by
    unfold ckE at hh
    split at hh <;> first | (cases hh; done) | skip
    refine fin3 ?_ rfl
    simp only [Bool.and_eq_true, decide_eq_true_eq] at hh
    obtain ⟨⟨⟨⟨⟨h0, rfl⟩, h1⟩, h2⟩, h3⟩, h4⟩ := hh
    simp only [evE]
    rename_i y ap xs pos
    have one : ∀ {m : Me}, esL es = 1 → ∃ a f, es = .cons a .nil ∧ xs = [f] ∧ noStar f = true ∧ ckE c a f = true := by
      intro m he
      cases es with
      | nil => cases he
      | cons a as =>
        cases as with
        | cons b bs => exact absurd he (by show esL bs + 1 + 1 ≠ 1; omega)
        | nil =>
          cases xs with
          | nil => simp [ckEs] at h4
          | cons f fs =>
            cases fs with
            | cons _ _ => simp [ckEs] at h4
            | nil =>
              simp only [ckEs, Bool.and_eq_true] at h4
              exact ⟨a, f, rfl, rfl, h4.1.1, h4.1.2⟩
    have two : ∀ {m : Me} {r : V → List V → Hp → VK → Prop} {a : E} {f : Expr}, es = .cons a .nil → (∀ x, meK m x = isStr x) → PE X (.Call (.Attribute y (Str.ofString (meN m)) ap) [f] [] pos) (tM1 r (tE X.K cA cF W (evE T C o)) (tE X.K cA cF W (evE T C a))) →
        (∀ rr H h s u U z Q, Emb X.K cA cF H rr h → Rep X.K cA cF H rr u U → meV h m (.str s) [u] = some z → (∀ r' H' V, Ext rr H r' H' → Emb X.K cA cF H' r' h → Rep X.K cA cF H' r' z V → Q V H') → r (.str s) [U] H Q) →
        PE X (.Call (.Attribute y (Str.ofString (meN m)) ap) [f] [] pos) (tE X.K cA cF W fun e h => (evE T C o e h).bind fun x h => if meK m x = true then (evEs T C es e h).bind fun xs h => R.of (meV h m x xs) h else .bad) := by
      intro m r a f ee hk p hr
      subst ee
      refine PEimp p fun σ H Q q => ?_
      obtain ⟨r0, e, h, E, n, w⟩ := q
      refine stepE E n w fun r1 H1 h1 va A x1 E1 n1 p1 w1 => ?_
      rw [hk] at w1
      cases va <;> first | exact w1.elim | skip
      simp only [Rep] at p1
      subst p1
      refine ⟨⟨_, rfl⟩, ?_⟩
      simp only [isStr, if_true, evEs] at w1
      refine stepE E1 n1 (f := evE T C a) (k := fun x h => (R.ok [x] h).bind fun xs h => R.of (meV h m _ xs) h) (by
        cases q2 : evE T C a e h1 with
        | ok v h2 => rw [q2] at w1; exact w1
        | exc x h2 => rw [q2] at w1; exact w1
        | bad => rw [q2] at w1; exact w1) fun r2 H2 h2 vb B x2 E2 n2 p2 w2 => ?_
      simp only [R.bind_ok] at w2
      cases g : meV h2 m (.str _) [vb] with
      | none => rw [g] at w2; exact w2.elim
      | some z => rw [g] at w2; exact hr _ _ _ _ _ _ _ _ E2 p2 g w2
    cases m with
    | bitlen =>
      cases es with
      | cons z zs => exact absurd h0 (by show esL zs + 1 ≠ 0; omega)
      | nil =>
        cases xs with
        | cons _ _ => simp [ckEs] at h4
        | nil =>
          refine PEimp (pe_bits (sndA o X c W FC G tk y h3).1 (attr_plain h1) h2) fun σ H Q q => ?_
          obtain ⟨r, e, h, E, n, w⟩ := q
          refine stepE E n w fun r1 H1 h1 va A x1 E1 n1 p1 w1 => ?_
          simp only [meK, if_true, evEs, R.bind_ok] at w1
          cases va <;> first | exact w1.elim | skip
          simp only [Rep] at p1
          exact ⟨_, p1, w1 r1 H1 _ Ext.refl E1 rep_int⟩
    | upper =>
      cases es with
      | cons z zs => exact absurd h0 (by show esL zs + 1 ≠ 0; omega)
      | nil =>
        cases xs with
        | cons _ _ => simp [ckEs] at h4
        | nil =>
          refine PEimp (pe_upper (sndA o X c W FC G tk y h3).1 (attr_plain h1) h2) fun σ H Q q => ?_
          obtain ⟨r, e, h, E, n, w⟩ := q
          refine stepE E n w fun r1 H1 h1 va A x1 E1 n1 p1 w1 => ?_
          simp only [meK] at w1
          cases va <;> first | exact w1.elim | skip
          simp only [isStr, if_true, evEs, R.bind_ok] at w1
          simp only [Rep] at p1
          subst p1
          simp only [meV] at w1
          split at w1
          · rename_i hz
            exact ⟨⟨_, rfl⟩, _, rfl, rfl, hz, w1 r1 H1 _ Ext.refl E1 rep_str⟩
          · exact w1.elim
    | strip1 =>
      obtain ⟨a, f, e1, rfl, hs, hf⟩ := one (m := .strip1) h0
      refine two e1 (fun _ => rfl) (pe_m1 F.slot_str_strip F.type_str_strip mt_stripChars (sndA o X c W FC G tk y h3).1 (sndA a X c W FC G tk f hf).1 (star_cons hs) (attr_plain h1) h2) fun rr H h s u U z Q E p g q => ?_
      cases u <;> first | (simp only [meV] at g; cases g; done) | skip
      simp only [meV] at g
      split at g
      · rename_i hz
        cases g
        simp only [Rep] at p
        subst p
        exact ⟨_, _, rfl, rfl, by rw [← sz_eq]; exact hz, q _ _ _ Ext.refl E rep_str⟩
      · cases g
    | rstrip1 =>
      obtain ⟨a, f, e1, rfl, hs, hf⟩ := one (m := .rstrip1) h0
      refine two e1 (fun _ => rfl) (pe_m1 F.slot_str_rstrip F.type_str_rstrip mt_rstripChars (sndA o X c W FC G tk y h3).1 (sndA a X c W FC G tk f hf).1 (star_cons hs) (attr_plain h1) h2) fun rr H h s u U z Q E p g q => ?_
      cases u <;> first | (simp only [meV] at g; cases g; done) | skip
      simp only [meV] at g
      split at g
      · rename_i hz
        cases g
        simp only [Rep] at p
        subst p
        exact ⟨_, _, rfl, rfl, by rw [← sz_eq]; exact hz, q _ _ _ Ext.refl E rep_str⟩
      · cases g
    | starts =>
      obtain ⟨a, f, e1, rfl, hs, hf⟩ := one (m := .starts) h0
      refine two e1 (fun _ => rfl) (pe_m1 F.slot_str_startswith F.type_str_startswith mt_startswith (sndA o X c W FC G tk y h3).1 (sndA a X c W FC G tk f hf).1 (star_cons hs) (attr_plain h1) h2) fun rr H h s u U z Q E p g q => ?_
      cases u <;> first | (simp only [meV] at g; cases g; done) | skip
      simp only [meV] at g
      cases g
      simp only [Rep] at p
      subst p
      exact ⟨_, _, rfl, rfl, q _ _ _ Ext.refl E rep_bl⟩
    | part =>
      obtain ⟨a, f, e1, rfl, hs, hf⟩ := one (m := .part) h0
      refine two e1 (fun _ => rfl) (pe_m1 F.slot_str_partition F.type_str_partition mt_partition (sndA o X c W FC G tk y h3).1 (sndA a X c W FC G tk f hf).1 (star_cons hs) (attr_plain h1) h2) fun rr H h s u U z Q E p g q => ?_
      cases u <;> first | (simp only [meV] at g; cases g; done) | skip
      simp only [meV] at g
      split at g
      · rename_i hz
        cases g
        simp only [Rep] at p
        subst p
        refine ⟨_, _, rfl, rfl, hz.1, by rw [← sz_eq]; exact hz.2, fun p hp => ?_⟩
        obtain ⟨y1, y2, y3⟩ := new_tup E hp (strs_reps (cA := cA) (cF := cF) [_, _, _])
        exact q _ _ _ y1 y2 y3
      · cases g
    | zfill =>
      obtain ⟨a, f, e1, rfl, hs, hf⟩ := one (m := .zfill) h0
      refine two e1 (fun _ => rfl) (pe_m1 F.slot_str_zfill F.type_str_zfill mt_zfill (sndA o X c W FC G tk y h3).1 (sndA a X c W FC G tk f hf).1 (star_cons hs) (attr_plain h1) h2) fun rr H h s u U z Q E p g q => ?_
      cases u <;> first | (simp only [meV] at g; cases g; done) | skip
      simp only [meV] at g
      split at g
      · rename_i hz
        cases g
        simp only [Rep] at p
        subst p
        exact ⟨_, _, rfl, rfl, hz, q _ _ _ Ext.refl E rep_str⟩
      · cases g
    | split1 =>
      obtain ⟨a, f, e1, rfl, hs, hf⟩ := one (m := .split1) h0
      refine two e1 (fun _ => rfl) (pe_m1 F.slot_str_split F.type_str_split mt_split (sndA o X c W FC G tk y h3).1 (sndA a X c W FC G tk f hf).1 (star_cons hs) (attr_plain h1) h2) fun rr H h s u U z Q E p g q => ?_
      cases u <;> first | (simp only [meV] at g; cases g; done) | skip
      simp only [meV] at g
      split at g
      · rename_i hz
        cases g
        simp only [Rep] at p
        subst p
        refine ⟨_, _, rfl, rfl, hz.1, by rw [← sz_eq]; exact hz.2, fun p hp => ?_⟩
        obtain ⟨y1, y2, y3⟩ := new_lst E hp (strs_reps (cA := cA) (cF := cF) (Txt.split _ _))
        exact q _ _ _ y1 y2 y3
      · cases g
    | join1 =>
      obtain ⟨a, f, e1, rfl, hs, hf⟩ := one (m := .join1) h0
      refine two e1 (fun _ => rfl) (pe_m1 F.slot_str_join F.type_str_join mt_join (sndA o X c W FC G tk y h3).1 (sndA a X c W FC G tk f hf).1 (star_cons hs) (attr_plain h1) h2) fun rr H h s u U z Q E p g q => ?_
      simp only [meV] at g
      obtain ⟨ys, k1, g⟩ := Option.bind_eq_some_iff.mp g
      obtain ⟨ss, k2, g⟩ := Option.bind_eq_some_iff.mp g
      split at g
      · rename_i hz
        cases g
        obtain ⟨b, vs, rfl, l1, q1⟩ := seq_ok E k1 p
        rw [strsOf_ok _ _ k2] at q1
        have := reps_strs _ _ q1
        subst this
        exact ⟨_, b, ss, rfl, rfl, l1, hz, q _ _ _ Ext.refl E rep_str⟩
      · cases g
  | .isT a m, X, c, W, FC, G, tk, x, hh => by
    unfold ckE at hh
    split at hh <;> first | (cases hh; done) | skip
    refine fin3 ?_ rfl
    simp only [Bool.and_eq_true, decide_eq_true_eq] at hh
    obtain ⟨⟨⟨⟨⟨⟨⟨⟨h0, rfl⟩, h1⟩, h2⟩, h3⟩, h4⟩, h5⟩, hn⟩, h6⟩ := hh
    rename_i p y yn py pos
    obtain ⟨g1, g2⟩ := gl_of G h1
    obtain ⟨g3, g4⟩ := gl_of G h3
    have hm := FC.free _ h2
    have hy := FC.free _ h4
    simp only [evE]
    have pn : PE X (.Name yn py) (tC (.ty m)) := pe_bltn (v := .ty m) g3 hy h5 rfl hn g4
    refine PEimp (pe_callB (isT_ok (cF := cF) FC.ex m) g1 hm (by decide +kernel) (pa_cons (sndA a X c W FC G tk _ h6).1 (pa_cons pn pa_nil) (star_cons h0)) (by decide +kernel) g2 (star_cons h0) rfl) fun σ H Q q => ?_
    obtain ⟨r, e, h, E, n, w⟩ := q
    refine stepE E n w fun r1 H1 h1 va A x1 E1 n1 p1 w1 => ?_
    cases g : isTV T h1 va m with
    | none => rw [g] at w1; exact w1.elim
    | some b => rw [g] at w1; exact ⟨r1, h1, va, A, b, E1, rfl, p1, g, w1 r1 H1 _ Ext.refl E1 rep_bl⟩
  | .isC a m, X, c, W, FC, G, tk, x, hh => by
    unfold ckE at hh
    split at hh <;> first | (cases hh; done) | skip
    refine fin3 ?_ rfl
    simp only [Bool.and_eq_true, decide_eq_true_eq] at hh
    obtain ⟨⟨⟨⟨⟨⟨h0, rfl⟩, h1⟩, h2⟩, h3⟩, h4⟩, h6⟩ := hh
    rename_i p y yn py pos
    obtain ⟨g1, g2⟩ := gl_of G h1
    obtain ⟨g3, g4⟩ := gl_of G h4
    have hm := FC.free _ h2
    obtain ⟨hy, _⟩ := FC.cl _ _ h3
    simp only [evE]
    have pn : PE X (.Name yn py) (tC (.ref (cA m))) := pe_glob (v := .ref (cA m)) g3 hy rfl g4
    refine PEimp (pe_callB (isC_ok (cF := cF) FC.ex (fun d h => (FC.ob d h).1) m) g1 hm (by decide +kernel) (pa_cons (sndA a X c W FC G tk _ h6).1 (pa_cons pn pa_nil) (star_cons h0)) (by decide +kernel) g2 (star_cons h0) rfl) fun σ H Q q => ?_
    obtain ⟨r, e, h, E, n, w⟩ := q
    refine stepE E n w fun r1 H1 h1 va A x1 E1 n1 p1 w1 => ?_
    cases g : isCV T va m with
    | none => rw [g] at w1; exact w1.elim
    | some b => rw [g] at w1; exact ⟨r1, h1, va, A, b, E1, rfl, p1, g, w1 r1 H1 _ Ext.refl E1 rep_bl⟩
  | .isCs a ds, X, c, W, FC, G, tk, x, hh => by
    unfold ckE at hh
    split at hh <;> first | (cases hh; done) | skip
    refine fin3 ?_ rfl
    simp only [Bool.and_eq_true, decide_eq_true_eq] at hh
    obtain ⟨⟨⟨⟨⟨⟨⟨h0, rfl⟩, h1⟩, h2⟩, h3⟩, h4⟩, h5⟩, h6⟩ := hh
    rename_i p y ys t2 t3 pos
    obtain ⟨g1, g2⟩ := gl_of G h1
    have hm := FC.free _ h2
    simp only [evE]
    have hne : ds ≠ [] := fun z => by subst z; cases h5
    have pn := pe_tup (x1 := t2) (pos := t3) (pcs_ok FC G ds ys h3)
    refine PEimp (pe_callB (isCs_ok (cF := cF) FC.ex ds hne) g1 hm (by decide +kernel) (pa_cons (sndA a X c W FC G tk _ h6).1 (pa_cons pn pa_nil rfl) (star_cons h0)) (by decide +kernel) g2 (star_cons h0) rfl) fun σ H Q q => ?_
    obtain ⟨r, e, h, E, n, w⟩ := q
    refine stepE E n w fun r1 H1 h1 va A x1 E1 n1 p1 w1 => ?_
    refine ⟨by rw [List.length_map, ← sz_eq]; exact Nat.le_trans h4 (by decide), fun p hp => ?_⟩
    obtain ⟨y1, y2, y3⟩ := E1.new (o := .tup (ds.map fun d => V.ref (cA d))) hp
    cases g : isCsV T va ds with
    | none => rw [g] at w1; exact w1.elim
    | some b => rw [g] at w1; exact ⟨r1, h1, va, A, p, b, y2, rfl, upd_same, Rep.mono y1 _ _ p1, g, w1 r1 _ _ y1 y2 rep_bl⟩
  | .atr o f, X, c, W, FC, G, tk, x, hh => by
    unfold ckE at hh
    split at hh <;> first | (cases hh; done) | skip
    refine fin3 ?_ rfl
    simp only [Bool.and_eq_true, decide_eq_true_eq] at hh
    obtain ⟨⟨rfl, h1⟩, h2⟩ := hh
    simp only [evE]
    refine PEimp (pe_fld (sndA o X c W FC G tk _ h2).1 (attr_plain h1)) fun σ H Q q => ?_
    obtain ⟨r, e, h, E, n, w⟩ := q
    refine stepE E n w fun r1 H1 h1 va A x1 E1 n1 p1 w1 => ?_
    cases g : atrV T h1 va f with
    | none => rw [g] at w1; exact w1.elim
    | some z =>
      rw [g] at w1
      unfold atrV at g
      obtain ⟨⟨d, xs⟩, g1, g2⟩ := Option.bind_eq_some_iff.mp g
      dsimp only at g2
      split at g2
      · rename_i ho
        obtain ⟨j, g3, g4⟩ := Option.bind_eq_some_iff.mp g2
        unfold fix at g3
        split at g3
        · rename_i hj
          cases g3
          obtain ⟨c1, c2⟩ := FC.ob d ho
          obtain ⟨ad, dx, vs, rfl, l1, q1⟩ := cls_rep E1 g1 p1
          obtain ⟨v, k1, k2⟩ := q1.get g4
          refine ⟨ad, cA d, dx, _, v, rfl, l1, c1, c2 f (List.idxOf_lt_length_iff.mp hj), ?_, w1 r1 H1 v Ext.refl E1 k2⟩
          rw [FC.fl, lookup_zip _ _ _ hj]; exact k1
        · cases g3
      · cases g2
  | .mcl o m es, X, c, W, FC, G, tk, x, hh => by
    unfold ckE at hh
    split at hh <;> first | (cases hh; done) | skip
    refine fin3 ?_ rfl
    simp only [Bool.and_eq_true, decide_eq_true_eq] at hh
    obtain ⟨⟨⟨⟨⟨rfl, hb⟩, hl⟩, hn⟩, h1⟩, h3⟩ := hh
    rename_i y ap xs pos
    simp only [evE]
    have use : ∀ {x : Expr}, PE X x (tMethS2 X (L2.CX X.prog X.w) k m (WE W) (tE X.K cA cF W (evE T C o)) (tAs X.K cA cF W (evEs T C es))) → PE X x (tE X.K cA cF W fun e h => (evE T C o e h).bind fun x h => (R.of (mthV T h x m) h).bind fun f h => (evEs T C es e h).bind fun xs h => C f (x :: xs) h) := fun p => PEimp p fun σ H Q q => by
      obtain ⟨r, e, h, E, n, w⟩ := q
      refine stepE E n w fun r1 H1 h1 va A x1 E1 n1 p1 w1 => ?_
      cases g : mthV T h1 va m with
      | none => rw [g] at w1; exact w1.elim
      | some f =>
        rw [g] at w1
        simp only [R.of_some, R.bind_ok] at w1
        unfold mthV at g
        obtain ⟨⟨d, zs⟩, g1, g2⟩ := Option.bind_eq_some_iff.mp g
        dsimp only at g2
        split at g2
        · rename_i ho
          obtain ⟨c1, c2⟩ := FC.ob d ho
          obtain ⟨nm, ad, fd, ps, F, M, B⟩ := FC.mt d m f ho g2
          obtain ⟨ao, dx, vs, rfl, l1, q1⟩ := cls_rep E1 g1 p1
          refine ⟨ao, cA d, dx, _, _, rfl, l1, by rw [FC.fl]; exact lookup_zip_none _ _ _ nm, ⟨c1, ad, fd, ps, M, F, B⟩, ?_⟩
          refine stepA E1 n1 w1 fun r2 H2 h2 vs VS x2 E2 n2 p2 w2 => ?_
          exact ⟨r2, va :: vs, h2, E2, by simp only [Reps]; exact ⟨_, _, rfl, Rep.mono x2 _ _ p1, p2⟩, w2⟩
        · cases g2
    cases xs with
    | nil =>
      refine use (PEimp (pe_methS20 (sndA o X c W FC G tk y h1).1 (G.rm.mono (Nat.le_succ k)) (fun σ => passAt tk σ) (meth_eval (attr_plain hb) (few_of rfl hn) hl)) fun σ H Q q => ?_)
      cases es with
      | cons _ _ => simp [ckEs] at h3
      | nil =>
        obtain ⟨r, e, h, E, n, w⟩ := q
        refine ⟨r, e, h, E, n, ?_⟩
        have mono : ∀ {res : R MV} {Q1 Q2 : VK} {Y : XK}, (∀ V H, Q1 V H → Q2 V H) → wpR X.K cA cF r H res Q1 Y → wpR X.K cA cF r H res Q2 Y := by
          intro res Q1 Q2 Y hq hw
          cases res with
          | ok v h' => exact fun r' H' V e1 e2 e3 => hq _ _ (hw r' H' V e1 e2 e3)
          | exc x h' => exact hw
          | bad => exact hw
        refine mono (fun V H1 z => ?_) w
        obtain ⟨a, C1, dx, fs, sp, z1, z2, z3, z4, z5⟩ := z
        refine ⟨a, C1, dx, fs, sp, z1, z2, z3, z4, ?_⟩
        obtain ⟨r5, e5, h5, E5, n5, w5⟩ := z5
        simp only [evEs] at w5
        exact w5 r5 H1 [] Ext.refl E5 (by simp only [Reps])
    | cons z zs =>
      have hs : noStar z = true := by
        cases es with
        | nil => simp [ckEs] at h3
        | cons b bs => simp only [ckEs, Bool.and_eq_true] at h3; exact h3.1.1
      have hany : (backTo pos (starEach zs X.env)).any (·.1) = false := by
        cases es with
        | nil => simp [ckEs] at h3
        | cons b bs => simp only [ckEs, Bool.and_eq_true] at h3; exact star_any h3.2
      exact use (pe_methS2 (sndA o X c W FC G tk y h1).1 (G.rm.mono (Nat.le_succ k)) (fun σ => passAt tk σ) (sndEsA es X c W FC G tk _ h3) (star_cons hs) hany (meth_eval (attr_plain hb) (few_of (by rw [star_cons hs]; show (false || (backTo pos (starEach zs X.env)).any (·.1)) = false; rw [hany]; rfl) hn) hl))
  | .new d es, X, c, W, FC, G, tk, x, hh => by
    unfold ckE at hh
    split at hh <;> first | (cases hh; done) | skip
    refine fin3 ?_ rfl
    simp only [Bool.and_eq_true, decide_eq_true_eq] at hh
    obtain ⟨⟨h1, h2⟩, h3⟩ := hh
    rename_i y p xs pos
    obtain ⟨m1, m2⟩ := FC.cl _ _ h1
    obtain ⟨g1, g2⟩ := gl_of G h2
    simp only [evE]
    have bad : PE X (.Call (.Name y p) xs [] pos) (fun _ _ _ => False) := ⟨fun _ _ _ _ _ _ h => h.elim⟩
    cases hi : T.ini d with
    | none =>
      simp only
      by_cases h0 : (nilE es && (T.n0 d && T.obj d)) = true
      · simp only [h0, if_true]
        simp only [Bool.and_eq_true] at h0
        cases es with
        | cons _ _ => simp [nilE] at h0
        | nil =>
          cases xs with
          | cons _ _ => simp [ckEs] at h3
          | nil =>
            obtain ⟨k1, k2⟩ := FC.m0 d h0.2.1
            refine PEimp (pe_make0N k1 k2 m2 g1 m1 g2) fun σ H Q q => ?_
            obtain ⟨r, e, h, E, n, w⟩ := q
            intro x dx hx hdx hne
            obtain ⟨y1, y2, y3⟩ := E.new (o := .own x) hdx
            obtain ⟨z1, z2, z3⟩ := y2.new (p := x) (o := .ins (cA d) dx []) (by rw [upd_ne hne.symm]; exact hx)
            refine w _ _ _ (y1.trans z1) z2 ?_
            simp only [Rep, Reps]
            exact ⟨x, dx, [], rfl, ⟨z3, by rw [List.zip_nil_right]; exact upd_same⟩, rfl⟩
      · simp only [h0, Bool.false_eq_true, if_false]
        refine PEimp bad fun σ H Q q => ?_
        obtain ⟨r, e, h, E, n, w⟩ := q
        exact w
    | some f =>
      simp only
      by_cases ho : T.obj d = true
      · simp only [ho, if_true]
        obtain ⟨ad, fd, ps, F, M, B⟩ := FC.mkI d f ho hi
        have use : ∀ {x : Expr}, PE X x (tMakeS (cA d) (spR X.K cA cF C f) (WE W) (tAs X.K cA cF W (evEs T C es))) → PE X x (tE X.K cA cF W fun e h => (evEs T C es e h).bind fun xs h => (C f (.ref h.length :: xs) (h ++ [.ins d []])).bind fun v h' => if isNon v = true then .ok (.ref h.length) h' else .bad) := fun p => PEimp p fun σ H Q q => by
          obtain ⟨r, e, h, E, n, w⟩ := q
          refine stepA E n w fun r1 H1 h1 vs VS x1 E1 n1 p1 w1 => ?_
          intro x dx hx hdx hne
          obtain ⟨y1, y2⟩ := E1.inst (c := d) hx hdx hne
          refine ⟨r1 ++ [x], .ref h1.length :: vs, _, y2, ?_, ?_⟩
          · simp only [Reps, Rep]
            exact ⟨_, _, rfl, ⟨x, rfl, by rw [← E1.len]; simp⟩, Reps.mono y1 _ _ p1⟩
          · replace w1 := wpG.mono y1 w1
            cases q2 : C f (.ref h1.length :: vs) (h1 ++ [.ins d []]) with
            | bad => rw [q2] at w1; exact w1.elim
            | exc z hz => rw [q2] at w1; exact w1
            | ok v hz =>
              rw [q2] at w1
              simp only [R.bind_ok] at w1
              intro r2 H2 V x2 E2 p2
              split at w1
              · rename_i hv
                have := rep_non_iff p2
                rw [hv] at this
                refine ⟨of_decide_eq_true this, w1 r2 H2 _ x2 E2 ?_⟩
                simp only [Rep]
                exact ⟨x, rfl, x2.get (by rw [← E1.len]; simp)⟩
              · exact w1.elim
        cases xs with
        | nil =>
          refine use (PEimp (pe_makeS0 M F G.rm g1 m1 B (fun σ => passAt tk σ) g2) fun σ H Q q => ?_)
          cases es with
          | cons _ _ => simp [ckEs] at h3
          | nil =>
            obtain ⟨r, e, h, E, n, w⟩ := q
            simp only [evEs] at w
            exact w r H [] Ext.refl E (by simp only [Reps])
        | cons z zs =>
          have hs : noStar z = true := by
            cases es with
            | nil => simp [ckEs] at h3
            | cons b bs => simp only [ckEs, Bool.and_eq_true] at h3; exact h3.1.1
          have hany : (backTo pos (starEach zs X.env)).any (·.1) = false := by
            cases es with
            | nil => simp [ckEs] at h3
            | cons b bs => simp only [ckEs, Bool.and_eq_true] at h3; exact star_any h3.2
          exact use (pe_makeS M F G.rm g1 m1 B (fun σ => passAt tk σ) (sndEsA es X c W FC G tk _ h3) g2 (star_cons hs) hany)
      · simp only [ho, Bool.false_eq_true, if_false]
        refine PEimp bad fun σ H Q q => ?_
        obtain ⟨r, e, h, E, n, w⟩ := q
        exact w
  | .cll a, X, c, W, FC, G, tk, x, hh => by
    unfold ckE at hh
    split at hh <;> first | (cases hh; done) | skip
    refine fin3 ?_ rfl
    simp only [Bool.and_eq_true, decide_eq_true_eq] at hh
    obtain ⟨⟨⟨⟨h0, rfl⟩, h1⟩, h2⟩, h6⟩ := hh
    rename_i p y pos
    obtain ⟨g1, g2⟩ := gl_of G h1
    have hm := FC.free _ h2
    simp only [evE]
    refine PEimp (pe_callTy call_list_of g1 hm (by decide +kernel) (pa_cons (sndA a X c W FC G tk _ h6).1 pa_nil (star_cons h0)) (by decide +kernel) g2 (star_cons h0) rfl) fun σ H Q q => ?_
    obtain ⟨r, e, h, E, n, w⟩ := q
    refine stepE E n w fun r1 H1 h1 va A x1 E1 n1 p1 w1 => ?_
    cases g : seqOf h1 va with
    | none => rw [g] at w1; exact w1.elim
    | some xs =>
      rw [g] at w1
      obtain ⟨b, vs, rfl, l1, q1⟩ := seq_ok E1 g p1
      refine ⟨b, vs, rfl, l1, fun l hl => ?_⟩
      obtain ⟨y1, y2⟩ := E1.cell hl q1
      refine w1 _ _ _ y1 y2 ?_
      simp only [Rep]
      exact ⟨l, rfl, by rw [← E1.len]; simp⟩
  | .lcm cl tg vs it a, X, c, W, FC, G, tk, x, hh => by
    unfold ckE at hh
    split at hh <;> first | (cases hh; done) | skip
    refine ⟨?_, ⟨fun z => by (exact absurd z (by simp [tsB, plT])), fun z => by (exact absurd z (by simp [isBO]))⟩⟩
    simp only [Bool.and_eq_true, decide_eq_true_eq] at hh
    obtain ⟨⟨⟨⟨⟨rfl, h1⟩, h2⟩, h3⟩, h4⟩, h5⟩ := hh
    rename_i elt t iter scope pos
    simp only [evE]
    have hv := ownOf_snd c.N vs
    refine PEimp (pe_lc (own := ownOf c.N vs) (g := tGw X.K cA cF vs tg) (te := tE X.K cA cF noW (evE T C a)) G.calm G.nd (sndI it X c W FC G tk _ _ h3) (by rw [G.hN, G.sc]; exact blkOk_by h1) (fun s H C' cl fp => pgw_ok (X := X.blk s H scope (compEnvC scope cl C' X.env) fp) (cA := cA) (cF := cF) (c := c.blk scope) (vs := vs) (tg := tg) G.calm G.nd G.hN (by rw [Ck.blk, ← G.sc]; rfl) _ h4)
      (fun s H C cl fp => pts_nil) (fun s H C' cl fp => (sndA a (X.blk s H scope (compEnvC scope cl C' X.env) fp) (c.blk scope) noW (FC.re (c := c) (c' := c.blk scope) rfl rfl rfl rfl rfl) ⟨G.hN, by rw [Ck.blk, ← G.sc]; rfl, G.rm, G.calm, G.nd, ⟨G.deep.seer, G.deep.tree, G.deep.room, G.deep.stk⟩⟩ takes_no _ h5).1) (set_pl h2)) fun σ H Q q => ?_
    rw [hv]
    exact lc_imp q
  | .lcf tg vs it b a, X, c, W, FC, G, tk, x, hh => by
    unfold ckE at hh
    split at hh <;> first | (cases hh; done) | skip
    refine ⟨?_, ⟨fun z => by (exact absurd z (by simp [tsB, plT])), fun z => by (exact absurd z (by simp [isBO]))⟩⟩
    simp only [Bool.and_eq_true, decide_eq_true_eq] at hh
    obtain ⟨⟨⟨⟨⟨⟨⟨rfl, h1⟩, h2⟩, h3⟩, h4⟩, h5⟩, h6⟩, h7⟩ := hh
    rename_i elt t iter cd scope pos
    simp only [evE]
    have hv := ownOf_snd c.N vs
    refine PEimp (pe_lc (own := ownOf c.N vs) (g := tGw X.K cA cF vs tg) (tt := tTt X.K cA cF noW (evE T C b)) (te := tE X.K cA cF noW (evE T C a)) G.calm G.nd (sndI it X c W FC G tk _ _ h3) (by rw [G.hN, G.sc]; exact blkOk_by h1) (fun s H C' cl fp => pgw_ok (X := X.blk s H scope (compEnvC scope cl C' X.env) fp) (cA := cA) (cF := cF) (c := c.blk scope) (vs := vs) (tg := tg) G.calm G.nd G.hN (by rw [Ck.blk, ← G.sc]; rfl) _ h4)
      (fun s H C' cl fp => pts_one ((sndA b (X.blk s H scope (compEnvC scope cl C' X.env) fp) (c.blk scope) noW (FC.re (c := c) (c' := c.blk scope) rfl rfl rfl rfl rfl) ⟨G.hN, by rw [Ck.blk, ← G.sc]; rfl, G.rm, G.calm, G.nd, ⟨G.deep.seer, G.deep.tree, G.deep.room, G.deep.stk⟩⟩ takes_no _ h6).2.1 h7)) (fun s H C' cl fp => (sndA a (X.blk s H scope (compEnvC scope cl C' X.env) fp) (c.blk scope) noW (FC.re (c := c) (c' := c.blk scope) rfl rfl rfl rfl rfl) ⟨G.hN, by rw [Ck.blk, ← G.sc]; rfl, G.rm, G.calm, G.nd, ⟨G.deep.seer, G.deep.tree, G.deep.room, G.deep.stk⟩⟩ takes_no _ h5).1) (set_pl h2)) fun σ H Q q => ?_
    rw [hv]
    exact lcf_imp q
  | .mnd a d, X, c, W, FC, G, tk, x, hh => by
    unfold ckE at hh
    split at hh <;> first | (cases hh; done) | skip
    refine fin3 ?_ rfl
    simp only [Bool.and_eq_true, decide_eq_true_eq] at hh
    obtain ⟨⟨⟨⟨⟨⟨h0, rfl⟩, rfl⟩, h1⟩, h2⟩, h3⟩, h4⟩ := hh
    obtain ⟨g1, g2⟩ := gl_of G h1
    simp only [evE]
    refine PEimp (pe_callBK (cr_mnd G.calm G.rm.units) g1 (FC.free _ h2) (by decide +kernel) (pa_cons (sndA a X c W FC G tk _ h3).1 pa_nil (star_cons h0)) (pk_cons (sndA d X c W FC G tk _ h4).1 pk_nil) (by decide +kernel) g2 (by rw [star_cons h0]; rfl) (by rw [star_cons h0]; rfl)) fun σ H Q q => ?_
    obtain ⟨r, e, h, E, n, w⟩ := q
    refine stepE E n w fun r1 H1 h1 va A x1 E1 n1 p1 w1 => ?_
    refine stepE E1 n1 w1 fun r2 H2 h2 vb B x2 E2 n2 p2 w2 => ?_
    cases g : mndV h2 va vb with
    | none => rw [g] at w2; exact w2.elim
    | some z =>
      rw [g] at w2
      unfold mndV at g
      obtain ⟨ys, e1, g⟩ := Option.bind_eq_some_iff.mp g
      obtain ⟨is, e2, g⟩ := Option.map_eq_some_iff.mp g
      subst g
      obtain ⟨b, vs, rfl, l1, q1⟩ := getL_ok E2 e1 (Rep.mono x2 _ _ p1)
      rw [intsOf_ok _ _ e2] at q1
      have := reps_ints _ _ q1
      subst this
      refine ⟨b, is, B, rfl, rfl, sq_of l1, ?_⟩
      cases is with
      | nil => exact w2 r2 H2 B Ext.refl E2 p2
      | cons i is => exact w2 r2 H2 _ Ext.refl E2 rep_int
theorem sndEsA : ∀ (es : Es) (X : Cx) (c : Ck) (W : WX) (FC : Fc X.prog X.w X.K X.mg X.base cA cF T C k c) (G : Gd X c k) (tk : Takes X W) (xs : List Expr), ckEs c es xs = true → PA X xs (tAs X.K cA cF W (evEs T C es))
  | .nil, X, c, W, FC, G, tk, xs, hh => by
    cases xs with
    | cons _ _ => simp [ckEs] at hh
    | nil =>
      refine PAimp pa_nil fun σ H Q q => ?_
      obtain ⟨r, e, h, E, n, w⟩ := q
      simp only [evEs] at w
      exact w r H [] Ext.refl E (by simp only [Reps])
  | .cons a es, X, c, W, FC, G, tk, xs, hh => by
    cases xs with
    | nil => simp [ckEs] at hh
    | cons x xs =>
      simp only [ckEs, Bool.and_eq_true] at hh
      obtain ⟨⟨h1, h2⟩, h3⟩ := hh
      refine PAimp (pa_cons (sndA a X c W FC G tk x h2).1 (sndEsA es X c W FC G tk xs h3) (star_cons h1)) fun σ H Q q => ?_
      obtain ⟨r, e, h, E, n, w⟩ := q
      simp only [evEs] at w
      refine stepE E n w fun r1 H1 h1 va A x1 E1 n1 p1 w1 => ?_
      refine stepA E1 n1 w1 fun r2 H2 h2 vs VS x2 E2 n2 p2 w2 => ?_
      exact w2 r2 H2 (A :: VS) Ext.refl E2 (by simp only [Reps]; exact ⟨A, VS, rfl, Rep.mono x2 _ _ p1, p2⟩)
theorem sndI : ∀ (it : I) (X : Cx) (c : Ck) (W : WX) (FC : Fc X.prog X.w X.K X.mg X.base cA cF T C k c) (G : Gd X c k) (tk : Takes X W) (tg x : Expr), ckI c tg it x = true → PI X tg x (tI X.K cA cF W (itE T C it))
  | .seq a, X, c, W, FC, G, tk, tg, x, hh => by
    simp only [ckI, Bool.and_eq_true] at hh
    refine PIimp (pi_seq (sndA a X c W FC G tk x hh.2).1) fun σ H Q q => ?_
    obtain ⟨r, e, h, E, n, w⟩ := q
    refine ⟨r, e, h, E, n, ?_⟩
    simp only [itE] at w
    cases q : evE T C a e h with
    | bad => rw [q] at w; exact w
    | exc y h1 => rw [q] at w; exact w
    | ok v h1 =>
      rw [q] at w
      simp only [R.bind_ok] at w
      intro r1 H1 V x1 E1 p1
      cases g : seqOf h1 v with
      | none =>
        rw [g] at w
        cases v <;> first | exact w.elim | skip
        have p2 := p1
        simp only [Rep] at p2
        exact .inr ⟨_, p2, w r1 H1 _ _ x1 E1 trivial lk_str⟩
      | some xs =>
        rw [g] at w
        left
        by_cases hv : ∃ ys, v = .tup ys
        · obtain ⟨ys, rfl⟩ := hv
          simp only [seqOf, Option.some.injEq] at g
          subst g
          have p := p1
          simp only [Rep] at p
          obtain ⟨a, vs, rfl, ⟨_, h1⟩, _⟩ := p
          exact ⟨a, rfl, .inr ⟨⟨vs, SqT.of h1⟩, w r1 H1 _ _ x1 E1 p1 lk_tup⟩⟩
        · have hs : ∀ h, seqOf h v = getL h v := by
            intro h
            cases v <;> first | rfl | exact absurd ⟨_, rfl⟩ hv
          obtain ⟨a, vs, rfl, l1, q1⟩ := getL_ok E1 (by rw [← hs]; exact g) p1
          exact ⟨a, rfl, .inl ⟨⟨vs, sq_of l1⟩, w r1 H1 _ _ x1 E1 p1 (lk_list hs)⟩⟩
  | .rng1 a, X, c, W, FC, G, tk, tg, x, hh => by
    simp only [ckI] at hh
    split at hh <;> first | (cases hh; done) | skip
    simp only [Bool.and_eq_true, decide_eq_true_eq] at hh
    obtain ⟨⟨⟨⟨h0, rfl⟩, h1⟩, h2⟩, h3⟩ := hh
    obtain ⟨g1, g2⟩ := gl_of G h1
    refine PIimp (pi_range1 g1 (FC.free _ h2) (pa_cons (sndA a X c W FC G tk _ h3).1 pa_nil (star_cons h0)) (star_cons h0)) fun σ H Q q => ?_
    obtain ⟨r, e, h, E, n, w⟩ := q
    simp only [itE] at w
    refine ⟨r, e, h, E, n, ?_⟩
    cases q : evE T C a e h with
    | bad => rw [q] at w; exact w
    | exc y h1 => rw [q] at w; exact w
    | ok v h1 =>
      rw [q] at w
      simp only [R.bind_ok] at w
      intro r1 H1 V x1 E1 p1
      cases v <;> first | exact w.elim | skip
      simp only [Rep] at p1
      subst p1
      rename_i j
      by_cases hj : -(2 ^ 62) ≤ j ∧ j < 2 ^ 62
      · simp only [if_pos hj] at w
        exact ⟨_, rfl, hj.1, hj.2, w r1 H1 _ _ x1 E1 trivial lk_rng⟩
      · simp only [if_neg hj] at w
  | .rng2 a b, X, c, W, FC, G, tk, tg, x, hh => by
    simp only [ckI] at hh
    split at hh <;> first | (cases hh; done) | skip
    simp only [Bool.and_eq_true, decide_eq_true_eq] at hh
    obtain ⟨⟨⟨⟨⟨⟨h0, h0'⟩, rfl⟩, h1⟩, h2⟩, h3⟩, h4⟩ := hh
    obtain ⟨g1, g2⟩ := gl_of G h1
    refine PIimp (pi_range2 g1 (FC.free _ h2) (pa_cons (sndA a X c W FC G tk _ h3).1 (pa_cons (sndA b X c W FC G tk _ h4).1 pa_nil (star_cons h0')) (star_cons h0)) (by rw [star_cons h0, star_cons h0']; rfl) (star_cons h0')) fun σ H Q q => ?_
    obtain ⟨r, e, h, E, n, w⟩ := q
    simp only [itE] at w
    refine ⟨r, e, h, E, n, ?_⟩
    cases q : evE T C a e h with
    | bad => rw [q] at w; exact w
    | exc y h1 => rw [q] at w; exact w
    | ok v h1 =>
      rw [q] at w
      simp only [R.bind_ok] at w
      intro r1 H1 V x1 E1 p1
      refine ⟨r1, e, h1, E1, n.mono x1, ?_⟩
      cases q2 : evE T C b e h1 with
      | bad => rw [q2] at w; exact w
      | exc y h2 => rw [q2] at w; exact fun r' H' cls d e1 e2 e3 => w r' H' cls d (x1.trans e1) e2 e3
      | ok u h2 =>
        rw [q2] at w
        simp only [R.bind_ok] at w
        intro r2 H2 U x2 E2 p2
        cases v <;> first | exact w.elim | skip
        cases u <;> first | exact w.elim | skip
        simp only [Rep] at p1 p2
        subst p1 p2
        rename_i i j
        by_cases hj : (-(2 ^ 62) ≤ i ∧ i < 2 ^ 62) ∧ -(2 ^ 62) ≤ j ∧ j < 2 ^ 62
        · simp only [if_pos hj] at w
          exact ⟨_, _, rfl, ⟨hj.1.1, hj.1.2, hj.2.1, hj.2.2⟩, w r2 H2 _ _ (x1.trans x2) E2 trivial lk_rng⟩
        · simp only [if_neg hj] at w
  | .rng3 a b d, X, c, W, FC, G, tk, tg, x, hh => by
    simp only [ckI] at hh
    split at hh <;> first | (cases hh; done) | skip
    simp only [Bool.and_eq_true, decide_eq_true_eq] at hh
    obtain ⟨⟨⟨⟨⟨⟨⟨⟨h0, h0'⟩, h0''⟩, rfl⟩, h1⟩, h2⟩, h3⟩, h4⟩, h5⟩ := hh
    obtain ⟨g1, g2⟩ := gl_of G h1
    refine PIimp (pi_range3 g1 (FC.free _ h2) (pa_cons (sndA a X c W FC G tk _ h3).1 (pa_cons (sndA b X c W FC G tk _ h4).1 (pa_cons (sndA d X c W FC G tk _ h5).1 pa_nil (star_cons h0'')) (star_cons h0')) (star_cons h0)) (star_cons h0) (by rw [star_cons h0', star_cons h0'']; rfl)) fun σ H Q q => ?_
    obtain ⟨r, e, h, E, n, w⟩ := q
    simp only [itE] at w
    refine ⟨r, e, h, E, n, ?_⟩
    cases q : evE T C a e h with
    | bad => rw [q] at w; exact w
    | exc y h1 => rw [q] at w; exact w
    | ok v h1 =>
      rw [q] at w
      simp only [R.bind_ok] at w
      intro r1 H1 V x1 E1 p1
      refine ⟨r1, e, h1, E1, n.mono x1, ?_⟩
      cases q2 : evE T C b e h1 with
      | bad => rw [q2] at w; exact w
      | exc y h2 => rw [q2] at w; exact fun r' H' cls d e1 e2 e3 => w r' H' cls d (x1.trans e1) e2 e3
      | ok u h2 =>
        rw [q2] at w
        simp only [R.bind_ok] at w
        intro r2 H2 U x2 E2 p2
        refine ⟨r2, e, h2, E2, (n.mono x1).mono x2, ?_⟩
        cases q3 : evE T C d e h2 with
        | bad => rw [q3] at w; exact w
        | exc y h3 => rw [q3] at w; exact fun r' H' cls d e1 e2 e3 => w r' H' cls d ((x1.trans x2).trans e1) e2 e3
        | ok z h3 =>
          rw [q3] at w
          simp only [R.bind_ok] at w
          intro r3 H3 Z x3 E3 p3
          cases v <;> first | exact w.elim | skip
          cases u <;> first | exact w.elim | skip
          cases z <;> first | exact w.elim | skip
          simp only [Rep] at p1 p2 p3
          subst p1 p2 p3
          rename_i i j s
          by_cases hj : rg3B i j s = true
          · simp only [if_pos hj] at w
            have hb := hj
            unfold rg3B at hj
            simp only [Bool.and_eq_true, decide_eq_true_eq] at hj
            exact ⟨i, j, s, (Builtin.Range.rangeSize i j s).toNat, rfl, ⟨hj.1, hj.2.1, hj.2.2.1, by have := hj.2.2.2; omega⟩, w r3 H3 _ _ ((x1.trans x2).trans x3) E3 trivial lk_rg3⟩
          · simp only [if_neg hj] at w
  | .zip a b, X, c, W, FC, G, tk, tg, x, hh => by
    simp only [ckI] at hh
    split at hh <;> first | (cases hh; done) | skip
    simp only [Bool.and_eq_true, decide_eq_true_eq] at hh
    obtain ⟨⟨⟨⟨⟨⟨⟨ht, h0⟩, h0'⟩, rfl⟩, h1⟩, h2⟩, h3⟩, h4⟩ := hh
    cases tg <;> first | (cases ht; done) | skip
    obtain ⟨g1, g2⟩ := gl_of G h1
    refine PIimp (pi_zip g1 (FC.free _ h2) (pa_cons (sndA a X c W FC G tk _ h3).1 (pa_cons (sndA b X c W FC G tk _ h4).1 pa_nil (star_cons h0')) (star_cons h0)) (star_cons h0) (by rw [star_cons h0']; rfl)) fun σ H Q q => ?_
    obtain ⟨r, e, h, E, n, w⟩ := q
    simp only [itE] at w
    refine ⟨r, e, h, E, n, ?_⟩
    cases q : evE T C a e h with
    | bad => rw [q] at w; exact w
    | exc y h1 => rw [q] at w; exact w
    | ok v h1 =>
      rw [q] at w
      simp only [R.bind_ok] at w
      intro r1 H1 V x1 E1 p1
      refine ⟨r1, e, h1, E1, n.mono x1, ?_⟩
      cases q2 : evE T C b e h1 with
      | bad => rw [q2] at w; exact w
      | exc y h2 => rw [q2] at w; exact fun r' H' cls d e1 e2 e3 => w r' H' cls d (x1.trans e1) e2 e3
      | ok u h2 =>
        rw [q2] at w
        simp only [R.bind_ok] at w
        intro r2 H2 U x2 E2 p2
        cases g : zipS v u h2 with
        | none => rw [g] at w; exact w.elim
        | some zs =>
          rw [g] at w
          have g0 := g
          unfold zipS at g
          obtain ⟨xs, e1, g⟩ := Option.bind_eq_some_iff.mp g
          obtain ⟨ys, e2, g⟩ := Option.map_eq_some_iff.mp g
          have p1 := Rep.mono x2 _ _ p1
          obtain ⟨a', vs, rfl, l1, q1⟩ := getL_ok E2 e1 p1
          obtain ⟨b', us, rfl, l2, q2⟩ := getL_ok E2 e2 p2
          exact ⟨a', b', vs, us, rfl, sq_of l1, sq_of l2, w r2 H2 _ _ (x1.trans x2) E2 ⟨p1, p2⟩ lk_zip⟩
  | .enm a, X, c, W, FC, G, tk, tg, x, hh => by
    simp only [ckI] at hh
    split at hh <;> first | (cases hh; done) | skip
    simp only [Bool.and_eq_true, decide_eq_true_eq] at hh
    obtain ⟨⟨⟨⟨⟨ht, h0⟩, rfl⟩, h1⟩, h2⟩, h3⟩ := hh
    cases tg <;> first | (cases ht; done) | skip
    obtain ⟨g1, g2⟩ := gl_of G h1
    refine PIimp (pi_enum g1 (FC.free _ h2) (pa_cons (sndA a X c W FC G tk _ h3).1 pa_nil (star_cons h0)) (star_cons h0)) fun σ H Q q => ?_
    obtain ⟨r, e, h, E, n, w⟩ := q
    simp only [itE] at w
    refine ⟨r, e, h, E, n, ?_⟩
    cases q : evE T C a e h with
    | bad => rw [q] at w; exact w
    | exc y h1 => rw [q] at w; exact w
    | ok v h1 =>
      rw [q] at w
      simp only [R.bind_ok] at w
      intro r1 H1 V x1 E1 p1
      cases g : enmS v h1 with
      | none => rw [g] at w; exact w.elim
      | some zs =>
        rw [g] at w
        have g0 := g
        unfold enmS at g
        obtain ⟨xs, e1, g⟩ := Option.map_eq_some_iff.mp g
        obtain ⟨a', vs, rfl, l1, q1⟩ := getL_ok E1 e1 p1
        exact ⟨a', vs, rfl, sq_of l1, w r1 H1 _ _ x1 E1 p1 lk_enm⟩
end
end
section
variable {X : Cx} {cA : Nat → Addr} {cF : Nat → List Str} {T : Tab} {C : Nat → List MV → HP → R MV} {k : Nat} {c : Ck} {W : WX}
theorem snd (FC : Fc X.prog X.w X.K X.mg X.base cA cF T C k c) (G : Gd X c k) (tk : Takes X W) (e : E) (x : Expr) (hh : ckE c e x = true) : PE X x (tE X.K cA cF W (evE T C e)) ∧ (tsB x = true → PT X x (tTt X.K cA cF W (evE T C e))) ∧ (isBO x = true → PW X x (tTt X.K cA cF W (evE T C e))) := sndA e X c W FC G tk x hh
end
end Rm

/-! Rm, part F: statements. -/
namespace Rm
open PySem L2 PySem.Spec PyProof.Rows
section
variable (K : PySem.W.Frag) (cA : Nat → Addr) (cF : Nat → List Str)
def wpO (r : List Addr) (H : Hp) (o : O) (D : Ends) (W : WX) : Prop := match o with
  | .nx e h' => ∀ r' H' σ, Ext r H r' H' → Emb K cA cF H' r' h' → REn K cA cF H' r' e σ → D.nx σ H'
  | .ct e h' => ∀ r' H' σ, Ext r H r' H' → Emb K cA cF H' r' h' → REn K cA cF H' r' e σ → D.ct σ H'
  | .ret v h' => ∀ r' H' V, Ext r H r' H' → Emb K cA cF H' r' h' → Rep K cA cF H' r' v V → D.rt V H'
  | .exc x e h' => ∀ r' H' σ cls d, Ext r H r' H' → Emb K cA cF H' r' h' → REn K cA cF H' r' e σ → RepX cA x cls d → W cls d σ H'
  | .bad => False
def tS (W : WX) (f : EN → HP → O) : TS := fun D σ H => ∃ r e h, Emb K cA cF H r h ∧ REn K cA cF H r e σ ∧ wpO K cA cF r H (f e h) D W
def tG (tg : Tg) : TG := fun V σ H Q => ∃ r e h v e', Emb K cA cF H r h ∧ REn K cA cF H r e σ ∧ Rep K cA cF H r v V ∧ setG tg v e = some e' ∧ ∀ σ', REn K cA cF H r e' σ' → Q σ' H
end
section
variable {K : PySem.W.Frag} {cA : Nat → Addr} {cF : Nat → List Str} {r r1 : List Addr} {H H1 : Hp} {h : HP} {e : EN} {σ : L2.St} {W : WX} {D : Ends}
theorem wpO.mono {o : O} (x : Ext r H r1 H1) (w : wpO K cA cF r H o D W) : wpO K cA cF r1 H1 o D W := by
  cases o with
  | nx a b => exact fun r' H' s e1 e2 e3 => w r' H' s (x.trans e1) e2 e3
  | ct a b => exact fun r' H' s e1 e2 e3 => w r' H' s (x.trans e1) e2 e3
  | ret a b => exact fun r' H' s e1 e2 e3 => w r' H' s (x.trans e1) e2 e3
  | exc a b c => exact fun r' H' s cls d e1 e2 e3 => w r' H' s cls d (x.trans e1) e2 e3
  | bad => exact w
/-- an expression ahead in a statement -/
theorem stepS {f : EN → HP → R MV} {k : MV → HP → O} {Q' : VK}
    (E : Emb K cA cF H r h) (n : REn K cA cF H r e σ) (w : wpO K cA cF r H ((f e h).go e k) D W)
    (cont : ∀ r1 H1 h1 x V, Ext r H r1 H1 → Emb K cA cF H1 r1 h1 → REn K cA cF H1 r1 e σ → Rep K cA cF H1 r1 x V → wpO K cA cF r1 H1 (k x h1) D W → Q' V H1) : tE K cA cF W f σ H Q' := by
  refine ⟨r, e, h, E, n, ?_⟩
  cases q : f e h with
  | ok x h1 =>
    rw [q] at w
    exact fun r1 H1 V e1 e2 e3 => cont r1 H1 h1 x V e1 e2 (n.mono e1) e3 (wpO.mono e1 w)
  | exc x h1 =>
    rw [q] at w
    exact fun r' H' cls d e1 e2 e3 => w r' H' σ cls d e1 e2 (n.mono e1) e3
  | bad => rw [q] at w; exact w
theorem stepT {f : EN → HP → R MV} {k : MV → HP → O} {Q' : Bool → Hp → Prop}
    (E : Emb K cA cF H r h) (n : REn K cA cF H r e σ) (w : wpO K cA cF r H ((f e h).go e k) D W) (hb : ∀ x h1, (∀ b, x ≠ .bl b) → k x h1 = .bad)
    (cont : ∀ r1 H1 h1 b, Ext r H r1 H1 → Emb K cA cF H1 r1 h1 → REn K cA cF H1 r1 e σ → wpO K cA cF r1 H1 (k (.bl b) h1) D W → Q' b H1) : tTt K cA cF W f σ H Q' := by
  refine ⟨r, e, h, E, n, ?_⟩
  cases q : f e h with
  | ok x h1 =>
    rw [q] at w
    by_cases hx : ∃ b, x = .bl b
    · obtain ⟨b, rfl⟩ := hx
      exact fun r1 H1 e1 e2 => cont r1 H1 h1 b e1 e2 (n.mono e1) (wpO.mono e1 w)
    · have z := hb x h1 (fun b hb => hx ⟨b, hb⟩)
      rw [R.go_ok, z] at w
      exact w.elim
  | exc x h1 =>
    rw [q] at w
    exact fun r' H' cls d e1 e2 e3 => w r' H' σ cls d e1 e2 (n.mono e1) e3
  | bad => rw [q] at w; exact w
theorem PSimp {X : Cx} {x : Stmt} {t u : TS} (p : PS X x t) (i : ∀ D σ H, u D σ H → t D σ H) : PS X x u := ⟨fun pins s σ H D I q => p.run pins s σ H D I (i D σ H q)⟩
theorem PSsimp {X : Cx} {x : List Stmt} {t u : TS} (p : PSs X x t) (i : ∀ D σ H, u D σ H → t D σ H) : PSs X x u := ⟨fun pins s σ H D I q => p.run pins s σ H D I (i D σ H q)⟩
end

structure Gs (X : Cx) (c : Ck) (k : Nat) : Prop extends Gd X c k where
  fn : ∀ x, X.fn x = true
  own : PassesOwn (model X.prog X.w) X.A X.env X.xe
  stk : X.stack = X.env :: X.outer
  frm : X.env.frame = some X.env.locals
  exn : X.ex = []
section
variable {X : Cx} {cA : Nat → Addr} {cF : Nat → List Str} {T : Tab} {C : Nat → List MV → HP → R MV} {k : Nat} {c : Ck} {W : WX}
/-! ### targets -/
def tGs (K : PySem.W.Frag) (cA : Nat → Addr) (cF : Nat → List Str) (is : List Nat) : TGs := fun Vs σ H Q => ∃ r e h vs e', Emb K cA cF H r h ∧ REn K cA cF H r e σ ∧ Reps K cA cF H r vs Vs ∧ setT is vs e = some e' ∧ ∀ σ', REn K cA cF H r e' σ' → Q σ' H
theorem pgs_ok (G : Gs X c k) : ∀ (is : List Nat) (xs : List Expr), ckNs c is xs = true → PGs X xs (tGs X.K cA cF is)
  | [], xs, hh => by
    cases xs with
    | cons _ _ => simp [ckNs] at hh
    | nil =>
      refine PGsimp pgs_nil fun V σ H Q q => ?_
      obtain ⟨r, e, h, vs, e', E, n, p, g, q⟩ := q
      cases vs with
      | cons _ _ => simp [setT] at g
      | nil =>
        simp only [setT, Option.some.injEq] at g
        subst g
        simp only [Reps] at p
        exact ⟨p, q σ n⟩
  | i :: is, xs, hh => by
    unfold ckNs at hh
    split at hh <;> first | (cases hh; done) | skip
    simp only [Bool.and_eq_true, decide_eq_true_eq] at hh
    obtain ⟨⟨h1, h2⟩, h3⟩ := hh
    rename_i y pos ys
    refine PGsimp (pgs_cons (pg_name (i := i) G.nd (by rw [G.hN]; exact h1) (by rw [G.sc]; exact loc_of h2) (.inl (G.fn _))) (pgs_ok G is ys h3) rfl) fun V σ H Q q => ?_
    obtain ⟨r, e, h, vs, e', E, n, p, g, q⟩ := q
    cases vs with
    | nil => simp [setT] at g
    | cons v vs =>
      simp only [setT] at g
      simp only [Reps] at p
      obtain ⟨V1, Vs, rfl, p1, p2⟩ := p
      exact ⟨V1, Vs, rfl, r, _, h, vs, e', E, n.set p1, p2, g, q⟩
theorem assignEach_len {c : Ck} {env : Env} : ∀ (is : List Nat) (xs : List Expr), ckNs c is xs = true → (assignEach xs env).length = is.length ∧ (assignEach xs env).findIdx? (·.1) = none
  | [], xs, hh => by
    cases xs with
    | cons _ _ => simp [ckNs] at hh
    | nil => exact ⟨rfl, rfl⟩
  | i :: is, xs, hh => by
    unfold ckNs at hh
    split at hh <;> first | (cases hh; done) | skip
    simp only [Bool.and_eq_true] at hh
    obtain ⟨a, b⟩ := assignEach_len (env := env) is _ hh.2
    rename_i y pos ys
    refine ⟨?_, ?_⟩
    · show (_ :: assignEach ys env).length = _
      rw [List.length_cons, a, List.length_cons]
    · show List.findIdx? _ (_ :: assignEach ys env) = none
      rw [List.findIdx?_cons, b]; rfl
theorem pg_ok (G : Gs X c k) (tg : Tg) (x : Expr) (hh : ckG c tg x = true) : PG X x (tG X.K cA cF tg) := by
  cases tg with
  | one i =>
    simp only [ckG] at hh
    split at hh <;> first | (cases hh; done) | skip
    simp only [Bool.and_eq_true, decide_eq_true_eq] at hh
    refine PGimp (pg_name (i := i) G.nd (by rw [G.hN]; exact hh.1) (by rw [G.sc]; exact loc_of hh.2) (.inl (G.fn _))) fun V σ H Q q => ?_
    obtain ⟨r, e, h, v, e', E, n, p, g, q⟩ := q
    simp only [setG, Option.some.injEq] at g
    subst g
    exact q _ (n.set p)
  | tup is =>
    simp only [ckG] at hh
    split at hh <;> first | (cases hh; done) | skip
    obtain ⟨a, b⟩ := assignEach_len (env := X.env) is _ hh
    rename_i kk pp
    have P1 := pg_tup (k := kk) (pos := pp) G.calm (pgs_ok (cA := cA) (cF := cF) G is _ hh) a b
    have P2 := pg_lst (k := kk) (pos := pp) G.calm (pgs_ok (cA := cA) (cF := cF) G is _ hh) a b
    have hl : ∀ (is : List Nat) (us : List MV) (e e' : EN), setT is us e = some e' → us.length = is.length := by
      intro is
      induction is with
      | nil => intro us e e' g; cases us with | nil => rfl | cons _ _ => simp [setT] at g
      | cons i is ih => intro us e e' g; cases us with | nil => simp [setT] at g | cons v us => simp only [setT] at g; simp [ih us _ _ g]
    refine ⟨fun pins s σ H V u Q I rr q => ?_⟩
    obtain ⟨r, e, h, v, e', E, n, p, g, q⟩ := q
    cases v <;> first | (simp only [setG] at g; cases g; done) | skip
    · simp only [setG] at g
      simp only [Rep] at p
      obtain ⟨ad, Vs, rfl, ⟨_, p1⟩, p2⟩ := p
      exact P1.run pins s σ H _ u Q I rr ⟨ad, Vs, rfl, SqT.of p1, by rw [p2.length]; exact hl _ _ _ _ g, r, e, h, _, e', E, n, p2, g, q⟩
    · simp only [setG] at g
      simp only [Rep] at p
      obtain ⟨ad, Vs, rfl, p1, p2⟩ := p
      exact P2.run pins s σ H _ u Q I rr ⟨ad, Vs, rfl, p1.sq, by rw [p2.length]; exact hl _ _ _ _ g, r, e, h, _, e', E, n, p2, g, q⟩

theorem pi_ok (FC : Fc X.prog X.w X.K X.mg X.base cA cF T C k c) (G : Gs X c k) (tk : Takes X W) (tg : Expr) (it : I) (x : Expr) (hh : ckI c tg it x = true) : PI X tg x (tI X.K cA cF W (itE T C it)) := sndI it X c W FC G.toGd tk tg x hh
end
end Rm

/-! Rm, part G: loops, try, the theorem for statements. -/
namespace Rm
open PySem L2 PySem.Spec PyProof.Rows
section
variable {X : Cx} {cA : Nat → Addr} {cF : Nat → List Str} {W : WX}
theorem for_ok {K : PySem.W.Frag} {tg : Tg} {J : It} {src : HP → Option (List MV)} {all : List MV} {P : List Addr → Hp → Prop} {f : EN → HP → O} {D : Ends} {r : List Addr} {H : Hp} {e : EN} {h : HP} {σ : L2.St}
    (L : Lk K cA cF J src all P) (p : P r H) (E : Emb K cA cF H r h) (n : REn K cA cF H r e σ) (w : wpO K cA cF r H (forL tg src all f all e h) D W) :
    ∃ Wi : Nat → Nat → L2.St → Hp → Prop, (∃ m, Wi 0 m σ H) ∧ ∀ i m σ H, Wi i m σ H →
      (J.stop i H ∧ D.nx σ H) ∨ (J.go i H ∧ ∃ N : L2.St → Hp → Prop, (∀ σ' H', N σ' H' → ∃ m', m' < m ∧ Wi (i + 1) m' σ' H') ∧ ∀ x H', J.yld i H x H' → tG K cA cF tg x σ H' fun σ2 H2 => tS K cA cF W f { D with nx := N, ct := N, bk := D.nx } σ2 H2) := by
  refine ⟨fun i m σ H => m = all.length - i ∧ i ≤ all.length ∧ ∃ r e h, P r H ∧ Emb K cA cF H r h ∧ REn K cA cF H r e σ ∧ wpO K cA cF r H (forL tg src all f (all.drop i) e h) D W,
    ⟨all.length, by simp, Nat.zero_le _, r, e, h, p, E, n, by simpa using w⟩, ?_⟩
  rintro i m σ H ⟨rfl, hi, r, e, h, p, E, n, w⟩
  by_cases hlt : i < all.length
  · have ed : all.drop i = all[i] :: all.drop (i + 1) := List.drop_eq_getElem_cons hlt
    rw [ed] at w
    unfold forL at w
    by_cases hs : src h = some all
    · rw [if_pos hs] at w
      obtain ⟨g1, g2⟩ := L.go r H h i all[i] p E hs (by simp [hlt])
      refine .inr ⟨g1, _, fun σ' H' z => ⟨all.length - (i + 1), by omega, rfl, hlt, z⟩, fun V H' y => ?_⟩
      obtain ⟨x0, E, rv⟩ := g2 V H' y
      replace p := L.mono _ _ _ _ p x0
      replace n := n.mono x0
      replace w := wpO.mono x0 w
      cases q : setG tg all[i] e with
      | none => rw [q] at w; exact w.elim
      | some e' =>
        rw [q] at w
        refine ⟨r, e, h, _, e', E, n, rv, q, fun σ' n' => ⟨r, e', h, E, n', ?_⟩⟩
        cases q2 : f e' h with
        | nx a b => simp only [q2] at w; exact fun r' H' s x1 x2 x3 => ⟨r', a, b, L.mono _ _ _ _ p x1, x2, x3, wpO.mono x1 w⟩
        | ct a b => simp only [q2] at w; exact fun r' H' s x1 x2 x3 => ⟨r', a, b, L.mono _ _ _ _ p x1, x2, x3, wpO.mono x1 w⟩
        | ret a b => simp only [q2] at w; exact w
        | exc a b d => simp only [q2] at w; exact w
        | bad => simp only [q2] at w; exact w.elim
    · rw [if_neg hs] at w; exact w.elim
  · have ei : i = all.length := by omega
    subst ei
    rw [List.drop_length] at w
    unfold forL at w
    by_cases hs : src h = some all
    · rw [if_pos hs] at w
      exact .inl ⟨L.stop r H h p E hs, w r H σ Ext.refl E n⟩
    · rw [if_neg hs] at w; exact w.elim
theorem whl_ok {K : PySem.W.Frag} {t : EN → HP → R MV} {f : EN → HP → O} {D : Ends} {r : List Addr} {H : Hp} {e : EN} {h : HP} {σ : L2.St} {m : Nat}
    (E : Emb K cA cF H r h) (n : REn K cA cF H r e σ) (w : wpO K cA cF r H (whlL t f m e h) D W) : tWhile (tTt K cA cF W t) (tS K cA cF W f) D σ H := by
  refine ⟨fun m σ H => ∃ r e h, Emb K cA cF H r h ∧ REn K cA cF H r e σ ∧ wpO K cA cF r H (whlL t f m e h) D W, ⟨m, r, e, h, E, n, w⟩, ?_⟩
  rintro m σ H ⟨r, e, h, E, n, w⟩
  cases m with
  | zero => exact w.elim
  | succ m =>
    unfold whlL at w
    refine stepT E n w (fun x h1 hx => ?_) fun r1 H1 h1 b x1 E1 n1 w1 => ?_
    · cases x <;> first | rfl | exact absurd rfl (hx _)
    · cases b with
      | false => rw [if_neg Bool.false_ne_true]; exact w1 r1 H1 σ Ext.refl E1 n1
      | true =>
        rw [if_pos rfl]
        refine ⟨fun σ' H' => ∃ r e h, Emb K cA cF H' r h ∧ REn K cA cF H' r e σ' ∧ wpO K cA cF r H' (whlL t f m e h) D W, fun σ' H' z => ⟨m, Nat.lt_succ_self _, z⟩, r1, e, h1, E1, n1, ?_⟩
        cases q2 : f e h1 with
        | nx a b => simp only [q2] at w1; exact fun r' H' s x1 x2 x3 => ⟨r', a, b, x2, x3, wpO.mono x1 w1⟩
        | ct a b => simp only [q2] at w1; exact fun r' H' s x1 x2 x3 => ⟨r', a, b, x2, x3, wpO.mono x1 w1⟩
        | ret a b => simp only [q2] at w1; exact w1
        | exc a b d => simp only [q2] at w1; exact w1
        | bad => simp only [q2] at w1; exact w1.elim

/-! ### a caught exception is kept as a value -/
theorem Inv.track {pins : List (Addr × Obj)} {σ : L2.St} {H : Hp} {s : Shared} {a : Addr} {o : HO} (I : L2.Inv X pins σ H s) (hn : H a = none) (h0 : X.s_0.heap.get? a = none) (hL : a ≠ X.env.locals)
    (hc : ∀ x c, X.env.cells.lookup x = some c → c ≠ a) (hp : ∀ p ∈ X.pn ++ pins, p.1 ≠ a) (new : ObjOk X.prog X.w (upd H a o) s.heap a o) : L2.Inv X pins σ (upd H a o) s := by
  have ne : ∀ b u, H b = some u → b ≠ a := fun b u e => ne_of_none e hn
  have ne0 : ∀ b u, X.s_0.heap.get? b = some u → b ≠ a := fun b u e z => by rw [z, h0] at e; cases e
  refine ⟨I.ok, I.os, I.bare, ⟨I.base.keep, I.base.slot, fun b u e n hx => ?_, I.base.there, fun b xs e => ?_, fun b u xs e => ?_, fun b ps e => ?_⟩, I.loc, I.cell, ?_, fun x c e => ?_, fun p hpm => ?_, fun b u e => ?_, I.len⟩
  · rw [upd_ne (ne0 b u e)]; exact I.base.free b u e n hx
  · have z := I.base.tups b xs e
    rw [upd_ne (ne b _ z)]; exact z
  · have z := I.base.frzs b u xs e
    rw [upd_ne (ne b _ z)]; exact z
  · obtain ⟨more, z⟩ := I.base.tbls b ps e
    exact ⟨more, by rw [upd_ne (ne b _ z)]; exact z⟩
  · rw [upd_ne (Ne.symm hL)]; exact I.free
  · rw [upd_ne (hc x c e)]; exact I.freeC x c e
  · obtain ⟨z1, z2, z3, z4, z5⟩ := I.pin p hpm
    exact ⟨z1, by rw [upd_ne (hp p hpm)]; exact z2, z3, z4, z5⟩
  · by_cases hb : b = a
    · subst hb
      rw [upd_same] at e
      cases e
      exact new
    · rw [upd_ne hb] at e
      exact (I.hok b u e).stay (fun c v _ q => q) (fun c q => by rw [upd_ne (ne c _ q)]; exact q) fun c xs q => by rw [upd_ne (ne c _ q)]; exact q
/-- what «except x as n: y = n» wishes -/
def wVal (K : PySem.W.Frag) (c : Value) (i j : Nat) (Wout : WX) (D : Ends) : WX := fun cls d σ H =>
  ∃ b, PySem.W.exmOne K cls c = some b ∧ (b = true → ∃ C, cls = .ref C ∧ d = none ∧ ∀ a, H a = none → D.nx (((σ.set i (some (.ref a))).set j (some (.ref a))).set i none) (upd H a (ExcV C a))) ∧ (b = false → Wout cls d σ H)
theorem ps_try_val {x n u : Str} {c : Value} {i j : Nat} {body : List Stmt} {np pos pos' p1 p2 p3 : Pos} {tb : WX → TS} {Wout : WX} (hs : X.stack = X.env :: X.outer) (hf : X.env.frame = some X.env.locals) (hex : X.ex = []) (hN : X.N.Nodup) (hi : X.N[i]? = some n) (hln : X.env.kindOf n = some .local)
    (hj : X.N[j]? = some u) (hlu : L2.Loc X.env.scope u) (hfu : X.fn u = true) (hdn : (n == ("__debug__" : Str)) = false) (hcn : (n == ("__classdict__" : Str)) = false) (hc : Names X x c) (tk : Takes X Wout)
    (hb : ∀ (W : WX) (pn : List (Addr × Obj)) (xe : Value → Shared → Prop), Takes (X.tr pn xe) W → PassesOwn (model X.prog X.w) X.A X.env xe → PSs (X.tr pn xe) body (tb W)) :
    PS X (.Try body [.ExceptHandler (some (.Name x np)) (some n) [.Assign [.Name u p1] (.Name n p2) p3] pos'] [] [] pos) (fun D σ H => tb (wVal X.K c i j Wout D) D σ H) := by
  refine ⟨fun pins s σ H D I h => ?_⟩
  have ok := I.ok
  have hfr : X.A.frames = some (X.env :: X.outer) := by rw [ok.frames, hs]
  have hloc : L2.Loc X.env.scope n := .inl hln
  refine wpAny_Try_except ?_
  refine wpAny_mono ((hb (wVal X.K c i j Wout D) (X.pn ++ pins) (fun e s₁ => wpAny (model X.prog X.w) X.A (noteFrame e X.env) (fun _ s₂ => wpAny (model X.prog X.w) X.A (setFlight e none) (fun _ s₃ =>
    wpAny (model X.prog X.w) X.A (handleBy e X.env [.ExceptHandler (some (.Name x np)) (some n) [.Assign [.Name u p1] (.Name n p2) p3] pos']) (SP X pins D) X.xe s₃) X.xe s₂) X.xe s₁) (fun u' s' xx => ?_) PassesOwn.looking).run [] s σ H D (I.toTry _) h) (fun f s1 hsp => ?_) (fun e s1 he => he)
  · obtain ⟨a, B, sI, pins', σ', H', cls, d, rfl, J', nb, up, sky, na, os, ag, b, hb1, hyes, hno⟩ := xx
    have J : L2.Inv X pins σ' H' sI := J'.ofTry ok
    have sky' : Sky B (X.env :: X.outer) a (Zc cls d) X.env.locals s'.heap := by rw [← hs]; exact sky
    show wpAny (model X.prog X.w) X.A (noteFrame (.ref a) X.env) _ _ _
    refine Sky.land Zc.steady hfr hf sky' fun h3 fl3 up3 => ?_
    have J3 : L2.Inv X pins σ' H' { s' with heap := h3 } := J.landed nb fl3.1 (up.trans up3) os ag
    obtain ⟨oe3, vs3, he3, hz3, hd3⟩ := fl3.there
    have notFr : ∀ {h : Heap} {o : Obj} {vs : Array Value}, h.FunFrames B (X.env :: X.outer) → h.get? a = some o → o.data = .fields vs → a ∉ frs (X.env :: X.outer) := fun {h o vs} ff e dd hm => by
      obtain ⟨_, o', e', hnf⟩ := ff.mem hm
      rw [e] at e'; cases e'
      exact hnf _ dd
    have nfr := notFr fl3.2.2.1 he3 hd3
    have nL : a ≠ X.env.locals := fun z => nfr (List.mem_filterMap.mpr ⟨X.env, List.mem_cons_self, by rw [hf, z]⟩)
    have nF : a ∉ X.fs := fun hm => by
      obtain ⟨e, he, q⟩ := List.mem_filterMap.mp hm
      exact nfr (List.mem_filterMap.mpr ⟨e, List.mem_cons_of_mem _ he, q⟩)
    have nI : sI.heap.get? a = none := by
      cases q : sI.heap.get? a with
      | none => rfl
      | some o =>
        have z := nb a o q (by rw [hs]; exact nfr)
        rw [fl3.2.1] at z; cases z
    have n0 : X.s_0.heap.get? a = none := by
      cases q : X.s_0.heap.get? a with
      | none => rfl
      | some o =>
        obtain ⟨o', z⟩ := J.base.there a o q (by rw [hex]; simp)
        rw [nI] at z; cases z
    have nP : ∀ p ∈ X.pn ++ pins, p.1 ≠ a := fun p hp z => by
      have := (J.pin p hp).1
      rw [z, nI] at this; cases this
    have nC : ∀ x c, X.env.cells.lookup x = some c → c ≠ a := fun x c e z => by
      obtain ⟨v, o, ho, _⟩ := J.cell x c e
      rw [z, nI] at ho; cases ho
    have S3 := J3.suite he3 hd3 na nL nF
    refine wpAny_handleBy_cons (codeAny_handlers_test ?_) (by intro q; cases q)
    have LT : PySem.W.Looks (model X.prog X.w) h3 (typeOf (.ref a)) cls := fun A Q E s k q => wpAny_typeOf_ref (k _ _ he3) (by rw [hz3.1]; exact q)
    have LM := PySem.W.exm_one (M := model X.prog X.w) (J3.kIn) LT hb1
    have test : ∀ {Q : Value → Shared → Prop} {E : Value → Shared → Prop}, Q c { s' with heap := h3 } → wpAny (model X.prog X.w) (X.A.mark (some (.ref a))) (eval (.Name x np) X.env) Q E { s' with heap := h3 } := fun {Q E} q => by
      obtain ⟨hg, hdbg, hm | ⟨hm, hv, hnn⟩⟩ := hc
      · exact ld_glob (X := X.suite a ((a, oe3) :: (X.pn ++ pins))) S3 hg hm q hdbg
      · exact ld_blt (X := X.suite a ((a, oe3) :: (X.pn ++ pins))) S3 hg hm hv q hnn hdbg
    refine test (LM.here ?_)
    cases b with
    | true =>
      obtain ⟨C, rfl, rfl, hyes2⟩ := hyes rfl
      refine codeAny_handlers_suite_as ?_
      refine HandSPX.lands_againZ fl3 fun h4 fl4 up4 => ?_
      have J4 : L2.Inv X pins σ' H' { s' with heap := h4 } := J.landed nb fl4.1 ((up.trans up3).trans up4) os ag
      obtain ⟨oe4, vs4, he4, hz4, hd4⟩ := fl4.there
      have S4 := J4.suite he4 hd4 na nL nF
      refine store_ok (X := X.suite a ((a, oe4) :: (X.pn ++ pins))) (v := .ref a) S4 hN hi hloc rfl (fun s5 S5 => ?_) (.inr hln)
      have asg : PSs (X.suite a ((a, oe4) :: (X.pn ++ pins))) [.Assign [.Name u p1] (.Name n p2) p3] (tAsg (tVar i) (gName j)) :=
        pss_one (ps_set (X := X.suite a ((a, oe4) :: (X.pn ++ pins))) (i := j) hN hj hlu (pe_var (X := X.suite a ((a, oe4) :: (X.pn ++ pins))) (i := i) hi (.inl hln) hdn hcn) rfl (.inl hfu))
      have hil : i < σ'.length := by
        have z := (List.getElem?_eq_some_iff.mp hi).1
        rw [J.len]; exact z
      refine wpAny_mono (asg.run [] s5 _ H' { nx := fun σ7 H7 => H7 = H' ∧ σ7 = (σ'.set i (some (.ref a))).set j (some (.ref a)), rt := fun _ _ => False } S5 ⟨.ref a, List.getElem?_set_self hil, rfl, rfl⟩) (fun f s6 hsp => ?_) (fun _ _ z => False.elim z)
      cases f with
      | next =>
        obtain ⟨σ6, H6, S6, rfl, rfl⟩ := hsp
        have K6 : L2.Inv X ((a, oe4) :: pins) ((σ'.set i (some (.ref a))).set j (some (.ref a))) H6 s6 :=
          ⟨ok, S6.os, S6.bare, S6.base, S6.loc, S6.cell, S6.free, S6.freeC, fun p hp => S6.pin p (by
            rw [List.append_nil]
            rcases List.mem_append.mp hp with z | z
            · exact List.mem_cons_of_mem _ (List.mem_append_left _ z)
            · rcases List.mem_cons.mp z with rfl | z
              · exact List.mem_cons_self
              · exact List.mem_cons_of_mem _ (List.mem_append_right _ z)), S6.hok, S6.len⟩
        refine gone_ok K6 hN hi hln fun s7 J7 => ?_
        have hp7 := J7.pin (a, oe4) (List.mem_append_right _ List.mem_cons_self)
        have J8 : L2.Inv X pins ((((σ'.set i (some (.ref a))).set j (some (.ref a))).set i none)) H6 s7 := J7.pins_of fun p hp => J7.pin p (List.mem_append_right _ (List.mem_cons_of_mem _ hp))
        have J9 := Inv.track (o := ExcV C a) J8 na n0 nL nC nP ⟨⟨oe4, vs4, hp7.1, hz4, hd4⟩, ⟨oe4, hp7.1⟩, fun h1 h2 ⟨o, v, q, z⟩ k => ⟨o, v, k o q, z⟩⟩
        exact ⟨_, _, J9, hyes2 a na⟩
      | brk => obtain ⟨_, _, _, q⟩ := hsp; exact q.elim
      | cont => obtain ⟨_, _, _, q⟩ := hsp; exact q.elim
      | ret v => obtain ⟨_, _, _, _, _, q⟩ := hsp; exact q.elim
    | false =>
      show wpAny _ X.A (handleBy (.ref a) X.env []) _ _ _
      refine wpAny_handleBy_nil ?_
      obtain ⟨k1, k2, k3, oe, vs, T, oT, ts', he, hz, hd, h1, hr⟩ := id fl3
      unfold PySem.passOn
      refine wpAny_bind (wpAny_field he hd h1 ?_)
      rw [if_neg (show ¬ ((Value.ref T == Value.none) = true) from by simp)]
      have fin : wpAny (model X.prog X.w) X.A (setFlight (.ref a) X.env.frame) (fun _ s4 => wpAny (model X.prog X.w) X.A (throw (.ref a) : Sem Flow) (SP X pins D) X.xe s4) X.xe { s' with heap := h3 } := by
        rw [hf]
        refine HandSPX.setFlight_upZ fl3 fun h4 hh4 up4 => wpAny_throw (tk _ _ ?_)
        exact ⟨a, B, sI, pins, σ', H', cls, d, rfl, J, nb, (up.trans up3).trans up4, .inr (.inr (by rw [hs]; exact hh4)), na, os, ag, hno rfl⟩
      first
        | exact wpAny_bind (wpAny_pure (wpAny_bind fin))
        | exact wpAny_bind fin
  · cases f with
    | next =>
      obtain ⟨σ', H', J', q⟩ := hsp
      exact wpAny_execs_nil ⟨σ', H', J'.ofTry ok, q⟩
    | brk =>
      obtain ⟨σ', H', J', q⟩ := hsp
      exact ⟨σ', H', J'.ofTry ok, q⟩
    | cont =>
      obtain ⟨σ', H', J', q⟩ := hsp
      exact ⟨σ', H', J'.ofTry ok, q⟩
    | ret u =>
      obtain ⟨v, σ', H', J', r, q⟩ := hsp
      exact ⟨v, σ', H', J'.ofTry ok, r, q⟩
end
end Rm

/-! Rm, part H: the theorem for statements. -/
namespace Rm
open PySem L2 PySem.Spec PyProof.Rows
theorem swaps_pl {e : Expr} {t : Option Expr} {l : Nat} {env : Env} (h : plC e = true) : swapsWith e t l env = pure false := by
  cases e <;> first | rfl | cases h
theorem sole_pl {e t : Expr} {l : Nat} {env : Env} (h : plC e = true) : swapsWithSole [t] e l env = pure false := swaps_pl h
theorem stores_pl {e t : Expr} {env : Env} (h : plV e = true) : swappedStores [t] e env = pure none := by
  cases e <;> cases t <;> first | rfl | cases h
theorem plV_C {e : Expr} (h : plV e = true) : plC e = true := by
  cases e <;> first | rfl | cases h
theorem sub_asg {o i : Expr} {pos : Pos} {env : Env} (h : plIx i = true) : ∀ v, assign (.Subscript o i pos) env v = (do
      let ov ← holding [v] (eval o env)
      let iv ← holding [v, ov] (eval i env)
      standAt pos
      holding [v, ov, iv] (setItem ov iv v)
      release [v, ov, iv] []) := by
  intro v
  cases i <;> first | rfl | cases h
section
variable {X : Cx} {cA : Nat → Addr} {cF : Nat → List Str} {T : Tab} {C : Nat → List MV → HP → R MV} {k : Nat} {c : Ck}
theorem reps_rev {K : PySem.W.Frag} {H : Hp} {r : List Addr} : ∀ {xs : List MV} {vs : List V}, Reps K cA cF H r xs vs → Reps K cA cF H r xs.reverse vs.reverse
  | [], vs, h => by simp only [Reps] at h; rw [h]; simp [Reps]
  | x :: xs, vs, h => by
    simp only [Reps] at h
    obtain ⟨v, us, rfl, h1, h2⟩ := h
    rw [List.reverse_cons, List.reverse_cons]
    exact (reps_rev h2).append (by simp only [Reps]; exact ⟨v, [], rfl, h1, rfl⟩)
theorem wpO_seq {r : List Addr} {H : Hp} {o : O} {f : EN → HP → O} {D : Ends} {W : WX} (w : wpO X.K cA cF r H (o.then f) D W) : wpO X.K cA cF r H o { D with nx := tS X.K cA cF W f D } W := by
  cases o with
  | nx a b => exact fun r' H' s x1 x2 x3 => ⟨r', a, b, x2, x3, wpO.mono x1 w⟩
  | ct a b => exact w
  | ret a b => exact w
  | exc a b d => exact w
  | bad => exact w
theorem Gs.tr (G : Gs X c k) {pn : List (Addr × Obj)} {xe : Value → Shared → Prop} (own : PassesOwn (model X.prog X.w) X.A X.env xe) : Gs (X.tr pn xe) c k :=
  ⟨⟨G.hN, G.sc, G.rm, G.calm, G.nd, ⟨G.deep.seer, G.deep.tree, G.deep.room, G.deep.stk⟩⟩, G.fn, own, G.stk, G.frm, G.exn⟩
mutual
theorem sndS : ∀ (s : S) (X : Cx) (W : WX) (FC : Fc X.prog X.w X.K X.mg X.base cA cF T C k c) (G : Gs X c k) (tk : Takes X W) (x : Stmt), ckS c s x = true → PS X x (tS X.K cA cF W (exS T C s))
  | .asg tg a, X, W, FC, G, tk, x, hh => by
    cases tg with
    | one i =>
      simp only [ckS] at hh
      split at hh <;> first | (cases hh; done) | skip
      rename_i t e pos
      simp only [Bool.and_eq_true] at hh
      obtain ⟨⟨h1, h2⟩, h3⟩ := hh
      simp only [ckG] at h1
      split at h1 <;> first | (cases h1; done) | skip
      rename_i y py
      simp only [Bool.and_eq_true, decide_eq_true_eq] at h1
      simp only [exS]
      have fin : ∀ D σ H, tS X.K cA cF W (fun e h => (evE T C a e h).go e fun v h => match setG (.one i) v e with
          | some e => .nx e h
          | none => .bad) D σ H → tAsg (tE X.K cA cF W (evE T C a)) (gName i) D σ H := by
        intro D σ H q
        obtain ⟨r, e, h, E, n, w⟩ := q
        refine stepS E n w fun r1 H1 h1 v V x1 E1 n1 p1 w1 => ?_
        simp only [setG] at w1
        exact w1 r1 H1 _ Ext.refl E1 (n1.set p1)
      by_cases hp : plC e = true
      · exact PSimp (ps_set (i := i) G.nd (by rw [G.hN]; exact h1.1) (by rw [G.sc]; exact loc_of h1.2) (snd FC G.toGd tk a _ h3).1 (swaps_pl hp) (.inl (G.fn _))) fin
      · have h2 : lcB c (.Name y py) e = true := by
          rcases Bool.or_eq_true_iff.mp h2 with z | z
          · exact absurd z hp
          · exact z
        unfold lcB at h2
        split at h2 <;> first | (cases h2; done) | skip
        rename_i y' py' elt gs scope lpos et ee
        cases et
        have hk : X.env.scope.kind = .function := by
          rw [G.sc]
          unfold isFn at h2
          split at h2
          · assumption
          · cases h2
        by_cases hs : swB c.sc y py.line lpos.line scope = true
        · unfold swB at hs
          simp only [Bool.and_eq_true, decide_eq_true_eq, Bool.not_eq_true'] at hs
          obtain ⟨k1, k2, k3⟩ := hs
          cases a <;> first | (exfalso; unfold ckE at h3; cases h3; done) | skip
          · rename_i cl' tg' vs' it' a'
            unfold ckE at h3
            split at h3 <;> first | (cases h3; done) | skip
            rename_i z0 hx
            simp only [Bool.and_eq_true, decide_eq_true_eq] at h3
            obtain ⟨⟨⟨⟨⟨rfl, m1⟩, m2⟩, m3⟩, m4⟩, m5⟩ := h3
            cases hx
            have hv := ownOf_snd c.N vs'
            have kl : X.env.scope.names.lookup y = some .local := by rw [G.sc]; exact k1
            refine PSimp (ps_setLc (i := i) (own := ownOf c.N vs') (g := tGw X.K cA cF vs' tg') (te := tE X.K cA cF noW (evE T C a')) G.calm G.nd (by rw [G.hN]; exact h1.1) kl (sw_true hk kl k2 k3) (pi_ok FC G tk _ it' _ m3) (by rw [G.hN, G.sc]; exact blkOk_by m1) (fun s H C' cl fp => pgw_ok (X := X.blk s H _ (compEnvC _ cl C' X.env) fp) (cA := cA) (cF := cF) (c := c.blk _) (vs := vs') (tg := tg') G.calm G.nd G.hN (by rw [Ck.blk, ← G.sc]; rfl) _ m4)
              (fun s H C' cl fp => pts_nil) (fun s H C' cl fp => (sndA a' (X.blk s H _ (compEnvC _ cl C' X.env) fp) (c.blk _) noW (FC.re (c := c) (c' := c.blk _) rfl rfl rfl rfl rfl) ⟨G.hN, by rw [Ck.blk, ← G.sc]; rfl, G.rm, G.calm, G.nd, ⟨G.deep.seer, G.deep.tree, G.deep.room, G.deep.stk⟩⟩ takes_no _ m5).1) (set_pl m2)) fun D σ H q => ?_
            have q : tE X.K cA cF W (evE T C (.lcm cl' tg' vs' it' a')) σ H (fun x H1 => gName i x σ H1 D.nx) := fin D σ H q
            simp only [evE] at q
            rw [hv]
            exact lc_imp q
          · rename_i tg' vs' it' b' a'
            unfold ckE at h3
            split at h3 <;> first | (cases h3; done) | skip
            rename_i z0 hx
            simp only [Bool.and_eq_true, decide_eq_true_eq] at h3
            obtain ⟨⟨⟨⟨⟨⟨⟨rfl, m1⟩, m2⟩, m3⟩, m4⟩, m5⟩, m6⟩, m7⟩ := h3
            cases hx
            have hv := ownOf_snd c.N vs'
            have kl : X.env.scope.names.lookup y = some .local := by rw [G.sc]; exact k1
            refine PSimp (ps_setLc (i := i) (own := ownOf c.N vs') (g := tGw X.K cA cF vs' tg') (tt := tTt X.K cA cF noW (evE T C b')) (te := tE X.K cA cF noW (evE T C a')) G.calm G.nd (by rw [G.hN]; exact h1.1) kl (sw_true hk kl k2 k3) (pi_ok FC G tk _ it' _ m3) (by rw [G.hN, G.sc]; exact blkOk_by m1) (fun s H C' cl fp => pgw_ok (X := X.blk s H _ (compEnvC _ cl C' X.env) fp) (cA := cA) (cF := cF) (c := c.blk _) (vs := vs') (tg := tg') G.calm G.nd G.hN (by rw [Ck.blk, ← G.sc]; rfl) _ m4)
              (fun s H C' cl fp => pts_one ((sndA b' (X.blk s H _ (compEnvC _ cl C' X.env) fp) (c.blk _) noW (FC.re (c := c) (c' := c.blk _) rfl rfl rfl rfl rfl) ⟨G.hN, by rw [Ck.blk, ← G.sc]; rfl, G.rm, G.calm, G.nd, ⟨G.deep.seer, G.deep.tree, G.deep.room, G.deep.stk⟩⟩ takes_no _ m6).2.1 m7)) (fun s H C' cl fp => (sndA a' (X.blk s H _ (compEnvC _ cl C' X.env) fp) (c.blk _) noW (FC.re (c := c) (c' := c.blk _) rfl rfl rfl rfl rfl) ⟨G.hN, by rw [Ck.blk, ← G.sc]; rfl, G.rm, G.calm, G.nd, ⟨G.deep.seer, G.deep.tree, G.deep.room, G.deep.stk⟩⟩ takes_no _ m5).1) (set_pl m2)) fun D σ H q => ?_
            have q : tE X.K cA cF W (evE T C (.lcf tg' vs' it' b' a')) σ H (fun x H1 => gName i x σ H1 D.nx) := fin D σ H q
            simp only [evE] at q
            rw [hv]
            exact lcf_imp q
        · have hsw : swapsWith (.ListComp elt gs scope lpos) (some (.Name y py)) pos.line X.env = pure false := by
            have ky : X.env.kindOf y = X.env.scope.names.lookup y := rfl
            have hb : X.env.blockKind = .function := by unfold Env.blockKind; rw [hk]; rfl
            have e : swapsWith (.ListComp elt gs scope lpos) (some (.Name y py)) pos.line X.env = pure (X.env.blockKind == .function && X.env.kindOf y == some .local && py.line == lpos.line && !(scope.names.any fun (n, k) => n == y && (k == .local || k == .cell))) := rfl
            rw [e, hb, ky, G.sc]
            congr 1
            cases q : (_ && _ && _ && _ : Bool) with
            | false => rfl
            | true =>
              exfalso
              apply hs
              simp only [Bool.and_eq_true] at q
              unfold swB
              simp only [Bool.and_eq_true, decide_eq_true_eq]
              exact ⟨by simpa using q.1.1.2, q.1.2, q.2⟩
          exact PSimp (ps_set (i := i) G.nd (by rw [G.hN]; exact h1.1) (by rw [G.sc]; exact loc_of h1.2) (snd FC G.toGd tk a _ h3).1 hsw (.inl (G.fn _))) fin
    | tup is =>
      simp only [ckS] at hh
      split at hh <;> first | (cases hh; done) | skip
      rename_i t e pos
      simp only [Bool.and_eq_true] at hh
      obtain ⟨⟨h1, h2⟩, h3⟩ := hh
      simp only [exS]
      have h0 : (assignEach [t] X.env).map (·.2) = [assign t X.env] := by
        have h1 := h1
        simp only [ckG] at h1
        split at h1 <;> first | (cases h1; done) | rfl
      refine PSimp (ps_asg (snd FC G.toGd tk a _ h3).1 (pg_ok (cA := cA) (cF := cF) G (.tup is) _ h1) (sole_pl (plV_C h2)) (stores_pl h2) h0) fun D σ H q => ?_
      obtain ⟨r, e, h, E, n, w⟩ := q
      refine stepS E n w fun r1 H1 h1 v V x1 E1 n1 p1 w1 => ?_
      cases g : setG (.tup is) v e with
      | none => rw [g] at w1; exact w1.elim
      | some e' => rw [g] at w1; exact ⟨r1, e, h1, v, e', E1, n1, p1, g, fun σ' n' => w1 r1 H1 σ' Ext.refl E1 n'⟩
  | .aug i o a, X, W, FC, G, tk, x, hh => by
    simp only [ckS] at hh
    split at hh <;> first | (cases hh; done) | skip
    simp only [Bool.and_eq_true, decide_eq_true_eq] at hh
    obtain ⟨⟨⟨h1, h2⟩, h3⟩, h4⟩ := hh
    simp only [exS]
    refine PSimp (ps_aug (i := i) G.nd (by rw [G.hN]; exact h1) (by rw [G.sc]; exact loc_of h2) (snd FC G.toGd tk a _ h4).1 (augop_ok (cA := cA) (cF := cF) h3) (.inl (G.fn _))) fun D σ H q => ?_
    obtain ⟨r, e, h, E, n, w⟩ := q
    simp only at w
    split at w
    · rename_i v he
      obtain ⟨V, k1, k2⟩ := n.at_ i v he
      refine ⟨V, k1, stepS E n w fun r1 H1 h1 u U x1 E1 n1 p1 w1 => ?_⟩
      cases g : augV o v u with
      | none => rw [g] at w1; exact w1.elim
      | some z =>
        rw [g] at w1
        exact ⟨r1, h1, v, u, z, E1, Rep.mono x1 _ _ k2, p1, g, fun r' H' V' y1 y2 y3 => w1 r' H' _ y1 y2 ((n1.mono y1).set y3)⟩
    · exact w.elim
  | .exp a, X, W, FC, G, tk, x, hh => by
    simp only [ckS] at hh
    split at hh <;> first | (cases hh; done) | skip
    simp only [Bool.and_eq_true] at hh
    simp only [exS]
    refine PSimp (ps_expr (snd FC G.toGd tk a _ hh.2).1 (swaps_pl hh.1)) fun D σ H q => ?_
    obtain ⟨r, e, h, E, n, w⟩ := q
    exact stepS E n w fun r1 H1 h1 v V x1 E1 n1 p1 w1 => w1 r1 H1 σ Ext.refl E1 n1
  | .app o a, X, W, FC, G, tk, x, hh => by
    simp only [ckS] at hh
    split at hh <;> first | (cases hh; done) | skip
    rename_i e m ap f pos pos'
    simp only [Bool.and_eq_true, decide_eq_true_eq] at hh
    obtain ⟨⟨⟨⟨⟨rfl, h1⟩, h2⟩, h3⟩, h4⟩, h5⟩ := hh
    simp only [exS]
    have hfew : ((backTo pos (starEach [f] X.env)).all (fun x => !x.1) && (backToKw pos (keywordEach [] X.env)).all (fun x => x.1.isSome)
      && decide ([f].length + ([] : List Keyword).length + (if ([] : List Keyword).isEmpty then 0 else 1) < 30)) = true := by
      rw [star_cons h1]; rfl
    refine PSimp (ps_expr (pe_bm PySem.F.plainAttrs_list PySem.F.slot_list_append PySem.F.type_list_append mt_append (snd FC G.toGd tk o _ h4).1 (pa_cons (snd FC G.toGd tk a _ h5).1 pa_nil (star_cons h1)) (attr_plain h2) hfew h3 (star_cons h1) rfl) rfl) fun D σ H q => ?_
    obtain ⟨r, e, h, E, n, w⟩ := q
    refine stepS E n w fun r1 H1 h1 x X' x1 E1 n1 p1 w1 => ?_
    split at w1
    · rename_i hc
      unfold isCell at hc
      split at hc
      · rename_i i
        split at hc
        · rename_i xs hx
          have p := p1
          simp only [Rep] at p1
          obtain ⟨ad, rfl, hi⟩ := p1
          refine ⟨.inl ⟨rfl, ?_⟩, ?_⟩
          · obtain ⟨vs, q1, _⟩ := E1.at_ i _ ad hx hi
            exact ⟨vs, SqL.of q1⟩
          · refine stepS E1 n1 w1 fun r2 H2 h2 v V x2 E2 n2 p2 w2 => ?_
            have hi2 := x2.get hi
            cases g : appV h2 (.ref i) v with
            | none => rw [g] at w2; exact w2.elim
            | some h3 =>
              rw [g] at w2
              simp only [appV] at g
              cases qo : h2[i]? with
              | none => rw [qo] at g; cases g
              | some oo =>
                rw [qo] at g
                cases oo with
                | ins d xs => cases g
                | lst xs =>
                  simp only at g
                  split at g
                  · rename_i hl
                    cases g
                    obtain ⟨vs, q1, q2⟩ := E2.at_ i _ ad qo hi2
                    have q3 : Reps X.K cA cF H2 r2 (xs ++ [v]) (vs ++ [V]) := q2.append (by simp only [Reps]; exact ⟨V, [], rfl, p2, rfl⟩)
                    refine ⟨ad, vs, V, rfl, rfl, q1, by rw [q2.length, ← sz_eq]; exact hl, ?_⟩
                    obtain ⟨y1, y2⟩ := E2.write hi2 q3
                    exact w2 r2 _ σ y1 y2 (n2.mono y1)
                  · cases g
        · cases hc
      · cases hc
    · exact w1.elim
  | .rvs o, X, W, FC, G, tk, x, hh => by
    simp only [ckS] at hh
    split at hh <;> first | (cases hh; done) | skip
    simp only [Bool.and_eq_true, decide_eq_true_eq] at hh
    obtain ⟨⟨⟨rfl, h1⟩, h2⟩, h3⟩ := hh
    simp only [exS]
    refine PSimp (ps_expr (pe_bm0 PySem.F.plainAttrs_list PySem.F.slot_list_reverse PySem.F.type_list_reverse mt_reverse (snd FC G.toGd tk o _ h3).1 (attr_plain h1) h2) rfl) fun D σ H q => ?_
    obtain ⟨r, e, h, E, n, w⟩ := q
    refine stepS E n w fun r1 H1 h1 x X' x1 E1 n1 p1 w1 => ?_
    cases g : rvsV h1 x with
    | none => rw [g] at w1; exact w1.elim
    | some h2 =>
      rw [g] at w1
      unfold rvsV at g
      split at g
      · rename_i i
        split at g
        · rename_i xs hx
          cases g
          simp only [Rep] at p1
          obtain ⟨ad, rfl, hi⟩ := p1
          obtain ⟨vs, q1, q2⟩ := E1.at_ i _ ad hx hi
          obtain ⟨y1, y2⟩ := E1.write hi (reps_rev q2)
          exact ⟨.inl ⟨rfl, ⟨vs, SqL.of q1⟩⟩, ad, vs, rfl, rfl, q1, w1 r1 _ σ y1 y2 (n1.mono y1)⟩
        · cases g
      · cases g
  | .ins o i a, X, W, FC, G, tk, x, hh => by
    simp only [ckS] at hh
    split at hh <;> first | (cases hh; done) | skip
    rename_i e m ap gg f pos pos'
    simp only [Bool.and_eq_true, decide_eq_true_eq] at hh
    obtain ⟨⟨⟨⟨⟨⟨⟨rfl, h0⟩, h1⟩, h2⟩, h3⟩, h4⟩, h5⟩, h6⟩ := hh
    simp only [exS]
    have hfew : ((backTo pos (starEach [gg, f] X.env)).all (fun x => !x.1) && (backToKw pos (keywordEach [] X.env)).all (fun x => x.1.isSome)
      && decide ([gg, f].length + ([] : List Keyword).length + (if ([] : List Keyword).isEmpty then 0 else 1) < 30)) = true := by
      rw [star_cons h0, star_cons h1]; rfl
    refine PSimp (ps_expr (pe_bm PySem.F.plainAttrs_list PySem.F.slot_list_insert PySem.F.type_list_insert mt_insert (snd FC G.toGd tk o _ h4).1 (pa_cons (snd FC G.toGd tk i _ h5).1 (pa_cons (snd FC G.toGd tk a _ h6).1 pa_nil (star_cons h1)) (star_cons h0)) (attr_plain h2) hfew h3 (star_cons h0) (by rw [star_cons h1]; rfl)) rfl) fun D σ H q => ?_
    obtain ⟨r, e, h, E, n, w⟩ := q
    refine stepS E n w fun r1 H1 h1 x X' x1 E1 n1 p1 w1 => ?_
    split at w1
    · rename_i hc
      unfold isCell at hc
      split at hc
      · rename_i j
        split at hc
        · rename_i xs hx
          have p := p1
          simp only [Rep] at p1
          obtain ⟨ad, rfl, hi⟩ := p1
          refine ⟨.inl ⟨rfl, ?_⟩, ?_⟩
          · obtain ⟨vs, q1, _⟩ := E1.at_ j _ ad hx hi
            exact ⟨vs, SqL.of q1⟩
          · refine stepS E1 n1 w1 fun r2 H2 h2 m M x2 E2 n2 p2 w2 => ?_
            refine stepS E2 n2 w2 fun r3 H3 h3 v V x3 E3 n3 p3 w3 => ?_
            have hi3 := (x2.trans x3).get hi
            cases g : insV h3 (.ref j) m v with
            | none => rw [g] at w3; exact w3.elim
            | some h4 =>
              rw [g] at w3
              unfold insV at g
              split at g
              · rename_i jj kk ej
                cases ej
                split at g
                · rename_i xs hx
                  split at g
                  · rename_i hl
                    cases g
                    simp only [Rep] at p2
                    subst p2
                    obtain ⟨vs, q1, q2⟩ := E3.at_ _ _ ad hx hi3
                    have q3 : Reps X.K cA cF H3 r3 (xs.take kk.toNat ++ [v] ++ xs.drop kk.toNat) (vs.take kk.toNat ++ [V] ++ vs.drop kk.toNat) := ((q2.take _).append (by simp only [Reps]; exact ⟨V, [], rfl, p3, rfl⟩)).append (q2.drop _)
                    obtain ⟨y1, y2⟩ := E3.write hi3 q3
                    exact ⟨ad, vs, kk, V, rfl, rfl, q1, by rw [q2.length, ← sz_eq]; exact hl.1, hl.2.1, hl.2.2, w3 r3 _ σ y1 y2 (n3.mono y1)⟩
                  · cases g
                · cases g
              · cases g
        · cases hc
      · cases hc
    · exact w1.elim
  | .sto o i a, X, W, FC, G, tk, x, hh => by
    simp only [ckS] at hh
    split at hh <;> first | (cases hh; done) | skip
    simp only [Bool.and_eq_true] at hh
    obtain ⟨⟨⟨⟨h1, h2⟩, h3⟩, h4⟩, h5⟩ := hh
    simp only [exS]
    refine PSimp (ps_asg (snd FC G.toGd tk a _ h5).1 (pg_sub (snd FC G.toGd tk o _ h3).1 (snd FC G.toGd tk i _ h4).1 set_list (sub_asg h1)) (sole_pl (plV_C h2)) (stores_pl h2) rfl) fun D σ H q => ?_
    obtain ⟨r, e, h, E, n, w⟩ := q
    refine stepS E n w fun r1 H1 h1 v V x1 E1 n1 p1 w1 => ?_
    refine stepS E1 n1 w1 fun r2 H2 h2 x XV x2 E2 n2 p2 w2 => ?_
    refine stepS E2 n2 w2 fun r3 H3 h3 m M x3 E3 n3 p3 w3 => ?_
    cases g : stoV h3 x m v with
    | none => rw [g] at w3; exact w3.elim
    | some h4 =>
      rw [g] at w3
      unfold stoV at g
      split at g
      · rename_i j k
        split at g
        · rename_i xs hx
          obtain ⟨kk, g1, g2⟩ := Option.map_eq_some_iff.mp g
          subst g2
          have p2' := Rep.mono x3 _ _ p2
          simp only [Rep] at p2' p3
          obtain ⟨ad, rfl, hi⟩ := p2'
          subst p3
          obtain ⟨vs, q1, q2⟩ := E3.at_ j _ ad hx hi
          have q3 : Reps X.K cA cF H3 r3 (xs.set kk v) (vs.set kk V) := Reps.set q2 (Rep.mono (x2.trans x3) _ _ p1)
          obtain ⟨y1, y2⟩ := E3.write hi q3
          exact ⟨ad, vs, k, kk, rfl, rfl, q1, by rw [q2.length]; exact g1, w3 r3 _ σ y1 y2 (n3.mono y1)⟩
        · cases g
      · cases g
  | .sta o f a, X, W, FC, G, tk, x, hh => by
    simp only [ckS] at hh
    split at hh <;> first | (cases hh; done) | skip
    simp only [Bool.and_eq_true, decide_eq_true_eq] at hh
    obtain ⟨⟨⟨rfl, h1⟩, h2⟩, h3⟩ := hh
    simp only [exS]
    refine PSimp (ps_fld (snd FC G.toGd tk o _ h2).1 (snd FC G.toGd tk a _ h3).1 (swaps_pl h1)) fun D σ H q => ?_
    obtain ⟨r, e, h, E, n, w⟩ := q
    refine stepS E n w fun r1 H1 h1 v V x1 E1 n1 p1 w1 => ?_
    refine stepS E1 n1 w1 fun r2 H2 h2 x XV x2 E2 n2 p2 w2 => ?_
    cases g : staV T h2 x f v with
    | none => rw [g] at w2; exact w2.elim
    | some h3 =>
      rw [g] at w2
      unfold staV at g
      split at g
      · rename_i j
        split at g
        · rename_i d xs hx
          split at g
          · rename_i hc
            simp only [Bool.and_eq_true, decide_eq_true_eq] at hc
            obtain ⟨jj, g1, g2⟩ := Option.bind_eq_some_iff.mp g
            obtain ⟨ys, g3, g4⟩ := Option.map_eq_some_iff.mp g2
            subst g4
            unfold fix at g1
            split at g1
            · rename_i hj
              cases g1
              simp only [Rep] at p2
              obtain ⟨ad, rfl, hi⟩ := p2
              obtain ⟨dx, vs, q1, q2⟩ := E2.at_ j _ ad hx hi
              obtain ⟨c1, c2⟩ := FC.ob d hc.1
              have pv := Rep.mono x2 _ _ p1
              have hl := q2.length
              have key : ((T.fld d).idxOf f ≤ vs.length) ∧ Reps X.K cA cF H2 r2 ys (if (T.fld d).idxOf f = vs.length then vs ++ [V] else vs.set ((T.fld d).idxOf f) V) := by
                unfold putL at g3
                rw [hl]
                split at g3
                · rename_i z
                  cases g3
                  rw [if_pos z]
                  exact ⟨Nat.le_of_eq z, q2.append (by simp only [Reps]; exact ⟨V, [], rfl, pv, rfl⟩)⟩
                · rename_i z
                  split at g3
                  · rename_i z2
                    cases g3
                    rw [if_neg z]
                    exact ⟨Nat.le_of_lt z2, Reps.set q2 pv⟩
                  · cases g3
              obtain ⟨y1, y2⟩ := E2.writeI (dx := dx) (c := d) hi key.2
              refine ⟨ad, cA d, dx, _, rfl, q1, c1, c2 f (List.idxOf_lt_length_iff.mp hj), ?_, ?_⟩
              · rw [List.length_zip]
                have := Nat.min_le_right (cF d).length vs.length
                have := hc.2
                omega
              · have e := putF_zip (T.fld d) vs f V hj key.1
                rw [show putF f V ((cF d).zip vs) = (cF d).zip (if (T.fld d).idxOf f = vs.length then vs ++ [V] else vs.set ((T.fld d).idxOf f) V) from by rw [FC.fl]; exact e]
                exact w2 r2 _ σ y1 y2 (n2.mono y1)
            · cases g1
          · cases g
        · cases g
      · cases g
  | .iff t a b, X, W, FC, G, tk, x, hh => by
    simp only [ckS] at hh
    split at hh <;> first | (cases hh; done) | skip
    simp only [Bool.and_eq_true] at hh
    obtain ⟨⟨⟨h0, h1⟩, h2⟩, h3⟩ := hh
    simp only [exS]
    refine PSimp (ps_if ((snd FC G.toGd tk t _ h1).2.1 h0) (sndSs a X W FC G tk _ h2) (sndSs b X W FC G tk _ h3)) fun D σ H q => ?_
    obtain ⟨r, e, h, E, n, w⟩ := q
    refine stepT E n w (fun x h1 hx => ?_) fun r1 H1 h1 b x1 E1 n1 w1 => ?_
    · cases x <;> first | rfl | exact absurd rfl (hx _)
    · cases b with
      | false => rw [if_neg Bool.false_ne_true]; exact ⟨r1, e, h1, E1, n1, w1⟩
      | true => rw [if_pos rfl]; exact ⟨r1, e, h1, E1, n1, w1⟩
  | .whl t b, X, W, FC, G, tk, x, hh => by
    simp only [ckS] at hh
    split at hh <;> first | (cases hh; done) | skip
    simp only [Bool.and_eq_true] at hh
    obtain ⟨⟨h0, h1⟩, h2⟩ := hh
    simp only [exS]
    refine PSimp (ps_while G.own ((snd FC G.toGd tk t _ h1).2.1 h0) (sndSs b X W FC G tk _ h2)) fun D σ H q => ?_
    obtain ⟨r, e, h, E, n, w⟩ := q
    exact whl_ok E n w
  | .fr tg it b, X, W, FC, G, tk, x, hh => by
    simp only [ckS] at hh
    split at hh <;> first | (cases hh; done) | skip
    simp only [Bool.and_eq_true] at hh
    obtain ⟨⟨⟨h0, h1⟩, h2⟩, h3⟩ := hh
    simp only [exS]
    refine PSimp (ps_for G.own G.calm (pi_ok FC G tk _ it _ h2) (pg_ok (cA := cA) (cF := cF) G tg _ h0) (sndSs b X W FC G tk _ h3) (set_pl h1)) fun D σ H q => ?_
    obtain ⟨r, e, h, E, n, w⟩ := q
    refine ⟨r, e, h, E, n, ?_⟩
    dsimp only at w
    cases q : itE T C it e h with
    | bad => rw [q] at w; exact w
    | exc y h1 => rw [q] at w; exact fun r' H' cls d e1 e2 e3 => w r' H' σ cls d e1 e2 (n.mono e1) e3
    | ok p h1 =>
      rw [q] at w
      simp only [R.go_ok] at w
      exact fun r1 H1 J P x1 E1 p1 L => for_ok L p1 E1 (n.mono x1) (wpO.mono x1 w)
  | .ret a, X, W, FC, G, tk, x, hh => by
    simp only [ckS] at hh
    split at hh <;> first | (cases hh; done) | skip
    simp only [exS]
    refine PSimp (ps_ret (snd FC G.toGd tk a _ hh).1) fun D σ H q => ?_
    obtain ⟨r, e, h, E, n, w⟩ := q
    refine stepS E n w fun r1 H1 h1 v V x1 E1 n1 p1 w1 => w1 r1 H1 V Ext.refl E1 p1
  | .retN, X, W, FC, G, tk, x, hh => by
    simp only [ckS] at hh
    split at hh <;> first | (cases hh; done) | skip
    simp only [exS]
    refine PSimp ps_retN fun D σ H q => ?_
    obtain ⟨r, e, h, E, n, w⟩ := q
    exact w r H _ Ext.refl E rep_non
  | .rais d, X, W, FC, G, tk, x, hh => by
    simp only [ckS] at hh
    split at hh <;> first | (cases hh; done) | skip
    simp only [Bool.and_eq_true, decide_eq_true_eq] at hh
    obtain ⟨h1, h2⟩ := hh
    obtain ⟨m1, m2⟩ := FC.cl _ _ h1
    obtain ⟨g1, g2⟩ := gl_of G.toGd h2
    simp only [exS]
    cases hz : T.rz d with
    | false =>
      refine PSimp (ps_never (X := X)) fun D σ H q => ?_
      obtain ⟨r, e, h, E, n, w⟩ := q
      simp only [Bool.false_eq_true, if_false] at w
      exact w
    | true =>
      obtain ⟨z1, z2, z3⟩ := FC.ex.rz d hz
      refine PSimp (ps_raise G.calm tk (pmk_own PySem.F.excBase_ValueError z1 m1 m2 (raises_own z2 z3) g1 g2)) fun D σ H q => ?_
      obtain ⟨r, e, h, E, n, w⟩ := q
      simp only [if_true] at w
      exact w r H σ _ _ Ext.refl E n ⟨rfl, rfl, rfl⟩
  | .tri b d i y, X, W, FC, G, tk, x, hh => by
    simp only [ckS] at hh
    split at hh <;> first | (cases hh; done) | skip
    simp only [Bool.and_eq_true, decide_eq_true_eq, Bool.not_eq_true'] at hh
    obtain ⟨⟨⟨⟨⟨⟨⟨⟨⟨⟨⟨h1, h2⟩, h3⟩, h4⟩, rfl⟩, h5⟩, h6⟩, h7⟩, h8⟩, h9⟩, h10⟩, h11⟩ := hh
    obtain ⟨m1, m2⟩ := FC.cl _ _ h1
    obtain ⟨g1, g2⟩ := gl_of G.toGd h2
    simp only [exS]
    refine PSimp (ps_try_val (tb := fun W' => tS X.K cA cF W' (exSs T C b)) G.stk G.frm G.exn G.nd (by rw [G.hN]; exact h3) (by show X.env.scope.names.lookup _ = _; rw [G.sc]; exact h4) (by rw [G.hN]; exact h8) (by rw [G.sc]; exact loc_of h9) (G.fn _) h6 h7 ⟨g1, g2, .inl m1⟩ tk
      (fun W' pn xe tk' own => sndSs b (X.tr pn xe) W' FC (G.tr own) tk' _ h11)) fun D σ H q => ?_
    obtain ⟨r, e, h, E, n, w⟩ := q
    refine ⟨r, e, h, E, n, ?_⟩
    dsimp only at w
    cases q : exSs T C b e h with
    | nx a b => simp only [q] at w; exact w
    | ct a b => simp only [q] at w; exact w
    | ret a b => simp only [q] at w; exact w
    | bad => simp only [q] at w; exact w.elim
    | exc xx e1 hh1 =>
      obtain ⟨cc, fs⟩ := xx
      cases fs with
      | cons _ _ => simp only [q] at w; exact w.elim
      | nil =>
        simp only [q] at w
        by_cases hc : (T.exc cc && T.exc d) = true
        · rw [if_pos hc] at w
          simp only [Bool.and_eq_true] at hc
          intro r' H' σ' cls dd x1 E1 n1 rx
          obtain ⟨rfl, _, rfl⟩ := rx
          refine ⟨T.sub cc d, FC.ex.em cc d hc.1 hc.2, fun hb => ⟨cA cc, rfl, rfl, fun a ha => ?_⟩, fun hb => ?_⟩
          · rw [hb, if_pos rfl] at w
            obtain ⟨y1, y2, y3⟩ := E1.new (o := ExcV (cA cc) a) ha
            have pe : Rep X.K cA cF (upd H' a (ExcV (cA cc) a)) r' (.exc cc []) (.ref a) := by
              simp only [Rep]
              exact ⟨a, rfl, ⟨y3, upd_same⟩, trivial⟩
            have n2 := n1.mono y1
            exact w r' _ _ (x1.trans y1) y2 (((n2.set (i := i) pe).set (i := y) pe).unset)
          · rw [hb, if_neg Bool.false_ne_true] at w
            exact w r' H' σ' _ _ x1 E1 n1 ⟨rfl, rfl, rfl⟩
        · rw [if_neg hc] at w; exact w.elim
  | .cont, X, W, FC, G, tk, x, hh => by
    simp only [ckS] at hh
    split at hh <;> first | (cases hh; done) | skip
    simp only [exS]
    exact PSimp ps_continue fun D σ H q => by
      obtain ⟨r, e, h, E, n, w⟩ := q
      exact w r H σ Ext.refl E n
theorem sndSs : ∀ (ss : Ss) (X : Cx) (W : WX) (FC : Fc X.prog X.w X.K X.mg X.base cA cF T C k c) (G : Gs X c k) (tk : Takes X W) (xs : List Stmt), ckSs c ss xs = true → PSs X xs (tS X.K cA cF W (exSs T C ss))
  | .nil, X, W, FC, G, tk, xs, hh => by
    cases xs with
    | cons _ _ => simp [ckSs] at hh
    | nil =>
      refine PSsimp pss_nil fun D σ H q => ?_
      obtain ⟨r, e, h, E, n, w⟩ := q
      simp only [exSs] at w
      exact w r H σ Ext.refl E n
  | .cons s ss, X, W, FC, G, tk, xs, hh => by
    cases xs with
    | nil => simp [ckSs] at hh
    | cons x xs =>
      simp only [ckSs, Bool.and_eq_true] at hh
      refine PSsimp (pss_cons (sndS s X W FC G tk x hh.1) (sndSs ss X W FC G tk xs hh.2)) fun D σ H q => ?_
      obtain ⟨r, e, h, E, n, w⟩ := q
      simp only [exSs] at w
      exact ⟨r, e, h, E, n, wpO_seq w⟩
end
end
end Rm

/-! Rm, part I: functions, the program. -/
namespace Rm
open PySem L2 PySem.Spec PyProof.Rows

/-- a def of the text: where it stands, its slots, what it is in the small language -/
structure FD where
  at_ : Str × Option Str
  name : Str
  qual : Str
  N : List Str
  st : Stmt
  fi : FI
structure PD where
  mts : List (Nat × Str × Nat)
  inis : List (Nat × Nat)
  fds : List FD
  cls : List Str
  free : List Str
  gI : List (Str × Int)
  gS : List (Str × Str)
  T : Tab
def PD.fs (p : PD) : List FI := p.fds.map (·.fi)
def FD.ps (d : FD) : List Str := d.N.take d.fi.np
def PD.ck (p : PD) (d : FD) : Ck := { N := d.N, sc := defScope d.st, fnm := p.fds.map fun d => match d.at_.2 with | none => some d.at_.1 | some _ => none, cnm := p.cls, free := p.free, gI := p.gI, gS := p.gS }
/-- plain parameters -/
def plainArgs (a : Arguments) (ps : List Str) : Bool := a.posonlyargs.isEmpty && decide (a.args.map (·.arg) = ps) && a.vararg.isNone && a.kwonlyargs.isEmpty && a.kw_defaults.isEmpty && a.kwarg.isNone && a.defaults.isEmpty
def FD.ok (p : PD) (d : FD) : Bool :=
  decide ((defScope d.st).kind = .function) && decide ((defScope d.st).isCoroutine = false) && decide ((defScope d.st).isGenerator = false) && decide d.N.Nodup &&
  d.ps.all (fun x => decide ((defScope d.st).names.lookup x = some .local) || decide ((defScope d.st).names.lookup x = some .cell)) &&
  (defScope d.st).names.all (fun y => decide (y.2 ≠ .free)) && decide (d.fi.np ≤ d.N.length) && decide (d.fi.nl = d.N.length) && plainArgs (defArgs d.st) d.ps &&
  ckSs (p.ck d) d.fi.body (defBody d.st)
theorem FD.scope {p : PD} {d : FD} (h : d.ok p = true) : FnScope d.N d.ps (defScope d.st) ∧ d.ps.length = d.fi.np ∧ d.fi.nl = d.N.length ∧ d.fi.np ≤ d.N.length ∧ plainArgs (defArgs d.st) d.ps = true ∧ ckSs (p.ck d) d.fi.body (defBody d.st) = true := by
  unfold FD.ok at h
  simp only [Bool.and_eq_true, decide_eq_true_eq, List.all_eq_true, Bool.or_eq_true] at h
  obtain ⟨⟨⟨⟨⟨⟨⟨⟨⟨h1, h2⟩, h3⟩, h4⟩, h5⟩, h6⟩, h7⟩, h8⟩, h9⟩, h11⟩ := h
  refine ⟨⟨h1, h2, h3, h4, ?_, h5, h6⟩, ?_, h8, h7, h9, h11⟩
  · unfold FD.ps; rw [List.length_take, Nat.min_eq_left h7]
  · unfold FD.ps; rw [List.length_take]; omega

/-! ### binding plain parameters -/
theorem zip_look : ∀ {ps : List Str} {us : List Value} {x : Str}, us.length = ps.length → x ∈ ps → ((ps.zip us).lookup x).isNone = false
  | [], _, x, _, h => by cases h
  | p :: ps, [], x, hl, _ => by simp at hl
  | p :: ps, u :: us, x, hl, h => by
    rw [List.zip_cons_cons, List.lookup_cons]
    cases e : x == p with
    | true => rfl
    | false =>
      rcases List.mem_cons.mp h with z | z
      · subst z; simp at e
      · exact zip_look (by simpa using hl) z
theorem zip_fm : ∀ {ps : List Str} {us : List Value} (L : List (Str × Value)), ps.Nodup → us.length = ps.length → (∀ x ∈ ps, L.lookup x = (ps.zip us).lookup x) → ps.filterMap (fun n => (L.lookup n).map fun v => (n, v)) = ps.zip us
  | [], us, L, _, _, _ => by simp
  | p :: ps, [], L, _, hl, _ => by simp at hl
  | p :: ps, u :: us, L, nd, hl, h => by
    obtain ⟨n1, n2⟩ := List.nodup_cons.mp nd
    have e : L.lookup p = some u := by rw [h p List.mem_cons_self, List.zip_cons_cons, List.lookup_cons]; simp
    rw [List.filterMap_cons, e, List.zip_cons_cons]
    simp only [Option.map_some]
    rw [zip_fm L n2 (by simpa using hl) fun x hx => ?_]
    rw [h x (List.mem_cons_of_mem _ hx), List.zip_cons_cons, List.lookup_cons]
    have : (x == p) = false := by
      cases q : x == p with
      | false => rfl
      | true => rw [beq_iff_eq] at q; subst q; exact absurd hx n1
    rw [this]
theorem bind_plain {n q : Str} {b : List Stmt} {sc : Scope} {kV doc pm cdv ct : Value} {an : Option Addr} {ar : List Arg} (us : List Value) (nd : (ar.map (·.arg)).Nodup) (hl : us.length = ar.length) :
    bindArgs (PySem.W.fnOf n q ⟨[], ar, none, [], [], none, []⟩ b sc .none kV doc pm an cdv ct) ⟨us, []⟩ = pure ((ar.map (·.arg)).zip us) := by
  have hl2 : us.length = (ar.map (·.arg)).length := by simpa using hl
  have hm : (List.filter (fun n => (List.lookup n ((ar.map (·.arg)).zip us)).isNone) (ar.map (·.arg))) = [] := by
    rw [List.filter_eq_nil_iff]
    intro x hx
    rw [zip_look hl2 hx]
    decide
  have hz := zip_fm ((ar.map (·.arg)).zip us) nd hl2 fun _ _ => rfl
  have ht : List.take ar.length (List.map (fun x => x.arg) ar) = List.map (fun x => x.arg) ar := List.take_of_length_le (by simp)
  have hn : notAStandIn Value.none = pure () := rfl
  unfold bindArgs
  simp only [PySem.W.fnOf]
  simp [seqItems?, hl, hm, ht, hn]
  rw [List.filterMap_map] at hz
  exact congrArg pure hz
theorem bind_plainA {n q : Str} {b : List Stmt} {sc : Scope} {kV doc pm cdv ct : Value} {an : Option Addr} {a : Arguments} {ps : List Str} (h : plainArgs a ps = true) (nd : ps.Nodup) (us : List Value) (hl : us.length = ps.length) :
    bindArgs (PySem.W.fnOf n q a b sc .none kV doc pm an cdv ct) ⟨us, []⟩ = pure (ps.zip us) := by
  obtain ⟨po, ar, va, ko, kd, kw, df⟩ := a
  unfold plainArgs at h
  simp only [Bool.and_eq_true, decide_eq_true_eq, List.isEmpty_iff, Option.isNone_iff_eq_none] at h
  obtain ⟨⟨⟨⟨⟨⟨rfl, rfl⟩, rfl⟩, rfl⟩, rfl⟩, rfl⟩, rfl⟩ := h
  exact bind_plain us nd (by simpa using hl)

/-! ### the facts that the head tells -/
/-- what an own class of exceptions must say -/
def exB (K : PySem.W.Frag) (D : Addr) : Bool :=
  He.eqO (PySem.W.findIn K (.ref D) "__getattribute__") (some (some (.builtin "BaseException.__getattribute__"))) && He.eqO (PySem.W.findIn K (.ref D) "__getattr__") (some none) &&
  decide (PySem.W.subIn K (.ref D) (.type "BaseException") = some true) && PySem.W.hasDictIn K D && He.eqO (PySem.W.findIn K (.ref D) "__class__") (some (some (.builtin "object.__class__"))) &&
  He.eqO (PySem.W.specialIn K (.builtin "object.__class__") "__get__") (some (some (.builtin "getset_descriptor.__get__"))) && decide (PySem.W.takesIn K (.builtin "object.__class__") = some true) && decide (PySem.W.mroIn K D (.type "object") = some true)
theorem exB_ok {K : PySem.W.Frag} {D : Addr} (h : exB K D = true) : ExcC K D := by
  unfold exB at h
  simp only [Bool.and_eq_true, decide_eq_true_eq] at h
  obtain ⟨⟨⟨⟨⟨⟨⟨h1, h2⟩, h3⟩, h4⟩, h5⟩, h6⟩, h7⟩, h8⟩ := h
  exact ⟨He.eqO_ok h1, He.eqO_ok h2, h3, h4, He.eqO_ok h5, He.eqO_ok h6, h7, h8⟩
def PD.cA (p : PD) (K : PySem.W.Frag) (c : Nat) : Addr := He.ga K (p.cls.getD c (Str.ofString ""))
def PD.exF (p : PD) (K : PySem.W.Frag) : Bool := (List.range p.cls.length).all fun c =>
  (!p.T.exc c || (exB K (p.cA K c) && decide (PySem.W.kitOne K (.ref (p.cA K c)) (.type "ValueError") = some (p.T.ve c)) && decide (PySem.W.kitOne K (.type "NoneType") (.ref (p.cA K c)) = some false) &&
    (List.range p.cls.length).all fun d => !p.T.exc d || (decide (PySem.W.kitOne K (.ref (p.cA K c)) (.ref (p.cA K d)) = some (p.T.sub c d)) && decide (PySem.W.exmOne K (.ref (p.cA K c)) (.ref (p.cA K d)) = some (p.T.sub c d))))) &&
  (!p.T.rz c || (PySem.W.excIn K (p.cA K c) [.type "ValueError", .type "Exception", .type "BaseException", .type "object"] "ValueError.__new__" && decide (PySem.W.subIn K (.ref (p.cA K c)) (.type "BaseException") = some true) && decide (PySem.W.typeIn K (.ref (p.cA K c)) = some (.type "type")))) &&
  (!p.T.obj c || (He.eqO (PySem.W.findIn K (.ref (p.cA K c)) "__class__") (some (some (.builtin "object.__class__"))) && He.eqO (PySem.W.specialIn K (.builtin "object.__class__") "__get__") (some (some (.builtin "getset_descriptor.__get__"))) && decide (PySem.W.takesIn K (.builtin "object.__class__") = some true) && decide (PySem.W.mroIn K (p.cA K c) (.type "object") = some true) &&
    (List.range p.cls.length).all fun d => !p.T.obj d || decide (PySem.W.kitOne K (.ref (p.cA K c)) (.ref (p.cA K d)) = some (p.T.sub c d))))
/-- what the plain classes must say; mt: class, method, the def -/
def PD.obF (p : PD) (K : PySem.W.Frag) : Bool := (List.range p.cls.length).all fun c =>
  (!p.T.obj c || ((He.Fa.cls (p.cls.getD c (Str.ofString ""))).ok K && (p.T.fld c).all fun f => (He.Fa.noat (p.cls.getD c (Str.ofString "")) f).ok K)) &&
  (!p.T.n0 c || (PySem.W.makesIn K (p.cA K c) && He.eqO (PySem.W.findIn K (.ref (p.cA K c)) "__init__") (some (some (.builtin "object.__init__")))))
def PD.mtF (p : PD) (K : PySem.W.Frag) : Bool := p.mts.all fun q => (match p.cls[q.1]?, p.fds[q.2.2]? with
  | some x, some d => (He.Fa.meth x q.2.1).ok K && decide (He.ma K (He.ga K x) q.2.1 = He.fAd K d.at_) && !(p.T.fld q.1).contains q.2.1
  | _, _ => false)
def PD.inF (p : PD) (K : PySem.W.Frag) : Bool := p.inis.all fun q => (match p.cls[q.1]?, p.fds[q.2]? with
  | some x, some d => (He.Fa.mkr x).ok K && decide (He.ma K (He.ga K x) (Str.ofString "__init__") = He.fAd K d.at_)
  | _, _ => false)
/-- the tables are those of the lists -/
structure PD.tabs (p : PD) : Prop where
  ob : ∀ c, (p.T.obj c = true ∨ p.T.n0 c = true) → c < p.cls.length
  mt : ∀ c m g, p.T.mth c m = some g → (c, m, g) ∈ p.mts
  ini : ∀ c g, p.T.ini c = some g → (c, g) ∈ p.inis
def PD.inCls (p : PD) : Prop := ∀ c, (p.T.exc c = true ∨ p.T.rz c = true) → c < p.cls.length
theorem PD.exF_ok {p : PD} {K : PySem.W.Frag} (hc : p.inCls) (tb : p.tabs) (h : p.exF K = true) : ExF K (p.cA K) p.T := by
  unfold PD.exF at h
  simp only [List.all_eq_true, List.mem_range, Bool.and_eq_true, Bool.or_eq_true, Bool.not_eq_true', decide_eq_true_eq] at h
  have get : ∀ c, p.T.exc c = true → _ := fun c e => (h c (hc c (.inl e))).1.1.resolve_left (by rw [e]; decide)
  have ge : ∀ c, p.T.obj c = true → _ := fun c e => (h c (tb.ob c (.inl e))).2.resolve_left (by rw [e]; decide)
  exact {
    exc := fun c e => exB_ok (get c e).1.1.1
    ve := fun c e => (get c e).1.1.2
    non := fun c e => (get c e).1.2
    osub := fun c d e f => ((ge c e).2 d (tb.ob d (.inl f))).resolve_left (by rw [f]; decide)
    oi := fun c e => ⟨He.eqO_ok (ge c e).1.1.1.1, He.eqO_ok (ge c e).1.1.1.2, (ge c e).1.1.2, (ge c e).1.2⟩
    sub := fun c d e f => (((get c e).2 d (hc d (.inl f))).resolve_left (by rw [f]; decide)).1
    em := fun c d e f => (((get c e).2 d (hc d (.inl f))).resolve_left (by rw [f]; decide)).2
    rz := fun c e => by
      have z := (h c (hc c (.inr e))).1.2.resolve_left (by rw [e]; decide)
      exact ⟨z.1.1, z.1.2, z.2⟩ }
def PD.fa (p : PD) : List He.Fa := p.free.map He.Fa.free ++ p.gI.map (fun q => He.Fa.int q.1 q.2) ++ p.gS.map (fun q => He.Fa.str q.1 q.2) ++ p.cls.map He.Fa.glo ++ p.cls.map He.Fa.keep ++
  p.fds.filterMap fun d => match d.at_.2 with | none => some (He.Fa.glo d.at_.1) | some _ => none
def FD.defD (d : FD) : He.DefD := ⟨d.at_, d.name, d.qual, defArgs d.st, defBody d.st, defScope d.st, [], []⟩
def PD.fn (p : PD) : List He.DefD := p.fds.map FD.defD
def PD.obs (p : PD) (K : PySem.W.Frag) : He.AlD := ((p.exF K && (p.obF K && (p.mtF K && p.inF K))) && (He.obsD p.fa p.fn K).1, (He.obsD p.fa p.fn K).2)
def PD.says (p : PD) (K : PySem.W.Frag) : Prop := p.obs K = He.valD p.fn
def PD.obsG (p : PD) (n : Nat) (g : Addr → Option Obj) : He.AlD := p.obs (He.frG g (He.asD g n))
def PD.hook (p : PD) (n : Nat) : PySem.W.Hook where
  α := He.AlD
  obs := fun s => p.obsG n s.heap.get?
  val := fun _ => He.valD p.fn
  says := fun _ h => ∃ K : PySem.W.Frag, K.In h ∧ p.says K
  of := fun _ _ e => ⟨_, He.frG_in, e⟩
  keeps := fun _ _ _ ⟨K, hK, c⟩ k => ⟨K, PySem.W.Frag.In.keeps hK k, c⟩
theorem PD.obsG_eq {p : PD} {n : Nat} {g : Addr → Option Obj} {s : Shared} (h : ∀ a, g a = s.heap.get? a) : p.obsG n g = (p.hook n).obs s := by
  have e : g = s.heap.get? := funext h
  rw [e] <;> rfl
theorem PD.says_ok {p : PD} {K : PySem.W.Frag} (h : p.says K) : p.exF K = true ∧ He.SaysD p.fa p.fn K := by
  have h1 := congrArg (fun z : He.AlD => z.1) h
  have h2 := congrArg (fun z : He.AlD => z.2) h
  have h1' : ((p.exF K && (p.obF K && (p.mtF K && p.inF K))) && (He.obsD p.fa p.fn K).1) = true := h1
  obtain ⟨a, b⟩ := He.ba h1'
  exact ⟨(He.ba a).1, Prod.ext b h2⟩
theorem PD.says_ob {p : PD} {K : PySem.W.Frag} (h : p.says K) : p.obF K = true ∧ p.mtF K = true ∧ p.inF K = true := by
  have h1 := congrArg (fun z : He.AlD => z.1) h
  have h1' : ((p.exF K && (p.obF K && (p.mtF K && p.inF K))) && (He.obsD p.fa p.fn K).1) = true := h1
  obtain ⟨a, b⟩ := He.ba h1'
  obtain ⟨_, a⟩ := He.ba a
  obtain ⟨a1, a⟩ := He.ba a
  obtain ⟨a2, a3⟩ := He.ba a
  exact ⟨a1, a2, a3⟩
theorem says_fact {fa : List He.Fa} {fn : List He.DefD} {K : PySem.W.Frag} (c : He.SaysD fa fn K) {f : He.Fa} (h : f ∈ fa) : f.ok K = true := by
  obtain ⟨i, hi, e⟩ := List.mem_iff_getElem.mp h
  exact c.fact i (by rw [← e]; simp [hi])

/-! ### every def keeps its promise -/
section
variable {p : PD} {P : Program} {w : World} {K : PySem.W.Frag} {mg : Str → Option Value} {h0 : Heap} {base : Heap}
def fAd (K : PySem.W.Frag) (p : PD) (f : Nat) : Addr := match p.fds[f]? with
  | some d => He.fAd K d.at_
  | none => 0
theorem run_ok (hok : p.fds.all (fun d => d.ok p) = true) (hin : p.inCls) (tb : p.tabs) (c : p.says K) (X : K.In h0) (G : h0.Ns mainGlobals mg) (sr : base.NoSeer) (tr : P.given.tree = none) :
    ∀ (n : Nat) (f : Nat) (d : FD), p.fds[f]? = some d → ∃ fd, FunD K d.name d.qual (defArgs d.st) (defBody d.st) (defScope d.st) [] [] (He.fAd K d.at_) fd ∧
      FnOk P w K mg base (L2.CX P w) (34 + 2 * n) (He.fAd K d.at_) fd d.ps (spR K (p.cA K) p.T.fld (run p.T p.fs n) f) ∧ (p.fds[f + big]? = none → FnOk P w K mg base (L2.CX P w) (34 + 2 * n) (He.fAd K d.at_) fd d.ps (spR K (p.cA K) p.T.fld (run p.T p.fs n) (f + big))) := by
  obtain ⟨c1, c2⟩ := PD.says_ok c
  have exf := PD.exF_ok hin tb c1
  obtain ⟨o1, o2, o3⟩ := PD.says_ob c
  have bnd : ∀ {d : FD} {fd : FuncData}, d.ok p = true → FunD K d.name d.qual (defArgs d.st) (defBody d.st) (defScope d.st) [] [] (He.fAd K d.at_) fd → Binds K fd d.ps [] := by
    intro d fd hd F
    obtain ⟨S, h2, _, _, h5, _⟩ := FD.scope hd
    obtain ⟨oc, od, dV, kV, doc, pm, an, cdv, ct, osl, rfl, lk, hcd, hdv, hkv⟩ := F.ex
    rcases hdv with ⟨_, rfl⟩ | ⟨z, _⟩
    · exact .all fun us hl => bind_plainA h5 (S.nd.sublist (List.take_sublist _ _)) us hl
    · exact absurd rfl z
  intro n
  induction n with
  | zero =>
    intro f d hf
    have hfn : p.fn[f]? = some d.defD := by unfold PD.fn; rw [List.getElem?_map, hf]; rfl
    obtain ⟨fd, F⟩ := c2.def_ f hfn
    refine ⟨fd, F, ⟨fun vs H Q E q => ?_, fun A outer s H args us vs Q E _ _ _ _ q => ?_⟩, fun _ => ⟨fun vs H Q E q => ?_, fun A outer s H args us vs Q E _ _ _ _ q => ?_⟩⟩
    · obtain ⟨r, as, h, _, _, z⟩ := q
      simp only [run] at z
      exact z.elim
    · obtain ⟨r, as, h, _, _, z⟩ := q
      simp only [run] at z
      exact z.elim
    · obtain ⟨r, as, h, _, _, z⟩ := q
      simp only [run] at z
      exact z.elim
    · obtain ⟨r, as, h, _, _, z⟩ := q
      simp only [run] at z
      exact z.elim
  | succ n ih =>
    intro f d hf
    have hfn : p.fn[f]? = some d.defD := by unfold PD.fn; rw [List.getElem?_map, hf]; rfl
    obtain ⟨fd, F⟩ := c2.def_ f hfn
    have F : FunD K d.name d.qual (defArgs d.st) (defBody d.st) (defScope d.st) [] [] (He.fAd K d.at_) fd := F
    have hd : d.ok p = true := List.all_eq_true.mp hok d (List.mem_of_getElem? hf)
    obtain ⟨S, h2, h3, h4, h5, h7⟩ := FD.scope hd
    have hfs : p.fs[f]? = some d.fi := by unfold PD.fs; rw [List.getElem?_map, hf]; rfl
    have main : ∀ (fr : Bool) (ff : Nat), (∀ vs h, run p.T p.fs (n + 1) ff vs h = if vs.length = d.fi.np then leaveB fr d.fi h (exSs p.T (run p.T p.fs n) d.fi.body (Rm.start d.fi vs) h) else .bad) →
        FnOk P w K mg base (L2.CX P w) (34 + 2 * (n + 1)) (He.fAd K d.at_) fd d.ps (spR K (p.cA K) p.T.fld (run p.T p.fs (n + 1)) ff) := by
      intro fr ff hrun
      have len : ∀ vs H Q E, spR K (p.cA K) p.T.fld (run p.T p.fs (n + 1)) ff vs H Q E → vs.length = d.ps.length := by
        intro vs H Q E q
        obtain ⟨r, as, h, _, p1, z⟩ := q
        rw [hrun] at z
        split at z
        · rename_i hl
          rw [p1.length, hl, h2]
        · exact z.elim
      refine FunD.ok F S len fun cdv A outer s H vs Q E hr q => ?_
      refine ⟨tS K (p.cA K) p.T.fld (fun cls dd _ H => E cls dd H) (exSs p.T (run p.T p.fs n) d.fi.body), ?_, ?_⟩
      · have FC : Fc P w K mg base (p.cA K) p.T.fld p.T (run p.T p.fs n) (34 + 2 * n) (p.ck d) := {
          fn := fun g x e => by
            have e2 : ∃ d', (p.fds[g]? = some d' ∨ (p.fds[g]? = none ∧ big ≤ g ∧ p.fds[g - big]? = some d')) ∧ (match d'.at_.2 with | none => some d'.at_.1 | some _ => none) = some x := by
              unfold Ck.fa at e
              have ef : (p.ck d).fnm = p.fds.map fun d => match d.at_.2 with | none => some d.at_.1 | some _ => none := rfl
              rw [ef, List.getElem?_map, List.getElem?_map] at e
              cases q1 : p.fds[g]? with
              | some d' => rw [q1] at e; simp only [Option.map_some, Option.some.injEq] at e; exact ⟨d', .inl rfl, e⟩
              | none =>
                rw [q1] at e
                simp only [Option.map_none] at e
                split at e
                · rename_i hb
                  obtain ⟨d', hd', e3⟩ := Option.map_eq_some_iff.mp e
                  exact ⟨d', .inr ⟨rfl, hb, hd'⟩, e3⟩
                · cases e
            obtain ⟨d', hcase, e3⟩ := e2
            have hex : ∃ fd', FunD K d'.name d'.qual (defArgs d'.st) (defBody d'.st) (defScope d'.st) [] [] (He.fAd K d'.at_) fd' ∧
                FnOk P w K mg base (L2.CX P w) (34 + 2 * n) (He.fAd K d'.at_) fd' d'.ps (spR K (p.cA K) p.T.fld (run p.T p.fs n) g) ∧ ∃ g' : Nat, p.fds[g']? = some d' := by
              rcases hcase with hd' | ⟨h0, hb, hd'⟩
              · obtain ⟨fd', F', O', _⟩ := ih g d' hd'
                exact ⟨fd', F', O', g, hd'⟩
              · obtain ⟨fd', F', _, O'⟩ := ih (g - big) d' hd'
                have eg : g - big + big = g := Nat.sub_add_cancel hb
                rw [eg] at O'
                exact ⟨fd', F', O' h0, g - big, hd'⟩
            obtain ⟨fd', F', O', g', hd'⟩ := hex
            have hz : d'.at_ = (x, none) := by
              obtain ⟨⟨a1, a2⟩, _⟩ := d'
              cases a2 with
              | none => simp only [Option.some.injEq] at e3; simp [e3]
              | some _ => cases e3
            have hg := He.glo_ok X G (says_fact c2 (f := .glo x) (by
              unfold PD.fa
              refine List.mem_append_right _ (List.mem_filterMap.mpr ⟨d', List.mem_of_getElem? hd', ?_⟩)
              rw [hz]))
            have hd'' : d'.ok p = true := List.all_eq_true.mp hok d' (List.mem_of_getElem? hd')
            refine ⟨He.fAd K d'.at_, fd', d'.ps, O', ?_, F'.kp, bnd hd'' F'⟩
            rw [hg, hz]; rfl
          free := fun x hx => He.free_ok X G (says_fact c2 (f := .free x) (by
            unfold PD.fa
            simp only [List.append_assoc]
            exact List.mem_append_left _ (List.mem_map.mpr ⟨x, hx, rfl⟩)))
          gi := fun x i hx => He.int_ok X G (says_fact c2 (f := .int x i) (by
            unfold PD.fa
            simp only [List.append_assoc]
            exact List.mem_append_right _ (List.mem_append_left _ (List.mem_map.mpr ⟨(x, i), hx, rfl⟩))))
          gs := fun x i hx => He.str_ok X G (says_fact c2 (f := .str x i) (by
            unfold PD.fa
            simp only [List.append_assoc]
            exact List.mem_append_right _ (List.mem_append_right _ (List.mem_append_left _ (List.mem_map.mpr ⟨(x, i), hx, rfl⟩)))))
          cl := fun e x hx => by
            have hx : p.cls[e]? = some x := hx
            have hm : x ∈ p.cls := List.mem_of_getElem? hx
            have hA : p.cA K e = He.ga K x := by unfold PD.cA; rw [List.getD_eq_getElem?_getD, hx]; rfl
            rw [hA]
            exact ⟨He.glo_ok X G (says_fact c2 (f := .glo x) (by
              unfold PD.fa
              simp only [List.append_assoc]
              exact List.mem_append_right _ (List.mem_append_right _ (List.mem_append_right _ (List.mem_append_left _ (List.mem_map.mpr ⟨x, hm, rfl⟩)))))), He.keep_ok (says_fact c2 (f := .keep x) (by
              unfold PD.fa
              simp only [List.append_assoc]
              exact List.mem_append_right _ (List.mem_append_right _ (List.mem_append_right _ (List.mem_append_right _ (List.mem_append_left _ (List.mem_map.mpr ⟨x, hm, rfl⟩)))))))⟩
          ex := exf
          fl := rfl
          ob := fun d ho => by
            have z := List.all_eq_true.mp o1 d (List.mem_range.mpr (tb.ob d (.inl ho)))
            simp only [Bool.and_eq_true, Bool.or_eq_true, Bool.not_eq_true'] at z
            have z1 := z.1.resolve_left (by rw [ho]; decide)
            exact ⟨He.cls_ok z1.1, fun f hf => He.noat_ok (List.all_eq_true.mp z1.2 f hf)⟩
          mt := fun d m g ho hm => by
            have z := List.all_eq_true.mp o2 _ (tb.mt d m g hm)
            dsimp only at z
            split at z
            · rename_i x d' hx hd'
              simp only [Bool.and_eq_true, decide_eq_true_eq, Bool.not_eq_true', List.contains_eq_mem, decide_eq_false_iff_not] at z
              obtain ⟨⟨z1, z2⟩, z3⟩ := z
              obtain ⟨fd', F', O', _⟩ := ih g d' hd'
              have hd'' : d'.ok p = true := List.all_eq_true.mp hok d' (List.mem_of_getElem? hd')
              refine ⟨z3, He.fAd K d'.at_, fd', d'.ps, O', ?_, bnd hd'' F'⟩
              have hA : p.cA K d = He.ga K x := by unfold PD.cA; rw [List.getD_eq_getElem?_getD, hx]; rfl
              rw [hA, ← z2]
              exact He.meth_ok z1
            · cases z
          mkI := fun d g ho hm => by
            have z := List.all_eq_true.mp o3 _ (tb.ini d g hm)
            dsimp only at z
            split at z
            · rename_i x d' hx hd'
              simp only [Bool.and_eq_true, decide_eq_true_eq] at z
              obtain ⟨z1, z2⟩ := z
              obtain ⟨fd', F', O', _⟩ := ih g d' hd'
              have hd'' : d'.ok p = true := List.all_eq_true.mp hok d' (List.mem_of_getElem? hd')
              refine ⟨He.fAd K d'.at_, fd', d'.ps, O', ?_, bnd hd'' F'⟩
              have hA : p.cA K d = He.ga K x := by unfold PD.cA; rw [List.getD_eq_getElem?_getD, hx]; rfl
              rw [hA, ← z2]
              exact He.mkr_ok z1
            · cases z
          m0 := fun d h0 => by
            have z := List.all_eq_true.mp o1 d (List.mem_range.mpr (tb.ob d (.inr h0)))
            simp only [Bool.and_eq_true, Bool.or_eq_true, Bool.not_eq_true'] at z
            have z1 := z.2.resolve_left (by rw [h0]; decide)
            exact ⟨z1.1, He.eqO_ok z1.2⟩ }
        exact sndSs d.fi.body (cxOf (L2.CX P w) P w K mg base d.N d.qual (defScope d.st) (He.fAd K d.at_) cdv A outer s H E) (fun cls dd _ H => E cls dd H) FC
          { hN := rfl, sc := rfl, rm := hr, calm := rfl, nd := S.nd, deep := ⟨sr, tr, by have h0 : Room (34 + 2 * n + 1) (A.deeper (envOfC d.qual (defScope d.st) s.heap.objs.size (He.fAd K d.at_) cdv)) := hr; have := h0.dp; show (A.deeper (envOfC d.qual (defScope d.st) s.heap.objs.size (He.fAd K d.at_) cdv)).depth + 100 < _; omega, ⟨_, _, rfl, S.gen, S.co, rfl, rfl⟩⟩, fn := fun _ => rfl, own := passes_of rfl, stk := rfl, frm := rfl, exn := rfl } (takes_of rfl rfl rfl rfl) (defBody d.st) h7
      · obtain ⟨r, as, h, Em, p1, z⟩ := q
        rw [hrun] at z
        split at z
        · rename_i hl
          refine ⟨r, Rm.start d.fi as, h, Em, ?_, ?_⟩
          · refine ⟨?_, fun i v e => ?_⟩
            · unfold Rm.start L2.start
              rw [List.length_append, List.length_append, List.length_map, List.length_map, List.length_replicate, List.length_replicate, p1.length, hl, h3]
            · unfold Rm.start at e
              have hi : i < as.length := by
                by_cases hi : i < as.length
                · exact hi
                · rw [List.getElem?_append_right (by simpa using hi), List.getElem?_replicate] at e
                  split at e <;> cases e
              rw [List.getElem?_append_left (by simpa using hi), List.getElem?_map] at e
              cases ea : as[i]? with
              | none => rw [ea] at e; cases e
              | some x =>
                rw [ea] at e
                simp only [Option.map_some, Option.some.injEq] at e
                subst e
                obtain ⟨V, k1, k2⟩ := p1.get ea
                refine ⟨V, ?_, k2⟩
                unfold L2.start
                rw [List.getElem?_append_left (by rw [List.length_map, p1.length]; exact hi), List.getElem?_map, k1]; rfl
          · have fin_ok : ∀ {v : MV} {h' : HP}, wpR K (p.cA K) p.T.fld r H (Rm.fin d.fi.keep h v h') Q E → ∀ r' H' V, Ext r H r' H' → Emb K (p.cA K) p.T.fld H' r' h' → Rep K (p.cA K) p.T.fld H' r' v V → Q V H' := by
              intro v h' w r' H' V x1 E1 p2
              unfold Rm.fin at w
              split at w
              · exact w r' H' V x1 E1 p2
              · split at w
                · rename_i ht
                  obtain ⟨t, rfl⟩ := x1.pre
                  have E2 := Emb.cut E1 Em ht
                  have x2 : Ext r H r H' := ⟨⟨[], by simp⟩, fun a o e n => ⟨(x1.keep a o e n).1, n⟩⟩
                  cases g : frz h' h.length v with
                  | none => rw [g] at w; exact w.elim
                  | some u =>
                    rw [g] at w
                    rw [← Em.len] at g
                    exact w r H' V x2 E2 (frz_ok E1 v u V g p2)
                · exact w.elim
            have finC_ok : ∀ {v : MV} {h' : HP}, wpR K (p.cA K) p.T.fld r H (Rm.finC h v h') Q E → ∀ r' H' V, Ext r H r' H' → Emb K (p.cA K) p.T.fld H' r' h' → Rep K (p.cA K) p.T.fld H' r' v V → Q V H' := by
              intro v h' w r' H' V x1 E1 p2
              unfold Rm.finC at w
              split at w
              · rename_i ht
                split at w
                · rename_i i
                  split at w
                  · rename_i hi
                    split at w
                    · rename_i xs hx
                      split at w
                      · rename_i hl
                        obtain ⟨t, rfl⟩ := x1.pre
                        simp only [Rep] at p2
                        obtain ⟨a, rfl, hr⟩ := p2
                        rw [← Em.len] at hi hl
                        have E2 := Emb.pick E1 Em ht hi hr hx hl
                        have ha : a ∈ r ++ t := List.mem_of_getElem? hr
                        have x2 : Ext r H (r ++ [a]) H' := ⟨⟨[a], rfl⟩, fun b o e n => ⟨(x1.keep b o e n).1, fun z => by
                          rcases List.mem_append.mp z with z | z
                          · exact n z
                          · have : b = a := by simpa using z
                            rw [this] at e n
                            exact (x1.keep a o e n).2 ha⟩⟩
                        refine w (r ++ [a]) H' _ x2 E2 ?_
                        simp only [Rep]
                        exact ⟨a, rfl, by rw [← Em.len]; simp⟩
                      · exact w.elim
                    · exact w.elim
                  · exact w.elim
                · exact w.elim
              · exact w.elim
            cases q2 : exSs p.T (run p.T p.fs n) d.fi.body (Rm.start d.fi as) h with
            | nx a b =>
              cases fr with
              | true => simp only [leaveB, q2, if_true] at z; exact z.elim
              | false => simp only [leaveB, q2, Bool.false_eq_true, if_false] at z; exact fun r' H' s' x1 E1 n1 => fin_ok z r' H' V.non x1 E1 rep_non
            | ret a b =>
              cases fr with
              | true => simp only [leaveB, q2, if_true] at z; exact finC_ok z
              | false => simp only [leaveB, q2, Bool.false_eq_true, if_false] at z; exact fin_ok z
            | ct a b => simp only [leaveB, q2] at z; exact z.elim
            | bad => simp only [leaveB, q2] at z; exact z.elim
            | exc x a b =>
              simp only [leaveB, q2] at z
              intro r' H' s' cls dd x1 E1 n1 rx
              split at z
              · rename_i ht
                obtain ⟨t, rfl⟩ := x1.pre
                have E2 := Emb.cut E1 Em ht
                have x2 : Ext r H r H' := ⟨⟨[], by simp⟩, fun a o e n => ⟨(x1.keep a o e n).1, n⟩⟩
                exact z r H' cls dd x2 E2 rx
              · exact z.elim
        · exact z.elim
    exact ⟨fd, F, main false f fun vs h => run_at hfs vs h, fun h0 => main true (f + big) fun vs h => run_atC hfs (by unfold PD.fs; rw [List.getElem?_map, h0]; rfl) vs h⟩
end
end Rm

/-! Rm, part J: the end of a law's row. -/
namespace Rm
open PySem L2 PySem.Spec PyProof.Rows
theorem law_callF {P : Program} {w : World} {K : PySem.W.Frag} {mg mb : Str → Option Value} {CX : CXT} {k : Nat} {fa a : Addr} {fd : FuncData} {x : Str} {sp : Sp} {s₁ : Shared} {vs : List Value} {ns : List Int}
    (KX : K.In s₁.heap) (hns : s₁.heap.Ns mainGlobals mg) (hb : s₁.heap.Ns builtinsNs mb) (hbb : ∀ x : Str, x ≠ "__name__" → mb x = bootBuiltins x) (hlim : s₁.heap.NoLimit) (hseer : s₁.heap.NoSeer) (hg : s₁.gens = #[])
    (ha : s₁.heap.get? a = some { cls := .type "list", data := .seq vs.toArray }) (hi : IntsAre vs ns) (hl : ns.length ≤ sizeLine) (hr : Room k callerA)
    (F : ∀ base : Heap, K.In base → base.Ns mainGlobals mg → base.NoSeer → FnOk P w K mg base CX k fa fd [x] sp) (hbind : ∀ (s : Shared) (u : Value), BindsTo s fd ⟨[u], []⟩ [(x, u)])
    (hsp : ∀ H : Hp, FzL K H [] a (ns.map V.int) → sp [.ref a] H (fun v _ => v = .bl true) fun _ _ _ => False)
    (hCX : ∀ H e s', CX [] H s₁ (fun _ _ _ => False) e s' → False) :
    codeAny (model P w) callerA (.call (.ref fa) ⟨[.ref a], []⟩) (fun r s' => r = .ok (.ret (.bool true)) ∧ OldK s₁.heap s'.heap ∧ s'.os = s₁.os ∧ AllBare s'.gens) s₁ := by
  have rv := vals_ints hi
  have lenV := hi.length
  have core : ∀ H : Hp, Only H → FzL K H [] a (ns.map V.int) → HOk P w H s₁.heap → (∀ b, H b ≠ none → b = a) → (H a ≠ none → K.lookup a = none) →
      codeAny (model P w) callerA (.call (.ref fa) ⟨[.ref a], []⟩) (fun r s' => r = .ok (.ret (.bool true)) ∧ OldK s₁.heap s'.heap ∧ s'.os = s₁.os ∧ AllBare s'.gens) s₁ := by
    intro H hO hS hok hA hK
    have base_of : ∀ {b : Addr} {o : Obj}, s₁.heap.get? b = some o → H b = none → (hidT s₁.heap H).get? b = some o := fun e n => hidT_get e n
    have noA : ∀ {b : Addr} {o : Obj} {es : Array DictEntry} {ep : Nat}, s₁.heap.get? b = some o → o.data = .dict es ep → H b = none := fun {b o es ep} e d => by
      cases q : H b with
      | none => rfl
      | some u =>
        have e' : b = a := hA b (by rw [q]; simp)
        subst e'
        rw [ha] at e; cases e
        have d' : Data.seq vs.toArray _ = Data.dict es ep := d
        cases d'
    have nsK : ∀ {b : Addr} {m : Str → Option Value}, s₁.heap.Ns b m → (hidT s₁.heap H).Ns b m := fun {b m} ⟨o, es, ep, e, d, r⟩ => ⟨o, es, ep, base_of e (noA e d), d, r⟩
    have hKb : K.In (hidT s₁.heap H) := fun b o e => base_of (KX b o e) (by
      cases q : H b with
      | none => rfl
      | some u =>
        have e' : b = a := hA b (by rw [q]; simp)
        subst e'
        rw [hK (by rw [q]; simp)] at e; cases e)
    have hM : Mod K mg (hidT s₁.heap H) := ⟨hKb, nsK hns, ⟨mb, nsK hb, hbb⟩, let ⟨mc, h1, h2⟩ := hlim; ⟨mc, nsK h1, h2⟩⟩
    have hSe : (hidT s₁.heap H).NoSeer := {
      statics := let ⟨mc, x, y⟩ := hseer.statics; ⟨mc, nsK x, y⟩
      mods := let ⟨mc, x, y⟩ := hseer.mods; ⟨mc, nsK x, y⟩
      imp := let ⟨mc, x, y⟩ := hseer.imp; ⟨mc, nsK x, y⟩
      main := let ⟨mg', bm, ob, x, y, z, u, v⟩ := hseer.main; ⟨mg', bm, ob, nsK x, y, base_of z (by
        cases q : H bm with
        | none => rfl
        | some _ =>
          have e' : bm = a := hA bm (by rw [q]; simp)
          subst e'
          rw [ha] at z
          cases z
          have u' : Value.type "list" = Value.type "module" := u
          exact absurd u' (by decide)), u, v⟩ }
    have e0 : Env0 P w K mg (hidT s₁.heap H) callerA [] s₁ H := ⟨rfl, hM, fun b o e => of_hidT e, Nat.le_of_eq (hidT_size _ _), trivial, fun b hb => absurd (show b ∈ ([] : List Addr) from hb) (by simp), hok, .of_eq hg⟩
    refine codeAny_mono ((F _ hKb (nsK hns) hSe).run callerA [] s₁ H ⟨[.ref a], []⟩ [.ref a] [.ref a] _ _ hr e0 (hbind s₁ (.ref a)) (.cons rfl .nil) (hsp H hS)) fun r s' h => ?_
    cases r with
    | error e => exact (hCX H e s' h).elim
    | ok fl =>
      cases fl with
      | next => exact False.elim h
      | brk => exact False.elim h
      | cont => exact False.elim h
      | ret u =>
        obtain ⟨v, H', os, bare, un, hok', r', q⟩ := h
        have q' : v = .bl true := q
        subst q'
        obtain rfl : u = Value.bool true := r'
        refine ⟨rfl, OldK.of_keep fun b o e => ?_, os, bare⟩
        cases q : H b with
        | none => exact un.keep b o e q (by intro z; exact absurd (show b ∈ ([] : List Addr) from z) (by simp)) (by simp)
        | some u =>
          rcases hO b with z | ⟨ob, xs, z⟩
          · rw [q] at z; cases z
          · have z2 := un.frzs b ob _ z
            obtain ⟨e1, _⟩ := hok b _ z
            obtain ⟨e2, _⟩ := hok' b _ z2
            rw [e] at e1; cases e1
            exact e2
  cases hk : K.lookup a with
  | some o =>
    have e := KX a o hk
    rw [ha] at e
    cases e
    refine core (fun _ => none) (fun _ => .inl rfl) (.inr ⟨vs.toArray, _, hk, by rw [List.size_toArray, lenV]; exact hl, by simpa using rv⟩) (fun b u z => by have z' : (none : Option HO) = some u := z; cases z') (fun b z => absurd rfl z) fun z => absurd rfl z
  | none =>
    refine core (fun b => if b = a then some (.frz { cls := .type "list", data := .seq vs.toArray } (.lst (ns.map V.int))) else none) (fun b => ?_) (.inl ⟨by simp, .inr ⟨{ cls := .type "list", data := .seq vs.toArray }, if_pos rfl⟩⟩) (fun b u z => ?_) (fun b z => ?_) fun _ => hk
    · by_cases hb : b = a
      · exact .inr ⟨_, _, if_pos hb⟩
      · exact .inl (if_neg hb)
    · by_cases hb : b = a
      · have z' := (if_pos hb).symm.trans z
        cases z'
        subst hb
        exact ⟨ha, by rw [List.length_map]; exact hl, vs, _, rv, ha⟩
      · have z' := (if_neg hb).symm.trans z
        cases z'
    · by_cases hb : b = a
      · exact hb
      · exact absurd (if_neg hb) z
theorem reps_intsJ {K : PySem.W.Frag} {cA : Nat → Addr} {cF : Nat → List Str} {H : Hp} {r : List Addr} : ∀ ns : List Int, Reps K cA cF H r (ns.map .int) (ns.map V.int)
  | [] => by simp [Reps]
  | n :: ns => by simp only [List.map_cons, Reps]; exact ⟨_, _, rfl, rep_int, reps_intsJ ns⟩
theorem law_walk {l : PySem.W.OpenLaw} {n k : Nat} {q : Program} {loose : List Str} {XP : (Str → Option Value) → Heap → Prop} {d : DefRec} {p : PD} {m f : Nat} {D : FD} {x : Str}
    (hn : l.most = some n) (hn2 : n ≤ sizeLine) (hdf : d.params.defaults = []) (hr : Room (34 + 2 * k) callerA) (hin0 : importsNone q = true) (htr : l.prog.given.tree = none)
    (tb : p.tabs) (hok : p.fds.all (fun d => d.ok p) = true) (hin : p.inCls) (hf : p.fds[f]? = some D) (hat : D.at_ = (d.name, none)) (hps : D.ps = [x])
    (hrun : ∀ ns : List Int, ns.length ≤ n → (∀ z ∈ ns, Builtin.Int.intBits z ≤ 1048576) → run p.T p.fs k f [.lst (ns.map .int)] [] = .ok (.bl true) []) :
    PySem.W.WalkO q loose XP (p.hook m).says l.row.toRowW d [] (fun f vs => PySem.call f vs) := by
  refine Att.attach_callB hn hdf fun w s₀ s₁ mg mb fa o pm cd doc a vs ns G Y ho hd hcd hmg hobj hints hlen hbits hg => ?_
  obtain ⟨K, KX, c⟩ := Y
  have hga := He.glo_ok KX G.T.g (says_fact (PD.says_ok c).2 (f := .glo d.name) (by
    unfold PD.fa
    refine List.mem_append_right _ (List.mem_filterMap.mpr ⟨D, List.mem_of_getElem? hf, ?_⟩)
    rw [hat]))
  rw [hmg] at hga
  have hfa : fa = He.ga K d.name := by cases hga; rfl
  obtain ⟨fd, F, _⟩ := run_ok (P := l.prog) (w := w) (base := s₁.heap) hok hin tb c KX G.T.g (G.T.seer hin0) htr 0 f D hf
  have hd : D.ok p = true := List.all_eq_true.mp hok D (List.mem_of_getElem? hf)
  obtain ⟨S, h2, _, _, h5, _⟩ := FD.scope hd
  obtain ⟨oc, od, dV, kV, doc', pm', an, cdv, ct, osl, rfl, lk, hcd', hdv, hkv⟩ := F.ex
  rcases hdv with ⟨_, rfl⟩ | ⟨z, _⟩
  · refine law_callF KX G.T.g G.T.b G.T.builtins G.T.nolimit (G.T.seer hin0) hg hobj hints (Nat.le_trans hlen hn2) hr (k := 34 + 2 * k) (x := x) (fd := PySem.W.fnOf D.name D.qual (defArgs D.st) (defBody D.st) (defScope D.st) .none kV doc' pm' an cdv ct) (CX := L2.CX l.prog w) (sp := spR K (p.cA K) p.T.fld (run p.T p.fs k) f) (fun base KB GB hbs => ?_) (fun s u => ?_) (fun H hS => ?_) (fun H e s' z => ?_)
    · obtain ⟨fd', F', O, _⟩ := run_ok (P := l.prog) (w := w) (base := base) hok hin tb c KX G.T.g hbs htr k f D hf
      have e1 : fd' = PySem.W.fnOf D.name D.qual (defArgs D.st) (defBody D.st) (defScope D.st) .none kV doc' pm' an cdv ct := by
        obtain ⟨oc2, od2, dV2, kV2, doc2, pm2, an2, cdv2, ct2, osl2, e, lk2, _⟩ := F'.ex
        rw [lk] at lk2
        injection lk2 with z
        injection z with z1 z2 z3 z4
        injection z3 with z5
        exact z5.symm
      rw [hps, e1] at O
      rw [hfa]
      rw [hat] at O
      exact O
    · have b := bind_plainA (n := D.name) (q := D.qual) (b := defBody D.st) (sc := defScope D.st) (kV := kV) (doc := doc') (pm := pm') (cdv := cdv) (ct := ct) (an := an) h5 (S.nd.sublist (List.take_sublist _ _)) [u] (by rw [hps]; rfl)
      rw [hps] at b
      exact .of_eq b
    · refine ⟨[], [.lst (ns.map .int)], [], ⟨rfl, List.nodup_nil, fun i o a e => by simp at e⟩, ?_, ?_⟩
      · simp only [Reps, Rep]
        exact ⟨_, _, rfl, ⟨a, _, rfl, hS, reps_intsJ ns⟩, rfl⟩
      · rw [hrun ns hlen hbits]
        intro r' H' V _ _ p1
        simp only [Rep] at p1
        exact p1
    · obtain ⟨_, _, _, _, _, _, _, _, _, _, _, _, z⟩ := z
      exact z
  · exact absurd rfl z
end Rm

namespace Rm
open PySem L2
def mkT (exl rzl : List Bool) (subL : List (List Bool)) (obl n0l : List Bool) (flds : List (List Str)) (mts : List (Nat × Str × Nat)) (inis : List (Nat × Nat)) : Tab := {
  obj := fun c => obl.getD c false
  n0 := fun c => n0l.getD c false
  fld := fun c => flds.getD c []
  mth := fun c m => (mts.find? fun q => decide (q.1 = c) && decide (q.2.1 = m)).map (·.2.2)
  ini := fun c => (inis.find? fun q => decide (q.1 = c)).map (·.2)
  sub := fun c d => (subL.getD c []).getD d false, ve := fun c => exl.getD c false, exc := fun c => exl.getD c false, rz := fun c => rzl.getD c false }
theorem getD_lt {l : List Bool} {c : Nat} (h : l.getD c false = true) : c < l.length := by
  rcases Nat.lt_or_ge c l.length with z | z
  · exact z
  · rw [List.getD_eq_getElem?_getD, List.getElem?_eq_none z] at h; cases h
theorem mkT_tabs {p : PD} {a b : List Bool} {s : List (List Bool)} {ol nl : List Bool} {fl : List (List Str)} (hT : p.T = mkT a b s ol nl fl p.mts p.inis) (h : (decide (ol.length ≤ p.cls.length) && decide (nl.length ≤ p.cls.length)) = true) : p.tabs := by
  rw [Bool.and_eq_true, decide_eq_true_eq, decide_eq_true_eq] at h
  refine ⟨fun c z => ?_, fun c m g e => ?_, fun c g e => ?_⟩
  · rw [hT] at z
    rcases z with z | z
    · exact Nat.lt_of_lt_of_le (getD_lt z) h.1
    · exact Nat.lt_of_lt_of_le (getD_lt z) h.2
  · rw [hT] at e
    obtain ⟨q, e1, e2⟩ := Option.map_eq_some_iff.mp e
    have m1 := List.mem_of_find?_eq_some e1
    have m2 := List.find?_some e1
    simp only [Bool.and_eq_true, decide_eq_true_eq] at m2
    obtain ⟨q1, q2, q3⟩ := q
    obtain ⟨rfl, rfl⟩ := m2
    cases e2
    exact m1
  · rw [hT] at e
    obtain ⟨q, e1, e2⟩ := Option.map_eq_some_iff.mp e
    have m1 := List.mem_of_find?_eq_some e1
    have m2 := List.find?_some e1
    simp only [decide_eq_true_eq] at m2
    obtain ⟨q1, q2⟩ := q
    subst m2
    cases e2
    exact m1
theorem mkT_in {p : PD} {a b : List Bool} {s : List (List Bool)} {ol nl : List Bool} {fl : List (List Str)} {ml : List (Nat × Str × Nat)} {il : List (Nat × Nat)} (hT : p.T = mkT a b s ol nl fl ml il) (h : (decide (a.length ≤ p.cls.length) && decide (b.length ≤ p.cls.length)) = true) : p.inCls := by
  intro c z
  rw [hT] at z
  rw [Bool.and_eq_true, decide_eq_true_eq, decide_eq_true_eq] at h
  rcases z with z | z
  · exact Nat.lt_of_lt_of_le (getD_lt z) h.1
  · exact Nat.lt_of_lt_of_le (getD_lt z) h.2
open Classical in
noncomputable def leave (keep : Bool) (h : HP) (o : O) : R MV := match o with
  | .nx _ h' => fin keep h .non h'
  | .ret v h' => fin keep h v h'
  | .exc x _ h' => if h'.take h.length = h then .exc x h else .bad
  | _ => .bad
theorem run_eq {T : Tab} {fs : List FI} {n f : Nat} {vs : List MV} {h : HP} {F : FI} (e : fs[f]? = some F) (l : vs.length = F.np) : run T fs (n + 1) f vs h = leave F.keep h (exSs T (run T fs n) F.body (start F vs) h) := by
  rw [run]; simp only [e, l, if_true]; rfl
theorem leave_exc {h : HP} {x : MX} {e : EN} {keep : Bool} : leave keep h (.exc x e h) = .exc x h := by simp [leave]
theorem leave_ret {h : HP} {v w : MV} (hf : frz h h.length v = some w) : leave false h (.ret v h) = .ok w h := by simp [leave, fin, hf]
theorem leave_nx {h : HP} {e : EN} : leave false h (.nx e h) = .ok .non h := by simp [leave, fin, frz]
end Rm

/-! Rm, part M: the evaluator's rows for simp. -/
namespace Rm
open PySem L2
open PySem.Builtin.Int (intBits)

/-! ### branches -/
def iteM {α : Type} (x : MV) (a b z : α) : α := match x with
  | .bl true => a
  | .bl false => b
  | _ => z
@[simp] theorem iteM_bl {α : Type} (c : Bool) (a b z : α) : iteM (.bl c) a b z = if c = true then a else b := by cases c <;> rfl
theorem R.bind_ite {α β : Type} (c : Prop) [Decidable c] (a b : R α) (f : α → HP → R β) : (if c then a else b).bind f = if c then a.bind f else b.bind f := by split <;> rfl
theorem R.go_ite {α : Type} (c : Prop) [Decidable c] (a b : R α) (e : EN) (f : α → HP → O) : (if c then a else b).go e f = if c then a.go e f else b.go e f := by split <;> rfl
theorem O.then_ite (c : Prop) [Decidable c] (a b : O) (f : EN → HP → O) : (if c then a else b).then f = if c then a.then f else b.then f := by split <;> rfl
theorem leave_ite (c : Prop) [Decidable c] (a b : O) (k : Bool) (h : HP) : leave k h (if c then a else b) = if c then leave k h a else leave k h b := by split <;> rfl
theorem and_ok (p q : Bool) (h : HP) : (if p = true then R.ok (MV.bl q) h else R.ok (MV.bl false) h) = R.ok (MV.bl (p && q)) h := by cases p <;> rfl
theorem or_ok (p q : Bool) (h : HP) : (if p = true then R.ok (MV.bl true) h else R.ok (MV.bl q) h) = R.ok (MV.bl (p || q)) h := by cases p <;> rfl
@[simp] theorem andP (P : Prop) [Decidable P] (q : Bool) (h : HP) : (if P then R.ok (MV.bl q) h else R.ok (MV.bl false) h) = R.ok (MV.bl (decide P && q)) h := by split <;> simp [*]
@[simp] theorem andN (P : Prop) [Decidable P] (q : Bool) (h : HP) : (if P then R.ok (MV.bl false) h else R.ok (MV.bl q) h) = R.ok (MV.bl (!decide P && q)) h := by split <;> simp [*]
@[simp] theorem orN (P : Prop) [Decidable P] (q : Bool) (h : HP) : (if P then R.ok (MV.bl q) h else R.ok (MV.bl true) h) = R.ok (MV.bl (!decide P || q)) h := by split <;> simp [*]
@[simp] theorem orP (P : Prop) [Decidable P] (q : Bool) (h : HP) : (if P then R.ok (MV.bl true) h else R.ok (MV.bl q) h) = R.ok (MV.bl (decide P || q)) h := by split <;> simp [*]

section
variable (T : Tab) (C : Nat → List MV → HP → R MV) (e : EN) (h : HP)
def getV (o : Option (Option MV)) (h : HP) : R MV := match o with
  | some (some v) => .ok v h
  | _ => .bad
@[simp] theorem getV_some (v : MV) : getV (some (some v)) h = .ok v h := id rfl
@[simp] theorem evE_var (i : Nat) : evE T C (.var i) e h = getV e[i]? h := by rw [evE]; rfl
@[simp] theorem evE_cI (i : Int) : evE T C (.cI i) e h = .ok (.int i) h := by rw [evE]
@[simp] theorem evE_cS (i : Str) : evE T C (.cS i) e h = .ok (.str i) h := by rw [evE]
@[simp] theorem evE_cB (i : Bool) : evE T C (.cB i) e h = .ok (.bl i) h := by rw [evE]
@[simp] theorem evE_cN : evE T C .cN e h = .ok .non h := by rw [evE]
@[simp] theorem evE_gI (x : Str) (i : Int) : evE T C (.gI x i) e h = .ok (.int i) h := by rw [evE]
@[simp] theorem evE_gS (x : Str) (i : Str) : evE T C (.gS x i) e h = .ok (.str i) h := by rw [evE]
def negM (x : MV) (h : HP) : R MV := match x with
  | .int i => .ok (.int (-i)) h
  | _ => .bad
@[simp] theorem negM_int (i : Int) : negM (.int i) h = .ok (.int (-i)) h := id rfl
@[simp] theorem evE_neg (a : E) : evE T C (.neg a) e h = (evE T C a e h).bind negM := by rw [evE]; rfl
def notM (x : MV) (h : HP) : R MV := match x with
  | .bl b => .ok (.bl (!b)) h
  | _ => .bad
@[simp] theorem notM_bl (b : Bool) : notM (.bl b) h = .ok (.bl (!b)) h := id rfl
@[simp] theorem evE_not (a : E) : evE T C (.not a) e h = (evE T C a e h).bind notM := by rw [evE]; rfl
@[simp] theorem evE_bin (o : Bop) (a b : E) : evE T C (.bin o a b) e h = (evE T C a e h).bind fun x h => (evE T C b e h).bind fun y h => R.of (binV h o x y) h := by rw [evE]
@[simp] theorem evE_cmp (o : Cop) (a b : E) : evE T C (.cmp o a b) e h = (evE T C a e h).bind fun x h => (evE T C b e h).bind fun y h => R.of ((cmpV h o x y).map .bl) h := by rw [evE]
def chnM (x : Option Bool) (a : R MV) (h : HP) : R MV := match x with
  | some true => a
  | some false => .ok (.bl false) h
  | none => .bad
@[simp] theorem chnM_some (b : Bool) (a : R MV) : chnM (some b) a h = if b = true then a else .ok (.bl false) h := by cases b <;> rfl
@[simp] theorem evE_chn (o p : Cop) (a b c : E) : evE T C (.chn o p a b c) e h = (evE T C a e h).bind fun x h => (evE T C b e h).bind fun y h => chnM (cmpV h o x y) ((evE T C c e h).bind fun z h => R.of ((cmpV h p y z).map .bl) h) h := by
  rw [evE]
  congr 1
def blM (x : MV) (h : HP) : R MV := match x with
  | .bl c => .ok (.bl c) h
  | _ => .bad
@[simp] theorem blM_bl (b : Bool) : blM (.bl b) h = .ok (.bl b) h := id rfl
@[simp] theorem evE_and (a b : E) : evE T C (.and a b) e h = (evE T C a e h).bind fun x h => iteM x ((evE T C b e h).bind blM) (.ok (.bl false) h) .bad := by
  rw [evE]; congr 1
@[simp] theorem evE_or (a b : E) : evE T C (.or a b) e h = (evE T C a e h).bind fun x h => iteM x (.ok (.bl true) h) ((evE T C b e h).bind blM) .bad := by
  rw [evE]; congr 1; funext x h
  cases x <;> try rfl
  case bl c => cases c <;> rfl
@[simp] theorem evE_ife (t a b : E) : evE T C (.ife t a b) e h = (evE T C t e h).bind fun x h => iteM x (evE T C a e h) (evE T C b e h) .bad := by
  rw [evE]; congr 1
@[simp] theorem evE_tup (es : Es) : evE T C (.tup es) e h = (evEs T C es e h).bind fun xs h => if xs.length ≤ sz then .ok (.tup xs) h else .bad := by rw [evE]
@[simp] theorem evE_lst (es : Es) : evE T C (.lst es) e h = (evEs T C es e h).bind fun xs h => if xs.length ≤ sz then .ok (.lst xs) h else .bad := by rw [evE]
@[simp] theorem evE_cel (es : Es) : evE T C (.cel es) e h = (evEs T C es e h).bind fun xs h => if xs.length ≤ sz then .ok (.ref h.length) (h ++ [.lst xs]) else .bad := by rw [evE]
@[simp] theorem evE_idx (a i : E) : evE T C (.idx a i) e h = (evE T C a e h).bind fun x h => (evE T C i e h).bind fun y h => R.of (idxV h x y) h := by rw [evE]
@[simp] theorem evE_slc (a lo hi : E) : evE T C (.slc a lo hi) e h = (evE T C a e h).bind fun x h => (if isN lo then .ok none h else (evE T C lo e h).bind fun v h => R.of (pI v) h).bind fun l h => (if isN hi then .ok none h else (evE T C hi e h).bind fun v h => R.of (pI v) h).bind fun u h => R.of (slcV h x l u) h := by rw [evE]
@[simp] theorem evE_call (f : Nat) (es : Es) : evE T C (.call f es) e h = (evEs T C es e h).bind fun xs h => C f xs h := by rw [evE]
@[simp] theorem evE_bi (b : Bi) (es : Es) : evE T C (.bi b es) e h = (evEs T C es e h).bind fun xs h => R.of (biV h b xs) h := by rw [evE]
@[simp] theorem meK_bit (x : MV) : meK .bitlen x = true := rfl
@[simp] theorem meK_str (m : Me) (s : Str) : meK m (.str s) = true := by cases m <;> rfl
@[simp] theorem evE_me (m : Me) (o : E) (es : Es) : evE T C (.me m o es) e h = (evE T C o e h).bind fun x h => if meK m x = true then (evEs T C es e h).bind fun xs h => R.of (meV h m x xs) h else .bad := by rw [evE]
@[simp] theorem evE_isT (a : E) (n : String) : evE T C (.isT a n) e h = (evE T C a e h).bind fun x h => R.of ((isTV T h x n).map .bl) h := by rw [evE]
@[simp] theorem evE_isC (a : E) (c : Nat) : evE T C (.isC a c) e h = (evE T C a e h).bind fun x h => R.of ((isCV T x c).map .bl) h := by rw [evE]
@[simp] theorem evE_isCs (a : E) (cs : List Nat) : evE T C (.isCs a cs) e h = (evE T C a e h).bind fun x h => R.of ((isCsV T x cs).map .bl) h := by rw [evE]
@[simp] theorem evE_atr (o : E) (f : Str) : evE T C (.atr o f) e h = (evE T C o e h).bind fun x h => R.of (atrV T h x f) h := by rw [evE]
@[simp] theorem evE_mcl (o : E) (m : Str) (es : Es) : evE T C (.mcl o m es) e h = (evE T C o e h).bind fun x h => (R.of (mthV T h x m) h).bind fun f h => (evEs T C es e h).bind fun xs h => C f (x :: xs) h := by rw [evE]
def newM (T : Tab) (C : Nat → List MV → HP → R MV) (c : Nat) (es : Es) (a : R (List MV)) (o : Option Nat) (h : HP) : R MV := match o with
  | none => if (nilE es && (T.n0 c && T.obj c)) = true then .ok (.obj c []) h else .bad
  | some f => if T.obj c = true then a.bind fun xs h => (C f (.ref h.length :: xs) (h ++ [.ins c []])).bind fun v h' => if isNon v = true then .ok (.ref h.length) h' else .bad else .bad
@[simp] theorem newM_none (c : Nat) (es : Es) (a : R (List MV)) : newM T C c es a none h = if (nilE es && (T.n0 c && T.obj c)) = true then .ok (.obj c []) h else .bad := id rfl
@[simp] theorem newM_some (c : Nat) (es : Es) (a : R (List MV)) (f : Nat) : newM T C c es a (some f) h = if T.obj c = true then a.bind fun xs h => (C f (.ref h.length :: xs) (h ++ [.ins c []])).bind fun v h' => if isNon v = true then .ok (.ref h.length) h' else .bad else .bad := id rfl
@[simp] theorem nilE_nil : nilE .nil = true := id rfl
@[simp] theorem evE_new (c : Nat) (es : Es) : evE T C (.new c es) e h = newM T C c es (evEs T C es e h) (T.ini c) h := by
  rw [evE]
  cases T.ini c <;> rfl
def cllM (o : Option (List MV)) (h : HP) : R MV := match o with
  | some xs => .ok (.ref h.length) (h ++ [.lst xs])
  | none => .bad
@[simp] theorem cllM_some (xs : List MV) : cllM (some xs) h = .ok (.ref h.length) (h ++ [.lst xs]) := id rfl
@[simp] theorem evE_cll (a : E) : evE T C (.cll a) e h = (evE T C a e h).bind fun x h => cllM (seqOf h x) h := by
  rw [evE]; congr 1
@[simp] theorem evE_lcm (cl : Bool) (tg : Tg) (vs : List Nat) (it : I) (a : E) : evE T C (.lcm cl tg vs it a) e h = (itE T C it e h).bind fun p h => lcL cl tg p.2 p.1 (evE T C a) (wipE e vs) h p.1 [] := by rw [evE]
@[simp] theorem evE_lcf (tg : Tg) (vs : List Nat) (it : I) (t a : E) : evE T C (.lcf tg vs it t a) e h = (itE T C it e h).bind fun p h => lcF tg p.2 p.1 (evE T C t) (evE T C a) (wipE e vs) h p.1 [] := by rw [evE]
@[simp] theorem evE_mnd (a d : E) : evE T C (.mnd a d) e h = (evE T C a e h).bind fun x h => (evE T C d e h).bind fun y h => R.of (mndV h x y) h := by rw [evE]
@[simp] theorem evEs_nil : evEs T C .nil e h = .ok [] h := by rw [evEs]
@[simp] theorem evEs_cons (a : E) (es : Es) : evEs T C (.cons a es) e h = (evE T C a e h).bind fun x h => (evEs T C es e h).bind fun xs h => .ok (x :: xs) h := by rw [evEs]
def sgM (o : Option EN) (h : HP) : O := match o with
  | some e => .nx e h
  | none => .bad
@[simp] theorem sgM_some : sgM (some e) h = .nx e h := id rfl
@[simp] theorem exS_asg (t : Tg) (a : E) : exS T C (.asg t a) e h = (evE T C a e h).go e fun v h => sgM (setG t v e) h := by
  rw [exS]; congr 1
def agM (o : Option MV) (i : Nat) (e : EN) (h : HP) : O := match o with
  | some z => .nx (e.set i (some z)) h
  | none => .bad
@[simp] theorem agM_some (z : MV) (i : Nat) : agM (some z) i e h = .nx (e.set i (some z)) h := id rfl
def auM (x : Option (Option MV)) (f : MV → O) : O := match x with
  | some (some x) => f x
  | _ => .bad
@[simp] theorem auM_some (x : MV) (f : MV → O) : auM (some (some x)) f = f x := id rfl
@[simp] theorem exS_aug (i : Nat) (o : Bop) (a : E) : exS T C (.aug i o a) e h = auM e[i]? fun x => (evE T C a e h).go e fun y h => agM (augV o x y) i e h := by
  rw [exS]
  rcases e[i]? with _ | _ | x
  · rfl
  · rfl
  · show (evE T C a e h).go e _ = (evE T C a e h).go e _
    congr 1
@[simp] theorem exS_exp (a : E) : exS T C (.exp a) e h = (evE T C a e h).go e fun _ h => .nx e h := by rw [exS]
def hpM (o : Option HP) (e : EN) : O := match o with
  | some h => .nx e h
  | none => .bad
@[simp] theorem hpM_some : hpM (some h) e = .nx e h := id rfl
@[simp] theorem exS_app (o a : E) : exS T C (.app o a) e h = (evE T C o e h).go e fun x h => if isCell h x = true then (evE T C a e h).go e fun v h => hpM (appV h x v) e else .bad := by
  rw [exS]; congr 1
@[simp] theorem exS_rvs (o : E) : exS T C (.rvs o) e h = (evE T C o e h).go e fun x h => hpM (rvsV h x) e := by
  rw [exS]; rfl
@[simp] theorem exS_ins (o i a : E) : exS T C (.ins o i a) e h = (evE T C o e h).go e fun x h => if isCell h x = true then (evE T C i e h).go e fun n h => (evE T C a e h).go e fun v h => hpM (insV h x n v) e else .bad := by
  rw [exS]; rfl
@[simp] theorem exS_sto (o i a : E) : exS T C (.sto o i a) e h = (evE T C a e h).go e fun v h => (evE T C o e h).go e fun x h => (evE T C i e h).go e fun n h => hpM (stoV h x n v) e := by
  rw [exS]; congr 1
@[simp] theorem exS_sta (o : E) (f : Str) (a : E) : exS T C (.sta o f a) e h = (evE T C a e h).go e fun v h => (evE T C o e h).go e fun x h => hpM (staV T h x f v) e := by
  rw [exS]; congr 1
@[simp] theorem exS_iff (t : E) (a b : Ss) : exS T C (.iff t a b) e h = (evE T C t e h).go e fun x h => iteM x (exSs T C a e h) (exSs T C b e h) .bad := by
  rw [exS]; congr 1
@[simp] theorem exS_whl (t : E) (b : Ss) : exS T C (.whl t b) e h = whlL (evE T C t) (exSs T C b) fuel e h := by rw [exS]
@[simp] theorem exS_fr (tg : Tg) (it : I) (b : Ss) : exS T C (.fr tg it b) e h = (itE T C it e h).go e fun p h => forL tg p.2 p.1 (exSs T C b) p.1 e h := by rw [exS]
@[simp] theorem exS_ret (a : E) : exS T C (.ret a) e h = (evE T C a e h).go e fun v h => .ret v h := by rw [exS]
@[simp] theorem exS_retN : exS T C .retN e h = .ret .non h := by rw [exS]
@[simp] theorem exS_rais (c : Nat) : exS T C (.rais c) e h = if T.rz c = true then .exc (c, []) e h else .bad := by rw [exS]
@[simp] theorem exS_cont : exS T C .cont e h = .ct e h := by rw [exS]
def triM (T : Tab) (c i y : Nat) (o : O) : O := match o with
  | .exc (d, []) e h => if T.exc d && T.exc c then (if T.sub d c then .nx (((e.set i (some (.exc d []))).set y (some (.exc d []))).set i none) h else .exc (d, []) e h) else .bad
  | .exc _ _ _ => .bad
  | o => o
@[simp] theorem triM_nx (c i y : Nat) : triM T c i y (.nx e h) = .nx e h := id rfl
@[simp] theorem triM_ret (c i y : Nat) (v : MV) : triM T c i y (.ret v h) = .ret v h := id rfl
@[simp] theorem triM_exc (c i y d : Nat) : triM T c i y (.exc (d, []) e h) = if (T.exc d && T.exc c) = true then (if T.sub d c = true then .nx (((e.set i (some (.exc d []))).set y (some (.exc d []))).set i none) h else .exc (d, []) e h) else .bad := id rfl
theorem triM_ite (c i y : Nat) (q : Prop) [Decidable q] (a b : O) : triM T c i y (if q then a else b) = if q then triM T c i y a else triM T c i y b := by split <;> rfl
@[simp] theorem exS_tri (b : Ss) (c i y : Nat) : exS T C (.tri b c i y) e h = triM T c i y (exSs T C b e h) := by
  rw [exS]
  rfl
@[simp] theorem exSs_nil : exSs T C .nil e h = .nx e h := by rw [exSs]
@[simp] theorem exSs_cons (s : S) (ss : Ss) : exSs T C (.cons s ss) e h = (exS T C s e h).then fun e h => exSs T C ss e h := by rw [exSs]
def seM (o : Option (List MV)) (f : HP → Option (List MV)) (h : HP) : R (List MV × (HP → Option (List MV))) := match o with
  | some xs => .ok (xs, f) h
  | none => .bad
@[simp] theorem seM_some (xs : List MV) (f : HP → Option (List MV)) : seM (some xs) f h = .ok (xs, f) h := id rfl
def seX (x : MV) (o : Option (List MV)) (f : HP → Option (List MV)) (h : HP) : R (List MV × (HP → Option (List MV))) := match o with
  | some xs => .ok (xs, f) h
  | none => match x with
    | .str z => .ok (signs z, fun _ => some (signs z)) h
    | _ => .bad
@[simp] theorem seX_some (x : MV) (xs : List MV) (f : HP → Option (List MV)) : seX x (some xs) f h = .ok (xs, f) h := id rfl
@[simp] theorem seX_sign (z : Str) (f : HP → Option (List MV)) : seX (.str z) none f h = .ok (signs z, fun _ => some (signs z)) h := id rfl
@[simp] theorem itE_seq (a : E) : itE T C (.seq a) e h = (evE T C a e h).bind fun x h => seX x (seqOf h x) (fun h => seqOf h x) h := by
  unfold itE; congr 1
end
section
variable (T : Tab) (C : Nat → List MV → HP → R MV) (e : EN) (h : HP)
def rng1M (x : MV) (h : HP) : R (List MV × (HP → Option (List MV))) := match x with
  | .int j => if -(2 ^ 62) ≤ j ∧ j < 2 ^ 62 then .ok ((List.range j.toNat).map fun (i : Nat) => .int (0 + (i : Int)), fun _ => some ((List.range j.toNat).map fun (i : Nat) => .int (0 + (i : Int)))) h else .bad
  | _ => .bad
def rng2M (x y : MV) (h : HP) : R (List MV × (HP → Option (List MV))) := match x, y with
  | .int i, .int j => if (-(2 ^ 62) ≤ i ∧ i < 2 ^ 62) ∧ -(2 ^ 62) ≤ j ∧ j < 2 ^ 62 then .ok ((List.range (j - i).toNat).map fun (k : Nat) => .int (i + (k : Int)), fun _ => some ((List.range (j - i).toNat).map fun (k : Nat) => .int (i + (k : Int)))) h else .bad
  | _, _ => .bad
def rng3M (x y z : MV) (h : HP) : R IR := match x, y, z with
  | .int i, .int j, .int k => if rg3B i j k then .ok (rg3 i j k, fun _ => some (rg3 i j k)) h else .bad
  | _, _, _ => .bad
@[simp] theorem rng3M_int (i j k : Int) : rng3M (.int i) (.int j) (.int k) h = if rg3B i j k = true then .ok (rg3 i j k, fun _ => some (rg3 i j k)) h else .bad := id rfl
@[simp] theorem itE_rng3 (a b c : E) : itE T C (.rng3 a b c) e h = (evE T C a e h).bind fun x h => (evE T C b e h).bind fun y h => (evE T C c e h).bind fun z h => rng3M x y z h := by rw [itE]; rfl
@[simp] theorem itE_zip (a b : E) : itE T C (.zip a b) e h = (evE T C a e h).bind fun x h => (evE T C b e h).bind fun y h => seM (zipS x y h) (zipS x y) h := by rw [itE]; rfl
@[simp] theorem itE_enm (a : E) : itE T C (.enm a) e h = (evE T C a e h).bind fun x h => seM (enmS x h) (enmS x) h := by rw [itE]; rfl
@[simp] theorem itE_rng1 (a : E) : itE T C (.rng1 a) e h = (evE T C a e h).bind rng1M := by unfold itE; congr 1
@[simp] theorem itE_rng2 (a b : E) : itE T C (.rng2 a b) e h = (evE T C a e h).bind fun x h => (evE T C b e h).bind fun y h => rng2M x y h := by unfold itE; congr 1
theorem rng1M_ok {j : Int} (h0 : 0 ≤ j) (h1 : j < 1000000) (h : HP) : rng1M (.int j) h = .ok ((List.range j.toNat).map fun (i : Nat) => .int (0 + (i : Int)), fun _ => some ((List.range j.toNat).map fun (i : Nat) => .int (0 + (i : Int)))) h := if_pos ⟨by omega, by omega⟩
theorem rng2M_ok {i j : Int} (h0 : 0 ≤ i) (h1 : i < 1000000) (h2 : 0 ≤ j) (h3 : j < 1000000) (h : HP) : rng2M (.int i) (.int j) h = .ok ((List.range (j - i).toNat).map fun (k : Nat) => .int (i + (k : Int)), fun _ => some ((List.range (j - i).toNat).map fun (k : Nat) => .int (i + (k : Int)))) h := if_pos ⟨⟨by omega, by omega⟩, by omega, by omega⟩
end
/-! ### single rows -/
@[simp] theorem setG_one (i : Nat) (v : MV) (e : EN) : setG (.one i) v e = some (e.set i (some v)) := id rfl
@[simp] theorem setG_tup (is : List Nat) (vs : List MV) (e : EN) : setG (.tup is) (.tup vs) e = setT is vs e := id rfl
@[simp] theorem setG_lst (is : List Nat) (vs : List MV) (e : EN) : setG (.tup is) (.lst vs) e = setT is vs e := id rfl
@[simp] theorem setT_nil (e : EN) : setT [] [] e = some e := id rfl
@[simp] theorem setT_cons (i : Nat) (is : List Nat) (v : MV) (vs : List MV) (e : EN) : setT (i :: is) (v :: vs) e = setT is vs (e.set i (some v)) := id rfl
@[simp] theorem wipE_nil (e : EN) : wipE e [] = e := id rfl
@[simp] theorem wipE_cons (e : EN) (v : Nat) (vs : List Nat) : wipE e (v :: vs) = (wipE e vs).set v none := id rfl
@[simp] theorem getL_lst (h : HP) (xs : List MV) : getL h (.lst xs) = some xs := id rfl
@[simp] theorem zipS_lst (h : HP) (xs ys : List MV) : zipS (.lst xs) (.lst ys) h = some (zipM xs ys) := id rfl
@[simp] theorem enmS_lst (h : HP) (xs : List MV) : enmS (.lst xs) h = some (enmM 0 xs) := id rfl
@[simp] theorem intsOf_map (is : List Int) : intsOf (is.map .int) = some is := by
  induction is with
  | nil => rfl
  | cons i is ih => simp [intsOf, ih]
@[simp] theorem blsOf_map (is : List Bool) : blsOf (is.map .bl) = some is := by
  induction is with
  | nil => rfl
  | cons i is ih => simp [blsOf, ih]
@[simp] theorem mndV_lst (h : HP) (is : List Int) (d : MV) : mndV h (.lst (is.map .int)) d = some (mnV d is) := by
  show (intsOf _).map _ = _
  rw [intsOf_map]; rfl
@[simp] theorem biV_max1 (h : HP) (x : MV) : biV h .max1 [x] = (getL h x).bind fun ys => (intsOf ys).bind mxV := id rfl
@[simp] theorem biV_sum1 (h : HP) (x : MV) : biV h .sum1 [x] = (getL h x).bind fun ys => (intsOf ys).map fun is => .int is.sum := id rfl
@[simp] theorem biV_all1 (h : HP) (x : MV) : biV h .all1 [x] = (getL h x).bind fun ys => (blsOf ys).map fun bs => .bl (bs.all id) := id rfl
@[simp] theorem low_int (b : Nat) (i : Int) : low b (.int i) = true := by simp only [low]
@[simp] theorem low_bl (b : Nat) (i : Bool) : low b (.bl i) = true := by simp only [low]
@[simp] theorem low_str (b : Nat) (i : Str) : low b (.str i) = true := by simp only [low]
@[simp] theorem low_tup (b : Nat) (xs : List MV) : low b (.tup xs) = lows b xs := by simp only [low]
@[simp] theorem low_lst (b : Nat) (xs : List MV) : low b (.lst xs) = lows b xs := by simp only [low]
@[simp] theorem lows_nil (b : Nat) : lows b [] = true := by simp only [lows]
@[simp] theorem lows_cons (b : Nat) (x : MV) (xs : List MV) : lows b (x :: xs) = (low b x && lows b xs) := by simp only [lows]
/-- a comprehension whose element is told for each item -/
theorem lcL_mapC {α : Type} (cl : Bool) (xs : List α) (inj : α → MV) {tg : Tg} {src : HP → Option (List MV)} {f : EN → HP → R MV} {e : EN} {h : HP} (g : α → MV) (hs : ∀ acc, src (h ++ [.lst acc]) = some (xs.map inj)) (hl : xs.length ≤ 16777216)
    (hf : ∀ x ∈ xs, ∃ e', setG tg (inj x) e = some e' ∧ (∀ H, f e' H = .ok (g x) H) ∧ low h.length (g x) = true) : lcL cl tg src (xs.map inj) f e h (xs.map inj) [] = if cl then .ok (.ref h.length) (h ++ [.lst (xs.map g)]) else .ok (.lst (xs.map g)) h := by
  have key : ∀ (ys zs : List α), zs ++ ys = xs → lcL cl tg src (xs.map inj) f e h (ys.map inj) (zs.map g) = if cl then .ok (.ref h.length) (h ++ [.lst (xs.map g)]) else .ok (.lst (xs.map g)) h := by
    intro ys
    induction ys with
    | nil =>
      intro zs hz
      rw [List.append_nil] at hz
      subst hz
      simp only [List.map_nil]
      unfold lcL
      rw [if_pos (hs _)]
    | cons y ys ih =>
      intro zs hz
      obtain ⟨e', h1, h2, h3⟩ := hf y (by rw [← hz]; simp)
      have hlen : zs.length < 16777216 := by
        have : xs.length = zs.length + (ys.length + 1) := by rw [← hz]; simp
        omega
      have ih := ih (zs ++ [y]) (by rw [← hz]; simp)
      simp only [List.map_cons]
      unfold lcL
      rw [if_pos (hs _), h1]
      simp only [h2]
      rw [if_pos ⟨by first | trivial | rfl, h3, by rw [List.length_map]; exact hlen⟩]
      rw [← ih]
      simp
  simpa using key xs [] (by simp)
theorem lcL_map {α : Type} (xs : List α) (inj : α → MV) {tg : Tg} {src : HP → Option (List MV)} {f : EN → HP → R MV} {e : EN} {h : HP} (g : α → MV) (hs : ∀ acc, src (h ++ [.lst acc]) = some (xs.map inj)) (hl : xs.length ≤ 16777216)
    (hf : ∀ x ∈ xs, ∃ e', setG tg (inj x) e = some e' ∧ (∀ H, f e' H = .ok (g x) H) ∧ low h.length (g x) = true) : lcL false tg src (xs.map inj) f e h (xs.map inj) [] = .ok (.lst (xs.map g)) h := by
  rw [lcL_mapC false xs inj g hs hl hf]; rfl
section
variable (h : HP) (a b : Int)
@[simp] theorem binV_add : binV h .add (.int a) (.int b) = some (.int (a + b)) := id rfl
@[simp] theorem binV_addS (x y : Str) : binV h .add (.str x) (.str y) = if x.length + y.length ≤ sz then some (.str (x ++ y)) else none := id rfl
@[simp] theorem binV_addL (xs ys : List MV) : binV h .add (.lst xs) (.lst ys) = if xs.length + ys.length ≤ sz then some (.lst (xs ++ ys)) else none := id rfl
@[simp] theorem binV_sub : binV h .sub (.int a) (.int b) = some (.int (a - b)) := id rfl
@[simp] theorem binV_mul : binV h .mul (.int a) (.int b) = if mulB a b = true then some (.int (a * b)) else none := id rfl
theorem binV_mulL (xs : List MV) (k : Int) : binV h .mul (.lst xs) (.int k) = if 0 ≤ k ∧ k < 1000000 ∧ xs.length * k.toNat ≤ sz then some (.lst (List.replicate k.toNat xs).flatten) else none := id rfl
theorem binV_mulR (xs : List MV) (i : Nat) (k : Int) (e : getL h (.ref i) = some xs) (h0 : 0 ≤ k) (h1 : k < 1000000) (hz : xs.length * k.toNat ≤ 16777216) : binV h .mul (.ref i) (.int k) = some (.lst (List.replicate k.toNat xs).flatten) := by
  show (getL h (.ref i)).bind _ = _
  rw [e, Option.bind_some, if_pos ⟨h0, h1, hz⟩]
@[simp] theorem binV_fdv : binV h .fdv (.int a) (.int b) = if (dvB a b || decide (0 < b)) = true then some (.int (a / b)) else none := id rfl
@[simp] theorem binV_mod : binV h .mod (.int a) (.int b) = if 0 < b then some (.int (a % b)) else none := id rfl
@[simp] theorem binV_pow : binV h .pow (.int a) (.int b) = if powB a b = true then some (.int (a ^ b.toNat)) else none := id rfl
@[simp] theorem binV_shl : binV h .shl (.int a) (.int b) = if shlB a b = true then some (.int (a * 2 ^ b.toNat)) else none := id rfl
@[simp] theorem binV_shr : binV h .shr (.int a) (.int b) = if 0 ≤ b then some (.int (a / 2 ^ b.toNat)) else none := id rfl
@[simp] theorem binV_and : binV h .and (.int a) (.int b) = some (.int (Builtin.bitAnd a b)) := id rfl
@[simp] theorem binV_or : binV h .or (.int a) (.int b) = some (.int (Builtin.bitOr a b)) := id rfl
@[simp] theorem binV_xor : binV h .xor (.int a) (.int b) = some (.int (Builtin.bitXor a b)) := id rfl
@[simp] theorem augV_addS (x y : Str) : augV .add (.str x) (.str y) = if x.length + y.length ≤ sz then some (.str (x ++ y)) else none := id rfl
@[simp] theorem augV_add : augV .add (.int a) (.int b) = some (.int (a + b)) := id rfl
@[simp] theorem augV_sub : augV .sub (.int a) (.int b) = some (.int (a - b)) := id rfl
@[simp] theorem augV_mul : augV .mul (.int a) (.int b) = if mulB a b = true then some (.int (a * b)) else none := id rfl
@[simp] theorem augV_shr : augV .shr (.int a) (.int b) = if 0 ≤ b then some (.int (a / 2 ^ b.toNat)) else none := id rfl
@[simp] theorem augV_or : augV .or (.int a) (.int b) = some (.int (Builtin.bitOr a b)) := id rfl
@[simp] theorem cmpV_lt : cmpV h .lt (.int a) (.int b) = some (decide (a < b)) := id rfl
@[simp] theorem cmpV_le : cmpV h .le (.int a) (.int b) = some (decide (a ≤ b)) := id rfl
@[simp] theorem cmpV_gt : cmpV h .gt (.int a) (.int b) = some (decide (b < a)) := id rfl
@[simp] theorem cmpV_ge : cmpV h .ge (.int a) (.int b) = some (decide (b ≤ a)) := id rfl
@[simp] theorem cmpV_eq (x y : MV) : cmpV h .eq x y = eqM h x y := id rfl
@[simp] theorem cmpV_ne (x y : MV) : cmpV h .ne x y = (eqM h x y).map (!·) := id rfl
@[simp] theorem cmpV_isN (x : MV) : cmpV h .is x .non = some (isNon x) := id rfl
@[simp] theorem cmpV_isnN (x : MV) : cmpV h .isn x .non = some (!isNon x) := id rfl
@[simp] theorem isNon_non : isNon .non = true := id rfl
@[simp] theorem isNon_exc (c : Nat) (fs : List MV) : isNon (.exc c fs) = false := id rfl
@[simp] theorem isNon_int : isNon (.int a) = false := id rfl
@[simp] theorem isNon_tup (xs : List MV) : isNon (.tup xs) = false := id rfl
@[simp] theorem cmpV_in (x y : MV) : cmpV h .inn x y = inV h x y := id rfl
@[simp] theorem cmpV_nin (x y : MV) : cmpV h .nin x y = (inV h x y).map (!·) := id rfl
@[simp] theorem eqM_ii : eqM h (.int a) (.int b) = some (decide (a = b)) := by
  have : (a == b) = decide (a = b) := rfl
  simp [eqM, flatD, lstD, toD, SeqAt.shaped, PyData.eqv, PyData.canLay0, PyData.depth, this]
@[simp] theorem eqM_bb (x y : Bool) : eqM h (.bl x) (.bl y) = some (x == y) := by
  simp [eqM, flatD, lstD, toD, SeqAt.shaped, PyData.eqv, PyData.canLay0, PyData.depth]
theorem eqM_ss {x y : Str} (hx : PyData.strOk x = true) (hy : PyData.strOk y = true) : eqM h (.str x) (.str y) = some (decide (x = y)) := by
  have : (x == y) = decide (x = y) := by by_cases h : x = y <;> simp [h]
  simp [eqM, flatD, lstD, toD, SeqAt.shaped, PyData.eqv, PyData.canLay0, PyData.depth, hx, hy, this]
@[simp] theorem idxV_tup (xs : List MV) (i : Int) : idxV h (.tup xs) (.int i) = atI xs i := id rfl
@[simp] theorem idxV_lst (xs : List MV) (i : Int) : idxV h (.lst xs) (.int i) = atI xs i := id rfl
@[simp] theorem pI_int (i : Int) : pI (.int i) = some (some i) := id rfl
@[simp] theorem slcV_lst (xs : List MV) (l u : Option Int) : slcV h (.lst xs) l u = some (.lst (cutM xs l u)) := id rfl
@[simp] theorem seqOf_tup (xs : List MV) : seqOf h (.tup xs) = some xs := id rfl
theorem inV_seq {h : HP} {x v : MV} {ys : List MV} (hv : seqOf h v = some ys) : inV h x v = if (flatM x && ys.all flatM) = true then some (inF x ys) else none := by
  unfold inV
  split
  · cases hv
  · rw [hv]; rfl
@[simp] theorem inV_str {h : HP} {x : MV} {z : Str} : inV h x (.str z) = inS x z := rfl
@[simp] theorem seqOf_str (z : Str) : seqOf h (.str z) = none := id rfl
@[simp] theorem seqOf_lst (xs : List MV) : seqOf h (.lst xs) = some xs := id rfl
@[simp] theorem biV_len (x : MV) : biV h .len [x] = ((seqOf h x).map fun ys => .int ys.length).or (lenS x) := id rfl
@[simp] theorem lenS_str (z : Str) : lenS (.str z) = if z.length ≤ sz then some (.int z.length) else none := id rfl
@[simp] theorem biV_dvm : biV h .dvm [.int a, .int b] = if dvB a b = true then some (.tup [.int (a / b), .int (a % b)]) else none := id rfl
@[simp] theorem biV_abs : biV h .abs [.int a] = some (.int (if a < 0 then -a else a)) := id rfl
@[simp] theorem biV_max2 : biV h .max2 [.int a, .int b] = some (.int (if b > a then b else a)) := id rfl
@[simp] theorem biV_min2 : biV h .min2 [.int a, .int b] = some (.int (if b < a then b else a)) := id rfl
@[simp] theorem biV_int1i : biV h .int1 [.int a] = some (.int a) := id rfl
@[simp] theorem biV_int1b (b : Bool) : biV h .int1 [.bl b] = some (.int (if b = true then 1 else 0)) := id rfl
@[simp] theorem meV_bitlen : meV h .bitlen (.int a) [] = some (.int (intBits a : Nat)) := id rfl
end
@[simp] theorem isTV_int (T : Tab) (h : HP) (a : Int) : isTV T h (.int a) "int" = some true := id rfl
@[simp] theorem isTV_intb (T : Tab) (h : HP) (a : Int) : isTV T h (.int a) "bool" = some false := id rfl
@[simp] theorem isTV_intt (T : Tab) (h : HP) (a : Int) : isTV T h (.int a) "tuple" = some false := id rfl
@[simp] theorem isTV_tup (T : Tab) (h : HP) (a : List MV) : isTV T h (.tup a) "tuple" = some true := id rfl
@[simp] theorem isTV_lst (T : Tab) (h : HP) (a : List MV) : isTV T h (.lst a) "list" = some true := id rfl
@[simp] theorem isTV_lstb (T : Tab) (h : HP) (a : List MV) : isTV T h (.lst a) "tuple" = some false := id rfl
@[simp] theorem isTV_str (T : Tab) (h : HP) (a : Str) : isTV T h (.str a) "str" = some true := id rfl
@[simp] theorem isTV_ve (T : Tab) (h : HP) (c : Nat) (fs : List MV) : isTV T h (.exc c fs) "ValueError" = if T.exc c = true then some (T.ve c) else none := by simp [isTV]
@[simp] theorem isCV_exc (T : Tab) (c : Nat) (fs : List MV) (d : Nat) : isCV T (.exc c fs) d = if (T.exc c && T.exc d) = true then some (T.sub c d) else none := id rfl
@[simp] theorem isCsV_nil (T : Tab) (x : MV) : isCsV T x [] = some false := by cases x <;> rfl
@[simp] theorem isCsV_exc (T : Tab) (c : Nat) (fs : List MV) (d : Nat) (ds : List Nat) : isCsV T (.exc c fs) (d :: ds) = if (T.exc c && T.exc d) = true then (isCsV T (.exc c fs) ds).map fun b => T.sub c d || b else none := id rfl
@[simp] theorem isCsV_non (T : Tab) (d : Nat) (ds : List Nat) : isCsV T .non (d :: ds) = if T.exc d = true then isCsV T .non ds else none := id rfl
@[simp] theorem biV_list1 (h : HP) (x : MV) : biV h .list1 [x] = (seqOf h x).map .lst := id rfl
@[simp] theorem clsM_obj (h : HP) (c : Nat) (xs : List MV) : clsM h (.obj c xs) = some (c, xs) := id rfl
@[simp] theorem frz_obj (h : HP) (b c : Nat) (xs : List MV) : frz h b (.obj c xs) = (frzs h b xs).map (.obj c) := by simp [frz]
@[simp] theorem isNon_obj (c : Nat) (fs : List MV) : isNon (.obj c fs) = false := id rfl
@[simp] theorem isCV_obj (T : Tab) (c : Nat) (fs : List MV) (d : Nat) : isCV T (.obj c fs) d = if (T.obj c && T.obj d) = true then some (T.sub c d) else none := id rfl
@[simp] theorem isCV_non (T : Tab) (d : Nat) : isCV T .non d = if T.exc d = true then some false else none := id rfl
@[simp] theorem frz_int (h : HP) (b : Nat) (i : Int) : frz h b (.int i) = some (.int i) := by simp [frz]
@[simp] theorem frz_bl (h : HP) (b : Nat) (i : Bool) : frz h b (.bl i) = some (.bl i) := by simp [frz]
@[simp] theorem frz_str (h : HP) (b : Nat) (i : Str) : frz h b (.str i) = some (.str i) := by simp [frz]
@[simp] theorem frz_non (h : HP) (b : Nat) : frz h b .non = some .non := by simp [frz]
@[simp] theorem frz_tup (h : HP) (b : Nat) (xs : List MV) : frz h b (.tup xs) = (frzs h b xs).map .tup := by simp [frz]
@[simp] theorem frz_lst (h : HP) (b : Nat) (xs : List MV) : frz h b (.lst xs) = (frzs h b xs).map .lst := by simp [frz]
@[simp] theorem frz_exc (h : HP) (b c : Nat) (xs : List MV) : frz h b (.exc c xs) = (frzs h b xs).map (.exc c) := by simp [frz]
@[simp] theorem frzs_nil (h : HP) (b : Nat) : frzs h b [] = some [] := by simp [frzs]
@[simp] theorem frzs_cons (h : HP) (b : Nat) (x : MV) (xs : List MV) : frzs h b (x :: xs) = (frz h b x).bind fun y => (frzs h b xs).map fun ys => y :: ys := by simp [frzs]
theorem frzs_all (h : HP) (b : Nat) (xs : List MV) (hx : ∀ x ∈ xs, frz h b x = some x) : frzs h b xs = some xs := by
  induction xs with
  | nil => simp
  | cons x xs ih => simp [hx x (List.mem_cons_self ..), ih fun y hy => hx y (List.mem_cons_of_mem _ hy)]
@[simp] theorem frzs_ints (h : HP) (b : Nat) (ns : List Int) : frzs h b (ns.map .int) = some (ns.map .int) := frzs_all h b _ (by intro x hx; obtain ⟨n, _, rfl⟩ := List.mem_map.mp hx; simp)
@[simp] theorem leave_ret' (h : HP) (v : MV) : leave false h (.ret v h) = R.of (frz h h.length v) h := by
  simp only [leave, fin, Bool.false_eq_true, if_false, List.take_length, if_true]
  cases frz h h.length v <;> rfl
@[simp] theorem leave_nx' (h : HP) (e : EN) : leave false h (.nx e h) = .ok .non h := leave_nx
@[simp] theorem leave_exc' (h : HP) (x : MX) (e : EN) (keep : Bool) : leave keep h (.exc x e h) = .exc x h := leave_exc
@[simp] theorem start_mk (np nl : Nat) (b : Ss) (k : Bool) (vs : List MV) : start ⟨np, nl, b, k⟩ vs = vs.map some ++ List.replicate (nl - np) none := id rfl

/-! ### loops -/
theorem forL_inv {tg : Tg} {src : HP → Option (List MV)} {all : List MV} {f : EN → HP → O} {h : HP} (hs : src h = some all) (Inv : EN → Prop) : ∀ xs : List MV,
    (∀ x ∈ xs, ∀ e, Inv e → ∃ e1 e2, setG tg x e = some e1 ∧ f e1 h = .nx e2 h ∧ Inv e2) → ∀ e, Inv e → ∃ e', forL tg src all f xs e h = .nx e' h ∧ Inv e'
  | [], _, e, he => ⟨e, by rw [forL]; simp [hs], he⟩
  | x :: xs, hf, e, he => by
    obtain ⟨e1, e2, h1, h2, h3⟩ := hf x (List.mem_cons_self ..) e he
    obtain ⟨e', h4, h5⟩ := forL_inv hs Inv xs (fun y hy => hf y (List.mem_cons_of_mem _ hy)) e2 h3
    refine ⟨e', ?_, h5⟩
    rw [forL]
    simp [hs, h1, h2, h4]
theorem whlL_succ (t : EN → HP → R MV) (f : EN → HP → O) (n : Nat) (e : EN) (h : HP) : whlL t f (n + 1) e h = (t e h).go e fun x h => iteM x (match f e h with
      | .nx e h => whlL t f n e h
      | .ct e h => whlL t f n e h
      | o => o) (.nx e h) .bad := by
  rw [whlL]; congr 1
theorem pos_fuel {N k : Nat} (h : k < N) : ∃ M, N = M + 1 := ⟨N - 1, by omega⟩
theorem lt_fuel {k : Nat} (h : k < 1000000) : k < fuel := by unfold fuel; omega
theorem mem_cutM {xs : List MV} {l u : Option Int} {x : MV} (hx : x ∈ cutM xs l u) : x ∈ xs := List.mem_of_mem_drop (List.mem_of_mem_take hx)
theorem cutM_len (xs : List MV) (l u : Option Int) : (cutM xs l u).length ≤ xs.length := by
  unfold cutM
  simp only [List.length_take, List.length_drop]
  omega

/-! ### bit sizes -/
theorem mulB_of {a b : Int} {m n : Nat} (ha : intBits a ≤ m) (hb : intBits b ≤ n) (h : m + n ≤ 134217728) : mulB a b = true := by
  unfold mulB
  rw [Bool.or_eq_true]
  right
  rw [decide_eq_true_eq]
  omega
theorem mulB_left {a b : Int} (ha : intBits a ≤ 64) : mulB a b = true := by simp [mulB, ha]
theorem mulB_right {a b : Int} (hb : intBits b ≤ 64) : mulB a b = true := by simp [mulB, hb]
theorem dvB_small {a b : Int} (h : 0 < b) (h' : b < 1073741824) : dvB a b = true := by simp [dvB, h, h']
theorem shlB_of {a b : Int} {m : Nat} (ha : intBits a ≤ m) (h : 0 ≤ b) (h' : (m : Int) + b ≤ 134217728) : shlB a b = true := by
  simp only [shlB, h, decide_true, Bool.true_and, decide_eq_true_eq]; omega
theorem two_cases (a : Int) : a % 2 = 0 ∨ a % 2 = 1 := by omega
theorem ib_abs {x : Int} {n : Nat} (h : x.natAbs < 2 ^ n) : intBits x ≤ n := intBits_le_iff.mpr h
theorem ib_lt {x : Int} {n : Nat} (h0 : 0 ≤ x) (h : x < 2 ^ n) : intBits x ≤ n := ib_abs (by
  have : ((x.natAbs : Nat) : Int) < ((2 ^ n : Nat) : Int) := by
    rw [Int.natCast_pow, show ((2 : Nat) : Int) = 2 from rfl]; omega
  exact Int.ofNat_lt.mp this)
theorem ib_mono {x : Int} {m n : Nat} (h : intBits x ≤ m) (hmn : m ≤ n) : intBits x ≤ n := Nat.le_trans h hmn

/-! ### places, powers -/
theorem atI_nat {α : Type} {xs : List α} {k : Nat} {i : Int} (h : i = k) (hk : k < xs.length) : atI xs i = some xs[k] := by
  subst h
  have : (k : Int) < xs.length := by omega
  simp [atI, ixN, this, hk]
@[simp] theorem atI_0 {α : Type} (x : α) (xs : List α) : atI (x :: xs) 0 = some x := by simp [atI, ixN]
@[simp] theorem atI_1 {α : Type} (x y : α) (xs : List α) : atI (x :: y :: xs) 1 = some y := (atI_nat (k := 1) rfl (by simp)).trans rfl
@[simp] theorem atI_2 {α : Type} (x y z : α) (xs : List α) : atI (x :: y :: z :: xs) 2 = some z := (atI_nat (k := 2) rfl (by simp)).trans rfl
@[simp] theorem atI_3 {α : Type} (x y z u : α) (xs : List α) : atI (x :: y :: z :: u :: xs) 3 = some u := (atI_nat (k := 3) rfl (by simp)).trans rfl
@[simp] theorem atI_4 {α : Type} (x y z u v : α) (xs : List α) : atI (x :: y :: z :: u :: v :: xs) 4 = some v := (atI_nat (k := 4) rfl (by simp)).trans rfl
@[simp] theorem atI_m1 {α : Type} (x : α) : atI [x] (-1) = some x := by simp [atI, ixN]
@[simp] theorem sz_le (n : Nat) : (n ≤ sz) = (n ≤ 16777216) := id rfl
@[simp] theorem pow2_pos (n : Nat) : (0 < (2 : Int) ^ n) = True := eq_true (Int.pow_pos (by decide))
@[simp] theorem pow2_nn (n : Nat) : (0 ≤ (2 : Int) ^ n) = True := eq_true (Int.le_of_lt (Int.pow_pos (by decide)))
@[simp] theorem tn_add (a b : Nat) : ((a : Int) + (b : Int)).toNat = a + b := by omega
@[simp] theorem tn_add1 (a : Nat) : ((a : Int) + 1).toNat = a + 1 := by omega
@[simp] theorem tn_add2 (a b : Nat) : ((a : Int) + (b : Int) + 1).toNat = a + b + 1 := by omega
@[simp] theorem tn_sub1 (a : Nat) : ((a : Int) - 1).toNat = a - 1 := by omega
theorem ib_one : intBits (1 : Int) ≤ 1 := by decide
theorem shlB_one {b : Int} (h : 0 ≤ b) (h' : b ≤ 134217727) : shlB 1 b = true := shlB_of ib_one h (by omega)
theorem ib_pow2 (n : Nat) : intBits ((2 : Int) ^ n) ≤ n + 1 := ib_lt (by simp) (by rw [Int.pow_succ]; have := Int.pow_pos (n := 2) (m := n) (by decide); omega)
theorem dvB_bits {a b : Int} {n : Nat} (h : 0 < b) (hb : intBits b ≤ n) (hn : n ≤ 9000) : dvB a b = true := by
  have : Builtin.divisionGoesByPylong a b = false := PyProof.noPylong_of_log2 (by
    have h1 := intBits_le_iff.mp (Nat.le_trans hb hn)
    exact (Nat.log2_lt (by omega)).mpr h1)
  simp [dvB, h, this]
theorem dvB_pow {a : Int} {n : Nat} (h : n < 9000) : dvB a (2 ^ n) = true := dvB_bits (by simp) (ib_pow2 n) (by omega)
theorem dvB_near {a b : Int} (h : 0 < b) (hb : intBits a ≤ intBits b + 4000) : dvB a b = true := by
  simp [dvB, h, (divp_ok h hb).2]
theorem two_le_pow {m n : Nat} (h : m ≤ n) : (2 : Int) ^ m ≤ 2 ^ n := by
  have := Int.ofNat_le.mpr (Nat.pow_le_pow_right (show 0 < 2 by decide) h)
  simpa using this
theorem or_lowC {q r : Int} {k : Nat} (hq : 0 ≤ q) (h0 : 0 ≤ r) (h1 : r < 2 ^ k) : Builtin.bitOr (q * 2 ^ k) r = q * 2 ^ k + r := or_low hq h0 h1
end Rm

namespace Pg
open PySem L2 Rm
def top (i : Nat) : Stmt := PySem.Challenge.pw_roundmill_k57_whole_shown_and_read.main.body.getD i (.Pass ⟨0, 0, 0, 0⟩)
/-! 0: width(size); slots 0 size -/
def fn0 : FI := ⟨1, 1, .cons (.ret (.bin .add (.bin .add (.idx (.var 0) (.cI 0)) (.idx (.var 0) (.cI 1))) (.cI 1))) (.nil), false⟩
/-! 1: bias(size); slots 0 size -/
def fn1 : FI := ⟨1, 1, .cons (.ret (.bin .sub (.bin .shl (.cI 1) (.bin .sub (.idx (.var 0) (.cI 0)) (.cI 1))) (.cI 1))) (.nil), false⟩
/-! 2: low(size); slots 0 size -/
def fn2 : FI := ⟨1, 1, .cons (.ret (.bin .sub (.bin .sub (.cI 1) (.call 1 (.cons (.var 0) (.nil)))) (.idx (.var 0) (.cI 1)))) (.nil), false⟩
/-! 3: sign_bit(size); slots 0 size -/
def fn3 : FI := ⟨1, 1, .cons (.ret (.bin .shl (.cI 1) (.bin .add (.idx (.var 0) (.cI 0)) (.idx (.var 0) (.cI 1))))) (.nil), false⟩
/-! 4: endless(size); slots 0 size -/
def fn4 : FI := ⟨1, 1, .cons (.ret (.bin .shl (.bin .sub (.bin .shl (.cI 1) (.idx (.var 0) (.cI 0))) (.cI 1)) (.idx (.var 0) (.cI 1)))) (.nil), false⟩
/-! 5: no_number(size); slots 0 size -/
def fn5 : FI := ⟨1, 1, .cons (.ret (.bin .or (.call 4 (.cons (.var 0) (.nil))) (.bin .shl (.cI 1) (.bin .sub (.idx (.var 0) (.cI 1)) (.cI 1))))) (.nil), false⟩
/-! 6: parted(size, bits); slots 0 size, 1 bits, 2 sign, 3 code, 4 field, 5 figures -/
def fn6 : FI := ⟨2, 6, .cons (.iff (.or (.cmp .lt (.var 1) (.cI 0)) (.cmp .ne (.bin .shr (.var 1) (.call 0 (.cons (.var 0) (.nil)))) (.cI 0))) (.cons (.rais 1) (.nil)) (.nil)) (.cons (.asg (.tup [2, 3]) (.bi .dvm (.cons (.var 1) (.cons (.call 3 (.cons (.var 0) (.nil))) (.nil))))) (.cons (.asg (.tup [4, 5]) (.bi .dvm (.cons (.var 3) (.cons (.bin .shl (.cI 1) (.idx (.var 0) (.cI 1))) (.nil))))) (.cons (.ret (.tup (.cons (.var 2) (.cons (.var 4) (.cons (.var 5) (.nil)))))) (.nil)))), false⟩
/-! 7: kind(size, bits); slots 0 size, 1 bits, 2 sign, 3 field, 4 figures -/
def fn7 : FI := ⟨2, 5, .cons (.asg (.tup [2, 3, 4]) (.call 6 (.cons (.var 0) (.cons (.var 1) (.nil))))) (.cons (.iff (.cmp .eq (.var 3) (.bin .sub (.bin .shl (.cI 1) (.idx (.var 0) (.cI 0))) (.cI 1))) (.cons (.ret (.ife (.cmp .eq (.var 4) (.cI 0)) (.cS "endless") (.cS "none"))) (.nil)) (.nil)) (.cons (.iff (.cmp .gt (.var 3) (.cI 0)) (.cons (.ret (.cS "plain")) (.nil)) (.nil)) (.cons (.ret (.ife (.cmp .eq (.var 4) (.cI 0)) (.cS "nought") (.cS "faint"))) (.nil)))), false⟩
/-! 8: worth(size, bits); slots 0 size, 1 bits, 2 sign, 3 field, 4 figures -/
def fn8 : FI := ⟨2, 5, .cons (.asg (.tup [2, 3, 4]) (.call 6 (.cons (.var 0) (.cons (.var 1) (.nil))))) (.cons (.iff (.cmp .eq (.var 3) (.bin .sub (.bin .shl (.cI 1) (.idx (.var 0) (.cI 0))) (.cI 1))) (.cons (.rais 2) (.nil)) (.nil)) (.cons (.iff (.cmp .eq (.var 3) (.cI 0)) (.cons (.ret (.tup (.cons (.var 2) (.cons (.var 4) (.cons (.call 2 (.cons (.var 0) (.nil))) (.nil)))))) (.nil)) (.nil)) (.cons (.ret (.tup (.cons (.var 2) (.cons (.bin .or (.var 4) (.bin .shl (.cI 1) (.idx (.var 0) (.cI 1)))) (.cons (.bin .sub (.bin .add (.call 2 (.cons (.var 0) (.nil))) (.var 3)) (.cI 1)) (.nil)))))) (.nil)))), false⟩
/-! 9: fraction(size, bits); slots 0 size, 1 bits, 2 sign, 3 whole, 4 power -/
def fn9 : FI := ⟨2, 5, .cons (.asg (.tup [2, 3, 4]) (.call 8 (.cons (.var 0) (.cons (.var 1) (.nil))))) (.cons (.iff (.cmp .lt (.var 4) (.cI 0)) (.cons (.ret (.tup (.cons (.var 2) (.cons (.var 3) (.cons (.bin .shl (.cI 1) (.neg (.var 4))) (.nil)))))) (.nil)) (.nil)) (.cons (.ret (.tup (.cons (.var 2) (.cons (.bin .shl (.var 3) (.var 4)) (.cons (.cI 1) (.nil)))))) (.nil))), false⟩
/-! 10: Way.grows(self, sign, odd, rest); slots 0 self, 1 sign, 2 odd, 3 rest -/
def fn10 : FI := ⟨4, 4, .cons (.ret (.cB false)) (.nil), false⟩
/-! 11: Way.bursts(self, sign); slots 0 self, 1 sign -/
def fn11 : FI := ⟨2, 2, .cons (.ret (.cB false)) (.nil), false⟩
/-! 12: Nearest.grows(self, sign, odd, rest); slots 0 self, 1 sign, 2 odd, 3 rest -/
def fn12 : FI := ⟨4, 4, .cons (.iff (.cmp .eq (.var 3) (.cI 2)) (.cons (.ret (.mcl (.var 0) "grows_midway" (.cons (.var 2) (.nil)))) (.nil)) (.nil)) (.cons (.ret (.cmp .eq (.var 3) (.cI 3))) (.nil)), false⟩
/-! 13: Nearest.grows_midway(self, odd); slots 0 self, 1 odd -/
def fn13 : FI := ⟨2, 2, .cons (.ret (.var 1)) (.nil), false⟩
/-! 14: Nearest.bursts(self, sign); slots 0 self, 1 sign -/
def fn14 : FI := ⟨2, 2, .cons (.ret (.cB true)) (.nil), false⟩
/-! 15: NearestAway.grows_midway(self, odd); slots 0 self, 1 odd -/
def fn15 : FI := ⟨2, 2, .cons (.ret (.cB true)) (.nil), false⟩
/-! 16: Outward.__init__(self, sign); slots 0 self, 1 sign -/
def fn16 : FI := ⟨2, 2, .cons (.sta (.var 0) "outward_sign" (.var 1)) (.nil), true⟩
/-! 17: Outward.grows(self, sign, odd, rest); slots 0 self, 1 sign, 2 odd, 3 rest -/
def fn17 : FI := ⟨4, 4, .cons (.ret (.and (.cmp .gt (.var 3) (.cI 0)) (.cmp .eq (.var 1) (.atr (.var 0) "outward_sign")))) (.nil), false⟩
/-! 18: Outward.bursts(self, sign); slots 0 self, 1 sign -/
def fn18 : FI := ⟨2, 2, .cons (.ret (.cmp .eq (.var 1) (.atr (.var 0) "outward_sign"))) (.nil), false⟩
/-! 19: way_of(name); slots 0 name -/
def fn19 : FI := ⟨1, 1, .cons (.iff (.cmp .eq (.var 0) (.cS "even")) (.cons (.ret (.new 7 (.nil))) (.nil)) (.nil)) (.cons (.iff (.cmp .eq (.var 0) (.cS "away")) (.cons (.ret (.new 8 (.nil))) (.nil)) (.nil)) (.cons (.iff (.cmp .eq (.var 0) (.cS "nought")) (.cons (.ret (.new 6 (.nil))) (.nil)) (.nil)) (.cons (.iff (.cmp .eq (.var 0) (.cS "up")) (.cons (.ret (.new 9 (.cons (.cI 0) (.nil)))) (.nil)) (.nil)) (.cons (.iff (.cmp .eq (.var 0) (.cS "down")) (.cons (.ret (.new 9 (.cons (.cI 1) (.nil)))) (.nil)) (.nil)) (.cons (.rais 3) (.nil)))))), false⟩
/-! 20: asked_fraction(top, bottom); slots 0 top, 1 bottom -/
def fn20 : FI := ⟨2, 2, .cons (.iff (.or (.cmp .lt (.var 0) (.cI 0)) (.cmp .lt (.var 1) (.cI 1))) (.cons (.rais 4) (.nil)) (.nil)) (.nil), false⟩
/-! 21: ahead(top, bottom); slots 0 top, 1 bottom, 2 power, 3 tall, 4 wide -/
def fn21 : FI := ⟨2, 5, .cons (.asg (.one 2) (.bin .sub (.me .bitlen (.var 0) .nil) (.me .bitlen (.var 1) .nil))) (.cons (.asg (.tup [3, 4]) (.call 22 (.cons (.var 0) (.cons (.var 1) (.cons (.var 2) (.nil)))))) (.cons (.iff (.cmp .lt (.var 3) (.var 4)) (.cons (.ret (.var 2)) (.nil)) (.nil)) (.cons (.ret (.bin .add (.var 2) (.cI 1))) (.nil)))), false⟩
/-! 22: scaled(top, bottom, power); slots 0 top, 1 bottom, 2 power -/
def fn22 : FI := ⟨3, 3, .cons (.iff (.cmp .lt (.var 2) (.cI 0)) (.cons (.ret (.tup (.cons (.bin .shl (.var 0) (.neg (.var 2))) (.cons (.var 1) (.nil))))) (.nil)) (.nil)) (.cons (.ret (.tup (.cons (.var 0) (.cons (.bin .shl (.var 1) (.var 2)) (.nil))))) (.nil)), false⟩
/-! 23: rest_of(left, half); slots 0 left, 1 half -/
def fn23 : FI := ⟨2, 2, .cons (.iff (.cmp .eq (.var 0) (.cI 0)) (.cons (.ret (.cI 0)) (.nil)) (.nil)) (.cons (.iff (.cmp .lt (.var 0) (.var 1)) (.cons (.ret (.cI 1)) (.nil)) (.nil)) (.cons (.iff (.cmp .eq (.var 0) (.var 1)) (.cons (.ret (.cI 2)) (.nil)) (.nil)) (.cons (.ret (.cI 3)) (.nil)))), false⟩
/-! 24: cut(size, top, bottom); slots 0 size, 1 top, 2 bottom, 3 power, 4 tall, 5 wide, 6 whole, 7 left -/
def fn24 : FI := ⟨3, 8, .cons (.exp (.call 20 (.cons (.var 1) (.cons (.var 2) (.nil))))) (.cons (.iff (.cmp .eq (.var 1) (.cI 0)) (.cons (.ret (.tup (.cons (.cI 0) (.cons (.call 2 (.cons (.var 0) (.nil))) (.cons (.cI 0) (.nil)))))) (.nil)) (.nil)) (.cons (.asg (.one 3) (.bi .max2 (.cons (.call 2 (.cons (.var 0) (.nil))) (.cons (.bin .sub (.bin .sub (.call 21 (.cons (.var 1) (.cons (.var 2) (.nil)))) (.idx (.var 0) (.cI 1))) (.cI 1)) (.nil))))) (.cons (.asg (.tup [4, 5]) (.call 22 (.cons (.var 1) (.cons (.var 2) (.cons (.var 3) (.nil)))))) (.cons (.asg (.tup [6, 7]) (.bi .dvm (.cons (.var 4) (.cons (.var 5) (.nil))))) (.cons (.ret (.tup (.cons (.var 6) (.cons (.var 3) (.cons (.call 23 (.cons (.bin .mul (.cI 2) (.var 7)) (.cons (.var 5) (.nil)))) (.nil)))))) (.nil)))))), false⟩
/-! 25: settled(size, way, sign, whole, power, rest); slots 0 size, 1 way, 2 sign, 3 whole, 4 power, 5 rest, 6 rule, 7 first, 8 code, 9 flags -/
def fn25 : FI := ⟨6, 10, .cons (.asg (.one 6) (.call 19 (.cons (.var 1) (.nil)))) (.cons (.asg (.one 7) (.bin .mul (.var 2) (.call 3 (.cons (.var 0) (.nil))))) (.cons (.asg (.one 8) (.bin .add (.bin .shl (.bin .sub (.var 4) (.call 2 (.cons (.var 0) (.nil)))) (.idx (.var 0) (.cI 1))) (.var 3))) (.cons (.iff (.cmp .ge (.var 8) (.call 4 (.cons (.var 0) (.nil)))) (.cons (.iff (.mcl (.var 6) "bursts" (.cons (.var 2) (.nil))) (.cons (.ret (.tup (.cons (.bin .add (.var 7) (.call 4 (.cons (.var 0) (.nil)))) (.cons (.bin .or (.gI "INEXACT" 1) (.gI "GREAT" 4)) (.nil))))) (.nil)) (.nil)) (.cons (.ret (.tup (.cons (.bin .sub (.bin .add (.var 7) (.call 4 (.cons (.var 0) (.nil)))) (.cI 1)) (.cons (.bin .or (.gI "INEXACT" 1) (.gI "GREAT" 4)) (.nil))))) (.nil))) (.nil)) (.cons (.iff (.cmp .eq (.var 5) (.cI 0)) (.cons (.ret (.tup (.cons (.bin .add (.var 7) (.var 8)) (.cons (.cI 0) (.nil))))) (.nil)) (.nil)) (.cons (.asg (.one 9) (.gI "INEXACT" 1)) (.cons (.iff (.cmp .lt (.var 3) (.bin .shl (.cI 1) (.idx (.var 0) (.cI 1)))) (.cons (.asg (.one 9) (.bin .or (.var 9) (.gI "SMALL" 2))) (.nil)) (.nil)) (.cons (.iff (.mcl (.var 6) "grows" (.cons (.var 2) (.cons (.cmp .eq (.bin .and (.var 3) (.cI 1)) (.cI 1)) (.cons (.var 5) (.nil))))) (.cons (.aug 8 .add (.cI 1)) (.nil)) (.nil)) (.cons (.iff (.cmp .eq (.var 8) (.call 4 (.cons (.var 0) (.nil)))) (.cons (.asg (.one 9) (.bin .or (.var 9) (.gI "GREAT" 4))) (.nil)) (.nil)) (.cons (.ret (.tup (.cons (.bin .add (.var 7) (.var 8)) (.cons (.var 9) (.nil))))) (.nil)))))))))), false⟩
/-! 26: rounded(size, way, sign, top, bottom); slots 0 size, 1 way, 2 sign, 3 top, 4 bottom, 5 whole, 6 power, 7 rest -/
def fn26 : FI := ⟨5, 8, .cons (.exp (.call 19 (.cons (.var 1) (.nil)))) (.cons (.asg (.tup [5, 6, 7]) (.call 24 (.cons (.var 0) (.cons (.var 3) (.cons (.var 4) (.nil)))))) (.cons (.ret (.call 25 (.cons (.var 0) (.cons (.var 1) (.cons (.var 2) (.cons (.var 5) (.cons (.var 6) (.cons (.var 7) (.nil))))))))) (.nil))), false⟩
/-! 27: ten_to(number); slots 0 number, 1 made, 2 factor -/
def t27_0 : E := .cmp .gt (.var 0) (.cI 0)
@[simp] theorem t27_0e (T : Tab) (C : Nat → List MV → HP → R MV) (e : EN) (h : HP) : evE T C t27_0 e h = evE T C (.cmp .gt (.var 0) (.cI 0)) e h := rfl
def w27_0 : Ss := .cons (.iff (.cmp .eq (.bin .and (.var 0) (.cI 1)) (.cI 1)) (.cons (.aug 1 .mul (.var 2)) (.nil)) (.nil)) (.cons (.aug 0 .shr (.cI 1)) (.cons (.aug 2 .mul (.var 2)) (.nil)))
@[simp] theorem w27_0e (T : Tab) (C : Nat → List MV → HP → R MV) (e : EN) (h : HP) : exSs T C w27_0 e h = exSs T C (.cons (.iff (.cmp .eq (.bin .and (.var 0) (.cI 1)) (.cI 1)) (.cons (.aug 1 .mul (.var 2)) (.nil)) (.nil)) (.cons (.aug 0 .shr (.cI 1)) (.cons (.aug 2 .mul (.var 2)) (.nil)))) e h := rfl
def fn27 : FI := ⟨1, 3, .cons (.asg (.one 1) (.cI 1)) (.cons (.asg (.one 2) (.cI 10)) (.cons (.whl t27_0 w27_0) (.cons (.ret (.var 1)) (.nil)))), false⟩
/-! 28: all_figures(text); slots 0 text, 1 sign -/
def w28_0 : Ss := .cons (.iff (.cmp .nin (.var 1) (.gS "FIGURES" "0123456789")) (.cons (.ret (.cB false)) (.nil)) (.nil)) (.nil)
@[simp] theorem w28_0e (T : Tab) (C : Nat → List MV → HP → R MV) (e : EN) (h : HP) : exSs T C w28_0 e h = exSs T C (.cons (.iff (.cmp .nin (.var 1) (.gS "FIGURES" "0123456789")) (.cons (.ret (.cB false)) (.nil)) (.nil)) (.nil)) e h := rfl
def fn28 : FI := ⟨1, 2, .cons (.fr (.one 1) (.seq (.var 0)) w28_0) (.cons (.ret (.cmp .ne (.var 0) (.cS ""))) (.nil)), false⟩
/-! 29: bare(line); slots 0 line -/
def fn29 : FI := ⟨1, 1, .cons (.iff (.cmp .gt (.bi .len (.cons (.var 0) (.nil))) (.gI "LONGEST" 400)) (.cons (.rais 5) (.nil)) (.nil)) (.cons (.ret (.me .strip1 (.var 0) (.cons (.cS " ") (.nil)))) (.nil)), false⟩
/-! 30: apart_sign(text); slots 0 text -/
def fn30 : FI := ⟨1, 1, .cons (.iff (.me .starts (.var 0) (.cons (.cS "-") (.nil))) (.cons (.ret (.tup (.cons (.cI 1) (.cons (.slc (.var 0) (.cI 1) (.cN)) (.nil))))) (.nil)) (.nil)) (.cons (.iff (.me .starts (.var 0) (.cons (.cS "+") (.nil))) (.cons (.ret (.tup (.cons (.cI 0) (.cons (.slc (.var 0) (.cI 1) (.cN)) (.nil))))) (.nil)) (.nil)) (.cons (.ret (.tup (.cons (.cI 0) (.cons (.var 0) (.nil))))) (.nil))), false⟩
/-! 31: power_of(text); slots 0 text, 1 pair -/
def fn31 : FI := ⟨1, 2, .cons (.asg (.one 1) (.call 30 (.cons (.var 0) (.nil)))) (.cons (.iff (.or (.not (.call 28 (.cons (.idx (.var 1) (.cI 1)) (.nil)))) (.cmp .gt (.bi .len (.cons (.idx (.var 1) (.cI 1)) (.nil))) (.cI 4))) (.cons (.rais 5) (.nil)) (.nil)) (.cons (.iff (.cmp .eq (.idx (.var 1) (.cI 0)) (.cI 1)) (.cons (.ret (.neg (.bi .int1 (.cons (.idx (.var 1) (.cI 1)) (.nil))))) (.nil)) (.nil)) (.cons (.ret (.bi .int1 (.cons (.idx (.var 1) (.cI 1)) (.nil)))) (.nil)))), false⟩
/-! 32: spelled(line); slots 0 line, 1 pair, 2 parts, 3 power, 4 point -/
def fn32 : FI := ⟨1, 5, .cons (.asg (.one 1) (.call 30 (.cons (.call 29 (.cons (.var 0) (.nil))) (.nil)))) (.cons (.asg (.one 2) (.me .part (.idx (.var 1) (.cI 1)) (.cons (.cS "e") (.nil)))) (.cons (.asg (.one 3) (.cI 0)) (.cons (.iff (.cmp .eq (.idx (.var 2) (.cI 1)) (.cS "e")) (.cons (.asg (.one 3) (.call 31 (.cons (.idx (.var 2) (.cI 2)) (.nil)))) (.nil)) (.nil)) (.cons (.asg (.one 4) (.me .part (.idx (.var 2) (.cI 0)) (.cons (.cS ".") (.nil)))) (.cons (.iff (.not (.call 28 (.cons (.idx (.var 4) (.cI 0)) (.nil)))) (.cons (.rais 5) (.nil)) (.nil)) (.cons (.iff (.and (.cmp .eq (.idx (.var 4) (.cI 1)) (.cS ".")) (.not (.call 28 (.cons (.idx (.var 4) (.cI 2)) (.nil))))) (.cons (.rais 5) (.nil)) (.nil)) (.cons (.ret (.tup (.cons (.idx (.var 1) (.cI 0)) (.cons (.bi .int1 (.cons (.bin .add (.idx (.var 4) (.cI 0)) (.idx (.var 4) (.cI 2))) (.nil))) (.cons (.bin .sub (.var 3) (.bi .len (.cons (.idx (.var 4) (.cI 2)) (.nil)))) (.nil)))))) (.nil)))))))), false⟩
/-! 33: read(size, way, line); slots 0 size, 1 way, 2 line, 3 pair, 4 found -/
def fn33 : FI := ⟨3, 5, .cons (.exp (.call 19 (.cons (.var 1) (.nil)))) (.cons (.asg (.one 3) (.call 30 (.cons (.call 29 (.cons (.var 2) (.nil))) (.nil)))) (.cons (.iff (.cmp .eq (.idx (.var 3) (.cI 1)) (.cS "none")) (.cons (.ret (.tup (.cons (.call 5 (.cons (.var 0) (.nil))) (.cons (.cI 0) (.nil))))) (.nil)) (.nil)) (.cons (.iff (.cmp .eq (.idx (.var 3) (.cI 1)) (.cS "endless")) (.cons (.ret (.tup (.cons (.bin .add (.call 4 (.cons (.var 0) (.nil))) (.bin .mul (.idx (.var 3) (.cI 0)) (.call 3 (.cons (.var 0) (.nil))))) (.cons (.cI 0) (.nil))))) (.nil)) (.nil)) (.cons (.asg (.one 4) (.call 32 (.cons (.var 2) (.nil)))) (.cons (.iff (.cmp .lt (.idx (.var 4) (.cI 2)) (.cI 0)) (.cons (.ret (.call 26 (.cons (.var 0) (.cons (.var 1) (.cons (.idx (.var 4) (.cI 0)) (.cons (.idx (.var 4) (.cI 1)) (.cons (.call 27 (.cons (.neg (.idx (.var 4) (.cI 2))) (.nil))) (.nil)))))))) (.nil)) (.nil)) (.cons (.ret (.call 26 (.cons (.var 0) (.cons (.var 1) (.cons (.idx (.var 4) (.cI 0)) (.cons (.bin .mul (.idx (.var 4) (.cI 1)) (.call 27 (.cons (.idx (.var 4) (.cI 2)) (.nil)))) (.cons (.cI 1) (.nil)))))))) (.nil))))))), false⟩
/-! 34: reads_back(size, bits, figures, place); slots 0 size, 1 bits, 2 figures, 3 place, 4 sign -/
def fn34 : FI := ⟨4, 5, .cons (.asg (.one 4) (.idx (.call 9 (.cons (.var 0) (.cons (.var 1) (.nil)))) (.cI 0))) (.cons (.iff (.cmp .lt (.var 3) (.cI 0)) (.cons (.ret (.cmp .eq (.idx (.call 26 (.cons (.var 0) (.cons (.cS "even") (.cons (.var 4) (.cons (.var 2) (.cons (.call 27 (.cons (.neg (.var 3)) (.nil))) (.nil))))))) (.cI 0)) (.var 1))) (.nil)) (.nil)) (.cons (.ret (.cmp .eq (.idx (.call 26 (.cons (.var 0) (.cons (.cS "even") (.cons (.var 4) (.cons (.bin .mul (.var 2) (.call 27 (.cons (.var 3) (.nil)))) (.cons (.cI 1) (.nil))))))) (.cI 0)) (.var 1))) (.nil))), false⟩
/-! 35: scaled(top, bottom, place); slots 0 top, 1 bottom, 2 place -/
def fn35 : FI := ⟨3, 3, .cons (.iff (.cmp .lt (.var 2) (.cI 0)) (.cons (.ret (.tup (.cons (.bin .mul (.var 0) (.call 27 (.cons (.neg (.var 2)) (.nil)))) (.cons (.var 1) (.nil))))) (.nil)) (.nil)) (.cons (.ret (.tup (.cons (.var 0) (.cons (.bin .mul (.var 1) (.call 27 (.cons (.var 2) (.nil)))) (.nil))))) (.nil)), false⟩
/-! 36: reaches(top, bottom, place); slots 0 top, 1 bottom, 2 place, 3 pair -/
def fn36 : FI := ⟨3, 4, .cons (.asg (.one 3) (.call 35 (.cons (.var 0) (.cons (.var 1) (.cons (.var 2) (.nil)))))) (.cons (.ret (.cmp .ge (.idx (.var 3) (.cI 0)) (.idx (.var 3) (.cI 1)))) (.nil)), false⟩
/-! 37: decade(top, bottom); slots 0 top, 1 bottom, 2 place -/
def t37_0 : E := .call 36 (.cons (.var 0) (.cons (.var 1) (.cons (.bin .add (.var 2) (.cI 1)) (.nil))))
@[simp] theorem t37_0e (T : Tab) (C : Nat → List MV → HP → R MV) (e : EN) (h : HP) : evE T C t37_0 e h = evE T C (.call 36 (.cons (.var 0) (.cons (.var 1) (.cons (.bin .add (.var 2) (.cI 1)) (.nil))))) e h := rfl
def w37_0 : Ss := .cons (.aug 2 .add (.cI 1)) (.nil)
@[simp] theorem w37_0e (T : Tab) (C : Nat → List MV → HP → R MV) (e : EN) (h : HP) : exSs T C w37_0 e h = exSs T C (.cons (.aug 2 .add (.cI 1)) (.nil)) e h := rfl
def t37_1 : E := .not (.call 36 (.cons (.var 0) (.cons (.var 1) (.cons (.var 2) (.nil)))))
@[simp] theorem t37_1e (T : Tab) (C : Nat → List MV → HP → R MV) (e : EN) (h : HP) : evE T C t37_1 e h = evE T C (.not (.call 36 (.cons (.var 0) (.cons (.var 1) (.cons (.var 2) (.nil)))))) e h := rfl
def w37_1 : Ss := .cons (.aug 2 .sub (.cI 1)) (.nil)
@[simp] theorem w37_1e (T : Tab) (C : Nat → List MV → HP → R MV) (e : EN) (h : HP) : exSs T C w37_1 e h = exSs T C (.cons (.aug 2 .sub (.cI 1)) (.nil)) e h := rfl
def fn37 : FI := ⟨2, 3, .cons (.asg (.one 2) (.bin .fdv (.bin .mul (.bin .sub (.me .bitlen (.var 0) .nil) (.me .bitlen (.var 1) .nil)) (.cI 1233)) (.cI 4096))) (.cons (.whl t37_1 w37_1) (.cons (.whl t37_0 w37_0) (.cons (.ret (.var 2)) (.nil)))), false⟩
/-! 38: better(lower, pair); slots 0 lower, 1 pair, 2 lean -/
def fn38 : FI := ⟨2, 3, .cons (.asg (.one 2) (.bin .sub (.bin .mul (.cI 2) (.idx (.var 1) (.cI 0))) (.bin .mul (.bin .add (.bin .mul (.cI 2) (.var 0)) (.cI 1)) (.idx (.var 1) (.cI 1))))) (.cons (.iff (.or (.cmp .gt (.var 2) (.cI 0)) (.and (.cmp .eq (.var 2) (.cI 0)) (.cmp .eq (.bin .and (.var 0) (.cI 1)) (.cI 1)))) (.cons (.ret (.bin .add (.var 0) (.cI 1))) (.nil)) (.nil)) (.cons (.ret (.var 0)) (.nil))), false⟩
/-! 39: figures_at(size, bits, pair, place); slots 0 size, 1 bits, 2 pair, 3 place, 4 lower, 5 under, 6 over -/
def fn39 : FI := ⟨4, 7, .cons (.asg (.one 4) (.bin .fdv (.idx (.var 2) (.cI 0)) (.idx (.var 2) (.cI 1)))) (.cons (.asg (.one 5) (.call 34 (.cons (.var 0) (.cons (.var 1) (.cons (.var 4) (.cons (.var 3) (.nil))))))) (.cons (.asg (.one 6) (.call 34 (.cons (.var 0) (.cons (.var 1) (.cons (.bin .add (.var 4) (.cI 1)) (.cons (.var 3) (.nil))))))) (.cons (.iff (.and (.var 5) (.var 6)) (.cons (.ret (.call 38 (.cons (.var 4) (.cons (.var 2) (.nil))))) (.nil)) (.nil)) (.cons (.iff (.var 5) (.cons (.ret (.var 4)) (.nil)) (.nil)) (.cons (.iff (.var 6) (.cons (.ret (.bin .add (.var 4) (.cI 1))) (.nil)) (.nil)) (.cons (.ret (.cI 0)) (.nil))))))), false⟩
/-! 40: shortest(size, bits); slots 0 size, 1 bits, 2 found, 3 place, 4 figures, 5 parts -/
def t40_0 : E := .cmp .eq (.idx (.var 5) (.cI 1)) (.cI 0)
@[simp] theorem t40_0e (T : Tab) (C : Nat → List MV → HP → R MV) (e : EN) (h : HP) : evE T C t40_0 e h = evE T C (.cmp .eq (.idx (.var 5) (.cI 1)) (.cI 0)) e h := rfl
def w40_0 : Ss := .cons (.asg (.one 4) (.idx (.var 5) (.cI 0))) (.cons (.aug 3 .add (.cI 1)) (.cons (.asg (.one 5) (.bi .dvm (.cons (.var 4) (.cons (.cI 10) (.nil))))) (.nil)))
@[simp] theorem w40_0e (T : Tab) (C : Nat → List MV → HP → R MV) (e : EN) (h : HP) : exSs T C w40_0 e h = exSs T C (.cons (.asg (.one 4) (.idx (.var 5) (.cI 0))) (.cons (.aug 3 .add (.cI 1)) (.cons (.asg (.one 5) (.bi .dvm (.cons (.var 4) (.cons (.cI 10) (.nil))))) (.nil)))) e h := rfl
def t40_1 : E := .cmp .eq (.var 4) (.cI 0)
@[simp] theorem t40_1e (T : Tab) (C : Nat → List MV → HP → R MV) (e : EN) (h : HP) : evE T C t40_1 e h = evE T C (.cmp .eq (.var 4) (.cI 0)) e h := rfl
def w40_1 : Ss := .cons (.aug 3 .sub (.cI 1)) (.cons (.asg (.one 4) (.call 39 (.cons (.var 0) (.cons (.var 1) (.cons (.call 35 (.cons (.idx (.var 2) (.cI 1)) (.cons (.idx (.var 2) (.cI 2)) (.cons (.var 3) (.nil))))) (.cons (.var 3) (.nil))))))) (.nil))
@[simp] theorem w40_1e (T : Tab) (C : Nat → List MV → HP → R MV) (e : EN) (h : HP) : exSs T C w40_1 e h = exSs T C (.cons (.aug 3 .sub (.cI 1)) (.cons (.asg (.one 4) (.call 39 (.cons (.var 0) (.cons (.var 1) (.cons (.call 35 (.cons (.idx (.var 2) (.cI 1)) (.cons (.idx (.var 2) (.cI 2)) (.cons (.var 3) (.nil))))) (.cons (.var 3) (.nil))))))) (.nil))) e h := rfl
def fn40 : FI := ⟨2, 6, .cons (.asg (.one 2) (.call 9 (.cons (.var 0) (.cons (.var 1) (.nil))))) (.cons (.iff (.cmp .eq (.idx (.var 2) (.cI 1)) (.cI 0)) (.cons (.ret (.tup (.cons (.idx (.var 2) (.cI 0)) (.cons (.cI 0) (.cons (.cI 0) (.nil)))))) (.nil)) (.nil)) (.cons (.asg (.one 3) (.call 37 (.cons (.idx (.var 2) (.cI 1)) (.cons (.idx (.var 2) (.cI 2)) (.nil))))) (.cons (.asg (.one 4) (.call 39 (.cons (.var 0) (.cons (.var 1) (.cons (.call 35 (.cons (.idx (.var 2) (.cI 1)) (.cons (.idx (.var 2) (.cI 2)) (.cons (.var 3) (.nil))))) (.cons (.var 3) (.nil))))))) (.cons (.whl t40_1 w40_1) (.cons (.asg (.one 5) (.bi .dvm (.cons (.var 4) (.cons (.cI 10) (.nil))))) (.cons (.whl t40_0 w40_0) (.cons (.ret (.tup (.cons (.idx (.var 2) (.cI 0)) (.cons (.var 4) (.cons (.var 3) (.nil)))))) (.nil)))))))), false⟩
/-! 41: powered(digits, at); slots 0 digits, 1 at, 2 text -/
def fn41 : FI := ⟨2, 3, .cons (.asg (.one 2) (.idx (.var 0) (.cI 0))) (.cons (.iff (.cmp .gt (.bi .len (.cons (.var 0) (.nil))) (.cI 1)) (.cons (.aug 2 .add (.bin .add (.cS ".") (.slc (.var 0) (.cI 1) (.cN)))) (.nil)) (.nil)) (.cons (.ret (.bin .add (.bin .add (.var 2) (.cS "e")) (.bi .str1 (.cons (.var 1) (.nil))))) (.nil))), false⟩
/-! 42: laid(sign, figures, place); slots 0 sign, 1 figures, 2 place, 3 head, 4 digits, 5 at -/
def fn42 : FI := ⟨3, 6, .cons (.asg (.one 3) (.cS "")) (.cons (.iff (.cmp .eq (.var 0) (.cI 1)) (.cons (.asg (.one 3) (.cS "-")) (.nil)) (.nil)) (.cons (.iff (.cmp .eq (.var 1) (.cI 0)) (.cons (.ret (.bin .add (.var 3) (.cS "0"))) (.nil)) (.nil)) (.cons (.asg (.one 4) (.bi .str1 (.cons (.var 1) (.nil)))) (.cons (.asg (.one 5) (.bin .sub (.bin .add (.var 2) (.bi .len (.cons (.var 4) (.nil)))) (.cI 1))) (.cons (.iff (.or (.cmp .lt (.var 5) (.neg (.cI 5))) (.cmp .gt (.var 5) (.cI 20))) (.cons (.ret (.bin .add (.var 3) (.call 41 (.cons (.var 4) (.cons (.var 5) (.nil)))))) (.nil)) (.nil)) (.cons (.iff (.cmp .ge (.var 2) (.cI 0)) (.cons (.ret (.bin .add (.bin .add (.var 3) (.var 4)) (.bin .mul (.cS "0") (.var 2)))) (.nil)) (.nil)) (.cons (.iff (.cmp .ge (.var 5) (.cI 0)) (.cons (.ret (.bin .add (.bin .add (.bin .add (.var 3) (.slc (.var 4) (.cN) (.bin .add (.var 5) (.cI 1)))) (.cS ".")) (.slc (.var 4) (.bin .add (.var 5) (.cI 1)) (.cN)))) (.nil)) (.nil)) (.cons (.ret (.bin .add (.bin .add (.var 3) (.cS "0.")) (.me .zfill (.var 4) (.cons (.neg (.var 2)) (.nil))))) (.nil))))))))), false⟩
/-! 43: shown(size, bits); slots 0 size, 1 bits, 2 sort, 3 found -/
def fn43 : FI := ⟨2, 4, .cons (.asg (.one 2) (.call 7 (.cons (.var 0) (.cons (.var 1) (.nil))))) (.cons (.iff (.cmp .eq (.var 2) (.cS "none")) (.cons (.ret (.cS "none")) (.nil)) (.nil)) (.cons (.iff (.cmp .eq (.var 2) (.cS "endless")) (.cons (.iff (.cmp .eq (.idx (.call 6 (.cons (.var 0) (.cons (.var 1) (.nil)))) (.cI 0)) (.cI 1)) (.cons (.ret (.cS "-endless")) (.nil)) (.nil)) (.cons (.ret (.cS "endless")) (.nil))) (.nil)) (.cons (.asg (.one 3) (.call 40 (.cons (.var 0) (.cons (.var 1) (.nil))))) (.cons (.ret (.call 42 (.cons (.idx (.var 3) (.cI 0)) (.cons (.idx (.var 3) (.cI 1)) (.cons (.idx (.var 3) (.cI 2)) (.nil)))))) (.nil))))), false⟩
/-! 44: _law_cell_at(_law_script, _law_k); slots 0 _law_script, 1 _law_k -/
def fn44 : FI := ⟨2, 2, .cons (.iff (.cmp .lt (.var 1) (.bi .len (.cons (.var 0) (.nil)))) (.cons (.ret (.idx (.var 0) (.var 1))) (.nil)) (.nil)) (.cons (.ret (.cI 0)) (.nil)), false⟩
/-! 45: _law_whole(_law_found); slots 0 _law_found -/
def fn45 : FI := ⟨1, 1, .cons (.ret (.and (.isT (.var 0) "int") (.not (.isT (.var 0) "bool")))) (.nil), false⟩
/-! 46: _law_way_by(_law_cell); slots 0 _law_cell -/
def fn46 : FI := ⟨1, 1, .cons (.ret (.idx (.lst (.cons (.cS "even") (.cons (.cS "away") (.cons (.cS "nought") (.cons (.cS "up") (.cons (.cS "down") (.nil))))))) (.bin .mod (.var 0) (.cI 5)))) (.nil), false⟩
/-! 47: _law_code_by(_law_size, _law_cell); slots 0 _law_size, 1 _law_cell, 2 _law_last, 3 _law_way, 4 _law_rest, 5 _law_field -/
def fn47 : FI := ⟨2, 6, .cons (.asg (.one 2) (.bin .shl (.bin .sub (.bin .shl (.cI 1) (.idx (.var 0) (.cI 0))) (.cI 1)) (.idx (.var 0) (.cI 1)))) (.cons (.asg (.one 3) (.bin .mod (.var 1) (.cI 6))) (.cons (.asg (.one 4) (.bin .fdv (.var 1) (.cI 6))) (.cons (.iff (.cmp .eq (.var 3) (.cI 0)) (.cons (.ret (.bin .mod (.var 4) (.var 2))) (.nil)) (.nil)) (.cons (.iff (.cmp .eq (.var 3) (.cI 1)) (.cons (.ret (.bin .sub (.bin .sub (.var 2) (.cI 1)) (.bin .mod (.var 4) (.var 2)))) (.nil)) (.nil)) (.cons (.iff (.cmp .eq (.var 3) (.cI 2)) (.cons (.ret (.bin .add (.bin .sub (.bin .shl (.cI 1) (.idx (.var 0) (.cI 1))) (.cI 2)) (.bin .mod (.var 4) (.cI 4)))) (.nil)) (.nil)) (.cons (.iff (.cmp .eq (.var 3) (.cI 3)) (.cons (.asg (.one 5) (.bin .mod (.var 4) (.bin .sub (.bin .shl (.cI 1) (.idx (.var 0) (.cI 0))) (.cI 1)))) (.cons (.ret (.bin .add (.bin .shl (.var 5) (.idx (.var 0) (.cI 1))) (.bin .mul (.bin .mod (.bin .fdv (.var 4) (.cI 7)) (.cI 2)) (.bin .sub (.bin .shl (.cI 1) (.idx (.var 0) (.cI 1))) (.cI 1))))) (.nil))) (.nil)) (.cons (.ret (.bin .mod (.bin .mul (.var 4) (.cI 73846150927364518273645509182736455091827)) (.var 2))) (.nil)))))))), false⟩
/-! 48: _law_value(_law_size, _law_code); slots 0 _law_size, 1 _law_code, 2 _law_field -/
def fn48 : FI := ⟨2, 3, .cons (.asg (.one 2) (.bin .shr (.var 1) (.idx (.var 0) (.cI 1)))) (.cons (.iff (.cmp .eq (.var 2) (.cI 0)) (.cons (.ret (.var 1)) (.nil)) (.nil)) (.cons (.ret (.bin .shl (.bin .add (.bin .shl (.cI 1) (.idx (.var 0) (.cI 1))) (.bin .mod (.var 1) (.bin .shl (.cI 1) (.idx (.var 0) (.cI 1))))) (.bin .sub (.var 2) (.cI 1)))) (.nil))), false⟩
/-! 49: _law_near(_law_way, _law_outward, _law_lean, _law_even); slots 0 _law_way, 1 _law_outward, 2 _law_lean, 3 _law_even -/
def fn49 : FI := ⟨4, 4, .cons (.iff (.cmp .eq (.var 0) (.cS "even")) (.cons (.ret (.or (.cmp .lt (.var 2) (.cI 0)) (.and (.cmp .eq (.var 2) (.cI 0)) (.var 3)))) (.nil)) (.nil)) (.cons (.iff (.cmp .eq (.var 0) (.cS "away")) (.cons (.ret (.cmp .lt (.var 2) (.cI 0))) (.nil)) (.nil)) (.cons (.ret (.not (.var 1))) (.nil))), false⟩
/-! 50: _law_far(_law_way, _law_outward, _law_lean, _law_even); slots 0 _law_way, 1 _law_outward, 2 _law_lean, 3 _law_even -/
def fn50 : FI := ⟨4, 4, .cons (.iff (.cmp .eq (.var 0) (.cS "even")) (.cons (.ret (.or (.cmp .gt (.var 2) (.cI 0)) (.and (.cmp .eq (.var 2) (.cI 0)) (.var 3)))) (.nil)) (.nil)) (.cons (.iff (.cmp .eq (.var 0) (.cS "away")) (.cons (.ret (.cmp .ge (.var 2) (.cI 0))) (.nil)) (.nil)) (.cons (.ret (.var 1)) (.nil))), false⟩
/-! 51: _law_fair(_law_size, _law_way, _law_sign, _law_tall, _law_bottom, _law_found); slots 0 _law_size, 1 _law_way, 2 _law_sign, 3 _law_tall, 4 _law_bottom, 5 _law_found, 6 _law_code, 7 _law_last, 8 _law_here, 9 _law_outward, 10 _law_due, 11 _law_before, 12 _law_beyond -/
def fn51 : FI := ⟨6, 13, .cons (.iff (.or (.not (.isT (.var 5) "tuple")) (.or (.cmp .ne (.bi .len (.cons (.var 5) (.nil))) (.cI 2)) (.or (.not (.call 45 (.cons (.idx (.var 5) (.cI 0)) (.nil)))) (.not (.call 45 (.cons (.idx (.var 5) (.cI 1)) (.nil))))))) (.cons (.ret (.cB false)) (.nil)) (.nil)) (.cons (.asg (.one 6) (.bin .sub (.idx (.var 5) (.cI 0)) (.bin .shl (.var 2) (.bin .add (.idx (.var 0) (.cI 0)) (.idx (.var 0) (.cI 1)))))) (.cons (.asg (.one 7) (.bin .shl (.bin .sub (.bin .shl (.cI 1) (.idx (.var 0) (.cI 0))) (.cI 1)) (.idx (.var 0) (.cI 1)))) (.cons (.iff (.not (.chn .le .le (.cI 0) (.var 6) (.var 7))) (.cons (.ret (.cB false)) (.nil)) (.nil)) (.cons (.asg (.one 8) (.bin .mul (.call 48 (.cons (.var 0) (.cons (.var 6) (.nil)))) (.var 4))) (.cons (.asg (.one 9) (.or (.and (.cmp .eq (.var 1) (.cS "up")) (.cmp .eq (.var 2) (.cI 0))) (.and (.cmp .eq (.var 1) (.cS "down")) (.cmp .eq (.var 2) (.cI 1))))) (.cons (.iff (.and (.cmp .eq (.var 6) (.var 7)) (.cmp .ge (.var 3) (.var 8))) (.cons (.ret (.and (.cmp .eq (.idx (.var 5) (.cI 1)) (.cI 5)) (.or (.cmp .eq (.var 1) (.cS "even")) (.or (.cmp .eq (.var 1) (.cS "away")) (.var 9))))) (.nil)) (.nil)) (.cons (.iff (.cmp .eq (.var 3) (.var 8)) (.cons (.ret (.cmp .eq (.idx (.var 5) (.cI 1)) (.cI 0))) (.nil)) (.nil)) (.cons (.asg (.one 10) (.cI 1)) (.cons (.iff (.cmp .lt (.var 3) (.bin .shl (.var 4) (.idx (.var 0) (.cI 1)))) (.cons (.asg (.one 10) (.cI 3)) (.nil)) (.nil)) (.cons (.iff (.cmp .gt (.var 3) (.var 8)) (.cons (.asg (.one 12) (.bin .mul (.call 48 (.cons (.var 0) (.cons (.bin .add (.var 6) (.cI 1)) (.nil)))) (.var 4))) (.cons (.iff (.cmp .ge (.var 3) (.var 12)) (.cons (.ret (.and (.cmp .eq (.idx (.var 5) (.cI 1)) (.cI 5)) (.and (.cmp .eq (.var 6) (.bin .sub (.var 7) (.cI 1))) (.and (.cmp .ne (.var 1) (.cS "even")) (.and (.cmp .ne (.var 1) (.cS "away")) (.not (.var 9))))))) (.nil)) (.nil)) (.cons (.ret (.and (.cmp .eq (.idx (.var 5) (.cI 1)) (.var 10)) (.call 49 (.cons (.var 1) (.cons (.var 9) (.cons (.bin .sub (.bin .sub (.bin .mul (.cI 2) (.var 3)) (.var 8)) (.var 12)) (.cons (.cmp .eq (.bin .mod (.var 6) (.cI 2)) (.cI 0)) (.nil)))))))) (.nil)))) (.nil)) (.cons (.iff (.cmp .eq (.var 6) (.var 7)) (.cons (.asg (.one 10) (.cI 5)) (.nil)) (.nil)) (.cons (.asg (.one 11) (.bin .mul (.call 48 (.cons (.var 0) (.cons (.bin .sub (.var 6) (.cI 1)) (.nil)))) (.var 4))) (.cons (.iff (.cmp .le (.var 3) (.var 11)) (.cons (.ret (.cB false)) (.nil)) (.nil)) (.cons (.ret (.and (.cmp .eq (.idx (.var 5) (.cI 1)) (.var 10)) (.call 50 (.cons (.var 1) (.cons (.var 9) (.cons (.bin .sub (.bin .sub (.bin .mul (.cI 2) (.var 3)) (.var 8)) (.var 11)) (.cons (.cmp .eq (.bin .mod (.var 6) (.cI 2)) (.cI 0)) (.nil)))))))) (.nil))))))))))))))), false⟩
/-! 52: _law_power(_law_n); slots 0 _law_n, 1 _law_half -/
def fn52 : FI := ⟨1, 2, .cons (.iff (.cmp .eq (.var 0) (.cI 0)) (.cons (.ret (.cI 1)) (.nil)) (.nil)) (.cons (.asg (.one 1) (.call 52 (.cons (.bin .fdv (.var 0) (.cI 2)) (.nil)))) (.cons (.iff (.cmp .eq (.bin .mod (.var 0) (.cI 2)) (.cI 1)) (.cons (.ret (.bin .mul (.bin .mul (.var 1) (.var 1)) (.cI 10))) (.nil)) (.nil)) (.cons (.ret (.bin .mul (.var 1) (.var 1))) (.nil)))), false⟩
/-! 53: _law_within(_law_ends, _law_even, _law_point); slots 0 _law_ends, 1 _law_even, 2 _law_point -/
def fn53 : FI := ⟨3, 3, .cons (.iff (.or (.cmp .eq (.var 2) (.idx (.var 0) (.cI 0))) (.cmp .eq (.var 2) (.idx (.var 0) (.cI 1)))) (.cons (.ret (.var 1)) (.nil)) (.nil)) (.cons (.ret (.chn .lt .lt (.idx (.var 0) (.cI 0)) (.var 2) (.idx (.var 0) (.cI 1)))) (.nil)), false⟩
/-! 54: _law_is_best(_law_size, _law_code, _law_figures, _law_place); slots 0 _law_size, 1 _law_code, 2 _law_figures, 3 _law_place, 4 _law_steps, 5 _law_unit, 6 _law_scale, 7 _law_even, 8 _law_here, 9 _law_before, 10 _law_beyond, 11 _law_ends, 12 _law_point, 13 _law_under, 14 _law_other, 15 _law_lean, 16 _law_nearer -/
def w54_0 : Ss := .cons (.asg (.one 15) (.bin .sub (.bi .abs (.cons (.bin .sub (.var 14) (.var 8)) (.nil))) (.bi .abs (.cons (.bin .sub (.var 12) (.var 8)) (.nil))))) (.cons (.asg (.one 16) (.or (.cmp .lt (.var 15) (.cI 0)) (.and (.cmp .eq (.var 15) (.cI 0)) (.and (.cmp .ne (.var 14) (.var 12)) (.cmp .eq (.bin .mod (.var 2) (.cI 2)) (.cI 1)))))) (.cons (.iff (.and (.var 16) (.call 53 (.cons (.var 11) (.cons (.var 7) (.cons (.var 14) (.nil)))))) (.cons (.ret (.cB false)) (.nil)) (.nil)) (.nil)))
@[simp] theorem w54_0e (T : Tab) (C : Nat → List MV → HP → R MV) (e : EN) (h : HP) : exSs T C w54_0 e h = exSs T C (.cons (.asg (.one 15) (.bin .sub (.bi .abs (.cons (.bin .sub (.var 14) (.var 8)) (.nil))) (.bi .abs (.cons (.bin .sub (.var 12) (.var 8)) (.nil))))) (.cons (.asg (.one 16) (.or (.cmp .lt (.var 15) (.cI 0)) (.and (.cmp .eq (.var 15) (.cI 0)) (.and (.cmp .ne (.var 14) (.var 12)) (.cmp .eq (.bin .mod (.var 2) (.cI 2)) (.cI 1)))))) (.cons (.iff (.and (.var 16) (.call 53 (.cons (.var 11) (.cons (.var 7) (.cons (.var 14) (.nil)))))) (.cons (.ret (.cB false)) (.nil)) (.nil)) (.nil)))) e h := rfl
def fn54 : FI := ⟨4, 17, .cons (.asg (.one 4) (.bin .add (.bin .sub (.bin .shl (.cI 1) (.bin .sub (.idx (.var 0) (.cI 0)) (.cI 1))) (.cI 2)) (.idx (.var 0) (.cI 1)))) (.cons (.asg (.one 5) (.bin .shl (.cI 1) (.bin .add (.var 4) (.cI 1)))) (.cons (.asg (.one 6) (.cI 1)) (.cons (.iff (.cmp .lt (.var 3) (.cI 0)) (.cons (.asg (.one 6) (.call 52 (.cons (.neg (.var 3)) (.nil)))) (.nil)) (.cons (.asg (.one 5) (.bin .mul (.var 5) (.call 52 (.cons (.var 3) (.nil))))) (.nil))) (.cons (.asg (.one 7) (.cmp .eq (.bin .mod (.var 1) (.cI 2)) (.cI 0))) (.cons (.asg (.one 8) (.bin .mul (.bin .mul (.cI 2) (.call 48 (.cons (.var 0) (.cons (.var 1) (.nil))))) (.var 6))) (.cons (.asg (.one 9) (.bin .mul (.bin .add (.call 48 (.cons (.var 0) (.cons (.bin .sub (.var 1) (.cI 1)) (.nil)))) (.call 48 (.cons (.var 0) (.cons (.var 1) (.nil))))) (.var 6))) (.cons (.asg (.one 10) (.bin .mul (.bin .add (.call 48 (.cons (.var 0) (.cons (.var 1) (.nil)))) (.call 48 (.cons (.var 0) (.cons (.bin .add (.var 1) (.cI 1)) (.nil))))) (.var 6))) (.cons (.asg (.one 11) (.lst (.cons (.var 9) (.cons (.var 10) (.nil))))) (.cons (.asg (.one 12) (.bin .mul (.var 2) (.var 5))) (.cons (.iff (.not (.call 53 (.cons (.var 11) (.cons (.var 7) (.cons (.var 12) (.nil)))))) (.cons (.ret (.cB false)) (.nil)) (.nil)) (.cons (.asg (.one 13) (.bin .mul (.bin .mul (.bin .fdv (.var 8) (.bin .mul (.cI 10) (.var 5))) (.cI 10)) (.var 5))) (.cons (.iff (.and (.cmp .gt (.var 2) (.cI 9)) (.call 53 (.cons (.var 11) (.cons (.var 7) (.cons (.var 13) (.nil)))))) (.cons (.ret (.cB false)) (.nil)) (.nil)) (.cons (.iff (.and (.cmp .gt (.var 2) (.cI 9)) (.call 53 (.cons (.var 11) (.cons (.var 7) (.cons (.bin .add (.var 13) (.bin .mul (.cI 10) (.var 5))) (.nil)))))) (.cons (.ret (.cB false)) (.nil)) (.nil)) (.cons (.asg (.one 13) (.bin .mul (.bin .fdv (.var 8) (.var 5)) (.var 5))) (.cons (.fr (.one 14) (.seq (.lst (.cons (.var 13) (.cons (.bin .add (.var 13) (.var 5)) (.nil))))) w54_0) (.cons (.iff (.or (.cmp .ne (.var 2) (.cI 1)) (.not (.call 53 (.cons (.lst (.cons (.bin .mul (.cI 10) (.idx (.var 11) (.cI 0))) (.cons (.bin .mul (.cI 10) (.idx (.var 11) (.cI 1))) (.nil)))) (.cons (.var 7) (.cons (.bin .mul (.cI 9) (.var 5)) (.nil))))))) (.cons (.ret (.cB true)) (.nil)) (.nil)) (.cons (.ret (.cmp .ge (.bi .abs (.cons (.bin .sub (.bin .mul (.cI 9) (.var 5)) (.bin .mul (.cI 10) (.var 8))) (.nil))) (.bin .mul (.cI 10) (.bi .abs (.cons (.bin .sub (.var 12) (.var 8)) (.nil)))))) (.nil)))))))))))))))))), false⟩
/-! 55: _law_layout(_law_sign, _law_figures, _law_place); slots 0 _law_sign, 1 _law_figures, 2 _law_place, 3 _law_head, 4 _law_digits, 5 _law_at, 6 _law_unit -/
def fn55 : FI := ⟨3, 7, .cons (.asg (.one 3) (.idx (.lst (.cons (.cS "") (.cons (.cS "-") (.nil)))) (.var 0))) (.cons (.iff (.cmp .eq (.var 1) (.cI 0)) (.cons (.ret (.bin .add (.var 3) (.cS "0"))) (.nil)) (.nil)) (.cons (.asg (.one 4) (.bi .str1 (.cons (.var 1) (.nil)))) (.cons (.asg (.one 5) (.bin .sub (.bin .add (.var 2) (.bi .len (.cons (.var 4) (.nil)))) (.cI 1))) (.cons (.iff (.and (.chn .le .le (.neg (.cI 5)) (.var 5) (.cI 20)) (.cmp .ge (.var 2) (.cI 0))) (.cons (.ret (.bin .add (.var 3) (.bi .str1 (.cons (.bin .mul (.var 1) (.call 52 (.cons (.var 2) (.nil)))) (.nil))))) (.nil)) (.nil)) (.cons (.iff (.chn .le .le (.neg (.cI 5)) (.var 5) (.cI 20)) (.cons (.asg (.one 6) (.call 52 (.cons (.neg (.var 2)) (.nil)))) (.cons (.ret (.bin .add (.bin .add (.bin .add (.var 3) (.bi .str1 (.cons (.bin .fdv (.var 1) (.var 6)) (.nil)))) (.cS ".")) (.me .zfill (.bi .str1 (.cons (.bin .mod (.var 1) (.var 6)) (.nil))) (.cons (.neg (.var 2)) (.nil))))) (.nil))) (.nil)) (.cons (.iff (.cmp .eq (.bi .len (.cons (.var 4) (.nil))) (.cI 1)) (.cons (.ret (.bin .add (.bin .add (.bin .add (.var 3) (.var 4)) (.cS "e")) (.bi .str1 (.cons (.var 5) (.nil))))) (.nil)) (.nil)) (.cons (.ret (.bin .add (.bin .add (.bin .add (.bin .add (.bin .add (.var 3) (.idx (.var 4) (.cI 0))) (.cS ".")) (.slc (.var 4) (.cI 1) (.cN))) (.cS "e")) (.bi .str1 (.cons (.var 5) (.nil))))) (.nil)))))))), false⟩
/-! 56: _law_bits_by(_law_size, _law_cell); slots 0 _law_size, 1 _law_cell, 2 _law_last, 3 _law_rest, 4 _law_code -/
def fn56 : FI := ⟨2, 5, .cons (.asg (.one 2) (.bin .shl (.bin .sub (.bin .shl (.cI 1) (.idx (.var 0) (.cI 0))) (.cI 1)) (.idx (.var 0) (.cI 1)))) (.cons (.asg (.one 3) (.bin .fdv (.var 1) (.cI 2))) (.cons (.asg (.one 4) (.call 47 (.cons (.var 0) (.cons (.var 3) (.nil))))) (.cons (.iff (.cmp .eq (.bin .mod (.var 3) (.cI 17)) (.cI 5)) (.cons (.asg (.one 4) (.var 2)) (.nil)) (.nil)) (.cons (.iff (.cmp .eq (.bin .mod (.var 3) (.cI 17)) (.cI 11)) (.cons (.asg (.one 4) (.bin .add (.bin .add (.var 2) (.cI 1)) (.bin .mod (.bin .fdv (.var 3) (.cI 17)) (.bin .sub (.bin .shl (.cI 1) (.idx (.var 0) (.cI 1))) (.cI 1))))) (.nil)) (.nil)) (.cons (.ret (.tup (.cons (.bin .mod (.var 1) (.cI 2)) (.cons (.var 4) (.nil))))) (.nil)))))), false⟩
/-! 57: _law_count_of(_law_text); slots 0 _law_text, 1 _law_sign -/
def w57_0 : Ss := .cons (.iff (.cmp .nin (.var 1) (.cS "0123456789")) (.cons (.ret (.neg (.cI 1))) (.nil)) (.nil)) (.nil)
@[simp] theorem w57_0e (T : Tab) (C : Nat → List MV → HP → R MV) (e : EN) (h : HP) : exSs T C w57_0 e h = exSs T C (.cons (.iff (.cmp .nin (.var 1) (.cS "0123456789")) (.cons (.ret (.neg (.cI 1))) (.nil)) (.nil)) (.nil)) e h := rfl
def fn57 : FI := ⟨1, 2, .cons (.iff (.or (.cmp .eq (.var 0) (.cS "")) (.cmp .gt (.bi .len (.cons (.var 0) (.nil))) (.cI 80))) (.cons (.ret (.neg (.cI 1))) (.nil)) (.nil)) (.cons (.fr (.one 1) (.seq (.var 0)) w57_0) (.cons (.ret (.bi .int1 (.cons (.var 0) (.nil)))) (.nil))), false⟩
/-! 58: _law_spelling_of(_law_text); slots 0 _law_text, 1 _law_body, 2 _law_parts, 3 _law_point, 4 _law_figures, 5 _law_number, 6 _law_place -/
def t58_0 : E := .and (.cmp .gt (.var 4) (.cI 0)) (.cmp .eq (.bin .mod (.var 4) (.cI 10)) (.cI 0))
@[simp] theorem t58_0e (T : Tab) (C : Nat → List MV → HP → R MV) (e : EN) (h : HP) : evE T C t58_0 e h = evE T C (.and (.cmp .gt (.var 4) (.cI 0)) (.cmp .eq (.bin .mod (.var 4) (.cI 10)) (.cI 0))) e h := rfl
def w58_0 : Ss := .cons (.asg (.one 4) (.bin .fdv (.var 4) (.cI 10))) (.cons (.asg (.one 6) (.bin .add (.var 6) (.cI 1))) (.nil))
@[simp] theorem w58_0e (T : Tab) (C : Nat → List MV → HP → R MV) (e : EN) (h : HP) : exSs T C w58_0 e h = exSs T C (.cons (.asg (.one 4) (.bin .fdv (.var 4) (.cI 10))) (.cons (.asg (.one 6) (.bin .add (.var 6) (.cI 1))) (.nil))) e h := rfl
def fn58 : FI := ⟨1, 7, .cons (.asg (.one 1) (.slc (.var 0) (.bi .int1 (.cons (.me .starts (.var 0) (.cons (.cS "-") (.nil))) (.nil))) (.cN))) (.cons (.asg (.one 2) (.me .part (.var 1) (.cons (.cS "e") (.nil)))) (.cons (.asg (.one 3) (.me .part (.idx (.var 2) (.cI 0)) (.cons (.cS ".") (.nil)))) (.cons (.asg (.one 4) (.call 57 (.cons (.bin .add (.idx (.var 3) (.cI 0)) (.idx (.var 3) (.cI 2))) (.nil)))) (.cons (.asg (.one 5) (.cI 0)) (.cons (.iff (.cmp .eq (.idx (.var 2) (.cI 1)) (.cS "e")) (.cons (.asg (.one 5) (.call 57 (.cons (.slc (.idx (.var 2) (.cI 2)) (.bi .int1 (.cons (.me .starts (.idx (.var 2) (.cI 2)) (.cons (.cS "-") (.nil))) (.nil))) (.cN)) (.nil)))) (.nil)) (.nil)) (.cons (.iff (.or (.cmp .lt (.var 4) (.cI 0)) (.or (.cmp .lt (.var 5) (.cI 0)) (.cmp .gt (.var 5) (.cI 9999)))) (.cons (.ret (.tup (.cons (.cI 0) (.cons (.cI 0) (.nil))))) (.nil)) (.nil)) (.cons (.iff (.me .starts (.idx (.var 2) (.cI 2)) (.cons (.cS "-") (.nil))) (.cons (.asg (.one 5) (.neg (.var 5))) (.nil)) (.nil)) (.cons (.asg (.one 6) (.bin .sub (.var 5) (.bi .len (.cons (.idx (.var 3) (.cI 2)) (.nil))))) (.cons (.whl t58_0 w58_0) (.cons (.ret (.tup (.cons (.var 4) (.cons (.var 6) (.nil))))) (.nil))))))))))), false⟩
/-! 59: _law_read_alike(_law_size, _law_sign, _law_code, _law_way, _law_text); slots 0 _law_size, 1 _law_sign, 2 _law_code, 3 _law_way, 4 _law_text, 5 _law_found, 6 _law_last, 7 _law_due, 8 _law_spelling, 9 _law_steps -/
def fn59 : FI := ⟨5, 10, .cons (.asg (.one 5) (.call 33 (.cons (.var 0) (.cons (.var 3) (.cons (.var 4) (.nil)))))) (.cons (.asg (.one 6) (.bin .shl (.bin .sub (.bin .shl (.cI 1) (.idx (.var 0) (.cI 0))) (.cI 1)) (.idx (.var 0) (.cI 1)))) (.cons (.asg (.one 7) (.bin .add (.bin .shl (.var 1) (.bin .add (.idx (.var 0) (.cI 0)) (.idx (.var 0) (.cI 1)))) (.var 2))) (.cons (.iff (.cmp .gt (.var 2) (.var 6)) (.cons (.asg (.one 7) (.bin .add (.var 6) (.bin .shl (.cI 1) (.bin .sub (.idx (.var 0) (.cI 1)) (.cI 1))))) (.nil)) (.nil)) (.cons (.iff (.or (.not (.isT (.var 5) "tuple")) (.or (.cmp .ne (.bi .len (.cons (.var 5) (.nil))) (.cI 2)) (.or (.not (.call 45 (.cons (.idx (.var 5) (.cI 0)) (.nil)))) (.not (.call 45 (.cons (.idx (.var 5) (.cI 1)) (.nil))))))) (.cons (.ret (.cB false)) (.nil)) (.nil)) (.cons (.iff (.and (.cmp .eq (.var 3) (.cS "even")) (.cmp .ne (.idx (.var 5) (.cI 0)) (.var 7))) (.cons (.ret (.cB false)) (.nil)) (.nil)) (.cons (.iff (.or (.cmp .eq (.var 2) (.cI 0)) (.cmp .ge (.var 2) (.var 6))) (.cons (.ret (.cmp .eq (.var 5) (.tup (.cons (.var 7) (.cons (.cI 0) (.nil)))))) (.nil)) (.nil)) (.cons (.asg (.one 8) (.call 58 (.cons (.var 4) (.nil)))) (.cons (.asg (.one 9) (.bin .add (.bin .sub (.bin .shl (.cI 1) (.bin .sub (.idx (.var 0) (.cI 0)) (.cI 1))) (.cI 2)) (.idx (.var 0) (.cI 1)))) (.cons (.iff (.cmp .lt (.idx (.var 8) (.cI 1)) (.cI 0)) (.cons (.ret (.call 51 (.cons (.var 0) (.cons (.var 3) (.cons (.var 1) (.cons (.bin .shl (.idx (.var 8) (.cI 0)) (.var 9)) (.cons (.call 52 (.cons (.neg (.idx (.var 8) (.cI 1))) (.nil))) (.cons (.var 5) (.nil))))))))) (.nil)) (.nil)) (.cons (.ret (.call 51 (.cons (.var 0) (.cons (.var 3) (.cons (.var 1) (.cons (.bin .shl (.bin .mul (.idx (.var 8) (.cI 0)) (.call 52 (.cons (.idx (.var 8) (.cI 1)) (.nil)))) (.var 9)) (.cons (.cI 1) (.cons (.var 5) (.nil))))))))) (.nil))))))))))), false⟩
/-! 60: _law_shown_well(_law_size, _law_sign, _law_code, _law_text); slots 0 _law_size, 1 _law_sign, 2 _law_code, 3 _law_text, 4 _law_last, 5 _law_spelling -/
def fn60 : FI := ⟨4, 6, .cons (.iff (.not (.isT (.var 3) "str")) (.cons (.ret (.cB false)) (.nil)) (.nil)) (.cons (.asg (.one 4) (.bin .shl (.bin .sub (.bin .shl (.cI 1) (.idx (.var 0) (.cI 0))) (.cI 1)) (.idx (.var 0) (.cI 1)))) (.cons (.iff (.cmp .gt (.var 2) (.var 4)) (.cons (.ret (.cmp .eq (.var 3) (.cS "none"))) (.nil)) (.nil)) (.cons (.iff (.cmp .eq (.var 2) (.var 4)) (.cons (.ret (.cmp .eq (.var 3) (.idx (.lst (.cons (.cS "endless") (.cons (.cS "-endless") (.nil)))) (.var 1)))) (.nil)) (.nil)) (.cons (.iff (.cmp .eq (.var 2) (.cI 0)) (.cons (.ret (.cmp .eq (.var 3) (.idx (.lst (.cons (.cS "0") (.cons (.cS "-0") (.nil)))) (.var 1)))) (.nil)) (.nil)) (.cons (.asg (.one 5) (.call 58 (.cons (.var 3) (.nil)))) (.cons (.iff (.or (.cmp .eq (.idx (.var 5) (.cI 0)) (.cI 0)) (.cmp .ne (.var 3) (.call 55 (.cons (.var 1) (.cons (.idx (.var 5) (.cI 0)) (.cons (.idx (.var 5) (.cI 1)) (.nil))))))) (.cons (.ret (.cB false)) (.nil)) (.nil)) (.cons (.ret (.call 54 (.cons (.var 0) (.cons (.var 2) (.cons (.idx (.var 5) (.cI 0)) (.cons (.idx (.var 5) (.cI 1)) (.nil))))))) (.nil)))))))), false⟩
/-! 61: _law_size_for(_law_cell, _law_many); slots 0 _law_cell, 1 _law_many, 2 _law_most -/
def fn61 : FI := ⟨2, 3, .cons (.asg (.one 2) (.cI 112)) (.cons (.iff (.cmp .gt (.var 1) (.cI 4)) (.cons (.asg (.one 2) (.cI 23)) (.nil)) (.nil)) (.cons (.iff (.cmp .gt (.var 1) (.cI 12)) (.cons (.asg (.one 2) (.cI 10)) (.nil)) (.nil)) (.cons (.iff (.cmp .gt (.var 1) (.cI 24)) (.cons (.asg (.one 2) (.cI 4)) (.nil)) (.nil)) (.cons (.ret (.tup (.cons (.bin .add (.cI 2) (.bin .mod (.var 0) (.cI 14))) (.cons (.bin .add (.cI 1) (.bin .mod (.bin .fdv (.var 0) (.cI 14)) (.var 2))) (.nil))))) (.nil))))), false⟩
/-! 62: law(_law_script); slots 0 _law_script, 1 _law_some, 2 _law_size, 3 _law_cell, 4 _law_made, 5 _law_text -/
def w62_0 : Ss := .cons (.asg (.one 4) (.call 56 (.cons (.var 2) (.cons (.var 3) (.nil))))) (.cons (.asg (.one 5) (.call 43 (.cons (.var 2) (.cons (.bin .add (.idx (.var 4) (.cI 1)) (.bin .shl (.idx (.var 4) (.cI 0)) (.bin .add (.idx (.var 2) (.cI 0)) (.idx (.var 2) (.cI 1))))) (.nil))))) (.cons (.iff (.not (.call 60 (.cons (.var 2) (.cons (.idx (.var 4) (.cI 0)) (.cons (.idx (.var 4) (.cI 1)) (.cons (.var 5) (.nil))))))) (.cons (.ret (.cB false)) (.nil)) (.nil)) (.cons (.iff (.not (.call 59 (.cons (.var 2) (.cons (.idx (.var 4) (.cI 0)) (.cons (.idx (.var 4) (.cI 1)) (.cons (.cS "even") (.cons (.var 5) (.nil)))))))) (.cons (.ret (.cB false)) (.nil)) (.nil)) (.cons (.iff (.not (.call 59 (.cons (.var 2) (.cons (.idx (.var 4) (.cI 0)) (.cons (.idx (.var 4) (.cI 1)) (.cons (.call 46 (.cons (.bin .mod (.bin .mul (.var 3) (.cI 48271)) (.cI 2147483647)) (.nil))) (.cons (.var 5) (.nil)))))))) (.cons (.ret (.cB false)) (.nil)) (.nil)) (.nil)))))
@[simp] theorem w62_0e (T : Tab) (C : Nat → List MV → HP → R MV) (e : EN) (h : HP) : exSs T C w62_0 e h = exSs T C (.cons (.asg (.one 4) (.call 56 (.cons (.var 2) (.cons (.var 3) (.nil))))) (.cons (.asg (.one 5) (.call 43 (.cons (.var 2) (.cons (.bin .add (.idx (.var 4) (.cI 1)) (.bin .shl (.idx (.var 4) (.cI 0)) (.bin .add (.idx (.var 2) (.cI 0)) (.idx (.var 2) (.cI 1))))) (.nil))))) (.cons (.iff (.not (.call 60 (.cons (.var 2) (.cons (.idx (.var 4) (.cI 0)) (.cons (.idx (.var 4) (.cI 1)) (.cons (.var 5) (.nil))))))) (.cons (.ret (.cB false)) (.nil)) (.nil)) (.cons (.iff (.not (.call 59 (.cons (.var 2) (.cons (.idx (.var 4) (.cI 0)) (.cons (.idx (.var 4) (.cI 1)) (.cons (.cS "even") (.cons (.var 5) (.nil)))))))) (.cons (.ret (.cB false)) (.nil)) (.nil)) (.cons (.iff (.not (.call 59 (.cons (.var 2) (.cons (.idx (.var 4) (.cI 0)) (.cons (.idx (.var 4) (.cI 1)) (.cons (.call 46 (.cons (.bin .mod (.bin .mul (.var 3) (.cI 48271)) (.cI 2147483647)) (.nil))) (.cons (.var 5) (.nil)))))))) (.cons (.ret (.cB false)) (.nil)) (.nil)) (.nil)))))) e h := rfl
def fn62 : FI := ⟨1, 6, .cons (.asg (.one 1) (.slc (.var 0) (.cI 1) (.cI 64))) (.cons (.asg (.one 2) (.call 61 (.cons (.call 44 (.cons (.var 0) (.cons (.cI 0) (.nil)))) (.cons (.bi .len (.cons (.var 1) (.nil))) (.nil))))) (.cons (.fr (.one 3) (.seq (.var 1)) w62_0) (.cons (.ret (.cB true)) (.nil)))), false⟩
def d0 : FD := ⟨("width", none), "width", "width", ["size"], top 8, fn0⟩
def d1 : FD := ⟨("bias", none), "bias", "bias", ["size"], top 9, fn1⟩
def d2 : FD := ⟨("low", none), "low", "low", ["size"], top 10, fn2⟩
def d3 : FD := ⟨("sign_bit", none), "sign_bit", "sign_bit", ["size"], top 11, fn3⟩
def d4 : FD := ⟨("endless", none), "endless", "endless", ["size"], top 12, fn4⟩
def d5 : FD := ⟨("no_number", none), "no_number", "no_number", ["size"], top 13, fn5⟩
def d6 : FD := ⟨("parted", none), "parted", "parted", ["size", "bits", "sign", "code", "field", "figures"], top 15, fn6⟩
def d7 : FD := ⟨("kind", none), "kind", "kind", ["size", "bits", "sign", "field", "figures"], top 16, fn7⟩
def d8 : FD := ⟨("worth", none), "worth", "worth", ["size", "bits", "sign", "field", "figures"], top 17, fn8⟩
def d9 : FD := ⟨("fraction", none), "fraction", "fraction", ["size", "bits", "sign", "whole", "power"], top 18, fn9⟩
def d10 : FD := ⟨("Way", some "grows"), "grows", "Way.grows", ["self", "sign", "odd", "rest"], inClass (top 23) 0, fn10⟩
def d11 : FD := ⟨("Way", some "bursts"), "bursts", "Way.bursts", ["self", "sign"], inClass (top 23) 1, fn11⟩
def d12 : FD := ⟨("Nearest", some "grows"), "grows", "Nearest.grows", ["self", "sign", "odd", "rest"], inClass (top 24) 0, fn12⟩
def d13 : FD := ⟨("Nearest", some "grows_midway"), "grows_midway", "Nearest.grows_midway", ["self", "odd"], inClass (top 24) 1, fn13⟩
def d14 : FD := ⟨("Nearest", some "bursts"), "bursts", "Nearest.bursts", ["self", "sign"], inClass (top 24) 2, fn14⟩
def d15 : FD := ⟨("NearestAway", some "grows_midway"), "grows_midway", "NearestAway.grows_midway", ["self", "odd"], inClass (top 25) 0, fn15⟩
def d16 : FD := ⟨("Outward", some "__init__"), "__init__", "Outward.__init__", ["self", "sign"], inClass (top 26) 0, fn16⟩
def d17 : FD := ⟨("Outward", some "grows"), "grows", "Outward.grows", ["self", "sign", "odd", "rest"], inClass (top 26) 1, fn17⟩
def d18 : FD := ⟨("Outward", some "bursts"), "bursts", "Outward.bursts", ["self", "sign"], inClass (top 26) 2, fn18⟩
def d19 : FD := ⟨("way_of", none), "way_of", "way_of", ["name"], top 27, fn19⟩
def d20 : FD := ⟨("asked_fraction", none), "asked_fraction", "asked_fraction", ["top", "bottom"], top 29, fn20⟩
def d21 : FD := ⟨("ahead", none), "ahead", "ahead", ["top", "bottom", "power", "tall", "wide"], top 30, fn21⟩
def d22 : FD := ⟨("scaled_cutting", none), "scaled", "scaled", ["top", "bottom", "power"], top 31, fn22⟩
def d23 : FD := ⟨("rest_of", none), "rest_of", "rest_of", ["left", "half"], top 33, fn23⟩
def d24 : FD := ⟨("cut", none), "cut", "cut", ["size", "top", "bottom", "power", "tall", "wide", "whole", "left"], top 34, fn24⟩
def d25 : FD := ⟨("settled", none), "settled", "settled", ["size", "way", "sign", "whole", "power", "rest", "rule", "first", "code", "flags"], top 36, fn25⟩
def d26 : FD := ⟨("rounded", none), "rounded", "rounded", ["size", "way", "sign", "top", "bottom", "whole", "power", "rest"], top 37, fn26⟩
def d27 : FD := ⟨("ten_to", none), "ten_to", "ten_to", ["number", "made", "factor"], top 41, fn27⟩
def d28 : FD := ⟨("all_figures", none), "all_figures", "all_figures", ["text", "sign"], top 42, fn28⟩
def d29 : FD := ⟨("bare", none), "bare", "bare", ["line"], top 43, fn29⟩
def d30 : FD := ⟨("apart_sign", none), "apart_sign", "apart_sign", ["text"], top 44, fn30⟩
def d31 : FD := ⟨("power_of", none), "power_of", "power_of", ["text", "pair"], top 45, fn31⟩
def d32 : FD := ⟨("spelled", none), "spelled", "spelled", ["line", "pair", "parts", "power", "point"], top 46, fn32⟩
def d33 : FD := ⟨("read", none), "read", "read", ["size", "way", "line", "pair", "found"], top 47, fn33⟩
def d34 : FD := ⟨("reads_back", none), "reads_back", "reads_back", ["size", "bits", "figures", "place", "sign"], top 49, fn34⟩
def d35 : FD := ⟨("scaled_writing", none), "scaled", "scaled", ["top", "bottom", "place"], top 50, fn35⟩
def d36 : FD := ⟨("reaches", none), "reaches", "reaches", ["top", "bottom", "place", "pair"], top 52, fn36⟩
def d37 : FD := ⟨("decade", none), "decade", "decade", ["top", "bottom", "place"], top 53, fn37⟩
def d38 : FD := ⟨("better", none), "better", "better", ["lower", "pair", "lean"], top 54, fn38⟩
def d39 : FD := ⟨("figures_at", none), "figures_at", "figures_at", ["size", "bits", "pair", "place", "lower", "under", "over"], top 55, fn39⟩
def d40 : FD := ⟨("shortest", none), "shortest", "shortest", ["size", "bits", "found", "place", "figures", "parts"], top 56, fn40⟩
def d41 : FD := ⟨("powered", none), "powered", "powered", ["digits", "at", "text"], top 57, fn41⟩
def d42 : FD := ⟨("laid", none), "laid", "laid", ["sign", "figures", "place", "head", "digits", "at"], top 58, fn42⟩
def d43 : FD := ⟨("shown", none), "shown", "shown", ["size", "bits", "sort", "found"], top 59, fn43⟩
def d44 : FD := ⟨("_law_cell_at", none), "_law_cell_at", "_law_cell_at", ["_law_script", "_law_k"], top 61, fn44⟩
def d45 : FD := ⟨("_law_whole", none), "_law_whole", "_law_whole", ["_law_found"], top 62, fn45⟩
def d46 : FD := ⟨("_law_way_by", none), "_law_way_by", "_law_way_by", ["_law_cell"], top 63, fn46⟩
def d47 : FD := ⟨("_law_code_by", none), "_law_code_by", "_law_code_by", ["_law_size", "_law_cell", "_law_last", "_law_way", "_law_rest", "_law_field"], top 64, fn47⟩
def d48 : FD := ⟨("_law_value", none), "_law_value", "_law_value", ["_law_size", "_law_code", "_law_field"], top 65, fn48⟩
def d49 : FD := ⟨("_law_near", none), "_law_near", "_law_near", ["_law_way", "_law_outward", "_law_lean", "_law_even"], top 66, fn49⟩
def d50 : FD := ⟨("_law_far", none), "_law_far", "_law_far", ["_law_way", "_law_outward", "_law_lean", "_law_even"], top 67, fn50⟩
def d51 : FD := ⟨("_law_fair", none), "_law_fair", "_law_fair", ["_law_size", "_law_way", "_law_sign", "_law_tall", "_law_bottom", "_law_found", "_law_code", "_law_last", "_law_here", "_law_outward", "_law_due", "_law_before", "_law_beyond"], top 68, fn51⟩
def d52 : FD := ⟨("_law_power", none), "_law_power", "_law_power", ["_law_n", "_law_half"], top 69, fn52⟩
def d53 : FD := ⟨("_law_within", none), "_law_within", "_law_within", ["_law_ends", "_law_even", "_law_point"], top 70, fn53⟩
def d54 : FD := ⟨("_law_is_best", none), "_law_is_best", "_law_is_best", ["_law_size", "_law_code", "_law_figures", "_law_place", "_law_steps", "_law_unit", "_law_scale", "_law_even", "_law_here", "_law_before", "_law_beyond", "_law_ends", "_law_point", "_law_under", "_law_other", "_law_lean", "_law_nearer"], top 71, fn54⟩
def d55 : FD := ⟨("_law_layout", none), "_law_layout", "_law_layout", ["_law_sign", "_law_figures", "_law_place", "_law_head", "_law_digits", "_law_at", "_law_unit"], top 72, fn55⟩
def d56 : FD := ⟨("_law_bits_by", none), "_law_bits_by", "_law_bits_by", ["_law_size", "_law_cell", "_law_last", "_law_rest", "_law_code"], top 73, fn56⟩
def d57 : FD := ⟨("_law_count_of", none), "_law_count_of", "_law_count_of", ["_law_text", "_law_sign"], top 74, fn57⟩
def d58 : FD := ⟨("_law_spelling_of", none), "_law_spelling_of", "_law_spelling_of", ["_law_text", "_law_body", "_law_parts", "_law_point", "_law_figures", "_law_number", "_law_place"], top 75, fn58⟩
def d59 : FD := ⟨("_law_read_alike", none), "_law_read_alike", "_law_read_alike", ["_law_size", "_law_sign", "_law_code", "_law_way", "_law_text", "_law_found", "_law_last", "_law_due", "_law_spelling", "_law_steps"], top 76, fn59⟩
def d60 : FD := ⟨("_law_shown_well", none), "_law_shown_well", "_law_shown_well", ["_law_size", "_law_sign", "_law_code", "_law_text", "_law_last", "_law_spelling"], top 77, fn60⟩
def d61 : FD := ⟨("_law_size_for", none), "_law_size_for", "_law_size_for", ["_law_cell", "_law_many", "_law_most"], top 78, fn61⟩
def d62 : FD := ⟨("law", none), "law", "law", ["_law_script", "_law_some", "_law_size", "_law_cell", "_law_made", "_law_text"], top 79, fn62⟩
def mtl : List (Nat × PySem.Str × Nat) := [(6, "bursts", 11), (6, "grows", 10), (7, "bursts", 14), (7, "grows", 12), (7, "grows_midway", 13), (8, "bursts", 14), (8, "grows", 12), (8, "grows_midway", 15), (9, "bursts", 18), (9, "grows", 17)]
def inl : List (Nat × Nat) := [(9, 16)]
def tab : Tab := mkT [true, true, true, true, true, true, false, false, false, false] [false, true, true, true, true, true, false, false, false, false] [[true, false, false, false, false, false, false, false, false, false], [true, true, false, false, false, false, false, false, false, false], [true, false, true, false, false, false, false, false, false, false], [true, false, false, true, false, false, false, false, false, false], [true, false, false, false, true, false, false, false, false, false], [true, false, false, false, false, true, false, false, false, false], [false, false, false, false, false, false, true, false, false, false], [false, false, false, false, false, false, true, true, false, false], [false, false, false, false, false, false, true, true, true, false], [false, false, false, false, false, false, true, false, false, true]] [false, false, false, false, false, false, true, true, true, true] [false, false, false, false, false, false, true, true, true, false] [[], [], [], [], [], [], [], [], [], ["outward_sign"]] mtl inl
def p : PD := { mts := mtl, inis := inl, fds := [d0, d1, d2, d3, d4, d5, d6, d7, d8, d9, d10, d11, d12, d13, d14, d15, d16, d17, d18, d19, d20, d21, d22, d23, d24, d25, d26, d27, d28, d29, d30, d31, d32, d33, d34, d35, d36, d37, d38, d39, d40, d41, d42, d43, d44, d45, d46, d47, d48, d49, d50, d51, d52, d53, d54, d55, d56, d57, d58, d59, d60, d61, d62], cls := ["MillError", "NoBits", "NotFinite", "NoWay", "NoFraction", "NoText", "Way", "Nearest", "NearestAway", "Outward"], free := ["abs", "bool", "divmod", "int", "isinstance", "len", "max", "str", "tuple"], gI := [("GREAT", 4), ("INEXACT", 1), ("LONGEST", 400), ("SMALL", 2)], gS := [("FIGURES", "0123456789")], T := tab }
theorem okp : p.fds.all (fun d => d.ok p) = true := by decide +kernel
theorem inc : p.inCls := mkT_in rfl rfl
theorem tbs : p.tabs := mkT_tabs rfl rfl
abbrev Rw : PySem.W.OpenRow := PySem.W.OpenLaw.row PySem.Challenge.rw_roundmill_k57_whole_shown_and_read
def ob (s : PySem.W.SharedT) : He.AlD := p.obsG 4 (HandSHeadRun.getT s)
theorem ob_eq (s : PySem.W.SharedT) : ob s = (p.hook 4).obs s.abs := PD.obsG_eq (HandSHeadRun.getT_eq s)
def nm0 : List PySem.Str := ["MillError", "NoBits", "NotFinite", "NoWay", "NoFraction", "NoText", "width", "bias", "low", "sign_bit", "endless", "no_number", "parted", "kind", "worth", "fraction", "INEXACT", "SMALL", "GREAT", "Way", "Nearest", "NearestAway", "Outward", "way_of", "asked_fraction", "ahead", "scaled", "scaled_cutting", "rest_of", "cut"]
def nm1 : List PySem.Str := ["settled", "rounded", "FIGURES", "LONGEST", "ten_to", "all_figures", "bare", "apart_sign", "power_of", "spelled", "read", "reads_back", "scaled_writing", "reaches", "decade", "better", "figures_at", "shortest", "powered", "laid", "shown", "_law_cell_at", "_law_whole", "_law_way_by", "_law_code_by", "_law_value", "_law_near", "_law_far", "_law_fair", "_law_power"]
def nm2 : List PySem.Str := ["_law_within", "_law_is_best", "_law_layout", "_law_bits_by", "_law_count_of", "_law_spelling_of", "_law_read_alike", "_law_shown_well", "_law_size_for"]
def names : List PySem.Str := nm0 ++ nm1 ++ nm2
theorem runH (w : World) : HandSHeadRun.RunEq Rw (PySem.W.view Rw.prog [79]) (p.hook 4) ob 13400 names w := by
  intro os
  kernel_rfl
end Pg

namespace Pg
open PySem L2 Rm
open PySem.Builtin.Int (intBits)
/-! powers of two: quotients and rests -/
theorem p2 (n : Nat) : (0 : Int) < 2 ^ n := Int.pow_pos (by decide)
theorem div_div (b : Int) (m n : Nat) : b / 2 ^ m / 2 ^ n = b / 2 ^ (m + n) := by
  rw [Int.ediv_ediv_of_nonneg (Int.le_of_lt (p2 m)), Int.pow_add]
theorem mod_split {b F W : Int} (hF : 0 < F) (hW : 0 < W) : b % (F * W) = F * (b / F % W) + b % F := by
  have e1 := Int.mul_ediv_add_emod b F
  have e2 := Int.mul_ediv_add_emod (b / F) W
  have r1 := Int.emod_nonneg b (Int.ne_of_gt hF)
  have r2 := Int.emod_lt_of_pos b hF
  have r3 := Int.emod_nonneg (b / F) (Int.ne_of_gt hW)
  have r4 := Int.emod_lt_of_pos (b / F) hW
  have h := (Int.ediv_emod_unique (a := b) (b := F * W) (r := F * (b / F % W) + b % F) (q := b / F / W) (Int.mul_pos hF hW)).mpr
  refine (h ⟨?_, ?_, ?_⟩).2
  · generalize b / F / W = q at *
    generalize b / F % W = r at *
    generalize b % F = t at *
    generalize b / F = u at *
    subst e2
    rw [← e1]
    grind
  · have := Int.mul_nonneg (Int.le_of_lt hF) r3; omega
  · have : F * (b / F % W) ≤ F * (W - 1) := Int.mul_le_mul_of_nonneg_left (by omega) (Int.le_of_lt hF)
    rw [Int.mul_sub] at this; omega
theorem mod_div_pow (b : Int) (w f : Nat) : b % 2 ^ (w + f) / 2 ^ f = b / 2 ^ f % 2 ^ w := by
  have e : (2 : Int) ^ (w + f) = 2 ^ f * 2 ^ w := by rw [Int.pow_add, Int.mul_comm]
  rw [e, mod_split (p2 f) (p2 w), Int.mul_add_ediv_left _ _ (Int.ne_of_gt (p2 f))]
  rw [Int.ediv_eq_zero_of_lt (Int.emod_nonneg _ (Int.ne_of_gt (p2 f))) (Int.emod_lt_of_pos _ (p2 f)), Int.add_zero]
theorem mod_mod_pow (b : Int) (w f : Nat) : b % 2 ^ (w + f) % 2 ^ f = b % 2 ^ f := by
  have e : (2 : Int) ^ (w + f) = 2 ^ f * 2 ^ w := by rw [Int.pow_add, Int.mul_comm]
  rw [e]
  exact Int.emod_emod_of_dvd b (Int.dvd_mul_right _ _)
theorem pow_le_div {b : Int} {n : Nat} (h : 2 ^ n ≤ b) : ¬ b / 2 ^ n = 0 := by
  have := (Int.le_ediv_iff_mul_le (c := 2 ^ n) (a := 1) (b := b) (p2 n)).mpr (by omega)
  omega
theorem div_lt_pow {b : Int} {m n : Nat} (h : b < 2 ^ (m + n)) : b / 2 ^ n < 2 ^ m := (Int.ediv_lt_iff_lt_mul (p2 n)).mpr (by rw [← Int.pow_add]; exact h)
theorem dn {b : Int} (n : Nat) (h : 0 ≤ b) : 0 ≤ b / 2 ^ n := Int.ediv_nonneg h (Int.le_of_lt (p2 n))
theorem mn (b : Int) (n : Nat) : 0 ≤ b % 2 ^ n ∧ b % 2 ^ n < 2 ^ n := ⟨Int.emod_nonneg _ (Int.ne_of_gt (p2 n)), Int.emod_lt_of_pos _ (p2 n)⟩
theorem pow_s (n : Nat) : (2 : Int) ^ (n + 1) = 2 * 2 ^ n := by rw [Int.pow_succ, Int.mul_comm]
@[simp] theorem eqM_t3 (h : HP) (a b c a' b' c' : Int) : eqM h (.tup [.int a, .int b, .int c]) (.tup [.int a', .int b', .int c']) = some (decide (a = a') && (decide (b = b') && decide (c = c'))) := by
  have (x y : Int) : (x == y) = decide (x = y) := rfl
  simp [eqM, flatD, lstD, toD, toDs, SeqAt.shaped, PyData.eqv, PyData.eqvAll, PyData.canLay0, PyData.canLayAll0, PyData.depth, PyData.depthAll, this]
end Pg

namespace Pg
open PySem L2 Rm
open PySem.Builtin.Int (intBits)
@[simp] theorem s_whole (n : Nat) (h : HP) (x : Int) : run p.T p.fs (n + 1) 45 [.int x] h = .ok (.bl true) h := by
  rw [run_eq (F := fn45) rfl rfl]; simp [fn45]
end Pg

namespace Pg
open PySem L2 Rm
open PySem.Builtin.Int (intBits)
def cellAt (ns : List Int) (k : Nat) : Int := ns.getD k 0
theorem cellAt_bits {ns : List Int} (hn : ∀ z ∈ ns, intBits z ≤ 1048576) (k : Nat) : intBits (cellAt ns k) ≤ 1048576 := by
  unfold cellAt
  rw [List.getD_eq_getElem?_getD]
  rcases Nat.lt_or_ge k ns.length with z | z
  · rw [List.getElem?_eq_getElem z]; exact hn _ (List.getElem_mem z)
  · rw [List.getElem?_eq_none z]; decide
theorem s_cellat {ns : List Int} {i : Int} {k : Nat} (hk : i = k) (n : Nat) (h : HP) : run p.T p.fs (n + 1) 44 [.lst (ns.map .int), .int i] h = .ok (.int (cellAt ns k)) h := by
  subst hk
  rw [run_eq (F := fn44) rfl rfl]
  by_cases z : k < ns.length
  · have a : atI (ns.map MV.int) (k : Int) = some (.int (cellAt ns k)) := by
      rw [atI_nat (k := k) rfl (by simpa using z)]
      simp [cellAt, z]
    have z' : (k : Int) < (ns.length : Int) := by omega
    simp [fn44, a, z']
  · have z' : ¬ (k : Int) < (ns.length : Int) := by omega
    have : cellAt ns k = 0 := by simp [cellAt, Nat.le_of_not_lt z]
    simp [fn44, z', this]
end Pg

namespace Pg
open PySem L2 Rm
open PySem.Builtin.Int (intBits)
section
variable (w f : Nat) (hw : w ≤ 20) (hf : f ≤ 200) (n : Nat) (h : HP)
include hw hf
theorem s_width : run p.T p.fs (n + 1) 0 [.tup [.int w, .int f]] h = .ok (.int (w + f + 1)) h := by
  rw [run_eq (F := fn0) rfl rfl]; simp [fn0]
theorem s_sign_bit : run p.T p.fs (n + 1) 3 [.tup [.int w, .int f]] h = .ok (.int (2 ^ (w + f))) h := by
  have s := shlB_one (b := (w : Int) + f) (by omega) (by omega)
  rw [run_eq (F := fn3) rfl rfl]; simp [fn3, s]
theorem s_parted {b : Int} (h0 : 0 ≤ b) (h1 : b < 2 ^ (w + f + 1)) : run p.T p.fs (n + 2) 6 [.tup [.int w, .int f], .int b] h = .ok (.tup [.int (b / 2 ^ (w + f)), .int (b / 2 ^ f % 2 ^ w), .int (b % 2 ^ f)]) h := by
  rw [run_eq (F := fn6) rfl rfl]
  have z : b / 2 ^ (w + f + 1) = 0 := Int.ediv_eq_zero_of_lt h0 h1
  have nn : 0 ≤ (w : Int) + f + 1 := by omega
  have ng : ¬ b < 0 := by omega
  have s := shlB_one (b := (f : Int)) (by omega) (by omega)
  have d1 := dvB_pow (a := b) (n := w + f) (by omega)
  have d2 := dvB_pow (a := b % 2 ^ (w + f)) (n := f) (by omega)
  simp [fn6, s_width w f hw hf, s_sign_bit w f hw hf, z, nn, ng, s, d1, d2, mod_div_pow, mod_mod_pow]
theorem s_parted_no {b : Int} (hb : b < 0 ∨ 2 ^ (w + f + 1) ≤ b) : run p.T p.fs (n + 2) 6 [.tup [.int w, .int f], .int b] h = .exc (1, []) h := by
  rw [run_eq (F := fn6) rfl rfl]
  have nn : 0 ≤ (w : Int) + f + 1 := by omega
  have r : p.T.rz 1 = true := rfl
  by_cases ng : b < 0
  · simp [fn6, ng, r]
  · have z : ¬ b / 2 ^ (w + f + 1) = 0 := pow_le_div (by omega)
    simp [fn6, s_width w f hw hf, nn, ng, z, r]
end
end Pg

namespace Pg
open PySem L2 Rm
open PySem.Builtin.Int (intBits)
def fdOf (w f : Nat) (b : Int) : Int := b / 2 ^ f % 2 ^ w
def fgOf (f : Nat) (b : Int) : Int := b % 2 ^ f
theorem fd_b (w f : Nat) (b : Int) : 0 ≤ fdOf w f b ∧ fdOf w f b < 2 ^ w := mn _ _
theorem fg_b (f : Nat) (b : Int) : 0 ≤ fgOf f b ∧ fgOf f b < 2 ^ f := mn _ _
end Pg

namespace Pg
open PySem L2 Rm
open PySem.Builtin.Int (intBits)
theorem eqM_lit (h : HP) {a b : Str} (r : Bool) (e : (PyData.strOk a && PyData.strOk b && (decide (a = b) == r)) = true) : eqM h (.str a) (.str b) = some r := by
  simp only [Bool.and_eq_true, beq_iff_eq] at e
  rw [eqM_ss h e.1.1 e.1.2, e.2]
@[simp] theorem kq_endless_endless (h : HP) : eqM h (.str "endless") (.str "endless") = some true := eqM_lit h true (by decide +kernel)
@[simp] theorem kq_endless_none (h : HP) : eqM h (.str "endless") (.str "none") = some false := eqM_lit h false (by decide +kernel)
@[simp] theorem kq_endless_plain (h : HP) : eqM h (.str "endless") (.str "plain") = some false := eqM_lit h false (by decide +kernel)
@[simp] theorem kq_endless_nought (h : HP) : eqM h (.str "endless") (.str "nought") = some false := eqM_lit h false (by decide +kernel)
@[simp] theorem kq_endless_faint (h : HP) : eqM h (.str "endless") (.str "faint") = some false := eqM_lit h false (by decide +kernel)
@[simp] theorem kq_none_endless (h : HP) : eqM h (.str "none") (.str "endless") = some false := eqM_lit h false (by decide +kernel)
@[simp] theorem kq_none_none (h : HP) : eqM h (.str "none") (.str "none") = some true := eqM_lit h true (by decide +kernel)
@[simp] theorem kq_none_plain (h : HP) : eqM h (.str "none") (.str "plain") = some false := eqM_lit h false (by decide +kernel)
@[simp] theorem kq_none_nought (h : HP) : eqM h (.str "none") (.str "nought") = some false := eqM_lit h false (by decide +kernel)
@[simp] theorem kq_none_faint (h : HP) : eqM h (.str "none") (.str "faint") = some false := eqM_lit h false (by decide +kernel)
@[simp] theorem kq_plain_endless (h : HP) : eqM h (.str "plain") (.str "endless") = some false := eqM_lit h false (by decide +kernel)
@[simp] theorem kq_plain_none (h : HP) : eqM h (.str "plain") (.str "none") = some false := eqM_lit h false (by decide +kernel)
@[simp] theorem kq_plain_plain (h : HP) : eqM h (.str "plain") (.str "plain") = some true := eqM_lit h true (by decide +kernel)
@[simp] theorem kq_plain_nought (h : HP) : eqM h (.str "plain") (.str "nought") = some false := eqM_lit h false (by decide +kernel)
@[simp] theorem kq_plain_faint (h : HP) : eqM h (.str "plain") (.str "faint") = some false := eqM_lit h false (by decide +kernel)
@[simp] theorem kq_nought_endless (h : HP) : eqM h (.str "nought") (.str "endless") = some false := eqM_lit h false (by decide +kernel)
@[simp] theorem kq_nought_none (h : HP) : eqM h (.str "nought") (.str "none") = some false := eqM_lit h false (by decide +kernel)
@[simp] theorem kq_nought_plain (h : HP) : eqM h (.str "nought") (.str "plain") = some false := eqM_lit h false (by decide +kernel)
@[simp] theorem kq_nought_nought (h : HP) : eqM h (.str "nought") (.str "nought") = some true := eqM_lit h true (by decide +kernel)
@[simp] theorem kq_nought_faint (h : HP) : eqM h (.str "nought") (.str "faint") = some false := eqM_lit h false (by decide +kernel)
@[simp] theorem kq_faint_endless (h : HP) : eqM h (.str "faint") (.str "endless") = some false := eqM_lit h false (by decide +kernel)
@[simp] theorem kq_faint_none (h : HP) : eqM h (.str "faint") (.str "none") = some false := eqM_lit h false (by decide +kernel)
@[simp] theorem kq_faint_plain (h : HP) : eqM h (.str "faint") (.str "plain") = some false := eqM_lit h false (by decide +kernel)
@[simp] theorem kq_faint_nought (h : HP) : eqM h (.str "faint") (.str "nought") = some false := eqM_lit h false (by decide +kernel)
@[simp] theorem kq_faint_faint (h : HP) : eqM h (.str "faint") (.str "faint") = some true := eqM_lit h true (by decide +kernel)
def kindS (w f : Nat) (b : Int) : Str := if fdOf w f b = 2 ^ w - 1 then (if fgOf f b = 0 then "endless" else "none") else if 0 < fdOf w f b then "plain" else if fgOf f b = 0 then "nought" else "faint"
theorem s_kind (w f : Nat) (hw : w ≤ 20) (hf : f ≤ 200) (n : Nat) (h : HP) {b : Int} (h0 : 0 ≤ b) (h1 : b < 2 ^ (w + f + 1)) : run p.T p.fs (n + 3) 7 [.tup [.int w, .int f], .int b] h = .ok (.str (kindS w f b)) h := by
  rw [run_eq (F := fn7) rfl rfl]
  have e := s_parted w f hw hf n h h0 h1
  have s1 := shlB_one (b := (w : Int)) (by omega) (by omega)
  have ef : b / 2 ^ f % 2 ^ w = fdOf w f b := rfl
  have eg : b % 2 ^ f = fgOf f b := rfl
  rw [ef, eg] at e
  unfold kindS
  by_cases c1 : fdOf w f b = 2 ^ w - 1
  · by_cases c2 : fgOf f b = 0
    · simp [fn7, e, s1, c1, c2]
    · simp [fn7, e, s1, c1, c2]
  · by_cases c3 : 0 < fdOf w f b
    · simp [fn7, e, s1, c1, c3]
    · by_cases c2 : fgOf f b = 0
      · simp [fn7, e, s1, c1, c2, c3]
      · simp [fn7, e, s1, c1, c2, c3]
theorem kindS_eq (h : HP) (w f : Nat) (b : Int) : eqM h (.str (kindS w f b)) (.str (kindS w f b)) = some true := by
  unfold kindS
  split
  · split <;> simp
  · split
    · simp
    · split <;> simp
end Pg

namespace Pg
open PySem L2 Rm
open PySem.Builtin.Int (intBits)
def loOf (w f : Nat) : Int := 1 - (2 ^ (w - 1) - 1) - f
theorem pw_b {w : Nat} (hw : w ≤ 20) : (0 : Int) < 2 ^ (w - 1) ∧ (2 : Int) ^ (w - 1) ≤ 1048576 := ⟨p2 _, by have := two_le_pow (show w - 1 ≤ 20 by omega); simpa using this⟩
theorem pw_w {w : Nat} (hw1 : 1 ≤ w) : (2 : Int) ^ w = 2 * 2 ^ (w - 1) := by rw [← pow_s, Nat.sub_add_cancel hw1]
theorem s_bias (w f : Nat) (hw1 : 1 ≤ w) (hw : w ≤ 20) (n : Nat) (h : HP) : run p.T p.fs (n + 1) 1 [.tup [.int w, .int f]] h = .ok (.int (2 ^ (w - 1) - 1)) h := by
  have s := shlB_one (b := (w : Int) - 1) (by omega) (by omega)
  rw [run_eq (F := fn1) rfl rfl]; simp [fn1, s]
theorem s_low (w f : Nat) (hw1 : 1 ≤ w) (hw : w ≤ 20) (n : Nat) (h : HP) : run p.T p.fs (n + 2) 2 [.tup [.int w, .int f]] h = .ok (.int (loOf w f)) h := by
  rw [run_eq (F := fn2) rfl rfl]; simp [fn2, s_bias w f hw1 hw, loOf]
end Pg

namespace Pg
open PySem L2 Rm
open PySem.Builtin.Int (intBits)
def whOf (w f : Nat) (b : Int) : Int := if fdOf w f b = 0 then fgOf f b else 2 ^ f + fgOf f b
def pwOf (w f : Nat) (b : Int) : Int := if fdOf w f b = 0 then loOf w f else loOf w f + fdOf w f b - 1
theorem or_top {r : Int} {k : Nat} (h0 : 0 ≤ r) (h1 : r < 2 ^ k) : Builtin.bitOr r (2 ^ k) = 2 ^ k + r := by
  rw [PyProof.Rows.bitOr_comm]
  have := or_lowC (q := 1) (by decide) h0 h1
  simpa using this
theorem s_worth (w f : Nat) (hw1 : 1 ≤ w) (hw : w ≤ 20) (hf : f ≤ 200) (n : Nat) (h : HP) {b : Int} (h0 : 0 ≤ b) (h1 : b < 2 ^ (w + f + 1)) (hx : fdOf w f b ≠ 2 ^ w - 1) :
    run p.T p.fs (n + 3) 8 [.tup [.int w, .int f], .int b] h = .ok (.tup [.int (b / 2 ^ (w + f)), .int (whOf w f b), .int (pwOf w f b)]) h := by
  rw [run_eq (F := fn8) rfl rfl]
  have e := s_parted w f hw hf n h h0 h1
  have s1 := shlB_one (b := (w : Int)) (by omega) (by omega)
  have s2 := shlB_one (b := (f : Int)) (by omega) (by omega)
  have ef : b / 2 ^ f % 2 ^ w = fdOf w f b := rfl
  have eg : b % 2 ^ f = fgOf f b := rfl
  rw [ef, eg] at e
  have o := or_top (fg_b f b).1 (fg_b f b).2
  unfold whOf pwOf
  by_cases c1 : fdOf w f b = 0
  · have c2 : ¬ (0 : Int) = 2 ^ w - 1 := by rw [← c1]; exact hx
    simp [fn8, e, s1, c1, c2, s_low w f hw1 hw]
  · simp [fn8, e, s1, s2, hx, c1, s_low w f hw1 hw, o]
theorem wh_b (w f : Nat) (b : Int) : 0 ≤ whOf w f b ∧ whOf w f b < 2 ^ (f + 1) := by
  have := fg_b f b
  have := p2 f
  rw [pow_s]
  unfold whOf
  split <;> omega
theorem pw_bd (w f : Nat) (b : Int) (hw1 : 1 ≤ w) (hw : w ≤ 20) (hf : f ≤ 200) : -2000000 ≤ pwOf w f b ∧ pwOf w f b ≤ 2000000 := by
  have := fd_b w f b
  have := pw_b hw
  have := pw_w hw1
  unfold pwOf loOf
  split <;> omega
end Pg

namespace Pg
open PySem L2 Rm
open PySem.Builtin.Int (intBits)
theorem s_fraction (w f : Nat) (hw1 : 1 ≤ w) (hw : w ≤ 20) (hf : f ≤ 200) (n : Nat) (h : HP) {b : Int} (h0 : 0 ≤ b) (h1 : b < 2 ^ (w + f + 1)) (hx : fdOf w f b ≠ 2 ^ w - 1) :
    run p.T p.fs (n + 4) 9 [.tup [.int w, .int f], .int b] h = .ok (.tup [.int (b / 2 ^ (w + f)), .int (whOf w f b * 2 ^ (pwOf w f b).toNat), .int (2 ^ (-pwOf w f b).toNat)]) h := by
  rw [run_eq (F := fn9) rfl rfl]
  have e := s_worth w f hw1 hw hf n h h0 h1 hx
  have b1 := pw_bd w f b hw1 hw hf
  have b2 := wh_b w f b
  by_cases c : pwOf w f b < 0
  · have s := shlB_one (b := -pwOf w f b) (by omega) (by omega)
    have z : (pwOf w f b).toNat = 0 := by omega
    simp [fn9, e, c, s, z]
  · have s := shlB_of (b := pwOf w f b) (ib_lt b2.1 b2.2) (by omega) (by omega)
    have z : (-pwOf w f b).toNat = 0 := by omega
    simp [fn9, e, c, s, z]
end Pg

namespace Pg
open PySem L2 Rm
open PySem.Builtin.Int (intBits)
theorem pwa {a b c : Nat} (h : a = b + c) : (2 : Int) ^ a = 2 ^ b * 2 ^ c := by rw [h, Int.pow_add]
theorem ib_hi {x : Int} (h : 0 ≤ x) : x < 2 ^ intBits x := by
  have := Int.ofNat_lt.mpr (intBits_le_iff.mp (Nat.le_refl (intBits x)))
  rw [Int.natCast_pow, show ((2 : Nat) : Int) = 2 from rfl] at this
  omega
theorem ib_lo {x : Int} (h : 0 < x) : 1 ≤ intBits x ∧ 2 ^ (intBits x - 1) ≤ x := by
  have h1 : 1 ≤ intBits x := by
    rcases Nat.eq_zero_or_pos (intBits x) with z | z
    · have := intBits_le_iff.mp (Nat.le_of_eq z); simp at this; omega
    · exact z
  refine ⟨h1, ?_⟩
  rcases Int.lt_or_le x (2 ^ (intBits x - 1)) with z | z
  · have := ib_lt (Int.le_of_lt h) z; omega
  · exact z
def scT (t p : Int) : Int := t * 2 ^ (-p).toNat
def scW (b p : Int) : Int := b * 2 ^ p.toNat
theorem s_scaled (n : Nat) (h : HP) {t b q : Int} (ht : intBits t ≤ 4000000) (hb : intBits b ≤ 4000000) (p0 : -5000000 ≤ q) (p1 : q ≤ 5000000) :
    run p.T p.fs (n + 1) 22 [.int t, .int b, .int q] h = .ok (.tup [.int (scT t q), .int (scW b q)]) h := by
  rw [run_eq (F := fn22) rfl rfl]
  unfold scT scW
  by_cases c : q < 0
  · have z : q.toNat = 0 := by omega
    have s := shlB_of (b := -q) ht (by omega) (by omega)
    simp [fn22, c, z, s]
  · have z : (-q).toNat = 0 := by omega
    have s := shlB_of (b := q) hb (by omega) (by omega)
    simp [fn22, c, z, s]
/-- both sides on one power -/
theorem sc_com {t b q : Int} {N : Nat} (hN : 0 ≤ (N : Int) + q) : ∃ k : Nat, t * 2 ^ N = scT t q * 2 ^ k ∧ b * 2 ^ ((N : Int) + q).toNat = scW b q * 2 ^ k := by
  refine ⟨N - (-q).toNat, ?_, ?_⟩
  · have e : (2 : Int) ^ N = 2 ^ (-q).toNat * 2 ^ (N - (-q).toNat) := pwa (by omega)
    unfold scT; rw [e, Int.mul_assoc]
  · have e : (2 : Int) ^ ((N : Int) + q).toNat = 2 ^ q.toNat * 2 ^ (N - (-q).toNat) := pwa (by omega)
    unfold scW; rw [e, Int.mul_assoc]
theorem sc_lt {t b q : Int} {N : Nat} (hN : 0 ≤ (N : Int) + q) : scT t q < scW b q ↔ t * 2 ^ N < b * 2 ^ ((N : Int) + q).toNat := by
  obtain ⟨k, e1, e2⟩ := sc_com (t := t) (b := b) hN
  rw [e1, e2]
  exact (Int.mul_lt_mul_right (p2 k)).symm
def ahd (t b : Int) : Int := if scT t ((intBits t : Int) - intBits b) < scW b ((intBits t : Int) - intBits b) then (intBits t : Int) - intBits b else (intBits t : Int) - intBits b + 1
theorem s_ahead (n : Nat) (h : HP) {t b : Int} (ht : intBits t ≤ 4000000) (hb : intBits b ≤ 4000000) : run p.T p.fs (n + 2) 21 [.int t, .int b] h = .ok (.int (ahd t b)) h := by
  rw [run_eq (F := fn21) rfl rfl]
  have s := s_scaled n h (q := (intBits t : Int) - intBits b) ht hb (by omega) (by omega)
  unfold ahd
  by_cases c : scT t ((intBits t : Int) - intBits b) < scW b ((intBits t : Int) - intBits b)
  · simp [fn21, s, c]
  · simp [fn21, s, c]
theorem ahd_spec {t b : Int} (ht : 0 < t) (hb : 0 < b) (N : Nat) (hN : 0 ≤ (N : Int) + ahd t b - 1) :
    t * 2 ^ N < b * 2 ^ ((N : Int) + ahd t b).toNat ∧ b * 2 ^ ((N : Int) + ahd t b - 1).toNat ≤ t * 2 ^ N := by
  have t1 := ib_hi (Int.le_of_lt ht)
  have b1 := ib_hi (Int.le_of_lt hb)
  obtain ⟨t2, t3⟩ := ib_lo ht
  obtain ⟨b2, b3⟩ := ib_lo hb
  by_cases c : scT t ((intBits t : Int) - intBits b) < scW b ((intBits t : Int) - intBits b)
  · have a : ahd t b = (intBits t : Int) - intBits b := if_pos c
    rw [a] at hN ⊢
    refine ⟨(sc_lt (by omega)).mp c, ?_⟩
    have h1 : b * 2 ^ ((N : Int) + ((intBits t : Int) - intBits b) - 1).toNat ≤ 2 ^ intBits b * 2 ^ ((N : Int) + ((intBits t : Int) - intBits b) - 1).toNat := Int.mul_le_mul_of_nonneg_right (Int.le_of_lt b1) (Int.le_of_lt (p2 _))
    have h2 : (2 : Int) ^ (intBits t - 1) * 2 ^ N ≤ t * 2 ^ N := Int.mul_le_mul_of_nonneg_right t3 (Int.le_of_lt (p2 _))
    rw [← Int.pow_add] at h1 h2
    have e : intBits b + ((N : Int) + ((intBits t : Int) - intBits b) - 1).toNat = intBits t - 1 + N := by omega
    rw [e] at h1
    omega
  · have a : ahd t b = (intBits t : Int) - intBits b + 1 := if_neg c
    rw [a] at hN ⊢
    have c' : ¬ t * 2 ^ N < b * 2 ^ ((N : Int) + ((intBits t : Int) - intBits b)).toNat := fun z => c ((sc_lt (by omega)).mpr z)
    have e0 : (N : Int) + ((intBits t : Int) - intBits b + 1) - 1 = (N : Int) + ((intBits t : Int) - intBits b) := by omega
    rw [e0]
    refine ⟨?_, by omega⟩
    have h1 : t * 2 ^ N < 2 ^ intBits t * 2 ^ N := Int.mul_lt_mul_of_pos_right t1 (p2 _)
    have h2 : (2 : Int) ^ (intBits b - 1) * 2 ^ ((N : Int) + ((intBits t : Int) - intBits b + 1)).toNat ≤ b * 2 ^ ((N : Int) + ((intBits t : Int) - intBits b + 1)).toNat := Int.mul_le_mul_of_nonneg_right b3 (Int.le_of_lt (p2 _))
    rw [← Int.pow_add] at h1 h2
    have e : intBits b - 1 + ((N : Int) + ((intBits t : Int) - intBits b + 1)).toNat = intBits t + N := by omega
    rw [e] at h2
    omega
def rs (d g : Int) : Int := if d = 0 then 0 else if 2 * d < g then 1 else if 2 * d = g then 2 else 3
theorem s_rest (n : Nat) (h : HP) (l g : Int) (h0 : 0 ≤ l) : run p.T p.fs (n + 1) 23 [.int (2 * l), .int g] h = .ok (.int (rs l g)) h := by
  rw [run_eq (F := fn23) rfl rfl]
  unfold rs
  by_cases c1 : l = 0
  · simp [fn23, c1]
  have c1' : ¬ 2 * l = 0 := by omega
  by_cases c2 : 2 * l < g
  · simp [fn23, c1, c1', c2]
  by_cases c3 : 2 * l = g
  · rw [← c3]; simp [fn23, c1, c1']
  · simp [fn23, c1, c1', c2, c3]
theorem rs_mul (l g : Int) (k : Nat) : rs (l * 2 ^ k) (g * 2 ^ k) = rs l g := by
  have pk := p2 k
  have e1 : (l * 2 ^ k = 0) = (l = 0) := propext ⟨fun z => (Int.mul_eq_zero.mp z).resolve_right (Int.ne_of_gt pk), fun z => by rw [z, Int.zero_mul]⟩
  have e2 : (2 * (l * 2 ^ k) < g * 2 ^ k) = (2 * l < g) := by rw [← Int.mul_assoc]; exact propext (Int.mul_lt_mul_right pk)
  have e3 : (2 * (l * 2 ^ k) = g * 2 ^ k) = (2 * l = g) := by rw [← Int.mul_assoc]; exact propext (Int.mul_eq_mul_right_iff (Int.ne_of_gt pk))
  unfold rs
  simp only [e1, e2, e3]
theorem s_asked (n : Nat) (h : HP) {t b : Int} (ht : 0 ≤ t) (hb : 1 ≤ b) : run p.T p.fs (n + 1) 20 [.int t, .int b] h = .ok .non h := by
  rw [run_eq (F := fn20) rfl rfl]
  have c1 : ¬ t < 0 := by omega
  have c2 : ¬ b < 1 := by omega
  simp [fn20, c1, c2]
theorem s_asked_no (n : Nat) (h : HP) {t b : Int} (ht : t < 0 ∨ b < 1) : run p.T p.fs (n + 1) 20 [.int t, .int b] h = .exc (4, []) h := by
  rw [run_eq (F := fn20) rfl rfl]
  have r : p.T.rz 4 = true := rfl
  by_cases c1 : t < 0
  · simp [fn20, c1, r]
  · have c2 : b < 1 := by omega
    simp [fn20, c1, c2, r]
/-- the value in units of the least power -/
def stp0 (w f : Nat) : Nat := (-loOf w f).toNat
theorem lo_stp {w f : Nat} (hw : 2 ≤ w) : loOf w f = -(stp0 w f : Int) := by
  have := two_le_pow (show 1 ≤ w - 1 by omega)
  have e : (2 : Int) ^ 1 = 2 := rfl
  unfold stp0 loOf; omega
theorem stp_b {w f : Nat} (hw : w ≤ 20) (hf : f ≤ 200) : stp0 w f ≤ 2000000 := by
  have := pw_b hw
  unfold stp0 loOf; omega
end Pg

namespace Pg
open PySem L2 Rm
open PySem.Builtin.Int (intBits)
structure CutP (w f : Nat) (t b : Int) (u : Int) (s : Nat) (r : Int) : Prop where
  u0 : 0 ≤ u
  u1 : u < 2 ^ (f + 1)
  us : s = 0 ∨ 2 ^ f ≤ u
  sb : s ≤ 7000000
  lo : u * (b * 2 ^ s) ≤ t * 2 ^ stp0 w f
  hi : t * 2 ^ stp0 w f < (u + 1) * (b * 2 ^ s)
  rst : r = rs (t * 2 ^ stp0 w f - u * (b * 2 ^ s)) (b * 2 ^ s)
end Pg

namespace Pg
open PySem L2 Rm
open PySem.Builtin.Int (intBits)
theorem s_cut (w f : Nat) (hw2 : 2 ≤ w) (hw : w ≤ 20) (hf : f ≤ 200) (n : Nat) (h : HP) {t b : Int} (ht : 0 ≤ t) (hb : 1 ≤ b) (tb : intBits t ≤ 1000000) (bb : intBits b ≤ 1000000) :
    ∃ (u : Int) (s : Nat) (r : Int), CutP w f t b u s r ∧ run p.T p.fs (n + 4) 24 [.tup [.int w, .int f], .int t, .int b] h = .ok (.tup [.int u, .int (loOf w f + s), .int r]) h := by
  rw [run_eq (F := fn24) rfl rfl]
  have as := s_asked (n + 2) h ht hb
  have sl := s_low w f (by omega) hw (n + 1) h
  have lst := lo_stp (f := f) hw2
  have sb := stp_b hw hf
  by_cases h0 : t = 0
  · subst h0
    refine ⟨0, 0, 0, ⟨by omega, p2 _, .inl rfl, by omega, by simp, by simp; omega, by simp [rs]⟩, ?_⟩
    simp [fn24, as, sl]
  have sa := s_ahead (n + 1) h (t := t) (b := b) (by omega) (by omega)
  have ab : -3000000 ≤ ahd t b ∧ ahd t b ≤ 3000000 := by unfold ahd; split <;> omega
  generalize hA : ahd t b = A at *
  have key : ∀ q : Int, q = (if A - f - 1 > loOf w f then A - f - 1 else loOf w f) → ∃ (u : Int) (s : Nat) (r : Int), CutP w f t b u s r ∧ q = loOf w f + s ∧ u = scT t q / scW b q ∧ r = rs (scT t q % scW b q) (scW b q) ∧ 0 ≤ scT t q % scW b q ∧ dvB (scT t q) (scW b q) = true := by
    intro q hq
    have q0 : loOf w f ≤ q := by split at hq <;> omega
    have q1 : A - f - 1 ≤ q := by split at hq <;> omega
    obtain ⟨s, hs⟩ : ∃ s : Nat, q = loOf w f + s := ⟨(q - loOf w f).toNat, by omega⟩
    obtain ⟨k, e1, e2⟩ := sc_com (t := t) (b := b) (q := q) (N := stp0 w f) (by omega)
    have e3 : ((stp0 w f : Int) + q).toNat = s := by omega
    rw [e3] at e2
    have pk := p2 k
    have wp : 0 < scW b q := Int.mul_pos (by omega) (p2 _)
    have gp : 0 < b * 2 ^ s := Int.mul_pos (by omega) (p2 _)
    have du := Int.mul_ediv_add_emod (scT t q) (scW b q)
    have r0 := Int.emod_nonneg (scT t q) (Int.ne_of_gt wp)
    have r1 := Int.emod_lt_of_pos (scT t q) wp
    have tp : 0 ≤ scT t q := Int.mul_nonneg ht (Int.le_of_lt (p2 _))
    have u0 : 0 ≤ scT t q / scW b q := Int.ediv_nonneg tp (Int.le_of_lt wp)
    generalize hu : scT t q / scW b q = u at *
    generalize hl : scT t q % scW b q = l at *
    -- the rest
    have eV : t * 2 ^ stp0 w f = u * (b * 2 ^ s) + l * 2 ^ k := by
      rw [e1, e2, ← du]; grind
    have eG : b * 2 ^ s = scW b q * 2 ^ k := e2
    have l1 : l * 2 ^ k < b * 2 ^ s := by rw [eG]; exact Int.mul_lt_mul_of_pos_right r1 pk
    have l0 : 0 ≤ l * 2 ^ k := Int.mul_nonneg r0 (Int.le_of_lt pk)
    -- the bounds of u
    have M := ahd_spec (t := t) (b := b) (by omega) (by omega) (stp0 w f + 3000001) (by omega)
    rw [hA] at M
    have m1 : t * 2 ^ (stp0 w f + 3000001) = t * 2 ^ stp0 w f * 2 ^ 3000001 := by rw [Int.mul_assoc, ← pwa rfl]
    rw [m1] at M
    have u1 : u < 2 ^ (f + 1) := by
      rcases Int.lt_or_le u (2 ^ (f + 1)) with z | z
      · exact z
      · exfalso
        have a1 : 2 ^ (f + 1) * (b * 2 ^ s) ≤ u * (b * 2 ^ s) := Int.mul_le_mul_of_nonneg_right z (Int.le_of_lt gp)
        have a2 : 2 ^ (f + 1) * (b * 2 ^ s) * 2 ^ 3000001 ≤ t * 2 ^ stp0 w f * 2 ^ 3000001 := Int.mul_le_mul_of_nonneg_right (by omega) (Int.le_of_lt (p2 _))
        have a3 : 2 ^ (f + 1) * (b * 2 ^ s) * 2 ^ 3000001 = b * 2 ^ (f + 1 + s + 3000001) := by
          rw [Int.pow_add 2 (f + 1 + s), Int.pow_add 2 (f + 1)]; generalize (2 : Int) ^ 3000001 = y; grind
        have a4 : b * 2 ^ (((stp0 w f + 3000001 : Nat) : Int) + A).toNat ≤ b * 2 ^ (f + 1 + s + 3000001) := Int.mul_le_mul_of_nonneg_left (two_le_pow (by omega)) (by omega)
        omega
    have us : s = 0 ∨ 2 ^ f ≤ u := by
      by_cases z : s = 0
      · exact .inl z
      · right
        have qq : q = A - f - 1 := by split at hq <;> omega
        rcases Int.lt_or_le u (2 ^ f) with y | y
        · exfalso
          have a1 : (u + 1) * (b * 2 ^ s) ≤ 2 ^ f * (b * 2 ^ s) := Int.mul_le_mul_of_nonneg_right (by omega) (Int.le_of_lt gp)
          have a0 : t * 2 ^ stp0 w f < 2 ^ f * (b * 2 ^ s) := by rw [Int.add_mul] at a1; omega
          have a2 : t * 2 ^ stp0 w f * 2 ^ 3000001 < 2 ^ f * (b * 2 ^ s) * 2 ^ 3000001 := Int.mul_lt_mul_of_pos_right a0 (p2 _)
          have a3 : 2 ^ f * (b * 2 ^ s) * 2 ^ 3000001 = b * 2 ^ (f + s + 3000001) := by
            rw [Int.pow_add 2 (f + s), Int.pow_add 2 f]; generalize (2 : Int) ^ 3000001 = y; grind
          have a4 : (((stp0 w f + 3000001 : Nat) : Int) + A - 1).toNat = f + s + 3000001 := by omega
          rw [a4] at M
          omega
        · exact y
    have dv : dvB (scT t q) (scW b q) = true := by
      refine dvB_near wp ?_
      have w1 := (ib_lo wp)
      have w2 := ib_hi (Int.le_of_lt wp)
      have : scT t q < 2 ^ (f + 1 + intBits (scW b q)) := by
        rw [Int.pow_add]
        have a1 : scW b q * u + l < scW b q * (u + 1) := by rw [Int.mul_add]; omega
        have a2 : scW b q * (u + 1) ≤ scW b q * 2 ^ (f + 1) := Int.mul_le_mul_of_nonneg_left (by omega) (Int.le_of_lt wp)
        have a3 : scW b q * 2 ^ (f + 1) ≤ 2 ^ intBits (scW b q) * 2 ^ (f + 1) := Int.mul_le_mul_of_nonneg_right (Int.le_of_lt w2) (Int.le_of_lt (p2 _))
        rw [Int.mul_comm (2 ^ intBits (scW b q))] at a3
        omega
      have := ib_lt tp this
      omega
    refine ⟨u, s, rs l (scW b q), ⟨u0, u1, us, by split at hq <;> omega, by omega, by rw [Int.add_mul]; omega, ?_⟩, hs, rfl, rfl, r0, dv⟩
    have : t * 2 ^ stp0 w f - u * (b * 2 ^ s) = l * 2 ^ k := by omega
    rw [this, eG, rs_mul]
  obtain ⟨u, s, r, C, hs, hu, hr, l0, dv⟩ := key _ rfl
  refine ⟨u, s, r, C, ?_⟩
  generalize hq : (if A - f - 1 > loOf w f then A - f - 1 else loOf w f) = q at *
  have ss := s_scaled (n + 2) h (t := t) (b := b) (q := q) (by omega) (by omega) (by have := C.sb; omega) (by have := C.sb; omega)
  have sr := s_rest (n + 2) h (scT t q % scW b q) (scW b q) l0
  simp only [gt_iff_lt] at hq
  have m2 : mulB 2 (scT t q % scW b q) = true := mulB_left (by decide)
  rw [← hs, hu, hr]
  simp [fn24, as, sl, sa, h0, hq, ss, dv, m2, sr]
end Pg

namespace Pg
open PySem L2 Rm
open PySem.Builtin.Int (intBits)
/-! values -/
def lv (f : Nat) (c : Int) : Int := if c / 2 ^ f = 0 then c else (2 ^ f + c % 2 ^ f) * 2 ^ (c / 2 ^ f - 1).toNat
theorem lv_zero (f : Nat) : lv f 0 = 0 := by simp [lv]
theorem pow_lt_mul {a k : Nat} {x y : Int} (hx : x < 2 ^ (k + 1)) (hy : 2 ^ k ≤ y) (m : Nat) (hm : a + 1 ≤ m) : x * 2 ^ a < y * 2 ^ m := by
  have h1 : x * 2 ^ a < 2 ^ (k + 1) * 2 ^ a := Int.mul_lt_mul_of_pos_right hx (p2 a)
  have h2 : (2 : Int) ^ (k + 1) * 2 ^ a = 2 ^ k * 2 ^ (a + 1) := by rw [← Int.pow_add, ← Int.pow_add]; congr 1; omega
  have h3 : (2 : Int) ^ k * 2 ^ (a + 1) ≤ 2 ^ k * 2 ^ m := Int.mul_le_mul_of_nonneg_left (two_le_pow hm) (Int.le_of_lt (p2 k))
  have h4 : (2 : Int) ^ k * 2 ^ m ≤ y * 2 ^ m := Int.mul_le_mul_of_nonneg_right hy (Int.le_of_lt (p2 m))
  omega
theorem lv_lt {f : Nat} {a b : Int} (ha : 0 ≤ a) (hab : a < b) : lv f a < lv f b := by
  have hF := p2 f
  have qa := dn f ha
  have qb := dn f (show 0 ≤ b by omega)
  have sa := Int.mul_ediv_add_emod a (2 ^ f)
  have sb := Int.mul_ediv_add_emod b (2 ^ f)
  have ra := mn a f
  have rb := mn b f
  have qab : a / 2 ^ f ≤ b / 2 ^ f := Int.ediv_le_ediv hF (Int.le_of_lt hab)
  have eF := pow_s f
  unfold lv
  by_cases c1 : b / 2 ^ f = 0
  · have c2 : a / 2 ^ f = 0 := by omega
    simp only [c1, c2, if_true]; exact hab
  · by_cases c2 : a / 2 ^ f = 0
    · simp only [c1, c2, if_true, if_false]
      rw [c2] at sa
      have : (2 : Int) ^ f * 1 ≤ (2 ^ f + b % 2 ^ f) * 2 ^ (b / 2 ^ f - 1).toNat := Int.mul_le_mul (by omega) (by have := p2 (b / 2 ^ f - 1).toNat; omega) (by omega) (by omega)
      omega
    · simp only [c1, c2, if_false]
      by_cases c3 : a / 2 ^ f = b / 2 ^ f
      · rw [c3] at sa ⊢
        exact Int.mul_lt_mul_of_pos_right (by omega) (p2 _)
      · exact pow_lt_mul (k := f) (by omega) (by omega) _ (by omega)
theorem lv_le {f : Nat} {a b : Int} (ha : 0 ≤ a) (hab : a ≤ b) : lv f a ≤ lv f b := by
  rcases Int.lt_or_eq_of_le hab with z | z
  · exact Int.le_of_lt (lv_lt ha z)
  · rw [z]; exact Int.le_refl _
theorem lv_nn {f : Nat} {a : Int} (ha : 0 ≤ a) : 0 ≤ lv f a := by have := lv_le (f := f) (a := 0) (b := a) (by decide) ha; rw [lv_zero] at this; exact this
theorem lv_bits {w f : Nat} (hw : w ≤ 20) (hf : f ≤ 200) {c : Int} (h0 : 0 ≤ c) (h1 : c < 2 ^ (w + f)) : intBits (lv f c) ≤ 2000000 := by
  have q := div_lt_pow h1
  have q0 := dn f h0
  have w20 := two_le_pow hw
  unfold lv
  split
  · exact ib_mono (ib_lt h0 h1) (by omega)
  · have r := mn c f
    have eF := pow_s f
    have := intBits_mul_le (ib_lt (show 0 ≤ 2 ^ f + c % 2 ^ f by omega) (show 2 ^ f + c % 2 ^ f < 2 ^ (f + 1) by omega)) (ib_pow2 (c / 2 ^ f - 1).toNat)
    exact ib_mono this (by omega)
end Pg

namespace Pg
open PySem L2 Rm
open PySem.Builtin.Int (intBits)
theorem s_value (w f : Nat) (hw : w ≤ 20) (hf : f ≤ 200) (n : Nat) (h : HP) {c : Int} (h0 : 0 ≤ c) (h1 : c < 2 ^ (w + f)) : run p.T p.fs (n + 1) 48 [.tup [.int w, .int f], .int c] h = .ok (.int (lv f c)) h := by
  rw [run_eq (F := fn48) rfl rfl]
  have s1 := shlB_one (b := (f : Int)) (by omega) (by omega)
  have fn : (0 : Int) ≤ f := by omega
  have q := div_lt_pow h1
  have q0 := dn f h0
  have w20 := two_le_pow hw
  have r := mn c f
  have eF := pow_s f
  unfold lv
  by_cases z : c / 2 ^ f = 0
  · simp [fn48, fn, z]
  · have s2 : shlB (2 ^ f + c % 2 ^ f) (c / 2 ^ f - 1) = true := shlB_of (ib_lt (n := f + 1) (by omega) (by omega)) (by omega) (by omega)
    simp [fn48, fn, z, s1, s2]
end Pg

namespace Pg
open PySem L2 Rm
open PySem.Builtin.Int (intBits)
theorem lv_cut {f s : Nat} {u : Int} (u0 : 0 ≤ u) (u1 : u ≤ 2 ^ (f + 1)) (us : s = 0 ∨ 2 ^ f ≤ u) : lv f (s * 2 ^ f + u) = u * 2 ^ s := by
  have pf := p2 f
  have eF := pow_s f
  have hd : ∀ (k : Nat) (x : Int), 0 ≤ x → x < 2 ^ f → ((k : Int) * 2 ^ f + x) / 2 ^ f = k ∧ ((k : Int) * 2 ^ f + x) % 2 ^ f = x := by
    intro k x x0 x1
    exact (Int.ediv_emod_unique (p2 f)).mpr ⟨by rw [Int.mul_comm]; omega, x0, x1⟩
  unfold lv
  rcases Int.lt_or_le u (2 ^ f) with c | c
  · have s0 : s = 0 := us.resolve_right (by omega)
    subst s0
    have := (hd 0 u u0 c).1
    simp at this
    simp [this]
  · rcases Int.lt_or_eq_of_le u1 with d | d
    · obtain ⟨h1, h2⟩ := hd (s + 1) (u - 2 ^ f) (by omega) (by omega)
      have e : (s : Int) * 2 ^ f + u = ((s + 1 : Nat) : Int) * 2 ^ f + (u - 2 ^ f) := by rw [Int.natCast_add, Int.add_mul]; simp; omega
      rw [e, h1, h2, if_neg (by omega)]
      have e2 : (((s + 1 : Nat) : Int) - 1).toNat = s := by omega
      rw [e2]
      congr 1; omega
    · obtain ⟨h1, h2⟩ := hd (s + 2) 0 (by omega) pf
      have e : (s : Int) * 2 ^ f + u = ((s + 2 : Nat) : Int) * 2 ^ f + 0 := by rw [d, Int.natCast_add, Int.add_mul, eF]; simp
      rw [e, h1, h2, if_neg (by omega)]
      have e2 : (((s + 2 : Nat) : Int) - 1).toNat = s + 1 := by omega
      rw [e2, d, pow_s s, eF, Int.add_zero]
      grind
end Pg

namespace Pg
open PySem L2 Rm
open PySem.Builtin.Int (intBits)
/-! the code of a cut -/
/-- c is the code below the value, r what is left over -/
structure CodeP (w f : Nat) (t b : Int) (c : Int) (r : Int) : Prop where
  c0 : 0 ≤ c
  lo : lv f c * b ≤ t * 2 ^ stp0 w f
  hi : t * 2 ^ stp0 w f < lv f (c + 1) * b
  rst : r = rs (t * 2 ^ stp0 w f - lv f c * b) ((lv f (c + 1) - lv f c) * b)
theorem CutP.code {w f : Nat} {t b u : Int} {s : Nat} {r : Int} (h : CutP w f t b u s r) : CodeP w f t b (s * 2 ^ f + u) r ∧ (u < 2 ^ f ↔ (s : Int) * 2 ^ f + u < 2 ^ f) := by
  have pf := p2 f
  have l1 := lv_cut h.u0 (Int.le_of_lt h.u1) h.us
  have us2 : s = 0 ∨ 2 ^ f ≤ u + 1 := by rcases h.us with z | z; exact .inl z; exact .inr (by omega)
  have l2 := lv_cut (f := f) (s := s) (u := u + 1) (by have := h.u0; omega) (by have := h.u1; omega) us2
  rw [← Int.add_assoc] at l2
  have sp : 0 ≤ (s : Int) * 2 ^ f := Int.mul_nonneg (by omega) (Int.le_of_lt pf)
  refine ⟨⟨by have := h.u0; omega, ?_, ?_, ?_⟩, ?_⟩
  · rw [l1]; have := h.lo; rw [Int.mul_assoc, Int.mul_comm (2 ^ s)]; exact this
  · rw [l2]; have := h.hi; rw [Int.mul_assoc, Int.mul_comm (2 ^ s)]; exact this
  · rw [l1, l2, h.rst]
    have e1 : u * 2 ^ s * b = u * (b * 2 ^ s) := by rw [Int.mul_assoc, Int.mul_comm (2 ^ s)]
    have e2 : ((u + 1) * 2 ^ s - u * 2 ^ s) * b = b * 2 ^ s := by rw [Int.add_mul]; grind
    rw [e1, e2]
  · constructor
    · intro z
      have : s = 0 := h.us.resolve_right (by omega)
      subst this; simp; exact z
    · intro z
      omega
end Pg

namespace Pg
open PySem L2 Rm
open PySem.Builtin.Int (intBits)
theorem lv_b15 {w f : Nat} (hw : w ≤ 15) (hf : f ≤ 112) {c : Int} (h0 : 0 ≤ c) (h1 : c < 2 ^ (w + f)) : intBits (lv f c) ≤ 40000 := by
  have q := div_lt_pow h1
  have q0 := dn f h0
  have w20 := two_le_pow hw
  have e15 : (2 : Int) ^ 15 = 32768 := rfl
  unfold lv
  split
  · exact ib_mono (ib_lt h0 h1) (by omega)
  · have r := mn c f
    have eF := pow_s f
    have := intBits_mul_le (ib_lt (show 0 ≤ 2 ^ f + c % 2 ^ f by omega) (show 2 ^ f + c % 2 ^ f < 2 ^ (f + 1) by omega)) (ib_pow2 (c / 2 ^ f - 1).toNat)
    exact ib_mono this (by omega)
theorem lvB {w f : Nat} (hw : w ≤ 15) (hf : f ≤ 112) {c : Int} (h0 : 0 ≤ c) (h1 : c < 2 ^ (w + f)) : 0 ≤ lv f c ∧ lv f c < 2 ^ 40000 := by
  have a := lv_nn (f := f) h0
  have b := ib_hi a
  have := two_le_pow (lv_b15 hw hf h0 h1)
  exact ⟨a, by omega⟩
theorem end_lt {w f : Nat} : (2 : Int) ^ (w + f) - 2 ^ f < 2 ^ (w + f) := by have := p2 f; omega
theorem end_3 {w f : Nat} (hw : 2 ≤ w) : 3 * (2 : Int) ^ f ≤ 2 ^ (w + f) - 2 ^ f := by
  have := two_le_pow (show 2 + f ≤ w + f by omega)
  rw [Int.pow_add] at this
  have e4 : (2 : Int) ^ 2 = 4 := rfl
  omega
/-- there is one code only -/
theorem CodeP.uniq {w f : Nat} {t b c r : Int} (C : CodeP w f t b c r) (hb : 0 < b) {c' : Int} (h0 : 0 ≤ c') (h1 : lv f c' * b ≤ t * 2 ^ stp0 w f) (h2 : t * 2 ^ stp0 w f < lv f (c' + 1) * b) : c = c' := by
  rcases Int.lt_trichotomy c c' with z | z | z
  · exfalso
    have a := lv_le (f := f) (a := c + 1) (b := c') (by have := C.c0; omega) (by omega)
    have a2 : lv f (c + 1) * b ≤ lv f c' * b := Int.mul_le_mul_of_nonneg_right a (Int.le_of_lt hb)
    have := C.hi; omega
  · exact z
  · exfalso
    have a := lv_le (f := f) (a := c' + 1) (b := c) (by omega) (by omega)
    have a2 : lv f (c' + 1) * b ≤ lv f c * b := Int.mul_le_mul_of_nonneg_right a (Int.le_of_lt hb)
    have := C.lo; omega
end Pg

namespace Pg
open PySem L2 Rm
open PySem.Builtin.Int (intBits)
theorem eqM_litw (h : HP) {a b : Str} (r : Bool) (e : (PyData.strOk a && PyData.strOk b && (decide (a = b) == r)) = true) : eqM h (.str a) (.str b) = some r := by
  simp only [Bool.and_eq_true, beq_iff_eq] at e
  rw [eqM_ss h e.1.1 e.1.2, e.2]
@[simp] theorem wq_even_even (h : HP) : eqM h (.str "even") (.str "even") = some true := eqM_litw h true (by decide +kernel)
@[simp] theorem wq_even_away (h : HP) : eqM h (.str "even") (.str "away") = some false := eqM_litw h false (by decide +kernel)
@[simp] theorem wq_even_nought (h : HP) : eqM h (.str "even") (.str "nought") = some false := eqM_litw h false (by decide +kernel)
@[simp] theorem wq_even_up (h : HP) : eqM h (.str "even") (.str "up") = some false := eqM_litw h false (by decide +kernel)
@[simp] theorem wq_even_down (h : HP) : eqM h (.str "even") (.str "down") = some false := eqM_litw h false (by decide +kernel)
@[simp] theorem wq_away_even (h : HP) : eqM h (.str "away") (.str "even") = some false := eqM_litw h false (by decide +kernel)
@[simp] theorem wq_away_away (h : HP) : eqM h (.str "away") (.str "away") = some true := eqM_litw h true (by decide +kernel)
@[simp] theorem wq_away_nought (h : HP) : eqM h (.str "away") (.str "nought") = some false := eqM_litw h false (by decide +kernel)
@[simp] theorem wq_away_up (h : HP) : eqM h (.str "away") (.str "up") = some false := eqM_litw h false (by decide +kernel)
@[simp] theorem wq_away_down (h : HP) : eqM h (.str "away") (.str "down") = some false := eqM_litw h false (by decide +kernel)
@[simp] theorem wq_nought_even (h : HP) : eqM h (.str "nought") (.str "even") = some false := eqM_litw h false (by decide +kernel)
@[simp] theorem wq_nought_away (h : HP) : eqM h (.str "nought") (.str "away") = some false := eqM_litw h false (by decide +kernel)
@[simp] theorem wq_nought_nought (h : HP) : eqM h (.str "nought") (.str "nought") = some true := eqM_litw h true (by decide +kernel)
@[simp] theorem wq_nought_up (h : HP) : eqM h (.str "nought") (.str "up") = some false := eqM_litw h false (by decide +kernel)
@[simp] theorem wq_nought_down (h : HP) : eqM h (.str "nought") (.str "down") = some false := eqM_litw h false (by decide +kernel)
@[simp] theorem wq_up_even (h : HP) : eqM h (.str "up") (.str "even") = some false := eqM_litw h false (by decide +kernel)
@[simp] theorem wq_up_away (h : HP) : eqM h (.str "up") (.str "away") = some false := eqM_litw h false (by decide +kernel)
@[simp] theorem wq_up_nought (h : HP) : eqM h (.str "up") (.str "nought") = some false := eqM_litw h false (by decide +kernel)
@[simp] theorem wq_up_up (h : HP) : eqM h (.str "up") (.str "up") = some true := eqM_litw h true (by decide +kernel)
@[simp] theorem wq_up_down (h : HP) : eqM h (.str "up") (.str "down") = some false := eqM_litw h false (by decide +kernel)
@[simp] theorem wq_down_even (h : HP) : eqM h (.str "down") (.str "even") = some false := eqM_litw h false (by decide +kernel)
@[simp] theorem wq_down_away (h : HP) : eqM h (.str "down") (.str "away") = some false := eqM_litw h false (by decide +kernel)
@[simp] theorem wq_down_nought (h : HP) : eqM h (.str "down") (.str "nought") = some false := eqM_litw h false (by decide +kernel)
@[simp] theorem wq_down_up (h : HP) : eqM h (.str "down") (.str "up") = some false := eqM_litw h false (by decide +kernel)
@[simp] theorem wq_down_down (h : HP) : eqM h (.str "down") (.str "down") = some true := eqM_litw h true (by decide +kernel)
def wayN : Nat → Str
  | 0 => "even" | 1 => "away" | 2 => "nought" | 3 => "up" | _ => "down"
def wayO : Nat → MV
  | 0 => .obj 7 [] | 1 => .obj 8 [] | 2 => .obj 6 [] | 3 => .obj 9 [.int 0] | _ => .obj 9 [.int 1]
def giK : Nat → Nat
  | 0 => 12 | 1 => 12 | 2 => 10 | 3 => 17 | _ => 17
def biK : Nat → Nat
  | 0 => 14 | 1 => 14 | 2 => 11 | 3 => 18 | _ => 18
def miK : Nat → Nat
  | 0 => 13 | _ => 15
theorem five {k : Nat} (h : k < 5) : k = 0 ∨ k = 1 ∨ k = 2 ∨ k = 3 ∨ k = 4 := by omega
theorem mg_ok (k : Nat) (hk : k < 5) (h : HP) : mthV p.T h (wayO k) "grows" = some (giK k) := by
  rcases five hk with z | z | z | z | z <;> subst z <;> rfl
theorem mb_ok (k : Nat) (hk : k < 5) (h : HP) : mthV p.T h (wayO k) "bursts" = some (biK k) := by
  rcases five hk with z | z | z | z | z <;> subst z <;> rfl
theorem mm_ok (k : Nat) (hk : k < 2) (h : HP) : mthV p.T h (wayO k) "grows_midway" = some (miK k) := by
  rcases (show k = 0 ∨ k = 1 by omega) with z | z <;> subst z <;> rfl
theorem s_init (n i : Nat) (h : HP) (s : Int) (e : h[i]? = some (.ins 9 [])) : run p.T p.fs (n + 1) 16 [.ref i, .int s] h = .ok .non (h.set i (.ins 9 [.int s])) := by
  rw [run_eq (F := fn16) rfl rfl]
  have st : staV p.T h (.ref i) "outward_sign" (.int s) = some (h.set i (.ins 9 [.int s])) := by
    unfold staV
    simp only [e]
    rfl
  simp [fn16, st, leave, fin]
theorem s_way_of (n : Nat) (h : HP) (k : Nat) (hk : k < 5) : run p.T p.fs (n + 2) 19 [.str (wayN k)] h = .ok (wayO k) h := by
  rw [run_eq (F := fn19) rfl rfl]
  have i0 : p.T.ini 7 = none := rfl
  have i1 : p.T.ini 8 = none := rfl
  have i2 : p.T.ini 6 = none := rfl
  have i3 : p.T.ini 9 = some 16 := rfl
  have o0 : p.T.obj 7 = true := rfl
  have o1 : p.T.obj 8 = true := rfl
  have o2 : p.T.obj 6 = true := rfl
  have o3 : p.T.obj 9 = true := rfl
  have n0 : p.T.n0 7 = true := rfl
  have n1 : p.T.n0 8 = true := rfl
  have n2 : p.T.n0 6 = true := rfl
  have ii (s : Int) := s_init n h.length (h ++ [.ins 9 []]) s (by simp)
  rcases five hk with z | z | z | z | z <;> subst z
  · simp [fn19, wayN, wayO, i0, o0, n0]
  · simp [fn19, wayN, wayO, i1, o1, n1]
  · simp [fn19, wayN, wayO, i2, o2, n2]
  · simp [fn19, wayN, wayO, i3, o3, ii, leave, fin, frz, lows, low]
  · simp [fn19, wayN, wayO, i3, o3, ii, leave, fin, frz, lows, low]
def grw (k : Nat) (s : Int) (odd : Bool) (r : Int) : Bool := match k with
  | 0 => if r = 2 then odd else decide (r = 3)
  | 1 => if r = 2 then true else decide (r = 3)
  | 2 => false
  | 3 => decide (0 < r) && decide (s = 0)
  | _ => decide (0 < r) && decide (s = 1)
def bst (k : Nat) (s : Int) : Bool := match k with
  | 0 => true
  | 1 => true
  | 2 => false
  | 3 => decide (s = 0)
  | _ => decide (s = 1)
theorem s_grows (n : Nat) (h : HP) (k : Nat) (hk : k < 5) (s : Int) (odd : Bool) (r : Int) : run p.T p.fs (n + 2) (giK k) [wayO k, .int s, .bl odd, .int r] h = .ok (.bl (grw k s odd r)) h := by
  rcases five hk with z | z | z | z | z <;> subst z
  · show run p.T p.fs (n + 2) 12 _ h = _
    rw [run_eq (F := fn12) rfl rfl]
    have m := mm_ok 0 (by decide) h
    have c : run p.T p.fs (n + 1) (miK 0) [wayO 0, .bl odd] h = .ok (.bl odd) h := by
      show run p.T p.fs (n + 1) 13 _ h = _
      rw [run_eq (F := fn13) rfl rfl]; simp [fn13]
    by_cases q : r = 2
    · simp [fn12, m, c, q, grw]
    · simp [fn12, m, c, q, grw]
  · show run p.T p.fs (n + 2) 12 _ h = _
    rw [run_eq (F := fn12) rfl rfl]
    have m := mm_ok 1 (by decide) h
    have c : run p.T p.fs (n + 1) (miK 1) [wayO 1, .bl odd] h = .ok (.bl true) h := by
      show run p.T p.fs (n + 1) 15 _ h = _
      rw [run_eq (F := fn15) rfl rfl]; simp [fn15]
    by_cases q : r = 2
    · simp [fn12, m, c, q, grw]
    · simp [fn12, m, c, q, grw]
  · show run p.T p.fs (n + 2) 10 _ h = _
    rw [run_eq (F := fn10) rfl rfl]; simp [fn10, grw]
  · show run p.T p.fs (n + 2) 17 _ h = _
    rw [run_eq (F := fn17) rfl rfl]
    have a : atrV p.T h (wayO 3) "outward_sign" = some (.int 0) := rfl
    simp [fn17, a, grw]
  · show run p.T p.fs (n + 2) 17 _ h = _
    rw [run_eq (F := fn17) rfl rfl]
    have a : atrV p.T h (wayO 4) "outward_sign" = some (.int 1) := rfl
    simp [fn17, a, grw]
theorem s_bursts (n : Nat) (h : HP) (k : Nat) (hk : k < 5) (s : Int) : run p.T p.fs (n + 1) (biK k) [wayO k, .int s] h = .ok (.bl (bst k s)) h := by
  rcases five hk with z | z | z | z | z <;> subst z
  · show run p.T p.fs (n + 1) 14 _ h = _
    rw [run_eq (F := fn14) rfl rfl]; simp [fn14, bst]
  · show run p.T p.fs (n + 1) 14 _ h = _
    rw [run_eq (F := fn14) rfl rfl]; simp [fn14, bst]
  · show run p.T p.fs (n + 1) 11 _ h = _
    rw [run_eq (F := fn11) rfl rfl]; simp [fn11, bst]
  · show run p.T p.fs (n + 1) 18 _ h = _
    rw [run_eq (F := fn18) rfl rfl]
    have a : atrV p.T h (wayO 3) "outward_sign" = some (.int 0) := rfl
    simp [fn18, a, bst]
  · show run p.T p.fs (n + 1) 18 _ h = _
    rw [run_eq (F := fn18) rfl rfl]
    have a : atrV p.T h (wayO 4) "outward_sign" = some (.int 1) := rfl
    simp [fn18, a, bst]
end Pg

namespace Pg
open PySem L2 Rm
open PySem.Builtin.Int (intBits)
/-! the size's own numbers -/
theorem s_endless (w f : Nat) (hw : w ≤ 20) (hf : f ≤ 200) (n : Nat) (h : HP) : run p.T p.fs (n + 1) 4 [.tup [.int w, .int f]] h = .ok (.int (2 ^ (w + f) - 2 ^ f)) h := by
  rw [run_eq (F := fn4) rfl rfl]
  have s1 := shlB_one (b := (w : Int)) (by omega) (by omega)
  have pw := p2 w
  have s2 : shlB (2 ^ w - 1) (f : Int) = true := shlB_of (m := 20) (ib_lt (by omega) (by have := two_le_pow hw; omega)) (by omega) (by omega)
  have x5 : (2 ^ w - 1) * (2 : Int) ^ f = 2 ^ (w + f) - 2 ^ f := by rw [Int.sub_mul, ← Int.pow_add, Int.one_mul]
  simp [fn4, s1, s2, x5]
theorem s_sign_bit' (w f : Nat) (hw : w ≤ 20) (hf : f ≤ 200) (n : Nat) (h : HP) : run p.T p.fs (n + 1) 3 [.tup [.int w, .int f]] h = .ok (.int (2 ^ (w + f))) h := by
  have s := shlB_one (b := (w : Int) + f) (by omega) (by omega)
  rw [run_eq (F := fn3) rfl rfl]; simp [fn3, s]
end Pg

namespace Pg
open PySem L2 Rm
open PySem.Builtin.Int (intBits)
/-- what a cut is settled to: the code, the flags -/
def stl (w f k : Nat) (s c r : Int) : Int × Int :=
  if 2 ^ (w + f) - 2 ^ f ≤ c then ((if bst k s = true then 2 ^ (w + f) - 2 ^ f else 2 ^ (w + f) - 2 ^ f - 1), 5)
  else if r = 0 then (c, 0)
  else ((if grw k s (decide (c % 2 = 1)) r = true then c + 1 else c), (if (if grw k s (decide (c % 2 = 1)) r = true then c + 1 else c) = 2 ^ (w + f) - 2 ^ f then 5 else if c < 2 ^ f then 3 else 1))
theorem s_settled (w f : Nat) (hw2 : 2 ≤ w) (hw : w ≤ 20) (hf1 : 1 ≤ f) (hf : f ≤ 200) (n : Nat) (h : HP) (k : Nat) (hk : k < 5) {s : Int} (hs : s = 0 ∨ s = 1) {u : Int} {d : Nat} {r : Int} (us : d = 0 ∨ 2 ^ f ≤ u) (u0 : 0 ≤ u) (d1 : d ≤ 8000000) :
    run p.T p.fs (n + 4) 25 [.tup [.int w, .int f], .str (wayN k), .int s, .int u, .int (loOf w f + d), .int r] h = .ok (.tup [.int (s * 2 ^ (w + f) + (stl w f k s (d * 2 ^ f + u) r).1), .int (stl w f k s (d * 2 ^ f + u) r).2]) h := by
  rw [run_eq (F := fn25) rfl rfl]
  have wo := s_way_of (n + 1) h k hk
  have sb := s_sign_bit' w f hw hf (n + 2) h
  have lw := s_low w f (by omega) hw (n + 1) h
  have en := s_endless w f hw hf (n + 2) h
  have ms : mulB s (2 ^ (w + f)) = true := mulB_left (by rcases hs with z | z <;> subst z <;> decide)
  have sh : shlB (d : Int) (f : Int) = true := shlB_of (m := 30) (ib_lt (by omega) (by omega)) (by omega) (by omega)
  have s1 := shlB_one (b := (f : Int)) (by omega) (by omega)
  have mb := mb_ok k hk h
  have mg := mg_ok k hk h
  have bb := s_bursts (n + 2) h k hk s
  have pf := p2 f
  have dp : 0 ≤ (d : Int) * 2 ^ f := Int.mul_nonneg (by omega) (Int.le_of_lt pf)
  have uc : u < 2 ^ f ↔ (d : Int) * 2 ^ f + u < 2 ^ f := by
    constructor
    · intro z
      have : d = 0 := us.resolve_right (by omega)
      subst this; simp; exact z
    · intro z; omega
  have od : u % 2 = ((d : Int) * 2 ^ f + u) % 2 := by
    have e : (2 : Int) ^ f = 2 * 2 ^ (f - 1) := by rw [← pow_s, Nat.sub_add_cancel hf1]
    have : (d : Int) * 2 ^ f = 2 * (d * 2 ^ (f - 1)) := by rw [e]; grind
    omega
  have b0 : Builtin.bitOr 1 4 = 5 := by decide
  have b1 : Builtin.bitOr 1 2 = 3 := by decide
  have eE : 3 * (2 : Int) ^ f ≤ 2 ^ (w + f) - 2 ^ f := by
    have := two_le_pow (show 2 + f ≤ w + f by omega)
    rw [Int.pow_add] at this
    have e4 : (2 : Int) ^ 2 = 4 := rfl
    omega
  have gr := s_grows (n + 1) h k hk s (decide (u % 2 = 1)) r
  rw [od] at gr
  generalize hc : (d : Int) * 2 ^ f + u = c at *
  generalize hE : (2 : Int) ^ (w + f) - 2 ^ f = E at *
  generalize hg : grw k s (decide (c % 2 = 1)) r = g at *
  unfold stl
  rw [hE, hg]
  have hd : loOf w f + (d : Int) - loOf w f = d := by omega
  by_cases h1 : E ≤ c
  · cases hb : bst k s
    · rw [hb] at bb
      simp [fn25, wo, sb, lw, en, ms, hd, sh, hc, h1, mb, bb, b0]
      omega
    · rw [hb] at bb
      simp [fn25, wo, sb, lw, en, ms, hd, sh, hc, h1, mb, bb, b0]
  by_cases h2 : r = 0
  · simp [fn25, wo, sb, lw, en, ms, hd, sh, hc, h1, h2]
  have oo : Builtin.bitAnd u 1 = c % 2 := by rw [PyProof.Rows.bitAnd_m1]; exact od
  by_cases h3 : u < 2 ^ f
  · have h3' := uc.mp h3
    cases g
    · have e1 : ¬ c = E := by omega
      simp [fn25, wo, sb, lw, en, ms, hd, sh, s1, hc, h1, h2, h3, h3', mg, oo, gr, e1, b1]
    · have e1 : ¬ c + 1 = E := by omega
      simp [fn25, wo, sb, lw, en, ms, hd, sh, s1, hc, h1, h2, h3, h3', mg, oo, gr, e1, b1]
  · have h3' : ¬ c < 2 ^ f := fun z => h3 (uc.mpr z)
    cases g
    · have e1 : ¬ c = E := by omega
      simp [fn25, wo, sb, lw, en, ms, hd, sh, s1, hc, h1, h2, h3, h3', mg, oo, gr, e1, b0]
    · by_cases e1 : c + 1 = E
      · simp [fn25, wo, sb, lw, en, ms, hd, sh, s1, hc, h1, h2, h3, h3', mg, oo, gr, e1, b0]
      · simp [fn25, wo, sb, lw, en, ms, hd, sh, s1, hc, h1, h2, h3, h3', mg, oo, gr, e1, b0]
end Pg

namespace Pg
open PySem L2 Rm
open PySem.Builtin.Int (intBits)
theorem s_rounded (w f : Nat) (hw2 : 2 ≤ w) (hw : w ≤ 20) (hf1 : 1 ≤ f) (hf : f ≤ 200) (n : Nat) (h : HP) (k : Nat) (hk : k < 5) {s : Int} (hs : s = 0 ∨ s = 1) {t b : Int} (ht : 0 ≤ t) (hb : 1 ≤ b) (tb : intBits t ≤ 1000000) (bb : intBits b ≤ 1000000) :
    ∃ c r : Int, CodeP w f t b c r ∧ run p.T p.fs (n + 5) 26 [.tup [.int w, .int f], .str (wayN k), .int s, .int t, .int b] h = .ok (.tup [.int (s * 2 ^ (w + f) + (stl w f k s c r).1), .int (stl w f k s c r).2]) h := by
  obtain ⟨u, d, r, C, ec⟩ := s_cut w f hw2 hw hf n h ht hb tb bb
  refine ⟨(d : Int) * 2 ^ f + u, r, C.code.1, ?_⟩
  rw [run_eq (F := fn26) rfl rfl]
  have wo := s_way_of (n + 2) h k hk
  have st := s_settled w f hw2 hw hf1 hf n h k hk hs (u := u) (d := d) (r := r) C.us C.u0 (by have := C.sb; omega)
  simp [fn26, wo, ec, st]
end Pg

namespace Pg
open PySem L2 Rm
open PySem.Builtin.Int (intBits)
/-- V over B lies between two neighbours -/
structure Fr (f : Nat) (V B c r : Int) : Prop where
  c0 : 0 ≤ c
  b0 : 0 < B
  lo : lv f c * B ≤ V
  hi : V < lv f (c + 1) * B
  rst : r = rs (V - lv f c * B) ((lv f (c + 1) - lv f c) * B)
theorem CodeP.fr {w f : Nat} {t b c r : Int} (C : CodeP w f t b c r) (hb : 0 < b) : Fr f (t * 2 ^ stp0 w f) b c r := ⟨C.c0, hb, C.lo, C.hi, C.rst⟩
theorem rs_mulI (l g : Int) {m : Int} (pk : 0 < m) : rs (l * m) (g * m) = rs l g := by
  have e1 : (l * m = 0) = (l = 0) := propext ⟨fun z => (Int.mul_eq_zero.mp z).resolve_right (Int.ne_of_gt pk), fun z => by rw [z, Int.zero_mul]⟩
  have e2 : (2 * (l * m) < g * m) = (2 * l < g) := by rw [← Int.mul_assoc]; exact propext (Int.mul_lt_mul_right pk)
  have e3 : (2 * (l * m) = g * m) = (2 * l = g) := by rw [← Int.mul_assoc]; exact propext (Int.mul_eq_mul_right_iff (Int.ne_of_gt pk))
  unfold rs
  simp only [e1, e2, e3]
theorem Fr.mul {f : Nat} {V B c r : Int} (F : Fr f V B c r) {m : Int} (hm : 0 < m) : Fr f (V * m) (B * m) c r := by
  refine ⟨F.c0, Int.mul_pos F.b0 hm, ?_, ?_, ?_⟩
  · rw [← Int.mul_assoc]; exact Int.mul_le_mul_of_nonneg_right F.lo (Int.le_of_lt hm)
  · rw [← Int.mul_assoc]; exact Int.mul_lt_mul_of_pos_right F.hi hm
  · rw [← Int.mul_assoc, ← Int.mul_assoc, ← Int.sub_mul, rs_mulI _ _ hm]; exact F.rst
theorem we0 (k : Nat) (hk : k < 5) (h : HP) : eqM h (.str (wayN k)) (.str "even") = some (decide (k = 0)) := by rcases five hk with z | z | z | z | z <;> subst z <;> simp [wayN]
theorem we1 (k : Nat) (hk : k < 5) (h : HP) : eqM h (.str (wayN k)) (.str "away") = some (decide (k = 1)) := by rcases five hk with z | z | z | z | z <;> subst z <;> simp [wayN]
theorem we3 (k : Nat) (hk : k < 5) (h : HP) : eqM h (.str (wayN k)) (.str "up") = some (decide (k = 3)) := by rcases five hk with z | z | z | z | z <;> subst z <;> simp [wayN]
theorem we4 (k : Nat) (hk : k < 5) (h : HP) : eqM h (.str (wayN k)) (.str "down") = some (decide (k = 4)) := by rcases five hk with z | z | z | z | z <;> subst z <;> simp [wayN]
def nearB (k : Nat) (o : Bool) (l : Int) (e : Bool) : Bool := if k = 0 then decide (l < 0) || (decide (l = 0) && e) else if k = 1 then decide (l < 0) else !o
def farB (k : Nat) (o : Bool) (l : Int) (e : Bool) : Bool := if k = 0 then decide (0 < l) || (decide (l = 0) && e) else if k = 1 then decide (0 ≤ l) else o
theorem s_near (n : Nat) (h : HP) (k : Nat) (hk : k < 5) (o : Bool) (l : Int) (e : Bool) : run p.T p.fs (n + 1) 49 [.str (wayN k), .bl o, .int l, .bl e] h = .ok (.bl (nearB k o l e)) h := by
  rw [run_eq (F := fn49) rfl rfl]
  unfold nearB
  by_cases c0 : k = 0
  · by_cases c : l < 0 <;> (subst c0; simp [fn49, wayN, c])
  by_cases c1 : k = 1
  · subst c1; simp [fn49, wayN]
  · simp [fn49, we0 k hk, we1 k hk, c0, c1]
theorem s_far (n : Nat) (h : HP) (k : Nat) (hk : k < 5) (o : Bool) (l : Int) (e : Bool) : run p.T p.fs (n + 1) 50 [.str (wayN k), .bl o, .int l, .bl e] h = .ok (.bl (farB k o l e)) h := by
  rw [run_eq (F := fn50) rfl rfl]
  unfold farB
  by_cases c0 : k = 0
  · by_cases c : 0 < l <;> (subst c0; simp [fn50, wayN, c])
  by_cases c1 : k = 1
  · subst c1; simp [fn50, wayN]
  · simp [fn50, we0 k hk, we1 k hk, c0, c1]
def outB (k : Nat) (s : Int) : Bool := decide (k = 3) && decide (s = 0) || decide (k = 4) && decide (s = 1)
theorem bst_out {k : Nat} (hk : k < 5) (s : Int) : bst k s = (decide (k = 0) || (decide (k = 1) || outB k s)) := by
  rcases five hk with z | z | z | z | z <;> subst z <;> simp [bst, outB]
theorem near_ok {k : Nat} (hk : k < 5) {s : Int} {d g c : Int} (d0 : 0 < d) (hg : grw k s (decide (c % 2 = 1)) (rs d g) = false) : nearB k (outB k s) (2 * d - g) (decide (c % 2 = 0)) = true := by
  unfold rs at hg
  rw [if_neg (by omega)] at hg
  rcases five hk with z | z | z | z | z <;> subst z <;> simp [grw, nearB, outB] at hg ⊢
  · split at hg
    · left; omega
    · split at hg
      · right; simp at hg; omega
      · simp at hg
  · split at hg
    · omega
    · split at hg <;> simp at hg
  · split at hg
    · simpa using hg
    · split at hg <;> simpa using hg
  · split at hg
    · simpa using hg
    · split at hg <;> simpa using hg
theorem far_ok {k : Nat} (hk : k < 5) {s : Int} {d g c : Int} (d0 : 0 < d) (hg : grw k s (decide (c % 2 = 1)) (rs d g) = true) : farB k (outB k s) (2 * d - g) (decide ((c + 1) % 2 = 0)) = true := by
  unfold rs at hg
  rw [if_neg (by omega)] at hg
  rcases five hk with z | z | z | z | z <;> subst z <;> simp [grw, farB, outB] at hg ⊢
  · split at hg
    · simp at hg
    · split at hg
      · right; simp at hg; omega
      · left; omega
  · split at hg
    · simp at hg
    · omega
  · split at hg
    · simpa using hg
    · split at hg <;> simpa using hg
  · split at hg
    · simpa using hg
    · split at hg <;> simpa using hg
theorem s_fair (w f : Nat) (hw2 : 2 ≤ w) (hw : w ≤ 20) (hf : f ≤ 200) (n : Nat) (h : HP) (k : Nat) (hk : k < 5) {s : Int} (hs : s = 0 ∨ s = 1) {V B c r : Int} (F : Fr f V B c r) (vb : intBits V ≤ 60000000) (bb : intBits B ≤ 60000000) :
    run p.T p.fs (n + 3) 51 [.tup [.int w, .int f], .str (wayN k), .int s, .int V, .int B, .tup [.int (s * 2 ^ (w + f) + (stl w f k s c r).1), .int (stl w f k s c r).2]] h = .ok (.bl true) h := by
  rw [run_eq (F := fn51) rfl rfl]
  have i1 : intBits s ≤ 1 := by rcases hs with z | z <;> subst z <;> decide
  have s1 := shlB_of (b := (w : Int) + f) i1 (by omega) (by omega)
  have s2 := shlB_one (b := (w : Int)) (by omega) (by omega)
  have pw := p2 w
  have s3 : shlB (2 ^ w - 1) (f : Int) = true := shlB_of (m := 20) (ib_lt (by omega) (by have := two_le_pow hw; omega)) (by omega) (by omega)
  have x5 : (2 ^ w - 1) * (2 : Int) ^ f = 2 ^ (w + f) - 2 ^ f := by rw [Int.sub_mul, ← Int.pow_add, Int.one_mul]
  have s4 := shlB_of (b := (f : Int)) bb (by omega) (by omega)
  have E3 := end_3 (f := f) hw2
  have El := end_lt (w := w) (f := f)
  have pf := p2 f
  have b0 := F.b0
  have c0 := F.c0
  have v (x : Int) (x0 : 0 ≤ x) (x1 : x < 2 ^ (w + f)) := s_value w f hw hf (n + 1) h x0 x1
  have vm (x : Int) (x0 : 0 ≤ x) (x1 : x < 2 ^ (w + f)) : mulB (lv f x) B = true := mulB_of (lv_bits hw hf x0 x1) bb (by omega)
  have le (x y : Int) (x0 : 0 ≤ x) (xy : x ≤ y) : lv f x * B ≤ lv f y * B := Int.mul_le_mul_of_nonneg_right (lv_le x0 xy) (Int.le_of_lt b0)
  have lt (x y : Int) (x0 : 0 ≤ x) (xy : x < y) : lv f x * B < lv f y * B := Int.mul_lt_mul_of_pos_right (lv_lt x0 xy) b0
  have m2 : mulB 2 V = true := mulB_left (by decide)
  have lo := F.lo
  have hi := F.hi
  have rr := F.rst
  have lf : lv f (2 ^ f) * B = B * 2 ^ f := by
    have := lv_cut (f := f) (s := 0) (u := 2 ^ f) (Int.le_of_lt pf) (by rw [pow_s]; omega) (.inl rfl)
    simp at this
    rw [this, Int.mul_comm]
  have small : V < B * 2 ^ f ↔ c < 2 ^ f := by
    rw [← lf]
    constructor
    · intro z
      rcases Int.lt_or_le c (2 ^ f) with y | y
      · exact y
      · have := le (2 ^ f) c (Int.le_of_lt pf) y; omega
    · intro z
      have := le (c + 1) (2 ^ f) (by omega) (by omega); omega
  have ee := we0 k hk h
  have ea := we1 k hk h
  have eu := we3 k hk h
  have ed := we4 k hk h
  have nr (o : Bool) (l : Int) (e : Bool) := s_near (n + 1) h k hk o l e
  have fr (o : Bool) (l : Int) (e : Bool) := s_far (n + 1) h k hk o l e
  have cancel : ∀ x : Int, s * 2 ^ (w + f) + x - s * 2 ^ (w + f) = x := fun x => by omega
  have bo := bst_out hk s
  have oo : (decide (k = 3) && decide (s = 0) || decide (k = 4) && decide (s = 1)) = outB k s := rfl
  generalize hE : (2 : Int) ^ (w + f) - 2 ^ f = E at *
  unfold stl
  rw [hE]
  by_cases h1 : E ≤ c
  · have g1 := le E c (by omega) h1
    cases hb : bst k s
    · rw [hb] at bo
      have bo' := bo.symm
      simp only [Bool.or_eq_false_iff, decide_eq_false_iff_not] at bo'
      have a1 : ¬ E - 1 = E := by omega
      have a2 := lt (E - 1) E (by omega) (by omega)
      have a3 : ¬ V = lv f (E - 1) * B := by omega
      have a4 : lv f (E - 1) * B < V := by omega
      have a5 : E - 1 + 1 = E := by omega
      have a6 : lv f E * B ≤ V := by omega
      have a7 : 0 ≤ E - 1 ∧ E - 1 ≤ E := by omega
      have a10 : ¬ E < 1 := by omega
      have v1 := v (E - 1) (by omega) (by omega)
      have v2 := v E (by omega) (by omega)
      have w1 := vm (E - 1) (by omega) (by omega)
      have w2 := vm E (by omega) (by omega)
      by_cases a8 : V < B * 2 ^ f
      · simp [fn51, s1, s2, s3, s4, x5, h1, cancel, a7.1, a7.2, a10, v1, w1, eu, ed, oo, a1, a3, a8, a4, a5, v2, w2, a6, ee, ea, bo'.1, bo'.2.1, bo'.2.2]
      · simp [fn51, s1, s2, s3, s4, x5, h1, cancel, a7.1, a7.2, a10, v1, w1, eu, ed, oo, a1, a3, a8, a4, a5, v2, w2, a6, ee, ea, bo'.1, bo'.2.1, bo'.2.2]
    · rw [hb] at bo
      have bo' := bo.symm
      have a6 : lv f E * B ≤ V := by omega
      have a7 : 0 ≤ E := by omega
      have v2 := v E (by omega) (by omega)
      have w2 := vm E (by omega) (by omega)
      simp [fn51, s1, s2, s3, s4, x5, h1, cancel, a7, v2, w2, eu, ed, oo, a6, ee, ea]
      simpa using bo'
  have h1' : c < E := by omega
  have v1 := v c c0 (by omega)
  have w1 := vm c c0 (by omega)
  have v2 := v (c + 1) (by omega) (by omega)
  have w2 := vm (c + 1) (by omega) (by omega)
  by_cases h2 : r = 0
  · have hV : V = lv f c * B := by
      rw [h2] at rr
      unfold rs at rr
      by_cases y : V - lv f c * B = 0
      · omega
      · rw [if_neg y] at rr
        split at rr
        · cases rr
        · split at rr <;> cases rr
    have a1 : ¬ c = E := by omega
    have a2 : c ≤ E := by omega
    subst hV
    simp [fn51, s1, s2, s3, s4, x5, h1, h2, cancel, c0, a2, v1, w1, eu, ed, oo, a1]
  have hV : lv f c * B < V := by
    rcases Int.lt_or_eq_of_le lo with y | y
    · exact y
    · exfalso; apply h2; rw [rr, ← y]; simp [rs]
  have dd : 2 * V - lv f c * B - lv f (c + 1) * B = 2 * (V - lv f c * B) - (lv f (c + 1) - lv f c) * B := by rw [Int.sub_mul]; omega
  have dd' : 2 * V - lv f (c + 1) * B - lv f c * B = 2 * (V - lv f c * B) - (lv f (c + 1) - lv f c) * B := by rw [Int.sub_mul]; omega
  cases hg : grw k s (decide (c % 2 = 1)) r
  · have nk := near_ok (c := c) hk (d := V - lv f c * B) (by omega) (by rw [← rr]; exact hg)
    have a1 : ¬ c = E := by omega
    have a2 : c ≤ E := by omega
    have a3 : ¬ V = lv f c * B := by omega
    have a4 : ¬ lv f (c + 1) * B ≤ V := by omega
    by_cases a8 : c < 2 ^ f
    · have a9 := small.mpr a8
      simp [fn51, s1, s2, s3, s4, x5, h1, h2, a8, cancel, c0, a2, v1, w1, eu, ed, oo, a1, a3, a9, hV, v2, w2, a4, m2, nr, dd, nk]
    · have a9 : ¬ V < B * 2 ^ f := fun z => a8 (small.mp z)
      simp [fn51, s1, s2, s3, s4, x5, h1, h2, a8, cancel, c0, a2, v1, w1, eu, ed, oo, a1, a3, a9, hV, v2, w2, a4, m2, nr, dd, nk]
  · have fk := far_ok (c := c) hk (d := V - lv f c * B) (by omega) (by rw [← rr]; exact hg)
    have a0 : 0 ≤ c + 1 := by omega
    have a2 : c + 1 ≤ E := by omega
    have a3 : ¬ V = lv f (c + 1) * B := by omega
    have a4 : ¬ lv f (c + 1) * B ≤ V := by omega
    have a5 : ¬ lv f (c + 1) * B < V := by omega
    have a6 : c + 1 - 1 = c := by omega
    have a7 : ¬ V ≤ lv f c * B := by omega
    by_cases a1 : c + 1 = E
    · have a8 : ¬ c < 2 ^ f := by omega
      have a9 : ¬ V < B * 2 ^ f := fun z => a8 (small.mp z)
      rw [a1] at v2 w2 a3 a4 a5 fk
      have a6' : E - 1 = c := by omega
      have aE : E ≤ E := by omega
      rw [a1] at a0 dd'
      simp [fn51, s1, s2, s3, s4, x5, h1, h2, a8, cancel, a1, a0, v2, w2, eu, ed, oo, a3, a4, a9, a5, a6', v1, w1, a7, m2, fr, dd', fk]
    · by_cases a8 : c < 2 ^ f
      · have a9 := small.mpr a8
        simp [fn51, s1, s2, s3, s4, x5, h1, h2, a8, cancel, a1, a0, a2, v2, w2, eu, ed, oo, a3, a9, a5, a6, v1, w1, a7, m2, fr, dd', fk]
      · have a9 : ¬ V < B * 2 ^ f := fun z => a8 (small.mp z)
        simp [fn51, s1, s2, s3, s4, x5, h1, h2, a8, cancel, a1, a0, a2, v2, w2, eu, ed, oo, a3, a9, a5, a6, v1, w1, a7, m2, fr, dd', fk]
end Pg

namespace Pg
open PySem L2 Rm
open PySem.Builtin.Int (intBits)
/-- the same number by another top and bottom -/
theorem Fr.ratio {f : Nat} {V B c r V' B' : Int} (F : Fr f V B c r) (b' : 0 < B') (e : V * B' = V' * B) : Fr f V' B' c r := by
  have b0 := F.b0
  refine ⟨F.c0, b', ?_, ?_, ?_⟩
  · have h := Int.mul_le_mul_of_nonneg_right F.lo (Int.le_of_lt b')
    rw [e, Int.mul_assoc, Int.mul_comm B, ← Int.mul_assoc] at h
    exact Int.le_of_mul_le_mul_right h b0
  · have h := Int.mul_lt_mul_of_pos_right F.hi b'
    rw [e, Int.mul_assoc, Int.mul_comm B, ← Int.mul_assoc] at h
    exact Int.lt_of_mul_lt_mul_right h (Int.le_of_lt b0)
  · have h1 := rs_mulI (V - lv f c * B) ((lv f (c + 1) - lv f c) * B) b'
    have h2 := rs_mulI (V' - lv f c * B') ((lv f (c + 1) - lv f c) * B') b0
    rw [F.rst, ← h1, ← h2]
    congr 1
    · rw [Int.sub_mul, Int.sub_mul, e]
      congr 1
      rw [Int.mul_assoc, Int.mul_assoc, Int.mul_comm B]
    · rw [Int.mul_assoc, Int.mul_assoc, Int.mul_comm B]
end Pg

namespace Pg
open PySem L2 Rm
open PySem.Builtin.Int (intBits)
theorem s_wayby (n : Nat) (h : HP) (c : Int) : ∃ k : Nat, k < 5 ∧ run p.T p.fs (n + 1) 46 [.int c] h = .ok (.str (wayN k)) h := by
  rw [run_eq (F := fn46) rfl rfl]
  rcases (show c % 5 = 0 ∨ c % 5 = 1 ∨ c % 5 = 2 ∨ c % 5 = 3 ∨ c % 5 = 4 by omega) with z | z | z | z | z
  · exact ⟨0, by decide, by simp [fn46, z, wayN]⟩
  · exact ⟨1, by decide, by simp [fn46, z, wayN]⟩
  · exact ⟨2, by decide, by simp [fn46, z, wayN]⟩
  · exact ⟨3, by decide, by simp [fn46, z, wayN]⟩
  · exact ⟨4, by decide, by simp [fn46, z, wayN]⟩
end Pg

namespace Pg
open PySem L2 Rm
open PySem.Builtin.Int (intBits)
theorem half_pow (b m : Int) (hm : 0 ≤ m) : (b * b) ^ (m / 2).toNat * b ^ (m % 2).toNat = b ^ m.toNat := by
  have e : b * b = b ^ 2 := by rw [Int.pow_succ, Int.pow_succ, Int.pow_zero, Int.one_mul]
  rw [e, ← Int.pow_mul, ← Int.pow_add]
  congr 1
  omega
theorem ten_loop (C : Nat → List MV → HP → R MV) (h : HP) : ∀ (k : Nat) (m a b : Int) (N A : Nat), 0 ≤ m → m < 2 ^ k → k < N → intBits a ≤ A → intBits b ≤ A → A * 2 ^ (k + 1) ≤ 134217728 →
    ∃ b', whlL (evE p.T C t27_0) (exSs p.T C w27_0) N [some (.int m), some (.int a), some (.int b)] h = .nx [some (.int 0), some (.int (a * b ^ m.toNat)), some (.int b')] h := by
  intro k
  induction k with
  | zero =>
    intro m a b N A h0 h1 h2 _ _ _
    obtain ⟨M, rfl⟩ := pos_fuel h2
    have : m = 0 := by omega
    subst this
    exact ⟨b, by rw [whlL_succ]; simp⟩
  | succ k ih =>
    intro m a b N A h0 h1 h2 ha hb hA
    obtain ⟨M, rfl⟩ := pos_fuel h2
    by_cases hz : m = 0
    · subst hz
      exact ⟨b, by rw [whlL_succ]; simp⟩
    have hA' : A * 2 ^ (k + 1 + 1) = 2 * A * 2 ^ (k + 1) := by rw [Nat.pow_succ]; ac_rfl
    have h2A : A + A ≤ 134217728 := by
      have : 2 * A * 1 ≤ 2 * A * 2 ^ (k + 1) := Nat.mul_le_mul_left _ Nat.one_le_two_pow
      omega
    have hp : (2 : Int) ^ (k + 1) = 2 * 2 ^ k := by rw [Int.pow_succ]; omega
    have hbb := intBits_mul_le hb hb
    have hab := intBits_mul_le ha hb
    have e1 := half_pow b m h0
    have hm2 : m / 2 < 2 ^ k := by omega
    rcases two_cases m with hr | hr
    · obtain ⟨b', hb'⟩ := ih (m / 2) a (b * b) M (A + A) (by omega) hm2 (by omega) (ib_mono ha (by omega)) hbb (by rw [show A + A = 2 * A by omega, ← hA']; exact hA)
      refine ⟨b', ?_⟩
      rw [whlL_succ]
      have hlt : 0 < m := by omega
      rw [hr] at e1
      simp [hlt, PyProof.Rows.bitAnd_m1, hr, mulB_of hb hb h2A, hb']
      rw [← e1]; simp
    · obtain ⟨b', hb'⟩ := ih (m / 2) (a * b) (b * b) M (A + A) (by omega) hm2 (by omega) hab hbb (by rw [show A + A = 2 * A by omega, ← hA']; exact hA)
      refine ⟨b', ?_⟩
      rw [whlL_succ]
      have hlt : 0 < m := by omega
      rw [hr] at e1
      simp [hlt, PyProof.Rows.bitAnd_m1, hr, mulB_of hb hb h2A, mulB_of ha hb h2A, hb']
      rw [← e1]; simp [Int.pow_succ]; ac_rfl
theorem s_ten_to (n : Nat) (h : HP) (m : Int) (h0 : 0 ≤ m) (h1 : m < 1048576) : run p.T p.fs (n + 1) 27 [.int m] h = .ok (.int (10 ^ m.toNat)) h := by
  rw [run_eq (F := fn27) rfl rfl]
  obtain ⟨b', hb'⟩ := ten_loop (run p.T p.fs n) h 20 m 1 10 fuel 4 h0 (by omega) (lt_fuel (by omega)) (by decide) (by decide) (by decide)
  simp [fn27, hb']
end Pg

namespace Pg
open PySem L2 Rm
open PySem.Builtin.Int (intBits)
/-! ten to a power, by halves -/
theorem ib10 (n : Nat) : intBits ((10 : Int) ^ n) ≤ 4 * n + 1 := by
  have h0 : (0 : Int) ≤ 10 ^ n := Int.le_of_lt (Int.pow_pos (by decide))
  refine ib_lt h0 ?_
  have h1 : (10 : Int) ^ n ≤ 16 ^ n := by
    induction n with
    | zero => decide
    | succ n ih => rw [Int.pow_succ, Int.pow_succ]; have := ih (Int.le_of_lt (Int.pow_pos (by decide))); have p : (0 : Int) < 10 ^ n := Int.pow_pos (by decide); omega
  have h2 : (16 : Int) ^ n = 2 ^ (4 * n) := by rw [Int.pow_mul]; rfl
  have := pow_s (4 * n)
  have := p2 (4 * n)
  omega
theorem s_lpow : ∀ (j n : Nat), n < 2 ^ j → j ≤ 20 → ∀ (m : Nat) (h : HP), run p.T p.fs (m + (j + 1)) 52 [.int n] h = .ok (.int (10 ^ n)) h
  | 0, n, hn, _, m, h => by
    have : n = 0 := by simpa using hn
    subst this
    rw [run_eq (F := fn52) rfl rfl]
    simp [fn52]
  | j + 1, n, hn, hj, m, h => by
    rw [show m + (j + 1 + 1) = m + (j + 1) + 1 from rfl, run_eq (F := fn52) rfl rfl]
    by_cases z : n = 0
    · subst z; simp [fn52]
    · have ih := s_lpow j (n / 2) (by rw [Nat.pow_succ] at hn; omega) (by omega) m h
      have e : (n : Int) / 2 = ((n / 2 : Nat) : Int) := by omega
      obtain ⟨q, hq⟩ : ∃ q : Int, (n : Int) / 2 = q := ⟨_, rfl⟩
      rw [← e, hq] at ih
      have n0 : ¬ (n : Int) = 0 := by omega
      have hb : n < 2 ^ 20 := Nat.lt_of_lt_of_le hn (Nat.pow_le_pow_right (by decide) hj)
      have b1 := ib10 (n / 2)
      have mm : mulB (10 ^ (n / 2)) (10 ^ (n / 2)) = true := mulB_of b1 b1 (by omega)
      have m10 (x : Int) : mulB x 10 = true := mulB_right (by decide)
      obtain ⟨V, hV⟩ : ∃ V : Int, 10 ^ (n / 2) = V := ⟨_, rfl⟩
      rw [hV] at ih mm
      by_cases y : n % 2 = 1
      · have y' : (n : Int) % 2 = 1 := by omega
        have ev : (10 : Int) ^ n = V * V * 10 := by
          rw [← hV, ← Int.pow_add, ← Int.pow_succ]; congr 1; omega
        rw [ev]
        simp -implicitDefEqProofs [fn52, z, n0, hq, ih, y', mm, m10]
      · have y' : ¬ (n : Int) % 2 = 1 := by omega
        have ev : (10 : Int) ^ n = V * V := by
          rw [← hV, ← Int.pow_add]; congr 1; omega
        rw [ev]
        have y0 : (n : Int) % 2 = 0 := by omega
        simp -implicitDefEqProofs [fn52, z, n0, hq, ih, y0, mm]
end Pg

namespace Pg
open PySem L2 Rm
open PySem.Builtin.Int (intBits)
theorem stp_eq {w f : Nat} (hw : 2 ≤ w) : (2 : Int) ^ (w - 1) - 2 + f = stp0 w f := by
  have := lo_stp (f := f) hw
  unfold loOf at this; omega
theorem stp_s {w f : Nat} (hw : w ≤ 15) (hf : f ≤ 112) : stp0 w f ≤ 17000 := by
  have := two_le_pow (show w - 1 ≤ 14 by omega)
  have e14 : (2 : Int) ^ 14 = 16384 := rfl
  unfold stp0 loOf; omega
end Pg

namespace Pg
open PySem L2 Rm
open PySem.Builtin.Int (intBits)
theorem s_codeby (w f : Nat) (hw2 : 2 ≤ w) (hw : w ≤ 15) (hf1 : 1 ≤ f) (hf : f ≤ 112) (n : Nat) (h : HP) (c : Int) (hc : intBits c ≤ 1048576) :
    ∃ b : Int, 0 ≤ b ∧ b < 2 ^ (w + f) - 2 ^ f ∧ run p.T p.fs (n + 1) 47 [.tup [.int w, .int f], .int c] h = .ok (.int b) h := by
  rw [run_eq (F := fn47) rfl rfl]
  have d1 := dvB_small (a := c) (b := 6) (by decide) (by decide)
  have d2 := dvB_small (a := c / 6) (b := 7) (by decide) (by decide)
  have mb := mulB_of (a := c / 6) (b := 73846150927364518273645509182736455091827) (intBits_le_of_natAbs (by omega) hc) (show _ ≤ 200 by decide) (by omega)
  have s1 := shlB_one (b := (w : Int)) (by omega) (by omega)
  have s2 := shlB_one (b := (f : Int)) (by omega) (by omega)
  have pw := p2 w
  have pf := p2 f
  have s5 : shlB (2 ^ w - 1) (f : Int) = true := shlB_of (m := 16) (ib_lt (by omega) (by have := two_le_pow (show w ≤ 15 by omega); omega)) (by omega) (by omega)
  have x5 : (2 ^ w - 1) * (2 : Int) ^ f = 2 ^ (w + f) - 2 ^ f := by rw [Int.sub_mul, ← Int.pow_add, Int.one_mul]
  have w4 := two_le_pow hw2
  have e4 : (2 : Int) ^ 2 = 4 := rfl
  have f1 := two_le_pow hf1
  have e2 : (2 : Int) ^ 1 = 2 := rfl
  have E3 : 3 * (2 : Int) ^ f ≤ 2 ^ (w + f) - 2 ^ f := by
    have := two_le_pow (show 2 + f ≤ w + f by omega)
    rw [Int.pow_add] at this; omega
  have Ep : 0 < (2 : Int) ^ (w + f) - 2 ^ f := by omega
  have Ep' : (2 : Int) ^ f < 2 ^ (w + f) := by omega
  rcases (show c % 6 = 0 ∨ c % 6 = 1 ∨ c % 6 = 2 ∨ c % 6 = 3 ∨ c % 6 = 4 ∨ c % 6 = 5 by omega) with z | z | z | z | z | z
  · exact ⟨c / 6 % (2 ^ (w + f) - 2 ^ f), Int.emod_nonneg _ (by omega), Int.emod_lt_of_pos _ Ep, by simp [fn47, d1, s1, s5, x5, z, Ep']⟩
  · have a1 := Int.emod_nonneg (c / 6) (Int.ne_of_gt Ep)
    have a2 := Int.emod_lt_of_pos (c / 6) Ep
    exact ⟨2 ^ (w + f) - 2 ^ f - 1 - c / 6 % (2 ^ (w + f) - 2 ^ f), by omega, by omega, by simp [fn47, d1, s1, s5, x5, z, Ep']⟩
  · exact ⟨2 ^ f - 2 + c / 6 % 4, by omega, by omega, by simp [fn47, d1, s1, s2, s5, x5, z]⟩
  · have p1 : 0 < (2 : Int) ^ w - 1 := by omega
    have p1' : 1 < (2 : Int) ^ w := by omega
    have a1 := Int.emod_nonneg (c / 6) (Int.ne_of_gt p1)
    have a2 := Int.emod_lt_of_pos (c / 6) p1
    have s6 : shlB (c / 6 % (2 ^ w - 1)) (f : Int) = true := shlB_of (m := 16) (ib_lt a1 (by have := two_le_pow (show w ≤ 15 by omega); omega)) (by omega) (by omega)
    have m0 : 0 ≤ c / 6 % (2 ^ w - 1) * 2 ^ f := Int.mul_nonneg a1 (Int.le_of_lt pf)
    have m1 : c / 6 % (2 ^ w - 1) * 2 ^ f ≤ (2 ^ w - 1 - 1) * 2 ^ f := Int.mul_le_mul_of_nonneg_right (by omega) (Int.le_of_lt pf)
    rw [Int.sub_mul, x5, Int.one_mul] at m1
    have q : c / 6 / 7 % 2 = 0 ∨ c / 6 / 7 % 2 = 1 := by omega
    have mm : mulB (c / 6 / 7 % 2) (2 ^ f - 1) = true := mulB_left (by rcases q with y | y <;> rw [y] <;> decide)
    refine ⟨c / 6 % (2 ^ w - 1) * 2 ^ f + c / 6 / 7 % 2 * (2 ^ f - 1), ?_, ?_, by simp [fn47, d1, d2, s1, s2, s5, s6, x5, z, p1', mm]⟩
    · rcases q with y | y <;> rw [y] <;> omega
    · rcases q with y | y <;> rw [y] <;> omega
  · exact ⟨c / 6 * 73846150927364518273645509182736455091827 % (2 ^ (w + f) - 2 ^ f), Int.emod_nonneg _ (by omega), Int.emod_lt_of_pos _ Ep, by simp [fn47, d1, s1, s5, x5, z, Ep', mb]⟩
  · exact ⟨c / 6 * 73846150927364518273645509182736455091827 % (2 ^ (w + f) - 2 ^ f), Int.emod_nonneg _ (by omega), Int.emod_lt_of_pos _ Ep, by simp [fn47, d1, s1, s5, x5, z, Ep', mb]⟩
end Pg

namespace Pg
open PySem L2 Rm
open PySem.Builtin.Int (intBits)
theorem s_nonum (w f : Nat) (hw : w ≤ 15) (hw2 : 2 ≤ w) (hf1 : 1 ≤ f) (hf : f ≤ 112) (n : Nat) (h : HP) : run p.T p.fs (n + 2) 5 [.tup [.int w, .int f]] h = .ok (.int (2 ^ (w + f) - 2 ^ f + 2 ^ (f - 1))) h := by
  rw [run_eq (F := fn5) rfl rfl]
  have e := s_endless w f (by omega) (by omega) n h
  have s2 := shlB_one (b := (f : Int) - 1) (by omega) (by omega)
  have x5 : (2 ^ w - 1) * (2 : Int) ^ f = 2 ^ (w + f) - 2 ^ f := by rw [Int.sub_mul, ← Int.pow_add, Int.one_mul]
  have pw := p2 w
  have eF : (2 : Int) ^ f = 2 * 2 ^ (f - 1) := by rw [← pow_s, Nat.sub_add_cancel hf1]
  have pv := p2 (f - 1)
  have o := or_lowC (q := 2 ^ w - 1) (r := 2 ^ (f - 1)) (k := f) (by omega) (by omega) (by omega)
  rw [x5] at o
  simp [fn5, e, s2, o]
end Pg

namespace Pg
open PySem L2 Rm
open PySem.Builtin.Int (intBits)
/-! reads_back: whether a spelling is read to just that number -/
def rdIn (f : Nat) (code V B : Int) : Bool :=
  if (lv f code + lv f (code + 1)) * B ≤ 2 * V then decide (2 * V = (lv f code + lv f (code + 1)) * B) && decide (code % 2 = 0)
  else if code = 0 then true else decide ((lv f (code - 1) + lv f code) * B < 2 * V) || (decide (2 * V = (lv f (code - 1) + lv f code) * B) && decide (code % 2 = 0))
theorem rd_stl {w f : Nat} (hw2 : 2 ≤ w) {V B c r : Int} (F : Fr f V B c r) (s : Int) {code : Int} (c0 : 0 ≤ code) (c1 : code < 2 ^ (w + f) - 2 ^ f) : decide ((stl w f 0 s c r).1 = code) = rdIn f code V B := by
  have E3 := end_3 (f := f) hw2
  have pf := p2 f
  have b0 := F.b0
  have cc := F.c0
  have lo := F.lo
  have hi := F.hi
  have rr := F.rst
  have le (x y : Int) (x0 : 0 ≤ x) (xy : x ≤ y) : lv f x * B ≤ lv f y * B := Int.mul_le_mul_of_nonneg_right (lv_le x0 xy) (Int.le_of_lt b0)
  have lt (x y : Int) (x0 : 0 ≤ x) (xy : x < y) : lv f x * B < lv f y * B := Int.mul_lt_mul_of_pos_right (lv_lt x0 xy) b0
  unfold rdIn
  rw [Int.add_mul, Int.add_mul]
  have s1 := lt code (code + 1) c0 (by omega)
  -- below the number itself
  have below (h : c + 1 < code ∨ (c + 1 = code ∧ False) ∨ (c < code ∧ V = lv f c * B)) : (if lv f code * B + lv f (code + 1) * B ≤ 2 * V then decide (2 * V = lv f code * B + lv f (code + 1) * B) && decide (code % 2 = 0) else if code = 0 then true else decide (lv f (code - 1) * B + lv f code * B < 2 * V) || (decide (2 * V = lv f (code - 1) * B + lv f code * B) && decide (code % 2 = 0))) = false := by
    have k : 1 ≤ code := by omega
    have s2 := lt (code - 1) code (by omega) (by omega)
    have hV : V < lv f code * B ∧ 2 * V < lv f (code - 1) * B + lv f code * B := by
      rcases h with h | h | h
      · have := le (c + 1) (code - 1) (by omega) (by omega); omega
      · exact h.2.elim
      · have := le c (code - 1) (by omega) (by omega); omega
    rw [if_neg (by omega), if_neg (by omega), decide_eq_false (by omega), decide_eq_false (by omega)]; rfl
  have above (h : code < c) : (if lv f code * B + lv f (code + 1) * B ≤ 2 * V then decide (2 * V = lv f code * B + lv f (code + 1) * B) && decide (code % 2 = 0) else if code = 0 then true else decide (lv f (code - 1) * B + lv f code * B < 2 * V) || (decide (2 * V = lv f (code - 1) * B + lv f code * B) && decide (code % 2 = 0))) = false := by
    have := le (code + 1) c (by omega) (by omega)
    rw [if_pos (by omega), decide_eq_false (by omega)]; rfl
  unfold stl
  by_cases h1 : 2 ^ (w + f) - 2 ^ f ≤ c
  · rw [if_pos h1]
    have : bst 0 s = true := rfl
    rw [this, if_pos rfl, above (by omega)]
    exact decide_eq_false (by dsimp only; omega)
  rw [if_neg h1]
  by_cases h2 : r = 0
  · rw [if_pos h2]
    have hV : V = lv f c * B := by
      rw [h2] at rr
      unfold rs at rr
      by_cases y : V - lv f c * B = 0
      · omega
      · rw [if_neg y] at rr
        split at rr
        · cases rr
        · split at rr <;> cases rr
    dsimp only
    rcases Int.lt_trichotomy c code with z | z | z
    · rw [below (.inr (.inr ⟨z, hV⟩)), decide_eq_false (by omega)]
    · subst z
      rw [decide_eq_true rfl, if_neg (by omega)]
      by_cases k : c = 0
      · rw [if_pos k]
      · have s2 := lt (c - 1) c (by omega) (by omega)
        rw [if_neg k, decide_eq_true (by omega)]; rfl
    · rw [above z, decide_eq_false (by omega)]
  rw [if_neg h2]
  have hV : lv f c * B < V := by
    rcases Int.lt_or_eq_of_le lo with y | y
    · exact y
    · exfalso; apply h2; rw [rr, ← y]; simp [rs]
  have ge : grw 0 s (decide (c % 2 = 1)) r = if r = 2 then decide (c % 2 = 1) else decide (r = 3) := rfl
  rw [ge]
  have gd : (lv f (c + 1) - lv f c) * B = lv f (c + 1) * B - lv f c * B := Int.sub_mul ..
  rw [gd] at rr
  unfold rs at rr
  rw [if_neg (by omega)] at rr
  dsimp only
  rcases Int.lt_trichotomy (2 * (V - lv f c * B)) (lv f (c + 1) * B - lv f c * B) with d | d | d
  · rw [if_pos d] at rr
    subst rr
    have : (if (if (1 : Int) = 2 then decide (c % 2 = 1) else decide ((1 : Int) = 3)) = true then c + 1 else c) = c := by simp
    rw [this]
    rcases Int.lt_trichotomy c code with z | z | z
    · rw [decide_eq_false (by omega)]
      by_cases y : c + 1 = code
      · subst y
        have e : c + 1 - 1 = c := by omega
        rw [e, if_neg (by omega), if_neg (by omega), decide_eq_false (by omega), decide_eq_false (by omega)]; rfl
      · rw [below (.inl (by omega))]
    · subst z
      rw [decide_eq_true rfl, if_neg (by omega)]
      by_cases k : c = 0
      · rw [if_pos k]
      · have s2 := lt (c - 1) c (by omega) (by omega)
        rw [if_neg k, decide_eq_true (by omega)]; rfl
    · rw [above z, decide_eq_false (by omega)]
  · rw [if_neg (by omega), if_pos d] at rr
    subst rr
    rw [if_pos rfl]
    obtain ⟨e, he, h0⟩ : ∃ e, (if decide (c % 2 = 1) = true then c + 1 else c) = e ∧ ((c % 2 = 1 ∧ e = c + 1) ∨ (c % 2 = 0 ∧ e = c)) := by
      by_cases o : c % 2 = 1
      · exact ⟨c + 1, by simp [o], .inl ⟨o, rfl⟩⟩
      · exact ⟨c, by simp [o], .inr ⟨by omega, rfl⟩⟩
    rw [he]
    rcases Int.lt_trichotomy c code with z | z | z
    · by_cases y : c + 1 = code
      · subst y
        have e1 : c + 1 - 1 = c := by omega
        have k1 : ¬ lv f (c + 1) * B + lv f (c + 1 + 1) * B ≤ 2 * V := by omega
        have k2 : ¬ c + 1 = 0 := by omega
        have k3 : ¬ lv f c * B + lv f (c + 1) * B < 2 * V := by omega
        have k4 : 2 * V = lv f c * B + lv f (c + 1) * B := by omega
        have k5 : (e = c + 1) = ((c + 1) % 2 = 0) := by apply propext; omega
        rw [e1, if_neg k1, if_neg k2, decide_eq_false k3, decide_eq_true k4, Bool.false_or, Bool.true_and]
        exact decide_eq_decide.mpr (by rw [k5])
      · rw [below (.inl (by omega))]
        exact decide_eq_false (by omega)
    · subst z
      have k4 : 2 * V = lv f c * B + lv f (c + 1) * B := by omega
      have k1 : lv f c * B + lv f (c + 1) * B ≤ 2 * V := by omega
      rw [if_pos k1, decide_eq_true k4, Bool.true_and]
      exact decide_eq_decide.mpr (by omega)
    · rw [above z]
      exact decide_eq_false (by omega)
  · rw [if_neg (by omega), if_neg (by omega)] at rr
    subst rr
    have : (if (if (3 : Int) = 2 then decide (c % 2 = 1) else decide ((3 : Int) = 3)) = true then c + 1 else c) = c + 1 := by simp
    rw [this]
    rcases Int.lt_trichotomy c code with z | z | z
    · by_cases y : c + 1 = code
      · subst y
        have e : c + 1 - 1 = c := by omega
        rw [e, decide_eq_true rfl, if_neg (by omega), if_neg (by omega), decide_eq_true (by omega)]; rfl
      · rw [below (.inl (by omega)), decide_eq_false (by omega)]
    · subst z
      rw [decide_eq_false (by omega), if_pos (by omega), decide_eq_false (by omega)]; rfl
    · rw [above z, decide_eq_false (by omega)]
/-- top and bottom of a spelling's value -/
def spT (F P : Int) : Int := if P < 0 then F else F * 10 ^ P.toNat
def spB (P : Int) : Int := if P < 0 then 10 ^ (-P).toNat else 1
theorem spB_pos (P : Int) : 1 ≤ spB P := by
  unfold spB; split
  · have : (0 : Int) < 10 ^ (-P).toNat := Int.pow_pos (by decide)
    omega
  · decide
theorem spT_nn {F : Int} (hF : 0 ≤ F) (P : Int) : 0 ≤ spT F P := by
  unfold spT; split
  · exact hF
  · exact Int.mul_nonneg hF (Int.le_of_lt (Int.pow_pos (by decide)))
theorem b10 (j : Nat) (hj : j ≤ 20000) : intBits ((10 : Int) ^ j) ≤ 80001 := ib_mono (ib10 j) (by omega)
theorem spT_bits {F P : Int} (hF : intBits F ≤ 200000) (p2 : P ≤ 20000) : intBits (spT F P) ≤ 300000 := by
  unfold spT; split
  · omega
  · exact ib_mono (intBits_mul_le hF (b10 _ (by omega))) (by decide)
theorem spB_bits {P : Int} (p1 : -20000 ≤ P) : intBits (spB P) ≤ 90000 := by
  unfold spB; split
  · exact ib_mono (b10 _ (by omega)) (by decide)
  · exact ib_mono ib_one (by decide)
theorem code_fd {w f : Nat} {c s : Int} (hs : s = 0 ∨ s = 1) (c0 : 0 ≤ c) (c1 : c < 2 ^ (w + f) - 2 ^ f) : 0 ≤ c + s * 2 ^ (w + f) ∧ c + s * 2 ^ (w + f) < 2 ^ (w + f + 1) ∧ fdOf w f (c + s * 2 ^ (w + f)) ≠ 2 ^ w - 1 ∧ (c + s * 2 ^ (w + f)) / 2 ^ (w + f) = s := by
  have pf := p2 f
  have pw := p2 (w + f)
  have ew := pow_s (w + f)
  have e : (c + s * 2 ^ (w + f)) / 2 ^ (w + f) = s := by
    rw [Int.add_mul_ediv_right _ _ (Int.ne_of_gt pw), Int.ediv_eq_zero_of_lt c0 (by omega), Int.zero_add]
  have em : (c + s * 2 ^ (w + f)) % 2 ^ (w + f) = c := by
    rw [Int.add_mul_emod_self_right, Int.emod_eq_of_lt c0 (by omega)]
  refine ⟨by rcases hs with z | z <;> subst z <;> omega, by rcases hs with z | z <;> subst z <;> omega, ?_, e⟩
  have e2 : fdOf w f (c + s * 2 ^ (w + f)) = c / 2 ^ f := by
    have := mod_div_pow (c + s * 2 ^ (w + f)) w f
    unfold fdOf
    rw [← this, em]
  rw [e2]
  intro q
  have h1 := Int.mul_ediv_add_emod c (2 ^ f)
  have h2 := mn c f
  rw [q] at h1
  have h3 : (2 : Int) ^ f * (2 ^ w - 1) = 2 ^ (w + f) - 2 ^ f := by rw [Int.mul_sub, ← Int.pow_add, Int.mul_one, Nat.add_comm]
  omega
theorem s_reads (w f : Nat) (hw2 : 2 ≤ w) (hw : w ≤ 20) (hf1 : 1 ≤ f) (hf : f ≤ 200) (n : Nat) (h : HP) {c s : Int} (hs : s = 0 ∨ s = 1) (c0 : 0 ≤ c) (c1 : c < 2 ^ (w + f) - 2 ^ f) {F P : Int} (hF : 0 ≤ F) (bF : intBits F ≤ 200000) (q1 : -20000 ≤ P) (q2 : P ≤ 20000) :
    run p.T p.fs (n + 6) 34 [.tup [.int w, .int f], .int (c + s * 2 ^ (w + f)), .int F, .int P] h = .ok (.bl (rdIn f c (spT F P * 2 ^ stp0 w f) (spB P))) h := by
  obtain ⟨a1, a2, a3, a4⟩ := code_fd hs c0 c1
  have fr := s_fraction w f (by omega) hw hf (n + 1) h a1 a2 a3
  rw [a4] at fr
  have tb := spT_bits (P := P) bF q2
  have bb := spB_bits q1
  obtain ⟨cc, r, C, er⟩ := s_rounded w f hw2 hw hf1 hf n h 0 (by decide) hs (spT_nn hF P) (spB_pos P) (by omega) (by omega)
  have rd := rd_stl hw2 (C.fr (by have := spB_pos P; omega)) s c0 c1
  have wn : wayN 0 = "even" := rfl
  rw [wn] at er
  have eqd : decide (s * 2 ^ (w + f) + (stl w f 0 s cc r).1 = c + s * 2 ^ (w + f)) = decide ((stl w f 0 s cc r).1 = c) := decide_eq_decide.mpr (by omega)
  rw [← rd, ← eqd]
  obtain ⟨A1, hA1⟩ : ∃ X, s * 2 ^ (w + f) + (stl w f 0 s cc r).1 = X := ⟨_, rfl⟩
  obtain ⟨A2, hA2⟩ : ∃ X, (stl w f 0 s cc r).2 = X := ⟨_, rfl⟩
  rw [hA1, hA2] at er
  rw [hA1]
  obtain ⟨A3, hA3⟩ : ∃ X, c + s * 2 ^ (w + f) = X := ⟨_, rfl⟩
  rw [hA3] at fr ⊢
  rw [run_eq (F := fn34) rfl rfl]
  by_cases z : P < 0
  · have te := s_ten_to (n + 4) h (-P) (by omega) (by omega)
    have e1 : spT F P = F := by unfold spT; rw [if_pos z]
    have e2 : spB P = 10 ^ (-P).toNat := by unfold spB; rw [if_pos z]
    rw [e1, e2] at er
    obtain ⟨U, hU⟩ : ∃ X : Int, (10 : Int) ^ (-P).toNat = X := ⟨_, rfl⟩
    rw [hU] at te er
    simp -implicitDefEqProofs [fn34, fr, z, te, er]
  · have te := s_ten_to (n + 4) h P (by omega) (by omega)
    have e1 : spT F P = F * 10 ^ P.toNat := by unfold spT; rw [if_neg z]
    have e2 : spB P = 1 := by unfold spB; rw [if_neg z]
    rw [e1, e2] at er
    have mb : mulB F (10 ^ P.toNat) = true := mulB_of bF (b10 _ (by omega)) (by decide)
    obtain ⟨U, hU⟩ : ∃ X : Int, (10 : Int) ^ P.toNat = X := ⟨_, rfl⟩
    rw [hU] at te er mb
    simp -implicitDefEqProofs [fn34, fr, z, te, mb, er]
/-- refused: what fraction refuses -/
theorem s_reads_exc (n : Nat) (h : HP) (a b x y : MV) (e : MX) (hf : run p.T p.fs n 9 [a, b] h = .exc e h) : run p.T p.fs (n + 1) 34 [a, b, x, y] h = .exc e h := by
  rw [run_eq (F := fn34) rfl rfl]
  simp [fn34, hf]
theorem s_short_exc (n : Nat) (h : HP) (a b : MV) (e : MX) (hf : run p.T p.fs n 9 [a, b] h = .exc e h) : run p.T p.fs (n + 1) 40 [a, b] h = .exc e h := by
  rw [run_eq (F := fn40) rfl rfl]
  simp [fn40, hf]
end Pg

namespace Pg
open PySem L2 Rm
open PySem.Builtin.Int (intBits)
/-! the shortest spelling: the plain part -/
def absI (x : Int) : Int := if x < 0 then -x else x
def wi (lo hi : Int) (e : Bool) (p : Int) : Bool := if p = lo ∨ p = hi then e else decide (lo < p) && decide (p < hi)
theorem wi_mul (lo hi : Int) (e : Bool) (p : Int) {k : Int} (hk : 0 < k) : wi (lo * k) (hi * k) e (p * k) = wi lo hi e p := by
  unfold wi
  have e1 : (p * k = lo * k) = (p = lo) := propext (Int.mul_eq_mul_right_iff (Int.ne_of_gt hk))
  have e2 : (p * k = hi * k) = (p = hi) := propext (Int.mul_eq_mul_right_iff (Int.ne_of_gt hk))
  have e3 : (lo * k < p * k) = (lo < p) := propext (Int.mul_lt_mul_right hk)
  have e4 : (p * k < hi * k) = (p < hi) := propext (Int.mul_lt_mul_right hk)
  simp only [e1, e2, e3, e4]
theorem absI_mul (x : Int) {k : Int} (hk : 0 < k) : absI (x * k) = absI x * k := by
  unfold absI
  by_cases z : x < 0
  · rw [if_pos z, if_pos (Int.mul_neg_of_neg_of_pos z hk), Int.neg_mul]
  · rw [if_neg z, if_neg (by have := Int.mul_nonneg (show 0 ≤ x by omega) (Int.le_of_lt hk); omega)]
/-- the better figures at a unit, 0 where none reads back -/
def figJ (Y u lo hi : Int) (e : Bool) : Int :=
  if wi lo hi e (2 * (Y / u * u)) = true then (if wi lo hi e (2 * ((Y / u + 1) * u)) = true then (if 0 < 2 * Y - (2 * (Y / u) + 1) * u ∨ (2 * Y - (2 * (Y / u) + 1) * u = 0 ∧ Y / u % 2 = 1) then Y / u + 1 else Y / u) else Y / u)
  else if wi lo hi e (2 * ((Y / u + 1) * u)) = true then Y / u + 1 else 0
theorem div_mul (Y : Int) {u k : Int} (hk : 0 < k) : Y * k / (u * k) = Y / u := by
  rw [Int.mul_comm Y, Int.mul_comm u]; exact Int.mul_ediv_mul_of_pos _ _ hk
theorem figJ_mul (Y u lo hi : Int) (e : Bool) {k : Int} (hk : 0 < k) : figJ (Y * k) (u * k) (lo * k) (hi * k) e = figJ Y u lo hi e := by
  unfold figJ
  rw [div_mul Y hk]
  have a1 : 2 * (Y / u * (u * k)) = 2 * (Y / u * u) * k := by grind
  have a2 : 2 * ((Y / u + 1) * (u * k)) = 2 * ((Y / u + 1) * u) * k := by grind
  have a3 : 2 * (Y * k) - (2 * (Y / u) + 1) * (u * k) = (2 * Y - (2 * (Y / u) + 1) * u) * k := by grind
  have a4 : (0 < (2 * Y - (2 * (Y / u) + 1) * u) * k) = (0 < 2 * Y - (2 * (Y / u) + 1) * u) := by
    have h : (0 * k < (2 * Y - (2 * (Y / u) + 1) * u) * k) = (0 < 2 * Y - (2 * (Y / u) + 1) * u) := propext (Int.mul_lt_mul_right hk)
    rw [Int.zero_mul] at h; exact h
  have a5 : ((2 * Y - (2 * (Y / u) + 1) * u) * k = 0) = (2 * Y - (2 * (Y / u) + 1) * u = 0) := propext ⟨fun z => (Int.mul_eq_zero.mp z).resolve_right (Int.ne_of_gt hk), fun z => by rw [z, Int.zero_mul]⟩
  rw [a1, a2, wi_mul _ _ _ _ hk, wi_mul _ _ _ _ hk, a3]
  simp only [a4, a5]
/-- the figures read back, none shorter does, none as short is nearer -/
structure Best (u Y lo hi : Int) (e : Bool) (F : Int) : Prop where
  inn : wi lo hi e (2 * (F * u)) = true
  ten : 9 < F → wi lo hi e (2 * (Y / (10 * u) * (10 * u))) = false ∧ wi lo hi e (2 * ((Y / (10 * u) + 1) * (10 * u))) = false
  near : ∀ o, (o = Y / u * u ∨ o = (Y / u + 1) * u) → wi lo hi e (2 * o) = true → absI (2 * (F * u) - 2 * Y) < absI (2 * o - 2 * Y) ∨ (absI (2 * (F * u) - 2 * Y) = absI (2 * o - 2 * Y) ∧ (o = F * u ∨ F % 2 = 0))
  one : F = 1 → wi (10 * lo) (10 * hi) e (9 * (2 * u)) = true → 10 * absI (2 * (F * u) - 2 * Y) ≤ absI (9 * (2 * u) - 10 * (2 * Y))
theorem Best.scale {u Y lo hi : Int} {e : Bool} {F k : Int} (hk : 0 < k) (B : Best (u * k) (Y * k) (lo * k) (hi * k) e F) : Best u Y lo hi e F := by
  have b1 : 2 * (F * (u * k)) = 2 * (F * u) * k := by grind
  have b2 : 2 * (F * u) * k - 2 * (Y * k) = (2 * (F * u) - 2 * Y) * k := by grind
  have k2 : (10 : Int) * (u * k) = 10 * u * k := by grind
  refine ⟨?_, fun h => ?_, fun o ho hw => ?_, fun h hw => ?_⟩
  · have := B.inn
    rw [b1, wi_mul _ _ _ _ hk] at this; exact this
  · obtain ⟨t1, t2⟩ := B.ten h
    rw [k2, div_mul Y hk] at t1 t2
    have c1 : 2 * (Y / (10 * u) * (10 * u * k)) = 2 * (Y / (10 * u) * (10 * u)) * k := by grind
    have c2 : 2 * ((Y / (10 * u) + 1) * (10 * u * k)) = 2 * ((Y / (10 * u) + 1) * (10 * u)) * k := by grind
    rw [c1, wi_mul _ _ _ _ hk] at t1
    rw [c2, wi_mul _ _ _ _ hk] at t2
    exact ⟨t1, t2⟩
  · have h1 : o * k = Y * k / (u * k) * (u * k) ∨ o * k = (Y * k / (u * k) + 1) * (u * k) := by
      rw [div_mul Y hk]
      rcases ho with h | h
      · left; rw [h]; grind
      · right; rw [h]; grind
    have c1 : 2 * (o * k) = 2 * o * k := by grind
    have c2 : 2 * o * k - 2 * (Y * k) = (2 * o - 2 * Y) * k := by grind
    have n := B.near (o * k) h1 (by rw [c1, wi_mul _ _ _ _ hk]; exact hw)
    rw [b1, b2, c1, c2, absI_mul _ hk, absI_mul _ hk] at n
    rcases n with n | ⟨n1, n2⟩
    · exact .inl ((Int.mul_lt_mul_right hk).mp n)
    · refine .inr ⟨(Int.mul_eq_mul_right_iff (Int.ne_of_gt hk)).mp n1, n2.imp (fun q => ?_) fun q => q⟩
      have : F * (u * k) = F * u * k := by grind
      rw [this] at q
      exact (Int.mul_eq_mul_right_iff (Int.ne_of_gt hk)).mp q
  · have c1 : 10 * (lo * k) = 10 * lo * k := by grind
    have c2 : 10 * (hi * k) = 10 * hi * k := by grind
    have c3 : 9 * (2 * (u * k)) = 9 * (2 * u) * k := by grind
    have c4 : 9 * (2 * u) * k - 10 * (2 * (Y * k)) = (9 * (2 * u) - 10 * (2 * Y)) * k := by grind
    have n := B.one h (by rw [c1, c2, c3, wi_mul _ _ _ _ hk]; exact hw)
    rw [b1, b2, c3, c4, absI_mul _ hk, absI_mul _ hk, ← Int.mul_assoc] at n
    exact Int.le_of_mul_le_mul_right n hk
theorem fl {Y u : Int} (hu : 0 < u) : Y / u * u ≤ Y ∧ Y < (Y / u + 1) * u := by
  have h1 := Int.mul_ediv_add_emod Y u
  have h2 := Int.emod_nonneg Y (Int.ne_of_gt hu)
  have h3 := Int.emod_lt_of_pos Y hu
  have h4 : Y / u * u = u * (Y / u) := Int.mul_comm ..
  rw [Int.add_mul, Int.one_mul]
  omega
theorem fl_uniq {Y u l : Int} (hu : 0 < u) (h1 : l * u ≤ Y) (h2 : Y < (l + 1) * u) : Y / u = l := by
  have h3 : l ≤ Y / u := (Int.le_ediv_iff_mul_le hu).mpr h1
  have h4 : Y / u < l + 1 := (Int.ediv_lt_iff_lt_mul hu).mpr h2
  omega
theorem figJ_in {Y u lo hi : Int} {e : Bool} (h : figJ Y u lo hi e ≠ 0) : (figJ Y u lo hi e = Y / u ∨ figJ Y u lo hi e = Y / u + 1) ∧ wi lo hi e (2 * (figJ Y u lo hi e * u)) = true ∧
    (wi lo hi e (2 * (Y / u * u)) = true → wi lo hi e (2 * ((Y / u + 1) * u)) = true → figJ Y u lo hi e = if 0 < 2 * Y - (2 * (Y / u) + 1) * u ∨ (2 * Y - (2 * (Y / u) + 1) * u = 0 ∧ Y / u % 2 = 1) then Y / u + 1 else Y / u) := by
  unfold figJ at h ⊢
  by_cases a : wi lo hi e (2 * (Y / u * u)) = true
  · rw [if_pos a] at h ⊢
    by_cases b : wi lo hi e (2 * ((Y / u + 1) * u)) = true
    · rw [if_pos b] at h ⊢
      split
      · exact ⟨.inr rfl, b, fun _ _ => rfl⟩
      · exact ⟨.inl rfl, a, fun _ _ => rfl⟩
    · rw [if_neg b] at h ⊢
      exact ⟨.inl rfl, a, fun _ q => absurd q b⟩
  · rw [if_neg a] at h ⊢
    by_cases b : wi lo hi e (2 * ((Y / u + 1) * u)) = true
    · rw [if_pos b] at h ⊢
      exact ⟨.inr rfl, b, fun q => absurd q a⟩
    · rw [if_neg b] at h
      exact absurd rfl h
theorem figJ_zero {Y u lo hi : Int} {e : Bool} (hu : 0 < u) (hY : u ≤ Y) (h : figJ Y u lo hi e = 0) : wi lo hi e (2 * (Y / u * u)) = false ∧ wi lo hi e (2 * ((Y / u + 1) * u)) = false := by
  have l1 : 1 ≤ Y / u := (Int.le_ediv_iff_mul_le hu).mpr (by omega)
  unfold figJ at h
  by_cases a : wi lo hi e (2 * (Y / u * u)) = true
  · rw [if_pos a] at h
    split at h
    · split at h <;> omega
    · omega
  · rw [if_neg a] at h
    by_cases b : wi lo hi e (2 * ((Y / u + 1) * u)) = true
    · rw [if_pos b] at h; omega
    · exact ⟨by simpa using a, by simpa using b⟩
theorem p10 (n : Nat) : (0 : Int) < 10 ^ n := Int.pow_pos (by decide)
/-- what the search finds, its noughts taken off -/
theorem best_of {D Y lo hi : Int} {e : Bool} (hD : 0 < D) {J k z : Nat} (hk : k ≤ J) (hJ : D * 10 ^ J ≤ Y) (hJ2 : Y < D * 10 ^ (J + 1)) (hf : figJ Y (D * 10 ^ (J - k)) lo hi e ≠ 0) (h0 : ∀ i, i < k → figJ Y (D * 10 ^ (J - i)) lo hi e = 0)
    {F : Int} (hz : figJ Y (D * 10 ^ (J - k)) lo hi e = F * 10 ^ z) (hF : F % 10 ≠ 0) : Best (D * 10 ^ (J - k + z)) Y lo hi e F ∧ 0 < F ∧ F ≤ 10 ^ (k + 1) ∧ (z = 0 ∨ (z = 1 ∧ k = 0 ∧ F = 1)) := by
  have up (j : Nat) : 0 < D * 10 ^ j := Int.mul_pos hD (p10 j)
  have us (j i : Nat) : D * 10 ^ (j + i) = D * 10 ^ j * 10 ^ i := by rw [Int.pow_add, Int.mul_assoc]
  have us1 (j : Nat) : D * 10 ^ (j + 1) = 10 * (D * 10 ^ j) := by rw [Int.pow_succ]; grind
  obtain ⟨j, hj⟩ : ∃ j, J - k = j := ⟨_, rfl⟩
  rw [hj] at hf hz ⊢
  have jk : j + k = J := by omega
  obtain ⟨G, hG⟩ : ∃ G, figJ Y (D * 10 ^ j) lo hi e = G := ⟨_, rfl⟩
  obtain ⟨g1, g2, g3⟩ := figJ_in hf
  rw [hG] at g1 g2 g3 hz
  have u0 := up j
  obtain ⟨f1, f2⟩ := fl (Y := Y) u0
  obtain ⟨l, hl⟩ : ∃ l, Y / (D * 10 ^ j) = l := ⟨_, rfl⟩
  rw [hl] at g1 g3 f1 f2
  have eJ : D * 10 ^ J = D * 10 ^ j * 10 ^ k := by rw [← jk]; exact us j k
  have eJ1 : D * 10 ^ (J + 1) = D * 10 ^ j * 10 ^ (k + 1) := by rw [show J + 1 = j + (k + 1) by omega]; exact us j (k + 1)
  have l_lo : 10 ^ k ≤ l := by rw [← hl]; exact (Int.le_ediv_iff_mul_le u0).mpr (by rw [Int.mul_comm, ← eJ]; exact hJ)
  have l_hi : l < 10 ^ (k + 1) := by rw [← hl]; exact (Int.ediv_lt_iff_lt_mul u0).mpr (by rw [Int.mul_comm, ← eJ1]; exact hJ2)
  have pk := p10 k
  have pk1 : (10 : Int) ^ (k + 1) = 10 * 10 ^ k := by rw [Int.pow_succ, Int.mul_comm]
  have F0 : 0 < F := by
    have pz := p10 z
    rcases Int.lt_or_le 0 F with q | q
    · exact q
    · exfalso
      have : F * 10 ^ z ≤ 0 := Int.mul_nonpos_of_nonpos_of_nonneg q (Int.le_of_lt pz)
      omega
  -- how many noughts there may be
  have key : z = 0 ∨ (z = 1 ∧ k = 0 ∧ F = 1 ∧ l = 9 ∧ G = 10) := by
    by_cases z0 : z = 0
    · exact .inl z0
    right
    have pz := p10 z
    obtain ⟨Z, hZ⟩ : ∃ Z : Int, (10 : Int) ^ z = Z := ⟨_, rfl⟩
    have Z10 : 10 ≤ Z := by
      obtain ⟨y, hy⟩ : ∃ y, z = y + 1 := ⟨z - 1, by omega⟩
      rw [← hZ, hy, Int.pow_succ]
      have := p10 y
      omega
    rw [hZ] at hz pz
    have u1 := us j z
    rw [hZ] at u1
    obtain ⟨u, hu⟩ : ∃ u, D * 10 ^ j = u := ⟨_, rfl⟩
    rw [hu] at u1 u0 f1 f2 g2 g3 eJ eJ1
    have zk : ¬ z ≤ k := by
      intro zk
      have e1 : J - (k - z) = j + z := by omega
      have q0 := h0 (k - z) (by omega)
      rw [e1] at q0
      have le : D * 10 ^ (j + z) ≤ Y := by
        refine Int.le_trans ?_ hJ
        have h1 : (10 : Int) ^ (j + z) ≤ 10 ^ J := by
          have := Nat.pow_le_pow_right (show 0 < 10 by decide) (show j + z ≤ J by omega)
          exact_mod_cast this
        exact Int.mul_le_mul_of_nonneg_left h1 (Int.le_of_lt hD)
      obtain ⟨n1, n2⟩ := figJ_zero (up (j + z)) le q0
      rw [u1] at n1 n2
      have uz : 0 < u * Z := Int.mul_pos u0 (by omega)
      have eF : F * (u * Z) = G * u := by rw [hz]; grind
      rcases g1 with g | g
      · have d : Y / (u * Z) = F := by
          refine fl_uniq uz (by rw [eF, g]; exact f1) ?_
          have : (F + 1) * (u * Z) = (G + Z) * u := by rw [hz]; grind
          rw [this, g]
          have : (l + 1) * u ≤ (l + Z) * u := Int.mul_le_mul_of_nonneg_right (by omega) (Int.le_of_lt u0)
          omega
        rw [d, eF, g2] at n1
        cases n1
      · have d : Y / (u * Z) = F - 1 := by
          refine fl_uniq uz ?_ ?_
          · have : (F - 1) * (u * Z) = (G - Z) * u := by rw [hz]; grind
            rw [this, g]
            have : (l + 1 - Z) * u ≤ l * u := Int.mul_le_mul_of_nonneg_right (by omega) (Int.le_of_lt u0)
            omega
          · have : F - 1 + 1 = F := by omega
            rw [this, eF, g]; exact f2
        have : F - 1 + 1 = F := by omega
        rw [d, this, eF, g2] at n2
        cases n2
    have Zk : 10 ^ (k + 1) ≤ Z := by
      rw [← hZ]
      have := Nat.pow_le_pow_right (show 0 < 10 by decide) (show k + 1 ≤ z by omega)
      exact_mod_cast this
    have F1 : F = 1 := by
      rcases Int.lt_or_le 1 F with q | q
      · exfalso
        have : 2 * Z ≤ F * Z := Int.mul_le_mul_of_nonneg_right (by omega) (by omega)
        omega
      · omega
    have GZ : G = Z := by rw [hz, F1, Int.one_mul]
    have G1 : G = l + 1 := by omega
    have lz : l + 1 = 10 ^ (k + 1) := by omega
    have zz : z = k + 1 := by
      rcases Nat.lt_or_ge (k + 1) z with q | q
      · exfalso
        have h1 : (10 : Int) ^ (k + 2) ≤ Z := by
          rw [← hZ]
          have := Nat.pow_le_pow_right (show 0 < 10 by decide) (show k + 2 ≤ z by omega)
          exact_mod_cast this
        have h2 : (10 : Int) ^ (k + 2) = 10 * 10 ^ (k + 1) := by rw [Int.pow_succ, Int.mul_comm]
        omega
      · omega
    have k0 : k = 0 := by
      by_cases kz : k = 0
      · exact kz
      exfalso
      have q0 := h0 0 (by omega)
      rw [Nat.sub_zero] at q0
      obtain ⟨n1, n2⟩ := figJ_zero (up J) hJ q0
      rw [eJ] at n1 n2
      have uk : 0 < u * 10 ^ k := Int.mul_pos u0 pk
      have d : Y / (u * 10 ^ k) = 9 := by
        refine fl_uniq uk ?_ ?_
        · have h1 : 9 * (u * 10 ^ k) = 9 * 10 ^ k * u := by grind
          rw [h1]
          have : 9 * 10 ^ k * u ≤ l * u := Int.mul_le_mul_of_nonneg_right (by omega) (Int.le_of_lt u0)
          omega
        · have h1 : (9 + 1) * (u * 10 ^ k) = u * 10 ^ (k + 1) := by rw [pk1]; grind
          rw [h1, ← eJ1]; exact hJ2
      have h1 : (9 + 1) * (u * 10 ^ k) = G * u := by rw [G1, lz, pk1]; grind
      rw [d, h1, g2] at n2
      cases n2
    subst k0
    exact ⟨by omega, rfl, F1, by omega, by omega⟩
  rcases key with z0 | ⟨z1, k0, F1, l9, G10⟩
  · subst z0
    rw [Int.pow_zero, Int.mul_one] at hz
    rw [Nat.add_zero]
    subst hz
    have u10 := us1 j
    obtain ⟨u, hu⟩ : ∃ u, D * 10 ^ j = u := ⟨_, rfl⟩
    rw [hu] at u0 f1 f2 g2 g3 hl u10 eJ eJ1
    rw [hu]
    refine ⟨⟨g2, fun h9 => ?_, fun o ho hw => ?_, fun h1 hw => ?_⟩, F0, by omega, .inl rfl⟩
    · have k1 : 1 ≤ k := by
        by_cases q : k = 0
        · exfalso; subst q; simp at l_hi; omega
        · omega
      have q0 := h0 (k - 1) (by omega)
      have e1 : J - (k - 1) = j + 1 := by omega
      rw [e1] at q0
      have le : D * 10 ^ (j + 1) ≤ Y := by
        refine Int.le_trans ?_ hJ
        have h1 : (10 : Int) ^ (j + 1) ≤ 10 ^ J := by
          have := Nat.pow_le_pow_right (show 0 < 10 by decide) (show j + 1 ≤ J by omega)
          exact_mod_cast this
        exact Int.mul_le_mul_of_nonneg_left h1 (Int.le_of_lt hD)
      have n := figJ_zero (up (j + 1)) le q0
      rw [u10] at n
      exact n
    · rw [hl] at ho
      rw [Int.add_mul, Int.one_mul] at f2
      by_cases same : o = G * u
      · rw [same]
        exact .inr ⟨rfl, .inl rfl⟩
      have both : wi lo hi e (2 * (l * u)) = true ∧ wi lo hi e (2 * ((l + 1) * u)) = true := by
        rcases g1 with g | g <;> rcases ho with h | h
        · exact absurd (by rw [h, g]) same
        · rw [g] at g2; rw [h] at hw; exact ⟨g2, hw⟩
        · rw [g] at g2; rw [h] at hw; exact ⟨hw, g2⟩
        · exact absurd (by rw [h, g]) same
      have b := g3 both.1 both.2
      have ex : (2 * l + 1) * u = 2 * (l * u) + u := by grind
      have ex2 : (l + 1) * u = l * u + u := by grind
      rw [ex] at b
      rw [ex2] at ho
      obtain ⟨W, hW⟩ : ∃ W, l * u = W := ⟨_, rfl⟩
      rw [hW] at b ho f1 f2
      split at b
      · rename_i c
        have oW : o = W := by
          rcases ho with h | h
          · exact h
          · exact absurd (by rw [h, b, ex2, hW]) same
        have FW : G * u = W + u := by rw [b, ex2, hW]
        rw [FW, oW]
        have a1 : absI (2 * (W + u) - 2 * Y) = 2 * (W + u) - 2 * Y := by unfold absI; rw [if_neg (by omega)]
        have a2 : absI (2 * W - 2 * Y) = 2 * Y - 2 * W := by unfold absI; split <;> omega
        rw [a1, a2]
        rcases c with c | ⟨c1, c2⟩
        · exact .inl (by omega)
        · exact .inr ⟨by omega, .inr (by omega)⟩
      · rename_i c
        have oW : o = W + u := by
          rcases ho with h | h
          · exact absurd (by rw [h, b, hW]) same
          · exact h
        have FW : G * u = W := by rw [b, hW]
        rw [FW, oW]
        have a1 : absI (2 * (W + u) - 2 * Y) = 2 * (W + u) - 2 * Y := by unfold absI; rw [if_neg (by omega)]
        have a2 : absI (2 * W - 2 * Y) = 2 * Y - 2 * W := by unfold absI; split <;> omega
        rw [a1, a2]
        by_cases c1 : 2 * Y - (2 * W + u) = 0
        · have : ¬ l % 2 = 1 := fun q => c (.inr ⟨c1, q⟩)
          exact .inr ⟨by omega, .inr (by omega)⟩
        · exact .inl (by omega)
    · subst h1
      have Yu : u ≤ Y := by
        rcases g1 with g | g
        · rw [← g, Int.one_mul] at f1; exact f1
        · have : l = 0 := by omega
          omega
      rw [Int.one_mul]
      have a1 : absI (2 * u - 2 * Y) = 2 * Y - 2 * u := by unfold absI; split <;> omega
      have a2 : absI (9 * (2 * u) - 10 * (2 * Y)) = 10 * (2 * Y) - 9 * (2 * u) := by unfold absI; split <;> omega
      rw [a1, a2]; omega
  · subst z1 k0 F1
    have jJ : j = J := by omega
    subst jJ
    have u10 := us1 j
    rw [u10]
    obtain ⟨u, hu⟩ : ∃ u, D * 10 ^ j = u := ⟨_, rfl⟩
    rw [hu] at u0 f1 f2 g2 g3 hl u10 eJ eJ1
    rw [hu]
    rw [l9] at f1 f2 g3
    rw [G10] at g2 g3
    have Y10 : Y < 10 * u := by omega
    have Y9 : 9 * u ≤ Y := by omega
    have d0 : Y / (10 * u) = 0 := Int.ediv_eq_zero_of_lt (by omega) Y10
    refine ⟨⟨by rw [Int.one_mul]; exact g2, fun h => absurd h (by decide), fun o ho hw => ?_, fun _ hw => ?_⟩, by decide, by decide, .inr ⟨rfl, rfl, rfl⟩⟩
    · rw [d0] at ho
      rcases ho with h | h
      · rw [Int.zero_mul] at h
        subst h
        left
        rw [Int.one_mul]
        have a1 : absI (2 * (10 * u) - 2 * Y) = 2 * (10 * u) - 2 * Y := by unfold absI; rw [if_neg (by omega)]
        have a2 : absI (2 * 0 - 2 * Y) = 2 * Y := by unfold absI; split <;> omega
        rw [a1, a2]; omega
      · have : o = 1 * (10 * u) := by rw [h]; omega
        rw [this]
        exact .inr ⟨rfl, .inl rfl⟩
    · have w1 : wi lo hi e (2 * (9 * u)) = true := by
        have h1 : 9 * (2 * (10 * u)) = 2 * (9 * u) * 10 := by omega
        have h2 : 10 * lo = lo * 10 := by omega
        have h3 : 10 * hi = hi * 10 := by omega
        rw [h1, h2, h3, wi_mul _ _ _ _ (by decide)] at hw
        exact hw
      have b := g3 w1 (by exact g2)
      split at b
      · rename_i c
        have c' : 19 * u ≤ 2 * Y := by omega
        rw [Int.one_mul]
        have a1 : absI (2 * (10 * u) - 2 * Y) = 2 * (10 * u) - 2 * Y := by unfold absI; rw [if_neg (by omega)]
        have a2 : absI (9 * (2 * (10 * u)) - 10 * (2 * Y)) = 10 * (2 * Y) - 9 * (2 * (10 * u)) := by unfold absI; split <;> omega
        rw [a1, a2]; omega
      · exact absurd b (by decide)
end Pg

namespace Pg
open PySem L2 Rm
open PySem.Builtin.Int (intBits)
/-! fields, figures, codes and values -/
theorem code_sp (w f : Nat) (b : Int) : b % 2 ^ (w + f) = 2 ^ f * fdOf w f b + fgOf f b := by
  have e : (2 : Int) ^ (w + f) = 2 ^ f * 2 ^ w := by rw [Int.pow_add, Int.mul_comm]
  rw [e, mod_split (p2 f) (p2 w)]; rfl
theorem lv_wh (w f : Nat) (b : Int) (hw2 : 2 ≤ w) : ∃ m : Int, 0 < m ∧ whOf w f b * 2 ^ (pwOf w f b).toNat * m = lv f (b % 2 ^ (w + f)) ∧ 2 ^ (-pwOf w f b).toNat * m = 2 ^ stp0 w f := by
  have ls := lo_stp (f := f) hw2
  have a := fd_b w f b
  have e1 : b % 2 ^ (w + f) / 2 ^ f = fdOf w f b := mod_div_pow b w f
  have e2 : b % 2 ^ (w + f) % 2 ^ f = fgOf f b := mod_mod_pow b w f
  have cs := code_sp w f b
  unfold lv whOf pwOf
  rw [e1, e2]
  by_cases z : fdOf w f b = 0
  · simp only [z, if_true]
    refine ⟨1, by decide, ?_, ?_⟩
    · have : (loOf w f).toNat = 0 := by omega
      rw [this, cs, z]; simp
    · have : (-loOf w f).toNat = stp0 w f := by omega
      rw [this, Int.mul_one]
  · simp only [z, if_false]
    refine ⟨2 ^ (stp0 w f - (-(loOf w f + fdOf w f b - 1)).toNat), p2 _, ?_, ?_⟩
    · rw [Int.mul_assoc, ← Int.pow_add]
      congr 2; omega
    · rw [← Int.pow_add]; congr 1; omega
theorem fd_last {w f : Nat} (hw : 1 ≤ w) {b : Int} : 2 ^ (w + f) - 2 ^ f ≤ b % 2 ^ (w + f) ↔ fdOf w f b = 2 ^ w - 1 := by
  have cs := code_sp w f b
  have a := fd_b w f b
  have c := fg_b f b
  have e : (2 : Int) ^ (w + f) = 2 ^ f * 2 ^ w := by rw [Int.pow_add, Int.mul_comm]
  have hF := p2 f
  rw [cs, e]
  constructor
  · intro z
    rcases Int.lt_or_le (fdOf w f b) (2 ^ w - 1) with y | y
    · exfalso
      have : 2 ^ f * fdOf w f b ≤ 2 ^ f * (2 ^ w - 2) := Int.mul_le_mul_of_nonneg_left (by omega) (by omega)
      rw [Int.mul_sub] at this
      omega
    · omega
  · intro z
    rw [z, Int.mul_sub]; omega
theorem fd_end {w f : Nat} (hw : 1 ≤ w) {b : Int} : b % 2 ^ (w + f) = 2 ^ (w + f) - 2 ^ f ↔ (fdOf w f b = 2 ^ w - 1 ∧ fgOf f b = 0) := by
  have cs := code_sp w f b
  have l := fd_last (w := w) (f := f) (b := b) hw
  have e : (2 : Int) ^ (w + f) = 2 ^ f * 2 ^ w := by rw [Int.pow_add, Int.mul_comm]
  constructor
  · intro z
    have y := l.mp (by omega)
    rw [y, Int.mul_sub] at cs
    exact ⟨y, by omega⟩
  · intro ⟨z, y⟩
    rw [z, y, Int.mul_sub] at cs
    omega
theorem wh_nought {w f : Nat} {b : Int} : b % 2 ^ (w + f) = 0 ↔ whOf w f b = 0 := by
  have cs := code_sp w f b
  have a := fd_b w f b
  have c := fg_b f b
  have hF := p2 f
  unfold whOf
  constructor
  · intro z
    have : fdOf w f b = 0 := by
      rcases Int.lt_or_le 0 (fdOf w f b) with y | y
      · exfalso
        have : 2 ^ f * 1 ≤ 2 ^ f * fdOf w f b := Int.mul_le_mul_of_nonneg_left (by omega) (by omega)
        omega
      · omega
    rw [this] at cs ⊢
    simp; omega
  · intro z
    split at z
    · rename_i y; rw [y, z] at cs; omega
    · omega
end Pg

namespace Pg
open PySem L2 Rm
open PySem.Builtin.Int (intBits)
/-! the shortest spelling: the walk -/
theorem spT_eq (F P : Int) : spT F P = F * 10 ^ P.toNat := by
  unfold spT; split
  · rw [show P.toNat = 0 by omega]; simp
  · rfl
theorem spB_eq (P : Int) : spB P = 10 ^ (-P).toNat := by
  unfold spB; split
  · rfl
  · rw [show (-P).toNat = 0 by omega]; simp
theorem rd_wi {w f : Nat} {c V B : Int} (c1 : 1 ≤ c) (b0 : 0 < B) : rdIn f c V B = wi ((lv f (c - 1) + lv f c) * B) ((lv f c + lv f (c + 1)) * B) (decide (c % 2 = 0)) (2 * V) := by
  have s1 : lv f (c - 1) * B < lv f c * B := Int.mul_lt_mul_of_pos_right (lv_lt (by omega) (by omega)) b0
  have s2 : lv f c * B < lv f (c + 1) * B := Int.mul_lt_mul_of_pos_right (lv_lt (by omega) (by omega)) b0
  unfold rdIn wi
  rw [Int.add_mul, Int.add_mul]
  obtain ⟨A0, h0⟩ : ∃ A, lv f (c - 1) * B = A := ⟨_, rfl⟩
  obtain ⟨A1, h1⟩ : ∃ A, lv f c * B = A := ⟨_, rfl⟩
  obtain ⟨A2, h2⟩ : ∃ A, lv f (c + 1) * B = A := ⟨_, rfl⟩
  rw [h0, h1] at s1
  rw [h1, h2] at s2
  rw [h0, h1, h2, if_neg (show ¬ c = 0 by omega)]
  by_cases z : A1 + A2 ≤ 2 * V
  · rw [if_pos z]
    by_cases y : 2 * V = A1 + A2
    · rw [if_pos (.inr y), decide_eq_true y, Bool.true_and]
    · rw [if_neg (by omega), decide_eq_false y, decide_eq_false (show ¬ 2 * V < A1 + A2 by omega), Bool.false_and, Bool.and_false]
  · rw [if_neg z]
    by_cases y : 2 * V = A0 + A1
    · rw [if_pos (.inl y), decide_eq_false (by omega), decide_eq_true y, Bool.false_or, Bool.true_and]
    · rw [if_neg (by omega), decide_eq_false y, decide_eq_true (show 2 * V < A1 + A2 by omega), Bool.false_and, Bool.or_false, Bool.and_true]
def nN : Nat := 30000
def jO (P : Int) : Nat := (P + 30000).toNat
theorem kap {P : Int} (h : -30000 ≤ P) : ∃ k : Int, 0 < k ∧ 10 ^ P.toNat * k = 10 ^ jO P ∧ 10 ^ (-P).toNat * k = 10 ^ nN := by
  by_cases z : P < 0
  · refine ⟨10 ^ jO P, p10 _, ?_, ?_⟩
    · rw [show P.toNat = 0 by omega]; simp
    · rw [← Int.pow_add]; congr 1; unfold jO nN; omega
  · refine ⟨10 ^ nN, p10 _, ?_, ?_⟩
    · rw [← Int.pow_add]; congr 1; unfold jO nN; omega
    · rw [show (-P).toNat = 0 by omega]; simp
theorem s_scaledw (n : Nat) (h : HP) {t b P : Int} (bt : intBits t ≤ 100000) (bb : intBits b ≤ 100000) (p1 : -30000 ≤ P) (p2 : P ≤ 30000) : run p.T p.fs (n + 2) 35 [.int t, .int b, .int P] h = .ok (.tup [.int (t * 10 ^ (-P).toNat), .int (b * 10 ^ P.toNat)]) h := by
  rw [run_eq (F := fn35) rfl rfl]
  have bj (j : Nat) (hj : j ≤ 30000) : intBits ((10 : Int) ^ j) ≤ 120001 := ib_mono (ib10 j) (by omega)
  by_cases z : P < 0
  · have te := s_ten_to n h (-P) (by omega) (by omega)
    have mb : mulB t (10 ^ (-P).toNat) = true := mulB_of bt (bj _ (by omega)) (by decide)
    have e0 : P.toNat = 0 := by omega
    rw [e0, Int.pow_zero, Int.mul_one]
    obtain ⟨U, hU⟩ : ∃ U : Int, 10 ^ (-P).toNat = U := ⟨_, rfl⟩
    rw [hU] at te mb ⊢
    simp -implicitDefEqProofs [fn35, z, te, mb]
  · have te := s_ten_to n h P (by omega) (by omega)
    have mb : mulB b (10 ^ P.toNat) = true := mulB_of bb (bj _ (by omega)) (by decide)
    have e0 : (-P).toNat = 0 := by omega
    rw [e0, Int.pow_zero, Int.mul_one]
    obtain ⟨U, hU⟩ : ∃ U : Int, 10 ^ P.toNat = U := ⟨_, rfl⟩
    rw [hU] at te mb ⊢
    simp -implicitDefEqProofs [fn35, z, te, mb]
/-- the number's top and bottom against its place among the values -/
structure TB (t b D Y m : Int) : Prop where
  m0 : 0 < m
  t1 : 0 < t
  b1 : 0 < b
  bt : intBits t ≤ 40000
  bb : intBits b ≤ 40000
  ey : t * m * 10 ^ nN = Y
  ed : b * m = D
theorem TB.le {t b D Y m : Int} (h : TB t b D Y m) {P : Int} (p1 : -30000 ≤ P) : decide (b * 10 ^ P.toNat ≤ t * 10 ^ (-P).toNat) = decide (D * 10 ^ jO P ≤ Y) := by
  obtain ⟨k, k0, k1, k2⟩ := kap p1
  have e1 : D * 10 ^ jO P = b * 10 ^ P.toNat * (m * k) := by rw [← h.ed, ← k1]; grind
  have e2 : Y = t * 10 ^ (-P).toNat * (m * k) := by rw [← h.ey, ← k2]; grind
  rw [e1, e2]
  have mk : 0 < m * k := Int.mul_pos h.m0 k0
  exact decide_eq_decide.mpr ⟨fun z => Int.mul_le_mul_of_nonneg_right z (Int.le_of_lt mk), fun z => Int.le_of_mul_le_mul_right z mk⟩
theorem s_reaches (n : Nat) (h : HP) {t b D Y m P : Int} (T : TB t b D Y m) (p1 : -30000 ≤ P) (p2 : P ≤ 30000) : run p.T p.fs (n + 3) 36 [.int t, .int b, .int P] h = .ok (.bl (decide (D * 10 ^ jO P ≤ Y))) h := by
  rw [run_eq (F := fn36) rfl rfl, ← T.le p1]
  have sc := s_scaledw n h (t := t) (b := b) (P := P) (Nat.le_trans T.bt (by decide)) (Nat.le_trans T.bb (by decide)) p1 p2
  obtain ⟨U, hU⟩ : ∃ U, t * 10 ^ (-P).toNat = U := ⟨_, rfl⟩
  obtain ⟨V, hV⟩ : ∃ U, b * 10 ^ P.toNat = U := ⟨_, rfl⟩
  rw [hU, hV] at sc
  rw [hU, hV]
  simp -implicitDefEqProofs [fn36, sc]
theorem mono10 {D Y : Int} (hD : 0 < D) {i j : Nat} (hij : i ≤ j) (h : D * 10 ^ j ≤ Y) : D * 10 ^ i ≤ Y := by
  refine Int.le_trans ?_ h
  have h1 : (10 : Int) ^ i ≤ 10 ^ j := by
    have := Nat.pow_le_pow_right (show 0 < 10 by decide) hij
    exact_mod_cast this
  exact Int.mul_le_mul_of_nonneg_left h1 (Int.le_of_lt hD)
theorem dec_down (n : Nat) (h : HP) {t b D Y m : Int} (T : TB t b D Y m) (hlo : D * 10 ^ jO (-6000) ≤ Y) : ∀ (d N : Nat) (q : Int), q + 20000 ≤ d → -20000 ≤ q → q ≤ 20000 → d < N →
    ∃ q', q' ≤ q ∧ (-6000 ≤ q' ∨ q' = q) ∧ D * 10 ^ jO q' ≤ Y ∧ (q' = q ∨ Y < D * 10 ^ jO (q' + 1)) ∧ whlL (evE p.T (run p.T p.fs (n + 3)) t37_1) (exSs p.T (run p.T p.fs (n + 3)) w37_1) N [some (.int t), some (.int b), some (.int q)] h = .nx [some (.int t), some (.int b), some (.int q')] h
  | 0, N, q, h1, h2, h3, hN => by
    obtain ⟨M, rfl⟩ := pos_fuel hN
    have D0 : 0 < D := by rw [← T.ed]; exact Int.mul_pos T.b1 T.m0
    have r := s_reaches n h T (P := q) (by omega) (by omega)
    have y : D * 10 ^ jO q ≤ Y := mono10 D0 (by unfold jO; omega) hlo
    rw [decide_eq_true y] at r
    exact ⟨q, Int.le_refl _, .inr rfl, y, .inl rfl, by rw [whlL_succ]; simp [r]⟩
  | d + 1, N, q, h1, h2, h3, hN => by
    obtain ⟨M, rfl⟩ := pos_fuel hN
    have D0 : 0 < D := by rw [← T.ed]; exact Int.mul_pos T.b1 T.m0
    have r := s_reaches n h T (P := q) (by omega) (by omega)
    by_cases y : D * 10 ^ jO q ≤ Y
    · rw [decide_eq_true y] at r
      exact ⟨q, Int.le_refl _, .inr rfl, y, .inl rfl, by rw [whlL_succ]; simp [r]⟩
    · rw [decide_eq_false y] at r
      have q6 : -6000 < q := by
        rcases Int.lt_or_le (-6000) q with z | z
        · exact z
        · exact absurd (mono10 D0 (by unfold jO; omega) hlo) y
      obtain ⟨q', g1, g2, g3, g4, g5⟩ := dec_down n h T hlo d M (q - 1) (by omega) (by omega) (by omega) (by omega)
      refine ⟨q', by omega, ?_, g3, .inr ?_, ?_⟩
      · rcases g2 with z | z
        · exact .inl z
        · exact .inl (by omega)
      · rcases g4 with z | z
        · rw [z, Int.sub_add_cancel]; exact Int.not_le.mp y
        · exact z
      · rw [whlL_succ]
        simp [r, g5]
theorem dec_up (n : Nat) (h : HP) {t b D Y m : Int} (T : TB t b D Y m) (hhi : Y < D * 10 ^ jO 6000) : ∀ (d N : Nat) (q : Int), 6000 - q ≤ d → -20000 ≤ q → d < N → D * 10 ^ jO q ≤ Y →
    ∃ q', q ≤ q' ∧ D * 10 ^ jO q' ≤ Y ∧ Y < D * 10 ^ jO (q' + 1) ∧ q' < 6000 ∧ whlL (evE p.T (run p.T p.fs (n + 3)) t37_0) (exSs p.T (run p.T p.fs (n + 3)) w37_0) N [some (.int t), some (.int b), some (.int q)] h = .nx [some (.int t), some (.int b), some (.int q')] h := by
  have D0 : 0 < D := by rw [← T.ed]; exact Int.mul_pos T.b1 T.m0
  have lt6 : ∀ q, D * 10 ^ jO q ≤ Y → q < 6000 := by
    intro q hq
    rcases Int.lt_or_le q 6000 with z | z
    · exact z
    · have := mono10 D0 (i := jO 6000) (by unfold jO; omega) hq; omega
  intro d
  induction d with
  | zero => intro N q h1 h2 hN hq; have := lt6 q hq; omega
  | succ d ih =>
    intro N q h1 h2 hN hq
    obtain ⟨M, rfl⟩ := pos_fuel hN
    have q6 := lt6 q hq
    have r := s_reaches n h T (P := q + 1) (by omega) (by omega)
    by_cases y : D * 10 ^ jO (q + 1) ≤ Y
    · rw [decide_eq_true y] at r
      obtain ⟨q', g1, g2, g3, g4, g5⟩ := ih M (q + 1) (by omega) (by omega) (by omega) y
      exact ⟨q', by omega, g2, g3, g4, by rw [whlL_succ]; simp [r, g5]⟩
    · rw [decide_eq_false y] at r
      exact ⟨q, Int.le_refl _, hq, by omega, q6, by rw [whlL_succ]; simp [r]⟩
theorem s_decade (n : Nat) (h : HP) {t b D Y m : Int} (T : TB t b D Y m) (hlo : D * 10 ^ jO (-6000) ≤ Y) (hhi : Y < D * 10 ^ jO 6000) : ∃ P : Int, -6001 ≤ P ∧ P < 6000 ∧ D * 10 ^ jO P ≤ Y ∧ Y < D * 10 ^ jO (P + 1) ∧ run p.T p.fs (n + 4) 37 [.int t, .int b] h = .ok (.int P) h := by
  rw [run_eq (F := fn37) rfl rfl]
  have m1 (x : Int) : mulB x 1233 = true := mulB_right (by decide)
  have d1 (x : Int) := dvB_small (a := x) (b := 4096) (by decide) (by decide)
  have bt := T.bt
  have bb := T.bb
  have D0 : 0 < D := by rw [← T.ed]; exact Int.mul_pos T.b1 T.m0
  obtain ⟨x, hx⟩ : ∃ x : Nat, intBits t = x := ⟨_, rfl⟩
  obtain ⟨y, hy⟩ : ∃ x : Nat, intBits b = x := ⟨_, rfl⟩
  obtain ⟨q, hq⟩ : ∃ q : Int, ((x : Int) - y) * 1233 / 4096 = q := ⟨_, rfl⟩
  obtain ⟨q', g1, g2, g3, g4, g5⟩ := dec_down n h T hlo 40000 fuel q (by omega) (by omega) (by omega) (lt_fuel (by omega))
  have lo1 : -20000 ≤ q' := by omega
  obtain ⟨P, k1, k2, k3, k4, k5⟩ := dec_up n h T hhi 30000 fuel q' (by omega) lo1 (lt_fuel (by omega)) g3
  refine ⟨P, ?_, k4, k2, k3, by simp -implicitDefEqProofs [fn37, hx, hy, m1, d1, hq, g5, k5]⟩
  rcases Int.lt_or_le P (-6001) with z | z
  · have := mono10 D0 (i := jO (P + 1)) (j := jO (-6000)) (by unfold jO; omega) hlo
    omega
  · exact z
/-- figures_at, by the plain figJ -/
theorem s_figat (w f : Nat) (hw2 : 2 ≤ w) (hw : w ≤ 20) (hf1 : 1 ≤ f) (hf : f ≤ 200) (n : Nat) (h : HP) {c s : Int} (hs : s = 0 ∨ s = 1) (c0 : 1 ≤ c) (c1 : c < 2 ^ (w + f) - 2 ^ f) {t b m P : Int} (T : TB t b (2 ^ stp0 w f) (lv f c * 10 ^ nN) m) (P1 : -20000 ≤ P) (P2 : P ≤ 20000) :
    run p.T p.fs (n + 7) 39 [.tup [.int w, .int f], .int (c + s * 2 ^ (w + f)), .tup [.int (t * 10 ^ (-P).toNat), .int (b * 10 ^ P.toNat)], .int P] h =
      .ok (.int (figJ (lv f c * 10 ^ nN) (2 ^ stp0 w f * 10 ^ jO P) ((lv f (c - 1) + lv f c) * 10 ^ nN) ((lv f c + lv f (c + 1)) * 10 ^ nN) (decide (c % 2 = 0)))) h := by
  rw [run_eq (F := fn39) rfl rfl]
  obtain ⟨k, k0, k1, k2⟩ := kap (P := P) (by omega)
  have D0 := p2 (stp0 w f)
  have mk : 0 < m * k := Int.mul_pos T.m0 k0
  have eY : lv f c * 10 ^ nN = t * 10 ^ (-P).toNat * (m * k) := by rw [← T.ey, ← k2]; grind
  have eu : 2 ^ stp0 w f * 10 ^ jO P = b * 10 ^ P.toNat * (m * k) := by rw [← T.ed, ← k1]; grind
  have rb (F : Int) (F0 : 0 ≤ F) (bF : intBits F ≤ 200000) : run p.T p.fs (n + 6) 34 [.tup [.int w, .int f], .int (c + s * 2 ^ (w + f)), .int F, .int P] h = .ok (.bl (wi ((lv f (c - 1) + lv f c) * 10 ^ nN) ((lv f c + lv f (c + 1)) * 10 ^ nN) (decide (c % 2 = 0)) (2 * (F * (2 ^ stp0 w f * 10 ^ jO P))))) h := by
    have r := s_reads w f hw2 hw hf1 hf n h hs (by omega) c1 F0 bF P1 P2
    have bp := spB_pos P
    rw [rd_wi (w := w) c0 (by omega), ← wi_mul _ _ _ _ k0] at r
    have a1 : (lv f (c - 1) + lv f c) * spB P * k = (lv f (c - 1) + lv f c) * 10 ^ nN := by rw [spB_eq, ← k2]; grind
    have a2 : (lv f c + lv f (c + 1)) * spB P * k = (lv f c + lv f (c + 1)) * 10 ^ nN := by rw [spB_eq, ← k2]; grind
    have a3 : 2 * (spT F P * 2 ^ stp0 w f) * k = 2 * (F * (2 ^ stp0 w f * 10 ^ jO P)) := by rw [spT_eq, ← k1]; grind
    rw [a1, a2, a3] at r
    exact r
  have bt := intBits_mul_le T.bt (b10 (-P).toNat (by omega))
  have bb := intBits_mul_le T.bb (b10 P.toNat (by omega))
  have tp : 0 < t * 10 ^ (-P).toNat := Int.mul_pos T.t1 (p10 _)
  have bp : 0 < b * 10 ^ P.toNat := Int.mul_pos T.b1 (p10 _)
  obtain ⟨t', ht⟩ : ∃ x, t * 10 ^ (-P).toNat = x := ⟨_, rfl⟩
  obtain ⟨b', hb⟩ : ∃ x, b * 10 ^ P.toNat = x := ⟨_, rfl⟩
  rw [ht] at eY bt tp ⊢
  rw [hb] at eu bb bp ⊢
  have dl : lv f c * 10 ^ nN / (2 ^ stp0 w f * 10 ^ jO P) = t' / b' := by rw [eY, eu, div_mul _ mk]
  have l0 : 0 ≤ t' / b' := Int.ediv_nonneg (Int.le_of_lt tp) (Int.le_of_lt bp)
  have bl : intBits (t' / b') ≤ 120001 := by
    refine ib_mono (intBits_le_of_natAbs ?_ bt) (by decide)
    have h1 : t' / b' ≤ t' := Int.ediv_le_self _ (Int.le_of_lt tp)
    omega
  have bl1 : intBits (t' / b' + 1) ≤ 120002 := by
    have h1 := ib_hi l0
    have h2 := two_le_pow bl
    have h3 := pow_s 120001
    have h4 := p2 120001
    exact ib_lt (by omega) (by omega)
  have r1 := rb (t' / b') l0 (by omega)
  have r2 := rb (t' / b' + 1) (by omega) (by omega)
  unfold figJ
  rw [dl]
  have be : 2 * (lv f c * 10 ^ nN) - (2 * (t' / b') + 1) * (2 ^ stp0 w f * 10 ^ jO P) = (2 * t' - (2 * (t' / b') + 1) * b') * (m * k) := by rw [eY, eu]; grind
  have be1 : (0 < (2 * t' - (2 * (t' / b') + 1) * b') * (m * k)) = (0 < 2 * t' - (2 * (t' / b') + 1) * b') := by
    have h : (0 * (m * k) < (2 * t' - (2 * (t' / b') + 1) * b') * (m * k)) = (0 < 2 * t' - (2 * (t' / b') + 1) * b') := propext (Int.mul_lt_mul_right mk)
    rw [Int.zero_mul] at h; exact h
  have be2 : ((2 * t' - (2 * (t' / b') + 1) * b') * (m * k) = 0) = (2 * t' - (2 * (t' / b') + 1) * b' = 0) := propext ⟨fun z => (Int.mul_eq_zero.mp z).resolve_right (Int.ne_of_gt mk), fun z => by rw [z, Int.zero_mul]⟩
  rw [be]
  simp only [be1, be2]
  obtain ⟨l, hl⟩ : ∃ x, t' / b' = x := ⟨_, rfl⟩
  rw [hl] at r1 r2 bl bl1 l0
  simp only [hl]
  have mm : mulB (2 * l + 1) b' = true := by
    have h1 := ib_hi l0
    have h2 := two_le_pow bl
    have h3 := pow_s 120001
    have h4 := p2 120001
    have h5 := pow_s 120002
    exact mulB_of (m := 120003) (ib_lt (by omega) (by omega)) bb (by decide)
  have m2 (x : Int) : mulB 2 x = true := mulB_left (by decide)
  obtain ⟨L, hL⟩ : ∃ L, 2 * t' - (2 * l + 1) * b' = L := ⟨_, rfl⟩
  rw [hL]
  have bt2 : run p.T p.fs (n + 6) 38 [.int l, .tup [.int t', .int b']] h = .ok (.int (if 0 < L ∨ L = 0 ∧ l % 2 = 1 then l + 1 else l)) h := by
    rw [run_eq (F := fn38) rfl rfl]
    by_cases z1 : 0 < L
    · rw [if_pos (.inl z1)]
      simp -implicitDefEqProofs [fn38, m2, mm, hL, z1]
    · by_cases z2 : L = 0 ∧ l % 2 = 1
      · rw [if_pos (.inr z2)]
        simp -implicitDefEqProofs [fn38, m2, mm, hL, z1, z2.1, z2.2, PyProof.Rows.bitAnd_m1]
      · rw [if_neg (by omega)]
        by_cases z3 : L = 0
        · have z4 : ¬ l % 2 = 1 := fun q => z2 ⟨z3, q⟩
          simp -implicitDefEqProofs [fn38, m2, mm, hL, z3, z4, PyProof.Rows.bitAnd_m1]
        · simp -implicitDefEqProofs [fn38, m2, mm, hL, z1, z3, PyProof.Rows.bitAnd_m1]
  have dv : (dvB t' b' || decide (0 < b')) = true := by rw [decide_eq_true bp, Bool.or_true]
  obtain ⟨x1, h1⟩ : ∃ x, wi ((lv f (c - 1) + lv f c) * 10 ^ nN) ((lv f c + lv f (c + 1)) * 10 ^ nN) (decide (c % 2 = 0)) (2 * (l * (2 ^ stp0 w f * 10 ^ jO P))) = x := ⟨_, rfl⟩
  obtain ⟨x2, h2⟩ : ∃ x, wi ((lv f (c - 1) + lv f c) * 10 ^ nN) ((lv f c + lv f (c + 1)) * 10 ^ nN) (decide (c % 2 = 0)) (2 * ((l + 1) * (2 ^ stp0 w f * 10 ^ jO P))) = x := ⟨_, rfl⟩
  rw [h1] at r1
  rw [h2] at r2
  rw [h1, h2]
  obtain ⟨R, hR⟩ : ∃ R, (if 0 < L ∨ L = 0 ∧ l % 2 = 1 then l + 1 else l) = R := ⟨_, rfl⟩
  rw [hR] at bt2
  rw [hR]
  obtain ⟨K, hK⟩ : ∃ R, c + s * 2 ^ (w + f) = R := ⟨_, rfl⟩
  rw [hK] at r1 r2 ⊢
  cases x1 <;> cases x2 <;> simp -implicitDefEqProofs [-binV_fdv, fn39, binV_fdv, bp, hl, r1, r2, bt2]
theorem min_of (q : Nat → Prop) : ∀ n, q n → ∃ k, k ≤ n ∧ q k ∧ ∀ i, i < k → ¬ q i := by
  intro n
  induction n using Nat.strongRecOn with
  | ind n ih =>
    intro h
    by_cases z : ∃ i, i < n ∧ q i
    · obtain ⟨i, hi, hq⟩ := z
      obtain ⟨k, h1, h2, h3⟩ := ih i hi hq
      exact ⟨k, by omega, h2, h3⟩
    · exact ⟨n, Nat.le_refl _, h, fun i hi hq => z ⟨i, hi, hq⟩⟩
theorem lv_gap {f : Nat} {c : Int} (c1 : 1 ≤ c) : lv f c ≤ (lv f c - lv f (c - 1)) * 2 ^ (f + 1) := by
  have pf := p2 f
  have ef := pow_s f
  have q0 := dn f (show 0 ≤ c by omega)
  have sp := Int.mul_ediv_add_emod c (2 ^ f)
  have r := mn c f
  obtain ⟨q, hq⟩ : ∃ q : Nat, c / 2 ^ f = q := ⟨(c / 2 ^ f).toNat, by omega⟩
  obtain ⟨g, hg⟩ : ∃ g, c % 2 ^ f = g := ⟨_, rfl⟩
  rw [hq, hg] at sp
  rw [hg] at r
  by_cases z : q = 0
  · subst z
    have cg : c = g := by omega
    have l1 := lv_cut (f := f) (s := 0) (u := c) (by omega) (by omega) (.inl rfl)
    have l2 := lv_cut (f := f) (s := 0) (u := c - 1) (by omega) (by omega) (.inl rfl)
    simp at l1 l2
    rw [l1, l2]
    have : c - (c - 1) = 1 := by omega
    rw [this, Int.one_mul]; omega
  · obtain ⟨s, hs⟩ : ∃ s, q = s + 1 := ⟨q - 1, by omega⟩
    subst hs
    have ec : c = (s : Int) * 2 ^ f + (2 ^ f + g) := by
      have : (2 : Int) ^ f * ((s + 1 : Nat) : Int) = s * 2 ^ f + 2 ^ f := by rw [Int.natCast_add, Int.mul_add, Int.mul_comm]; simp
      omega
    have l1 := lv_cut (f := f) (s := s) (u := 2 ^ f + g) (by omega) (by omega) (.inr (by omega))
    rw [← ec] at l1
    have ps := p2 s
    by_cases y : 0 < g ∨ s = 0
    · have ec2 : c - 1 = (s : Int) * 2 ^ f + (2 ^ f + g - 1) := by omega
      have l2 := lv_cut (f := f) (s := s) (u := 2 ^ f + g - 1) (by omega) (by omega) (by rcases y with y | y; exact .inr (by omega); exact .inl y)
      rw [← ec2] at l2
      rw [l1, l2]
      have e : (2 ^ f + g) * 2 ^ s - (2 ^ f + g - 1) * 2 ^ s = 2 ^ s := by rw [← Int.sub_mul, show (2 : Int) ^ f + g - (2 ^ f + g - 1) = 1 by omega, Int.one_mul]
      rw [e, Int.mul_comm (2 ^ s)]
      exact Int.mul_le_mul_of_nonneg_right (by omega) (Int.le_of_lt ps)
    · have g0 : g = 0 := by omega
      obtain ⟨s', hs'⟩ : ∃ s', s = s' + 1 := ⟨s - 1, by omega⟩
      subst hs'
      subst g0
      have ec2 : c - 1 = (s' : Int) * 2 ^ f + (2 * 2 ^ f - 1) := by
        have : ((s' + 1 : Nat) : Int) * 2 ^ f = s' * 2 ^ f + 2 ^ f := by rw [Int.natCast_add, Int.add_mul]; simp
        omega
      have l2 := lv_cut (f := f) (s := s') (u := 2 * 2 ^ f - 1) (by omega) (by omega) (.inr (by omega))
      rw [← ec2] at l2
      have es := pow_s s'
      have ps' := p2 s'
      rw [l1, l2, es, ef]
      have e : ((2 : Int) ^ f + 0) * (2 * 2 ^ s') - (2 * 2 ^ f - 1) * 2 ^ s' = 2 ^ s' := by grind
      rw [e]
      have : ((2 : Int) ^ f + 0) * (2 * 2 ^ s') = 2 ^ s' * (2 * 2 ^ f) := by grind
      rw [this]; exact Int.le_refl _
theorem strip_of (n : Nat) (h : HP) (a0 a1 a2 : Option MV) : ∀ (d N : Nat) (F P : Int) (x : Option MV), 0 < F → F < 2 ^ d → d < N →
    ∃ (F' : Int) (z : Nat), F = F' * 10 ^ z ∧ F' % 10 ≠ 0 ∧ ∃ x', whlL (evE p.T (run p.T p.fs n) t40_0) (exSs p.T (run p.T p.fs n) w40_0) N [a0, a1, a2, some (.int P), some (.int F), some (.tup [.int (F / 10), .int (F % 10)])] h = .nx [a0, a1, a2, some (.int (P + z)), some (.int F'), x'] h
  | 0, N, F, P, x, h0, h1, _ => by rw [show (2 : Int) ^ 0 = 1 from rfl] at h1; omega
  | d + 1, N, F, P, x, h0, h1, hN => by
    obtain ⟨M, rfl⟩ := pos_fuel hN
    by_cases z : F % 10 = 0
    · have e2 := pow_s d
      obtain ⟨F', y, g1, g2, x', g3⟩ := strip_of n h a0 a1 a2 d M (F / 10) (P + 1) x (by omega) (by omega) (by omega)
      refine ⟨F', y + 1, ?_, g2, x', ?_⟩
      · rw [Int.pow_succ, ← Int.mul_assoc, ← g1]; omega
      · have dv := dvB_small (a := F / 10) (b := 10) (by decide) (by decide)
        have ep : P + ((y + 1 : Nat) : Int) = P + 1 + y := by omega
        rw [ep, ← g3, whlL_succ]
        simp [z, dv]
    · exact ⟨F, 0, by simp, z, _, by rw [whlL_succ]; simp [z]; rfl⟩
theorem s_shortest (w f : Nat) (hw2 : 2 ≤ w) (hw : w ≤ 15) (hf1 : 1 ≤ f) (hf : f ≤ 112) (n : Nat) (h : HP) {c s : Int} (hs : s = 0 ∨ s = 1) (c0 : 1 ≤ c) (c1 : c < 2 ^ (w + f) - 2 ^ f) : ∃ F P : Int, 0 < F ∧ F ≤ 10 ^ 36 ∧ F % 10 ≠ 0 ∧ -6100 ≤ P ∧ P ≤ 6100 ∧ Best (2 ^ stp0 w f * 10 ^ P.toNat) (lv f c * 10 ^ (-P).toNat) ((lv f (c - 1) + lv f c) * 10 ^ (-P).toNat) ((lv f c + lv f (c + 1)) * 10 ^ (-P).toNat) (decide (c % 2 = 0)) F ∧
    run p.T p.fs (n + 8) 40 [.tup [.int w, .int f], .int (c + s * 2 ^ (w + f))] h = .ok (.tup [.int s, .int F, .int P]) h := by
  obtain ⟨a1, a2, a3, a4⟩ := code_fd hs (show 0 ≤ c by omega) c1
  have fr := s_fraction w f (by omega) (by omega) (by omega) (n + 3) h a1 a2 a3
  rw [a4] at fr
  obtain ⟨m, m0, m1, m2⟩ := lv_wh w f (c + s * 2 ^ (w + f)) hw2
  have pwf := p2 (w + f)
  have pf := p2 f
  have em : (c + s * 2 ^ (w + f)) % 2 ^ (w + f) = c := by
    rw [Int.add_mul_emod_self_right, Int.emod_eq_of_lt (by omega) (by omega)]
  rw [em] at m1
  have X0 : 0 < lv f c := by have := lv_lt (f := f) (a := 0) (b := c) (by decide) (by omega); rw [lv_zero] at this; exact this
  have X0' := X0
  obtain ⟨t, ht⟩ : ∃ t, whOf w f (c + s * 2 ^ (w + f)) * 2 ^ (pwOf w f (c + s * 2 ^ (w + f))).toNat = t := ⟨_, rfl⟩
  obtain ⟨b, hb⟩ : ∃ t : Int, 2 ^ (-pwOf w f (c + s * 2 ^ (w + f))).toNat = t := ⟨_, rfl⟩
  rw [ht] at m1 fr
  rw [hb] at m2 fr
  have b0 : 0 < b := by rw [← hb]; exact p2 _
  have D0 := p2 (stp0 w f)
  have tp : 0 < t := by
    rcases Int.lt_or_le 0 t with q | q
    · exact q
    · have : t * m ≤ 0 := Int.mul_nonpos_of_nonpos_of_nonneg q (Int.le_of_lt m0); omega
  have est := stp_eq (f := f) hw2
  have sS := stp_s hw hf
  have lb : intBits (lv f c) ≤ 32900 := by
    have h1 : c < 2 ^ (w + f) := by omega
    have q := div_lt_pow h1
    have q0 := dn f (show 0 ≤ c by omega)
    have w15 := two_le_pow hw
    have e15 : (2 : Int) ^ 15 = 32768 := rfl
    unfold lv
    split
    · exact ib_mono (ib_lt (by omega) h1) (by omega)
    · have r := mn c f
      have eF := pow_s f
      have := intBits_mul_le (ib_lt (show 0 ≤ 2 ^ f + c % 2 ^ f by omega) (show 2 ^ f + c % 2 ^ f < 2 ^ (f + 1) by omega)) (ib_pow2 (c / 2 ^ f - 1).toNat)
      exact ib_mono this (by omega)
  have tX : t ≤ lv f c := by
    rw [← m1]
    have : t * 1 ≤ t * m := Int.mul_le_mul_of_nonneg_left (by omega) (Int.le_of_lt tp)
    omega
  have bD : b ≤ 2 ^ stp0 w f := by
    rw [← m2]
    have : b * 1 ≤ b * m := Int.mul_le_mul_of_nonneg_left (by omega) (Int.le_of_lt b0)
    omega
  have T : TB t b (2 ^ stp0 w f) (lv f c * 10 ^ nN) m := ⟨m0, tp, b0, ib_mono (intBits_le_of_natAbs (by omega) lb) (by decide), ib_mono (intBits_le_of_natAbs (by omega) (ib_pow2 (stp0 w f))) (by omega), by rw [m1], m2⟩
  have N0 := p10 nN
  -- the range of the number
  have hlo : (2 : Int) ^ stp0 w f * 10 ^ jO (-6000) ≤ lv f c * 10 ^ nN := by
    have e1 : (10 : Int) ^ nN = 10 ^ jO (-6000) * 10 ^ 6000 := by rw [← Int.pow_add]; congr 1
    have e2 : (2 : Int) ^ stp0 w f ≤ 10 ^ 6000 := by
      refine Int.le_trans (two_le_pow sS) ?_
      have : (2 : Nat) ^ 17000 ≤ 10 ^ 6000 := by decide +kernel
      exact_mod_cast this
    have q1 := p10 (jO (-6000))
    have h1 : (2 : Int) ^ stp0 w f * 10 ^ jO (-6000) ≤ 10 ^ 6000 * 10 ^ jO (-6000) := Int.mul_le_mul_of_nonneg_right e2 (Int.le_of_lt q1)
    have h2 : 1 * (10 : Int) ^ nN ≤ lv f c * 10 ^ nN := Int.mul_le_mul_of_nonneg_right (by omega) (Int.le_of_lt N0)
    rw [e1, Int.one_mul, Int.mul_comm (10 ^ jO (-6000))] at h2
    rw [e1, Int.mul_comm (10 ^ jO (-6000))]
    omega
  have hhi : lv f c * 10 ^ nN < 2 ^ stp0 w f * 10 ^ jO 6000 := by
    have e1 : (10 : Int) ^ jO 6000 = 10 ^ 6000 * 10 ^ nN := by rw [← Int.pow_add]; congr 1
    have e2 : lv f c < 2 ^ (stp0 w f + 16385) := by
      have h1 : c < 2 ^ (w + f) := by omega
      have q := div_lt_pow h1
      have q0 := dn f (show 0 ≤ c by omega)
      have r := mn c f
      have eF := pow_s f
      have ew : (2 : Int) ^ w = 2 * 2 ^ (w - 1) := by rw [← pow_s, Nat.sub_add_cancel (by omega)]
      have w14 := two_le_pow (show w - 1 ≤ 14 by omega)
      have e14 : (2 : Int) ^ 14 = 16384 := rfl
      unfold lv
      split
      · rename_i z
        have sp := Int.mul_ediv_add_emod c (2 ^ f)
        rw [z] at sp
        have : c < 2 ^ f := by omega
        refine Int.lt_of_lt_of_le this (two_le_pow ?_)
        have := pw_w (show 1 ≤ w by omega)
        omega
      · have h1 : (2 ^ f + c % 2 ^ f) * 2 ^ (c / 2 ^ f - 1).toNat < 2 ^ (f + 1) * 2 ^ (c / 2 ^ f - 1).toNat := Int.mul_lt_mul_of_pos_right (by omega) (p2 _)
        rw [← Int.pow_add] at h1
        exact Int.lt_of_lt_of_le h1 (two_le_pow (by omega))
    have e3 : (2 : Int) ^ 16385 ≤ 10 ^ 6000 := by
      have : (2 : Nat) ^ 16385 ≤ 10 ^ 6000 := by decide +kernel
      exact_mod_cast this
    rw [e1, ← Int.mul_assoc]
    refine Int.mul_lt_mul_of_pos_right (Int.lt_of_lt_of_le e2 ?_) N0
    rw [Int.pow_add]
    exact Int.mul_le_mul_of_nonneg_left e3 (Int.le_of_lt D0)
  obtain ⟨P, P1, P2, P3, P4, ed⟩ := s_decade (n + 3) h T hlo hhi
  obtain ⟨J, hJ⟩ : ∃ J, jO P = J := ⟨_, rfl⟩
  have hJ2 : J = (P + 30000).toNat := hJ.symm
  have hJ1 : jO (P + 1) = J + 1 := by unfold jO; omega
  rw [hJ] at P3
  rw [hJ1] at P4
  obtain ⟨Y, hY⟩ : ∃ Y, lv f c * 10 ^ nN = Y := ⟨_, rfl⟩
  obtain ⟨lo, hlo2⟩ : ∃ Y, (lv f (c - 1) + lv f c) * 10 ^ nN = Y := ⟨_, rfl⟩
  obtain ⟨hi, hhi2⟩ : ∃ Y, (lv f c + lv f (c + 1)) * 10 ^ nN = Y := ⟨_, rfl⟩
  obtain ⟨e, he⟩ : ∃ e, decide (c % 2 = 0) = e := ⟨_, rfl⟩
  obtain ⟨D, hD⟩ : ∃ D : Int, 2 ^ stp0 w f = D := ⟨_, rfl⟩
  have fa (i : Nat) (hi' : i ≤ 40) : run p.T p.fs (n + 7) 39 [.tup [.int w, .int f], .int (c + s * 2 ^ (w + f)), .tup [.int (t * 10 ^ (-(P - i)).toNat), .int (b * 10 ^ (P - i).toNat)], .int (P - i)] h = .ok (.int (figJ Y (D * 10 ^ (J - i)) lo hi e)) h := by
    have := s_figat w f hw2 (by omega) hf1 (by omega) n h hs c0 c1 T (P := P - i) (by omega) (by omega)
    rw [hY, hlo2, hhi2, he, hD, show jO (P - i) = J - i by unfold jO; omega] at this
    exact this
  have sc (i : Nat) (hi' : i ≤ 40) := s_scaledw (n + 5) h (t := t) (b := b) (P := P - i) (Nat.le_trans T.bt (by decide)) (Nat.le_trans T.bb (by decide)) (by omega) (by omega)
  rw [hY, hD] at P3 P4
  rw [hD] at D0
  -- figures are found soon
  have some35 : figJ Y (D * 10 ^ (J - 35)) lo hi e ≠ 0 := by
    have up : 0 < D * 10 ^ (J - 35) := Int.mul_pos D0 (p10 _)
    have eJ : D * 10 ^ J = D * 10 ^ (J - 35) * 10 ^ 35 := by rw [Int.mul_assoc, ← Int.pow_add]; congr 2; omega
    obtain ⟨u, hu⟩ : ∃ u, D * 10 ^ (J - 35) = u := ⟨_, rfl⟩
    rw [hu] at up eJ ⊢
    obtain ⟨f1, f2⟩ := fl (Y := Y) up
    have gap := lv_gap (f := f) c0
    have g2 : lv f c * 10 ^ nN ≤ (lv f c - lv f (c - 1)) * 2 ^ (f + 1) * 10 ^ nN := Int.mul_le_mul_of_nonneg_right gap (Int.le_of_lt N0)
    have g3 : (lv f c - lv f (c - 1)) * 2 ^ (f + 1) * 10 ^ nN = (2 * Y - lo) * 2 ^ (f + 1) := by rw [← hY, ← hlo2]; grind
    rw [hY, g3] at g2
    have pos : 0 ≤ 2 * Y - lo := by
      have := lv_lt (f := f) (a := c - 1) (b := c) (by omega) (by omega)
      have : 0 ≤ (lv f c - lv f (c - 1)) * 10 ^ nN := Int.mul_nonneg (by omega) (Int.le_of_lt N0)
      have e9 : (lv f c - lv f (c - 1)) * 10 ^ nN = 2 * Y - lo := by rw [← hY, ← hlo2]; grind
      omega
    have g4 : (2 * Y - lo) * 2 ^ (f + 1) ≤ (2 * Y - lo) * 2 ^ 113 := Int.mul_le_mul_of_nonneg_left (two_le_pow (by omega)) pos
    have e113 : (2 : Int) ^ 113 * 2 ≤ 10 ^ 35 := by decide
    have u2 : 2 * u ≤ 2 * Y - lo := by
      rcases Int.lt_or_le (2 * Y - lo) (2 * u) with q | q
      · exfalso
        have h1 : (2 * Y - lo) * 2 ^ 113 < 2 * u * 2 ^ 113 := Int.mul_lt_mul_of_pos_right q (p2 _)
        have h2 : u * (2 ^ 113 * 2) ≤ u * 10 ^ 35 := Int.mul_le_mul_of_nonneg_left e113 (Int.le_of_lt up)
        have h3 : 2 * u * 2 ^ 113 = u * (2 ^ 113 * 2) := by grind
        omega
      · exact q
    have hiY : 2 * Y < hi := by
      have h1 := lv_lt (f := f) (a := c) (b := c + 1) (by omega) (by omega)
      have h2 : (lv f c + lv f c) * 10 ^ nN < (lv f c + lv f (c + 1)) * 10 ^ nN := Int.mul_lt_mul_of_pos_right (by omega) N0
      have h3 : (lv f c + lv f c) * 10 ^ nN = 2 * Y := by rw [← hY]; grind
      omega
    have l1 : 1 ≤ Y / u := by
      refine (Int.le_ediv_iff_mul_le up).mpr ?_
      have h1 : u * 1 ≤ u * 10 ^ 35 := Int.mul_le_mul_of_nonneg_left (by decide) (Int.le_of_lt up)
      omega
    have win : wi lo hi e (2 * (Y / u * u)) = true := by
      unfold wi
      rw [Int.add_mul, Int.one_mul] at f2
      rw [if_neg (by omega), decide_eq_true (by omega), decide_eq_true (by omega)]; rfl
    unfold figJ
    rw [if_pos win]
    split
    · split <;> omega
    · omega
  obtain ⟨k, k35, hk, hmin⟩ := min_of (fun i => figJ Y (D * 10 ^ (J - i)) lo hi e ≠ 0) 35 some35
  have hmin : ∀ i, i < k → figJ Y (D * 10 ^ (J - i)) lo hi e = 0 := fun i hi' => Classical.not_not.mp (hmin i hi')
  -- the search
  have search : ∀ (d i : Nat), i + d = k → ∀ N, d < N → ∀ x5 : Option MV, ∀ a2 : MV, a2 = .tup [.int s, .int t, .int b] → whlL (evE p.T (run p.T p.fs (n + 7)) t40_1) (exSs p.T (run p.T p.fs (n + 7)) w40_1) N
      [some (.tup [.int w, .int f]), some (.int (c + s * 2 ^ (w + f))), some a2, some (.int (P - i)), some (.int (figJ Y (D * 10 ^ (J - i)) lo hi e)), x5] h =
      .nx [some (.tup [.int w, .int f]), some (.int (c + s * 2 ^ (w + f))), some a2, some (.int (P - k)), some (.int (figJ Y (D * 10 ^ (J - k)) lo hi e)), x5] h := by
    intro d
    induction d with
    | zero =>
      intro i hik N hN x5 a2 ha
      obtain ⟨M, rfl⟩ := pos_fuel hN
      have : i = k := by omega
      subst this
      rw [whlL_succ]
      simp [hk]
    | succ d ih =>
      intro i hik N hN x5 a2 ha
      obtain ⟨M, rfl⟩ := pos_fuel hN
      have q0 := hmin i (by omega)
      have ih := ih (i + 1) (by omega) M (by omega) x5 a2 ha
      have s1 := sc (i + 1) (by omega)
      have f1 := fa (i + 1) (by omega)
      have e1 : P - ((i + 1 : Nat) : Int) = P - i - 1 := by omega
      rw [e1] at s1 f1 ih
      rw [whlL_succ, q0]
      obtain ⟨U, hU⟩ : ∃ U, t * 10 ^ (-(P - (i : Int) - 1)).toNat = U := ⟨_, rfl⟩
      obtain ⟨V, hV⟩ : ∃ U, b * 10 ^ (P - (i : Int) - 1).toNat = U := ⟨_, rfl⟩
      rw [hU, hV] at s1 f1
      obtain ⟨G, hG⟩ : ∃ U, figJ Y (D * 10 ^ (J - (i + 1))) lo hi e = U := ⟨_, rfl⟩
      rw [hG] at f1 ih
      obtain ⟨K, hK⟩ : ∃ U, c + s * 2 ^ (w + f) = U := ⟨_, rfl⟩
      rw [hK] at f1 ih ⊢
      subst ha
      simp -implicitDefEqProofs [s1, f1, ih]
  obtain ⟨G, hG⟩ : ∃ G, figJ Y (D * 10 ^ (J - k)) lo hi e = G := ⟨_, rfl⟩
  have G0 : 0 < G ∧ G ≤ 10 ^ 36 := by
    have up : 0 < D * 10 ^ (J - k) := Int.mul_pos D0 (p10 _)
    obtain ⟨g1, _, _⟩ := figJ_in hk
    rw [hG] at g1
    have l1 : 1 ≤ Y / (D * 10 ^ (J - k)) := (Int.le_ediv_iff_mul_le up).mpr (by rw [Int.one_mul]; exact mono10 D0 (by omega) P3)
    have l2 : Y / (D * 10 ^ (J - k)) < 10 ^ (k + 1) := (Int.ediv_lt_iff_lt_mul up).mpr (by
      have e1 : 10 ^ (k + 1) * (D * 10 ^ (J - k)) = D * 10 ^ (J + 1) := by
        rw [Int.mul_comm, Int.mul_assoc, ← Int.pow_add]; congr 2; omega
      rw [e1]; exact P4)
    have l3 : (10 : Int) ^ (k + 1) ≤ 10 ^ 36 := by
      have := Nat.pow_le_pow_right (show 0 < 10 by decide) (show k + 1 ≤ 36 by omega)
      exact_mod_cast this
    omega
  have e120 : (10 : Int) ^ 36 < 2 ^ 130 := by decide
  obtain ⟨F, z, z1, z2, x', z3⟩ := strip_of (n + 7) h (some (.tup [.int w, .int f])) (some (.int (c + s * 2 ^ (w + f)))) (some (.tup [.int s, .int t, .int b])) 130 fuel G (P - k) none G0.1 (by omega) (lt_fuel (by omega))
  obtain ⟨B, B1, B2, B3⟩ := best_of (lo := lo) (hi := hi) (e := e) D0 (J := J) (k := k) (z := z) (by omega) P3 P4 hk hmin (F := F) (by rw [hG]; exact z1) z2
  have zz : z ≤ 1 := by omega
  refine ⟨F, P - k + z, B1, ?_, z2, by omega, by omega, ?_, ?_⟩
  · have l3 : (10 : Int) ^ (k + 1) ≤ 10 ^ 36 := by
      have := Nat.pow_le_pow_right (show 0 < 10 by decide) (show k + 1 ≤ 36 by omega)
      exact_mod_cast this
    omega
  · obtain ⟨kk, k0, k1, k2⟩ := kap (P := P - k + z) (by omega)
    rw [show jO (P - k + z) = J - k + z by unfold jO; omega] at k1
    refine Best.scale k0 ?_
    have a1 : 2 ^ stp0 w f * 10 ^ (P - k + z).toNat * kk = D * 10 ^ (J - k + z) := by rw [hD, Int.mul_assoc, k1]
    have a2 : lv f c * 10 ^ (-(P - k + z)).toNat * kk = Y := by rw [Int.mul_assoc, k2, hY]
    have a3 : (lv f (c - 1) + lv f c) * 10 ^ (-(P - k + z)).toNat * kk = lo := by rw [Int.mul_assoc, k2, hlo2]
    have a4 : (lv f c + lv f (c + 1)) * 10 ^ (-(P - k + z)).toNat * kk = hi := by rw [Int.mul_assoc, k2, hhi2]
    rw [a1, a2, a3, a4, he]
    exact B
  · rw [run_eq (F := fn40) rfl rfl]
    have f0 := fa 0 (by omega)
    have s0 := sc 0 (by omega)
    have se := search k 0 (by omega) fuel (lt_fuel (by omega)) none _ rfl
    have e0 : P - ((0 : Nat) : Int) = P := by simp
    rw [e0] at f0 s0 se
    rw [hG] at se
    have tz : ¬ t = 0 := by omega
    have dv := dvB_small (a := G) (b := 10) (by decide) (by decide)
    obtain ⟨U, hU⟩ : ∃ U, t * 10 ^ (-P).toNat = U := ⟨_, rfl⟩
    obtain ⟨V, hV⟩ : ∃ U, b * 10 ^ P.toNat = U := ⟨_, rfl⟩
    rw [hU, hV] at s0 f0
    obtain ⟨G1, hG1⟩ : ∃ U, figJ Y (D * 10 ^ (J - 0)) lo hi e = U := ⟨_, rfl⟩
    rw [hG1] at f0 se
    obtain ⟨K, hK⟩ : ∃ U, c + s * 2 ^ (w + f) = U := ⟨_, rfl⟩
    rw [hK] at f0 se z3 fr ⊢
    simp -implicitDefEqProofs [fn40, fr, tz, ed, s0, f0, se, dv, z3]
theorem s_short0 (w f : Nat) (hw2 : 2 ≤ w) (hw : w ≤ 15) (hf1 : 1 ≤ f) (hf : f ≤ 112) (n : Nat) (h : HP) {s : Int} (hs : s = 0 ∨ s = 1) : run p.T p.fs (n + 5) 40 [.tup [.int w, .int f], .int (0 + s * 2 ^ (w + f))] h = .ok (.tup [.int s, .int 0, .int 0]) h := by
  have pf := p2 f
  have E3 := end_3 (f := f) hw2
  obtain ⟨a1, a2, a3, a4⟩ := code_fd (w := w) (f := f) hs (show (0 : Int) ≤ 0 by decide) (by omega)
  have fr := s_fraction w f (by omega) (by omega) (by omega) n h a1 a2 a3
  rw [a4] at fr
  obtain ⟨m, m0, m1, m2⟩ := lv_wh w f (0 + s * 2 ^ (w + f)) hw2
  have em : (0 + s * 2 ^ (w + f)) % 2 ^ (w + f) = 0 := by rw [Int.zero_add]; exact Int.mul_emod_left ..
  rw [em, lv_zero] at m1
  obtain ⟨t, ht⟩ : ∃ t, whOf w f (0 + s * 2 ^ (w + f)) * 2 ^ (pwOf w f (0 + s * 2 ^ (w + f))).toNat = t := ⟨_, rfl⟩
  rw [ht] at m1 fr
  have t0 : t = 0 := (Int.mul_eq_zero.mp m1).resolve_right (Int.ne_of_gt m0)
  subst t0
  rw [run_eq (F := fn40) rfl rfl]
  obtain ⟨K, hK⟩ : ∃ U, 0 + s * 2 ^ (w + f) = U := ⟨_, rfl⟩
  rw [hK] at fr ⊢
  simp -implicitDefEqProofs [fn40, fr]
end Pg

namespace Pg
open PySem L2 Rm
open PySem.Builtin.Int (intBits)
/-! the law's _law_within and _law_is_best -/
theorem s_within (n : Nat) (h : HP) (a b p : Int) (e : Bool) : run Pg.p.T Pg.p.fs (n + 1) 53 [.lst [.int a, .int b], .bl e, .int p] h = .ok (.bl (wi a b e p)) h := by
  rw [run_eq (F := fn53) rfl rfl]
  unfold wi
  by_cases z1 : p = a
  · simp [fn53, z1]
  · by_cases z2 : p = b
    · simp [fn53, z1, z2]
    · by_cases z3 : a < p
      · simp [fn53, z1, z2, z3]
      · simp [fn53, z1, z2, z3]
theorem lvb15' {w f : Nat} (hw : w ≤ 15) (hf : f ≤ 112) {c : Int} (h0 : 0 ≤ c) (h1 : c < 2 ^ (w + f)) : intBits (lv f c) ≤ 32900 := by
  have q := div_lt_pow h1
  have q0 := dn f h0
  have w15 := two_le_pow hw
  have e15 : (2 : Int) ^ 15 = 32768 := rfl
  unfold lv
  split
  · exact ib_mono (ib_lt h0 h1) (by omega)
  · have r := mn c f
    have eF := pow_s f
    have := intBits_mul_le (ib_lt (show 0 ≤ 2 ^ f + c % 2 ^ f by omega) (show 2 ^ f + c % 2 ^ f < 2 ^ (f + 1) by omega)) (ib_pow2 (c / 2 ^ f - 1).toNat)
    exact ib_mono this (by omega)
theorem s_lpwb (n : Nat) (h : HP) {i : Int} (i0 : 0 ≤ i) (i1 : i ≤ 20000) : run p.T p.fs (n + 16) 52 [.int i] h = .ok (.int (10 ^ i.toNat)) h := by
  obtain ⟨k, hk⟩ : ∃ k : Nat, i = k := ⟨i.toNat, by omega⟩
  subst hk
  exact s_lpow 15 k (by omega) (by decide) n h
theorem s_isbest (w f : Nat) (hw2 : 2 ≤ w) (hw : w ≤ 15) (hf1 : 1 ≤ f) (hf : f ≤ 112) (n : Nat) (h : HP) {c F P : Int} (c0 : 1 ≤ c) (c1 : c < 2 ^ (w + f) - 2 ^ f) (F0 : 0 < F) (F1 : F ≤ 10 ^ 60) (p1 : -9000 ≤ P) (p3 : P ≤ 9000)
    (B : Best (2 ^ stp0 w f * 10 ^ P.toNat) (lv f c * 10 ^ (-P).toNat) ((lv f (c - 1) + lv f c) * 10 ^ (-P).toNat) ((lv f c + lv f (c + 1)) * 10 ^ (-P).toNat) (decide (c % 2 = 0)) F) :
    run p.T p.fs (n + 17) 54 [.tup [.int w, .int f], .int c, .int F, .int P] h = .ok (.bl true) h := by
  have pf := p2 f
  have s3 := shlB_one (b := (w : Int) - 1) (by omega) (by omega)
  have est := stp_eq (f := f) hw2
  have sS := stp_s hw hf
  have sh := shlB_one (b := (stp0 w f : Int) + 1) (by omega) (by omega)
  have v (x : Int) (x0 : 0 ≤ x) (x1 : x < 2 ^ (w + f)) := s_value w f (by omega) (by omega) (n + 15) h x0 x1
  have v0 := v (c - 1) (by omega) (by omega)
  have v1 := v c (by omega) (by omega)
  have v2 := v (c + 1) (by omega) (by omega)
  have l0 := lvb15' hw hf (show 0 ≤ c - 1 by omega) (show c - 1 < 2 ^ (w + f) by omega)
  have l1 := lvb15' hw hf (show 0 ≤ c by omega) (show c < 2 ^ (w + f) by omega)
  have l2 := lvb15' hw hf (show 0 ≤ c + 1 by omega) (show c + 1 < 2 ^ (w + f) by omega)
  have n0 := lv_nn (f := f) (show 0 ≤ c - 1 by omega)
  have n1 := lv_nn (f := f) (show 0 ≤ c by omega)
  have n2 := lv_nn (f := f) (show 0 ≤ c + 1 by omega)
  have bS : intBits ((10 : Int) ^ (-P).toNat) ≤ 36001 := ib_mono (ib10 _) (by omega)
  have bU : intBits ((10 : Int) ^ P.toNat) ≤ 36001 := ib_mono (ib10 _) (by omega)
  have S0 := p10 (-P).toNat
  have U0 := p10 P.toNat
  have lp1 : P < 0 → run p.T p.fs (n + 16) 52 [.int (-P)] h = .ok (.int (10 ^ (-P).toNat)) h := fun z => s_lpwb n h (by omega) (by omega)
  have lp2 : ¬ P < 0 → run p.T p.fs (n + 16) 52 [.int P] h = .ok (.int (10 ^ P.toNat)) h := fun z => s_lpwb n h (by omega) (by omega)
  have zS : ¬ P < 0 → (10 : Int) ^ (-P).toNat = 1 := fun z => by rw [show (-P).toNat = 0 by omega]; rfl
  have zU : P < 0 → (10 : Int) ^ P.toNat = 1 := fun z => by rw [show P.toNat = 0 by omega]; rfl
  have bF : intBits F ≤ 200 := ib_lt (by omega) (by
    have : (10 : Int) ^ 60 < 2 ^ 200 := by decide
    omega)
  have eW : (2 : Int) ^ (stp0 w f + 1) * 10 ^ P.toNat = 2 * (2 ^ stp0 w f * 10 ^ P.toNat) := by rw [pow_s]; grind
  have bW0 := intBits_mul_le (ib_pow2 (stp0 w f + 1)) bU
  have mW : mulB (2 ^ (stp0 w f + 1)) (10 ^ P.toNat) = true := mulB_of (ib_pow2 (stp0 w f + 1)) bU (by omega)
  have D0 := p2 (stp0 w f)
  obtain ⟨D, hD⟩ : ∃ D : Int, 2 ^ (stp0 w f + 1) = D := ⟨_, rfl⟩
  rw [hD] at eW bW0 mW
  have W0' : 0 < 2 ^ stp0 w f * (10 : Int) ^ P.toNat := Int.mul_pos D0 U0
  obtain ⟨u, hu⟩ : ∃ u : Int, 2 ^ stp0 w f * 10 ^ P.toNat = u := ⟨_, rfl⟩
  rw [hu] at B eW W0'
  obtain ⟨S, hS⟩ : ∃ S : Int, 10 ^ (-P).toNat = S := ⟨_, rfl⟩
  obtain ⟨U, hU⟩ : ∃ S : Int, 10 ^ P.toNat = S := ⟨_, rfl⟩
  rw [hS] at B bS S0 lp1 zS
  rw [hU] at eW bU U0 lp2 zU bW0 mW
  obtain ⟨L0, hL0⟩ : ∃ L, lv f (c - 1) = L := ⟨_, rfl⟩
  obtain ⟨L1, hL1⟩ : ∃ L, lv f c = L := ⟨_, rfl⟩
  obtain ⟨L2, hL2⟩ : ∃ L, lv f (c + 1) = L := ⟨_, rfl⟩
  rw [hL0] at B v0 l0 n0
  rw [hL1] at B v1 l1 n1
  rw [hL2] at B v2 l2 n2
  have sum (x y : Int) (hx : intBits x ≤ 32900) (hy : intBits y ≤ 32900) (hx0 : 0 ≤ x) (hy0 : 0 ≤ y) : mulB (x + y) S = true := by
    have h1 := ib_hi hx0
    have h2 := ib_hi hy0
    have h3 := two_le_pow hx
    have h4 := two_le_pow hy
    have h5 := pow_s 32900
    exact mulB_of (m := 32901) (ib_lt (by omega) (by omega)) bS (by decide)
  have m0 := sum L0 L1 l0 l1 n0 n1
  have m1 := sum L1 L2 l1 l2 n1 n2
  have m2 (x : Int) : mulB 2 x = true := mulB_left (by decide)
  have m10 (x : Int) : mulB 10 x = true := mulB_left (by decide)
  have m9 (x : Int) : mulB 9 x = true := mulB_left (by decide)
  have r10 (x : Int) : mulB x 10 = true := mulB_right (by decide)
  have b2L : intBits (2 * L1) ≤ 33000 := ib_mono (intBits_mul_le (show intBits (2 : Int) ≤ 2 by decide) l1) (by decide)
  have m3 : mulB (2 * L1) S = true := mulB_of b2L bS (by decide)
  have bH := intBits_mul_le b2L bS
  have H0 : 0 ≤ 2 * L1 * S := Int.mul_nonneg (by omega) (Int.le_of_lt S0)
  obtain ⟨A, hA⟩ : ∃ A, (L0 + L1) * S = A := ⟨_, rfl⟩
  obtain ⟨Z, hZ⟩ : ∃ A, (L1 + L2) * S = A := ⟨_, rfl⟩
  obtain ⟨H, hH⟩ : ∃ A, 2 * L1 * S = A := ⟨_, rfl⟩
  have eH : L1 * S * 2 = H := by rw [← hH]; grind
  rw [hA, hZ] at B
  rw [hH] at bH H0
  obtain ⟨W, hW⟩ : ∃ W, 2 * u = W := ⟨_, rfl⟩
  rw [hW] at eW
  have W0 : 0 < W := by omega
  have bW : intBits W ≤ 60000 := by rw [← eW]; omega
  have uW : u * 2 = W := by omega
  -- the plain facts, in the law's own words
  have q1 : H / W = L1 * S / u := by rw [← eH, ← uW, div_mul _ (by decide)]
  have q2 : H / (10 * W) = L1 * S / (10 * u) := by
    have : 10 * W = 10 * u * 2 := by omega
    rw [← eH, this, div_mul _ (by decide)]
  obtain ⟨l, hl⟩ : ∃ l, H / W = l := ⟨_, rfl⟩
  obtain ⟨k, hk⟩ : ∃ l, H / (10 * W) = l := ⟨_, rfl⟩
  rw [hl] at q1
  rw [hk] at q2
  have k0 : 0 ≤ k := by rw [← hk]; exact Int.ediv_nonneg H0 (by omega)
  have ll0 : 0 ≤ l := by rw [← hl]; exact Int.ediv_nonneg H0 (by omega)
  have bk : intBits k ≤ 70000 := ib_mono (intBits_le_of_natAbs (by
    have : k ≤ H := by rw [← hk]; exact Int.ediv_le_self _ H0
    omega) bH) (by decide)
  have bl : intBits l ≤ 70000 := ib_mono (intBits_le_of_natAbs (by
    have : l ≤ H := by rw [← hl]; exact Int.ediv_le_self _ H0
    omega) bH) (by decide)
  have bk10 := intBits_mul_le bk (show intBits (10 : Int) ≤ 4 by decide)
  have mk1 : mulB (k * 10) W = true := mulB_of bk10 bW (by decide)
  have ml1 : mulB l W = true := mulB_of bl bW (by decide)
  have mF : mulB F W = true := mulB_of bF bW (by decide)
  obtain ⟨e, he⟩ : ∃ e, decide (c % 2 = 0) = e := ⟨_, rfl⟩
  rw [he] at B
  have B1 : wi A Z e (F * W) = true := by
    have := B.inn
    have e1 : 2 * (F * u) = F * W := by rw [← hW]; grind
    rw [e1] at this; exact this
  have B2 : 9 < F → wi A Z e (k * 10 * W) = false ∧ wi A Z e (k * 10 * W + 10 * W) = false := by
    intro h9
    have := B.ten h9
    rw [← q2] at this
    have e1 : 2 * (k * (10 * u)) = k * 10 * W := by rw [← hW]; grind
    have e2 : 2 * ((k + 1) * (10 * u)) = k * 10 * W + 10 * W := by rw [← hW]; grind
    rw [e1, e2] at this; exact this
  have eFW : 2 * (F * u) - 2 * (L1 * S) = F * W - H := by rw [← hW, ← hH]; grind
  have B3 : ∀ o, (o = l * W ∨ o = l * W + W) → wi A Z e o = true → absI (F * W - H) < absI (o - H) ∨ (absI (F * W - H) = absI (o - H) ∧ (o = F * W ∨ F % 2 = 0)) := by
    intro o ho hw
    obtain ⟨o2, hh2⟩ : ∃ o2, o = 2 * o2 ∧ (o2 = l * u ∨ o2 = (l + 1) * u) := by
      rcases ho with q | q
      · exact ⟨l * u, by rw [q, ← hW]; grind, .inl rfl⟩
      · exact ⟨(l + 1) * u, by rw [q, ← hW]; grind, .inr rfl⟩
    obtain ⟨o3, o4⟩ := hh2
    have := B.near o2 (by rw [← q1]; exact o4) (by rw [← o3]; exact hw)
    have e3 : 2 * o2 - 2 * (L1 * S) = o - H := by rw [o3, ← hH]; grind
    rw [eFW, e3] at this
    rcases this with q | ⟨q, y⟩
    · exact .inl q
    · refine .inr ⟨q, y.imp (fun y => ?_) fun y => y⟩
      rw [o3, y, ← hW]; grind
  have B4 : F = 1 → wi (10 * A) (10 * Z) e (9 * W) = true → 10 * absI (F * W - H) ≤ absI (9 * W - 10 * H) := by
    intro h1 hw
    have := B.one h1 (by rw [hW]; exact hw)
    have e1 : 9 * (2 * u) - 10 * (2 * (L1 * S)) = 9 * W - 10 * H := by rw [hW, ← hH]; grind
    rw [eFW, e1] at this; exact this
  have wn (a b x : Int) (y : Bool) := s_within (n + 15) h a b x y
  -- the loop over the two neighbours
  have lo (a4 a6 : MV) (a13 : Option MV) : ∃ e', forL (.one 14) (fun _ => some [MV.int (l * W), .int (l * W + W)]) [MV.int (l * W), .int (l * W + W)] (exSs p.T (run p.T p.fs (n + 16)) w54_0) [MV.int (l * W), .int (l * W + W)]
      [some (.tup [.int w, .int f]), some (.int c), some (.int F), some (.int P), some a4, some (.int W), some a6, some (.bl e), some (.int H), some (.int A), some (.int Z), some (.lst [.int A, .int Z]), some (.int (F * W)), a13, none, none, none] h = .nx e' h ∧ e'[2]? = some (some (.int F)) ∧ e'[5]? = some (some (.int W)) ∧ e'[7]? = some (some (.bl e)) ∧ e'[8]? = some (some (.int H)) ∧ e'[11]? = some (some (.lst [.int A, .int Z])) ∧ e'[12]? = some (some (.int (F * W))) := by
    obtain ⟨e', h1, y1, y2, y3, rfl⟩ := forL_inv (tg := .one 14) (src := fun _ => some [MV.int (l * W), .int (l * W + W)]) (f := exSs p.T (run p.T p.fs (n + 16)) w54_0) (h := h) rfl
      (fun E => ∃ y1 y2 y3, E = [some (.tup [.int w, .int f]), some (.int c), some (.int F), some (.int P), some a4, some (.int W), some a6, some (.bl e), some (.int H), some (.int A), some (.int Z), some (.lst [.int A, .int Z]), some (.int (F * W)), a13, y1, y2, y3]) [MV.int (l * W), .int (l * W + W)]
      (by
        intro x hx E hE
        obtain ⟨y1, y2, y3, rfl⟩ := hE
        obtain ⟨o, ho, rfl⟩ : ∃ o, (o = l * W ∨ o = l * W + W) ∧ x = .int o := by
          simp only [List.mem_cons, List.not_mem_nil, or_false] at hx
          rcases hx with z | z
          · exact ⟨_, .inl rfl, z⟩
          · exact ⟨_, .inr rfl, z⟩
        have wo := wn A Z o e
        have a1 : (if o - H < 0 then -(o - H) else o - H) = absI (o - H) := rfl
        have a2 : (if F * W - H < 0 then -(F * W - H) else F * W - H) = absI (F * W - H) := rfl
        have B3 := B3 o ho
        obtain ⟨G, hG⟩ : ∃ G, F * W = G := ⟨_, rfl⟩
        rw [hG] at a2 B3
        obtain ⟨Q, hQ⟩ : ∃ Q, absI (o - H) = Q := ⟨_, rfl⟩
        obtain ⟨R, hR⟩ : ∃ Q, absI (G - H) = Q := ⟨_, rfl⟩
        rw [hQ] at a1 B3
        rw [hR] at a2 B3
        rw [hG]
        obtain ⟨wv, hwv⟩ : ∃ b, wi A Z e o = b := ⟨_, rfl⟩
        rw [hwv] at wo B3
        refine ⟨_, [some (.tup [.int w, .int f]), some (.int c), some (.int F), some (.int P), some a4, some (.int W), some a6, some (.bl e), some (.int H), some (.int A), some (.int Z), some (.lst [.int A, .int Z]), some (.int G), a13, some (.int o), some (.int (Q - R)), some (.bl (decide (Q - R < 0) || (decide (Q - R = 0) && (!decide (o = G) && decide (F % 2 = 1)))))], rfl, ?_, _, _, _, rfl⟩
        cases wv with
        | false =>
          obtain ⟨b1, hb1⟩ : ∃ b, (decide (Q - R < 0) || (decide (Q - R = 0) && (!decide (o = G) && decide (F % 2 = 1)))) = b := ⟨_, rfl⟩
          rw [hb1]
          by_cases z1 : Q - R < 0
          · have : b1 = true := by rw [← hb1, decide_eq_true z1]; rfl
            subst this
            simp [a1, a2, z1, wo]
          · by_cases z2 : Q - R = 0
            · by_cases z3 : o = G
              · have : b1 = false := by rw [← hb1, decide_eq_false z1, decide_eq_true z3]; simp
                subst this
                simp [a1, a2, z1, z2, z3, wo]
              · by_cases z4 : F % 2 = 1
                · have : b1 = true := by rw [← hb1, decide_eq_true z2, decide_eq_false z3, decide_eq_true z4]; simp
                  subst this
                  simp [a1, a2, z1, z2, z3, z4, wo]
                · have : b1 = false := by rw [← hb1, decide_eq_false z1, decide_eq_false z4]; simp
                  subst this
                  simp [a1, a2, z1, z2, z3, z4, wo]
            · have : b1 = false := by rw [← hb1, decide_eq_false z1, decide_eq_false z2]; rfl
              subst this
              simp [a1, a2, z1, z2, wo]
        | true =>
          have B3 := B3 rfl
          have z1 : ¬ Q - R < 0 := by omega
          by_cases z2 : Q - R = 0
          · by_cases z3 : o = G
            · simp [a1, a2, z1, z2, z3, wo]
            · have z4 : ¬ F % 2 = 1 := by
                rcases B3 with q | ⟨q1, q | q⟩
                · omega
                · exact absurd q z3
                · omega
              simp [a1, a2, z1, z2, z3, z4, wo]
          · simp [a1, a2, z1, z2, wo]) _ ⟨none, none, none, rfl⟩
    exact ⟨_, h1, rfl, rfl, rfl, rfl, rfl, rfl⟩
  have fdv1 : (dvB H (10 * W) || decide (0 < 10 * W)) = true := by rw [decide_eq_true (by omega), Bool.or_true]
  have fdv2 : (dvB H W || decide (0 < W)) = true := by rw [decide_eq_true W0, Bool.or_true]
  have w1 := wn A Z (F * W) e
  have w2 := wn A Z (k * 10 * W) e
  have w3 := wn A Z (k * 10 * W + 10 * W) e
  have w4 := wn (10 * A) (10 * Z) (9 * W) e
  rw [B1] at w1
  obtain ⟨G, hG⟩ : ∃ G, F * W = G := ⟨_, rfl⟩
  obtain ⟨K, hK⟩ : ∃ G, k * 10 * W = G := ⟨_, rfl⟩
  obtain ⟨M, hM⟩ : ∃ G, l * W = G := ⟨_, rfl⟩
  rw [hG] at w1 B4
  rw [hK] at B2 w2 w3
  simp only [hG, hM] at lo
  have W10 : 0 < 10 * W := by omega
  have rr1 (x : Int) : mulB x 1 = true := mulB_right (by decide)
  rw [run_eq (F := fn54) rfl rfl]
  obtain ⟨wv, hwv⟩ : ∃ b, wi (10 * A) (10 * Z) e (9 * W) = b := ⟨_, rfl⟩
  rw [hwv] at w4 B4
  have a1 : (if 9 * W - 10 * H < 0 then -(9 * W - 10 * H) else 9 * W - 10 * H) = absI (9 * W - 10 * H) := rfl
  have a2 : (if G - H < 0 then -(G - H) else G - H) = absI (G - H) := rfl
  by_cases z : P < 0
  · have lp1 := lp1 z
    have zU := zU z
    subst zU
    rw [Int.mul_one] at eW
    obtain ⟨E, e1, x1, x2, x3, x4, x5, x6⟩ := lo (.int (stp0 w f : Int)) (.int S) (some (.int M))
    by_cases y : 9 < F
    · obtain ⟨b1, b2⟩ := B2 y
      rw [b1] at w2
      rw [b2] at w3
      have y1 : ¬ F = 1 := by omega
      simp -implicitDefEqProofs [-binV_fdv, binV_fdv, fn54, s3, est, sh, hD, eW, z, lp1, he, v0, v1, v2, m2, m3, hH, m0, m1, hA, hZ, mF, hG, w1, m10, W0, W10, hk, r10, mk1, hK, y, w2, w3, hl, ml1, hM, e1, x1, y1]
    · by_cases y1 : F = 1
      · cases wv with
        | false => simp -implicitDefEqProofs [-binV_fdv, binV_fdv, fn54, s3, est, sh, hD, eW, z, lp1, he, v0, v1, v2, m2, m3, hH, m0, m1, hA, hZ, mF, hG, w1, m10, W0, W10, hk, r10, mk1, hK, y, hl, ml1, hM, e1, x1, x2, x3, x4, x5, x6, eq_true y1, m9, w4]
        | true =>
          have B4 := B4 y1 rfl
          simp -implicitDefEqProofs [-binV_fdv, binV_fdv, fn54, s3, est, sh, hD, eW, z, lp1, he, v0, v1, v2, m2, m3, hH, m0, m1, hA, hZ, mF, hG, w1, m10, W0, W10, hk, r10, mk1, hK, y, hl, ml1, hM, e1, x1, x2, x3, x4, x5, x6, eq_true y1, m9, w4, a1, a2, B4]
      · simp -implicitDefEqProofs [-binV_fdv, binV_fdv, fn54, s3, est, sh, hD, eW, z, lp1, he, v0, v1, v2, m2, m3, hH, m0, m1, hA, hZ, mF, hG, w1, m10, W0, W10, hk, r10, mk1, hK, y, hl, ml1, hM, e1, x1, y1]
  · have lp2 := lp2 z
    have zS := zS z
    subst zS
    obtain ⟨E, e1, x1, x2, x3, x4, x5, x6⟩ := lo (.int (stp0 w f : Int)) (.int 1) (some (.int M))
    rw [Int.mul_one] at hH hA hZ
    by_cases y : 9 < F
    · obtain ⟨b1, b2⟩ := B2 y
      rw [b1] at w2
      rw [b2] at w3
      have y1 : ¬ F = 1 := by omega
      simp -implicitDefEqProofs [-binV_fdv, binV_fdv, fn54, s3, est, sh, hD, eW, z, lp2, mW, rr1, he, v0, v1, v2, m2, m3, hH, m0, m1, hA, hZ, mF, hG, w1, m10, W0, W10, hk, r10, mk1, hK, y, w2, w3, hl, ml1, hM, e1, x1, y1]
    · by_cases y1 : F = 1
      · cases wv with
        | false => simp -implicitDefEqProofs [-binV_fdv, binV_fdv, fn54, s3, est, sh, hD, eW, z, lp2, mW, rr1, he, v0, v1, v2, m2, m3, hH, m0, m1, hA, hZ, mF, hG, w1, m10, W0, W10, hk, r10, mk1, hK, y, hl, ml1, hM, e1, x1, x2, x3, x4, x5, x6, eq_true y1, m9, w4]
        | true =>
          have B4 := B4 y1 rfl
          simp -implicitDefEqProofs [-binV_fdv, binV_fdv, fn54, s3, est, sh, hD, eW, z, lp2, mW, rr1, he, v0, v1, v2, m2, m3, hH, m0, m1, hA, hZ, mF, hG, w1, m10, W0, W10, hk, r10, mk1, hK, y, hl, ml1, hM, e1, x1, x2, x3, x4, x5, x6, eq_true y1, m9, w4, a1, a2, B4]
      · simp -implicitDefEqProofs [-binV_fdv, binV_fdv, fn54, s3, est, sh, hD, eW, z, lp2, mW, rr1, he, v0, v1, v2, m2, m3, hH, m0, m1, hA, hZ, mF, hG, w1, m10, W0, W10, hk, r10, mk1, hK, y, hl, ml1, hM, e1, x1, y1]
end Pg

namespace Pg
open PySem L2 Rm
open PySem.Builtin.Int (intBits)
/-! texts as lists of signs -/
open TL
theorem tl_stripC (x y : Str) : tl (Txt.stripChars x y) = (let lo := ((tl x).takeWhile y.cps.contains).length
    let hi := (tl x).length - (((tl x).drop lo).reverse.takeWhile y.cps.contains).length
    ((tl x).drop lo).take (hi - lo)) := by
  unfold Txt.stripChars
  rw [PySem.W.stripBy_eq]
  unfold PySem.W.stripped
  simp only [if_true]
  rw [tl_strSub, len_tl]
theorem has_sp (c : Nat) : (Str.ofString " ").cps.contains c = (c == 32) := by
  have : (Str.ofString " ").cps = #[32] := by decide +kernel
  rw [this]
  simp [eq_comm]
  exact Bool.eq_iff_iff.mpr (by simp)
theorem takeW_all {f : Nat → Bool} : ∀ {p q : List Nat}, (∀ c ∈ p, f c = true) → (∀ c, q.head? = some c → f c = false) → (p ++ q).takeWhile f = p
  | [], [], _, _ => rfl
  | [], c :: q, _, h => by
    have := h c rfl
    simp [this]
  | a :: p, q, h1, h2 => by
    have := h1 a (List.mem_cons_self ..)
    rw [List.cons_append, List.takeWhile_cons, if_pos this, takeW_all (fun c hc => h1 c (List.mem_cons_of_mem _ hc)) h2]
/-- blanks round a text whose ends are none -/
theorem strip_sp {x : Str} {a b : Nat} {m : List Nat} (hx : tl x = List.replicate a 32 ++ m ++ List.replicate b 32) (h0 : m ≠ []) (h1 : m.head? ≠ some 32) (h2 : m.getLast? ≠ some 32) : tl (Txt.stripChars x " ") = m := by
  rw [tl_stripC]
  have fe : ((" " : Str).cps.contains) = fun c => c == 32 := funext has_sp
  rw [fe, hx]
  have t1 : (List.replicate a 32 ++ m ++ List.replicate b 32).takeWhile (fun c => c == 32) = List.replicate a 32 := by
    rw [List.append_assoc]
    refine takeW_all (fun c hc => ?_) fun c hc => ?_
    · rw [(List.mem_replicate.mp hc).2]; rfl
    · cases m with
      | nil => exact absurd rfl h0
      | cons d m =>
        simp only [List.cons_append, List.head?_cons, Option.some.injEq] at hc
        subst hc
        simpa using h1
  rw [t1, List.length_replicate]
  have d1 : (List.replicate a 32 ++ m ++ List.replicate b 32).drop a = m ++ List.replicate b 32 := by
    rw [List.append_assoc, List.drop_append_of_le_length (by simp)]; simp
  have t2 : (m ++ List.replicate b 32).reverse.takeWhile (fun c => c == 32) = List.replicate b 32 := by
    rw [List.reverse_append, List.reverse_replicate]
    refine takeW_all (fun c hc => ?_) fun c hc => ?_
    · rw [(List.mem_replicate.mp hc).2]; rfl
    · rw [List.head?_reverse] at hc
      rw [hc] at h2
      simpa using h2
  dsimp only
  rw [d1, t2, List.length_replicate]
  have e : (List.replicate a 32 ++ m ++ List.replicate b 32).length - b - a = m.length := by simp; omega
  rw [e, List.take_left]
theorem tl_cutTo {z : Str} {k : Nat} (h : k ≤ z.length) : tl (cutS z none (some (k : Int))) = (tl z).take k := by
  unfold cutS
  rw [tl_mk]
  have e1 : HT.sIx z.length 0 none = 0 := rfl
  have e2 : HT.sIx z.length z.length (some (k : Int)) = min k z.length := HT.sIx_nat ..
  rw [e1, e2, List.drop_zero, Nat.sub_zero, Nat.min_eq_left h]
theorem tl_cutFrom {z : Str} {k : Nat} (h : k ≤ z.length) : tl (cutS z (some (k : Int)) none) = (tl z).drop k := by
  unfold cutS
  rw [tl_mk]
  have e1 : HT.sIx z.length z.length none = z.length := rfl
  have e2 : HT.sIx z.length 0 (some (k : Int)) = min k z.length := HT.sIx_nat ..
  rw [e1, e2, Nat.min_eq_left h]
  refine List.take_of_length_le ?_
  rw [List.length_drop, len_tl]; exact Nat.le_refl _
theorem starts1 (x : Str) (c : Nat) : Txt.startswith x ⟨#[c]⟩ = decide ((tl x).head? = some c) := by
  unfold Txt.startswith
  obtain ⟨⟨l⟩⟩ := x
  cases l with
  | nil => rfl
  | cons a l =>
    show (decide (0 + 1 ≤ (a :: l).length) && _) = _
    have e : (0 : Nat) + 1 ≤ (a :: l).length := by simp
    rw [decide_eq_true e, Bool.true_and]
    show ((Str.mk ⟨a :: l⟩).cps.extract 0 (0 + 1) == #[c]) = _
    have : (Str.mk ⟨a :: l⟩).cps.extract 0 (0 + 1) = #[a] := by simp
    rw [this]
    simp
    show (a == c) = decide (some a = some c)
    exact Bool.eq_iff_iff.mpr (by simp)
theorem mul1 (x : Str) (n : Int) : tl (Txt.mul x n) = (List.replicate n.toNat (tl x)).flatten := by
  unfold Txt.mul
  split
  · have : n.toNat = 0 := by omega
    rw [this]; rfl
  · split
    · rename_i h1 h2
      simp only [Bool.or_eq_true, beq_iff_eq] at h2
      rcases h2 with h | h
      · subst h; simp
      · have e : tl x = [] := List.length_eq_zero_iff.mp (by rw [← len_tl]; exact h)
        rw [e]; simp
    · have key : ∀ (l : List (Array Nat)) (acc : Array Nat), (l.foldl (· ++ ·) acc).toList = acc.toList ++ (l.map Array.toList).flatten := by
        intro l
        induction l with
        | nil => intro acc; simp
        | cons a l ih => intro acc; rw [List.foldl_cons, ih]; simp
      show ((List.replicate n.toNat x.cps).foldl (· ++ ·) #[]).toList = _
      rw [key]
      simp
theorem tl_zfill {x : Str} {i : Int} (h : ∀ c, (tl x).head? = some c → c ≠ 43 ∧ c ≠ 45) : tl (Txt.zfill x i) = List.replicate (i.toNat - x.length) 48 ++ tl x := by
  unfold Txt.zfill
  split
  · have : i.toNat - x.length = 0 := by omega
    rw [this]; rfl
  · unfold zfilled
    have key : tl (Builtin.Str.padded x (i.toNat - x.length) 0 48) = List.replicate (i.toNat - x.length) 48 ++ tl x := by
      unfold Builtin.Str.padded
      simp [tl]
    have hh : x.cps[0]? = (tl x).head? := by
      rw [List.head?_eq_getElem?]; simp [tl]
    rw [hh]
    split
    · rename_i q; exact absurd rfl (h _ q).1
    · rename_i q; exact absurd rfl (h _ q).2
    · exact key
theorem inS_sign (c : Nat) (z : Str) : inS (.str ⟨#[c]⟩) z = some (decide (c ∈ tl z)) := rfl
theorem signs_eq (z : Str) : signs z = (tl z).map fun c => .str ⟨#[c]⟩ := rfl
end Pg

namespace Pg
open PySem L2 Rm
open PySem.Builtin.Int (intBits)
/-! texts made of lists of signs -/
open TL
def mk (l : List Nat) : Str := ⟨l.toArray⟩
theorem tlm (l : List Nat) : tl (mk l) = l := rfl
theorem mk_of (x : Str) : x = mk (tl x) := (mk_tl x).symm
theorem mk_eq {x : Str} {l : List Nat} (h : tl x = l) : x = mk l := by rw [mk_of x, h]
theorem mk_len (l : List Nat) : (mk l).length = l.length := by rw [len_tl]; rfl
theorem mk_app (a b : List Nat) : mk a ++ mk b = mk (a ++ b) := ext_tl (by rw [tl_append]; rfl)
theorem mk_inj {a b : List Nat} (h : mk a = mk b) : a = b := by have := congrArg tl h; exact this
def okC (l : List Nat) : Prop := ∀ c ∈ l, c < 1114112
theorem strOk_mk {l : List Nat} (h : okC l) : PyData.strOk (mk l) = true := by
  unfold PyData.strOk mk
  simp only [Array.all_toList, List.all_eq_true, decide_eq_true_eq] at *
  first
    | exact h
    | (simp; exact h)
theorem eqM_mk (h : HP) {a b : List Nat} (ha : okC a) (hb : okC b) : eqM h (.str (mk a)) (.str (mk b)) = some (decide (a = b)) := by
  have e := eqM_lit h (a := mk a) (b := mk b) (decide (mk a = mk b)) (by rw [strOk_mk ha, strOk_mk hb]; simp)
  rw [e]
  congr 1
  by_cases q : a = b
  · rw [q]; simp
  · rw [decide_eq_false q, decide_eq_false (fun z => q (mk_inj z))]
theorem cut1 {l : List Nat} (h : 1 ≤ l.length) : cutS (mk l) (some 1) none = mk (l.drop 1) := mk_eq (by
  have := tl_cutFrom (z := mk l) (k := 1) (by rw [mk_len]; exact h)
  exact this)
theorem part_at {a r : List Nat} {c : Nat} (h : c ∉ a) : Txt.partition (mk (a ++ c :: r)) (mk [c]) = (mk a, mk [c], mk r) := by
  have e : mk (a ++ c :: r) = mk a ++ mk [c] ++ mk r := by rw [mk_app, mk_app]; simp
  rw [e]
  exact partition_app (y := mk [c]) (s := c) (S := []) rfl h
theorem part_no {a : List Nat} {c : Nat} (h : c ∉ a) : Txt.partition (mk a) (mk [c]) = (mk a, mk [], mk []) :=
  partition_none (y := mk [c]) (s := c) (S := []) rfl h
theorem starts_mk (l : List Nat) (c : Nat) : Txt.startswith (mk l) (mk [c]) = decide (l.head? = some c) := starts1 (mk l) c
theorem strip_mk {a b : Nat} {m : List Nat} (h0 : m ≠ []) (h1 : m.head? ≠ some 32) (h2 : m.getLast? ≠ some 32) : Txt.stripChars (mk (List.replicate a 32 ++ m ++ List.replicate b 32)) " " = mk m := mk_eq (strip_sp (x := mk _) rfl h0 h1 h2)
theorem int_mk {l : List Nat} (h : NumText.AllDigits l) (h0 : l ≠ []) (hl : l.length ≤ 4300) : PySem.intText? (mk l) = some ((NumText.digitsVal l : Nat) : Int) := by
  have := @PySem.intText_digits (mk l) h h0 (by rw [mk_len]; exact hl)
  exact this
theorem lit_e : ("e" : Str) = mk [101] := by decide +kernel
theorem lit_dot : ("." : Str) = mk [46] := by decide +kernel
theorem lit_mi : ("-" : Str) = mk [45] := by decide +kernel
theorem lit_pl : ("+" : Str) = mk [43] := by decide +kernel
theorem lit_0 : ("" : Str) = mk [] := by decide +kernel
theorem lit_sp : (" " : Str) = mk [32] := by decide +kernel
theorem lit_figs : ("0123456789" : Str) = mk [48, 49, 50, 51, 52, 53, 54, 55, 56, 57] := by decide +kernel
theorem meV_part {h : HP} {a b : Str} {x y z : Str} (hb : (b.length == 0) = false) (ha : a.length ≤ 16777216) (e : Txt.partition a b = (x, y, z)) : meV h .part (.str a) [.str b] = some (.tup [.str x, .str y, .str z]) := by
  have : meV h .part (.str a) [.str b] = if (b.length == 0) = false ∧ a.length ≤ sz then some (.tup [.str (Txt.partition a b).1, .str (Txt.partition a b).2.1, .str (Txt.partition a b).2.2]) else none := rfl
  rw [this, if_pos ⟨hb, ha⟩, e]
theorem meV_strip {h : HP} {a b : Str} (ha : a.length ≤ 16777216) : meV h .strip1 (.str a) [.str b] = some (.str (Txt.stripChars a b)) := if_pos ha
theorem meV_rstrip {h : HP} {a b : Str} (ha : a.length ≤ 16777216) : meV h .rstrip1 (.str a) [.str b] = some (.str (Txt.rstripChars a b)) := if_pos ha
theorem meV_starts {h : HP} {a b : Str} : meV h .starts (.str a) [.str b] = some (.bl (Txt.startswith a b)) := rfl
theorem meV_zfill {h : HP} {a : Str} {i : Int} (hi : PadOk i = true) : meV h .zfill (.str a) [.int i] = some (.str (Txt.zfill a i)) := if_pos hi
end Pg

namespace Pg
open PySem L2 Rm
open PySem.Builtin.Int (intBits)
/-! texts that the laws draw -/
open TL
open NumText (AllDigits digitsVal)
theorem str_nat (n : Nat) : Str.ofString (toString ((n : Nat) : Int)) = mk (numL n) := mk_eq (tl_num n)
theorem dv_zeros (l : List Nat) : ∀ k : Nat, digitsVal (List.replicate k 48 ++ l) = digitsVal l
  | 0 => by simp
  | k + 1 => by
    have := dv_zeros l k
    unfold digitsVal at this ⊢
    rw [List.replicate_succ, List.cons_append, List.foldl_cons]
    simpa using this
theorem dig_zeros {l : List Nat} (h : AllDigits l) (k : Nat) : AllDigits (List.replicate k 48 ++ l) := by
  intro c hc
  rcases List.mem_append.mp hc with q | q
  · rw [(List.mem_replicate.mp q).2]; decide
  · exact h c q
theorem zfill_num (n : Nat) (w : Nat) : Txt.zfill (mk (numL n)) (w : Int) = mk (List.replicate (w - (numL n).length) 48 ++ numL n) := mk_eq (by
  have dg := numL_digits n
  have := tl_zfill (x := mk (numL n)) (i := (w : Int)) (fun c hc => by
    have hc : (numL n).head? = some c := hc
    have : 48 ≤ c ∧ c ≤ 57 := by
      cases q : numL n with
      | nil => rw [q] at hc; cases hc
      | cons a l => rw [q] at hc; cases hc; exact dg _ (by rw [q]; exact List.mem_cons_self ..)
    omega)
  rw [this, mk_len]; rfl)
theorem strI_nat (n : Nat) (h : n < 2 ^ 1900) : strI (.int n) = some (.str (mk (numL n))) := by
  have : strI (.int n) = if ((n : Nat) : Int).natAbs.log2 < 1920 then some (.str (Str.ofString (toString ((n : Nat) : Int)))) else none := rfl
  rw [this, str_nat, if_pos]
  rw [Int.natAbs_natCast]
  by_cases z : n = 0
  · subst z; decide
  · have := (Nat.log2_lt z).mpr h
    omega
theorem padOk {i : Int} (h0 : 0 ≤ i) (h1 : i ≤ 100000) : PadOk i = true := by
  have h3 : Builtin.Str.tooLong i.toNat = false := PyProof.Rows.short24 (n := i.toNat) (by omega)
  unfold PadOk fitsSsize
  rw [h3]
  simp
  omega
theorem mul_mk (l : List Nat) {n : Int} {k : Nat} (hn : n.toNat = k) : Txt.mul (mk l) n = mk (List.replicate k l).flatten := mk_eq (by rw [mul1, hn]; rfl)
theorem flat_rep1 (c : Nat) : ∀ k : Nat, (List.replicate k [c]).flatten = List.replicate k c
  | 0 => rfl
  | k + 1 => by rw [List.replicate_succ, List.flatten_cons, flat_rep1 c k]; rfl
theorem binV_mulS {h : HP} (l : List Nat) {n : Int} {k : Nat} (hn : n = k) (hk : k < 1000000) (hl : l.length * k ≤ 16777216) : binV h .mul (.str (mk l)) (.int n) = some (.str (mk (List.replicate k l).flatten)) := by
  have e : binV h .mul (.str (mk l)) (.int n) = if 0 ≤ n ∧ n < 1000000 ∧ (mk l).length * n.toNat ≤ sz then some (.str (Txt.mul (mk l) n)) else none := rfl
  have hn2 : n.toNat = k := by omega
  rw [e, if_pos ⟨by omega, by omega, by rw [mk_len, hn2]; exact hl⟩, mul_mk l hn2]
theorem binV_addM {h : HP} (a b : List Nat) (hl : a.length + b.length ≤ 16777216) : binV h .add (.str (mk a)) (.str (mk b)) = some (.str (mk (a ++ b))) := by
  rw [binV_addS, if_pos (by rw [mk_len, mk_len]; exact hl), mk_app]
end Pg

namespace Pg
open PySem L2 Rm
open PySem.Builtin.Int (intBits)
/-! the signs of a number, by its value -/
open TL
open NumText (AllDigits digitsVal)
theorem dv_app (a : List Nat) : ∀ b : List Nat, digitsVal (a ++ b) = digitsVal a * 10 ^ b.length + digitsVal b := by
  have key : ∀ (b : List Nat) (x : Nat), b.foldl (fun acc c => acc * 10 + (c - 48)) x = x * 10 ^ b.length + b.foldl (fun acc c => acc * 10 + (c - 48)) 0 := by
    intro b
    induction b with
    | nil => intro x; simp
    | cons c b ih =>
      intro x
      rw [List.foldl_cons, List.foldl_cons, ih, ih (0 * 10 + (c - 48)), List.length_cons, Nat.pow_succ, Nat.add_mul, Nat.zero_mul, Nat.zero_add, Nat.mul_assoc, Nat.mul_comm 10, Nat.add_assoc]
  intro b
  unfold digitsVal
  rw [List.foldl_append, key]
theorem dv_lt {l : List Nat} (h : AllDigits l) : digitsVal l < 10 ^ l.length := by
  induction l with
  | nil => decide
  | cons c l ih =>
    have h1 := h c (List.mem_cons_self ..)
    have ih := ih fun d hd => h d (List.mem_cons_of_mem _ hd)
    have e : digitsVal (c :: l) = (c - 48) * 10 ^ l.length + digitsVal l := by
      have := dv_app [c] l
      simpa [digitsVal] using this
    rw [e, List.length_cons, Nat.pow_succ]
    have : (c - 48) * 10 ^ l.length ≤ 9 * 10 ^ l.length := Nat.mul_le_mul_right _ (by omega)
    omega
theorem dv_inj : ∀ {a b : List Nat}, AllDigits a → AllDigits b → a.length = b.length → digitsVal a = digitsVal b → a = b
  | [], [], _, _, _, _ => rfl
  | [], _ :: _, _, _, h, _ => by cases h
  | _ :: _, [], _, _, h, _ => by cases h
  | c :: a, d :: b, ha, hb, hl, hv => by
    have ha' : AllDigits a := fun x hx => ha x (List.mem_cons_of_mem _ hx)
    have hb' : AllDigits b := fun x hx => hb x (List.mem_cons_of_mem _ hx)
    have hl' : a.length = b.length := by simpa using hl
    have e1 : digitsVal (c :: a) = (c - 48) * 10 ^ a.length + digitsVal a := by have := dv_app [c] a; simpa [digitsVal] using this
    have e2 : digitsVal (d :: b) = (d - 48) * 10 ^ a.length + digitsVal b := by have := dv_app [d] b; rw [hl']; simpa [digitsVal] using this
    rw [e1, e2] at hv
    have l1 := dv_lt ha'
    have l2 := dv_lt hb'
    rw [← hl'] at l2
    have c1 := ha c (List.mem_cons_self ..)
    have d1 := hb d (List.mem_cons_self ..)
    have P0 : 0 < 10 ^ a.length := Nat.pow_pos (by decide)
    have m1 : ((c - 48) * 10 ^ a.length + digitsVal a) / 10 ^ a.length = c - 48 := by
      rw [Nat.mul_comm, Nat.mul_add_div P0, Nat.div_eq_of_lt l1, Nat.add_zero]
    have m2 : ((d - 48) * 10 ^ a.length + digitsVal b) / 10 ^ a.length = d - 48 := by
      rw [Nat.mul_comm, Nat.mul_add_div P0, Nat.div_eq_of_lt l2, Nat.add_zero]
    have : c - 48 = d - 48 := by rw [← m1, hv, m2]
    have cd : c = d := by omega
    subst cd
    rw [dv_inj ha' hb' hl' (by omega)]
theorem numL_head : ∀ n : Nat, 0 < n → ∃ c r, numL n = c :: r ∧ 49 ≤ c := by
  intro n
  induction n using Nat.strongRecOn with
  | ind n ih =>
    intro h
    by_cases z : n < 10
    · exact ⟨48 + n, [], numL_lt z, by omega⟩
    · obtain ⟨c, r, e, hc⟩ := ih (n / 10) (by omega) (by omega)
      exact ⟨c, r ++ [48 + n % 10], by rw [numL_step (by omega), e]; rfl, hc⟩
theorem numL_ge : ∀ n : Nat, 0 < n → 10 ^ ((numL n).length - 1) ≤ n := by
  intro n h
  obtain ⟨c, r, e, hc⟩ := numL_head n h
  have v := numL_val n
  rw [e] at v ⊢
  have e1 : digitsVal (c :: r) = (c - 48) * 10 ^ r.length + digitsVal r := by have := dv_app [c] r; simpa [digitsVal] using this
  rw [e1] at v
  rw [List.length_cons, Nat.add_sub_cancel]
  have : 1 * 10 ^ r.length ≤ (c - 48) * 10 ^ r.length := Nat.mul_le_mul_right _ (by omega)
  omega
/-- figures without a nought ahead are the number's own -/
theorem numL_of {cs : List Nat} (h : AllDigits cs) {c : Nat} {r : List Nat} (e : cs = c :: r) (hc : 49 ≤ c) : numL (digitsVal cs) = cs := by
  have lt := dv_lt h
  have e1 : digitsVal cs = (c - 48) * 10 ^ r.length + digitsVal r := by rw [e]; have := dv_app [c] r; simpa [digitsVal] using this
  have ge : 10 ^ (cs.length - 1) ≤ digitsVal cs := by
    rw [e1, e, List.length_cons, Nat.add_sub_cancel]
    have : 1 * 10 ^ r.length ≤ (c - 48) * 10 ^ r.length := Nat.mul_le_mul_right _ (by omega)
    omega
  have pos : 0 < digitsVal cs := Nat.lt_of_lt_of_le (Nat.pow_pos (by decide)) ge
  have l1 := numL_len (by rw [e]; simp : 0 < cs.length) lt
  have l2 := numL_ge _ pos
  have ne := numL_ne (digitsVal cs)
  have len : (numL (digitsVal cs)).length = cs.length := by
    rcases Nat.lt_or_ge (numL (digitsVal cs)).length cs.length with q | q
    · exfalso
      have k0 : 0 < (numL (digitsVal cs)).length := List.length_pos_iff.mpr ne
      have := dv_lt (numL_digits (digitsVal cs))
      rw [numL_val] at this
      have := Nat.pow_le_pow_right (show 0 < 10 by decide) (show (numL (digitsVal cs)).length ≤ cs.length - 1 by omega)
      omega
    · omega
  exact dv_inj (numL_digits _) h len (numL_val _)
theorem numL_mul {n : Nat} (h : 0 < n) (k : Nat) : numL (n * 10 ^ k) = numL n ++ List.replicate k 48 := by
  obtain ⟨c, r, e, hc⟩ := numL_head n h
  have dz : digitsVal (List.replicate k 48) = 0 := by have := dv_zeros [] k; simpa [digitsVal] using this
  have dg : AllDigits (numL n ++ List.replicate k 48) := by
    intro d hd
    rcases List.mem_append.mp hd with q | q
    · exact numL_digits n d q
    · rw [(List.mem_replicate.mp q).2]; decide
  have v : digitsVal (numL n ++ List.replicate k 48) = n * 10 ^ k := by rw [dv_app, numL_val, dz, List.length_replicate, Nat.add_zero]
  rw [← v]
  exact numL_of dg (c := c) (r := r ++ List.replicate k 48) (by rw [e]; rfl) hc
theorem numL_cut {n : Nat} (h : 0 < n) {k : Nat} (hk : k < (numL n).length) : numL (n / 10 ^ k) = (numL n).take ((numL n).length - k) ∧ List.replicate (k - (numL (n % 10 ^ k)).length) 48 ++ numL (n % 10 ^ k) = (numL n).drop ((numL n).length - k) ∨ k = 0 := by
  by_cases k0 : k = 0
  · exact .inr k0
  left
  obtain ⟨c, r, e, hc⟩ := numL_head n h
  have dg := numL_digits n
  have v := numL_val n
  obtain ⟨A, hA⟩ : ∃ A, numL n = A := ⟨_, rfl⟩
  rw [hA] at e dg v hk ⊢
  have sp : A.take (A.length - k) ++ A.drop (A.length - k) = A := List.take_append_drop ..
  have d1 : AllDigits (A.take (A.length - k)) := fun d hd => dg d (List.mem_of_mem_take hd)
  have d2 : AllDigits (A.drop (A.length - k)) := fun d hd => dg d (List.mem_of_mem_drop hd)
  have l2 : (A.drop (A.length - k)).length = k := by rw [List.length_drop]; omega
  have vv := dv_app (A.take (A.length - k)) (A.drop (A.length - k))
  rw [sp, v, l2] at vv
  have lt := dv_lt d2
  rw [l2] at lt
  have P0 : 0 < 10 ^ k := Nat.pow_pos (by decide)
  have q1 : n / 10 ^ k = digitsVal (A.take (A.length - k)) := by
    rw [vv, Nat.mul_comm, Nat.mul_add_div P0, Nat.div_eq_of_lt lt, Nat.add_zero]
  have q2 : n % 10 ^ k = digitsVal (A.drop (A.length - k)) := by
    rw [vv, Nat.mul_comm, Nat.mul_add_mod, Nat.mod_eq_of_lt lt]
  refine ⟨?_, ?_⟩
  · rw [q1]
    refine numL_of d1 (c := c) (r := r.take (A.length - k - 1)) ?_ hc
    obtain ⟨j, hj⟩ : ∃ j, A.length - k = j + 1 := ⟨A.length - k - 1, by omega⟩
    rw [hj, e]; simp
  · rw [q2]
    have ll : (numL (digitsVal (A.drop (A.length - k)))).length ≤ k := numL_len (by omega) lt
    refine dv_inj (dig_zeros (numL_digits _) _) d2 ?_ ?_
    · rw [List.length_append, List.length_replicate, l2]; omega
    · rw [dv_zeros, numL_val]
end Pg

namespace Pg
open PySem L2 Rm
open PySem.Builtin.Int (intBits)
/-! the text of a whole number -/
open TL
open NumText (AllDigits digitsVal)
/-- the signs of a whole number's text -/
def itL (i : Int) : List Nat := tl (Str.ofString (toString i))
theorem strI_it {i : Int} (h : i.natAbs < 2 ^ 1900) : strI (.int i) = some (.str (mk (itL i))) := by
  have : strI (.int i) = if i.natAbs.log2 < 1920 then some (.str (Str.ofString (toString i))) else none := rfl
  rw [this, if_pos]
  · rw [mk_of (Str.ofString (toString i))]; rfl
  · by_cases z : i.natAbs = 0
    · rw [z]; decide
    · have := (Nat.log2_lt z).mpr h
      omega
theorem itL_nat (n : Nat) : itL (n : Int) = numL n := tl_num n
theorem itL_len {i : Int} (h : i.natAbs < 10 ^ 20) : (itL i).length ≤ 10000 := by
  rcases Int.le_total 0 i with z | z
  · obtain ⟨n, rfl⟩ := Int.eq_ofNat_of_zero_le z
    rw [itL_nat]
    have := numL_len (by decide : 0 < 20) (show n < 10 ^ 20 by omega)
    omega
  · have e : itL i = itL i := rfl
    obtain ⟨n, hn⟩ := Int.eq_ofNat_of_zero_le (show 0 ≤ -i by omega)
    have hi : i = -(n : Int) := by omega
    cases n with
    | zero => rw [hi]; decide +kernel
    | succ n =>
      have e : toString (-((n + 1 : Nat) : Int)) = "-" ++ toString (n + 1) := rfl
      unfold itL
      rw [hi, e, tl_ofString, List.length_map, String.toList_append, List.length_append]
      have := numL_len (by decide : 0 < 20) (show n + 1 < 10 ^ 20 by omega)
      have e3 : (numL (n + 1)).length = (toString (n + 1)).toList.length := by
        have := tl_num (n + 1)
        rw [tl_ofString] at this
        rw [← this, List.length_map]; rfl
      rw [← e3]
      have : ("-" : String).toList.length = 1 := by decide +kernel
      omega
theorem it_neg (m : Nat) (h : 0 < m) : itL (-(m : Int)) = 45 :: numL m := by
  cases m with
  | zero => cases h
  | succ n =>
    have e : toString (-((n + 1 : Nat) : Int)) = "-" ++ toString (n + 1) := rfl
    have e3 := tl_num (n + 1)
    have e5 : (toString ((n + 1 : Nat) : Int)) = toString (n + 1) := rfl
    rw [e5, tl_ofString] at e3
    unfold itL
    rw [e, tl_ofString, String.toList_append, List.map_append]
    have e4 : ("-" : String).toList.map Char.toNat = [45] := by decide +kernel
    rw [e4, ← e3]; rfl
end Pg

namespace Pg
open PySem L2 Rm
open PySem.Builtin.Int (intBits)
/-! laid: the text of a spelling -/
open TL
open NumText (AllDigits digitsVal)
/-- figures with a power of ten behind them -/
def pwT (L : List Nat) (at_ : Int) : List Nat := L.take 1 ++ ((if 1 < L.length then 46 :: L.drop 1 else []) ++ 101 :: itL at_)
def laidT (s : Int) (n : Nat) (P : Int) : List Nat :=
  (if s = 1 then [45] else []) ++
  (if n = 0 then [48]
   else if P + (numL n).length - 1 < -5 ∨ 20 < P + (numL n).length - 1 then pwT (numL n) (P + (numL n).length - 1)
   else if 0 ≤ P then numL n ++ List.replicate P.toNat 48
   else if 0 ≤ P + (numL n).length - 1 then (numL n).take ((numL n).length - (-P).toNat) ++ 46 :: (numL n).drop ((numL n).length - (-P).toNat)
   else 48 :: 46 :: (List.replicate ((-P).toNat - (numL n).length) 48 ++ numL n))
theorem s_powered (n : Nat) (h : HP) {L : List Nat} (l0 : L ≠ []) (l1 : L.length ≤ 1000) {i : Int} (hi : i.natAbs < 10 ^ 20) : run p.T p.fs (n + 1) 41 [.str (mk L), .int i] h = .ok (.str (mk (pwT L i))) h := by
  rw [run_eq (F := fn41) rfl rfl]
  have si : biV h .str1 [.int i] = some (.str (mk (itL i))) := strI_it (Nat.lt_trans hi (by decide +kernel))
  have li := itL_len hi
  cases L with
  | nil => exact absurd rfl l0
  | cons c r =>
    have ix : idxV h (.str (mk (c :: r))) (.int 0) = some (.str (mk [c])) := by
      show (if (mk (c :: r)).length ≤ sz then (atI (c :: r) 0).map (fun c => MV.str ⟨#[c]⟩) else none) = _
      rw [if_pos (by rw [mk_len]; show (c :: r).length ≤ 16777216; omega), atI_0]; rfl
    have ln : lenS (.str (mk (c :: r))) = some (.int ((r.length : Int) + 1)) := by
      rw [lenS_str, if_pos (by rw [mk_len]; show (c :: r).length ≤ 16777216; omega), mk_len]; rfl
    rw [List.length_cons] at l1
    have sl : slcV h (.str (mk (c :: r))) (some 1) none = some (.str (mk r)) := by
      have e : slcV h (.str (mk (c :: r))) (some 1) none = if (mk (c :: r)).length ≤ sz then some (.str (cutS (mk (c :: r)) (some 1) none)) else none := rfl
      rw [e, if_pos (by rw [mk_len]; show (c :: r).length ≤ 16777216; rw [List.length_cons]; omega), cut1 (by simp)]; rfl
    have b1 : binV h .add (.str ".") (.str (mk r)) = some (.str (mk ([46] ++ r))) := by rw [lit_dot]; exact binV_addM _ _ (by simp; omega)
    have a1 : augV .add (.str (mk [c])) (.str (mk ([46] ++ r))) = some (.str (mk ([c] ++ ([46] ++ r)))) := by
      rw [augV_addS, if_pos (by rw [mk_len, mk_len]; show _ ≤ 16777216; simp; omega), mk_app]
    by_cases z : r = []
    · subst z
      have b2 : binV h .add (.str (mk [c])) (.str "e") = some (.str (mk ([c] ++ [101]))) := by rw [lit_e]; exact binV_addM _ _ (by simp)
      have b3 := binV_addM (h := h) ([c] ++ [101]) (itL i) (by simp; omega)
      have et : pwT [c] i = [c] ++ [101] ++ itL i := rfl
      rw [et]
      obtain ⟨X, hX⟩ : ∃ X, mk [c] = X := ⟨_, rfl⟩
      rw [hX] at ix ln b2 ⊢
      obtain ⟨Y, hY⟩ : ∃ X, mk ([c] ++ [101]) = X := ⟨_, rfl⟩
      rw [hY] at b2 b3
      obtain ⟨Z, hZ⟩ : ∃ X, mk (itL i) = X := ⟨_, rfl⟩
      rw [hZ] at si b3
      obtain ⟨W, hW⟩ : ∃ X, mk ([c] ++ [101] ++ itL i) = X := ⟨_, rfl⟩
      rw [hW] at b3 ⊢
      simp -implicitDefEqProofs [-binV_addS, -lenS_str, fn41, ix, ln, b2, b3, si]
    · have rl : 0 < r.length := List.length_pos_iff.mpr z
      have b2 : binV h .add (.str (mk ([c] ++ ([46] ++ r)))) (.str "e") = some (.str (mk ([c] ++ ([46] ++ r) ++ [101]))) := by rw [lit_e]; exact binV_addM _ _ (by simp; omega)
      have b3 := binV_addM (h := h) ([c] ++ ([46] ++ r) ++ [101]) (itL i) (by simp; omega)
      have et : pwT (c :: r) i = [c] ++ ([46] ++ r) ++ [101] ++ itL i := by
        unfold pwT
        rw [if_pos (by rw [List.length_cons]; omega)]; simp
      rw [et]
      have gt : (1 : Int) < (r.length : Int) + 1 := by omega
      obtain ⟨X, hX⟩ : ∃ X, mk (c :: r) = X := ⟨_, rfl⟩
      rw [hX] at ix ln sl ⊢
      obtain ⟨X2, hX2⟩ : ∃ X, mk [c] = X := ⟨_, rfl⟩
      rw [hX2] at ix a1
      obtain ⟨R, hR⟩ : ∃ X, mk r = X := ⟨_, rfl⟩
      rw [hR] at sl b1
      obtain ⟨R2, hR2⟩ : ∃ X, mk ([46] ++ r) = X := ⟨_, rfl⟩
      rw [hR2] at b1 a1
      obtain ⟨U, hU⟩ : ∃ X, mk ([c] ++ ([46] ++ r)) = X := ⟨_, rfl⟩
      rw [hU] at a1 b2
      obtain ⟨Y, hY⟩ : ∃ X, mk ([c] ++ ([46] ++ r) ++ [101]) = X := ⟨_, rfl⟩
      rw [hY] at b2 b3
      obtain ⟨Z, hZ⟩ : ∃ X, mk (itL i) = X := ⟨_, rfl⟩
      rw [hZ] at si b3
      obtain ⟨W, hW⟩ : ∃ X, mk ([c] ++ ([46] ++ r) ++ [101] ++ itL i) = X := ⟨_, rfl⟩
      rw [hW] at b3 ⊢
      simp -implicitDefEqProofs [-binV_addS, -augV_addS, -lenS_str, fn41, ix, ln, gt, rl, isN, sl, b1, a1, b2, b3, si]
end Pg

namespace Pg
open PySem L2 Rm
open PySem.Builtin.Int (intBits)
/-! slices counted from the end -/
open TL
theorem sIx_neg {n d k : Nat} {i : Int} (hi : i = -(k : Int)) (h0 : 0 < k) (h1 : k ≤ n) : HT.sIx n d (some i) = n - k := by
  show (if i < 0 then (i + (n : Int)).toNat else min i.toNat n) = n - k
  rw [if_pos (by omega)]; omega
theorem cutToN_mk {h : HP} {L : List Nat} {k : Nat} {i : Int} (hi : i = -(k : Int)) (h0 : 0 < k) (hk : k ≤ L.length) (hL : L.length ≤ 16777216) : slcV h (.str (mk L)) none (some i) = some (.str (mk (L.take (L.length - k)))) := by
  have e : slcV h (.str (mk L)) none (some i) = if (mk L).length ≤ sz then some (.str (cutS (mk L) none (some i))) else none := rfl
  rw [e, if_pos (by rw [mk_len]; exact hL)]
  congr 2
  refine mk_eq ?_
  unfold cutS
  rw [tl_mk, mk_len]
  show List.take (HT.sIx L.length L.length (some i) - HT.sIx L.length 0 none) (List.drop (HT.sIx L.length 0 none) L) = _
  have e1 : HT.sIx L.length 0 none = 0 := rfl
  rw [e1, sIx_neg hi h0 hk, List.drop_zero, Nat.sub_zero]
theorem cutFromN_mk {h : HP} {L : List Nat} {k : Nat} {i : Int} (hi : i = -(k : Int)) (h0 : 0 < k) (hk : k ≤ L.length) (hL : L.length ≤ 16777216) : slcV h (.str (mk L)) (some i) none = some (.str (mk (L.drop (L.length - k)))) := by
  have e : slcV h (.str (mk L)) (some i) none = if (mk L).length ≤ sz then some (.str (cutS (mk L) (some i) none)) else none := rfl
  rw [e, if_pos (by rw [mk_len]; exact hL)]
  congr 2
  refine mk_eq ?_
  unfold cutS
  rw [tl_mk, mk_len]
  show List.take (HT.sIx L.length L.length none - HT.sIx L.length 0 (some i)) (List.drop (HT.sIx L.length 0 (some i)) L) = _
  have e1 : HT.sIx L.length L.length none = L.length := rfl
  rw [e1, sIx_neg hi h0 hk]
  exact List.take_of_length_le (by rw [List.length_drop]; exact Nat.le_refl _)
theorem cutTo_mk {h : HP} {L : List Nat} {k : Nat} {i : Int} (hi : i = k) (hk : k ≤ L.length) (hL : L.length ≤ 16777216) : slcV h (.str (mk L)) none (some i) = some (.str (mk (L.take k))) := by
  have e : slcV h (.str (mk L)) none (some i) = if (mk L).length ≤ sz then some (.str (cutS (mk L) none (some i))) else none := rfl
  rw [e, if_pos (by rw [mk_len]; exact hL), hi]
  congr 2
  exact mk_eq (tl_cutTo (z := mk L) (k := k) (by rw [mk_len]; exact hk))
theorem cutFrom_mk {h : HP} {L : List Nat} {k : Nat} {i : Int} (hi : i = k) (hk : k ≤ L.length) (hL : L.length ≤ 16777216) : slcV h (.str (mk L)) (some i) none = some (.str (mk (L.drop k))) := by
  have e : slcV h (.str (mk L)) (some i) none = if (mk L).length ≤ sz then some (.str (cutS (mk L) (some i) none)) else none := rfl
  rw [e, if_pos (by rw [mk_len]; exact hL), hi]
  congr 2
  exact mk_eq (tl_cutFrom (z := mk L) (k := k) (by rw [mk_len]; exact hk))
theorem lenS_mk {L : List Nat} (hL : L.length ≤ 16777216) : lenS (.str (mk L)) = some (.int L.length) := by
  rw [lenS_str, if_pos (by rw [mk_len]; exact hL), mk_len]
end Pg

namespace Pg
open PySem L2 Rm
open PySem.Builtin.Int (intBits)
open TL
open NumText (AllDigits digitsVal)
theorem lit_zero : ("0" : Str) = mk [48] := by decide +kernel
theorem lit_zdot : ("0." : Str) = mk [48, 46] := by decide +kernel
theorem s_laid (n : Nat) (h : HP) {s : Int} (hs : s = 0 ∨ s = 1) {m : Nat} (hm : m < 10 ^ 1000) (hm2 : m < 2 ^ 1900) {P : Int} (p1 : -100000 ≤ P) (p2 : P ≤ 100000) : run p.T p.fs (n + 2) 42 [.int s, .int m, .int P] h = .ok (.str (mk (laidT s m P))) h := by
  rw [run_eq (F := fn42) rfl rfl]
  obtain ⟨HS, H, hc, hH⟩ : ∃ (HS : Str) (H : List Nat), ((s = 0 ∧ HS = "" ∧ H = []) ∨ (s = 1 ∧ HS = "-" ∧ H = [45])) ∧ (if s = 1 then [45] else []) = H := by
    rcases hs with y | y
    · exact ⟨"", [], .inl ⟨y, rfl, rfl⟩, by rw [y]; rfl⟩
    · exact ⟨"-", [45], .inr ⟨y, rfl, rfl⟩, by rw [y]; rfl⟩
  have eH : HS = mk H := by
    rcases hc with ⟨_, a, b⟩ | ⟨_, a, b⟩ <;> rw [a, b]
    · exact lit_0
    · exact lit_mi
  have lH : H.length ≤ 1 := by rcases hc with ⟨_, a, b⟩ | ⟨_, a, b⟩ <;> rw [b] <;> decide
  have add (X : List Nat) (hX : X.length ≤ 200000) : binV h .add (.str HS) (.str (mk X)) = some (.str (mk (H ++ X))) := by rw [eH]; exact binV_addM H X (by omega)
  have ll := numL_len (by decide : 0 < 1000) hm
  have l0 := numL_ne m
  have st : biV h .str1 [.int m] = some (.str (mk (numL m))) := strI_nat m hm2
  have zn := fun w => zfill_num m w
  unfold laidT
  rw [hH]
  obtain ⟨L, hL⟩ : ∃ L, numL m = L := ⟨_, rfl⟩
  rw [hL] at ll l0 st ⊢
  simp only [hL] at zn
  have L1 : 1 ≤ L.length := List.length_pos_iff.mpr l0
  have ln := lenS_mk (L := L) (by omega)
  obtain ⟨A, hA⟩ : ∃ A : Int, P + (L.length : Int) - 1 = A := ⟨_, rfl⟩
  have pw := s_powered n h l0 ll (i := A) (by omega)
  rw [hA]
  by_cases m0 : m = 0
  · subst m0
    have b0 := add [48] (by decide)
    rw [← lit_zero] at b0
    rw [if_pos rfl]
    rcases hc with ⟨y, a, b⟩ | ⟨y, a, b⟩ <;> subst y <;> subst a <;> simp -implicitDefEqProofs [-binV_addS, fn42, b0]
  rw [if_neg m0]
  have m0' : ¬ (m : Int) = 0 := by omega
  by_cases z1 : A < -5 ∨ 20 < A
  · rw [if_pos z1]
    have lp : (pwT L A).length ≤ 200000 := by
      have := itL_len (i := A) (by omega)
      unfold pwT
      rw [List.length_append, List.length_append, List.length_take]
      split <;> simp <;> omega
    have b0 := add (pwT L A) lp
    obtain ⟨X, hX⟩ : ∃ X, mk L = X := ⟨_, rfl⟩
    rw [hX] at st ln pw
    obtain ⟨Y, hY⟩ : ∃ X, mk (pwT L A) = X := ⟨_, rfl⟩
    rw [hY] at pw b0
    rcases z1 with z1 | z1 <;> rcases hc with ⟨y, a, b⟩ | ⟨y, a, b⟩ <;> subst y <;> subst a <;> simp -implicitDefEqProofs [-binV_addS, -lenS_str, fn42, m0, m0', st, ln, hA, z1, pw, b0]
  rw [if_neg z1]
  have z2 : ¬ A < -5 := fun q => z1 (.inl q)
  have z3 : ¬ 20 < A := fun q => z1 (.inr q)
  by_cases z4 : 0 ≤ P
  · rw [if_pos z4]
    have b0 := add L (by omega)
    have b1 : binV h .mul (.str "0") (.int P) = some (.str (mk (List.replicate P.toNat 48))) := by
      rw [lit_zero, binV_mulS [48] (k := P.toNat) (by omega) (by omega) (by simp; omega), flat_rep1]
    have b2 := binV_addM (h := h) (H ++ L) (List.replicate P.toNat 48) (by simp; omega)
    rw [List.append_assoc] at b2
    obtain ⟨X, hX⟩ : ∃ X, mk L = X := ⟨_, rfl⟩
    rw [hX] at st ln b0
    obtain ⟨Y, hY⟩ : ∃ X, mk (H ++ L) = X := ⟨_, rfl⟩
    rw [hY] at b0 b2
    obtain ⟨Z, hZ⟩ : ∃ X, mk (List.replicate P.toNat 48) = X := ⟨_, rfl⟩
    rw [hZ] at b1 b2
    rcases hc with ⟨y, a, b⟩ | ⟨y, a, b⟩ <;> subst y <;> subst a <;> simp -implicitDefEqProofs [-binV_addS, -lenS_str, fn42, m0, m0', st, ln, hA, z2, z3, z4, b0, b1, b2]
  rw [if_neg z4]
  obtain ⟨k, hk⟩ : ∃ k : Nat, -P = k := ⟨(-P).toNat, by omega⟩
  have hk2 : (-P).toNat = k := by omega
  rw [hk2]
  by_cases z5 : 0 ≤ A
  · rw [if_pos z5]
    have kl : k < L.length := by omega
    have c1 := cutTo_mk (h := h) (L := L) (k := L.length - k) (i := A + 1) (by omega) (by omega) (by omega)
    have c2 := cutFrom_mk (h := h) (L := L) (k := L.length - k) (i := A + 1) (by omega) (by omega) (by omega)
    have b0 := add (L.take (L.length - k)) (by rw [List.length_take]; omega)
    have b1 := binV_addM (h := h) (H ++ L.take (L.length - k)) [46] (by simp; omega)
    rw [← lit_dot] at b1
    have b2 := binV_addM (h := h) (H ++ L.take (L.length - k) ++ [46]) (L.drop (L.length - k)) (by simp; omega)
    have e : H ++ L.take (L.length - k) ++ [46] ++ L.drop (L.length - k) = H ++ (L.take (L.length - k) ++ 46 :: L.drop (L.length - k)) := by simp
    rw [e] at b2
    obtain ⟨X, hX⟩ : ∃ X, mk L = X := ⟨_, rfl⟩
    rw [hX] at st ln c1 c2
    obtain ⟨Y, hY⟩ : ∃ X, mk (L.take (L.length - k)) = X := ⟨_, rfl⟩
    rw [hY] at c1 b0
    obtain ⟨Z, hZ⟩ : ∃ X, mk (H ++ L.take (L.length - k)) = X := ⟨_, rfl⟩
    rw [hZ] at b0 b1
    obtain ⟨W, hW⟩ : ∃ X, mk (H ++ L.take (L.length - k) ++ [46]) = X := ⟨_, rfl⟩
    rw [hW] at b1 b2
    obtain ⟨V, hV⟩ : ∃ X, mk (L.drop (L.length - k)) = X := ⟨_, rfl⟩
    rw [hV] at c2 b2
    rcases hc with ⟨y, a, b⟩ | ⟨y, a, b⟩ <;> subst y <;> subst a <;> simp -implicitDefEqProofs [-binV_addS, -lenS_str, fn42, m0, m0', st, ln, hA, z2, z3, z4, z5, isN, c1, c2, b0, b1, b2]
  rw [if_neg z5]
  have mz : meV h .zfill (.str (mk L)) [.int (-P)] = some (.str (mk (List.replicate (k - L.length) 48 ++ L))) := by rw [meV_zfill (padOk (by omega) (by omega)), hk, zn]
  have b0 := add [48, 46] (by decide)
  rw [← lit_zdot] at b0
  have b1 := binV_addM (h := h) (H ++ [48, 46]) (List.replicate (k - L.length) 48 ++ L) (by simp; omega)
  have e : H ++ [48, 46] ++ (List.replicate (k - L.length) 48 ++ L) = H ++ 48 :: 46 :: (List.replicate (k - L.length) 48 ++ L) := by simp
  rw [e] at b1
  obtain ⟨X, hX⟩ : ∃ X, mk L = X := ⟨_, rfl⟩
  rw [hX] at st ln mz
  obtain ⟨Y, hY⟩ : ∃ X, mk (H ++ [48, 46]) = X := ⟨_, rfl⟩
  rw [hY] at b0 b1
  obtain ⟨Z, hZ⟩ : ∃ X, mk (List.replicate (k - L.length) 48 ++ L) = X := ⟨_, rfl⟩
  rw [hZ] at mz b1
  rcases hc with ⟨y, a, b⟩ | ⟨y, a, b⟩ <;> subst y <;> subst a <;> simp -implicitDefEqProofs [-binV_addS, -lenS_str, fn42, m0, m0', st, ln, hA, z2, z3, z4, z5, mz, b0, b1]
end Pg

namespace Pg
open PySem L2 Rm
open PySem.Builtin.Int (intBits)
/-! the signs of a laid text -/
open TL
open NumText (AllDigits digitsVal)
theorem okC_it (i : Int) : okC (itL i) := by
  intro c hc
  unfold itL at hc
  rw [tl_ofString] at hc
  obtain ⟨d, _, rfl⟩ := List.mem_map.mp hc
  have := d.valid
  show d.val.toNat < 1114112
  rcases this with q | ⟨_, q⟩
  · exact Nat.lt_trans q (by decide)
  · exact q
theorem okC_laid (s : Int) (m : Nat) (P : Int) : okC (laidT s m P) := by
  have dg : okC (numL m) := fun c hc => by have := numL_digits m c hc; omega
  have z (k : Nat) : okC (List.replicate k 48) := fun c hc => by rw [(List.mem_replicate.mp hc).2]; decide
  have app {a b : List Nat} (x : okC a) (y : okC b) : okC (a ++ b) := fun c hc => (List.mem_append.mp hc).elim (x c) (y c)
  have con {a : Nat} {b : List Nat} (x : a < 1114112) (y : okC b) : okC (a :: b) := fun c hc => (List.mem_cons.mp hc).elim (fun q => by rw [q]; exact x) (y c)
  have nil : okC [] := fun c hc => by cases hc
  have tk (k : Nat) : okC ((numL m).take k) := fun c hc => dg c (List.mem_of_mem_take hc)
  have dr (k : Nat) : okC ((numL m).drop k) := fun c hc => dg c (List.mem_of_mem_drop hc)
  unfold laidT pwT
  refine app ?_ ?_
  · split
    · exact con (by decide) nil
    · exact nil
  split
  · exact con (by decide) nil
  split
  · refine app (tk 1) (app ?_ (con (by decide) (okC_it _)))
    split
    · exact con (by decide) (dr 1)
    · exact nil
  split
  · exact app dg (z _)
  split
  · exact app (tk _) (con (by decide) (dr _))
  · exact con (by decide) (con (by decide) (app (z _) dg))
end Pg

namespace Pg
open PySem L2 Rm
open PySem.Builtin.Int (intBits)
/-! shown -/
open TL
open NumText (AllDigits digitsVal)
theorem kind_fin (h : HP) {w f : Nat} {b : Int} (hx : fdOf w f b ≠ 2 ^ w - 1) : eqM h (.str (kindS w f b)) (.str "none") = some false ∧ eqM h (.str (kindS w f b)) (.str "endless") = some false := by
  unfold kindS
  rw [if_neg hx]
  split
  · simp
  · split <;> simp
theorem s_shown_fin (w f : Nat) (hw2 : 2 ≤ w) (hw : w ≤ 15) (hf1 : 1 ≤ f) (hf : f ≤ 112) (n : Nat) (h : HP) {c s : Int} (hs : s = 0 ∨ s = 1) (c0 : 0 ≤ c) (c1 : c < 2 ^ (w + f) - 2 ^ f) : ∃ (F : Nat) (P : Int), (F : Int) ≤ 10 ^ 36 ∧ -6100 ≤ P ∧ P ≤ 6100 ∧ (c = 0 → F = 0 ∧ P = 0) ∧ (1 ≤ c → 0 < F ∧ F % 10 ≠ 0 ∧ Best (2 ^ stp0 w f * 10 ^ P.toNat) (lv f c * 10 ^ (-P).toNat) ((lv f (c - 1) + lv f c) * 10 ^ (-P).toNat) ((lv f c + lv f (c + 1)) * 10 ^ (-P).toNat) (decide (c % 2 = 0)) F) ∧
    run p.T p.fs (n + 9) 43 [.tup [.int w, .int f], .int (c + s * 2 ^ (w + f))] h = .ok (.str (mk (laidT s F P))) h := by
  obtain ⟨a1, a2, a3, a4⟩ := code_fd hs c0 c1
  have kd := s_kind w f (by omega) (by omega) (n + 5) h a1 a2
  obtain ⟨k1, k2⟩ := kind_fin h a3
  have big {F : Int} (F1 : F ≤ 10 ^ 36) (m : Nat) (hm : F = m) : m < 10 ^ 1000 ∧ m < 2 ^ 1900 := by
    have h1 : m ≤ 10 ^ 36 := by
      have : ((10 ^ 36 : Nat) : Int) = 10 ^ 36 := by simp
      omega
    exact ⟨Nat.lt_of_le_of_lt h1 (Nat.pow_lt_pow_right (by decide) (by decide)), Nat.lt_of_le_of_lt h1 (by decide +kernel)⟩
  obtain ⟨F, P, h1, h2, h3, h4, h5, h6⟩ : ∃ (F : Nat) (P : Int), (F : Int) ≤ 10 ^ 36 ∧ -6100 ≤ P ∧ P ≤ 6100 ∧ (c = 0 → F = 0 ∧ P = 0) ∧ (1 ≤ c → 0 < F ∧ F % 10 ≠ 0 ∧ Best (2 ^ stp0 w f * 10 ^ P.toNat) (lv f c * 10 ^ (-P).toNat) ((lv f (c - 1) + lv f c) * 10 ^ (-P).toNat) ((lv f c + lv f (c + 1)) * 10 ^ (-P).toNat) (decide (c % 2 = 0)) F) ∧ run p.T p.fs (n + 8) 40 [.tup [.int w, .int f], .int (c + s * 2 ^ (w + f))] h = .ok (.tup [.int s, .int F, .int P]) h := by
    by_cases z : c = 0
    · subst z
      have := s_short0 w f hw2 hw hf1 hf (n + 3) h hs
      exact ⟨0, 0, by decide, by decide, by decide, fun _ => ⟨rfl, rfl⟩, fun q => by omega, this⟩
    · obtain ⟨F, P, F0, F1, F2, P1, P2, B, e⟩ := s_shortest w f hw2 hw hf1 hf n h hs (by omega) c1
      obtain ⟨m, hm⟩ : ∃ m : Nat, F = m := ⟨F.toNat, by omega⟩
      subst hm
      exact ⟨m, P, F1, P1, P2, fun q => absurd q z, fun _ => ⟨by omega, by omega, B⟩, e⟩
  obtain ⟨g1, g2⟩ := big h1 F rfl
  have la := s_laid (n + 6) h hs g1 g2 (P := P) (by omega) (by omega)
  refine ⟨F, P, h1, h2, h3, h4, h5, ?_⟩
  rw [run_eq (F := fn43) rfl rfl]
  obtain ⟨K, hK⟩ : ∃ U, c + s * 2 ^ (w + f) = U := ⟨_, rfl⟩
  rw [hK] at kd k1 k2 h6 ⊢
  obtain ⟨X, hX⟩ : ∃ X, mk (laidT s F P) = X := ⟨_, rfl⟩
  rw [hX] at la ⊢
  obtain ⟨Y, hY⟩ : ∃ X, kindS w f K = X := ⟨_, rfl⟩
  rw [hY] at kd k1 k2
  simp -implicitDefEqProofs [fn43, kd, k1, k2, h6, la]
theorem end_fd {w f : Nat} (hw2 : 2 ≤ w) {g s : Int} (hs : s = 0 ∨ s = 1) (g0 : 0 ≤ g) (g1 : g < 2 ^ f) : 0 ≤ 2 ^ (w + f) - 2 ^ f + g + s * 2 ^ (w + f) ∧ 2 ^ (w + f) - 2 ^ f + g + s * 2 ^ (w + f) < 2 ^ (w + f + 1) ∧ fdOf w f (2 ^ (w + f) - 2 ^ f + g + s * 2 ^ (w + f)) = 2 ^ w - 1 ∧ fgOf f (2 ^ (w + f) - 2 ^ f + g + s * 2 ^ (w + f)) = g ∧ (2 ^ (w + f) - 2 ^ f + g + s * 2 ^ (w + f)) / 2 ^ (w + f) = s := by
  have pf := p2 f
  have pw := p2 w
  have pwf := p2 (w + f)
  have ew := pow_s (w + f)
  have E3 := end_3 (f := f) hw2
  have e : (2 : Int) ^ (w + f) = 2 ^ w * 2 ^ f := Int.pow_add ..
  have sp : 2 ^ (w + f) - 2 ^ f + g + s * 2 ^ (w + f) = g + (2 ^ w - 1 + s * 2 ^ w) * 2 ^ f := by rw [e, Int.add_mul, Int.sub_mul, Int.mul_assoc]; omega
  refine ⟨by rcases hs with z | z <;> subst z <;> omega, by rcases hs with z | z <;> subst z <;> omega, ?_, ?_, ?_⟩
  · unfold fdOf
    rw [sp, Int.add_mul_ediv_right _ _ (Int.ne_of_gt pf), Int.ediv_eq_zero_of_lt g0 g1, Int.zero_add, Int.add_mul_emod_self_right, Int.emod_eq_of_lt (by omega) (by omega)]
  · unfold fgOf
    rw [sp, Int.add_mul_emod_self_right, Int.emod_eq_of_lt g0 g1]
  · rw [Int.add_mul_ediv_right _ _ (Int.ne_of_gt pwf), Int.ediv_eq_zero_of_lt (by omega) (by omega), Int.zero_add]
theorem s_shown_end (w f : Nat) (hw2 : 2 ≤ w) (hw : w ≤ 15) (hf1 : 1 ≤ f) (hf : f ≤ 112) (n : Nat) (h : HP) {s : Int} (hs : s = 0 ∨ s = 1) : run p.T p.fs (n + 9) 43 [.tup [.int w, .int f], .int (2 ^ (w + f) - 2 ^ f + 0 + s * 2 ^ (w + f))] h = .ok (.str (if s = 1 then "-endless" else "endless")) h := by
  obtain ⟨a1, a2, a3, a4, a5⟩ := end_fd (w := w) (f := f) hw2 hs (g := 0) (by decide) (p2 f)
  have kd := s_kind w f (by omega) (by omega) (n + 5) h a1 a2
  have pd := s_parted w f (by omega) (by omega) (n + 6) h a1 a2
  have ks : kindS w f (2 ^ (w + f) - 2 ^ f + 0 + s * 2 ^ (w + f)) = "endless" := by unfold kindS; rw [if_pos a3, if_pos a4]
  rw [ks] at kd
  rw [a5] at pd
  rw [run_eq (F := fn43) rfl rfl]
  obtain ⟨K, hK⟩ : ∃ U, 2 ^ (w + f) - 2 ^ f + 0 + s * 2 ^ (w + f) = U := ⟨_, rfl⟩
  rw [hK] at kd pd ⊢
  rcases hs with z | z <;> subst z <;> simp -implicitDefEqProofs [fn43, kd, pd]
theorem s_shown_none (w f : Nat) (hw2 : 2 ≤ w) (hw : w ≤ 15) (hf1 : 1 ≤ f) (hf : f ≤ 112) (n : Nat) (h : HP) {g s : Int} (hs : s = 0 ∨ s = 1) (g0 : 1 ≤ g) (g1 : g < 2 ^ f) : run p.T p.fs (n + 9) 43 [.tup [.int w, .int f], .int (2 ^ (w + f) - 2 ^ f + g + s * 2 ^ (w + f))] h = .ok (.str "none") h := by
  obtain ⟨a1, a2, a3, a4, a5⟩ := end_fd (w := w) (f := f) hw2 hs (g := g) (by omega) g1
  have kd := s_kind w f (by omega) (by omega) (n + 5) h a1 a2
  have ks : kindS w f (2 ^ (w + f) - 2 ^ f + g + s * 2 ^ (w + f)) = "none" := by unfold kindS; rw [if_pos a3, if_neg (by omega)]
  rw [ks] at kd
  rw [run_eq (F := fn43) rfl rfl]
  obtain ⟨K, hK⟩ : ∃ U, 2 ^ (w + f) - 2 ^ f + g + s * 2 ^ (w + f) = U := ⟨_, rfl⟩
  rw [hK] at kd ⊢
  simp -implicitDefEqProofs [fn43, kd]
theorem s_shown_nob (w f : Nat) (hw : w ≤ 20) (hf : f ≤ 200) (n : Nat) (h : HP) {b : Int} (hb : b < 0 ∨ 2 ^ (w + f + 1) ≤ b) : run p.T p.fs (n + 9) 43 [.tup [.int w, .int f], .int b] h = .exc (1, []) h := by
  have e := s_parted_no w f hw hf (n + 5) h hb
  have kd : run p.T p.fs (n + 8) 7 [.tup [.int w, .int f], .int b] h = .exc (1, []) h := by
    rw [run_eq (F := fn7) rfl rfl]; simp [fn7, e]
  rw [run_eq (F := fn43) rfl rfl]; simp [fn43, kd]
theorem laid_sgn {s : Int} (hs : s = 0 ∨ s = 1) (F : Nat) (P : Int) : laidT s F P = (if s = 1 then [45] else []) ++ laidT 0 F P := by
  unfold laidT
  rw [if_neg (show ¬ (0 : Int) = 1 by decide), List.nil_append]
end Pg

namespace Pg
open PySem L2 Rm
open PySem.Builtin.Int (intBits)
/-! the law's _law_layout -/
open TL
open NumText (AllDigits digitsVal)
theorem s_layout (n : Nat) (h : HP) {s : Int} (hs : s = 0 ∨ s = 1) {m : Nat} (hm : m < 10 ^ 60) {P : Int} (p1 : -100000 ≤ P) (p2 : P ≤ 100000) : run p.T p.fs (n + 9) 55 [.int s, .int m, .int P] h = .ok (.str (mk (laidT s m P))) h := by
  rw [run_eq (F := fn55) rfl rfl]
  have hm1 : m < 10 ^ 1000 := Nat.lt_of_lt_of_le hm (Nat.pow_le_pow_right (by decide) (by decide))
  have hm2 : m < 2 ^ 1900 := Nat.lt_trans hm (by decide +kernel)
  obtain ⟨HS, H, hc, hH⟩ : ∃ (HS : Str) (H : List Nat), ((s = 0 ∧ HS = "" ∧ H = []) ∨ (s = 1 ∧ HS = "-" ∧ H = [45])) ∧ (if s = 1 then [45] else []) = H := by
    rcases hs with y | y
    · exact ⟨"", [], .inl ⟨y, rfl, rfl⟩, by rw [y]; rfl⟩
    · exact ⟨"-", [45], .inr ⟨y, rfl, rfl⟩, by rw [y]; rfl⟩
  have eH : HS = mk H := by
    rcases hc with ⟨_, a, b⟩ | ⟨_, a, b⟩ <;> rw [a, b]
    · exact lit_0
    · exact lit_mi
  have lH : H.length ≤ 1 := by rcases hc with ⟨_, a, b⟩ | ⟨_, a, b⟩ <;> rw [b] <;> decide
  have hd : atI [MV.str "", .str "-"] s = some (.str HS) := by rcases hc with ⟨y, a, _⟩ | ⟨y, a, _⟩ <;> subst y <;> subst a <;> simp
  have add (X : List Nat) (hX : X.length ≤ 200000) : binV h .add (.str HS) (.str (mk X)) = some (.str (mk (H ++ X))) := by rw [eH]; exact binV_addM H X (by omega)
  have ll := numL_len (by decide : 0 < 60) hm
  have l0 := numL_ne m
  have st : biV h .str1 [.int m] = some (.str (mk (numL m))) := strI_nat m hm2
  unfold laidT
  rw [hH]
  have nm := fun hp k => numL_mul (n := m) hp k
  have nc := fun hp k hk => numL_cut (n := m) hp (k := k) hk
  have ge := fun hp => numL_ge m hp
  have vl := numL_val m
  have dg := numL_digits m
  obtain ⟨L, hL⟩ : ∃ L, numL m = L := ⟨_, rfl⟩
  rw [hL] at ll l0 st vl dg ⊢
  simp only [hL] at nm nc ge
  have L1 : 1 ≤ L.length := List.length_pos_iff.mpr l0
  have ln := lenS_mk (L := L) (by omega)
  obtain ⟨A, hA⟩ : ∃ A : Int, P + (L.length : Int) - 1 = A := ⟨_, rfl⟩
  rw [hA]
  by_cases m0 : m = 0
  · subst m0
    have b0 := add [48] (by decide)
    rw [← lit_zero] at b0
    rw [if_pos rfl]
    simp -implicitDefEqProofs [-binV_addS, fn55, hd, b0]
  rw [if_neg m0]
  have m0' : ¬ (m : Int) = 0 := by omega
  have mp : 0 < m := by omega
  by_cases z1 : A < -5 ∨ 20 < A
  · rw [if_pos z1]
    have si : biV h .str1 [.int A] = some (.str (mk (itL A))) := strI_it (Nat.lt_trans (show A.natAbs < 10 ^ 20 by omega) (by decide +kernel))
    have li := itL_len (i := A) (by omega)
    have ch : (A < -5 ∧ ¬ -5 ≤ A) ∨ (-5 ≤ A ∧ ¬ A ≤ 20) := by omega
    cases L with
    | nil => exact absurd rfl l0
    | cons c r =>
      have ix : idxV h (.str (mk (c :: r))) (.int 0) = some (.str (mk [c])) := by
        show (if (mk (c :: r)).length ≤ sz then (atI (c :: r) 0).map (fun c => MV.str ⟨#[c]⟩) else none) = _
        rw [if_pos (by rw [mk_len]; show (c :: r).length ≤ 16777216; omega), atI_0]; rfl
      rw [List.length_cons] at ll ln
      by_cases z : r = []
      · subst z
        have b1 := add [c] (by simp)
        have b2 := binV_addM (h := h) (H ++ [c]) [101] (by simp; omega)
        rw [← lit_e] at b2
        have b3 := binV_addM (h := h) (H ++ [c] ++ [101]) (itL A) (by simp; omega)
        have et : H ++ [c] ++ [101] ++ itL A = H ++ pwT [c] A := by simp [pwT]
        rw [et] at b3
        obtain ⟨X, hX⟩ : ∃ X, mk [c] = X := ⟨_, rfl⟩
        rw [hX] at st ln b1
        obtain ⟨Y, hY⟩ : ∃ X, mk (H ++ [c]) = X := ⟨_, rfl⟩
        rw [hY] at b1 b2
        obtain ⟨Z, hZ⟩ : ∃ X, mk (H ++ [c] ++ [101]) = X := ⟨_, rfl⟩
        rw [hZ] at b2 b3
        obtain ⟨W, hW⟩ : ∃ X, mk (itL A) = X := ⟨_, rfl⟩
        rw [hW] at si b3
        obtain ⟨V, hV⟩ : ∃ X, mk (H ++ pwT [c] A) = X := ⟨_, rfl⟩
        rw [hV] at b3 ⊢
        have ln : lenS (.str X) = some (.int 1) := ln
        have hA : P + 1 - 1 = A := hA
        rcases ch with ⟨q1, q2⟩ | ⟨q1, q2⟩ <;> simp -implicitDefEqProofs [-binV_addS, -lenS_str, fn55, hd, m0, m0', st, ln, hA, q1, q2, b1, b2, b3, si]
      · have rl : 0 < r.length := List.length_pos_iff.mpr z
        have sl := cutFrom_mk (h := h) (L := c :: r) (k := 1) (i := 1) rfl (by simp) (by rw [List.length_cons]; omega)
        have sl : slcV h (.str (mk (c :: r))) (some 1) none = some (.str (mk r)) := sl
        have b1 := add [c] (by simp)
        have b2 := binV_addM (h := h) (H ++ [c]) [46] (by simp; omega)
        rw [← lit_dot] at b2
        have b3 := binV_addM (h := h) (H ++ [c] ++ [46]) r (by simp; omega)
        have b4 := binV_addM (h := h) (H ++ [c] ++ [46] ++ r) [101] (by simp; omega)
        rw [← lit_e] at b4
        have b5 := binV_addM (h := h) (H ++ [c] ++ [46] ++ r ++ [101]) (itL A) (by simp; omega)
        have et : H ++ [c] ++ [46] ++ r ++ [101] ++ itL A = H ++ pwT (c :: r) A := by
          unfold pwT
          rw [if_pos (by rw [List.length_cons]; omega)]; simp
        rw [et] at b5
        have ne1 : ¬ ((r.length : Int) + 1 = 1) := by omega
        obtain ⟨X, hX⟩ : ∃ X, mk (c :: r) = X := ⟨_, rfl⟩
        rw [hX] at st ln ix sl
        obtain ⟨X2, hX2⟩ : ∃ X, mk [c] = X := ⟨_, rfl⟩
        rw [hX2] at ix b1
        obtain ⟨Y, hY⟩ : ∃ X, mk (H ++ [c]) = X := ⟨_, rfl⟩
        rw [hY] at b1 b2
        obtain ⟨Z, hZ⟩ : ∃ X, mk (H ++ [c] ++ [46]) = X := ⟨_, rfl⟩
        rw [hZ] at b2 b3
        obtain ⟨R, hR⟩ : ∃ X, mk r = X := ⟨_, rfl⟩
        rw [hR] at sl b3
        obtain ⟨U, hU⟩ : ∃ X, mk (H ++ [c] ++ [46] ++ r) = X := ⟨_, rfl⟩
        rw [hU] at b3 b4
        obtain ⟨T, hT⟩ : ∃ X, mk (H ++ [c] ++ [46] ++ r ++ [101]) = X := ⟨_, rfl⟩
        rw [hT] at b4 b5
        obtain ⟨W, hW⟩ : ∃ X, mk (itL A) = X := ⟨_, rfl⟩
        rw [hW] at si b5
        obtain ⟨V, hV⟩ : ∃ X, mk (H ++ pwT (c :: r) A) = X := ⟨_, rfl⟩
        rw [hV] at b5 ⊢
        have ln : lenS (.str X) = some (.int ((r.length : Int) + 1)) := ln
        have hA : P + ((r.length : Int) + 1) - 1 = A := hA
        rcases ch with ⟨q1, q2⟩ | ⟨q1, q2⟩ <;> simp -implicitDefEqProofs [-binV_addS, -lenS_str, fn55, hd, m0, m0', st, ln, hA, q1, q2, ne1, rl, z, isN, ix, sl, b1, b2, b3, b4, b5, si]
  rw [if_neg z1]
  have a1 : -5 ≤ A := by omega
  have a2 : A ≤ 20 := by omega
  by_cases z4 : 0 ≤ P
  · rw [if_pos z4]
    obtain ⟨q, hq⟩ : ∃ q : Nat, P = q := ⟨P.toNat, by omega⟩
    have hq2 : P.toNat = q := by omega
    have q20 : q ≤ 20 := by omega
    have lp := s_lpow 7 q (by omega) (by decide) n h
    rw [← hq] at lp
    have eM : ((m * 10 ^ q : Nat) : Int) = (m : Int) * 10 ^ q := by simp
    have big : m * 10 ^ q < 2 ^ 1900 := by
      have h1 : 10 ^ q ≤ 10 ^ 20 := Nat.pow_le_pow_right (by decide) q20
      have h2 : m * 10 ^ q ≤ 10 ^ 60 * 10 ^ 20 := Nat.mul_le_mul (by omega) h1
      exact Nat.lt_of_le_of_lt h2 (by decide +kernel)
    have s2 : biV h .str1 [.int ((m : Int) * 10 ^ q)] = some (.str (mk (numL (m * 10 ^ q)))) := by rw [← eM]; exact strI_nat _ big
    rw [nm mp] at s2
    have mb : mulB (m : Int) (10 ^ q) = true := by
      have b1 := ib10 q
      have b2 : intBits (m : Int) ≤ 300 := ib_mono (ib_lt (n := 200) (by omega) (by
        have : (10 : Nat) ^ 60 < 2 ^ 200 := by decide +kernel
        have : m < 2 ^ 200 := by omega
        exact_mod_cast this)) (by decide)
      exact mulB_of b2 b1 (by omega)
    rw [hq2]
    have b0 := add (L ++ List.replicate q 48) (by simp; omega)
    obtain ⟨V, hV⟩ : ∃ V : Int, (m : Int) * 10 ^ q = V := ⟨_, rfl⟩
    rw [hV] at s2
    obtain ⟨T, hT⟩ : ∃ V : Int, (10 : Int) ^ q = V := ⟨_, rfl⟩
    rw [hT] at lp mb hV
    obtain ⟨X, hX⟩ : ∃ X, mk L = X := ⟨_, rfl⟩
    rw [hX] at st ln
    obtain ⟨Y, hY⟩ : ∃ X, mk (L ++ List.replicate q 48) = X := ⟨_, rfl⟩
    rw [hY] at s2 b0
    simp -implicitDefEqProofs [-binV_addS, -lenS_str, fn55, hd, m0, m0', st, ln, hA, a1, a2, z4, lp, mb, hV, s2, b0]
  rw [if_neg z4]
  obtain ⟨k, hk⟩ : ∃ k : Nat, -P = k := ⟨(-P).toNat, by omega⟩
  have hk2 : (-P).toNat = k := by omega
  rw [hk2]
  have k70 : k ≤ 70 := by omega
  have lp := s_lpow 7 k (by omega) (by decide) n h
  have T0 : (0 : Int) < 10 ^ k := Int.pow_pos (by decide)
  have eT : ((10 ^ k : Nat) : Int) = (10 : Int) ^ k := by simp
  have q1 : (m : Int) / 10 ^ k = ((m / 10 ^ k : Nat) : Int) := by rw [← eT]; rfl
  have q2 : (m : Int) % 10 ^ k = ((m % 10 ^ k : Nat) : Int) := by rw [← eT]; rfl
  have s2 : biV h .str1 [.int ((m : Int) / 10 ^ k)] = some (.str (mk (numL (m / 10 ^ k)))) := by rw [q1]; exact strI_nat _ (Nat.lt_of_le_of_lt (Nat.div_le_self ..) hm2)
  have s3 : biV h .str1 [.int ((m : Int) % 10 ^ k)] = some (.str (mk (numL (m % 10 ^ k)))) := by rw [q2]; exact strI_nat _ (Nat.lt_of_le_of_lt (Nat.mod_le ..) hm2)
  have mz : meV h .zfill (.str (mk (numL (m % 10 ^ k)))) [.int (-P)] = some (.str (mk (List.replicate (k - (numL (m % 10 ^ k)).length) 48 ++ numL (m % 10 ^ k)))) := by rw [meV_zfill (padOk (by omega) (by omega)), hk, zfill_num]
  rw [← hk] at lp
  obtain ⟨G, F, hGF, g1, g2⟩ : ∃ G F : List Nat, G ++ 46 :: F = (if 0 ≤ A then L.take (L.length - k) ++ 46 :: L.drop (L.length - k) else 48 :: 46 :: (List.replicate (k - L.length) 48 ++ L)) ∧ numL (m / 10 ^ k) = G ∧ List.replicate (k - (numL (m % 10 ^ k)).length) 48 ++ numL (m % 10 ^ k) = F := by
    by_cases z5 : 0 ≤ A
    · rw [if_pos z5]
      rcases nc mp k (by omega) with ⟨c1, c2⟩ | c
      · exact ⟨_, _, rfl, c1, c2⟩
      · omega
    · rw [if_neg z5]
      have lt : m < 10 ^ k := by
        have := dv_lt dg
        rw [vl] at this
        exact Nat.lt_of_lt_of_le this (Nat.pow_le_pow_right (by decide) (by omega))
      rw [Nat.div_eq_of_lt lt, Nat.mod_eq_of_lt lt, hL]
      exact ⟨[48], _, rfl, by decide +kernel, rfl⟩
  rw [← hGF]
  rw [g1] at s2
  rw [g2] at mz
  have lG : G.length ≤ 1000 := by rw [← g1]; exact Nat.le_trans (numL_len (by decide : 0 < 60) (Nat.lt_of_le_of_lt (Nat.div_le_self ..) hm)) (by decide)
  have lF : F.length ≤ 1000 := by
    have := numL_len (by decide : 0 < 60) (Nat.lt_of_le_of_lt (Nat.mod_le m (10 ^ k)) hm)
    rw [← g2, List.length_append, List.length_replicate]; omega
  have b0 := add G (by omega)
  have b1 := binV_addM (h := h) (H ++ G) [46] (by simp; omega)
  rw [← lit_dot] at b1
  have b2 := binV_addM (h := h) (H ++ G ++ [46]) F (by simp; omega)
  have e : H ++ G ++ [46] ++ F = H ++ (G ++ 46 :: F) := by simp
  rw [e] at b2
  obtain ⟨T, hT⟩ : ∃ V : Int, (10 : Int) ^ k = V := ⟨_, rfl⟩
  rw [hT] at lp s2 s3 T0
  obtain ⟨X, hX⟩ : ∃ X, mk L = X := ⟨_, rfl⟩
  rw [hX] at st ln
  obtain ⟨Y, hY⟩ : ∃ X, mk G = X := ⟨_, rfl⟩
  rw [hY] at s2 b0
  obtain ⟨Z, hZ⟩ : ∃ X, mk (H ++ G) = X := ⟨_, rfl⟩
  rw [hZ] at b0 b1
  obtain ⟨W, hW⟩ : ∃ X, mk (H ++ G ++ [46]) = X := ⟨_, rfl⟩
  rw [hW] at b1 b2
  obtain ⟨U, hU⟩ : ∃ X, mk (numL (m % 10 ^ k)) = X := ⟨_, rfl⟩
  rw [hU] at s3 mz
  obtain ⟨V, hV⟩ : ∃ X, mk F = X := ⟨_, rfl⟩
  rw [hV] at mz b2
  simp -implicitDefEqProofs [-binV_addS, -lenS_str, fn55, hd, m0, m0', st, ln, hA, a1, a2, z4, lp, T0, s2, s3, mz, b0, b1, b2]
end Pg

namespace Pg
open PySem L2 Rm
open PySem.Builtin.Int (intBits)
/-! numerals read -/
open TL
open NumText (AllDigits digitsVal)
def digB (l : List Nat) : Bool := l.all fun c => decide (48 ≤ c) && decide (c ≤ 57)
theorem digB_iff {l : List Nat} : digB l = true ↔ AllDigits l := by
  unfold digB AllDigits
  simp [List.all_eq_true]
theorem figs_in (c : Nat) : decide (c ∈ tl (mk [48, 49, 50, 51, 52, 53, 54, 55, 56, 57])) = (decide (48 ≤ c) && decide (c ≤ 57)) := by
  rw [tlm, Bool.eq_iff_iff]
  simp
  omega
theorem okC_dig {l : List Nat} (h : AllDigits l) : okC l := fun c hc => by have := h c hc; omega
theorem fig_loop (C : Nat → List MV → HP → R MV) (h : HP) (x : MV) (src : HP → Option (List MV)) (all : List MV) (hs : src h = some all) : ∀ (l : List Nat) (y : Option MV),
    (digB l = true → ∃ y', forL (.one 1) src all (exSs p.T C w28_0) (l.map fun c => MV.str ⟨#[c]⟩) [some x, y] h = .nx [some x, y'] h) ∧
    (digB l = false → forL (.one 1) src all (exSs p.T C w28_0) (l.map fun c => MV.str ⟨#[c]⟩) [some x, y] h = .ret (.bl false) h)
  | [], y => ⟨fun _ => ⟨y, by rw [List.map_nil, forL, if_pos hs]⟩, fun q => by cases q⟩
  | c :: l, y => by
    obtain ⟨i1, i2⟩ := fig_loop C h x src all hs l (some (.str ⟨#[c]⟩))
    have ei : inS (.str ⟨#[c]⟩) "0123456789" = some (decide (48 ≤ c) && decide (c ≤ 57)) := by
      rw [lit_figs, inS_sign, figs_in]
    have e : digB (c :: l) = ((decide (48 ≤ c) && decide (c ≤ 57)) && digB l) := rfl
    rw [e]
    cases b : (decide (48 ≤ c) && decide (c ≤ 57))
    · rw [b] at ei
      refine ⟨fun q => by simp at q, fun _ => ?_⟩
      rw [List.map_cons, forL, if_pos hs]
      simp [ei]
    · rw [b] at ei
      have st : exSs p.T C w28_0 [some x, some (.str ⟨#[c]⟩)] h = .nx [some x, some (.str ⟨#[c]⟩)] h := by simp [ei]
      have red : forL (.one 1) src all (exSs p.T C w28_0) (MV.str ⟨#[c]⟩ :: l.map fun c => MV.str ⟨#[c]⟩) [some x, y] h = forL (.one 1) src all (exSs p.T C w28_0) (l.map fun c => MV.str ⟨#[c]⟩) [some x, some (.str ⟨#[c]⟩)] h := by
        rw [forL, if_pos hs]
        show (match exSs p.T C w28_0 [some x, some (.str ⟨#[c]⟩)] h with
          | .nx e h => forL (.one 1) src all (exSs p.T C w28_0) (l.map fun c => MV.str ⟨#[c]⟩) e h
          | .ct e h => forL (.one 1) src all (exSs p.T C w28_0) (l.map fun c => MV.str ⟨#[c]⟩) e h
          | o => o) = _
        rw [st]
      rw [Bool.true_and, List.map_cons, red]
      exact ⟨i1, i2⟩
theorem s_allfig (n : Nat) (h : HP) {l : List Nat} (ok : okC l) : run p.T p.fs (n + 1) 28 [.str (mk l)] h = .ok (.bl (digB l && !l.isEmpty)) h := by
  rw [run_eq (F := fn28) rfl rfl]
  have sg : signs (mk l) = l.map fun c => MV.str ⟨#[c]⟩ := rfl
  obtain ⟨i1, i2⟩ := fig_loop (run p.T p.fs n) h (.str (mk l)) (fun _ => some (l.map fun c => MV.str ⟨#[c]⟩)) (l.map fun c => MV.str ⟨#[c]⟩) rfl l none
  have eq : eqM h (.str (mk l)) (.str "") = some (decide (l = [])) := by rw [lit_0]; exact eqM_mk h ok (by intro c hc; cases hc)
  obtain ⟨L, hL⟩ : ∃ L, (l.map fun c => MV.str ⟨#[c]⟩) = L := ⟨_, rfl⟩
  rw [hL] at sg i1 i2
  cases b : digB l
  · have i2 := i2 b
    simp -implicitDefEqProofs [fn28, sg, i2]
  · obtain ⟨y, i1⟩ := i1 b
    simp -implicitDefEqProofs [fn28, sg, i1, eq]
    cases l <;> simp
theorem s_bare (n : Nat) (h : HP) {x : Str} (hx : x.length ≤ 400) : run p.T p.fs (n + 1) 29 [.str x] h = .ok (.str (Txt.stripChars x " ")) h := by
  rw [run_eq (F := fn29) rfl rfl]
  have l1 : x.length ≤ sz := by show x.length ≤ 16777216; omega
  have l3 : x.length ≤ 16777216 := by omega
  have l2 : ¬ (400 : Int) < x.length := by omega
  simp -implicitDefEqProofs [fn29, l1, l2, l3, meV]
/-- the mark ahead -/
def mkS (m : List Nat) : Int := if m = [45] then 1 else 0
theorem s_apart (n : Nat) (h : HP) {m r : List Nat} (hm : m = [] ∨ m = [45] ∨ m = [43]) (hr : m = [] → r.head? ≠ some 45 ∧ r.head? ≠ some 43) (hl : (m ++ r).length ≤ 1000) :
    run p.T p.fs (n + 1) 30 [.str (mk (m ++ r))] h = .ok (.tup [.int (mkS m), .str (mk r)]) h := by
  rw [run_eq (F := fn30) rfl rfl]
  have s1 : Txt.startswith (mk (m ++ r)) "-" = decide ((m ++ r).head? = some 45) := by rw [lit_mi]; exact starts_mk _ _
  have s2 : Txt.startswith (mk (m ++ r)) "+" = decide ((m ++ r).head? = some 43) := by rw [lit_pl]; exact starts_mk _ _
  have lz : (mk (m ++ r)).length ≤ sz := by rw [mk_len]; show (m ++ r).length ≤ 16777216; omega
  rcases hm with z | z | z
  · obtain ⟨h1, h2⟩ := hr z
    subst z
    rw [List.nil_append] at s1 s2 lz ⊢
    rw [decide_eq_false h1] at s1
    rw [decide_eq_false h2] at s2
    simp -implicitDefEqProofs [fn30, meV, s1, s2, mkS]
  · subst z
    have sl : slcV h (.str (mk ([45] ++ r))) (some 1) none = some (.str (mk r)) := by
      have e : slcV h (.str (mk ([45] ++ r))) (some 1) none = if (mk ([45] ++ r)).length ≤ sz then some (.str (cutS (mk ([45] ++ r)) (some 1) none)) else none := rfl
      rw [e, if_pos lz, cut1 (by simp)]; rfl
    have s1 : Txt.startswith (mk ([45] ++ r)) "-" = true := s1
    obtain ⟨X, hX⟩ : ∃ X, mk ([45] ++ r) = X := ⟨_, rfl⟩
    rw [hX] at sl s1 ⊢
    simp -implicitDefEqProofs [fn30, meV, s1, sl, isN, mkS]
  · subst z
    have sl : slcV h (.str (mk ([43] ++ r))) (some 1) none = some (.str (mk r)) := by
      have e : slcV h (.str (mk ([43] ++ r))) (some 1) none = if (mk ([43] ++ r)).length ≤ sz then some (.str (cutS (mk ([43] ++ r)) (some 1) none)) else none := rfl
      rw [e, if_pos lz, cut1 (by simp)]; rfl
    have s1 : Txt.startswith (mk ([43] ++ r)) "-" = false := s1
    have s2 : Txt.startswith (mk ([43] ++ r)) "+" = true := s2
    obtain ⟨X, hX⟩ : ∃ X, mk ([43] ++ r) = X := ⟨_, rfl⟩
    rw [hX] at sl s1 s2 ⊢
    simp -implicitDefEqProofs [fn30, meV, s1, s2, sl, isN, mkS]
theorem dig_head {l : List Nat} (h : AllDigits l) : ∀ c, l.head? = some c → 48 ≤ c ∧ c ≤ 57 := by
  intro c hc
  cases l with
  | nil => cases hc
  | cons a l => cases hc; exact h _ (List.mem_cons_self ..)
theorem s_power (n : Nat) (h : HP) {m e : List Nat} (hm : m = [] ∨ m = [45] ∨ m = [43]) (he : AllDigits e) (h0 : e ≠ []) (hl : e.length ≤ 4) :
    run p.T p.fs (n + 2) 31 [.str (mk (m ++ e))] h = .ok (.int ((1 - 2 * mkS m) * (digitsVal e : Nat))) h := by
  have ml : m.length ≤ 1 := by rcases hm with z | z | z <;> subst z <;> decide
  have ap := s_apart n h hm (r := e) (fun _ => ⟨fun q => by have := dig_head he _ q; omega, fun q => by have := dig_head he _ q; omega⟩) (by rw [List.length_append]; omega)
  have af := s_allfig n h (okC_dig he)
  rw [digB_iff.mpr he] at af
  have ne : e.isEmpty = false := by cases e <;> simp_all
  rw [ne] at af
  have iv : toI (.str (mk e)) = some (.int (digitsVal e : Nat)) := by
    show (if (mk e).length ≤ 640 then (PySem.intText? (mk e)).map MV.int else none) = _
    rw [if_pos (by rw [mk_len]; omega), int_mk he h0 (by omega)]; rfl
  have iv : biV h .int1 [.str (mk e)] = some (.int (digitsVal e : Nat)) := iv
  have l1 : (mk e).length ≤ sz := by rw [mk_len]; show e.length ≤ 16777216; omega
  have l2 : ¬ (4 : Int) < (mk e).length := by rw [mk_len]; omega
  rw [run_eq (F := fn31) rfl rfl]
  obtain ⟨V, hV⟩ : ∃ V : Int, ((digitsVal e : Nat) : Int) = V := ⟨_, rfl⟩
  rw [hV] at iv ⊢
  obtain ⟨X, hX⟩ : ∃ X, mk e = X := ⟨_, rfl⟩
  rw [hX] at ap af iv l1 l2
  rcases hm with z | z | z <;> subst z
  · simp -implicitDefEqProofs [mkS] at ap
    simp -implicitDefEqProofs [fn31, ap, af, iv, l1, l2, mkS]
  · simp -implicitDefEqProofs [mkS] at ap
    simp -implicitDefEqProofs [fn31, ap, af, iv, l1, l2, mkS]
  · simp -implicitDefEqProofs [mkS] at ap
    simp -implicitDefEqProofs [fn31, ap, af, iv, l1, l2, mkS]
/-- a numeral's parts: mark, figures ahead of the point, behind it, the power's mark and figures -/
def bkL (B : Option (List Nat)) : List Nat := match B with
  | none => []
  | some b => 46 :: b
def tlL (T : Option (List Nat × List Nat)) : List Nat := match T with
  | none => []
  | some t => 101 :: (t.1 ++ t.2)
def bkF (B : Option (List Nat)) : List Nat := B.getD []
def tlP (T : Option (List Nat × List Nat)) : Int := match T with
  | none => 0
  | some t => (1 - 2 * mkS t.1) * (digitsVal t.2 : Nat)
structure Num (m F : List Nat) (B : Option (List Nat)) (T : Option (List Nat × List Nat)) : Prop where
  hm : m = [] ∨ m = [45] ∨ m = [43]
  f : AllDigits F
  f0 : F ≠ []
  b : ∀ b, B = some b → AllDigits b ∧ b ≠ []
  t : ∀ t, T = some t → (t.1 = [] ∨ t.1 = [45] ∨ t.1 = [43]) ∧ AllDigits t.2 ∧ t.2 ≠ [] ∧ t.2.length ≤ 4
def numT (m F : List Nat) (B : Option (List Nat)) (T : Option (List Nat × List Nat)) : List Nat := m ++ (F ++ bkL B ++ tlL T)
theorem s_spelled (n : Nat) (h : HP) {m F : List Nat} {B : Option (List Nat)} {T : Option (List Nat × List Nat)} (N : Num m F B T) {a b : Nat} (hl : a + (numT m F B T).length + b ≤ 400) :
    run p.T p.fs (n + 3) 32 [.str (mk (List.replicate a 32 ++ numT m F B T ++ List.replicate b 32))] h = .ok (.tup [.int (mkS m), .int (digitsVal (F ++ bkF B) : Nat), .int (tlP T - (bkF B).length)]) h := by
  have hm := N.hm
  have fh := dig_head N.f
  have Fne : ∃ c F', F = c :: F' ∧ 48 ≤ c ∧ c ≤ 57 := by
    cases hF : F with
    | nil => exact absurd hF N.f0
    | cons c F' => exact ⟨c, F', rfl, N.f c (by rw [hF]; exact List.mem_cons_self ..)⟩
  -- the ends
  have fin : ∀ c, (numT m F B T).getLast? = some c → 48 ≤ c ∧ c ≤ 57 := by
    intro c hc
    have last {l : List Nat} (hl : AllDigits l) (q : l.getLast? = some c) : 48 ≤ c ∧ c ≤ 57 := hl c (List.mem_of_getLast? q)
    have app {x y : List Nat} (hy : y ≠ []) (q : (x ++ y).getLast? = some c) : y.getLast? = some c := by
      rw [List.getLast?_append] at q
      cases z : y.getLast? with
      | none => exact absurd (List.getLast?_eq_none_iff.mp z) hy
      | some d => rw [z] at q; exact q
    unfold numT at hc
    cases T with
    | some t =>
      obtain ⟨_, t2, t3, _⟩ := N.t t rfl
      have h1 := app (by simp [tlL, bkL]) hc
      have h2 : (101 :: (t.1 ++ t.2)).getLast? = some c := app (by simp) h1
      have e : 101 :: (t.1 ++ t.2) = (101 :: t.1) ++ t.2 := rfl
      rw [e] at h2
      exact last t2 (app t3 h2)
    | none =>
      have e0 : tlL none = [] := rfl
      rw [e0, List.append_nil] at hc
      cases B with
      | some b =>
        obtain ⟨b1, b2⟩ := N.b b rfl
        have h1 := app (by simp [bkL]) hc
        have e : F ++ bkL (some b) = (F ++ [46]) ++ b := by simp [bkL]
        rw [e] at h1
        exact last b1 (app b2 h1)
      | none =>
        have e : F ++ bkL none = F := by simp [bkL]
        rw [e] at hc
        exact last N.f (app N.f0 hc)
  have hd : (numT m F B T).head? ≠ some 32 := by
    obtain ⟨c, F', e, c1, c2⟩ := Fne
    unfold numT
    rcases hm with z | z | z <;> subst z
    · rw [e]; simp; omega
    · simp
    · simp
  have ne0 : numT m F B T ≠ [] := by
    obtain ⟨c, F', e, _⟩ := Fne
    unfold numT; rw [e]; simp
  have st := strip_mk (a := a) (b := b) ne0 hd (fun q => by have := fin _ q; omega)
  have ba := s_bare (n + 1) h (x := mk (List.replicate a 32 ++ numT m F B T ++ List.replicate b 32)) (by rw [mk_len]; simp; omega)
  rw [st] at ba
  obtain ⟨rest, hrest⟩ : ∃ r, F ++ bkL B ++ tlL T = r := ⟨_, rfl⟩
  have hl2 : rest.length + m.length ≤ 400 := by
    have e : (numT m F B T).length = m.length + rest.length := by unfold numT; rw [List.length_append, hrest]
    omega
  have en : numT m F B T = m ++ rest := by unfold numT; rw [hrest]
  rw [en] at ba
  have ap := s_apart (n + 1) h hm (r := rest) (by
    intro _
    obtain ⟨c, F', e, c1, c2⟩ := Fne
    rw [← hrest, e]
    exact ⟨by simp; omega, by simp; omega⟩) (by rw [List.length_append]; omega)
  -- the first cut
  obtain ⟨fb, hfb⟩ : ∃ r, F ++ bkL B = r := ⟨_, rfl⟩
  have dfree {l : List Nat} (hl : AllDigits l) {s : Nat} (hs : s < 48 ∨ 57 < s) : s ∉ l := fun q => by have := hl s q; omega
  have efree : (101 : Nat) ∉ fb := by
    rw [← hfb]
    intro q
    rcases List.mem_append.mp q with q | q
    · exact dfree N.f (.inr (by decide)) q
    · cases B with
      | none => cases q
      | some b =>
        rcases List.mem_cons.mp q with q | q
        · cases q
        · exact dfree (N.b b rfl).1 (.inr (by decide)) q
  have hl3 : fb.length ≤ 400 := by rw [← hrest, hfb, List.length_append] at hl2; omega
  have lr : (mk rest).length ≤ 16777216 := by rw [mk_len]; omega
  have lfb : (mk fb).length ≤ 16777216 := by rw [mk_len]; omega
  have pf : Txt.partition (mk fb) "." = (mk F, mk (if B.isSome then [46] else []), mk (bkF B)) := by
    rw [lit_dot, ← hfb]
    cases B with
    | none =>
      have e : F ++ bkL none = F := by simp [bkL]
      rw [e, part_no (dfree N.f (.inl (by decide)))]; rfl
    | some b => exact part_at (dfree N.f (.inl (by decide)))
  have af := s_allfig (n + 1) h (okC_dig N.f)
  have nf : F.isEmpty = false := by
    obtain ⟨c, F', e, _⟩ := Fne
    rw [e]; rfl
  rw [digB_iff.mpr N.f, nf] at af
  have okF : okC [46] := by intro c hc; cases hc with | head => decide | tail _ q => cases q
  have eqd : eqM h (.str (mk (if B.isSome then [46] else []))) (.str ".") = some B.isSome := by
    rw [lit_dot]
    cases B with
    | none => exact eqM_mk h (by intro c hc; cases hc) okF
    | some b => exact eqM_mk h okF okF
  have ab : B.isSome = true → run p.T p.fs (n + 2) 28 [.str (mk (bkF B))] h = .ok (.bl true) h := by
    intro q
    cases B with
    | none => cases q
    | some b =>
      obtain ⟨b1, b2⟩ := N.b b rfl
      have := s_allfig (n + 1) h (okC_dig b1)
      rw [digB_iff.mpr b1] at this
      cases b with
      | nil => exact absurd rfl b2
      | cons _ _ => exact this
  have dfb : AllDigits (F ++ bkF B) := by
    intro c hc
    rcases List.mem_append.mp hc with q | q
    · exact N.f c q
    · cases B with
      | none => cases q
      | some b => exact (N.b b rfl).1 c q
  have lfb2 : (F ++ bkF B).length ≤ 400 := by
    have : (F ++ bkF B).length ≤ fb.length := by
      rw [← hfb]
      cases B with
      | none => simp [bkF, bkL]
      | some b => simp [bkF, bkL]
    omega
  have iv : biV h .int1 [.str (mk (F ++ bkF B))] = some (.int (digitsVal (F ++ bkF B) : Nat)) := by
    show (if (mk (F ++ bkF B)).length ≤ 640 then (PySem.intText? (mk (F ++ bkF B))).map MV.int else none) = _
    rw [if_pos (by rw [mk_len]; omega), int_mk dfb (by intro q; exact N.f0 (List.append_eq_nil_iff.mp q).1) (by omega)]; rfl
  have lF : (mk F).length + (mk (bkF B)).length ≤ 16777216 := by rw [mk_len, mk_len]; rw [List.length_append] at lfb2; omega
  have lB : (mk (bkF B)).length ≤ 16777216 := by omega
  have eB : (mk (bkF B)).length = (bkF B).length := mk_len _
  obtain ⟨Vs, hVs⟩ : ∃ V : Int, ((digitsVal (F ++ bkF B) : Nat) : Int) = V := ⟨_, rfl⟩
  rw [hVs] at iv ⊢
  have apf : mk F ++ mk (bkF B) = mk (F ++ bkF B) := mk_app _ _
  -- the power
  have core (X Y : Str) (b1 : Bool) (P : Int) (hp : Txt.partition (mk rest) "e" = (mk fb, X, Y)) (h1 : eqM h (.str X) (.str "e") = some b1) (h2 : b1 = true → run p.T p.fs (n + 2) 31 [.str Y] h = .ok (.int P) h) (h3 : b1 = false → P = 0) :
      run p.T p.fs (n + 3) 32 [.str (mk (List.replicate a 32 ++ numT m F B T ++ List.replicate b 32))] h = .ok (.tup [.int (mkS m), .int Vs, .int (P - (bkF B).length)]) h := by
    rw [en]
    obtain ⟨D, hD⟩ : ∃ D, mk (if B.isSome then [46] else []) = D := ⟨_, rfl⟩
    rw [hD] at pf eqd
    obtain ⟨E, hE⟩ : ∃ D, mk (bkF B) = D := ⟨_, rfl⟩
    rw [hE] at pf ab lF lB eB apf
    obtain ⟨G, hG⟩ : ∃ D, mk F = D := ⟨_, rfl⟩
    rw [hG] at pf af lF apf
    obtain ⟨J, hJ⟩ : ∃ D, mk (F ++ bkF B) = D := ⟨_, rfl⟩
    rw [hJ] at iv apf
    obtain ⟨R, hR⟩ : ∃ D, mk rest = D := ⟨_, rfl⟩
    rw [hR] at ap lr hp
    obtain ⟨S, hS⟩ : ∃ D, mk fb = D := ⟨_, rfl⟩
    rw [hS] at pf hp lfb
    obtain ⟨Z, hZ⟩ : ∃ D, mk (m ++ rest) = D := ⟨_, rfl⟩
    rw [hZ] at ba ap
    obtain ⟨W, hW⟩ : ∃ D, mk (List.replicate a 32 ++ (m ++ rest) ++ List.replicate b 32) = D := ⟨_, rfl⟩
    rw [hW] at ba ⊢
    have le : (("e" : Str).length == 0) = false := by decide +kernel
    have ld : (("." : Str).length == 0) = false := by decide +kernel
    rw [eB] at lF lB
    have m1 := meV_part (h := h) le lr hp
    have m2 := meV_part (h := h) ld lfb pf
    rw [run_eq (F := fn32) rfl rfl]
    cases b1 with
    | false =>
      have p0 := h3 rfl
      subst p0
      cases q : B.isSome with
      | false =>
        rw [q] at eqd
        simp -implicitDefEqProofs [fn32, ba, ap, m1, m2, h1, af, eqd, lF, lB, eB, apf, iv]
      | true =>
        rw [q] at eqd
        have ab := ab q
        simp -implicitDefEqProofs [fn32, ba, ap, m1, m2, h1, af, ab, eqd, lF, lB, eB, apf, iv]
    | true =>
      have h2 := h2 rfl
      cases q : B.isSome with
      | false =>
        rw [q] at eqd
        simp -implicitDefEqProofs [fn32, ba, ap, m1, m2, h1, h2, af, eqd, lF, lB, eB, apf, iv]
      | true =>
        rw [q] at eqd
        have ab := ab q
        simp -implicitDefEqProofs [fn32, ba, ap, m1, m2, h1, h2, af, ab, eqd, lF, lB, eB, apf, iv]
  have ok101 : okC [101] := by intro c hc; cases hc with | head => decide | tail _ q => cases q
  cases T with
  | none =>
    have e : rest = fb := by rw [← hrest, hfb]; simp [tlL]
    refine core (mk []) (mk []) false 0 ?_ ?_ (fun q => by cases q) (fun _ => rfl)
    · rw [lit_e, e]; exact part_no efree
    · rw [lit_e]; exact eqM_mk h (by intro c hc; cases hc) ok101
  | some t =>
    obtain ⟨t1, t2, t3, t4⟩ := N.t t rfl
    have e : rest = fb ++ 101 :: (t.1 ++ t.2) := by rw [← hrest, hfb]; rfl
    refine core (mk [101]) (mk (t.1 ++ t.2)) true _ ?_ ?_ (fun _ => s_power n h t1 t2 t3 t4) (fun q => by cases q)
    · rw [lit_e, e]; exact part_at efree
    · rw [lit_e]; exact eqM_mk h ok101 ok101
end Pg

namespace Pg
open PySem L2 Rm
open PySem.Builtin.Int (intBits)
/-! a text that is laid is a numeral -/
open TL
open NumText (AllDigits digitsVal)
theorem dig_app {a b : List Nat} (x : AllDigits a) (y : AllDigits b) : AllDigits (a ++ b) := fun c hc => (List.mem_append.mp hc).elim (x c) (y c)
theorem dig_rep (k : Nat) : AllDigits (List.replicate k 48) := fun c hc => by rw [(List.mem_replicate.mp hc).2]; decide
theorem dig48 : AllDigits [48] := dig_rep 1
theorem laid_num {s : Int} (hs : s = 0 ∨ s = 1) {n : Nat} (hn : n < 10 ^ 60) {P : Int} (p1 : -9200 ≤ P) (p2 : P ≤ 9200) :
    ∃ m F B T, Num m F B T ∧ numT m F B T = laidT s n P ∧ (mkS m = s ∧ (m = [] ∨ m = [45]) ∧ ∀ t, T = some t → t.1 = [] ∨ t.1 = [45]) ∧ (laidT s n P).length ≤ 200 ∧ (n = 0 → digitsVal (F ++ bkF B) = 0 ∧ tlP T - (bkF B).length = 0) ∧
      (n ≠ 0 → ∃ q : Nat, q ≤ 20 ∧ digitsVal (F ++ bkF B) = n * 10 ^ q ∧ tlP T - (bkF B).length = P - q ∧ (F ++ bkF B).length ≤ (numL n).length + 21) := by
  obtain ⟨m, hm, ms, mm, me, ml⟩ : ∃ m : List Nat, (m = [] ∨ m = [45] ∨ m = [43]) ∧ mkS m = s ∧ (m = [] ∨ m = [45]) ∧ (if s = 1 then [45] else []) = m ∧ m.length ≤ 1 := by
    rcases hs with y | y
    · exact ⟨[], .inl rfl, by rw [y]; rfl, .inl rfl, by rw [y]; rfl, by decide⟩
    · exact ⟨[45], .inr (.inl rfl), by rw [y]; rfl, .inr rfl, by rw [y]; rfl, by decide⟩
  have ll := numL_len (by decide : 0 < 60) hn
  have l0 := numL_ne n
  have vl := numL_val n
  have dg := numL_digits n
  unfold laidT
  rw [me]
  obtain ⟨L, hL⟩ : ∃ L, numL n = L := ⟨_, rfl⟩
  rw [hL] at ll l0 vl dg ⊢
  have L1 : 1 ≤ L.length := List.length_pos_iff.mpr l0
  obtain ⟨A, hA⟩ : ∃ A : Int, P + (L.length : Int) - 1 = A := ⟨_, rfl⟩
  rw [hA]
  have nN : ∀ b, (none : Option (List Nat)) = some b → AllDigits b ∧ b ≠ [] := fun b q => by cases q
  have nT : ∀ t, (none : Option (List Nat × List Nat)) = some t → (t.1 = [] ∨ t.1 = [45] ∨ t.1 = [43]) ∧ AllDigits t.2 ∧ t.2 ≠ [] ∧ t.2.length ≤ 4 := fun b q => by cases q
  have nT2 : ∀ t, (none : Option (List Nat × List Nat)) = some t → t.1 = [] ∨ t.1 = [45] := fun b q => by cases q
  by_cases n0 : n = 0
  · rw [if_pos n0]
    refine ⟨m, [48], none, none, ⟨hm, dig48, by decide, nN, nT⟩, by simp [numT, bkL, tlL], ⟨ms, mm, nT2⟩, by simp; omega, fun _ => by decide, fun q => absurd n0 q⟩
  rw [if_neg n0]
  by_cases z1 : A < -5 ∨ 20 < A
  · rw [if_pos z1]
    obtain ⟨t, ht1, ht2, ht3, ht4, ht5, ht6, ht7⟩ : ∃ t : List Nat × List Nat, (t.1 = [] ∨ t.1 = [45] ∨ t.1 = [43]) ∧ AllDigits t.2 ∧ t.2 ≠ [] ∧ t.2.length ≤ 4 ∧ t.1 ++ t.2 = itL A ∧ (1 - 2 * mkS t.1) * (digitsVal t.2 : Nat) = A ∧ (t.1 = [] ∨ t.1 = [45]) := by
      rcases z1 with z | z
      · obtain ⟨k, hk⟩ : ∃ k : Nat, A = -(k : Int) := ⟨(-A).toNat, by omega⟩
        refine ⟨([45], numL k), .inr (.inl rfl), numL_digits k, numL_ne k, numL_len (by decide : 0 < 4) (by omega), ?_, ?_, .inr rfl⟩
        · rw [hk, it_neg k (by omega)]; rfl
        · show (1 - 2 * mkS [45]) * ((digitsVal (numL k) : Nat) : Int) = A
          rw [numL_val, hk]; simp [mkS]
      · obtain ⟨k, hk⟩ : ∃ k : Nat, A = k := ⟨A.toNat, by omega⟩
        refine ⟨([], numL k), .inl rfl, numL_digits k, numL_ne k, numL_len (by decide : 0 < 4) (by omega), ?_, ?_, .inl rfl⟩
        · rw [hk, itL_nat]; rfl
        · show (1 - 2 * mkS []) * ((digitsVal (numL k) : Nat) : Int) = A
          rw [numL_val, hk]; simp [mkS]
    have tP : tlP (some t) = A := ht6
    have tL : tlL (some t) = 101 :: itL A := by show 101 :: (t.1 ++ t.2) = _; rw [ht5]
    have lI : (itL A).length ≤ 5 := by
      rw [← ht5, List.length_append]
      have : t.1.length ≤ 1 := by rcases ht1 with y | y | y <;> rw [y] <;> decide
      omega
    have sT : ∀ u, some t = some u → u.1 = [] ∨ u.1 = [45] := fun u q => by cases q; exact ht7
    have hT : ∀ u, some t = some u → (u.1 = [] ∨ u.1 = [45] ∨ u.1 = [43]) ∧ AllDigits u.2 ∧ u.2 ≠ [] ∧ u.2.length ≤ 4 := fun u q => by cases q; exact ⟨ht1, ht2, ht3, ht4⟩
    have tk : L.take 1 ++ L.drop 1 = L := List.take_append_drop ..
    have d1 : AllDigits (L.take 1) := fun d hd => dg d (List.mem_of_mem_take hd)
    have d2 : AllDigits (L.drop 1) := fun d hd => dg d (List.mem_of_mem_drop hd)
    have t0 : L.take 1 ≠ [] := by intro q; have := congrArg List.length q; rw [List.length_take, List.length_nil] at this; omega
    by_cases z2 : 1 < L.length
    · refine ⟨m, L.take 1, some (L.drop 1), some t, ⟨hm, d1, t0, fun b q => ?_, hT⟩, ?_, ⟨ms, mm, sT⟩, ?_, fun q => absurd q n0, fun _ => ⟨0, by decide, ?_, ?_, ?_⟩⟩
      · cases q; exact ⟨d2, by intro q; have := congrArg List.length q; simp at this; omega⟩
      · unfold numT pwT
        rw [tL, if_pos z2]
        simp [bkL]
      · unfold pwT; rw [if_pos z2]; simp; omega
      · show digitsVal (L.take 1 ++ L.drop 1) = _
        rw [tk, vl]; simp
      · show tlP (some t) - ((L.drop 1).length : Int) = _
        rw [tP, List.length_drop]; omega
      · show (L.take 1 ++ L.drop 1).length ≤ _
        rw [tk]; omega
    · have L1' : L.length = 1 := by omega
      have tk1 : L.take 1 = L := List.take_of_length_le (by omega)
      refine ⟨m, L.take 1, none, some t, ⟨hm, d1, t0, nN, hT⟩, ?_, ⟨ms, mm, sT⟩, ?_, fun q => absurd q n0, fun _ => ⟨0, by decide, ?_, ?_, ?_⟩⟩
      · unfold numT pwT
        rw [tL, if_neg z2]
        simp [bkL]
      · unfold pwT; rw [if_neg z2]; simp; omega
      · show digitsVal (L.take 1 ++ []) = _
        rw [List.append_nil, tk1, vl]; simp
      · show tlP (some t) - (([] : List Nat).length : Int) = _
        rw [tP]; simp; omega
      · show (L.take 1 ++ []).length ≤ _
        simp; omega
  rw [if_neg z1]
  by_cases z4 : 0 ≤ P
  · rw [if_pos z4]
    obtain ⟨q, hq⟩ : ∃ q : Nat, P = q := ⟨P.toNat, by omega⟩
    have hq2 : P.toNat = q := by omega
    rw [hq2]
    refine ⟨m, L ++ List.replicate q 48, none, none, ⟨hm, dig_app dg (dig_rep q), by simp [l0], nN, nT⟩, ?_, ⟨ms, mm, nT2⟩, ?_, fun q => absurd q n0, fun _ => ⟨q, by omega, ?_, ?_, ?_⟩⟩
    · unfold numT; simp [bkL, tlL]
    · simp; omega
    · show digitsVal (L ++ List.replicate q 48 ++ []) = _
      have dz : digitsVal (List.replicate q 48) = 0 := by have := dv_zeros [] q; simpa [digitsVal] using this
      rw [List.append_nil, dv_app, dz, List.length_replicate, vl]; rfl
    · show (0 : Int) - (([] : List Nat).length : Int) = _
      simp; omega
    · show (L ++ List.replicate q 48 ++ []).length ≤ _
      simp; omega
  rw [if_neg z4]
  obtain ⟨k, hk⟩ : ∃ k : Nat, -P = k := ⟨(-P).toNat, by omega⟩
  have hk2 : (-P).toNat = k := by omega
  rw [hk2]
  by_cases z5 : 0 ≤ A
  · rw [if_pos z5]
    have kl : k < L.length := by omega
    refine ⟨m, L.take (L.length - k), some (L.drop (L.length - k)), none, ⟨hm, fun d hd => dg d (List.mem_of_mem_take hd), ?_, fun b q => ?_, nT⟩, ?_, ⟨ms, mm, nT2⟩, ?_, fun q => absurd q n0, fun _ => ⟨0, by decide, ?_, ?_, ?_⟩⟩
    · intro q; have := congrArg List.length q; simp at this; omega
    · cases q
      exact ⟨fun d hd => dg d (List.mem_of_mem_drop hd), by intro q; have := congrArg List.length q; simp at this; omega⟩
    · unfold numT; simp [bkL, tlL]
    · simp; omega
    · show digitsVal (L.take (L.length - k) ++ L.drop (L.length - k)) = _
      rw [List.take_append_drop, vl]; simp
    · show (0 : Int) - ((L.drop (L.length - k)).length : Int) = _
      rw [List.length_drop]; omega
    · show (L.take (L.length - k) ++ L.drop (L.length - k)).length ≤ _
      rw [List.take_append_drop]; omega
  · rw [if_neg z5]
    refine ⟨m, [48], some (List.replicate (k - L.length) 48 ++ L), none, ⟨hm, dig48, by decide, fun b q => ?_, nT⟩, ?_, ⟨ms, mm, nT2⟩, ?_, fun q => absurd q n0, fun _ => ⟨0, by decide, ?_, ?_, ?_⟩⟩
    · cases q
      exact ⟨dig_app (dig_rep _) dg, by simp [l0]⟩
    · unfold numT; simp [bkL, tlL]
    · simp; omega
    · show digitsVal ([48] ++ (List.replicate (k - L.length) 48 ++ L)) = _
      have e : [48] ++ (List.replicate (k - L.length) 48 ++ L) = List.replicate (k - L.length + 1) 48 ++ L := by rw [List.replicate_succ]; rfl
      rw [e, dv_zeros, vl]; simp
    · show (0 : Int) - ((List.replicate (k - L.length) 48 ++ L).length : Int) = _
      simp; omega
    · show ([48] ++ (List.replicate (k - L.length) 48 ++ L)).length ≤ _
      simp; omega
theorem s_laidsp (n : Nat) (h : HP) {s : Int} (hs : s = 0 ∨ s = 1) {v : Nat} (hn : v < 10 ^ 60) {P : Int} (p1 : -9200 ≤ P) (p2 : P ≤ 9200) :
    ∃ (F : Nat) (Q : Int), run p.T p.fs (n + 3) 32 [.str (mk (laidT s v P))] h = .ok (.tup [.int s, .int F, .int Q]) h ∧ (v = 0 → F = 0 ∧ Q = 0) ∧ (v ≠ 0 → ∃ q : Nat, q ≤ 20 ∧ F = v * 10 ^ q ∧ Q = P - q) := by
  obtain ⟨m, F, B, T, N, e, ⟨es, _, _⟩, el, h0, h1⟩ := laid_num hs hn p1 p2
  have sp := s_spelled n h N (a := 0) (b := 0) (by rw [e]; omega)
  have e2 : List.replicate 0 32 ++ numT m F B T ++ List.replicate 0 32 = laidT s v P := by rw [e]; simp
  rw [e2, es] at sp
  exact ⟨_, _, sp, h0, fun z => (let ⟨q, a, b, c, _⟩ := h1 z; ⟨q, a, b, c⟩)⟩
end Pg

namespace Pg
open PySem L2 Rm
open PySem.Builtin.Int (intBits)
/-! a numeral read -/
open TL
open NumText (AllDigits digitsVal)
theorem num_ends (n : Nat) (h : HP) {m F : List Nat} {B : Option (List Nat)} {T : Option (List Nat × List Nat)} (N : Num m F B T) {a b : Nat} (hl : a + (numT m F B T).length + b ≤ 400) :
    ∃ c r, 48 ≤ c ∧ c ≤ 57 ∧ run p.T p.fs (n + 2) 29 [.str (mk (List.replicate a 32 ++ numT m F B T ++ List.replicate b 32))] h = .ok (.str (mk (m ++ (c :: r)))) h ∧
      run p.T p.fs (n + 2) 30 [.str (mk (m ++ (c :: r)))] h = .ok (.tup [.int (mkS m), .str (mk (c :: r))]) h ∧ okC (c :: r) := by
  have hm := N.hm
  have fh := dig_head N.f
  have Fne : ∃ c F', F = c :: F' ∧ 48 ≤ c ∧ c ≤ 57 := by
    cases hF : F with
    | nil => exact absurd hF N.f0
    | cons c F' => exact ⟨c, F', rfl, N.f c (by rw [hF]; exact List.mem_cons_self ..)⟩
  -- the ends
  have fin : ∀ c, (numT m F B T).getLast? = some c → 48 ≤ c ∧ c ≤ 57 := by
    intro c hc
    have last {l : List Nat} (hl : AllDigits l) (q : l.getLast? = some c) : 48 ≤ c ∧ c ≤ 57 := hl c (List.mem_of_getLast? q)
    have app {x y : List Nat} (hy : y ≠ []) (q : (x ++ y).getLast? = some c) : y.getLast? = some c := by
      rw [List.getLast?_append] at q
      cases z : y.getLast? with
      | none => exact absurd (List.getLast?_eq_none_iff.mp z) hy
      | some d => rw [z] at q; exact q
    unfold numT at hc
    cases T with
    | some t =>
      obtain ⟨_, t2, t3, _⟩ := N.t t rfl
      have h1 := app (by simp [tlL, bkL]) hc
      have h2 : (101 :: (t.1 ++ t.2)).getLast? = some c := app (by simp) h1
      have e : 101 :: (t.1 ++ t.2) = (101 :: t.1) ++ t.2 := rfl
      rw [e] at h2
      exact last t2 (app t3 h2)
    | none =>
      have e0 : tlL none = [] := rfl
      rw [e0, List.append_nil] at hc
      cases B with
      | some b =>
        obtain ⟨b1, b2⟩ := N.b b rfl
        have h1 := app (by simp [bkL]) hc
        have e : F ++ bkL (some b) = (F ++ [46]) ++ b := by simp [bkL]
        rw [e] at h1
        exact last b1 (app b2 h1)
      | none =>
        have e : F ++ bkL none = F := by simp [bkL]
        rw [e] at hc
        exact last N.f (app N.f0 hc)
  have hd : (numT m F B T).head? ≠ some 32 := by
    obtain ⟨c, F', e, c1, c2⟩ := Fne
    unfold numT
    rcases hm with z | z | z <;> subst z
    · rw [e]; simp; omega
    · simp
    · simp
  have ne0 : numT m F B T ≠ [] := by
    obtain ⟨c, F', e, _⟩ := Fne
    unfold numT; rw [e]; simp
  have st := strip_mk (a := a) (b := b) ne0 hd (fun q => by have := fin _ q; omega)
  have ba := s_bare (n + 1) h (x := mk (List.replicate a 32 ++ numT m F B T ++ List.replicate b 32)) (by rw [mk_len]; simp; omega)
  rw [st] at ba
  obtain ⟨rest, hrest⟩ : ∃ r, F ++ bkL B ++ tlL T = r := ⟨_, rfl⟩
  have hl2 : rest.length + m.length ≤ 400 := by
    have e : (numT m F B T).length = m.length + rest.length := by unfold numT; rw [List.length_append, hrest]
    omega
  have en : numT m F B T = m ++ rest := by unfold numT; rw [hrest]
  rw [en] at ba
  have ap := s_apart (n + 1) h hm (r := rest) (by
    intro _
    obtain ⟨c, F', e, c1, c2⟩ := Fne
    rw [← hrest, e]
    exact ⟨by simp; omega, by simp; omega⟩) (by rw [List.length_append]; omega)
  obtain ⟨c, F', eF, c1, c2⟩ := Fne
  have er : rest = c :: (F' ++ bkL B ++ tlL T) := by rw [← hrest, eF]; rfl
  refine ⟨c, F' ++ bkL B ++ tlL T, c1, c2, ?_, ?_, ?_⟩
  · rw [en, ← er]; exact ba
  · rw [← er]; exact ap
  · rw [← er, ← hrest]
    intro x hx
    rcases List.mem_append.mp hx with q | q
    · rcases List.mem_append.mp q with q | q
      · have := N.f x q; omega
      · cases B with
        | none => cases q
        | some b =>
          rcases List.mem_cons.mp q with q | q
          · omega
          · have := (N.b b rfl).1 x q; omega
    · cases T with
      | none => cases q
      | some t =>
        obtain ⟨t1, t2, _⟩ := N.t t rfl
        rcases List.mem_cons.mp q with q | q
        · omega
        · rcases List.mem_append.mp q with q | q
          · rcases t1 with y | y | y <;> rw [y] at q <;> simp at q <;> omega
          · have := t2 x q; omega
/-- top and bottom of a numeral's value -/
def rdT (V : Nat) (Q : Int) : Int := if Q < 0 then V else V * 10 ^ Q.toNat
def rdB (Q : Int) : Int := if Q < 0 then 10 ^ (-Q).toNat else 1
theorem dv_bits {l : List Nat} (h : AllDigits l) (hl : l.length ≤ 1000) : intBits ((digitsVal l : Nat) : Int) ≤ 4001 := by
  have h1 := dv_lt h
  have h2 : 10 ^ l.length ≤ 10 ^ 1000 := Nat.pow_le_pow_right (by decide) hl
  have h3 := ib10 1000
  refine ib_mono (ib_lt (n := 4001) (by omega) ?_) (by decide)
  have h4 : ((digitsVal l : Nat) : Int) < 10 ^ 1000 := by
    have : ((10 ^ 1000 : Nat) : Int) = 10 ^ 1000 := by simp
    rw [← this]; omega
  have h5 := ib_hi (x := (10 : Int) ^ 1000) (Int.le_of_lt (Int.pow_pos (by decide)))
  have h6 := two_le_pow h3
  omega
theorem s_readn (w f : Nat) (hw2 : 2 ≤ w) (hw : w ≤ 20) (hf1 : 1 ≤ f) (hf : f ≤ 200) (n : Nat) (h : HP) (k : Nat) (hk : k < 5) {m F : List Nat} {B : Option (List Nat)} {T : Option (List Nat × List Nat)} (N : Num m F B T) {a b : Nat} (hl : a + (numT m F B T).length + b ≤ 400) {V : Nat} {Q : Int} (hV : digitsVal (F ++ bkF B) = V) (hQ : tlP T - (bkF B).length = Q) (q1 : -20000 ≤ Q) (q2 : Q ≤ 20000) :
    ∃ c r : Int, CodeP w f (rdT V Q) (rdB Q) c r ∧ 0 ≤ rdT V Q ∧ 1 ≤ rdB Q ∧ intBits (rdT V Q) ≤ 90000 ∧ intBits (rdB Q) ≤ 90000 ∧ intBits (V : Int) ≤ 4001 ∧
      run p.T p.fs (n + 6) 33 [.tup [.int w, .int f], .str (wayN k), .str (mk (List.replicate a 32 ++ numT m F B T ++ List.replicate b 32))] h = .ok (.tup [.int (mkS m * 2 ^ (w + f) + (stl w f k (mkS m) c r).1), .int (stl w f k (mkS m) c r).2]) h := by
  obtain ⟨d, r, d1, d2, ba, ap, ok⟩ := num_ends (n + 3) h N hl
  have sp := s_spelled (n + 2) h N hl
  rw [hV, hQ] at sp
  have wo := s_way_of (n + 3) h k hk
  have dfb : AllDigits (F ++ bkF B) := by
    intro c hc
    rcases List.mem_append.mp hc with q | q
    · exact N.f c q
    · cases B with
      | none => cases q
      | some b => exact (N.b b rfl).1 c q
  have lfb : (F ++ bkF B).length ≤ 1000 := by
    have : (F ++ bkF B).length ≤ (F ++ bkL B).length := by
      cases B with
      | none => simp [bkF, bkL]
      | some b => simp [bkF, bkL]
    have : (F ++ bkL B).length ≤ (numT m F B T).length := by unfold numT; simp only [List.length_append]; omega
    omega
  have vb := dv_bits dfb lfb
  rw [hV] at vb
  have ms : mkS m = 0 ∨ mkS m = 1 := by unfold mkS; split <;> simp
  have en : eqM h (.str (mk (d :: r))) (.str "none") = some false := by
    rw [show ("none" : Str) = mk [110, 111, 110, 101] by decide +kernel, eqM_mk h ok (by intro c hc; simp at hc; omega)]
    rw [decide_eq_false]; intro q; have := congrArg List.head? q; simp at this; omega
  have ee : eqM h (.str (mk (d :: r))) (.str "endless") = some false := by
    rw [show ("endless" : Str) = mk [101, 110, 100, 108, 101, 115, 115] by decide +kernel, eqM_mk h ok (by intro c hc; simp at hc; omega)]
    rw [decide_eq_false]; intro q; have := congrArg List.head? q; simp at this; omega
  have b10 (j : Nat) (hj : j ≤ 20000) : intBits ((10 : Int) ^ j) ≤ 80001 := ib_mono (ib10 j) (by omega)
  have t0 : 0 ≤ rdT V Q := by
    unfold rdT; split
    · omega
    · exact Int.mul_nonneg (by omega) (Int.le_of_lt (Int.pow_pos (by decide)))
  have b1 : 1 ≤ rdB Q := by
    unfold rdB; split
    · have : (0 : Int) < 10 ^ (-Q).toNat := Int.pow_pos (by decide)
      omega
    · decide
  have tb : intBits (rdT V Q) ≤ 90000 := by
    unfold rdT; split
    · omega
    · exact ib_mono (intBits_mul_le vb (b10 _ (by omega))) (by decide)
  have bb : intBits (rdB Q) ≤ 90000 := by
    unfold rdB; split
    · exact ib_mono (b10 _ (by omega)) (by decide)
    · exact ib_mono ib_one (by decide)
  obtain ⟨c, r2, C, er⟩ := s_rounded w f hw2 hw hf1 hf n h k hk ms t0 b1 (by omega) (by omega)
  refine ⟨c, r2, C, t0, b1, tb, bb, vb, ?_⟩
  rw [run_eq (F := fn33) rfl rfl]
  obtain ⟨X, hX⟩ : ∃ X, mk (List.replicate a 32 ++ numT m F B T ++ List.replicate b 32) = X := ⟨_, rfl⟩
  rw [hX] at ba sp ⊢
  obtain ⟨Y, hY⟩ : ∃ X, mk (m ++ (d :: r)) = X := ⟨_, rfl⟩
  rw [hY] at ba ap
  obtain ⟨Z, hZ⟩ : ∃ X, mk (d :: r) = X := ⟨_, rfl⟩
  rw [hZ] at ap en ee
  obtain ⟨W, hW⟩ : ∃ X : Int, (V : Int) = X := ⟨_, rfl⟩
  rw [hW] at sp vb
  obtain ⟨A1, hA1⟩ : ∃ X, mkS m * 2 ^ (w + f) + (stl w f k (mkS m) c r2).1 = X := ⟨_, rfl⟩
  obtain ⟨A2, hA2⟩ : ∃ X, (stl w f k (mkS m) c r2).2 = X := ⟨_, rfl⟩
  rw [hA1, hA2] at er ⊢
  obtain ⟨M, hM⟩ : ∃ X, mkS m = X := ⟨_, rfl⟩
  rw [hM] at er sp ap
  by_cases z : Q < 0
  · have te := s_ten_to (n + 4) h (-Q) (by omega) (by omega)
    have e1 : rdT V Q = W := by unfold rdT; rw [if_pos z, hW]
    have e2 : rdB Q = 10 ^ (-Q).toNat := by unfold rdB; rw [if_pos z]
    rw [e1, e2] at er
    obtain ⟨U, hU⟩ : ∃ X : Int, (10 : Int) ^ (-Q).toNat = X := ⟨_, rfl⟩
    rw [hU] at te er
    simp -implicitDefEqProofs [fn33, wo, ba, ap, en, ee, sp, z, te, er]
  · have te := s_ten_to (n + 4) h Q (by omega) (by omega)
    have e1 : rdT V Q = W * 10 ^ Q.toNat := by unfold rdT; rw [if_neg z, hW]
    have e2 : rdB Q = 1 := by unfold rdB; rw [if_neg z]
    rw [e1, e2] at er
    have mb : mulB W (10 ^ Q.toNat) = true := mulB_of vb (b10 _ (by omega)) (by decide)
    obtain ⟨U, hU⟩ : ∃ X : Int, (10 : Int) ^ Q.toNat = X := ⟨_, rfl⟩
    rw [hU] at te er mb
    simp -implicitDefEqProofs [fn33, wo, ba, ap, en, ee, sp, z, te, mb, er]
end Pg

namespace Pg
open PySem L2 Rm
open PySem.Builtin.Int (intBits)
/-! any text spelled -/
open TL
open NumText (AllDigits digitsVal)
def stripL (l : List Nat) : List Nat := ((l.dropWhile (· == 32)).reverse.dropWhile (· == 32)).reverse
theorem tw_dw {f : Nat → Bool} (l : List Nat) : l.drop (l.takeWhile f).length = l.dropWhile f := by
  induction l with
  | nil => rfl
  | cons a l ih =>
    by_cases z : f a = true
    · simp [z, ih]
    · simp [z]
theorem strip_any (l : List Nat) : Txt.stripChars (mk l) " " = mk (stripL l) := mk_eq (by
  rw [tl_stripC]
  have fe : ((" " : Str).cps.contains) = fun c => c == 32 := funext has_sp
  rw [fe, tlm]
  dsimp only
  rw [tw_dw]
  obtain ⟨m, hm⟩ : ∃ m, l.dropWhile (fun c => c == 32) = m := ⟨_, rfl⟩
  have hm' : l.dropWhile (· == 32) = m := hm
  have lm : (l.takeWhile fun c => c == 32).length + m.length = l.length := by
    rw [← hm, ← List.length_append, List.takeWhile_append_dropWhile]
  unfold stripL
  rw [hm']
  have e : l.length - (m.reverse.takeWhile fun c => c == 32).length - (l.takeWhile fun c => c == 32).length = m.length - (m.reverse.takeWhile fun c => c == 32).length := by omega
  rw [e]
  have h1 : (m.reverse.takeWhile fun c => c == 32) ++ (m.reverse.dropWhile fun c => c == 32) = m.reverse := List.takeWhile_append_dropWhile
  have h2 : m = (m.reverse.dropWhile fun c => c == 32).reverse ++ (m.reverse.takeWhile fun c => c == 32).reverse := by rw [← List.reverse_append, h1, List.reverse_reverse]
  have h3 : m.length = (m.reverse.dropWhile fun c => c == 32).length + (m.reverse.takeWhile fun c => c == 32).length := by
    have := congrArg List.length h2; rw [List.length_append, List.length_reverse, List.length_reverse] at this; exact this
  conv => lhs; arg 2; rw [h2]
  rw [h3, Nat.add_sub_cancel]
  exact List.take_left' (by rw [List.length_reverse]))
theorem stripL_sub {l : List Nat} {c : Nat} (h : c ∈ stripL l) : c ∈ l := by
  unfold stripL at h
  rw [List.mem_reverse] at h
  have := (List.dropWhile_sublist _).subset h
  rw [List.mem_reverse] at this
  exact (List.dropWhile_sublist _).subset this
theorem stripL_len (l : List Nat) : (stripL l).length ≤ l.length := by
  unfold stripL
  rw [List.length_reverse]
  have h1 := (List.dropWhile_sublist (l := (l.dropWhile (· == 32)).reverse) (· == 32)).length_le
  have h2 := (List.dropWhile_sublist (l := l) (· == 32)).length_le
  rw [List.length_reverse] at h1
  omega
def sgL (l : List Nat) : Int × List Nat := match l with
  | [] => (0, [])
  | c :: r => if c = 45 then (1, r) else if c = 43 then (0, r) else (0, c :: r)
theorem sgL_len (l : List Nat) : (sgL l).2.length ≤ l.length := by
  unfold sgL
  cases l with
  | nil => exact Nat.le_refl _
  | cons c r => dsimp only; split <;> (try split) <;> simp_all
theorem sgL_sub {l : List Nat} {c : Nat} (h : c ∈ (sgL l).2) : c ∈ l := by
  cases l with
  | nil => exact h
  | cons d r =>
    simp only [sgL] at h
    split at h
    · exact List.mem_cons_of_mem _ h
    · split at h
      · exact List.mem_cons_of_mem _ h
      · exact h
theorem sgL_01 (l : List Nat) : (sgL l).1 = 0 ∨ (sgL l).1 = 1 := by
  cases l with
  | nil => exact .inl rfl
  | cons d r =>
    simp only [sgL]
    split
    · exact .inr rfl
    · split <;> exact .inl rfl
theorem s_sg (n : Nat) (h : HP) {l : List Nat} (hl : l.length ≤ 100000) : run p.T p.fs (n + 1) 30 [.str (mk l)] h = .ok (.tup [.int (sgL l).1, .str (mk (sgL l).2)]) h := by
  cases l with
  | nil => exact s_apart n h (m := []) (r := []) (.inl rfl) (fun _ => ⟨by simp, by simp⟩) (by simp)
  | cons c r =>
    rw [run_eq (F := fn30) rfl rfl]
    have s1 : Txt.startswith (mk (c :: r)) "-" = decide (c = 45) := by rw [lit_mi, starts_mk]; simp
    have s2 : Txt.startswith (mk (c :: r)) "+" = decide (c = 43) := by rw [lit_pl, starts_mk]; simp
    have lz : (mk (c :: r)).length ≤ sz := by rw [mk_len]; show (c :: r).length ≤ 16777216; omega
    have sl : slcV h (.str (mk (c :: r))) (some 1) none = some (.str (mk r)) := by
      have e : slcV h (.str (mk (c :: r))) (some 1) none = if (mk (c :: r)).length ≤ sz then some (.str (cutS (mk (c :: r)) (some 1) none)) else none := rfl
      rw [e, if_pos lz, cut1 (by simp)]; rfl
    obtain ⟨X, hX⟩ : ∃ X, mk (c :: r) = X := ⟨_, rfl⟩
    rw [hX] at s1 s2 sl
    by_cases z1 : c = 45
    · have e : sgL (c :: r) = (1, r) := by simp [sgL, z1]
      rw [e, hX]
      rw [decide_eq_true z1] at s1
      simp -implicitDefEqProofs [fn30, meV, s1, sl, isN]
    rw [decide_eq_false z1] at s1
    by_cases z2 : c = 43
    · have e : sgL (c :: r) = (0, r) := by simp [sgL, z2]
      rw [e, hX]
      rw [decide_eq_true z2] at s2
      simp -implicitDefEqProofs [fn30, meV, s1, s2, sl, isN]
    · have e : sgL (c :: r) = (0, c :: r) := by simp [sgL, z1, z2]
      rw [e, hX]
      rw [decide_eq_false z2] at s2
      simp -implicitDefEqProofs [fn30, meV, s1, s2, isN]
def pwL (l : List Nat) : Option Int := if (digB (sgL l).2 && !(sgL l).2.isEmpty && decide ((sgL l).2.length ≤ 4)) = true then some ((1 - 2 * (sgL l).1) * (digitsVal (sgL l).2 : Nat)) else none
theorem s_pwL (n : Nat) (h : HP) {l : List Nat} (ok : okC l) (hl : l.length ≤ 1000) :
    run p.T p.fs (n + 2) 31 [.str (mk l)] h = match pwL l with
      | some P => .ok (.int P) h
      | none => .exc (5, []) h := by
  have ap := s_sg n h (l := l) (by omega)
  have ok2 : okC (sgL l).2 := fun c hc => ok c (sgL_sub hc)
  have l2 := sgL_len l
  have af := s_allfig n h ok2
  have s01 := sgL_01 l
  unfold pwL
  obtain ⟨s, hs⟩ : ∃ s, (sgL l).1 = s := ⟨_, rfl⟩
  obtain ⟨e, he⟩ : ∃ s, (sgL l).2 = s := ⟨_, rfl⟩
  rw [he] at ap af l2 ok2
  rw [hs] at ap s01
  rw [he, hs]
  have rz : p.T.rz 5 = true := rfl
  have ln := lenS_str (mk e)
  rw [mk_len, if_pos (by show e.length ≤ 16777216; omega)] at ln
  rw [run_eq (F := fn31) rfl rfl]
  by_cases z : (digB e && !e.isEmpty) = true
  · rw [z] at af
    by_cases y : e.length ≤ 4
    · have dg : AllDigits e := digB_iff.mp (by rw [Bool.and_eq_true] at z; exact z.1)
      have e0 : e ≠ [] := by rw [Bool.and_eq_true] at z; intro q; rw [q] at z; simp at z
      have iv : biV h .int1 [.str (mk e)] = some (.int (digitsVal e : Nat)) := by
        show (if (mk e).length ≤ 640 then (PySem.intText? (mk e)).map MV.int else none) = _
        rw [if_pos (by rw [mk_len]; omega), int_mk dg e0 (by omega)]; rfl
      rw [z, decide_eq_true y, Bool.and_self, if_pos rfl]
      have y2 : ¬ (4 : Int) < e.length := by omega
      obtain ⟨V, hV⟩ : ∃ V : Int, ((digitsVal e : Nat) : Int) = V := ⟨_, rfl⟩
      rw [hV] at iv ⊢
      obtain ⟨X, hX⟩ : ∃ X, mk e = X := ⟨_, rfl⟩
      rw [hX] at ap af iv ln
      have y3 : ¬ 4 < e.length := by omega
      rcases s01 with q | q
      · subst q
        simp -implicitDefEqProofs [-lenS_str, fn31, ap, af, iv, ln, y2, y3]
      · subst q
        have : (1 - 2 * 1) * V = -V := by omega
        simp -implicitDefEqProofs [-lenS_str, fn31, ap, af, iv, ln, y2, y3, this]
    · have y2 : (4 : Int) < e.length := by omega
      have y3 : 4 < e.length := by omega
      rw [decide_eq_false y, Bool.and_false, if_neg (by decide)]
      obtain ⟨X, hX⟩ : ∃ X, mk e = X := ⟨_, rfl⟩
      rw [hX] at ap af ln
      simp -implicitDefEqProofs [-lenS_str, fn31, ap, af, ln, y2, y3, rz]
  · have z : (digB e && !e.isEmpty) = false := by simpa using z
    rw [z] at af
    rw [z, Bool.false_and, if_neg (by decide)]
    obtain ⟨X, hX⟩ : ∃ X, mk e = X := ⟨_, rfl⟩
    rw [hX] at ap af ln
    simp -implicitDefEqProofs [-lenS_str, fn31, ap, af, ln, rz]
/-- a text cut at the first of some sign -/
def cutAt (c : Nat) : List Nat → List Nat × Option (List Nat)
  | [] => ([], none)
  | d :: l => if d = c then ([], some l) else (d :: (cutAt c l).1, (cutAt c l).2)
theorem cutAt_no (c : Nat) (l : List Nat) : c ∉ (cutAt c l).1 := by
  induction l with
  | nil => simp [cutAt]
  | cons d l ih =>
    unfold cutAt
    split
    · simp
    · rename_i z
      simp only [List.mem_cons, not_or]
      exact ⟨fun q => z q.symm, ih⟩
theorem cutAt_eq (c : Nat) (l : List Nat) : l = (cutAt c l).1 ++ (match (cutAt c l).2 with
    | none => []
    | some r => c :: r) := by
  induction l with
  | nil => rfl
  | cons d l ih =>
    unfold cutAt
    split
    · rename_i z; subst z; rfl
    · simp only [List.cons_append]
      congr 1
theorem cutAt_len (c : Nat) (l : List Nat) : (cutAt c l).1.length ≤ l.length ∧ ∀ r, (cutAt c l).2 = some r → (cutAt c l).1.length + r.length + 1 = l.length := by
  have e := congrArg List.length (cutAt_eq c l)
  rw [List.length_append] at e
  refine ⟨by omega, fun r hr => ?_⟩
  rw [hr] at e
  simp only [List.length_cons] at e
  omega
theorem cutAt_sub {c : Nat} {l : List Nat} {x : Nat} : (x ∈ (cutAt c l).1 → x ∈ l) ∧ ∀ r, (cutAt c l).2 = some r → x ∈ r → x ∈ l := by
  have e := cutAt_eq c l
  refine ⟨fun h => by rw [e]; exact List.mem_append_left _ h, fun r hr h => ?_⟩
  rw [e, hr]
  exact List.mem_append_right _ (List.mem_cons_of_mem _ h)
theorem part_cut (c : Nat) (l : List Nat) : Txt.partition (mk l) (mk [c]) = (mk (cutAt c l).1, mk (if (cutAt c l).2.isSome then [c] else []), mk ((cutAt c l).2.getD [])) := by
  have e := cutAt_eq c l
  have no := cutAt_no c l
  cases q : (cutAt c l).2 with
  | none =>
    rw [q, List.append_nil] at e
    rw [← e] at no ⊢
    rw [part_no no]; rfl
  | some r =>
    rw [q] at e
    have e : l = (cutAt c l).1 ++ c :: r := e
    conv => lhs; rw [e]
    rw [part_at no]; rfl
def pwO (o : Option (List Nat)) : Option Int := match o with
  | none => some 0
  | some e => pwL e
def tlB (s : Int) (x : List Nat) (P : Int) (B : Option (List Nat)) : Option (Int × Nat × Int) := match B with
  | none => some (s, digitsVal x, P)
  | some b => if (digB b && !b.isEmpty) = true then some (s, digitsVal (x ++ b), P - b.length) else none
def tlV (s : Int) (x : List Nat) (B : Option (List Nat)) (P : Int) : Option (Int × Nat × Int) := if (digB x && !x.isEmpty) = true then tlB s x P B else none
def spR (h : HP) (o : Option (Int × Nat × Int)) : R MV := match o with
  | some t => .ok (.tup [.int t.1, .int t.2.1, .int t.2.2]) h
  | none => .exc (5, []) h
/-- the spelling of a text without blanks round it -/
def splL (l : List Nat) : Option (Int × Nat × Int) :=
  (pwO (cutAt 101 (sgL l).2).2).bind fun P => tlV (sgL l).1 (cutAt 46 (cutAt 101 (sgL l).2).1).1 (cutAt 46 (cutAt 101 (sgL l).2).1).2 P
theorem s_bareL (n : Nat) (h : HP) {l : List Nat} (hl : l.length ≤ 400) : run p.T p.fs (n + 1) 29 [.str (mk l)] h = .ok (.str (mk (stripL l))) h := by
  have := s_bare n h (x := mk l) (by rw [mk_len]; exact hl)
  rw [strip_any] at this
  exact this
theorem s_bare_no (n : Nat) (h : HP) {l : List Nat} (hl : 400 < l.length) (hl2 : l.length ≤ 100000) : run p.T p.fs (n + 1) 29 [.str (mk l)] h = .exc (5, []) h := by
  rw [run_eq (F := fn29) rfl rfl]
  have rz : p.T.rz 5 = true := rfl
  have ln := lenS_str (mk l)
  rw [mk_len, if_pos (by show l.length ≤ 16777216; omega)] at ln
  have y : (400 : Int) < l.length := by omega
  have y2 : 400 < l.length := hl
  obtain ⟨X, hX⟩ : ∃ X, mk l = X := ⟨_, rfl⟩
  rw [hX] at ln ⊢
  simp -implicitDefEqProofs [-lenS_str, fn29, ln, rz, y, y2]
theorem s_spl (n : Nat) (h : HP) {l : List Nat} (ok : okC l) (hl : l.length ≤ 400) : run p.T p.fs (n + 3) 32 [.str (mk l)] h = spR h (splL (stripL l)) := by
  have ba := s_bareL (n + 1) h hl
  have l1 := stripL_len l
  have ok1 : okC (stripL l) := fun c hc => ok c (stripL_sub hc)
  obtain ⟨t, ht⟩ : ∃ t, stripL l = t := ⟨_, rfl⟩
  rw [ht] at ba l1 ok1 ⊢
  have ap := s_sg (n + 1) h (l := t) (by omega)
  have l2 := sgL_len t
  have ok2 : okC (sgL t).2 := fun c hc => ok1 c (sgL_sub hc)
  unfold splL
  obtain ⟨s, hs⟩ : ∃ s, (sgL t).1 = s := ⟨_, rfl⟩
  obtain ⟨u, hu⟩ : ∃ s, (sgL t).2 = s := ⟨_, rfl⟩
  rw [hu] at ap l2 ok2
  rw [hs] at ap
  rw [hu, hs]
  have c1 := part_cut 101 u
  have l3 := cutAt_len 101 u
  have ok3 : okC (cutAt 101 u).1 := fun c hc => ok2 c (cutAt_sub.1 hc)
  have ok3' : ∀ r, (cutAt 101 u).2 = some r → okC r := fun r hr c hc => ok2 c (cutAt_sub.2 r hr hc)
  obtain ⟨v, hv⟩ : ∃ s, (cutAt 101 u).1 = s := ⟨_, rfl⟩
  obtain ⟨E, hE⟩ : ∃ s, (cutAt 101 u).2 = s := ⟨_, rfl⟩
  rw [hv, hE] at c1 l3
  rw [hv] at ok3
  rw [hE] at ok3'
  rw [hv, hE]
  have c2 := part_cut 46 v
  have l4 := cutAt_len 46 v
  have ok4 : okC (cutAt 46 v).1 := fun c hc => ok3 c (cutAt_sub.1 hc)
  have ok4' : ∀ r, (cutAt 46 v).2 = some r → okC r := fun r hr c hc => ok3 c (cutAt_sub.2 r hr hc)
  obtain ⟨x, hx⟩ : ∃ s, (cutAt 46 v).1 = s := ⟨_, rfl⟩
  obtain ⟨B, hB⟩ : ∃ s, (cutAt 46 v).2 = s := ⟨_, rfl⟩
  rw [hx, hB] at c2 l4
  rw [hx] at ok4
  rw [hB] at ok4'
  rw [hx, hB]
  rw [← lit_e] at c1
  rw [← lit_dot] at c2
  have ok101 : okC [101] := by intro c hc; cases hc with | head => decide | tail _ q => cases q
  have ok46 : okC [46] := by intro c hc; cases hc with | head => decide | tail _ q => cases q
  have ok0 : okC [] := by intro c hc; cases hc
  have q1 : eqM h (.str (mk (if E.isSome then [101] else []))) (.str "e") = some E.isSome := by
    rw [lit_e]; cases E with
    | none => exact eqM_mk h ok0 ok101
    | some _ => exact eqM_mk h ok101 ok101
  have q2 : eqM h (.str (mk (if B.isSome then [46] else []))) (.str ".") = some B.isSome := by
    rw [lit_dot]; cases B with
    | none => exact eqM_mk h ok0 ok46
    | some _ => exact eqM_mk h ok46 ok46
  have rz : p.T.rz 5 = true := rfl
  have le : (("e" : Str).length == 0) = false := by decide +kernel
  have ld : (("." : Str).length == 0) = false := by decide +kernel
  have m1 := meV_part (h := h) le (by rw [mk_len]; omega) c1
  have m2 := meV_part (h := h) ld (by rw [mk_len]; omega) c2
  have af := s_allfig (n + 1) h ok4
  rw [run_eq (F := fn32) rfl rfl]
  -- the tail, from the power on
  have tail (P : Int) (e2 : MV) (X : MV) : leave false h (exSs p.T (run p.T p.fs (n + 2)) (.cons (.asg (.one 4) (.me .part (.idx (.var 2) (.cI 0)) (.cons (.cS ".") (.nil)))) (.cons (.iff (.not (.call 28 (.cons (.idx (.var 4) (.cI 0)) (.nil)))) (.cons (.rais 5) (.nil)) (.nil)) (.cons (.iff (.and (.cmp .eq (.idx (.var 4) (.cI 1)) (.cS ".")) (.not (.call 28 (.cons (.idx (.var 4) (.cI 2)) (.nil))))) (.cons (.rais 5) (.nil)) (.nil)) (.cons (.ret (.tup (.cons (.idx (.var 1) (.cI 0)) (.cons (.bi .int1 (.cons (.bin .add (.idx (.var 4) (.cI 0)) (.idx (.var 4) (.cI 2))) (.nil))) (.cons (.bin .sub (.var 3) (.bi .len (.cons (.idx (.var 4) (.cI 2)) (.nil)))) (.nil)))))) (.nil))))) [some X, some (.tup [.int s, .str (mk u)]), some (.tup [.str (mk v), e2, .str (mk (E.getD []))]), some (.int P), none] h) =
      spR h (tlV s x B P) := by
    unfold tlV
    by_cases z : (digB x && !x.isEmpty) = true
    · have af : run p.T p.fs (n + 1 + 1) 28 [.str (mk x)] h = .ok (.bl true) h := by rw [af, z]
      rw [if_pos z]
      have dx : AllDigits x := digB_iff.mp (by rw [Bool.and_eq_true] at z; exact z.1)
      have x0 : x ≠ [] := by rw [Bool.and_eq_true] at z; intro q; rw [q] at z; simp at z
      cases B with
      | none =>
        have iv : biV h .int1 [.str (mk x)] = some (.int (digitsVal x : Nat)) := by
          show (if (mk x).length ≤ 640 then (PySem.intText? (mk x)).map MV.int else none) = _
          rw [if_pos (by rw [mk_len]; omega), int_mk dx x0 (by omega)]; rfl
        have b0 : binV h .add (.str (mk x)) (.str (mk [])) = some (.str (mk x)) := by have := binV_addM (h := h) x [] (by simp; omega); rw [List.append_nil] at this; exact this
        have ln : lenS (.str (mk [])) = some (.int 0) := rfl
        have m2 : meV h .part (.str (mk v)) [.str "."] = some (.tup [.str (mk x), .str (mk []), .str (mk [])]) := m2
        have q2 : eqM h (.str (mk [])) (.str ".") = some false := q2
        obtain ⟨V, hV⟩ : ∃ V : Int, ((digitsVal x : Nat) : Int) = V := ⟨_, rfl⟩
        rw [hV] at iv
        show _ = R.ok (MV.tup [.int s, .int ((digitsVal x : Nat) : Int), .int P]) h
        rw [hV]
        obtain ⟨X1, h1⟩ : ∃ X, mk x = X := ⟨_, rfl⟩
        rw [h1] at af iv b0 m2
        obtain ⟨X2, h2⟩ : ∃ X, mk [] = X := ⟨_, rfl⟩
        rw [h2] at b0 ln m2 q2
        obtain ⟨X3, h3⟩ : ∃ X, mk v = X := ⟨_, rfl⟩
        rw [h3] at m2 ⊢
        simp -implicitDefEqProofs [-lenS_str, -binV_addS, m2, af, q2, b0, iv, ln]
      | some b =>
        have okb := ok4' b rfl
        have ab := s_allfig (n + 1) h okb
        have lb := l4.2 b rfl
        have m2 : meV h .part (.str (mk v)) [.str "."] = some (.tup [.str (mk x), .str (mk [46]), .str (mk b)]) := m2
        have q2 : eqM h (.str (mk [46])) (.str ".") = some true := q2
        by_cases y : (digB b && !b.isEmpty) = true
        · have ab : run p.T p.fs (n + 1 + 1) 28 [.str (mk b)] h = .ok (.bl true) h := by rw [ab, y]
          have db : AllDigits b := digB_iff.mp (by rw [Bool.and_eq_true] at y; exact y.1)
          have dxb : AllDigits (x ++ b) := fun c hc => (List.mem_append.mp hc).elim (dx c) (db c)
          have iv : biV h .int1 [.str (mk (x ++ b))] = some (.int (digitsVal (x ++ b) : Nat)) := by
            show (if (mk (x ++ b)).length ≤ 640 then (PySem.intText? (mk (x ++ b))).map MV.int else none) = _
            rw [if_pos (by rw [mk_len, List.length_append]; omega), int_mk dxb (by intro q; exact x0 (List.append_eq_nil_iff.mp q).1) (by rw [List.length_append]; omega)]; rfl
          have b0 := binV_addM (h := h) x b (by omega)
          have ln := lenS_str (mk b)
          rw [mk_len, if_pos (by show b.length ≤ 16777216; omega)] at ln
          obtain ⟨V, hV⟩ : ∃ V : Int, ((digitsVal (x ++ b) : Nat) : Int) = V := ⟨_, rfl⟩
          rw [hV] at iv
          unfold tlB
          dsimp only
          rw [if_pos y]
          show _ = R.ok (MV.tup [.int s, .int ((digitsVal (x ++ b) : Nat) : Int), .int (P - b.length)]) h
          rw [hV]
          obtain ⟨X1, h1⟩ : ∃ X, mk x = X := ⟨_, rfl⟩
          rw [h1] at af b0 m2
          obtain ⟨X2, h2⟩ : ∃ X, mk b = X := ⟨_, rfl⟩
          rw [h2] at b0 ln m2 ab
          obtain ⟨X3, h3⟩ : ∃ X, mk v = X := ⟨_, rfl⟩
          rw [h3] at m2 ⊢
          obtain ⟨X4, h4⟩ : ∃ X, mk (x ++ b) = X := ⟨_, rfl⟩
          rw [h4] at b0 iv
          obtain ⟨X5, h5⟩ : ∃ X, mk [46] = X := ⟨_, rfl⟩
          rw [h5] at m2 q2
          simp -implicitDefEqProofs [-lenS_str, -binV_addS, m2, af, ab, q2, b0, iv, ln]
        · have y : (digB b && !b.isEmpty) = false := by simpa using y
          have ab : run p.T p.fs (n + 1 + 1) 28 [.str (mk b)] h = .ok (.bl false) h := by rw [ab, y]
          unfold tlB
          dsimp only
          rw [if_neg (by rw [y]; decide)]
          show _ = R.exc (5, []) h
          obtain ⟨X1, h1⟩ : ∃ X, mk x = X := ⟨_, rfl⟩
          rw [h1] at af m2
          obtain ⟨X2, h2⟩ : ∃ X, mk b = X := ⟨_, rfl⟩
          rw [h2] at m2 ab
          obtain ⟨X3, h3⟩ : ∃ X, mk v = X := ⟨_, rfl⟩
          rw [h3] at m2 ⊢
          obtain ⟨X5, h5⟩ : ∃ X, mk [46] = X := ⟨_, rfl⟩
          rw [h5] at m2 q2
          simp -implicitDefEqProofs [-lenS_str, -binV_addS, m2, af, ab, q2, rz]
    · have z : (digB x && !x.isEmpty) = false := by simpa using z
      have af : run p.T p.fs (n + 1 + 1) 28 [.str (mk x)] h = .ok (.bl false) h := by rw [af, z]
      rw [if_neg (by rw [z]; decide)]
      show _ = R.exc (5, []) h
      obtain ⟨X1, h1⟩ : ∃ X, mk x = X := ⟨_, rfl⟩
      rw [h1] at af m2
      obtain ⟨X3, h3⟩ : ∃ X, mk v = X := ⟨_, rfl⟩
      rw [h3] at m2 ⊢
      simp -implicitDefEqProofs [-lenS_str, -binV_addS, m2, af, rz]
  simp only [exSs_cons] at tail
  cases E with
  | none =>
    have q1 : eqM h (.str (mk [])) (.str "e") = some false := q1
    have m1 : meV h .part (.str (mk u)) [.str "e"] = some (.tup [.str (mk v), .str (mk []), .str (mk [])]) := m1
    have tl := tail 0 (.str (mk [])) (.str (mk l))
    unfold pwO
    dsimp only
    rw [Option.bind_some, ← tl]
    obtain ⟨X1, h1⟩ : ∃ X, mk u = X := ⟨_, rfl⟩
    rw [h1] at ap m1
    rw [h1]
    obtain ⟨X2, h2⟩ : ∃ X, mk t = X := ⟨_, rfl⟩
    rw [h2] at ba ap
    unfold fn32
    simp only [exSs_cons]
    simp -implicitDefEqProofs only [exS_asg, exS_iff, evE_call, evEs_cons, evEs_nil, evE_idx, evE_me, evE_bin, evE_var, evE_cmp, evE_cI, evE_cS, idxV_tup, atI_0, atI_1, meK_str, if_true, if_false, Bool.false_eq_true, start_mk, List.map, List.replicate, List.append, List.cons_append, List.nil_append, List.getElem?_cons_zero, List.getElem?_cons_succ, getV_some, R.bind_ok, ba, ap, m1, q1, R.of_some, R.go_ok, setG_one, sgM_some, O.then_nx, List.set, cmpV_eq, Option.map, iteM_bl, exSs_cons, exSs_nil, Option.getD]
  | some e =>
    have q1 : eqM h (.str (mk [101])) (.str "e") = some true := q1
    have m1 : meV h .part (.str (mk u)) [.str "e"] = some (.tup [.str (mk v), .str (mk [101]), .str (mk e)]) := m1
    have pw := s_pwL n h (l := e) (ok3' e rfl) (by have := l3.2 e rfl; omega)
    cases hp : pwL e with
    | some P =>
      have tl := tail P (.str (mk [101])) (.str (mk l))
      unfold pwO
      dsimp only
      rw [hp, Option.bind_some, ← tl]
      rw [hp] at pw
      dsimp only at pw
      obtain ⟨X1, h1⟩ : ∃ X, mk u = X := ⟨_, rfl⟩
      rw [h1] at ap m1
      rw [h1]
      obtain ⟨X2, h2⟩ : ∃ X, mk t = X := ⟨_, rfl⟩
      rw [h2] at ba ap
      unfold fn32
      simp only [exSs_cons]
      simp -implicitDefEqProofs only [exS_asg, exS_iff, evE_call, evEs_cons, evEs_nil, evE_idx, evE_me, evE_bin, evE_var, evE_cmp, evE_cI, evE_cS, idxV_tup, atI_0, atI_1, atI_2, meK_str, if_true, if_false, Bool.false_eq_true, start_mk, List.map, List.replicate, List.append, List.cons_append, List.nil_append, List.getElem?_cons_zero, List.getElem?_cons_succ, getV_some, R.bind_ok, ba, ap, m1, q1, pw, R.of_some, R.go_ok, setG_one, sgM_some, O.then_nx, List.set, cmpV_eq, Option.map, iteM_bl, exSs_cons, exSs_nil, Option.getD]
    | none =>
      unfold pwO
      dsimp only
      rw [hp, Option.bind_none]
      show _ = R.exc (5, []) h
      rw [hp] at pw
      dsimp only at pw
      obtain ⟨X1, h1⟩ : ∃ X, mk u = X := ⟨_, rfl⟩
      rw [h1] at ap m1
      obtain ⟨X2, h2⟩ : ∃ X, mk t = X := ⟨_, rfl⟩
      rw [h2] at ba ap
      obtain ⟨X3, h3⟩ : ∃ X, mk e = X := ⟨_, rfl⟩
      rw [h3] at m1 pw
      simp -implicitDefEqProofs [-lenS_str, -binV_addS, fn32, ba, ap, m1, q1, pw]
theorem s_spl_no (n : Nat) (h : HP) {l : List Nat} (hl : 400 < l.length) (hl2 : l.length ≤ 100000) : run p.T p.fs (n + 3) 32 [.str (mk l)] h = .exc (5, []) h := by
  have ba := s_bare_no (n + 1) h hl hl2
  rw [run_eq (F := fn32) rfl rfl]
  obtain ⟨X, hX⟩ : ∃ X, mk l = X := ⟨_, rfl⟩
  rw [hX] at ba ⊢
  simp -implicitDefEqProofs [fn32, ba]
end Pg

namespace Pg
open PySem L2 Rm
open PySem.Builtin.Int (intBits)
/-! any text read -/
open TL
open NumText (AllDigits digitsVal)
def noneL : List Nat := [110, 111, 110, 101]
def endlL : List Nat := [101, 110, 100, 108, 101, 115, 115]
theorem lit_none : ("none" : Str) = mk noneL := by decide +kernel
theorem lit_endl : ("endless" : Str) = mk endlL := by decide +kernel
theorem okC_none : okC noneL := by intro c hc; simp [noneL] at hc; omega
theorem okC_endl : okC endlL := by intro c hc; simp [endlL] at hc; omega
theorem s_read_noway (n : Nat) (h : HP) (a x l : MV) (e : run p.T p.fs n 19 [x] h = .exc (3, []) h) : run p.T p.fs (n + 1) 33 [a, x, l] h = .exc (3, []) h := by
  rw [run_eq (F := fn33) rfl rfl]
  simp [fn33, e]
theorem s_read_long (n : Nat) (h : HP) (a : MV) (k : Nat) (hk : k < 5) {l : List Nat} (hl : 400 < l.length) (hl2 : l.length ≤ 100000) : run p.T p.fs (n + 3) 33 [a, .str (wayN k), .str (mk l)] h = .exc (5, []) h := by
  have wo := s_way_of n h k hk
  have ba := s_bare_no (n + 1) h hl hl2
  rw [run_eq (F := fn33) rfl rfl]
  obtain ⟨X, hX⟩ : ∃ X, mk l = X := ⟨_, rfl⟩
  rw [hX] at ba ⊢
  simp -implicitDefEqProofs [fn33, wo, ba]
theorem s_read_none (n : Nat) (h : HP) (w f : Nat) (hw2 : 2 ≤ w) (hw : w ≤ 15) (hf1 : 1 ≤ f) (hf : f ≤ 112) (k : Nat) (hk : k < 5) {l : List Nat} (hl : l.length ≤ 400) (e : (sgL (stripL l)).2 = noneL) : run p.T p.fs (n + 3) 33 [.tup [.int w, .int f], .str (wayN k), .str (mk l)] h = .ok (.tup [.int (2 ^ (w + f) - 2 ^ f + 2 ^ (f - 1)), .int 0]) h := by
  have wo := s_way_of n h k hk
  have ba := s_bareL (n + 1) h hl
  have ap := s_sg (n + 1) h (l := stripL l) (by have := stripL_len l; omega)
  have nn := s_nonum w f hw hw2 hf1 hf n h
  rw [e] at ap
  have eq := eqM_mk h okC_none okC_none
  rw [decide_eq_true rfl, ← lit_none] at eq
  rw [← lit_none] at ap
  rw [run_eq (F := fn33) rfl rfl]
  obtain ⟨X, hX⟩ : ∃ X, mk l = X := ⟨_, rfl⟩
  rw [hX] at ba ⊢
  obtain ⟨Y, hY⟩ : ∃ X, mk (stripL l) = X := ⟨_, rfl⟩
  rw [hY] at ba ap
  simp -implicitDefEqProofs [fn33, wo, ba, ap, eq, nn]
theorem s_read_endl (n : Nat) (h : HP) (w f : Nat) (hw2 : 2 ≤ w) (hw : w ≤ 15) (hf1 : 1 ≤ f) (hf : f ≤ 112) (k : Nat) (hk : k < 5) {l : List Nat} (hl : l.length ≤ 400) (e : (sgL (stripL l)).2 = endlL) : run p.T p.fs (n + 3) 33 [.tup [.int w, .int f], .str (wayN k), .str (mk l)] h = .ok (.tup [.int (2 ^ (w + f) - 2 ^ f + (sgL (stripL l)).1 * 2 ^ (w + f)), .int 0]) h := by
  have wo := s_way_of n h k hk
  have ba := s_bareL (n + 1) h hl
  have ap := s_sg (n + 1) h (l := stripL l) (by have := stripL_len l; omega)
  have en := s_endless w f (by omega) (by omega) (n + 1) h
  have sb := s_sign_bit' w f (by omega) (by omega) (n + 1) h
  have s01 := sgL_01 (stripL l)
  rw [e] at ap
  have e1 := eqM_mk h okC_endl okC_none
  rw [decide_eq_false (by decide), ← lit_none, ← lit_endl] at e1
  have eq := eqM_mk h okC_endl okC_endl
  rw [decide_eq_true rfl, ← lit_endl] at eq
  rw [← lit_endl] at ap
  rw [run_eq (F := fn33) rfl rfl]
  obtain ⟨X, hX⟩ : ∃ X, mk l = X := ⟨_, rfl⟩
  rw [hX] at ba ⊢
  obtain ⟨Y, hY⟩ : ∃ X, mk (stripL l) = X := ⟨_, rfl⟩
  rw [hY] at ba ap
  obtain ⟨S, hS⟩ : ∃ X, (sgL (stripL l)).1 = X := ⟨_, rfl⟩
  rw [hS] at ap s01 ⊢
  have ms : mulB S (2 ^ (w + f)) = true := mulB_left (by rcases s01 with z | z <;> subst z <;> decide)
  simp -implicitDefEqProofs [fn33, wo, ba, ap, e1, eq, en, sb, ms]
theorem s_read_text (n : Nat) (h : HP) (a : MV) (k : Nat) (hk : k < 5) {l : List Nat} (ok : okC l) (hl : l.length ≤ 400) (h1 : (sgL (stripL l)).2 ≠ noneL) (h2 : (sgL (stripL l)).2 ≠ endlL) (h3 : splL (stripL l) = none) : run p.T p.fs (n + 4) 33 [a, .str (wayN k), .str (mk l)] h = .exc (5, []) h := by
  have wo := s_way_of (n + 1) h k hk
  have ba := s_bareL (n + 2) h hl
  have ap := s_sg (n + 2) h (l := stripL l) (by have := stripL_len l; omega)
  have sp := s_spl n h ok hl
  rw [h3] at sp
  have sp : run p.T p.fs (n + 3) 32 [.str (mk l)] h = .exc (5, []) h := sp
  have ok2 : okC (sgL (stripL l)).2 := fun c hc => ok c (stripL_sub (sgL_sub hc))
  have e1 := eqM_mk h ok2 okC_none
  rw [decide_eq_false h1, ← lit_none] at e1
  have e2 := eqM_mk h ok2 okC_endl
  rw [decide_eq_false h2, ← lit_endl] at e2
  rw [run_eq (F := fn33) rfl rfl]
  obtain ⟨X, hX⟩ : ∃ X, mk l = X := ⟨_, rfl⟩
  rw [hX] at ba sp ⊢
  obtain ⟨Y, hY⟩ : ∃ X, mk (stripL l) = X := ⟨_, rfl⟩
  rw [hY] at ba ap
  obtain ⟨Z, hZ⟩ : ∃ X, mk (sgL (stripL l)).2 = X := ⟨_, rfl⟩
  rw [hZ] at ap e1 e2
  simp -implicitDefEqProofs [fn33, wo, ba, ap, e1, e2, sp]
/-- signs that no numeral has -/
def badC (c : Nat) : Prop := ¬ (48 ≤ c ∧ c ≤ 57) ∧ c ≠ 43 ∧ c ≠ 45 ∧ c ≠ 46 ∧ c ≠ 101
theorem digB_no {l : List Nat} {c : Nat} (h : c ∈ l) (hc : badC c) : digB l = false := by
  cases q : digB l with
  | false => rfl
  | true => exact absurd ((digB_iff.mp q) c h) hc.1
theorem sgL_mem {l : List Nat} {c : Nat} (h : c ∈ l) (hc : badC c) : c ∈ (sgL l).2 := by
  cases l with
  | nil => cases h
  | cons d r =>
    simp only [sgL]
    rcases List.mem_cons.mp h with q | q
    · subst q
      rw [if_neg hc.2.2.1, if_neg hc.2.1]
      exact List.mem_cons_self ..
    · split
      · exact q
      · split
        · exact q
        · exact List.mem_cons_of_mem _ q
theorem pwL_no {l : List Nat} {c : Nat} (h : c ∈ l) (hc : badC c) : pwL l = none := by
  unfold pwL
  rw [digB_no (sgL_mem h hc) hc]
  rfl
theorem cutAt_mem {d : Nat} {l : List Nat} {c : Nat} (h : c ∈ l) (hd : c ≠ d) : c ∈ (cutAt d l).1 ∨ ∃ r, (cutAt d l).2 = some r ∧ c ∈ r := by
  have e := cutAt_eq d l
  rw [e] at h
  rcases List.mem_append.mp h with q | q
  · exact .inl q
  · right
    cases z : (cutAt d l).2 with
    | none => rw [z] at q; cases q
    | some r =>
      rw [z] at q
      rcases List.mem_cons.mp q with y | y
      · exact absurd y hd
      · exact ⟨r, rfl, y⟩
theorem splL_no {l : List Nat} {c : Nat} (h : c ∈ l) (hc : badC c) : splL l = none := by
  unfold splL
  rcases cutAt_mem (d := 101) (sgL_mem h hc) hc.2.2.2.2 with q | ⟨r, q1, q2⟩
  · cases pwO (cutAt 101 (sgL l).2).2 with
    | none => rfl
    | some P =>
      rw [Option.bind_some]
      unfold tlV
      rcases cutAt_mem (d := 46) q hc.2.2.2.1 with y | ⟨r, y1, y2⟩
      · rw [digB_no y hc]; rfl
      · rw [y1]
        unfold tlB
        dsimp only
        rw [digB_no y2 hc]
        split <;> rfl
  · rw [q1]
    unfold pwO
    dsimp only
    rw [pwL_no q2 hc]; rfl
theorem stripL_mem {l : List Nat} {c : Nat} (h : c ∈ l) (hc : c ≠ 32) : c ∈ stripL l := by
  have key : ∀ l : List Nat, c ∈ l → c ∈ l.dropWhile (· == 32) := by
    intro l
    induction l with
    | nil => intro h; exact h
    | cons d l ih =>
      intro h
      rw [List.dropWhile_cons]
      split
      · rename_i z
        rcases List.mem_cons.mp h with q | q
        · subst q; simp at z; exact absurd z hc
        · exact ih q
      · exact h
  unfold stripL
  rw [List.mem_reverse]
  exact key _ (by rw [List.mem_reverse]; exact key _ h)
end Pg

namespace Pg
open PySem L2 Rm
open PySem.Builtin.Int (intBits)
@[simp] theorem eqM_t2 (h : HP) (a b c d : Int) : eqM h (.tup [.int a, .int b]) (.tup [.int c, .int d]) = some (decide (a = c) && decide (b = d)) := by
  have (x y : Int) : (x == y) = decide (x = y) := rfl
  simp [eqM, flatD, lstD, toD, toDs, SeqAt.shaped, PyData.eqv, PyData.eqvAll, PyData.canLay0, PyData.canLayAll0, PyData.depth, PyData.depthAll, this]
end Pg

namespace Pg
open PySem L2 Rm
open PySem.Builtin.Int (intBits)
theorem cut_ints (ns : List Int) (a b : Option Int) : ∃ cs : List Int, cutM (ns.map MV.int) a b = cs.map .int ∧ (∀ c ∈ cs, c ∈ ns) ∧ cs.length ≤ ns.length := by
  refine ⟨(ns.drop (HT.sIx (ns.map MV.int).length 0 a)).take (HT.sIx (ns.map MV.int).length (ns.map MV.int).length b - HT.sIx (ns.map MV.int).length 0 a), ?_, fun c hc => List.mem_of_mem_drop (List.mem_of_mem_take hc), ?_⟩
  · unfold cutM
    rw [List.map_take, List.map_drop]
  · rw [List.length_take, List.length_drop]; omega
end Pg

namespace Pg
open PySem L2 Rm
open PySem.Builtin.Int (intBits)
open TL
open NumText (AllDigits digitsVal)
theorem count_loop (C : Nat → List MV → HP → R MV) (h : HP) (x : MV) (src : HP → Option (List MV)) (all : List MV) (hs : src h = some all) : ∀ (l : List Nat) (y : Option MV), AllDigits l →
    ∃ y', forL (.one 1) src all (exSs p.T C w57_0) (l.map fun c => MV.str ⟨#[c]⟩) [some x, y] h = .nx [some x, y'] h
  | [], y, _ => ⟨y, by rw [List.map_nil, forL, if_pos hs]⟩
  | c :: l, y, hd => by
    obtain ⟨y', e⟩ := count_loop C h x src all hs l (some (.str ⟨#[c]⟩)) (fun d hd' => hd d (List.mem_cons_of_mem _ hd'))
    have c1 := hd c (List.mem_cons_self ..)
    have ei : inS (.str ⟨#[c]⟩) "0123456789" = some true := by
      rw [lit_figs, inS_sign, figs_in, decide_eq_true c1.1, decide_eq_true c1.2]; rfl
    refine ⟨y', ?_⟩
    rw [List.map_cons, forL, if_pos hs, ← e]
    simp [ei]
theorem s_countof (n : Nat) (h : HP) {l : List Nat} (hd : AllDigits l) (h0 : l ≠ []) (hl : l.length ≤ 80) : run p.T p.fs (n + 1) 57 [.str (mk l)] h = .ok (.int (digitsVal l : Nat)) h := by
  rw [run_eq (F := fn57) rfl rfl]
  have sg : signs (mk l) = l.map fun c => MV.str ⟨#[c]⟩ := rfl
  obtain ⟨y, e⟩ := count_loop (run p.T p.fs n) h (.str (mk l)) (fun _ => some (l.map fun c => MV.str ⟨#[c]⟩)) (l.map fun c => MV.str ⟨#[c]⟩) rfl l none hd
  have eq : eqM h (.str (mk l)) (.str "") = some false := by
    rw [lit_0, eqM_mk h (okC_dig hd) (by intro c hc; cases hc), decide_eq_false h0]
  have ln := lenS_mk (L := l) (by omega)
  have z : ¬ (80 : Int) < l.length := by omega
  have iv : biV h .int1 [.str (mk l)] = some (.int (digitsVal l : Nat)) := by
    show (if (mk l).length ≤ 640 then (PySem.intText? (mk l)).map MV.int else none) = _
    rw [if_pos (by rw [mk_len]; omega), int_mk hd h0 (by omega)]; rfl
  obtain ⟨V, hV⟩ : ∃ V : Int, ((digitsVal l : Nat) : Int) = V := ⟨_, rfl⟩
  rw [hV] at iv ⊢
  obtain ⟨L, hL⟩ : ∃ L, (l.map fun c => MV.str ⟨#[c]⟩) = L := ⟨_, rfl⟩
  rw [hL] at sg e
  obtain ⟨X, hX⟩ : ∃ X, mk l = X := ⟨_, rfl⟩
  rw [hX] at sg e eq ln iv ⊢
  simp -implicitDefEqProofs [-lenS_str, fn57, eq, ln, z, sg, e, iv]
theorem spell_loop (C : Nat → List MV → HP → R MV) (h : HP) (a0 a1 a2 a3 a5 : Option MV) {F : Nat} (F0 : 0 < F) (hF : F % 10 ≠ 0) : ∀ (q N : Nat) (P : Int), q < N →
    whlL (evE p.T C t58_0) (exSs p.T C w58_0) N [a0, a1, a2, a3, some (.int (F * 10 ^ q : Nat)), a5, some (.int P)] h = .nx [a0, a1, a2, a3, some (.int F), a5, some (.int (P + q))] h
  | 0, N, P, hN => by
    obtain ⟨M, rfl⟩ := pos_fuel hN
    have e0 : F * 10 ^ 0 = F := by simp
    have z1 : (0 : Int) < F := by omega
    have z2 : ¬ (F : Int) % 10 = 0 := by omega
    rw [e0, whlL_succ]
    simp -implicitDefEqProofs [z1, z2]
  | q + 1, N, P, hN => by
    obtain ⟨M, rfl⟩ := pos_fuel hN
    have ih := spell_loop C h a0 a1 a2 a3 a5 F0 hF q M (P + 1) (by omega)
    have e1 : F * 10 ^ (q + 1) = 10 * (F * 10 ^ q) := by rw [Nat.pow_succ]; grind
    have gp : 0 < F * 10 ^ q := Nat.mul_pos F0 (Nat.pow_pos (by decide))
    obtain ⟨G, hG⟩ : ∃ G, F * 10 ^ q = G := ⟨_, rfl⟩
    rw [hG] at ih e1 gp
    rw [e1]
    have ep : P + ((q + 1 : Nat) : Int) = P + 1 + q := by omega
    rw [ep, ← ih, whlL_succ]
    obtain ⟨H, hH⟩ : ∃ H : Int, ((10 * G : Nat) : Int) = H := ⟨_, rfl⟩
    rw [hH]
    have z1 : 0 < H := by omega
    have z2 : H % 10 = 0 := by omega
    have z3 : H / 10 = G := by omega
    have dv := dvB_small (a := H) (b := 10) (by decide) (by decide)
    simp -implicitDefEqProofs [z1, z2, z3, dv]
theorem s_spellof (n : Nat) (h : HP) {s : Int} (hs : s = 0 ∨ s = 1) {F : Nat} (F0 : 0 < F) (hF : F % 10 ≠ 0) (F1 : F ≤ 10 ^ 36) {P : Int} (p1 : -9000 ≤ P) (p2 : P ≤ 9000) : run p.T p.fs (n + 2) 58 [.str (mk (laidT s F P))] h = .ok (.tup [.int F, .int P]) h := by
  rw [run_eq (F := fn58) rfl rfl]
  have F60 : F < 10 ^ 60 := Nat.lt_of_le_of_lt F1 (Nat.pow_lt_pow_right (by decide) (by decide))
  obtain ⟨m, G, B, T, N, en, ⟨es, mm, tt⟩, el, _, hq⟩ := laid_num hs F60 (P := P) (by omega) (by omega)
  obtain ⟨q, q1, q2, q3, q4⟩ := hq (by omega)
  have ll := numL_len (by decide : 0 < 37) (show F < 10 ^ 37 by
    have : 10 ^ 36 < 10 ^ 37 := by decide
    omega)
  rw [← en] at el ⊢
  have lm : m.length ≤ 1 := by rcases mm with y | y <;> subst y <;> decide
  have dfree {l : List Nat} (hl : AllDigits l) {s : Nat} (hs : s < 48 ∨ 57 < s) : s ∉ l := fun q => by have := hl s q; omega
  have Gne : ∃ c F', G = c :: F' ∧ 48 ≤ c ∧ c ≤ 57 := by
    cases hG : G with
    | nil => exact absurd hG N.f0
    | cons c F' => exact ⟨c, F', rfl, N.f c (by rw [hG]; exact List.mem_cons_self ..)⟩
  obtain ⟨fb, hfb⟩ : ∃ r, G ++ bkL B = r := ⟨_, rfl⟩
  have efree : (101 : Nat) ∉ fb := by
    rw [← hfb]
    intro q
    rcases List.mem_append.mp q with q | q
    · exact dfree N.f (.inr (by decide)) q
    · cases B with
      | none => cases q
      | some b =>
        rcases List.mem_cons.mp q with q | q
        · cases q
        · exact dfree (N.b b rfl).1 (.inr (by decide)) q
  have enl : numT m G B T = m ++ (fb ++ tlL T) := by unfold numT; rw [hfb]
  rw [enl] at el ⊢
  rw [List.length_append, List.length_append] at el
  have st0 : meV h .starts (.str (mk (m ++ (fb ++ tlL T)))) [.str "-"] = some (.bl (decide (m = [45]))) := by
    rw [meV_starts, lit_mi, starts_mk]
    obtain ⟨c, F', eF, c1, c2⟩ := Gne
    rw [← hfb, eF]
    rcases mm with y | y <;> subst y <;> simp
    omega
  have body : ∃ i : Int, biV h .int1 [.bl (decide (m = [45]))] = some (.int i) ∧ slcV h (.str (mk (m ++ (fb ++ tlL T)))) (some i) none = some (.str (mk (fb ++ tlL T))) := by
    rcases mm with y | y
    · subst y
      exact ⟨0, by rw [biV_int1b]; rfl, cutFrom_mk (L := [] ++ (fb ++ tlL T)) (k := 0) rfl (by simp) (by simp; omega)⟩
    · subst y
      exact ⟨1, by rw [biV_int1b]; rfl, cutFrom_mk (L := [45] ++ (fb ++ tlL T)) (k := 1) rfl (by simp) (by simp; omega)⟩
  obtain ⟨i, b1, b2⟩ := body
  have p1 : ∃ (X Y : List Nat) (b : Bool), Txt.partition (mk (fb ++ tlL T)) "e" = (mk fb, mk X, mk Y) ∧ eqM h (.str (mk X)) (.str "e") = some b ∧ ((b = false ∧ T = none ∧ Y = []) ∨ ∃ t, b = true ∧ T = some t ∧ Y = t.1 ++ t.2) := by
    have ok101 : okC [101] := by intro c hc; cases hc with | head => decide | tail _ q => cases q
    cases T with
    | none =>
      refine ⟨[], [], false, ?_, ?_, .inl ⟨rfl, rfl, rfl⟩⟩
      · have : fb ++ tlL none = fb := by simp [tlL]
        rw [lit_e, this]; exact part_no efree
      · rw [lit_e]; exact eqM_mk h (by intro c hc; cases hc) ok101
    | some t =>
      refine ⟨[101], t.1 ++ t.2, true, ?_, ?_, .inr ⟨t, rfl, rfl, rfl⟩⟩
      · have : fb ++ tlL (some t) = fb ++ 101 :: (t.1 ++ t.2) := rfl
        rw [lit_e, this]; exact part_at efree
      · rw [lit_e]; exact eqM_mk h ok101 ok101
  obtain ⟨X, Y, b, p1, p3, p4⟩ := p1
  have le : (("e" : Str).length == 0) = false := by decide +kernel
  have ld : (("." : Str).length == 0) = false := by decide +kernel
  have m1 := meV_part (h := h) le (by rw [mk_len, List.length_append]; omega) p1
  have pf : Txt.partition (mk fb) "." = (mk G, mk (if B.isSome then [46] else []), mk (bkF B)) := by
    rw [lit_dot, ← hfb]
    cases B with
    | none =>
      have e : G ++ bkL none = G := by simp [bkL]
      rw [e, part_no (dfree N.f (.inl (by decide)))]; rfl
    | some b => exact part_at (dfree N.f (.inl (by decide)))
  have m2 := meV_part (h := h) ld (by rw [mk_len]; omega) pf
  have dfb : AllDigits (G ++ bkF B) := by
    intro c hc
    rcases List.mem_append.mp hc with q | q
    · exact N.f c q
    · cases B with
      | none => cases q
      | some b => exact (N.b b rfl).1 c q
  have c1 := s_countof n h dfb (by intro q; exact N.f0 (List.append_eq_nil_iff.mp q).1) (by omega)
  rw [q2] at c1
  have a1 := binV_addM (h := h) G (bkF B) (by rw [List.length_append] at q4; omega)
  have lB := lenS_mk (L := bkF B) (by rw [List.length_append] at q4; omega)
  have z0 : ¬ (((F * 10 ^ q : Nat)) : Int) < 0 := by omega
  obtain ⟨D, hD⟩ : ∃ D, decide (m = [45]) = D := ⟨_, rfl⟩
  rw [hD] at st0 b1
  have ok0 : meV h .starts (.str (mk [])) [.str "-"] = some (.bl false) := by rw [meV_starts, lit_mi, starts_mk]; simp
  have lp (P' : Int) (a0 a1' a2 a3 a5 : Option MV) := spell_loop (run p.T p.fs (n + 1)) h a0 a1' a2 a3 a5 F0 hF q fuel P' (lt_fuel (by omega))
  obtain ⟨V, hV⟩ : ∃ V : Int, (((F * 10 ^ q : Nat)) : Int) = V := ⟨_, rfl⟩
  rw [hV] at c1 z0
  simp only [hV] at lp
  obtain ⟨X1, h1⟩ : ∃ X, mk (m ++ (fb ++ tlL T)) = X := ⟨_, rfl⟩
  rw [h1] at st0 b2 ⊢
  obtain ⟨X2, h2⟩ : ∃ X, mk (fb ++ tlL T) = X := ⟨_, rfl⟩
  rw [h2] at b2 m1
  obtain ⟨X3, h3⟩ : ∃ X, mk fb = X := ⟨_, rfl⟩
  rw [h3] at m1 m2
  obtain ⟨X4, h4⟩ : ∃ X, mk G = X := ⟨_, rfl⟩
  rw [h4] at m2 a1
  obtain ⟨X5, h5⟩ : ∃ X, mk (bkF B) = X := ⟨_, rfl⟩
  rw [h5] at m2 a1 lB
  obtain ⟨X6, h6⟩ : ∃ X, mk (G ++ bkF B) = X := ⟨_, rfl⟩
  rw [h6] at a1 c1
  obtain ⟨X7, h7⟩ : ∃ x, mk X = x := ⟨_, rfl⟩
  rw [h7] at m1 p3
  rcases p4 with ⟨rfl, rfl, rfl⟩ | ⟨t, rfl, rfl, rfl⟩
  · have tp : tlP none = 0 := rfl
    rw [tp] at q3
    obtain ⟨K, hK⟩ : ∃ K : Int, ((bkF B).length : Int) = K := ⟨_, rfl⟩
    rw [hK] at q3 lB
    have e1 : (0 : Int) - K + q = P := by omega
    obtain ⟨X8, h8⟩ : ∃ X, mk [] = X := ⟨_, rfl⟩
    rw [h8] at ok0 m1
    have e2 : (0 : Int) - K = -K := by omega
    have e3 : -K + (q : Int) = P := by omega
    simp -implicitDefEqProofs [isN, -binV_addS, -lenS_str, -biV_int1b, fn58, st0, b1, b2, m1, m2, a1, c1, p3, z0, ok0, lB, e2, lp, e3]
  · obtain ⟨_, t2, t3, t4⟩ := N.t t rfl
    have ttt := tt t rfl
    have c2 := s_countof n h t2 t3 (by omega)
    have T0 : ∃ c r, t.2 = c :: r ∧ 48 ≤ c ∧ c ≤ 57 := by
      cases hF : t.2 with
      | nil => exact absurd hF t3
      | cons c F' => exact ⟨c, F', rfl, t2 c (by rw [hF]; exact List.mem_cons_self ..)⟩
    have st1 : meV h .starts (.str (mk (t.1 ++ t.2))) [.str "-"] = some (.bl (decide (t.1 = [45]))) := by
      rw [meV_starts, lit_mi, starts_mk]
      obtain ⟨c, r, eF, c1, c2⟩ := T0
      rw [eF]
      rcases ttt with y | y <;> rw [y] <;> simp
      omega
    have body2 : ∃ i : Int, biV h .int1 [.bl (decide (t.1 = [45]))] = some (.int i) ∧ slcV h (.str (mk (t.1 ++ t.2))) (some i) none = some (.str (mk t.2)) := by
      rcases ttt with y | y
      · rw [y]
        exact ⟨0, by rw [biV_int1b]; rfl, cutFrom_mk (L := [] ++ t.2) (k := 0) rfl (by simp) (by simp; omega)⟩
      · rw [y]
        exact ⟨1, by rw [biV_int1b]; rfl, cutFrom_mk (L := [45] ++ t.2) (k := 1) rfl (by simp) (by simp; omega)⟩
    obtain ⟨i2, b3, b4⟩ := body2
    have v4 := dv_lt t2
    have v5 : digitsVal t.2 < 10 ^ 4 := Nat.lt_of_lt_of_le v4 (Nat.pow_le_pow_right (by decide) t4)
    have tp : tlP (some t) = if t.1 = [45] then -((digitsVal t.2 : Nat) : Int) else ((digitsVal t.2 : Nat) : Int) := by
      show (1 - 2 * mkS t.1) * ((digitsVal t.2 : Nat) : Int) = _
      unfold mkS
      split <;> omega
    rw [tp] at q3
    obtain ⟨W, hW⟩ : ∃ V : Int, ((digitsVal t.2 : Nat) : Int) = V := ⟨_, rfl⟩
    have w1 : ¬ W < 0 := by omega
    have w2 : ¬ (9999 : Int) < W := by omega
    rw [hW] at c2 q3
    obtain ⟨K, hK⟩ : ∃ K : Int, ((bkF B).length : Int) = K := ⟨_, rfl⟩
    rw [hK] at q3 lB
    obtain ⟨D2, hD2⟩ : ∃ D, decide (t.1 = [45]) = D := ⟨_, rfl⟩
    rw [hD2] at st1 b3
    obtain ⟨X8, h8⟩ : ∃ X, mk (t.1 ++ t.2) = X := ⟨_, rfl⟩
    rw [h8] at st1 b4 m1
    obtain ⟨X9, h9⟩ : ∃ X, mk t.2 = X := ⟨_, rfl⟩
    rw [h9] at b4 c2
    by_cases y : t.1 = [45]
    · rw [if_pos y] at q3
      rw [decide_eq_true y] at hD2
      subst hD2
      have e3 : -W - K + (q : Int) = P := by omega
      simp -implicitDefEqProofs [isN, -binV_addS, -lenS_str, -biV_int1b, fn58, st0, b1, b2, m1, m2, a1, c1, p3, b3, b4, c2, z0, w1, w2, st1, lB, lp, e3]
    · rw [if_neg y] at q3
      rw [decide_eq_false y] at hD2
      subst hD2
      have e3 : W - K + (q : Int) = P := by omega
      simp -implicitDefEqProofs [isN, -binV_addS, -lenS_str, -biV_int1b, fn58, st0, b1, b2, m1, m2, a1, c1, p3, b3, b4, c2, z0, w1, w2, st1, lB, lp, e3]
/-- a finite number's text is read to its value -/
theorem s_readlaid (w f : Nat) (hw2 : 2 ≤ w) (hw : w ≤ 15) (hf1 : 1 ≤ f) (hf : f ≤ 112) (n : Nat) (h : HP) (k : Nat) (hk : k < 5) {s : Int} (hs : s = 0 ∨ s = 1) {F : Nat} (F1 : F ≤ 10 ^ 36) {P : Int} (p1 : -9000 ≤ P) (p2 : P ≤ 9000) (z : F = 0 → P = 0) :
    ∃ c r : Int, Fr f (spT F P * 2 ^ stp0 w f) (spB P) c r ∧ (F = 0 → stl w f k s c r = (0, 0)) ∧ run p.T p.fs (n + 6) 33 [.tup [.int w, .int f], .str (wayN k), .str (mk (laidT s F P))] h = .ok (.tup [.int (s * 2 ^ (w + f) + (stl w f k s c r).1), .int (stl w f k s c r).2]) h := by
  have F60 : F < 10 ^ 60 := Nat.lt_of_le_of_lt F1 (Nat.pow_lt_pow_right (by decide) (by decide))
  obtain ⟨m, G, B, T, N, en, ⟨es, mm, tt⟩, el, h0, hq⟩ := laid_num hs F60 (P := P) (by omega) (by omega)
  obtain ⟨V, hV⟩ : ∃ V, digitsVal (G ++ bkF B) = V := ⟨_, rfl⟩
  obtain ⟨Q, hQ⟩ : ∃ V, tlP T - (bkF B).length = V := ⟨_, rfl⟩
  rw [hV, hQ] at h0 hq
  have Qb : -20000 ≤ Q ∧ Q ≤ 20000 := by
    by_cases y : F = 0
    · have := (h0 y).2; omega
    · obtain ⟨q, q1, q2, q3, _⟩ := hq y; omega
  obtain ⟨c, r, C, t0, b1, tb, bb, vb, e⟩ := s_readn w f hw2 (by omega) hf1 (by omega) n h k hk N (a := 0) (b := 0) (by rw [en]; omega) hV hQ Qb.1 Qb.2
  have ez : List.replicate 0 32 ++ numT m G B T ++ List.replicate 0 32 = laidT s F P := by rw [en]; simp
  rw [ez, es] at e
  refine ⟨c, r, ?_, fun y => ?_, e⟩
  · refine (C.fr (by omega)).ratio (by have := spB_pos P; omega) ?_
    -- the same value
    have rdT_eq : rdT V Q = V * 10 ^ Q.toNat := by
      unfold rdT; split
      · rw [show Q.toNat = 0 by omega]; simp
      · rfl
    have rdB_eq : rdB Q = 10 ^ (-Q).toNat := by
      unfold rdB; split
      · rfl
      · rw [show (-Q).toNat = 0 by omega]; simp
    rw [spT_eq, spB_eq, rdT_eq, rdB_eq]
    by_cases y : F = 0
    · obtain ⟨v0, q0⟩ := h0 y
      rw [v0, y]; simp
    · obtain ⟨q, q1, q2, q3, _⟩ := hq y
      have eV : (V : Int) = F * 10 ^ q := by rw [q2]; simp
      rw [eV]
      have key : (10 : Int) ^ q * 10 ^ Q.toNat * 10 ^ (-P).toNat = 10 ^ P.toNat * 10 ^ (-Q).toNat := by
        rw [← Int.pow_add, ← Int.pow_add, ← Int.pow_add]; congr 1; omega
      obtain ⟨D, hD⟩ : ∃ D : Int, 2 ^ stp0 w f = D := ⟨_, rfl⟩
      rw [hD]
      have : (F : Int) * 10 ^ q * 10 ^ Q.toNat * D * 10 ^ (-P).toNat = F * D * (10 ^ q * 10 ^ Q.toNat * 10 ^ (-P).toNat) := by grind
      rw [this, key]; grind
  · have v0 := (h0 y).1
    have e0 : rdT V Q = 0 := by
      rw [v0]; unfold rdT; split <;> simp
    rw [e0] at C
    have u := C.uniq (by omega) (c' := 0) (by decide) (by simp [lv_zero]) (by
      have := lv_lt (f := f) (a := 0) (b := 1) (by decide) (by decide)
      rw [lv_zero] at this
      rw [Int.zero_mul]; exact Int.mul_pos this (by omega))
    subst u
    have rr := C.rst
    simp [lv_zero, rs] at rr
    subst rr
    have E3 := end_3 (f := f) hw2
    have pf := Pg.p2 f
    unfold stl; rw [if_neg (by omega)]; simp
theorem lit_e1 : ("endless" : Str) = mk endlL := lit_endl
theorem lit_e2 : ("-endless" : Str) = mk (45 :: endlL) := by decide +kernel
theorem okE2 : okC (45 :: endlL) := fun c hc => (List.mem_cons.mp hc).elim (fun q => by omega) (okC_endl c)
theorem s_sizefor (n : Nat) (h : HP) (c m : Int) : ∃ w f : Nat, 2 ≤ w ∧ w ≤ 15 ∧ 1 ≤ f ∧ f ≤ 112 ∧ run p.T p.fs (n + 1) 61 [.int c, .int m] h = .ok (.tup [.int w, .int f]) h := by
  rw [run_eq (F := fn61) rfl rfl]
  have d := dvB_small (a := c) (b := 14) (by decide) (by decide)
  have fin (k : Int) (k0 : 0 < k) (k1 : k ≤ 112) : ∃ w f : Nat, 2 ≤ w ∧ w ≤ 15 ∧ 1 ≤ f ∧ f ≤ 112 ∧ 2 + c % 14 = w ∧ 1 + c / 14 % k = f := by
    have r0 := Int.emod_nonneg (c / 14) (Int.ne_of_gt k0)
    have r1 := Int.emod_lt_of_pos (c / 14) k0
    exact ⟨(2 + c % 14).toNat, (1 + c / 14 % k).toNat, by omega, by omega, by omega, by omega, by omega, by omega⟩
  by_cases z1 : 24 < m
  · obtain ⟨w, f, a, b, c', e, x, y⟩ := fin 4 (by decide) (by decide)
    have z2 : 12 < m := by omega
    have z3 : 4 < m := by omega
    exact ⟨w, f, a, b, c', e, by simp -implicitDefEqProofs [fn61, z1, z2, z3, d, x, y]⟩
  by_cases z2 : 12 < m
  · obtain ⟨w, f, a, b, c', e, x, y⟩ := fin 10 (by decide) (by decide)
    have z3 : 4 < m := by omega
    exact ⟨w, f, a, b, c', e, by simp -implicitDefEqProofs [fn61, z1, z2, z3, d, x, y]⟩
  by_cases z3 : 4 < m
  · obtain ⟨w, f, a, b, c', e, x, y⟩ := fin 23 (by decide) (by decide)
    exact ⟨w, f, a, b, c', e, by simp -implicitDefEqProofs [fn61, z1, z2, z3, d, x, y]⟩
  · obtain ⟨w, f, a, b, c', e, x, y⟩ := fin 112 (by decide) (by decide)
    exact ⟨w, f, a, b, c', e, by simp -implicitDefEqProofs [fn61, z1, z2, z3, d, x, y]⟩
theorem s_bitsby (w f : Nat) (hw2 : 2 ≤ w) (hw : w ≤ 15) (hf1 : 1 ≤ f) (hf : f ≤ 112) (n : Nat) (h : HP) {c : Int} (hc : intBits c ≤ 1048576) : ∃ s d : Int, (s = 0 ∨ s = 1) ∧ 0 ≤ d ∧ d < 2 ^ (w + f) ∧ run p.T p.fs (n + 2) 56 [.tup [.int w, .int f], .int c] h = .ok (.tup [.int s, .int d]) h := by
  rw [run_eq (F := fn56) rfl rfl]
  have pf := p2 f
  have pw := p2 w
  have f1 := two_le_pow hf1
  have e21 : (2 : Int) ^ 1 = 2 := rfl
  have E3 := end_3 (f := f) hw2
  have s2 := shlB_one (b := (w : Int)) (by omega) (by omega)
  have s3 : shlB (2 ^ w - 1) (f : Int) = true := shlB_of (m := 20) (ib_lt (by omega) (by have := two_le_pow (show w ≤ 20 by omega); omega)) (by omega) (by omega)
  have x5 : (2 ^ w - 1) * (2 : Int) ^ f = 2 ^ (w + f) - 2 ^ f := by rw [Int.sub_mul, ← Int.pow_add, Int.one_mul]
  have s8 := shlB_one (b := (f : Int)) (by omega) (by omega)
  have d2 := dvB_small (a := c) (b := 2) (by decide) (by decide)
  have d17 := dvB_small (a := c / 2) (b := 17) (by decide) (by decide)
  obtain ⟨b, b0, b1, eb⟩ := s_codeby w f hw2 hw hf1 hf n h (c / 2) (intBits_le_of_natAbs (by omega) hc)
  obtain ⟨s, hs⟩ : ∃ s, c % 2 = s := ⟨_, rfl⟩
  have fp1 : 1 < (2 : Int) ^ f := by omega
  by_cases z5 : c / 2 % 17 = 5
  · exact ⟨s, 2 ^ (w + f) - 2 ^ f, by omega, by omega, by omega, by simp -implicitDefEqProofs [fn56, s2, s3, x5, d2, eb, z5, hs]⟩
  by_cases z11 : c / 2 % 17 = 11
  · obtain ⟨g, hg⟩ : ∃ g, c / 2 / 17 % (2 ^ f - 1) = g := ⟨_, rfl⟩
    have g0 := Int.emod_nonneg (c / 2 / 17) (show (2 : Int) ^ f - 1 ≠ 0 by omega)
    have g1 := Int.emod_lt_of_pos (c / 2 / 17) (show 0 < (2 : Int) ^ f - 1 by omega)
    rw [hg] at g0 g1
    exact ⟨s, 2 ^ (w + f) - 2 ^ f + 1 + g, by omega, by omega, by omega, by simp -implicitDefEqProofs [fn56, s2, s3, x5, d2, d17, eb, z11, s8, fp1, hg, hs]⟩
  · exact ⟨s, b, by omega, b0, by omega, by simp -implicitDefEqProofs [fn56, s2, s3, x5, d2, eb, z5, z11, hs]⟩
theorem rd_even {w f : Nat} (hw2 : 2 ≤ w) {V B c r code s : Int} (Fr' : Fr f V B c r) (c0 : 1 ≤ code) (c1 : code < 2 ^ (w + f) - 2 ^ f) (wn : wi ((lv f (code - 1) + lv f code) * B) ((lv f code + lv f (code + 1)) * B) (decide (code % 2 = 0)) (2 * V) = true) : (stl w f 0 s c r).1 = code := by
  have rd := rd_stl hw2 Fr' s (show 0 ≤ code by omega) c1
  rw [rd_wi (w := w) c0 Fr'.b0, wn] at rd
  simpa using rd
/-- shown, looked at, read by a way -/
theorem s_each (w f : Nat) (hw2 : 2 ≤ w) (hw : w ≤ 15) (hf1 : 1 ≤ f) (hf : f ≤ 112) (n : Nat) (h : HP) {s d : Int} (hs : s = 0 ∨ s = 1) (d0 : 0 ≤ d) (d1 : d < 2 ^ (w + f)) : ∃ T : Str, run p.T p.fs (n + 30) 43 [.tup [.int w, .int f], .int (d + s * 2 ^ (w + f))] h = .ok (.str T) h ∧
    run p.T p.fs (n + 30) 60 [.tup [.int w, .int f], .int s, .int d, .str T] h = .ok (.bl true) h ∧
    ∀ k : Nat, k < 5 → run p.T p.fs (n + 30) 59 [.tup [.int w, .int f], .int s, .int d, .str (wayN k), .str T] h = .ok (.bl true) h := by
  have pf := p2 f
  have pw := p2 w
  have pwf := p2 (w + f)
  have f1 := two_le_pow hf1
  have e21 : (2 : Int) ^ 1 = 2 := rfl
  have ef := pow_s (f - 1)
  rw [Nat.sub_add_cancel hf1] at ef
  have pf1 := p2 (f - 1)
  have E3 := end_3 (f := f) hw2
  have s2 := shlB_one (b := (w : Int)) (by omega) (by omega)
  have s3 : shlB (2 ^ w - 1) (f : Int) = true := shlB_of (m := 20) (ib_lt (by omega) (by have := two_le_pow (show w ≤ 20 by omega); omega)) (by omega) (by omega)
  have x5 : (2 ^ w - 1) * (2 : Int) ^ f = 2 ^ (w + f) - 2 ^ f := by rw [Int.sub_mul, ← Int.pow_add, Int.one_mul]
  have s8 := shlB_one (b := (f : Int) - 1) (by omega) (by omega)
  have i1 : intBits s ≤ 1 := by rcases hs with z | z <;> subst z <;> decide
  have s7 := shlB_of (b := (w : Int) + f) i1 (by omega) (by omega)
  have s9 := shlB_one (b := (w : Int) - 1) (by omega) (by omega)
  have est := stp_eq (f := f) hw2
  have sS := stp_s hw hf
  have it (X : Str) : isTV p.T h (.str X) "str" = some true := by simp [isTV, tyNs]
  have we (k : Nat) (hk : k < 5) := we0 k hk h
  obtain ⟨E, hE⟩ : ∃ E : Int, 2 ^ (w + f) - 2 ^ f = E := ⟨_, rfl⟩
  rcases Int.lt_trichotomy d E with z | z | z
  · -- finite
    obtain ⟨F, P, F1, P1, P2, Fz, B, sh⟩ := s_shown_fin w f hw2 hw hf1 hf (n + 21) h hs d0 (by omega)
    have F1' : F ≤ 10 ^ 36 := by
      have : ((10 ^ 36 : Nat) : Int) = 10 ^ 36 := by simp
      omega
    have F60 : F < 10 ^ 60 := Nat.lt_of_le_of_lt F1' (Nat.pow_lt_pow_right (by decide) (by decide))
    have Fd0 : F = 0 → d = 0 := fun y => by
      by_cases q : d = 0
      · exact q
      · have := (B (by omega)).1; omega
    have okL := okC_laid s F P
    have eqT := eqM_mk h okL okL
    rw [decide_eq_true rfl] at eqT
    refine ⟨mk (laidT s F P), sh, ?_, fun k hk => ?_⟩
    · rw [run_eq (F := fn60) rfl rfl]
      by_cases q : d = 0
      · obtain ⟨F0, P0⟩ := Fz q
        subst q F0 P0
        have t0 : ∃ T : Str, mk (laidT s ((0 : Nat) : Nat) 0) = T ∧ atI [MV.str "0", .str "-0"] s = some (.str T) := by
          rcases hs with y | y
          · subst y
            exact ⟨"0", by decide +kernel, by rw [atI_0]⟩
          · subst y
            exact ⟨"-0", by decide +kernel, by rw [atI_1]⟩
        obtain ⟨T, hT, hT2⟩ := t0
        rw [hT] at eqT ⊢
        have z1 : ¬ E < 0 := by omega
        have z2 : ¬ 0 = E := by omega
        rw [hE] at x5
        simp -implicitDefEqProofs [fn60, it, s2, s3, x5, z1, z2, hT2, eqT]
      · obtain ⟨F0, F10, B⟩ := B (by omega)
        have sp := s_spellof (n + 27) h hs F0 F10 F1' (P := P) (by omega) (by omega)
        have lo := s_layout (n + 20) h hs F60 (P := P) (by omega) (by omega)
        have ib := s_isbest w f hw2 hw hf1 hf (n + 12) h (by omega) (by omega) (show (0 : Int) < F by omega) (by
          have : (10 : Int) ^ 36 < 10 ^ 60 := by decide
          omega) (show -9000 ≤ P by omega) (by omega) B
        obtain ⟨T, hT⟩ : ∃ T, mk (laidT s F P) = T := ⟨_, rfl⟩
        rw [hT] at eqT sp lo ⊢
        have z1 : ¬ E < d := by omega
        have z2 : ¬ d = E := by omega
        have z3 : ¬ (F : Int) = 0 := by omega
        have z4 : ¬ F = 0 := by omega
        rw [hE] at x5
        simp -implicitDefEqProofs [fn60, it, s2, s3, x5, z1, z2, q, sp, z3, z4, lo, eqT, ib]
    · rw [run_eq (F := fn59) rfl rfl]
      obtain ⟨c, r, Fr', f0, e⟩ := s_readlaid w f hw2 hw hf1 hf (n + 23) h k hk hs F1' (P := P) (by omega) (by omega) (fun y => (Fz (Fd0 y)).2)
      have wk := we k hk
      by_cases q : d = 0
      · obtain ⟨F0, P0⟩ := Fz q
        have st := f0 F0
        rw [st] at e
        subst q
        rw [Int.add_zero] at e
        obtain ⟨T, hT⟩ : ∃ T, mk (laidT s F P) = T := ⟨_, rfl⟩
        rw [hT] at e ⊢
        have z1 : ¬ E < 0 := by omega
        obtain ⟨W, hW⟩ : ∃ W, wayN k = W := ⟨_, rfl⟩
        rw [hW] at e wk ⊢
        rw [hE] at x5
        cases y : decide (k = 0) <;> rw [y] at wk <;> simp -implicitDefEqProofs [fn59, e, s2, s3, x5, s7, z1, wk]
      · obtain ⟨F0, F10, B⟩ := B (by omega)
        have ev : k = 0 → s * 2 ^ (w + f) + (stl w f k s c r).1 = s * 2 ^ (w + f) + d := by
          intro y
          subst y
          have bn := B.inn
          have e1 : 2 * ((F : Int) * (2 ^ stp0 w f * 10 ^ P.toNat)) = 2 * (spT F P * 2 ^ stp0 w f) := by rw [spT_eq]; grind
          rw [e1, ← spB_eq] at bn
          rw [rd_even hw2 Fr' (by omega) (by omega) bn]
        have sp := s_spellof (n + 27) h hs F0 F10 F1' (P := P) (by omega) (by omega)
        have bF : intBits (F : Int) ≤ 200 := ib_lt (by omega) (by
          have : (10 : Int) ^ 36 < 2 ^ 200 := by decide
          omega)
        have tb := spT_bits (F := (F : Int)) (P := P) (by omega) (by omega)
        have bb := spB_bits (P := P) (by omega)
        have fa := s_fair w f hw2 (by omega) (by omega) (n + 26) h k hk hs Fr' (ib_mono (intBits_mul_le tb (ib_pow2 _)) (by omega)) (by omega)
        obtain ⟨T, hT⟩ : ∃ T, mk (laidT s F P) = T := ⟨_, rfl⟩
        rw [hT] at e sp ⊢
        obtain ⟨R1, hR1⟩ : ∃ R, s * 2 ^ (w + f) + (stl w f k s c r).1 = R := ⟨_, rfl⟩
        obtain ⟨R2, hR2⟩ : ∃ R, (stl w f k s c r).2 = R := ⟨_, rfl⟩
        rw [hR1, hR2] at e fa
        rw [hR1] at ev
        have z1 : ¬ E < d := by omega
        have z2 : ¬ E ≤ d := by omega
        have sP := p10 P.toNat
        have spl (P' : Int) (h0 : 0 ≤ P') (h1 : P' ≤ 20000) : run p.T p.fs (n + 29) 52 [.int P'] h = .ok (.int (10 ^ P'.toNat)) h := s_lpwb (n + 13) h h0 h1
        obtain ⟨W, hW⟩ : ∃ W, wayN k = W := ⟨_, rfl⟩
        rw [hW] at e wk fa ⊢
        rw [hE] at x5
        obtain ⟨K, hK⟩ : ∃ K, s * 2 ^ (w + f) + d = K := ⟨_, rfl⟩
        rw [hK] at ev
        by_cases zp : P < 0
        · have lp := spl (-P) (by omega) (by omega)
          have eT : spT F P = F := by unfold spT; rw [if_pos zp]
          have eB : spB P = 10 ^ (-P).toNat := by unfold spB; rw [if_pos zp]
          rw [eT, eB] at fa
          have shF : shlB (F : Int) (stp0 w f : Int) = true := shlB_of bF (by omega) (by omega)
          obtain ⟨U, hU⟩ : ∃ U : Int, 10 ^ (-P).toNat = U := ⟨_, rfl⟩
          rw [hU] at fa lp
          by_cases y : k = 0
          · have ev := ev y
            rw [decide_eq_true y] at wk
            subst ev
            simp -implicitDefEqProofs [fn59, e, s2, s3, x5, s7, hK, z1, wk, q, z2, sp, s9, est, zp, shF, lp, fa]
          · rw [decide_eq_false y] at wk
            simp -implicitDefEqProofs [fn59, e, s2, s3, x5, s7, hK, z1, wk, q, z2, sp, s9, est, zp, shF, lp, fa]
        · have lp := spl P (by omega) (by omega)
          have eT : spT F P = F * 10 ^ P.toNat := by unfold spT; rw [if_neg zp]
          have eB : spB P = 1 := by unfold spB; rw [if_neg zp]
          rw [eT] at tb
          rw [eT, eB] at fa
          have mF : mulB (F : Int) (10 ^ P.toNat) = true := mulB_of bF (b10 _ (by omega)) (by decide)
          have shF : shlB ((F : Int) * 10 ^ P.toNat) (stp0 w f : Int) = true := shlB_of tb (by omega) (by omega)
          obtain ⟨U, hU⟩ : ∃ U : Int, 10 ^ P.toNat = U := ⟨_, rfl⟩
          rw [hU] at fa lp mF shF
          by_cases y : k = 0
          · have ev := ev y
            rw [decide_eq_true y] at wk
            subst ev
            simp -implicitDefEqProofs [fn59, e, s2, s3, x5, s7, hK, z1, wk, q, z2, sp, s9, est, zp, mF, shF, lp, fa]
          · rw [decide_eq_false y] at wk
            simp -implicitDefEqProofs [fn59, e, s2, s3, x5, s7, hK, z1, wk, q, z2, sp, s9, est, zp, mF, shF, lp, fa]
  · -- endless
    have sh := s_shown_end w f hw2 hw hf1 hf (n + 21) h hs
    have e0 : 2 ^ (w + f) - 2 ^ f + 0 + s * 2 ^ (w + f) = d + s * 2 ^ (w + f) := by omega
    rw [e0] at sh
    obtain ⟨L, hL, okL, lL, h2, h3⟩ : ∃ L : List Nat, (if s = 1 then ("-endless" : Str) else "endless") = mk L ∧ okC L ∧ L.length ≤ 10 ∧ (sgL (stripL L)).2 = endlL ∧ (sgL (stripL L)).1 = s := by
      rcases hs with y | y
      · exact ⟨endlL, by rw [if_neg (by omega)]; exact lit_e1, okC_endl, by decide, by decide, by rw [y]; decide⟩
      · exact ⟨45 :: endlL, by rw [if_pos y]; exact lit_e2, okE2, by decide, by decide, by rw [y]; decide⟩
    have at_ : atI [MV.str "endless", .str "-endless"] s = some (.str (mk L)) := by
      rw [← hL]
      rcases hs with y | y
      · rw [y, atI_0, if_neg (by decide)]
      · rw [y, atI_1, if_pos rfl]
    rw [hL] at sh
    have eqT := eqM_mk h okL okL
    rw [decide_eq_true rfl] at eqT
    refine ⟨mk L, sh, ?_, fun k hk => ?_⟩
    · rw [run_eq (F := fn60) rfl rfl]
      obtain ⟨T, hT⟩ : ∃ T, mk L = T := ⟨_, rfl⟩
      rw [hT] at eqT at_ ⊢
      rw [hE] at x5
      subst z
      simp -implicitDefEqProofs [fn60, it, s2, s3, x5, at_, eqT]
    · rw [run_eq (F := fn59) rfl rfl]
      have e := s_read_endl (n + 26) h w f hw2 hw hf1 hf k hk (l := L) (by omega) h2
      rw [h3] at e
      have wk := we k hk
      have e9 : 2 ^ (w + f) - 2 ^ f + s * 2 ^ (w + f) = s * 2 ^ (w + f) + d := by omega
      rw [e9] at e
      obtain ⟨T, hT⟩ : ∃ T, mk L = T := ⟨_, rfl⟩
      rw [hT] at e ⊢
      obtain ⟨W, hW⟩ : ∃ W, wayN k = W := ⟨_, rfl⟩
      rw [hW] at e wk ⊢
      rw [hE] at x5
      subst z
      have dn0 : ¬ d = 0 := by omega
      cases y : decide (k = 0) <;> rw [y] at wk <;> simp -implicitDefEqProofs [fn59, e, s2, s3, x5, s7, wk, dn0]
  · -- a none
    have sh := s_shown_none w f hw2 hw hf1 hf (n + 21) h (g := d - E) hs (by omega) (by omega)
    have e0 : 2 ^ (w + f) - 2 ^ f + (d - E) + s * 2 ^ (w + f) = d + s * 2 ^ (w + f) := by omega
    rw [e0, lit_none] at sh
    have eqT := eqM_mk h okC_none okC_none
    rw [decide_eq_true rfl, ← lit_none] at eqT
    rw [← lit_none] at sh
    refine ⟨"none", sh, ?_, fun k hk => ?_⟩
    · rw [run_eq (F := fn60) rfl rfl]
      rw [hE] at x5
      simp -implicitDefEqProofs [fn60, it, s2, s3, x5, z, eqT]
    · rw [run_eq (F := fn59) rfl rfl]
      have e := s_read_none (n + 26) h w f hw2 hw hf1 hf k hk (l := noneL) (by decide) (by decide)
      rw [← lit_none] at e
      have wk := we k hk
      obtain ⟨W, hW⟩ : ∃ W, wayN k = W := ⟨_, rfl⟩
      rw [hW] at e wk ⊢
      rw [hE] at x5 e
      have dn0 : ¬ d = 0 := by omega
      have dle : E ≤ d := by omega
      cases y : decide (k = 0) <;> rw [y] at wk <;> simp -implicitDefEqProofs [fn59, e, s2, s3, x5, s7, s8, z, wk, dn0, dle]
theorem law_true : ∀ ns : List Int, ns.length ≤ 63 → (∀ z ∈ ns, Builtin.Int.intBits z ≤ 1048576) → run p.T p.fs 40 62 [.lst (ns.map .int)] [] = .ok (.bl true) [] := by
  intro ns hl hn
  rw [run_eq (F := fn62) rfl rfl]
  have e0 := s_cellat (ns := ns) (i := 0) (k := 0) rfl
  obtain ⟨cs, hcs, hin, lcs⟩ := cut_ints ns (some 1) (some 64)
  obtain ⟨w, f, hw2, hw, hf1, hf, es⟩ := s_sizefor 38 [] (cellAt ns 0) (cs.length : Int)
  have lcm : ((cs.map MV.int).length : Int) = cs.length := by simp
  obtain ⟨e', h1, y1, y2, y3, rfl⟩ := forL_inv (tg := .one 3) (src := fun _ => some (cs.map .int)) (f := exSs p.T (run p.T p.fs 39) w62_0) (h := []) rfl
    (fun e => ∃ y1 y2 y3, e = [some (.lst (ns.map .int)), some (.lst (cs.map .int)), some (.tup [.int w, .int f]), y1, y2, y3]) (cs.map .int)
    (by
      intro x hx e he
      obtain ⟨y1, y2, y3, rfl⟩ := he
      obtain ⟨z, hz, rfl⟩ := List.mem_map.mp hx
      obtain ⟨s, d, hs, d0, d1, eb⟩ := s_bitsby w f hw2 hw hf1 hf 37 [] (hn z (hin z hz))
      obtain ⟨T, t1, t2, t3⟩ := s_each w f hw2 hw hf1 hf 9 [] hs d0 d1
      have t4 := t3 0 (by decide)
      have w0 : wayN 0 = "even" := rfl
      rw [w0] at t4
      obtain ⟨k, hk, ew⟩ := s_wayby 38 [] (z * 48271 % 2147483647)
      have t5 := t3 k hk
      have i1 : intBits s ≤ 1 := by rcases hs with q | q <;> subst q <;> decide
      have s7 := shlB_of (b := (w : Int) + f) i1 (by omega) (by omega)
      have mz : mulB z 48271 = true := mulB_right (by decide)
      refine ⟨_, [some (.lst (ns.map .int)), some (.lst (cs.map .int)), some (.tup [.int w, .int f]), some (.int z), some (.tup [.int s, .int d]), some (.str T)], rfl, ?_, _, _, _, rfl⟩
      simp -implicitDefEqProofs [eb, s7, t1, t2, t4, mz, ew, t5]) _ ⟨none, none, none, rfl⟩
  simp -implicitDefEqProofs [fn62, e0, isN, hcs, es, h1]
end Pg

open PySem PySem.W PySem.Calls PyProof.Rows
theorem PySem.Challenge.cw_roundmill_k57_whole_shown_and_read_holds : PySem.Challenge.rw_roundmill_k57_whole_shown_and_read.Holds := by
  w_on; o_law
  refine HandSHeadRun.head_any (r := OpenLaw.row PySem.Challenge.rw_roundmill_k57_whole_shown_and_read) (q := view (OpenLaw.row PySem.Challenge.rw_roundmill_k57_whole_shown_and_read).prog [79]) (H := Pg.p.hook 4) (ob := Pg.ob) (M := 13400) (loose := Pg.names) (d := HandSHeadRun.topDef (OpenLaw.row PySem.Challenge.rw_roundmill_k57_whole_shown_and_read).prog 79) (kwd := []) Pg.ob_eq
    (by kernel_rfl) (fun s => by kernel_rfl) Pg.runH (by kernel_rfl) (by kernel_rfl) (by kernel_rfl) (by rfl) (by first | assumption | decide +kernel) (by decide +kernel) ⟨rfl, rfl, rfl, rfl, rfl, by decide +kernel⟩ ?hw ?hc
  case hw => w_witness2
  case hc =>
    exact Rm.law_walk (p := Pg.p) (n := 63) (k := 40) (f := 62) (D := Pg.d62) (x := "_law_script") rfl (by decide) (by kernel_rfl) ⟨rfl, by decide, by decide⟩ (by kernel_rfl) rfl Pg.tbs Pg.okp Pg.inc rfl (by kernel_rfl) (by kernel_rfl) Pg.law_true
