import PyProof.Rows.All
import Wide.All
import OpenK.AllK
import Wide.FinOn
import HandS.ForMost
import HandS.ForExc
import HandS.Wide
import HandS.WideBits
import HandS.Text
import HandS.StrMore
import PyProof.StrBlock2
import HandS.Conv
import HandS.ListItems
import HandS.Replace
import HandS.IsInst
import HandS.ExcIs
import HandS.ExcValue
import HandS.Comp
import HandS.Iter
import HandS.Zip
import HandS.More
import HandS.SortKw
import KE.DatumOrd
import HandS.TryOnly
import KE.GoesRaise
import HandS.Rev
import HandS.ForDict
import HandS.Defaults
import HandS.Head0
import HandS.Head1
import HandS.Head2
import HandS.HeadEnd
import HandS.HeadHook1
import HandS.HeadHook2
import HandS.EndBits
import KE.KBits
import KE.BitLaws
import KE.KBitsMul
import PySem.Challenge.RW_roundmill_k64_whole_wide
set_option Elab.async false
set_option linter.all false
set_option maxRecDepth 100000
set_option maxHeartbeats 4000000
/-! Rm, part A: values, the small language, its evaluator. -/
namespace Rm
open PySem L2

inductive MV where
  | non | bl (b : Bool) | int (i : Int) | str (s : Str)
  | tup (xs : List MV) | lst (xs : List MV)
  | ref (i : Nat)
  | obj (c : Nat) (fs : List MV)
  | exc (c : Nat) (fs : List MV)
  deriving Inhabited

inductive MO where
  | lst (xs : List MV)
  | ins (c : Nat) (fs : List MV)
  | dic (kvs : List (L2.Key × MV))
  deriving Inhabited

abbrev HP := List MO
abbrev MX := Nat × List MV
abbrev EN := List (Option MV)

inductive R (α : Type) where
  | ok (a : α) (h : HP) | exc (x : MX) (h : HP) | bad

def R.bind {α β : Type} (r : R α) (f : α → HP → R β) : R β := match r with
  | .ok a h => f a h
  | .exc x h => .exc x h
  | .bad => .bad
@[simp] theorem R.bind_ok {α β : Type} (a : α) (h : HP) (f : α → HP → R β) : (R.ok a h).bind f = f a h := rfl
@[simp] theorem R.bind_exc {α β : Type} (x : MX) (h : HP) (f : α → HP → R β) : (R.exc x h : R α).bind f = .exc x h := rfl
@[simp] theorem R.bind_bad {α β : Type} (f : α → HP → R β) : (R.bad : R α).bind f = .bad := rfl
def R.of {α : Type} (o : Option α) (h : HP) : R α := match o with
  | some a => .ok a h
  | none => .bad
@[simp] theorem R.of_some {α : Type} (a : α) (h : HP) : R.of (some a) h = .ok a h := rfl
@[simp] theorem R.of_none {α : Type} (h : HP) : (R.of none h : R α) = .bad := rfl

inductive Bop where
  | add | sub | mul | fdv | mod | pow | shl | shr | and | or | xor
  deriving DecidableEq
inductive Cop where
  | eq | ne | lt | le | gt | ge | is | isn | inn | nin
  deriving DecidableEq
inductive Bi where
  | len | dvm | abs | max2 | min2 | int1 | str1 | list1 | sum1 | all1 | max1
  deriving DecidableEq
inductive Me where
  | bitlen | strip1 | rstrip1 | starts | part | zfill | split1 | join1 | upper
  deriving DecidableEq
inductive Tg where
  | one (i : Nat) | tup (is : List Nat)
mutual
inductive E where
  | var (i : Nat) | cI (i : Int) | cS (s : Str) | cB (b : Bool) | cN | gI (x : Str) (i : Int) | gS (x s : Str)
  | neg (a : E) | not (a : E)
  | bin (o : Bop) (a b : E) | cmp (o : Cop) (a b : E) | chn (o p : Cop) (a b c : E)
  | and (a b : E) | or (a b : E) | ife (t a b : E)
  | tup (es : Es) | lst (es : Es) | cel (es : Es)
  | idx (a i : E) | slc (a lo hi : E)
  | call (f : Nat) (es : Es)
  | bi (b : Bi) (es : Es)
  | me (m : Me) (o : E) (es : Es)
  | isT (a : E) (n : String)
  | isC (a : E) (c : Nat)
  | isCs (a : E) (cs : List Nat)
  | atr (o : E) (f : Str)
  | mcl (o : E) (m : Str) (es : Es)
  | new (c : Nat) (es : Es)
  | cll (a : E)
  | lcm (cl : Bool) (tg : Tg) (vs : List Nat) (it : I) (a : E)
  | lcg (tg : Tg) (vs : List Nat) (it : I) (a : E)
  | lcf (tg : Tg) (vs : List Nat) (it : I) (t a : E)
  | mnd (a d : E)
  | dnw | dgt (d k : E) | din (ng : Bool) (k d : E) | dks (cl : Bool) (d : E) | dit (d : E)
  | mclc (o : E) (m : Str) (es : Es)
  | lix (o y : E)
  | spc (o y : E) | sxi (o y : E)
  | dln (d : E)
  | lrv (cl : Bool) (a : E)
  | scl (a lo hi : E)
inductive Es where
  | nil | cons (e : E) (es : Es)
inductive I where
  | seq (e : E) | rng1 (a : E) | rng2 (a b : E) | rng3 (a b c : E) | zip (a b : E) | enm (a : E)
end
mutual
inductive S where
  | asg (t : Tg) (e : E)
  | aug (i : Nat) (o : Bop) (e : E)
  | exp (e : E)
  | app (o e : E)
  | rvs (o : E)
  | ins (o i e : E)
  | sto (o i e : E)
  | sta (o : E) (f : Str) (e : E)
  | iff (t : E) (a b : Ss)
  | whl (t : E) (b : Ss)
  | fr (tg : Tg) (it : I) (b : Ss)
  | ret (e : E) | retN
  | rais (c : Nat)
  | tri (b : Ss) (c : Nat) (i y : Nat)
  | cont
  | dpt (o i e : E)
  | clr (o : E)
  | trx (b : Ss)
  | pas
inductive Ss where
  | nil | cons (s : S) (ss : Ss)
end

/-! ### operations on values -/
def sz : Nat := 16777216
def getL (h : HP) : MV → Option (List MV)
  | .lst xs => some xs
  | .ref i => match h[i]? with
    | some (.lst xs) => some xs
    | _ => none
  | _ => none
def mulB (i j : Int) : Bool := decide (Builtin.Int.intBits i ≤ 64) || decide (Builtin.Int.intBits j ≤ 64) || decide ((Builtin.Int.intBits i : Int) + (Builtin.Int.intBits j : Int) ≤ 134217728)
def dvB (i j : Int) : Bool := decide (0 < j) && (decide (j < 1073741824) || !Builtin.divisionGoesByPylong i j)
def powB (i j : Int) : Bool := decide (0 ≤ j) && ((decide (j ≤ 1000000) && decide (i.natAbs < 2 ^ 64)) || decide ((Builtin.Int.intBits i : Int) * j ≤ 134217728))
def shlB (i j : Int) : Bool := decide (0 ≤ j) && decide ((Builtin.Int.intBits i : Int) + j ≤ 134217728)

-- plain data of a value
mutual
def toD (h : HP) : MV → Option PyData
  | .non => some .none
  | .bl b => some (.bool b)
  | .int i => some (.int i)
  | .str s => some (.str s)
  | .tup xs => (toDs h xs).map .tuple
  | .lst xs => (toDs h xs).map .list
  | _ => none
def toDs (h : HP) : List MV → Option (List PyData)
  | [] => some []
  | x :: xs => (toD h x).bind fun d => (toDs h xs).map fun ds => d :: ds
end
def flat0 (h : HP) : MV → Option PyData
  | .ref i => match h[i]? with
    | some (.lst xs) => (toDs h xs).map .list
    | _ => none
  | v => toD h v
def flats0 (h : HP) : List MV → Option (List PyData)
  | [] => some []
  | x :: xs => (flat0 h x).bind fun d => (flats0 h xs).map fun ds => d :: ds
def lstD (h : HP) (xs : List MV) : Option PyData := match toDs h xs with
  | some ds => some (.list ds)
  | none => (flats0 h xs).map .list
def flatD (h : HP) : MV → Option PyData
  | .ref i => match h[i]? with
    | some (.lst xs) => (toDs h xs).map .list
    | _ => none
  | .lst xs => lstD h xs
  | v => toD h v
def eqM (h : HP) (x y : MV) : Option Bool := (flatD h x).bind fun d => (flatD h y).bind fun e => if SeqAt.shaped d && SeqAt.shaped e then some (PyData.eqv d e) else none

def int2 (x y : MV) (f : Int → Int → Option MV) : Option MV := match x, y with
  | .int a, .int b => f a b
  | _, _ => none
@[simp] theorem int2_ii (a b : Int) (f : Int → Int → Option MV) : int2 (.int a) (.int b) f = f a b := rfl
theorem int2_some {x y z : MV} {f : Int → Int → Option MV} (h : int2 x y f = some z) : ∃ a b, x = .int a ∧ y = .int b ∧ f a b = some z := by
  unfold int2 at h
  split at h
  · exact ⟨_, _, rfl, rfl, h⟩
  · cases h
def catL (h : HP) (x y : MV) : Option MV := (getL h x).bind fun xs => (getL h y).bind fun ys => if xs.length + ys.length ≤ sz then some (.lst (xs ++ ys)) else none
def addV (h : HP) : MV → MV → Option MV
  | .int a, y => int2 (.int a) y fun a b => some (.int (a + b))
  | .str a, .str b => if a.length + b.length ≤ sz then some (.str (a ++ b)) else none
  | .tup xs, .tup ys => if xs.isEmpty = false ∧ ys.isEmpty = false ∧ xs.length + ys.length ≤ sz then some (.tup (xs ++ ys)) else none
  | x, y => catL h x y
def mulV (h : HP) : MV → MV → Option MV
  | .int a, y => int2 (.int a) y fun a b => if mulB a b then some (.int (a * b)) else none
  | .str a, .int k => if 0 ≤ k ∧ k < 1000000 ∧ a.length * k.toNat ≤ sz then some (.str (Txt.mul a k)) else none
  | x, .int k => (getL h x).bind fun xs => if 0 ≤ k ∧ k < 1000000 ∧ xs.length * k.toNat ≤ sz then some (.lst (List.replicate k.toNat xs).flatten) else none
  | _, _ => none
def binV (h : HP) (o : Bop) (x y : MV) : Option MV := match o with
  | .add => addV h x y
  | .sub => int2 x y fun a b => some (.int (a - b))
  | .mul => mulV h x y
  | .fdv => int2 x y fun a b => if dvB a b || decide (0 < b) then some (.int (a / b)) else none
  | .mod => int2 x y fun a b => if 0 < b then some (.int (a % b)) else none
  | .pow => int2 x y fun a b => if powB a b then some (.int (a ^ b.toNat)) else none
  | .shl => int2 x y fun a b => if shlB a b then some (.int (a * 2 ^ b.toNat)) else none
  | .shr => int2 x y fun a b => if 0 ≤ b then some (.int (a / 2 ^ b.toNat)) else none
  | .and => int2 x y fun a b => some (.int (Builtin.bitAnd a b))
  | .or => int2 x y fun a b => some (.int (Builtin.bitOr a b))
  | .xor => int2 x y fun a b => some (.int (Builtin.bitXor a b))
def augA : MV → MV → Option MV
  | .str a, .str b => if a.length + b.length ≤ sz then some (.str (a ++ b)) else none
  | x, y => int2 x y fun a b => some (.int (a + b))
def augV (o : Bop) (x y : MV) : Option MV := match o with
  | .add => augA x y
  | .sub => int2 x y fun a b => some (.int (a - b))
  | .mul => int2 x y fun a b => if mulB a b then some (.int (a * b)) else none
  | .shr => int2 x y fun a b => if 0 ≤ b then some (.int (a / 2 ^ b.toNat)) else none
  | .or => int2 x y fun a b => some (.int (Builtin.bitOr a b))
  | _ => none

def flatM : MV → Bool
  | .non => true | .bl _ => true | .int _ => true | .str _ => true | _ => false
def eqF : MV → MV → Bool
  | .non, .non => true
  | .bl a, .bl b => a == b
  | .bl a, .int b => (if a then 1 else 0) == b
  | .int a, .bl b => a == (if b then 1 else 0)
  | .int a, .int b => a == b
  | .str a, .str b => a == b
  | _, _ => false
def inF (x : MV) (xs : List MV) : Bool := xs.any fun y => eqF y x
def seqOf (h : HP) : MV → Option (List MV)
  | .tup xs => some xs
  | v => getL h v
def isNon : MV → Bool
  | .non => true
  | _ => false
def cmp2 (x y : MV) (f : Int → Int → Bool) : Option Bool := match x, y with
  | .int a, .int b => some (f a b)
  | _, _ => none
@[simp] theorem cmp2_ii (a b : Int) (f : Int → Int → Bool) : cmp2 (.int a) (.int b) f = some (f a b) := rfl
theorem cmp2_some {x y : MV} {z : Bool} {f : Int → Int → Bool} (h : cmp2 x y f = some z) : ∃ a b, x = .int a ∧ y = .int b ∧ f a b = z := by
  unfold cmp2 at h
  split at h
  · cases h; exact ⟨_, _, rfl, rfl, rfl⟩
  · cases h
/-- one sign in a text -/
def inS : MV → Str → Option Bool
  | .str c, z => match c.cps.toList with
    | [k] => some (decide (k ∈ z.cps.toList))
    | _ => none
  | _, _ => none
def inV (h : HP) (x y : MV) : Option Bool := match y with
  | .str z => inS x z
  | y => (seqOf h y).bind fun ys => if flatM x && ys.all flatM then some (inF x ys) else none
def cmpV (h : HP) (o : Cop) (x y : MV) : Option Bool := match o with
  | .eq => eqM h x y
  | .ne => (eqM h x y).map (!·)
  | .lt => cmp2 x y fun a b => decide (a < b)
  | .le => cmp2 x y fun a b => decide (a ≤ b)
  | .gt => cmp2 x y fun a b => decide (b < a)
  | .ge => cmp2 x y fun a b => decide (b ≤ a)
  | .is => if isNon y then some (isNon x) else none
  | .isn => if isNon y then some (!isNon x) else none
  | .inn => inV h x y
  | .nin => (inV h x y).map (!·)

def idxV (h : HP) : MV → MV → Option MV
  | .tup xs, .int i => atI xs i
  | .str z, .int i => if z.length ≤ sz then (atI z.cps.toList i).map fun c => .str ⟨#[c]⟩ else none
  | v, .int i => (getL h v).bind fun xs => atI xs i
  | _, _ => none
def cutM (xs : List MV) (lo hi : Option Int) : List MV := (xs.drop (HT.sIx xs.length 0 lo)).take (HT.sIx xs.length xs.length hi - HT.sIx xs.length 0 lo)
def pI : MV → Option (Option Int)
  | .int i => some (some i)
  | _ => none
def slcV (h : HP) (v : MV) (l u : Option Int) : Option MV := match v with
  | .str z => if z.length ≤ sz then some (.str (cutS z l u)) else none
  | v => (getL h v).map fun xs => .lst (cutM xs l u)
def isN : E → Bool
  | .cN => true
  | _ => false
def b1 (xs : List MV) (f : MV → Option MV) : Option MV := match xs with
  | [x] => f x
  | _ => none
def b2 (xs : List MV) (f : MV → MV → Option MV) : Option MV := match xs with
  | [x, y] => f x y
  | _ => none
@[simp] theorem b1_one (x : MV) (f : MV → Option MV) : b1 [x] f = f x := rfl
@[simp] theorem b2_two (x y : MV) (f : MV → MV → Option MV) : b2 [x, y] f = f x y := rfl
theorem b1_some {xs : List MV} {f : MV → Option MV} {z : MV} (h : b1 xs f = some z) : ∃ x, xs = [x] ∧ f x = some z := by
  unfold b1 at h
  split at h
  · exact ⟨_, rfl, h⟩
  · cases h
theorem b2_some {xs : List MV} {f : MV → MV → Option MV} {z : MV} (h : b2 xs f = some z) : ∃ x y, xs = [x, y] ∧ f x y = some z := by
  unfold b2 at h
  split at h
  · exact ⟨_, _, rfl, h⟩
  · cases h
def int1 (x : MV) (f : Int → Option MV) : Option MV := match x with
  | .int a => f a
  | _ => none
@[simp] theorem int1_i (a : Int) (f : Int → Option MV) : int1 (.int a) f = f a := rfl
theorem int1_some {x z : MV} {f : Int → Option MV} (h : int1 x f = some z) : ∃ a, x = .int a ∧ f a = some z := by
  unfold int1 at h
  split at h
  · exact ⟨_, rfl, h⟩
  · cases h
def toI : MV → Option MV
  | .int a => some (.int a)
  | .str a => if a.length ≤ 640 then (PySem.intText? a).map .int else none
  | .bl b => some (.int (if b then 1 else 0))
  | _ => none
def intsOf : List MV → Option (List Int)
  | [] => some []
  | .int i :: xs => (intsOf xs).map fun is => i :: is
  | _ => none
def blsOf : List MV → Option (List Bool)
  | [] => some []
  | .bl b :: xs => (blsOf xs).map fun bs => b :: bs
  | _ => none
def lenS : MV → Option MV
  | .str z => if z.length ≤ sz then some (.int z.length) else none
  | _ => none
def strsOf : List MV → Option (List Str)
  | [] => some []
  | .str i :: xs => (strsOf xs).map fun is => i :: is
  | _ => none
def strI : MV → Option MV
  | .int i => if i.natAbs.log2 < 1920 then some (.str (toString i)) else none
  | _ => none
def mnL (m : Int) (is : List Int) : Int := is.foldl (fun a y => if y < a then y else a) m
def mxL (m : Int) (is : List Int) : Int := is.foldl (fun a y => if a < y then y else a) m
def mxV : List Int → Option MV
  | [] => none
  | i :: is => some (.int (mxL i is))
def mnV (d : MV) : List Int → MV
  | [] => d
  | i :: is => .int (mnL i is)
def mndV (h : HP) (x d : MV) : Option MV := (getL h x).bind fun ys => (intsOf ys).map (mnV d)
/-! ### dicts -/
def keyM : MV → Option L2.Key
  | .int i => some (.inl i)
  | .str s => some (.inr s)
  | _ => none
def kM : L2.Key → MV
  | .inl i => .int i
  | .inr s => .str s
def dicAt (h : HP) : MV → Option (List (L2.Key × MV))
  | .ref i => match h[i]? with
    | some (.dic kvs) => some kvs
    | _ => none
  | _ => none
def valM (kvs : List (L2.Key × MV)) (k : L2.Key) : Option MV := (kvs.find? fun kv => decide (kv.1 = k)).map (·.2)
def putM (kvs : List (L2.Key × MV)) (k : L2.Key) (v : MV) : List (L2.Key × MV) :=
  if kvs.any (fun kv => decide (kv.1 = k)) = true then kvs.map fun kv => if kv.1 = k then (kv.1, v) else kv else kvs ++ [(k, v)]
def dgtV (h : HP) (d k : MV) : Option MV := (dicAt h d).bind fun kvs => (keyM k).bind fun k => valM kvs k
def dinV (h : HP) (ng : Bool) (k d : MV) : Option MV := (dicAt h d).bind fun kvs => (keyM k).map fun k => .bl (xor ng (valM kvs k).isSome)
def dksV (h : HP) (d : MV) : Option (List MV) := (dicAt h d).map fun kvs => kvs.map fun kv => kM kv.1
def ditV (h : HP) (d : MV) : Option MV := (dicAt h d).map fun kvs => .lst (kvs.map fun kv => .tup [kM kv.1, kv.2])
def dlnV (h : HP) (d : MV) : Option MV := (dicAt h d).map fun kvs => .int (kvs.length : Nat)
def dptV (h : HP) (o k v : MV) : Option HP := match o with
  | .ref i => match h[i]? with
    | some (.dic kvs) => if kvs.length < sz then (keyM k).map fun k => h.set i (.dic (putM kvs k v)) else none
    | _ => none
  | _ => none
def clrV (h : HP) (o : MV) : Option HP := match o with
  | .ref i => match h[i]? with
    | some (.lst _) => some (h.set i (.lst []))
    | _ => none
  | _ => none
def lixV (h : HP) (o y : MV) : Option MV := (getL h o).bind fun xs => if flatM y && xs.all flatM then (xs.findIdx? fun x => eqF x y).map (fun (j : Nat) => MV.int (j : Int)) else none
def biV (h : HP) (b : Bi) (xs : List MV) : Option MV := match b with
  | .len => b1 xs fun x => ((seqOf h x).map fun ys => .int ys.length).or (lenS x)
  | .dvm => b2 xs fun x y => int2 x y fun a b => if dvB a b then some (.tup [.int (a / b), .int (a % b)]) else none
  | .abs => b1 xs fun x => int1 x fun a => some (.int (if a < 0 then -a else a))
  | .max2 => b2 xs fun x y => int2 x y fun a b => some (.int (if b > a then b else a))
  | .min2 => b2 xs fun x y => int2 x y fun a b => some (.int (if b < a then b else a))
  | .int1 => b1 xs toI
  | .str1 => b1 xs strI
  | .list1 => b1 xs fun x => (seqOf h x).map .lst
  | .max1 => b1 xs fun x => (getL h x).bind fun ys => (intsOf ys).bind mxV
  | .sum1 => b1 xs fun x => (getL h x).bind fun ys => (intsOf ys).map fun is => .int is.sum
  | .all1 => b1 xs fun x => (getL h x).bind fun ys => (blsOf ys).map fun bs => .bl (bs.all id)
def isStr : MV → Bool
  | .str _ => true
  | _ => false
/-- what a method may be asked of -/
def meK : Me → MV → Bool
  | .bitlen, _ => true
  | _, x => isStr x
def meV (h : HP) : Me → MV → List MV → Option MV
  | .bitlen, .int a, [] => some (.int (Builtin.Int.intBits a : Nat))
  | .strip1, .str a, [.str b] => if a.length ≤ sz then some (.str (Txt.stripChars a b)) else none
  | .rstrip1, .str a, [.str b] => if a.length ≤ sz then some (.str (Txt.rstripChars a b)) else none
  | .starts, .str a, [.str b] => some (.bl (Txt.startswith a b))
  | .part, .str a, [.str b] => if (b.length == 0) = false ∧ a.length ≤ sz then some (.tup [.str (Txt.partition a b).1, .str (Txt.partition a b).2.1, .str (Txt.partition a b).2.2]) else none
  | .zfill, .str a, [.int i] => if PadOk i = true then some (.str (Txt.zfill a i)) else none
  | .split1, .str a, [.str b] => if (b.length == 0) = false ∧ a.length + 2 ≤ sz then some (.lst ((Txt.split a b).map .str)) else none
  | .join1, .str a, [x] => (seqOf h x).bind fun ys => (strsOf ys).bind fun ss => if (ss.map (·.length)).sum + ss.length * a.length ≤ 16777216 then some (.str (Txt.join a ss)) else none
  | .upper, .str a, [] => if a.length ≤ 5592405 then some (.str (Txt.upper a)) else none
  | _, _, _ => none

def spcV : MV → MV → Option (List MV)
  | .str a, .str b => if (b.length == 0) = false ∧ a.length + 2 ≤ sz then some ((Txt.split a b).map .str) else none
  | _, _ => none
def sxiV : MV → MV → Option MV
  | .str a, .str b => match Builtin.Str.occurrences a b 0 a.length 1 with
    | i :: _ => some (.int (i : Nat))
    | [] => none
  | _, _ => none
/-- what the program's classes say -/
structure Tab where
  obj : Nat → Bool
  n0 : Nat → Bool
  mth : Nat → Str → Option Nat
  ini : Nat → Option Nat
  fld : Nat → List Str
  sub : Nat → Nat → Bool
  ve : Nat → Bool
  exc : Nat → Bool
  rz : Nat → Bool

def tyNs : List String := ["int", "bool", "str", "tuple", "list"]
def isTV (T : Tab) (h : HP) : MV → String → Option Bool
  | .int _, n => if n ∈ tyNs then some (n == "int") else none
  | .bl _, n => if n ∈ tyNs then some (n == "int" || n == "bool") else none
  | .str _, n => if n ∈ tyNs then some (n == "str") else none
  | .tup _, n => if n ∈ tyNs then some (n == "tuple") else none
  | .lst _, n => if n ∈ tyNs then some (n == "list") else none
  | .ref i, n => match h[i]? with
    | some (.lst _) => if n ∈ tyNs then some (n == "list") else none
    | _ => none
  | .non, n => if n ∈ tyNs then some false else none
  | .exc c _, n => if n = "ValueError" && T.exc c then some (T.ve c) else none
  | .obj _ _, _ => none
def isCV (T : Tab) : MV → Nat → Option Bool
  | .exc c _, d => if T.exc c && T.exc d then some (T.sub c d) else none
  | .obj c _, d => if T.obj c && T.obj d then some (T.sub c d) else none
  | .non, d => if T.exc d then some false else none
  | _, _ => none

/-- isinstance(x, (C1, C2, ..)) -/
def isCsV (T : Tab) : MV → List Nat → Option Bool
  | _, [] => some false
  | .exc c xs, d :: ds => if T.exc c && T.exc d then (isCsV T (.exc c xs) ds).map fun b => T.sub c d || b else none
  | .non, d :: ds => if T.exc d then isCsV T .non ds else none
  | _, _ => none
def clsM (h : HP) : MV → Option (Nat × List MV)
  | .obj c xs => some (c, xs)
  | .ref i => match h[i]? with
    | some (.ins c xs) => some (c, xs)
    | _ => none
  | _ => none
/-- the place of an attribute -/
def fix (T : Tab) (c : Nat) (f : Str) : Option Nat := if (T.fld c).idxOf f < (T.fld c).length then some ((T.fld c).idxOf f) else none
def atrV (T : Tab) (h : HP) (x : MV) (f : Str) : Option MV := (clsM h x).bind fun p => if T.obj p.1 then (fix T p.1 f).bind fun j => p.2[j]? else none
def mthV (T : Tab) (h : HP) (x : MV) (m : Str) : Option Nat := (clsM h x).bind fun p => if T.obj p.1 then T.mth p.1 m else none
def putL (xs : List MV) (j : Nat) (v : MV) : Option (List MV) := if j = xs.length then some (xs ++ [v]) else if j < xs.length then some (xs.set j v) else none
def staV (T : Tab) (h : HP) (x : MV) (f : Str) (v : MV) : Option HP := match x with
  | .ref i => match h[i]? with
    | some (.ins c xs) => if T.obj c && decide (xs.length < 900) then (fix T c f).bind fun j => (putL xs j v).map fun ys => h.set i (.ins c ys) else none
    | _ => none
  | _ => none

def nilE : Es → Bool
  | .nil => true
  | _ => false

mutual
def low (b : Nat) : MV → Bool
  | .ref i => decide (i < b)
  | .tup xs => lows b xs
  | .lst xs => lows b xs
  | .obj _ xs => lows b xs
  | .exc _ xs => lows b xs
  | _ => true
def lows (b : Nat) : List MV → Bool
  | [] => true
  | x :: xs => low b x && lows b xs
end
def setT : List Nat → List MV → EN → Option EN
  | [], [], e => some e
  | i :: is, v :: vs, e => setT is vs (e.set i (some v))
  | _, _, _ => none
def setG : Tg → MV → EN → Option EN
  | .one i, v, e => some (e.set i (some v))
  | .tup is, .tup vs, e => setT is vs e
  | .tup is, .lst vs, e => setT is vs e
  | _, _, _ => none
def wipE (e : EN) : List Nat → EN
  | [] => e
  | v :: vs => (wipE e vs).set v none
def zipM (xs ys : List MV) : List MV := List.zipWith (fun a b => MV.tup [a, b]) xs ys
def zipS (x y : MV) (h : HP) : Option (List MV) := (getL h x).bind fun xs => (getL h y).map fun ys => zipM xs ys
def enmM : Nat → List MV → List MV
  | _, [] => []
  | n, x :: xs => .tup [.int n, x] :: enmM (n + 1) xs
def enmS (x : MV) (h : HP) : Option (List MV) := (getL h x).map (enmM 0)
def rg3 (i j c : Int) : List MV := (List.range (Builtin.Range.rangeSize i j c).toNat).map fun (k : Nat) => .int (i + (k : Int) * c)
def rg3B (i j c : Int) : Bool := decide (c ≠ 0) && (decide (c.natAbs < 1073741824) && (Builtin.Range.small i j c && decide (0 ≤ Builtin.Range.rangeSize i j c)))
def signs (z : Str) : List MV := z.cps.toList.map fun c => .str ⟨#[c]⟩
abbrev IR := List MV × (HP → Option (List MV))
open Classical in
/-- the turns of a list comprehension: h the heap without the new list -/
noncomputable def lcL (cl : Bool) (tg : Tg) (src : HP → Option (List MV)) (all : List MV) (f : EN → HP → R MV) (e : EN) (h : HP) : List MV → List MV → R MV
  | [], acc => if src (h ++ [.lst acc]) = some all then (if cl then .ok (.ref h.length) (h ++ [.lst acc]) else .ok (.lst acc) h) else .bad
  | x :: xs, acc => if src (h ++ [.lst acc]) = some all then (match setG tg x e with
    | none => .bad
    | some e' => (match f e' (h ++ [.lst acc]) with
      | .ok y h2 => if h2 = h ++ [.lst acc] ∧ low h.length y = true ∧ acc.length < sz then lcL cl tg src all f e h xs (acc ++ [y]) else .bad
      | .exc x h2 => if h2 = h ++ [.lst acc] then .exc x h else .bad
      | .bad => .bad)) else .bad

open Classical in
/-- the turns of a list comprehension whose elements make cells: the list is the cell D -/
noncomputable def lcG (tg : Tg) (src : HP → Option (List MV)) (all : List MV) (f : EN → HP → R MV) (e : EN) (D : Nat) : HP → List MV → List MV → R MV
  | h, [], acc => if src h = some all then .ok (.ref D) h else .bad
  | h, x :: xs, acc => if src h = some all then (match setG tg x e with
    | none => .bad
    | some e' => (match f e' h with
      | .ok y h2 => if h2[D]? = some (.lst acc) ∧ acc.length < sz then lcG tg src all f e D (h2.set D (.lst (acc ++ [y]))) xs (acc ++ [y]) else .bad
      | _ => .bad)) else .bad

open Classical in
/-- the turns of a list comprehension with a test -/
noncomputable def lcF (tg : Tg) (src : HP → Option (List MV)) (all : List MV) (tt f : EN → HP → R MV) (e : EN) (h : HP) : List MV → List MV → R MV
  | [], acc => if src (h ++ [.lst acc]) = some all then .ok (.lst acc) h else .bad
  | x :: xs, acc => if src (h ++ [.lst acc]) = some all then (match setG tg x e with
    | none => .bad
    | some e' => (match tt e' (h ++ [.lst acc]) with
      | .ok (.bl b) h1 => if h1 = h ++ [.lst acc] then (if b = true then (match f e' (h ++ [.lst acc]) with
        | .ok y h2 => if h2 = h ++ [.lst acc] ∧ low h.length y = true ∧ acc.length < sz then lcF tg src all tt f e h xs (acc ++ [y]) else .bad
        | _ => .bad) else lcF tg src all tt f e h xs acc) else .bad
      | _ => .bad)) else .bad

/-! ### the evaluator -/
section
variable (T : Tab) (C : Nat → List MV → HP → R MV)
mutual
noncomputable def evE : E → EN → HP → R MV
  | .var i, e, h => match e[i]? with
    | some (some v) => .ok v h
    | _ => .bad
  | .cI i, _, h => .ok (.int i) h
  | .cS s, _, h => .ok (.str s) h
  | .cB b, _, h => .ok (.bl b) h
  | .cN, _, h => .ok .non h
  | .gI _ i, _, h => .ok (.int i) h
  | .gS _ s, _, h => .ok (.str s) h
  | .neg a, e, h => (evE a e h).bind fun x h => match x with
    | .int i => .ok (.int (-i)) h
    | _ => .bad
  | .not a, e, h => (evE a e h).bind fun x h => match x with
    | .bl b => .ok (.bl (!b)) h
    | _ => .bad
  | .bin o a b, e, h => (evE a e h).bind fun x h => (evE b e h).bind fun y h => R.of (binV h o x y) h
  | .cmp o a b, e, h => (evE a e h).bind fun x h => (evE b e h).bind fun y h => R.of ((cmpV h o x y).map .bl) h
  | .chn o p a b c, e, h => (evE a e h).bind fun x h => (evE b e h).bind fun y h => match cmpV h o x y with
    | some true => (evE c e h).bind fun z h => R.of ((cmpV h p y z).map .bl) h
    | some false => .ok (.bl false) h
    | none => .bad
  | .and a b, e, h => (evE a e h).bind fun x h => match x with
    | .bl true => (evE b e h).bind fun y h => match y with
      | .bl c => .ok (.bl c) h
      | _ => .bad
    | .bl false => .ok (.bl false) h
    | _ => .bad
  | .or a b, e, h => (evE a e h).bind fun x h => match x with
    | .bl false => (evE b e h).bind fun y h => match y with
      | .bl c => .ok (.bl c) h
      | _ => .bad
    | .bl true => .ok (.bl true) h
    | _ => .bad
  | .ife t a b, e, h => (evE t e h).bind fun x h => match x with
    | .bl true => evE a e h
    | .bl false => evE b e h
    | _ => .bad
  | .tup es, e, h => (evEs es e h).bind fun xs h => if xs.length ≤ sz then .ok (.tup xs) h else .bad
  | .lst es, e, h => (evEs es e h).bind fun xs h => if xs.length ≤ sz then .ok (.lst xs) h else .bad
  | .cel es, e, h => (evEs es e h).bind fun xs h => if xs.length ≤ sz then .ok (.ref h.length) (h ++ [.lst xs]) else .bad
  | .idx a i, e, h => (evE a e h).bind fun x h => (evE i e h).bind fun y h => R.of (idxV h x y) h
  | .slc a lo hi, e, h => (evE a e h).bind fun x h => (if isN lo then .ok none h else (evE lo e h).bind fun v h => R.of (pI v) h).bind fun l h => (if isN hi then .ok none h else (evE hi e h).bind fun v h => R.of (pI v) h).bind fun u h => R.of (slcV h x l u) h
  | .call f es, e, h => (evEs es e h).bind fun xs h => C f xs h
  | .bi b es, e, h => (evEs es e h).bind fun xs h => R.of (biV h b xs) h
  | .me m o es, e, h => (evE o e h).bind fun x h => if meK m x then (evEs es e h).bind fun xs h => R.of (meV h m x xs) h else .bad
  | .isT a n, e, h => (evE a e h).bind fun x h => R.of ((isTV T h x n).map .bl) h
  | .isC a c, e, h => (evE a e h).bind fun x h => R.of ((isCV T x c).map .bl) h
  | .isCs a cs, e, h => (evE a e h).bind fun x h => R.of ((isCsV T x cs).map .bl) h
  | .atr o f, e, h => (evE o e h).bind fun x h => R.of (atrV T h x f) h
  | .mcl o m es, e, h => (evE o e h).bind fun x h => (R.of (mthV T h x m) h).bind fun f h => (evEs es e h).bind fun xs h => C f (x :: xs) h
  | .new c es, e, h => match T.ini c with
    | none => if nilE es && (T.n0 c && T.obj c) then .ok (.obj c []) h else .bad
    | some f => if T.obj c then (evEs es e h).bind fun xs h => (C f (.ref h.length :: xs) (h ++ [.ins c []])).bind fun v h' => if isNon v then .ok (.ref h.length) h' else .bad else .bad
  | .cll a, e, h => (evE a e h).bind fun x h => match seqOf h x with
    | some xs => .ok (.ref h.length) (h ++ [.lst xs])
    | none => .bad
  | .lcg tg vs it a, e, h => (itE it e h).bind fun p h => lcG tg p.2 p.1 (fun e h => evE a e h) (wipE e vs) h.length (h ++ [.lst []]) p.1 []
  | .lcm cl tg vs it a, e, h => (itE it e h).bind fun p h => lcL cl tg p.2 p.1 (fun e h => evE a e h) (wipE e vs) h p.1 []
  | .lcf tg vs it t a, e, h => (itE it e h).bind fun p h => lcF tg p.2 p.1 (fun e h => evE t e h) (fun e h => evE a e h) (wipE e vs) h p.1 []
  | .mnd a d, e, h => (evE a e h).bind fun x h => (evE d e h).bind fun y h => R.of (mndV h x y) h
  | .dnw, _, h => .ok (.ref h.length) (h ++ [.dic []])
  | .dgt d k, e, h => (evE d e h).bind fun x h => (evE k e h).bind fun y h => R.of (dgtV h x y) h
  | .din ng k d, e, h => (evE k e h).bind fun y h => (evE d e h).bind fun x h => R.of (dinV h ng y x) h
  | .dks cl d, e, h => (evE d e h).bind fun x h => match dksV h x with
    | some xs => if cl then .ok (.ref h.length) (h ++ [.lst xs]) else .ok (.lst xs) h
    | none => .bad
  | .scl a lo hi, e, h => (evE a e h).bind fun x h => (if isN lo then .ok none h else (evE lo e h).bind fun v h => R.of (pI v) h).bind fun l h => (if isN hi then .ok none h else (evE hi e h).bind fun v h => R.of (pI v) h).bind fun u h => match (getL h x).map fun xs => cutM xs l u with
    | some xs => .ok (.ref h.length) (h ++ [.lst xs])
    | none => .bad
  | .lrv cl a, e, h => (evE a e h).bind fun x h => match (getL h x).map List.reverse with
    | some xs => if cl then .ok (.ref h.length) (h ++ [.lst xs]) else .ok (.lst xs) h
    | none => .bad
  | .dit d, e, h => (evE d e h).bind fun x h => R.of (ditV h x) h
  | .mclc o m es, e, h => (evE o e h).bind fun x h => (R.of (mthV T h x m) h).bind fun f h => (evEs es e h).bind fun xs h => C (f + 100000) (x :: xs) h
  | .lix o y, e, h => (evE o e h).bind fun x h => match getL h x with
    | some _ => (evE y e h).bind fun y h => R.of (lixV h x y) h
    | none => .bad
  | .spc o y, e, h => (evE o e h).bind fun x h => if isStr x then (evE y e h).bind fun y h => (match spcV x y with
    | some xs => .ok (.ref h.length) (h ++ [.lst xs])
    | none => .bad) else .bad
  | .sxi o y, e, h => (evE o e h).bind fun x h => if isStr x then (evE y e h).bind fun y h => R.of (sxiV x y) h else .bad
  | .dln d, e, h => (evE d e h).bind fun x h => R.of (dlnV h x) h
noncomputable def evEs : Es → EN → HP → R (List MV)
  | .nil, _, h => .ok [] h
  | .cons a es, e, h => (evE a e h).bind fun x h => (evEs es e h).bind fun xs h => .ok (x :: xs) h
/-- what a for walks: the items, and how it is told later that they stand -/
noncomputable def itE : I → EN → HP → R IR
  | .seq a, e, h => (evE a e h).bind fun x h => match seqOf h x with
    | some xs => .ok (xs, fun h => seqOf h x) h
    | none => match x with
      | .str z => .ok (signs z, fun _ => some (signs z)) h
      | _ => .bad
  | .rng1 a, e, h => (evE a e h).bind fun x h => match x with
    | .int j => if -(2 ^ 62) ≤ j ∧ j < 2 ^ 62 then .ok ((List.range j.toNat).map fun (i : Nat) => .int (0 + (i : Int)), fun _ => some ((List.range j.toNat).map fun (i : Nat) => .int (0 + (i : Int)))) h else .bad
    | _ => .bad
  | .rng2 a b, e, h => (evE a e h).bind fun x h => (evE b e h).bind fun y h => match x, y with
    | .int i, .int j => if (-(2 ^ 62) ≤ i ∧ i < 2 ^ 62) ∧ -(2 ^ 62) ≤ j ∧ j < 2 ^ 62 then .ok ((List.range (j - i).toNat).map fun (k : Nat) => .int (i + (k : Int)), fun _ => some ((List.range (j - i).toNat).map fun (k : Nat) => .int (i + (k : Int)))) h else .bad
    | _, _ => .bad
  | .rng3 a b c, e, h => (evE a e h).bind fun x h => (evE b e h).bind fun y h => (evE c e h).bind fun z h => match x, y, z with
    | .int i, .int j, .int k => if rg3B i j k then .ok (rg3 i j k, fun _ => some (rg3 i j k)) h else .bad
    | _, _, _ => .bad
  | .zip a b, e, h => (evE a e h).bind fun x h => (evE b e h).bind fun y h => match zipS x y h with
    | some xs => .ok (xs, zipS x y) h
    | none => .bad
  | .enm a, e, h => (evE a e h).bind fun x h => match enmS x h with
    | some xs => .ok (xs, enmS x) h
    | none => .bad
end

inductive O where
  | nx (e : EN) (h : HP) | ret (v : MV) (h : HP) | exc (x : MX) (e : EN) (h : HP) | ct (e : EN) (h : HP) | bad

/-- the result of an expression, handed on within a statement -/
def R.go {α : Type} (r : R α) (e : EN) (f : α → HP → O) : O := match r with
  | .ok a h => f a h
  | .exc x h => .exc x e h
  | .bad => .bad
@[simp] theorem R.go_ok {α : Type} (a : α) (h : HP) (e : EN) (f : α → HP → O) : (R.ok a h).go e f = f a h := rfl
@[simp] theorem R.go_exc {α : Type} (x : MX) (h : HP) (e : EN) (f : α → HP → O) : (R.exc x h : R α).go e f = .exc x e h := rfl
@[simp] theorem R.go_bad {α : Type} (e : EN) (f : α → HP → O) : (R.bad : R α).go e f = .bad := rfl
def O.then (o : O) (f : EN → HP → O) : O := match o with
  | .nx e h => f e h
  | o => o
@[simp] theorem O.then_nx (e : EN) (h : HP) (f : EN → HP → O) : (O.nx e h).then f = f e h := rfl
@[simp] theorem O.then_ret (v : MV) (h : HP) (f : EN → HP → O) : (O.ret v h).then f = .ret v h := rfl
@[simp] theorem O.then_exc (x : MX) (e : EN) (h : HP) (f : EN → HP → O) : (O.exc x e h).then f = .exc x e h := rfl
@[simp] theorem O.then_ct (e : EN) (h : HP) (f : EN → HP → O) : (O.ct e h).then f = .ct e h := rfl
@[simp] theorem O.then_bad (f : EN → HP → O) : (O.bad).then f = .bad := rfl

open Classical in
noncomputable def forL (tg : Tg) (src : HP → Option (List MV)) (all : List MV) (f : EN → HP → O) : List MV → EN → HP → O
  | [], e, h => if src h = some all then .nx e h else .bad
  | x :: xs, e, h => if src h = some all then (match setG tg x e with
    | none => .bad
    | some e => (match f e h with
      | .nx e h => forL tg src all f xs e h
      | .ct e h => forL tg src all f xs e h
      | o => o)) else .bad
def whlL (t : EN → HP → R MV) (f : EN → HP → O) : Nat → EN → HP → O
  | 0, _, _ => .bad
  | n + 1, e, h => (t e h).go e fun x h => match x with
    | .bl true => (match f e h with
      | .nx e h => whlL t f n e h
      | .ct e h => whlL t f n e h
      | o => o)
    | .bl false => .nx e h
    | _ => .bad
def isCell (h : HP) (x : MV) : Bool := match x with
  | .ref i => match h[i]? with
    | some (.lst _) => true
    | _ => false
  | _ => false
def appV (h : HP) (o v : MV) : Option HP := match o with
  | .ref i => match h[i]? with
    | some (.lst xs) => if xs.length < sz then some (h.set i (.lst (xs ++ [v]))) else none
    | _ => none
  | _ => none
def rvsV (h : HP) (o : MV) : Option HP := match o with
  | .ref i => match h[i]? with
    | some (.lst xs) => some (h.set i (.lst xs.reverse))
    | _ => none
  | _ => none
def insV (h : HP) (o i v : MV) : Option HP := match o, i with
  | .ref j, .int n => match h[j]? with
    | some (.lst xs) => if xs.length < sz ∧ 0 ≤ n ∧ n < 2 ^ 63 then some (h.set j (.lst (xs.take n.toNat ++ [v] ++ xs.drop n.toNat))) else none
    | _ => none
  | _, _ => none
def stoV (h : HP) (o i v : MV) : Option HP := match o, i with
  | .ref j, .int n => match h[j]? with
    | some (.lst xs) => (ixN xs.length n).map fun k => h.set j (.lst (xs.set k v))
    | _ => none
  | _, _ => none
def fuel : Nat := 1000000000000000000000000000000
mutual
noncomputable def exS : S → EN → HP → O
  | .asg t a, e, h => (evE T C a e h).go e fun v h => match setG t v e with
    | some e => .nx e h
    | none => .bad
  | .aug i o a, e, h => match e[i]? with
    | some (some x) => (evE T C a e h).go e fun y h => match augV o x y with
      | some z => .nx (e.set i (some z)) h
      | none => .bad
    | _ => .bad
  | .exp a, e, h => (evE T C a e h).go e fun _ h => .nx e h
  | .app o a, e, h => (evE T C o e h).go e fun x h => if isCell h x then (evE T C a e h).go e fun v h => match appV h x v with
    | some h => .nx e h
    | none => .bad else .bad
  | .rvs o, e, h => (evE T C o e h).go e fun x h => match rvsV h x with
    | some h => .nx e h
    | none => .bad
  | .ins o i a, e, h => (evE T C o e h).go e fun x h => if isCell h x then (evE T C i e h).go e fun n h => (evE T C a e h).go e fun v h => match insV h x n v with
    | some h => .nx e h
    | none => .bad else .bad
  | .sto o i a, e, h => (evE T C a e h).go e fun v h => (evE T C o e h).go e fun x h => (evE T C i e h).go e fun n h => match stoV h x n v with
    | some h => .nx e h
    | none => .bad
  | .sta o f a, e, h => (evE T C a e h).go e fun v h => (evE T C o e h).go e fun x h => match staV T h x f v with
    | some h => .nx e h
    | none => .bad
  | .iff t a b, e, h => (evE T C t e h).go e fun x h => match x with
    | .bl true => exSs a e h
    | .bl false => exSs b e h
    | _ => .bad
  | .whl t b, e, h => whlL (fun e h => evE T C t e h) (fun e h => exSs b e h) fuel e h
  | .fr tg it b, e, h => (itE T C it e h).go e fun p h => forL tg p.2 p.1 (fun e h => exSs b e h) p.1 e h
  | .ret a, e, h => (evE T C a e h).go e fun v h => .ret v h
  | .retN, _, h => .ret .non h
  | .rais c, e, h => if T.rz c then .exc (c, []) e h else .bad
  | .tri b c i y, e, h => match exSs b e h with
    | .exc (d, []) e h => if T.exc d && T.exc c then (if T.sub d c then .nx (((e.set i (some (.exc d []))).set y (some (.exc d []))).set i none) h else .exc (d, []) e h) else .bad
    | .exc _ _ _ => .bad
    | o => o
  | .cont, e, h => .ct e h
  | .dpt o i a, e, h => (evE T C a e h).go e fun v h => (evE T C o e h).go e fun x h => (evE T C i e h).go e fun n h => match dptV h x n v with
    | some h => .nx e h
    | none => .bad
  | .clr o, e, h => (evE T C o e h).go e fun x h => match clrV h x with
    | some h => .nx e h
    | none => .bad
  | .trx b, e, h => match exSs b e h with
    | .exc _ _ _ => .bad
    | o => o
  | .pas, e, h => .nx e h
noncomputable def exSs : Ss → EN → HP → O
  | .nil, e, h => .nx e h
  | .cons s ss, e, h => (exS s e h).then fun e h => exSs ss e h
end
end

/-! ### functions -/
structure FI where
  np : Nat
  nl : Nat
  body : Ss
  keep : Bool := false
mutual
def frz (h : HP) (b : Nat) : MV → Option MV
  | .ref i => if i < b then some (.ref i) else match h[i]? with
    | some (.lst xs) => if lows b xs then some (.lst xs) else none
    | some (.ins c xs) => if lows b xs then some (.obj c xs) else none
    | some (.dic _) => none
    | none => none
  | .tup xs => (frzs h b xs).map .tup
  | .lst xs => (frzs h b xs).map .lst
  | .obj c xs => (frzs h b xs).map (.obj c)
  | .exc c xs => (frzs h b xs).map (.exc c)
  | v => some v
def frzs (h : HP) (b : Nat) : List MV → Option (List MV)
  | [] => some []
  | x :: xs => (frz h b x).bind fun y => (frzs h b xs).map fun ys => y :: ys
end
def lowO (b : Nat) : MO → Bool
  | .lst xs => lows b xs
  | .ins _ xs => lows b xs
  | .dic kvs => lows b (kvs.map (·.2))
def lowH (b : Nat) (h : HP) : Bool := h.all (lowO b)
open Classical in
noncomputable def fin (keep : Bool) (h : HP) (v : MV) (h' : HP) : R MV :=
  if keep then .ok v h' else if h'.take h.length = h then (match frz h' h.length v with
    | some w => .ok w h
    | none => .bad) else if lowH h.length (h'.take h.length) = true then (match frz h' h.length v with
    | some w => .ok w (h'.take h.length)
    | none => .bad) else .bad
open Classical in
/-- the result of a call taken as a cell of the caller's -/
noncomputable def finC (h : HP) (v : MV) (h' : HP) : R MV :=
  if h'.take h.length = h then (match v with
    | .ref i => if h.length ≤ i then (match h'[i]? with
      | some (.lst xs) => if lows h.length xs then .ok (.ref h.length) (h ++ [.lst xs]) else .bad
      | _ => .bad) else .bad
    | _ => .bad) else .bad
def big : Nat := 100000
def start (F : FI) (vs : List MV) : EN := vs.map some ++ List.replicate (F.nl - F.np) none
open Classical in
noncomputable def run (T : Tab) (fs : List FI) : Nat → Nat → List MV → HP → R MV
  | 0, _, _, _ => .bad
  | n + 1, f, vs, h => match fs[f]? with
    | none => (match fs[f - big]? with
      | none => .bad
      | some F => if vs.length = F.np then (match exSs T (run T fs n) F.body (start F vs) h with
        | .ret v h' => finC h v h'
        | .exc x _ h' => if h'.take h.length = h then .exc x h else .bad
        | _ => .bad) else .bad)
    | some F => if vs.length = F.np then (match exSs T (run T fs n) F.body (start F vs) h with
      | .nx _ h' => fin F.keep h .non h'
      | .ret v h' => fin F.keep h v h'
      | .exc x _ h' => if h'.take h.length = h then .exc x h else .bad
      | _ => .bad) else .bad
noncomputable def leaveB (fr : Bool) (F : FI) (h : HP) (o : O) : R MV := match o with
  | .nx _ h' => if fr then .bad else fin F.keep h .non h'
  | .ret v h' => if fr then finC h v h' else fin F.keep h v h'
  | .exc x _ h' => open Classical in if h'.take h.length = h then .exc x h else .bad
  | _ => .bad
theorem run_at {T : Tab} {fs : List FI} {n f : Nat} {F : FI} (e : fs[f]? = some F) (vs : List MV) (h : HP) : run T fs (n + 1) f vs h = if vs.length = F.np then leaveB false F h (exSs T (run T fs n) F.body (start F vs) h) else .bad := by
  simp only [run, e]
  split
  · generalize exSs T (run T fs n) F.body (start F vs) h = o
    cases o <;> rfl
  · rfl
theorem run_atC {T : Tab} {fs : List FI} {n f : Nat} {F : FI} (e : fs[f]? = some F) (e0 : fs[f + big]? = none) (vs : List MV) (h : HP) : run T fs (n + 1) (f + big) vs h = if vs.length = F.np then leaveB true F h (exSs T (run T fs n) F.body (start F vs) h) else .bad := by
  simp only [run, e0, Nat.add_sub_cancel, e]
  split
  · generalize exSs T (run T fs n) F.body (start F vs) h = o
    cases o <;> rfl
  · rfl
end Rm

/-! Rm, part B: how values of the small language stand in the heap. -/
namespace Rm
open PySem L2

/-- a caught exception of the class at C, without a dict of its own -/
def ExcV (C a : Addr) : HO := .ext fun h => ∃ oe vs, h.get? a = some oe ∧ Zc (.ref C) none oe ∧ oe.data = .fields vs
/-- a list that nobody changes -/
def FzL (K : PySem.W.Frag) (H : Hp) (r : List Addr) (a : Addr) (vs : List V) : Prop :=
  (a ∉ r ∧ Rd H a (.lst vs)) ∨ ∃ (its : Array Value) (n : Nat), K.lookup a = some { cls := .type "list", data := .seq its n } ∧ its.size ≤ sizeLine ∧ Vals vs its.toList
theorem FzL.sq {K : PySem.W.Frag} {H : Hp} {r : List Addr} {a : Addr} {vs : List V} (h : FzL K H r a vs) : SqL K H a vs := by
  rcases h with ⟨_, h⟩ | ⟨its, n, h, z, q⟩
  · exact .inl h
  · exact .inr ⟨_, its, n, h, rfl, rfl, rfl, z, q⟩

section
variable (K : PySem.W.Frag) (cA : Nat → Addr) (cF : Nat → List Str)
mutual
def Rep (H : Hp) (r : List Addr) : MV → V → Prop
  | .non, v => v = .non
  | .bl b, v => v = .bl b
  | .int i, v => v = .int i
  | .str s, v => v = .str s
  | .tup xs, v => ∃ a vs, v = .ref a ∧ (a ∉ r ∧ H a = some (.tup vs)) ∧ Reps H r xs vs
  | .lst xs, v => ∃ a vs, v = .ref a ∧ FzL K H r a vs ∧ Reps H r xs vs
  | .ref i, v => ∃ a, v = .ref a ∧ r[i]? = some a
  | .obj c xs, v => ∃ a dx vs, v = .ref a ∧ (a ∉ r ∧ H a = some (.ins (cA c) dx ((cF c).zip vs))) ∧ Reps H r xs vs
  | .exc c xs, v => ∃ a, v = .ref a ∧ (a ∉ r ∧ H a = some (ExcV (cA c) a)) ∧ xs = []
def Reps (H : Hp) (r : List Addr) : List MV → List V → Prop
  | [], vs => vs = []
  | x :: xs, vs => ∃ v ws, vs = v :: ws ∧ Rep H r x v ∧ Reps H r xs ws
end

/-- what may have happened: cells may be new and be written, all else stays -/
structure Ext (r : List Addr) (H : Hp) (r' : List Addr) (H' : Hp) : Prop where
  pre : ∃ t, r' = r ++ t
  keep : ∀ a o, H a = some o → a ∉ r → H' a = some o ∧ a ∉ r'
end
theorem nodup_inj {α : Type} : ∀ {l : List α} {i j : Nat} {a : α}, l.Nodup → l[i]? = some a → l[j]? = some a → i = j
  | [], i, j, a, _, h, _ => by simp at h
  | x :: l, 0, 0, a, _, _, _ => rfl
  | x :: l, 0, j + 1, a, n, h, k => by
    simp at h k; subst h
    exact absurd (List.mem_of_getElem? k) (List.nodup_cons.mp n).1
  | x :: l, i + 1, 0, a, n, h, k => by
    simp at h k; subst k
    exact absurd (List.mem_of_getElem? h) (List.nodup_cons.mp n).1
  | x :: l, i + 1, j + 1, a, n, h, k => by
    have := nodup_inj (List.nodup_cons.mp n).2 (by simpa using h) (by simpa using k)
    omega
section
variable {K : PySem.W.Frag} {cA : Nat → Addr} {cF : Nat → List Str} {r r' r'' : List Addr} {H H' H'' : Hp}
theorem Ext.refl : Ext r H r H := ⟨⟨[], by simp⟩, fun _ _ h n => ⟨h, n⟩⟩
theorem Ext.trans (a : Ext r H r' H') (b : Ext r' H' r'' H'') : Ext r H r'' H'' := by
  obtain ⟨t, rfl⟩ := a.pre
  obtain ⟨u, rfl⟩ := b.pre
  exact ⟨⟨t ++ u, by simp⟩, fun x o h n => let ⟨h1, n1⟩ := a.keep x o h n; b.keep x o h1 n1⟩
theorem Ext.new {p : Addr} {o : HO} (h : H p = none) (hr : ∀ a ∈ r, H a ≠ none) : Ext r H r (upd H p o) := ⟨⟨[], by simp⟩, fun a u e n => ⟨by rw [upd_ne (ne_of_none e h)]; exact e, n⟩⟩
theorem Ext.get {i : Nat} {a : Addr} (e : Ext r H r' H') (h : r[i]? = some a) : r'[i]? = some a := by
  obtain ⟨t, rfl⟩ := e.pre
  have hi : i < r.length := (List.getElem?_eq_some_iff.mp h).1
  rw [List.getElem?_append_left hi]; exact h
theorem FzL.mono {a : Addr} {vs : List V} (e : Ext r H r' H') (h : FzL K H r a vs) : FzL K H' r' a vs := by
  rcases h with ⟨n, h⟩ | h
  · rcases h with h | ⟨o, h⟩
    · obtain ⟨h1, n1⟩ := e.keep a _ h n
      exact .inl ⟨n1, .inl h1⟩
    · obtain ⟨h1, n1⟩ := e.keep a _ h n
      exact .inl ⟨n1, .inr ⟨o, h1⟩⟩
  · exact .inr h
mutual
theorem Rep.mono (e : Ext r H r' H') : ∀ (x : MV) (v : V), Rep K cA cF H r x v → Rep K cA cF H' r' x v
  | .non, v, h => by simpa only [Rep] using h
  | .bl b, v, h => by simpa only [Rep] using h
  | .int i, v, h => by simpa only [Rep] using h
  | .str s, v, h => by simpa only [Rep] using h
  | .tup xs, v, h => by
    simp only [Rep] at h ⊢
    obtain ⟨a, vs, e1, ⟨n, h1⟩, h2⟩ := h
    obtain ⟨h3, n3⟩ := e.keep a _ h1 n
    exact ⟨a, vs, e1, ⟨n3, h3⟩, Reps.mono e xs vs h2⟩
  | .lst xs, v, h => by
    simp only [Rep] at h ⊢
    obtain ⟨a, vs, e1, h1, h2⟩ := h
    exact ⟨a, vs, e1, h1.mono e, Reps.mono e xs vs h2⟩
  | .ref i, v, h => by
    simp only [Rep] at h ⊢
    obtain ⟨a, e1, h1⟩ := h
    exact ⟨a, e1, e.get h1⟩
  | .obj c xs, v, h => by
    simp only [Rep] at h ⊢
    obtain ⟨a, dx, vs, e1, ⟨n, h1⟩, h2⟩ := h
    obtain ⟨h3, n3⟩ := e.keep a _ h1 n
    exact ⟨a, dx, vs, e1, ⟨n3, h3⟩, Reps.mono e xs vs h2⟩
  | .exc c xs, v, h => by
    simp only [Rep] at h ⊢
    obtain ⟨a, e1, ⟨n, h1⟩, h2⟩ := h
    obtain ⟨h3, n3⟩ := e.keep a _ h1 n
    exact ⟨a, e1, ⟨n3, h3⟩, h2⟩
theorem Reps.mono (e : Ext r H r' H') : ∀ (xs : List MV) (vs : List V), Reps K cA cF H r xs vs → Reps K cA cF H' r' xs vs
  | [], vs, h => by simpa only [Reps] using h
  | x :: xs, vs, h => by
    simp only [Reps] at h ⊢
    obtain ⟨v, ws, e1, h1, h2⟩ := h
    exact ⟨v, ws, e1, Rep.mono e x v h1, Reps.mono e xs ws h2⟩
end
theorem Reps.length : ∀ {xs : List MV} {vs : List V}, Reps K cA cF H r xs vs → vs.length = xs.length
  | [], vs, h => by simp only [Reps] at h; rw [h]; rfl
  | x :: xs, vs, h => by
    simp only [Reps] at h
    obtain ⟨v, ws, e1, h1, h2⟩ := h
    rw [e1, List.length_cons, List.length_cons, Reps.length h2]
theorem Reps.get : ∀ {xs : List MV} {vs : List V} {i : Nat} {x : MV}, Reps K cA cF H r xs vs → xs[i]? = some x → ∃ v, vs[i]? = some v ∧ Rep K cA cF H r x v
  | [], vs, i, x, h, e => by simp at e
  | y :: xs, vs, 0, x, h, e => by
    simp only [Reps] at h
    obtain ⟨v, ws, e1, h1, h2⟩ := h
    simp at e; subst e
    exact ⟨v, by rw [e1]; rfl, h1⟩
  | y :: xs, vs, i + 1, x, h, e => by
    simp only [Reps] at h
    obtain ⟨v, ws, e1, h1, h2⟩ := h
    obtain ⟨u, h3, h4⟩ := Reps.get (i := i) (x := x) h2 (by simpa using e)
    exact ⟨u, by rw [e1]; simpa using h3, h4⟩
theorem Reps.append : ∀ {xs ys : List MV} {vs ws : List V}, Reps K cA cF H r xs vs → Reps K cA cF H r ys ws → Reps K cA cF H r (xs ++ ys) (vs ++ ws)
  | [], ys, vs, ws, h, k => by simp only [Reps] at h; rw [h]; exact k
  | x :: xs, ys, vs, ws, h, k => by
    simp only [Reps] at h
    obtain ⟨v, us, e1, h1, h2⟩ := h
    rw [e1]
    simp only [List.cons_append, Reps]
    exact ⟨v, us ++ ws, rfl, h1, Reps.append h2 k⟩
theorem reps_rev : ∀ {xs : List MV} {vs : List V}, Reps K cA cF H r xs vs → Reps K cA cF H r xs.reverse vs.reverse
  | [], vs, h => by simp only [Reps] at h; rw [h]; simp [Reps]
  | x :: xs, vs, h => by
    simp only [Reps] at h
    obtain ⟨v, us, rfl, h1, h2⟩ := h
    rw [List.reverse_cons, List.reverse_cons]
    exact (reps_rev h2).append (by simp only [Reps]; exact ⟨v, [], rfl, h1, rfl⟩)
theorem Reps.drop : ∀ {xs : List MV} {vs : List V} (n : Nat), Reps K cA cF H r xs vs → Reps K cA cF H r (xs.drop n) (vs.drop n)
  | xs, vs, 0, h => by simpa using h
  | [], vs, n + 1, h => by simp only [Reps] at h; rw [h]; simp [Reps]
  | x :: xs, vs, n + 1, h => by
    simp only [Reps] at h
    obtain ⟨v, us, e1, h1, h2⟩ := h
    rw [e1]; simpa using Reps.drop n h2
theorem Reps.take : ∀ {xs : List MV} {vs : List V} (n : Nat), Reps K cA cF H r xs vs → Reps K cA cF H r (xs.take n) (vs.take n)
  | xs, vs, 0, h => by simp [Reps]
  | [], vs, n + 1, h => by simp only [Reps] at h; rw [h]; simp [Reps]
  | x :: xs, vs, n + 1, h => by
    simp only [Reps] at h
    obtain ⟨v, us, e1, h1, h2⟩ := h
    rw [e1]; simp only [List.take_succ_cons, Reps]
    exact ⟨v, us.take n, rfl, h1, Reps.take n h2⟩
theorem Reps.set : ∀ {xs : List MV} {vs : List V} {i : Nat} {x : MV} {v : V}, Reps K cA cF H r xs vs → Rep K cA cF H r x v → Reps K cA cF H r (xs.set i x) (vs.set i v)
  | [], vs, i, x, v, h, p => by simp only [Reps] at h; rw [h]; simp [Reps]
  | y :: xs, vs, 0, x, v, h, p => by
    simp only [Reps] at h
    obtain ⟨u, us, e1, h1, h2⟩ := h
    rw [e1]; simp only [List.set_cons_zero, Reps]
    exact ⟨v, us, rfl, p, h2⟩
  | y :: xs, vs, i + 1, x, v, h, p => by
    simp only [Reps] at h
    obtain ⟨u, us, e1, h1, h2⟩ := h
    rw [e1]; simp only [List.set_cons_succ, Reps]
    exact ⟨u, us.set i v, rfl, h1, Reps.set h2 p⟩
theorem Reps.atI {xs : List MV} {vs : List V} {i : Int} {x : MV} (h : Reps K cA cF H r xs vs) (e : L2.atI xs i = some x) : ∃ v, L2.atI vs i = some v ∧ Rep K cA cF H r x v := by
  have hl := h.length
  unfold L2.atI at e ⊢
  rw [hl]
  cases q : ixN xs.length i with
  | none => rw [q] at e; cases e
  | some j =>
    rw [q] at e
    exact h.get e
theorem Reps.cut {xs : List MV} {vs : List V} {lo hi : Option Int} (h : Reps K cA cF H r xs vs) : Reps K cA cF H r (cutM xs lo hi) (cutV vs lo hi) := by
  have hl := h.length
  unfold cutM cutV
  rw [hl]
  exact (h.drop _).take _

/-! ### the cells -/
def RepO (K : PySem.W.Frag) (cA : Nat → Addr) (cF : Nat → List Str) (H : Hp) (r : List Addr) : MO → Addr → Prop
  | .lst xs, a => ∃ vs, H a = some (.lst vs) ∧ Reps K cA cF H r xs vs
  | .ins c xs, a => ∃ dx vs, H a = some (.ins (cA c) dx ((cF c).zip vs)) ∧ Reps K cA cF H r xs vs
  | .dic kvs, a => ∃ vs, H a = some (.dK ((kvs.map (·.1)).zip vs)) ∧ Reps K cA cF H r (kvs.map (·.2)) vs
structure Emb (K : PySem.W.Frag) (cA : Nat → Addr) (cF : Nat → List Str) (H : Hp) (r : List Addr) (h : HP) : Prop where
  len : r.length = h.length
  nd : r.Nodup
  at_ : ∀ (i : Nat) o a, h[i]? = some o → r[i]? = some a → RepO K cA cF H r o a
variable {h h' : HP}
theorem Emb.get (E : Emb K cA cF H r h) {i : Nat} {o : MO} (e : h[i]? = some o) : ∃ a, r[i]? = some a ∧ RepO K cA cF H r o a := by
  have hi : i < h.length := (List.getElem?_eq_some_iff.mp e).1
  have hr : i < r.length := by rw [E.len]; exact hi
  exact ⟨r[i], by simp [hr], E.at_ i o _ e (by simp [hr])⟩
theorem RepO.some {o : MO} {a : Addr} (h : RepO K cA cF H r o a) : ∃ u, H a = some u := by
  cases o with
  | lst xs => obtain ⟨vs, h1, _⟩ := h; exact ⟨_, h1⟩
  | ins c xs => obtain ⟨dx, vs, h1, _⟩ := h; exact ⟨_, h1⟩
  | dic kvs => obtain ⟨vs, h1, _⟩ := h; exact ⟨_, h1⟩
theorem Emb.tracked (E : Emb K cA cF H r h) {a : Addr} (ha : a ∈ r) : ∃ u, H a = some u := by
  obtain ⟨i, hi, e⟩ := List.mem_iff_getElem.mp ha
  have hh : i < h.length := by rw [← E.len]; exact hi
  exact (E.at_ i h[i] a (by simp [hh]) (by rw [← e]; simp [hi])).some
/-- something new that is no cell -/
theorem Emb.new (E : Emb K cA cF H r h) {p : Addr} {o : HO} (hp : H p = none) : Ext r H r (upd H p o) ∧ Emb K cA cF (upd H p o) r h ∧ p ∉ r := by
  have hpr : p ∉ r := fun z => by obtain ⟨u, q⟩ := E.tracked z; rw [hp] at q; cases q
  have X : Ext r H r (upd H p o) := ⟨⟨[], by simp⟩, fun a u e n => ⟨by rw [upd_ne (ne_of_none e hp)]; exact e, n⟩⟩
  refine ⟨X, ⟨E.len, E.nd, fun i u a e1 e2 => ?_⟩, hpr⟩
  have q := E.at_ i u a e1 e2
  have hne : a ≠ p := fun z => hpr (z ▸ List.mem_of_getElem? e2)
  cases u with
  | lst xs => obtain ⟨vs, h1, h2⟩ := q; exact ⟨vs, by rw [upd_ne hne]; exact h1, Reps.mono X _ _ h2⟩
  | ins c xs => obtain ⟨dx, vs, h1, h2⟩ := q; exact ⟨dx, vs, by rw [upd_ne hne]; exact h1, Reps.mono X _ _ h2⟩
  | dic kvs => obtain ⟨vs, h1, h2⟩ := q; exact ⟨vs, by rw [upd_ne hne]; exact h1, Reps.mono X _ _ h2⟩
/-- a new cell that holds a list -/
theorem Emb.cell (E : Emb K cA cF H r h) {p : Addr} {xs : List MV} {vs : List V} (hp : H p = none) (hv : Reps K cA cF H r xs vs) :
    Ext r H (r ++ [p]) (upd H p (.lst vs)) ∧ Emb K cA cF (upd H p (.lst vs)) (r ++ [p]) (h ++ [.lst xs]) := by
  have hpr : p ∉ r := fun z => by obtain ⟨u, q⟩ := E.tracked z; rw [hp] at q; cases q
  have X : Ext r H (r ++ [p]) (upd H p (.lst vs)) := ⟨⟨[p], rfl⟩, fun a u e n => by
    have hne := ne_of_none e hp
    exact ⟨by rw [upd_ne hne]; exact e, fun z => by
      rcases List.mem_append.mp z with z | z
      · exact n z
      · exact hne (by simpa using z)⟩⟩
  refine ⟨X, ⟨by simp [E.len], ?_, fun i u a e1 e2 => ?_⟩⟩
  · rw [List.nodup_append]
    refine ⟨E.nd, by simp, fun a ha b hb => ?_⟩
    have : b = p := by simpa using hb
    subst this
    exact fun z => hpr (z ▸ ha)
  · by_cases hi : i < h.length
    · rw [List.getElem?_append_left hi] at e1
      rw [List.getElem?_append_left (by rw [E.len]; exact hi)] at e2
      have q := E.at_ i u a e1 e2
      have hne : a ≠ p := fun z => hpr (z ▸ List.mem_of_getElem? e2)
      cases u with
      | lst xs => obtain ⟨ws, h1, h2⟩ := q; exact ⟨ws, by rw [upd_ne hne]; exact h1, Reps.mono X _ _ h2⟩
      | ins c xs => obtain ⟨dx, ws, h1, h2⟩ := q; exact ⟨dx, ws, by rw [upd_ne hne]; exact h1, Reps.mono X _ _ h2⟩
      | dic kvs => obtain ⟨ws, h1, h2⟩ := q; exact ⟨ws, by rw [upd_ne hne]; exact h1, Reps.mono X _ _ h2⟩
    · have hi2 : i = h.length := by
        have : i < (h ++ [MO.lst xs]).length := (List.getElem?_eq_some_iff.mp e1).1
        simp at this; omega
      subst hi2
      rw [List.getElem?_append_right (Nat.le_refl _), Nat.sub_self] at e1
      rw [← E.len, List.getElem?_append_right (Nat.le_refl _), Nat.sub_self] at e2
      simp at e1 e2
      subst e1 e2
      exact ⟨vs, upd_same, Reps.mono X _ _ hv⟩
/-- a cell's list is written -/
theorem Emb.write (E : Emb K cA cF H r h) {i : Nat} {a : Addr} {xs : List MV} {vs : List V} (hi : r[i]? = some a) (hv : Reps K cA cF H r xs vs) :
    Ext r H r (upd H a (.lst vs)) ∧ Emb K cA cF (upd H a (.lst vs)) r (h.set i (.lst xs)) := by
  have X : Ext r H r (upd H a (.lst vs)) := ⟨⟨[], by simp⟩, fun b u e n => ⟨by
    have hne : b ≠ a := fun z => by subst z; exact n (List.mem_of_getElem? hi)
    rw [upd_ne hne]; exact e, n⟩⟩
  refine ⟨X, ⟨by simp [E.len], E.nd, fun j u b e1 e2 => ?_⟩⟩
  have hir : i < r.length := (List.getElem?_eq_some_iff.mp hi).1
  by_cases hj : i = j
  · subst hj
    rw [hi] at e2; cases e2
    rw [List.getElem?_set_self (by rw [← E.len]; exact hir)] at e1
    cases e1
    exact ⟨vs, upd_same, Reps.mono X _ _ hv⟩
  · rw [List.getElem?_set_ne hj] at e1
    have q := E.at_ j u b e1 e2
    have hne : b ≠ a := fun z => by
      subst z
      exact hj (nodup_inj E.nd hi e2)
    cases u with
    | lst ys => obtain ⟨ws, h1, h2⟩ := q; exact ⟨ws, by rw [upd_ne hne]; exact h1, Reps.mono X _ _ h2⟩
    | ins c ys => obtain ⟨dx, ws, h1, h2⟩ := q; exact ⟨dx, ws, by rw [upd_ne hne]; exact h1, Reps.mono X _ _ h2⟩
    | dic kvs => obtain ⟨ws, h1, h2⟩ := q; exact ⟨ws, by rw [upd_ne hne]; exact h1, Reps.mono X _ _ h2⟩

/-- more things beside what was there -/
theorem Emb.more (E : Emb K cA cF H r h) (k : ∀ b o, H b = some o → H' b = some o) : Ext r H r H' ∧ Emb K cA cF H' r h := by
  have X : Ext r H r H' := ⟨⟨[], by simp⟩, fun a u e n => ⟨k a u e, n⟩⟩
  refine ⟨X, ⟨E.len, E.nd, fun i u a e1 e2 => ?_⟩⟩
  have q := E.at_ i u a e1 e2
  cases u with
  | lst xs => obtain ⟨vs, h1, h2⟩ := q; exact ⟨vs, k _ _ h1, Reps.mono X _ _ h2⟩
  | ins c xs => obtain ⟨dx, vs, h1, h2⟩ := q; exact ⟨dx, vs, k _ _ h1, Reps.mono X _ _ h2⟩
  | dic kvs => obtain ⟨vs, h1, h2⟩ := q; exact ⟨vs, k _ _ h1, Reps.mono X _ _ h2⟩
/-- a new cell that holds an empty dict -/
theorem Emb.dict (E : Emb K cA cF H r h) {p : Addr} (hp : H p = none) :
    Ext r H (r ++ [p]) (upd H p (.dK [])) ∧ Emb K cA cF (upd H p (.dK [])) (r ++ [p]) (h ++ [.dic []]) := by
  have hpr : p ∉ r := fun z => by obtain ⟨u, q⟩ := E.tracked z; rw [hp] at q; cases q
  have X : Ext r H (r ++ [p]) (upd H p (.dK [])) := ⟨⟨[p], rfl⟩, fun a u e n => by
    have hne := ne_of_none e hp
    exact ⟨by rw [upd_ne hne]; exact e, fun z => by
      rcases List.mem_append.mp z with z | z
      · exact n z
      · exact hne (by simpa using z)⟩⟩
  refine ⟨X, ⟨by simp [E.len], ?_, fun i u a e1 e2 => ?_⟩⟩
  · rw [List.nodup_append]
    refine ⟨E.nd, by simp, fun a ha b hb => ?_⟩
    have : b = p := by simpa using hb
    subst this
    exact fun z => hpr (z ▸ ha)
  · by_cases hi : i < h.length
    · rw [List.getElem?_append_left hi] at e1
      rw [List.getElem?_append_left (by rw [E.len]; exact hi)] at e2
      have q := E.at_ i u a e1 e2
      have hne : a ≠ p := fun z => hpr (z ▸ List.mem_of_getElem? e2)
      cases u with
      | lst xs => obtain ⟨ws, h1, h2⟩ := q; exact ⟨ws, by rw [upd_ne hne]; exact h1, Reps.mono X _ _ h2⟩
      | ins c xs => obtain ⟨dx, ws, h1, h2⟩ := q; exact ⟨dx, ws, by rw [upd_ne hne]; exact h1, Reps.mono X _ _ h2⟩
      | dic kvs => obtain ⟨ws, h1, h2⟩ := q; exact ⟨ws, by rw [upd_ne hne]; exact h1, Reps.mono X _ _ h2⟩
    · have hi2 : i = h.length := by
        have : i < (h ++ [MO.dic []]).length := (List.getElem?_eq_some_iff.mp e1).1
        simp at this; omega
      subst hi2
      rw [List.getElem?_append_right (Nat.le_refl _), Nat.sub_self] at e1
      rw [← E.len, List.getElem?_append_right (Nat.le_refl _), Nat.sub_self] at e2
      simp at e1 e2
      subst e1 e2
      exact ⟨[], by rw [List.zip_nil_right]; exact upd_same, by simp only [List.map_nil, Reps]⟩
/-- a cell's dict is written -/
theorem Emb.writeD (E : Emb K cA cF H r h) {i : Nat} {a : Addr} {kvs : List (L2.Key × MV)} {vs : List V} (hi : r[i]? = some a) (hv : Reps K cA cF H r (kvs.map (·.2)) vs) :
    Ext r H r (upd H a (.dK ((kvs.map (·.1)).zip vs))) ∧ Emb K cA cF (upd H a (.dK ((kvs.map (·.1)).zip vs))) r (h.set i (.dic kvs)) := by
  have X : Ext r H r (upd H a (.dK ((kvs.map (·.1)).zip vs))) := ⟨⟨[], by simp⟩, fun b u e n => ⟨by
    have hne : b ≠ a := fun z => by subst z; exact n (List.mem_of_getElem? hi)
    rw [upd_ne hne]; exact e, n⟩⟩
  refine ⟨X, ⟨by simp [E.len], E.nd, fun j u b e1 e2 => ?_⟩⟩
  have hir : i < r.length := (List.getElem?_eq_some_iff.mp hi).1
  by_cases hj : i = j
  · subst hj
    rw [hi] at e2; cases e2
    rw [List.getElem?_set_self (by rw [← E.len]; exact hir)] at e1
    cases e1
    exact ⟨vs, upd_same, Reps.mono X _ _ hv⟩
  · rw [List.getElem?_set_ne hj] at e1
    have q := E.at_ j u b e1 e2
    have hne : b ≠ a := fun z => by
      subst z
      exact hj (nodup_inj E.nd hi e2)
    cases u with
    | lst ys => obtain ⟨ws, h1, h2⟩ := q; exact ⟨ws, by rw [upd_ne hne]; exact h1, Reps.mono X _ _ h2⟩
    | ins c ys => obtain ⟨dx, ws, h1, h2⟩ := q; exact ⟨dx, ws, by rw [upd_ne hne]; exact h1, Reps.mono X _ _ h2⟩
    | dic kvs => obtain ⟨ws, h1, h2⟩ := q; exact ⟨ws, by rw [upd_ne hne]; exact h1, Reps.mono X _ _ h2⟩
/-- a new cell that holds an instance -/
theorem Emb.inst (E : Emb K cA cF H r h) {p dx : Addr} {c : Nat} (hp : H p = none) (hd : H dx = none) (hne : dx ≠ p) :
    Ext r H (r ++ [p]) (upd (upd H dx (.own p)) p (.ins (cA c) dx [])) ∧ Emb K cA cF (upd (upd H dx (.own p)) p (.ins (cA c) dx [])) (r ++ [p]) (h ++ [.ins c []]) := by
  have hpr : p ∉ r := fun z => by obtain ⟨u, q⟩ := E.tracked z; rw [hp] at q; cases q
  have keep : ∀ {a : Addr} {u : HO}, H a = some u → upd (upd H dx (.own p)) p (.ins (cA c) dx []) a = some u := fun {a u} e => by
    rw [upd_ne (ne_of_none e hp), upd_ne (ne_of_none e hd)]; exact e
  have X : Ext r H (r ++ [p]) (upd (upd H dx (.own p)) p (.ins (cA c) dx [])) := ⟨⟨[p], rfl⟩, fun a u e n => by
    exact ⟨keep e, fun z => by
      rcases List.mem_append.mp z with z | z
      · exact n z
      · exact ne_of_none e hp (by simpa using z)⟩⟩
  refine ⟨X, ⟨by simp [E.len], ?_, fun i u a e1 e2 => ?_⟩⟩
  · rw [List.nodup_append]
    refine ⟨E.nd, by simp, fun a ha b hb => ?_⟩
    have : b = p := by simpa using hb
    subst this
    exact fun z => hpr (z ▸ ha)
  · by_cases hi : i < h.length
    · rw [List.getElem?_append_left hi] at e1
      rw [List.getElem?_append_left (by rw [E.len]; exact hi)] at e2
      have q := E.at_ i u a e1 e2
      cases u with
      | lst xs => obtain ⟨ws, h1, h2⟩ := q; exact ⟨ws, keep h1, Reps.mono X _ _ h2⟩
      | ins c xs => obtain ⟨dx, ws, h1, h2⟩ := q; exact ⟨dx, ws, keep h1, Reps.mono X _ _ h2⟩
      | dic kvs => obtain ⟨ws, h1, h2⟩ := q; exact ⟨ws, keep h1, Reps.mono X _ _ h2⟩
    · have hi2 : i = h.length := by
        have : i < (h ++ [MO.ins c []]).length := (List.getElem?_eq_some_iff.mp e1).1
        simp at this; omega
      subst hi2
      rw [List.getElem?_append_right (Nat.le_refl _), Nat.sub_self] at e1
      rw [← E.len, List.getElem?_append_right (Nat.le_refl _), Nat.sub_self] at e2
      simp at e1 e2
      subst e1 e2
      exact ⟨dx, [], by rw [List.zip_nil_right]; exact upd_same, by simp only [Reps]⟩
/-- a cell's instance is written -/
theorem Emb.writeI (E : Emb K cA cF H r h) {i c : Nat} {a dx : Addr} {xs : List MV} {vs : List V} (hi : r[i]? = some a) (hv : Reps K cA cF H r xs vs) :
    Ext r H r (upd H a (.ins (cA c) dx ((cF c).zip vs))) ∧ Emb K cA cF (upd H a (.ins (cA c) dx ((cF c).zip vs))) r (h.set i (.ins c xs)) := by
  have X : Ext r H r (upd H a (.ins (cA c) dx ((cF c).zip vs))) := ⟨⟨[], by simp⟩, fun b u e n => ⟨by
    have hne : b ≠ a := fun z => by subst z; exact n (List.mem_of_getElem? hi)
    rw [upd_ne hne]; exact e, n⟩⟩
  refine ⟨X, ⟨by simp [E.len], E.nd, fun j u b e1 e2 => ?_⟩⟩
  have hir : i < r.length := (List.getElem?_eq_some_iff.mp hi).1
  by_cases hj : i = j
  · subst hj
    rw [hi] at e2; cases e2
    rw [List.getElem?_set_self (by rw [← E.len]; exact hir)] at e1
    cases e1
    exact ⟨dx, vs, upd_same, Reps.mono X _ _ hv⟩
  · rw [List.getElem?_set_ne hj] at e1
    have q := E.at_ j u b e1 e2
    have hne : b ≠ a := fun z => by
      subst z
      exact hj (nodup_inj E.nd hi e2)
    cases u with
    | lst ys => obtain ⟨ws, h1, h2⟩ := q; exact ⟨ws, by rw [upd_ne hne]; exact h1, Reps.mono X _ _ h2⟩
    | ins c ys => obtain ⟨dx, ws, h1, h2⟩ := q; exact ⟨dx, ws, by rw [upd_ne hne]; exact h1, Reps.mono X _ _ h2⟩
    | dic kvs => obtain ⟨ws, h1, h2⟩ := q; exact ⟨ws, by rw [upd_ne hne]; exact h1, Reps.mono X _ _ h2⟩
/-- the attributes by place -/
theorem lookup_zip : ∀ (ns : List Str) (vs : List V) (f : Str), ns.idxOf f < ns.length → (ns.zip vs).lookup f = vs[ns.idxOf f]?
  | [], vs, f, h => by simp at h
  | n :: ns, [], f, h => by simp
  | n :: ns, v :: vs, f, h => by
    rw [List.zip_cons_cons, List.lookup_cons]
    by_cases e : f = n
    · subst e; simp
    · have e2 : (f == n) = false := by simp [e]
      have e3 : (n == f) = false := by simp; exact fun z => e z.symm
      rw [e2]
      rw [List.idxOf_cons, e3] at h ⊢
      simp only [cond_false] at h ⊢
      rw [lookup_zip ns vs f (by simpa using h)]
      simp
theorem lookup_zip_none : ∀ (ns : List Str) (vs : List V) (f : Str), f ∉ ns → (ns.zip vs).lookup f = none
  | [], vs, f, h => by simp
  | n :: ns, [], f, h => by simp
  | n :: ns, v :: vs, f, h => by
    rw [List.zip_cons_cons, List.lookup_cons]
    have e2 : (f == n) = false := by simp; exact fun z => h (z ▸ List.mem_cons_self ..)
    rw [e2]
    exact lookup_zip_none ns vs f (fun z => h (List.mem_cons_of_mem _ z))
theorem putF_zip : ∀ (ns : List Str) (vs : List V) (f : Str) (v : V), ns.idxOf f < ns.length → ns.idxOf f ≤ vs.length →
    putF f v (ns.zip vs) = ns.zip (if ns.idxOf f = vs.length then vs ++ [v] else vs.set (ns.idxOf f) v)
  | [], vs, f, v, h, _ => by simp at h
  | n :: ns, [], f, v, h, k => by
    have : (n :: ns).idxOf f = 0 := by simpa using k
    have e : n = f := by
      rw [List.idxOf_cons] at this
      cases q : n == f with
      | true => simpa using q
      | false => rw [q] at this; simp at this
    subst e
    simp [putF]
  | n :: ns, u :: vs, f, v, h, k => by
    rw [List.zip_cons_cons]
    unfold putF
    by_cases e : n = f
    · subst e
      simp
    · have e3 : (n == f) = false := by simp [e]
      rw [if_neg e]
      rw [List.idxOf_cons, e3] at h k ⊢
      simp only [cond_false, List.length_cons] at h k ⊢
      rw [putF_zip ns vs f v (by omega) (by omega)]
      by_cases z : ns.idxOf f = vs.length
      · rw [if_pos z, if_pos (by omega)]; simp
      · rw [if_neg z, if_neg (by omega)]; simp
theorem cls_rep (E : Emb K cA cF H r h) {x : MV} {c : Nat} {xs : List MV} {v : V} (e : clsM h x = some (c, xs)) (hx : Rep K cA cF H r x v) : ∃ a dx vs, v = .ref a ∧ H a = some (.ins (cA c) dx ((cF c).zip vs)) ∧ Reps K cA cF H r xs vs := by
  cases x with
  | obj d ys =>
    simp only [clsM, Option.some.injEq, Prod.mk.injEq] at e
    obtain ⟨rfl, rfl⟩ := e
    simp only [Rep] at hx
    obtain ⟨a, dx, vs, e1, ⟨_, h1⟩, h2⟩ := hx
    exact ⟨a, dx, vs, e1, h1, h2⟩
  | ref i =>
    simp only [clsM] at e
    simp only [Rep] at hx
    obtain ⟨a, e1, h1⟩ := hx
    cases q : h[i]? with
    | none => rw [q] at e; cases e
    | some o =>
      rw [q] at e
      cases o with
      | ins d ys =>
        simp only [Option.some.injEq, Prod.mk.injEq] at e
        obtain ⟨rfl, rfl⟩ := e
        obtain ⟨dx, vs, h2, h3⟩ := E.at_ i _ a q h1
        exact ⟨a, dx, vs, e1, h2, h3⟩
      | lst ys => cases e
      | dic kvs => cases e
  | _ => simp [clsM] at e

/-- a list value is read -/
theorem getL_ok (E : Emb K cA cF H r h) {x : MV} {xs : List MV} {v : V} (e : getL h x = some xs) (hx : Rep K cA cF H r x v) : ∃ a vs, v = .ref a ∧ (H a = some (.lst vs) ∨ FzL K H r a vs) ∧ Reps K cA cF H r xs vs := by
  cases x with
  | lst ys =>
    simp only [getL, Option.some.injEq] at e
    subst e
    simp only [Rep] at hx
    obtain ⟨a, vs, e1, h1, h2⟩ := hx
    exact ⟨a, vs, e1, .inr h1, h2⟩
  | ref i =>
    simp only [getL] at e
    simp only [Rep] at hx
    obtain ⟨a, e1, h1⟩ := hx
    cases q : h[i]? with
    | none => rw [q] at e; cases e
    | some o =>
      rw [q] at e
      cases o with
      | lst ys =>
        simp only [Option.some.injEq] at e
        subst e
        obtain ⟨vs, h2, h3⟩ := E.at_ i _ a q h1
        exact ⟨a, vs, e1, .inl h2, h3⟩
      | ins c ys => cases e
      | dic kvs => cases e
  | _ => simp [getL] at e
theorem sq_of {K : PySem.W.Frag} {H : Hp} {r : List Addr} {a : Addr} {vs : List V} (h : H a = some (.lst vs) ∨ FzL K H r a vs) : SqL K H a vs := by
  rcases h with h | h
  · exact SqL.of h
  · exact h.sq

/-! ### dicts -/
theorem zip_val {kvs : List (L2.Key × MV)} {vs : List V} {k : L2.Key} (h : Reps K cA cF H r (kvs.map (·.2)) vs) :
    (valM kvs k = none → valV ((kvs.map (·.1)).zip vs) k = none) ∧ ∀ x, valM kvs k = some x → ∃ v, valV ((kvs.map (·.1)).zip vs) k = some v ∧ Rep K cA cF H r x v := by
  induction kvs generalizing vs with
  | nil => exact ⟨fun _ => rfl, fun x z => by cases z⟩
  | cons kv kvs ih =>
    simp only [List.map_cons, Reps] at h
    obtain ⟨v, ws, rfl, h1, h2⟩ := h
    simp only [List.map_cons, List.zip_cons_cons]
    by_cases e : kv.1 = k
    · refine ⟨fun z => ?_, fun x z => ?_⟩
      · simp [valM, e] at z
      · simp [valM, e] at z
        subst z
        exact ⟨v, valV_pos e, h1⟩
    · rw [valV_neg (p := (kv.1, v)) e]
      have e2 : valM (kv :: kvs) k = valM kvs k := by simp [valM, List.find?_cons, e]
      rw [e2]
      exact ih h2
theorem zip_any {kvs : List (L2.Key × MV)} {vs : List V} {k : L2.Key} (h : vs.length = kvs.length) : ((kvs.map (·.1)).zip vs).any (fun kv => decide (kv.1 = k)) = kvs.any fun kv => decide (kv.1 = k) := by
  induction kvs generalizing vs with
  | nil => rfl
  | cons kv kvs ih =>
    cases vs with
    | nil => simp at h
    | cons v vs => simp only [List.map_cons, List.zip_cons_cons, List.any_cons]; rw [ih (by simpa using h)]
theorem zip_put {kvs : List (L2.Key × MV)} {vs : List V} {k : L2.Key} {x : MV} {v : V} (h : Reps K cA cF H r (kvs.map (·.2)) vs) (p : Rep K cA cF H r x v) :
    ∃ ws, putK ((kvs.map (·.1)).zip vs) k v = ((putM kvs k x).map (·.1)).zip ws ∧ Reps K cA cF H r ((putM kvs k x).map (·.2)) ws := by
  have hl : vs.length = kvs.length := by have := h.length; simpa using this
  unfold putK putM
  rw [zip_any hl]
  by_cases q : (kvs.any fun kv => decide (kv.1 = k)) = true
  · rw [if_pos q, if_pos q]
    clear q hl
    induction kvs generalizing vs with
    | nil => exact ⟨[], rfl, by simp [Reps]⟩
    | cons kv kvs ih =>
      simp only [List.map_cons, Reps] at h
      obtain ⟨u, us, rfl, h1, h2⟩ := h
      obtain ⟨ws, e1, e2⟩ := ih h2
      by_cases e : kv.1 = k
      · refine ⟨v :: ws, ?_, ?_⟩
        · simp only [List.map_cons, List.zip_cons_cons, if_pos e]
          rw [e1]
        · simp only [List.map_cons, if_pos e, Reps]
          exact ⟨v, ws, rfl, p, e2⟩
      · refine ⟨u :: ws, ?_, ?_⟩
        · simp only [List.map_cons, List.zip_cons_cons, if_neg e]
          rw [e1]
        · simp only [List.map_cons, if_neg e, Reps]
          exact ⟨u, ws, rfl, h1, e2⟩
  · rw [if_neg q, if_neg q]
    refine ⟨vs ++ [v], ?_, ?_⟩
    · rw [List.map_append, List.zip_append (by rw [List.length_map, hl])]; rfl
    · rw [List.map_append]
      exact h.append (by simp only [List.map_cons, List.map_nil, Reps]; exact ⟨v, [], rfl, p, rfl⟩)
theorem rep_key {x : MV} {k : L2.Key} {v : V} (e : keyM x = some k) (p : Rep K cA cF H r x v) : v = kV k := by
  cases x with
  | int i => simp only [keyM, Option.some.injEq] at e; subst e; simp only [Rep] at p; exact p
  | str i => simp only [keyM, Option.some.injEq] at e; subst e; simp only [Rep] at p; exact p
  | _ => simp [keyM] at e
theorem rep_kM (k : L2.Key) : Rep K cA cF H r (kM k) (kV k) := by
  cases k with
  | inl i => simp only [kM, kV, Rep]
  | inr i => simp only [kM, kV, Rep]
theorem zip_keys : ∀ {kvs : List (L2.Key × MV)} {vs : List V}, Reps K cA cF H r (kvs.map (·.2)) vs → (((kvs.map (·.1)).zip vs).map fun kv => kV kv.1) = kvs.map fun kv => kV kv.1
  | [], vs, h => rfl
  | kv :: kvs, vs, h => by
    simp only [List.map_cons, Reps] at h
    obtain ⟨v, ws, rfl, h1, h2⟩ := h
    simp only [List.map_cons, List.zip_cons_cons]
    rw [zip_keys h2]
theorem reps_keys : ∀ kvs : List (L2.Key × MV), Reps K cA cF H r (kvs.map fun kv => kM kv.1) (kvs.map fun kv => kV kv.1)
  | [] => by simp [Reps]
  | kv :: kvs => by simp only [List.map_cons, Reps]; exact ⟨_, _, rfl, rep_kM _, reps_keys kvs⟩
theorem pairs_rep : ∀ {kvs : List (L2.Key × MV)} {vs : List V} {ts : List Addr}, (∀ t ∈ ts, t ∉ r) → Reps K cA cF H r (kvs.map (·.2)) vs →
    Paired (fun (t : Addr) (q : L2.Key × V) => H t = some (.tup [kV q.1, q.2])) ts ((kvs.map (·.1)).zip vs) → Reps K cA cF H r (kvs.map fun kv => .tup [kM kv.1, kv.2]) (ts.map V.ref)
  | [], vs, ts, ht, h, p => by
    simp only [List.map_nil, List.zip_nil_left] at p
    cases p
    simp [Reps]
  | kv :: kvs, vs, ts, ht, h, p => by
    simp only [List.map_cons, Reps] at h
    obtain ⟨v, ws, rfl, h1, h2⟩ := h
    simp only [List.map_cons, List.zip_cons_cons] at p
    cases p with
    | cons e t =>
      rename_i a ts
      simp only [List.map_cons, Reps, Rep]
      refine ⟨_, _, rfl, ⟨a, _, rfl, ⟨ht a (List.mem_cons_self ..), e⟩, ?_⟩, pairs_rep (fun t z => ht t (List.mem_cons_of_mem _ z)) h2 t⟩
      exact ⟨_, _, rfl, rep_kM _, _, _, rfl, h1, rfl⟩
theorem dic_ok (E : Emb K cA cF H r h) {x : MV} {kvs : List (L2.Key × MV)} {v : V} (e : dicAt h x = some kvs) (hx : Rep K cA cF H r x v) :
    ∃ i a vs, x = .ref i ∧ h[i]? = some (.dic kvs) ∧ r[i]? = some a ∧ v = .ref a ∧ H a = some (.dK ((kvs.map (·.1)).zip vs)) ∧ Reps K cA cF H r (kvs.map (·.2)) vs := by
  cases x with
  | ref i =>
    simp only [dicAt] at e
    simp only [Rep] at hx
    obtain ⟨a, e1, h1⟩ := hx
    split at e
    · rename_i kvs' q
      cases e
      obtain ⟨vs, h2, h3⟩ := E.at_ i _ a q h1
      exact ⟨i, a, vs, rfl, q, h1, e1, h2, h3⟩
    · cases e
  | _ => simp [dicAt] at e

/-! ### giving up cells: what is left is frozen -/
mutual
theorem Rep.low {t : List Addr} : ∀ (x : MV) (v : V), low r.length x = true → Rep K cA cF H (r ++ t) x v → Rep K cA cF H r x v
  | .non, v, _, h => by simpa only [Rep] using h
  | .bl b, v, _, h => by simpa only [Rep] using h
  | .int i, v, _, h => by simpa only [Rep] using h
  | .str s, v, _, h => by simpa only [Rep] using h
  | .tup xs, v, hl, h => by
    simp only [Rep] at h ⊢
    simp only [low] at hl
    obtain ⟨a, vs, e1, ⟨n, h1⟩, h2⟩ := h
    exact ⟨a, vs, e1, ⟨fun z => n (List.mem_append_left _ z), h1⟩, Reps.low xs vs hl h2⟩
  | .lst xs, v, hl, h => by
    simp only [Rep] at h ⊢
    simp only [low] at hl
    obtain ⟨a, vs, e1, h1, h2⟩ := h
    refine ⟨a, vs, e1, ?_, Reps.low xs vs hl h2⟩
    rcases h1 with ⟨n, h1⟩ | h1
    · exact .inl ⟨fun z => n (List.mem_append_left _ z), h1⟩
    · exact .inr h1
  | .ref i, v, hl, h => by
    simp only [Rep] at h ⊢
    simp only [low, decide_eq_true_eq] at hl
    obtain ⟨a, e1, h1⟩ := h
    rw [List.getElem?_append_left hl] at h1
    exact ⟨a, e1, h1⟩
  | .obj c xs, v, hl, h => by
    simp only [Rep] at h ⊢
    simp only [low] at hl
    obtain ⟨a, dx, vs, e1, ⟨n, h1⟩, h2⟩ := h
    exact ⟨a, dx, vs, e1, ⟨fun z => n (List.mem_append_left _ z), h1⟩, Reps.low xs vs hl h2⟩
  | .exc c xs, v, hl, h => by
    simp only [Rep] at h ⊢
    obtain ⟨a, e1, ⟨n, h1⟩, h2⟩ := h
    exact ⟨a, e1, ⟨fun z => n (List.mem_append_left _ z), h1⟩, h2⟩
theorem Reps.low {t : List Addr} : ∀ (xs : List MV) (vs : List V), lows r.length xs = true → Reps K cA cF H (r ++ t) xs vs → Reps K cA cF H r xs vs
  | [], vs, _, h => by simpa only [Reps] using h
  | x :: xs, vs, hl, h => by
    simp only [Reps] at h ⊢
    simp only [lows, Bool.and_eq_true] at hl
    obtain ⟨v, ws, e1, h1, h2⟩ := h
    exact ⟨v, ws, e1, Rep.low x v hl.1 h1, Reps.low xs ws hl.2 h2⟩
end
mutual
theorem Rep.low2 {t u : List Addr} (hu : ∀ a ∈ u, a ∈ t) : ∀ (x : MV) (v : V), low r.length x = true → Rep K cA cF H (r ++ t) x v → Rep K cA cF H (r ++ u) x v
  | .non, v, _, h => by simpa only [Rep] using h
  | .bl b, v, _, h => by simpa only [Rep] using h
  | .int i, v, _, h => by simpa only [Rep] using h
  | .str s, v, _, h => by simpa only [Rep] using h
  | .tup xs, v, hl, h => by
    simp only [Rep] at h ⊢
    simp only [low] at hl
    obtain ⟨a, vs, e1, ⟨n, h1⟩, h2⟩ := h
    exact ⟨a, vs, e1, ⟨fun z => n ((List.mem_append.mp z).elim (List.mem_append_left _) fun y => List.mem_append_right _ (hu _ y)), h1⟩, Reps.low2 hu xs vs hl h2⟩
  | .lst xs, v, hl, h => by
    simp only [Rep] at h ⊢
    simp only [low] at hl
    obtain ⟨a, vs, e1, h1, h2⟩ := h
    refine ⟨a, vs, e1, ?_, Reps.low2 hu xs vs hl h2⟩
    rcases h1 with ⟨n, h1⟩ | h1
    · exact .inl ⟨fun z => n ((List.mem_append.mp z).elim (List.mem_append_left _) fun y => List.mem_append_right _ (hu _ y)), h1⟩
    · exact .inr h1
  | .ref i, v, hl, h => by
    simp only [Rep] at h ⊢
    simp only [low, decide_eq_true_eq] at hl
    obtain ⟨a, e1, h1⟩ := h
    rw [List.getElem?_append_left hl] at h1
    exact ⟨a, e1, by rw [List.getElem?_append_left hl]; exact h1⟩
  | .obj c xs, v, hl, h => by
    simp only [Rep] at h ⊢
    simp only [low] at hl
    obtain ⟨a, dx, vs, e1, ⟨n, h1⟩, h2⟩ := h
    exact ⟨a, dx, vs, e1, ⟨fun z => n ((List.mem_append.mp z).elim (List.mem_append_left _) fun y => List.mem_append_right _ (hu _ y)), h1⟩, Reps.low2 hu xs vs hl h2⟩
  | .exc c xs, v, hl, h => by
    simp only [Rep] at h ⊢
    obtain ⟨a, e1, ⟨n, h1⟩, h2⟩ := h
    exact ⟨a, e1, ⟨fun z => n ((List.mem_append.mp z).elim (List.mem_append_left _) fun y => List.mem_append_right _ (hu _ y)), h1⟩, h2⟩
theorem Reps.low2 {t u : List Addr} (hu : ∀ a ∈ u, a ∈ t) : ∀ (xs : List MV) (vs : List V), lows r.length xs = true → Reps K cA cF H (r ++ t) xs vs → Reps K cA cF H (r ++ u) xs vs
  | [], vs, _, h => by simpa only [Reps] using h
  | x :: xs, vs, hl, h => by
    simp only [Reps] at h ⊢
    simp only [lows, Bool.and_eq_true] at hl
    obtain ⟨v, ws, e1, h1, h2⟩ := h
    exact ⟨v, ws, e1, Rep.low2 hu x v hl.1 h1, Reps.low2 hu xs ws hl.2 h2⟩
end
mutual
theorem Rep.islow : ∀ (x : MV) (v : V), Rep K cA cF H r x v → Rm.low r.length x = true
  | .non, v, h => by simp only [Rm.low]
  | .bl b, v, h => by simp only [Rm.low]
  | .int i, v, h => by simp only [Rm.low]
  | .str s, v, h => by simp only [Rm.low]
  | .tup xs, v, h => by
    simp only [Rep] at h
    simp only [Rm.low]
    obtain ⟨a, vs, e1, _, h2⟩ := h
    exact Reps.islow xs vs h2
  | .lst xs, v, h => by
    simp only [Rep] at h
    simp only [Rm.low]
    obtain ⟨a, vs, e1, _, h2⟩ := h
    exact Reps.islow xs vs h2
  | .ref i, v, h => by
    simp only [Rep] at h
    simp only [Rm.low, decide_eq_true_eq]
    obtain ⟨a, e1, h1⟩ := h
    exact (List.getElem?_eq_some_iff.mp h1).1
  | .obj c xs, v, h => by
    simp only [Rep] at h
    simp only [Rm.low]
    obtain ⟨a, dx, vs, e1, _, h2⟩ := h
    exact Reps.islow xs vs h2
  | .exc c xs, v, h => by
    simp only [Rep] at h
    obtain ⟨a, e1, _, h2⟩ := h
    subst h2
    simp only [Rm.low, lows]
theorem Reps.islow : ∀ (xs : List MV) (vs : List V), Reps K cA cF H r xs vs → lows r.length xs = true
  | [], vs, h => by simp only [lows]
  | x :: xs, vs, h => by
    simp only [Reps] at h
    simp only [lows, Bool.and_eq_true]
    obtain ⟨v, ws, e1, h1, h2⟩ := h
    exact ⟨Rep.islow x v h1, Reps.islow xs ws h2⟩
end
theorem Emb.cut {t : List Addr} {H0 : Hp} (E : Emb K cA cF H (r ++ t) h') (E0 : Emb K cA cF H0 r h) (e : h'.take h.length = h) : Emb K cA cF H r h := by
  refine ⟨E0.len, E0.nd, fun i o a e1 e2 => ?_⟩
  have hi : i < r.length := (List.getElem?_eq_some_iff.mp e2).1
  have e3 : h'[i]? = some o := by
    rw [← e] at e1
    rw [List.getElem?_take] at e1
    split at e1
    · exact e1
    · cases e1
  have q := E.at_ i o a e3 (by rw [List.getElem?_append_left hi]; exact e2)
  have q0 := E0.at_ i o a e1 e2
  cases o with
  | lst xs =>
    obtain ⟨vs, h1, h2⟩ := q
    obtain ⟨ws, _, h4⟩ := q0
    exact ⟨vs, h1, Reps.low xs vs (Reps.islow xs ws h4) h2⟩
  | ins c xs =>
    obtain ⟨dx, vs, h1, h2⟩ := q
    obtain ⟨dx', ws, _, h4⟩ := q0
    exact ⟨dx, vs, h1, Reps.low xs vs (Reps.islow xs ws h4) h2⟩
  | dic kvs =>
    obtain ⟨vs, h1, h2⟩ := q
    obtain ⟨ws, _, h4⟩ := q0
    exact ⟨vs, h1, Reps.low _ vs (Reps.islow _ ws h4) h2⟩
/-- the cells that were there are kept as they are now -/
theorem Emb.cutL {t : List Addr} (E : Emb K cA cF H (r ++ t) h') (low : lowH r.length (h'.take r.length) = true) : Emb K cA cF H r (h'.take r.length) := by
  have hl : r.length ≤ h'.length := by rw [← E.len, List.length_append]; omega
  refine ⟨by rw [List.length_take, Nat.min_eq_left hl], (List.nodup_append.mp E.nd).1, fun i o a e1 e2 => ?_⟩
  have hi : i < r.length := (List.getElem?_eq_some_iff.mp e2).1
  have ho : lowO r.length o = true := List.all_eq_true.mp low o (List.mem_of_getElem? e1)
  have e3 : h'[i]? = some o := by
    rw [List.getElem?_take, if_pos hi] at e1
    exact e1
  have q := E.at_ i o a e3 (by rw [List.getElem?_append_left hi]; exact e2)
  cases o with
  | lst xs =>
    obtain ⟨vs, h1, h2⟩ := q
    exact ⟨vs, h1, Reps.low xs vs ho h2⟩
  | ins c xs =>
    obtain ⟨dx, vs, h1, h2⟩ := q
    exact ⟨dx, vs, h1, Reps.low xs vs ho h2⟩
  | dic kvs =>
    obtain ⟨vs, h1, h2⟩ := q
    exact ⟨vs, h1, Reps.low _ vs ho h2⟩
theorem Emb.pick {t : List Addr} {H0 : Hp} {i : Nat} {a : Addr} {xs : List MV} (E : Emb K cA cF H (r ++ t) h') (E0 : Emb K cA cF H0 r h) (e : h'.take h.length = h) (hi : r.length ≤ i) (hr : (r ++ t)[i]? = some a) (hx : h'[i]? = some (.lst xs)) (hl : lows r.length xs = true) :
    Emb K cA cF H (r ++ [a]) (h ++ [.lst xs]) := by
  have hat : a ∈ t := by
    rw [List.getElem?_append_right hi] at hr
    exact List.mem_of_getElem? hr
  have sub : ∀ b ∈ [a], b ∈ t := fun b hb => by
    have : b = a := by simpa using hb
    rw [this]; exact hat
  have nd := E.nd
  rw [List.nodup_append] at nd
  refine ⟨by simp [E0.len], ?_, fun j o b e1 e2 => ?_⟩
  · rw [List.nodup_append]
    refine ⟨E0.nd, by simp, fun x hx y hy => ?_⟩
    have : y = a := by simpa using hy
    rw [this]
    exact nd.2.2 x hx a hat
  · by_cases hj : j < h.length
    · rw [List.getElem?_append_left hj] at e1
      rw [List.getElem?_append_left (by rw [E0.len]; exact hj)] at e2
      have e3 : h'[j]? = some o := by
        have z : (h'.take h.length)[j]? = some o := by rw [e]; exact e1
        rw [List.getElem?_take, if_pos hj] at z
        exact z
      have q := E.at_ j o b e3 (by rw [List.getElem?_append_left (by rw [E0.len]; exact hj)]; exact e2)
      have q0 := E0.at_ j o b e1 e2
      cases o with
      | lst ys =>
        obtain ⟨vs, h1, h2⟩ := q
        obtain ⟨ws, _, h4⟩ := q0
        exact ⟨vs, h1, Reps.low2 sub ys vs (Reps.islow ys ws h4) h2⟩
      | ins c ys =>
        obtain ⟨dx, vs, h1, h2⟩ := q
        obtain ⟨dx', ws, _, h4⟩ := q0
        exact ⟨dx, vs, h1, Reps.low2 sub ys vs (Reps.islow ys ws h4) h2⟩
      | dic kvs =>
        obtain ⟨vs, h1, h2⟩ := q
        obtain ⟨ws, _, h4⟩ := q0
        exact ⟨vs, h1, Reps.low2 sub _ vs (Reps.islow _ ws h4) h2⟩
    · have hj2 : j = h.length := by
        have : j < (h ++ [MO.lst xs]).length := (List.getElem?_eq_some_iff.mp e1).1
        simp at this; omega
      subst hj2
      rw [List.getElem?_append_right (Nat.le_refl _), Nat.sub_self] at e1
      rw [← E0.len, List.getElem?_append_right (Nat.le_refl _), Nat.sub_self] at e2
      simp at e1 e2
      subst e1 e2
      obtain ⟨vs, h1, h2⟩ := E.at_ i (.lst xs) a hx hr
      exact ⟨vs, h1, Reps.low2 sub xs vs hl h2⟩
mutual
theorem frz_ok {t : List Addr} (E : Emb K cA cF H (r ++ t) h') : ∀ (x y : MV) (v : V), frz h' r.length x = some y → Rep K cA cF H (r ++ t) x v → Rep K cA cF H r y v
  | .non, y, v, e, h => by simp only [frz, Option.some.injEq] at e; subst e; simpa only [Rep] using h
  | .bl b, y, v, e, h => by simp only [frz, Option.some.injEq] at e; subst e; simpa only [Rep] using h
  | .int i, y, v, e, h => by simp only [frz, Option.some.injEq] at e; subst e; simpa only [Rep] using h
  | .str s, y, v, e, h => by simp only [frz, Option.some.injEq] at e; subst e; simpa only [Rep] using h
  | .tup xs, y, v, e, h => by
    simp only [frz] at e
    obtain ⟨ys, e1, e2⟩ := Option.map_eq_some_iff.mp e
    subst e2
    simp only [Rep] at h ⊢
    obtain ⟨a, vs, e1', ⟨n, h1⟩, h2⟩ := h
    exact ⟨a, vs, e1', ⟨fun z => n (List.mem_append_left _ z), h1⟩, frzs_ok E xs ys vs e1 h2⟩
  | .lst xs, y, v, e, h => by
    simp only [frz] at e
    obtain ⟨ys, e1, e2⟩ := Option.map_eq_some_iff.mp e
    subst e2
    simp only [Rep] at h ⊢
    obtain ⟨a, vs, e1', h1, h2⟩ := h
    refine ⟨a, vs, e1', ?_, frzs_ok E xs ys vs e1 h2⟩
    rcases h1 with ⟨n, h1⟩ | h1
    · exact .inl ⟨fun z => n (List.mem_append_left _ z), h1⟩
    · exact .inr h1
  | .obj c xs, y, v, e, h => by
    simp only [frz] at e
    obtain ⟨ys, e1, e2⟩ := Option.map_eq_some_iff.mp e
    subst e2
    simp only [Rep] at h ⊢
    obtain ⟨a, dx, vs, e1', ⟨n, h1⟩, h2⟩ := h
    exact ⟨a, dx, vs, e1', ⟨fun z => n (List.mem_append_left _ z), h1⟩, frzs_ok E xs ys vs e1 h2⟩
  | .exc c xs, y, v, e, h => by
    simp only [frz] at e
    obtain ⟨ys, e1, e2⟩ := Option.map_eq_some_iff.mp e
    subst e2
    simp only [Rep] at h ⊢
    obtain ⟨a, e1', ⟨n, h1⟩, h2⟩ := h
    subst h2
    simp only [frzs, Option.some.injEq] at e1
    exact ⟨a, e1', ⟨fun z => n (List.mem_append_left _ z), h1⟩, e1.symm⟩
  | .ref i, y, v, e, h => by
    simp only [frz] at e
    simp only [Rep] at h
    obtain ⟨a, e1, h1⟩ := h
    by_cases hi : i < r.length
    · rw [if_pos hi] at e
      simp only [Option.some.injEq] at e
      subst e
      rw [List.getElem?_append_left hi] at h1
      simp only [Rep]
      exact ⟨a, e1, h1⟩
    · rw [if_neg hi] at e
      have ha : a ∉ r := fun z => by
        obtain ⟨j, hj, e2⟩ := List.mem_iff_getElem.mp z
        have e4 : (r ++ t)[j]? = some a := by rw [List.getElem?_append_left hj, ← e2]; simp [hj]
        have := nodup_inj E.nd h1 e4
        omega
      cases q : h'[i]? with
      | none => rw [q] at e; cases e
      | some o =>
        rw [q] at e
        have qo := E.at_ i o a q h1
        cases o with
        | lst xs =>
          simp only at e
          split at e
          · rename_i hl
            simp only [Option.some.injEq] at e
            subst e
            obtain ⟨vs, h2, h3⟩ := qo
            simp only [Rep]
            exact ⟨a, vs, e1, .inl ⟨ha, .inl h2⟩, Reps.low xs vs hl h3⟩
          · cases e
        | ins c xs =>
          simp only at e
          split at e
          · rename_i hl
            simp only [Option.some.injEq] at e
            subst e
            obtain ⟨dx, vs, h2, h3⟩ := qo
            simp only [Rep]
            exact ⟨a, dx, vs, e1, ⟨ha, h2⟩, Reps.low xs vs hl h3⟩
          · cases e
        | dic kvs => cases e
theorem frzs_ok {t : List Addr} (E : Emb K cA cF H (r ++ t) h') : ∀ (xs ys : List MV) (vs : List V), frzs h' r.length xs = some ys → Reps K cA cF H (r ++ t) xs vs → Reps K cA cF H r ys vs
  | [], ys, vs, e, h => by simp only [frzs, Option.some.injEq] at e; subst e; simpa only [Reps] using h
  | x :: xs, ys, vs, e, h => by
    simp only [frzs] at e
    obtain ⟨y, e1, e2⟩ := Option.bind_eq_some_iff.mp e
    obtain ⟨zs, e3, e4⟩ := Option.map_eq_some_iff.mp e2
    subst e4
    simp only [Reps] at h ⊢
    obtain ⟨v, ws, e5, h1, h2⟩ := h
    exact ⟨v, ws, e5, frz_ok E x y v e1 h1, frzs_ok E xs zs ws e3 h2⟩
end
end
end Rm

/-! Rm, part C: the text against the small language; expressions. -/
namespace Rm
open PySem L2 PySem.Spec PyProof.Rows

structure Ck where
  N : List Str
  sc : Scope
  fnm : List (Option Str)
  cnm : List Str
  free : List Str
  gI : List (Str × Int)
  gS : List (Str × Str)

/-- the def's name at an index; from big on: the call's result is taken as a cell -/
def Ck.fa (c : Ck) (f : Nat) : Option (Option Str) := match c.fnm[f]? with
  | some o => some o
  | none => if big ≤ f then c.fnm[f - big]? else none
def visB (sc : Scope) (x : Str) : Bool := match sc.names.lookup x with
  | some .local => true
  | some .cell => true
  | some .free => true
  | _ => false
def glB (sc : Scope) (x : Str) : Bool := decide (sc.names.lookup x = some .globalImplicit) && !(x == ("__debug__" : Str))
def bopB : Bop → Operator → Bool
  | .add, .Add => true | .sub, .Sub => true | .mul, .Mult => true | .fdv, .FloorDiv => true | .mod, .Mod => true | .pow, .Pow => true
  | .shl, .LShift => true | .shr, .RShift => true | .and, .BitAnd => true | .or, .BitOr => true | .xor, .BitXor => true
  | _, _ => false
def copB : Cop → CmpOp → Bool
  | .eq, .Eq => true | .ne, .NotEq => true | .lt, .Lt => true | .le, .LtE => true | .gt, .Gt => true | .ge, .GtE => true
  | .is, .Is => true | .isn, .IsNot => true | .inn, .In => true | .nin, .NotIn => true
  | _, _ => false
def biN : Bi → String
  | .len => "len" | .dvm => "divmod" | .abs => "abs" | .max2 => "max" | .min2 => "min" | .int1 => "int" | .str1 => "str" | .list1 => "list" | .sum1 => "sum" | .all1 => "all" | .max1 => "max"
def meN : Me → String
  | .bitlen => "bit_length" | .strip1 => "strip" | .rstrip1 => "rstrip" | .starts => "startswith" | .part => "partition" | .zfill => "zfill" | .split1 => "split" | .join1 => "join" | .upper => "upper"
def meA : Me → Nat
  | .bitlen => 0 | .upper => 0 | _ => 1
def esL : Es → Nat
  | .nil => 0
  | .cons _ es => esL es + 1
def isBO : Expr → Bool
  | .BoolOp _ _ _ => true
  | _ => false
def plT : Expr → Bool
  | .Name _ _ => true
  | .Constant _ _ _ => true
  | .Call _ _ _ _ => true
  | .Subscript _ _ _ => true
  | .Attribute _ _ _ => true
  | _ => false
def tsB : Expr → Bool
  | .UnaryOp .Not _ _ => true
  | .BoolOp _ _ _ => true
  | .Compare _ _ _ _ => true
  | e => plT e
def plIx : Expr → Bool
  | .Slice _ _ _ _ => false
  | _ => true
def noStar : Expr → Bool
  | .Starred _ _ => false
  | _ => true
def plB : Expr → Bool
  | .Call _ (_ :: _) _ _ => true
  | .Call _ _ _ _ => false
  | _ => true

/-- a row of classes' names -/
def ckCs (c : Ck) : List Nat → List Expr → Bool
  | [], xs => match xs with
    | [] => true
    | _ => false
  | k :: ks, xs => match xs with
    | .Name y _ :: xs => decide (c.cnm[k]? = some y) && glB c.sc y && ckCs c ks xs
    | _ => false
def locB (sc : Scope) (x : Str) : Bool := match sc.names.lookup x with
  | some .local => true
  | some .cell => true
  | _ => false
def ckNs (c : Ck) : List Nat → List Expr → Bool
  | [], xs => match xs with
    | [] => true
    | _ => false
  | i :: is, xs => match xs with
    | .Name x _ :: xs => decide (c.N[i]? = some x) && locB c.sc x && ckNs c is xs
    | _ => false
def ckG (c : Ck) : Tg → Expr → Bool
  | .one i, x => match x with
    | .Name x _ => decide (c.N[i]? = some x) && locB c.sc x
    | _ => false
  | .tup is, x => match x with
    | .Tuple xs _ _ => ckNs c is xs
    | _ => false
def noSet : Expr → Bool
  | .Set _ _ _ => false
  | _ => true
/-- the targets of a comprehension: names of its block -/
def ckNw (c : Ck) (vs : List Nat) : List Nat → List Expr → Bool
  | [], xs => match xs with
    | [] => true
    | _ => false
  | i :: is, xs => match xs with
    | .Name x _ :: xs => decide (c.N[i]? = some x) && decide (c.sc.names.lookup x = some .local) && decide (i ∈ vs) && ckNw c vs is xs
    | _ => false
def ckGw (c : Ck) (vs : List Nat) : Tg → Expr → Bool
  | .one i, x => match x with
    | .Name x _ => decide (c.N[i]? = some x) && decide (c.sc.names.lookup x = some .local) && decide (i ∈ vs)
    | _ => false
  | .tup is, x => match x with
    | .Tuple xs _ _ => ckNw c vs is xs
    | _ => false
def ownOf (N : List Str) (vs : List Nat) : List (Str × Nat) := vs.map fun i => (N.getD i (Str.ofString ""), i)
theorem ownOf_snd (N : List Str) (vs : List Nat) : (ownOf N vs).map (·.2) = vs := by
  unfold ownOf
  rw [List.map_map]
  induction vs with
  | nil => rfl
  | cons v vs ih => simp only [List.map_cons, Function.comp]; congr 1
def Ck.blk (c : Ck) (scope : Scope) : Ck := { c with sc := relS scope c.sc }
def inB : Bool → CmpOp → Bool
  | false, .In => true | true, .NotIn => true
  | _, _ => false
/-- a tuple of targets -/
def isTup : Expr → Bool
  | .Tuple _ _ _ => true
  | _ => false
mutual
def ckE (c : Ck) : E → Expr → Bool
  | .var i, x => match x with
    | .Name x _ => decide (c.N[i]? = some x) && visB c.sc x && !(x == ("__debug__" : Str)) && !(x == ("__classdict__" : Str))
    | _ => false
  | .cI i, x => match x with
    | .Constant (.int j) _ _ => decide (i = j)
    | _ => false
  | .cS s, x => match x with
    | .Constant (.str t) _ _ => decide (s = t)
    | _ => false
  | .cB b, x => match x with
    | .Constant (.bool d) _ _ => b == d
    | _ => false
  | .cN, x => match x with
    | .Constant .none _ _ => true
    | _ => false
  | .gI x i, y => match y with
    | .Name y _ => decide (x = y) && glB c.sc y && decide ((x, i) ∈ c.gI)
    | _ => false
  | .gS x i, y => match y with
    | .Name y _ => decide (x = y) && glB c.sc y && decide ((x, i) ∈ c.gS)
    | _ => false
  | .neg a, x => match x with
    | .UnaryOp .USub e _ => ckE c a e
    | _ => false
  | .not a, x => match x with
    | .UnaryOp .Not e _ => tsB e && ckE c a e
    | _ => false
  | .bin o a b, x => match x with
    | .BinOp e op f _ => bopB o op && ckE c a e && ckE c b f
    | _ => false
  | .cmp o a b, x => match x with
    | .Compare e [op] [f] _ => copB o op && !behindInMarks op f && ckE c a e && ckE c b f
    | _ => false
  | .chn o p a b d, x => match x with
    | .Compare e [op, oq] [f, g] _ => copB o op && copB p oq && !lastMarks [op, oq] [f, g] && ckE c a e && ckE c b f && ckE c d g
    | _ => false
  | .and a b, x => match x with
    | .BoolOp .And (e :: f :: r) pos => tsB e && ckE c a e && (match r with
      | [] => tsB f && ckE c b f
      | _ :: _ => ckE c b (.BoolOp .And (f :: r) pos))
    | _ => false
  | .or a b, x => match x with
    | .BoolOp .Or (e :: f :: r) pos => tsB e && ckE c a e && (match r with
      | [] => tsB f && ckE c b f
      | _ :: _ => ckE c b (.BoolOp .Or (f :: r) pos))
    | _ => false
  | .ife t a b, x => match x with
    | .IfExp e f g _ => tsB e && ckE c t e && ckE c a f && ckE c b g
    | _ => false
  | .tup es, x => match x with
    | .Tuple xs _ _ => ckEs c es xs
    | _ => false
  | .lst es, x => match x with
    | .List xs _ => ckEs c es xs
    | _ => false
  | .cel es, x => match x with
    | .List xs _ => ckEs c es xs
    | _ => false
  | .idx a i, x => match x with
    | .Subscript e f _ => plIx f && ckE c a e && ckE c i f
    | _ => false
  | .slc a l u, x => match x with
    | .Subscript e (.Slice f g none _) _ => ckE c a e && (match f with
      | none => isN l
      | some f => ckE c l f && !isN l) && (match g with
      | none => isN u
      | some g => ckE c u g && !isN u)
    | _ => false
  | .call f es, x => match x with
    | .Call (.Name x _) xs [] _ => decide (c.fa f = some (some x)) && glB c.sc x && ckEs c es xs
    | _ => false
  | .bi b es, x => match x with
    | .Call (.Name x _) (e :: xs) [] _ => decide (x = Str.ofString (biN b)) && glB c.sc x && decide (x ∈ c.free) && ckEs c es (e :: xs)
    | _ => false
  | .me m o es, x => match x with
    | .Call (.Attribute e a ap) xs [] pos => decide (esL es = meA m) && decide (a = Str.ofString (meN m)) && plB e && (ap.endLine == pos.line) && ckE c o e && ckEs c es xs
    | _ => false
  | .isT a n, x => match x with
    | .Call (.Name x _) [e, .Name y _] [] _ => noStar e && decide (x = Str.ofString "isinstance") && glB c.sc x && decide (x ∈ c.free) && glB c.sc y && decide (y ∈ c.free) && decide (bootBuiltins y = some (.type n)) && decide (y ≠ "__name__") && ckE c a e
    | _ => false
  | .isC a k, x => match x with
    | .Call (.Name x _) [e, .Name y _] [] _ => noStar e && decide (x = Str.ofString "isinstance") && glB c.sc x && decide (x ∈ c.free) && decide (c.cnm[k]? = some y) && glB c.sc y && ckE c a e
    | _ => false
  | .isCs a ks, x => match x with
    | .Call (.Name x _) [e, .Tuple ys _ _] [] _ => noStar e && decide (x = Str.ofString "isinstance") && glB c.sc x && decide (x ∈ c.free) && ckCs c ks ys && decide (ks.length ≤ 100) && !ks.isEmpty && ckE c a e
    | _ => false
  | .atr o f, x => match x with
    | .Attribute e g _ => decide (f = g) && plB e && ckE c o e
    | _ => false
  | .mcl o m es, x => match x with
    | .Call (.Attribute e g ap) xs [] pos => decide (m = g) && plB e && (ap.endLine == pos.line) && decide (xs.length < 29) && ckE c o e && ckEs c es xs
    | _ => false
  | .new k es, x => match x with
    | .Call (.Name x _) xs [] _ => decide (c.cnm[k]? = some x) && glB c.sc x && ckEs c es xs
    | _ => false
  | .cll a, x => match x with
    | .Call (.Name x _) [e] [] _ => noStar e && decide (x = Str.ofString "list") && glB c.sc x && decide (x ∈ c.free) && ckE c a e
    | _ => false
  | .lcm cl tg vs it a, x => match x with
    | .ListComp elt [⟨t, iter, [], z⟩] scope _ => decide (z = 0) && blkC c.N c.sc scope (ownOf c.N vs) && noSet iter && ckI c t it iter && ckGw (c.blk scope) vs tg t && ckE (c.blk scope) a elt
    | _ => false
  | .lcg tg vs it a, x => match x with
    | .ListComp elt [⟨t, iter, [], z⟩] scope _ => decide (z = 0) && blkC c.N c.sc scope (ownOf c.N vs) && noSet iter && ckI c t it iter && ckGw (c.blk scope) vs tg t && ckE (c.blk scope) a elt
    | _ => false
  | .lcf tg vs it b a, x => match x with
    | .ListComp elt [⟨t, iter, [cd], z⟩] scope _ => decide (z = 0) && blkC c.N c.sc scope (ownOf c.N vs) && noSet iter && ckI c t it iter && ckGw (c.blk scope) vs tg t && ckE (c.blk scope) a elt && ckE (c.blk scope) b cd && tsB cd
    | _ => false
  | .mnd a d, x => match x with
    | .Call (.Name x _) [e] [⟨some k, f, _⟩] _ => noStar e && decide (x = Str.ofString "min") && decide (k = Str.ofString "default") && glB c.sc x && decide (x ∈ c.free) && ckE c a e && ckE c d f
    | _ => false
  | .dnw, x => match x with
    | .Dict [] [] _ => true
    | _ => false
  | .dgt d k, x => match x with
    | .Subscript e f _ => plIx f && ckE c d e && ckE c k f
    | _ => false
  | .din ng k d, x => match x with
    | .Compare e [op] [f] _ => inB ng op && !behindInMarks op f && ckE c k e && ckE c d f
    | _ => false
  | .dks cl d, x => match x with
    | .Call (.Name x _) [e] [] _ => noStar e && decide (x = Str.ofString "list") && glB c.sc x && decide (x ∈ c.free) && ckE c d e
    | _ => false
  | .scl a l u, x => match x with
    | .Subscript e (.Slice f g none _) _ => ckE c a e && (match f with
      | none => isN l
      | some f => ckE c l f && !isN l) && (match g with
      | none => isN u
      | some g => ckE c u g && !isN u)
    | _ => false
  | .lrv cl a, x => match x with
    | .Call (.Name x _) [.Call (.Name y _) [e] [] _] [] _ => noStar e && decide (x = Str.ofString "list") && glB c.sc x && decide (x ∈ c.free) && decide (y = Str.ofString "reversed") && glB c.sc y && decide (y ∈ c.free) && ckE c a e
    | _ => false
  | .dit d, x => match x with
    | .Call (.Name x _) [.Call (.Attribute e a ap) [] [] cpos] [] _ => decide (x = Str.ofString "list") && glB c.sc x && decide (x ∈ c.free) && decide (a = Str.ofString "items") && plB e && (ap.endLine == cpos.line) && ckE c d e
    | _ => false
  | .mclc o m es, x => match x with
    | .Call (.Attribute e g ap) xs [] pos => decide (m = g) && plB e && (ap.endLine == pos.line) && decide (xs.length < 29) && ckE c o e && ckEs c es xs
    | _ => false
  | .lix o y, x => match x with
    | .Call (.Attribute e a ap) [f] [] pos => decide (a = Str.ofString "index") && noStar f && plB e && (ap.endLine == pos.line) && ckE c o e && ckE c y f
    | _ => false
  | .spc o y, x => match x with
    | .Call (.Attribute e a ap) [f] [] pos => decide (a = Str.ofString "split") && noStar f && plB e && (ap.endLine == pos.line) && ckE c o e && ckE c y f
    | _ => false
  | .sxi o y, x => match x with
    | .Call (.Attribute e a ap) [f] [] pos => decide (a = Str.ofString "index") && noStar f && plB e && (ap.endLine == pos.line) && ckE c o e && ckE c y f
    | _ => false
  | .dln d, x => match x with
    | .Call (.Name x _) [e] [] _ => noStar e && decide (x = Str.ofString "len") && glB c.sc x && decide (x ∈ c.free) && ckE c d e
    | _ => false
def ckEs (c : Ck) : Es → List Expr → Bool
  | .nil, xs => match xs with
    | [] => true
    | _ => false
  | .cons a es, xs => match xs with
    | e :: xs => noStar e && ckE c a e && ckEs c es xs
    | _ => false
def ckI (c : Ck) (t : Expr) : I → Expr → Bool
  | .seq e, x => noSet x && ckE c e x
  | .rng1 a, x => match x with
    | .Call (.Name y _) [e] [] _ => noStar e && decide (y = Str.ofString "range") && glB c.sc y && decide (y ∈ c.free) && ckE c a e
    | _ => false
  | .rng2 a b, x => match x with
    | .Call (.Name y _) [e, f] [] _ => noStar e && noStar f && decide (y = Str.ofString "range") && glB c.sc y && decide (y ∈ c.free) && ckE c a e && ckE c b f
    | _ => false
  | .rng3 a b d, x => match x with
    | .Call (.Name y _) [e, f, g] [] _ => noStar e && noStar f && noStar g && decide (y = Str.ofString "range") && glB c.sc y && decide (y ∈ c.free) && ckE c a e && ckE c b f && ckE c d g
    | _ => false
  | .zip a b, x => match x with
    | .Call (.Name y _) [e, f] [] _ => isTup t && noStar e && noStar f && decide (y = Str.ofString "zip") && glB c.sc y && decide (y ∈ c.free) && ckE c a e && ckE c b f
    | _ => false
  | .enm a, x => match x with
    | .Call (.Name y _) [e] [] _ => isTup t && noStar e && decide (y = Str.ofString "enumerate") && glB c.sc y && decide (y ∈ c.free) && ckE c a e
    | _ => false
end

/-- a value that is stored as it is -/
def plV : Expr → Bool
  | .ListComp _ _ _ _ => false
  | .SetComp _ _ _ _ => false
  | .DictComp _ _ _ _ _ => false
  | .Tuple _ _ _ => false
  | .List _ _ => false
  | _ => true
def plC : Expr → Bool
  | .ListComp _ _ _ _ => false
  | .SetComp _ _ _ _ => false
  | .DictComp _ _ _ _ _ => false
  | _ => true
def augB : Bop → Operator → Bool
  | .add, .Add => true | .sub, .Sub => true | .mul, .Mult => true | .shr, .RShift => true | .or, .BitOr => true
  | _, _ => false
/-- a comprehension stored into a name: it may be swapped with it -/
def swB (sc : Scope) (y : Str) (l l' : Nat) (scope : Scope) : Bool := decide (sc.names.lookup y = some .local) && ((l == l') && !(scope.names.any fun (n, k) => n == y && (k == .local || k == .cell)))
def isFn : ScopeKind → Bool
  | .function => true
  | _ => false
def lcB (c : Ck) (t e : Expr) : Bool := match t, e with
  | .Name _ _, .ListComp _ _ _ _ => isFn c.sc.kind
  | _, _ => false
mutual
def ckS (c : Ck) : S → Stmt → Bool
  | .asg (.one i) a, x => match x with
    | .Assign [t] e _ => ckG c (.one i) t && (plC e || lcB c t e) && ckE c a e
    | _ => false
  | .asg (.tup is) a, x => match x with
    | .Assign [t] e _ => ckG c (.tup is) t && plV e && ckE c a e
    | _ => false
  | .aug i o a, x => match x with
    | .AugAssign (.Name y _) op e _ => decide (c.N[i]? = some y) && locB c.sc y && augB o op && ckE c a e
    | _ => false
  | .exp a, x => match x with
    | .Expr e _ => plC e && ckE c a e
    | _ => false
  | .app o a, x => match x with
    | .Expr (.Call (.Attribute e m ap) [f] [] pos) _ => decide (m = Str.ofString "append") && noStar f && plB e && (ap.endLine == pos.line) && ckE c o e && ckE c a f
    | _ => false
  | .rvs o, x => match x with
    | .Expr (.Call (.Attribute e m ap) [] [] pos) _ => decide (m = Str.ofString "reverse") && plB e && (ap.endLine == pos.line) && ckE c o e
    | _ => false
  | .ins o i a, x => match x with
    | .Expr (.Call (.Attribute e m ap) [g, f] [] pos) _ => decide (m = Str.ofString "insert") && noStar g && noStar f && plB e && (ap.endLine == pos.line) && ckE c o e && ckE c i g && ckE c a f
    | _ => false
  | .sto o i a, x => match x with
    | .Assign [.Subscript e f _] g _ => plIx f && plV g && ckE c o e && ckE c i f && ckE c a g
    | _ => false
  | .sta o f a, x => match x with
    | .Assign [.Attribute e g _] v _ => decide (f = g) && plC v && ckE c o e && ckE c a v
    | _ => false
  | .iff t a b, x => match x with
    | .If e xs ys _ => tsB e && ckE c t e && ckSs c a xs && ckSs c b ys
    | _ => false
  | .whl t b, x => match x with
    | .While e xs [] _ => tsB e && ckE c t e && ckSs c b xs
    | _ => false
  | .fr tg it b, x => match x with
    | .For t e xs [] _ => ckG c tg t && noSet e && ckI c t it e && ckSs c b xs
    | _ => false
  | .ret a, x => match x with
    | .Return (some e) _ => ckE c a e
    | _ => false
  | .retN, x => match x with
    | .Return none _ => true
    | _ => false
  | .rais d, x => match x with
    | .Raise (some (.Call (.Name y _) [.Constant (.str _) _ _] [] _)) none _ => decide (c.cnm[d]? = some y) && glB c.sc y
    | _ => false
  | .tri b d i y, x => match x with
    | .Try xs [.ExceptHandler (some (.Name z _)) (some n) [.Assign [.Name u _] (.Name v _) _] _] [] [] _ =>
      decide (c.cnm[d]? = some z) && glB c.sc z && decide (c.N[i]? = some n) && decide (c.sc.names.lookup n = some .local) && decide (v = n) && visB c.sc n && !(n == ("__debug__" : Str)) && !(n == ("__classdict__" : Str)) && decide (c.N[y]? = some u) && locB c.sc u && decide (i ≠ y) && ckSs c b xs
    | _ => false
  | .cont, x => match x with
    | .Continue _ => true
    | _ => false
  | .dpt o i a, x => match x with
    | .Assign [.Subscript e f _] g _ => plC g && ckE c o e && ckE c i f && ckE c a g
    | _ => false
  | .clr o, x => match x with
    | .Expr (.Call (.Attribute e m ap) [] [] pos) _ => decide (m = Str.ofString "clear") && plB e && (ap.endLine == pos.line) && ckE c o e
    | _ => false
  | .trx b, x => match x with
    | .Try xs (_ :: _) [] [] _ => ckSs c b xs
    | _ => false
  | .pas, x => match x with
    | .Pass _ => true
    | _ => false
def ckSs (c : Ck) : Ss → List Stmt → Bool
  | .nil, xs => match xs with
    | [] => true
    | _ => false
  | .cons s ss, xs => match xs with
    | x :: xs => ckS c s x && ckSs c ss xs
    | _ => false
end

/-! ### readings -/
section
variable (K : PySem.W.Frag) (cA : Nat → Addr) (cF : Nat → List Str)
def RepX (x : MX) (cls : Value) (d : Option Addr) : Prop := cls = .ref (cA x.1) ∧ x.2 = [] ∧ d = none
def wpG {α β : Type} (rel : Hp → List Addr → α → β → Prop) (r : List Addr) (H : Hp) (res : R α) (Q : β → Hp → Prop) (X : XK) : Prop := match res with
  | .ok x h' => ∀ r' H' V, Ext r H r' H' → Emb K cA cF H' r' h' → rel H' r' x V → Q V H'
  | .exc x h' => ∀ r' H' cls d, Ext r H r' H' → Emb K cA cF H' r' h' → RepX cA x cls d → X cls d H'
  | .bad => False
abbrev wpR := wpG K cA cF (Rep K cA cF)
abbrev wpRs := wpG K cA cF (Reps K cA cF)
structure REn (H : Hp) (r : List Addr) (e : EN) (σ : L2.St) : Prop where
  len : e.length = σ.length
  at_ : ∀ (i : Nat) v, e[i]? = some (some v) → ∃ V, σ[i]? = some (some V) ∧ Rep K cA cF H r v V
def tE (W : WX) (f : EN → HP → R MV) : TE := fun σ H Q => ∃ r e h, Emb K cA cF H r h ∧ REn K cA cF H r e σ ∧ wpR K cA cF r H (f e h) Q fun cls d H' => W cls d σ H'
def tAs (W : WX) (f : EN → HP → R (List MV)) : TA := fun σ H Q => ∃ r e h, Emb K cA cF H r h ∧ REn K cA cF H r e σ ∧ wpRs K cA cF r H (f e h) Q fun cls d H' => W cls d σ H'
def RepB (_ : Hp) (_ : List Addr) (x : MV) (b : Bool) : Prop := x = .bl b
def tTt (W : WX) (f : EN → HP → R MV) : TT := fun σ H Q => ∃ r e h, Emb K cA cF H r h ∧ REn K cA cF H r e σ ∧ (match f e h with
  | .ok (.bl b) h' => ∀ r' H', Ext r H r' H' → Emb K cA cF H' r' h' → Q b H'
  | .exc x h' => ∀ r' H' cls d, Ext r H r' H' → Emb K cA cF H' r' h' → RepX cA x cls d → W cls d σ H'
  | _ => False)
/-- a def's promise: what the evaluator's call says -/
def spR (C : Nat → List MV → HP → R MV) (f : Nat) : Sp := fun vs H Q X => ∃ r args h, Emb K cA cF H r h ∧ Reps K cA cF H r args vs ∧ wpR K cA cF r H (C f args h) Q X
end
section
variable {K : PySem.W.Frag} {cA : Nat → Addr} {cF : Nat → List Str} {r r1 : List Addr} {H H1 : Hp} {h : HP} {e : EN} {σ : L2.St} {W : WX}
theorem wpG.mono {α β : Type} {rel : Hp → List Addr → α → β → Prop} {res : R α} {Q : β → Hp → Prop} {X : XK} (x : Ext r H r1 H1) (w : wpG K cA cF rel r H res Q X) : wpG K cA cF rel r1 H1 res Q X := by
  cases res with
  | ok a h' => exact fun r' H' V e1 e2 e3 => w r' H' V (x.trans e1) e2 e3
  | exc a h' => exact fun r' H' cls d e1 e2 e3 => w r' H' cls d (x.trans e1) e2 e3
  | bad => exact w
theorem REn.mono (x : Ext r H r1 H1) (n : REn K cA cF H r e σ) : REn K cA cF H1 r1 e σ := ⟨n.len, fun i v q => let ⟨V, h1, h2⟩ := n.at_ i v q; ⟨V, h1, Rep.mono x v V h2⟩⟩
/-- the first part of an evaluation -/
theorem step {α β : Type} {rel : Hp → List Addr → α → β → Prop} {a : R MV} {k : MV → HP → R α} {Q : β → Hp → Prop} {X : XK} {Q' : VK}
    (w : wpG K cA cF rel r H (a.bind k) Q X)
    (cont : ∀ r1 H1 h1 x V, Ext r H r1 H1 → Emb K cA cF H1 r1 h1 → Rep K cA cF H1 r1 x V → wpG K cA cF rel r1 H1 (k x h1) Q X → Q' V H1) : wpR K cA cF r H a Q' X := by
  cases a with
  | ok x h1 => exact fun r1 H1 V e1 e2 e3 => cont r1 H1 h1 x V e1 e2 e3 (wpG.mono e1 w)
  | exc x h1 => exact w
  | bad => exact w
theorem stepE {α β : Type} {rel : Hp → List Addr → α → β → Prop} {f : EN → HP → R MV} {k : MV → HP → R α} {Q : β → Hp → Prop} {Q' : VK}
    (E : Emb K cA cF H r h) (n : REn K cA cF H r e σ) (w : wpG K cA cF rel r H ((f e h).bind k) Q fun cls d H' => W cls d σ H')
    (cont : ∀ r1 H1 h1 x V, Ext r H r1 H1 → Emb K cA cF H1 r1 h1 → REn K cA cF H1 r1 e σ → Rep K cA cF H1 r1 x V → wpG K cA cF rel r1 H1 (k x h1) Q (fun cls d H' => W cls d σ H') → Q' V H1) : tE K cA cF W f σ H Q' :=
  ⟨r, e, h, E, n, step w fun r1 H1 h1 x V e1 e2 e3 w1 => cont r1 H1 h1 x V e1 e2 (n.mono e1) e3 w1⟩
theorem stepA {α β : Type} {rel : Hp → List Addr → α → β → Prop} {f : EN → HP → R (List MV)} {k : List MV → HP → R α} {Q : β → Hp → Prop} {Q' : List V → Hp → Prop}
    (E : Emb K cA cF H r h) (n : REn K cA cF H r e σ) (w : wpG K cA cF rel r H ((f e h).bind k) Q fun cls d H' => W cls d σ H')
    (cont : ∀ r1 H1 h1 x V, Ext r H r1 H1 → Emb K cA cF H1 r1 h1 → REn K cA cF H1 r1 e σ → Reps K cA cF H1 r1 x V → wpG K cA cF rel r1 H1 (k x h1) Q (fun cls d H' => W cls d σ H') → Q' V H1) : tAs K cA cF W f σ H Q' := by
  refine ⟨r, e, h, E, n, ?_⟩
  cases q : f e h with
  | ok x h1 =>
    rw [q] at w
    exact fun r1 H1 V e1 e2 e3 => cont r1 H1 h1 x V e1 e2 (n.mono e1) e3 (wpG.mono e1 w)
  | exc x h1 => rw [q] at w; exact w
  | bad => rw [q] at w; exact w
theorem PEimp {X : Cx} {x : Expr} {t u : TE} (p : PE X x t) (i : ∀ σ H Q, u σ H Q → t σ H Q) : PE X x u := ⟨fun pins s σ H Q I q => p.run pins s σ H Q I (i σ H Q q)⟩
theorem PTimp {X : Cx} {x : Expr} {t u : TT} (p : PT X x t) (i : ∀ σ H Q, u σ H Q → t σ H Q) : PT X x u := ⟨fun pins s σ H Q I q => p.run pins s σ H Q I (i σ H Q q)⟩
theorem PWimp {X : Cx} {x : Expr} {t u : TT} (p : PW X x t) (i : ∀ σ H Q, u σ H Q → t σ H Q) : PW X x u := ⟨fun wh pins s σ H Q I q => p.run wh pins s σ H Q I (i σ H Q q)⟩
theorem PAimp {X : Cx} {x : List Expr} {t u : TA} (p : PA X x t) (i : ∀ σ H Q, u σ H Q → t σ H Q) : PA X x u := ⟨fun pos pins s σ H Q I q => p.run pos pins s σ H Q I (i σ H Q q)⟩
/-- the end of an evaluation: a value that needs nothing -/
theorem wpR.ok {x : MV} {h' : HP} {Q : VK} {X : XK} {V : V} (w : wpR K cA cF r H (.ok x h') Q X) (E : Emb K cA cF H r h') (p : Rep K cA cF H r x V) : Q V H := w r H V Ext.refl E p
end

/-! ### operators, by values -/
section
variable {X : Cx} {cA : Nat → Addr} {cF : Nat → List Str}
/-- a value of two values: what comes of them where they stand -/
def rV2 (K : PySem.W.Frag) (cA : Nat → Addr) (cF : Nat → List Str) (g : HP → MV → MV → Option MV) : R2 := fun v u H Q =>
  ∃ r h x y z, Emb K cA cF H r h ∧ Rep K cA cF H r x v ∧ Rep K cA cF H r y u ∧ g h x y = some z ∧ ∀ r' H' V, Ext r H r' H' → Emb K cA cF H' r' h → Rep K cA cF H' r' z V → Q V H'
theorem Inv.isL {pins : List (Addr × Obj)} {σ : L2.St} {H : Hp} {s : Shared} {r : List Addr} {a : Addr} {vs : List V} (I : Inv X pins σ H s) (q : H a = some (.lst vs) ∨ FzL X.K H r a vs) :
    ∃ (its : List Value) (n : Nat), Vals vs its ∧ s.heap.get? a = some { cls := .type "list", data := .seq its.toArray n } ∧ vs.length ≤ sizeLine := by
  rcases q with q | ⟨_, q⟩ | ⟨its, n, q, z, rv⟩
  · obtain ⟨z, its, n, rv, e⟩ := I.hok a _ q
    exact ⟨its, n, rv, e, z⟩
  · obtain ⟨z, its, n, rv, e⟩ := q.ok I.hok
    exact ⟨its, n, rv, e, z⟩
  · refine ⟨its.toList, n, rv, by simpa using I.kIn a _ q, ?_⟩
    have e := rv.length
    simp only [Array.length_toList] at e
    omega
/-- a new list of values is a frozen one -/
theorem new_lst {K : PySem.W.Frag} {H : Hp} {r : List Addr} {h : HP} {p : Addr} {xs : List MV} {vs : List V} (E : Emb K cA cF H r h) (hp : H p = none) (q : Reps K cA cF H r xs vs) :
    Ext r H r (upd H p (.lst vs)) ∧ Emb K cA cF (upd H p (.lst vs)) r h ∧ Rep K cA cF (upd H p (.lst vs)) r (.lst xs) (.ref p) := by
  obtain ⟨x1, x2, x3⟩ := E.new (o := .lst vs) hp
  refine ⟨x1, x2, ?_⟩
  simp only [Rep]
  exact ⟨p, vs, rfl, .inl ⟨x3, .inl upd_same⟩, Reps.mono x1 _ _ q⟩
theorem new_tup {K : PySem.W.Frag} {H : Hp} {r : List Addr} {h : HP} {p : Addr} {xs : List MV} {vs : List V} (E : Emb K cA cF H r h) (hp : H p = none) (q : Reps K cA cF H r xs vs) :
    Ext r H r (upd H p (.tup vs)) ∧ Emb K cA cF (upd H p (.tup vs)) r h ∧ Rep K cA cF (upd H p (.tup vs)) r (.tup xs) (.ref p) := by
  obtain ⟨x1, x2, x3⟩ := E.new (o := .tup vs) hp
  refine ⟨x1, x2, ?_⟩
  simp only [Rep]
  exact ⟨p, vs, rfl, ⟨x3, upd_same⟩, Reps.mono x1 _ _ q⟩
theorem rep_int {K : PySem.W.Frag} {H : Hp} {r : List Addr} {i : Int} : Rep K cA cF H r (.int i) (.int i) := by simp only [Rep]
theorem rep_bl {K : PySem.W.Frag} {H : Hp} {r : List Addr} {i : Bool} : Rep K cA cF H r (.bl i) (.bl i) := by simp only [Rep]
theorem rep_str {K : PySem.W.Frag} {H : Hp} {r : List Addr} {i : Str} : Rep K cA cF H r (.str i) (.str i) := by simp only [Rep]
theorem rep_non {K : PySem.W.Frag} {H : Hp} {r : List Addr} : Rep K cA cF H r .non .non := by simp only [Rep]
theorem mulB_ok {i j : Int} (h : mulB i j = true) : IntMulOk i j := by
  unfold mulB at h
  simp only [Bool.or_eq_true, decide_eq_true_eq] at h
  rcases h with (h | h) | h
  · exact .of_left h
  · exact .of_right h
  · exact CMulX.ok h
theorem sz_eq : sz = sizeLine := by rw [sizeLine_eq]; rfl
theorem dvB_ok {i j : Int} (h : dvB i j = true) : 0 < j ∧ Builtin.divisionGoesByPylong i j = false := by
  unfold dvB at h
  simp only [Bool.and_eq_true, Bool.or_eq_true, decide_eq_true_eq, Bool.not_eq_true'] at h
  obtain ⟨h0, h1 | h1⟩ := h
  · exact ⟨h0, PyProof.noPylong_small (by omega)⟩
  · exact ⟨h0, h1⟩
/-- room for a long division by _pylong -/
structure Deep (X : Cx) : Prop where
  seer : X.base.NoSeer
  tree : X.prog.given.tree = none
  room : X.A.depth + 100 < recursionLimit
  stk : ∃ env l, X.stack = env :: l ∧ env.scope.isGenerator = false ∧ env.scope.isCoroutine = false ∧ env.builtins = builtinsNs ∧ env.globals = mainGlobals
  frm : ∃ env l L, X.stack = env :: l ∧ env.frame = some L ∧ X.env.frame = some L
theorem op_fdivM (dp : Deep X) : OpR X (binaryOp .FloorDiv) (rI (fun i j => (dvB i j || decide (0 < j)) = true) fun i j => .int (i / j)) := by
  intro pins s σ H v1 v2 u1 u2 Q I r1 r2 q
  obtain ⟨i, j, rfl, rfl, hc, q⟩ := q
  obtain ⟨t1, rfl⟩ := _root_.id r1
  obtain ⟨t2, rfl⟩ := _root_.id r2
  have hj : 0 < j := by
    simp only [Bool.or_eq_true, decide_eq_true_eq] at hc
    rcases hc with h | h
    · exact (dvB_ok h).1
    · exact h
  obtain ⟨env, l, e0, e1, e2, e3, e4⟩ := dp.stk
  have sa : SeerAt (model X.prog X.w) X.A s.heap := SeerAt.of (dp.seer.keeps I.bk) dp.tree (by rw [I.ok.frames, e0]) e1 e2 e3 e4
  refine floordiv_int (by omega) ?_ (.inr (PylongRoom.of I.nolimit dp.room sa))
  rw [Int.fdiv_eq_ediv_of_nonneg i (by omega)]
  exact ⟨.int (i / j), H, I.tok _, ⟨_, rfl⟩, q⟩
theorem op_mulM : OpR X (binaryOp .Mult) (rI (fun i j => mulB i j = true) fun i j => .int (i * j)) := opI fun _ _ _ _ _ _ _ hc q => mul_int q (mulB_ok hc)
theorem iop_mulM : OpR X (inplaceOp .Mult) (rI (fun i j => mulB i j = true) fun i j => .int (i * j)) := opI fun _ _ _ _ _ _ _ hc q => imul_int q (mulB_ok hc)
theorem op_powM : OpR X (binaryOp .Pow) (rI (fun i j => powB i j = true) fun i j => .int (i ^ j.toNat)) := opI fun _ _ _ _ _ _ _ hc q => by
  unfold powB at hc
  simp only [Bool.and_eq_true, Bool.or_eq_true, decide_eq_true_eq] at hc
  rcases hc.2 with h | h
  · exact pow_int_small hc.1 h.1 h.2 q
  · exact pow_int hc.1 (by have : (2 : Int) ^ 27 = 134217728 := rfl; omega) q
theorem op_shlM : OpR X (binaryOp .LShift) (rI (fun i j => shlB i j = true) fun i j => .int (i * 2 ^ j.toNat)) := opI fun _ _ _ _ _ _ _ hc q => by
  unfold shlB at hc
  simp only [Bool.and_eq_true, decide_eq_true_eq] at hc
  exact lshift_int hc.1 (by have := hc.2; omega) q
/-- two ints, a condition on them -/
theorem int_op {f : Value → Value → Sem Value} {c : Int → Int → Bool} {g : Int → Int → Int} (ho : OpR X f (rI (fun i j => c i j = true) fun i j => .int (g i j))) :
    OpR X f (rV2 X.K cA cF fun _ x y => int2 x y fun a b => if c a b then some (.int (g a b)) else none) := by
  intro pins s σ H v u w t Q I rv ru hq
  obtain ⟨r, h, x, y, z, E, rx, ry, e, q⟩ := hq
  obtain ⟨a, b, ex, ey, e2⟩ := int2_some e
  clear e
  subst ex ey
  split at e2
  · rename_i hc
    cases e2
    simp only [Rep] at rx ry
    exact ho pins s σ H v u w t Q I rv ru ⟨a, b, rx, ry, hc, q _ _ _ Ext.refl E rep_int⟩
  · cases e2
theorem int_op0 {f : Value → Value → Sem Value} {g : Int → Int → Int} (ho : OpR X f (rI0 fun i j => .int (g i j))) :
    OpR X f (rV2 X.K cA cF fun _ x y => int2 x y fun a b => some (.int (g a b))) := by
  intro pins s σ H v u w t Q I rv ru hq
  obtain ⟨r, h, x, y, z, E, rx, ry, e, q⟩ := hq
  obtain ⟨a, b, ex, ey, e2⟩ := int2_some e
  clear e
  subst ex ey
  cases e2
  simp only [Rep] at rx ry
  exact ho pins s σ H v u w t Q I rv ru ⟨a, b, rx, ry, q _ _ _ Ext.refl E rep_int⟩
theorem int_opP {f : Value → Value → Sem Value} {c : Int → Int → Prop} [∀ i j, Decidable (c i j)] {g : Int → Int → Int} (ho : OpR X f (rI c fun i j => .int (g i j))) :
    OpR X f (rV2 X.K cA cF fun _ x y => int2 x y fun a b => if c a b then some (.int (g a b)) else none) := by
  intro pins s σ H v u w t Q I rv ru hq
  obtain ⟨r, h, x, y, z, E, rx, ry, e, q⟩ := hq
  obtain ⟨a, b, ex, ey, e2⟩ := int2_some e
  clear e
  subst ex ey
  split at e2
  · rename_i hc
    cases e2
    simp only [Rep] at rx ry
    exact ho pins s σ H v u w t Q I rv ru ⟨a, b, rx, ry, hc, q _ _ _ Ext.refl E rep_int⟩
  · cases e2
theorem OpR.imp {f : Value → Value → Sem Value} {r r' : R2} (ho : OpR X f r) (h : ∀ x y H Q, r' x y H Q → r x y H Q) : OpR X f r' := fun pins s σ H x y v u Q I rx ry q => ho pins s σ H x y v u Q I rx ry (h _ _ _ _ q)
theorem add_op : OpR X (binaryOp .Add) (rV2 X.K cA cF addV) := by
  intro pins s σ H v u w t Q I rv ru hq
  obtain ⟨r, h, x, y, z, E, rx, ry, g, q⟩ := hq
  unfold addV at g
  split at g
  · exact int_op0 (g := fun a b => a + b) op_add pins s σ H v u w t Q I rv ru ⟨r, h, _, _, z, E, rx, ry, g, q⟩
  · split at g
    · rename_i hl
      cases g
      simp only [Rep] at rx ry
      exact op_add_str pins s σ H v u w t Q I rv ru ⟨_, _, rx, ry, by rw [← sz_eq]; exact hl, q _ _ _ Ext.refl E rep_str⟩
    · cases g
  · split at g
    · rename_i xs ys hl
      obtain ⟨l1, l2, l3⟩ := hl
      cases g
      simp only [Rep] at rx ry
      obtain ⟨a, vs, rfl, ⟨_, ha⟩, q1⟩ := rx
      obtain ⟨b, us, rfl, ⟨_, hb⟩, q2⟩ := ry
      have n1 : vs ≠ [] := fun z => by
        have := q1.length
        rw [z] at this
        cases xs with
        | nil => simp at l1
        | cons => simp at this
      have n2 : us ≠ [] := fun z => by
        have := q2.length
        rw [z] at this
        cases ys with
        | nil => simp at l2
        | cons => simp at this
      exact op_catT pins s σ H (.ref a) (.ref b) w t Q I rv ru ⟨a, b, vs, us, rfl, rfl, SqT.of ha, SqT.of hb, n1, by rw [q1.length, q2.length, ← sz_eq]; exact l3, fun z => absurd z n2, fun _ p hp => by
        obtain ⟨x1, x2, x3⟩ := new_tup E hp (q1.append q2)
        exact q _ _ _ x1 x2 x3⟩
    · cases g
  · unfold catL at g
    obtain ⟨xs, g1, g⟩ := Option.bind_eq_some_iff.mp g
    obtain ⟨ys, g2, g⟩ := Option.bind_eq_some_iff.mp g
    split at g
    · rename_i hl
      cases g
      obtain ⟨a, vs, rfl, l1, q1⟩ := getL_ok E g1 rx
      obtain ⟨b, us, rfl, l2, q2⟩ := getL_ok E g2 ry
      cases rv
      cases ru
      obtain ⟨its, n, k1, e1, z1⟩ := Inv.isL I l1
      obtain ⟨its2, n2, k2, e2, z2⟩ := Inv.isL I l2
      have hz : vs.length + us.length ≤ sizeLine := by rw [q1.length, q2.length, ← sz_eq]; exact hl
      refine PySem.P.add_list e1 e2 ?_ (by rw [List.size_toArray, List.size_toArray, ← k1.length, ← k2.length]; exact hz)
      have ea : its.toArray ++ its2.toArray = (its ++ its2).toArray := by simp
      rw [ea]
      obtain ⟨x1, x2, x3⟩ := new_lst E I.fresh (q1.append q2)
      exact ⟨.ref _, _, I.lnew (t' := s.toks) (k1.append k2) (by rw [List.length_append]; exact hz), rfl, q _ _ _ x1 x2 x3⟩
    · cases g
theorem Reps.rep {K : PySem.W.Frag} {cA : Nat → Addr} {cF : Nat → List Str} {H : Hp} {r : List Addr} {xs : List MV} {vs : List V} (q : Reps K cA cF H r xs vs) : ∀ k : Nat, Reps K cA cF H r (List.replicate k xs).flatten (List.replicate k vs).flatten
  | 0 => by simp [Reps]
  | k + 1 => by
    rw [List.replicate_succ, List.replicate_succ, List.flatten_cons, List.flatten_cons]
    exact q.append (Reps.rep q k)
theorem mul_op : OpR X (binaryOp .Mult) (rV2 X.K cA cF mulV) := by
  intro pins s σ H v u w t Q I rv ru hq
  obtain ⟨r, h, x, y, z, E, rx, ry, g, q⟩ := hq
  unfold mulV at g
  split at g
  · exact int_op op_mulM pins s σ H v u w t Q I rv ru ⟨r, h, _, _, z, E, rx, ry, g, q⟩
  · split at g
    · rename_i a k hl
      cases g
      obtain ⟨h1, h2, hz⟩ := hl
      simp only [Rep] at rx ry
      subst rx ry
      obtain ⟨t1, rfl⟩ := rv
      obtain ⟨t2, rfl⟩ := ru
      have hz' : a.length * k.toNat ≤ 16777216 := hz
      refine PySem.SB.mul ⟨?_, fun h3 _ => ?_, fun _ _ => PyProof.Rows.short24 hz'⟩ fun t' k' => ⟨.str _, H, I.tok _, ⟨_, rfl⟩, q _ _ _ Ext.refl E rep_str⟩
      · simp; omega
      · have h5 : a.length ≤ a.length * k.toNat := Nat.le_mul_of_pos_right _ (by omega)
        have h6 : (16777216 : Int) ≤ (2 ^ 63 - 1) / k := (Int.le_ediv_iff_mul_le (by omega)).mpr (by omega)
        omega
    · cases g
  · rename_i x' k _ _
    obtain ⟨xs, g1, g⟩ := Option.bind_eq_some_iff.mp g
    split at g
    · rename_i hl
      cases g
      obtain ⟨h1, h2, hz⟩ := hl
      obtain ⟨l, vs, rfl, l1, q1⟩ := getL_ok E g1 rx
      simp only [Rep] at ry
      subst ry
      cases rv
      obtain ⟨tk, rfl⟩ := ru
      obtain ⟨its, n, k1, e, z1⟩ := Inv.isL I l1
      have hl : vs.length = its.length := k1.length
      have hz' : vs.length * k.toNat ≤ sizeLine := by rw [q1.length, ← sz_eq]; exact hz
      have hlen : its.toArray.size * k.toNat ≤ sizeLine := by rw [List.size_toArray, ← hl]; exact hz'
      have hcap : ¬ its.toArray.size * k.toNat > (2 ^ 63 - 1) / 8 := by
        have : (sizeLine : Nat) ≤ (2 ^ 63 - 1) / 8 := by decide
        omega
      have hfit : ¬ (!Builtin.List.listFitsIndex k) = true := by
        rw [fitsIndex_both (by omega) (by omega)]
        exact Bool.false_ne_true
      have hlong : ¬ Builtin.List.listTooLong (its.toArray.size * k.toNat) = true := by
        rw [notLongL hlen]
        exact Bool.false_ne_true
      have hnew : List.foldl (fun x1 x2 => x1 ++ x2) #[] (List.replicate (if its.toArray.isEmpty = true then 0 else k.toNat) its.toArray) = (List.replicate k.toNat its).flatten.toArray := by
        have f0 : ∀ m : Nat, List.foldl (fun x1 x2 => x1 ++ x2) #[] (List.replicate m its.toArray) = (List.replicate m its).flatten.toArray := fun m => by
          have := L2.foldl_rep its m []
          rw [List.nil_append] at this
          exact this
        rw [f0]
        cases its with
        | nil => simp
        | cons a r' => rw [if_neg (by simp)]
      refine PySem.wpAny_binaryOp_repeat_ref (T := "list") (U := "int") (by decide) ⟨_, e, rfl⟩ (fun s' => typeIs_int s' k tk) noFill_list_mul F.fills_int_mul F.slot_int_rmul repeat_list F.slot_int_index.lookup
        (call_meets F.slot_int_rmul (typeIs_int s k tk) F.entry_int_rmul (F.args_int_rmul_2 _ _) (int___rmul___int_list k tk l its.toArray n)
          ⟨e, rfl, ⟨_, e, rfl⟩, call_meets F.slot_list_mul ⟨_, e, rfl⟩ F.entry_list_mul (F.args_list_mul_2 _ _) (AutoListH.list___mul___list_int_3 l its.toArray n k tk hfit hcap hlong) ⟨e, ?_⟩⟩)
      rw [hnew]
      obtain ⟨x1, x2, x3⟩ := new_lst E I.fresh (q1.rep k.toNat)
      exact ⟨.ref _, _, I.lnew (t' := s.toks) (k1.rep k.toNat) (by rw [PyProof.Rows.lm_len_rep_flat, Nat.mul_comm]; exact hz'), rfl, q _ _ _ x1 x2 x3⟩
    · cases g
  · cases g
theorem binop_ok (dp : Deep X) {o : Bop} {op : Operator} (hb : bopB o op = true) : OpR X (binaryOp op) (rV2 X.K cA cF fun h => binV h o) := by
  cases o <;> cases op <;> first | (exact absurd hb (by decide)) | skip
  · exact add_op
  · exact int_op0 op_sub
  · exact mul_op
  · exact int_op (op_fdivM dp)
  · exact int_opP (c := fun _ j => 0 < j) op_mod
  · exact int_op op_powM
  · exact int_op op_shlM
  · exact int_opP (c := fun _ j => 0 ≤ j) op_shr
  · exact int_op0 op_and
  · exact int_op0 op_or
  · exact int_op0 op_xor
theorem augA_op : OpR X (inplaceOp .Add) (rV2 X.K cA cF fun _ => augA) := by
  intro pins s σ H v u w t Q I rv ru hq
  obtain ⟨r, h, x, y, z, E, rx, ry, g, q⟩ := hq
  replace g : augA x y = some z := g
  unfold augA at g
  split at g
  · split at g
    · rename_i hl
      cases g
      simp only [Rep] at rx ry
      exact iop_add_str pins s σ H v u w t Q I rv ru ⟨_, _, rx, ry, by rw [← sz_eq]; exact hl, q _ _ _ Ext.refl E rep_str⟩
    · cases g
  · exact int_op0 (g := fun a b => a + b) iop_add pins s σ H v u w t Q I rv ru ⟨r, h, _, _, z, E, rx, ry, g, q⟩
theorem augop_ok {o : Bop} {op : Operator} (hb : augB o op = true) : OpR X (inplaceOp op) (rV2 X.K cA cF fun _ => augV o) := by
  cases o <;> cases op <;> first | (exact absurd hb (by decide)) | skip
  · exact augA_op
  · exact int_op0 iop_sub
  · exact int_op iop_mulM
  · exact int_opP (c := fun _ j => 0 ≤ j) iop_shr
  · exact int_op0 iop_or
end
end Rm

/-! Rm, part D: expressions do what the evaluator says. -/
namespace Rm
open PySem L2 PySem.Spec PyProof.Rows

section
variable {X : Cx} {cA : Nat → Addr} {cF : Nat → List Str}
/-! ### comparisons -/
mutual
theorem toD_ok {K : PySem.W.Frag} {H : Hp} {r : List Addr} {h : HP} : ∀ (x : MV) (d : PyData) (v : V), toD h x = some d → Rep K cA cF H r x v → Dp K H v d
  | .non, d, v, e, p => by simp only [toD, Option.some.injEq] at e; subst e; simp only [Rep] at p; subst p; exact .non
  | .bl b, d, v, e, p => by simp only [toD, Option.some.injEq] at e; subst e; simp only [Rep] at p; subst p; exact .bl b
  | .int i, d, v, e, p => by simp only [toD, Option.some.injEq] at e; subst e; simp only [Rep] at p; subst p; exact .int i
  | .str s, d, v, e, p => by simp only [toD, Option.some.injEq] at e; subst e; simp only [Rep] at p; subst p; exact .str s
  | .tup xs, d, v, e, p => by
    simp only [toD] at e
    obtain ⟨ds, e1, e2⟩ := Option.map_eq_some_iff.mp e
    subst e2
    simp only [Rep] at p
    obtain ⟨a, vs, rfl, ⟨_, h1⟩, h2⟩ := p
    exact .tup (SqT.of h1) (toDs_ok xs ds vs e1 h2)
  | .lst xs, d, v, e, p => by
    simp only [toD] at e
    obtain ⟨ds, e1, e2⟩ := Option.map_eq_some_iff.mp e
    subst e2
    simp only [Rep] at p
    obtain ⟨a, vs, rfl, h1, h2⟩ := p
    exact .lst h1.sq (toDs_ok xs ds vs e1 h2)
  | .ref i, d, v, e, p => by simp only [toD] at e; cases e
  | .obj c xs, d, v, e, p => by simp only [toD] at e; cases e
  | .exc c xs, d, v, e, p => by simp only [toD] at e; cases e
theorem toDs_ok {K : PySem.W.Frag} {H : Hp} {r : List Addr} {h : HP} : ∀ (xs : List MV) (ds : List PyData) (vs : List V), toDs h xs = some ds → Reps K cA cF H r xs vs → DpAll K H vs ds
  | [], ds, vs, e, p => by simp only [toDs, Option.some.injEq] at e; subst e; simp only [Reps] at p; subst p; exact .nil
  | x :: xs, ds, vs, e, p => by
    simp only [toDs] at e
    obtain ⟨d, e1, e2⟩ := Option.bind_eq_some_iff.mp e
    obtain ⟨ds', e3, e4⟩ := Option.map_eq_some_iff.mp e2
    subst e4
    simp only [Reps] at p
    obtain ⟨v, ws, rfl, h1, h2⟩ := p
    exact .cons (toD_ok x d v e1 h1) (toDs_ok xs ds' ws e3 h2)
end
theorem flat0_ok {K : PySem.W.Frag} {H : Hp} {r : List Addr} {h : HP} (E : Emb K cA cF H r h) {x : MV} {d : PyData} {v : V} (e : flat0 h x = some d) (p : Rep K cA cF H r x v) : Dp K H v d := by
  cases x with
  | ref i =>
    simp only [flat0] at e
    cases q : h[i]? with
    | none => rw [q] at e; cases e
    | some o =>
      rw [q] at e
      cases o with
      | lst xs =>
        obtain ⟨ds, e1, e2⟩ := Option.map_eq_some_iff.mp e
        subst e2
        have g : getL h (.ref i) = some xs := by simp only [getL, q]
        obtain ⟨a, vs, rfl, l1, q1⟩ := getL_ok E g p
        exact .lst (sq_of l1) (toDs_ok xs ds vs e1 q1)
      | ins c xs => cases e
      | dic kvs => cases e
  | _ => exact toD_ok _ _ _ (by simpa only [flat0] using e) p
theorem flats0_ok {K : PySem.W.Frag} {H : Hp} {r : List Addr} {h : HP} (E : Emb K cA cF H r h) : ∀ (xs : List MV) (ds : List PyData) (vs : List V), flats0 h xs = some ds → Reps K cA cF H r xs vs → DpAll K H vs ds
  | [], ds, vs, e, p => by simp only [flats0, Option.some.injEq] at e; subst e; simp only [Reps] at p; subst p; exact .nil
  | x :: xs, ds, vs, e, p => by
    simp only [flats0] at e
    obtain ⟨d, e1, e2⟩ := Option.bind_eq_some_iff.mp e
    obtain ⟨ds', e3, e4⟩ := Option.map_eq_some_iff.mp e2
    subst e4
    simp only [Reps] at p
    obtain ⟨v, ws, rfl, h1, h2⟩ := p
    exact .cons (flat0_ok E e1 h1) (flats0_ok E xs ds' ws e3 h2)
theorem flatD_ok {K : PySem.W.Frag} {H : Hp} {r : List Addr} {h : HP} (E : Emb K cA cF H r h) {x : MV} {d : PyData} {v : V} (e : flatD h x = some d) (p : Rep K cA cF H r x v) : Dp K H v d := by
  cases x with
  | ref i => exact flat0_ok E (by simpa only [flat0, flatD] using e) p
  | lst xs =>
    simp only [flatD, lstD] at e
    simp only [Rep] at p
    obtain ⟨a, vs, rfl, h1, h2⟩ := p
    split at e
    · rename_i ds q
      simp only [Option.some.injEq] at e
      subst e
      exact .lst h1.sq (toDs_ok xs ds vs q h2)
    · obtain ⟨ds, e1, e2⟩ := Option.map_eq_some_iff.mp e
      subst e2
      exact .lst h1.sq (flats0_ok E xs ds vs e1 h2)
  | _ => exact toD_ok _ _ _ (by simpa only [flatD] using e) p
def rB2 (K : PySem.W.Frag) (cA : Nat → Addr) (cF : Nat → List Str) (g : HP → MV → MV → Option Bool) : R2 := fun v u H Q =>
  ∃ r h x y b, Emb K cA cF H r h ∧ Rep K cA cF H r x v ∧ Rep K cA cF H r y u ∧ g h x y = some b ∧ Q (.bl b) H
theorem eqM_ok {K : PySem.W.Frag} {H : Hp} {r : List Addr} {h : HP} (E : Emb K cA cF H r h) {x y : MV} {v u : V} {b : Bool} (g : eqM h x y = some b) (p : Rep K cA cF H r x v) (q : Rep K cA cF H r y u) :
    ∃ d e, Dp K H v d ∧ Dp K H u e ∧ SeqAt.shaped d = true ∧ SeqAt.shaped e = true ∧ PyData.eqv d e = b := by
  unfold eqM at g
  obtain ⟨d, e1, g⟩ := Option.bind_eq_some_iff.mp g
  obtain ⟨e, e2, g⟩ := Option.bind_eq_some_iff.mp g
  split at g
  · rename_i hs
    simp only [Bool.and_eq_true] at hs
    cases g
    exact ⟨d, e, flatD_ok E e1 p, flatD_ok E e2 q, hs.1, hs.2, rfl⟩
  · cases g
theorem flat_rep {K : PySem.W.Frag} {H : Hp} {r : List Addr} {x : MV} {v : V} (f : flatM x = true) (p : Rep K cA cF H r x v) : flatV v = true ∧ ∀ y w, flatM y = true → Rep K cA cF H r y w → eqV w v = eqF y x := by
  have key : ∀ {x : MV} {v : V}, flatM x = true → Rep K cA cF H r x v → (x = .non ∧ v = .non) ∨ (∃ b, x = .bl b ∧ v = .bl b) ∨ (∃ i, x = .int i ∧ v = .int i) ∨ ∃ s, x = .str s ∧ v = .str s := by
    intro x v f p
    cases x with
    | non => simp only [Rep] at p; exact .inl ⟨rfl, p⟩
    | bl b => simp only [Rep] at p; exact .inr (.inl ⟨b, rfl, p⟩)
    | int i => simp only [Rep] at p; exact .inr (.inr (.inl ⟨i, rfl, p⟩))
    | str s => simp only [Rep] at p; exact .inr (.inr (.inr ⟨s, rfl, p⟩))
    | _ => cases f
  rcases key f p with ⟨rfl, rfl⟩ | ⟨b, rfl, rfl⟩ | ⟨i, rfl, rfl⟩ | ⟨s, rfl, rfl⟩ <;> refine ⟨rfl, fun y w fy py => ?_⟩ <;>
    rcases key fy py with ⟨rfl, rfl⟩ | ⟨b', rfl, rfl⟩ | ⟨i', rfl, rfl⟩ | ⟨s', rfl, rfl⟩ <;> rfl
theorem flats_rep {K : PySem.W.Frag} {H : Hp} {r : List Addr} {x : MV} {v : V} (f : flatM x = true) (p : Rep K cA cF H r x v) : ∀ {ys : List MV} {us : List V}, ys.all flatM = true → Reps K cA cF H r ys us → us.all flatV = true ∧ L2.inV v us = inF x ys
  | [], us, fs, q => by simp only [Reps] at q; subst q; exact ⟨rfl, rfl⟩
  | y :: ys, us, fs, q => by
    simp only [Reps] at q
    obtain ⟨w, ws, rfl, h1, h2⟩ := q
    simp only [List.all_cons, Bool.and_eq_true] at fs
    obtain ⟨k1, k2⟩ := flats_rep f p fs.2 h2
    refine ⟨by rw [List.all_cons, k1, (flat_rep fs.1 h1).1]; rfl, ?_⟩
    have e := (flat_rep f p).2 y w fs.1 h1
    unfold L2.inV inF at *
    rw [List.any_cons, List.any_cons, e, k2]
theorem seq_ok {K : PySem.W.Frag} {H : Hp} {r : List Addr} {h : HP} (E : Emb K cA cF H r h) {x : MV} {xs : List MV} {v : V} (e : seqOf h x = some xs) (p : Rep K cA cF H r x v) :
    ∃ a vs, v = .ref a ∧ (SqL K H a vs ∨ SqT K H a vs) ∧ Reps K cA cF H r xs vs := by
  cases x with
  | tup ys =>
    simp only [seqOf, Option.some.injEq] at e
    subst e
    simp only [Rep] at p
    obtain ⟨a, vs, e1, ⟨_, h1⟩, h2⟩ := p
    exact ⟨a, vs, e1, .inr (SqT.of h1), h2⟩
  | _ =>
    obtain ⟨a, vs, e1, l1, q1⟩ := getL_ok E (by simpa only [seqOf] using e) p
    exact ⟨a, vs, e1, .inl (sq_of l1), q1⟩
theorem int_cmp {f : Value → Value → Sem Value} {g : Int → Int → Bool} (ho : OpR X f (rI0 fun i j => .bl (g i j))) : OpR X f (rB2 X.K cA cF fun _ x y => cmp2 x y g) :=
  OpR.imp ho fun v u H Q q => by
    obtain ⟨r, h, x, y, b, E, rx, ry, e, q⟩ := q
    obtain ⟨i, j, ex, ey, e2⟩ := cmp2_some e
    subst ex ey e2
    simp only [Rep] at rx ry
    exact ⟨i, j, rx, ry, q⟩
theorem rep_non_iff {K : PySem.W.Frag} {H : Hp} {r : List Addr} {x : MV} {v : V} (p : Rep K cA cF H r x v) : decide (v = .non) = isNon x := by
  cases x with
  | non => simp only [Rep] at p; subst p; rfl
  | bl b => simp only [Rep] at p; subst p; rfl
  | int i => simp only [Rep] at p; subst p; rfl
  | str s => simp only [Rep] at p; subst p; rfl
  | tup xs => simp only [Rep] at p; obtain ⟨a, vs, rfl, _⟩ := p; rfl
  | lst xs => simp only [Rep] at p; obtain ⟨a, vs, rfl, _⟩ := p; rfl
  | ref i => simp only [Rep] at p; obtain ⟨a, rfl, _⟩ := p; rfl
  | obj c xs => simp only [Rep] at p; obtain ⟨a, dx, vs, rfl, _⟩ := p; rfl
  | exc c xs => simp only [Rep] at p; obtain ⟨a, rfl, _⟩ := p; rfl
theorem cmpop_ok (hu : X.A.units + 64 < cLine) {o : Cop} {op : CmpOp} (hb : copB o op = true) : OpR X (compareOp op) (rB2 X.K cA cF fun h => cmpV h o) := by
  have isn : ∀ {g : Bool → Bool} {x y : MV} {v u : V} {b : Bool} {H : Hp} {r : List Addr}, (if isNon y then some (g (isNon x)) else none) = some b → Rep X.K cA cF H r x v → Rep X.K cA cF H r y u → u = .non ∧ g (decide (v = .non)) = b := by
    intro g x y v u b H r e p q
    split at e
    · rename_i hy
      cases e
      have := rep_non_iff q
      rw [hy] at this
      exact ⟨of_decide_eq_true this, by rw [rep_non_iff p]⟩
    · cases e
  have ins : ∀ {x y : MV} {v u : V} {b : Bool} {H : Hp} {r : List Addr} {h : HP}, Emb X.K cA cF H r h → inV h x y = some b → Rep X.K cA cF H r x v → Rep X.K cA cF H r y u →
      (∃ p xs, u = .ref p ∧ (SqL X.K H p xs ∨ SqT X.K H p xs) ∧ flatV v = true ∧ xs.all flatV = true ∧ L2.inV v xs = b) ∨ ∃ (c : Nat) (z : Str), v = .str ⟨#[c]⟩ ∧ u = .str z ∧ decide (c ∈ z.cps.toList) = b := by
    intro x y v u b H r h E e p q
    unfold Rm.inV at e
    split at e
    · unfold inS at e
      split at e
      · split at e
        · rename_i c z k hk
          cases e
          simp only [Rep] at p q
          refine .inr ⟨k, _, ?_, q, rfl⟩
          rw [p]
          congr 1
          have : c.cps = #[k] := by rw [← Array.toArray_toList (xs := c.cps), hk]
          cases c
          simp_all
        · cases e
      · cases e
    left
    obtain ⟨ys, e1, e⟩ := Option.bind_eq_some_iff.mp e
    split at e
    · rename_i hf
      simp only [Bool.and_eq_true] at hf
      cases e
      obtain ⟨a, vs, rfl, hs, q1⟩ := seq_ok E e1 q
      obtain ⟨k1, k2⟩ := flats_rep hf.1 p hf.2 q1
      exact ⟨a, vs, rfl, hs, (flat_rep hf.1 p).1, k1, k2⟩
    · cases e
  cases o <;> cases op <;> first | (exact absurd hb (by decide)) | skip
  · exact OpR.imp (op_eqD hu) fun v u H Q q => by
      obtain ⟨r, h, x, y, b, E, rx, ry, e, q⟩ := q
      obtain ⟨d, f, h1, h2, h3, h4, h5⟩ := eqM_ok E e rx ry
      exact ⟨d, f, h1, h2, h3, h4, by rw [h5]; exact q⟩
  · exact OpR.imp (op_neD hu) fun v u H Q q => by
      obtain ⟨r, h, x, y, b, E, rx, ry, e, q⟩ := q
      obtain ⟨c, e1, e2⟩ := Option.map_eq_some_iff.mp e
      obtain ⟨d, f, h1, h2, h3, h4, h5⟩ := eqM_ok E e1 rx ry
      exact ⟨d, f, h1, h2, h3, h4, by rw [h5, e2]; exact q⟩
  · exact int_cmp op_lt
  · exact int_cmp op_le
  · exact int_cmp op_gt
  · exact int_cmp op_ge
  · exact OpR.imp op_isN fun v u H Q q => by
      obtain ⟨r, h, x, y, b, E, rx, ry, e, q⟩ := q
      obtain ⟨h1, h2⟩ := isn (g := fun b => b) e rx ry
      exact ⟨h1, by rw [h2]; exact q⟩
  · exact OpR.imp op_notN fun v u H Q q => by
      obtain ⟨r, h, x, y, b, E, rx, ry, e, q⟩ := q
      obtain ⟨h1, h2⟩ := isn (g := fun b => !b) e rx ry
      exact ⟨h1, by rw [h2]; exact q⟩
  · exact OpR.imp (L2.OpR.or op_in_seq op_in_sign) fun v u H Q q => by
      obtain ⟨r, h, x, y, b, E, rx, ry, e, q⟩ := q
      rcases ins E e rx ry with ⟨p, xs, h1, h2, h3, h4, h5⟩ | ⟨c, z, h1, h2, h3⟩
      · exact .inl ⟨p, xs, h1, h2, h3, h4, by rw [if_neg Bool.false_ne_true, h5]; exact q⟩
      · exact .inr ⟨c, z, h1, h2, by rw [h3]; exact q⟩
  · exact OpR.imp (L2.OpR.or op_notIn_seq op_notIn_sign) fun v u H Q q => by
      obtain ⟨r, h, x, y, b, E, rx, ry, e, q⟩ := q
      obtain ⟨c, e1, e2⟩ := Option.map_eq_some_iff.mp e
      rcases ins E e1 rx ry with ⟨p, xs, h1, h2, h3, h4, h5⟩ | ⟨k, z, h1, h2, h3⟩
      · exact .inl ⟨p, xs, h1, h2, h3, h4, by rw [if_pos rfl, h5, e2]; exact q⟩
      · exact .inr ⟨k, z, h1, h2, by rw [h3, e2]; exact q⟩

/-! ### items and slices -/
theorem IxR.imp {r r' : R2} (h : IxR X r) (i : ∀ x y H Q, r' x y H Q → r x y H Q) : IxR X r' := fun value slice pins s σ H x y v u Q I rx ry q hs => h value slice pins s σ H x y v u Q I rx ry (i _ _ _ _ q) hs
theorem IxR.or {r r' : R2} (h : IxR X r) (h' : IxR X r') : IxR X (fun x y H Q => r x y H Q ∨ r' x y H Q) := fun value slice pins s σ H x y v u Q I rx ry q hs => by
  rcases q with q | q
  · exact h value slice pins s σ H x y v u Q I rx ry q hs
  · exact h' value slice pins s σ H x y v u Q I rx ry q hs
theorem ix_ok : IxR X (rV2 X.K cA cF idxV) :=
  IxR.imp (IxR.or ix_tup (IxR.or ix_list ix_str)) fun v u H Q q => by
    obtain ⟨r, h, x, y, z, E, rx, ry, e, q⟩ := q
    unfold idxV at e
    split at e
    · simp only [Rep] at rx ry
      obtain ⟨a, vs, e1, ⟨_, h1⟩, h2⟩ := rx
      obtain ⟨w, h3, h4⟩ := h2.atI e
      exact .inl ⟨a, vs, _, w, e1, ry, SqT.of h1, h3, q _ _ _ Ext.refl E h4⟩
    · split at e
      · rename_i hz
        obtain ⟨c, e1, e2⟩ := Option.map_eq_some_iff.mp e
        subst e2
        simp only [Rep] at rx ry
        exact .inr (.inr ⟨_, _, c, rx, ry, by rw [← sz_eq]; exact hz, e1, q _ _ _ Ext.refl E rep_str⟩)
      · cases e
    · obtain ⟨xs, e1, e⟩ := Option.bind_eq_some_iff.mp e
      obtain ⟨a, vs, e2, l1, q1⟩ := getL_ok E e1 rx
      simp only [Rep] at ry
      obtain ⟨w, h3, h4⟩ := q1.atI e
      exact .inr (.inl ⟨a, vs, _, w, e2, ry, sq_of l1, h3, q _ _ _ Ext.refl E h4⟩)
    · cases e

/-! ### built-ins -/
def rBi (K : PySem.W.Frag) (cA : Nat → Addr) (cF : Nat → List Str) (g : HP → List MV → Option MV) : List V → Hp → VK → Prop := fun vs H Q =>
  ∃ r h xs z, Emb K cA cF H r h ∧ Reps K cA cF H r xs vs ∧ g h xs = some z ∧ ∀ r' H' V, Ext r H r' H' → Emb K cA cF H' r' h → Rep K cA cF H' r' z V → Q V H'
theorem CallR.imp {f : Value} {r r' : List V → Hp → VK → Prop} (h : CallR X f r) (i : ∀ xs H Q, r' xs H Q → r xs H Q) : CallR X f r' := fun pins s σ H xs us Q I rv q => h pins s σ H xs us Q I rv (i _ _ _ q)
theorem reps1 {K : PySem.W.Frag} {H : Hp} {r : List Addr} {x : MV} {vs : List V} (p : Reps K cA cF H r [x] vs) : ∃ v, vs = [v] ∧ Rep K cA cF H r x v := by
  simp only [Reps] at p
  obtain ⟨w, ws, e1, h1, h2⟩ := p
  subst h2
  exact ⟨w, e1, h1⟩
theorem reps2 {K : PySem.W.Frag} {H : Hp} {r : List Addr} {x y : MV} {vs : List V} (p : Reps K cA cF H r [x, y] vs) : ∃ v u, vs = [v, u] ∧ Rep K cA cF H r x v ∧ Rep K cA cF H r y u := by
  simp only [Reps] at p
  obtain ⟨w, ws, e1, h1, u, us, e2, h2, h3⟩ := p
  subst h3 e2
  exact ⟨w, u, e1, h1, h2⟩
def biVal : Bi → Value
  | .len => .builtin "len" | .dvm => .builtin "divmod" | .abs => .builtin "abs" | .max2 => .builtin "max" | .min2 => .builtin "min"
  | .int1 => .type "int" | .str1 => .type "str" | .list1 => .type "list" | .sum1 => .builtin "sum" | .all1 => .builtin "all" | .max1 => .builtin "max"
theorem intsOf_ok : ∀ (xs : List MV) (is : List Int), intsOf xs = some is → xs = is.map .int
  | [], is, e => by simp only [intsOf, Option.some.injEq] at e; subst e; rfl
  | .int i :: xs, is, e => by
    simp only [intsOf] at e
    obtain ⟨js, e1, e2⟩ := Option.map_eq_some_iff.mp e
    subst e2
    rw [intsOf_ok xs js e1]; rfl
  | .non :: xs, is, e => by simp only [intsOf] at e; cases e
  | .bl b :: xs, is, e => by simp only [intsOf] at e; cases e
  | .str b :: xs, is, e => by simp only [intsOf] at e; cases e
  | .tup b :: xs, is, e => by simp only [intsOf] at e; cases e
  | .lst b :: xs, is, e => by simp only [intsOf] at e; cases e
  | .ref b :: xs, is, e => by simp only [intsOf] at e; cases e
  | .obj b c :: xs, is, e => by simp only [intsOf] at e; cases e
  | .exc b c :: xs, is, e => by simp only [intsOf] at e; cases e
theorem blsOf_ok : ∀ (xs : List MV) (is : List Bool), blsOf xs = some is → xs = is.map .bl
  | [], is, e => by simp only [blsOf, Option.some.injEq] at e; subst e; rfl
  | .bl i :: xs, is, e => by
    simp only [blsOf] at e
    obtain ⟨js, e1, e2⟩ := Option.map_eq_some_iff.mp e
    subst e2
    rw [blsOf_ok xs js e1]; rfl
  | .non :: xs, is, e => by simp only [blsOf] at e; cases e
  | .int b :: xs, is, e => by simp only [blsOf] at e; cases e
  | .str b :: xs, is, e => by simp only [blsOf] at e; cases e
  | .tup b :: xs, is, e => by simp only [blsOf] at e; cases e
  | .lst b :: xs, is, e => by simp only [blsOf] at e; cases e
  | .ref b :: xs, is, e => by simp only [blsOf] at e; cases e
  | .obj b c :: xs, is, e => by simp only [blsOf] at e; cases e
  | .exc b c :: xs, is, e => by simp only [blsOf] at e; cases e
theorem reps_ints {K : PySem.W.Frag} {H : Hp} {r : List Addr} : ∀ (is : List Int) (vs : List V), Reps K cA cF H r (is.map .int) vs → vs = is.map V.int
  | [], vs, p => by simpa only [List.map_nil, Reps] using p
  | i :: is, vs, p => by
    simp only [List.map_cons, Reps, Rep] at p
    obtain ⟨v, ws, rfl, rfl, p⟩ := p
    rw [reps_ints is ws p]; rfl
theorem reps_bls {K : PySem.W.Frag} {H : Hp} {r : List Addr} : ∀ (is : List Bool) (vs : List V), Reps K cA cF H r (is.map .bl) vs → vs = is.map V.bl
  | [], vs, p => by simpa only [List.map_nil, Reps] using p
  | i :: is, vs, p => by
    simp only [List.map_cons, Reps, Rep] at p
    obtain ⟨v, ws, rfl, rfl, p⟩ := p
    rw [reps_bls is ws p]; rfl
theorem mxL_ok : ∀ (is : List Int) (m : Int), (mxL m is = m ∨ mxL m is ∈ is) ∧ m ≤ mxL m is ∧ ∀ y ∈ is, y ≤ mxL m is
  | [], m => ⟨.inl rfl, Int.le_refl _, fun y hy => by cases hy⟩
  | i :: is, m => by
    obtain ⟨a, b, c⟩ := mxL_ok is (if m < i then i else m)
    have e : mxL m (i :: is) = mxL (if m < i then i else m) is := rfl
    rw [e]
    refine ⟨?_, ?_, fun y hy => ?_⟩
    · rcases a with a | a
      · rw [a]; split
        · exact .inr (List.mem_cons_self ..)
        · exact .inl rfl
      · exact .inr (List.mem_cons_of_mem _ a)
    · split at b <;> split <;> omega
    · rcases List.mem_cons.mp hy with z | z
      · subst z; split at b <;> split <;> omega
      · exact c y z
/-- min(xs, default=d), ints -/
def rMnd (K : PySem.W.Frag) : List V → List V → Hp → VK → Prop := fun vs zs H Q => ∃ (a : Addr) (ns : List Int) (d : V), vs = [.ref a] ∧ zs = [d] ∧ SqL K H a (ns.map V.int) ∧ Q (match ns with | [] => d | i :: is => .int (mnL i is)) H
theorem cr_mnd (hc : X.calm = true) (hu : X.A.units + 64 < cLine) : CallRK X (.builtin "min") [Str.ofString "default"] (rMnd X.K) := by
  intro pins s σ H vs zs us ws Q I r rz h
  obtain ⟨a, ns, d, rfl, rfl, hs, q⟩ := h
  obtain ⟨its, rv, hl, _⟩ := I.list hs
  rw [Vals.ref1 r]
  obtain ⟨w1, rfl, e1⟩ := vals1 rz
  refine PySem.W.min_list_datum_default (α := Int) (vs := its.toArray) (xs := ns) (I.ok.hd hc) hl.isList (PySem.W.HoldAll.of_ints (by simpa using rv.ints)) (by show X.A.units + 1 + 0 < cLine; omega) (fun e h' tk hk => ?_) (fun y ys i v h' tk e hi hv hk => ?_)
  · subst e
    exact ⟨d, H, I.kept hk, e1, q⟩
  · subst e
    obtain ⟨as, rd⟩ := hv
    have rd : Reads h' v (.int (mnL y ys)) as := by
      have e : PySem.W.minOf y ys = mnL y ys := by
        unfold PySem.W.minOf mnL
        congr 1
        funext a b
        show (if decide (b < a) = true then b else a) = _
        simp only [decide_eq_true_eq]
      rw [e] at rd; exact rd
    cases rd
    exact ⟨.int _, H, I.kept hk, ⟨_, rfl⟩, q⟩
theorem strsOf_ok : ∀ (xs : List MV) (is : List Str), strsOf xs = some is → xs = is.map .str
  | [], is, e => by simp only [strsOf, Option.some.injEq] at e; subst e; rfl
  | x :: xs, is, e => by
    cases x <;> first
      | (simp only [strsOf] at e; cases e; done)
      | skip
    simp only [strsOf] at e
    obtain ⟨js, e1, e2⟩ := Option.map_eq_some_iff.mp e
    subst e2
    rw [strsOf_ok xs js e1]; rfl
theorem reps_strs {K : PySem.W.Frag} {H : Hp} {r : List Addr} : ∀ (is : List Str) (vs : List V), Reps K cA cF H r (is.map .str) vs → vs = is.map V.str
  | [], vs, p => by simp only [List.map_nil, Reps] at p; exact p
  | i :: is, vs, p => by
    simp only [List.map_cons, Reps] at p
    obtain ⟨v, ws, rfl, h1, h2⟩ := p
    simp only [Rep] at h1
    rw [h1, reps_strs is ws h2]; rfl
theorem strs_reps {K : PySem.W.Frag} {H : Hp} {r : List Addr} : ∀ (is : List Str), Reps K cA cF H r (is.map .str) (is.map V.str)
  | [] => by simp only [List.map_nil, Reps]
  | i :: is => by
    simp only [List.map_cons, Reps]
    exact ⟨_, _, rfl, rep_str, strs_reps is⟩
theorem bi_ok (hc : X.calm = true) (b : Bi) : CallR X (biVal b) (rBi X.K cA cF fun h => biV h b) := by
  cases b with
  | len =>
    refine CallR.imp (L2.CallR.or call_len_seq call_len_str) fun vs H Q q => ?_
    obtain ⟨r, h, xs, z, E, p, e, q⟩ := q
    obtain ⟨x, e1, e2⟩ := b1_some e
    clear e
    subst e1
    obtain ⟨v, rfl, p1⟩ := reps1 p
    cases e3 : seqOf h x with
    | some ys =>
      rw [e3] at e2
      simp only [Option.map_some, Option.some_or, Option.some.injEq] at e2
      subst e2
      obtain ⟨a, us, rfl, h1, h2⟩ := seq_ok E e3 p1
      exact .inl ⟨a, us, rfl, h1, q _ _ _ Ext.refl E (by rw [h2.length]; exact rep_int)⟩
    | none =>
      rw [e3] at e2
      simp only [Option.map_none, Option.none_or] at e2
      unfold lenS at e2
      split at e2
      · split at e2
        · rename_i hz
          cases e2
          simp only [Rep] at p1
          subst p1
          exact .inr ⟨_, rfl, by rw [← sz_eq]; exact hz, q _ _ _ Ext.refl E rep_int⟩
        · cases e2
      · cases e2
  | dvm =>
    refine CallR.imp (r := fun xs H Q => ∃ i j, xs = [.int i, .int j] ∧ dvB i j = true ∧ ∀ p, H p = none → Q (.ref p) (upd H p (.tup [.int (i / j), .int (i % j)]))) ?_ fun vs H Q q => ?_
    · intro pins s σ H xs us Q I r h
      obtain ⟨i, j, rfl, hc, q⟩ := h
      obtain ⟨h1, h2⟩ := dvB_ok hc
      exact call_divmodW pins s σ H _ us Q I r ⟨i, j, rfl, ⟨h1, h2⟩, q⟩
    · obtain ⟨r, h, xs, z, E, p, e, q⟩ := q
      obtain ⟨x, y, e1, e2⟩ := b2_some e
      obtain ⟨i, j, e3, e4, e5⟩ := int2_some e2
      clear e e2
      subst e1 e3 e4
      obtain ⟨v, u, rfl, p1, p2⟩ := reps2 p
      split at e5
      · rename_i hd
        cases e5
        simp only [Rep] at p1 p2
        subst p1 p2
        refine ⟨i, j, rfl, hd, fun p hp => ?_⟩
        obtain ⟨x1, x2, x3⟩ := new_tup (cA := cA) (cF := cF) (xs := [.int (i / j), .int (i % j)]) (vs := [.int (i / j), .int (i % j)]) E hp (by simp only [Reps]; exact ⟨_, _, rfl, rep_int, _, _, rfl, rep_int, rfl⟩)
        exact q _ _ _ x1 x2 x3
      · cases e5
  | abs =>
    refine CallR.imp call_abs fun vs H Q q => ?_
    obtain ⟨r, h, xs, z, E, p, e, q⟩ := q
    obtain ⟨x, e1, e2⟩ := b1_some e
    obtain ⟨i, e3, e4⟩ := int1_some e2
    clear e e2
    cases e4
    subst e1 e3
    obtain ⟨v, rfl, p1⟩ := reps1 p
    simp only [Rep] at p1
    subst p1
    exact ⟨i, rfl, q _ _ _ Ext.refl E rep_int⟩
  | max2 =>
    refine CallR.imp (call_max2 hc) fun vs H Q q => ?_
    obtain ⟨r, h, xs, z, E, p, e, q⟩ := q
    obtain ⟨x, y, e1, e2⟩ := b2_some e
    obtain ⟨i, j, e3, e4, e5⟩ := int2_some e2
    clear e e2
    cases e5
    subst e1 e3 e4
    obtain ⟨v, u, rfl, p1, p2⟩ := reps2 p
    simp only [Rep] at p1 p2
    subst p1 p2
    exact ⟨i, j, rfl, q _ _ _ Ext.refl E rep_int⟩
  | min2 =>
    refine CallR.imp (call_min2 hc) fun vs H Q q => ?_
    obtain ⟨r, h, xs, z, E, p, e, q⟩ := q
    obtain ⟨x, y, e1, e2⟩ := b2_some e
    obtain ⟨i, j, e3, e4, e5⟩ := int2_some e2
    clear e e2
    cases e5
    subst e1 e3 e4
    obtain ⟨v, u, rfl, p1, p2⟩ := reps2 p
    simp only [Rep] at p1 p2
    subst p1 p2
    exact ⟨i, j, rfl, q _ _ _ Ext.refl E rep_int⟩
  | int1 =>
    refine CallR.imp (L2.CallR.or call_int1 call_int_str) fun vs H Q q => ?_
    obtain ⟨r, h, xs, z, E, p, e, q⟩ := q
    obtain ⟨x, e1, e2⟩ := b1_some e
    clear e
    subst e1
    obtain ⟨v, rfl, p1⟩ := reps1 p
    unfold toI at e2
    split at e2
    · cases e2
      simp only [Rep] at p1
      subst p1
      exact .inl (.inl ⟨_, rfl, q _ _ _ Ext.refl E rep_int⟩)
    · split at e2
      · rename_i hz
        obtain ⟨n, e3, e4⟩ := Option.map_eq_some_iff.mp e2
        subst e4
        simp only [Rep] at p1
        subst p1
        exact .inr ⟨_, n, rfl, e3, hz, q _ _ _ Ext.refl E rep_int⟩
      · cases e2
    · cases e2
      simp only [Rep] at p1
      subst p1
      exact .inl (.inr ⟨_, rfl, q _ _ _ Ext.refl E rep_int⟩)
    · cases e2
  | str1 =>
    refine CallR.imp call_str_int fun vs H Q q => ?_
    obtain ⟨r, h, xs, z, E, p, e, q⟩ := q
    obtain ⟨x, e1, e2⟩ := b1_some e
    clear e
    subst e1
    obtain ⟨v, rfl, p1⟩ := reps1 p
    unfold strI at e2
    split at e2
    · split at e2
      · rename_i hz
        cases e2
        simp only [Rep] at p1
        subst p1
        exact ⟨_, rfl, hz, q _ _ _ Ext.refl E rep_str⟩
      · cases e2
    · cases e2
  | list1 =>
    refine CallR.imp call_list_of fun vs H Q q => ?_
    obtain ⟨r, h, xs, z, E, p, e, q⟩ := q
    obtain ⟨x, e1, e2⟩ := b1_some e
    obtain ⟨ys, e3, e4⟩ := Option.map_eq_some_iff.mp e2
    clear e
    subst e1 e4
    obtain ⟨v, rfl, p1⟩ := reps1 p
    obtain ⟨a, us, rfl, h1, h2⟩ := seq_ok E e3 p1
    refine ⟨a, us, rfl, h1, fun l hl => ?_⟩
    obtain ⟨x1, x2, x3⟩ := new_lst E hl h2
    exact q _ _ _ x1 x2 x3
  | sum1 =>
    refine CallR.imp (cr_sum hc) fun vs H Q q => ?_
    obtain ⟨r, h, xs, z, E, p, e, q⟩ := q
    obtain ⟨x, e1, e2⟩ := b1_some e
    obtain ⟨ys, e3, e4⟩ := Option.bind_eq_some_iff.mp e2
    obtain ⟨is, e5, e6⟩ := Option.map_eq_some_iff.mp e4
    clear e
    subst e1 e6
    obtain ⟨v, rfl, p1⟩ := reps1 p
    obtain ⟨a, us, rfl, l1, q1⟩ := getL_ok E e3 p1
    rw [intsOf_ok _ _ e5] at q1
    have := reps_ints _ _ q1
    subst this
    exact ⟨a, is, rfl, sq_of l1, q _ _ _ Ext.refl E rep_int⟩
  | all1 =>
    refine CallR.imp (cr_all hc) fun vs H Q q => ?_
    obtain ⟨r, h, xs, z, E, p, e, q⟩ := q
    obtain ⟨x, e1, e2⟩ := b1_some e
    obtain ⟨ys, e3, e4⟩ := Option.bind_eq_some_iff.mp e2
    obtain ⟨is, e5, e6⟩ := Option.map_eq_some_iff.mp e4
    clear e
    subst e1 e6
    obtain ⟨v, rfl, p1⟩ := reps1 p
    obtain ⟨a, us, rfl, l1, q1⟩ := getL_ok E e3 p1
    rw [blsOf_ok _ _ e5] at q1
    have := reps_bls _ _ q1
    subst this
    exact ⟨a, is, rfl, sq_of l1, q _ _ _ Ext.refl E rep_bl⟩
  | max1 =>
    refine CallR.imp (cr_max hc) fun vs H Q q => ?_
    obtain ⟨r, h, xs, z, E, p, e, q⟩ := q
    obtain ⟨x, e1, e2⟩ := b1_some e
    obtain ⟨ys, e3, e4⟩ := Option.bind_eq_some_iff.mp e2
    obtain ⟨is, e5, e6⟩ := Option.bind_eq_some_iff.mp e4
    clear e
    cases is with
    | nil => cases e6
    | cons i is =>
      simp only [mxV, Option.some.injEq] at e6
      subst e1 e6
      obtain ⟨v, rfl, p1⟩ := reps1 p
      obtain ⟨a, us, rfl, l1, q1⟩ := getL_ok E e3 p1
      rw [intsOf_ok _ _ e5] at q1
      have := reps_ints _ _ q1
      subst this
      refine ⟨a, i :: is, rfl, sq_of l1, by simp, fun m hm hx => ?_⟩
      obtain ⟨k1, k2, k3⟩ := mxL_ok is i
      have em : m = mxL i is := by
        have a1 : mxL i is ≤ m := by
          rcases k1 with k | k
          · rw [k]; exact hx _ (List.mem_cons_self ..)
          · exact hx _ (List.mem_cons_of_mem _ k)
        have a2 : m ≤ mxL i is := by
          rcases List.mem_cons.mp hm with k | k
          · rw [k]; exact k2
          · exact k3 _ k
        omega
      rw [em]
      exact q _ _ _ Ext.refl E rep_int

/-! ### types asked -/
def rTy (K : PySem.W.Frag) (cA : Nat → Addr) (cF : Nat → List Str) (g : HP → MV → Option Bool) (c : V) : List V → Hp → VK → Prop := fun vs H Q =>
  ∃ r h x v b, Emb K cA cF H r h ∧ vs = [v, c] ∧ Rep K cA cF H r x v ∧ g h x = some b ∧ Q (.bl b) H
/-- what the classes of exceptions say -/
structure ExF (K : PySem.W.Frag) (cA : Nat → Addr) (T : Tab) : Prop where
  exc : ∀ c, T.exc c = true → ExcC K (cA c)
  ve : ∀ c, T.exc c = true → PySem.W.kitOne K (.ref (cA c)) (.type "ValueError") = some (T.ve c)
  sub : ∀ c d, T.exc c = true → T.exc d = true → PySem.W.kitOne K (.ref (cA c)) (.ref (cA d)) = some (T.sub c d)
  osub : ∀ c d, T.obj c = true → T.obj d = true → PySem.W.kitOne K (.ref (cA c)) (.ref (cA d)) = some (T.sub c d)
  oi : ∀ c, T.obj c = true → PySem.W.findIn K (.ref (cA c)) "__class__" = some (some (.builtin "object.__class__")) ∧ PySem.W.specialIn K (.builtin "object.__class__") "__get__" = some (some (.builtin "getset_descriptor.__get__")) ∧ PySem.W.takesIn K (.builtin "object.__class__") = some true ∧ PySem.W.mroIn K (cA c) (.type "object") = some true
  non : ∀ d, T.exc d = true → PySem.W.kitOne K (.type "NoneType") (.ref (cA d)) = some false
  em : ∀ c d, T.exc c = true → T.exc d = true → PySem.W.exmOne K (.ref (cA c)) (.ref (cA d)) = some (T.sub c d)
  rz : ∀ c, T.rz c = true → PySem.W.excIn K (cA c) [.type "ValueError", .type "Exception", .type "BaseException", .type "object"] "ValueError.__new__" = true ∧ PySem.W.subIn K (.ref (cA c)) (.type "BaseException") = some true ∧ PySem.W.typeIn K (.ref (cA c)) = some (.type "type")
theorem call_exc {D a : Addr} {cv : Value} {c : V} {b : Bool} (C : ExcC X.K D) (hcv : ∀ u, RelV c u → u = cv) (e : PySem.W.kitOne X.K (.ref D) cv = some b) {pins : List (Addr × Obj)} {s : Shared} {σ : L2.St} {H : Hp} {us : List Value} {Q : VK}
    (I : L2.Inv X pins σ H s) (hH : H a = some (ExcV D a)) (rv : Vals [.ref a, c] us) (q : Q (.bl b) H) : wpAny (model X.prog X.w) X.A (call (.builtin "isinstance") us) (EP X pins σ Q) X.xe s := by
  cases rv with
  | cons rx rr =>
    cases rr with
    | cons rt rr =>
      cases rr
      cases rx
      have ec := hcv _ rt
      subst ec
      have x := I.hok a _ hH
      obtain ⟨⟨oe, vs, hget, hz, hv⟩, _, _⟩ := x
      have J : PySem.W.InstAt s.heap a oe D none := by
        obtain ⟨oc, od, oda, osl⟩ := oe
        obtain ⟨h1, h2⟩ := hz
        dsimp only at h1 h2 hv
        subst h1 h2 hv
        exact ⟨hget, rfl, rfl, trivial⟩
      exact PySem.W.kia_one (PySem.W.handS_kitx_exc C.hg C.hk C.hs C.hd C.ha C.hn C.ht C.hm) I.kIn J e (fun z => nomatch z) fun tk => ⟨.bl b, H, I.kept (t' := tk) fun _ _ z => z, rfl, q⟩
theorem kit_tys {K : PySem.W.Frag} {t n : String} (ht : t ∈ "NoneType" :: tyNs) (hn : n ∈ tyNs) : PySem.W.kitOne K (.type t) (.type n) = some (n == t || (n == "int" && t == "bool")) := by
  simp only [tyNs, List.mem_cons, List.not_mem_nil, or_false] at ht hn
  rcases ht with rfl | rfl | rfl | rfl | rfl | rfl <;> rcases hn with rfl | rfl | rfl | rfl | rfl <;> exact kit_ty (by decide +kernel)
theorem FzL.ty {K : PySem.W.Frag} {H : Hp} {r : List Addr} {a : Addr} {vs : List V} (h : FzL K H r a vs) : TyX K H (.ref a) (.type "list") := by
  rcases h with ⟨_, h | ⟨o, h⟩⟩ | ⟨its, n, h, _⟩
  · exact .base (.lst h)
  · exact .base (.frz h)
  · exact .kList h rfl
/-- isinstance(x, n), n a built-in type -/
theorem isT_ok {T : Tab} (F : ExF X.K cA T) (n : String) : CallR X (.builtin "isinstance") (rTy X.K cA cF (fun h x => isTV T h x n) (.ty n)) := by
  intro pins s σ H us ws Q I rv q
  obtain ⟨r, h, x, v, b, E, rfl, p, e, q⟩ := q
  have base : ∀ {t : String}, t ∈ "NoneType" :: tyNs → TyX X.K H v (.type t) → (if n ∈ tyNs then some (n == t || (n == "int" && t == "bool")) else none) = some b → wpAny (model X.prog X.w) X.A (call (.builtin "isinstance") ws) (EP X pins σ Q) X.xe s := by
    intro t ht ty e
    split at e
    · rename_i hn
      cases e
      exact call_isi pins s σ H _ ws Q I rv ⟨v, .ty n, _, _, _, rfl, .ty n, ty, kit_tys ht hn, q⟩
    · cases e
  have go : ∀ {t : String}, t ∈ "NoneType" :: tyNs → TyX X.K H v (.type t) → ∀ {o : Option Bool}, o = some b → o = (if n ∈ tyNs then some (n == t || (n == "int" && t == "bool")) else none) → wpAny (model X.prog X.w) X.A (call (.builtin "isinstance") ws) (EP X pins σ Q) X.xe s :=
    fun ht ty _ e1 e2 => base ht ty (e2.symm.trans e1)
  have side : ∀ {t : String} {c : Bool}, (n ∈ tyNs → c = (n == t || (n == "int" && t == "bool"))) → (if n ∈ tyNs then some c else none) = (if n ∈ tyNs then some (n == t || (n == "int" && t == "bool")) else none) := by
    intro t c hc
    by_cases hn : n ∈ tyNs
    · rw [if_pos hn, if_pos hn, hc hn]
    · rw [if_neg hn, if_neg hn]
  have all : ∀ {t : String} {c : String → Bool}, (∀ m ∈ tyNs, c m = (m == t || (m == "int" && t == "bool"))) → (if n ∈ tyNs then some (c n) else none) = (if n ∈ tyNs then some (n == t || (n == "int" && t == "bool")) else none) := fun hc => side (fun hn => hc n hn)
  cases x with
  | non => simp only [Rep] at p; subst p; exact go (t := "NoneType") (by decide) (.base .non) e (all (c := fun _ => false) (by decide))
  | bl k => simp only [Rep] at p; subst p; exact go (t := "bool") (by decide) (.base (.bl k)) e (all (c := fun n => n == "int" || n == "bool") (by decide))
  | int i => simp only [Rep] at p; subst p; exact go (t := "int") (by decide) (.base (.int i)) e (all (c := fun n => n == "int") (by decide))
  | str i => simp only [Rep] at p; subst p; exact go (t := "str") (by decide) (.base (.str i)) e (all (c := fun n => n == "str") (by decide))
  | tup xs =>
    simp only [Rep] at p
    obtain ⟨a, vs, rfl, ⟨_, h1⟩, h2⟩ := p
    exact go (t := "tuple") (by decide) (.base (.tup h1)) e (all (c := fun n => n == "tuple") (by decide))
  | lst xs =>
    simp only [Rep] at p
    obtain ⟨a, vs, rfl, h1, h2⟩ := p
    exact go (t := "list") (by decide) h1.ty e (all (c := fun n => n == "list") (by decide))
  | ref i =>
    have e0 : isTV T h (.ref i) n = some b := e
    simp only [isTV] at e0
    cases hg : h[i]? with
    | none => rw [hg] at e0; cases e0
    | some o =>
      rw [hg] at e0
      cases o with
      | ins c fs => cases e0
      | dic kvs => cases e0
      | lst ys =>
        have g1 : getL h (.ref i) = some ys := by simp only [getL, hg]
        obtain ⟨a, vs, rfl, l1, q1⟩ := getL_ok E g1 p
        have ty : TyX X.K H (.ref a) (.type "list") := l1.elim (fun z => .base (.lst z)) (fun z => z.ty)
        exact go (t := "list") (by decide) ty e0 (all (c := fun n => n == "list") (by decide))
  | obj c xs => simp only [isTV] at e; cases e
  | exc c xs =>
    simp only [Rep] at p
    obtain ⟨a, rfl, ⟨_, h1⟩, h2⟩ := p
    simp only [isTV] at e
    split at e
    · rename_i hc
      simp only [Bool.and_eq_true, decide_eq_true_eq] at hc
      cases e
      obtain ⟨rfl, hc⟩ := hc
      exact call_exc (c := .ty "ValueError") (cv := .type "ValueError") (F.exc c hc) (fun u ru => (show u = Value.type "ValueError" from ru)) (F.ve c hc) I h1 rv q
    · cases e
/-- isinstance(x, C), C an own class of exceptions -/
theorem isC_ok {T : Tab} (F : ExF X.K cA T) (hob : ∀ d, T.obj d = true → Cls X.K (cA d)) (d : Nat) : CallR X (.builtin "isinstance") (rTy X.K cA cF (fun _ x => isCV T x d) (.ref (cA d))) := by
  intro pins s σ H us ws Q I rv q
  obtain ⟨r, h, x, v, b, E, rfl, p, e, q⟩ := q
  replace e : isCV T x d = some b := e
  unfold isCV at e
  split at e
  · split at e
    · rename_i _ _ c xs hc
      simp only [Bool.and_eq_true] at hc
      cases e
      simp only [Rep] at p
      obtain ⟨a, rfl, ⟨_, h1⟩, h2⟩ := p
      exact call_exc (c := .ref (cA d)) (cv := .ref (cA d)) (F.exc c hc.1) (fun u ru => (show u = Value.ref (cA d) from ru)) (F.sub c d hc.1 hc.2) I h1 rv q
    · cases e
  · split at e
    · rename_i _ _ c xs hc
      simp only [Bool.and_eq_true] at hc
      cases e
      simp only [Rep] at p
      obtain ⟨a, dx, vs, rfl, ⟨_, h1⟩, h2⟩ := p
      obtain ⟨i1, i2, i3, i4⟩ := F.oi c hc.1
      exact call_isi pins s σ H _ ws Q I rv ⟨.ref a, .ref (cA d), _, _, _, rfl, .own _, .base (.ins h1 (hob c hc.1) i1 i2 i3 i4), F.osub c d hc.1 hc.2, q⟩
    · cases e
  · split at e
    · rename_i hd
      cases e
      simp only [Rep] at p
      subst p
      exact call_isi pins s σ H _ ws Q I rv ⟨.non, .ref (cA d), _, _, _, rfl, .own _, .base .non, F.non d hd, q⟩
    · cases e
  · cases e

/-! ### a row of classes asked -/
def rTyT (K : PySem.W.Frag) (cA : Nat → Addr) (cF : Nat → List Str) (g : MV → Option Bool) (cs : List V) : List V → Hp → VK → Prop := fun vs H Q =>
  ∃ r h x v tp b, Emb K cA cF H r h ∧ vs = [v, .ref tp] ∧ H tp = some (.tup cs) ∧ Rep K cA cF H r x v ∧ g x = some b ∧ Q (.bl b) H
theorem kitAny_exc {K : PySem.W.Frag} {T : Tab} (F : ExF K cA T) {c : Nat} {xs : List MV} : ∀ {ds : List Nat} {b : Bool}, isCsV T (.exc c xs) ds = some b → (ds ≠ [] → T.exc c = true) ∧ PySem.W.kitAny K (.ref (cA c)) (ds.map fun d => Value.ref (cA d)) = some b
  | [], b, e => by simp only [isCsV, Option.some.injEq] at e; subst e; exact ⟨fun z => absurd rfl z, rfl⟩
  | d :: ds, b, e => by
    simp only [isCsV] at e
    split at e
    · rename_i hc
      simp only [Bool.and_eq_true] at hc
      obtain ⟨b2, e1, e2⟩ := Option.map_eq_some_iff.mp e
      obtain ⟨_, k⟩ := kitAny_exc F e1
      refine ⟨fun _ => hc.1, ?_⟩
      rw [List.map_cons]
      unfold PySem.W.kitAny
      rw [F.sub c d hc.1 hc.2]
      cases q : T.sub c d with
      | true => rw [q] at e2; simp at e2; subst e2; rfl
      | false => rw [q] at e2; simp at e2; subst e2; exact k
    · cases e
theorem kitAny_non {K : PySem.W.Frag} {T : Tab} (F : ExF K cA T) : ∀ {ds : List Nat} {b : Bool}, isCsV T .non ds = some b → PySem.W.kitAny K (.type "NoneType") (ds.map fun d => Value.ref (cA d)) = some b
  | [], b, e => by simp only [isCsV, Option.some.injEq] at e; subst e; rfl
  | d :: ds, b, e => by
    simp only [isCsV] at e
    split at e
    · rename_i hc
      rw [List.map_cons]
      unfold PySem.W.kitAny
      rw [F.non d hc]
      exact kitAny_non F e
    · cases e
theorem vals_cls : ∀ (ds : List Nat), Paired ClsV (ds.map fun d => V.ref (cA d)) (ds.map fun d => Value.ref (cA d))
  | [] => .nil
  | d :: ds => .cons (.own _) (vals_cls ds)
theorem isCs_ok {T : Tab} (F : ExF X.K cA T) (ds : List Nat) (hne : ds ≠ []) : CallR X (.builtin "isinstance") (rTyT X.K cA cF (fun x => isCsV T x ds) (ds.map fun d => V.ref (cA d))) := by
  intro pins s σ H us ws Q I rv q
  obtain ⟨r, h, x, v, tp, b, E, rfl, hT, p, e, q⟩ := q
  replace e : isCsV T x ds = some b := e
  cases x with
  | exc c xs =>
    obtain ⟨hc, k⟩ := kitAny_exc F e
    simp only [Rep] at p
    obtain ⟨a, rfl, ⟨_, h1⟩, h2⟩ := p
    have C := F.exc c (hc hne)
    cases rv with
    | cons rx rr =>
      cases rr with
      | cons rt rr =>
        cases rr
        cases rx
        rename_i u2
        cases (show u2 = Value.ref tp from rt)
        obtain ⟨_, its, rvs, o, g1, g2, n, g3⟩ := (show ObjOk X.prog X.w H s.heap tp (.tup (ds.map fun d => V.ref (cA d))) from I.hok tp _ hT)
        have e3 := ClsV.all (vals_cls ds) rvs
        subst e3
        obtain ⟨oc, od, dt, sl⟩ := o
        simp only at g2 g3
        subst g2 g3
        have x := I.hok a _ h1
        obtain ⟨⟨oe, vs, hget, hz, hv⟩, _, _⟩ := x
        have J : PySem.W.InstAt s.heap a oe (cA c) none := by
          obtain ⟨oc, od, oda, osl⟩ := oe
          obtain ⟨h1, h2⟩ := hz
          dsimp only at h1 h2 hv
          subst h1 h2 hv
          exact ⟨hget, rfl, rfl, trivial⟩
        exact PySem.W.kia_tup (PySem.W.handS_kitx_exc C.hg C.hk C.hs C.hd C.ha C.hn C.ht C.hm) I.kIn J g1 k (fun z => nomatch z) fun tk => ⟨.bl b, H, I.kept (t' := tk) fun _ _ z => z, rfl, q⟩
  | non =>
    simp only [Rep] at p
    subst p
    exact call_isiT pins s σ H _ ws Q I rv ⟨.non, tp, _, _, _, b, rfl, hT, vals_cls ds, .base .non, kitAny_non F e, q⟩
  | _ =>
    cases ds with
    | nil => exact absurd rfl hne
    | cons d ds => simp [isCsV] at e

/-! ### making an instance where __init__ is object's -/
theorem run_make0 {C : Addr} {pins : List (Addr × Obj)} {σ : L2.St} {H : Hp} {s : Shared} {Q : VK} (hm : PySem.W.makesIn X.K C = true) (hi : PySem.W.findIn X.K (.ref C) "__init__" = some (some (.builtin "object.__init__")))
    (I : L2.Inv X pins σ H s) (h : ∀ x dx, H x = none → H dx = none → dx ≠ x → Q (.ref x) (upd (upd H dx (.own x)) x (.ins C dx []))) : wpAny (model X.prog X.w) X.A (call (.ref C) []) (EP X pins σ Q) X.xe s := by
  have hq := h (s.heap.objs.size + 1) s.heap.objs.size (I.hok.fresh (Nat.le_succ _)) (I.hok.fresh (Nat.le_refl _)) (Nat.ne_of_lt (Nat.lt_succ_self _))
  have I2 := L2.Inv.made (C := C) I
  have Y := PySem.W.makes_of (M := model X.prog X.w) I.kIn hm
  obtain ⟨hh, g, d, t, os⟩ := s
  refine wpAny_call (make_map0 (s := ⟨hh, g, d, t, os⟩) I.kIn hm hi (fun self => PySem.W.Looks.of_pure (PySem.W.oi_bind self)) ?_)
  have ob : ((hh.push PySem.W.emptyDict).push (PySem.W.instObj C hh.objs.size)).get? (hh.objs.size + 1) = some (PySem.W.instObj C hh.objs.size) := by
    have := Heap.get?_push_size (hh.push PySem.W.emptyDict) (o := PySem.W.instObj C hh.objs.size) rfl
    rwa [Heap.size_push] at this
  have t1 : PySem.W.Looks (model X.prog X.w) ((hh.push PySem.W.emptyDict).push (PySem.W.instObj C hh.objs.size)) (typeOf (.ref (hh.objs.size + 1))) (.ref C) := (PySem.W.Looks.ld ob).andThen .now
  have t2 : PySem.W.Looks (model X.prog X.w) ((hh.push PySem.W.emptyDict).push (PySem.W.instObj C hh.objs.size)) (isInstance (.ref (hh.objs.size + 1)) (.type "object")) true := t1.andThen (Y.top.keeps fun b o e => Heap.get?_push_of_some _ (Heap.get?_push_of_some _ e))
  refine codeAny_call_builtin PySem.W.oi_plain PySem.W.entry_oi (@PySem.W.check_slot (model X.prog X.w) _ _ _ "object.__init__" "object" "__init__" (.ref (hh.objs.size + 1)) [] [] _ PySem.W.oi_kind PySem.W.oi_split t2 (PySem.W.oi_args (.ref (hh.objs.size + 1))) ?_)
  rw [PySem.W.oi_run]
  exact wpAny_pure (And.intro rfl ⟨V.ref (hh.objs.size + 1), _, I2, rfl, hq⟩)

/-! ### what holds of the program where the text runs -/
structure Fc (P : Program) (w : World) (K : PySem.W.Frag) (mg : Str → Option Value) (base : Heap) (cA : Nat → Addr) (cF : Nat → List Str) (T : Tab) (C : Nat → List MV → HP → R MV) (k : Nat) (c : Ck) : Prop where
  fn : ∀ (f : Nat) x, c.fa f = some (some x) → ∃ a fd ps, FnOk P w K mg base (L2.CX P w) k a fd ps (spR K cA cF C f) ∧ mg x = some (.ref a) ∧ PySem.W.keepIn K (.ref a) = true ∧ Binds K fd ps []
  free : ∀ x ∈ c.free, mg x = none
  gi : ∀ x i, (x, i) ∈ c.gI → ∃ t, mg x = some (.int i t)
  gs : ∀ x i, (x, i) ∈ c.gS → ∃ t, mg x = some (.str i t)
  cl : ∀ (d : Nat) x, c.cnm[d]? = some x → mg x = some (.ref (cA d)) ∧ PySem.W.keepIn K (.ref (cA d)) = true
  ex : ExF K cA T
  fl : cF = T.fld
  ob : ∀ d, T.obj d = true → Cls K (cA d) ∧ ∀ f ∈ T.fld d, NoAttr K (cA d) f
  mt : ∀ d m g, T.obj d = true → T.mth d m = some g → m ∉ T.fld d ∧ ∃ a fd ps, FnOk P w K mg base (L2.CX P w) k a fd ps (spR K cA cF C g) ∧ Meth K (cA d) m a ∧ Binds K fd ps []
  mtC : ∀ d m g, T.obj d = true → T.mth d m = some g → m ∉ T.fld d ∧ ∃ a fd ps, FnOk P w K mg base (L2.CX P w) k a fd ps (spR K cA cF C (g + 100000)) ∧ Meth K (cA d) m a ∧ Binds K fd ps []
  mkI : ∀ d g, T.obj d = true → T.ini d = some g → ∃ a fd ps, FnOk P w K mg base (L2.CX P w) k a fd ps (spR K cA cF C g) ∧ Mk K (cA d) a ∧ Binds K fd ps []
  m0 : ∀ d, T.n0 d = true → PySem.W.makesIn K (cA d) = true ∧ PySem.W.findIn K (.ref (cA d)) "__init__" = some (some (.builtin "object.__init__"))
structure Gd (X : Cx) (c : Ck) (k : Nat) : Prop where
  hN : X.N = c.N
  sc : X.env.scope = c.sc
  rm : Room (k + 1) X.A
  calm : X.calm = true
  nd : X.N.Nodup
  deep : Deep X

theorem vis_of {sc : Scope} {x : Str} (h : visB sc x = true) : Vis sc x := by
  unfold visB at h
  unfold Vis
  split at h
  · exact .inl (by assumption)
  · exact .inr (.inl (by assumption))
  · exact .inr (.inr (by assumption))
  · cases h
theorem gl_of {c : Ck} {k : Nat} (G : Gd X c k) {x : Str} (h : glB c.sc x = true) : Gl X x ∧ (x == ("__debug__" : Str)) = false := by
  unfold glB at h
  simp only [Bool.and_eq_true, decide_eq_true_eq, Bool.not_eq_true'] at h
  refine ⟨?_, h.2⟩
  show X.env.scope.names.lookup x = _
  rw [G.sc]; exact h.1
theorem star_cons {e : Expr} {es : List Expr} {env : Env} (h : noStar e = true) : starEach (e :: es) env = (false, eval e env) :: starEach es env := by
  cases e <;> first | rfl | cases h
theorem star_any {c : Ck} {env : Env} {pos : Pos} : ∀ {es : Es} {xs : List Expr}, ckEs c es xs = true → (backTo pos (starEach xs env)).any (·.1) = false
  | .nil, [], _ => rfl
  | .nil, _ :: _, h => by simp [ckEs] at h
  | .cons a es, [], h => by simp [ckEs] at h
  | .cons a es, x :: xs, h => by
    simp only [ckEs, Bool.and_eq_true] at h
    have ih := star_any (env := env) (pos := pos) h.2
    rw [star_cons h.1.1]
    show (false || (backTo pos (starEach xs env)).any (·.1)) = false
    rw [ih]; rfl
theorem pe_callS0 {CX : CXT} {k : Nat} {f : Addr} {fd : FuncData} {ps : List Str} {sp : Sp} {E : L2.St → XK} {x : Str} {p pos : Pos} (F : FnOk X.prog X.w X.K X.mg X.base CX k f fd ps sp) (hr : Room k X.A) (hg : Gl X x) (hm : X.mg x = some (.ref f)) (hk : PySem.W.keepIn X.K (.ref f) = true) (hb : Binds X.K fd ps []) (hx : ∀ σ, PassesAt CX X σ (E σ))
    (hdb : (x == ("__debug__" : Str)) = false) : PE X (.Call (.Name x p) [] [] pos) (tCallS sp E tNil) := by
  refine ⟨fun pins s σ H Q I h => ?_⟩
  refine wpAny_Call_Name_kw (ld_glob I hg hm ?_ hdb)
  exact PySem.W.callWith_K0 I.kIn hk (run_fnS (us := []) F hr hb (hx σ) I .nil h)
theorem pe_make0N {C : Addr} {x : Str} {p pos : Pos} (hm : PySem.W.makesIn X.K C = true) (hi : PySem.W.findIn X.K (.ref C) "__init__" = some (some (.builtin "object.__init__"))) (hk : PySem.W.keepIn X.K (.ref C) = true)
    (hg : Gl X x) (hmg : X.mg x = some (.ref C)) (hdb : (x == ("__debug__" : Str)) = false) :
    PE X (.Call (.Name x p) [] [] pos) (fun σ H Q => ∀ x dx, H x = none → H dx = none → dx ≠ x → Q (.ref x) (upd (upd H dx (.own x)) x (.ins C dx []))) := by
  refine ⟨fun pins s σ H Q I h => ?_⟩
  refine wpAny_Call_Name_kw (ld_glob I hg hmg ?_ hdb)
  exact PySem.W.callWith_K0 I.kIn hk (run_make0 hm hi I h)
/-- C(..) with its own __init__; what is let out, by the slots -/
def tMakeS (C : Addr) (sp : Sp) (E : L2.St → XK) (t : TA) : TE := fun σ H Q => t σ H fun vs H1 => ∀ x dx, H1 x = none → H1 dx = none → dx ≠ x →
  sp (.ref x :: vs) (upd (upd H1 dx (.own x)) x (.ins C dx [])) (fun v H2 => v = .non ∧ Q (.ref x) H2) (E σ)
section
variable {CX : CXT} {k : Nat} {f C : Addr} {fd : FuncData} {ps : List Str} {sp : Sp} {E : L2.St → XK} {x m : Str} {p pos apos : Pos} {e o : Expr} {es : List Expr} {ta : TE} {t : TA}
theorem run_makeS {pins : List (Addr × Obj)} {σ : L2.St} {H : Hp} {s : Shared} {Q : VK} {us : List Value} {vs : List V} (M : Mk X.K C f) (F : FnOk X.prog X.w X.K X.mg X.base CX k f fd ps sp) (hr : Room (k + 1) X.A) (hb : Binds X.K fd ps [])
    (hx : PassesAt CX X σ (E σ)) (I : L2.Inv X pins σ H s) (r : Vals vs us)
    (h : ∀ x dx, H x = none → H dx = none → dx ≠ x → sp (.ref x :: vs) (upd (upd H dx (.own x)) x (.ins C dx [])) (fun v H2 => v = .non ∧ Q (.ref x) H2) (E σ)) :
    wpAny (model X.prog X.w) X.A (call (.ref C) us) (EP X pins σ Q) X.xe s := by
  have hq := h (s.heap.objs.size + 1) s.heap.objs.size (I.hok.fresh (Nat.le_succ _)) (I.hok.fresh (Nat.le_refl _)) (Nat.ne_of_lt (Nat.lt_succ_self _))
  have I2 := L2.Inv.made (C := C) I
  have r2 : Vals (V.ref (s.heap.objs.size + 1) :: vs) (Value.ref (s.heap.objs.size + 1) :: us) := .cons rfl r
  have hl : (Value.ref (s.heap.objs.size + 1) :: us).length = ps.length := by
    rw [← r2.length]; exact F.len _ _ _ _ hq
  have b := hb { s with heap := (s.heap.push PySem.W.emptyDict).push (PySem.W.instObj C s.heap.objs.size) } (Value.ref (s.heap.objs.size + 1) :: us) I2.kIn (by rw [List.append_nil]; exact hl)
  rw [List.append_nil] at b
  refine wpAny_call (make_map (f := f) I.kIn M.makes M.init (beq_iff_eq.mp M.fn) (codeAny_mono (F.run _ X.stack _ _ ⟨Value.ref (s.heap.objs.size + 1) :: us, []⟩ (Value.ref (s.heap.objs.size + 1) :: us) _ _ (E σ) (hr.make C us [])
    (I2.env0.make C us []) b r2 hq) fun r s' hq' => ?_))
  cases r with
  | error e => exact hx pins _ _ e s' I2 hq'
  | ok fl =>
    cases fl with
    | ret u =>
      obtain ⟨v, H', I3, rv, ev, q3⟩ := I2.after hq'
      subst ev
      exact ⟨rv, ⟨V.ref (s.heap.objs.size + 1), H', I3, rfl, q3⟩⟩
    | next => exact False.elim hq'
    | brk => exact False.elim hq'
    | cont => exact False.elim hq'
theorem pe_makeS (M : Mk X.K C f) (F : FnOk X.prog X.w X.K X.mg X.base CX k f fd ps sp) (hr : Room (k + 1) X.A) (hg : Gl X x) (hm : X.mg x = some (.ref C)) (hb : Binds X.K fd ps []) (hx : ∀ σ, PassesAt CX X σ (E σ))
    (ha : PA X (e :: es) t) (hdb : (x == ("__debug__" : Str)) = false) (he : starEach (e :: es) X.env = (false, eval e X.env) :: starEach es X.env) (hpl : (backTo pos (starEach es X.env)).any (·.1) = false) :
    PE X (.Call (.Name x p) (e :: es) [] pos) (tMakeS C sp E t) := by
  refine ⟨fun pins s σ H Q I h => ?_⟩
  refine wpAny_Call_Name_kw (ld_glob I hg hm ?_ hdb)
  refine PySem.W.callWith_K (h₀ := X.base) I.ok.mod.kin M.kp (thn (ha.run pos pins s σ H _ I h) fun us s1 ⟨vs, H1, I1, r, q⟩ => ⟨I1.kIn, ?_⟩) he hpl
  exact run_makeS M F hr hb (hx σ) I1 r q
theorem pe_makeS0 (M : Mk X.K C f) (F : FnOk X.prog X.w X.K X.mg X.base CX k f fd ps sp) (hr : Room (k + 1) X.A) (hg : Gl X x) (hm : X.mg x = some (.ref C)) (hb : Binds X.K fd ps []) (hx : ∀ σ, PassesAt CX X σ (E σ))
    (hdb : (x == ("__debug__" : Str)) = false) : PE X (.Call (.Name x p) [] [] pos) (tMakeS C sp E tNil) := by
  refine ⟨fun pins s σ H Q I h => ?_⟩
  refine wpAny_Call_Name_kw (ld_glob I hg hm ?_ hdb)
  exact PySem.W.callWith_K0 I.kIn M.kp (run_makeS (us := []) M F hr hb (hx σ) I .nil h)
/-- a method's call, the class by what o is -/
structure MSel (X : Cx) (CX : CXT) (k : Nat) (m : Str) (E : L2.St → XK) (C : Addr) (sp : Sp) : Prop where
  cls : Cls X.K C
  fn : ∃ f fd ps, Meth X.K C m f ∧ FnOk X.prog X.w X.K X.mg X.base CX k f fd ps sp ∧ Binds X.K fd ps []
def tMethS2 (X : Cx) (CX : CXT) (k : Nat) (m : Str) (E : L2.St → XK) (ta : TE) (t : TA) : TE := fun σ H Q => ta σ H fun x H1 => ∃ a C dx fs sp, x = .ref a ∧ H1 a = some (.ins C dx fs) ∧ fs.lookup m = none ∧ MSel X CX k m E C sp ∧
  t σ H1 fun vs H2 => sp (x :: vs) H2 Q (E σ)
theorem pe_methS2 {pl : Sem Bool} (he : PE X o ta) (hr : Room k X.A) (hx : ∀ σ, PassesAt CX X σ (E σ)) (ha : PA X (e :: es) t)
    (hst : starEach (e :: es) X.env = (false, eval e X.env) :: starEach es X.env) (hpl : (backTo pos (starEach es X.env)).any (·.1) = false)
    (ht : eval (.Call (.Attribute o m apos) (e :: es) [] pos) X.env = (do
      let ov ← eval o X.env
      standAt apos.atName
      let (f, first) ← holding [ov] (getMethod ov m pl)
      callWith pos f first (backTo pos (starEach (e :: es) X.env)) (backToKw pos (keywordEach [] X.env)))) :
    PE X (.Call (.Attribute o m apos) (e :: es) [] pos) (tMethS2 X CX k m E ta t) := by
  refine ⟨fun pins s σ H Q I h => ?_⟩
  refine PySem.W.methodCall_KW (pl := pl) (thn (he.run pins s σ H _ I h) fun u s1 ⟨x, H1, I1, rx, a, C, dx, fs, sp, ex, ea, l, M, q⟩ => ?_) ht
  subst ex
  obtain rfl : u = Value.ref a := rx
  obtain ⟨f, fd, ps, hm, F, hb⟩ := M.fn
  refine getmeth_ok I1 ea M.cls hm l ?_
  refine PySem.W.callWith_K (first := [.ref a]) (h₀ := X.base) I.ok.mod.kin hm.kp (thn (ha.run pos pins s1 σ H1 _ I1 q) fun us s2 ⟨vs, H2, I2, r, q2⟩ => ⟨I2.kIn, ?_⟩) hst hpl
  exact run_fnS (us := .ref a :: us) (vs := .ref a :: vs) F hr hb (hx σ) I2 (.cons rfl r) q2
theorem pe_methS20 {pl : Sem Bool} (he : PE X o ta) (hr : Room k X.A) (hx : ∀ σ, PassesAt CX X σ (E σ))
    (ht : eval (.Call (.Attribute o m apos) [] [] pos) X.env = (do
      let ov ← eval o X.env
      standAt apos.atName
      let (f, first) ← holding [ov] (getMethod ov m pl)
      callWith pos f first (backTo pos (starEach [] X.env)) (backToKw pos (keywordEach [] X.env)))) :
    PE X (.Call (.Attribute o m apos) [] [] pos) (tMethS2 X CX k m E ta tNil) := by
  refine ⟨fun pins s σ H Q I h => ?_⟩
  refine PySem.W.methodCall_KW (pl := pl) (thn (he.run pins s σ H _ I h) fun u s1 ⟨x, H1, I1, rx, a, C, dx, fs, sp, ex, ea, l, M, q⟩ => ?_) ht
  subst ex
  obtain rfl : u = Value.ref a := rx
  obtain ⟨f, fd, ps, hm, F, hb⟩ := M.fn
  refine getmeth_ok I1 ea M.cls hm l ?_
  exact PySem.W.callWith_K0 (first := [.ref a]) I1.kIn hm.kp (run_fnS (us := [.ref a]) (vs := [.ref a]) F hr hb (hx σ) I1 (.cons rfl .nil) q)
end
theorem meth_eval {o : Expr} {m : Str} {args : List Expr} {pos apos : Pos} {env : Env} (hb : attributeBase o m env (eval o env) = eval o env)
    (hf : methodCallForm (args.length + ([] : List Keyword).length) (backTo pos (starEach args env)) (backToKw pos (keywordEach [] env)) = true) (hl : (apos.endLine == pos.line) = true) :
    eval (.Call (.Attribute o m apos) args [] pos) env = (do
      let ov ← eval o env
      standAt apos.atName
      let (f, first) ← holding [ov] (getMethod ov m (do return (← importBound o env).getD true))
      callWith pos f first (backTo pos (starEach args env)) (backToKw pos (keywordEach [] env))) := by
  have e : eval (.Call (.Attribute o m apos) args [] pos) env = (do
      let ov ← attributeBase o m env (eval o env)
      standAt apos.atName
      methodCall o m apos pos env ov (args.length + ([] : List Keyword).length) (backTo pos (starEach args env)) (backToKw pos (keywordEach [] env))) := rfl
  rw [e, hb]
  have k : ∀ ov, methodCall o m apos pos env ov (args.length + ([] : List Keyword).length) (backTo pos (starEach args env)) (backToKw pos (keywordEach [] env)) = (do
      let (f, first) ← holding [ov] (getMethod ov m (do return (← importBound o env).getD true))
      callWith pos f first (backTo pos (starEach args env)) (backToKw pos (keywordEach [] env))) := fun ov => by
    unfold methodCall
    rw [hf]
    unfold calleeOf methodCallPos
    rw [hl]
    rfl
  simp only [k]
theorem few_of {env : Env} {pos : Pos} {args : List Expr} (h : (backTo pos (starEach args env)).any (·.1) = false) (hl : args.length < 29) : methodCallForm (args.length + ([] : List Keyword).length) (backTo pos (starEach args env)) (backToKw pos (keywordEach [] env)) = true := by
  have a : (backTo pos (starEach args env)).all (!·.1) = true := by
    rw [List.all_eq_true]
    intro x hx
    have := List.any_eq_false.mp h x hx
    simpa using this
  unfold methodCallForm
  rw [a]
  have b : (backToKw pos (keywordEach [] env)).all (·.1.isSome) = true := rfl
  have c : (backToKw pos (keywordEach [] env)).isEmpty = true := rfl
  rw [b, c]
  simp only [Bool.true_and, if_true, decide_eq_true_eq]
  show args.length + 0 + 0 < 30
  omega
def tCs (cs : List V) : TA := fun _ H Q => Q cs H
end
end Rm

/-! Rm, part L: an exception out of a comprehension's element. -/
namespace Rm
open PySem L2 PySem.Spec PyProof.Rows
section
variable {X : Cx} {W : WX}
def noW : WX := fun _ _ _ _ => False
theorem takes_no : Takes X noW := fun u s' ⟨a, B, sI, pins, σ, H, cls, d, e, I, nb, up, sky, na, os, ag, w⟩ => w.elim
/-! ### exceptions in a comprehension -/
/-- an exception in the air, or held by our frame -/
def XF (X : Cx) (W : WX) (u : Value) (s' : Shared) : Prop :=
  ∃ (a : Addr) (B : Heap) (sI : Shared) (pins : List (Addr × Obj)) (σ : L2.St) (H : Hp) (cls : Value) (d : Option Addr),
    u = .ref a ∧ L2.Inv X pins σ H sI ∧ (∀ b o, sI.heap.get? b = some o → b ∉ frs X.stack → B.get? b = some o) ∧ sI.heap.UpToSlots s'.heap ∧
      (HandSPX.FlyingZ B X.stack a (Zc cls d) s'.heap ∨ ∃ L, X.env.frame = some L ∧ HandSPX.HeldZ B X.stack a (Zc cls d) L s'.heap) ∧ H a = none ∧ s'.os = sI.os ∧ AllBare s'.gens ∧ W cls d σ H
def TakesF (X : Cx) (W : WX) : Prop := ∀ u s', XF X W u s' → X.xe u s'
theorem takesF_of (hf : X.env.frame = some X.env.locals) (tk : Takes X W) : TakesF X W := fun u s' ⟨a, B, sI, pins, σ, H, cls, d, e, I, nb, up, sky, r⟩ =>
  tk u s' ⟨a, B, sI, pins, σ, H, cls, d, e, I, nb, up, sky.elim (fun z => .inr (.inl z)) (fun ⟨L, e, z⟩ => by rw [hf] at e; cases e; exact .inr (.inr z)), r⟩
theorem takesF_no : TakesF X noW := fun u s' ⟨a, B, sI, pins, σ, H, cls, d, e, I, nb, up, sky, na, os, ag, w⟩ => w.elim
theorem fly_only {B0 B1 : Heap} {l l' : List Env} {a L : Addr} {Z0 Z1 : Obj → Prop} {h : Heap} (fl : HandSPX.FlyingZ B0 l' a Z0 h) (sk : Sky B1 l a Z1 L h) : HandSPX.FlyingZ B1 l a Z1 h := by
  obtain ⟨_, _, _, oe, vs, T, oT, ts, he, hz, hd, h1, hnT, hTe, hT, hdT, h3⟩ := fl
  rcases sk with ⟨_, _, _, oe', vs', he', _, hd', h1'⟩ | z | ⟨_, _, _, oe', vs', T', oT', ts', he', _, hd', h1', _, _, hT', hdT', h3'⟩
  · rw [he] at he'; cases he'; rw [hd] at hd'; cases hd'; rw [h1] at h1'; cases h1'
  · exact z
  · rw [he] at he'; cases he'; rw [hd] at hd'; cases hd'; rw [h1] at h1'; cases h1'; rw [hT] at hT'; cases hT'; rw [hdT] at hdT'; cases hdT'; rw [h3] at h3'; simp [rawInt] at h3'
theorem passF (tk : TakesF X W) (σ : L2.St) : PassesAt (L2.CX X.prog X.w) X σ (WE W σ) := fun _ _ s e s' I c => by
  obtain ⟨a0, B0, c0, d0, e0, fl⟩ : ∃ a B cls d, e = .ref a ∧ HandSPX.FlyingZ B X.stack a (Zc cls d) s'.heap := let ⟨a, B, H', cls, d, e1, fl, _⟩ := c; ⟨a, B, cls, d, e1, fl⟩
  subst e0
  obtain ⟨a, B, sI, pins, σ', H, cls, d, e1, I1, nb, up, sky, r⟩ := XE.of_call (W := W) I (fun _ _ _ h => h) c
  cases e1
  exact tk _ _ ⟨a0, B, sI, pins, σ', H, cls, d, rfl, I1, nb, up, .inl (fly_only fl sky), r⟩
/-- the block's context, with what it lets out -/
abbrev blkX (X : Cx) (s : Shared) (H : Hp) (scope : Scope) (cenv : Env) (fp : List Addr) (xe : Value → Shared → Prop) : Cx := { X.blk s H scope cenv fp with xe := xe }
theorem Inv.toXe {pins : List (Addr × Obj)} {σ : L2.St} {H : Hp} {s : Shared} (xe : Value → Shared → Prop) (I : L2.Inv X pins σ H s) : L2.Inv { X with xe := xe } pins σ H s :=
  ⟨⟨I.ok.mod, I.ok.kind, I.ok.glob, I.ok.blt, I.ok.above, I.ok.inj, I.ok.has, I.ok.cab, I.ok.hd, I.ok.frames, I.ok.stk, I.ok.exf, I.ok.bs, I.ok.bsz, I.ok.noex, I.ok.exfs, I.ok.funs, I.ok.frf⟩, I.os, I.bare, I.base, I.loc, I.cell, I.free, I.freeC, I.pin, I.hok, I.len⟩
/-- what the block lets out is handed on -/
theorem blk_takes {pins : List (Addr × Obj)} {σ : L2.St} {H3 : Hp} {s3 : Shared} {scope : Scope} {ce : Env} {fp : List Addr} (tk : TakesF X W) (fr : ∃ env l L, X.stack = env :: l ∧ env.frame = some L ∧ X.env.frame = some L)
    (I3 : L2.Inv X pins σ H3 s3) (hfp : ∀ b ∈ fp, FpOk X pins H3 b) (cL : ce.locals = s3.heap.objs.size) (cf : ce.frame = X.env.frame) :
    TakesF (blkX X s3 H3 scope ce fp (notedBy (model X.prog X.w) X.A ce (CompFails (model X.prog X.w) X.A X.xe ce))) (fun cls d _ H' => W cls d σ H') := by
  intro u s' ⟨a, B, sI, pins', σ', H', cls, d, e, IB, nb, up, sky, na, os, ag, w⟩
  subst e
  obtain ⟨env0, l, L, hst, hf0, hf⟩ := fr
  have hst' : (blkX X s3 H3 scope ce fp (notedBy (model X.prog X.w) X.A ce (CompFails (model X.prog X.w) X.A X.xe ce))).stack = env0 :: l := hst
  have hfr : X.A.frames = some (env0 :: l) := by
    have z := I3.ok.frames
    rw [hst] at z; exact z
  show wpAny (model X.prog X.w) X.A (noteFrame (.ref a) ce) (fun _ s'' => CompFails (model X.prog X.w) X.A X.xe ce (.ref a) s'') (CompFails (model X.prog X.w) X.A X.xe ce) s'
  rw [noteFrame_env _ (cf.trans (hf.trans hf0.symm))]
  have nC : H' ce.locals = none := IB.free
  have fC : FpOk X pins H' ce.locals := I3.fpOk (Nat.le_of_eq cL.symm) nC
  have I7 : L2.Inv X pins σ H' sI := I3.call' (ch := fp) IB.os IB.base IB.hok IB.bare fun b hb => ⟨(hfp b hb).2.2.2.1, (hfp b hb).2.1, (hfp b hb).2.2.2.2.1, (hfp b hb).2.2.2.2.2⟩
  have I8 : L2.Inv X pins σ H' { sI with heap := PySem.W.hideAll sI.heap [ce.locals] } :=
    I7.turned (t' := sI.toks) (it := ce.locals) (fun b o hb e => PySem.W.hideAll_get _ e (by simpa using hb)) fC.1 fC.2.1 fC.2.2.2.1 fC.2.2.2.2.1 fC.2.2.2.2.2
  have hid : ∀ (G : Heap) b o, (PySem.W.hideAll G [ce.locals]).get? b = some o → b ≠ ce.locals := fun G b o e z => by
    rw [PySem.W.hideAll_none (h := G) [ce.locals] (by rw [z]; exact List.mem_cons_self)] at e
    cases e
  have fin : ∀ h1, HandSPX.HeldZ B (env0 :: l) a (Zc cls d) L h1 → s'.heap.UpToSlots h1 → CompFails (model X.prog X.w) X.A X.xe ce (.ref a) { s' with heap := h1 } := by
    rintro h1 ⟨b1, b0, f1, oe, vs, T, oT, ts, he, hz, hd, h1', hnT, hTe, hT, hdT, h3⟩ up1
    obtain ⟨m, hn, _⟩ := IB.loc
    have hn1 : h1.Ns ce.locals m := Heap.Ns.upToSlots hn (up.trans up1)
    refine ⟨m, hn1, fun h2 m2 hn2 hs2 => ?_⟩
    have ne : ∀ b o vs, h1.get? b = some o → o.data = .fields vs → b ≠ ce.locals := by
      rintro b o vs e q rfl
      obtain ⟨oL, es, ep, hoL, hdL, _⟩ := hn1
      rw [hoL] at e; cases e; rw [hdL] at q; cases q
    have he2 := (hs2.2 a (ne _ _ _ he hd)).trans he
    have hT2 := (hs2.2 T (ne _ _ _ hT hdT)).trans hT
    have no' : ∀ b, B.get? b = none → (PySem.W.hideAll B [ce.locals]).get? b = none := fun b q => by
      cases z : (PySem.W.hideAll B [ce.locals]).get? b with
      | none => rfl
      | some o => rw [PySem.W.of_hideAll _ z] at q; cases q
    have st2 : (PySem.W.hideAll B [ce.locals]).StaysIn h2 := fun b o e => (hs2.2 b (hid _ b o e)).trans (b1 b o (PySem.W.of_hideAll _ e))
    have f2 : h2.FunFrames B (env0 :: l) := Heap.FunFrames.sameBut hs2 hn2 f1
    have f3 : h2.FunFrames (PySem.W.hideAll B [ce.locals]) (env0 :: l) := funFrames_none f2 fun b hb => no' b (f2.mem hb).1
    unfold PySem.passOn
    refine wpAny_bind (wpAny_field he2 hd h1' ?_)
    rw [if_neg (show ¬ ((Value.ref T == Value.none) = true) from by simp)]
    have fin2 : wpAny (model X.prog X.w) X.A (setFlight (.ref a) ce.frame) (fun _ s4 => wpAny (model X.prog X.w) X.A (throw (.ref a) : Sem Value) (fun _ _ => False) X.xe s4) X.xe { s' with heap := h2 } := by
      rw [cf, hf]
      refine HandSPX.setFlight_anyZ (base := PySem.W.hideAll B [ce.locals]) (l := env0 :: l) (Z := Zc cls d) (fl := rawInt L) st2 f3 ⟨oe, vs, T, oT, ts, he2, hz, hd, h1', no' T hnT, hTe, hT2, hdT, h3⟩ fun h4 k1 k2 k3 k4 => wpAny_throw (tk _ _ ?_)
      refine ⟨a, PySem.W.hideAll B [ce.locals], { sI with heap := PySem.W.hideAll sI.heap [ce.locals] }, pins, σ, H', cls, d, rfl, I8, fun b o e hb => ?_, fun b o e hnf => ?_, .inr ⟨L, hf, ?_⟩, na, os, ag, w⟩
      · exact PySem.W.hideAll_get _ (nb b o (PySem.W.of_hideAll _ e) hb) (by simpa using hid _ b o e)
      · obtain ⟨sl, e1⟩ := (up.trans up1) b o (PySem.W.of_hideAll _ e) hnf
        exact (fun b o e hnf => k4 b o e hnf : h2.UpToSlots h4) b _ ((hs2.2 b (hid _ b o e)).trans e1) hnf |>.imp fun sl' q => q
      · rw [hst]
        exact ⟨k1, no' a b0, k2, k3⟩
    first
      | exact wpAny_bind (wpAny_pure (wpAny_bind fin2))
      | exact wpAny_bind fin2
  rcases sky with fl | ⟨L', e', hh⟩
  · rw [hst'] at fl
    exact HandSPX.looks_onZ Zc.steady hfr hf0 fl fun h1 hh up' => fin h1 hh up'
  · have e' : ce.frame = some L' := e'
    rw [cf, hf] at e'
    cases e'
    rw [hst'] at hh
    exact HandSPX.againZ hf0 hh.2.2.2 (fin s'.heap hh (Heap.UpToSlots.refl _))
theorem lcx_core {pins : List (Addr × Obj)} {s : Shared} {σ : L2.St} {H : Hp} {Q : VK} {elt tg iter : Expr} {ifs : List Expr} {scope : Scope} {own : List (Str × Nat)} {pos pos' : Pos} {wi : TI} {g : TG} {tt : TT} {te : TE} {use : Option (Value → Sem Unit)} {Qf : Value → Shared → Prop}
    (hc : X.calm = true) (hN : X.N.Nodup) (tk : TakesF X W) (fr : ∃ env l L, X.stack = env :: l ∧ env.frame = some L ∧ X.env.frame = some L) (I : L2.Inv X pins σ H s) (hi : PI X tg iter wi) (ok : BlkOk X.N X.env.scope scope own)
    (hg : ∀ (s : Shared) (H : Hp) (C : Addr) (cl : List (Str × Addr)) (fp : List Addr) (xe : Value → Shared → Prop), PG (blkX X s H scope (compEnvC scope cl C X.env) fp xe) tg g) (ht : ∀ (s : Shared) (H : Hp) (C : Addr) (cl : List (Str × Addr)) (fp : List Addr) (xe : Value → Shared → Prop), PTs (blkX X s H scope (compEnvC scope cl C X.env) fp xe) ifs tt)
    (he : ∀ (s : Shared) (H : Hp) (C : Addr) (cl : List (Str × Addr)) (fp : List Addr) (xe : Value → Shared → Prop), TakesF (blkX X s H scope (compEnvC scope cl C X.env) fp xe) (fun cls d _ H' => W cls d σ H') → PE (blkX X s H scope (compEnvC scope cl C X.env) fp xe) elt te) (hs : ∀ x, foldedSetIterable iter X.env x = pure x)
    (h : tLc wi g tt te (own.map (·.2)) σ H Q)
    (hRR : ∀ D (ce : Env) s' m H', L2.Inv X pins σ H' s' → Q (.ref D) H' → s'.heap.Ns ce.locals m → FpOk X pins H' ce.locals → compEnds (model X.prog X.w) X.A X.xe use Qf (.ref D) ce (.ok .next) s') :
    wpAny (model X.prog X.w) X.A (comprehension (.ListComp elt [⟨tg, iter, ifs, 0⟩] scope pos) scope X.env pos' (newList []) false (eval iter X.env) use) Qf X.xe s := by
  have hfree : ∀ y ∈ scope.names, y.2 = .free → ∃ c, X.env.cells.lookup y.1 = some c := fun y hy e => by
    rcases ok.free y hy e with k | k
    · exact I.ok.has _ (.inl k)
    · exact I.ok.has _ (.inr k)
  refine comprehension_at (use := use) rfl hs (closure_ok hfree) ok.kind (fun y hy e => by rw [ok.uniq y hy, e])
    (thn (hi.run pins s σ H _ I h) fun xv s1 hx => thn hx fun itv s2 h2 => ?_)
  obtain ⟨it, fp, tn, J, H2, e, I2, Tk, st2, f2, q⟩ := h2
  subst e
  refine wpAny_newObj_type (newEnv_comp ?_) (by show 0 ≤ sizeLine; decide)
  generalize hD : s2.heap.objs.size = D
  have hDn : H2 D = none := I2.hok.fresh (Nat.le_of_eq hD)
  obtain ⟨Wi, ⟨m0, w0⟩, turn⟩ := q D hDn
  generalize hs3 : ({ s2 with heap := s2.heap.push { cls := .type "list", data := .seq ([] : List Value).toArray } } : Shared) = s3
  have I3 : L2.Inv X pins σ (upd H2 D (.lst [])) s3 := by
    rw [← hs3]
    refine I2.laid (t' := s2.toks) (fun b o e => Heap.get?_push_of_some _ e) (Nat.le_of_eq hD) ⟨Nat.zero_le _, [], 0, .nil, ?_⟩
    rw [← hD]
    exact Heap.get?_push_size _ rfl
  have h3 : s3.heap = s2.heap.push { cls := .type "list", data := .seq ([] : List Value).toArray } := by rw [← hs3]
  have sz : ∀ b ∈ fp, b < s2.heap.objs.size := fun b hb => by
    obtain ⟨o, e, _⟩ := Tk.obj _ _ st2 b hb
    exact Heap.lt_size e
  have f3 : ∀ b ∈ fp, FpOk X pins (upd H2 D (.lst [])) b ∧ b < s3.heap.objs.size := fun b hb => by
    have hlt := sz b hb
    refine ⟨⟨?_, (f2 b hb).2⟩, by rw [h3, Heap.size_push]; exact Nat.lt_succ_of_lt hlt⟩
    rw [upd_ne (by rw [← hD]; exact Nat.ne_of_lt hlt)]
    exact (f2 b hb).1
  have st3 : tn 0 s3.heap := Tk.keep _ _ _ st2 fun b _ o e => by rw [h3]; exact Heap.get?_push_of_some _ e
  have I4 := block_start I3 ok hN f3
  show codeAny _ _ (.compStart (.ListComp elt [⟨tg, iter, ifs, 0⟩] scope pos) 0 (.ref it) (.ref D) (compEnvC scope (cellsFrom (s3.heap.objs.size + 1) scope.names (cloFrom X.env.cells scope.names [])) s3.heap.objs.size X.env)) (compEnds (model X.prog X.w) X.A X.xe use Qf (.ref D) (compEnvC scope (cellsFrom (s3.heap.objs.size + 1) scope.names (cloFrom X.env.cells scope.names [])) s3.heap.objs.size X.env)) { s3 with heap := pushCells (s3.heap.push { cls := .type "dict", data := .dict #[] }) scope.names }
  have nfp : ∀ b ∈ fp, (upd H2 D (.lst [])) b = none := fun b hb => (f3 b hb).1.1
  have pg := hg s3 (upd H2 D (.lst [])) s3.heap.objs.size (cellsFrom (s3.heap.objs.size + 1) scope.names (cloFrom X.env.cells scope.names [])) fp
  have pt := ht s3 (upd H2 D (.lst [])) s3.heap.objs.size (cellsFrom (s3.heap.objs.size + 1) scope.names (cloFrom X.env.cells scope.names [])) fp
  have pe := he s3 (upd H2 D (.lst [])) s3.heap.objs.size (cellsFrom (s3.heap.objs.size + 1) scope.names (cloFrom X.env.cells scope.names [])) fp
  have cf : (compEnvC scope (cellsFrom (s3.heap.objs.size + 1) scope.names (cloFrom X.env.cells scope.names [])) s3.heap.objs.size X.env).frame = X.env.frame := rfl
  generalize hce : compEnvC scope (cellsFrom (s3.heap.objs.size + 1) scope.names (cloFrom X.env.cells scope.names [])) s3.heap.objs.size X.env = ce at I4 pg pt pe cf ⊢
  have cL : ce.locals = s3.heap.objs.size := by subst hce; rfl
  have xeq : (fun e s' => compEnds (model X.prog X.w) X.A X.xe use Qf (.ref D) ce (.error e) s') = CompFails (model X.prog X.w) X.A X.xe ce := by
    cases use <;> rfl
  have tkB := blk_takes (scope := scope) tk fr I3 (fun b hb => (f3 b hb).1) cL cf
  have pg := pg (notedBy (model X.prog X.w) X.A ce (CompFails (model X.prog X.w) X.A X.xe ce))
  have pt := pt (notedBy (model X.prog X.w) X.A ce (CompFails (model X.prog X.w) X.A X.xe ce))
  have pe := pe _ tkB
  generalize hH3 : upd H2 D (.lst []) = H3 at I3 I4 pg pt pe w0 nfp f3
  generalize hs4 : ({ s3 with heap := pushCells (s3.heap.push { cls := .type "dict", data := .dict #[] }) scope.names } : Shared) = s4 at I4 ⊢
  have st4 : tn 0 s4.heap := Tk.keep _ _ _ st3 fun b _ o e => by rw [← hs4]; exact pushCells_keeps _ _ _ _ (Heap.get?_push_of_some _ e)
  have I4 : L2.Inv (blkX X s3 H3 scope ce fp (notedBy (model X.prog X.w) X.A ce (CompFails (model X.prog X.w) X.A X.xe ce))) [] (wipe σ (own.map (·.2))) H3 s4 := Inv.toXe (notedBy (model X.prog X.w) X.A ce (CompFails (model X.prog X.w) X.A X.xe ce)) I4
  have stat : ∀ {σ' : L2.St} {H' : Hp} {s' : Shared}, L2.Inv (blkX X s3 H3 scope ce fp (notedBy (model X.prog X.w) X.A ce (CompFails (model X.prog X.w) X.A X.xe ce))) [] σ' H' s' → (∀ b ∈ fp, H' b = none) → ∀ b ∈ fp, FpOk (blkX X s3 H3 scope ce fp (notedBy (model X.prog X.w) X.A ce (CompFails (model X.prog X.w) X.A X.xe ce))) [] H' b := by
    exact fun {σ' H' s'} I' hn b hb =>
      ⟨hn b hb, (I'.ok.exf b hb).1, I'.ok.exfs b hb, .inl hb, fun x c e => (I'.ok.exf b hb).2 x c e, fun p hp => absurd (show p ∈ ([] : List (Addr × Obj)) ++ [] from hp) (by simp)⟩
  have loop : codeAny (model X.prog X.w) X.A (.compLoop (.ListComp elt [⟨tg, iter, ifs, 0⟩] scope pos) 0 (.ref it) (.ref D) ce) (compEnds (model X.prog X.w) X.A X.xe use Qf (.ref D) ce) s4 := by
    refine compLoop_any (fun n s' => ∃ i H', L2.Inv (blkX X s3 H3 scope ce fp (notedBy (model X.prog X.w) X.A ce (CompFails (model X.prog X.w) X.A X.xe ce))) [] (wipe σ (own.map (·.2))) H' s' ∧ tn i s'.heap ∧ (∀ b ∈ fp, H' b = none) ∧ Wi i n H') ?_ m0 ⟨0, H3, I4, st4, nfp, w0⟩
    rw [xeq]
    rintro n s5 ⟨i, H5, I5, st5, n5, w5⟩
    rcases turn i n H5 w5 with ⟨stop, qq⟩ | ⟨go, Nx, hNx, step⟩
    · have td := Tk.done (blkX X s3 H3 scope ce fp (notedBy (model X.prog X.w) X.A ce (CompFails (model X.prog X.w) X.A X.xe ce))) rfl rfl rfl hc i [] s5 _ H5 (fun _ _ => False) I5 (stat I5 n5) st5 stop
      refine thnF td fun r s6 ⟨hr, I6⟩ => ?_
      subst hr
      have I7 : L2.Inv X pins σ H5 s6 := I3.call' (ch := fp) I6.os I6.base I6.hok I6.bare fun b hb => ⟨(f3 b hb).1.2.2.2.1, (f3 b hb).1.2.1, (f3 b hb).1.2.2.2.2.1, (f3 b hb).1.2.2.2.2.2⟩
      have nC : H5 ce.locals = none := I6.free
      obtain ⟨m, hn, _⟩ := I6.loc
      exact hRR D ce s6 m H5 I7 qq hn (I3.fpOk (Nat.le_of_eq cL.symm) nC)
    · have ti := Tk.item (blkX X s3 H3 scope ce fp (notedBy (model X.prog X.w) X.A ce (CompFails (model X.prog X.w) X.A X.xe ce))) rfl rfl rfl hc i [] s5 _ H5 (fun _ _ => False) I5 (stat I5 n5) st5 go
      refine thnF ti fun r s6 ⟨u, hr, h6⟩ => ?_
      subst hr
      refine thnF h6 fun _ s7 ⟨x, H7, I7, r7, y7, st7, n7⟩ => ?_
      have I7' := I7.pinned (stat I7 n7) (Tk.obj _ _ st7)
      refine thn (pg.run _ s7 _ H7 x u _ I7' r7 (step x H7 y7)) fun _ s8 ⟨σ8, H8, I8, hw8, q8⟩ => ?_
      refine thn (pt.run _ s8 σ8 H8 _ I8 q8) fun b s9 ⟨H9, I9, q9⟩ => ?_
      have fin : ∀ {s' : Shared} {H' : Hp}, L2.Inv (blkX X s3 H3 scope ce fp (notedBy (model X.prog X.w) X.A ce (CompFails (model X.prog X.w) X.A X.xe ce))) ([] ++ pinsAt fp s7.heap) σ8 H' s' → Nx H' → ∃ m, m < n ∧ ∃ i H', L2.Inv (blkX X s3 H3 scope ce fp (notedBy (model X.prog X.w) X.A ce (CompFails (model X.prog X.w) X.A X.xe ce))) [] (wipe σ (own.map (·.2))) H' s' ∧ tn i s'.heap ∧ (∀ b ∈ fp, H' b = none) ∧ Wi i m H' := fun {s' H'} I' nx => by
        obtain ⟨m', hm, w'⟩ := hNx H' nx
        have pin' : ∀ b ∈ fp, ∀ o, s7.heap.get? b = some o → s'.heap.get? b = some o ∧ H' b = none := fun b hb o e =>
          let z := I'.pin (b, o) (List.mem_append_right _ (List.mem_append_right _ (mem_pinsAt hb e)))
          ⟨z.1, z.2.1⟩
        have hl : (wipe σ (own.map (·.2))).length = σ8.length := by rw [← hw8, wipe_length]
        refine ⟨m', hm, i + 1, H', (I'.unpinned (pins := [])).weak hl (fun j v e => ?_), Tk.keep _ _ _ st7 fun b hb o e => (pin' b hb o e).1, fun b hb => ?_, w'⟩
        · rw [← hw8] at e
          exact (wipe_some e).1
        · obtain ⟨o, e, _⟩ := Tk.obj _ _ st7 b hb
          exact (pin' b hb o e).2
      cases b with
      | false =>
        simp only [Bool.false_eq_true, if_false] at q9 ⊢
        exact fin I9 q9
      | true =>
        simp only [if_true] at q9 ⊢
        refine thn (pe.run _ s9 σ8 H9 _ I9 q9) fun z s10 ⟨yv, H10, I10, r10, acc, hD10, hz10, nx⟩ => ?_
        exact app_ok (X := blkX X s3 H3 scope ce fp (notedBy (model X.prog X.w) X.A ce (CompFails (model X.prog X.w) X.A X.xe ce))) I10 hD10 hz10 r10 fun s11 I11 => fin I11 nx
  exact codeAny_compStart_list loop (Tk.self X.A 0 _ _ _ st4 loop)
/-- as a value -/
theorem pe_lcx {elt tg iter : Expr} {ifs : List Expr} {scope : Scope} {own : List (Str × Nat)} {pos : Pos} {wi : TI} {g : TG} {tt : TT} {te : WX → TE} (hc : X.calm = true) (hN : X.N.Nodup) (tk : TakesF X W) (fr : ∃ env l L, X.stack = env :: l ∧ env.frame = some L ∧ X.env.frame = some L) (hi : PI X tg iter wi) (ok : BlkOk X.N X.env.scope scope own)
    (hg : ∀ (s : Shared) (H : Hp) (C : Addr) (cl : List (Str × Addr)) (fp : List Addr) (xe : Value → Shared → Prop), PG (blkX X s H scope (compEnvC scope cl C X.env) fp xe) tg g) (ht : ∀ (s : Shared) (H : Hp) (C : Addr) (cl : List (Str × Addr)) (fp : List Addr) (xe : Value → Shared → Prop), PTs (blkX X s H scope (compEnvC scope cl C X.env) fp xe) ifs tt)
    (he : ∀ (W' : WX) (s : Shared) (H : Hp) (C : Addr) (cl : List (Str × Addr)) (fp : List Addr) (xe : Value → Shared → Prop), TakesF (blkX X s H scope (compEnvC scope cl C X.env) fp xe) W' → PE (blkX X s H scope (compEnvC scope cl C X.env) fp xe) elt (te W')) (hs : ∀ x, foldedSetIterable iter X.env x = pure x := by intro _; rfl) :
    PE X (.ListComp elt [⟨tg, iter, ifs, 0⟩] scope pos) (fun σ H Q => tLc wi g tt (te fun cls d _ H' => W cls d σ H') (own.map (·.2)) σ H Q) := by
  refine ⟨fun pins s σ H Q I h => ?_⟩
  rw [eval_ListComp]
  refine lcx_core hc hN tk fr I hi ok hg ht (he _) hs h fun D ce s' m H' I' q hn f => ⟨m, hn, fun h'' sb => ?_⟩
  obtain ⟨f0, f1, f2, f3, f4, f5⟩ := f
  exact ⟨.ref D, H', I'.turned (t' := s'.toks) (fun b o hb e => (sb.2 b hb).trans e) f0 f1 f3 f4 f5, rfl, q⟩
/-- name = [..] on one line, the name a local -/
theorem ps_setLcx {i : Nat} {y : Str} {py : Pos} {elt tg iter : Expr} {ifs : List Expr} {scope : Scope} {own : List (Str × Nat)} {pos spos : Pos} {wi : TI} {g : TG} {tt : TT} {te : WX → TE} (hc : X.calm = true) (hN : X.N.Nodup) (tk : TakesF X W) (fr : ∃ env l L, X.stack = env :: l ∧ env.frame = some L ∧ X.env.frame = some L) (hy : X.N[i]? = some y) (hyl : X.env.scope.names.lookup y = some .local)
    (hsw : swapsWith (.ListComp elt [⟨tg, iter, ifs, 0⟩] scope pos) (some (.Name y py)) spos.line X.env = pure true) (hi : PI X tg iter wi) (ok : BlkOk X.N X.env.scope scope own)
    (hg : ∀ (s : Shared) (H : Hp) (C : Addr) (cl : List (Str × Addr)) (fp : List Addr) (xe : Value → Shared → Prop), PG (blkX X s H scope (compEnvC scope cl C X.env) fp xe) tg g) (ht : ∀ (s : Shared) (H : Hp) (C : Addr) (cl : List (Str × Addr)) (fp : List Addr) (xe : Value → Shared → Prop), PTs (blkX X s H scope (compEnvC scope cl C X.env) fp xe) ifs tt)
    (he : ∀ (W' : WX) (s : Shared) (H : Hp) (C : Addr) (cl : List (Str × Addr)) (fp : List Addr) (xe : Value → Shared → Prop), TakesF (blkX X s H scope (compEnvC scope cl C X.env) fp xe) W' → PE (blkX X s H scope (compEnvC scope cl C X.env) fp xe) elt (te W')) (hs : ∀ x, foldedSetIterable iter X.env x = pure x := by intro _; rfl) :
    PS X (.Assign [.Name y py] (.ListComp elt [⟨tg, iter, ifs, 0⟩] scope pos) spos) (tAsg (fun σ H Q => tLc wi g tt (te fun cls d _ H' => W cls d σ H') (own.map (·.2)) σ H Q) (gName i)) := by
  refine ⟨fun pins s σ H D I h => ?_⟩
  rw [exec_Assign_Name_used _ _ _ _ hsw]
  refine wpAny_bind (wpAny_standAt (wpAny_bind ?_))
  show wpAny _ X.A (do let _ ← comprehension (.ListComp elt [⟨tg, iter, ifs, 0⟩] scope pos) scope X.env (firstIterPos [⟨tg, iter, ifs, 0⟩] pos) (newList []) false (eval iter X.env) (some (assign (.Name y py) X.env))) _ _ s
  have h : tLc wi g tt (te fun cls d _ H' => W cls d σ H') (own.map (·.2)) σ H (fun x H1 => gName i x σ H1 D.nx) := h
  refine wpAny_bind (thn (lcx_core (Qf := fun _ s' => SP X pins D .next s') hc hN tk fr I hi ok hg ht (he _) hs h fun L ce s' m H' I' q hn f => ?_) fun _ s' hq => wpAny_pure (wpAny_pure hq))
  show wpAny _ _ (assign (.Name y py) X.env (.ref L)) _ _ _
  refine wpAny_assign_Name (store_ok2 (v := V.ref L) I' hN hy (.inl hyl) rfl (fun s2 I2 ⟨a, sb, ha⟩ => ?_) (.inr hyl))
  obtain ⟨f0, f1, f2, f3, f4, f5⟩ := f
  have haC : ce.locals ≠ a := by
    rcases ha with z | z
    · rw [z]; exact f1
    · exact fun e => f4 y a z e.symm
  refine ⟨m, hn.sameBut sb haC, fun h3 sb3 => ?_⟩
  exact ⟨_, H', I2.turned (t' := s2.toks) (fun b o hb e => (sb3.2 b hb).trans e) f0 f1 f3 f4 f5, q⟩
end
end Rm
/-! list(reversed(a list)) -/
namespace RT
open PySem PySem.Spec PyProof.Rows L2
section
variable {prog : Program} {w : World} {A : Around} {E : Value → Shared → Prop} {s : Shared}
theorem init_list_rev {it l S : Addr} {items : Array Value} {R : Result → Shared → Prop} (hh : A.handled = none) (hit : s.heap.IsRevIter it l ((items.size : Int) - 1)) (hl : s.heap.IsList l items) (hne : l ≠ it) (hn : items.size ≤ sizeLine) (hSi : S ≠ it) (hSl : S ≠ l)
    (hS : s.heap.get? S = some { cls := .type "list", data := .seq #[] })
    (hR : ∀ h' tk acc' c', (∀ b o, b ≠ S → b ≠ it → s.heap.get? b = some o → h'.get? b = some o) → h'.get? S = some { cls := .type "list", dict := none, data := .seq acc' c', slots := #[] } → ItemsOf (fun i v => items[items.size - 1 - i]? = some v) acc' items.size → R (.ok (.ret .none)) { s with heap := h', toks := tk }) :
    wpAny (model prog w) A.in1 (Builtin.«list.__init__» ⟨[.ref S, .ref it], []⟩)
      (fun fin s' => match fin with | .done f => R (.ok f) s' | .again c' => c'.quiet = true ∧ codeAny (model prog w) A c' R s') (fun e s' => R (.error e) s') s := by
  show wpAny _ _ (do let old ← Builtin.List.listItems (.ref S); Builtin.List.listUpdate (.ref S) (fun _ => #[]); letGo old.toList.reverse; Builtin.List.listExtendWith (.ref S) (.ref it) .none) _ _ s
  refine wpAny_bind ?_
  unfold Builtin.List.listItems
  refine wpAny_bind (wpAny_seqItems hS rfl (wpAny_pure ?_))
  show wpAny _ _ (updateSeq S (fun _ => #[]) >>= fun _ => letGo (#[] : Array Value).toList.reverse >>= fun _ => Builtin.List.listExtendWith (.ref S) (.ref it) .none) _ _ s
  refine wpAny_bind (wpAny_updateSeq hS rfl ?_)
  have hS₂ := Heap.get?_update_self (Obj.mapSeq (fun _ => (#[] : Array Value))) hS rfl
  have oth : ∀ b o, b ≠ S → s.heap.get? b = some o → (s.heap.update S (Obj.mapSeq (fun _ => (#[] : Array Value)))).get? b = some o :=
    fun b o hb e => (Heap.get?_update_other _ _ (Ne.symm hb)).trans e
  refine wpAny_bind (wpAny_letGo ?_)
  have W := (Walks.listRev (prog := prog) (w := w) (A := A.in1) hh it l hne items).toS
  have hSf : S ∉ [it, l] := by simp only [List.mem_cons, List.not_mem_nil, or_false, not_or]; exact ⟨hSi, hSl⟩
  have hit1 : (s.heap.update S (Obj.mapSeq (fun _ => (#[] : Array Value)))).IsRevIter it l ((items.size : Int) - 1) := hit.at fun o e => oth _ _ (Ne.symm hSi) e
  have hl1 : (s.heap.update S (Obj.mapSeq (fun _ => (#[] : Array Value)))).IsList l items := by
    obtain ⟨o, ho, r⟩ := hl
    exact ⟨o, oth _ _ (Ne.symm hSl) ho, r⟩
  have hT : ({ s with heap := s.heap.update S (Obj.mapSeq (fun _ => (#[] : Array Value))) } : Shared).TypeIs (.ref it) "list_reverseiterator" := Heap.IsRevIter.typeIs (s := { s with heap := s.heap.update S (Obj.mapSeq (fun _ => (#[] : Array Value))) }) hit1
  have h1 : Builtin.List.listSameRef (.ref S) (.ref it) = false := by simp [Builtin.List.listSameRef, hSi]
  unfold Builtin.List.listExtendWith
  refine wpAny_bind (wpAny_typeOf hT ?_)
  rw [if_neg (by rw [h1]; decide)]
  refine wpAny_bind (wpAny_pyIter_revIter (s := { s with heap := s.heap.update S (Obj.mapSeq (fun _ => (#[] : Array Value))) }) hit1 ?_)
  refine wpAny_bind (wpAny_holding ?_)
  unfold Builtin.List.listLengthHint
  refine wpAny_bind (wpAny_specialOf hT nolen_lri ?_)
  show wpAny _ A.in1 (specialOf (Value.ref it) (Str.ofString "__length_hint__") >>= _) _ _ _
  refine wpAny_bind (wpAny_specialOf hT hint_lri ?_)
  generalize hid : ("list_reverseiterator.__length_hint__" : String) = id0
  wp_delta
  rw [show splitId id0 = some ("list_reverseiterator", "__length_hint__") from by subst hid; decide +kernel]
  subst hid
  refine wpAny_bind (wpAny_isInstance (b := true) hT (by rw [isSubtype_type]; kernel_rfl) ?_)
  refine wpAny_pure ?_
  rw [if_neg (by decide)]
  have e0 : ((items.size : Nat) : Int) - 1 - ((0 : Nat) : Int) = (items.size : Int) - 1 := by omega
  refine wpAny_pure ⟨plainId_quiet F.plain_extend_loop _, codeAny_extend_loopS W hn _ hSf _ items.size 0 _ _ _ rfl (Nat.zero_le _) ⟨Nat.zero_le _, by rw [e0]; exact hit1, hl1⟩ hS₂ (ItemsOf.nil _) fun s' acc' c' hm hS' hacc => ?_⟩
  rw [Moved.eq_with hm]
  refine hR s'.heap s'.toks acc' c' (fun b o hb hbi e => hm.heap b o (fun hmem => ?_) (oth b o hb e)) hS' hacc
  rcases List.mem_cons.mp hmem with e' | hmem
  · exact hb e'
  · exact hbi (List.mem_singleton.mp hmem)
theorem call_list_revit {it l : Addr} {items : Array Value} {Q : Value → Shared → Prop} (hh : A.handled = none) (hit : s.heap.IsRevIter it l ((items.size : Int) - 1)) (hl : s.heap.IsList l items) (hne : l ≠ it) (hn : items.size ≤ sizeLine)
    (hQ : ∀ h' tk acc' c', (∀ b o, b ≠ it → s.heap.get? b = some o → h'.get? b = some o) → h'.get? s.heap.objs.size = some { cls := .type "list", dict := none, data := .seq acc' c', slots := #[] } → ItemsOf (fun i v => items[items.size - 1 - i]? = some v) acc' items.size → Q (.ref s.heap.objs.size) { s with heap := h', toks := tk }) :
    wpAny (model prog w) A (call (.type "list") [.ref it]) Q E s := by
  obtain ⟨oi, hoi, _⟩ := id hit
  obtain ⟨ol, hol, _⟩ := id hl
  refine callType_codes (Q₁ := fun obj s₁ => obj = .ref s.heap.objs.size ∧ s₁ = { s with heap := s.heap.push { cls := .type "list", data := .seq #[] } }) PySem.F.called_list (PySem.F.typeCall_list_1 _) PySem.F.entry_list_init
    (code_list_new _ ⟨rfl, rfl⟩) fun obj s₁ h₁ => ?_
  obtain ⟨rfl, rfl⟩ := h₁
  have hS : (s.heap.push { cls := .type "list", data := .seq #[] }).get? s.heap.objs.size = some { cls := .type "list", data := .seq #[] } := Heap.get?_push_size _ rfl
  refine ⟨⟨_, hS, rfl⟩, PySem.F.args_list_init_2 _ _, init_list_rev (A := A.in1) hh (hit.at fun o e => Heap.get?_push_of_some _ e) (hl.push _) hne hn (Nat.ne_of_gt (Heap.lt_size hoi)) (Nat.ne_of_gt (Heap.lt_size hol)) hS (fun h' tk acc' c' hk hS' hacc => ?_)⟩
  exact ⟨rfl, hQ h' tk acc' c' (fun b o hb e => hk b o (Nat.ne_of_lt (Heap.lt_size e)) hb (Heap.get?_push_of_some _ e)) hS' hacc⟩
end
/-- list(reversed(x)), x a list: a new list -/
def tLstRev (K : PySem.W.Frag) (te : TE) : TE := fun σ H Q => te σ H fun v H1 => ∃ (a : Addr) (xs : List V), v = .ref a ∧ SqL K H1 a xs ∧ ∀ q, H1 q = none → Q (.ref q) (upd H1 q (.lst xs.reverse))
section
variable {X : Cx}
theorem pe_lstRev {e : Expr} {te : TE} {p p2 pos pos2 : Pos} (hc : X.calm = true) (hg : Gl X "list") (hm : X.mg "list" = none) (hg2 : Gl X "reversed") (hm2 : X.mg "reversed" = none) (he : PE X e te)
    (hs : starEach [e] X.env = (false, eval e X.env) :: starEach [] X.env := by rfl)
    (hs2 : starEach [.Call (.Name "reversed" p2) [e] [] pos2] X.env = (false, eval (.Call (.Name "reversed" p2) [e] [] pos2) X.env) :: starEach [] X.env := by rfl) :
    PE X (.Call (.Name "list" p) [.Call (.Name "reversed" p2) [e] [] pos2] [] pos) (tLstRev X.K te) := by
  refine ⟨fun pins s σ H Q I h => ?_⟩
  refine Call_ (ld_blt I hg hm boot_list (PyProof.Rows.callWith_type1 (args_cons (Call_ (ld_blt I hg2 hm2 PyProof.Rows.boot_reversed (PyProof.Rows.callWith_type1 (args_cons (thn (he.run pins s σ H _ I h) fun u s1 ⟨v, H1, I1, r1, q1⟩ => args_nil ?_) hs) hs rfl))) hs2) hs2 rfl))
  obtain ⟨a, xs, ev, hq, q⟩ := q1
  subst ev
  obtain rfl : u = Value.ref a := r1
  obtain ⟨its, rv, p', hz⟩ := I1.list hq
  refine call_reversed_list p'.isList (args_nil ?_)
  have hl := p'.isList
  obtain ⟨ol, hol, _⟩ := id hl
  have hne : a ≠ s1.heap.objs.size := Nat.ne_of_lt (Heap.lt_size hol)
  have hn : its.toArray.size ≤ sizeLine := by rw [List.size_toArray, ← rv.length]; exact hz
  refine call_list_revit (s := { s1 with heap := s1.heap.push (revObj a ((its.toArray.size : Int) - 1)) }) (I1.ok.hd hc) ⟨_, Heap.get?_push_size _ rfl, rfl, rfl⟩ (hl.push _) hne hn fun h' tk acc c' hk hS hi => ?_
  have hsz : (s1.heap.push (revObj a ((its.toArray.size : Int) - 1))).objs.size = s1.heap.objs.size + 1 := by simp [Heap.push]
  have keep : ∀ b o, s1.heap.get? b = some o → h'.get? b = some o := fun b o e => hk b o (Nat.ne_of_lt (Heap.lt_size e)) (Heap.get?_push_of_some _ e)
  refine ⟨.ref _, upd H1 (s1.heap.push (revObj a ((its.toArray.size : Int) - 1))).objs.size (.lst xs.reverse), I1.laid (t' := tk) keep (by rw [hsz]; exact Nat.le_succ _) (show ObjOk X.prog X.w _ _ _ (.lst xs.reverse) from ⟨by rw [List.length_reverse]; exact hz, acc.toList, c', vals_rev rv hi, ?_⟩), rfl, q _ (I1.hok.fresh (by rw [hsz]; exact Nat.le_succ _))⟩
  rw [Array.toArray_toList]
  exact hS
end
end RT

/-! Rm, part E: the theorem for expressions. -/
namespace Rm
open PySem L2 PySem.Spec PyProof.Rows
section
variable {K : PySem.W.Frag} {cA : Nat → Addr} {cF : Nat → List Str} {r r1 : List Addr} {H H1 : Hp} {h : HP} {e : EN} {σ : L2.St}
theorem REn.set {i : Nat} {v : MV} {V : V} (n : REn K cA cF H r e σ) (p : Rep K cA cF H r v V) : REn K cA cF H r (e.set i (some v)) (σ.set i (some V)) := by
  refine ⟨by simp [n.len], fun j u q => ?_⟩
  by_cases hj : i = j
  · subst hj
    by_cases hi : i < e.length
    · rw [List.getElem?_set_self hi] at q
      simp only [Option.some.injEq] at q
      subst q
      exact ⟨V, List.getElem?_set_self (by rw [← n.len]; exact hi), p⟩
    · rw [List.getElem?_eq_none (by simpa using hi)] at q; cases q
  · rw [List.getElem?_set_ne hj] at q
    obtain ⟨U, k1, k2⟩ := n.at_ j u q
    exact ⟨U, by rw [List.getElem?_set_ne hj]; exact k1, k2⟩
theorem REn.unset {i : Nat} {o : Option V} (n : REn K cA cF H r e σ) : REn K cA cF H r (e.set i none) (σ.set i o) := by
  refine ⟨by simp [n.len], fun j u q => ?_⟩
  by_cases hj : i = j
  · subst hj
    by_cases hi : i < e.length
    · rw [List.getElem?_set_self hi] at q; cases q
    · rw [List.getElem?_eq_none (by simpa using hi)] at q; cases q
  · rw [List.getElem?_set_ne hj] at q
    obtain ⟨U, k1, k2⟩ := n.at_ j u q
    exact ⟨U, by rw [List.getElem?_set_ne hj]; exact k1, k2⟩
end
theorem loc_of {sc : Scope} {x : Str} (h : locB sc x = true) : L2.Loc sc x := by
  unfold locB at h
  unfold L2.Loc
  split at h
  · exact .inl (by assumption)
  · exact .inr (by assumption)
  · cases h
theorem set_pl {e : Expr} {env : Env} (h : noSet e = true) : ∀ x, foldedSetIterable e env x = pure x := by
  intro x
  cases e <;> first | rfl | cases h
theorem PGimp {X : Cx} {x : Expr} {t u : TG} (p : PG X x t) (i : ∀ v σ H Q, u v σ H Q → t v σ H Q) : PG X x u := ⟨fun pins s σ H v w Q I rv q => p.run pins s σ H v w Q I rv (i v σ H Q q)⟩
theorem PGsimp {X : Cx} {x : List Expr} {t u : TGs} (p : PGs X x t) (i : ∀ v σ H Q, u v σ H Q → t v σ H Q) : PGs X x u := ⟨fun pins s σ H v w Q I rv q => p.run pins s σ H v w Q I rv (i v σ H Q q)⟩
section
variable {X : Cx} {cA : Nat → Addr} {cF : Nat → List Str} {T : Tab} {C : Nat → List MV → HP → R MV} {k : Nat} {c : Ck} {W : WX}
theorem pe_cst {x : Expr} {v : V} {m : MV} (p : PE X x (tC v)) (hm : ∀ H r, Rep X.K cA cF H r m v) : PE X x (tE X.K cA cF W fun _ h => .ok m h) :=
  PEimp p fun σ H Q q => by
    obtain ⟨r, e, h, E, n, w⟩ := q
    exact w r H v Ext.refl E (hm H r)
theorem bin_use {ea eb : EN → HP → R MV} {rr : R2} {g : HP → MV → MV → R MV} {x : Expr} (p : PE X x (tOp rr (tE X.K cA cF W ea) (tE X.K cA cF W eb)))
    (hr : ∀ r H h va vb A B Q (Y : XK), Emb X.K cA cF H r h → Rep X.K cA cF H r va A → Rep X.K cA cF H r vb B → wpR X.K cA cF r H (g h va vb) Q Y → rr A B H Q) :
    PE X x (tE X.K cA cF W fun e h => (ea e h).bind fun x h => (eb e h).bind fun y h => g h x y) :=
  PEimp p fun σ H Q q => by
    obtain ⟨r, e, h, E, n, w⟩ := q
    refine stepE E n w fun r1 H1 h1 va A x1 E1 n1 p1 w1 => ?_
    refine stepE E1 n1 w1 fun r2 H2 h2 vb B x2 E2 n2 p2 w2 => ?_
    exact hr r2 H2 h2 va vb A B Q _ E2 (Rep.mono x2 _ _ p1) p2 w2
theorem wpR_of {g : HP → MV → MV → Option MV} {r : List Addr} {H : Hp} {h : HP} {va vb : MV} {A B : V} {Q : VK} {Y : XK} (E : Emb X.K cA cF H r h) (p1 : Rep X.K cA cF H r va A) (p2 : Rep X.K cA cF H r vb B)
    (w : wpR X.K cA cF r H (R.of (g h va vb) h) Q Y) : rV2 X.K cA cF g A B H Q := by
  cases e : g h va vb with
  | none => rw [e] at w; exact w.elim
  | some z => rw [e] at w; exact ⟨r, h, va, vb, z, E, p1, p2, e, w⟩
theorem wpR_ofB {g : HP → MV → MV → Option Bool} {r : List Addr} {H : Hp} {h : HP} {va vb : MV} {A B : V} {Q : VK} {Y : XK} (E : Emb X.K cA cF H r h) (p1 : Rep X.K cA cF H r va A) (p2 : Rep X.K cA cF H r vb B)
    (w : wpR X.K cA cF r H (R.of ((g h va vb).map .bl) h) Q Y) : rB2 X.K cA cF g A B H Q := by
  cases e : g h va vb with
  | none => rw [e] at w; exact w.elim
  | some z => rw [e] at w; exact ⟨r, h, va, vb, z, E, p1, p2, e, w r H _ Ext.refl E rep_bl⟩
theorem una_use {ea : EN → HP → R MV} {rr : V → Hp → VK → Prop} {g : HP → MV → R MV} {x : Expr} (p : PE X x (tUn rr (tE X.K cA cF W ea)))
    (hr : ∀ r H h va A Q (Y : XK), Emb X.K cA cF H r h → Rep X.K cA cF H r va A → wpR X.K cA cF r H (g h va) Q Y → rr A H Q) :
    PE X x (tE X.K cA cF W fun e h => (ea e h).bind fun x h => g h x) :=
  PEimp p fun σ H Q q => by
    obtain ⟨r, e, h, E, n, w⟩ := q
    refine stepE E n w fun r1 H1 h1 va A x1 E1 n1 p1 w1 => ?_
    exact hr r1 H1 h1 va A Q _ E1 p1 w1
def tO (K : PySem.W.Frag) (cA : Nat → Addr) (cF : Nat → List Str) (W : WX) (f : EN → HP → R (Option Int)) : TO := fun σ H Q => ∃ r e h, Emb K cA cF H r h ∧ REn K cA cF H r e σ ∧ wpG K cA cF (fun _ _ (x y : Option Int) => x = y) r H (f e h) Q fun cls d H' => W cls d σ H'
theorem POimp {x : Option Expr} {t u : TO} (p : PO X x t) (i : ∀ σ H Q, u σ H Q → t σ H Q) : PO X x u := ⟨fun pins s σ H Q I q => p.run pins s σ H Q I (i σ H Q q)⟩
theorem stepO {α β : Type} {K : PySem.W.Frag} {rel : Hp → List Addr → α → β → Prop} {f : EN → HP → R (Option Int)} {k : Option Int → HP → R α} {Q : β → Hp → Prop} {Q' : Option Int → Hp → Prop} {r : List Addr} {H : Hp} {h : HP} {e : EN} {σ : L2.St}
    (E : Emb K cA cF H r h) (n : REn K cA cF H r e σ) (w : wpG K cA cF rel r H ((f e h).bind k) Q fun cls d H' => W cls d σ H')
    (cont : ∀ r1 H1 h1 x, Ext r H r1 H1 → Emb K cA cF H1 r1 h1 → REn K cA cF H1 r1 e σ → wpG K cA cF rel r1 H1 (k x h1) Q (fun cls d H' => W cls d σ H') → Q' x H1) : tO K cA cF W f σ H Q' := by
  refine ⟨r, e, h, E, n, ?_⟩
  cases q : f e h with
  | ok x h1 =>
    rw [q] at w
    intro r1 H1 V e1 e2 e3
    subst e3
    exact cont r1 H1 h1 x e1 e2 (n.mono e1) (wpG.mono e1 w)
  | exc x h1 => rw [q] at w; exact w
  | bad => rw [q] at w; exact w
theorem plix {f : Expr} (h : plIx f = true) : PlainIx f := by
  intro o i
  cases f <;> first | rfl | cases h

theorem attr_plain {o : Expr} {a : Str} {env : Env} (h : plB o = true) : attributeBase o a env (eval o env) = eval o env := by
  cases o <;> first | rfl | skip
  rename_i f xs ks pos
  cases xs with
  | nil => cases h
  | cons x xs => cases f <;> rfl
/-- a test's wish as a value's -/
theorem tt_wp {K : PySem.W.Frag} {cA : Nat → Addr} {cF : Nat → List Str} {r : List Addr} {H : Hp} {res : R MV} {Q : Bool → Hp → Prop} {Y : XK} (w : match res with
  | .ok (.bl b) h' => ∀ r' H', Ext r H r' H' → Emb K cA cF H' r' h' → Q b H'
  | .exc x h' => ∀ r' H' cls d, Ext r H r' H' → Emb K cA cF H' r' h' → RepX cA x cls d → Y cls d H'
  | _ => False) : wpR K cA cF r H res (fun x H' => ∃ k, x = .bl k ∧ Q k H') Y := by
  cases res with
  | bad => exact w
  | exc x h' => exact w
  | ok v h' =>
    cases v <;> first | exact w.elim | skip
    intro r' H' V e1 e2 e3
    simp only [Rep] at e3
    exact ⟨_, e3, w r' H' e1 e2⟩
theorem plT_ok {e : Expr} {env : Env} (h : plT e = true) : ∀ whole, isTrue e env whole = (do let v ← whole; standAt e.pos; holding [v] (truthy v)) := by
  intro whole
  cases e <;> first | rfl | cases h
theorem fin3 {x : Expr} {f : EN → HP → R MV} (p : PE X x (tE X.K cA cF W f)) (hx : plT x = true) : PE X x (tE X.K cA cF W f) ∧ (tsB x = true → PT X x (tTt X.K cA cF W f)) ∧ (isBO x = true → PW X x (tTt X.K cA cF W f)) := by
  refine ⟨p, fun _ => PTimp (pt_val p (plT_ok hx)) fun σ H Q q => ?_, fun z => ?_⟩
  · obtain ⟨r, e, h, E, n, w⟩ := q
    exact ⟨r, e, h, E, n, tt_wp w⟩
  · cases x <;> first | (cases hx; done) | (cases z; done)
theorem and_l {a b : Bool} (h : (a && b) = true) : a = true := (Bool.and_eq_true_iff.mp h).1
theorem and_r {a b : Bool} (h : (a && b) = true) : b = true := (Bool.and_eq_true_iff.mp h).2
theorem Fc.re {P : Program} {w : World} {K : PySem.W.Frag} {mg : Str → Option Value} {base : Heap} {c' : Ck} (F : Fc P w K mg base cA cF T C k c) (e1 : c'.fnm = c.fnm) (e2 : c'.cnm = c.cnm) (e3 : c'.free = c.free) (e4 : c'.gI = c.gI) (e5 : c'.gS = c.gS) : Fc P w K mg base cA cF T C k c' :=
  ⟨by unfold Ck.fa; rw [e1]; exact F.fn, by rw [e3]; exact F.free, by rw [e4]; exact F.gi, by rw [e5]; exact F.gs, by rw [e2]; exact F.cl, F.ex, F.fl, F.ob, F.mt, F.mtC, F.mkI, F.m0⟩
/-! ### what a for walks -/
structure Lk (K : PySem.W.Frag) (cA : Nat → Addr) (cF : Nat → List Str) (J : It) (src : HP → Option (List MV)) (all : List MV) (P : List Addr → Hp → Prop) : Prop where
  mono : ∀ r H r1 H1, P r H → Ext r H r1 H1 → P r1 H1
  go : ∀ r H h (i : Nat) x, P r H → Emb K cA cF H r h → src h = some all → all[i]? = some x → J.go i H ∧ ∀ V H', J.yld i H V H' → Ext r H r H' ∧ Emb K cA cF H' r h ∧ Rep K cA cF H' r x V
  stop : ∀ r H h, P r H → Emb K cA cF H r h → src h = some all → J.stop all.length H
def tI (K : PySem.W.Frag) (cA : Nat → Addr) (cF : Nat → List Str) (W : WX) (f : EN → HP → R (List MV × (HP → Option (List MV)))) : TI := fun σ H Rr => ∃ r e h, Emb K cA cF H r h ∧ REn K cA cF H r e σ ∧ (match f e h with
  | .ok p h' => ∀ r' H' J P, Ext r H r' H' → Emb K cA cF H' r' h' → P r' H' → Lk K cA cF J p.2 p.1 P → Rr J H'
  | .exc x h' => ∀ r' H' cls d, Ext r H r' H' → Emb K cA cF H' r' h' → RepX cA x cls d → W cls d σ H'
  | .bad => False)
theorem PIimp {X : Cx} {tg x : Expr} {t u : TI} (p : PI X tg x t) (i : ∀ σ H Q, u σ H Q → t σ H Q) : PI X tg x u := ⟨fun pins s σ H Q I q => p.run pins s σ H Q I (i σ H Q q)⟩
theorem pi_seq {tg l : Expr} {tl : TE} (hl : PE X l tl) : PI X tg l (fun σ H Rr => tl σ H fun x H1 => (∃ a, x = .ref a ∧ (((∃ xs, SqL X.K H1 a xs) ∧ Rr (Itl X.K a) H1) ∨ ((∃ xs, SqT X.K H1 a xs) ∧ Rr (Itt X.K a) H1))) ∨ ∃ z, x = .str z ∧ Rr (Its z) H1) := by
  refine ⟨fun pins s σ H Rr I h => ?_⟩
  refine thn (hl.run pins s σ H _ I h) fun v s1 ⟨x, H1, I1, r1, q1⟩ => ?_
  rcases q1 with q1 | ⟨z, ex, q⟩
  rotate_left
  · subst ex
    obtain ⟨t, rfl⟩ := r1
    cases ha : z.cps.all (· < 128)
    · exact wpAny_pyIter_wide ha (pi_one (tk := s1.toks) I1 _ (turn_str _ z t "str_iterator" (.inr rfl)) ⟨_, Heap.get?_push_size _ rfl, rfl, rfl⟩ q)
    · exact wpAny_pyIter_ascii ha (pi_one (tk := s1.toks) I1 _ (turn_str _ z t "str_ascii_iterator" (.inl rfl)) ⟨_, Heap.get?_push_size _ rfl, rfl, rfl⟩ q)
  obtain ⟨a, e, q1⟩ := q1
  subst e
  cases r1
  rcases q1 with ⟨⟨xs, hq⟩, q⟩ | ⟨⟨xs, hq⟩, q⟩
  · obtain ⟨its, rv, p, hz⟩ := I1.list hq
    refine wpAny_pyIter_list p.isList ?_
    refine ⟨s1.heap.objs.size, [s1.heap.objs.size], _, _, H1, rfl, I1.kept (t' := s1.toks) fun b o e => Heap.get?_push_of_some _ e, turn_list a _, ⟨_, Heap.get?_push_size _ rfl, rfl, rfl⟩, fun b hb => ?_, q⟩
    have e : b = s1.heap.objs.size := by simpa using hb
    subst e
    exact I1.fpOk (Nat.le_refl _) (I1.hok.fresh (Nat.le_refl _))
  · obtain ⟨its, rv, p, hz⟩ := I1.tuple hq
    refine wpAny_pyIter_tuple (show s1.heap.IsTuple a its.toArray from p) ?_
    refine ⟨s1.heap.objs.size, [s1.heap.objs.size], _, _, H1, rfl, I1.kept (t' := s1.toks) fun b o e => Heap.get?_push_of_some _ e, turn_tuple a _, ⟨_, Heap.get?_push_size _ rfl, rfl, rfl⟩, fun b hb => ?_, q⟩
    have e : b = s1.heap.objs.size := by simpa using hb
    subst e
    exact I1.fpOk (Nat.le_refl _) (I1.hok.fresh (Nat.le_refl _))
theorem lk_list {a : Addr} {v : MV} {all : List MV} (hv : ∀ h, seqOf h v = getL h v) : Lk X.K cA cF (Itl X.K a) (fun h => seqOf h v) all (fun r H => Rep X.K cA cF H r v (.ref a)) where
  mono := fun r H r1 H1 p x => Rep.mono x _ _ p
  go := fun r H h i x p E e q => by
    rw [hv] at e
    obtain ⟨b, vs, e1, l1, q1⟩ := getL_ok E e p
    cases e1
    obtain ⟨V, k1, k2⟩ := q1.get q
    refine ⟨⟨vs, V, sq_of l1, k1⟩, fun V' H' y => ?_⟩
    obtain ⟨rfl, y⟩ := y
    have := y vs (sq_of l1)
    rw [k1] at this
    cases this
    exact ⟨Ext.refl, E, k2⟩
  stop := fun r H h p E e => by
    rw [hv] at e
    obtain ⟨b, vs, e1, l1, q1⟩ := getL_ok E e p
    cases e1
    exact ⟨vs, sq_of l1, by rw [q1.length]; exact Nat.le_refl _⟩
theorem lk_str {z : Str} : Lk X.K cA cF (Its z) (fun _ => some (signs z)) (signs z) (fun _ _ => True) where
  mono := fun _ _ _ _ _ _ => trivial
  go := fun r H h i x _ E e q => by
    unfold signs at q
    rw [List.getElem?_map] at q
    obtain ⟨c, k1, k2⟩ := Option.map_eq_some_iff.mp q
    subst k2
    rw [Array.getElem?_toList] at k1
    refine ⟨(Array.getElem?_eq_some_iff.mp k1).1, fun V H' y => ?_⟩
    obtain ⟨rfl, c', y1, y2⟩ := y
    rw [k1] at y1
    cases y1
    rw [y2]
    exact ⟨Ext.refl, E, rep_str⟩
  stop := fun r H h _ E e => by
    show z.cps.size ≤ _
    simp [signs]
theorem lk_tup {a : Addr} {all : List MV} : Lk X.K cA cF (Itt X.K a) (fun h => seqOf h (.tup all)) all (fun r H => Rep X.K cA cF H r (.tup all) (.ref a)) where
  mono := fun r H r1 H1 p x => Rep.mono x _ _ p
  go := fun r H h i x p E e q => by
    simp only [Rep] at p
    obtain ⟨b, vs, e1, ⟨_, h1⟩, q1⟩ := p
    cases e1
    obtain ⟨V, k1, k2⟩ := q1.get q
    refine ⟨⟨vs, V, SqT.of h1, k1⟩, fun V' H' y => ?_⟩
    obtain ⟨rfl, y⟩ := y
    have := y vs (SqT.of h1)
    rw [k1] at this
    cases this
    exact ⟨Ext.refl, E, k2⟩
  stop := fun r H h p E e => by
    simp only [Rep] at p
    obtain ⟨b, vs, e1, ⟨_, h1⟩, q1⟩ := p
    cases e1
    exact ⟨vs, SqT.of h1, by rw [q1.length]; exact Nat.le_refl _⟩
theorem lk_rng {lo : Int} {n : Nat} : Lk X.K cA cF (Itr lo n) (fun _ => some ((List.range n).map fun (i : Nat) => MV.int (lo + (i : Int)))) ((List.range n).map fun (i : Nat) => MV.int (lo + (i : Int))) (fun _ _ => True) where
  mono := fun _ _ _ _ _ _ => trivial
  go := fun r H h i x _ E e q => by
    have hi : i < n := by
      have := (List.getElem?_eq_some_iff.mp q).1
      simpa using this
    refine ⟨hi, fun V H' y => ?_⟩
    rw [List.getElem?_map, List.getElem?_range hi] at q
    simp only [Option.map_some, Option.some.injEq] at q
    subst q
    obtain ⟨rfl, y⟩ := y
    rw [y]
    exact ⟨Ext.refl, E, rep_int⟩
  stop := fun r H h _ E e => by
    show n ≤ _
    simp
theorem lk_rg3 {lo c : Int} {n : Nat} : Lk X.K cA cF (Itc lo c n) (fun _ => some ((List.range n).map fun (i : Nat) => MV.int (lo + (i : Int) * c))) ((List.range n).map fun (i : Nat) => MV.int (lo + (i : Int) * c)) (fun _ _ => True) where
  mono := fun _ _ _ _ _ _ => trivial
  go := fun r H h i x _ E e q => by
    have hi : i < n := by
      have := (List.getElem?_eq_some_iff.mp q).1
      simpa using this
    refine ⟨hi, fun V H' y => ?_⟩
    rw [List.getElem?_map, List.getElem?_range hi] at q
    simp only [Option.map_some, Option.some.injEq] at q
    subst q
    obtain ⟨rfl, y⟩ := y
    rw [y]
    exact ⟨Ext.refl, E, rep_int⟩
  stop := fun r H h _ E e => by
    show n ≤ _
    simp
theorem zipM_get {xs ys : List MV} {i : Nat} {z : MV} (h : (zipM xs ys)[i]? = some z) : ∃ x y, xs[i]? = some x ∧ ys[i]? = some y ∧ z = .tup [x, y] := by
  unfold zipM at h
  rw [List.getElem?_zipWith] at h
  split at h
  · rename_i a b h1 h2
    cases h
    exact ⟨a, b, h1, h2, rfl⟩
  · cases h
theorem zipM_len (xs ys : List MV) : (zipM xs ys).length = min xs.length ys.length := by unfold zipM; simp
theorem pair_rep {K : PySem.W.Frag} {H : Hp} {r : List Addr} {x y : MV} {A B : L2.V} (h1 : Rep K cA cF H r x A) (h2 : Rep K cA cF H r y B) : Reps K cA cF H r [x, y] [A, B] := by
  simp only [Reps]
  exact ⟨A, [B], rfl, h1, B, [], rfl, h2, rfl⟩
theorem lk_zip {a b : Addr} {v u : MV} {all : List MV} : Lk X.K cA cF (Itz X.K a b) (zipS v u) all (fun r H => Rep X.K cA cF H r v (.ref a) ∧ Rep X.K cA cF H r u (.ref b)) where
  mono := fun r H r1 H1 p x => ⟨Rep.mono x _ _ p.1, Rep.mono x _ _ p.2⟩
  go := fun r H h i x p E e q => by
    unfold zipS at e
    obtain ⟨xs, e1, e⟩ := Option.bind_eq_some_iff.mp e
    obtain ⟨ys, e2, e⟩ := Option.map_eq_some_iff.mp e
    subst e
    obtain ⟨a', vs, e3, l1, q1⟩ := getL_ok E e1 p.1
    obtain ⟨b', us, e4, l2, q2⟩ := getL_ok E e2 p.2
    cases e3; cases e4
    obtain ⟨x1, y1, g1, g2, rfl⟩ := zipM_get q
    obtain ⟨V, k1, k2⟩ := q1.get g1
    obtain ⟨U, k3, k4⟩ := q2.get g2
    refine ⟨⟨vs, us, V, U, sq_of l1, sq_of l2, k1, k3⟩, fun V' H' y => ?_⟩
    obtain ⟨T, V2, U2, rfl, hT, rfl, y1, y2⟩ := y
    have z1 := y1 vs (sq_of l1)
    have z2 := y2 us (sq_of l2)
    rw [k1] at z1
    rw [k3] at z2
    cases z1; cases z2
    exact new_tup E hT (pair_rep k2 k4)
  stop := fun r H h p E e => by
    unfold zipS at e
    obtain ⟨xs, e1, e⟩ := Option.bind_eq_some_iff.mp e
    obtain ⟨ys, e2, e⟩ := Option.map_eq_some_iff.mp e
    subst e
    obtain ⟨a', vs, e3, l1, q1⟩ := getL_ok E e1 p.1
    obtain ⟨b', us, e4, l2, q2⟩ := getL_ok E e2 p.2
    cases e3; cases e4
    refine ⟨vs, us, sq_of l1, sq_of l2, ?_⟩
    rw [q1.length, q2.length, zipM_len]
    omega
theorem enmM_get : ∀ {xs : List MV} {n i : Nat} {z : MV}, (enmM n xs)[i]? = some z → ∃ x, xs[i]? = some x ∧ z = .tup [.int ((n + i : Nat) : Int), x]
  | [], n, i, z, h => by simp [enmM] at h
  | x :: xs, n, 0, z, h => by
    simp only [enmM, List.getElem?_cons_zero, Option.some.injEq] at h
    exact ⟨x, rfl, h.symm⟩
  | x :: xs, n, i + 1, z, h => by
    simp only [enmM, List.getElem?_cons_succ] at h
    obtain ⟨y, h1, h2⟩ := enmM_get h
    exact ⟨y, by simpa using h1, by rw [h2]; congr 3; omega⟩
theorem enmM_len : ∀ (xs : List MV) (n : Nat), (enmM n xs).length = xs.length
  | [], n => rfl
  | x :: xs, n => by simp only [enmM, List.length_cons, enmM_len xs]
theorem lk_enm {a : Addr} {v : MV} {all : List MV} : Lk X.K cA cF (Ite X.K a) (enmS v) all (fun r H => Rep X.K cA cF H r v (.ref a)) where
  mono := fun r H r1 H1 p x => Rep.mono x _ _ p
  go := fun r H h i x p E e q => by
    unfold enmS at e
    obtain ⟨xs, e1, e⟩ := Option.map_eq_some_iff.mp e
    subst e
    obtain ⟨a', vs, e3, l1, q1⟩ := getL_ok E e1 p
    cases e3
    obtain ⟨x1, g1, rfl⟩ := enmM_get q
    obtain ⟨V, k1, k2⟩ := q1.get g1
    refine ⟨⟨vs, V, sq_of l1, k1⟩, fun V' H' y => ?_⟩
    obtain ⟨T, V2, rfl, hT, rfl, y1⟩ := y
    have z1 := y1 vs (sq_of l1)
    rw [k1] at z1
    cases z1
    refine new_tup E hT (pair_rep ?_ k2)
    simp only [Rep, Nat.zero_add]
  stop := fun r H h p E e => by
    unfold enmS at e
    obtain ⟨xs, e1, e⟩ := Option.map_eq_some_iff.mp e
    subst e
    obtain ⟨a', vs, e3, l1, q1⟩ := getL_ok E e1 p
    cases e3
    exact ⟨vs, sq_of l1, by rw [q1.length, enmM_len]; exact Nat.le_refl _⟩
/-! ### list comprehensions -/
theorem wipe_set_comm : ∀ (vs : List Nat) (σ : L2.St) (i : Nat) (x : Option V), i ∉ vs → wipe (σ.set i x) vs = (wipe σ vs).set i x
  | [], σ, i, x, _ => rfl
  | v :: vs, σ, i, x, h => by
    simp only [List.mem_cons, not_or] at h
    unfold wipe
    rw [wipe_set_comm vs σ i x h.2, List.set_comm _ _ h.1]
theorem wipe_set : ∀ (vs : List Nat) (σ : L2.St) (i : Nat) (x : Option V), i ∈ vs → wipe (σ.set i x) vs = wipe σ vs
  | [], σ, i, x, h => by cases h
  | v :: vs, σ, i, x, h => by
    by_cases hv : i ∈ vs
    · unfold wipe
      rw [wipe_set vs σ i x hv]
    · have : i = v := by
        rcases List.mem_cons.mp h with z | z
        · exact z
        · exact absurd z hv
      subst this
      unfold wipe
      rw [wipe_set_comm vs σ i x hv, List.set_set]
theorem wipe_wipe (σ : L2.St) (ws : List Nat) : ∀ vs : List Nat, (∀ v ∈ vs, v ∈ ws) → wipe (wipe σ vs) ws = wipe σ ws
  | [], _ => rfl
  | v :: vs, h => by
    show wipe ((wipe σ vs).set v none) ws = _
    rw [wipe_set ws _ v none (h v (List.mem_cons_self ..))]
    exact wipe_wipe σ ws vs fun u hu => h u (List.mem_cons_of_mem _ hu)
theorem REn.wipe {K : PySem.W.Frag} {H : Hp} {r : List Addr} {e : EN} {σ : L2.St} (n : REn K cA cF H r e σ) : ∀ vs : List Nat, REn K cA cF H r (wipE e vs) (L2.wipe σ vs)
  | [] => n
  | v :: vs => (REn.wipe n vs).unset
def tGw (K : PySem.W.Frag) (cA : Nat → Addr) (cF : Nat → List Str) (vs : List Nat) (tg : Tg) : TG := fun V σ H Q => ∃ r e h v e', Emb K cA cF H r h ∧ REn K cA cF H r e σ ∧ Rep K cA cF H r v V ∧ setG tg v e = some e' ∧ ∀ σ', REn K cA cF H r e' σ' → L2.wipe σ' vs = L2.wipe σ vs → Q σ' H
def tGws (K : PySem.W.Frag) (cA : Nat → Addr) (cF : Nat → List Str) (vs : List Nat) (is : List Nat) : TGs := fun Vs σ H Q => ∃ r e h us e', Emb K cA cF H r h ∧ REn K cA cF H r e σ ∧ Reps K cA cF H r us Vs ∧ setT is us e = some e' ∧ ∀ σ', REn K cA cF H r e' σ' → L2.wipe σ' vs = L2.wipe σ vs → Q σ' H
theorem pgws_ok {vs : List Nat} (nd : X.N.Nodup) (hN : X.N = c.N) (sc : X.env.scope = c.sc) : ∀ (is : List Nat) (xs : List Expr), ckNw c vs is xs = true → PGs X xs (tGws X.K cA cF vs is)
  | [], xs, hh => by
    cases xs with
    | cons _ _ => simp [ckNw] at hh
    | nil =>
      refine PGsimp pgs_nil fun V σ H Q q => ?_
      obtain ⟨r, e, h, us, e', E, n, p, g, q⟩ := q
      cases us with
      | cons _ _ => simp [setT] at g
      | nil =>
        simp only [setT, Option.some.injEq] at g
        subst g
        simp only [Reps] at p
        exact ⟨p, q σ n rfl⟩
  | i :: is, xs, hh => by
    unfold ckNw at hh
    split at hh <;> first | (cases hh; done) | skip
    simp only [Bool.and_eq_true, decide_eq_true_eq] at hh
    obtain ⟨⟨⟨h1, h2⟩, h4⟩, h3⟩ := hh
    rename_i y pos ys
    have h2 : X.env.scope.names.lookup y = some .local := by rw [sc]; exact h2
    refine PGsimp (pgs_cons (pg_name (i := i) nd (by rw [hN]; exact h1) (.inl h2) (.inr h2)) (pgws_ok nd hN sc is ys h3) rfl) fun V σ H Q q => ?_
    obtain ⟨r, e, h, us, e', E, n, p, g, q⟩ := q
    cases us with
    | nil => simp [setT] at g
    | cons v us =>
      simp only [setT] at g
      simp only [Reps] at p
      obtain ⟨V1, Vs, rfl, p1, p2⟩ := p
      exact ⟨V1, Vs, rfl, r, _, h, us, e', E, n.set p1, p2, g, fun σ' n' w => q σ' n' (by rw [w, wipe_set _ _ _ _ h4])⟩
theorem assignEach_lenw {c : Ck} {vs : List Nat} {env : Env} : ∀ (is : List Nat) (xs : List Expr), ckNw c vs is xs = true → (assignEach xs env).length = is.length ∧ (assignEach xs env).findIdx? (·.1) = none
  | [], xs, hh => by
    cases xs with
    | cons _ _ => simp [ckNw] at hh
    | nil => exact ⟨rfl, rfl⟩
  | i :: is, xs, hh => by
    unfold ckNw at hh
    split at hh <;> first | (cases hh; done) | skip
    simp only [Bool.and_eq_true] at hh
    obtain ⟨a, b⟩ := assignEach_lenw (env := env) is _ hh.2
    rename_i y pos ys
    refine ⟨?_, ?_⟩
    · show (_ :: assignEach ys env).length = _
      rw [List.length_cons, a, List.length_cons]
    · show List.findIdx? _ (_ :: assignEach ys env) = none
      rw [List.findIdx?_cons, b]; rfl
theorem pgw_ok {vs : List Nat} (hc : X.calm = true) (nd : X.N.Nodup) (hN : X.N = c.N) (sc : X.env.scope = c.sc) (tg : Tg) (x : Expr) (hh : ckGw c vs tg x = true) : PG X x (tGw X.K cA cF vs tg) := by
  cases tg with
  | one i =>
    simp only [ckGw] at hh
    split at hh <;> first | (cases hh; done) | skip
    simp only [Bool.and_eq_true, decide_eq_true_eq] at hh
    obtain ⟨⟨h1, h2⟩, h4⟩ := hh
    rename_i y pos
    have h2 : X.env.scope.names.lookup y = some .local := by rw [sc]; exact h2
    refine PGimp (pg_name (i := i) nd (by rw [hN]; exact h1) (.inl h2) (.inr h2)) fun V σ H Q q => ?_
    obtain ⟨r, e, h, v, e', E, n, p, g, q⟩ := q
    simp only [setG, Option.some.injEq] at g
    subst g
    exact q _ (n.set p) (wipe_set _ _ _ _ h4)
  | tup is =>
    simp only [ckGw] at hh
    split at hh <;> first | (cases hh; done) | skip
    obtain ⟨a, b⟩ := assignEach_lenw (env := X.env) is _ hh
    rename_i kk pp
    have P1 := pg_tup (k := kk) (pos := pp) hc (pgws_ok (cA := cA) (cF := cF) nd hN sc is _ hh) a b
    have P2 := pg_lst (k := kk) (pos := pp) hc (pgws_ok (cA := cA) (cF := cF) nd hN sc is _ hh) a b
    have hl : ∀ (is : List Nat) (us : List MV) (e e' : EN), setT is us e = some e' → us.length = is.length := by
      intro is
      induction is with
      | nil => intro us e e' g; cases us with | nil => rfl | cons _ _ => simp [setT] at g
      | cons i is ih => intro us e e' g; cases us with | nil => simp [setT] at g | cons v us => simp only [setT] at g; simp [ih us _ _ g]
    refine ⟨fun pins s σ H V u Q I rr q => ?_⟩
    obtain ⟨r, e, h, v, e', E, n, p, g, q⟩ := q
    cases v <;> first | (simp only [setG] at g; cases g; done) | skip
    · simp only [setG] at g
      simp only [Rep] at p
      obtain ⟨ad, Vs, rfl, ⟨_, p1⟩, p2⟩ := p
      exact P1.run pins s σ H _ u Q I rr ⟨ad, Vs, rfl, SqT.of p1, by rw [p2.length]; exact hl _ _ _ _ g, r, e, h, _, e', E, n, p2, g, q⟩
    · simp only [setG] at g
      simp only [Rep] at p
      obtain ⟨ad, Vs, rfl, p1, p2⟩ := p
      exact P2.run pins s σ H _ u Q I rr ⟨ad, Vs, rfl, p1.sq, by rw [p2.length]; exact hl _ _ _ _ g, r, e, h, _, e', E, n, p2, g, q⟩
theorem lows_app (b : Nat) : ∀ (xs ys : List MV), lows b (xs ++ ys) = (lows b xs && lows b ys)
  | [], ys => by simp [lows]
  | x :: xs, ys => by simp only [List.cons_append, lows, lows_app b xs ys, Bool.and_assoc]
theorem lcm_ok {K : PySem.W.Frag} {J : It} {src : HP → Option (List MV)} {all : List MV} {P : List Addr → Hp → Prop} {cl : Bool} {tg : Tg} {vs : List Nat} {f : EN → HP → R MV} {r : List Addr} {H : Hp} {h : HP} {e : EN} {σ : L2.St} {Q : VK} {Y : XK}
    (L : Lk K cA cF J src all P) (p : P r H) (E : Emb K cA cF H r h) (n : REn K cA cF H r e σ) (w : wpR K cA cF r H (lcL cl tg src all f (wipE e vs) h all []) Q Y) :
    ∀ D, H D = none → ∃ Wi : Nat → Nat → Hp → Prop, (∃ m, Wi 0 m (upd H D (.lst []))) ∧ ∀ i m H, Wi i m H →
      (J.stop i H ∧ Q (.ref D) H) ∨ (J.go i H ∧ ∃ Nx : Hp → Prop, (∀ H', Nx H' → ∃ m', m' < m ∧ Wi (i + 1) m' H') ∧ ∀ x H', J.yld i H x H' → tGw K cA cF vs tg x (L2.wipe σ vs) H' fun σ2 H2 => L2.wipe σ2 vs = L2.wipe σ vs ∧ tYes σ2 H2 fun b H3 =>
        if b = true then tE K cA cF (fun cls d _ H' => Y cls d H') f σ2 H3 fun y H4 => ∃ acc, H4 D = some (.lst acc) ∧ acc.length < sizeLine ∧ Nx (upd H4 D (.lst (acc ++ [y]))) else Nx H3) := by
  intro D hD
  obtain ⟨x0, E0⟩ := E.cell hD (xs := []) (vs := []) (by simp only [Reps])
  refine ⟨fun i m Hc => m = all.length - i ∧ i ≤ all.length ∧ ∃ acc, Ext r H (r ++ [D]) Hc ∧ Emb K cA cF Hc (r ++ [D]) (h ++ [.lst acc]) ∧ lows h.length acc = true ∧ wpR K cA cF r H (lcL cl tg src all f (wipE e vs) h (all.drop i) acc) Q Y,
    ⟨all.length, by simp, Nat.zero_le _, [], x0, E0, by simp only [lows], by simpa using w⟩, ?_⟩
  rintro i m Hc ⟨rfl, hi, acc, xc, Ec, lo, w⟩
  have hDn : D ∉ r := fun z => by
    have := Ec.nd
    rw [List.nodup_append] at this
    exact this.2.2 D z D (by simp) rfl
  have atD : (h ++ [MO.lst acc])[h.length]? = some (.lst acc) := by simp
  have rD : (r ++ [D])[h.length]? = some D := by rw [← E.len]; simp
  obtain ⟨av, hav, rav⟩ := Ec.at_ h.length (.lst acc) D atD rD
  by_cases hlt : i < all.length
  · have ed : all.drop i = all[i] :: all.drop (i + 1) := List.drop_eq_getElem_cons hlt
    rw [ed] at w
    unfold lcL at w
    by_cases hs : src (h ++ [.lst acc]) = some all
    · rw [if_pos hs] at w
      obtain ⟨g1, g2⟩ := L.go (r ++ [D]) Hc _ i all[i] (L.mono _ _ _ _ p xc) Ec hs (by simp [hlt])
      refine .inr ⟨g1, _, fun H' z => ⟨all.length - (i + 1), by omega, rfl, hlt, z⟩, fun V H' y => ?_⟩
      obtain ⟨x1, E1, p1⟩ := g2 V H' y
      cases q : setG tg all[i] (wipE e vs) with
      | none => rw [q] at w; exact w.elim
      | some e' =>
        rw [q] at w
        refine ⟨r ++ [D], wipE e vs, _, all[i], e', E1, ((n.mono xc).mono x1).wipe vs, p1, q, fun σ' n' hw => ⟨by rw [hw, wipe_wipe σ vs vs fun v hv => hv], ?_⟩⟩
        unfold tYes
        dsimp only
        rw [if_pos rfl]
        refine ⟨r ++ [D], e', _, E1, n', ?_⟩
        cases q2 : f e' (h ++ [.lst acc]) with
        | bad => simp only [q2] at w; exact w.elim
        | exc x h2 =>
          simp only [q2] at w
          split at w
          · rename_i hh
            subst hh
            intro r2 H4 cls d x2 E2 p2
            obtain ⟨t, et⟩ := x2.pre
            have ht : t = [] := by
              have l2 := E2.len
              have l3 := E1.len
              rw [et, List.length_append, l3] at l2
              exact List.eq_nil_of_length_eq_zero (by omega)
            subst ht
            rw [List.append_nil] at et
            subst et
            have E3 := Emb.cut E2 E (by simp)
            have x3 : Ext r H r H4 := ⟨⟨[], by simp⟩, fun a o e n => ⟨(((xc.trans x1).trans x2).keep a o e n).1, n⟩⟩
            exact w r H4 cls d x3 E3 p2
          · exact w.elim
        | ok y h2 =>
          simp only [q2] at w
          split at w
          · rename_i hh
            obtain ⟨rfl, ly, la⟩ := hh
            intro r2 H4 U x2 E2 p2
            obtain ⟨t, et⟩ := x2.pre
            have ht : t = [] := by
              have l2 := E2.len
              have l3 := E1.len
              rw [et, List.length_append, l3] at l2
              exact List.eq_nil_of_length_eq_zero (by omega)
            subst ht
            rw [List.append_nil] at et
            subst et
            obtain ⟨bv, hbv, rbv⟩ := E2.at_ h.length (.lst acc) D atD rD
            refine ⟨bv, hbv, by rw [rbv.length, ← sz_eq]; exact la, ?_⟩
            have q3 : Reps K cA cF H4 (r ++ [D]) (acc ++ [y]) (bv ++ [U]) := rbv.append (by simp only [Reps]; exact ⟨U, [], rfl, p2, rfl⟩)
            obtain ⟨y1, y2⟩ := E2.write rD q3
            have es : (h ++ [MO.lst acc]).set h.length (.lst (acc ++ [y])) = h ++ [.lst (acc ++ [y])] := by
              rw [List.set_append_right _ _ (Nat.le_refl _)]; simp
            rw [es] at y2
            refine ⟨acc ++ [y], ((xc.trans x1).trans x2).trans y1, y2, ?_, w⟩
            rw [lows_app, lo]
            simp only [lows, ly, Bool.and_true]
          · exact w.elim
    · rw [if_neg hs] at w; exact w.elim
  · have ei : i = all.length := by omega
    subst ei
    rw [List.drop_length] at w
    unfold lcL at w
    by_cases hs : src (h ++ [.lst acc]) = some all
    · rw [if_pos hs] at w
      cases cl with
      | true =>
        rw [if_pos rfl] at w
        refine .inl ⟨L.stop _ _ _ (L.mono _ _ _ _ p xc) Ec hs, w (r ++ [D]) Hc _ xc Ec ?_⟩
        simp only [Rep]
        exact ⟨D, rfl, rD⟩
      | false =>
        rw [if_neg Bool.false_ne_true] at w
        have E2 := Emb.cut Ec E (by simp)
        have x2 : Ext r H r Hc := ⟨⟨[], by simp⟩, fun a o e n => ⟨(xc.keep a o e n).1, n⟩⟩
        refine .inl ⟨L.stop _ _ _ (L.mono _ _ _ _ p xc) Ec hs, w r Hc _ x2 E2 ?_⟩
        simp only [Rep]
        exact ⟨D, av, rfl, .inl ⟨hDn, .inl hav⟩, Reps.low _ _ (by rw [E.len]; exact lo) rav⟩
    · rw [if_neg hs] at w; exact w.elim
theorem lc_imp {K : PySem.W.Frag} {cl : Bool} {tg : Tg} {vs : List Nat} {f : EN → HP → R MV} {g : EN → HP → R IR} {σ : L2.St} {H : Hp} {Q : VK}
    (q : tE K cA cF W (fun e h => (g e h).bind fun p h => lcL cl tg p.2 p.1 f (wipE e vs) h p.1 []) σ H Q) : tLc (tI K cA cF W g) (tGw K cA cF vs tg) tYes (tE K cA cF (fun cls d _ H' => W cls d σ H') f) vs σ H Q := by
  obtain ⟨r, e, h, E, n, w⟩ := q
  refine ⟨r, e, h, E, n, ?_⟩
  cases q : g e h with
  | bad => simp only [q] at w; exact w
  | exc y h1 => simp only [q] at w; exact w
  | ok p h1 =>
    simp only [q, R.bind_ok] at w
    intro r1 H1 J P x1 E1 p1 L
    exact lcm_ok L p1 E1 (n.mono x1) (wpG.mono x1 w)
theorem lcg_ok {K : PySem.W.Frag} {J : It} {src : HP → Option (List MV)} {all : List MV} {P : List Addr → Hp → Prop} {tg : Tg} {vs : List Nat} {f : EN → HP → R MV} {r : List Addr} {H : Hp} {h : HP} {e : EN} {σ : L2.St} {Q : VK} {Y : XK} {Z : WX}
    (L : Lk K cA cF J src all P) (p : P r H) (E : Emb K cA cF H r h) (n : REn K cA cF H r e σ) (w : wpR K cA cF r H (lcG tg src all f (wipE e vs) h.length (h ++ [.lst []]) all []) Q Y) :
    ∀ D, H D = none → ∃ Wi : Nat → Nat → Hp → Prop, (∃ m, Wi 0 m (upd H D (.lst []))) ∧ ∀ i m H, Wi i m H →
      (J.stop i H ∧ Q (.ref D) H) ∨ (J.go i H ∧ ∃ Nx : Hp → Prop, (∀ H', Nx H' → ∃ m', m' < m ∧ Wi (i + 1) m' H') ∧ ∀ x H', J.yld i H x H' → tGw K cA cF vs tg x (L2.wipe σ vs) H' fun σ2 H2 => L2.wipe σ2 vs = L2.wipe σ vs ∧ tYes σ2 H2 fun b H3 =>
        if b = true then tE K cA cF Z f σ2 H3 fun y H4 => ∃ acc, H4 D = some (.lst acc) ∧ acc.length < sizeLine ∧ Nx (upd H4 D (.lst (acc ++ [y]))) else Nx H3) := by
  intro D hD
  obtain ⟨x0, E0⟩ := E.cell hD (xs := []) (vs := []) (by simp only [Reps])
  refine ⟨fun i m Hc => m = all.length - i ∧ i ≤ all.length ∧ ∃ acc r' h', r'[h.length]? = some D ∧ Ext r H r' Hc ∧ Emb K cA cF Hc r' h' ∧ wpR K cA cF r H (lcG tg src all f (wipE e vs) h.length h' (all.drop i) acc) Q Y,
    ⟨all.length, by simp, Nat.zero_le _, [], r ++ [D], h ++ [.lst []], by rw [← E.len]; simp, x0, E0, by simpa using w⟩, ?_⟩
  rintro i m Hc ⟨rfl, hi, acc, r', h', rD, xc, Ec, w⟩
  by_cases hlt : i < all.length
  · have ed : all.drop i = all[i] :: all.drop (i + 1) := List.drop_eq_getElem_cons hlt
    rw [ed] at w
    unfold lcG at w
    by_cases hs : src h' = some all
    · rw [if_pos hs] at w
      obtain ⟨g1, g2⟩ := L.go r' Hc _ i all[i] (L.mono _ _ _ _ p xc) Ec hs (by simp [hlt])
      refine .inr ⟨g1, _, fun H' z => ⟨all.length - (i + 1), by omega, rfl, hlt, z⟩, fun V H' y => ?_⟩
      obtain ⟨x1, E1, p1⟩ := g2 V H' y
      cases q : setG tg all[i] (wipE e vs) with
      | none => rw [q] at w; exact w.elim
      | some e' =>
        rw [q] at w
        refine ⟨r', wipE e vs, _, all[i], e', E1, ((n.mono xc).mono x1).wipe vs, p1, q, fun σ' n' hw => ⟨by rw [hw, wipe_wipe σ vs vs fun v hv => hv], ?_⟩⟩
        unfold tYes
        dsimp only
        rw [if_pos rfl]
        refine ⟨r', e', _, E1, n', ?_⟩
        cases q2 : f e' h' with
        | bad => simp only [q2] at w; exact w.elim
        | exc x h2 => simp only [q2] at w; exact w.elim
        | ok y h2 =>
          simp only [q2] at w
          split at w
          · rename_i hh
            obtain ⟨hD2, la⟩ := hh
            intro r2 H4 U x2 E2 p2
            have rD2 : r2[h.length]? = some D := by
              obtain ⟨t, et⟩ := x2.pre
              rw [et, List.getElem?_append_left (List.getElem?_eq_some_iff.mp rD).1]; exact rD
            obtain ⟨bv, hbv, rbv⟩ := E2.at_ h.length (.lst acc) D hD2 rD2
            refine ⟨bv, hbv, by rw [rbv.length, ← sz_eq]; exact la, ?_⟩
            have q3 : Reps K cA cF H4 r2 (acc ++ [y]) (bv ++ [U]) := rbv.append (by simp only [Reps]; exact ⟨U, [], rfl, p2, rfl⟩)
            obtain ⟨y1, y2⟩ := E2.write rD2 q3
            exact ⟨acc ++ [y], r2, _, rD2, ((xc.trans x1).trans x2).trans y1, y2, w⟩
          · exact w.elim
    · rw [if_neg hs] at w; exact w.elim
  · have ei : i = all.length := by omega
    subst ei
    rw [List.drop_length] at w
    unfold lcG at w
    by_cases hs : src h' = some all
    · rw [if_pos hs] at w
      refine .inl ⟨L.stop _ _ _ (L.mono _ _ _ _ p xc) Ec hs, w r' Hc _ xc Ec ?_⟩
      simp only [Rep]
      exact ⟨D, rfl, rD⟩
    · rw [if_neg hs] at w; exact w.elim
theorem lcg_imp {K : PySem.W.Frag} {tg : Tg} {vs : List Nat} {f : EN → HP → R MV} {g : EN → HP → R IR} {σ : L2.St} {H : Hp} {Q : VK} {Z : WX}
    (q : tE K cA cF W (fun e h => (g e h).bind fun p h => lcG tg p.2 p.1 f (wipE e vs) h.length (h ++ [.lst []]) p.1 []) σ H Q) : tLc (tI K cA cF W g) (tGw K cA cF vs tg) tYes (tE K cA cF Z f) vs σ H Q := by
  obtain ⟨r, e, h, E, n, w⟩ := q
  refine ⟨r, e, h, E, n, ?_⟩
  cases q : g e h with
  | bad => simp only [q] at w; exact w
  | exc y h1 => simp only [q] at w; exact w
  | ok p h1 =>
    simp only [q, R.bind_ok] at w
    intro r1 H1 J P x1 E1 p1 L
    exact lcg_ok L p1 E1 (n.mono x1) (wpG.mono x1 w)
theorem lcf_ok {K : PySem.W.Frag} {J : It} {src : HP → Option (List MV)} {all : List MV} {P : List Addr → Hp → Prop} {tg : Tg} {vs : List Nat} {tt f : EN → HP → R MV} {r : List Addr} {H : Hp} {h : HP} {e : EN} {σ : L2.St} {Q : VK} {Y : XK}
    (L : Lk K cA cF J src all P) (p : P r H) (E : Emb K cA cF H r h) (n : REn K cA cF H r e σ) (w : wpR K cA cF r H (lcF tg src all tt f (wipE e vs) h all []) Q Y) :
    ∀ D, H D = none → ∃ Wi : Nat → Nat → Hp → Prop, (∃ m, Wi 0 m (upd H D (.lst []))) ∧ ∀ i m H, Wi i m H →
      (J.stop i H ∧ Q (.ref D) H) ∨ (J.go i H ∧ ∃ Nx : Hp → Prop, (∀ H', Nx H' → ∃ m', m' < m ∧ Wi (i + 1) m' H') ∧ ∀ x H', J.yld i H x H' → tGw K cA cF vs tg x (L2.wipe σ vs) H' fun σ2 H2 => L2.wipe σ2 vs = L2.wipe σ vs ∧ tTt K cA cF noW tt σ2 H2 fun b H3 =>
        if b = true then tE K cA cF noW f σ2 H3 fun y H4 => ∃ acc, H4 D = some (.lst acc) ∧ acc.length < sizeLine ∧ Nx (upd H4 D (.lst (acc ++ [y]))) else Nx H3) := by
  intro D hD
  obtain ⟨x0, E0⟩ := E.cell hD (xs := []) (vs := []) (by simp only [Reps])
  refine ⟨fun i m Hc => m = all.length - i ∧ i ≤ all.length ∧ ∃ acc, Ext r H (r ++ [D]) Hc ∧ Emb K cA cF Hc (r ++ [D]) (h ++ [.lst acc]) ∧ lows h.length acc = true ∧ wpR K cA cF r H (lcF tg src all tt f (wipE e vs) h (all.drop i) acc) Q Y,
    ⟨all.length, by simp, Nat.zero_le _, [], x0, E0, by simp only [lows], by simpa using w⟩, ?_⟩
  rintro i m Hc ⟨rfl, hi, acc, xc, Ec, lo, w⟩
  have hDn : D ∉ r := fun z => by
    have := Ec.nd
    rw [List.nodup_append] at this
    exact this.2.2 D z D (by simp) rfl
  have atD : (h ++ [MO.lst acc])[h.length]? = some (.lst acc) := by simp
  have rD : (r ++ [D])[h.length]? = some D := by rw [← E.len]; simp
  obtain ⟨av, hav, rav⟩ := Ec.at_ h.length (.lst acc) D atD rD
  by_cases hlt : i < all.length
  · have ed : all.drop i = all[i] :: all.drop (i + 1) := List.drop_eq_getElem_cons hlt
    rw [ed] at w
    unfold lcF at w
    by_cases hs : src (h ++ [.lst acc]) = some all
    · rw [if_pos hs] at w
      obtain ⟨g1, g2⟩ := L.go (r ++ [D]) Hc _ i all[i] (L.mono _ _ _ _ p xc) Ec hs (by simp [hlt])
      refine .inr ⟨g1, _, fun H' z => ⟨all.length - (i + 1), by omega, rfl, hlt, z⟩, fun V H' y => ?_⟩
      obtain ⟨x1, E1, p1⟩ := g2 V H' y
      cases q : setG tg all[i] (wipE e vs) with
      | none => rw [q] at w; exact w.elim
      | some e' =>
        rw [q] at w
        refine ⟨r ++ [D], wipE e vs, _, all[i], e', E1, ((n.mono xc).mono x1).wipe vs, p1, q, fun σ' n' hw => ⟨by rw [hw, wipe_wipe σ vs vs fun v hv => hv], ?_⟩⟩
        refine ⟨r ++ [D], e', _, E1, n', ?_⟩
        cases qt : tt e' (h ++ [.lst acc]) with
        | bad => simp only [qt] at w; exact w.elim
        | exc x h2 => simp only [qt] at w; exact w.elim
        | ok tb h1 =>
          cases tb with
          | bl b =>
            simp only [qt] at w
            split at w
            · rename_i hh1
              subst hh1
              intro r3 H3 x3 E3
              have pre3 : r3 = r ++ [D] := by
                obtain ⟨t, et⟩ := x3.pre
                have l2 := E3.len
                have l3 := E1.len
                rw [et, List.length_append, l3] at l2
                have : t = [] := List.eq_nil_of_length_eq_zero (by omega)
                rw [et, this, List.append_nil]
              subst pre3
              cases b with
              | false =>
                rw [if_neg Bool.false_ne_true] at w ⊢
                exact ⟨acc, ((xc.trans x1).trans x3), E3, lo, w⟩
              | true =>
                rw [if_pos rfl] at w ⊢
                refine ⟨r ++ [D], e', _, E3, n'.mono x3, ?_⟩
                cases q2 : f e' (h ++ [.lst acc]) with
                | bad => simp only [q2] at w; exact w.elim
                | exc x h2 => simp only [q2] at w; exact w.elim
                | ok y h2 =>
                  simp only [q2] at w
                  split at w
                  · rename_i hh
                    obtain ⟨rfl, ly, la⟩ := hh
                    intro r2 H4 U x2 E2 p2
                    obtain ⟨t, et⟩ := x2.pre
                    have ht : t = [] := by
                      have l2 := E2.len
                      have l3 := E1.len
                      rw [et, List.length_append, l3] at l2
                      exact List.eq_nil_of_length_eq_zero (by omega)
                    subst ht
                    rw [List.append_nil] at et
                    subst et
                    obtain ⟨bv, hbv, rbv⟩ := E2.at_ h.length (.lst acc) D atD rD
                    refine ⟨bv, hbv, by rw [rbv.length, ← sz_eq]; exact la, ?_⟩
                    have q3 : Reps K cA cF H4 (r ++ [D]) (acc ++ [y]) (bv ++ [U]) := rbv.append (by simp only [Reps]; exact ⟨U, [], rfl, p2, rfl⟩)
                    obtain ⟨y1, y2⟩ := E2.write rD q3
                    have es : (h ++ [MO.lst acc]).set h.length (.lst (acc ++ [y])) = h ++ [.lst (acc ++ [y])] := by
                      rw [List.set_append_right _ _ (Nat.le_refl _)]; simp
                    rw [es] at y2
                    refine ⟨acc ++ [y], (((xc.trans x1).trans x3).trans x2).trans y1, y2, ?_, w⟩
                    rw [lows_app, lo]
                    simp only [lows, ly, Bool.and_true]
                  · exact w.elim
            · exact w.elim
          | _ => simp only [qt] at w; exact w.elim
    · rw [if_neg hs] at w; exact w.elim
  · have ei : i = all.length := by omega
    subst ei
    rw [List.drop_length] at w
    unfold lcF at w
    by_cases hs : src (h ++ [.lst acc]) = some all
    · rw [if_pos hs] at w
      have E2 := Emb.cut Ec E (by simp)
      have x2 : Ext r H r Hc := ⟨⟨[], by simp⟩, fun a o e n => ⟨(xc.keep a o e n).1, n⟩⟩
      refine .inl ⟨L.stop _ _ _ (L.mono _ _ _ _ p xc) Ec hs, w r Hc _ x2 E2 ?_⟩
      simp only [Rep]
      exact ⟨D, av, rfl, .inl ⟨hDn, .inl hav⟩, Reps.low _ _ (by rw [E.len]; exact lo) rav⟩
    · rw [if_neg hs] at w; exact w.elim
theorem lcf_imp {K : PySem.W.Frag} {tg : Tg} {vs : List Nat} {tt f : EN → HP → R MV} {g : EN → HP → R IR} {σ : L2.St} {H : Hp} {Q : VK}
    (q : tE K cA cF W (fun e h => (g e h).bind fun p h => lcF tg p.2 p.1 tt f (wipE e vs) h p.1 []) σ H Q) : tLc (tI K cA cF W g) (tGw K cA cF vs tg) (tTt K cA cF noW tt) (tE K cA cF noW f) vs σ H Q := by
  obtain ⟨r, e, h, E, n, w⟩ := q
  refine ⟨r, e, h, E, n, ?_⟩
  cases q : g e h with
  | bad => simp only [q] at w; exact w
  | exc y h1 => simp only [q] at w; exact w
  | ok p h1 =>
    simp only [q, R.bind_ok] at w
    intro r1 H1 J P x1 E1 p1 L
    exact lcf_ok L p1 E1 (n.mono x1) (wpG.mono x1 w)
variable (FC : Fc X.prog X.w X.K X.mg X.base cA cF T C k c) (G : Gd X c k) (tk : TakesF X W)
include FC G tk
include FC G in
omit tk in
theorem pcs_ok : ∀ (ds : List Nat) (ys : List Expr), ckCs c ds ys = true → PA X ys (tCs (ds.map fun d => V.ref (cA d)))
  | [], ys, hh => by
    cases ys with
    | cons _ _ => simp [ckCs] at hh
    | nil => exact PAimp pa_nil fun σ H Q q => q
  | d :: ds, ys, hh => by
    unfold ckCs at hh
    split at hh <;> first | (cases hh; done) | skip
    simp only [Bool.and_eq_true, decide_eq_true_eq] at hh
    obtain ⟨⟨h1, h2⟩, h3⟩ := hh
    obtain ⟨m1, m2⟩ := FC.cl _ _ h1
    obtain ⟨g1, g2⟩ := gl_of G h2
    exact PAimp (pa_cons (pe_glob (v := .ref (cA d)) g1 m1 rfl g2) (pcs_ok ds _ h3) rfl) fun σ H Q q => q
end
section
variable {cA : Nat → Addr} {cF : Nat → List Str} {T : Tab} {C : Nat → List MV → HP → R MV} {k : Nat}
mutual
theorem sndA : ∀ (e : E) (X : Cx) (c : Ck) (W : WX) (FC : Fc X.prog X.w X.K X.mg X.base cA cF T C k c) (G : Gd X c k) (tk : TakesF X W) (x : Expr), ckE c e x = true → PE X x (tE X.K cA cF W (evE T C e)) ∧ (tsB x = true → PT X x (tTt X.K cA cF W (evE T C e))) ∧ (isBO x = true → PW X x (tTt X.K cA cF W (evE T C e)))
  | .var i, X, c, W, FC, G, tk, x, hh => by
    unfold ckE at hh
    split at hh <;> first | (cases hh; done) | skip
    refine fin3 ?_ rfl
    simp only [Bool.and_eq_true, decide_eq_true_eq, Bool.not_eq_true'] at hh
    obtain ⟨⟨⟨h1, h2⟩, h3⟩, h4⟩ := hh
    refine PEimp (pe_var (i := i) (by rw [G.hN]; exact h1) (by rw [G.sc]; exact vis_of h2) h3 h4) fun σ H Q q => ?_
    obtain ⟨r, e, h, E, n, w⟩ := q
    simp only [evE] at w
    split at w
    · rename_i v he
      obtain ⟨V, k1, k2⟩ := n.at_ i v he
      exact ⟨V, k1, w r H V Ext.refl E k2⟩
    · exact w.elim
  | .cI i, X, c, W, FC, G, tk, x, hh => by
    unfold ckE at hh
    split at hh <;> first | (cases hh; done) | skip
    refine fin3 ?_ rfl
    simp only [decide_eq_true_eq] at hh
    subst hh
    simpa only [evE] using pe_cst pe_int (fun _ _ => rep_int)
  | .cS i, X, c, W, FC, G, tk, x, hh => by
    unfold ckE at hh
    split at hh <;> first | (cases hh; done) | skip
    refine fin3 ?_ rfl
    simp only [decide_eq_true_eq] at hh
    subst hh
    simpa only [evE] using pe_cst pe_str (fun _ _ => rep_str)
  | .cB i, X, c, W, FC, G, tk, x, hh => by
    unfold ckE at hh
    split at hh <;> first | (cases hh; done) | skip
    refine fin3 ?_ rfl
    simp only [beq_iff_eq] at hh
    subst hh
    simpa only [evE] using pe_cst pe_bl (fun _ _ => rep_bl)
  | .cN, X, c, W, FC, G, tk, x, hh => by
    unfold ckE at hh
    split at hh <;> first | (cases hh; done) | skip
    refine fin3 ?_ rfl
    simpa only [evE] using pe_cst pe_non (fun _ _ => rep_non)
  | .gI y i, X, c, W, FC, G, tk, x, hh => by
    unfold ckE at hh
    split at hh <;> first | (cases hh; done) | skip
    refine fin3 ?_ rfl
    simp only [Bool.and_eq_true, decide_eq_true_eq] at hh
    obtain ⟨⟨rfl, h2⟩, h3⟩ := hh
    obtain ⟨t, h4⟩ := FC.gi _ _ h3
    obtain ⟨g1, g2⟩ := gl_of G h2
    simpa only [evE] using pe_cst (pe_glob (v := .int i) g1 h4 ⟨t, rfl⟩ g2) (fun _ _ => rep_int)
  | .gS y i, X, c, W, FC, G, tk, x, hh => by
    unfold ckE at hh
    split at hh <;> first | (cases hh; done) | skip
    refine fin3 ?_ rfl
    simp only [Bool.and_eq_true, decide_eq_true_eq] at hh
    obtain ⟨⟨rfl, h2⟩, h3⟩ := hh
    obtain ⟨t, h4⟩ := FC.gs _ _ h3
    obtain ⟨g1, g2⟩ := gl_of G h2
    simpa only [evE] using pe_cst (pe_glob (v := .str i) g1 h4 ⟨t, rfl⟩ g2) (fun _ _ => rep_str)
  | .neg a, X, c, W, FC, G, tk, x, hh => by
    unfold ckE at hh
    split at hh <;> first | (cases hh; done) | skip
    refine ⟨?_, fun z => (by cases z), fun z => (by cases z)⟩
    simp only [evE]
    refine una_use (pe_un un_neg (sndA a X c W FC G tk _ hh).1) fun r H h va A Q Y E p w => ?_
    split at w
    · simp only [Rep] at p
      exact ⟨_, p, w r H _ Ext.refl E rep_int⟩
    · exact w.elim
  | .not a, X, c, W, FC, G, tk, x, hh => by
    unfold ckE at hh
    split at hh <;> first | (cases hh; done) | skip
    simp only [Bool.and_eq_true] at hh
    obtain ⟨hts, hh⟩ := hh
    refine ⟨?_, fun _ => ?_, fun z => (by cases z)⟩
    · simp only [evE]
      refine una_use (rr := fun x H Q => ∃ c, x = .bl c ∧ Q (.bl (!c)) H) (pe_not (sndA a X c W FC G tk _ hh).1) fun r H h va A Q Y E p w => ?_
      split at w
      · simp only [Rep] at p
        exact ⟨_, p, w r H _ Ext.refl E rep_bl⟩
      · exact w.elim
    · simp only [evE]
      refine PTimp (pt_not ((sndA a X c W FC G tk _ hh).2.1 hts)) fun σ H Q q => ?_
      obtain ⟨r, e, h, E, n, w⟩ := q
      refine ⟨r, e, h, E, n, ?_⟩
      dsimp only at w
      cases q : evE T C a e h with
      | bad => rw [q] at w; exact w.elim
      | exc y h1 => rw [q] at w; exact w
      | ok v h1 =>
        rw [q] at w
        cases v <;> first | exact w.elim | skip
        exact w
  | .bin o a b, X, c, W, FC, G, tk, x, hh => by
    unfold ckE at hh
    split at hh <;> first | (cases hh; done) | skip
    refine ⟨?_, fun z => (by cases z), fun z => (by cases z)⟩
    simp only [Bool.and_eq_true] at hh
    obtain ⟨⟨h1, h2⟩, h3⟩ := hh
    simp only [evE]
    exact bin_use (pe_op (binop_ok G.deep h1) (sndA a X c W FC G tk _ h2).1 (sndA b X c W FC G tk _ h3).1) fun r H h va vb A B Q Y E p1 p2 w => wpR_of E p1 p2 w
  | .cmp o a b, X, c, W, FC, G, tk, x, hh => by
    unfold ckE at hh
    split at hh <;> first | (cases hh; done) | skip
    simp only [Bool.and_eq_true, Bool.not_eq_true'] at hh
    obtain ⟨⟨⟨h1, h0⟩, h2⟩, h3⟩ := hh
    refine ⟨?_, fun _ => ?_, fun z => (by cases z)⟩
    · simp only [evE]
      exact bin_use (pe_cmpR (cmpop_ok G.rm.units h1) (sndA a X c W FC G tk _ h2).1 (sndA b X c W FC G tk _ h3).1 h0) fun r H h va vb A B Q Y E p1 p2 w => wpR_ofB E p1 p2 w
    · simp only [evE]
      refine PTimp (pt_cmpR (cmpop_ok (cA := cA) (cF := cF) G.rm.units h1) (sndA a X c W FC G tk _ h2).1 (sndA b X c W FC G tk _ h3).1 h0) fun σ H Q q => ?_
      obtain ⟨r, e, h, E, n, w⟩ := q
      have w2 := tt_wp w
      refine stepE E n w2 fun r1 H1 h1 va A x1 E1 n1 p1 w1 => ?_
      refine stepE E1 n1 w1 fun r2 H2 h2 vb B x2 E2 n2 p2 w3 => ?_
      exact wpR_ofB E2 (Rep.mono x2 _ _ p1) p2 w3
  | .chn o p a b d, X, c, W, FC, G, tk, x, hh => by
    unfold ckE at hh
    split at hh <;> first | (cases hh; done) | skip
    simp only [Bool.and_eq_true, Bool.not_eq_true'] at hh
    obtain ⟨⟨⟨⟨⟨h1, h2⟩, h0⟩, h3⟩, h4⟩, h5⟩ := hh
    refine ⟨?_, fun _ => ?_, fun z => (by cases z)⟩
    · simp only [evE]
      refine PEimp (pe_chain (cmpop_ok (cA := cA) (cF := cF) G.rm.units h1) (cmpop_ok (cA := cA) (cF := cF) G.rm.units h2) (sndA a X c W FC G tk _ h3).1 (sndA b X c W FC G tk _ h4).1 (sndA d X c W FC G tk _ h5).1 h0) fun σ H Q q => ?_
      obtain ⟨r, e, h, E, n, w⟩ := q
      refine stepE E n w fun r1 H1 h1 va A x1 E1 n1 p1 w1 => ?_
      refine stepE E1 n1 w1 fun r2 H2 h2 vb B x2 E2 n2 p2 w2 => ?_
      cases g : cmpV h2 o va vb with
      | none => rw [g] at w2; exact w2.elim
      | some t =>
        rw [g] at w2
        refine ⟨r2, h2, va, vb, t, E2, Rep.mono x2 _ _ p1, p2, g, t, rfl, ?_⟩
        cases t with
        | false => rw [if_neg Bool.false_ne_true]; exact w2 r2 H2 _ Ext.refl E2 rep_bl
        | true =>
          rw [if_pos rfl]
          refine stepE E2 n2 w2 fun r3 H3 h3 vd D x3 E3 n3 p3 w3 => ?_
          exact wpR_ofB E3 (Rep.mono x3 _ _ p2) p3 w3
    · simp only [evE]
      refine PTimp (pt_chain (cmpop_ok (cA := cA) (cF := cF) G.rm.units h1) (cmpop_ok (cA := cA) (cF := cF) G.rm.units h2) (sndA a X c W FC G tk _ h3).1 (sndA b X c W FC G tk _ h4).1 (sndA d X c W FC G tk _ h5).1 h0) fun σ H Q q => ?_
      obtain ⟨r, e, h, E, n, w⟩ := q
      have w2 := tt_wp w
      refine stepE E n w2 fun r1 H1 h1 va A x1 E1 n1 p1 w1 => ?_
      refine stepE E1 n1 w1 fun r2 H2 h2 vb B x2 E2 n2 p2 w2 => ?_
      cases g : cmpV h2 o va vb with
      | none => rw [g] at w2; exact w2.elim
      | some t =>
        rw [g] at w2
        refine ⟨r2, h2, va, vb, t, E2, Rep.mono x2 _ _ p1, p2, g, t, rfl, ?_⟩
        cases t with
        | false => rw [if_neg Bool.false_ne_true]; exact w2 r2 H2 _ Ext.refl E2 rep_bl
        | true =>
          rw [if_pos rfl]
          refine stepE E2 n2 w2 fun r3 H3 h3 vd D x3 E3 n3 p3 w3 => ?_
          exact wpR_ofB E3 (Rep.mono x3 _ _ p2) p3 w3
  | .and a b, X, c, W, FC, G, tk, x, hh => by
    unfold ckE at hh
    split at hh <;> first | (cases hh; done) | skip
    rename_i f g rr pos
    simp only [Bool.and_eq_true] at hh
    obtain ⟨⟨h0, h1⟩, h2⟩ := hh
    have hw : PW X (.BoolOp .And (g :: rr) pos) (tTt X.K cA cF W (evE T C b)) := by
      split at h2
      · exact pw_and1 ((sndA b X c W FC G tk _ (and_r h2)).2.1 (and_l h2))
      · exact (sndA b X c W FC G tk _ h2).2.2 rfl
    have key : PW X (.BoolOp .And (f :: g :: rr) pos) (tTt X.K cA cF W (evE T C (.and a b))) := by
      simp only [evE]
      refine PWimp (pw_and ((sndA a X c W FC G tk _ h1).2.1 h0) hw) fun σ H Q q => ?_
      obtain ⟨r, e, h, E, n, w⟩ := q
      refine ⟨r, e, h, E, n, ?_⟩
      dsimp only at w
      cases q : evE T C a e h with
      | bad => rw [q] at w; exact w.elim
      | exc y h1 => rw [q] at w; exact w
      | ok v h1 =>
        rw [q] at w
        cases v <;> first | exact w.elim | skip
        rename_i bb
        intro r1 H1 x1 E1
        cases bb with
        | false => rw [if_neg Bool.false_ne_true]; exact w r1 H1 x1 E1
        | true =>
          rw [if_pos rfl]
          refine ⟨r1, e, h1, E1, n.mono x1, ?_⟩
          simp only [R.bind_ok] at w
          cases q2 : evE T C b e h1 with
          | bad => rw [q2] at w; exact w.elim
          | exc y h2 => rw [q2] at w; exact fun r' H' cls d e1 e2 e3 => w r' H' cls d (x1.trans e1) e2 e3
          | ok v h2 =>
            rw [q2] at w
            cases v <;> first | exact w.elim | skip
            exact fun r' H' e1 e2 => w r' H' (x1.trans e1) e2
    refine ⟨?_, fun _ => key.pt, fun _ => key⟩
    have hb : PE X (.BoolOp .And (g :: rr) pos) (tE X.K cA cF W (evE T C b)) := by
      split at h2
      · exact pe_one (sndA b X c W FC G tk _ (and_r h2)).1
      · exact (sndA b X c W FC G tk _ h2).1
    simp only [evE]
    refine PEimp (pe_and (sndA a X c W FC G tk _ h1).1 hb) fun σ H Q q => ?_
    obtain ⟨r, e, h, E, n, w⟩ := q
    refine stepE E n w fun r1 H1 h1 va A x1 E1 n1 p1 w1 => ?_
    split at w1
    · simp only [Rep] at p1
      refine ⟨true, p1, ?_⟩
      rw [if_pos rfl]
      refine stepE E1 n1 w1 fun r2 H2 h2 vb B x2 E2 n2 p2 w2 => ?_
      split at w2
      · simp only [Rep] at p2; subst p2; exact w2 r2 H2 _ Ext.refl E2 rep_bl
      · exact w2.elim
    · simp only [Rep] at p1
      refine ⟨false, p1, ?_⟩
      rw [if_neg Bool.false_ne_true]
      exact w1 r1 H1 _ Ext.refl E1 rep_bl
    · exact w1.elim
  | .or a b, X, c, W, FC, G, tk, x, hh => by
    unfold ckE at hh
    split at hh <;> first | (cases hh; done) | skip
    rename_i f g rr pos
    simp only [Bool.and_eq_true] at hh
    obtain ⟨⟨h0, h1⟩, h2⟩ := hh
    have hw : PW X (.BoolOp .Or (g :: rr) pos) (tTt X.K cA cF W (evE T C b)) := by
      split at h2
      · exact pw_or1 ((sndA b X c W FC G tk _ (and_r h2)).2.1 (and_l h2))
      · exact (sndA b X c W FC G tk _ h2).2.2 rfl
    have key : PW X (.BoolOp .Or (f :: g :: rr) pos) (tTt X.K cA cF W (evE T C (.or a b))) := by
      simp only [evE]
      refine PWimp (pw_or ((sndA a X c W FC G tk _ h1).2.1 h0) hw) fun σ H Q q => ?_
      obtain ⟨r, e, h, E, n, w⟩ := q
      refine ⟨r, e, h, E, n, ?_⟩
      dsimp only at w
      cases q : evE T C a e h with
      | bad => rw [q] at w; exact w.elim
      | exc y h1 => rw [q] at w; exact w
      | ok v h1 =>
        rw [q] at w
        cases v <;> first | exact w.elim | skip
        rename_i bb
        intro r1 H1 x1 E1
        cases bb with
        | true => rw [if_pos rfl]; exact w r1 H1 x1 E1
        | false =>
          rw [if_neg Bool.false_ne_true]
          refine ⟨r1, e, h1, E1, n.mono x1, ?_⟩
          simp only [R.bind_ok] at w
          cases q2 : evE T C b e h1 with
          | bad => rw [q2] at w; exact w.elim
          | exc y h2 => rw [q2] at w; exact fun r' H' cls d e1 e2 e3 => w r' H' cls d (x1.trans e1) e2 e3
          | ok v h2 =>
            rw [q2] at w
            cases v <;> first | exact w.elim | skip
            exact fun r' H' e1 e2 => w r' H' (x1.trans e1) e2
    refine ⟨?_, fun _ => key.pt, fun _ => key⟩
    have hb : PE X (.BoolOp .Or (g :: rr) pos) (tE X.K cA cF W (evE T C b)) := by
      split at h2
      · exact pe_one (sndA b X c W FC G tk _ (and_r h2)).1
      · exact (sndA b X c W FC G tk _ h2).1
    simp only [evE]
    refine PEimp (pe_or (sndA a X c W FC G tk _ h1).1 hb) fun σ H Q q => ?_
    obtain ⟨r, e, h, E, n, w⟩ := q
    refine stepE E n w fun r1 H1 h1 va A x1 E1 n1 p1 w1 => ?_
    split at w1
    · simp only [Rep] at p1
      refine ⟨false, p1, ?_⟩
      rw [if_neg Bool.false_ne_true]
      refine stepE E1 n1 w1 fun r2 H2 h2 vb B x2 E2 n2 p2 w2 => ?_
      split at w2
      · simp only [Rep] at p2; subst p2; exact w2 r2 H2 _ Ext.refl E2 rep_bl
      · exact w2.elim
    · simp only [Rep] at p1
      refine ⟨true, p1, ?_⟩
      rw [if_pos rfl]
      exact w1 r1 H1 _ Ext.refl E1 rep_bl
    · exact w1.elim
  | .ife t a b, X, c, W, FC, G, tk, x, hh => by
    unfold ckE at hh
    split at hh <;> first | (cases hh; done) | skip
    refine ⟨?_, fun z => (by cases z), fun z => (by cases z)⟩
    simp only [Bool.and_eq_true] at hh
    obtain ⟨⟨⟨h0, h1⟩, h2⟩, h3⟩ := hh
    simp only [evE]
    refine PEimp (pe_ifExp ((sndA t X c W FC G tk _ h1).2.1 h0) (sndA a X c W FC G tk _ h2).1 (sndA b X c W FC G tk _ h3).1) fun σ H Q q => ?_
    obtain ⟨r, e, h, E, n, w⟩ := q
    refine ⟨r, e, h, E, n, ?_⟩
    dsimp only at w
    cases q : evE T C t e h with
    | bad => rw [q] at w; exact w.elim
    | exc y h1 => rw [q] at w; exact w
    | ok v h1 =>
      rw [q] at w
      cases v <;> first | exact w.elim | skip
      rename_i bb
      intro r1 H1 x1 E1
      cases bb with
      | true => rw [if_pos rfl]; exact ⟨r1, e, h1, E1, n.mono x1, wpG.mono x1 w⟩
      | false => rw [if_neg Bool.false_ne_true]; exact ⟨r1, e, h1, E1, n.mono x1, wpG.mono x1 w⟩
  | .tup es, X, c, W, FC, G, tk, x, hh => by
    unfold ckE at hh
    split at hh <;> first | (cases hh; done) | skip
    refine ⟨?_, fun z => (by cases z), fun z => (by cases z)⟩
    simp only [evE]
    refine PEimp (pe_tup (sndEsA es X c W FC G tk _ hh)) fun σ H Q q => ?_
    obtain ⟨r, e, h, E, n, w⟩ := q
    refine stepA E n w fun r1 H1 h1 vs VS x1 E1 n1 p1 w1 => ?_
    split at w1
    · rename_i hl
      refine ⟨by rw [p1.length, ← sz_eq]; exact hl, fun p hp => ?_⟩
      obtain ⟨y1, y2, y3⟩ := new_tup E1 hp p1
      exact w1 _ _ _ y1 y2 y3
    · exact w1.elim
  | .lst es, X, c, W, FC, G, tk, x, hh => by
    unfold ckE at hh
    split at hh <;> first | (cases hh; done) | skip
    refine ⟨?_, fun z => (by cases z), fun z => (by cases z)⟩
    simp only [evE]
    refine PEimp (pe_lst (sndEsA es X c W FC G tk _ hh)) fun σ H Q q => ?_
    obtain ⟨r, e, h, E, n, w⟩ := q
    refine stepA E n w fun r1 H1 h1 vs VS x1 E1 n1 p1 w1 => ?_
    split at w1
    · rename_i hl
      refine ⟨by rw [p1.length, ← sz_eq]; exact hl, fun p hp => ?_⟩
      obtain ⟨y1, y2, y3⟩ := new_lst E1 hp p1
      exact w1 _ _ _ y1 y2 y3
    · exact w1.elim
  | .cel es, X, c, W, FC, G, tk, x, hh => by
    unfold ckE at hh
    split at hh <;> first | (cases hh; done) | skip
    refine ⟨?_, fun z => (by cases z), fun z => (by cases z)⟩
    simp only [evE]
    refine PEimp (pe_lst (sndEsA es X c W FC G tk _ hh)) fun σ H Q q => ?_
    obtain ⟨r, e, h, E, n, w⟩ := q
    refine stepA E n w fun r1 H1 h1 vs VS x1 E1 n1 p1 w1 => ?_
    split at w1
    · rename_i hl
      refine ⟨by rw [p1.length, ← sz_eq]; exact hl, fun p hp => ?_⟩
      obtain ⟨y1, y2⟩ := E1.cell hp p1
      refine w1 _ _ _ y1 y2 ?_
      simp only [Rep]
      exact ⟨p, rfl, by rw [← E1.len]; simp⟩
    · exact w1.elim
  | .idx a i, X, c, W, FC, G, tk, x, hh => by
    unfold ckE at hh
    split at hh <;> first | (cases hh; done) | skip
    refine fin3 ?_ rfl
    simp only [Bool.and_eq_true] at hh
    obtain ⟨⟨h1, h2⟩, h3⟩ := hh
    simp only [evE]
    exact bin_use (pe_ix ix_ok (sndA a X c W FC G tk _ h2).1 (sndA i X c W FC G tk _ h3).1 (plix h1)) fun r H h va vb A B Q Y E p1 p2 w => wpR_of E p1 p2 w
  | .slc a l u, X, c, W, FC, G, tk, x, hh => by
    unfold ckE at hh
    split at hh <;> first | (cases hh; done) | skip
    refine fin3 ?_ rfl
    rename_i f g pos' pos
    simp only [Bool.and_eq_true] at hh
    obtain ⟨⟨h1, h2⟩, h3⟩ := hh
    simp only [evE]
    have part : ∀ (z : E) (f : Option Expr), (∀ x, ckE c z x = true → PE X x (tE X.K cA cF W (evE T C z))) → (match f with
      | none => isN z
      | some f => ckE c z f && !isN z) = true → PO X f (tO X.K cA cF W fun e h => if isN z then .ok none h else (evE T C z e h).bind fun v h => R.of (pI v) h) := by
      intro z f hz hf
      cases f with
      | none =>
        have hf : isN z = true := hf
        refine POimp po_none fun σ H Q q => ?_
        obtain ⟨r, e, h, E, n, w⟩ := q
        dsimp only at w
        rw [if_pos hf] at w
        exact w r H none Ext.refl E rfl
      | some f =>
        have hf : (ckE c z f && !isN z) = true := hf
        simp only [Bool.and_eq_true, Bool.not_eq_true'] at hf
        refine POimp (po_some (hz f hf.1)) fun σ H Q q => ?_
        obtain ⟨r, e, h, E, n, w⟩ := q
        simp only [hf.2, Bool.false_eq_true, if_false] at w
        refine stepE E n w fun r1 H1 h1 v V x1 E1 n1 p1 w1 => ?_
        cases v <;> first | exact w1.elim | skip
        simp only [Rep] at p1
        exact ⟨_, p1, w1 r1 H1 _ Ext.refl E1 rfl⟩
    refine PEimp (pe_slice (L2.SlR.or sl_list sl_str) (sndA a X c W FC G tk _ h1).1 (part l f (fun x h => (sndA l X c W FC G tk x h).1) h2) (part u g (fun x h => (sndA u X c W FC G tk x h).1) h3)) fun σ H Q q => ?_
    obtain ⟨r, e, h, E, n, w⟩ := q
    refine stepE E n w fun r1 H1 h1 va A x1 E1 n1 p1 w1 => ?_
    refine stepO E1 n1 w1 fun r2 H2 h2 lo x2 E2 n2 w2 => ?_
    refine stepO E2 n2 w2 fun r3 H3 h3 hi x3 E3 n3 w3 => ?_
    cases g : slcV h3 va lo hi with
    | none => rw [g] at w3; exact w3.elim
    | some z =>
      rw [g] at w3
      unfold slcV at g
      split at g
      · split at g
        · rename_i hz
          cases g
          simp only [Rep] at p1
          exact .inr ⟨_, p1, by rw [← sz_eq]; exact hz, w3 _ _ _ Ext.refl E3 rep_str⟩
        · cases g
      left
      obtain ⟨xs, e1, e2⟩ := Option.map_eq_some_iff.mp g
      subst e2
      obtain ⟨b, vs, rfl, l1, q1⟩ := getL_ok E3 e1 (Rep.mono (x2.trans x3) _ _ p1)
      refine ⟨b, vs, rfl, sq_of l1, fun p hp => ?_⟩
      obtain ⟨y1, y2, y3⟩ := new_lst E3 hp (q1.cut (lo := lo) (hi := hi))
      exact w3 _ _ _ y1 y2 y3
  | .call f es, X, c, W, FC, G, tk, x, hh => by
    unfold ckE at hh
    split at hh <;> first | (cases hh; done) | skip
    refine fin3 ?_ rfl
    rename_i y p xs pos
    simp only [Bool.and_eq_true, decide_eq_true_eq] at hh
    obtain ⟨⟨h1, h2⟩, h3⟩ := hh
    obtain ⟨a, fd, ps, F, m1, m2, m3⟩ := FC.fn f _ h1
    obtain ⟨g1, g2⟩ := gl_of G h2
    simp only [evE]
    have use : ∀ {x : Expr}, PE X x (tCallS (spR X.K cA cF C f) (WE W) (tAs X.K cA cF W (evEs T C es))) → PE X x (tE X.K cA cF W fun e h => (evEs T C es e h).bind fun xs h => C f xs h) := fun p => PEimp p fun σ H Q q => by
      obtain ⟨r, e, h, E, n, w⟩ := q
      refine stepA E n w fun r1 H1 h1 vs VS x1 E1 n1 p1 w1 => ?_
      exact ⟨r1, vs, h1, E1, p1, w1⟩
    cases xs with
    | nil =>
      refine use (PEimp (pe_callS0 F (G.rm.mono (Nat.le_succ k)) g1 m1 m2 m3 (fun σ => passF tk σ) g2) fun σ H Q q => ?_)
      cases es with
      | cons _ _ => simp [ckEs] at h3
      | nil =>
        obtain ⟨r, e, h, E, n, w⟩ := q
        simp only [evEs] at w
        exact w r H [] Ext.refl E (by simp only [Reps])
    | cons z zs =>
      have hs : noStar z = true := by
        cases es with
        | nil => simp [ckEs] at h3
        | cons b bs => simp only [ckEs, Bool.and_eq_true] at h3; exact h3.1.1
      have hany : (backTo pos (starEach zs X.env)).any (·.1) = false := by
        cases es with
        | nil => simp [ckEs] at h3
        | cons b bs => simp only [ckEs, Bool.and_eq_true] at h3; exact star_any h3.2
      exact use (pe_callS F (G.rm.mono (Nat.le_succ k)) g1 m1 m2 m3 (fun σ => passF tk σ) (sndEsA es X c W FC G tk _ h3) g2 (star_cons hs) hany)
  | .bi b es, X, c, W, FC, G, tk, x, hh => by
    unfold ckE at hh
    split at hh <;> first | (cases hh; done) | skip
    refine fin3 ?_ rfl
    rename_i y p z zs pos
    simp only [Bool.and_eq_true, decide_eq_true_eq] at hh
    obtain ⟨⟨⟨rfl, h1⟩, h2⟩, h3⟩ := hh
    obtain ⟨g1, g2⟩ := gl_of G h1
    have hm := FC.free _ h2
    have hs : noStar z = true := by
      cases es with
      | nil => simp [ckEs] at h3
      | cons b bs => simp only [ckEs, Bool.and_eq_true] at h3; exact h3.1.1
    have hany : (backTo pos (starEach zs X.env)).any (·.1) = false := by
      cases es with
      | nil => simp [ckEs] at h3
      | cons b bs => simp only [ckEs, Bool.and_eq_true] at h3; exact star_any h3.2
    simp only [evE]
    have use : ∀ {x : Expr}, PE X x (tCB (rBi X.K cA cF fun h => biV h b) (tAs X.K cA cF W (evEs T C es))) → PE X x (tE X.K cA cF W fun e h => (evEs T C es e h).bind fun xs h => R.of (biV h b xs) h) := fun p => PEimp p fun σ H Q q => by
      obtain ⟨r, e, h, E, n, w⟩ := q
      refine stepA E n w fun r1 H1 h1 vs VS x1 E1 n1 p1 w1 => ?_
      cases g : biV h1 b vs with
      | none => rw [g] at w1; exact w1.elim
      | some z => rw [g] at w1; exact ⟨r1, h1, vs, z, E1, p1, g, w1⟩
    have fn : ∀ {id : String}, biVal b = .builtin id → bootBuiltins (Str.ofString (biN b)) = some (.builtin id) → Str.ofString (biN b) ≠ "__name__" → PE X (.Call (.Name (Str.ofString (biN b)) p) (z :: zs) [] pos) (tE X.K cA cF W fun e h => (evEs T C es e h).bind fun xs h => R.of (biV h b xs) h) := fun e1 e2 e3 =>
      use (pe_callB (by rw [← e1]; exact bi_ok G.calm b) g1 hm e2 (sndEsA es X c W FC G tk _ h3) e3 g2 (star_cons hs) hany)
    have ty : ∀ {id : String}, biVal b = .type id → bootBuiltins (Str.ofString (biN b)) = some (.type id) → Str.ofString (biN b) ≠ "__name__" → PE X (.Call (.Name (Str.ofString (biN b)) p) (z :: zs) [] pos) (tE X.K cA cF W fun e h => (evEs T C es e h).bind fun xs h => R.of (biV h b xs) h) := fun e1 e2 e3 =>
      use (pe_callTy (by rw [← e1]; exact bi_ok G.calm b) g1 hm e2 (sndEsA es X c W FC G tk _ h3) e3 g2 (star_cons hs) hany)
    cases b <;> first
      | exact fn rfl (by decide +kernel) (by decide +kernel)
      | exact ty rfl (by decide +kernel) (by decide +kernel)
  | .me m o es, X, c, W, FC, G, tk, x, hh => by
    unfold ckE at hh
    split at hh <;> first | (cases hh; done) | skip
    refine fin3 ?_ rfl
    simp only [Bool.and_eq_true, decide_eq_true_eq] at hh
    obtain ⟨⟨⟨⟨⟨h0, rfl⟩, h1⟩, h2⟩, h3⟩, h4⟩ := hh
    simp only [evE]
    rename_i y ap xs pos
    have one : ∀ {m : Me}, esL es = 1 → ∃ a f, es = .cons a .nil ∧ xs = [f] ∧ noStar f = true ∧ ckE c a f = true := by
      intro m he
      cases es with
      | nil => cases he
      | cons a as =>
        cases as with
        | cons b bs => exact absurd he (by show esL bs + 1 + 1 ≠ 1; omega)
        | nil =>
          cases xs with
          | nil => simp [ckEs] at h4
          | cons f fs =>
            cases fs with
            | cons _ _ => simp [ckEs] at h4
            | nil =>
              simp only [ckEs, Bool.and_eq_true] at h4
              exact ⟨a, f, rfl, rfl, h4.1.1, h4.1.2⟩
    have two : ∀ {m : Me} {r : V → List V → Hp → VK → Prop} {a : E} {f : Expr}, es = .cons a .nil → (∀ x, meK m x = isStr x) → PE X (.Call (.Attribute y (Str.ofString (meN m)) ap) [f] [] pos) (tM1 r (tE X.K cA cF W (evE T C o)) (tE X.K cA cF W (evE T C a))) →
        (∀ rr H h s u U z Q, Emb X.K cA cF H rr h → Rep X.K cA cF H rr u U → meV h m (.str s) [u] = some z → (∀ r' H' V, Ext rr H r' H' → Emb X.K cA cF H' r' h → Rep X.K cA cF H' r' z V → Q V H') → r (.str s) [U] H Q) →
        PE X (.Call (.Attribute y (Str.ofString (meN m)) ap) [f] [] pos) (tE X.K cA cF W fun e h => (evE T C o e h).bind fun x h => if meK m x = true then (evEs T C es e h).bind fun xs h => R.of (meV h m x xs) h else .bad) := by
      intro m r a f ee hk p hr
      subst ee
      refine PEimp p fun σ H Q q => ?_
      obtain ⟨r0, e, h, E, n, w⟩ := q
      refine stepE E n w fun r1 H1 h1 va A x1 E1 n1 p1 w1 => ?_
      rw [hk] at w1
      cases va <;> first | exact w1.elim | skip
      simp only [Rep] at p1
      subst p1
      refine ⟨⟨_, rfl⟩, ?_⟩
      simp only [isStr, if_true, evEs] at w1
      refine stepE E1 n1 (f := evE T C a) (k := fun x h => (R.ok [x] h).bind fun xs h => R.of (meV h m _ xs) h) (by
        cases q2 : evE T C a e h1 with
        | ok v h2 => rw [q2] at w1; exact w1
        | exc x h2 => rw [q2] at w1; exact w1
        | bad => rw [q2] at w1; exact w1) fun r2 H2 h2 vb B x2 E2 n2 p2 w2 => ?_
      simp only [R.bind_ok] at w2
      cases g : meV h2 m (.str _) [vb] with
      | none => rw [g] at w2; exact w2.elim
      | some z => rw [g] at w2; exact hr _ _ _ _ _ _ _ _ E2 p2 g w2
    cases m with
    | bitlen =>
      cases es with
      | cons z zs => exact absurd h0 (by show esL zs + 1 ≠ 0; omega)
      | nil =>
        cases xs with
        | cons _ _ => simp [ckEs] at h4
        | nil =>
          refine PEimp (pe_bits (sndA o X c W FC G tk y h3).1 (attr_plain h1) h2) fun σ H Q q => ?_
          obtain ⟨r, e, h, E, n, w⟩ := q
          refine stepE E n w fun r1 H1 h1 va A x1 E1 n1 p1 w1 => ?_
          simp only [meK, if_true, evEs, R.bind_ok] at w1
          cases va <;> first | exact w1.elim | skip
          simp only [Rep] at p1
          exact ⟨_, p1, w1 r1 H1 _ Ext.refl E1 rep_int⟩
    | upper =>
      cases es with
      | cons z zs => exact absurd h0 (by show esL zs + 1 ≠ 0; omega)
      | nil =>
        cases xs with
        | cons _ _ => simp [ckEs] at h4
        | nil =>
          refine PEimp (pe_upper (sndA o X c W FC G tk y h3).1 (attr_plain h1) h2) fun σ H Q q => ?_
          obtain ⟨r, e, h, E, n, w⟩ := q
          refine stepE E n w fun r1 H1 h1 va A x1 E1 n1 p1 w1 => ?_
          simp only [meK] at w1
          cases va <;> first | exact w1.elim | skip
          simp only [isStr, if_true, evEs, R.bind_ok] at w1
          simp only [Rep] at p1
          subst p1
          simp only [meV] at w1
          split at w1
          · rename_i hz
            exact ⟨⟨_, rfl⟩, _, rfl, rfl, hz, w1 r1 H1 _ Ext.refl E1 rep_str⟩
          · exact w1.elim
    | strip1 =>
      obtain ⟨a, f, e1, rfl, hs, hf⟩ := one (m := .strip1) h0
      refine two e1 (fun _ => rfl) (pe_m1 F.slot_str_strip F.type_str_strip mt_stripChars (sndA o X c W FC G tk y h3).1 (sndA a X c W FC G tk f hf).1 (star_cons hs) (attr_plain h1) h2) fun rr H h s u U z Q E p g q => ?_
      cases u <;> first | (simp only [meV] at g; cases g; done) | skip
      simp only [meV] at g
      split at g
      · rename_i hz
        cases g
        simp only [Rep] at p
        subst p
        exact ⟨_, _, rfl, rfl, by rw [← sz_eq]; exact hz, q _ _ _ Ext.refl E rep_str⟩
      · cases g
    | rstrip1 =>
      obtain ⟨a, f, e1, rfl, hs, hf⟩ := one (m := .rstrip1) h0
      refine two e1 (fun _ => rfl) (pe_m1 F.slot_str_rstrip F.type_str_rstrip mt_rstripChars (sndA o X c W FC G tk y h3).1 (sndA a X c W FC G tk f hf).1 (star_cons hs) (attr_plain h1) h2) fun rr H h s u U z Q E p g q => ?_
      cases u <;> first | (simp only [meV] at g; cases g; done) | skip
      simp only [meV] at g
      split at g
      · rename_i hz
        cases g
        simp only [Rep] at p
        subst p
        exact ⟨_, _, rfl, rfl, by rw [← sz_eq]; exact hz, q _ _ _ Ext.refl E rep_str⟩
      · cases g
    | starts =>
      obtain ⟨a, f, e1, rfl, hs, hf⟩ := one (m := .starts) h0
      refine two e1 (fun _ => rfl) (pe_m1 F.slot_str_startswith F.type_str_startswith mt_startswith (sndA o X c W FC G tk y h3).1 (sndA a X c W FC G tk f hf).1 (star_cons hs) (attr_plain h1) h2) fun rr H h s u U z Q E p g q => ?_
      cases u <;> first | (simp only [meV] at g; cases g; done) | skip
      simp only [meV] at g
      cases g
      simp only [Rep] at p
      subst p
      exact ⟨_, _, rfl, rfl, q _ _ _ Ext.refl E rep_bl⟩
    | part =>
      obtain ⟨a, f, e1, rfl, hs, hf⟩ := one (m := .part) h0
      refine two e1 (fun _ => rfl) (pe_m1 F.slot_str_partition F.type_str_partition mt_partition (sndA o X c W FC G tk y h3).1 (sndA a X c W FC G tk f hf).1 (star_cons hs) (attr_plain h1) h2) fun rr H h s u U z Q E p g q => ?_
      cases u <;> first | (simp only [meV] at g; cases g; done) | skip
      simp only [meV] at g
      split at g
      · rename_i hz
        cases g
        simp only [Rep] at p
        subst p
        refine ⟨_, _, rfl, rfl, hz.1, by rw [← sz_eq]; exact hz.2, fun p hp => ?_⟩
        obtain ⟨y1, y2, y3⟩ := new_tup E hp (strs_reps (cA := cA) (cF := cF) [_, _, _])
        exact q _ _ _ y1 y2 y3
      · cases g
    | zfill =>
      obtain ⟨a, f, e1, rfl, hs, hf⟩ := one (m := .zfill) h0
      refine two e1 (fun _ => rfl) (pe_m1 F.slot_str_zfill F.type_str_zfill mt_zfill (sndA o X c W FC G tk y h3).1 (sndA a X c W FC G tk f hf).1 (star_cons hs) (attr_plain h1) h2) fun rr H h s u U z Q E p g q => ?_
      cases u <;> first | (simp only [meV] at g; cases g; done) | skip
      simp only [meV] at g
      split at g
      · rename_i hz
        cases g
        simp only [Rep] at p
        subst p
        exact ⟨_, _, rfl, rfl, hz, q _ _ _ Ext.refl E rep_str⟩
      · cases g
    | split1 =>
      obtain ⟨a, f, e1, rfl, hs, hf⟩ := one (m := .split1) h0
      refine two e1 (fun _ => rfl) (pe_m1 F.slot_str_split F.type_str_split mt_split (sndA o X c W FC G tk y h3).1 (sndA a X c W FC G tk f hf).1 (star_cons hs) (attr_plain h1) h2) fun rr H h s u U z Q E p g q => ?_
      cases u <;> first | (simp only [meV] at g; cases g; done) | skip
      simp only [meV] at g
      split at g
      · rename_i hz
        cases g
        simp only [Rep] at p
        subst p
        refine ⟨_, _, rfl, rfl, hz.1, by rw [← sz_eq]; exact hz.2, fun p hp => ?_⟩
        obtain ⟨y1, y2, y3⟩ := new_lst E hp (strs_reps (cA := cA) (cF := cF) (Txt.split _ _))
        exact q _ _ _ y1 y2 y3
      · cases g
    | join1 =>
      obtain ⟨a, f, e1, rfl, hs, hf⟩ := one (m := .join1) h0
      refine two e1 (fun _ => rfl) (pe_m1 F.slot_str_join F.type_str_join mt_join (sndA o X c W FC G tk y h3).1 (sndA a X c W FC G tk f hf).1 (star_cons hs) (attr_plain h1) h2) fun rr H h s u U z Q E p g q => ?_
      simp only [meV] at g
      obtain ⟨ys, k1, g⟩ := Option.bind_eq_some_iff.mp g
      obtain ⟨ss, k2, g⟩ := Option.bind_eq_some_iff.mp g
      split at g
      · rename_i hz
        cases g
        obtain ⟨b, vs, rfl, l1, q1⟩ := seq_ok E k1 p
        rw [strsOf_ok _ _ k2] at q1
        have := reps_strs _ _ q1
        subst this
        exact ⟨_, b, ss, rfl, rfl, l1, hz, q _ _ _ Ext.refl E rep_str⟩
      · cases g
  | .isT a m, X, c, W, FC, G, tk, x, hh => by
    unfold ckE at hh
    split at hh <;> first | (cases hh; done) | skip
    refine fin3 ?_ rfl
    simp only [Bool.and_eq_true, decide_eq_true_eq] at hh
    obtain ⟨⟨⟨⟨⟨⟨⟨⟨h0, rfl⟩, h1⟩, h2⟩, h3⟩, h4⟩, h5⟩, hn⟩, h6⟩ := hh
    rename_i p y yn py pos
    obtain ⟨g1, g2⟩ := gl_of G h1
    obtain ⟨g3, g4⟩ := gl_of G h3
    have hm := FC.free _ h2
    have hy := FC.free _ h4
    simp only [evE]
    have pn : PE X (.Name yn py) (tC (.ty m)) := pe_bltn (v := .ty m) g3 hy h5 rfl hn g4
    refine PEimp (pe_callB (isT_ok (cF := cF) FC.ex m) g1 hm (by decide +kernel) (pa_cons (sndA a X c W FC G tk _ h6).1 (pa_cons pn pa_nil) (star_cons h0)) (by decide +kernel) g2 (star_cons h0) rfl) fun σ H Q q => ?_
    obtain ⟨r, e, h, E, n, w⟩ := q
    refine stepE E n w fun r1 H1 h1 va A x1 E1 n1 p1 w1 => ?_
    cases g : isTV T h1 va m with
    | none => rw [g] at w1; exact w1.elim
    | some b => rw [g] at w1; exact ⟨r1, h1, va, A, b, E1, rfl, p1, g, w1 r1 H1 _ Ext.refl E1 rep_bl⟩
  | .isC a m, X, c, W, FC, G, tk, x, hh => by
    unfold ckE at hh
    split at hh <;> first | (cases hh; done) | skip
    refine fin3 ?_ rfl
    simp only [Bool.and_eq_true, decide_eq_true_eq] at hh
    obtain ⟨⟨⟨⟨⟨⟨h0, rfl⟩, h1⟩, h2⟩, h3⟩, h4⟩, h6⟩ := hh
    rename_i p y yn py pos
    obtain ⟨g1, g2⟩ := gl_of G h1
    obtain ⟨g3, g4⟩ := gl_of G h4
    have hm := FC.free _ h2
    obtain ⟨hy, _⟩ := FC.cl _ _ h3
    simp only [evE]
    have pn : PE X (.Name yn py) (tC (.ref (cA m))) := pe_glob (v := .ref (cA m)) g3 hy rfl g4
    refine PEimp (pe_callB (isC_ok (cF := cF) FC.ex (fun d h => (FC.ob d h).1) m) g1 hm (by decide +kernel) (pa_cons (sndA a X c W FC G tk _ h6).1 (pa_cons pn pa_nil) (star_cons h0)) (by decide +kernel) g2 (star_cons h0) rfl) fun σ H Q q => ?_
    obtain ⟨r, e, h, E, n, w⟩ := q
    refine stepE E n w fun r1 H1 h1 va A x1 E1 n1 p1 w1 => ?_
    cases g : isCV T va m with
    | none => rw [g] at w1; exact w1.elim
    | some b => rw [g] at w1; exact ⟨r1, h1, va, A, b, E1, rfl, p1, g, w1 r1 H1 _ Ext.refl E1 rep_bl⟩
  | .isCs a ds, X, c, W, FC, G, tk, x, hh => by
    unfold ckE at hh
    split at hh <;> first | (cases hh; done) | skip
    refine fin3 ?_ rfl
    simp only [Bool.and_eq_true, decide_eq_true_eq] at hh
    obtain ⟨⟨⟨⟨⟨⟨⟨h0, rfl⟩, h1⟩, h2⟩, h3⟩, h4⟩, h5⟩, h6⟩ := hh
    rename_i p y ys t2 t3 pos
    obtain ⟨g1, g2⟩ := gl_of G h1
    have hm := FC.free _ h2
    simp only [evE]
    have hne : ds ≠ [] := fun z => by subst z; cases h5
    have pn := pe_tup (x1 := t2) (pos := t3) (pcs_ok FC G ds ys h3)
    refine PEimp (pe_callB (isCs_ok (cF := cF) FC.ex ds hne) g1 hm (by decide +kernel) (pa_cons (sndA a X c W FC G tk _ h6).1 (pa_cons pn pa_nil rfl) (star_cons h0)) (by decide +kernel) g2 (star_cons h0) rfl) fun σ H Q q => ?_
    obtain ⟨r, e, h, E, n, w⟩ := q
    refine stepE E n w fun r1 H1 h1 va A x1 E1 n1 p1 w1 => ?_
    refine ⟨by rw [List.length_map, ← sz_eq]; exact Nat.le_trans h4 (by decide), fun p hp => ?_⟩
    obtain ⟨y1, y2, y3⟩ := E1.new (o := .tup (ds.map fun d => V.ref (cA d))) hp
    cases g : isCsV T va ds with
    | none => rw [g] at w1; exact w1.elim
    | some b => rw [g] at w1; exact ⟨r1, h1, va, A, p, b, y2, rfl, upd_same, Rep.mono y1 _ _ p1, g, w1 r1 _ _ y1 y2 rep_bl⟩
  | .atr o f, X, c, W, FC, G, tk, x, hh => by
    unfold ckE at hh
    split at hh <;> first | (cases hh; done) | skip
    refine fin3 ?_ rfl
    simp only [Bool.and_eq_true, decide_eq_true_eq] at hh
    obtain ⟨⟨rfl, h1⟩, h2⟩ := hh
    simp only [evE]
    refine PEimp (pe_fld (sndA o X c W FC G tk _ h2).1 (attr_plain h1)) fun σ H Q q => ?_
    obtain ⟨r, e, h, E, n, w⟩ := q
    refine stepE E n w fun r1 H1 h1 va A x1 E1 n1 p1 w1 => ?_
    cases g : atrV T h1 va f with
    | none => rw [g] at w1; exact w1.elim
    | some z =>
      rw [g] at w1
      unfold atrV at g
      obtain ⟨⟨d, xs⟩, g1, g2⟩ := Option.bind_eq_some_iff.mp g
      dsimp only at g2
      split at g2
      · rename_i ho
        obtain ⟨j, g3, g4⟩ := Option.bind_eq_some_iff.mp g2
        unfold fix at g3
        split at g3
        · rename_i hj
          cases g3
          obtain ⟨c1, c2⟩ := FC.ob d ho
          obtain ⟨ad, dx, vs, rfl, l1, q1⟩ := cls_rep E1 g1 p1
          obtain ⟨v, k1, k2⟩ := q1.get g4
          refine ⟨ad, cA d, dx, _, v, rfl, l1, c1, c2 f (List.idxOf_lt_length_iff.mp hj), ?_, w1 r1 H1 v Ext.refl E1 k2⟩
          rw [FC.fl, lookup_zip _ _ _ hj]; exact k1
        · cases g3
      · cases g2
  | .mcl o m es, X, c, W, FC, G, tk, x, hh => by
    unfold ckE at hh
    split at hh <;> first | (cases hh; done) | skip
    refine fin3 ?_ rfl
    simp only [Bool.and_eq_true, decide_eq_true_eq] at hh
    obtain ⟨⟨⟨⟨⟨rfl, hb⟩, hl⟩, hn⟩, h1⟩, h3⟩ := hh
    rename_i y ap xs pos
    simp only [evE]
    have use : ∀ {x : Expr}, PE X x (tMethS2 X (L2.CX X.prog X.w) k m (WE W) (tE X.K cA cF W (evE T C o)) (tAs X.K cA cF W (evEs T C es))) → PE X x (tE X.K cA cF W fun e h => (evE T C o e h).bind fun x h => (R.of (mthV T h x m) h).bind fun f h => (evEs T C es e h).bind fun xs h => C f (x :: xs) h) := fun p => PEimp p fun σ H Q q => by
      obtain ⟨r, e, h, E, n, w⟩ := q
      refine stepE E n w fun r1 H1 h1 va A x1 E1 n1 p1 w1 => ?_
      cases g : mthV T h1 va m with
      | none => rw [g] at w1; exact w1.elim
      | some f =>
        rw [g] at w1
        simp only [R.of_some, R.bind_ok] at w1
        unfold mthV at g
        obtain ⟨⟨d, zs⟩, g1, g2⟩ := Option.bind_eq_some_iff.mp g
        dsimp only at g2
        split at g2
        · rename_i ho
          obtain ⟨c1, c2⟩ := FC.ob d ho
          obtain ⟨nm, ad, fd, ps, F, M, B⟩ := FC.mt d m f ho g2
          obtain ⟨ao, dx, vs, rfl, l1, q1⟩ := cls_rep E1 g1 p1
          refine ⟨ao, cA d, dx, _, _, rfl, l1, by rw [FC.fl]; exact lookup_zip_none _ _ _ nm, ⟨c1, ad, fd, ps, M, F, B⟩, ?_⟩
          refine stepA E1 n1 w1 fun r2 H2 h2 vs VS x2 E2 n2 p2 w2 => ?_
          exact ⟨r2, va :: vs, h2, E2, by simp only [Reps]; exact ⟨_, _, rfl, Rep.mono x2 _ _ p1, p2⟩, w2⟩
        · cases g2
    cases xs with
    | nil =>
      refine use (PEimp (pe_methS20 (sndA o X c W FC G tk y h1).1 (G.rm.mono (Nat.le_succ k)) (fun σ => passF tk σ) (meth_eval (attr_plain hb) (few_of rfl hn) hl)) fun σ H Q q => ?_)
      cases es with
      | cons _ _ => simp [ckEs] at h3
      | nil =>
        obtain ⟨r, e, h, E, n, w⟩ := q
        refine ⟨r, e, h, E, n, ?_⟩
        have mono : ∀ {res : R MV} {Q1 Q2 : VK} {Y : XK}, (∀ V H, Q1 V H → Q2 V H) → wpR X.K cA cF r H res Q1 Y → wpR X.K cA cF r H res Q2 Y := by
          intro res Q1 Q2 Y hq hw
          cases res with
          | ok v h' => exact fun r' H' V e1 e2 e3 => hq _ _ (hw r' H' V e1 e2 e3)
          | exc x h' => exact hw
          | bad => exact hw
        refine mono (fun V H1 z => ?_) w
        obtain ⟨a, C1, dx, fs, sp, z1, z2, z3, z4, z5⟩ := z
        refine ⟨a, C1, dx, fs, sp, z1, z2, z3, z4, ?_⟩
        obtain ⟨r5, e5, h5, E5, n5, w5⟩ := z5
        simp only [evEs] at w5
        exact w5 r5 H1 [] Ext.refl E5 (by simp only [Reps])
    | cons z zs =>
      have hs : noStar z = true := by
        cases es with
        | nil => simp [ckEs] at h3
        | cons b bs => simp only [ckEs, Bool.and_eq_true] at h3; exact h3.1.1
      have hany : (backTo pos (starEach zs X.env)).any (·.1) = false := by
        cases es with
        | nil => simp [ckEs] at h3
        | cons b bs => simp only [ckEs, Bool.and_eq_true] at h3; exact star_any h3.2
      exact use (pe_methS2 (sndA o X c W FC G tk y h1).1 (G.rm.mono (Nat.le_succ k)) (fun σ => passF tk σ) (sndEsA es X c W FC G tk _ h3) (star_cons hs) hany (meth_eval (attr_plain hb) (few_of (by rw [star_cons hs]; show (false || (backTo pos (starEach zs X.env)).any (·.1)) = false; rw [hany]; rfl) hn) hl))
  | .new d es, X, c, W, FC, G, tk, x, hh => by
    unfold ckE at hh
    split at hh <;> first | (cases hh; done) | skip
    refine fin3 ?_ rfl
    simp only [Bool.and_eq_true, decide_eq_true_eq] at hh
    obtain ⟨⟨h1, h2⟩, h3⟩ := hh
    rename_i y p xs pos
    obtain ⟨m1, m2⟩ := FC.cl _ _ h1
    obtain ⟨g1, g2⟩ := gl_of G h2
    simp only [evE]
    have bad : PE X (.Call (.Name y p) xs [] pos) (fun _ _ _ => False) := ⟨fun _ _ _ _ _ _ h => h.elim⟩
    cases hi : T.ini d with
    | none =>
      simp only
      by_cases h0 : (nilE es && (T.n0 d && T.obj d)) = true
      · simp only [h0, if_true]
        simp only [Bool.and_eq_true] at h0
        cases es with
        | cons _ _ => simp [nilE] at h0
        | nil =>
          cases xs with
          | cons _ _ => simp [ckEs] at h3
          | nil =>
            obtain ⟨k1, k2⟩ := FC.m0 d h0.2.1
            refine PEimp (pe_make0N k1 k2 m2 g1 m1 g2) fun σ H Q q => ?_
            obtain ⟨r, e, h, E, n, w⟩ := q
            intro x dx hx hdx hne
            obtain ⟨y1, y2, y3⟩ := E.new (o := .own x) hdx
            obtain ⟨z1, z2, z3⟩ := y2.new (p := x) (o := .ins (cA d) dx []) (by rw [upd_ne hne.symm]; exact hx)
            refine w _ _ _ (y1.trans z1) z2 ?_
            simp only [Rep, Reps]
            exact ⟨x, dx, [], rfl, ⟨z3, by rw [List.zip_nil_right]; exact upd_same⟩, rfl⟩
      · simp only [h0, Bool.false_eq_true, if_false]
        refine PEimp bad fun σ H Q q => ?_
        obtain ⟨r, e, h, E, n, w⟩ := q
        exact w
    | some f =>
      simp only
      by_cases ho : T.obj d = true
      · simp only [ho, if_true]
        obtain ⟨ad, fd, ps, F, M, B⟩ := FC.mkI d f ho hi
        have use : ∀ {x : Expr}, PE X x (tMakeS (cA d) (spR X.K cA cF C f) (WE W) (tAs X.K cA cF W (evEs T C es))) → PE X x (tE X.K cA cF W fun e h => (evEs T C es e h).bind fun xs h => (C f (.ref h.length :: xs) (h ++ [.ins d []])).bind fun v h' => if isNon v = true then .ok (.ref h.length) h' else .bad) := fun p => PEimp p fun σ H Q q => by
          obtain ⟨r, e, h, E, n, w⟩ := q
          refine stepA E n w fun r1 H1 h1 vs VS x1 E1 n1 p1 w1 => ?_
          intro x dx hx hdx hne
          obtain ⟨y1, y2⟩ := E1.inst (c := d) hx hdx hne
          refine ⟨r1 ++ [x], .ref h1.length :: vs, _, y2, ?_, ?_⟩
          · simp only [Reps, Rep]
            exact ⟨_, _, rfl, ⟨x, rfl, by rw [← E1.len]; simp⟩, Reps.mono y1 _ _ p1⟩
          · replace w1 := wpG.mono y1 w1
            cases q2 : C f (.ref h1.length :: vs) (h1 ++ [.ins d []]) with
            | bad => rw [q2] at w1; exact w1.elim
            | exc z hz => rw [q2] at w1; exact w1
            | ok v hz =>
              rw [q2] at w1
              simp only [R.bind_ok] at w1
              intro r2 H2 V x2 E2 p2
              split at w1
              · rename_i hv
                have := rep_non_iff p2
                rw [hv] at this
                refine ⟨of_decide_eq_true this, w1 r2 H2 _ x2 E2 ?_⟩
                simp only [Rep]
                exact ⟨x, rfl, x2.get (by rw [← E1.len]; simp)⟩
              · exact w1.elim
        cases xs with
        | nil =>
          refine use (PEimp (pe_makeS0 M F G.rm g1 m1 B (fun σ => passF tk σ) g2) fun σ H Q q => ?_)
          cases es with
          | cons _ _ => simp [ckEs] at h3
          | nil =>
            obtain ⟨r, e, h, E, n, w⟩ := q
            simp only [evEs] at w
            exact w r H [] Ext.refl E (by simp only [Reps])
        | cons z zs =>
          have hs : noStar z = true := by
            cases es with
            | nil => simp [ckEs] at h3
            | cons b bs => simp only [ckEs, Bool.and_eq_true] at h3; exact h3.1.1
          have hany : (backTo pos (starEach zs X.env)).any (·.1) = false := by
            cases es with
            | nil => simp [ckEs] at h3
            | cons b bs => simp only [ckEs, Bool.and_eq_true] at h3; exact star_any h3.2
          exact use (pe_makeS M F G.rm g1 m1 B (fun σ => passF tk σ) (sndEsA es X c W FC G tk _ h3) g2 (star_cons hs) hany)
      · simp only [ho, Bool.false_eq_true, if_false]
        refine PEimp bad fun σ H Q q => ?_
        obtain ⟨r, e, h, E, n, w⟩ := q
        exact w
  | .cll a, X, c, W, FC, G, tk, x, hh => by
    unfold ckE at hh
    split at hh <;> first | (cases hh; done) | skip
    refine fin3 ?_ rfl
    simp only [Bool.and_eq_true, decide_eq_true_eq] at hh
    obtain ⟨⟨⟨⟨h0, rfl⟩, h1⟩, h2⟩, h6⟩ := hh
    rename_i p y pos
    obtain ⟨g1, g2⟩ := gl_of G h1
    have hm := FC.free _ h2
    simp only [evE]
    refine PEimp (pe_callTy call_list_of g1 hm (by decide +kernel) (pa_cons (sndA a X c W FC G tk _ h6).1 pa_nil (star_cons h0)) (by decide +kernel) g2 (star_cons h0) rfl) fun σ H Q q => ?_
    obtain ⟨r, e, h, E, n, w⟩ := q
    refine stepE E n w fun r1 H1 h1 va A x1 E1 n1 p1 w1 => ?_
    cases g : seqOf h1 va with
    | none => rw [g] at w1; exact w1.elim
    | some xs =>
      rw [g] at w1
      obtain ⟨b, vs, rfl, l1, q1⟩ := seq_ok E1 g p1
      refine ⟨b, vs, rfl, l1, fun l hl => ?_⟩
      obtain ⟨y1, y2⟩ := E1.cell hl q1
      refine w1 _ _ _ y1 y2 ?_
      simp only [Rep]
      exact ⟨l, rfl, by rw [← E1.len]; simp⟩
  | .lcm cl tg vs it a, X, c, W, FC, G, tk, x, hh => by
    unfold ckE at hh
    split at hh <;> first | (cases hh; done) | skip
    refine ⟨?_, ⟨fun z => by (exact absurd z (by simp [tsB, plT])), fun z => by (exact absurd z (by simp [isBO]))⟩⟩
    simp only [Bool.and_eq_true, decide_eq_true_eq] at hh
    obtain ⟨⟨⟨⟨⟨rfl, h1⟩, h2⟩, h3⟩, h4⟩, h5⟩ := hh
    rename_i elt t iter scope pos
    simp only [evE]
    have hv := ownOf_snd c.N vs
    refine PEimp (pe_lcx (own := ownOf c.N vs) (g := tGw X.K cA cF vs tg) (te := fun W' => tE X.K cA cF W' (evE T C a)) G.calm G.nd tk G.deep.frm (sndI it X c W FC G tk _ _ h3) (by rw [G.hN, G.sc]; exact blkOk_by h1) (fun s H C' cl fp xe => pgw_ok (X := blkX X s H scope (compEnvC scope cl C' X.env) fp xe) (cA := cA) (cF := cF) (c := c.blk scope) (vs := vs) (tg := tg) G.calm G.nd G.hN (by rw [Ck.blk, ← G.sc]; rfl) _ h4)
      (fun s H C cl fp xe => pts_nil) (fun W' s H C' cl fp xe tk' => (sndA a (blkX X s H scope (compEnvC scope cl C' X.env) fp xe) (c.blk scope) W' (FC.re (c := c) (c' := c.blk scope) rfl rfl rfl rfl rfl) ⟨G.hN, by rw [Ck.blk, ← G.sc]; rfl, G.rm, G.calm, G.nd, ⟨G.deep.seer, G.deep.tree, G.deep.room, G.deep.stk, G.deep.frm⟩⟩ tk' _ h5).1) (set_pl h2)) fun σ H Q q => ?_
    rw [hv]
    exact lc_imp q
  | .lcg tg vs it a, X, c, W, FC, G, tk, x, hh => by
    unfold ckE at hh
    split at hh <;> first | (cases hh; done) | skip
    refine ⟨?_, ⟨fun z => by (exact absurd z (by simp [tsB, plT])), fun z => by (exact absurd z (by simp [isBO]))⟩⟩
    simp only [Bool.and_eq_true, decide_eq_true_eq] at hh
    obtain ⟨⟨⟨⟨⟨rfl, h1⟩, h2⟩, h3⟩, h4⟩, h5⟩ := hh
    rename_i elt t iter scope pos
    simp only [evE]
    have hv := ownOf_snd c.N vs
    refine PEimp (pe_lcx (own := ownOf c.N vs) (g := tGw X.K cA cF vs tg) (te := fun W' => tE X.K cA cF W' (evE T C a)) G.calm G.nd tk G.deep.frm (sndI it X c W FC G tk _ _ h3) (by rw [G.hN, G.sc]; exact blkOk_by h1) (fun s H C' cl fp xe => pgw_ok (X := blkX X s H scope (compEnvC scope cl C' X.env) fp xe) (cA := cA) (cF := cF) (c := c.blk scope) (vs := vs) (tg := tg) G.calm G.nd G.hN (by rw [Ck.blk, ← G.sc]; rfl) _ h4)
      (fun s H C cl fp xe => pts_nil) (fun W' s H C' cl fp xe tk' => (sndA a (blkX X s H scope (compEnvC scope cl C' X.env) fp xe) (c.blk scope) W' (FC.re (c := c) (c' := c.blk scope) rfl rfl rfl rfl rfl) ⟨G.hN, by rw [Ck.blk, ← G.sc]; rfl, G.rm, G.calm, G.nd, ⟨G.deep.seer, G.deep.tree, G.deep.room, G.deep.stk, G.deep.frm⟩⟩ tk' _ h5).1) (set_pl h2)) fun σ H Q q => ?_
    rw [hv]
    exact lcg_imp q
  | .lcf tg vs it b a, X, c, W, FC, G, tk, x, hh => by
    unfold ckE at hh
    split at hh <;> first | (cases hh; done) | skip
    refine ⟨?_, ⟨fun z => by (exact absurd z (by simp [tsB, plT])), fun z => by (exact absurd z (by simp [isBO]))⟩⟩
    simp only [Bool.and_eq_true, decide_eq_true_eq] at hh
    obtain ⟨⟨⟨⟨⟨⟨⟨rfl, h1⟩, h2⟩, h3⟩, h4⟩, h5⟩, h6⟩, h7⟩ := hh
    rename_i elt t iter cd scope pos
    simp only [evE]
    have hv := ownOf_snd c.N vs
    refine PEimp (pe_lc (own := ownOf c.N vs) (g := tGw X.K cA cF vs tg) (tt := tTt X.K cA cF noW (evE T C b)) (te := tE X.K cA cF noW (evE T C a)) G.calm G.nd (sndI it X c W FC G tk _ _ h3) (by rw [G.hN, G.sc]; exact blkOk_by h1) (fun s H C' cl fp => pgw_ok (X := X.blk s H scope (compEnvC scope cl C' X.env) fp) (cA := cA) (cF := cF) (c := c.blk scope) (vs := vs) (tg := tg) G.calm G.nd G.hN (by rw [Ck.blk, ← G.sc]; rfl) _ h4)
      (fun s H C' cl fp => pts_one ((sndA b (X.blk s H scope (compEnvC scope cl C' X.env) fp) (c.blk scope) noW (FC.re (c := c) (c' := c.blk scope) rfl rfl rfl rfl rfl) ⟨G.hN, by rw [Ck.blk, ← G.sc]; rfl, G.rm, G.calm, G.nd, ⟨G.deep.seer, G.deep.tree, G.deep.room, G.deep.stk, G.deep.frm⟩⟩ takesF_no _ h6).2.1 h7)) (fun s H C' cl fp => (sndA a (X.blk s H scope (compEnvC scope cl C' X.env) fp) (c.blk scope) noW (FC.re (c := c) (c' := c.blk scope) rfl rfl rfl rfl rfl) ⟨G.hN, by rw [Ck.blk, ← G.sc]; rfl, G.rm, G.calm, G.nd, ⟨G.deep.seer, G.deep.tree, G.deep.room, G.deep.stk, G.deep.frm⟩⟩ takesF_no _ h5).1) (set_pl h2)) fun σ H Q q => ?_
    rw [hv]
    exact lcf_imp q
  | .mnd a d, X, c, W, FC, G, tk, x, hh => by
    unfold ckE at hh
    split at hh <;> first | (cases hh; done) | skip
    refine fin3 ?_ rfl
    simp only [Bool.and_eq_true, decide_eq_true_eq] at hh
    obtain ⟨⟨⟨⟨⟨⟨h0, rfl⟩, rfl⟩, h1⟩, h2⟩, h3⟩, h4⟩ := hh
    obtain ⟨g1, g2⟩ := gl_of G h1
    simp only [evE]
    refine PEimp (pe_callBK (cr_mnd G.calm G.rm.units) g1 (FC.free _ h2) (by decide +kernel) (pa_cons (sndA a X c W FC G tk _ h3).1 pa_nil (star_cons h0)) (pk_cons (sndA d X c W FC G tk _ h4).1 pk_nil) (by decide +kernel) g2 (by rw [star_cons h0]; rfl) (by rw [star_cons h0]; rfl)) fun σ H Q q => ?_
    obtain ⟨r, e, h, E, n, w⟩ := q
    refine stepE E n w fun r1 H1 h1 va A x1 E1 n1 p1 w1 => ?_
    refine stepE E1 n1 w1 fun r2 H2 h2 vb B x2 E2 n2 p2 w2 => ?_
    cases g : mndV h2 va vb with
    | none => rw [g] at w2; exact w2.elim
    | some z =>
      rw [g] at w2
      unfold mndV at g
      obtain ⟨ys, e1, g⟩ := Option.bind_eq_some_iff.mp g
      obtain ⟨is, e2, g⟩ := Option.map_eq_some_iff.mp g
      subst g
      obtain ⟨b, vs, rfl, l1, q1⟩ := getL_ok E2 e1 (Rep.mono x2 _ _ p1)
      rw [intsOf_ok _ _ e2] at q1
      have := reps_ints _ _ q1
      subst this
      refine ⟨b, is, B, rfl, rfl, sq_of l1, ?_⟩
      cases is with
      | nil => exact w2 r2 H2 B Ext.refl E2 p2
      | cons i is => exact w2 r2 H2 _ Ext.refl E2 rep_int
  | .mclc o m es, X, c, W, FC, G, tk, x, hh => by
    unfold ckE at hh
    split at hh <;> first | (cases hh; done) | skip
    refine fin3 ?_ rfl
    simp only [Bool.and_eq_true, decide_eq_true_eq] at hh
    obtain ⟨⟨⟨⟨⟨rfl, hb⟩, hl⟩, hn⟩, h1⟩, h3⟩ := hh
    rename_i y ap xs pos
    simp only [evE]
    have use : ∀ {x : Expr}, PE X x (tMethS2 X (L2.CX X.prog X.w) k m (WE W) (tE X.K cA cF W (evE T C o)) (tAs X.K cA cF W (evEs T C es))) → PE X x (tE X.K cA cF W fun e h => (evE T C o e h).bind fun x h => (R.of (mthV T h x m) h).bind fun f h => (evEs T C es e h).bind fun xs h => C (f + 100000) (x :: xs) h) := fun p => PEimp p fun σ H Q q => by
      obtain ⟨r, e, h, E, n, w⟩ := q
      refine stepE E n w fun r1 H1 h1 va A x1 E1 n1 p1 w1 => ?_
      cases g : mthV T h1 va m with
      | none => rw [g] at w1; exact w1.elim
      | some f =>
        rw [g] at w1
        simp only [R.of_some, R.bind_ok] at w1
        unfold mthV at g
        obtain ⟨⟨d, zs⟩, g1, g2⟩ := Option.bind_eq_some_iff.mp g
        dsimp only at g2
        split at g2
        · rename_i ho
          obtain ⟨c1, c2⟩ := FC.ob d ho
          obtain ⟨nm, ad, fd, ps, F, M, B⟩ := FC.mtC d m f ho g2
          obtain ⟨ao, dx, vs, rfl, l1, q1⟩ := cls_rep E1 g1 p1
          refine ⟨ao, cA d, dx, _, _, rfl, l1, by rw [FC.fl]; exact lookup_zip_none _ _ _ nm, ⟨c1, ad, fd, ps, M, F, B⟩, ?_⟩
          refine stepA E1 n1 w1 fun r2 H2 h2 vs VS x2 E2 n2 p2 w2 => ?_
          exact ⟨r2, va :: vs, h2, E2, by simp only [Reps]; exact ⟨_, _, rfl, Rep.mono x2 _ _ p1, p2⟩, w2⟩
        · cases g2
    cases xs with
    | nil =>
      refine use (PEimp (pe_methS20 (sndA o X c W FC G tk y h1).1 (G.rm.mono (Nat.le_succ k)) (fun σ => passF tk σ) (meth_eval (attr_plain hb) (few_of rfl hn) hl)) fun σ H Q q => ?_)
      cases es with
      | cons _ _ => simp [ckEs] at h3
      | nil =>
        obtain ⟨r, e, h, E, n, w⟩ := q
        refine ⟨r, e, h, E, n, ?_⟩
        have mono : ∀ {res : R MV} {Q1 Q2 : VK} {Y : XK}, (∀ V H, Q1 V H → Q2 V H) → wpR X.K cA cF r H res Q1 Y → wpR X.K cA cF r H res Q2 Y := by
          intro res Q1 Q2 Y hq hw
          cases res with
          | ok v h' => exact fun r' H' V e1 e2 e3 => hq _ _ (hw r' H' V e1 e2 e3)
          | exc x h' => exact hw
          | bad => exact hw
        refine mono (fun V H1 z => ?_) w
        obtain ⟨a, C1, dx, fs, sp, z1, z2, z3, z4, z5⟩ := z
        refine ⟨a, C1, dx, fs, sp, z1, z2, z3, z4, ?_⟩
        obtain ⟨r5, e5, h5, E5, n5, w5⟩ := z5
        simp only [evEs] at w5
        exact w5 r5 H1 [] Ext.refl E5 (by simp only [Reps])
    | cons z zs =>
      have hs : noStar z = true := by
        cases es with
        | nil => simp [ckEs] at h3
        | cons b bs => simp only [ckEs, Bool.and_eq_true] at h3; exact h3.1.1
      have hany : (backTo pos (starEach zs X.env)).any (·.1) = false := by
        cases es with
        | nil => simp [ckEs] at h3
        | cons b bs => simp only [ckEs, Bool.and_eq_true] at h3; exact star_any h3.2
      exact use (pe_methS2 (sndA o X c W FC G tk y h1).1 (G.rm.mono (Nat.le_succ k)) (fun σ => passF tk σ) (sndEsA es X c W FC G tk _ h3) (star_cons hs) hany (meth_eval (attr_plain hb) (few_of (by rw [star_cons hs]; show (false || (backTo pos (starEach zs X.env)).any (·.1)) = false; rw [hany]; rfl) hn) hl))
  | .dnw, X, c, W, FC, G, tk, x, hh => by
    unfold ckE at hh
    split at hh <;> first | (cases hh; done) | skip
    refine ⟨?_, ⟨fun z => by (exact absurd z (by simp [tsB, plT])), fun z => by (exact absurd z (by simp [isBO]))⟩⟩
    simp only [evE]
    refine PEimp pe_dnewK fun σ H Q q => ?_
    obtain ⟨r, e, h, E, n, w⟩ := q
    intro p hp
    obtain ⟨y1, y2⟩ := E.dict hp
    refine w _ _ _ y1 y2 ?_
    simp only [Rep]
    exact ⟨p, rfl, by rw [← E.len]; simp⟩
  | .dgt d k', X, c, W, FC, G, tk, x, hh => by
    unfold ckE at hh
    split at hh <;> first | (cases hh; done) | skip
    refine fin3 ?_ rfl
    simp only [Bool.and_eq_true] at hh
    obtain ⟨⟨h1, h2⟩, h3⟩ := hh
    have hu : X.A.units + 1 < cLine := by have := G.rm.units; omega
    simp only [evE]
    refine PEimp (pe_dget hu (sndA d X c W FC G tk _ h2).1 (sndA k' X c W FC G tk _ h3).1 (plix h1)) fun σ H Q q => ?_
    obtain ⟨r, e, h, E, n, w⟩ := q
    refine stepE E n w fun r1 H1 h1 va A x1 E1 n1 p1 w1 => ?_
    refine stepE E1 n1 w1 fun r2 H2 h2 vb B x2 E2 n2 p2 w2 => ?_
    cases g : dgtV h2 va vb with
    | none => rw [g] at w2; exact w2.elim
    | some z =>
      rw [g] at w2
      unfold dgtV at g
      obtain ⟨kvs, g1, g2⟩ := Option.bind_eq_some_iff.mp g
      obtain ⟨kk, g3, g4⟩ := Option.bind_eq_some_iff.mp g2
      obtain ⟨i, a, vs, rfl, hi, hr, rfl, hd, q1⟩ := dic_ok E2 g1 (Rep.mono x2 _ _ p1)
      have ek := rep_key g3 p2
      subst ek
      obtain ⟨v, e1, e2⟩ := (zip_val (k := kk) q1).2 _ g4
      refine ⟨a, v, rfl, ?_, w2 r2 H2 _ Ext.refl E2 e2⟩
      rw [← e1]
      exact DGet.k hd
  | .din ng k' d, X, c, W, FC, G, tk, x, hh => by
    unfold ckE at hh
    split at hh <;> first | (cases hh; done) | skip
    simp only [Bool.and_eq_true, Bool.not_eq_true'] at hh
    obtain ⟨⟨⟨h1, h0⟩, h2⟩, h3⟩ := hh
    rename_i ee op ff pos
    have hu : X.A.units + 1 < cLine := by have := G.rm.units; omega
    have core : ∀ {σ : L2.St} {H : Hp} {Q : VK} {r : List Addr} {e : EN} {h : HP}, Emb X.K cA cF H r h → REn X.K cA cF H r e σ →
        wpR X.K cA cF r H ((evE T C k' e h).bind fun y h => (evE T C d e h).bind fun x h => R.of (dinV h ng y x) h) Q (fun cls dd H' => W cls dd σ H') →
        tE X.K cA cF W (evE T C k') σ H fun y H1 => tE X.K cA cF W (evE T C d) σ H1 fun x H2 => ∃ a o, x = .ref a ∧ DGet H2 a y o ∧ Q (.bl (xor ng o.isSome)) H2 := by
      intro σ H Q r e h E n w
      refine stepE E n w fun r1 H1 h1 va A x1 E1 n1 p1 w1 => ?_
      refine stepE E1 n1 w1 fun r2 H2 h2 vb B x2 E2 n2 p2 w2 => ?_
      cases g : dinV h2 ng va vb with
      | none => rw [g] at w2; exact w2.elim
      | some z =>
        rw [g] at w2
        unfold dinV at g
        obtain ⟨kvs, g1, g2⟩ := Option.bind_eq_some_iff.mp g
        obtain ⟨kk, g3, g4⟩ := Option.map_eq_some_iff.mp g2
        subst g4
        obtain ⟨i, a, vs, rfl, hi, hr, rfl, hd, q1⟩ := dic_ok E2 g1 p2
        have ek := rep_key g3 (Rep.mono x2 _ _ p1)
        subst ek
        refine ⟨a, _, rfl, DGet.k hd, ?_⟩
        have e1 : (valV ((kvs.map (·.1)).zip vs) kk).isSome = (valM kvs kk).isSome := by
          obtain ⟨z1, z2⟩ := zip_val (k := kk) q1
          cases q : valM kvs kk with
          | none => rw [z1 q]; rfl
          | some x => obtain ⟨v, e1, _⟩ := z2 x q; rw [e1]; rfl
        rw [e1]
        exact w2 r2 H2 _ Ext.refl E2 rep_bl
    refine ⟨?_, fun _ => ?_, fun z => (by cases z)⟩
    · simp only [evE]
      cases ng <;> cases op <;> first | (cases h1; done) | skip
      · refine PEimp (pe_cmp (pc_din hu (sndA k' X c W FC G tk _ h2).1 (sndA d X c W FC G tk _ h3).1) h0) fun σ H Q q => ?_
        obtain ⟨r, e, h, E, n, w⟩ := q
        have := core E n w
        simp only [Bool.false_xor] at this
        exact this
      · refine PEimp (pe_cmp (pc_dnotin hu (sndA k' X c W FC G tk _ h2).1 (sndA d X c W FC G tk _ h3).1) h0) fun σ H Q q => ?_
        obtain ⟨r, e, h, E, n, w⟩ := q
        have := core E n w
        simp only [Bool.true_xor] at this
        exact this
    · simp only [evE]
      cases ng <;> cases op <;> first | (cases h1; done) | skip
      · refine PTimp (pt_cmp (pc_din hu (sndA k' X c W FC G tk _ h2).1 (sndA d X c W FC G tk _ h3).1) h0) fun σ H Q q => ?_
        obtain ⟨r, e, h, E, n, w⟩ := q
        have := core E n (tt_wp w)
        simp only [Bool.false_xor] at this
        exact this
      · refine PTimp (pt_cmp (pc_dnotin hu (sndA k' X c W FC G tk _ h2).1 (sndA d X c W FC G tk _ h3).1) h0) fun σ H Q q => ?_
        obtain ⟨r, e, h, E, n, w⟩ := q
        have := core E n (tt_wp w)
        simp only [Bool.true_xor] at this
        exact this
  | .dks cl d, X, c, W, FC, G, tk, x, hh => by
    unfold ckE at hh
    split at hh <;> first | (cases hh; done) | skip
    refine fin3 ?_ rfl
    simp only [Bool.and_eq_true, decide_eq_true_eq] at hh
    obtain ⟨⟨⟨⟨h0, rfl⟩, h1⟩, h2⟩, h6⟩ := hh
    rename_i p y pos
    obtain ⟨g1, g2⟩ := gl_of G h1
    have hm := FC.free _ h2
    simp only [evE]
    refine PEimp (pe_callTy (call_list_dK G.calm) g1 hm (by decide +kernel) (pa_cons (sndA d X c W FC G tk _ h6).1 pa_nil (star_cons h0)) (by decide +kernel) g2 (star_cons h0) rfl) fun σ H Q q => ?_
    obtain ⟨r, e, h, E, n, w⟩ := q
    refine stepE E n w fun r1 H1 h1 va A x1 E1 n1 p1 w1 => ?_
    cases g : dksV h1 va with
    | none => rw [g] at w1; exact w1.elim
    | some xs =>
      rw [g] at w1
      unfold dksV at g
      obtain ⟨kvs, g1, g2⟩ := Option.map_eq_some_iff.mp g
      subst g2
      obtain ⟨i, a, vs, rfl, hi, hr, rfl, hd, q1⟩ := dic_ok E1 g1 p1
      refine ⟨a, _, rfl, hd, fun l hl => ?_⟩
      have ek := zip_keys q1
      rw [ek]
      have qk := reps_keys (K := X.K) (cA := cA) (cF := cF) (H := H1) (r := r1) kvs
      cases cl with
      | true =>
        obtain ⟨y1, y2⟩ := E1.cell hl qk
        refine w1 _ _ _ y1 y2 ?_
        simp only [Rep]
        exact ⟨l, rfl, by rw [← E1.len]; simp⟩
      | false =>
        obtain ⟨y1, y2, y3⟩ := new_lst E1 hl qk
        exact w1 _ _ _ y1 y2 y3
  | .scl a l u, X, c, W, FC, G, tk, x, hh => by
    unfold ckE at hh
    split at hh <;> first | (cases hh; done) | skip
    refine fin3 ?_ rfl
    rename_i f g pos' pos
    simp only [Bool.and_eq_true] at hh
    obtain ⟨⟨h1, h2⟩, h3⟩ := hh
    simp only [evE]
    have part : ∀ (z : E) (f : Option Expr), (∀ x, ckE c z x = true → PE X x (tE X.K cA cF W (evE T C z))) → (match f with
      | none => isN z
      | some f => ckE c z f && !isN z) = true → PO X f (tO X.K cA cF W fun e h => if isN z then .ok none h else (evE T C z e h).bind fun v h => R.of (pI v) h) := by
      intro z f hz hf
      cases f with
      | none =>
        have hf : isN z = true := hf
        refine POimp po_none fun σ H Q q => ?_
        obtain ⟨r, e, h, E, n, w⟩ := q
        dsimp only at w
        rw [if_pos hf] at w
        exact w r H none Ext.refl E rfl
      | some f =>
        have hf : (ckE c z f && !isN z) = true := hf
        simp only [Bool.and_eq_true, Bool.not_eq_true'] at hf
        refine POimp (po_some (hz f hf.1)) fun σ H Q q => ?_
        obtain ⟨r, e, h, E, n, w⟩ := q
        simp only [hf.2, Bool.false_eq_true, if_false] at w
        refine stepE E n w fun r1 H1 h1 v V x1 E1 n1 p1 w1 => ?_
        cases v <;> first | exact w1.elim | skip
        simp only [Rep] at p1
        exact ⟨_, p1, w1 r1 H1 _ Ext.refl E1 rfl⟩
    refine PEimp (pe_slice (L2.SlR.or sl_list sl_str) (sndA a X c W FC G tk _ h1).1 (part l f (fun x h => (sndA l X c W FC G tk x h).1) h2) (part u g (fun x h => (sndA u X c W FC G tk x h).1) h3)) fun σ H Q q => ?_
    obtain ⟨r, e, h, E, n, w⟩ := q
    refine stepE E n w fun r1 H1 h1 va A x1 E1 n1 p1 w1 => ?_
    refine stepO E1 n1 w1 fun r2 H2 h2 lo x2 E2 n2 w2 => ?_
    refine stepO E2 n2 w2 fun r3 H3 h3 hi x3 E3 n3 w3 => ?_
    cases g : (getL h3 va).map fun xs => cutM xs lo hi with
    | none => rw [g] at w3; exact w3.elim
    | some z =>
      rw [g] at w3
      left
      obtain ⟨xs, e1, e2⟩ := Option.map_eq_some_iff.mp g
      subst e2
      obtain ⟨b, vs, rfl, l1, q1⟩ := getL_ok E3 e1 (Rep.mono (x2.trans x3) _ _ p1)
      refine ⟨b, vs, rfl, sq_of l1, fun p hp => ?_⟩
      obtain ⟨y1, y2⟩ := E3.cell hp (q1.cut (lo := lo) (hi := hi))
      refine w3 _ _ _ y1 y2 ?_
      simp only [Rep]
      exact ⟨p, rfl, by rw [← E3.len]; simp⟩
  | .lrv cl a, X, c, W, FC, G, tk, x, hh => by
    unfold ckE at hh
    split at hh <;> first | (cases hh; done) | skip
    refine fin3 ?_ rfl
    simp only [Bool.and_eq_true, decide_eq_true_eq] at hh
    obtain ⟨⟨⟨⟨⟨⟨⟨h0, rfl⟩, h1⟩, h2⟩, rfl⟩, h3⟩, h4⟩, h6⟩ := hh
    rename_i p p2 pos2 pos
    obtain ⟨g1, g2⟩ := gl_of G h1
    obtain ⟨g3, g4⟩ := gl_of G h3
    have hm := FC.free _ h2
    have hm2 := FC.free _ h4
    simp only [evE]
    refine PEimp (RT.pe_lstRev G.calm g1 hm g3 hm2 (sndA a X c W FC G tk _ h6).1 (star_cons h0) (by rfl)) fun σ H Q q => ?_
    obtain ⟨r, e, h, E, n, w⟩ := q
    refine stepE E n w fun r1 H1 h1 va A x1 E1 n1 p1 w1 => ?_
    cases g : (getL h1 va).map List.reverse with
    | none => rw [g] at w1; exact w1.elim
    | some xs =>
      rw [g] at w1
      obtain ⟨ys, g1, g2⟩ := Option.map_eq_some_iff.mp g
      subst g2
      obtain ⟨a, vs, rfl, l1, q1⟩ := getL_ok E1 g1 p1
      refine ⟨a, _, rfl, sq_of l1, fun l hl => ?_⟩
      have qk := reps_rev q1
      cases cl with
      | true =>
        obtain ⟨y1, y2⟩ := E1.cell hl qk
        refine w1 _ _ _ y1 y2 ?_
        simp only [Rep]
        exact ⟨l, rfl, by rw [← E1.len]; simp⟩
      | false =>
        obtain ⟨y1, y2, y3⟩ := new_lst E1 hl qk
        exact w1 _ _ _ y1 y2 y3
  | .dln d, X, c, W, FC, G, tk, x, hh => by
    unfold ckE at hh
    split at hh <;> first | (cases hh; done) | skip
    refine fin3 ?_ rfl
    simp only [Bool.and_eq_true, decide_eq_true_eq] at hh
    obtain ⟨⟨⟨⟨h0, rfl⟩, h1⟩, h2⟩, h6⟩ := hh
    rename_i p y pos
    obtain ⟨g1, g2⟩ := gl_of G h1
    have hm := FC.free _ h2
    simp only [evE]
    refine PEimp (pe_callB call_lenD g1 hm (by decide +kernel) (pa_cons (sndA d X c W FC G tk _ h6).1 pa_nil (star_cons h0)) (by decide +kernel) g2 (star_cons h0) rfl) fun σ H Q q => ?_
    obtain ⟨r, e, h, E, n, w⟩ := q
    refine stepE E n w fun r1 H1 h1 va A x1 E1 n1 p1 w1 => ?_
    cases g : dlnV h1 va with
    | none => rw [g] at w1; exact w1.elim
    | some z =>
      rw [g] at w1
      unfold dlnV at g
      obtain ⟨kvs, g1, g2⟩ := Option.map_eq_some_iff.mp g
      subst g2
      obtain ⟨i, a, vs, rfl, hi, hr, rfl, hd, q1⟩ := dic_ok E1 g1 p1
      refine ⟨a, _, rfl, hd, ?_⟩
      have el : ((kvs.map (·.1)).zip vs).length = kvs.length := by
        have := q1.length
        rw [List.length_map] at this
        rw [List.length_zip, List.length_map]; omega
      rw [el]
      exact w1 _ _ _ Ext.refl E1 rep_int
  | .dit d, X, c, W, FC, G, tk, x, hh => by
    unfold ckE at hh
    split at hh <;> first | (cases hh; done) | skip
    refine fin3 ?_ rfl
    simp only [Bool.and_eq_true, decide_eq_true_eq] at hh
    obtain ⟨⟨⟨⟨⟨⟨rfl, h1⟩, h2⟩, rfl⟩, h3⟩, h4⟩, h5⟩ := hh
    obtain ⟨g1, g2⟩ := gl_of G h1
    have hm := FC.free _ h2
    simp only [evE]
    refine PEimp (LiI.pe_listItems G.calm (sndA d X c W FC G tk _ h5).1 g1 hm (by decide +kernel) (attr_plain h3) h4 rfl) fun σ H Q q => ?_
    obtain ⟨r, e, h, E, n, w⟩ := q
    refine stepE E n w fun r1 H1 h1 va A x1 E1 n1 p1 w1 => ?_
    cases g : ditV h1 va with
    | none => rw [g] at w1; exact w1.elim
    | some z =>
      rw [g] at w1
      unfold ditV at g
      obtain ⟨kvs, g1, g2⟩ := Option.map_eq_some_iff.mp g
      subst g2
      obtain ⟨i, a, vs, rfl, hi, hr, rfl, hd, q1⟩ := dic_ok E1 g1 p1
      refine ⟨a, _, rfl, hd, fun H' p ts k1 k2 k3 k4 k5 k6 => ?_⟩
      obtain ⟨y1, y2⟩ := E1.more k1
      refine w1 _ _ _ y1 y2 ?_
      have no : ∀ {b : Addr}, H1 b = none → b ∉ r1 := fun hb z => by obtain ⟨u, q⟩ := E1.tracked z; rw [hb] at q; cases q
      simp only [Rep]
      exact ⟨p, _, rfl, .inl ⟨no k2, .inl k5⟩, pairs_rep (fun t ht => no (k3 t ht)) (Reps.mono y1 _ _ q1) k6⟩
  | .lix o y, X, c, W, FC, G, tk, x, hh => by
    unfold ckE at hh
    split at hh <;> first | (cases hh; done) | skip
    rename_i e m ap f pos
    refine fin3 ?_ rfl
    simp only [Bool.and_eq_true, decide_eq_true_eq] at hh
    obtain ⟨⟨⟨⟨⟨rfl, h1⟩, h2⟩, h3⟩, h4⟩, h5⟩ := hh
    have hfew : ((backTo pos (starEach [f] X.env)).all (fun x => !x.1) && (backToKw pos (keywordEach [] X.env)).all (fun x => x.1.isSome)
      && decide ([f].length + ([] : List Keyword).length + (if ([] : List Keyword).isEmpty then 0 else 1) < 30)) = true := by
      rw [star_cons h1]; rfl
    simp only [evE]
    refine PEimp (pe_bm PySem.F.plainAttrs_list PySem.F.slot_list_index PySem.F.type_list_index mt_index (sndA o X c W FC G tk _ h4).1 (pa_cons (sndA y X c W FC G tk _ h5).1 pa_nil (star_cons h1)) (attr_plain h2) hfew h3 (star_cons h1) rfl) fun σ H Q q => ?_
    obtain ⟨r, e, h, E, n, w⟩ := q
    refine stepE E n w fun r1 H1 h1 va A x1 E1 n1 p1 w1 => ?_
    cases g0 : getL h1 va with
    | none => rw [g0] at w1; exact w1.elim
    | some ys =>
      rw [g0] at w1
      obtain ⟨a, vs, rfl, l1, q1⟩ := getL_ok E1 g0 p1
      refine ⟨.inl ⟨rfl, vs, sq_of l1⟩, ?_⟩
      refine stepE E1 n1 w1 fun r2 H2 h2 vb B x2 E2 n2 p2 w2 => ?_
      cases g : lixV h2 va vb with
      | none => rw [g] at w2; exact w2.elim
      | some z =>
        rw [g] at w2
        unfold lixV at g
        obtain ⟨zs, g1, g2⟩ := Option.bind_eq_some_iff.mp g
        split at g2
        · rename_i hf
          simp only [Bool.and_eq_true] at hf
          obtain ⟨j, g3, g4⟩ := Option.map_eq_some_iff.mp g2
          subst g4
          obtain ⟨b, us, e0, l2, q2⟩ := getL_ok E2 g1 (Rep.mono x2 _ _ p1)
          cases e0
          obtain ⟨f1, f2⟩ := flat_rep hf.1 p2
          obtain ⟨k1, _⟩ := flats_rep hf.1 p2 hf.2 q2
          rw [List.findIdx?_eq_some_iff_getElem] at g3
          obtain ⟨hj, e1, e2⟩ := g3
          obtain ⟨v, e3, e4⟩ := q2.get (i := j) (x := zs[j]) (by simp [hj])
          have fl : ∀ (i : Nat) (hi : i < zs.length), flatM zs[i] = true := fun i hi => List.all_eq_true.mp hf.2 _ (List.getElem_mem hi)
          refine ⟨a, us, B, j, v, rfl, rfl, sq_of l2, f1, k1, e3, by rw [f2 _ _ (fl j hj) e4]; exact e1, fun m z' hm ez => ?_, w2 r2 H2 _ Ext.refl E2 rep_int⟩
          have hm2 : m < zs.length := by omega
          obtain ⟨v', e5, e6⟩ := q2.get (i := m) (x := zs[m]) (by simp [hm2])
          rw [ez] at e5
          cases e5
          rw [f2 _ _ (fl m hm2) e6]
          have := e2 m hm
          simpa using this
        · cases g2
  | .spc o y, X, c, W, FC, G, tk, x, hh => by
    unfold ckE at hh
    split at hh <;> first | (cases hh; done) | skip
    refine fin3 ?_ rfl
    simp only [Bool.and_eq_true, decide_eq_true_eq] at hh
    obtain ⟨⟨⟨⟨⟨rfl, hs⟩, h1⟩, h2⟩, h3⟩, h4⟩ := hh
    simp only [evE]
    refine PEimp (pe_m1 F.slot_str_split F.type_str_split mt_split (sndA o X c W FC G tk _ h3).1 (sndA y X c W FC G tk _ h4).1 (star_cons hs) (attr_plain h1) h2) fun σ H Q q => ?_
    obtain ⟨r, e, h, E, n, w⟩ := q
    refine stepE E n w fun r1 H1 h1 va A x1 E1 n1 p1 w1 => ?_
    cases va <;> first | exact w1.elim | skip
    simp only [Rep] at p1
    subst p1
    refine ⟨⟨_, rfl⟩, ?_⟩
    simp only [isStr, if_true] at w1
    refine stepE E1 n1 w1 fun r2 H2 h2 vb B x2 E2 n2 p2 w2 => ?_
    cases vb <;> first | (simp only [spcV] at w2; exact w2.elim) | skip
    simp only [spcV] at w2
    simp only [Rep] at p2
    subst p2
    split at w2
    · rename_i xs hz
      split at hz
      · rename_i hz2
        cases hz
        refine ⟨_, _, rfl, rfl, hz2.1, by rw [← sz_eq]; exact hz2.2, fun p hp => ?_⟩
        obtain ⟨y1, y2⟩ := E2.cell hp (strs_reps (cA := cA) (cF := cF) (Txt.split _ _))
        refine w2 _ _ _ y1 y2 ?_
        simp only [Rep]
        exact ⟨p, rfl, by rw [← E2.len]; simp⟩
      · cases hz
    · exact w2.elim
  | .sxi o y, X, c, W, FC, G, tk, x, hh => by
    unfold ckE at hh
    split at hh <;> first | (cases hh; done) | skip
    refine fin3 ?_ rfl
    simp only [Bool.and_eq_true, decide_eq_true_eq] at hh
    obtain ⟨⟨⟨⟨⟨rfl, hs⟩, h1⟩, h2⟩, h3⟩, h4⟩ := hh
    simp only [evE]
    refine PEimp (pe_m1 F.slot_str_index F.type_str_index mt_sindex (sndA o X c W FC G tk _ h3).1 (sndA y X c W FC G tk _ h4).1 (star_cons hs) (attr_plain h1) h2) fun σ H Q q => ?_
    obtain ⟨r, e, h, E, n, w⟩ := q
    refine stepE E n w fun r1 H1 h1 va A x1 E1 n1 p1 w1 => ?_
    cases va <;> first | exact w1.elim | skip
    simp only [Rep] at p1
    subst p1
    refine ⟨⟨_, rfl⟩, ?_⟩
    simp only [isStr, if_true] at w1
    refine stepE E1 n1 w1 fun r2 H2 h2 vb B x2 E2 n2 p2 w2 => ?_
    cases vb <;> first | (simp only [sxiV] at w2; exact w2.elim) | skip
    simp only [sxiV] at w2
    simp only [Rep] at p2
    subst p2
    cases q : Builtin.Str.occurrences _ _ 0 _ 1 with
    | nil => rw [q] at w2; exact w2.elim
    | cons i rest =>
      rw [q] at w2
      exact ⟨_, _, i, rest, rfl, rfl, q, w2 r2 H2 _ Ext.refl E2 rep_int⟩
theorem sndEsA : ∀ (es : Es) (X : Cx) (c : Ck) (W : WX) (FC : Fc X.prog X.w X.K X.mg X.base cA cF T C k c) (G : Gd X c k) (tk : TakesF X W) (xs : List Expr), ckEs c es xs = true → PA X xs (tAs X.K cA cF W (evEs T C es))
  | .nil, X, c, W, FC, G, tk, xs, hh => by
    cases xs with
    | cons _ _ => simp [ckEs] at hh
    | nil =>
      refine PAimp pa_nil fun σ H Q q => ?_
      obtain ⟨r, e, h, E, n, w⟩ := q
      simp only [evEs] at w
      exact w r H [] Ext.refl E (by simp only [Reps])
  | .cons a es, X, c, W, FC, G, tk, xs, hh => by
    cases xs with
    | nil => simp [ckEs] at hh
    | cons x xs =>
      simp only [ckEs, Bool.and_eq_true] at hh
      obtain ⟨⟨h1, h2⟩, h3⟩ := hh
      refine PAimp (pa_cons (sndA a X c W FC G tk x h2).1 (sndEsA es X c W FC G tk xs h3) (star_cons h1)) fun σ H Q q => ?_
      obtain ⟨r, e, h, E, n, w⟩ := q
      simp only [evEs] at w
      refine stepE E n w fun r1 H1 h1 va A x1 E1 n1 p1 w1 => ?_
      refine stepA E1 n1 w1 fun r2 H2 h2 vs VS x2 E2 n2 p2 w2 => ?_
      exact w2 r2 H2 (A :: VS) Ext.refl E2 (by simp only [Reps]; exact ⟨A, VS, rfl, Rep.mono x2 _ _ p1, p2⟩)
theorem sndI : ∀ (it : I) (X : Cx) (c : Ck) (W : WX) (FC : Fc X.prog X.w X.K X.mg X.base cA cF T C k c) (G : Gd X c k) (tk : TakesF X W) (tg x : Expr), ckI c tg it x = true → PI X tg x (tI X.K cA cF W (itE T C it))
  | .seq a, X, c, W, FC, G, tk, tg, x, hh => by
    simp only [ckI, Bool.and_eq_true] at hh
    refine PIimp (pi_seq (sndA a X c W FC G tk x hh.2).1) fun σ H Q q => ?_
    obtain ⟨r, e, h, E, n, w⟩ := q
    refine ⟨r, e, h, E, n, ?_⟩
    simp only [itE] at w
    cases q : evE T C a e h with
    | bad => rw [q] at w; exact w
    | exc y h1 => rw [q] at w; exact w
    | ok v h1 =>
      rw [q] at w
      simp only [R.bind_ok] at w
      intro r1 H1 V x1 E1 p1
      cases g : seqOf h1 v with
      | none =>
        rw [g] at w
        cases v <;> first | exact w.elim | skip
        have p2 := p1
        simp only [Rep] at p2
        exact .inr ⟨_, p2, w r1 H1 _ _ x1 E1 trivial lk_str⟩
      | some xs =>
        rw [g] at w
        left
        by_cases hv : ∃ ys, v = .tup ys
        · obtain ⟨ys, rfl⟩ := hv
          simp only [seqOf, Option.some.injEq] at g
          subst g
          have p := p1
          simp only [Rep] at p
          obtain ⟨a, vs, rfl, ⟨_, h1⟩, _⟩ := p
          exact ⟨a, rfl, .inr ⟨⟨vs, SqT.of h1⟩, w r1 H1 _ _ x1 E1 p1 lk_tup⟩⟩
        · have hs : ∀ h, seqOf h v = getL h v := by
            intro h
            cases v <;> first | rfl | exact absurd ⟨_, rfl⟩ hv
          obtain ⟨a, vs, rfl, l1, q1⟩ := getL_ok E1 (by rw [← hs]; exact g) p1
          exact ⟨a, rfl, .inl ⟨⟨vs, sq_of l1⟩, w r1 H1 _ _ x1 E1 p1 (lk_list hs)⟩⟩
  | .rng1 a, X, c, W, FC, G, tk, tg, x, hh => by
    simp only [ckI] at hh
    split at hh <;> first | (cases hh; done) | skip
    simp only [Bool.and_eq_true, decide_eq_true_eq] at hh
    obtain ⟨⟨⟨⟨h0, rfl⟩, h1⟩, h2⟩, h3⟩ := hh
    obtain ⟨g1, g2⟩ := gl_of G h1
    refine PIimp (pi_range1 g1 (FC.free _ h2) (pa_cons (sndA a X c W FC G tk _ h3).1 pa_nil (star_cons h0)) (star_cons h0)) fun σ H Q q => ?_
    obtain ⟨r, e, h, E, n, w⟩ := q
    simp only [itE] at w
    refine ⟨r, e, h, E, n, ?_⟩
    cases q : evE T C a e h with
    | bad => rw [q] at w; exact w
    | exc y h1 => rw [q] at w; exact w
    | ok v h1 =>
      rw [q] at w
      simp only [R.bind_ok] at w
      intro r1 H1 V x1 E1 p1
      cases v <;> first | exact w.elim | skip
      simp only [Rep] at p1
      subst p1
      rename_i j
      by_cases hj : -(2 ^ 62) ≤ j ∧ j < 2 ^ 62
      · simp only [if_pos hj] at w
        exact ⟨_, rfl, hj.1, hj.2, w r1 H1 _ _ x1 E1 trivial lk_rng⟩
      · simp only [if_neg hj] at w
  | .rng2 a b, X, c, W, FC, G, tk, tg, x, hh => by
    simp only [ckI] at hh
    split at hh <;> first | (cases hh; done) | skip
    simp only [Bool.and_eq_true, decide_eq_true_eq] at hh
    obtain ⟨⟨⟨⟨⟨⟨h0, h0'⟩, rfl⟩, h1⟩, h2⟩, h3⟩, h4⟩ := hh
    obtain ⟨g1, g2⟩ := gl_of G h1
    refine PIimp (pi_range2 g1 (FC.free _ h2) (pa_cons (sndA a X c W FC G tk _ h3).1 (pa_cons (sndA b X c W FC G tk _ h4).1 pa_nil (star_cons h0')) (star_cons h0)) (by rw [star_cons h0, star_cons h0']; rfl) (star_cons h0')) fun σ H Q q => ?_
    obtain ⟨r, e, h, E, n, w⟩ := q
    simp only [itE] at w
    refine ⟨r, e, h, E, n, ?_⟩
    cases q : evE T C a e h with
    | bad => rw [q] at w; exact w
    | exc y h1 => rw [q] at w; exact w
    | ok v h1 =>
      rw [q] at w
      simp only [R.bind_ok] at w
      intro r1 H1 V x1 E1 p1
      refine ⟨r1, e, h1, E1, n.mono x1, ?_⟩
      cases q2 : evE T C b e h1 with
      | bad => rw [q2] at w; exact w
      | exc y h2 => rw [q2] at w; exact fun r' H' cls d e1 e2 e3 => w r' H' cls d (x1.trans e1) e2 e3
      | ok u h2 =>
        rw [q2] at w
        simp only [R.bind_ok] at w
        intro r2 H2 U x2 E2 p2
        cases v <;> first | exact w.elim | skip
        cases u <;> first | exact w.elim | skip
        simp only [Rep] at p1 p2
        subst p1 p2
        rename_i i j
        by_cases hj : (-(2 ^ 62) ≤ i ∧ i < 2 ^ 62) ∧ -(2 ^ 62) ≤ j ∧ j < 2 ^ 62
        · simp only [if_pos hj] at w
          exact ⟨_, _, rfl, ⟨hj.1.1, hj.1.2, hj.2.1, hj.2.2⟩, w r2 H2 _ _ (x1.trans x2) E2 trivial lk_rng⟩
        · simp only [if_neg hj] at w
  | .rng3 a b d, X, c, W, FC, G, tk, tg, x, hh => by
    simp only [ckI] at hh
    split at hh <;> first | (cases hh; done) | skip
    simp only [Bool.and_eq_true, decide_eq_true_eq] at hh
    obtain ⟨⟨⟨⟨⟨⟨⟨⟨h0, h0'⟩, h0''⟩, rfl⟩, h1⟩, h2⟩, h3⟩, h4⟩, h5⟩ := hh
    obtain ⟨g1, g2⟩ := gl_of G h1
    refine PIimp (pi_range3 g1 (FC.free _ h2) (pa_cons (sndA a X c W FC G tk _ h3).1 (pa_cons (sndA b X c W FC G tk _ h4).1 (pa_cons (sndA d X c W FC G tk _ h5).1 pa_nil (star_cons h0'')) (star_cons h0')) (star_cons h0)) (star_cons h0) (by rw [star_cons h0', star_cons h0'']; rfl)) fun σ H Q q => ?_
    obtain ⟨r, e, h, E, n, w⟩ := q
    simp only [itE] at w
    refine ⟨r, e, h, E, n, ?_⟩
    cases q : evE T C a e h with
    | bad => rw [q] at w; exact w
    | exc y h1 => rw [q] at w; exact w
    | ok v h1 =>
      rw [q] at w
      simp only [R.bind_ok] at w
      intro r1 H1 V x1 E1 p1
      refine ⟨r1, e, h1, E1, n.mono x1, ?_⟩
      cases q2 : evE T C b e h1 with
      | bad => rw [q2] at w; exact w
      | exc y h2 => rw [q2] at w; exact fun r' H' cls d e1 e2 e3 => w r' H' cls d (x1.trans e1) e2 e3
      | ok u h2 =>
        rw [q2] at w
        simp only [R.bind_ok] at w
        intro r2 H2 U x2 E2 p2
        refine ⟨r2, e, h2, E2, (n.mono x1).mono x2, ?_⟩
        cases q3 : evE T C d e h2 with
        | bad => rw [q3] at w; exact w
        | exc y h3 => rw [q3] at w; exact fun r' H' cls d e1 e2 e3 => w r' H' cls d ((x1.trans x2).trans e1) e2 e3
        | ok z h3 =>
          rw [q3] at w
          simp only [R.bind_ok] at w
          intro r3 H3 Z x3 E3 p3
          cases v <;> first | exact w.elim | skip
          cases u <;> first | exact w.elim | skip
          cases z <;> first | exact w.elim | skip
          simp only [Rep] at p1 p2 p3
          subst p1 p2 p3
          rename_i i j s
          by_cases hj : rg3B i j s = true
          · simp only [if_pos hj] at w
            have hb := hj
            unfold rg3B at hj
            simp only [Bool.and_eq_true, decide_eq_true_eq] at hj
            exact ⟨i, j, s, (Builtin.Range.rangeSize i j s).toNat, rfl, ⟨hj.1, hj.2.1, hj.2.2.1, by have := hj.2.2.2; omega⟩, w r3 H3 _ _ ((x1.trans x2).trans x3) E3 trivial lk_rg3⟩
          · simp only [if_neg hj] at w
  | .zip a b, X, c, W, FC, G, tk, tg, x, hh => by
    simp only [ckI] at hh
    split at hh <;> first | (cases hh; done) | skip
    simp only [Bool.and_eq_true, decide_eq_true_eq] at hh
    obtain ⟨⟨⟨⟨⟨⟨⟨ht, h0⟩, h0'⟩, rfl⟩, h1⟩, h2⟩, h3⟩, h4⟩ := hh
    cases tg <;> first | (cases ht; done) | skip
    obtain ⟨g1, g2⟩ := gl_of G h1
    refine PIimp (pi_zip g1 (FC.free _ h2) (pa_cons (sndA a X c W FC G tk _ h3).1 (pa_cons (sndA b X c W FC G tk _ h4).1 pa_nil (star_cons h0')) (star_cons h0)) (star_cons h0) (by rw [star_cons h0']; rfl)) fun σ H Q q => ?_
    obtain ⟨r, e, h, E, n, w⟩ := q
    simp only [itE] at w
    refine ⟨r, e, h, E, n, ?_⟩
    cases q : evE T C a e h with
    | bad => rw [q] at w; exact w
    | exc y h1 => rw [q] at w; exact w
    | ok v h1 =>
      rw [q] at w
      simp only [R.bind_ok] at w
      intro r1 H1 V x1 E1 p1
      refine ⟨r1, e, h1, E1, n.mono x1, ?_⟩
      cases q2 : evE T C b e h1 with
      | bad => rw [q2] at w; exact w
      | exc y h2 => rw [q2] at w; exact fun r' H' cls d e1 e2 e3 => w r' H' cls d (x1.trans e1) e2 e3
      | ok u h2 =>
        rw [q2] at w
        simp only [R.bind_ok] at w
        intro r2 H2 U x2 E2 p2
        cases g : zipS v u h2 with
        | none => rw [g] at w; exact w.elim
        | some zs =>
          rw [g] at w
          have g0 := g
          unfold zipS at g
          obtain ⟨xs, e1, g⟩ := Option.bind_eq_some_iff.mp g
          obtain ⟨ys, e2, g⟩ := Option.map_eq_some_iff.mp g
          have p1 := Rep.mono x2 _ _ p1
          obtain ⟨a', vs, rfl, l1, q1⟩ := getL_ok E2 e1 p1
          obtain ⟨b', us, rfl, l2, q2⟩ := getL_ok E2 e2 p2
          exact ⟨a', b', vs, us, rfl, sq_of l1, sq_of l2, w r2 H2 _ _ (x1.trans x2) E2 ⟨p1, p2⟩ lk_zip⟩
  | .enm a, X, c, W, FC, G, tk, tg, x, hh => by
    simp only [ckI] at hh
    split at hh <;> first | (cases hh; done) | skip
    simp only [Bool.and_eq_true, decide_eq_true_eq] at hh
    obtain ⟨⟨⟨⟨⟨ht, h0⟩, rfl⟩, h1⟩, h2⟩, h3⟩ := hh
    cases tg <;> first | (cases ht; done) | skip
    obtain ⟨g1, g2⟩ := gl_of G h1
    refine PIimp (pi_enum g1 (FC.free _ h2) (pa_cons (sndA a X c W FC G tk _ h3).1 pa_nil (star_cons h0)) (star_cons h0)) fun σ H Q q => ?_
    obtain ⟨r, e, h, E, n, w⟩ := q
    simp only [itE] at w
    refine ⟨r, e, h, E, n, ?_⟩
    cases q : evE T C a e h with
    | bad => rw [q] at w; exact w
    | exc y h1 => rw [q] at w; exact w
    | ok v h1 =>
      rw [q] at w
      simp only [R.bind_ok] at w
      intro r1 H1 V x1 E1 p1
      cases g : enmS v h1 with
      | none => rw [g] at w; exact w.elim
      | some zs =>
        rw [g] at w
        have g0 := g
        unfold enmS at g
        obtain ⟨xs, e1, g⟩ := Option.map_eq_some_iff.mp g
        obtain ⟨a', vs, rfl, l1, q1⟩ := getL_ok E1 e1 p1
        exact ⟨a', vs, rfl, sq_of l1, w r1 H1 _ _ x1 E1 p1 lk_enm⟩
end
end
section
variable {X : Cx} {cA : Nat → Addr} {cF : Nat → List Str} {T : Tab} {C : Nat → List MV → HP → R MV} {k : Nat} {c : Ck} {W : WX}
theorem snd (FC : Fc X.prog X.w X.K X.mg X.base cA cF T C k c) (G : Gd X c k) (tk : TakesF X W) (e : E) (x : Expr) (hh : ckE c e x = true) : PE X x (tE X.K cA cF W (evE T C e)) ∧ (tsB x = true → PT X x (tTt X.K cA cF W (evE T C e))) ∧ (isBO x = true → PW X x (tTt X.K cA cF W (evE T C e))) := sndA e X c W FC G tk x hh
end
end Rm

/-! Rm, part F: statements. -/
namespace Rm
open PySem L2 PySem.Spec PyProof.Rows
section
variable (K : PySem.W.Frag) (cA : Nat → Addr) (cF : Nat → List Str)
def wpO (r : List Addr) (H : Hp) (o : O) (D : Ends) (W : WX) : Prop := match o with
  | .nx e h' => ∀ r' H' σ, Ext r H r' H' → Emb K cA cF H' r' h' → REn K cA cF H' r' e σ → D.nx σ H'
  | .ct e h' => ∀ r' H' σ, Ext r H r' H' → Emb K cA cF H' r' h' → REn K cA cF H' r' e σ → D.ct σ H'
  | .ret v h' => ∀ r' H' V, Ext r H r' H' → Emb K cA cF H' r' h' → Rep K cA cF H' r' v V → D.rt V H'
  | .exc x e h' => ∀ r' H' σ cls d, Ext r H r' H' → Emb K cA cF H' r' h' → REn K cA cF H' r' e σ → RepX cA x cls d → W cls d σ H'
  | .bad => False
def tS (W : WX) (f : EN → HP → O) : TS := fun D σ H => ∃ r e h, Emb K cA cF H r h ∧ REn K cA cF H r e σ ∧ wpO K cA cF r H (f e h) D W
def tG (tg : Tg) : TG := fun V σ H Q => ∃ r e h v e', Emb K cA cF H r h ∧ REn K cA cF H r e σ ∧ Rep K cA cF H r v V ∧ setG tg v e = some e' ∧ ∀ σ', REn K cA cF H r e' σ' → Q σ' H
end
section
variable {K : PySem.W.Frag} {cA : Nat → Addr} {cF : Nat → List Str} {r r1 : List Addr} {H H1 : Hp} {h : HP} {e : EN} {σ : L2.St} {W : WX} {D : Ends}
theorem wpO.mono {o : O} (x : Ext r H r1 H1) (w : wpO K cA cF r H o D W) : wpO K cA cF r1 H1 o D W := by
  cases o with
  | nx a b => exact fun r' H' s e1 e2 e3 => w r' H' s (x.trans e1) e2 e3
  | ct a b => exact fun r' H' s e1 e2 e3 => w r' H' s (x.trans e1) e2 e3
  | ret a b => exact fun r' H' s e1 e2 e3 => w r' H' s (x.trans e1) e2 e3
  | exc a b c => exact fun r' H' s cls d e1 e2 e3 => w r' H' s cls d (x.trans e1) e2 e3
  | bad => exact w
/-- an expression ahead in a statement -/
theorem stepS {f : EN → HP → R MV} {k : MV → HP → O} {Q' : VK}
    (E : Emb K cA cF H r h) (n : REn K cA cF H r e σ) (w : wpO K cA cF r H ((f e h).go e k) D W)
    (cont : ∀ r1 H1 h1 x V, Ext r H r1 H1 → Emb K cA cF H1 r1 h1 → REn K cA cF H1 r1 e σ → Rep K cA cF H1 r1 x V → wpO K cA cF r1 H1 (k x h1) D W → Q' V H1) : tE K cA cF W f σ H Q' := by
  refine ⟨r, e, h, E, n, ?_⟩
  cases q : f e h with
  | ok x h1 =>
    rw [q] at w
    exact fun r1 H1 V e1 e2 e3 => cont r1 H1 h1 x V e1 e2 (n.mono e1) e3 (wpO.mono e1 w)
  | exc x h1 =>
    rw [q] at w
    exact fun r' H' cls d e1 e2 e3 => w r' H' σ cls d e1 e2 (n.mono e1) e3
  | bad => rw [q] at w; exact w
theorem stepT {f : EN → HP → R MV} {k : MV → HP → O} {Q' : Bool → Hp → Prop}
    (E : Emb K cA cF H r h) (n : REn K cA cF H r e σ) (w : wpO K cA cF r H ((f e h).go e k) D W) (hb : ∀ x h1, (∀ b, x ≠ .bl b) → k x h1 = .bad)
    (cont : ∀ r1 H1 h1 b, Ext r H r1 H1 → Emb K cA cF H1 r1 h1 → REn K cA cF H1 r1 e σ → wpO K cA cF r1 H1 (k (.bl b) h1) D W → Q' b H1) : tTt K cA cF W f σ H Q' := by
  refine ⟨r, e, h, E, n, ?_⟩
  cases q : f e h with
  | ok x h1 =>
    rw [q] at w
    by_cases hx : ∃ b, x = .bl b
    · obtain ⟨b, rfl⟩ := hx
      exact fun r1 H1 e1 e2 => cont r1 H1 h1 b e1 e2 (n.mono e1) (wpO.mono e1 w)
    · have z := hb x h1 (fun b hb => hx ⟨b, hb⟩)
      rw [R.go_ok, z] at w
      exact w.elim
  | exc x h1 =>
    rw [q] at w
    exact fun r' H' cls d e1 e2 e3 => w r' H' σ cls d e1 e2 (n.mono e1) e3
  | bad => rw [q] at w; exact w
theorem PSimp {X : Cx} {x : Stmt} {t u : TS} (p : PS X x t) (i : ∀ D σ H, u D σ H → t D σ H) : PS X x u := ⟨fun pins s σ H D I q => p.run pins s σ H D I (i D σ H q)⟩
theorem PSsimp {X : Cx} {x : List Stmt} {t u : TS} (p : PSs X x t) (i : ∀ D σ H, u D σ H → t D σ H) : PSs X x u := ⟨fun pins s σ H D I q => p.run pins s σ H D I (i D σ H q)⟩
end

structure Gs (X : Cx) (c : Ck) (k : Nat) : Prop extends Gd X c k where
  fn : ∀ x, X.fn x = true
  own : PassesOwn (model X.prog X.w) X.A X.env X.xe
  stk : X.stack = X.env :: X.outer
  frm : X.env.frame = some X.env.locals
  exn : X.ex = []
section
variable {X : Cx} {cA : Nat → Addr} {cF : Nat → List Str} {T : Tab} {C : Nat → List MV → HP → R MV} {k : Nat} {c : Ck} {W : WX}
/-! ### targets -/
def tGs (K : PySem.W.Frag) (cA : Nat → Addr) (cF : Nat → List Str) (is : List Nat) : TGs := fun Vs σ H Q => ∃ r e h vs e', Emb K cA cF H r h ∧ REn K cA cF H r e σ ∧ Reps K cA cF H r vs Vs ∧ setT is vs e = some e' ∧ ∀ σ', REn K cA cF H r e' σ' → Q σ' H
theorem pgs_ok (G : Gs X c k) : ∀ (is : List Nat) (xs : List Expr), ckNs c is xs = true → PGs X xs (tGs X.K cA cF is)
  | [], xs, hh => by
    cases xs with
    | cons _ _ => simp [ckNs] at hh
    | nil =>
      refine PGsimp pgs_nil fun V σ H Q q => ?_
      obtain ⟨r, e, h, vs, e', E, n, p, g, q⟩ := q
      cases vs with
      | cons _ _ => simp [setT] at g
      | nil =>
        simp only [setT, Option.some.injEq] at g
        subst g
        simp only [Reps] at p
        exact ⟨p, q σ n⟩
  | i :: is, xs, hh => by
    unfold ckNs at hh
    split at hh <;> first | (cases hh; done) | skip
    simp only [Bool.and_eq_true, decide_eq_true_eq] at hh
    obtain ⟨⟨h1, h2⟩, h3⟩ := hh
    rename_i y pos ys
    refine PGsimp (pgs_cons (pg_name (i := i) G.nd (by rw [G.hN]; exact h1) (by rw [G.sc]; exact loc_of h2) (.inl (G.fn _))) (pgs_ok G is ys h3) rfl) fun V σ H Q q => ?_
    obtain ⟨r, e, h, vs, e', E, n, p, g, q⟩ := q
    cases vs with
    | nil => simp [setT] at g
    | cons v vs =>
      simp only [setT] at g
      simp only [Reps] at p
      obtain ⟨V1, Vs, rfl, p1, p2⟩ := p
      exact ⟨V1, Vs, rfl, r, _, h, vs, e', E, n.set p1, p2, g, q⟩
theorem assignEach_len {c : Ck} {env : Env} : ∀ (is : List Nat) (xs : List Expr), ckNs c is xs = true → (assignEach xs env).length = is.length ∧ (assignEach xs env).findIdx? (·.1) = none
  | [], xs, hh => by
    cases xs with
    | cons _ _ => simp [ckNs] at hh
    | nil => exact ⟨rfl, rfl⟩
  | i :: is, xs, hh => by
    unfold ckNs at hh
    split at hh <;> first | (cases hh; done) | skip
    simp only [Bool.and_eq_true] at hh
    obtain ⟨a, b⟩ := assignEach_len (env := env) is _ hh.2
    rename_i y pos ys
    refine ⟨?_, ?_⟩
    · show (_ :: assignEach ys env).length = _
      rw [List.length_cons, a, List.length_cons]
    · show List.findIdx? _ (_ :: assignEach ys env) = none
      rw [List.findIdx?_cons, b]; rfl
theorem pg_ok (G : Gs X c k) (tg : Tg) (x : Expr) (hh : ckG c tg x = true) : PG X x (tG X.K cA cF tg) := by
  cases tg with
  | one i =>
    simp only [ckG] at hh
    split at hh <;> first | (cases hh; done) | skip
    simp only [Bool.and_eq_true, decide_eq_true_eq] at hh
    refine PGimp (pg_name (i := i) G.nd (by rw [G.hN]; exact hh.1) (by rw [G.sc]; exact loc_of hh.2) (.inl (G.fn _))) fun V σ H Q q => ?_
    obtain ⟨r, e, h, v, e', E, n, p, g, q⟩ := q
    simp only [setG, Option.some.injEq] at g
    subst g
    exact q _ (n.set p)
  | tup is =>
    simp only [ckG] at hh
    split at hh <;> first | (cases hh; done) | skip
    obtain ⟨a, b⟩ := assignEach_len (env := X.env) is _ hh
    rename_i kk pp
    have P1 := pg_tup (k := kk) (pos := pp) G.calm (pgs_ok (cA := cA) (cF := cF) G is _ hh) a b
    have P2 := pg_lst (k := kk) (pos := pp) G.calm (pgs_ok (cA := cA) (cF := cF) G is _ hh) a b
    have hl : ∀ (is : List Nat) (us : List MV) (e e' : EN), setT is us e = some e' → us.length = is.length := by
      intro is
      induction is with
      | nil => intro us e e' g; cases us with | nil => rfl | cons _ _ => simp [setT] at g
      | cons i is ih => intro us e e' g; cases us with | nil => simp [setT] at g | cons v us => simp only [setT] at g; simp [ih us _ _ g]
    refine ⟨fun pins s σ H V u Q I rr q => ?_⟩
    obtain ⟨r, e, h, v, e', E, n, p, g, q⟩ := q
    cases v <;> first | (simp only [setG] at g; cases g; done) | skip
    · simp only [setG] at g
      simp only [Rep] at p
      obtain ⟨ad, Vs, rfl, ⟨_, p1⟩, p2⟩ := p
      exact P1.run pins s σ H _ u Q I rr ⟨ad, Vs, rfl, SqT.of p1, by rw [p2.length]; exact hl _ _ _ _ g, r, e, h, _, e', E, n, p2, g, q⟩
    · simp only [setG] at g
      simp only [Rep] at p
      obtain ⟨ad, Vs, rfl, p1, p2⟩ := p
      exact P2.run pins s σ H _ u Q I rr ⟨ad, Vs, rfl, p1.sq, by rw [p2.length]; exact hl _ _ _ _ g, r, e, h, _, e', E, n, p2, g, q⟩

theorem pi_ok (FC : Fc X.prog X.w X.K X.mg X.base cA cF T C k c) (G : Gs X c k) (tk : Takes X W) (tg : Expr) (it : I) (x : Expr) (hh : ckI c tg it x = true) : PI X tg x (tI X.K cA cF W (itE T C it)) := sndI it X c W FC G.toGd (takesF_of G.frm tk) tg x hh
end
end Rm

/-! Rm, part G: loops, try, the theorem for statements. -/
namespace Rm
open PySem L2 PySem.Spec PyProof.Rows
section
variable {X : Cx} {cA : Nat → Addr} {cF : Nat → List Str} {W : WX}
theorem for_ok {K : PySem.W.Frag} {tg : Tg} {J : It} {src : HP → Option (List MV)} {all : List MV} {P : List Addr → Hp → Prop} {f : EN → HP → O} {D : Ends} {r : List Addr} {H : Hp} {e : EN} {h : HP} {σ : L2.St}
    (L : Lk K cA cF J src all P) (p : P r H) (E : Emb K cA cF H r h) (n : REn K cA cF H r e σ) (w : wpO K cA cF r H (forL tg src all f all e h) D W) :
    ∃ Wi : Nat → Nat → L2.St → Hp → Prop, (∃ m, Wi 0 m σ H) ∧ ∀ i m σ H, Wi i m σ H →
      (J.stop i H ∧ D.nx σ H) ∨ (J.go i H ∧ ∃ N : L2.St → Hp → Prop, (∀ σ' H', N σ' H' → ∃ m', m' < m ∧ Wi (i + 1) m' σ' H') ∧ ∀ x H', J.yld i H x H' → tG K cA cF tg x σ H' fun σ2 H2 => tS K cA cF W f { D with nx := N, ct := N, bk := D.nx } σ2 H2) := by
  refine ⟨fun i m σ H => m = all.length - i ∧ i ≤ all.length ∧ ∃ r e h, P r H ∧ Emb K cA cF H r h ∧ REn K cA cF H r e σ ∧ wpO K cA cF r H (forL tg src all f (all.drop i) e h) D W,
    ⟨all.length, by simp, Nat.zero_le _, r, e, h, p, E, n, by simpa using w⟩, ?_⟩
  rintro i m σ H ⟨rfl, hi, r, e, h, p, E, n, w⟩
  by_cases hlt : i < all.length
  · have ed : all.drop i = all[i] :: all.drop (i + 1) := List.drop_eq_getElem_cons hlt
    rw [ed] at w
    unfold forL at w
    by_cases hs : src h = some all
    · rw [if_pos hs] at w
      obtain ⟨g1, g2⟩ := L.go r H h i all[i] p E hs (by simp [hlt])
      refine .inr ⟨g1, _, fun σ' H' z => ⟨all.length - (i + 1), by omega, rfl, hlt, z⟩, fun V H' y => ?_⟩
      obtain ⟨x0, E, rv⟩ := g2 V H' y
      replace p := L.mono _ _ _ _ p x0
      replace n := n.mono x0
      replace w := wpO.mono x0 w
      cases q : setG tg all[i] e with
      | none => rw [q] at w; exact w.elim
      | some e' =>
        rw [q] at w
        refine ⟨r, e, h, _, e', E, n, rv, q, fun σ' n' => ⟨r, e', h, E, n', ?_⟩⟩
        cases q2 : f e' h with
        | nx a b => simp only [q2] at w; exact fun r' H' s x1 x2 x3 => ⟨r', a, b, L.mono _ _ _ _ p x1, x2, x3, wpO.mono x1 w⟩
        | ct a b => simp only [q2] at w; exact fun r' H' s x1 x2 x3 => ⟨r', a, b, L.mono _ _ _ _ p x1, x2, x3, wpO.mono x1 w⟩
        | ret a b => simp only [q2] at w; exact w
        | exc a b d => simp only [q2] at w; exact w
        | bad => simp only [q2] at w; exact w.elim
    · rw [if_neg hs] at w; exact w.elim
  · have ei : i = all.length := by omega
    subst ei
    rw [List.drop_length] at w
    unfold forL at w
    by_cases hs : src h = some all
    · rw [if_pos hs] at w
      exact .inl ⟨L.stop r H h p E hs, w r H σ Ext.refl E n⟩
    · rw [if_neg hs] at w; exact w.elim
theorem whl_ok {K : PySem.W.Frag} {t : EN → HP → R MV} {f : EN → HP → O} {D : Ends} {r : List Addr} {H : Hp} {e : EN} {h : HP} {σ : L2.St} {m : Nat}
    (E : Emb K cA cF H r h) (n : REn K cA cF H r e σ) (w : wpO K cA cF r H (whlL t f m e h) D W) : tWhile (tTt K cA cF W t) (tS K cA cF W f) D σ H := by
  refine ⟨fun m σ H => ∃ r e h, Emb K cA cF H r h ∧ REn K cA cF H r e σ ∧ wpO K cA cF r H (whlL t f m e h) D W, ⟨m, r, e, h, E, n, w⟩, ?_⟩
  rintro m σ H ⟨r, e, h, E, n, w⟩
  cases m with
  | zero => exact w.elim
  | succ m =>
    unfold whlL at w
    refine stepT E n w (fun x h1 hx => ?_) fun r1 H1 h1 b x1 E1 n1 w1 => ?_
    · cases x <;> first | rfl | exact absurd rfl (hx _)
    · cases b with
      | false => rw [if_neg Bool.false_ne_true]; exact w1 r1 H1 σ Ext.refl E1 n1
      | true =>
        rw [if_pos rfl]
        refine ⟨fun σ' H' => ∃ r e h, Emb K cA cF H' r h ∧ REn K cA cF H' r e σ' ∧ wpO K cA cF r H' (whlL t f m e h) D W, fun σ' H' z => ⟨m, Nat.lt_succ_self _, z⟩, r1, e, h1, E1, n1, ?_⟩
        cases q2 : f e h1 with
        | nx a b => simp only [q2] at w1; exact fun r' H' s x1 x2 x3 => ⟨r', a, b, x2, x3, wpO.mono x1 w1⟩
        | ct a b => simp only [q2] at w1; exact fun r' H' s x1 x2 x3 => ⟨r', a, b, x2, x3, wpO.mono x1 w1⟩
        | ret a b => simp only [q2] at w1; exact w1
        | exc a b d => simp only [q2] at w1; exact w1
        | bad => simp only [q2] at w1; exact w1.elim

/-! ### a caught exception is kept as a value -/
theorem Inv.track {pins : List (Addr × Obj)} {σ : L2.St} {H : Hp} {s : Shared} {a : Addr} {o : HO} (I : L2.Inv X pins σ H s) (hn : H a = none) (h0 : X.s_0.heap.get? a = none) (hL : a ≠ X.env.locals)
    (hc : ∀ x c, X.env.cells.lookup x = some c → c ≠ a) (hp : ∀ p ∈ X.pn ++ pins, p.1 ≠ a) (new : ObjOk X.prog X.w (upd H a o) s.heap a o) : L2.Inv X pins σ (upd H a o) s := by
  have ne : ∀ b u, H b = some u → b ≠ a := fun b u e => ne_of_none e hn
  have ne0 : ∀ b u, X.s_0.heap.get? b = some u → b ≠ a := fun b u e z => by rw [z, h0] at e; cases e
  refine ⟨I.ok, I.os, I.bare, ⟨I.base.keep, I.base.slot, fun b u e n hx => ?_, I.base.there, fun b xs e => ?_, fun b u xs e => ?_, fun b ps e => ?_⟩, I.loc, I.cell, ?_, fun x c e => ?_, fun p hpm => ?_, fun b u e => ?_, I.len⟩
  · rw [upd_ne (ne0 b u e)]; exact I.base.free b u e n hx
  · have z := I.base.tups b xs e
    rw [upd_ne (ne b _ z)]; exact z
  · have z := I.base.frzs b u xs e
    rw [upd_ne (ne b _ z)]; exact z
  · obtain ⟨more, z⟩ := I.base.tbls b ps e
    exact ⟨more, by rw [upd_ne (ne b _ z)]; exact z⟩
  · rw [upd_ne (Ne.symm hL)]; exact I.free
  · rw [upd_ne (hc x c e)]; exact I.freeC x c e
  · obtain ⟨z1, z2, z3, z4, z5⟩ := I.pin p hpm
    exact ⟨z1, by rw [upd_ne (hp p hpm)]; exact z2, z3, z4, z5⟩
  · by_cases hb : b = a
    · subst hb
      rw [upd_same] at e
      cases e
      exact new
    · rw [upd_ne hb] at e
      exact (I.hok b u e).stay (fun c v _ q => q) (fun c q => by rw [upd_ne (ne c _ q)]; exact q) fun c xs q => by rw [upd_ne (ne c _ q)]; exact q
/-- what «except x as n: y = n» wishes -/
def wVal (K : PySem.W.Frag) (c : Value) (i j : Nat) (Wout : WX) (D : Ends) : WX := fun cls d σ H =>
  ∃ b, PySem.W.exmOne K cls c = some b ∧ (b = true → ∃ C, cls = .ref C ∧ d = none ∧ ∀ a, H a = none → D.nx (((σ.set i (some (.ref a))).set j (some (.ref a))).set i none) (upd H a (ExcV C a))) ∧ (b = false → Wout cls d σ H)
theorem ps_try_val {x n u : Str} {c : Value} {i j : Nat} {body : List Stmt} {np pos pos' p1 p2 p3 : Pos} {tb : WX → TS} {Wout : WX} (hs : X.stack = X.env :: X.outer) (hf : X.env.frame = some X.env.locals) (hex : X.ex = []) (hN : X.N.Nodup) (hi : X.N[i]? = some n) (hln : X.env.kindOf n = some .local)
    (hj : X.N[j]? = some u) (hlu : L2.Loc X.env.scope u) (hfu : X.fn u = true) (hdn : (n == ("__debug__" : Str)) = false) (hcn : (n == ("__classdict__" : Str)) = false) (hc : Names X x c) (tk : Takes X Wout)
    (hb : ∀ (W : WX) (pn : List (Addr × Obj)) (xe : Value → Shared → Prop), Takes (X.tr pn xe) W → PassesOwn (model X.prog X.w) X.A X.env xe → PSs (X.tr pn xe) body (tb W)) :
    PS X (.Try body [.ExceptHandler (some (.Name x np)) (some n) [.Assign [.Name u p1] (.Name n p2) p3] pos'] [] [] pos) (fun D σ H => tb (wVal X.K c i j Wout D) D σ H) := by
  refine ⟨fun pins s σ H D I h => ?_⟩
  have ok := I.ok
  have hfr : X.A.frames = some (X.env :: X.outer) := by rw [ok.frames, hs]
  have hloc : L2.Loc X.env.scope n := .inl hln
  refine wpAny_Try_except ?_
  refine wpAny_mono ((hb (wVal X.K c i j Wout D) (X.pn ++ pins) (fun e s₁ => wpAny (model X.prog X.w) X.A (noteFrame e X.env) (fun _ s₂ => wpAny (model X.prog X.w) X.A (setFlight e none) (fun _ s₃ =>
    wpAny (model X.prog X.w) X.A (handleBy e X.env [.ExceptHandler (some (.Name x np)) (some n) [.Assign [.Name u p1] (.Name n p2) p3] pos']) (SP X pins D) X.xe s₃) X.xe s₂) X.xe s₁) (fun u' s' xx => ?_) PassesOwn.looking).run [] s σ H D (I.toTry _) h) (fun f s1 hsp => ?_) (fun e s1 he => he)
  · obtain ⟨a, B, sI, pins', σ', H', cls, d, rfl, J', nb, up, sky, na, os, ag, b, hb1, hyes, hno⟩ := xx
    have J : L2.Inv X pins σ' H' sI := J'.ofTry ok
    have sky' : Sky B (X.env :: X.outer) a (Zc cls d) X.env.locals s'.heap := by rw [← hs]; exact sky
    show wpAny (model X.prog X.w) X.A (noteFrame (.ref a) X.env) _ _ _
    refine Sky.land Zc.steady hfr hf sky' fun h3 fl3 up3 => ?_
    have J3 : L2.Inv X pins σ' H' { s' with heap := h3 } := J.landed nb fl3.1 (up.trans up3) os ag
    obtain ⟨oe3, vs3, he3, hz3, hd3⟩ := fl3.there
    have notFr : ∀ {h : Heap} {o : Obj} {vs : Array Value}, h.FunFrames B (X.env :: X.outer) → h.get? a = some o → o.data = .fields vs → a ∉ frs (X.env :: X.outer) := fun {h o vs} ff e dd hm => by
      obtain ⟨_, o', e', hnf⟩ := ff.mem hm
      rw [e] at e'; cases e'
      exact hnf _ dd
    have nfr := notFr fl3.2.2.1 he3 hd3
    have nL : a ≠ X.env.locals := fun z => nfr (List.mem_filterMap.mpr ⟨X.env, List.mem_cons_self, by rw [hf, z]⟩)
    have nF : a ∉ X.fs := fun hm => by
      obtain ⟨e, he, q⟩ := List.mem_filterMap.mp hm
      exact nfr (List.mem_filterMap.mpr ⟨e, List.mem_cons_of_mem _ he, q⟩)
    have nI : sI.heap.get? a = none := by
      cases q : sI.heap.get? a with
      | none => rfl
      | some o =>
        have z := nb a o q (by rw [hs]; exact nfr)
        rw [fl3.2.1] at z; cases z
    have n0 : X.s_0.heap.get? a = none := by
      cases q : X.s_0.heap.get? a with
      | none => rfl
      | some o =>
        obtain ⟨o', z⟩ := J.base.there a o q (by rw [hex]; simp)
        rw [nI] at z; cases z
    have nP : ∀ p ∈ X.pn ++ pins, p.1 ≠ a := fun p hp z => by
      have := (J.pin p hp).1
      rw [z, nI] at this; cases this
    have nC : ∀ x c, X.env.cells.lookup x = some c → c ≠ a := fun x c e z => by
      obtain ⟨v, o, ho, _⟩ := J.cell x c e
      rw [z, nI] at ho; cases ho
    have S3 := J3.suite he3 hd3 na nL nF
    refine wpAny_handleBy_cons (codeAny_handlers_test ?_) (by intro q; cases q)
    have LT : PySem.W.Looks (model X.prog X.w) h3 (typeOf (.ref a)) cls := fun A Q E s k q => wpAny_typeOf_ref (k _ _ he3) (by rw [hz3.1]; exact q)
    have LM := PySem.W.exm_one (M := model X.prog X.w) (J3.kIn) LT hb1
    have test : ∀ {Q : Value → Shared → Prop} {E : Value → Shared → Prop}, Q c { s' with heap := h3 } → wpAny (model X.prog X.w) (X.A.mark (some (.ref a))) (eval (.Name x np) X.env) Q E { s' with heap := h3 } := fun {Q E} q => by
      obtain ⟨hg, hdbg, hm | ⟨hm, hv, hnn⟩⟩ := hc
      · exact ld_glob (X := X.suite a ((a, oe3) :: (X.pn ++ pins))) S3 hg hm q hdbg
      · exact ld_blt (X := X.suite a ((a, oe3) :: (X.pn ++ pins))) S3 hg hm hv q hnn hdbg
    refine test (LM.here ?_)
    cases b with
    | true =>
      obtain ⟨C, rfl, rfl, hyes2⟩ := hyes rfl
      refine codeAny_handlers_suite_as ?_
      refine HandSPX.lands_againZ fl3 fun h4 fl4 up4 => ?_
      have J4 : L2.Inv X pins σ' H' { s' with heap := h4 } := J.landed nb fl4.1 ((up.trans up3).trans up4) os ag
      obtain ⟨oe4, vs4, he4, hz4, hd4⟩ := fl4.there
      have S4 := J4.suite he4 hd4 na nL nF
      refine store_ok (X := X.suite a ((a, oe4) :: (X.pn ++ pins))) (v := .ref a) S4 hN hi hloc rfl (fun s5 S5 => ?_) (.inr hln)
      have asg : PSs (X.suite a ((a, oe4) :: (X.pn ++ pins))) [.Assign [.Name u p1] (.Name n p2) p3] (tAsg (tVar i) (gName j)) :=
        pss_one (ps_set (X := X.suite a ((a, oe4) :: (X.pn ++ pins))) (i := j) hN hj hlu (pe_var (X := X.suite a ((a, oe4) :: (X.pn ++ pins))) (i := i) hi (.inl hln) hdn hcn) rfl (.inl hfu))
      have hil : i < σ'.length := by
        have z := (List.getElem?_eq_some_iff.mp hi).1
        rw [J.len]; exact z
      refine wpAny_mono (asg.run [] s5 _ H' { nx := fun σ7 H7 => H7 = H' ∧ σ7 = (σ'.set i (some (.ref a))).set j (some (.ref a)), rt := fun _ _ => False } S5 ⟨.ref a, List.getElem?_set_self hil, rfl, rfl⟩) (fun f s6 hsp => ?_) (fun _ _ z => False.elim z)
      cases f with
      | next =>
        obtain ⟨σ6, H6, S6, rfl, rfl⟩ := hsp
        have K6 : L2.Inv X ((a, oe4) :: pins) ((σ'.set i (some (.ref a))).set j (some (.ref a))) H6 s6 :=
          ⟨ok, S6.os, S6.bare, S6.base, S6.loc, S6.cell, S6.free, S6.freeC, fun p hp => S6.pin p (by
            rw [List.append_nil]
            rcases List.mem_append.mp hp with z | z
            · exact List.mem_cons_of_mem _ (List.mem_append_left _ z)
            · rcases List.mem_cons.mp z with rfl | z
              · exact List.mem_cons_self
              · exact List.mem_cons_of_mem _ (List.mem_append_right _ z)), S6.hok, S6.len⟩
        refine gone_ok K6 hN hi hln fun s7 J7 => ?_
        have hp7 := J7.pin (a, oe4) (List.mem_append_right _ List.mem_cons_self)
        have J8 : L2.Inv X pins ((((σ'.set i (some (.ref a))).set j (some (.ref a))).set i none)) H6 s7 := J7.pins_of fun p hp => J7.pin p (List.mem_append_right _ (List.mem_cons_of_mem _ hp))
        have J9 := Inv.track (o := ExcV C a) J8 na n0 nL nC nP ⟨⟨oe4, vs4, hp7.1, hz4, hd4⟩, ⟨oe4, hp7.1⟩, fun h1 h2 ⟨o, v, q, z⟩ k => ⟨o, v, k o q, z⟩⟩
        exact ⟨_, _, J9, hyes2 a na⟩
      | brk => obtain ⟨_, _, _, q⟩ := hsp; exact q.elim
      | cont => obtain ⟨_, _, _, q⟩ := hsp; exact q.elim
      | ret v => obtain ⟨_, _, _, _, _, q⟩ := hsp; exact q.elim
    | false =>
      show wpAny _ X.A (handleBy (.ref a) X.env []) _ _ _
      refine wpAny_handleBy_nil ?_
      obtain ⟨k1, k2, k3, oe, vs, T, oT, ts', he, hz, hd, h1, hr⟩ := id fl3
      unfold PySem.passOn
      refine wpAny_bind (wpAny_field he hd h1 ?_)
      rw [if_neg (show ¬ ((Value.ref T == Value.none) = true) from by simp)]
      have fin : wpAny (model X.prog X.w) X.A (setFlight (.ref a) X.env.frame) (fun _ s4 => wpAny (model X.prog X.w) X.A (throw (.ref a) : Sem Flow) (SP X pins D) X.xe s4) X.xe { s' with heap := h3 } := by
        rw [hf]
        refine HandSPX.setFlight_upZ fl3 fun h4 hh4 up4 => wpAny_throw (tk _ _ ?_)
        exact ⟨a, B, sI, pins, σ', H', cls, d, rfl, J, nb, (up.trans up3).trans up4, .inr (.inr (by rw [hs]; exact hh4)), na, os, ag, hno rfl⟩
      first
        | exact wpAny_bind (wpAny_pure (wpAny_bind fin))
        | exact wpAny_bind fin
  · cases f with
    | next =>
      obtain ⟨σ', H', J', q⟩ := hsp
      exact wpAny_execs_nil ⟨σ', H', J'.ofTry ok, q⟩
    | brk =>
      obtain ⟨σ', H', J', q⟩ := hsp
      exact ⟨σ', H', J'.ofTry ok, q⟩
    | cont =>
      obtain ⟨σ', H', J', q⟩ := hsp
      exact ⟨σ', H', J'.ofTry ok, q⟩
    | ret u =>
      obtain ⟨v, σ', H', J', r, q⟩ := hsp
      exact ⟨v, σ', H', J'.ofTry ok, r, q⟩
end
end Rm

/-! Rm, part H: the theorem for statements. -/
namespace Rm
open PySem L2 PySem.Spec PyProof.Rows
theorem swaps_pl {e : Expr} {t : Option Expr} {l : Nat} {env : Env} (h : plC e = true) : swapsWith e t l env = pure false := by
  cases e <;> first | rfl | cases h
theorem sole_pl {e t : Expr} {l : Nat} {env : Env} (h : plC e = true) : swapsWithSole [t] e l env = pure false := swaps_pl h
theorem stores_pl {e t : Expr} {env : Env} (h : plV e = true) : swappedStores [t] e env = pure none := by
  cases e <;> cases t <;> first | rfl | cases h
theorem plV_C {e : Expr} (h : plV e = true) : plC e = true := by
  cases e <;> first | rfl | cases h
theorem sub_asg {o i : Expr} {pos : Pos} {env : Env} (h : plIx i = true) : ∀ v, assign (.Subscript o i pos) env v = (do
      let ov ← holding [v] (eval o env)
      let iv ← holding [v, ov] (eval i env)
      standAt pos
      holding [v, ov, iv] (setItem ov iv v)
      release [v, ov, iv] []) := by
  intro v
  cases i <;> first | rfl | cases h
section
variable {X : Cx} {cA : Nat → Addr} {cF : Nat → List Str} {T : Tab} {C : Nat → List MV → HP → R MV} {k : Nat} {c : Ck}
theorem wpO_seq {r : List Addr} {H : Hp} {o : O} {f : EN → HP → O} {D : Ends} {W : WX} (w : wpO X.K cA cF r H (o.then f) D W) : wpO X.K cA cF r H o { D with nx := tS X.K cA cF W f D } W := by
  cases o with
  | nx a b => exact fun r' H' s x1 x2 x3 => ⟨r', a, b, x2, x3, wpO.mono x1 w⟩
  | ct a b => exact w
  | ret a b => exact w
  | exc a b d => exact w
  | bad => exact w
theorem Gs.tr (G : Gs X c k) {pn : List (Addr × Obj)} {xe : Value → Shared → Prop} (own : PassesOwn (model X.prog X.w) X.A X.env xe) : Gs (X.tr pn xe) c k :=
  ⟨⟨G.hN, G.sc, G.rm, G.calm, G.nd, ⟨G.deep.seer, G.deep.tree, G.deep.room, G.deep.stk, G.deep.frm⟩⟩, G.fn, own, G.stk, G.frm, G.exn⟩
theorem own_no {M : Model} {A : Around} {env : Env} : PassesOwn M A env fun _ _ => False := fun _ _ z => z.elim
mutual
theorem sndS : ∀ (s : S) (X : Cx) (W : WX) (FC : Fc X.prog X.w X.K X.mg X.base cA cF T C k c) (G : Gs X c k) (tk : Takes X W) (x : Stmt), ckS c s x = true → PS X x (tS X.K cA cF W (exS T C s))
  | .asg tg a, X, W, FC, G, tk, x, hh => by
    cases tg with
    | one i =>
      simp only [ckS] at hh
      split at hh <;> first | (cases hh; done) | skip
      rename_i t e pos
      simp only [Bool.and_eq_true] at hh
      obtain ⟨⟨h1, h2⟩, h3⟩ := hh
      simp only [ckG] at h1
      split at h1 <;> first | (cases h1; done) | skip
      rename_i y py
      simp only [Bool.and_eq_true, decide_eq_true_eq] at h1
      simp only [exS]
      have fin : ∀ D σ H, tS X.K cA cF W (fun e h => (evE T C a e h).go e fun v h => match setG (.one i) v e with
          | some e => .nx e h
          | none => .bad) D σ H → tAsg (tE X.K cA cF W (evE T C a)) (gName i) D σ H := by
        intro D σ H q
        obtain ⟨r, e, h, E, n, w⟩ := q
        refine stepS E n w fun r1 H1 h1 v V x1 E1 n1 p1 w1 => ?_
        simp only [setG] at w1
        exact w1 r1 H1 _ Ext.refl E1 (n1.set p1)
      by_cases hp : plC e = true
      · exact PSimp (ps_set (i := i) G.nd (by rw [G.hN]; exact h1.1) (by rw [G.sc]; exact loc_of h1.2) (snd FC G.toGd (takesF_of G.frm tk) a _ h3).1 (swaps_pl hp) (.inl (G.fn _))) fin
      · have h2 : lcB c (.Name y py) e = true := by
          rcases Bool.or_eq_true_iff.mp h2 with z | z
          · exact absurd z hp
          · exact z
        unfold lcB at h2
        split at h2 <;> first | (cases h2; done) | skip
        rename_i y' py' elt gs scope lpos et ee
        cases et
        have hk : X.env.scope.kind = .function := by
          rw [G.sc]
          unfold isFn at h2
          split at h2
          · assumption
          · cases h2
        by_cases hs : swB c.sc y py.line lpos.line scope = true
        · unfold swB at hs
          simp only [Bool.and_eq_true, decide_eq_true_eq, Bool.not_eq_true'] at hs
          obtain ⟨k1, k2, k3⟩ := hs
          cases a <;> first | (exfalso; unfold ckE at h3; cases h3; done) | skip
          · rename_i cl' tg' vs' it' a'
            unfold ckE at h3
            split at h3 <;> first | (cases h3; done) | skip
            rename_i z0 hx
            simp only [Bool.and_eq_true, decide_eq_true_eq] at h3
            obtain ⟨⟨⟨⟨⟨rfl, m1⟩, m2⟩, m3⟩, m4⟩, m5⟩ := h3
            cases hx
            have hv := ownOf_snd c.N vs'
            have kl : X.env.scope.names.lookup y = some .local := by rw [G.sc]; exact k1
            refine PSimp (ps_setLcx (i := i) (own := ownOf c.N vs') (g := tGw X.K cA cF vs' tg') (te := fun W' => tE X.K cA cF W' (evE T C a')) G.calm G.nd (takesF_of G.frm tk) G.deep.frm (by rw [G.hN]; exact h1.1) kl (sw_true hk kl k2 k3) (pi_ok FC G tk _ it' _ m3) (by rw [G.hN, G.sc]; exact blkOk_by m1) (fun s H C' cl fp xe => pgw_ok (X := blkX X s H _ (compEnvC _ cl C' X.env) fp xe) (cA := cA) (cF := cF) (c := c.blk _) (vs := vs') (tg := tg') G.calm G.nd G.hN (by rw [Ck.blk, ← G.sc]; rfl) _ m4)
              (fun s H C' cl fp xe => pts_nil) (fun W' s H C' cl fp xe tk' => (sndA a' (blkX X s H _ (compEnvC _ cl C' X.env) fp xe) (c.blk _) W' (FC.re (c := c) (c' := c.blk _) rfl rfl rfl rfl rfl) ⟨G.hN, by rw [Ck.blk, ← G.sc]; rfl, G.rm, G.calm, G.nd, ⟨G.deep.seer, G.deep.tree, G.deep.room, G.deep.stk, G.deep.frm⟩⟩ tk' _ m5).1) (set_pl m2)) fun D σ H q => ?_
            have q : tE X.K cA cF W (evE T C (.lcm cl' tg' vs' it' a')) σ H (fun x H1 => gName i x σ H1 D.nx) := fin D σ H q
            simp only [evE] at q
            rw [hv]
            exact lc_imp q
          · rename_i tg' vs' it' a'
            unfold ckE at h3
            split at h3 <;> first | (cases h3; done) | skip
            rename_i z0 hx
            simp only [Bool.and_eq_true, decide_eq_true_eq] at h3
            obtain ⟨⟨⟨⟨⟨rfl, m1⟩, m2⟩, m3⟩, m4⟩, m5⟩ := h3
            cases hx
            have hv := ownOf_snd c.N vs'
            have kl : X.env.scope.names.lookup y = some .local := by rw [G.sc]; exact k1
            refine PSimp (ps_setLcx (i := i) (own := ownOf c.N vs') (g := tGw X.K cA cF vs' tg') (te := fun W' => tE X.K cA cF W' (evE T C a')) G.calm G.nd (takesF_of G.frm tk) G.deep.frm (by rw [G.hN]; exact h1.1) kl (sw_true hk kl k2 k3) (pi_ok FC G tk _ it' _ m3) (by rw [G.hN, G.sc]; exact blkOk_by m1) (fun s H C' cl fp xe => pgw_ok (X := blkX X s H _ (compEnvC _ cl C' X.env) fp xe) (cA := cA) (cF := cF) (c := c.blk _) (vs := vs') (tg := tg') G.calm G.nd G.hN (by rw [Ck.blk, ← G.sc]; rfl) _ m4)
              (fun s H C' cl fp xe => pts_nil) (fun W' s H C' cl fp xe tk' => (sndA a' (blkX X s H _ (compEnvC _ cl C' X.env) fp xe) (c.blk _) W' (FC.re (c := c) (c' := c.blk _) rfl rfl rfl rfl rfl) ⟨G.hN, by rw [Ck.blk, ← G.sc]; rfl, G.rm, G.calm, G.nd, ⟨G.deep.seer, G.deep.tree, G.deep.room, G.deep.stk, G.deep.frm⟩⟩ tk' _ m5).1) (set_pl m2)) fun D σ H q => ?_
            have q : tE X.K cA cF W (evE T C (.lcg tg' vs' it' a')) σ H (fun x H1 => gName i x σ H1 D.nx) := fin D σ H q
            simp only [evE] at q
            rw [hv]
            exact lcg_imp q
          · rename_i tg' vs' it' b' a'
            unfold ckE at h3
            split at h3 <;> first | (cases h3; done) | skip
            rename_i z0 hx
            simp only [Bool.and_eq_true, decide_eq_true_eq] at h3
            obtain ⟨⟨⟨⟨⟨⟨⟨rfl, m1⟩, m2⟩, m3⟩, m4⟩, m5⟩, m6⟩, m7⟩ := h3
            cases hx
            have hv := ownOf_snd c.N vs'
            have kl : X.env.scope.names.lookup y = some .local := by rw [G.sc]; exact k1
            refine PSimp (ps_setLc (i := i) (own := ownOf c.N vs') (g := tGw X.K cA cF vs' tg') (tt := tTt X.K cA cF noW (evE T C b')) (te := tE X.K cA cF noW (evE T C a')) G.calm G.nd (by rw [G.hN]; exact h1.1) kl (sw_true hk kl k2 k3) (pi_ok FC G tk _ it' _ m3) (by rw [G.hN, G.sc]; exact blkOk_by m1) (fun s H C' cl fp => pgw_ok (X := X.blk s H _ (compEnvC _ cl C' X.env) fp) (cA := cA) (cF := cF) (c := c.blk _) (vs := vs') (tg := tg') G.calm G.nd G.hN (by rw [Ck.blk, ← G.sc]; rfl) _ m4)
              (fun s H C' cl fp => pts_one ((sndA b' (X.blk s H _ (compEnvC _ cl C' X.env) fp) (c.blk _) noW (FC.re (c := c) (c' := c.blk _) rfl rfl rfl rfl rfl) ⟨G.hN, by rw [Ck.blk, ← G.sc]; rfl, G.rm, G.calm, G.nd, ⟨G.deep.seer, G.deep.tree, G.deep.room, G.deep.stk, G.deep.frm⟩⟩ takesF_no _ m6).2.1 m7)) (fun s H C' cl fp => (sndA a' (X.blk s H _ (compEnvC _ cl C' X.env) fp) (c.blk _) noW (FC.re (c := c) (c' := c.blk _) rfl rfl rfl rfl rfl) ⟨G.hN, by rw [Ck.blk, ← G.sc]; rfl, G.rm, G.calm, G.nd, ⟨G.deep.seer, G.deep.tree, G.deep.room, G.deep.stk, G.deep.frm⟩⟩ takesF_no _ m5).1) (set_pl m2)) fun D σ H q => ?_
            have q : tE X.K cA cF W (evE T C (.lcf tg' vs' it' b' a')) σ H (fun x H1 => gName i x σ H1 D.nx) := fin D σ H q
            simp only [evE] at q
            rw [hv]
            exact lcf_imp q
        · have hsw : swapsWith (.ListComp elt gs scope lpos) (some (.Name y py)) pos.line X.env = pure false := by
            have ky : X.env.kindOf y = X.env.scope.names.lookup y := rfl
            have hb : X.env.blockKind = .function := by unfold Env.blockKind; rw [hk]; rfl
            have e : swapsWith (.ListComp elt gs scope lpos) (some (.Name y py)) pos.line X.env = pure (X.env.blockKind == .function && X.env.kindOf y == some .local && py.line == lpos.line && !(scope.names.any fun (n, k) => n == y && (k == .local || k == .cell))) := rfl
            rw [e, hb, ky, G.sc]
            congr 1
            cases q : (_ && _ && _ && _ : Bool) with
            | false => rfl
            | true =>
              exfalso
              apply hs
              simp only [Bool.and_eq_true] at q
              unfold swB
              simp only [Bool.and_eq_true, decide_eq_true_eq]
              exact ⟨by simpa using q.1.1.2, q.1.2, q.2⟩
          exact PSimp (ps_set (i := i) G.nd (by rw [G.hN]; exact h1.1) (by rw [G.sc]; exact loc_of h1.2) (snd FC G.toGd (takesF_of G.frm tk) a _ h3).1 hsw (.inl (G.fn _))) fin
    | tup is =>
      simp only [ckS] at hh
      split at hh <;> first | (cases hh; done) | skip
      rename_i t e pos
      simp only [Bool.and_eq_true] at hh
      obtain ⟨⟨h1, h2⟩, h3⟩ := hh
      simp only [exS]
      have h0 : (assignEach [t] X.env).map (·.2) = [assign t X.env] := by
        have h1 := h1
        simp only [ckG] at h1
        split at h1 <;> first | (cases h1; done) | rfl
      refine PSimp (ps_asg (snd FC G.toGd (takesF_of G.frm tk) a _ h3).1 (pg_ok (cA := cA) (cF := cF) G (.tup is) _ h1) (sole_pl (plV_C h2)) (stores_pl h2) h0) fun D σ H q => ?_
      obtain ⟨r, e, h, E, n, w⟩ := q
      refine stepS E n w fun r1 H1 h1 v V x1 E1 n1 p1 w1 => ?_
      cases g : setG (.tup is) v e with
      | none => rw [g] at w1; exact w1.elim
      | some e' => rw [g] at w1; exact ⟨r1, e, h1, v, e', E1, n1, p1, g, fun σ' n' => w1 r1 H1 σ' Ext.refl E1 n'⟩
  | .aug i o a, X, W, FC, G, tk, x, hh => by
    simp only [ckS] at hh
    split at hh <;> first | (cases hh; done) | skip
    simp only [Bool.and_eq_true, decide_eq_true_eq] at hh
    obtain ⟨⟨⟨h1, h2⟩, h3⟩, h4⟩ := hh
    simp only [exS]
    refine PSimp (ps_aug (i := i) G.nd (by rw [G.hN]; exact h1) (by rw [G.sc]; exact loc_of h2) (snd FC G.toGd (takesF_of G.frm tk) a _ h4).1 (augop_ok (cA := cA) (cF := cF) h3) (.inl (G.fn _))) fun D σ H q => ?_
    obtain ⟨r, e, h, E, n, w⟩ := q
    simp only at w
    split at w
    · rename_i v he
      obtain ⟨V, k1, k2⟩ := n.at_ i v he
      refine ⟨V, k1, stepS E n w fun r1 H1 h1 u U x1 E1 n1 p1 w1 => ?_⟩
      cases g : augV o v u with
      | none => rw [g] at w1; exact w1.elim
      | some z =>
        rw [g] at w1
        exact ⟨r1, h1, v, u, z, E1, Rep.mono x1 _ _ k2, p1, g, fun r' H' V' y1 y2 y3 => w1 r' H' _ y1 y2 ((n1.mono y1).set y3)⟩
    · exact w.elim
  | .exp a, X, W, FC, G, tk, x, hh => by
    simp only [ckS] at hh
    split at hh <;> first | (cases hh; done) | skip
    simp only [Bool.and_eq_true] at hh
    simp only [exS]
    refine PSimp (ps_expr (snd FC G.toGd (takesF_of G.frm tk) a _ hh.2).1 (swaps_pl hh.1)) fun D σ H q => ?_
    obtain ⟨r, e, h, E, n, w⟩ := q
    exact stepS E n w fun r1 H1 h1 v V x1 E1 n1 p1 w1 => w1 r1 H1 σ Ext.refl E1 n1
  | .app o a, X, W, FC, G, tk, x, hh => by
    simp only [ckS] at hh
    split at hh <;> first | (cases hh; done) | skip
    rename_i e m ap f pos pos'
    simp only [Bool.and_eq_true, decide_eq_true_eq] at hh
    obtain ⟨⟨⟨⟨⟨rfl, h1⟩, h2⟩, h3⟩, h4⟩, h5⟩ := hh
    simp only [exS]
    have hfew : ((backTo pos (starEach [f] X.env)).all (fun x => !x.1) && (backToKw pos (keywordEach [] X.env)).all (fun x => x.1.isSome)
      && decide ([f].length + ([] : List Keyword).length + (if ([] : List Keyword).isEmpty then 0 else 1) < 30)) = true := by
      rw [star_cons h1]; rfl
    refine PSimp (ps_expr (pe_bm PySem.F.plainAttrs_list PySem.F.slot_list_append PySem.F.type_list_append mt_append (snd FC G.toGd (takesF_of G.frm tk) o _ h4).1 (pa_cons (snd FC G.toGd (takesF_of G.frm tk) a _ h5).1 pa_nil (star_cons h1)) (attr_plain h2) hfew h3 (star_cons h1) rfl) rfl) fun D σ H q => ?_
    obtain ⟨r, e, h, E, n, w⟩ := q
    refine stepS E n w fun r1 H1 h1 x X' x1 E1 n1 p1 w1 => ?_
    split at w1
    · rename_i hc
      unfold isCell at hc
      split at hc
      · rename_i i
        split at hc
        · rename_i xs hx
          have p := p1
          simp only [Rep] at p1
          obtain ⟨ad, rfl, hi⟩ := p1
          refine ⟨.inl ⟨rfl, ?_⟩, ?_⟩
          · obtain ⟨vs, q1, _⟩ := E1.at_ i _ ad hx hi
            exact ⟨vs, SqL.of q1⟩
          · refine stepS E1 n1 w1 fun r2 H2 h2 v V x2 E2 n2 p2 w2 => ?_
            have hi2 := x2.get hi
            cases g : appV h2 (.ref i) v with
            | none => rw [g] at w2; exact w2.elim
            | some h3 =>
              rw [g] at w2
              simp only [appV] at g
              cases qo : h2[i]? with
              | none => rw [qo] at g; cases g
              | some oo =>
                rw [qo] at g
                cases oo with
                | ins d xs => cases g
                | dic kvs => cases g
                | lst xs =>
                  simp only at g
                  split at g
                  · rename_i hl
                    cases g
                    obtain ⟨vs, q1, q2⟩ := E2.at_ i _ ad qo hi2
                    have q3 : Reps X.K cA cF H2 r2 (xs ++ [v]) (vs ++ [V]) := q2.append (by simp only [Reps]; exact ⟨V, [], rfl, p2, rfl⟩)
                    refine ⟨ad, vs, V, rfl, rfl, q1, by rw [q2.length, ← sz_eq]; exact hl, ?_⟩
                    obtain ⟨y1, y2⟩ := E2.write hi2 q3
                    exact w2 r2 _ σ y1 y2 (n2.mono y1)
                  · cases g
        · cases hc
      · cases hc
    · exact w1.elim
  | .rvs o, X, W, FC, G, tk, x, hh => by
    simp only [ckS] at hh
    split at hh <;> first | (cases hh; done) | skip
    simp only [Bool.and_eq_true, decide_eq_true_eq] at hh
    obtain ⟨⟨⟨rfl, h1⟩, h2⟩, h3⟩ := hh
    simp only [exS]
    refine PSimp (ps_expr (pe_bm0 PySem.F.plainAttrs_list PySem.F.slot_list_reverse PySem.F.type_list_reverse mt_reverse (snd FC G.toGd (takesF_of G.frm tk) o _ h3).1 (attr_plain h1) h2) rfl) fun D σ H q => ?_
    obtain ⟨r, e, h, E, n, w⟩ := q
    refine stepS E n w fun r1 H1 h1 x X' x1 E1 n1 p1 w1 => ?_
    cases g : rvsV h1 x with
    | none => rw [g] at w1; exact w1.elim
    | some h2 =>
      rw [g] at w1
      unfold rvsV at g
      split at g
      · rename_i i
        split at g
        · rename_i xs hx
          cases g
          simp only [Rep] at p1
          obtain ⟨ad, rfl, hi⟩ := p1
          obtain ⟨vs, q1, q2⟩ := E1.at_ i _ ad hx hi
          obtain ⟨y1, y2⟩ := E1.write hi (reps_rev q2)
          exact ⟨.inl ⟨rfl, ⟨vs, SqL.of q1⟩⟩, ad, vs, rfl, rfl, q1, w1 r1 _ σ y1 y2 (n1.mono y1)⟩
        · cases g
      · cases g
  | .ins o i a, X, W, FC, G, tk, x, hh => by
    simp only [ckS] at hh
    split at hh <;> first | (cases hh; done) | skip
    rename_i e m ap gg f pos pos'
    simp only [Bool.and_eq_true, decide_eq_true_eq] at hh
    obtain ⟨⟨⟨⟨⟨⟨⟨rfl, h0⟩, h1⟩, h2⟩, h3⟩, h4⟩, h5⟩, h6⟩ := hh
    simp only [exS]
    have hfew : ((backTo pos (starEach [gg, f] X.env)).all (fun x => !x.1) && (backToKw pos (keywordEach [] X.env)).all (fun x => x.1.isSome)
      && decide ([gg, f].length + ([] : List Keyword).length + (if ([] : List Keyword).isEmpty then 0 else 1) < 30)) = true := by
      rw [star_cons h0, star_cons h1]; rfl
    refine PSimp (ps_expr (pe_bm PySem.F.plainAttrs_list PySem.F.slot_list_insert PySem.F.type_list_insert mt_insert (snd FC G.toGd (takesF_of G.frm tk) o _ h4).1 (pa_cons (snd FC G.toGd (takesF_of G.frm tk) i _ h5).1 (pa_cons (snd FC G.toGd (takesF_of G.frm tk) a _ h6).1 pa_nil (star_cons h1)) (star_cons h0)) (attr_plain h2) hfew h3 (star_cons h0) (by rw [star_cons h1]; rfl)) rfl) fun D σ H q => ?_
    obtain ⟨r, e, h, E, n, w⟩ := q
    refine stepS E n w fun r1 H1 h1 x X' x1 E1 n1 p1 w1 => ?_
    split at w1
    · rename_i hc
      unfold isCell at hc
      split at hc
      · rename_i j
        split at hc
        · rename_i xs hx
          have p := p1
          simp only [Rep] at p1
          obtain ⟨ad, rfl, hi⟩ := p1
          refine ⟨.inl ⟨rfl, ?_⟩, ?_⟩
          · obtain ⟨vs, q1, _⟩ := E1.at_ j _ ad hx hi
            exact ⟨vs, SqL.of q1⟩
          · refine stepS E1 n1 w1 fun r2 H2 h2 m M x2 E2 n2 p2 w2 => ?_
            refine stepS E2 n2 w2 fun r3 H3 h3 v V x3 E3 n3 p3 w3 => ?_
            have hi3 := (x2.trans x3).get hi
            cases g : insV h3 (.ref j) m v with
            | none => rw [g] at w3; exact w3.elim
            | some h4 =>
              rw [g] at w3
              unfold insV at g
              split at g
              · rename_i jj kk ej
                cases ej
                split at g
                · rename_i xs hx
                  split at g
                  · rename_i hl
                    cases g
                    simp only [Rep] at p2
                    subst p2
                    obtain ⟨vs, q1, q2⟩ := E3.at_ _ _ ad hx hi3
                    have q3 : Reps X.K cA cF H3 r3 (xs.take kk.toNat ++ [v] ++ xs.drop kk.toNat) (vs.take kk.toNat ++ [V] ++ vs.drop kk.toNat) := ((q2.take _).append (by simp only [Reps]; exact ⟨V, [], rfl, p3, rfl⟩)).append (q2.drop _)
                    obtain ⟨y1, y2⟩ := E3.write hi3 q3
                    exact ⟨ad, vs, kk, V, rfl, rfl, q1, by rw [q2.length, ← sz_eq]; exact hl.1, hl.2.1, hl.2.2, w3 r3 _ σ y1 y2 (n3.mono y1)⟩
                  · cases g
                · cases g
              · cases g
        · cases hc
      · cases hc
    · exact w1.elim
  | .sto o i a, X, W, FC, G, tk, x, hh => by
    simp only [ckS] at hh
    split at hh <;> first | (cases hh; done) | skip
    simp only [Bool.and_eq_true] at hh
    obtain ⟨⟨⟨⟨h1, h2⟩, h3⟩, h4⟩, h5⟩ := hh
    simp only [exS]
    refine PSimp (ps_asg (snd FC G.toGd (takesF_of G.frm tk) a _ h5).1 (pg_sub (snd FC G.toGd (takesF_of G.frm tk) o _ h3).1 (snd FC G.toGd (takesF_of G.frm tk) i _ h4).1 set_list (sub_asg h1)) (sole_pl (plV_C h2)) (stores_pl h2) rfl) fun D σ H q => ?_
    obtain ⟨r, e, h, E, n, w⟩ := q
    refine stepS E n w fun r1 H1 h1 v V x1 E1 n1 p1 w1 => ?_
    refine stepS E1 n1 w1 fun r2 H2 h2 x XV x2 E2 n2 p2 w2 => ?_
    refine stepS E2 n2 w2 fun r3 H3 h3 m M x3 E3 n3 p3 w3 => ?_
    cases g : stoV h3 x m v with
    | none => rw [g] at w3; exact w3.elim
    | some h4 =>
      rw [g] at w3
      unfold stoV at g
      split at g
      · rename_i j k
        split at g
        · rename_i xs hx
          obtain ⟨kk, g1, g2⟩ := Option.map_eq_some_iff.mp g
          subst g2
          have p2' := Rep.mono x3 _ _ p2
          simp only [Rep] at p2' p3
          obtain ⟨ad, rfl, hi⟩ := p2'
          subst p3
          obtain ⟨vs, q1, q2⟩ := E3.at_ j _ ad hx hi
          have q3 : Reps X.K cA cF H3 r3 (xs.set kk v) (vs.set kk V) := Reps.set q2 (Rep.mono (x2.trans x3) _ _ p1)
          obtain ⟨y1, y2⟩ := E3.write hi q3
          exact ⟨ad, vs, k, kk, rfl, rfl, q1, by rw [q2.length]; exact g1, w3 r3 _ σ y1 y2 (n3.mono y1)⟩
        · cases g
      · cases g
  | .sta o f a, X, W, FC, G, tk, x, hh => by
    simp only [ckS] at hh
    split at hh <;> first | (cases hh; done) | skip
    simp only [Bool.and_eq_true, decide_eq_true_eq] at hh
    obtain ⟨⟨⟨rfl, h1⟩, h2⟩, h3⟩ := hh
    simp only [exS]
    refine PSimp (ps_fld (snd FC G.toGd (takesF_of G.frm tk) o _ h2).1 (snd FC G.toGd (takesF_of G.frm tk) a _ h3).1 (swaps_pl h1)) fun D σ H q => ?_
    obtain ⟨r, e, h, E, n, w⟩ := q
    refine stepS E n w fun r1 H1 h1 v V x1 E1 n1 p1 w1 => ?_
    refine stepS E1 n1 w1 fun r2 H2 h2 x XV x2 E2 n2 p2 w2 => ?_
    cases g : staV T h2 x f v with
    | none => rw [g] at w2; exact w2.elim
    | some h3 =>
      rw [g] at w2
      unfold staV at g
      split at g
      · rename_i j
        split at g
        · rename_i d xs hx
          split at g
          · rename_i hc
            simp only [Bool.and_eq_true, decide_eq_true_eq] at hc
            obtain ⟨jj, g1, g2⟩ := Option.bind_eq_some_iff.mp g
            obtain ⟨ys, g3, g4⟩ := Option.map_eq_some_iff.mp g2
            subst g4
            unfold fix at g1
            split at g1
            · rename_i hj
              cases g1
              simp only [Rep] at p2
              obtain ⟨ad, rfl, hi⟩ := p2
              obtain ⟨dx, vs, q1, q2⟩ := E2.at_ j _ ad hx hi
              obtain ⟨c1, c2⟩ := FC.ob d hc.1
              have pv := Rep.mono x2 _ _ p1
              have hl := q2.length
              have key : ((T.fld d).idxOf f ≤ vs.length) ∧ Reps X.K cA cF H2 r2 ys (if (T.fld d).idxOf f = vs.length then vs ++ [V] else vs.set ((T.fld d).idxOf f) V) := by
                unfold putL at g3
                rw [hl]
                split at g3
                · rename_i z
                  cases g3
                  rw [if_pos z]
                  exact ⟨Nat.le_of_eq z, q2.append (by simp only [Reps]; exact ⟨V, [], rfl, pv, rfl⟩)⟩
                · rename_i z
                  split at g3
                  · rename_i z2
                    cases g3
                    rw [if_neg z]
                    exact ⟨Nat.le_of_lt z2, Reps.set q2 pv⟩
                  · cases g3
              obtain ⟨y1, y2⟩ := E2.writeI (dx := dx) (c := d) hi key.2
              refine ⟨ad, cA d, dx, _, rfl, q1, c1, c2 f (List.idxOf_lt_length_iff.mp hj), ?_, ?_⟩
              · rw [List.length_zip]
                have := Nat.min_le_right (cF d).length vs.length
                have := hc.2
                omega
              · have e := putF_zip (T.fld d) vs f V hj key.1
                rw [show putF f V ((cF d).zip vs) = (cF d).zip (if (T.fld d).idxOf f = vs.length then vs ++ [V] else vs.set ((T.fld d).idxOf f) V) from by rw [FC.fl]; exact e]
                exact w2 r2 _ σ y1 y2 (n2.mono y1)
            · cases g1
          · cases g
        · cases g
      · cases g
  | .iff t a b, X, W, FC, G, tk, x, hh => by
    simp only [ckS] at hh
    split at hh <;> first | (cases hh; done) | skip
    simp only [Bool.and_eq_true] at hh
    obtain ⟨⟨⟨h0, h1⟩, h2⟩, h3⟩ := hh
    simp only [exS]
    refine PSimp (ps_if ((snd FC G.toGd (takesF_of G.frm tk) t _ h1).2.1 h0) (sndSs a X W FC G tk _ h2) (sndSs b X W FC G tk _ h3)) fun D σ H q => ?_
    obtain ⟨r, e, h, E, n, w⟩ := q
    refine stepT E n w (fun x h1 hx => ?_) fun r1 H1 h1 b x1 E1 n1 w1 => ?_
    · cases x <;> first | rfl | exact absurd rfl (hx _)
    · cases b with
      | false => rw [if_neg Bool.false_ne_true]; exact ⟨r1, e, h1, E1, n1, w1⟩
      | true => rw [if_pos rfl]; exact ⟨r1, e, h1, E1, n1, w1⟩
  | .whl t b, X, W, FC, G, tk, x, hh => by
    simp only [ckS] at hh
    split at hh <;> first | (cases hh; done) | skip
    simp only [Bool.and_eq_true] at hh
    obtain ⟨⟨h0, h1⟩, h2⟩ := hh
    simp only [exS]
    refine PSimp (ps_while G.own ((snd FC G.toGd (takesF_of G.frm tk) t _ h1).2.1 h0) (sndSs b X W FC G tk _ h2)) fun D σ H q => ?_
    obtain ⟨r, e, h, E, n, w⟩ := q
    exact whl_ok E n w
  | .fr tg it b, X, W, FC, G, tk, x, hh => by
    simp only [ckS] at hh
    split at hh <;> first | (cases hh; done) | skip
    simp only [Bool.and_eq_true] at hh
    obtain ⟨⟨⟨h0, h1⟩, h2⟩, h3⟩ := hh
    simp only [exS]
    refine PSimp (ps_for G.own G.calm (pi_ok FC G tk _ it _ h2) (pg_ok (cA := cA) (cF := cF) G tg _ h0) (sndSs b X W FC G tk _ h3) (set_pl h1)) fun D σ H q => ?_
    obtain ⟨r, e, h, E, n, w⟩ := q
    refine ⟨r, e, h, E, n, ?_⟩
    dsimp only at w
    cases q : itE T C it e h with
    | bad => rw [q] at w; exact w
    | exc y h1 => rw [q] at w; exact fun r' H' cls d e1 e2 e3 => w r' H' σ cls d e1 e2 (n.mono e1) e3
    | ok p h1 =>
      rw [q] at w
      simp only [R.go_ok] at w
      exact fun r1 H1 J P x1 E1 p1 L => for_ok L p1 E1 (n.mono x1) (wpO.mono x1 w)
  | .ret a, X, W, FC, G, tk, x, hh => by
    simp only [ckS] at hh
    split at hh <;> first | (cases hh; done) | skip
    simp only [exS]
    refine PSimp (ps_ret (snd FC G.toGd (takesF_of G.frm tk) a _ hh).1) fun D σ H q => ?_
    obtain ⟨r, e, h, E, n, w⟩ := q
    refine stepS E n w fun r1 H1 h1 v V x1 E1 n1 p1 w1 => w1 r1 H1 V Ext.refl E1 p1
  | .retN, X, W, FC, G, tk, x, hh => by
    simp only [ckS] at hh
    split at hh <;> first | (cases hh; done) | skip
    simp only [exS]
    refine PSimp ps_retN fun D σ H q => ?_
    obtain ⟨r, e, h, E, n, w⟩ := q
    exact w r H _ Ext.refl E rep_non
  | .rais d, X, W, FC, G, tk, x, hh => by
    simp only [ckS] at hh
    split at hh <;> first | (cases hh; done) | skip
    simp only [Bool.and_eq_true, decide_eq_true_eq] at hh
    obtain ⟨h1, h2⟩ := hh
    obtain ⟨m1, m2⟩ := FC.cl _ _ h1
    obtain ⟨g1, g2⟩ := gl_of G.toGd h2
    simp only [exS]
    cases hz : T.rz d with
    | false =>
      refine PSimp (ps_never (X := X)) fun D σ H q => ?_
      obtain ⟨r, e, h, E, n, w⟩ := q
      simp only [Bool.false_eq_true, if_false] at w
      exact w
    | true =>
      obtain ⟨z1, z2, z3⟩ := FC.ex.rz d hz
      refine PSimp (ps_raise G.calm tk (pmk_own PySem.F.excBase_ValueError z1 m1 m2 (raises_own z2 z3) g1 g2)) fun D σ H q => ?_
      obtain ⟨r, e, h, E, n, w⟩ := q
      simp only [if_true] at w
      exact w r H σ _ _ Ext.refl E n ⟨rfl, rfl, rfl⟩
  | .tri b d i y, X, W, FC, G, tk, x, hh => by
    simp only [ckS] at hh
    split at hh <;> first | (cases hh; done) | skip
    simp only [Bool.and_eq_true, decide_eq_true_eq, Bool.not_eq_true'] at hh
    obtain ⟨⟨⟨⟨⟨⟨⟨⟨⟨⟨⟨h1, h2⟩, h3⟩, h4⟩, rfl⟩, h5⟩, h6⟩, h7⟩, h8⟩, h9⟩, h10⟩, h11⟩ := hh
    obtain ⟨m1, m2⟩ := FC.cl _ _ h1
    obtain ⟨g1, g2⟩ := gl_of G.toGd h2
    simp only [exS]
    refine PSimp (ps_try_val (tb := fun W' => tS X.K cA cF W' (exSs T C b)) G.stk G.frm G.exn G.nd (by rw [G.hN]; exact h3) (by show X.env.scope.names.lookup _ = _; rw [G.sc]; exact h4) (by rw [G.hN]; exact h8) (by rw [G.sc]; exact loc_of h9) (G.fn _) h6 h7 ⟨g1, g2, .inl m1⟩ tk
      (fun W' pn xe tk' own => sndSs b (X.tr pn xe) W' FC (G.tr own) tk' _ h11)) fun D σ H q => ?_
    obtain ⟨r, e, h, E, n, w⟩ := q
    refine ⟨r, e, h, E, n, ?_⟩
    dsimp only at w
    cases q : exSs T C b e h with
    | nx a b => simp only [q] at w; exact w
    | ct a b => simp only [q] at w; exact w
    | ret a b => simp only [q] at w; exact w
    | bad => simp only [q] at w; exact w.elim
    | exc xx e1 hh1 =>
      obtain ⟨cc, fs⟩ := xx
      cases fs with
      | cons _ _ => simp only [q] at w; exact w.elim
      | nil =>
        simp only [q] at w
        by_cases hc : (T.exc cc && T.exc d) = true
        · rw [if_pos hc] at w
          simp only [Bool.and_eq_true] at hc
          intro r' H' σ' cls dd x1 E1 n1 rx
          obtain ⟨rfl, _, rfl⟩ := rx
          refine ⟨T.sub cc d, FC.ex.em cc d hc.1 hc.2, fun hb => ⟨cA cc, rfl, rfl, fun a ha => ?_⟩, fun hb => ?_⟩
          · rw [hb, if_pos rfl] at w
            obtain ⟨y1, y2, y3⟩ := E1.new (o := ExcV (cA cc) a) ha
            have pe : Rep X.K cA cF (upd H' a (ExcV (cA cc) a)) r' (.exc cc []) (.ref a) := by
              simp only [Rep]
              exact ⟨a, rfl, ⟨y3, upd_same⟩, trivial⟩
            have n2 := n1.mono y1
            exact w r' _ _ (x1.trans y1) y2 (((n2.set (i := i) pe).set (i := y) pe).unset)
          · rw [hb, if_neg Bool.false_ne_true] at w
            exact w r' H' σ' _ _ x1 E1 n1 ⟨rfl, rfl, rfl⟩
        · rw [if_neg hc] at w; exact w.elim
  | .cont, X, W, FC, G, tk, x, hh => by
    simp only [ckS] at hh
    split at hh <;> first | (cases hh; done) | skip
    simp only [exS]
    exact PSimp ps_continue fun D σ H q => by
      obtain ⟨r, e, h, E, n, w⟩ := q
      exact w r H σ Ext.refl E n
  | .dpt o i a, X, W, FC, G, tk, x, hh => by
    simp only [ckS] at hh
    split at hh <;> first | (cases hh; done) | skip
    simp only [Bool.and_eq_true] at hh
    obtain ⟨⟨⟨h2, h3⟩, h4⟩, h5⟩ := hh
    have hu : X.A.units + 1 < cLine := by have := G.rm.units; omega
    simp only [exS]
    refine PSimp (ps_dput hu (snd FC G.toGd (takesF_of G.frm tk) o _ h3).1 (snd FC G.toGd (takesF_of G.frm tk) i _ h4).1 (snd FC G.toGd (takesF_of G.frm tk) a _ h5).1 (swaps_pl h2)) fun D σ H q => ?_
    obtain ⟨r, e, h, E, n, w⟩ := q
    refine stepS E n w fun r1 H1 h1 v V x1 E1 n1 p1 w1 => ?_
    refine stepS E1 n1 w1 fun r2 H2 h2 x XV x2 E2 n2 p2 w2 => ?_
    refine stepS E2 n2 w2 fun r3 H3 h3 m M x3 E3 n3 p3 w3 => ?_
    cases g : dptV h3 x m v with
    | none => rw [g] at w3; exact w3.elim
    | some h4 =>
      rw [g] at w3
      unfold dptV at g
      split at g
      · rename_i j
        split at g
        · rename_i kvs hx
          split at g
          · rename_i hl
            obtain ⟨kk, g1, g2⟩ := Option.map_eq_some_iff.mp g
            subst g2
            obtain ⟨i', a', vs, e0, hi, hr, rfl, hd, q1⟩ := dic_ok (kvs := kvs) E3 (by simp only [dicAt, hx]) (Rep.mono x3 _ _ p2)
            cases e0
            have ek := rep_key g1 p3
            subst ek
            obtain ⟨ws, e1, e2⟩ := zip_put (k := kk) q1 (Rep.mono (x2.trans x3) _ _ p1)
            obtain ⟨y1, y2⟩ := E3.writeD hr e2
            have hz : ((kvs.map (·.1)).zip vs).length < sizeLine := by
              have := q1.length
              rw [List.length_map] at this
              rw [List.length_zip, List.length_map, this, Nat.min_self, ← sz_eq]; exact hl
            refine ⟨a', _, rfl, DPut.k hd hz, ?_⟩
            rw [e1]
            exact w3 r3 _ σ y1 y2 (n3.mono y1)
          · cases g
        · cases g
      · cases g
  | .clr o, X, W, FC, G, tk, x, hh => by
    simp only [ckS] at hh
    split at hh <;> first | (cases hh; done) | skip
    simp only [Bool.and_eq_true, decide_eq_true_eq] at hh
    obtain ⟨⟨⟨rfl, h1⟩, h2⟩, h3⟩ := hh
    simp only [exS]
    refine PSimp (ps_expr (pe_bm0 PySem.F.plainAttrs_list PySem.F.slot_list_clear PySem.F.type_list_clear mt_clear (snd FC G.toGd (takesF_of G.frm tk) o _ h3).1 (attr_plain h1) h2) rfl) fun D σ H q => ?_
    obtain ⟨r, e, h, E, n, w⟩ := q
    refine stepS E n w fun r1 H1 h1 x X' x1 E1 n1 p1 w1 => ?_
    cases g : clrV h1 x with
    | none => rw [g] at w1; exact w1.elim
    | some h2 =>
      rw [g] at w1
      unfold clrV at g
      split at g
      · rename_i i
        split at g
        · rename_i xs hx
          cases g
          simp only [Rep] at p1
          obtain ⟨ad, rfl, hi⟩ := p1
          obtain ⟨vs, q1, q2⟩ := E1.at_ i _ ad hx hi
          obtain ⟨y1, y2⟩ := E1.write (xs := []) (vs := []) hi (by simp only [Reps])
          exact ⟨.inl ⟨rfl, ⟨vs, SqL.of q1⟩⟩, ad, vs, rfl, rfl, q1, w1 r1 _ σ y1 y2 (n1.mono y1)⟩
        · cases g
      · cases g
  | .trx b, X, W, FC, G, tk, x, hh => by
    simp only [ckS] at hh
    split at hh <;> first | (cases hh; done) | skip
    simp only [exS]
    have G2 : Gs X.nox c k := ⟨⟨G.hN, G.sc, G.rm, G.calm, G.nd, ⟨G.deep.seer, G.deep.tree, G.deep.room, G.deep.stk, G.deep.frm⟩⟩, G.fn, own_no, G.stk, G.frm, G.exn⟩
    refine PSimp (ps_try_thru0 (t := tS X.K cA cF (fun _ _ _ _ => False) (exSs T C b)) (sndSs b X.nox (fun _ _ _ _ => False) FC G2 takes_no _ hh)) fun D σ H q => ?_
    obtain ⟨r, e, h, E, n, w⟩ := q
    refine ⟨r, e, h, E, n, ?_⟩
    cases q : exSs T C b e h with
    | nx a b => simp only [q] at w; exact w
    | ct a b => simp only [q] at w; exact w
    | ret a b => simp only [q] at w; exact w
    | bad => simp only [q] at w; exact w.elim
    | exc a b d => simp only [q] at w; exact w.elim
  | .pas, X, W, FC, G, tk, x, hh => by
    simp only [ckS] at hh
    split at hh <;> first | (cases hh; done) | skip
    simp only [exS]
    refine PSimp ps_pass fun D σ H q => ?_
    obtain ⟨r, e, h, E, n, w⟩ := q
    exact w r H σ Ext.refl E n
theorem sndSs : ∀ (ss : Ss) (X : Cx) (W : WX) (FC : Fc X.prog X.w X.K X.mg X.base cA cF T C k c) (G : Gs X c k) (tk : Takes X W) (xs : List Stmt), ckSs c ss xs = true → PSs X xs (tS X.K cA cF W (exSs T C ss))
  | .nil, X, W, FC, G, tk, xs, hh => by
    cases xs with
    | cons _ _ => simp [ckSs] at hh
    | nil =>
      refine PSsimp pss_nil fun D σ H q => ?_
      obtain ⟨r, e, h, E, n, w⟩ := q
      simp only [exSs] at w
      exact w r H σ Ext.refl E n
  | .cons s ss, X, W, FC, G, tk, xs, hh => by
    cases xs with
    | nil => simp [ckSs] at hh
    | cons x xs =>
      simp only [ckSs, Bool.and_eq_true] at hh
      refine PSsimp (pss_cons (sndS s X W FC G tk x hh.1) (sndSs ss X W FC G tk xs hh.2)) fun D σ H q => ?_
      obtain ⟨r, e, h, E, n, w⟩ := q
      simp only [exSs] at w
      exact ⟨r, e, h, E, n, wpO_seq w⟩
end
end
end Rm

/-! Rm, part I: functions, the program. -/
namespace Rm
open PySem L2 PySem.Spec PyProof.Rows

/-- a def of the text: where it stands, its slots, what it is in the small language -/
structure FD where
  at_ : Str × Option Str
  name : Str
  qual : Str
  N : List Str
  st : Stmt
  fi : FI
structure PD where
  mts : List (Nat × Str × Nat)
  inis : List (Nat × Nat)
  fds : List FD
  cls : List Str
  free : List Str
  gI : List (Str × Int)
  gS : List (Str × Str)
  T : Tab
def PD.fs (p : PD) : List FI := p.fds.map (·.fi)
def FD.ps (d : FD) : List Str := d.N.take d.fi.np
def PD.ck (p : PD) (d : FD) : Ck := { N := d.N, sc := defScope d.st, fnm := p.fds.map fun d => match d.at_.2 with | none => some d.at_.1 | some _ => none, cnm := p.cls, free := p.free, gI := p.gI, gS := p.gS }
/-- plain parameters -/
def plainArgs (a : Arguments) (ps : List Str) : Bool := a.posonlyargs.isEmpty && decide (a.args.map (·.arg) = ps) && a.vararg.isNone && a.kwonlyargs.isEmpty && a.kw_defaults.isEmpty && a.kwarg.isNone && a.defaults.isEmpty
def FD.ok0 (p : PD) (d : FD) : Bool :=
  decide ((defScope d.st).kind = .function) && decide ((defScope d.st).isCoroutine = false) && decide ((defScope d.st).isGenerator = false) && decide d.N.Nodup &&
  d.ps.all (fun x => decide ((defScope d.st).names.lookup x = some .local) || decide ((defScope d.st).names.lookup x = some .cell)) &&
  (defScope d.st).names.all (fun y => decide (y.2 ≠ .free)) && decide (d.fi.np ≤ d.N.length) && decide (d.fi.nl = d.N.length) && plainArgs (defArgs d.st) d.ps &&
  ckSs (p.ck d) d.fi.body (defBody d.st)
def FD.ok (p : PD) (d : FD) : Bool := decide (p.fds.length ≤ 100000) && FD.ok0 p d
theorem FD.scope {p : PD} {d : FD} (h : d.ok p = true) : FnScope d.N d.ps (defScope d.st) ∧ d.ps.length = d.fi.np ∧ d.fi.nl = d.N.length ∧ d.fi.np ≤ d.N.length ∧ plainArgs (defArgs d.st) d.ps = true ∧ ckSs (p.ck d) d.fi.body (defBody d.st) = true := by
  unfold FD.ok at h
  rw [Bool.and_eq_true] at h
  replace h := h.2
  unfold FD.ok0 at h
  simp only [Bool.and_eq_true, decide_eq_true_eq, List.all_eq_true, Bool.or_eq_true] at h
  obtain ⟨⟨⟨⟨⟨⟨⟨⟨⟨h1, h2⟩, h3⟩, h4⟩, h5⟩, h6⟩, h7⟩, h8⟩, h9⟩, h11⟩ := h
  refine ⟨⟨h1, h2, h3, h4, ?_, h5, h6⟩, ?_, h8, h7, h9, h11⟩
  · unfold FD.ps; rw [List.length_take, Nat.min_eq_left h7]
  · unfold FD.ps; rw [List.length_take]; omega

/-! ### binding plain parameters -/
theorem zip_look : ∀ {ps : List Str} {us : List Value} {x : Str}, us.length = ps.length → x ∈ ps → ((ps.zip us).lookup x).isNone = false
  | [], _, x, _, h => by cases h
  | p :: ps, [], x, hl, _ => by simp at hl
  | p :: ps, u :: us, x, hl, h => by
    rw [List.zip_cons_cons, List.lookup_cons]
    cases e : x == p with
    | true => rfl
    | false =>
      rcases List.mem_cons.mp h with z | z
      · subst z; simp at e
      · exact zip_look (by simpa using hl) z
theorem zip_fm : ∀ {ps : List Str} {us : List Value} (L : List (Str × Value)), ps.Nodup → us.length = ps.length → (∀ x ∈ ps, L.lookup x = (ps.zip us).lookup x) → ps.filterMap (fun n => (L.lookup n).map fun v => (n, v)) = ps.zip us
  | [], us, L, _, _, _ => by simp
  | p :: ps, [], L, _, hl, _ => by simp at hl
  | p :: ps, u :: us, L, nd, hl, h => by
    obtain ⟨n1, n2⟩ := List.nodup_cons.mp nd
    have e : L.lookup p = some u := by rw [h p List.mem_cons_self, List.zip_cons_cons, List.lookup_cons]; simp
    rw [List.filterMap_cons, e, List.zip_cons_cons]
    simp only [Option.map_some]
    rw [zip_fm L n2 (by simpa using hl) fun x hx => ?_]
    rw [h x (List.mem_cons_of_mem _ hx), List.zip_cons_cons, List.lookup_cons]
    have : (x == p) = false := by
      cases q : x == p with
      | false => rfl
      | true => rw [beq_iff_eq] at q; subst q; exact absurd hx n1
    rw [this]
theorem bind_plain {n q : Str} {b : List Stmt} {sc : Scope} {kV doc pm cdv ct : Value} {an : Option Addr} {ar : List Arg} (us : List Value) (nd : (ar.map (·.arg)).Nodup) (hl : us.length = ar.length) :
    bindArgs (PySem.W.fnOf n q ⟨[], ar, none, [], [], none, []⟩ b sc .none kV doc pm an cdv ct) ⟨us, []⟩ = pure ((ar.map (·.arg)).zip us) := by
  have hl2 : us.length = (ar.map (·.arg)).length := by simpa using hl
  have hm : (List.filter (fun n => (List.lookup n ((ar.map (·.arg)).zip us)).isNone) (ar.map (·.arg))) = [] := by
    rw [List.filter_eq_nil_iff]
    intro x hx
    rw [zip_look hl2 hx]
    decide
  have hz := zip_fm ((ar.map (·.arg)).zip us) nd hl2 fun _ _ => rfl
  have ht : List.take ar.length (List.map (fun x => x.arg) ar) = List.map (fun x => x.arg) ar := List.take_of_length_le (by simp)
  have hn : notAStandIn Value.none = pure () := rfl
  unfold bindArgs
  simp only [PySem.W.fnOf]
  simp [seqItems?, hl, hm, ht, hn]
  rw [List.filterMap_map] at hz
  exact congrArg pure hz
theorem bind_plainA {n q : Str} {b : List Stmt} {sc : Scope} {kV doc pm cdv ct : Value} {an : Option Addr} {a : Arguments} {ps : List Str} (h : plainArgs a ps = true) (nd : ps.Nodup) (us : List Value) (hl : us.length = ps.length) :
    bindArgs (PySem.W.fnOf n q a b sc .none kV doc pm an cdv ct) ⟨us, []⟩ = pure (ps.zip us) := by
  obtain ⟨po, ar, va, ko, kd, kw, df⟩ := a
  unfold plainArgs at h
  simp only [Bool.and_eq_true, decide_eq_true_eq, List.isEmpty_iff, Option.isNone_iff_eq_none] at h
  obtain ⟨⟨⟨⟨⟨⟨rfl, rfl⟩, rfl⟩, rfl⟩, rfl⟩, rfl⟩, rfl⟩ := h
  exact bind_plain us nd (by simpa using hl)

/-! ### the facts that the head tells -/
/-- what an own class of exceptions must say -/
def exB (K : PySem.W.Frag) (D : Addr) : Bool :=
  He.eqO (PySem.W.findIn K (.ref D) "__getattribute__") (some (some (.builtin "BaseException.__getattribute__"))) && He.eqO (PySem.W.findIn K (.ref D) "__getattr__") (some none) &&
  decide (PySem.W.subIn K (.ref D) (.type "BaseException") = some true) && PySem.W.hasDictIn K D && He.eqO (PySem.W.findIn K (.ref D) "__class__") (some (some (.builtin "object.__class__"))) &&
  He.eqO (PySem.W.specialIn K (.builtin "object.__class__") "__get__") (some (some (.builtin "getset_descriptor.__get__"))) && decide (PySem.W.takesIn K (.builtin "object.__class__") = some true) && decide (PySem.W.mroIn K D (.type "object") = some true)
theorem exB_ok {K : PySem.W.Frag} {D : Addr} (h : exB K D = true) : ExcC K D := by
  unfold exB at h
  simp only [Bool.and_eq_true, decide_eq_true_eq] at h
  obtain ⟨⟨⟨⟨⟨⟨⟨h1, h2⟩, h3⟩, h4⟩, h5⟩, h6⟩, h7⟩, h8⟩ := h
  exact ⟨He.eqO_ok h1, He.eqO_ok h2, h3, h4, He.eqO_ok h5, He.eqO_ok h6, h7, h8⟩
def PD.cA (p : PD) (K : PySem.W.Frag) (c : Nat) : Addr := He.ga K (p.cls.getD c (Str.ofString ""))
def PD.exF (p : PD) (K : PySem.W.Frag) : Bool := (List.range p.cls.length).all fun c =>
  (!p.T.exc c || (exB K (p.cA K c) && decide (PySem.W.kitOne K (.ref (p.cA K c)) (.type "ValueError") = some (p.T.ve c)) && decide (PySem.W.kitOne K (.type "NoneType") (.ref (p.cA K c)) = some false) &&
    (List.range p.cls.length).all fun d => !p.T.exc d || (decide (PySem.W.kitOne K (.ref (p.cA K c)) (.ref (p.cA K d)) = some (p.T.sub c d)) && decide (PySem.W.exmOne K (.ref (p.cA K c)) (.ref (p.cA K d)) = some (p.T.sub c d))))) &&
  (!p.T.rz c || (PySem.W.excIn K (p.cA K c) [.type "ValueError", .type "Exception", .type "BaseException", .type "object"] "ValueError.__new__" && decide (PySem.W.subIn K (.ref (p.cA K c)) (.type "BaseException") = some true) && decide (PySem.W.typeIn K (.ref (p.cA K c)) = some (.type "type")))) &&
  (!p.T.obj c || (He.eqO (PySem.W.findIn K (.ref (p.cA K c)) "__class__") (some (some (.builtin "object.__class__"))) && He.eqO (PySem.W.specialIn K (.builtin "object.__class__") "__get__") (some (some (.builtin "getset_descriptor.__get__"))) && decide (PySem.W.takesIn K (.builtin "object.__class__") = some true) && decide (PySem.W.mroIn K (p.cA K c) (.type "object") = some true) &&
    (List.range p.cls.length).all fun d => !p.T.obj d || decide (PySem.W.kitOne K (.ref (p.cA K c)) (.ref (p.cA K d)) = some (p.T.sub c d))))
/-- what the plain classes must say; mt: class, method, the def -/
def PD.obF (p : PD) (K : PySem.W.Frag) : Bool := (List.range p.cls.length).all fun c =>
  (!p.T.obj c || ((He.Fa.cls (p.cls.getD c (Str.ofString ""))).ok K && (p.T.fld c).all fun f => (He.Fa.noat (p.cls.getD c (Str.ofString "")) f).ok K)) &&
  (!p.T.n0 c || (PySem.W.makesIn K (p.cA K c) && He.eqO (PySem.W.findIn K (.ref (p.cA K c)) "__init__") (some (some (.builtin "object.__init__")))))
def PD.mtF (p : PD) (K : PySem.W.Frag) : Bool := p.mts.all fun q => (match p.cls[q.1]?, p.fds[q.2.2]? with
  | some x, some d => (He.Fa.meth x q.2.1).ok K && decide (He.ma K (He.ga K x) q.2.1 = He.fAd K d.at_) && !(p.T.fld q.1).contains q.2.1
  | _, _ => false)
def PD.inF (p : PD) (K : PySem.W.Frag) : Bool := p.inis.all fun q => (match p.cls[q.1]?, p.fds[q.2]? with
  | some x, some d => (He.Fa.mkr x).ok K && decide (He.ma K (He.ga K x) (Str.ofString "__init__") = He.fAd K d.at_)
  | _, _ => false)
/-- the tables are those of the lists -/
structure PD.tabs (p : PD) : Prop where
  ob : ∀ c, (p.T.obj c = true ∨ p.T.n0 c = true) → c < p.cls.length
  mt : ∀ c m g, p.T.mth c m = some g → (c, m, g) ∈ p.mts
  ini : ∀ c g, p.T.ini c = some g → (c, g) ∈ p.inis
def PD.inCls (p : PD) : Prop := ∀ c, (p.T.exc c = true ∨ p.T.rz c = true) → c < p.cls.length
theorem PD.exF_ok {p : PD} {K : PySem.W.Frag} (hc : p.inCls) (tb : p.tabs) (h : p.exF K = true) : ExF K (p.cA K) p.T := by
  unfold PD.exF at h
  simp only [List.all_eq_true, List.mem_range, Bool.and_eq_true, Bool.or_eq_true, Bool.not_eq_true', decide_eq_true_eq] at h
  have get : ∀ c, p.T.exc c = true → _ := fun c e => (h c (hc c (.inl e))).1.1.resolve_left (by rw [e]; decide)
  have ge : ∀ c, p.T.obj c = true → _ := fun c e => (h c (tb.ob c (.inl e))).2.resolve_left (by rw [e]; decide)
  exact {
    exc := fun c e => exB_ok (get c e).1.1.1
    ve := fun c e => (get c e).1.1.2
    non := fun c e => (get c e).1.2
    osub := fun c d e f => ((ge c e).2 d (tb.ob d (.inl f))).resolve_left (by rw [f]; decide)
    oi := fun c e => ⟨He.eqO_ok (ge c e).1.1.1.1, He.eqO_ok (ge c e).1.1.1.2, (ge c e).1.1.2, (ge c e).1.2⟩
    sub := fun c d e f => (((get c e).2 d (hc d (.inl f))).resolve_left (by rw [f]; decide)).1
    em := fun c d e f => (((get c e).2 d (hc d (.inl f))).resolve_left (by rw [f]; decide)).2
    rz := fun c e => by
      have z := (h c (hc c (.inr e))).1.2.resolve_left (by rw [e]; decide)
      exact ⟨z.1.1, z.1.2, z.2⟩ }
def PD.fa (p : PD) : List He.Fa := p.free.map He.Fa.free ++ p.gI.map (fun q => He.Fa.int q.1 q.2) ++ p.gS.map (fun q => He.Fa.str q.1 q.2) ++ p.cls.map He.Fa.glo ++ p.cls.map He.Fa.keep ++
  p.fds.filterMap fun d => match d.at_.2 with | none => some (He.Fa.glo d.at_.1) | some _ => none
def FD.defD (d : FD) : He.DefD := ⟨d.at_, d.name, d.qual, defArgs d.st, defBody d.st, defScope d.st, [], []⟩
def PD.fn (p : PD) : List He.DefD := p.fds.map FD.defD
def PD.obs (p : PD) (K : PySem.W.Frag) : He.AlD := ((p.exF K && (p.obF K && (p.mtF K && p.inF K))) && (He.obsD p.fa p.fn K).1, (He.obsD p.fa p.fn K).2)
def PD.says (p : PD) (K : PySem.W.Frag) : Prop := p.obs K = He.valD p.fn
/-- the objects that the module's names reach -/
def refsOf (g : Addr → Option Obj) (as : List Addr) : List Addr := as.flatMap fun a => match g a with
  | some o => He.refsD o
  | none => []
def asP (g : Addr → Option Obj) : List Addr :=
  let l1 := refsOf g [mainGlobals]
  let l2 := refsOf g l1
  let l3 := refsOf g l2
  mainGlobals :: (l1 ++ (l2 ++ (l3 ++ refsOf g l3)))
def PD.obsG (p : PD) (_ : Nat) (g : Addr → Option Obj) : He.AlD := p.obs (He.frG g (asP g))
/-- what the head's run must show, in parts -/
def PD.obA (p : PD) (K : PySem.W.Frag) : Bool := (p.exF K && (p.obF K && (p.mtF K && p.inF K))) && p.fa.all fun f => f.ok K
def obB (fn : List He.DefD) (K : PySem.W.Frag) : Bool × List He.FnW := (fn.all fun d => d.ok K, fn.map fun d => He.fnW K d.at_)
section
open PySem.W HandSHeadRun
def KS (s : PySem.W.SharedT) : PySem.W.Frag := He.frG (getT s) (asP (getT s))
def Run1 (r : OpenRow) (q : Program) (M : Nat) (loose : List PySem.Str) (w : World) : Prop :=
  ∀ os : OsState, (endF (stepQ (denQ tabQ) r.prog w) M r.prog w os).map (fun s => (looksF r.prog (boot_heap w.params) s.abs, seenQ q loose (importedModules r.prog.main.body) (fun s => xlAt q [] s && recOk r.toRowW.records s) s.abs)) = some (true, openGood q loose)
def Run2 (r : OpenRow) (p : PD) (M : Nat) (w : World) : Prop := ∀ os : OsState, (endF (stepQ (denQ tabQ) r.prog w) M r.prog w os).map (fun s => p.obA (KS s)) = some true
def Run3 (r : OpenRow) (fn : List He.DefD) (M : Nat) (w : World) : Prop := ∀ os : OsState, (endF (stepQ (denQ tabQ) r.prog w) M r.prog w os).map (fun s => obB fn (KS s)) = some (true, fn.map He.DefD.val)
end
def PD.hook (p : PD) (n : Nat) : PySem.W.Hook where
  α := He.AlD
  obs := fun s => p.obsG n s.heap.get?
  val := fun _ => He.valD p.fn
  says := fun _ h => ∃ K : PySem.W.Frag, K.In h ∧ p.says K
  of := fun _ _ e => ⟨_, He.frG_in, e⟩
  keeps := fun _ _ _ ⟨K, hK, c⟩ k => ⟨K, PySem.W.Frag.In.keeps hK k, c⟩
open PySem.W HandSHeadRun in
theorem run_join {r : OpenRow} {q : Program} {p : PD} {n M m : Nat} {loose : List PySem.Str} {w : World} (h1 : Run1 r q M loose w) (h2 : Run2 r p M w) (h3 : Run3 r (p.fn.take m) M w) (h4 : Run3 r (p.fn.drop m) M w) :
    RunEq r q (p.hook n) (fun s => p.obsG n (getT s)) M loose w := by
  intro os
  have e1 := h1 os
  have e2 := h2 os
  have e3 := h3 os
  have e4 := h4 os
  cases X : endF (stepQ (denQ tabQ) r.prog w) M r.prog w os with
  | none => rw [X] at e1; cases e1
  | some s =>
    rw [X] at e1 e2 e3 e4
    simp only [Option.map_some, Option.some.injEq, Prod.mk.injEq] at e1 e2
    have e3 : obB (p.fn.take m) (KS s) = (true, (p.fn.take m).map He.DefD.val) := Option.some.inj e3
    have e4 : obB (p.fn.drop m) (KS s) = (true, (p.fn.drop m).map He.DefD.val) := Option.some.inj e4
    have a3 : ((p.fn.take m).all fun d => d.ok (KS s)) = true := congrArg (fun z : Bool × List _ => z.1) e3
    have b3 : ((p.fn.take m).map fun d => He.fnW (KS s) d.at_) = (p.fn.take m).map He.DefD.val := congrArg (fun z : Bool × List _ => z.2) e3
    have a4 : ((p.fn.drop m).all fun d => d.ok (KS s)) = true := congrArg (fun z : Bool × List _ => z.1) e4
    have b4 : ((p.fn.drop m).map fun d => He.fnW (KS s) d.at_) = (p.fn.drop m).map He.DefD.val := congrArg (fun z : Bool × List _ => z.2) e4
    have a5 : (p.fn.all fun d => d.ok (KS s)) = true := by
      rw [← List.take_append_drop m p.fn, List.all_append, a3, a4]; rfl
    have b5 : (p.fn.map fun d => He.fnW (KS s) d.at_) = p.fn.map He.DefD.val := by
      rw [← List.take_append_drop m p.fn, List.map_append, List.map_append, b3, b4]
    have eo : p.obsG n (getT s) = He.valD p.fn := by
      unfold PD.obA at e2
      rw [Bool.and_eq_true] at e2
      show (((p.exF (KS s) && (p.obF (KS s) && (p.mtF (KS s) && p.inF (KS s)))) && ((p.fa.all fun f => f.ok (KS s)) && p.fn.all fun d => d.ok (KS s))), p.fn.map fun d => He.fnW (KS s) d.at_) = (true, p.fn.map He.DefD.val)
      rw [e2.1, e2.2, a5, b5]; rfl
    show some (_, _, p.obsG n (getT s)) = some (true, openGood q loose, He.valD p.fn)
    exact congrArg some (Prod.ext e1.1 (Prod.ext e1.2 eo))
theorem PD.obsG_eq {p : PD} {n : Nat} {g : Addr → Option Obj} {s : Shared} (h : ∀ a, g a = s.heap.get? a) : p.obsG n g = (p.hook n).obs s := by
  have e : g = s.heap.get? := funext h
  rw [e] <;> rfl
theorem PD.says_ok {p : PD} {K : PySem.W.Frag} (h : p.says K) : p.exF K = true ∧ He.SaysD p.fa p.fn K := by
  have h1 := congrArg (fun z : He.AlD => z.1) h
  have h2 := congrArg (fun z : He.AlD => z.2) h
  have h1' : ((p.exF K && (p.obF K && (p.mtF K && p.inF K))) && (He.obsD p.fa p.fn K).1) = true := h1
  obtain ⟨a, b⟩ := He.ba h1'
  exact ⟨(He.ba a).1, Prod.ext b h2⟩
theorem PD.says_ob {p : PD} {K : PySem.W.Frag} (h : p.says K) : p.obF K = true ∧ p.mtF K = true ∧ p.inF K = true := by
  have h1 := congrArg (fun z : He.AlD => z.1) h
  have h1' : ((p.exF K && (p.obF K && (p.mtF K && p.inF K))) && (He.obsD p.fa p.fn K).1) = true := h1
  obtain ⟨a, b⟩ := He.ba h1'
  obtain ⟨_, a⟩ := He.ba a
  obtain ⟨a1, a⟩ := He.ba a
  obtain ⟨a2, a3⟩ := He.ba a
  exact ⟨a1, a2, a3⟩
theorem says_fact {fa : List He.Fa} {fn : List He.DefD} {K : PySem.W.Frag} (c : He.SaysD fa fn K) {f : He.Fa} (h : f ∈ fa) : f.ok K = true := by
  obtain ⟨i, hi, e⟩ := List.mem_iff_getElem.mp h
  exact c.fact i (by rw [← e]; simp [hi])

/-! ### every def keeps its promise -/
section
variable {p : PD} {P : Program} {w : World} {K : PySem.W.Frag} {mg : Str → Option Value} {h0 : Heap} {base : Heap}
def fAd (K : PySem.W.Frag) (p : PD) (f : Nat) : Addr := match p.fds[f]? with
  | some d => He.fAd K d.at_
  | none => 0
theorem run_ok (hok : p.fds.all (fun d => d.ok p) = true) (hin : p.inCls) (tb : p.tabs) (c : p.says K) (X : K.In h0) (G : h0.Ns mainGlobals mg) (sr : base.NoSeer) (tr : P.given.tree = none) :
    ∀ (n : Nat) (f : Nat) (d : FD), p.fds[f]? = some d → ∃ fd, FunD K d.name d.qual (defArgs d.st) (defBody d.st) (defScope d.st) [] [] (He.fAd K d.at_) fd ∧
      FnOk P w K mg base (L2.CX P w) (34 + 2 * n) (He.fAd K d.at_) fd d.ps (spR K (p.cA K) p.T.fld (run p.T p.fs n) f) ∧ (p.fds[f + big]? = none → FnOk P w K mg base (L2.CX P w) (34 + 2 * n) (He.fAd K d.at_) fd d.ps (spR K (p.cA K) p.T.fld (run p.T p.fs n) (f + big))) := by
  obtain ⟨c1, c2⟩ := PD.says_ok c
  have exf := PD.exF_ok hin tb c1
  obtain ⟨o1, o2, o3⟩ := PD.says_ob c
  have bnd : ∀ {d : FD} {fd : FuncData}, d.ok p = true → FunD K d.name d.qual (defArgs d.st) (defBody d.st) (defScope d.st) [] [] (He.fAd K d.at_) fd → Binds K fd d.ps [] := by
    intro d fd hd F
    obtain ⟨S, h2, _, _, h5, _⟩ := FD.scope hd
    obtain ⟨oc, od, dV, kV, doc, pm, an, cdv, ct, osl, rfl, lk, hcd, hdv, hkv⟩ := F.ex
    rcases hdv with ⟨_, rfl⟩ | ⟨z, _⟩
    · exact .all fun us hl => bind_plainA h5 (S.nd.sublist (List.take_sublist _ _)) us hl
    · exact absurd rfl z
  intro n
  induction n with
  | zero =>
    intro f d hf
    have hfn : p.fn[f]? = some d.defD := by unfold PD.fn; rw [List.getElem?_map, hf]; rfl
    obtain ⟨fd, F⟩ := c2.def_ f hfn
    refine ⟨fd, F, ⟨fun vs H Q E q => ?_, fun A outer s H args us vs Q E _ _ _ _ q => ?_⟩, fun _ => ⟨fun vs H Q E q => ?_, fun A outer s H args us vs Q E _ _ _ _ q => ?_⟩⟩
    · obtain ⟨r, as, h, _, _, z⟩ := q
      simp only [run] at z
      exact z.elim
    · obtain ⟨r, as, h, _, _, z⟩ := q
      simp only [run] at z
      exact z.elim
    · obtain ⟨r, as, h, _, _, z⟩ := q
      simp only [run] at z
      exact z.elim
    · obtain ⟨r, as, h, _, _, z⟩ := q
      simp only [run] at z
      exact z.elim
  | succ n ih =>
    intro f d hf
    have hfn : p.fn[f]? = some d.defD := by unfold PD.fn; rw [List.getElem?_map, hf]; rfl
    obtain ⟨fd, F⟩ := c2.def_ f hfn
    have F : FunD K d.name d.qual (defArgs d.st) (defBody d.st) (defScope d.st) [] [] (He.fAd K d.at_) fd := F
    have hd : d.ok p = true := List.all_eq_true.mp hok d (List.mem_of_getElem? hf)
    obtain ⟨S, h2, h3, h4, h5, h7⟩ := FD.scope hd
    have hfs : p.fs[f]? = some d.fi := by unfold PD.fs; rw [List.getElem?_map, hf]; rfl
    have main : ∀ (fr : Bool) (ff : Nat), (∀ vs h, run p.T p.fs (n + 1) ff vs h = if vs.length = d.fi.np then leaveB fr d.fi h (exSs p.T (run p.T p.fs n) d.fi.body (Rm.start d.fi vs) h) else .bad) →
        FnOk P w K mg base (L2.CX P w) (34 + 2 * (n + 1)) (He.fAd K d.at_) fd d.ps (spR K (p.cA K) p.T.fld (run p.T p.fs (n + 1)) ff) := by
      intro fr ff hrun
      have len : ∀ vs H Q E, spR K (p.cA K) p.T.fld (run p.T p.fs (n + 1)) ff vs H Q E → vs.length = d.ps.length := by
        intro vs H Q E q
        obtain ⟨r, as, h, _, p1, z⟩ := q
        rw [hrun] at z
        split at z
        · rename_i hl
          rw [p1.length, hl, h2]
        · exact z.elim
      refine FunD.ok F S len fun cdv A outer s H vs Q E hr q => ?_
      refine ⟨tS K (p.cA K) p.T.fld (fun cls dd _ H => E cls dd H) (exSs p.T (run p.T p.fs n) d.fi.body), ?_, ?_⟩
      · have FC : Fc P w K mg base (p.cA K) p.T.fld p.T (run p.T p.fs n) (34 + 2 * n) (p.ck d) := {
          fn := fun g x e => by
            have e2 : ∃ d', (p.fds[g]? = some d' ∨ (p.fds[g]? = none ∧ big ≤ g ∧ p.fds[g - big]? = some d')) ∧ (match d'.at_.2 with | none => some d'.at_.1 | some _ => none) = some x := by
              unfold Ck.fa at e
              have ef : (p.ck d).fnm = p.fds.map fun d => match d.at_.2 with | none => some d.at_.1 | some _ => none := rfl
              rw [ef, List.getElem?_map, List.getElem?_map] at e
              cases q1 : p.fds[g]? with
              | some d' => rw [q1] at e; simp only [Option.map_some, Option.some.injEq] at e; exact ⟨d', .inl rfl, e⟩
              | none =>
                rw [q1] at e
                simp only [Option.map_none] at e
                split at e
                · rename_i hb
                  obtain ⟨d', hd', e3⟩ := Option.map_eq_some_iff.mp e
                  exact ⟨d', .inr ⟨rfl, hb, hd'⟩, e3⟩
                · cases e
            obtain ⟨d', hcase, e3⟩ := e2
            have hex : ∃ fd', FunD K d'.name d'.qual (defArgs d'.st) (defBody d'.st) (defScope d'.st) [] [] (He.fAd K d'.at_) fd' ∧
                FnOk P w K mg base (L2.CX P w) (34 + 2 * n) (He.fAd K d'.at_) fd' d'.ps (spR K (p.cA K) p.T.fld (run p.T p.fs n) g) ∧ ∃ g' : Nat, p.fds[g']? = some d' := by
              rcases hcase with hd' | ⟨h0, hb, hd'⟩
              · obtain ⟨fd', F', O', _⟩ := ih g d' hd'
                exact ⟨fd', F', O', g, hd'⟩
              · obtain ⟨fd', F', _, O'⟩ := ih (g - big) d' hd'
                have eg : g - big + big = g := Nat.sub_add_cancel hb
                rw [eg] at O'
                exact ⟨fd', F', O' h0, g - big, hd'⟩
            obtain ⟨fd', F', O', g', hd'⟩ := hex
            have hz : d'.at_ = (x, none) := by
              obtain ⟨⟨a1, a2⟩, _⟩ := d'
              cases a2 with
              | none => simp only [Option.some.injEq] at e3; simp [e3]
              | some _ => cases e3
            have hg := He.glo_ok X G (says_fact c2 (f := .glo x) (by
              unfold PD.fa
              refine List.mem_append_right _ (List.mem_filterMap.mpr ⟨d', List.mem_of_getElem? hd', ?_⟩)
              rw [hz]))
            have hd'' : d'.ok p = true := List.all_eq_true.mp hok d' (List.mem_of_getElem? hd')
            refine ⟨He.fAd K d'.at_, fd', d'.ps, O', ?_, F'.kp, bnd hd'' F'⟩
            rw [hg, hz]; rfl
          free := fun x hx => He.free_ok X G (says_fact c2 (f := .free x) (by
            unfold PD.fa
            simp only [List.append_assoc]
            exact List.mem_append_left _ (List.mem_map.mpr ⟨x, hx, rfl⟩)))
          gi := fun x i hx => He.int_ok X G (says_fact c2 (f := .int x i) (by
            unfold PD.fa
            simp only [List.append_assoc]
            exact List.mem_append_right _ (List.mem_append_left _ (List.mem_map.mpr ⟨(x, i), hx, rfl⟩))))
          gs := fun x i hx => He.str_ok X G (says_fact c2 (f := .str x i) (by
            unfold PD.fa
            simp only [List.append_assoc]
            exact List.mem_append_right _ (List.mem_append_right _ (List.mem_append_left _ (List.mem_map.mpr ⟨(x, i), hx, rfl⟩)))))
          cl := fun e x hx => by
            have hx : p.cls[e]? = some x := hx
            have hm : x ∈ p.cls := List.mem_of_getElem? hx
            have hA : p.cA K e = He.ga K x := by unfold PD.cA; rw [List.getD_eq_getElem?_getD, hx]; rfl
            rw [hA]
            exact ⟨He.glo_ok X G (says_fact c2 (f := .glo x) (by
              unfold PD.fa
              simp only [List.append_assoc]
              exact List.mem_append_right _ (List.mem_append_right _ (List.mem_append_right _ (List.mem_append_left _ (List.mem_map.mpr ⟨x, hm, rfl⟩)))))), He.keep_ok (says_fact c2 (f := .keep x) (by
              unfold PD.fa
              simp only [List.append_assoc]
              exact List.mem_append_right _ (List.mem_append_right _ (List.mem_append_right _ (List.mem_append_right _ (List.mem_append_left _ (List.mem_map.mpr ⟨x, hm, rfl⟩)))))))⟩
          ex := exf
          fl := rfl
          ob := fun d ho => by
            have z := List.all_eq_true.mp o1 d (List.mem_range.mpr (tb.ob d (.inl ho)))
            simp only [Bool.and_eq_true, Bool.or_eq_true, Bool.not_eq_true'] at z
            have z1 := z.1.resolve_left (by rw [ho]; decide)
            exact ⟨He.cls_ok z1.1, fun f hf => He.noat_ok (List.all_eq_true.mp z1.2 f hf)⟩
          mt := fun d m g ho hm => by
            have z := List.all_eq_true.mp o2 _ (tb.mt d m g hm)
            dsimp only at z
            split at z
            · rename_i x d' hx hd'
              simp only [Bool.and_eq_true, decide_eq_true_eq, Bool.not_eq_true', List.contains_eq_mem, decide_eq_false_iff_not] at z
              obtain ⟨⟨z1, z2⟩, z3⟩ := z
              obtain ⟨fd', F', O', _⟩ := ih g d' hd'
              have hd'' : d'.ok p = true := List.all_eq_true.mp hok d' (List.mem_of_getElem? hd')
              refine ⟨z3, He.fAd K d'.at_, fd', d'.ps, O', ?_, bnd hd'' F'⟩
              have hA : p.cA K d = He.ga K x := by unfold PD.cA; rw [List.getD_eq_getElem?_getD, hx]; rfl
              rw [hA, ← z2]
              exact He.meth_ok z1
            · cases z
          mtC := fun d m g ho hm => by
            have z := List.all_eq_true.mp o2 _ (tb.mt d m g hm)
            dsimp only at z
            split at z
            · rename_i x d' hx hd'
              simp only [Bool.and_eq_true, decide_eq_true_eq, Bool.not_eq_true', List.contains_eq_mem, decide_eq_false_iff_not] at z
              obtain ⟨⟨z1, z2⟩, z3⟩ := z
              obtain ⟨fd', F', _, O'⟩ := ih g d' hd'
              have hd'' : d'.ok p = true := List.all_eq_true.mp hok d' (List.mem_of_getElem? hd')
              have hlen : p.fds.length ≤ 100000 := by
                have h9 := hd''
                unfold FD.ok at h9
                rw [Bool.and_eq_true, decide_eq_true_eq] at h9
                exact h9.1
              refine ⟨z3, He.fAd K d'.at_, fd', d'.ps, O' (List.getElem?_eq_none (by unfold big; omega)), ?_, bnd hd'' F'⟩
              have hA : p.cA K d = He.ga K x := by unfold PD.cA; rw [List.getD_eq_getElem?_getD, hx]; rfl
              rw [hA, ← z2]
              exact He.meth_ok z1
            · cases z
          mkI := fun d g ho hm => by
            have z := List.all_eq_true.mp o3 _ (tb.ini d g hm)
            dsimp only at z
            split at z
            · rename_i x d' hx hd'
              simp only [Bool.and_eq_true, decide_eq_true_eq] at z
              obtain ⟨z1, z2⟩ := z
              obtain ⟨fd', F', O', _⟩ := ih g d' hd'
              have hd'' : d'.ok p = true := List.all_eq_true.mp hok d' (List.mem_of_getElem? hd')
              refine ⟨He.fAd K d'.at_, fd', d'.ps, O', ?_, bnd hd'' F'⟩
              have hA : p.cA K d = He.ga K x := by unfold PD.cA; rw [List.getD_eq_getElem?_getD, hx]; rfl
              rw [hA, ← z2]
              exact He.mkr_ok z1
            · cases z
          m0 := fun d h0 => by
            have z := List.all_eq_true.mp o1 d (List.mem_range.mpr (tb.ob d (.inr h0)))
            simp only [Bool.and_eq_true, Bool.or_eq_true, Bool.not_eq_true'] at z
            have z1 := z.2.resolve_left (by rw [h0]; decide)
            exact ⟨z1.1, He.eqO_ok z1.2⟩ }
        exact sndSs d.fi.body (cxOf (L2.CX P w) P w K mg base d.N d.qual (defScope d.st) (He.fAd K d.at_) cdv A outer s H E) (fun cls dd _ H => E cls dd H) FC
          { hN := rfl, sc := rfl, rm := hr, calm := rfl, nd := S.nd, deep := ⟨sr, tr, by have h0 : Room (34 + 2 * n + 1) (A.deeper (envOfC d.qual (defScope d.st) s.heap.objs.size (He.fAd K d.at_) cdv)) := hr; have := h0.dp; show (A.deeper (envOfC d.qual (defScope d.st) s.heap.objs.size (He.fAd K d.at_) cdv)).depth + 100 < _; omega, ⟨_, _, rfl, S.gen, S.co, rfl, rfl⟩, ⟨_, _, _, rfl, rfl, rfl⟩⟩, fn := fun _ => rfl, own := passes_of rfl, stk := rfl, frm := rfl, exn := rfl } (takes_of rfl rfl rfl rfl) (defBody d.st) h7
      · obtain ⟨r, as, h, Em, p1, z⟩ := q
        rw [hrun] at z
        split at z
        · rename_i hl
          refine ⟨r, Rm.start d.fi as, h, Em, ?_, ?_⟩
          · refine ⟨?_, fun i v e => ?_⟩
            · unfold Rm.start L2.start
              rw [List.length_append, List.length_append, List.length_map, List.length_map, List.length_replicate, List.length_replicate, p1.length, hl, h3]
            · unfold Rm.start at e
              have hi : i < as.length := by
                by_cases hi : i < as.length
                · exact hi
                · rw [List.getElem?_append_right (by simpa using hi), List.getElem?_replicate] at e
                  split at e <;> cases e
              rw [List.getElem?_append_left (by simpa using hi), List.getElem?_map] at e
              cases ea : as[i]? with
              | none => rw [ea] at e; cases e
              | some x =>
                rw [ea] at e
                simp only [Option.map_some, Option.some.injEq] at e
                subst e
                obtain ⟨V, k1, k2⟩ := p1.get ea
                refine ⟨V, ?_, k2⟩
                unfold L2.start
                rw [List.getElem?_append_left (by rw [List.length_map, p1.length]; exact hi), List.getElem?_map, k1]; rfl
          · have fin_ok : ∀ {v : MV} {h' : HP}, wpR K (p.cA K) p.T.fld r H (Rm.fin d.fi.keep h v h') Q E → ∀ r' H' V, Ext r H r' H' → Emb K (p.cA K) p.T.fld H' r' h' → Rep K (p.cA K) p.T.fld H' r' v V → Q V H' := by
              intro v h' w r' H' V x1 E1 p2
              unfold Rm.fin at w
              split at w
              · exact w r' H' V x1 E1 p2
              · split at w
                · rename_i ht
                  obtain ⟨t, rfl⟩ := x1.pre
                  have E2 := Emb.cut E1 Em ht
                  have x2 : Ext r H r H' := ⟨⟨[], by simp⟩, fun a o e n => ⟨(x1.keep a o e n).1, n⟩⟩
                  cases g : frz h' h.length v with
                  | none => rw [g] at w; exact w.elim
                  | some u =>
                    rw [g] at w
                    rw [← Em.len] at g
                    exact w r H' V x2 E2 (frz_ok E1 v u V g p2)
                · split at w
                  · rename_i hlow
                    obtain ⟨t, rfl⟩ := x1.pre
                    rw [← Em.len] at hlow
                    have E2 := Emb.cutL E1 hlow
                    have x2 : Ext r H r H' := ⟨⟨[], by simp⟩, fun a o e n => ⟨(x1.keep a o e n).1, n⟩⟩
                    cases g : frz h' h.length v with
                    | none => rw [g] at w; exact w.elim
                    | some u =>
                      rw [g] at w
                      rw [← Em.len] at g w
                      exact w r H' V x2 E2 (frz_ok E1 v u V g p2)
                  · exact w.elim
            have finC_ok : ∀ {v : MV} {h' : HP}, wpR K (p.cA K) p.T.fld r H (Rm.finC h v h') Q E → ∀ r' H' V, Ext r H r' H' → Emb K (p.cA K) p.T.fld H' r' h' → Rep K (p.cA K) p.T.fld H' r' v V → Q V H' := by
              intro v h' w r' H' V x1 E1 p2
              unfold Rm.finC at w
              split at w
              · rename_i ht
                split at w
                · rename_i i
                  split at w
                  · rename_i hi
                    split at w
                    · rename_i xs hx
                      split at w
                      · rename_i hl
                        obtain ⟨t, rfl⟩ := x1.pre
                        simp only [Rep] at p2
                        obtain ⟨a, rfl, hr⟩ := p2
                        rw [← Em.len] at hi hl
                        have E2 := Emb.pick E1 Em ht hi hr hx hl
                        have ha : a ∈ r ++ t := List.mem_of_getElem? hr
                        have x2 : Ext r H (r ++ [a]) H' := ⟨⟨[a], rfl⟩, fun b o e n => ⟨(x1.keep b o e n).1, fun z => by
                          rcases List.mem_append.mp z with z | z
                          · exact n z
                          · have : b = a := by simpa using z
                            rw [this] at e n
                            exact (x1.keep a o e n).2 ha⟩⟩
                        refine w (r ++ [a]) H' _ x2 E2 ?_
                        simp only [Rep]
                        exact ⟨a, rfl, by rw [← Em.len]; simp⟩
                      · exact w.elim
                    · exact w.elim
                  · exact w.elim
                · exact w.elim
              · exact w.elim
            cases q2 : exSs p.T (run p.T p.fs n) d.fi.body (Rm.start d.fi as) h with
            | nx a b =>
              cases fr with
              | true => simp only [leaveB, q2, if_true] at z; exact z.elim
              | false => simp only [leaveB, q2, Bool.false_eq_true, if_false] at z; exact fun r' H' s' x1 E1 n1 => fin_ok z r' H' V.non x1 E1 rep_non
            | ret a b =>
              cases fr with
              | true => simp only [leaveB, q2, if_true] at z; exact finC_ok z
              | false => simp only [leaveB, q2, Bool.false_eq_true, if_false] at z; exact fin_ok z
            | ct a b => simp only [leaveB, q2] at z; exact z.elim
            | bad => simp only [leaveB, q2] at z; exact z.elim
            | exc x a b =>
              simp only [leaveB, q2] at z
              intro r' H' s' cls dd x1 E1 n1 rx
              split at z
              · rename_i ht
                obtain ⟨t, rfl⟩ := x1.pre
                have E2 := Emb.cut E1 Em ht
                have x2 : Ext r H r H' := ⟨⟨[], by simp⟩, fun a o e n => ⟨(x1.keep a o e n).1, n⟩⟩
                exact z r H' cls dd x2 E2 rx
              · exact z.elim
        · exact z.elim
    exact ⟨fd, F, main false f fun vs h => run_at hfs vs h, fun h0 => main true (f + big) fun vs h => run_atC hfs (by unfold PD.fs; rw [List.getElem?_map, h0]; rfl) vs h⟩
end
end Rm

/-! Rm, part J: the end of a law's row. -/
namespace Rm
open PySem L2 PySem.Spec PyProof.Rows
theorem law_callF {P : Program} {w : World} {K : PySem.W.Frag} {mg mb : Str → Option Value} {CX : CXT} {k : Nat} {fa a : Addr} {fd : FuncData} {x : Str} {sp : Sp} {s₁ : Shared} {vs : List Value} {ns : List Int}
    (KX : K.In s₁.heap) (hns : s₁.heap.Ns mainGlobals mg) (hb : s₁.heap.Ns builtinsNs mb) (hbb : ∀ x : Str, x ≠ "__name__" → mb x = bootBuiltins x) (hlim : s₁.heap.NoLimit) (hseer : s₁.heap.NoSeer) (hg : s₁.gens = #[])
    (ha : s₁.heap.get? a = some { cls := .type "list", data := .seq vs.toArray }) (hi : IntsAre vs ns) (hl : ns.length ≤ sizeLine) (hr : Room k callerA)
    (F : ∀ base : Heap, K.In base → base.Ns mainGlobals mg → base.NoSeer → FnOk P w K mg base CX k fa fd [x] sp) (hbind : ∀ (s : Shared) (u : Value), BindsTo s fd ⟨[u], []⟩ [(x, u)])
    (hsp : ∀ H : Hp, FzL K H [] a (ns.map V.int) → sp [.ref a] H (fun v _ => v = .bl true) fun _ _ _ => False)
    (hCX : ∀ H e s', CX [] H s₁ (fun _ _ _ => False) e s' → False) :
    codeAny (model P w) callerA (.call (.ref fa) ⟨[.ref a], []⟩) (fun r s' => r = .ok (.ret (.bool true)) ∧ OldK s₁.heap s'.heap ∧ s'.os = s₁.os ∧ AllBare s'.gens) s₁ := by
  have rv := vals_ints hi
  have lenV := hi.length
  have core : ∀ H : Hp, Only H → FzL K H [] a (ns.map V.int) → HOk P w H s₁.heap → (∀ b, H b ≠ none → b = a) → (H a ≠ none → K.lookup a = none) →
      codeAny (model P w) callerA (.call (.ref fa) ⟨[.ref a], []⟩) (fun r s' => r = .ok (.ret (.bool true)) ∧ OldK s₁.heap s'.heap ∧ s'.os = s₁.os ∧ AllBare s'.gens) s₁ := by
    intro H hO hS hok hA hK
    have base_of : ∀ {b : Addr} {o : Obj}, s₁.heap.get? b = some o → H b = none → (hidT s₁.heap H).get? b = some o := fun e n => hidT_get e n
    have noA : ∀ {b : Addr} {o : Obj} {es : Array DictEntry} {ep : Nat}, s₁.heap.get? b = some o → o.data = .dict es ep → H b = none := fun {b o es ep} e d => by
      cases q : H b with
      | none => rfl
      | some u =>
        have e' : b = a := hA b (by rw [q]; simp)
        subst e'
        rw [ha] at e; cases e
        have d' : Data.seq vs.toArray _ = Data.dict es ep := d
        cases d'
    have nsK : ∀ {b : Addr} {m : Str → Option Value}, s₁.heap.Ns b m → (hidT s₁.heap H).Ns b m := fun {b m} ⟨o, es, ep, e, d, r⟩ => ⟨o, es, ep, base_of e (noA e d), d, r⟩
    have hKb : K.In (hidT s₁.heap H) := fun b o e => base_of (KX b o e) (by
      cases q : H b with
      | none => rfl
      | some u =>
        have e' : b = a := hA b (by rw [q]; simp)
        subst e'
        rw [hK (by rw [q]; simp)] at e; cases e)
    have hM : Mod K mg (hidT s₁.heap H) := ⟨hKb, nsK hns, ⟨mb, nsK hb, hbb⟩, let ⟨mc, h1, h2⟩ := hlim; ⟨mc, nsK h1, h2⟩⟩
    have hSe : (hidT s₁.heap H).NoSeer := {
      statics := let ⟨mc, x, y⟩ := hseer.statics; ⟨mc, nsK x, y⟩
      mods := let ⟨mc, x, y⟩ := hseer.mods; ⟨mc, nsK x, y⟩
      imp := let ⟨mc, x, y⟩ := hseer.imp; ⟨mc, nsK x, y⟩
      main := let ⟨mg', bm, ob, x, y, z, u, v⟩ := hseer.main; ⟨mg', bm, ob, nsK x, y, base_of z (by
        cases q : H bm with
        | none => rfl
        | some _ =>
          have e' : bm = a := hA bm (by rw [q]; simp)
          subst e'
          rw [ha] at z
          cases z
          have u' : Value.type "list" = Value.type "module" := u
          exact absurd u' (by decide)), u, v⟩ }
    have e0 : Env0 P w K mg (hidT s₁.heap H) callerA [] s₁ H := ⟨rfl, hM, fun b o e => of_hidT e, Nat.le_of_eq (hidT_size _ _), trivial, fun b hb => absurd (show b ∈ ([] : List Addr) from hb) (by simp), hok, .of_eq hg⟩
    refine codeAny_mono ((F _ hKb (nsK hns) hSe).run callerA [] s₁ H ⟨[.ref a], []⟩ [.ref a] [.ref a] _ _ hr e0 (hbind s₁ (.ref a)) (.cons rfl .nil) (hsp H hS)) fun r s' h => ?_
    cases r with
    | error e => exact (hCX H e s' h).elim
    | ok fl =>
      cases fl with
      | next => exact False.elim h
      | brk => exact False.elim h
      | cont => exact False.elim h
      | ret u =>
        obtain ⟨v, H', os, bare, un, hok', r', q⟩ := h
        have q' : v = .bl true := q
        subst q'
        obtain rfl : u = Value.bool true := r'
        refine ⟨rfl, OldK.of_keep fun b o e => ?_, os, bare⟩
        cases q : H b with
        | none => exact un.keep b o e q (by intro z; exact absurd (show b ∈ ([] : List Addr) from z) (by simp)) (by simp)
        | some u =>
          rcases hO b with z | ⟨ob, xs, z⟩
          · rw [q] at z; cases z
          · have z2 := un.frzs b ob _ z
            obtain ⟨e1, _⟩ := hok b _ z
            obtain ⟨e2, _⟩ := hok' b _ z2
            rw [e] at e1; cases e1
            exact e2
  cases hk : K.lookup a with
  | some o =>
    have e := KX a o hk
    rw [ha] at e
    cases e
    refine core (fun _ => none) (fun _ => .inl rfl) (.inr ⟨vs.toArray, _, hk, by rw [List.size_toArray, lenV]; exact hl, by simpa using rv⟩) (fun b u z => by have z' : (none : Option HO) = some u := z; cases z') (fun b z => absurd rfl z) fun z => absurd rfl z
  | none =>
    refine core (fun b => if b = a then some (.frz { cls := .type "list", data := .seq vs.toArray } (.lst (ns.map V.int))) else none) (fun b => ?_) (.inl ⟨by simp, .inr ⟨{ cls := .type "list", data := .seq vs.toArray }, if_pos rfl⟩⟩) (fun b u z => ?_) (fun b z => ?_) fun _ => hk
    · by_cases hb : b = a
      · exact .inr ⟨_, _, if_pos hb⟩
      · exact .inl (if_neg hb)
    · by_cases hb : b = a
      · have z' := (if_pos hb).symm.trans z
        cases z'
        subst hb
        exact ⟨ha, by rw [List.length_map]; exact hl, vs, _, rv, ha⟩
      · have z' := (if_neg hb).symm.trans z
        cases z'
    · by_cases hb : b = a
      · exact hb
      · exact absurd (if_neg hb) z
theorem reps_intsJ {K : PySem.W.Frag} {cA : Nat → Addr} {cF : Nat → List Str} {H : Hp} {r : List Addr} : ∀ ns : List Int, Reps K cA cF H r (ns.map .int) (ns.map V.int)
  | [] => by simp [Reps]
  | n :: ns => by simp only [List.map_cons, Reps]; exact ⟨_, _, rfl, rep_int, reps_intsJ ns⟩
theorem law_walk {l : PySem.W.OpenLaw} {n k : Nat} {q : Program} {loose : List Str} {XP : (Str → Option Value) → Heap → Prop} {d : DefRec} {p : PD} {m f : Nat} {D : FD} {x : Str}
    (hn : l.most = some n) (hn2 : n ≤ sizeLine) (hdf : d.params.defaults = []) (hr : Room (34 + 2 * k) callerA) (hin0 : importsNone q = true) (htr : l.prog.given.tree = none)
    (tb : p.tabs) (hok : p.fds.all (fun d => d.ok p) = true) (hin : p.inCls) (hf : p.fds[f]? = some D) (hat : D.at_ = (d.name, none)) (hps : D.ps = [x])
    (hrun : ∀ ns : List Int, ns.length ≤ n → (∀ z ∈ ns, Builtin.Int.intBits z ≤ 1048576) → run p.T p.fs k f [.lst (ns.map .int)] [] = .ok (.bl true) []) :
    PySem.W.WalkO q loose XP (p.hook m).says l.row.toRowW d [] (fun f vs => PySem.call f vs) := by
  refine Att.attach_callB hn hdf fun w s₀ s₁ mg mb fa o pm cd doc a vs ns G Y ho hd hcd hmg hobj hints hlen hbits hg => ?_
  obtain ⟨K, KX, c⟩ := Y
  have hga := He.glo_ok KX G.T.g (says_fact (PD.says_ok c).2 (f := .glo d.name) (by
    unfold PD.fa
    refine List.mem_append_right _ (List.mem_filterMap.mpr ⟨D, List.mem_of_getElem? hf, ?_⟩)
    rw [hat]))
  rw [hmg] at hga
  have hfa : fa = He.ga K d.name := by cases hga; rfl
  obtain ⟨fd, F, _⟩ := run_ok (P := l.prog) (w := w) (base := s₁.heap) hok hin tb c KX G.T.g (G.T.seer hin0) htr 0 f D hf
  have hd : D.ok p = true := List.all_eq_true.mp hok D (List.mem_of_getElem? hf)
  obtain ⟨S, h2, _, _, h5, _⟩ := FD.scope hd
  obtain ⟨oc, od, dV, kV, doc', pm', an, cdv, ct, osl, rfl, lk, hcd', hdv, hkv⟩ := F.ex
  rcases hdv with ⟨_, rfl⟩ | ⟨z, _⟩
  · refine law_callF KX G.T.g G.T.b G.T.builtins G.T.nolimit (G.T.seer hin0) hg hobj hints (Nat.le_trans hlen hn2) hr (k := 34 + 2 * k) (x := x) (fd := PySem.W.fnOf D.name D.qual (defArgs D.st) (defBody D.st) (defScope D.st) .none kV doc' pm' an cdv ct) (CX := L2.CX l.prog w) (sp := spR K (p.cA K) p.T.fld (run p.T p.fs k) f) (fun base KB GB hbs => ?_) (fun s u => ?_) (fun H hS => ?_) (fun H e s' z => ?_)
    · obtain ⟨fd', F', O, _⟩ := run_ok (P := l.prog) (w := w) (base := base) hok hin tb c KX G.T.g hbs htr k f D hf
      have e1 : fd' = PySem.W.fnOf D.name D.qual (defArgs D.st) (defBody D.st) (defScope D.st) .none kV doc' pm' an cdv ct := by
        obtain ⟨oc2, od2, dV2, kV2, doc2, pm2, an2, cdv2, ct2, osl2, e, lk2, _⟩ := F'.ex
        rw [lk] at lk2
        injection lk2 with z
        injection z with z1 z2 z3 z4
        injection z3 with z5
        exact z5.symm
      rw [hps, e1] at O
      rw [hfa]
      rw [hat] at O
      exact O
    · have b := bind_plainA (n := D.name) (q := D.qual) (b := defBody D.st) (sc := defScope D.st) (kV := kV) (doc := doc') (pm := pm') (cdv := cdv) (ct := ct) (an := an) h5 (S.nd.sublist (List.take_sublist _ _)) [u] (by rw [hps]; rfl)
      rw [hps] at b
      exact .of_eq b
    · refine ⟨[], [.lst (ns.map .int)], [], ⟨rfl, List.nodup_nil, fun i o a e => by simp at e⟩, ?_, ?_⟩
      · simp only [Reps, Rep]
        exact ⟨_, _, rfl, ⟨a, _, rfl, hS, reps_intsJ ns⟩, rfl⟩
      · rw [hrun ns hlen hbits]
        intro r' H' V _ _ p1
        simp only [Rep] at p1
        exact p1
    · obtain ⟨_, _, _, _, _, _, _, _, _, _, _, _, z⟩ := z
      exact z
  · exact absurd rfl z
end Rm

namespace Rm
open PySem L2
def mkT (exl rzl : List Bool) (subL : List (List Bool)) (obl n0l : List Bool) (flds : List (List Str)) (mts : List (Nat × Str × Nat)) (inis : List (Nat × Nat)) : Tab := {
  obj := fun c => obl.getD c false
  n0 := fun c => n0l.getD c false
  fld := fun c => flds.getD c []
  mth := fun c m => (mts.find? fun q => decide (q.1 = c) && decide (q.2.1 = m)).map (·.2.2)
  ini := fun c => (inis.find? fun q => decide (q.1 = c)).map (·.2)
  sub := fun c d => (subL.getD c []).getD d false, ve := fun c => exl.getD c false, exc := fun c => exl.getD c false, rz := fun c => rzl.getD c false }
theorem getD_lt {l : List Bool} {c : Nat} (h : l.getD c false = true) : c < l.length := by
  rcases Nat.lt_or_ge c l.length with z | z
  · exact z
  · rw [List.getD_eq_getElem?_getD, List.getElem?_eq_none z] at h; cases h
theorem mkT_tabs {p : PD} {a b : List Bool} {s : List (List Bool)} {ol nl : List Bool} {fl : List (List Str)} (hT : p.T = mkT a b s ol nl fl p.mts p.inis) (h : (decide (ol.length ≤ p.cls.length) && decide (nl.length ≤ p.cls.length)) = true) : p.tabs := by
  rw [Bool.and_eq_true, decide_eq_true_eq, decide_eq_true_eq] at h
  refine ⟨fun c z => ?_, fun c m g e => ?_, fun c g e => ?_⟩
  · rw [hT] at z
    rcases z with z | z
    · exact Nat.lt_of_lt_of_le (getD_lt z) h.1
    · exact Nat.lt_of_lt_of_le (getD_lt z) h.2
  · rw [hT] at e
    obtain ⟨q, e1, e2⟩ := Option.map_eq_some_iff.mp e
    have m1 := List.mem_of_find?_eq_some e1
    have m2 := List.find?_some e1
    simp only [Bool.and_eq_true, decide_eq_true_eq] at m2
    obtain ⟨q1, q2, q3⟩ := q
    obtain ⟨rfl, rfl⟩ := m2
    cases e2
    exact m1
  · rw [hT] at e
    obtain ⟨q, e1, e2⟩ := Option.map_eq_some_iff.mp e
    have m1 := List.mem_of_find?_eq_some e1
    have m2 := List.find?_some e1
    simp only [decide_eq_true_eq] at m2
    obtain ⟨q1, q2⟩ := q
    subst m2
    cases e2
    exact m1
theorem mkT_in {p : PD} {a b : List Bool} {s : List (List Bool)} {ol nl : List Bool} {fl : List (List Str)} {ml : List (Nat × Str × Nat)} {il : List (Nat × Nat)} (hT : p.T = mkT a b s ol nl fl ml il) (h : (decide (a.length ≤ p.cls.length) && decide (b.length ≤ p.cls.length)) = true) : p.inCls := by
  intro c z
  rw [hT] at z
  rw [Bool.and_eq_true, decide_eq_true_eq, decide_eq_true_eq] at h
  rcases z with z | z
  · exact Nat.lt_of_lt_of_le (getD_lt z) h.1
  · exact Nat.lt_of_lt_of_le (getD_lt z) h.2
open Classical in
noncomputable def leave (keep : Bool) (h : HP) (o : O) : R MV := match o with
  | .nx _ h' => fin keep h .non h'
  | .ret v h' => fin keep h v h'
  | .exc x _ h' => if h'.take h.length = h then .exc x h else .bad
  | _ => .bad
theorem run_eq {T : Tab} {fs : List FI} {n f : Nat} {vs : List MV} {h : HP} {F : FI} (e : fs[f]? = some F) (l : vs.length = F.np) : run T fs (n + 1) f vs h = leave F.keep h (exSs T (run T fs n) F.body (start F vs) h) := by
  rw [run]; simp only [e, l, if_true]; rfl
theorem leave_exc {h : HP} {x : MX} {e : EN} {keep : Bool} : leave keep h (.exc x e h) = .exc x h := by simp [leave]
theorem leave_ret {h : HP} {v w : MV} (hf : frz h h.length v = some w) : leave false h (.ret v h) = .ok w h := by simp [leave, fin, hf]
theorem leave_nx {h : HP} {e : EN} : leave false h (.nx e h) = .ok .non h := by simp [leave, fin, frz]
end Rm

/-! Rm, part M: the evaluator's rows for simp. -/
namespace Rm
open PySem L2
open PySem.Builtin.Int (intBits)

/-! ### branches -/
def iteM {α : Type} (x : MV) (a b z : α) : α := match x with
  | .bl true => a
  | .bl false => b
  | _ => z
@[simp] theorem iteM_bl {α : Type} (c : Bool) (a b z : α) : iteM (.bl c) a b z = if c = true then a else b := by cases c <;> rfl
theorem R.bind_ite {α β : Type} (c : Prop) [Decidable c] (a b : R α) (f : α → HP → R β) : (if c then a else b).bind f = if c then a.bind f else b.bind f := by split <;> rfl
theorem R.go_ite {α : Type} (c : Prop) [Decidable c] (a b : R α) (e : EN) (f : α → HP → O) : (if c then a else b).go e f = if c then a.go e f else b.go e f := by split <;> rfl
theorem O.then_ite (c : Prop) [Decidable c] (a b : O) (f : EN → HP → O) : (if c then a else b).then f = if c then a.then f else b.then f := by split <;> rfl
theorem leave_ite (c : Prop) [Decidable c] (a b : O) (k : Bool) (h : HP) : leave k h (if c then a else b) = if c then leave k h a else leave k h b := by split <;> rfl
theorem and_ok (p q : Bool) (h : HP) : (if p = true then R.ok (MV.bl q) h else R.ok (MV.bl false) h) = R.ok (MV.bl (p && q)) h := by cases p <;> rfl
theorem or_ok (p q : Bool) (h : HP) : (if p = true then R.ok (MV.bl true) h else R.ok (MV.bl q) h) = R.ok (MV.bl (p || q)) h := by cases p <;> rfl
@[simp] theorem andP (P : Prop) [Decidable P] (q : Bool) (h : HP) : (if P then R.ok (MV.bl q) h else R.ok (MV.bl false) h) = R.ok (MV.bl (decide P && q)) h := by split <;> simp [*]
@[simp] theorem andN (P : Prop) [Decidable P] (q : Bool) (h : HP) : (if P then R.ok (MV.bl false) h else R.ok (MV.bl q) h) = R.ok (MV.bl (!decide P && q)) h := by split <;> simp [*]
@[simp] theorem orN (P : Prop) [Decidable P] (q : Bool) (h : HP) : (if P then R.ok (MV.bl q) h else R.ok (MV.bl true) h) = R.ok (MV.bl (!decide P || q)) h := by split <;> simp [*]
@[simp] theorem orP (P : Prop) [Decidable P] (q : Bool) (h : HP) : (if P then R.ok (MV.bl true) h else R.ok (MV.bl q) h) = R.ok (MV.bl (decide P || q)) h := by split <;> simp [*]

section
variable (T : Tab) (C : Nat → List MV → HP → R MV) (e : EN) (h : HP)
def getV (o : Option (Option MV)) (h : HP) : R MV := match o with
  | some (some v) => .ok v h
  | _ => .bad
@[simp] theorem getV_some (v : MV) : getV (some (some v)) h = .ok v h := id rfl
@[simp] theorem evE_var (i : Nat) : evE T C (.var i) e h = getV e[i]? h := by rw [evE]; rfl
@[simp] theorem evE_cI (i : Int) : evE T C (.cI i) e h = .ok (.int i) h := by rw [evE]
@[simp] theorem evE_cS (i : Str) : evE T C (.cS i) e h = .ok (.str i) h := by rw [evE]
@[simp] theorem evE_cB (i : Bool) : evE T C (.cB i) e h = .ok (.bl i) h := by rw [evE]
@[simp] theorem evE_cN : evE T C .cN e h = .ok .non h := by rw [evE]
@[simp] theorem evE_gI (x : Str) (i : Int) : evE T C (.gI x i) e h = .ok (.int i) h := by rw [evE]
@[simp] theorem evE_gS (x : Str) (i : Str) : evE T C (.gS x i) e h = .ok (.str i) h := by rw [evE]
def negM (x : MV) (h : HP) : R MV := match x with
  | .int i => .ok (.int (-i)) h
  | _ => .bad
@[simp] theorem negM_int (i : Int) : negM (.int i) h = .ok (.int (-i)) h := id rfl
@[simp] theorem evE_neg (a : E) : evE T C (.neg a) e h = (evE T C a e h).bind negM := by rw [evE]; rfl
def notM (x : MV) (h : HP) : R MV := match x with
  | .bl b => .ok (.bl (!b)) h
  | _ => .bad
@[simp] theorem notM_bl (b : Bool) : notM (.bl b) h = .ok (.bl (!b)) h := id rfl
@[simp] theorem evE_not (a : E) : evE T C (.not a) e h = (evE T C a e h).bind notM := by rw [evE]; rfl
@[simp] theorem evE_bin (o : Bop) (a b : E) : evE T C (.bin o a b) e h = (evE T C a e h).bind fun x h => (evE T C b e h).bind fun y h => R.of (binV h o x y) h := by rw [evE]
@[simp] theorem evE_cmp (o : Cop) (a b : E) : evE T C (.cmp o a b) e h = (evE T C a e h).bind fun x h => (evE T C b e h).bind fun y h => R.of ((cmpV h o x y).map .bl) h := by rw [evE]
def chnM (x : Option Bool) (a : R MV) (h : HP) : R MV := match x with
  | some true => a
  | some false => .ok (.bl false) h
  | none => .bad
@[simp] theorem chnM_some (b : Bool) (a : R MV) : chnM (some b) a h = if b = true then a else .ok (.bl false) h := by cases b <;> rfl
@[simp] theorem evE_chn (o p : Cop) (a b c : E) : evE T C (.chn o p a b c) e h = (evE T C a e h).bind fun x h => (evE T C b e h).bind fun y h => chnM (cmpV h o x y) ((evE T C c e h).bind fun z h => R.of ((cmpV h p y z).map .bl) h) h := by
  rw [evE]
  congr 1
def blM (x : MV) (h : HP) : R MV := match x with
  | .bl c => .ok (.bl c) h
  | _ => .bad
@[simp] theorem blM_bl (b : Bool) : blM (.bl b) h = .ok (.bl b) h := id rfl
@[simp] theorem evE_and (a b : E) : evE T C (.and a b) e h = (evE T C a e h).bind fun x h => iteM x ((evE T C b e h).bind blM) (.ok (.bl false) h) .bad := by
  rw [evE]; congr 1
@[simp] theorem evE_or (a b : E) : evE T C (.or a b) e h = (evE T C a e h).bind fun x h => iteM x (.ok (.bl true) h) ((evE T C b e h).bind blM) .bad := by
  rw [evE]; congr 1; funext x h
  cases x <;> try rfl
  case bl c => cases c <;> rfl
@[simp] theorem evE_ife (t a b : E) : evE T C (.ife t a b) e h = (evE T C t e h).bind fun x h => iteM x (evE T C a e h) (evE T C b e h) .bad := by
  rw [evE]; congr 1
@[simp] theorem evE_tup (es : Es) : evE T C (.tup es) e h = (evEs T C es e h).bind fun xs h => if xs.length ≤ sz then .ok (.tup xs) h else .bad := by rw [evE]
@[simp] theorem evE_lst (es : Es) : evE T C (.lst es) e h = (evEs T C es e h).bind fun xs h => if xs.length ≤ sz then .ok (.lst xs) h else .bad := by rw [evE]
@[simp] theorem evE_cel (es : Es) : evE T C (.cel es) e h = (evEs T C es e h).bind fun xs h => if xs.length ≤ sz then .ok (.ref h.length) (h ++ [.lst xs]) else .bad := by rw [evE]
@[simp] theorem evE_idx (a i : E) : evE T C (.idx a i) e h = (evE T C a e h).bind fun x h => (evE T C i e h).bind fun y h => R.of (idxV h x y) h := by rw [evE]
@[simp] theorem evE_slc (a lo hi : E) : evE T C (.slc a lo hi) e h = (evE T C a e h).bind fun x h => (if isN lo then .ok none h else (evE T C lo e h).bind fun v h => R.of (pI v) h).bind fun l h => (if isN hi then .ok none h else (evE T C hi e h).bind fun v h => R.of (pI v) h).bind fun u h => R.of (slcV h x l u) h := by rw [evE]
@[simp] theorem evE_call (f : Nat) (es : Es) : evE T C (.call f es) e h = (evEs T C es e h).bind fun xs h => C f xs h := by rw [evE]
@[simp] theorem evE_bi (b : Bi) (es : Es) : evE T C (.bi b es) e h = (evEs T C es e h).bind fun xs h => R.of (biV h b xs) h := by rw [evE]
@[simp] theorem meK_bit (x : MV) : meK .bitlen x = true := rfl
@[simp] theorem meK_str (m : Me) (s : Str) : meK m (.str s) = true := by cases m <;> rfl
@[simp] theorem evE_me (m : Me) (o : E) (es : Es) : evE T C (.me m o es) e h = (evE T C o e h).bind fun x h => if meK m x = true then (evEs T C es e h).bind fun xs h => R.of (meV h m x xs) h else .bad := by rw [evE]
@[simp] theorem evE_isT (a : E) (n : String) : evE T C (.isT a n) e h = (evE T C a e h).bind fun x h => R.of ((isTV T h x n).map .bl) h := by rw [evE]
@[simp] theorem evE_isC (a : E) (c : Nat) : evE T C (.isC a c) e h = (evE T C a e h).bind fun x h => R.of ((isCV T x c).map .bl) h := by rw [evE]
@[simp] theorem evE_isCs (a : E) (cs : List Nat) : evE T C (.isCs a cs) e h = (evE T C a e h).bind fun x h => R.of ((isCsV T x cs).map .bl) h := by rw [evE]
@[simp] theorem evE_atr (o : E) (f : Str) : evE T C (.atr o f) e h = (evE T C o e h).bind fun x h => R.of (atrV T h x f) h := by rw [evE]
@[simp] theorem evE_mcl (o : E) (m : Str) (es : Es) : evE T C (.mcl o m es) e h = (evE T C o e h).bind fun x h => (R.of (mthV T h x m) h).bind fun f h => (evEs T C es e h).bind fun xs h => C f (x :: xs) h := by rw [evE]
def newM (T : Tab) (C : Nat → List MV → HP → R MV) (c : Nat) (es : Es) (a : R (List MV)) (o : Option Nat) (h : HP) : R MV := match o with
  | none => if (nilE es && (T.n0 c && T.obj c)) = true then .ok (.obj c []) h else .bad
  | some f => if T.obj c = true then a.bind fun xs h => (C f (.ref h.length :: xs) (h ++ [.ins c []])).bind fun v h' => if isNon v = true then .ok (.ref h.length) h' else .bad else .bad
@[simp] theorem newM_none (c : Nat) (es : Es) (a : R (List MV)) : newM T C c es a none h = if (nilE es && (T.n0 c && T.obj c)) = true then .ok (.obj c []) h else .bad := id rfl
@[simp] theorem newM_some (c : Nat) (es : Es) (a : R (List MV)) (f : Nat) : newM T C c es a (some f) h = if T.obj c = true then a.bind fun xs h => (C f (.ref h.length :: xs) (h ++ [.ins c []])).bind fun v h' => if isNon v = true then .ok (.ref h.length) h' else .bad else .bad := id rfl
@[simp] theorem nilE_nil : nilE .nil = true := id rfl
@[simp] theorem evE_new (c : Nat) (es : Es) : evE T C (.new c es) e h = newM T C c es (evEs T C es e h) (T.ini c) h := by
  rw [evE]
  cases T.ini c <;> rfl
def cllM (o : Option (List MV)) (h : HP) : R MV := match o with
  | some xs => .ok (.ref h.length) (h ++ [.lst xs])
  | none => .bad
@[simp] theorem cllM_some (xs : List MV) : cllM (some xs) h = .ok (.ref h.length) (h ++ [.lst xs]) := id rfl
@[simp] theorem evE_cll (a : E) : evE T C (.cll a) e h = (evE T C a e h).bind fun x h => cllM (seqOf h x) h := by
  rw [evE]; congr 1
@[simp] theorem evE_lcg (tg : Tg) (vs : List Nat) (it : I) (a : E) : evE T C (.lcg tg vs it a) e h = (itE T C it e h).bind fun p h => lcG tg p.2 p.1 (evE T C a) (wipE e vs) h.length (h ++ [.lst []]) p.1 [] := by rw [evE]
@[simp] theorem evE_lcm (cl : Bool) (tg : Tg) (vs : List Nat) (it : I) (a : E) : evE T C (.lcm cl tg vs it a) e h = (itE T C it e h).bind fun p h => lcL cl tg p.2 p.1 (evE T C a) (wipE e vs) h p.1 [] := by rw [evE]
@[simp] theorem evE_lcf (tg : Tg) (vs : List Nat) (it : I) (t a : E) : evE T C (.lcf tg vs it t a) e h = (itE T C it e h).bind fun p h => lcF tg p.2 p.1 (evE T C t) (evE T C a) (wipE e vs) h p.1 [] := by rw [evE]
@[simp] theorem evE_mnd (a d : E) : evE T C (.mnd a d) e h = (evE T C a e h).bind fun x h => (evE T C d e h).bind fun y h => R.of (mndV h x y) h := by rw [evE]
@[simp] theorem evE_dnw : evE T C .dnw e h = .ok (.ref h.length) (h ++ [.dic []]) := by rw [evE]
@[simp] theorem evE_dgt (d k : E) : evE T C (.dgt d k) e h = (evE T C d e h).bind fun x h => (evE T C k e h).bind fun y h => R.of (dgtV h x y) h := by rw [evE]
@[simp] theorem evE_din (ng : Bool) (k d : E) : evE T C (.din ng k d) e h = (evE T C k e h).bind fun y h => (evE T C d e h).bind fun x h => R.of (dinV h ng y x) h := by rw [evE]
def dksM (cl : Bool) (o : Option (List MV)) (h : HP) : R MV := match o with
  | some xs => if cl then .ok (.ref h.length) (h ++ [.lst xs]) else .ok (.lst xs) h
  | none => .bad
@[simp] theorem dksM_some (cl : Bool) (xs : List MV) : dksM cl (some xs) h = if cl = true then .ok (.ref h.length) (h ++ [.lst xs]) else .ok (.lst xs) h := id rfl
@[simp] theorem evE_dks (cl : Bool) (d : E) : evE T C (.dks cl d) e h = (evE T C d e h).bind fun x h => dksM cl (dksV h x) h := by
  rw [evE]; congr 1
@[simp] theorem evE_scl (a lo hi : E) : evE T C (.scl a lo hi) e h = (evE T C a e h).bind fun x h => (if isN lo then .ok none h else (evE T C lo e h).bind fun v h => R.of (pI v) h).bind fun l h => (if isN hi then .ok none h else (evE T C hi e h).bind fun v h => R.of (pI v) h).bind fun u h => cllM ((getL h x).map fun xs => cutM xs l u) h := by
  rw [evE]; congr 1
@[simp] theorem evE_lrv (cl : Bool) (a : E) : evE T C (.lrv cl a) e h = (evE T C a e h).bind fun x h => dksM cl ((getL h x).map List.reverse) h := by
  rw [evE]; congr 1
@[simp] theorem evE_dln (d : E) : evE T C (.dln d) e h = (evE T C d e h).bind fun x h => R.of (dlnV h x) h := by rw [evE]
@[simp] theorem evE_dit (d : E) : evE T C (.dit d) e h = (evE T C d e h).bind fun x h => R.of (ditV h x) h := by rw [evE]
@[simp] theorem evE_mclc (o : E) (m : Str) (es : Es) : evE T C (.mclc o m es) e h = (evE T C o e h).bind fun x h => (R.of (mthV T h x m) h).bind fun f h => (evEs T C es e h).bind fun xs h => C (f + 100000) (x :: xs) h := by rw [evE]
def lixM (o : Option (List MV)) (r : R MV) : R MV := match o with
  | some _ => r
  | none => .bad
@[simp] theorem lixM_some (xs : List MV) (r : R MV) : lixM (some xs) r = r := id rfl
@[simp] theorem evE_lix (o y : E) : evE T C (.lix o y) e h = (evE T C o e h).bind fun x h => lixM (getL h x) ((evE T C y e h).bind fun y h => R.of (lixV h x y) h) := by
  rw [evE]; congr 1
@[simp] theorem isStr_str (s : Str) : isStr (.str s) = true := id rfl
@[simp] theorem evE_spc (o y : E) : evE T C (.spc o y) e h = (evE T C o e h).bind fun x h => if isStr x = true then (evE T C y e h).bind fun y h => cllM (spcV x y) h else .bad := by
  rw [evE]; rfl
@[simp] theorem evE_sxi (o y : E) : evE T C (.sxi o y) e h = (evE T C o e h).bind fun x h => if isStr x = true then (evE T C y e h).bind fun y h => R.of (sxiV x y) h else .bad := by rw [evE]
@[simp] theorem evEs_nil : evEs T C .nil e h = .ok [] h := by rw [evEs]
@[simp] theorem evEs_cons (a : E) (es : Es) : evEs T C (.cons a es) e h = (evE T C a e h).bind fun x h => (evEs T C es e h).bind fun xs h => .ok (x :: xs) h := by rw [evEs]
def sgM (o : Option EN) (h : HP) : O := match o with
  | some e => .nx e h
  | none => .bad
@[simp] theorem sgM_some : sgM (some e) h = .nx e h := id rfl
@[simp] theorem exS_asg (t : Tg) (a : E) : exS T C (.asg t a) e h = (evE T C a e h).go e fun v h => sgM (setG t v e) h := by
  rw [exS]; congr 1
def agM (o : Option MV) (i : Nat) (e : EN) (h : HP) : O := match o with
  | some z => .nx (e.set i (some z)) h
  | none => .bad
@[simp] theorem agM_some (z : MV) (i : Nat) : agM (some z) i e h = .nx (e.set i (some z)) h := id rfl
def auM (x : Option (Option MV)) (f : MV → O) : O := match x with
  | some (some x) => f x
  | _ => .bad
@[simp] theorem auM_some (x : MV) (f : MV → O) : auM (some (some x)) f = f x := id rfl
@[simp] theorem exS_aug (i : Nat) (o : Bop) (a : E) : exS T C (.aug i o a) e h = auM e[i]? fun x => (evE T C a e h).go e fun y h => agM (augV o x y) i e h := by
  rw [exS]
  rcases e[i]? with _ | _ | x
  · rfl
  · rfl
  · show (evE T C a e h).go e _ = (evE T C a e h).go e _
    congr 1
@[simp] theorem exS_exp (a : E) : exS T C (.exp a) e h = (evE T C a e h).go e fun _ h => .nx e h := by rw [exS]
def hpM (o : Option HP) (e : EN) : O := match o with
  | some h => .nx e h
  | none => .bad
@[simp] theorem hpM_some : hpM (some h) e = .nx e h := id rfl
@[simp] theorem exS_app (o a : E) : exS T C (.app o a) e h = (evE T C o e h).go e fun x h => if isCell h x = true then (evE T C a e h).go e fun v h => hpM (appV h x v) e else .bad := by
  rw [exS]; congr 1
@[simp] theorem exS_rvs (o : E) : exS T C (.rvs o) e h = (evE T C o e h).go e fun x h => hpM (rvsV h x) e := by
  rw [exS]; rfl
@[simp] theorem exS_ins (o i a : E) : exS T C (.ins o i a) e h = (evE T C o e h).go e fun x h => if isCell h x = true then (evE T C i e h).go e fun n h => (evE T C a e h).go e fun v h => hpM (insV h x n v) e else .bad := by
  rw [exS]; rfl
@[simp] theorem exS_sto (o i a : E) : exS T C (.sto o i a) e h = (evE T C a e h).go e fun v h => (evE T C o e h).go e fun x h => (evE T C i e h).go e fun n h => hpM (stoV h x n v) e := by
  rw [exS]; congr 1
@[simp] theorem exS_sta (o : E) (f : Str) (a : E) : exS T C (.sta o f a) e h = (evE T C a e h).go e fun v h => (evE T C o e h).go e fun x h => hpM (staV T h x f v) e := by
  rw [exS]; congr 1
@[simp] theorem exS_iff (t : E) (a b : Ss) : exS T C (.iff t a b) e h = (evE T C t e h).go e fun x h => iteM x (exSs T C a e h) (exSs T C b e h) .bad := by
  rw [exS]; congr 1
@[simp] theorem exS_whl (t : E) (b : Ss) : exS T C (.whl t b) e h = whlL (evE T C t) (exSs T C b) fuel e h := by rw [exS]
@[simp] theorem exS_fr (tg : Tg) (it : I) (b : Ss) : exS T C (.fr tg it b) e h = (itE T C it e h).go e fun p h => forL tg p.2 p.1 (exSs T C b) p.1 e h := by rw [exS]
@[simp] theorem exS_ret (a : E) : exS T C (.ret a) e h = (evE T C a e h).go e fun v h => .ret v h := by rw [exS]
@[simp] theorem exS_retN : exS T C .retN e h = .ret .non h := by rw [exS]
@[simp] theorem exS_rais (c : Nat) : exS T C (.rais c) e h = if T.rz c = true then .exc (c, []) e h else .bad := by rw [exS]
@[simp] theorem exS_dpt (o i a : E) : exS T C (.dpt o i a) e h = (evE T C a e h).go e fun v h => (evE T C o e h).go e fun x h => (evE T C i e h).go e fun n h => hpM (dptV h x n v) e := by
  rw [exS]; congr 1
@[simp] theorem exS_clr (o : E) : exS T C (.clr o) e h = (evE T C o e h).go e fun x h => hpM (clrV h x) e := by
  rw [exS]; rfl
def trxM (o : O) : O := match o with
  | .exc _ _ _ => .bad
  | o => o
@[simp] theorem trxM_nx : trxM (.nx e h) = .nx e h := id rfl
@[simp] theorem trxM_ret (v : MV) : trxM (.ret v h) = .ret v h := id rfl
@[simp] theorem exS_trx (b : Ss) : exS T C (.trx b) e h = trxM (exSs T C b e h) := by
  rw [exS]; rfl
@[simp] theorem exS_pas : exS T C .pas e h = .nx e h := by rw [exS]
@[simp] theorem exS_cont : exS T C .cont e h = .ct e h := by rw [exS]
def triM (T : Tab) (c i y : Nat) (o : O) : O := match o with
  | .exc (d, []) e h => if T.exc d && T.exc c then (if T.sub d c then .nx (((e.set i (some (.exc d []))).set y (some (.exc d []))).set i none) h else .exc (d, []) e h) else .bad
  | .exc _ _ _ => .bad
  | o => o
@[simp] theorem triM_nx (c i y : Nat) : triM T c i y (.nx e h) = .nx e h := id rfl
@[simp] theorem triM_ret (c i y : Nat) (v : MV) : triM T c i y (.ret v h) = .ret v h := id rfl
@[simp] theorem triM_exc (c i y d : Nat) : triM T c i y (.exc (d, []) e h) = if (T.exc d && T.exc c) = true then (if T.sub d c = true then .nx (((e.set i (some (.exc d []))).set y (some (.exc d []))).set i none) h else .exc (d, []) e h) else .bad := id rfl
theorem triM_ite (c i y : Nat) (q : Prop) [Decidable q] (a b : O) : triM T c i y (if q then a else b) = if q then triM T c i y a else triM T c i y b := by split <;> rfl
@[simp] theorem exS_tri (b : Ss) (c i y : Nat) : exS T C (.tri b c i y) e h = triM T c i y (exSs T C b e h) := by
  rw [exS]
  rfl
@[simp] theorem exSs_nil : exSs T C .nil e h = .nx e h := by rw [exSs]
@[simp] theorem exSs_cons (s : S) (ss : Ss) : exSs T C (.cons s ss) e h = (exS T C s e h).then fun e h => exSs T C ss e h := by rw [exSs]
def seM (o : Option (List MV)) (f : HP → Option (List MV)) (h : HP) : R (List MV × (HP → Option (List MV))) := match o with
  | some xs => .ok (xs, f) h
  | none => .bad
@[simp] theorem seM_some (xs : List MV) (f : HP → Option (List MV)) : seM (some xs) f h = .ok (xs, f) h := id rfl
def seX (x : MV) (o : Option (List MV)) (f : HP → Option (List MV)) (h : HP) : R (List MV × (HP → Option (List MV))) := match o with
  | some xs => .ok (xs, f) h
  | none => match x with
    | .str z => .ok (signs z, fun _ => some (signs z)) h
    | _ => .bad
@[simp] theorem seX_some (x : MV) (xs : List MV) (f : HP → Option (List MV)) : seX x (some xs) f h = .ok (xs, f) h := id rfl
@[simp] theorem seX_sign (z : Str) (f : HP → Option (List MV)) : seX (.str z) none f h = .ok (signs z, fun _ => some (signs z)) h := id rfl
@[simp] theorem itE_seq (a : E) : itE T C (.seq a) e h = (evE T C a e h).bind fun x h => seX x (seqOf h x) (fun h => seqOf h x) h := by
  unfold itE; congr 1
end
section
variable (T : Tab) (C : Nat → List MV → HP → R MV) (e : EN) (h : HP)
def rng1M (x : MV) (h : HP) : R (List MV × (HP → Option (List MV))) := match x with
  | .int j => if -(2 ^ 62) ≤ j ∧ j < 2 ^ 62 then .ok ((List.range j.toNat).map fun (i : Nat) => .int (0 + (i : Int)), fun _ => some ((List.range j.toNat).map fun (i : Nat) => .int (0 + (i : Int)))) h else .bad
  | _ => .bad
def rng2M (x y : MV) (h : HP) : R (List MV × (HP → Option (List MV))) := match x, y with
  | .int i, .int j => if (-(2 ^ 62) ≤ i ∧ i < 2 ^ 62) ∧ -(2 ^ 62) ≤ j ∧ j < 2 ^ 62 then .ok ((List.range (j - i).toNat).map fun (k : Nat) => .int (i + (k : Int)), fun _ => some ((List.range (j - i).toNat).map fun (k : Nat) => .int (i + (k : Int)))) h else .bad
  | _, _ => .bad
def rng3M (x y z : MV) (h : HP) : R IR := match x, y, z with
  | .int i, .int j, .int k => if rg3B i j k then .ok (rg3 i j k, fun _ => some (rg3 i j k)) h else .bad
  | _, _, _ => .bad
@[simp] theorem rng3M_int (i j k : Int) : rng3M (.int i) (.int j) (.int k) h = if rg3B i j k = true then .ok (rg3 i j k, fun _ => some (rg3 i j k)) h else .bad := id rfl
@[simp] theorem itE_rng3 (a b c : E) : itE T C (.rng3 a b c) e h = (evE T C a e h).bind fun x h => (evE T C b e h).bind fun y h => (evE T C c e h).bind fun z h => rng3M x y z h := by rw [itE]; rfl
@[simp] theorem itE_zip (a b : E) : itE T C (.zip a b) e h = (evE T C a e h).bind fun x h => (evE T C b e h).bind fun y h => seM (zipS x y h) (zipS x y) h := by rw [itE]; rfl
@[simp] theorem itE_enm (a : E) : itE T C (.enm a) e h = (evE T C a e h).bind fun x h => seM (enmS x h) (enmS x) h := by rw [itE]; rfl
@[simp] theorem itE_rng1 (a : E) : itE T C (.rng1 a) e h = (evE T C a e h).bind rng1M := by unfold itE; congr 1
@[simp] theorem itE_rng2 (a b : E) : itE T C (.rng2 a b) e h = (evE T C a e h).bind fun x h => (evE T C b e h).bind fun y h => rng2M x y h := by unfold itE; congr 1
theorem rng1M_ok {j : Int} (h0 : 0 ≤ j) (h1 : j < 1000000) (h : HP) : rng1M (.int j) h = .ok ((List.range j.toNat).map fun (i : Nat) => .int (0 + (i : Int)), fun _ => some ((List.range j.toNat).map fun (i : Nat) => .int (0 + (i : Int)))) h := if_pos ⟨by omega, by omega⟩
theorem rng2M_ok {i j : Int} (h0 : 0 ≤ i) (h1 : i < 1000000) (h2 : 0 ≤ j) (h3 : j < 1000000) (h : HP) : rng2M (.int i) (.int j) h = .ok ((List.range (j - i).toNat).map fun (k : Nat) => .int (i + (k : Int)), fun _ => some ((List.range (j - i).toNat).map fun (k : Nat) => .int (i + (k : Int)))) h := if_pos ⟨⟨by omega, by omega⟩, by omega, by omega⟩
end
/-! ### single rows -/
@[simp] theorem setG_one (i : Nat) (v : MV) (e : EN) : setG (.one i) v e = some (e.set i (some v)) := id rfl
@[simp] theorem setG_tup (is : List Nat) (vs : List MV) (e : EN) : setG (.tup is) (.tup vs) e = setT is vs e := id rfl
@[simp] theorem setG_lst (is : List Nat) (vs : List MV) (e : EN) : setG (.tup is) (.lst vs) e = setT is vs e := id rfl
@[simp] theorem setT_nil (e : EN) : setT [] [] e = some e := id rfl
@[simp] theorem setT_cons (i : Nat) (is : List Nat) (v : MV) (vs : List MV) (e : EN) : setT (i :: is) (v :: vs) e = setT is vs (e.set i (some v)) := id rfl
@[simp] theorem wipE_nil (e : EN) : wipE e [] = e := id rfl
@[simp] theorem wipE_cons (e : EN) (v : Nat) (vs : List Nat) : wipE e (v :: vs) = (wipE e vs).set v none := id rfl
@[simp] theorem getL_lst (h : HP) (xs : List MV) : getL h (.lst xs) = some xs := id rfl
@[simp] theorem zipS_lst (h : HP) (xs ys : List MV) : zipS (.lst xs) (.lst ys) h = some (zipM xs ys) := id rfl
@[simp] theorem enmS_lst (h : HP) (xs : List MV) : enmS (.lst xs) h = some (enmM 0 xs) := id rfl
@[simp] theorem intsOf_map (is : List Int) : intsOf (is.map .int) = some is := by
  induction is with
  | nil => rfl
  | cons i is ih => simp [intsOf, ih]
@[simp] theorem blsOf_map (is : List Bool) : blsOf (is.map .bl) = some is := by
  induction is with
  | nil => rfl
  | cons i is ih => simp [blsOf, ih]
@[simp] theorem mndV_lst (h : HP) (is : List Int) (d : MV) : mndV h (.lst (is.map .int)) d = some (mnV d is) := by
  show (intsOf _).map _ = _
  rw [intsOf_map]; rfl
@[simp] theorem biV_max1 (h : HP) (x : MV) : biV h .max1 [x] = (getL h x).bind fun ys => (intsOf ys).bind mxV := id rfl
@[simp] theorem biV_sum1 (h : HP) (x : MV) : biV h .sum1 [x] = (getL h x).bind fun ys => (intsOf ys).map fun is => .int is.sum := id rfl
@[simp] theorem biV_all1 (h : HP) (x : MV) : biV h .all1 [x] = (getL h x).bind fun ys => (blsOf ys).map fun bs => .bl (bs.all id) := id rfl
@[simp] theorem low_int (b : Nat) (i : Int) : low b (.int i) = true := by simp only [low]
@[simp] theorem low_bl (b : Nat) (i : Bool) : low b (.bl i) = true := by simp only [low]
@[simp] theorem low_str (b : Nat) (i : Str) : low b (.str i) = true := by simp only [low]
@[simp] theorem low_tup (b : Nat) (xs : List MV) : low b (.tup xs) = lows b xs := by simp only [low]
@[simp] theorem low_lst (b : Nat) (xs : List MV) : low b (.lst xs) = lows b xs := by simp only [low]
@[simp] theorem lows_nil (b : Nat) : lows b [] = true := by simp only [lows]
@[simp] theorem lows_cons (b : Nat) (x : MV) (xs : List MV) : lows b (x :: xs) = (low b x && lows b xs) := by simp only [lows]
/-- a comprehension whose element is told for each item -/
theorem lcL_mapC {α : Type} (cl : Bool) (xs : List α) (inj : α → MV) {tg : Tg} {src : HP → Option (List MV)} {f : EN → HP → R MV} {e : EN} {h : HP} (g : α → MV) (hs : ∀ acc, src (h ++ [.lst acc]) = some (xs.map inj)) (hl : xs.length ≤ 16777216)
    (hf : ∀ x ∈ xs, ∃ e', setG tg (inj x) e = some e' ∧ (∀ H, f e' H = .ok (g x) H) ∧ low h.length (g x) = true) : lcL cl tg src (xs.map inj) f e h (xs.map inj) [] = if cl then .ok (.ref h.length) (h ++ [.lst (xs.map g)]) else .ok (.lst (xs.map g)) h := by
  have key : ∀ (ys zs : List α), zs ++ ys = xs → lcL cl tg src (xs.map inj) f e h (ys.map inj) (zs.map g) = if cl then .ok (.ref h.length) (h ++ [.lst (xs.map g)]) else .ok (.lst (xs.map g)) h := by
    intro ys
    induction ys with
    | nil =>
      intro zs hz
      rw [List.append_nil] at hz
      subst hz
      simp only [List.map_nil]
      unfold lcL
      rw [if_pos (hs _)]
    | cons y ys ih =>
      intro zs hz
      obtain ⟨e', h1, h2, h3⟩ := hf y (by rw [← hz]; simp)
      have hlen : zs.length < 16777216 := by
        have : xs.length = zs.length + (ys.length + 1) := by rw [← hz]; simp
        omega
      have ih := ih (zs ++ [y]) (by rw [← hz]; simp)
      simp only [List.map_cons]
      unfold lcL
      rw [if_pos (hs _), h1]
      simp only [h2]
      rw [if_pos ⟨by first | trivial | rfl, h3, by rw [List.length_map]; exact hlen⟩]
      rw [← ih]
      simp
  simpa using key xs [] (by simp)
/-- a comprehension whose element is refused at an item -/
theorem lcL_excC {α : Type} (cl : Bool) (xs ys : List α) (z : α) (zs : List α) (hx : xs = ys ++ z :: zs) (inj : α → MV) {tg : Tg} {src : HP → Option (List MV)} {f : EN → HP → R MV} {e : EN} {h : HP} (g : α → MV) (x : MX) (hs : ∀ acc, src (h ++ [.lst acc]) = some (xs.map inj)) (hl : xs.length ≤ 16777216)
    (hf : ∀ x ∈ ys, ∃ e', setG tg (inj x) e = some e' ∧ (∀ H, f e' H = .ok (g x) H) ∧ low h.length (g x) = true) (hz : ∃ e', setG tg (inj z) e = some e' ∧ ∀ H, f e' H = .exc x H) : lcL cl tg src (xs.map inj) f e h (xs.map inj) [] = .exc x h := by
  obtain ⟨ez, z1, z2⟩ := hz
  have key : ∀ (us vs : List α), vs ++ us = ys → lcL cl tg src (xs.map inj) f e h ((us ++ z :: zs).map inj) (vs.map g) = .exc x h := by
    intro us
    induction us with
    | nil =>
      intro vs hv
      simp only [List.nil_append, List.map_cons]
      unfold lcL
      rw [if_pos (hs _), z1]
      simp only [z2]
      rw [if_pos (by first | trivial | rfl)]
    | cons y us ih =>
      intro vs hv
      obtain ⟨e', h1, h2, h3⟩ := hf y (by rw [← hv]; simp)
      have hlen : vs.length < 16777216 := by
        have : xs.length = vs.length + (us.length + 1) + (zs.length + 1) := by rw [hx, ← hv]; simp; omega
        omega
      have ih := ih (vs ++ [y]) (by rw [← hv]; simp)
      simp only [List.cons_append, List.map_cons]
      unfold lcL
      rw [if_pos (hs _), h1]
      simp only [h2]
      rw [if_pos ⟨by first | trivial | rfl, h3, by rw [List.length_map]; exact hlen⟩]
      rw [← ih]
      simp
  have := key ys [] (by simp)
  rw [← hx] at this
  simpa using this
theorem lcL_map {α : Type} (xs : List α) (inj : α → MV) {tg : Tg} {src : HP → Option (List MV)} {f : EN → HP → R MV} {e : EN} {h : HP} (g : α → MV) (hs : ∀ acc, src (h ++ [.lst acc]) = some (xs.map inj)) (hl : xs.length ≤ 16777216)
    (hf : ∀ x ∈ xs, ∃ e', setG tg (inj x) e = some e' ∧ (∀ H, f e' H = .ok (g x) H) ∧ low h.length (g x) = true) : lcL false tg src (xs.map inj) f e h (xs.map inj) [] = .ok (.lst (xs.map g)) h := by
  rw [lcL_mapC false xs inj g hs hl hf]; rfl
section
variable (h : HP) (a b : Int)
@[simp] theorem binV_add : binV h .add (.int a) (.int b) = some (.int (a + b)) := id rfl
@[simp] theorem binV_addS (x y : Str) : binV h .add (.str x) (.str y) = if x.length + y.length ≤ sz then some (.str (x ++ y)) else none := id rfl
@[simp] theorem binV_addT (xs ys : List MV) : binV h .add (.tup xs) (.tup ys) = if xs.isEmpty = false ∧ ys.isEmpty = false ∧ xs.length + ys.length ≤ sz then some (.tup (xs ++ ys)) else none := id rfl
@[simp] theorem binV_addL (xs ys : List MV) : binV h .add (.lst xs) (.lst ys) = if xs.length + ys.length ≤ sz then some (.lst (xs ++ ys)) else none := id rfl
@[simp] theorem binV_sub : binV h .sub (.int a) (.int b) = some (.int (a - b)) := id rfl
@[simp] theorem binV_mul : binV h .mul (.int a) (.int b) = if mulB a b = true then some (.int (a * b)) else none := id rfl
theorem binV_mulL (xs : List MV) (k : Int) : binV h .mul (.lst xs) (.int k) = if 0 ≤ k ∧ k < 1000000 ∧ xs.length * k.toNat ≤ sz then some (.lst (List.replicate k.toNat xs).flatten) else none := id rfl
theorem binV_mulR (xs : List MV) (i : Nat) (k : Int) (e : getL h (.ref i) = some xs) (h0 : 0 ≤ k) (h1 : k < 1000000) (hz : xs.length * k.toNat ≤ 16777216) : binV h .mul (.ref i) (.int k) = some (.lst (List.replicate k.toNat xs).flatten) := by
  show (getL h (.ref i)).bind _ = _
  rw [e, Option.bind_some, if_pos ⟨h0, h1, hz⟩]
@[simp] theorem binV_fdv : binV h .fdv (.int a) (.int b) = if (dvB a b || decide (0 < b)) = true then some (.int (a / b)) else none := id rfl
@[simp] theorem binV_mod : binV h .mod (.int a) (.int b) = if 0 < b then some (.int (a % b)) else none := id rfl
@[simp] theorem binV_pow : binV h .pow (.int a) (.int b) = if powB a b = true then some (.int (a ^ b.toNat)) else none := id rfl
@[simp] theorem binV_shl : binV h .shl (.int a) (.int b) = if shlB a b = true then some (.int (a * 2 ^ b.toNat)) else none := id rfl
@[simp] theorem binV_shr : binV h .shr (.int a) (.int b) = if 0 ≤ b then some (.int (a / 2 ^ b.toNat)) else none := id rfl
@[simp] theorem binV_and : binV h .and (.int a) (.int b) = some (.int (Builtin.bitAnd a b)) := id rfl
@[simp] theorem binV_or : binV h .or (.int a) (.int b) = some (.int (Builtin.bitOr a b)) := id rfl
@[simp] theorem binV_xor : binV h .xor (.int a) (.int b) = some (.int (Builtin.bitXor a b)) := id rfl
@[simp] theorem augV_addS (x y : Str) : augV .add (.str x) (.str y) = if x.length + y.length ≤ sz then some (.str (x ++ y)) else none := id rfl
@[simp] theorem augV_add : augV .add (.int a) (.int b) = some (.int (a + b)) := id rfl
@[simp] theorem augV_sub : augV .sub (.int a) (.int b) = some (.int (a - b)) := id rfl
@[simp] theorem augV_mul : augV .mul (.int a) (.int b) = if mulB a b = true then some (.int (a * b)) else none := id rfl
@[simp] theorem augV_shr : augV .shr (.int a) (.int b) = if 0 ≤ b then some (.int (a / 2 ^ b.toNat)) else none := id rfl
@[simp] theorem augV_or : augV .or (.int a) (.int b) = some (.int (Builtin.bitOr a b)) := id rfl
@[simp] theorem cmpV_lt : cmpV h .lt (.int a) (.int b) = some (decide (a < b)) := id rfl
@[simp] theorem cmpV_le : cmpV h .le (.int a) (.int b) = some (decide (a ≤ b)) := id rfl
@[simp] theorem cmpV_gt : cmpV h .gt (.int a) (.int b) = some (decide (b < a)) := id rfl
@[simp] theorem cmpV_ge : cmpV h .ge (.int a) (.int b) = some (decide (b ≤ a)) := id rfl
@[simp] theorem cmpV_eq (x y : MV) : cmpV h .eq x y = eqM h x y := id rfl
@[simp] theorem cmpV_ne (x y : MV) : cmpV h .ne x y = (eqM h x y).map (!·) := id rfl
@[simp] theorem cmpV_isN (x : MV) : cmpV h .is x .non = some (isNon x) := id rfl
@[simp] theorem cmpV_isnN (x : MV) : cmpV h .isn x .non = some (!isNon x) := id rfl
@[simp] theorem isNon_non : isNon .non = true := id rfl
@[simp] theorem isNon_exc (c : Nat) (fs : List MV) : isNon (.exc c fs) = false := id rfl
@[simp] theorem isNon_int : isNon (.int a) = false := id rfl
@[simp] theorem isNon_tup (xs : List MV) : isNon (.tup xs) = false := id rfl
@[simp] theorem cmpV_in (x y : MV) : cmpV h .inn x y = inV h x y := id rfl
@[simp] theorem cmpV_nin (x y : MV) : cmpV h .nin x y = (inV h x y).map (!·) := id rfl
@[simp] theorem eqM_ii : eqM h (.int a) (.int b) = some (decide (a = b)) := by
  have : (a == b) = decide (a = b) := rfl
  simp [eqM, flatD, lstD, toD, SeqAt.shaped, PyData.eqv, PyData.canLay0, PyData.depth, this]
@[simp] theorem eqM_bb (x y : Bool) : eqM h (.bl x) (.bl y) = some (x == y) := by
  simp [eqM, flatD, lstD, toD, SeqAt.shaped, PyData.eqv, PyData.canLay0, PyData.depth]
theorem eqM_ss {x y : Str} (hx : PyData.strOk x = true) (hy : PyData.strOk y = true) : eqM h (.str x) (.str y) = some (decide (x = y)) := by
  have : (x == y) = decide (x = y) := by by_cases h : x = y <;> simp [h]
  simp [eqM, flatD, lstD, toD, SeqAt.shaped, PyData.eqv, PyData.canLay0, PyData.depth, hx, hy, this]
@[simp] theorem idxV_tup (xs : List MV) (i : Int) : idxV h (.tup xs) (.int i) = atI xs i := id rfl
@[simp] theorem idxV_lst (xs : List MV) (i : Int) : idxV h (.lst xs) (.int i) = atI xs i := id rfl
@[simp] theorem pI_int (i : Int) : pI (.int i) = some (some i) := id rfl
@[simp] theorem slcV_lst (xs : List MV) (l u : Option Int) : slcV h (.lst xs) l u = some (.lst (cutM xs l u)) := id rfl
@[simp] theorem seqOf_tup (xs : List MV) : seqOf h (.tup xs) = some xs := id rfl
theorem inV_seq {h : HP} {x v : MV} {ys : List MV} (hv : seqOf h v = some ys) : inV h x v = if (flatM x && ys.all flatM) = true then some (inF x ys) else none := by
  unfold inV
  split
  · cases hv
  · rw [hv]; rfl
@[simp] theorem inV_str {h : HP} {x : MV} {z : Str} : inV h x (.str z) = inS x z := rfl
@[simp] theorem seqOf_str (z : Str) : seqOf h (.str z) = none := id rfl
@[simp] theorem seqOf_lst (xs : List MV) : seqOf h (.lst xs) = some xs := id rfl
@[simp] theorem biV_len (x : MV) : biV h .len [x] = ((seqOf h x).map fun ys => .int ys.length).or (lenS x) := id rfl
@[simp] theorem lenS_str (z : Str) : lenS (.str z) = if z.length ≤ sz then some (.int z.length) else none := id rfl
@[simp] theorem biV_dvm : biV h .dvm [.int a, .int b] = if dvB a b = true then some (.tup [.int (a / b), .int (a % b)]) else none := id rfl
@[simp] theorem biV_abs : biV h .abs [.int a] = some (.int (if a < 0 then -a else a)) := id rfl
@[simp] theorem biV_max2 : biV h .max2 [.int a, .int b] = some (.int (if b > a then b else a)) := id rfl
@[simp] theorem biV_min2 : biV h .min2 [.int a, .int b] = some (.int (if b < a then b else a)) := id rfl
@[simp] theorem biV_int1i : biV h .int1 [.int a] = some (.int a) := id rfl
@[simp] theorem biV_int1b (b : Bool) : biV h .int1 [.bl b] = some (.int (if b = true then 1 else 0)) := id rfl
@[simp] theorem meV_bitlen : meV h .bitlen (.int a) [] = some (.int (intBits a : Nat)) := id rfl
end
/-! ### dicts -/
@[simp] theorem keyM_int (i : Int) : keyM (.int i) = some (.inl i) := id rfl
@[simp] theorem keyM_str (s : Str) : keyM (.str s) = some (.inr s) := id rfl
@[simp] theorem kM_inl (i : Int) : kM (.inl i) = .int i := id rfl
@[simp] theorem kM_inr (s : Str) : kM (.inr s) = .str s := id rfl
theorem dgtV_at {h : HP} {i : Nat} {kvs : List (L2.Key × MV)} (e : h[i]? = some (.dic kvs)) (k : MV) : dgtV h (.ref i) k = (keyM k).bind fun k => valM kvs k := by simp [dgtV, dicAt, e]
theorem dinV_at {h : HP} {i : Nat} {kvs : List (L2.Key × MV)} (e : h[i]? = some (.dic kvs)) (ng : Bool) (k : MV) : dinV h ng k (.ref i) = (keyM k).map fun k => .bl (xor ng (valM kvs k).isSome) := by simp [dinV, dicAt, e]
theorem dksV_at {h : HP} {i : Nat} {kvs : List (L2.Key × MV)} (e : h[i]? = some (.dic kvs)) : dksV h (.ref i) = some (kvs.map fun kv => kM kv.1) := by simp [dksV, dicAt, e]
theorem ditV_at {h : HP} {i : Nat} {kvs : List (L2.Key × MV)} (e : h[i]? = some (.dic kvs)) : ditV h (.ref i) = some (.lst (kvs.map fun kv => .tup [kM kv.1, kv.2])) := by simp [ditV, dicAt, e]
theorem dptV_at {h : HP} {i : Nat} {kvs : List (L2.Key × MV)} (e : h[i]? = some (.dic kvs)) (hl : kvs.length < 16777216) (k v : MV) : dptV h (.ref i) k v = (keyM k).map fun k => h.set i (.dic (putM kvs k v)) := by simp only [dptV, e]; exact if_pos hl
@[simp] theorem isTV_int (T : Tab) (h : HP) (a : Int) : isTV T h (.int a) "int" = some true := id rfl
@[simp] theorem isTV_intb (T : Tab) (h : HP) (a : Int) : isTV T h (.int a) "bool" = some false := id rfl
@[simp] theorem isTV_intt (T : Tab) (h : HP) (a : Int) : isTV T h (.int a) "tuple" = some false := id rfl
@[simp] theorem isTV_tup (T : Tab) (h : HP) (a : List MV) : isTV T h (.tup a) "tuple" = some true := id rfl
@[simp] theorem isTV_lst (T : Tab) (h : HP) (a : List MV) : isTV T h (.lst a) "list" = some true := id rfl
@[simp] theorem isTV_lstb (T : Tab) (h : HP) (a : List MV) : isTV T h (.lst a) "tuple" = some false := id rfl
@[simp] theorem isTV_str (T : Tab) (h : HP) (a : Str) : isTV T h (.str a) "str" = some true := id rfl
@[simp] theorem isTV_ve (T : Tab) (h : HP) (c : Nat) (fs : List MV) : isTV T h (.exc c fs) "ValueError" = if T.exc c = true then some (T.ve c) else none := by simp [isTV]
@[simp] theorem isCV_exc (T : Tab) (c : Nat) (fs : List MV) (d : Nat) : isCV T (.exc c fs) d = if (T.exc c && T.exc d) = true then some (T.sub c d) else none := id rfl
@[simp] theorem isCsV_nil (T : Tab) (x : MV) : isCsV T x [] = some false := by cases x <;> rfl
@[simp] theorem isCsV_exc (T : Tab) (c : Nat) (fs : List MV) (d : Nat) (ds : List Nat) : isCsV T (.exc c fs) (d :: ds) = if (T.exc c && T.exc d) = true then (isCsV T (.exc c fs) ds).map fun b => T.sub c d || b else none := id rfl
@[simp] theorem isCsV_non (T : Tab) (d : Nat) (ds : List Nat) : isCsV T .non (d :: ds) = if T.exc d = true then isCsV T .non ds else none := id rfl
@[simp] theorem biV_list1 (h : HP) (x : MV) : biV h .list1 [x] = (seqOf h x).map .lst := id rfl
@[simp] theorem clsM_obj (h : HP) (c : Nat) (xs : List MV) : clsM h (.obj c xs) = some (c, xs) := id rfl
@[simp] theorem frz_obj (h : HP) (b c : Nat) (xs : List MV) : frz h b (.obj c xs) = (frzs h b xs).map (.obj c) := by simp [frz]
@[simp] theorem isNon_obj (c : Nat) (fs : List MV) : isNon (.obj c fs) = false := id rfl
@[simp] theorem isCV_obj (T : Tab) (c : Nat) (fs : List MV) (d : Nat) : isCV T (.obj c fs) d = if (T.obj c && T.obj d) = true then some (T.sub c d) else none := id rfl
@[simp] theorem isCV_non (T : Tab) (d : Nat) : isCV T .non d = if T.exc d = true then some false else none := id rfl
@[simp] theorem frz_int (h : HP) (b : Nat) (i : Int) : frz h b (.int i) = some (.int i) := by simp [frz]
@[simp] theorem frz_bl (h : HP) (b : Nat) (i : Bool) : frz h b (.bl i) = some (.bl i) := by simp [frz]
@[simp] theorem frz_str (h : HP) (b : Nat) (i : Str) : frz h b (.str i) = some (.str i) := by simp [frz]
@[simp] theorem frz_non (h : HP) (b : Nat) : frz h b .non = some .non := by simp [frz]
@[simp] theorem frz_tup (h : HP) (b : Nat) (xs : List MV) : frz h b (.tup xs) = (frzs h b xs).map .tup := by simp [frz]
@[simp] theorem frz_lst (h : HP) (b : Nat) (xs : List MV) : frz h b (.lst xs) = (frzs h b xs).map .lst := by simp [frz]
@[simp] theorem frz_exc (h : HP) (b c : Nat) (xs : List MV) : frz h b (.exc c xs) = (frzs h b xs).map (.exc c) := by simp [frz]
@[simp] theorem frzs_nil (h : HP) (b : Nat) : frzs h b [] = some [] := by simp [frzs]
@[simp] theorem frzs_cons (h : HP) (b : Nat) (x : MV) (xs : List MV) : frzs h b (x :: xs) = (frz h b x).bind fun y => (frzs h b xs).map fun ys => y :: ys := by simp [frzs]
theorem frzs_all (h : HP) (b : Nat) (xs : List MV) (hx : ∀ x ∈ xs, frz h b x = some x) : frzs h b xs = some xs := by
  induction xs with
  | nil => simp
  | cons x xs ih => simp [hx x (List.mem_cons_self ..), ih fun y hy => hx y (List.mem_cons_of_mem _ hy)]
@[simp] theorem frzs_ints (h : HP) (b : Nat) (ns : List Int) : frzs h b (ns.map .int) = some (ns.map .int) := frzs_all h b _ (by intro x hx; obtain ⟨n, _, rfl⟩ := List.mem_map.mp hx; simp)
@[simp] theorem leave_ret' (h : HP) (v : MV) : leave false h (.ret v h) = R.of (frz h h.length v) h := by
  simp only [leave, fin, Bool.false_eq_true, if_false, List.take_length, if_true]
  cases frz h h.length v <;> rfl
@[simp] theorem leave_nx' (h : HP) (e : EN) : leave false h (.nx e h) = .ok .non h := leave_nx
@[simp] theorem leave_exc' (h : HP) (x : MX) (e : EN) (keep : Bool) : leave keep h (.exc x e h) = .exc x h := leave_exc
/-- a call that wrote cells of its caller's -/
theorem leave_cut {h h' g : HP} {v w : MV} (hl : h'.length = h.length) (hw : lowH h.length h' = true) (hf : frz (h' ++ g) h.length v = some w) : leave false h (.ret v (h' ++ g)) = .ok w h' := by
  have e : (h' ++ g).take h.length = h' := by rw [← hl, List.take_left]
  simp only [leave, fin, Bool.false_eq_true, if_false, e, hf]
  split
  · rename_i z; rw [e] at z; rw [z]
  · first | rfl | rw [if_pos hw]
theorem leave_cutN {h h' g : HP} {e : EN} (hl : h'.length = h.length) (hw : lowH h.length h' = true) : leave false h (.nx e (h' ++ g)) = .ok .non h' := by
  have e : (h' ++ g).take h.length = h' := by rw [← hl, List.take_left]
  simp only [leave, fin, Bool.false_eq_true, if_false, e, frz]
  split
  · rename_i z; rw [e] at z; rw [z]
  · first | rfl | rw [if_pos hw]
@[simp] theorem start_mk (np nl : Nat) (b : Ss) (k : Bool) (vs : List MV) : start ⟨np, nl, b, k⟩ vs = vs.map some ++ List.replicate (nl - np) none := id rfl

/-! ### loops -/
theorem forL_inv {tg : Tg} {src : HP → Option (List MV)} {all : List MV} {f : EN → HP → O} {h : HP} (hs : src h = some all) (Inv : EN → Prop) : ∀ xs : List MV,
    (∀ x ∈ xs, ∀ e, Inv e → ∃ e1 e2, setG tg x e = some e1 ∧ f e1 h = .nx e2 h ∧ Inv e2) → ∀ e, Inv e → ∃ e', forL tg src all f xs e h = .nx e' h ∧ Inv e'
  | [], _, e, he => ⟨e, by rw [forL]; simp [hs], he⟩
  | x :: xs, hf, e, he => by
    obtain ⟨e1, e2, h1, h2, h3⟩ := hf x (List.mem_cons_self ..) e he
    obtain ⟨e', h4, h5⟩ := forL_inv hs Inv xs (fun y hy => hf y (List.mem_cons_of_mem _ hy)) e2 h3
    refine ⟨e', ?_, h5⟩
    rw [forL]
    simp [hs, h1, h2, h4]
theorem whlL_succ (t : EN → HP → R MV) (f : EN → HP → O) (n : Nat) (e : EN) (h : HP) : whlL t f (n + 1) e h = (t e h).go e fun x h => iteM x (match f e h with
      | .nx e h => whlL t f n e h
      | .ct e h => whlL t f n e h
      | o => o) (.nx e h) .bad := by
  rw [whlL]; congr 1
theorem pos_fuel {N k : Nat} (h : k < N) : ∃ M, N = M + 1 := ⟨N - 1, by omega⟩
theorem lt_fuel {k : Nat} (h : k < 1000000) : k < fuel := by unfold fuel; omega
theorem mem_cutM {xs : List MV} {l u : Option Int} {x : MV} (hx : x ∈ cutM xs l u) : x ∈ xs := List.mem_of_mem_drop (List.mem_of_mem_take hx)
theorem cutM_len (xs : List MV) (l u : Option Int) : (cutM xs l u).length ≤ xs.length := by
  unfold cutM
  simp only [List.length_take, List.length_drop]
  omega

/-! ### bit sizes -/
theorem mulB_of {a b : Int} {m n : Nat} (ha : intBits a ≤ m) (hb : intBits b ≤ n) (h : m + n ≤ 134217728) : mulB a b = true := by
  unfold mulB
  rw [Bool.or_eq_true]
  right
  rw [decide_eq_true_eq]
  omega
theorem mulB_left {a b : Int} (ha : intBits a ≤ 64) : mulB a b = true := by simp [mulB, ha]
theorem mulB_right {a b : Int} (hb : intBits b ≤ 64) : mulB a b = true := by simp [mulB, hb]
theorem dvB_small {a b : Int} (h : 0 < b) (h' : b < 1073741824) : dvB a b = true := by simp [dvB, h, h']
theorem shlB_of {a b : Int} {m : Nat} (ha : intBits a ≤ m) (h : 0 ≤ b) (h' : (m : Int) + b ≤ 134217728) : shlB a b = true := by
  simp only [shlB, h, decide_true, Bool.true_and, decide_eq_true_eq]; omega
theorem two_cases (a : Int) : a % 2 = 0 ∨ a % 2 = 1 := by omega
theorem ib_abs {x : Int} {n : Nat} (h : x.natAbs < 2 ^ n) : intBits x ≤ n := intBits_le_iff.mpr h
theorem ib_lt {x : Int} {n : Nat} (h0 : 0 ≤ x) (h : x < 2 ^ n) : intBits x ≤ n := ib_abs (by
  have : ((x.natAbs : Nat) : Int) < ((2 ^ n : Nat) : Int) := by
    rw [Int.natCast_pow, show ((2 : Nat) : Int) = 2 from rfl]; omega
  exact Int.ofNat_lt.mp this)
theorem ib_mono {x : Int} {m n : Nat} (h : intBits x ≤ m) (hmn : m ≤ n) : intBits x ≤ n := Nat.le_trans h hmn

/-! ### places, powers -/
theorem atI_nat {α : Type} {xs : List α} {k : Nat} {i : Int} (h : i = k) (hk : k < xs.length) : atI xs i = some xs[k] := by
  subst h
  have : (k : Int) < xs.length := by omega
  simp [atI, ixN, this, hk]
@[simp] theorem atI_0 {α : Type} (x : α) (xs : List α) : atI (x :: xs) 0 = some x := by simp [atI, ixN]
@[simp] theorem atI_1 {α : Type} (x y : α) (xs : List α) : atI (x :: y :: xs) 1 = some y := (atI_nat (k := 1) rfl (by simp)).trans rfl
@[simp] theorem atI_2 {α : Type} (x y z : α) (xs : List α) : atI (x :: y :: z :: xs) 2 = some z := (atI_nat (k := 2) rfl (by simp)).trans rfl
@[simp] theorem atI_3 {α : Type} (x y z u : α) (xs : List α) : atI (x :: y :: z :: u :: xs) 3 = some u := (atI_nat (k := 3) rfl (by simp)).trans rfl
@[simp] theorem atI_4 {α : Type} (x y z u v : α) (xs : List α) : atI (x :: y :: z :: u :: v :: xs) 4 = some v := (atI_nat (k := 4) rfl (by simp)).trans rfl
@[simp] theorem atI_m1 {α : Type} (x : α) : atI [x] (-1) = some x := by simp [atI, ixN]
@[simp] theorem sz_le (n : Nat) : (n ≤ sz) = (n ≤ 16777216) := id rfl
@[simp] theorem pow2_pos (n : Nat) : (0 < (2 : Int) ^ n) = True := eq_true (Int.pow_pos (by decide))
@[simp] theorem pow2_nn (n : Nat) : (0 ≤ (2 : Int) ^ n) = True := eq_true (Int.le_of_lt (Int.pow_pos (by decide)))
@[simp] theorem tn_add (a b : Nat) : ((a : Int) + (b : Int)).toNat = a + b := by omega
@[simp] theorem tn_add1 (a : Nat) : ((a : Int) + 1).toNat = a + 1 := by omega
@[simp] theorem tn_add2 (a b : Nat) : ((a : Int) + (b : Int) + 1).toNat = a + b + 1 := by omega
@[simp] theorem tn_sub1 (a : Nat) : ((a : Int) - 1).toNat = a - 1 := by omega
theorem ib_one : intBits (1 : Int) ≤ 1 := by decide
theorem shlB_one {b : Int} (h : 0 ≤ b) (h' : b ≤ 134217727) : shlB 1 b = true := shlB_of ib_one h (by omega)
theorem ib_pow2 (n : Nat) : intBits ((2 : Int) ^ n) ≤ n + 1 := ib_lt (by simp) (by rw [Int.pow_succ]; have := Int.pow_pos (n := 2) (m := n) (by decide); omega)
theorem dvB_bits {a b : Int} {n : Nat} (h : 0 < b) (hb : intBits b ≤ n) (hn : n ≤ 9000) : dvB a b = true := by
  have : Builtin.divisionGoesByPylong a b = false := PyProof.noPylong_of_log2 (by
    have h1 := intBits_le_iff.mp (Nat.le_trans hb hn)
    exact (Nat.log2_lt (by omega)).mpr h1)
  simp [dvB, h, this]
theorem dvB_pow {a : Int} {n : Nat} (h : n < 9000) : dvB a (2 ^ n) = true := dvB_bits (by simp) (ib_pow2 n) (by omega)
theorem dvB_near {a b : Int} (h : 0 < b) (hb : intBits a ≤ intBits b + 4000) : dvB a b = true := by
  simp [dvB, h, (divp_ok h hb).2]
theorem two_le_pow {m n : Nat} (h : m ≤ n) : (2 : Int) ^ m ≤ 2 ^ n := by
  have := Int.ofNat_le.mpr (Nat.pow_le_pow_right (show 0 < 2 by decide) h)
  simpa using this
theorem or_lowC {q r : Int} {k : Nat} (hq : 0 ≤ q) (h0 : 0 ≤ r) (h1 : r < 2 ^ k) : Builtin.bitOr (q * 2 ^ k) r = q * 2 ^ k + r := or_low hq h0 h1
end Rm

namespace Pg
open PySem L2 Rm
def top (i : Nat) : Stmt := PySem.Challenge.pw_roundmill_k64_whole_wide.main.body.getD i (.Pass ⟨0, 0, 0, 0⟩)
/-! 0: width(size); slots 0 size -/
def fn0 : FI := ⟨1, 1, .cons (.ret (.bin .add (.bin .add (.idx (.var 0) (.cI 0)) (.idx (.var 0) (.cI 1))) (.cI 1))) (.nil), false⟩
/-! 1: bias(size); slots 0 size -/
def fn1 : FI := ⟨1, 1, .cons (.ret (.bin .sub (.bin .shl (.cI 1) (.bin .sub (.idx (.var 0) (.cI 0)) (.cI 1))) (.cI 1))) (.nil), false⟩
/-! 2: low(size); slots 0 size -/
def fn2 : FI := ⟨1, 1, .cons (.ret (.bin .sub (.bin .sub (.cI 1) (.call 1 (.cons (.var 0) (.nil)))) (.idx (.var 0) (.cI 1)))) (.nil), false⟩
/-! 3: sign_bit(size); slots 0 size -/
def fn3 : FI := ⟨1, 1, .cons (.ret (.bin .shl (.cI 1) (.bin .add (.idx (.var 0) (.cI 0)) (.idx (.var 0) (.cI 1))))) (.nil), false⟩
/-! 4: endless(size); slots 0 size -/
def fn4 : FI := ⟨1, 1, .cons (.ret (.bin .shl (.bin .sub (.bin .shl (.cI 1) (.idx (.var 0) (.cI 0))) (.cI 1)) (.idx (.var 0) (.cI 1)))) (.nil), false⟩
/-! 5: no_number(size); slots 0 size -/
def fn5 : FI := ⟨1, 1, .cons (.ret (.bin .or (.call 4 (.cons (.var 0) (.nil))) (.bin .shl (.cI 1) (.bin .sub (.idx (.var 0) (.cI 1)) (.cI 1))))) (.nil), false⟩
/-! 6: parted(size, bits); slots 0 size, 1 bits, 2 sign, 3 code, 4 field, 5 figures -/
def fn6 : FI := ⟨2, 6, .cons (.iff (.or (.cmp .lt (.var 1) (.cI 0)) (.cmp .ne (.bin .shr (.var 1) (.call 0 (.cons (.var 0) (.nil)))) (.cI 0))) (.cons (.rais 1) (.nil)) (.nil)) (.cons (.asg (.tup [2, 3]) (.bi .dvm (.cons (.var 1) (.cons (.call 3 (.cons (.var 0) (.nil))) (.nil))))) (.cons (.asg (.tup [4, 5]) (.bi .dvm (.cons (.var 3) (.cons (.bin .shl (.cI 1) (.idx (.var 0) (.cI 1))) (.nil))))) (.cons (.ret (.tup (.cons (.var 2) (.cons (.var 4) (.cons (.var 5) (.nil)))))) (.nil)))), false⟩
/-! 7: kind(size, bits); slots 0 size, 1 bits, 2 sign, 3 field, 4 figures -/
def fn7 : FI := ⟨2, 5, .cons (.asg (.tup [2, 3, 4]) (.call 6 (.cons (.var 0) (.cons (.var 1) (.nil))))) (.cons (.iff (.cmp .eq (.var 3) (.bin .sub (.bin .shl (.cI 1) (.idx (.var 0) (.cI 0))) (.cI 1))) (.cons (.ret (.ife (.cmp .eq (.var 4) (.cI 0)) (.cS "endless") (.cS "none"))) (.nil)) (.nil)) (.cons (.iff (.cmp .gt (.var 3) (.cI 0)) (.cons (.ret (.cS "plain")) (.nil)) (.nil)) (.cons (.ret (.ife (.cmp .eq (.var 4) (.cI 0)) (.cS "nought") (.cS "faint"))) (.nil)))), false⟩
/-! 8: worth(size, bits); slots 0 size, 1 bits, 2 sign, 3 field, 4 figures -/
def fn8 : FI := ⟨2, 5, .cons (.asg (.tup [2, 3, 4]) (.call 6 (.cons (.var 0) (.cons (.var 1) (.nil))))) (.cons (.iff (.cmp .eq (.var 3) (.bin .sub (.bin .shl (.cI 1) (.idx (.var 0) (.cI 0))) (.cI 1))) (.cons (.rais 2) (.nil)) (.nil)) (.cons (.iff (.cmp .eq (.var 3) (.cI 0)) (.cons (.ret (.tup (.cons (.var 2) (.cons (.var 4) (.cons (.call 2 (.cons (.var 0) (.nil))) (.nil)))))) (.nil)) (.nil)) (.cons (.ret (.tup (.cons (.var 2) (.cons (.bin .or (.var 4) (.bin .shl (.cI 1) (.idx (.var 0) (.cI 1)))) (.cons (.bin .sub (.bin .add (.call 2 (.cons (.var 0) (.nil))) (.var 3)) (.cI 1)) (.nil)))))) (.nil)))), false⟩
/-! 9: fraction(size, bits); slots 0 size, 1 bits, 2 sign, 3 whole, 4 power -/
def fn9 : FI := ⟨2, 5, .cons (.asg (.tup [2, 3, 4]) (.call 8 (.cons (.var 0) (.cons (.var 1) (.nil))))) (.cons (.iff (.cmp .lt (.var 4) (.cI 0)) (.cons (.ret (.tup (.cons (.var 2) (.cons (.var 3) (.cons (.bin .shl (.cI 1) (.neg (.var 4))) (.nil)))))) (.nil)) (.nil)) (.cons (.ret (.tup (.cons (.var 2) (.cons (.bin .shl (.var 3) (.var 4)) (.cons (.cI 1) (.nil)))))) (.nil))), false⟩
/-! 10: negated(size, bits); slots 0 size, 1 bits -/
def fn10 : FI := ⟨2, 2, .cons (.exp (.call 6 (.cons (.var 0) (.cons (.var 1) (.nil))))) (.cons (.ret (.bin .xor (.var 1) (.call 3 (.cons (.var 0) (.nil))))) (.nil)), false⟩
/-! 11: Way.grows(self, sign, odd, rest); slots 0 self, 1 sign, 2 odd, 3 rest -/
def fn11 : FI := ⟨4, 4, .cons (.ret (.cB false)) (.nil), false⟩
/-! 12: Way.bursts(self, sign); slots 0 self, 1 sign -/
def fn12 : FI := ⟨2, 2, .cons (.ret (.cB false)) (.nil), false⟩
/-! 13: Nearest.grows(self, sign, odd, rest); slots 0 self, 1 sign, 2 odd, 3 rest -/
def fn13 : FI := ⟨4, 4, .cons (.iff (.cmp .eq (.var 3) (.cI 2)) (.cons (.ret (.mcl (.var 0) "grows_midway" (.cons (.var 2) (.nil)))) (.nil)) (.nil)) (.cons (.ret (.cmp .eq (.var 3) (.cI 3))) (.nil)), false⟩
/-! 14: Nearest.grows_midway(self, odd); slots 0 self, 1 odd -/
def fn14 : FI := ⟨2, 2, .cons (.ret (.var 1)) (.nil), false⟩
/-! 15: Nearest.bursts(self, sign); slots 0 self, 1 sign -/
def fn15 : FI := ⟨2, 2, .cons (.ret (.cB true)) (.nil), false⟩
/-! 16: NearestAway.grows_midway(self, odd); slots 0 self, 1 odd -/
def fn16 : FI := ⟨2, 2, .cons (.ret (.cB true)) (.nil), false⟩
/-! 17: Outward.__init__(self, sign); slots 0 self, 1 sign -/
def fn17 : FI := ⟨2, 2, .cons (.sta (.var 0) "outward_sign" (.var 1)) (.nil), true⟩
/-! 18: Outward.grows(self, sign, odd, rest); slots 0 self, 1 sign, 2 odd, 3 rest -/
def fn18 : FI := ⟨4, 4, .cons (.ret (.and (.cmp .gt (.var 3) (.cI 0)) (.cmp .eq (.var 1) (.atr (.var 0) "outward_sign")))) (.nil), false⟩
/-! 19: Outward.bursts(self, sign); slots 0 self, 1 sign -/
def fn19 : FI := ⟨2, 2, .cons (.ret (.cmp .eq (.var 1) (.atr (.var 0) "outward_sign"))) (.nil), false⟩
/-! 20: way_of(name); slots 0 name -/
def fn20 : FI := ⟨1, 1, .cons (.iff (.cmp .eq (.var 0) (.cS "even")) (.cons (.ret (.new 6 (.nil))) (.nil)) (.nil)) (.cons (.iff (.cmp .eq (.var 0) (.cS "away")) (.cons (.ret (.new 7 (.nil))) (.nil)) (.nil)) (.cons (.iff (.cmp .eq (.var 0) (.cS "nought")) (.cons (.ret (.new 5 (.nil))) (.nil)) (.nil)) (.cons (.iff (.cmp .eq (.var 0) (.cS "up")) (.cons (.ret (.new 8 (.cons (.cI 0) (.nil)))) (.nil)) (.nil)) (.cons (.iff (.cmp .eq (.var 0) (.cS "down")) (.cons (.ret (.new 8 (.cons (.cI 1) (.nil)))) (.nil)) (.nil)) (.cons (.rais 3) (.nil)))))), false⟩
/-! 21: asked_fraction(top, bottom); slots 0 top, 1 bottom -/
def fn21 : FI := ⟨2, 2, .cons (.iff (.or (.cmp .lt (.var 0) (.cI 0)) (.cmp .lt (.var 1) (.cI 1))) (.cons (.rais 4) (.nil)) (.nil)) (.nil), false⟩
/-! 22: ahead(top, bottom); slots 0 top, 1 bottom, 2 power, 3 tall, 4 wide -/
def fn22 : FI := ⟨2, 5, .cons (.asg (.one 2) (.bin .sub (.me .bitlen (.var 0) .nil) (.me .bitlen (.var 1) .nil))) (.cons (.asg (.tup [3, 4]) (.call 23 (.cons (.var 0) (.cons (.var 1) (.cons (.var 2) (.nil)))))) (.cons (.iff (.cmp .lt (.var 3) (.var 4)) (.cons (.ret (.var 2)) (.nil)) (.nil)) (.cons (.ret (.bin .add (.var 2) (.cI 1))) (.nil)))), false⟩
/-! 23: scaled(top, bottom, power); slots 0 top, 1 bottom, 2 power -/
def fn23 : FI := ⟨3, 3, .cons (.iff (.cmp .lt (.var 2) (.cI 0)) (.cons (.ret (.tup (.cons (.bin .shl (.var 0) (.neg (.var 2))) (.cons (.var 1) (.nil))))) (.nil)) (.nil)) (.cons (.ret (.tup (.cons (.var 0) (.cons (.bin .shl (.var 1) (.var 2)) (.nil))))) (.nil)), false⟩
/-! 24: rest_of(left, half); slots 0 left, 1 half -/
def fn24 : FI := ⟨2, 2, .cons (.iff (.cmp .eq (.var 0) (.cI 0)) (.cons (.ret (.cI 0)) (.nil)) (.nil)) (.cons (.iff (.cmp .lt (.var 0) (.var 1)) (.cons (.ret (.cI 1)) (.nil)) (.nil)) (.cons (.iff (.cmp .eq (.var 0) (.var 1)) (.cons (.ret (.cI 2)) (.nil)) (.nil)) (.cons (.ret (.cI 3)) (.nil)))), false⟩
/-! 25: cut(size, top, bottom); slots 0 size, 1 top, 2 bottom, 3 power, 4 tall, 5 wide, 6 whole, 7 left -/
def fn25 : FI := ⟨3, 8, .cons (.exp (.call 21 (.cons (.var 1) (.cons (.var 2) (.nil))))) (.cons (.iff (.cmp .eq (.var 1) (.cI 0)) (.cons (.ret (.tup (.cons (.cI 0) (.cons (.call 2 (.cons (.var 0) (.nil))) (.cons (.cI 0) (.nil)))))) (.nil)) (.nil)) (.cons (.asg (.one 3) (.bi .max2 (.cons (.call 2 (.cons (.var 0) (.nil))) (.cons (.bin .sub (.bin .sub (.call 22 (.cons (.var 1) (.cons (.var 2) (.nil)))) (.idx (.var 0) (.cI 1))) (.cI 1)) (.nil))))) (.cons (.asg (.tup [4, 5]) (.call 23 (.cons (.var 1) (.cons (.var 2) (.cons (.var 3) (.nil)))))) (.cons (.asg (.tup [6, 7]) (.bi .dvm (.cons (.var 4) (.cons (.var 5) (.nil))))) (.cons (.ret (.tup (.cons (.var 6) (.cons (.var 3) (.cons (.call 24 (.cons (.bin .mul (.cI 2) (.var 7)) (.cons (.var 5) (.nil)))) (.nil)))))) (.nil)))))), false⟩
/-! 26: whole_root(number); slots 0 number, 1 guess, 2 better -/
def t26_0 : E := .cB true
@[simp] theorem t26_0e (T : Tab) (C : Nat → List MV → HP → R MV) (e : EN) (h : HP) : evE T C t26_0 e h = evE T C (.cB true) e h := rfl
def w26_0 : Ss := .cons (.asg (.one 2) (.bin .fdv (.bin .add (.var 1) (.bin .fdv (.var 0) (.var 1))) (.cI 2))) (.cons (.iff (.cmp .ge (.var 2) (.var 1)) (.cons (.ret (.var 1)) (.nil)) (.nil)) (.cons (.asg (.one 1) (.var 2)) (.nil)))
@[simp] theorem w26_0e (T : Tab) (C : Nat → List MV → HP → R MV) (e : EN) (h : HP) : exSs T C w26_0 e h = exSs T C (.cons (.asg (.one 2) (.bin .fdv (.bin .add (.var 1) (.bin .fdv (.var 0) (.var 1))) (.cI 2))) (.cons (.iff (.cmp .ge (.var 2) (.var 1)) (.cons (.ret (.var 1)) (.nil)) (.nil)) (.cons (.asg (.one 1) (.var 2)) (.nil)))) e h := rfl
def fn26 : FI := ⟨1, 3, .cons (.iff (.cmp .lt (.var 0) (.cI 0)) (.cons (.rais 4) (.nil)) (.nil)) (.cons (.iff (.cmp .eq (.var 0) (.cI 0)) (.cons (.ret (.cI 0)) (.nil)) (.nil)) (.cons (.asg (.one 1) (.bin .shl (.cI 1) (.bin .fdv (.bin .add (.me .bitlen (.var 0) .nil) (.cI 1)) (.cI 2)))) (.cons (.whl t26_0 w26_0) (.nil)))), false⟩
/-! 27: root_cut(size, top, bottom); slots 0 size, 1 top, 2 bottom, 3 power, 4 whole, 5 middle, 6 tall, 7 wide -/
def fn27 : FI := ⟨3, 8, .cons (.exp (.call 21 (.cons (.var 1) (.cons (.var 2) (.nil))))) (.cons (.iff (.cmp .eq (.var 1) (.cI 0)) (.cons (.ret (.tup (.cons (.cI 0) (.cons (.call 2 (.cons (.var 0) (.nil))) (.cons (.cI 0) (.nil)))))) (.nil)) (.nil)) (.cons (.asg (.one 3) (.bi .max2 (.cons (.call 2 (.cons (.var 0) (.nil))) (.cons (.bin .sub (.bin .sub (.bin .fdv (.bin .add (.call 22 (.cons (.var 1) (.cons (.var 2) (.nil)))) (.cI 1)) (.cI 2)) (.idx (.var 0) (.cI 1))) (.cI 1)) (.nil))))) (.cons (.asg (.tup [6, 7]) (.call 23 (.cons (.var 1) (.cons (.var 2) (.cons (.bin .mul (.cI 2) (.var 3)) (.nil)))))) (.cons (.asg (.one 4) (.call 26 (.cons (.bin .fdv (.var 6) (.var 7)) (.nil)))) (.cons (.iff (.cmp .eq (.bin .mul (.bin .mul (.var 4) (.var 4)) (.var 7)) (.var 6)) (.cons (.ret (.tup (.cons (.var 4) (.cons (.var 3) (.cons (.cI 0) (.nil)))))) (.nil)) (.nil)) (.cons (.asg (.one 5) (.bin .mul (.bin .mul (.bin .add (.bin .mul (.cI 2) (.var 4)) (.cI 1)) (.bin .add (.bin .mul (.cI 2) (.var 4)) (.cI 1))) (.var 7))) (.cons (.ret (.tup (.cons (.var 4) (.cons (.var 3) (.cons (.call 24 (.cons (.bin .mul (.cI 4) (.var 6)) (.cons (.var 5) (.nil)))) (.nil)))))) (.nil)))))))), false⟩
/-! 28: settled(size, way, sign, whole, power, rest); slots 0 size, 1 way, 2 sign, 3 whole, 4 power, 5 rest, 6 rule, 7 first, 8 code, 9 flags -/
def fn28 : FI := ⟨6, 10, .cons (.asg (.one 6) (.call 20 (.cons (.var 1) (.nil)))) (.cons (.asg (.one 7) (.bin .mul (.var 2) (.call 3 (.cons (.var 0) (.nil))))) (.cons (.asg (.one 8) (.bin .add (.bin .shl (.bin .sub (.var 4) (.call 2 (.cons (.var 0) (.nil)))) (.idx (.var 0) (.cI 1))) (.var 3))) (.cons (.iff (.cmp .ge (.var 8) (.call 4 (.cons (.var 0) (.nil)))) (.cons (.iff (.mcl (.var 6) "bursts" (.cons (.var 2) (.nil))) (.cons (.ret (.tup (.cons (.bin .add (.var 7) (.call 4 (.cons (.var 0) (.nil)))) (.cons (.bin .or (.gI "INEXACT" 1) (.gI "GREAT" 4)) (.nil))))) (.nil)) (.nil)) (.cons (.ret (.tup (.cons (.bin .sub (.bin .add (.var 7) (.call 4 (.cons (.var 0) (.nil)))) (.cI 1)) (.cons (.bin .or (.gI "INEXACT" 1) (.gI "GREAT" 4)) (.nil))))) (.nil))) (.nil)) (.cons (.iff (.cmp .eq (.var 5) (.cI 0)) (.cons (.ret (.tup (.cons (.bin .add (.var 7) (.var 8)) (.cons (.cI 0) (.nil))))) (.nil)) (.nil)) (.cons (.asg (.one 9) (.gI "INEXACT" 1)) (.cons (.iff (.cmp .lt (.var 3) (.bin .shl (.cI 1) (.idx (.var 0) (.cI 1)))) (.cons (.asg (.one 9) (.bin .or (.var 9) (.gI "SMALL" 2))) (.nil)) (.nil)) (.cons (.iff (.mcl (.var 6) "grows" (.cons (.var 2) (.cons (.cmp .eq (.bin .and (.var 3) (.cI 1)) (.cI 1)) (.cons (.var 5) (.nil))))) (.cons (.aug 8 .add (.cI 1)) (.nil)) (.nil)) (.cons (.iff (.cmp .eq (.var 8) (.call 4 (.cons (.var 0) (.nil)))) (.cons (.asg (.one 9) (.bin .or (.var 9) (.gI "GREAT" 4))) (.nil)) (.nil)) (.cons (.ret (.tup (.cons (.bin .add (.var 7) (.var 8)) (.cons (.var 9) (.nil))))) (.nil)))))))))), false⟩
/-! 29: rounded(size, way, sign, top, bottom); slots 0 size, 1 way, 2 sign, 3 top, 4 bottom, 5 whole, 6 power, 7 rest -/
def fn29 : FI := ⟨5, 8, .cons (.exp (.call 20 (.cons (.var 1) (.nil)))) (.cons (.asg (.tup [5, 6, 7]) (.call 25 (.cons (.var 0) (.cons (.var 3) (.cons (.var 4) (.nil)))))) (.cons (.ret (.call 28 (.cons (.var 0) (.cons (.var 1) (.cons (.var 2) (.cons (.var 5) (.cons (.var 6) (.cons (.var 7) (.nil))))))))) (.nil))), false⟩
/-! 30: changed(size, other, way, bits); slots 0 size, 1 other, 2 way, 3 bits, 4 sort, 5 sign, 6 top, 7 bottom -/
def fn30 : FI := ⟨4, 8, .cons (.exp (.call 20 (.cons (.var 2) (.nil)))) (.cons (.asg (.one 4) (.call 7 (.cons (.var 0) (.cons (.var 3) (.nil))))) (.cons (.iff (.cmp .eq (.var 4) (.cS "none")) (.cons (.ret (.tup (.cons (.call 5 (.cons (.var 1) (.nil))) (.cons (.cI 0) (.nil))))) (.nil)) (.nil)) (.cons (.iff (.cmp .eq (.var 4) (.cS "endless")) (.cons (.ret (.tup (.cons (.bin .add (.bin .mul (.idx (.call 6 (.cons (.var 0) (.cons (.var 3) (.nil)))) (.cI 0)) (.call 3 (.cons (.var 1) (.nil)))) (.call 4 (.cons (.var 1) (.nil)))) (.cons (.cI 0) (.nil))))) (.nil)) (.nil)) (.cons (.asg (.tup [5, 6, 7]) (.call 9 (.cons (.var 0) (.cons (.var 3) (.nil))))) (.cons (.ret (.call 29 (.cons (.var 1) (.cons (.var 2) (.cons (.var 5) (.cons (.var 6) (.cons (.var 7) (.nil)))))))) (.nil)))))), false⟩
/-! 31: total(terms); slots 0 terms, 1 least, 2 exact, 3 sign, 4 whole, 5 power, 6 part, 7 term -/
def w31_0 : Ss := .cons (.asg (.one 6) (.bin .shl (.var 4) (.bin .sub (.var 5) (.var 1)))) (.cons (.iff (.cmp .eq (.var 3) (.cI 1)) (.cons (.aug 2 .sub (.var 6)) (.nil)) (.cons (.aug 2 .add (.var 6)) (.nil))) (.nil))
@[simp] theorem w31_0e (T : Tab) (C : Nat → List MV → HP → R MV) (e : EN) (h : HP) : exSs T C w31_0 e h = exSs T C (.cons (.asg (.one 6) (.bin .shl (.var 4) (.bin .sub (.var 5) (.var 1)))) (.cons (.iff (.cmp .eq (.var 3) (.cI 1)) (.cons (.aug 2 .sub (.var 6)) (.nil)) (.cons (.aug 2 .add (.var 6)) (.nil))) (.nil))) e h := rfl
def fn31 : FI := ⟨1, 8, .cons (.asg (.one 1) (.mnd (.lcm false (.one 7) [7] (.seq (.var 0)) (.idx (.var 7) (.cI 2))) (.cI 0))) (.cons (.asg (.one 2) (.cI 0)) (.cons (.fr (.tup [3, 4, 5]) (.seq (.var 0)) w31_0) (.cons (.iff (.cmp .lt (.var 2) (.cI 0)) (.cons (.ret (.tup (.cons (.cI 1) (.cons (.neg (.var 2)) (.cons (.var 1) (.nil)))))) (.nil)) (.nil)) (.cons (.ret (.tup (.cons (.cI 0) (.cons (.var 2) (.cons (.var 1) (.nil)))))) (.nil))))), false⟩
/-! 32: nought_sign(way, signs); slots 0 way, 1 signs -/
def fn32 : FI := ⟨2, 2, .cons (.exp (.call 20 (.cons (.var 0) (.nil)))) (.cons (.iff (.cmp .eq (.bi .len (.cons (.var 1) (.nil))) (.cI 0)) (.cons (.ret (.cI 0)) (.nil)) (.nil)) (.cons (.iff (.and (.cmp .inn (.cI 0) (.var 1)) (.cmp .inn (.cI 1) (.var 1))) (.cons (.iff (.cmp .eq (.var 0) (.cS "down")) (.cons (.ret (.cI 1)) (.nil)) (.nil)) (.cons (.ret (.cI 0)) (.nil))) (.nil)) (.cons (.ret (.idx (.var 1) (.cI 0))) (.nil)))), false⟩
/-! 33: settled_total(size, way, terms); slots 0 size, 1 way, 2 terms, 3 sign, 4 whole, 5 power, 6 term -/
def fn33 : FI := ⟨3, 7, .cons (.exp (.call 20 (.cons (.var 1) (.nil)))) (.cons (.asg (.tup [3, 4, 5]) (.call 31 (.cons (.var 2) (.nil)))) (.cons (.iff (.cmp .eq (.var 4) (.cI 0)) (.cons (.ret (.tup (.cons (.bin .mul (.call 32 (.cons (.var 1) (.cons (.lcm false (.one 6) [6] (.seq (.var 2)) (.idx (.var 6) (.cI 0))) (.nil)))) (.call 3 (.cons (.var 0) (.nil)))) (.cons (.cI 0) (.nil))))) (.nil)) (.nil)) (.cons (.iff (.cmp .ge (.var 5) (.cI 0)) (.cons (.ret (.call 29 (.cons (.var 0) (.cons (.var 1) (.cons (.var 3) (.cons (.bin .shl (.var 4) (.var 5)) (.cons (.cI 1) (.nil)))))))) (.nil)) (.nil)) (.cons (.ret (.call 29 (.cons (.var 0) (.cons (.var 1) (.cons (.var 3) (.cons (.var 4) (.cons (.bin .shl (.cI 1) (.neg (.var 5))) (.nil)))))))) (.nil))))), false⟩
/-! 34: kinds_of(size, way, numbers); slots 0 size, 1 way, 2 numbers, 3 bits -/
def fn34 : FI := ⟨3, 4, .cons (.exp (.call 20 (.cons (.var 1) (.nil)))) (.cons (.ret (.lcm false (.one 3) [3] (.seq (.var 2)) (.call 7 (.cons (.var 0) (.cons (.var 3) (.nil)))))) (.nil)), false⟩
/-! 35: gone_wrong(size); slots 0 size -/
def fn35 : FI := ⟨1, 1, .cons (.ret (.tup (.cons (.call 5 (.cons (.var 0) (.nil))) (.cons (.gI "WRONG" 16) (.nil))))) (.nil), false⟩
/-! 36: endless_with(size, sign); slots 0 size, 1 sign -/
def fn36 : FI := ⟨2, 2, .cons (.ret (.bin .add (.bin .mul (.var 1) (.call 3 (.cons (.var 0) (.nil)))) (.call 4 (.cons (.var 0) (.nil))))) (.nil), false⟩
/-! 37: term_of(size, bits); slots 0 size, 1 bits, 2 sign, 3 whole, 4 power -/
def fn37 : FI := ⟨2, 5, .cons (.iff (.cmp .eq (.call 7 (.cons (.var 0) (.cons (.var 1) (.nil)))) (.cS "endless")) (.cons (.ret (.tup (.cons (.cS "endless") (.cons (.idx (.call 6 (.cons (.var 0) (.cons (.var 1) (.nil)))) (.cI 0)) (.cons (.cI 0) (.cons (.cI 0) (.nil))))))) (.nil)) (.nil)) (.cons (.asg (.tup [2, 3, 4]) (.call 8 (.cons (.var 0) (.cons (.var 1) (.nil))))) (.cons (.ret (.tup (.cons (.cS "finite") (.cons (.var 2) (.cons (.var 3) (.cons (.var 4) (.nil))))))) (.nil))), false⟩
/-! 38: product_term(size, a, b); slots 0 size, 1 a, 2 b, 3 one, 4 two, 5 sign, 6 term -/
def w38_0 : Ss := .cons (.iff (.and (.cmp .eq (.idx (.var 6) (.cI 0)) (.cS "finite")) (.cmp .eq (.idx (.var 6) (.cI 2)) (.cI 0))) (.cons (.ret (.tup (.cons (.cS "wrong") (.cons (.cI 0) (.cons (.cI 0) (.cons (.cI 0) (.nil))))))) (.nil)) (.nil)) (.nil)
@[simp] theorem w38_0e (T : Tab) (C : Nat → List MV → HP → R MV) (e : EN) (h : HP) : exSs T C w38_0 e h = exSs T C (.cons (.iff (.and (.cmp .eq (.idx (.var 6) (.cI 0)) (.cS "finite")) (.cmp .eq (.idx (.var 6) (.cI 2)) (.cI 0))) (.cons (.ret (.tup (.cons (.cS "wrong") (.cons (.cI 0) (.cons (.cI 0) (.cons (.cI 0) (.nil))))))) (.nil)) (.nil)) (.nil)) e h := rfl
def fn38 : FI := ⟨3, 7, .cons (.asg (.one 3) (.call 37 (.cons (.var 0) (.cons (.var 1) (.nil))))) (.cons (.asg (.one 4) (.call 37 (.cons (.var 0) (.cons (.var 2) (.nil))))) (.cons (.asg (.one 5) (.bin .xor (.idx (.var 3) (.cI 1)) (.idx (.var 4) (.cI 1)))) (.cons (.iff (.and (.cmp .eq (.idx (.var 3) (.cI 0)) (.cS "finite")) (.cmp .eq (.idx (.var 4) (.cI 0)) (.cS "finite"))) (.cons (.ret (.tup (.cons (.cS "finite") (.cons (.var 5) (.cons (.bin .mul (.idx (.var 3) (.cI 2)) (.idx (.var 4) (.cI 2))) (.cons (.bin .add (.idx (.var 3) (.cI 3)) (.idx (.var 4) (.cI 3))) (.nil))))))) (.nil)) (.nil)) (.cons (.fr (.one 6) (.seq (.lst (.cons (.var 3) (.cons (.var 4) (.nil))))) w38_0) (.cons (.ret (.tup (.cons (.cS "endless") (.cons (.var 5) (.cons (.cI 0) (.cons (.cI 0) (.nil))))))) (.nil)))))), false⟩
/-! 39: sum_of_terms(size, way, terms); slots 0 size, 1 way, 2 terms, 3 signs, 4 worths, 5 sort, 6 sign, 7 whole, 8 power -/
def w39_0 : Ss := .cons (.iff (.cmp .eq (.var 5) (.cS "wrong")) (.cons (.ret (.call 35 (.cons (.var 0) (.nil)))) (.nil)) (.nil)) (.cons (.iff (.cmp .eq (.var 5) (.cS "endless")) (.cons (.app (.var 3) (.var 6)) (.cons (.cont) (.nil))) (.nil)) (.cons (.app (.var 4) (.tup (.cons (.var 6) (.cons (.var 7) (.cons (.var 8) (.nil)))))) (.nil)))
@[simp] theorem w39_0e (T : Tab) (C : Nat → List MV → HP → R MV) (e : EN) (h : HP) : exSs T C w39_0 e h = exSs T C (.cons (.iff (.cmp .eq (.var 5) (.cS "wrong")) (.cons (.ret (.call 35 (.cons (.var 0) (.nil)))) (.nil)) (.nil)) (.cons (.iff (.cmp .eq (.var 5) (.cS "endless")) (.cons (.app (.var 3) (.var 6)) (.cons (.cont) (.nil))) (.nil)) (.cons (.app (.var 4) (.tup (.cons (.var 6) (.cons (.var 7) (.cons (.var 8) (.nil)))))) (.nil)))) e h := rfl
def fn39 : FI := ⟨3, 9, .cons (.asg (.one 3) (.cel (.nil))) (.cons (.asg (.one 4) (.cel (.nil))) (.cons (.fr (.tup [5, 6, 7, 8]) (.seq (.var 2)) w39_0) (.cons (.iff (.and (.cmp .inn (.cI 0) (.var 3)) (.cmp .inn (.cI 1) (.var 3))) (.cons (.ret (.call 35 (.cons (.var 0) (.nil)))) (.nil)) (.nil)) (.cons (.iff (.cmp .gt (.bi .len (.cons (.var 3) (.nil))) (.cI 0)) (.cons (.ret (.tup (.cons (.call 36 (.cons (.var 0) (.cons (.idx (.var 3) (.cI 0)) (.nil)))) (.cons (.cI 0) (.nil))))) (.nil)) (.nil)) (.cons (.ret (.call 33 (.cons (.var 0) (.cons (.var 1) (.cons (.var 4) (.nil)))))) (.nil)))))), false⟩
/-! 40: added(size, way, a, b); slots 0 size, 1 way, 2 a, 3 b -/
def fn40 : FI := ⟨4, 4, .cons (.iff (.cmp .inn (.cS "none") (.call 34 (.cons (.var 0) (.cons (.var 1) (.cons (.lst (.cons (.var 2) (.cons (.var 3) (.nil)))) (.nil)))))) (.cons (.ret (.tup (.cons (.call 5 (.cons (.var 0) (.nil))) (.cons (.cI 0) (.nil))))) (.nil)) (.nil)) (.cons (.ret (.call 39 (.cons (.var 0) (.cons (.var 1) (.cons (.lst (.cons (.call 37 (.cons (.var 0) (.cons (.var 2) (.nil)))) (.cons (.call 37 (.cons (.var 0) (.cons (.var 3) (.nil)))) (.nil)))) (.nil)))))) (.nil)), false⟩
/-! 41: taken(size, way, a, b); slots 0 size, 1 way, 2 a, 3 b -/
def fn41 : FI := ⟨4, 4, .cons (.exp (.call 34 (.cons (.var 0) (.cons (.var 1) (.cons (.lst (.cons (.var 2) (.cons (.var 3) (.nil)))) (.nil)))))) (.cons (.ret (.call 40 (.cons (.var 0) (.cons (.var 1) (.cons (.var 2) (.cons (.call 10 (.cons (.var 0) (.cons (.var 3) (.nil)))) (.nil))))))) (.nil)), false⟩
/-! 42: multiplied(size, way, a, b); slots 0 size, 1 way, 2 a, 3 b -/
def fn42 : FI := ⟨4, 4, .cons (.iff (.cmp .inn (.cS "none") (.call 34 (.cons (.var 0) (.cons (.var 1) (.cons (.lst (.cons (.var 2) (.cons (.var 3) (.nil)))) (.nil)))))) (.cons (.ret (.tup (.cons (.call 5 (.cons (.var 0) (.nil))) (.cons (.cI 0) (.nil))))) (.nil)) (.nil)) (.cons (.ret (.call 39 (.cons (.var 0) (.cons (.var 1) (.cons (.lst (.cons (.call 38 (.cons (.var 0) (.cons (.var 2) (.cons (.var 3) (.nil))))) (.nil))) (.nil)))))) (.nil)), false⟩
/-! 43: divided(size, way, a, b); slots 0 size, 1 way, 2 a, 3 b, 4 kinds, 5 sign, 6 one, 7 two -/
def fn43 : FI := ⟨4, 8, .cons (.asg (.one 4) (.call 34 (.cons (.var 0) (.cons (.var 1) (.cons (.lst (.cons (.var 2) (.cons (.var 3) (.nil)))) (.nil)))))) (.cons (.iff (.cmp .inn (.cS "none") (.var 4)) (.cons (.ret (.tup (.cons (.call 5 (.cons (.var 0) (.nil))) (.cons (.cI 0) (.nil))))) (.nil)) (.nil)) (.cons (.iff (.or (.cmp .eq (.var 4) (.lst (.cons (.cS "endless") (.cons (.cS "endless") (.nil))))) (.cmp .eq (.var 4) (.lst (.cons (.cS "nought") (.cons (.cS "nought") (.nil)))))) (.cons (.ret (.call 35 (.cons (.var 0) (.nil)))) (.nil)) (.nil)) (.cons (.asg (.one 5) (.bin .xor (.idx (.call 6 (.cons (.var 0) (.cons (.var 2) (.nil)))) (.cI 0)) (.idx (.call 6 (.cons (.var 0) (.cons (.var 3) (.nil)))) (.cI 0)))) (.cons (.iff (.cmp .eq (.idx (.var 4) (.cI 0)) (.cS "endless")) (.cons (.ret (.tup (.cons (.call 36 (.cons (.var 0) (.cons (.var 5) (.nil)))) (.cons (.cI 0) (.nil))))) (.nil)) (.nil)) (.cons (.iff (.cmp .eq (.idx (.var 4) (.cI 1)) (.cS "nought")) (.cons (.ret (.tup (.cons (.call 36 (.cons (.var 0) (.cons (.var 5) (.nil)))) (.cons (.gI "POLE" 8) (.nil))))) (.nil)) (.nil)) (.cons (.iff (.cmp .eq (.idx (.var 4) (.cI 1)) (.cS "endless")) (.cons (.ret (.tup (.cons (.bin .mul (.var 5) (.call 3 (.cons (.var 0) (.nil)))) (.cons (.cI 0) (.nil))))) (.nil)) (.nil)) (.cons (.asg (.one 6) (.call 9 (.cons (.var 0) (.cons (.var 2) (.nil))))) (.cons (.asg (.one 7) (.call 9 (.cons (.var 0) (.cons (.var 3) (.nil))))) (.cons (.ret (.call 29 (.cons (.var 0) (.cons (.var 1) (.cons (.var 5) (.cons (.bin .mul (.idx (.var 6) (.cI 1)) (.idx (.var 7) (.cI 2))) (.cons (.bin .mul (.idx (.var 6) (.cI 2)) (.idx (.var 7) (.cI 1))) (.nil)))))))) (.nil)))))))))), false⟩
/-! 44: rooted(size, way, a); slots 0 size, 1 way, 2 a, 3 sort, 4 part, 5 whole, 6 power, 7 rest -/
def fn44 : FI := ⟨3, 8, .cons (.asg (.one 3) (.idx (.call 34 (.cons (.var 0) (.cons (.var 1) (.cons (.lst (.cons (.var 2) (.nil))) (.nil))))) (.cI 0))) (.cons (.iff (.cmp .eq (.var 3) (.cS "none")) (.cons (.ret (.tup (.cons (.call 5 (.cons (.var 0) (.nil))) (.cons (.cI 0) (.nil))))) (.nil)) (.nil)) (.cons (.iff (.cmp .eq (.var 3) (.cS "nought")) (.cons (.ret (.tup (.cons (.var 2) (.cons (.cI 0) (.nil))))) (.nil)) (.nil)) (.cons (.iff (.cmp .eq (.idx (.call 6 (.cons (.var 0) (.cons (.var 2) (.nil)))) (.cI 0)) (.cI 1)) (.cons (.ret (.call 35 (.cons (.var 0) (.nil)))) (.nil)) (.nil)) (.cons (.iff (.cmp .eq (.var 3) (.cS "endless")) (.cons (.ret (.tup (.cons (.var 2) (.cons (.cI 0) (.nil))))) (.nil)) (.nil)) (.cons (.asg (.one 4) (.call 9 (.cons (.var 0) (.cons (.var 2) (.nil))))) (.cons (.asg (.tup [5, 6, 7]) (.call 27 (.cons (.var 0) (.cons (.idx (.var 4) (.cI 1)) (.cons (.idx (.var 4) (.cI 2)) (.nil)))))) (.cons (.ret (.call 28 (.cons (.var 0) (.cons (.var 1) (.cons (.cI 0) (.cons (.var 5) (.cons (.var 6) (.cons (.var 7) (.nil))))))))) (.nil)))))))), false⟩
/-! 45: _law_cell_at(_law_script, _law_k); slots 0 _law_script, 1 _law_k -/
def fn45 : FI := ⟨2, 2, .cons (.iff (.cmp .lt (.var 1) (.bi .len (.cons (.var 0) (.nil)))) (.cons (.ret (.idx (.var 0) (.var 1))) (.nil)) (.nil)) (.cons (.ret (.cI 0)) (.nil)), false⟩
/-! 46: _law_whole(_law_found); slots 0 _law_found -/
def fn46 : FI := ⟨1, 1, .cons (.ret (.and (.isT (.var 0) "int") (.not (.isT (.var 0) "bool")))) (.nil), false⟩
/-! 47: _law_mixed(_law_cell, _law_many); slots 0 _law_cell, 1 _law_many -/
def fn47 : FI := ⟨2, 2, .cons (.ret (.bin .mod (.bin .mul (.var 0) (.cI 73846150927364518273645509182736455091827)) (.var 1))) (.nil), false⟩
/-! 48: _law_bits_by(_law_size, _law_cell); slots 0 _law_size, 1 _law_cell, 2 _law_top, 3 _law_last, 4 _law_way, 5 _law_rest, 6 _law_sign, 7 _law_code, 8 _law_field -/
def fn48 : FI := ⟨2, 9, .cons (.asg (.one 2) (.bin .shl (.cI 1) (.bin .add (.idx (.var 0) (.cI 0)) (.idx (.var 0) (.cI 1))))) (.cons (.asg (.one 3) (.bin .shl (.bin .sub (.bin .shl (.cI 1) (.idx (.var 0) (.cI 0))) (.cI 1)) (.idx (.var 0) (.cI 1)))) (.cons (.asg (.one 4) (.bin .mod (.var 1) (.cI 10))) (.cons (.asg (.one 5) (.bin .fdv (.var 1) (.cI 10))) (.cons (.iff (.cmp .lt (.var 4) (.cI 3)) (.cons (.ret (.call 47 (.cons (.var 5) (.cons (.bin .mul (.cI 2) (.var 2)) (.nil))))) (.nil)) (.nil)) (.cons (.asg (.one 6) (.bin .mod (.var 5) (.cI 2))) (.cons (.asg (.one 5) (.bin .fdv (.var 5) (.cI 2))) (.cons (.iff (.cmp .eq (.var 4) (.cI 3)) (.cons (.asg (.one 7) (.bin .mod (.var 5) (.bin .shl (.cI 2) (.idx (.var 0) (.cI 1))))) (.nil)) (.cons (.iff (.cmp .eq (.var 4) (.cI 4)) (.cons (.asg (.one 7) (.bin .sub (.bin .add (.var 3) (.cI 1)) (.bin .mod (.var 5) (.cI 5)))) (.nil)) (.cons (.iff (.cmp .eq (.var 4) (.cI 5)) (.cons (.asg (.one 7) (.idx (.lst (.cons (.cI 0) (.cons (.cI 1) (.cons (.bin .sub (.bin .shl (.cI 1) (.idx (.var 0) (.cI 1))) (.cI 1)) (.cons (.bin .shl (.cI 1) (.idx (.var 0) (.cI 1))) (.cons (.bin .sub (.var 3) (.cI 1)) (.cons (.var 3) (.nil)))))))) (.bin .mod (.var 5) (.cI 6)))) (.nil)) (.cons (.asg (.one 8) (.bin .add (.bin .sub (.bin .shl (.cI 1) (.bin .sub (.idx (.var 0) (.cI 0)) (.cI 1))) (.cI 5)) (.bin .mod (.var 5) (.cI 9)))) (.cons (.asg (.one 8) (.bi .max2 (.cons (.cI 0) (.cons (.bi .min2 (.cons (.var 8) (.cons (.bin .sub (.bin .shl (.cI 1) (.idx (.var 0) (.cI 0))) (.cI 1)) (.nil)))) (.nil))))) (.cons (.asg (.one 7) (.bin .add (.bin .shl (.var 8) (.idx (.var 0) (.cI 1))) (.call 47 (.cons (.bin .fdv (.var 5) (.cI 9)) (.cons (.bin .shl (.cI 1) (.idx (.var 0) (.cI 1))) (.nil)))))) (.nil))))) (.nil))) (.nil))) (.cons (.ret (.bin .add (.bin .mul (.var 6) (.var 2)) (.var 7))) (.nil))))))))), false⟩
/-! 49: _law_odd_by(_law_size, _law_cell); slots 0 _law_size, 1 _law_cell, 2 _law_top, 3 _law_last, 4 _law_way, 5 _law_rest, 6 _law_first -/
def fn49 : FI := ⟨2, 7, .cons (.asg (.one 2) (.bin .shl (.cI 1) (.bin .add (.idx (.var 0) (.cI 0)) (.idx (.var 0) (.cI 1))))) (.cons (.asg (.one 3) (.bin .shl (.bin .sub (.bin .shl (.cI 1) (.idx (.var 0) (.cI 0))) (.cI 1)) (.idx (.var 0) (.cI 1)))) (.cons (.asg (.one 4) (.bin .mod (.var 1) (.cI 5))) (.cons (.asg (.one 5) (.bin .fdv (.var 1) (.cI 5))) (.cons (.asg (.one 6) (.bin .mul (.bin .mod (.var 5) (.cI 2)) (.var 2))) (.cons (.iff (.cmp .eq (.var 4) (.cI 0)) (.cons (.ret (.bin .add (.bin .add (.bin .add (.var 6) (.var 3)) (.cI 1)) (.bin .mod (.bin .fdv (.var 5) (.cI 2)) (.bin .sub (.bin .shl (.cI 1) (.idx (.var 0) (.cI 1))) (.cI 1))))) (.nil)) (.nil)) (.cons (.iff (.cmp .eq (.var 4) (.cI 1)) (.cons (.ret (.bin .add (.var 6) (.var 3))) (.nil)) (.nil)) (.cons (.iff (.cmp .eq (.var 4) (.cI 2)) (.cons (.ret (.var 6)) (.nil)) (.nil)) (.cons (.ret (.call 48 (.cons (.var 0) (.cons (.var 5) (.nil))))) (.nil))))))))), false⟩
/-! 50: _law_near_by(_law_size, _law_bits, _law_cell); slots 0 _law_size, 1 _law_bits, 2 _law_cell, 3 _law_top, 4 _law_way, 5 _law_rest, 6 _law_field, 7 _law_code -/
def fn50 : FI := ⟨3, 8, .cons (.asg (.one 3) (.bin .shl (.cI 1) (.bin .add (.idx (.var 0) (.cI 0)) (.idx (.var 0) (.cI 1))))) (.cons (.asg (.one 4) (.bin .mod (.var 2) (.cI 9))) (.cons (.asg (.one 5) (.bin .fdv (.var 2) (.cI 9))) (.cons (.iff (.cmp .eq (.var 4) (.cI 0)) (.cons (.ret (.bin .xor (.var 1) (.var 3))) (.nil)) (.nil)) (.cons (.iff (.cmp .eq (.var 4) (.cI 1)) (.cons (.ret (.bin .xor (.var 1) (.bin .mod (.var 5) (.cI 8)))) (.nil)) (.nil)) (.cons (.iff (.cmp .eq (.var 4) (.cI 2)) (.cons (.ret (.bin .xor (.bin .xor (.var 1) (.var 3)) (.bin .mod (.var 5) (.cI 8)))) (.nil)) (.nil)) (.cons (.iff (.cmp .eq (.var 4) (.cI 3)) (.cons (.ret (.bin .mod (.bin .sub (.bin .add (.var 1) (.bin .mod (.var 5) (.cI 17))) (.cI 8)) (.bin .mul (.cI 2) (.var 3)))) (.nil)) (.nil)) (.cons (.iff (.cmp .eq (.var 4) (.cI 4)) (.cons (.ret (.bin .xor (.var 1) (.bin .shl (.bin .mod (.var 5) (.bin .shl (.cI 2) (.idx (.var 0) (.cI 0)))) (.idx (.var 0) (.cI 1))))) (.nil)) (.nil)) (.cons (.iff (.cmp .eq (.var 4) (.cI 5)) (.cons (.asg (.one 6) (.bi .max2 (.cons (.cI 0) (.cons (.bin .sub (.bin .add (.bin .sub (.bin .shr (.bin .mod (.var 1) (.var 3)) (.idx (.var 0) (.cI 1))) (.idx (.var 0) (.cI 1))) (.bin .mod (.var 5) (.cI 3))) (.cI 2)) (.nil))))) (.cons (.asg (.one 7) (.bi .max2 (.cons (.cI 0) (.cons (.bin .sub (.bin .add (.bin .shl (.var 6) (.idx (.var 0) (.cI 1))) (.bin .mod (.bin .fdv (.var 5) (.cI 6)) (.cI 3))) (.cI 1)) (.nil))))) (.cons (.ret (.bin .add (.bin .mul (.bin .mod (.bin .fdv (.var 5) (.cI 3)) (.cI 2)) (.var 3)) (.var 7))) (.nil)))) (.nil)) (.cons (.ret (.call 48 (.cons (.var 0) (.cons (.var 5) (.nil))))) (.nil)))))))))), false⟩
/-! 51: _law_mate_by(_law_size, _law_bits, _law_cell, _law_turned); slots 0 _law_size, 1 _law_bits, 2 _law_cell, 3 _law_turned, 4 _law_top, 5 _law_middle, 6 _law_way, 7 _law_rest, 8 _law_goal, 9 _law_field, 10 _law_figures -/
def fn51 : FI := ⟨4, 11, .cons (.asg (.one 4) (.bin .shl (.cI 1) (.bin .add (.idx (.var 0) (.cI 0)) (.idx (.var 0) (.cI 1))))) (.cons (.asg (.one 5) (.bin .sub (.bin .shl (.cI 1) (.bin .sub (.idx (.var 0) (.cI 0)) (.cI 1))) (.cI 1))) (.cons (.asg (.one 6) (.bin .mod (.var 2) (.cI 9))) (.cons (.asg (.one 7) (.bin .fdv (.var 2) (.cI 9))) (.cons (.iff (.cmp .lt (.var 6) (.cI 5)) (.cons (.asg (.one 8) (.bin .sub (.bin .sub (.bin .mod (.var 7) (.bin .add (.idx (.var 0) (.cI 1)) (.cI 8))) (.idx (.var 0) (.cI 1))) (.cI 4))) (.cons (.iff (.cmp .lt (.var 6) (.cI 2)) (.cons (.asg (.one 8) (.bin .add (.bin .sub (.bin .shl (.cI 1) (.idx (.var 0) (.cI 0))) (.cI 5)) (.bin .mod (.var 7) (.cI 7)))) (.nil)) (.nil)) (.cons (.asg (.one 9) (.bin .shr (.bin .mod (.var 1) (.var 4)) (.idx (.var 0) (.cI 1)))) (.cons (.iff (.var 3) (.cons (.asg (.one 8) (.bin .sub (.var 9) (.var 8))) (.nil)) (.cons (.asg (.one 8) (.bin .sub (.var 8) (.var 9))) (.nil))) (.cons (.asg (.one 9) (.bi .max2 (.cons (.cI 0) (.cons (.bi .min2 (.cons (.bin .add (.var 5) (.var 8)) (.cons (.bin .mul (.cI 2) (.var 5)) (.nil)))) (.nil))))) (.cons (.asg (.one 10) (.idx (.lst (.cons (.cI 0) (.cons (.bin .shl (.cI 1) (.bin .sub (.idx (.var 0) (.cI 1)) (.cI 1))) (.cons (.bin .sub (.bin .shl (.cI 1) (.idx (.var 0) (.cI 1))) (.cI 1)) (.cons (.call 47 (.cons (.var 7) (.cons (.bin .shl (.cI 1) (.idx (.var 0) (.cI 1))) (.nil)))) (.nil)))))) (.bin .mod (.bin .fdv (.var 7) (.cI 3)) (.cI 4)))) (.cons (.ret (.bin .add (.bin .add (.bin .mul (.bin .mod (.bin .fdv (.var 7) (.cI 5)) (.cI 2)) (.var 4)) (.bin .shl (.var 9) (.idx (.var 0) (.cI 1)))) (.var 10))) (.nil)))))))) (.nil)) (.cons (.iff (.cmp .eq (.var 6) (.cI 5)) (.cons (.ret (.bin .xor (.var 1) (.bin .mul (.bin .mod (.var 7) (.cI 2)) (.var 4)))) (.nil)) (.nil)) (.cons (.iff (.cmp .eq (.var 6) (.cI 6)) (.cons (.ret (.call 49 (.cons (.var 0) (.cons (.var 7) (.nil))))) (.nil)) (.nil)) (.cons (.ret (.call 48 (.cons (.var 0) (.cons (.var 7) (.nil))))) (.nil)))))))), false⟩
/-! 52: _law_square_by(_law_size, _law_cell); slots 0 _law_size, 1 _law_cell, 2 _law_last, 3 _law_side, 4 _law_whole_here, 5 _law_spare, 6 _law_steps, 7 _law_power -/
def fn52 : FI := ⟨2, 8, .cons (.asg (.one 2) (.bin .shl (.bin .sub (.bin .shl (.cI 1) (.idx (.var 0) (.cI 0))) (.cI 1)) (.idx (.var 0) (.cI 1)))) (.cons (.asg (.one 3) (.bin .mod (.var 1) (.bin .shl (.cI 1) (.bin .fdv (.bin .add (.idx (.var 0) (.cI 1)) (.cI 1)) (.cI 2))))) (.cons (.iff (.cmp .eq (.var 3) (.cI 0)) (.cons (.ret (.cI 0)) (.nil)) (.nil)) (.cons (.asg (.one 4) (.bin .mul (.var 3) (.var 3))) (.cons (.asg (.one 5) (.bin .sub (.bin .add (.idx (.var 0) (.cI 1)) (.cI 1)) (.me .bitlen (.var 4) .nil))) (.cons (.asg (.one 6) (.bin .add (.bin .sub (.bin .shl (.cI 1) (.bin .sub (.idx (.var 0) (.cI 0)) (.cI 1))) (.cI 2)) (.idx (.var 0) (.cI 1)))) (.cons (.asg (.one 7) (.bin .sub (.bin .add (.bin .mul (.cI 2) (.bin .mod (.bin .fdv (.var 1) (.cI 7)) (.cI 3))) (.var 6)) (.var 5))) (.cons (.ret (.bi .min2 (.cons (.bin .add (.bin .shl (.var 7) (.idx (.var 0) (.cI 1))) (.bin .shl (.var 4) (.var 5))) (.cons (.bin .sub (.var 2) (.cI 1)) (.nil))))) (.nil)))))))), false⟩
/-! 53: _law_two(_law_found); slots 0 _law_found -/
def fn53 : FI := ⟨1, 1, .cons (.iff (.or (.not (.isT (.var 0) "tuple")) (.cmp .ne (.bi .len (.cons (.var 0) (.nil))) (.cI 2))) (.cons (.ret (.cB false)) (.nil)) (.nil)) (.cons (.ret (.and (.call 46 (.cons (.idx (.var 0) (.cI 0)) (.nil))) (.call 46 (.cons (.idx (.var 0) (.cI 1)) (.nil))))) (.nil)), false⟩
/-! 54: _law_narrow_by(_law_cell); slots 0 _law_cell -/
def fn54 : FI := ⟨1, 1, .cons (.iff (.cmp .eq (.bin .mod (.var 0) (.cI 4)) (.cI 0)) (.cons (.ret (.idx (.lst (.cons (.tup (.cons (.cI 5) (.cons (.cI 10) (.nil)))) (.cons (.tup (.cons (.cI 8) (.cons (.cI 23) (.nil)))) (.cons (.tup (.cons (.cI 11) (.cons (.cI 52) (.nil)))) (.cons (.tup (.cons (.cI 2) (.cons (.cI 54) (.nil)))) (.cons (.tup (.cons (.cI 13) (.cons (.cI 54) (.nil)))) (.cons (.tup (.cons (.cI 4) (.cons (.cI 3) (.nil)))) (.nil)))))))) (.bin .mod (.bin .fdv (.var 0) (.cI 4)) (.cI 6)))) (.nil)) (.nil)) (.cons (.iff (.cmp .eq (.bin .mod (.var 0) (.cI 4)) (.cI 1)) (.cons (.ret (.tup (.cons (.bin .add (.cI 2) (.bin .mod (.bin .fdv (.var 0) (.cI 4)) (.cI 12))) (.cons (.bin .add (.cI 1) (.bin .mod (.bin .fdv (.var 0) (.cI 48)) (.cI 54))) (.nil))))) (.nil)) (.nil)) (.cons (.ret (.tup (.cons (.bin .add (.cI 2) (.bin .mod (.bin .fdv (.var 0) (.cI 4)) (.cI 4))) (.cons (.bin .add (.cI 1) (.bin .mod (.bin .fdv (.var 0) (.cI 16)) (.cI 5))) (.nil))))) (.nil))), false⟩
/-! 55: _law_wide_by(_law_size, _law_cell); slots 0 _law_size, 1 _law_cell, 2 _law_field -/
def fn55 : FI := ⟨2, 3, .cons (.asg (.one 2) (.bin .add (.bin .add (.idx (.var 0) (.cI 0)) (.cI 2)) (.bin .mod (.bin .fdv (.var 1) (.cI 2)) (.bin .sub (.cI 14) (.idx (.var 0) (.cI 0)))))) (.cons (.iff (.cmp .eq (.bin .mod (.var 1) (.cI 2)) (.cI 0)) (.cons (.ret (.tup (.cons (.bin .add (.idx (.var 0) (.cI 0)) (.cI 2)) (.cons (.bin .add (.bin .mul (.cI 2) (.idx (.var 0) (.cI 1))) (.cI 4)) (.nil))))) (.nil)) (.nil)) (.cons (.ret (.tup (.cons (.var 2) (.cons (.bin .add (.bin .add (.bin .mul (.cI 2) (.idx (.var 0) (.cI 1))) (.cI 4)) (.bin .mod (.bin .fdv (.var 1) (.cI 24)) (.bin .sub (.cI 109) (.bin .mul (.cI 2) (.idx (.var 0) (.cI 1)))))) (.nil))))) (.nil))), false⟩
/-! 56: _law_told(_law_which, _law_size, _law_a, _law_b); slots 0 _law_which, 1 _law_size, 2 _law_a, 3 _law_b -/
def fn56 : FI := ⟨4, 4, .cons (.iff (.cmp .eq (.var 0) (.cI 0)) (.cons (.ret (.call 40 (.cons (.var 1) (.cons (.cS "even") (.cons (.var 2) (.cons (.var 3) (.nil))))))) (.nil)) (.nil)) (.cons (.iff (.cmp .eq (.var 0) (.cI 1)) (.cons (.ret (.call 41 (.cons (.var 1) (.cons (.cS "even") (.cons (.var 2) (.cons (.var 3) (.nil))))))) (.nil)) (.nil)) (.cons (.iff (.cmp .eq (.var 0) (.cI 2)) (.cons (.ret (.call 42 (.cons (.var 1) (.cons (.cS "even") (.cons (.var 2) (.cons (.var 3) (.nil))))))) (.nil)) (.nil)) (.cons (.iff (.cmp .eq (.var 0) (.cI 3)) (.cons (.ret (.call 43 (.cons (.var 1) (.cons (.cS "even") (.cons (.var 2) (.cons (.var 3) (.nil))))))) (.nil)) (.nil)) (.cons (.ret (.call 44 (.cons (.var 1) (.cons (.cS "even") (.cons (.var 2) (.nil)))))) (.nil))))), false⟩
/-! 57: _law_same(_law_which, _law_size, _law_wide, _law_a, _law_b); slots 0 _law_which, 1 _law_size, 2 _law_wide, 3 _law_a, 4 _law_b, 5 _law_one, 6 _law_other, 7 _law_straight, 8 _law_there, 9 _law_back -/
def fn57 : FI := ⟨5, 10, .cons (.asg (.one 5) (.call 30 (.cons (.var 1) (.cons (.var 2) (.cons (.cS "even") (.cons (.var 3) (.nil))))))) (.cons (.asg (.one 6) (.call 30 (.cons (.var 1) (.cons (.var 2) (.cons (.cS "even") (.cons (.var 4) (.nil))))))) (.cons (.asg (.one 7) (.call 56 (.cons (.var 0) (.cons (.var 1) (.cons (.var 3) (.cons (.var 4) (.nil))))))) (.cons (.iff (.or (.not (.call 53 (.cons (.var 5) (.nil)))) (.or (.not (.call 53 (.cons (.var 6) (.nil)))) (.not (.call 53 (.cons (.var 7) (.nil)))))) (.cons (.ret (.cB false)) (.nil)) (.nil)) (.cons (.asg (.one 8) (.call 56 (.cons (.var 0) (.cons (.var 2) (.cons (.idx (.var 5) (.cI 0)) (.cons (.idx (.var 6) (.cI 0)) (.nil))))))) (.cons (.iff (.not (.call 53 (.cons (.var 8) (.nil)))) (.cons (.ret (.cB false)) (.nil)) (.nil)) (.cons (.asg (.one 9) (.call 30 (.cons (.var 2) (.cons (.var 1) (.cons (.cS "even") (.cons (.idx (.var 8) (.cI 0)) (.nil))))))) (.cons (.iff (.or (.not (.call 53 (.cons (.var 9) (.nil)))) (.or (.cmp .ne (.idx (.var 5) (.cI 1)) (.cI 0)) (.cmp .ne (.idx (.var 6) (.cI 1)) (.cI 0)))) (.cons (.ret (.cB false)) (.nil)) (.nil)) (.cons (.ret (.and (.cmp .eq (.idx (.var 9) (.cI 0)) (.idx (.var 7) (.cI 0))) (.cmp .eq (.bin .or (.idx (.var 8) (.cI 1)) (.idx (.var 9) (.cI 1))) (.idx (.var 7) (.cI 1))))) (.nil))))))))), false⟩
/-! 58: law(_law_script); slots 0 _law_script, 1 _law_size, 2 _law_wide, 3 _law_k, 4 _law_which, 5 _law_a, 6 _law_b -/
def w58_0 : Ss := .cons (.asg (.one 4) (.bin .mod (.call 45 (.cons (.var 0) (.cons (.var 3) (.nil)))) (.cI 5))) (.cons (.asg (.one 5) (.call 48 (.cons (.var 1) (.cons (.bin .fdv (.call 45 (.cons (.var 0) (.cons (.var 3) (.nil)))) (.cI 5)) (.nil))))) (.cons (.iff (.and (.cmp .eq (.var 4) (.cI 4)) (.cmp .eq (.bin .mod (.call 45 (.cons (.var 0) (.cons (.bin .add (.var 3) (.cI 1)) (.nil)))) (.cI 3)) (.cI 0))) (.cons (.asg (.one 5) (.call 52 (.cons (.var 1) (.cons (.bin .fdv (.call 45 (.cons (.var 0) (.cons (.bin .add (.var 3) (.cI 1)) (.nil)))) (.cI 3)) (.nil))))) (.nil)) (.nil)) (.cons (.asg (.one 6) (.call 51 (.cons (.var 1) (.cons (.var 5) (.cons (.call 45 (.cons (.var 0) (.cons (.bin .add (.var 3) (.cI 1)) (.nil)))) (.cons (.cmp .eq (.var 4) (.cI 3)) (.nil))))))) (.cons (.iff (.cmp .lt (.var 4) (.cI 2)) (.cons (.asg (.one 6) (.call 50 (.cons (.var 1) (.cons (.var 5) (.cons (.call 45 (.cons (.var 0) (.cons (.bin .add (.var 3) (.cI 1)) (.nil)))) (.nil)))))) (.nil)) (.nil)) (.cons (.iff (.not (.call 57 (.cons (.var 4) (.cons (.var 1) (.cons (.var 2) (.cons (.var 5) (.cons (.var 6) (.nil)))))))) (.cons (.ret (.cB false)) (.nil)) (.nil)) (.nil))))))
@[simp] theorem w58_0e (T : Tab) (C : Nat → List MV → HP → R MV) (e : EN) (h : HP) : exSs T C w58_0 e h = exSs T C (.cons (.asg (.one 4) (.bin .mod (.call 45 (.cons (.var 0) (.cons (.var 3) (.nil)))) (.cI 5))) (.cons (.asg (.one 5) (.call 48 (.cons (.var 1) (.cons (.bin .fdv (.call 45 (.cons (.var 0) (.cons (.var 3) (.nil)))) (.cI 5)) (.nil))))) (.cons (.iff (.and (.cmp .eq (.var 4) (.cI 4)) (.cmp .eq (.bin .mod (.call 45 (.cons (.var 0) (.cons (.bin .add (.var 3) (.cI 1)) (.nil)))) (.cI 3)) (.cI 0))) (.cons (.asg (.one 5) (.call 52 (.cons (.var 1) (.cons (.bin .fdv (.call 45 (.cons (.var 0) (.cons (.bin .add (.var 3) (.cI 1)) (.nil)))) (.cI 3)) (.nil))))) (.nil)) (.nil)) (.cons (.asg (.one 6) (.call 51 (.cons (.var 1) (.cons (.var 5) (.cons (.call 45 (.cons (.var 0) (.cons (.bin .add (.var 3) (.cI 1)) (.nil)))) (.cons (.cmp .eq (.var 4) (.cI 3)) (.nil))))))) (.cons (.iff (.cmp .lt (.var 4) (.cI 2)) (.cons (.asg (.one 6) (.call 50 (.cons (.var 1) (.cons (.var 5) (.cons (.call 45 (.cons (.var 0) (.cons (.bin .add (.var 3) (.cI 1)) (.nil)))) (.nil)))))) (.nil)) (.nil)) (.cons (.iff (.not (.call 57 (.cons (.var 4) (.cons (.var 1) (.cons (.var 2) (.cons (.var 5) (.cons (.var 6) (.nil)))))))) (.cons (.ret (.cB false)) (.nil)) (.nil)) (.nil))))))) e h := rfl
def fn58 : FI := ⟨1, 7, .cons (.asg (.one 1) (.call 54 (.cons (.call 45 (.cons (.var 0) (.cons (.cI 0) (.nil)))) (.nil)))) (.cons (.asg (.one 2) (.call 55 (.cons (.var 1) (.cons (.call 45 (.cons (.var 0) (.cons (.cI 1) (.nil)))) (.nil))))) (.cons (.fr (.one 3) (.rng3 (.cI 2) (.bi .max2 (.cons (.cI 4) (.cons (.bi .len (.cons (.var 0) (.nil))) (.nil)))) (.cI 2)) w58_0) (.cons (.ret (.cB true)) (.nil)))), false⟩
def d0 : FD := ⟨("width", none), "width", "width", ["size"], top 12, fn0⟩
def d1 : FD := ⟨("bias", none), "bias", "bias", ["size"], top 13, fn1⟩
def d2 : FD := ⟨("low", none), "low", "low", ["size"], top 14, fn2⟩
def d3 : FD := ⟨("sign_bit", none), "sign_bit", "sign_bit", ["size"], top 15, fn3⟩
def d4 : FD := ⟨("endless", none), "endless", "endless", ["size"], top 16, fn4⟩
def d5 : FD := ⟨("no_number", none), "no_number", "no_number", ["size"], top 17, fn5⟩
def d6 : FD := ⟨("parted", none), "parted", "parted", ["size", "bits", "sign", "code", "field", "figures"], top 19, fn6⟩
def d7 : FD := ⟨("kind", none), "kind", "kind", ["size", "bits", "sign", "field", "figures"], top 20, fn7⟩
def d8 : FD := ⟨("worth", none), "worth", "worth", ["size", "bits", "sign", "field", "figures"], top 21, fn8⟩
def d9 : FD := ⟨("fraction", none), "fraction", "fraction", ["size", "bits", "sign", "whole", "power"], top 22, fn9⟩
def d10 : FD := ⟨("negated", none), "negated", "negated", ["size", "bits"], top 23, fn10⟩
def d11 : FD := ⟨("Way", some "grows"), "grows", "Way.grows", ["self", "sign", "odd", "rest"], inClass (top 25) 0, fn11⟩
def d12 : FD := ⟨("Way", some "bursts"), "bursts", "Way.bursts", ["self", "sign"], inClass (top 25) 1, fn12⟩
def d13 : FD := ⟨("Nearest", some "grows"), "grows", "Nearest.grows", ["self", "sign", "odd", "rest"], inClass (top 26) 0, fn13⟩
def d14 : FD := ⟨("Nearest", some "grows_midway"), "grows_midway", "Nearest.grows_midway", ["self", "odd"], inClass (top 26) 1, fn14⟩
def d15 : FD := ⟨("Nearest", some "bursts"), "bursts", "Nearest.bursts", ["self", "sign"], inClass (top 26) 2, fn15⟩
def d16 : FD := ⟨("NearestAway", some "grows_midway"), "grows_midway", "NearestAway.grows_midway", ["self", "odd"], inClass (top 27) 0, fn16⟩
def d17 : FD := ⟨("Outward", some "__init__"), "__init__", "Outward.__init__", ["self", "sign"], inClass (top 28) 0, fn17⟩
def d18 : FD := ⟨("Outward", some "grows"), "grows", "Outward.grows", ["self", "sign", "odd", "rest"], inClass (top 28) 1, fn18⟩
def d19 : FD := ⟨("Outward", some "bursts"), "bursts", "Outward.bursts", ["self", "sign"], inClass (top 28) 2, fn19⟩
def d20 : FD := ⟨("way_of", none), "way_of", "way_of", ["name"], top 29, fn20⟩
def d21 : FD := ⟨("asked_fraction", none), "asked_fraction", "asked_fraction", ["top", "bottom"], top 31, fn21⟩
def d22 : FD := ⟨("ahead", none), "ahead", "ahead", ["top", "bottom", "power", "tall", "wide"], top 32, fn22⟩
def d23 : FD := ⟨("scaled", none), "scaled", "scaled", ["top", "bottom", "power"], top 33, fn23⟩
def d24 : FD := ⟨("rest_of", none), "rest_of", "rest_of", ["left", "half"], top 34, fn24⟩
def d25 : FD := ⟨("cut", none), "cut", "cut", ["size", "top", "bottom", "power", "tall", "wide", "whole", "left"], top 35, fn25⟩
def d26 : FD := ⟨("whole_root", none), "whole_root", "whole_root", ["number", "guess", "better"], top 36, fn26⟩
def d27 : FD := ⟨("root_cut", none), "root_cut", "root_cut", ["size", "top", "bottom", "power", "whole", "middle", "tall", "wide"], top 37, fn27⟩
def d28 : FD := ⟨("settled", none), "settled", "settled", ["size", "way", "sign", "whole", "power", "rest", "rule", "first", "code", "flags"], top 39, fn28⟩
def d29 : FD := ⟨("rounded", none), "rounded", "rounded", ["size", "way", "sign", "top", "bottom", "whole", "power", "rest"], top 40, fn29⟩
def d30 : FD := ⟨("changed", none), "changed", "changed", ["size", "other", "way", "bits", "sort", "sign", "top", "bottom"], top 42, fn30⟩
def d31 : FD := ⟨("total", none), "total", "total", ["terms", "least", "exact", "sign", "whole", "power", "part", "term"], top 44, fn31⟩
def d32 : FD := ⟨("nought_sign", none), "nought_sign", "nought_sign", ["way", "signs"], top 45, fn32⟩
def d33 : FD := ⟨("settled_total", none), "settled_total", "settled_total", ["size", "way", "terms", "sign", "whole", "power", "term"], top 46, fn33⟩
def d34 : FD := ⟨("kinds_of", none), "kinds_of", "kinds_of", ["size", "way", "numbers", "bits"], top 48, fn34⟩
def d35 : FD := ⟨("gone_wrong", none), "gone_wrong", "gone_wrong", ["size"], top 49, fn35⟩
def d36 : FD := ⟨("endless_with", none), "endless_with", "endless_with", ["size", "sign"], top 50, fn36⟩
def d37 : FD := ⟨("term_of", none), "term_of", "term_of", ["size", "bits", "sign", "whole", "power"], top 51, fn37⟩
def d38 : FD := ⟨("product_term", none), "product_term", "product_term", ["size", "a", "b", "one", "two", "sign", "term"], top 52, fn38⟩
def d39 : FD := ⟨("sum_of_terms", none), "sum_of_terms", "sum_of_terms", ["size", "way", "terms", "signs", "worths", "sort", "sign", "whole", "power"], top 53, fn39⟩
def d40 : FD := ⟨("added", none), "added", "added", ["size", "way", "a", "b"], top 54, fn40⟩
def d41 : FD := ⟨("taken", none), "taken", "taken", ["size", "way", "a", "b"], top 55, fn41⟩
def d42 : FD := ⟨("multiplied", none), "multiplied", "multiplied", ["size", "way", "a", "b"], top 56, fn42⟩
def d43 : FD := ⟨("divided", none), "divided", "divided", ["size", "way", "a", "b", "kinds", "sign", "one", "two"], top 57, fn43⟩
def d44 : FD := ⟨("rooted", none), "rooted", "rooted", ["size", "way", "a", "sort", "part", "whole", "power", "rest"], top 58, fn44⟩
def d45 : FD := ⟨("_law_cell_at", none), "_law_cell_at", "_law_cell_at", ["_law_script", "_law_k"], top 60, fn45⟩
def d46 : FD := ⟨("_law_whole", none), "_law_whole", "_law_whole", ["_law_found"], top 61, fn46⟩
def d47 : FD := ⟨("_law_mixed", none), "_law_mixed", "_law_mixed", ["_law_cell", "_law_many"], top 62, fn47⟩
def d48 : FD := ⟨("_law_bits_by", none), "_law_bits_by", "_law_bits_by", ["_law_size", "_law_cell", "_law_top", "_law_last", "_law_way", "_law_rest", "_law_sign", "_law_code", "_law_field"], top 63, fn48⟩
def d49 : FD := ⟨("_law_odd_by", none), "_law_odd_by", "_law_odd_by", ["_law_size", "_law_cell", "_law_top", "_law_last", "_law_way", "_law_rest", "_law_first"], top 64, fn49⟩
def d50 : FD := ⟨("_law_near_by", none), "_law_near_by", "_law_near_by", ["_law_size", "_law_bits", "_law_cell", "_law_top", "_law_way", "_law_rest", "_law_field", "_law_code"], top 65, fn50⟩
def d51 : FD := ⟨("_law_mate_by", none), "_law_mate_by", "_law_mate_by", ["_law_size", "_law_bits", "_law_cell", "_law_turned", "_law_top", "_law_middle", "_law_way", "_law_rest", "_law_goal", "_law_field", "_law_figures"], top 66, fn51⟩
def d52 : FD := ⟨("_law_square_by", none), "_law_square_by", "_law_square_by", ["_law_size", "_law_cell", "_law_last", "_law_side", "_law_whole_here", "_law_spare", "_law_steps", "_law_power"], top 67, fn52⟩
def d53 : FD := ⟨("_law_two", none), "_law_two", "_law_two", ["_law_found"], top 68, fn53⟩
def d54 : FD := ⟨("_law_narrow_by", none), "_law_narrow_by", "_law_narrow_by", ["_law_cell"], top 69, fn54⟩
def d55 : FD := ⟨("_law_wide_by", none), "_law_wide_by", "_law_wide_by", ["_law_size", "_law_cell", "_law_field"], top 70, fn55⟩
def d56 : FD := ⟨("_law_told", none), "_law_told", "_law_told", ["_law_which", "_law_size", "_law_a", "_law_b"], top 71, fn56⟩
def d57 : FD := ⟨("_law_same", none), "_law_same", "_law_same", ["_law_which", "_law_size", "_law_wide", "_law_a", "_law_b", "_law_one", "_law_other", "_law_straight", "_law_there", "_law_back"], top 72, fn57⟩
def d58 : FD := ⟨("law", none), "law", "law", ["_law_script", "_law_size", "_law_wide", "_law_k", "_law_which", "_law_a", "_law_b"], top 73, fn58⟩
def mtl : List (Nat × PySem.Str × Nat) := [(5, "bursts", 12), (5, "grows", 11), (6, "bursts", 15), (6, "grows", 13), (6, "grows_midway", 14), (7, "bursts", 15), (7, "grows", 13), (7, "grows_midway", 16), (8, "bursts", 19), (8, "grows", 18)]
def inl : List (Nat × Nat) := [(8, 17)]
def tab : Tab := mkT [true, true, true, true, true, false, false, false, false] [false, true, true, true, true, false, false, false, false] [[true, false, false, false, false, false, false, false, false], [true, true, false, false, false, false, false, false, false], [true, false, true, false, false, false, false, false, false], [true, false, false, true, false, false, false, false, false], [true, false, false, false, true, false, false, false, false], [false, false, false, false, false, true, false, false, false], [false, false, false, false, false, true, true, false, false], [false, false, false, false, false, true, true, true, false], [false, false, false, false, false, true, false, false, true]] [false, false, false, false, false, true, true, true, true] [false, false, false, false, false, true, true, true, false] [[], [], [], [], [], [], [], [], ["outward_sign"]] mtl inl
def p : PD := { mts := mtl, inis := inl, fds := [d0, d1, d2, d3, d4, d5, d6, d7, d8, d9, d10, d11, d12, d13, d14, d15, d16, d17, d18, d19, d20, d21, d22, d23, d24, d25, d26, d27, d28, d29, d30, d31, d32, d33, d34, d35, d36, d37, d38, d39, d40, d41, d42, d43, d44, d45, d46, d47, d48, d49, d50, d51, d52, d53, d54, d55, d56, d57, d58], cls := ["MillError", "NoBits", "NotFinite", "NoWay", "NoFraction", "Way", "Nearest", "NearestAway", "Outward"], free := ["bool", "divmod", "int", "isinstance", "len", "max", "min", "range", "tuple"], gI := [("GREAT", 4), ("INEXACT", 1), ("POLE", 8), ("SMALL", 2), ("WRONG", 16)], gS := [], T := tab }
theorem okp : p.fds.all (fun d => d.ok p) = true := by decide +kernel
theorem inc : p.inCls := mkT_in rfl rfl
theorem tbs : p.tabs := mkT_tabs rfl rfl
abbrev Rw : PySem.W.OpenRow := PySem.W.OpenLaw.row PySem.Challenge.rw_roundmill_k64_whole_wide
def ob (s : PySem.W.SharedT) : He.AlD := p.obsG 4 (HandSHeadRun.getT s)
theorem ob_eq (s : PySem.W.SharedT) : ob s = (p.hook 4).obs s.abs := PD.obsG_eq (HandSHeadRun.getT_eq s)
def nm0 : List PySem.Str := ["MillError", "NoBits", "NotFinite", "NoWay", "NoFraction", "INEXACT", "SMALL", "GREAT", "POLE", "WRONG", "width", "bias", "low", "sign_bit", "endless", "no_number", "parted", "kind", "worth", "fraction", "negated", "Way", "Nearest", "NearestAway", "Outward", "way_of", "asked_fraction", "ahead", "scaled", "rest_of"]
def nm1 : List PySem.Str := ["cut", "whole_root", "root_cut", "settled", "rounded", "changed", "total", "nought_sign", "settled_total", "kinds_of", "gone_wrong", "endless_with", "term_of", "product_term", "sum_of_terms", "added", "taken", "multiplied", "divided", "rooted", "_law_cell_at", "_law_whole", "_law_mixed", "_law_bits_by", "_law_odd_by", "_law_near_by", "_law_mate_by", "_law_square_by", "_law_two", "_law_narrow_by"]
def nm2 : List PySem.Str := ["_law_wide_by", "_law_told", "_law_same"]
def names : List PySem.Str := nm0 ++ nm1 ++ nm2
theorem runH (w : World) : HandSHeadRun.RunEq Rw (PySem.W.view Rw.prog [73]) (p.hook 4) ob 12560 names w := by
  intro os
  kernel_rfl
end Pg

namespace Pg
open PySem L2 Rm
open PySem.Builtin.Int (intBits)
/-! powers of two: quotients and rests -/
theorem p2 (n : Nat) : (0 : Int) < 2 ^ n := Int.pow_pos (by decide)
theorem div_div (b : Int) (m n : Nat) : b / 2 ^ m / 2 ^ n = b / 2 ^ (m + n) := by
  rw [Int.ediv_ediv_of_nonneg (Int.le_of_lt (p2 m)), Int.pow_add]
theorem mod_split {b F W : Int} (hF : 0 < F) (hW : 0 < W) : b % (F * W) = F * (b / F % W) + b % F := by
  have e1 := Int.mul_ediv_add_emod b F
  have e2 := Int.mul_ediv_add_emod (b / F) W
  have r1 := Int.emod_nonneg b (Int.ne_of_gt hF)
  have r2 := Int.emod_lt_of_pos b hF
  have r3 := Int.emod_nonneg (b / F) (Int.ne_of_gt hW)
  have r4 := Int.emod_lt_of_pos (b / F) hW
  have h := (Int.ediv_emod_unique (a := b) (b := F * W) (r := F * (b / F % W) + b % F) (q := b / F / W) (Int.mul_pos hF hW)).mpr
  refine (h ⟨?_, ?_, ?_⟩).2
  · generalize b / F / W = q at *
    generalize b / F % W = r at *
    generalize b % F = t at *
    generalize b / F = u at *
    subst e2
    rw [← e1]
    grind
  · have := Int.mul_nonneg (Int.le_of_lt hF) r3; omega
  · have : F * (b / F % W) ≤ F * (W - 1) := Int.mul_le_mul_of_nonneg_left (by omega) (Int.le_of_lt hF)
    rw [Int.mul_sub] at this; omega
theorem mod_div_pow (b : Int) (w f : Nat) : b % 2 ^ (w + f) / 2 ^ f = b / 2 ^ f % 2 ^ w := by
  have e : (2 : Int) ^ (w + f) = 2 ^ f * 2 ^ w := by rw [Int.pow_add, Int.mul_comm]
  rw [e, mod_split (p2 f) (p2 w), Int.mul_add_ediv_left _ _ (Int.ne_of_gt (p2 f))]
  rw [Int.ediv_eq_zero_of_lt (Int.emod_nonneg _ (Int.ne_of_gt (p2 f))) (Int.emod_lt_of_pos _ (p2 f)), Int.add_zero]
theorem mod_mod_pow (b : Int) (w f : Nat) : b % 2 ^ (w + f) % 2 ^ f = b % 2 ^ f := by
  have e : (2 : Int) ^ (w + f) = 2 ^ f * 2 ^ w := by rw [Int.pow_add, Int.mul_comm]
  rw [e]
  exact Int.emod_emod_of_dvd b (Int.dvd_mul_right _ _)
theorem pow_le_div {b : Int} {n : Nat} (h : 2 ^ n ≤ b) : ¬ b / 2 ^ n = 0 := by
  have := (Int.le_ediv_iff_mul_le (c := 2 ^ n) (a := 1) (b := b) (p2 n)).mpr (by omega)
  omega
theorem div_lt_pow {b : Int} {m n : Nat} (h : b < 2 ^ (m + n)) : b / 2 ^ n < 2 ^ m := (Int.ediv_lt_iff_lt_mul (p2 n)).mpr (by rw [← Int.pow_add]; exact h)
theorem dn {b : Int} (n : Nat) (h : 0 ≤ b) : 0 ≤ b / 2 ^ n := Int.ediv_nonneg h (Int.le_of_lt (p2 n))
theorem mn (b : Int) (n : Nat) : 0 ≤ b % 2 ^ n ∧ b % 2 ^ n < 2 ^ n := ⟨Int.emod_nonneg _ (Int.ne_of_gt (p2 n)), Int.emod_lt_of_pos _ (p2 n)⟩
theorem pow_s (n : Nat) : (2 : Int) ^ (n + 1) = 2 * 2 ^ n := by rw [Int.pow_succ, Int.mul_comm]
@[simp] theorem eqM_t3 (h : HP) (a b c a' b' c' : Int) : eqM h (.tup [.int a, .int b, .int c]) (.tup [.int a', .int b', .int c']) = some (decide (a = a') && (decide (b = b') && decide (c = c'))) := by
  have (x y : Int) : (x == y) = decide (x = y) := rfl
  simp [eqM, flatD, lstD, toD, toDs, SeqAt.shaped, PyData.eqv, PyData.eqvAll, PyData.canLay0, PyData.canLayAll0, PyData.depth, PyData.depthAll, this]
end Pg

namespace Pg
open PySem L2 Rm
open PySem.Builtin.Int (intBits)
def cellAt (ns : List Int) (k : Nat) : Int := ns.getD k 0
theorem cellAt_bits {ns : List Int} (hn : ∀ z ∈ ns, intBits z ≤ 1048576) (k : Nat) : intBits (cellAt ns k) ≤ 1048576 := by
  unfold cellAt
  rw [List.getD_eq_getElem?_getD]
  rcases Nat.lt_or_ge k ns.length with z | z
  · rw [List.getElem?_eq_getElem z]; exact hn _ (List.getElem_mem z)
  · rw [List.getElem?_eq_none z]; decide
theorem s_cellat {ns : List Int} {i : Int} {k : Nat} (hk : i = k) (n : Nat) (h : HP) : run p.T p.fs (n + 1) 45 [.lst (ns.map .int), .int i] h = .ok (.int (cellAt ns k)) h := by
  subst hk
  rw [run_eq (F := fn45) rfl rfl]
  by_cases z : k < ns.length
  · have a : atI (ns.map MV.int) (k : Int) = some (.int (cellAt ns k)) := by
      rw [atI_nat (k := k) rfl (by simpa using z)]
      simp [cellAt, z]
    have z' : (k : Int) < (ns.length : Int) := by omega
    simp [fn45, a, z']
  · have z' : ¬ (k : Int) < (ns.length : Int) := by omega
    have : cellAt ns k = 0 := by simp [cellAt, Nat.le_of_not_lt z]
    simp [fn45, z', this]
end Pg

namespace Pg
open PySem L2 Rm
open PySem.Builtin.Int (intBits)
section
variable (w f : Nat) (hw : w ≤ 20) (hf : f ≤ 200) (n : Nat) (h : HP)
include hw hf
theorem s_width : run p.T p.fs (n + 1) 0 [.tup [.int w, .int f]] h = .ok (.int (w + f + 1)) h := by
  rw [run_eq (F := fn0) rfl rfl]; simp [fn0]
theorem s_sign_bit : run p.T p.fs (n + 1) 3 [.tup [.int w, .int f]] h = .ok (.int (2 ^ (w + f))) h := by
  have s := shlB_one (b := (w : Int) + f) (by omega) (by omega)
  rw [run_eq (F := fn3) rfl rfl]; simp [fn3, s]
theorem s_parted {b : Int} (h0 : 0 ≤ b) (h1 : b < 2 ^ (w + f + 1)) : run p.T p.fs (n + 2) 6 [.tup [.int w, .int f], .int b] h = .ok (.tup [.int (b / 2 ^ (w + f)), .int (b / 2 ^ f % 2 ^ w), .int (b % 2 ^ f)]) h := by
  rw [run_eq (F := fn6) rfl rfl]
  have z : b / 2 ^ (w + f + 1) = 0 := Int.ediv_eq_zero_of_lt h0 h1
  have nn : 0 ≤ (w : Int) + f + 1 := by omega
  have ng : ¬ b < 0 := by omega
  have s := shlB_one (b := (f : Int)) (by omega) (by omega)
  have d1 := dvB_pow (a := b) (n := w + f) (by omega)
  have d2 := dvB_pow (a := b % 2 ^ (w + f)) (n := f) (by omega)
  simp [fn6, s_width w f hw hf, s_sign_bit w f hw hf, z, nn, ng, s, d1, d2, mod_div_pow, mod_mod_pow]
theorem s_parted_no {b : Int} (hb : b < 0 ∨ 2 ^ (w + f + 1) ≤ b) : run p.T p.fs (n + 2) 6 [.tup [.int w, .int f], .int b] h = .exc (1, []) h := by
  rw [run_eq (F := fn6) rfl rfl]
  have nn : 0 ≤ (w : Int) + f + 1 := by omega
  have r : p.T.rz 1 = true := rfl
  by_cases ng : b < 0
  · simp [fn6, ng, r]
  · have z : ¬ b / 2 ^ (w + f + 1) = 0 := pow_le_div (by omega)
    simp [fn6, s_width w f hw hf, nn, ng, z, r]
end
end Pg

namespace Pg
open PySem L2 Rm
open PySem.Builtin.Int (intBits)
def fdOf (w f : Nat) (b : Int) : Int := b / 2 ^ f % 2 ^ w
def fgOf (f : Nat) (b : Int) : Int := b % 2 ^ f
theorem fd_b (w f : Nat) (b : Int) : 0 ≤ fdOf w f b ∧ fdOf w f b < 2 ^ w := mn _ _
theorem fg_b (f : Nat) (b : Int) : 0 ≤ fgOf f b ∧ fgOf f b < 2 ^ f := mn _ _
end Pg

namespace Pg
open PySem L2 Rm
open PySem.Builtin.Int (intBits)
theorem eqM_lit (h : HP) {a b : Str} (r : Bool) (e : (PyData.strOk a && PyData.strOk b && (decide (a = b) == r)) = true) : eqM h (.str a) (.str b) = some r := by
  simp only [Bool.and_eq_true, beq_iff_eq] at e
  rw [eqM_ss h e.1.1 e.1.2, e.2]
@[simp] theorem kq_endless_endless (h : HP) : eqM h (.str "endless") (.str "endless") = some true := eqM_lit h true (by decide +kernel)
@[simp] theorem kq_endless_none (h : HP) : eqM h (.str "endless") (.str "none") = some false := eqM_lit h false (by decide +kernel)
@[simp] theorem kq_endless_plain (h : HP) : eqM h (.str "endless") (.str "plain") = some false := eqM_lit h false (by decide +kernel)
@[simp] theorem kq_endless_nought (h : HP) : eqM h (.str "endless") (.str "nought") = some false := eqM_lit h false (by decide +kernel)
@[simp] theorem kq_endless_faint (h : HP) : eqM h (.str "endless") (.str "faint") = some false := eqM_lit h false (by decide +kernel)
@[simp] theorem kq_none_endless (h : HP) : eqM h (.str "none") (.str "endless") = some false := eqM_lit h false (by decide +kernel)
@[simp] theorem kq_none_none (h : HP) : eqM h (.str "none") (.str "none") = some true := eqM_lit h true (by decide +kernel)
@[simp] theorem kq_none_plain (h : HP) : eqM h (.str "none") (.str "plain") = some false := eqM_lit h false (by decide +kernel)
@[simp] theorem kq_none_nought (h : HP) : eqM h (.str "none") (.str "nought") = some false := eqM_lit h false (by decide +kernel)
@[simp] theorem kq_none_faint (h : HP) : eqM h (.str "none") (.str "faint") = some false := eqM_lit h false (by decide +kernel)
@[simp] theorem kq_plain_endless (h : HP) : eqM h (.str "plain") (.str "endless") = some false := eqM_lit h false (by decide +kernel)
@[simp] theorem kq_plain_none (h : HP) : eqM h (.str "plain") (.str "none") = some false := eqM_lit h false (by decide +kernel)
@[simp] theorem kq_plain_plain (h : HP) : eqM h (.str "plain") (.str "plain") = some true := eqM_lit h true (by decide +kernel)
@[simp] theorem kq_plain_nought (h : HP) : eqM h (.str "plain") (.str "nought") = some false := eqM_lit h false (by decide +kernel)
@[simp] theorem kq_plain_faint (h : HP) : eqM h (.str "plain") (.str "faint") = some false := eqM_lit h false (by decide +kernel)
@[simp] theorem kq_nought_endless (h : HP) : eqM h (.str "nought") (.str "endless") = some false := eqM_lit h false (by decide +kernel)
@[simp] theorem kq_nought_none (h : HP) : eqM h (.str "nought") (.str "none") = some false := eqM_lit h false (by decide +kernel)
@[simp] theorem kq_nought_plain (h : HP) : eqM h (.str "nought") (.str "plain") = some false := eqM_lit h false (by decide +kernel)
@[simp] theorem kq_nought_nought (h : HP) : eqM h (.str "nought") (.str "nought") = some true := eqM_lit h true (by decide +kernel)
@[simp] theorem kq_nought_faint (h : HP) : eqM h (.str "nought") (.str "faint") = some false := eqM_lit h false (by decide +kernel)
@[simp] theorem kq_faint_endless (h : HP) : eqM h (.str "faint") (.str "endless") = some false := eqM_lit h false (by decide +kernel)
@[simp] theorem kq_faint_none (h : HP) : eqM h (.str "faint") (.str "none") = some false := eqM_lit h false (by decide +kernel)
@[simp] theorem kq_faint_plain (h : HP) : eqM h (.str "faint") (.str "plain") = some false := eqM_lit h false (by decide +kernel)
@[simp] theorem kq_faint_nought (h : HP) : eqM h (.str "faint") (.str "nought") = some false := eqM_lit h false (by decide +kernel)
@[simp] theorem kq_faint_faint (h : HP) : eqM h (.str "faint") (.str "faint") = some true := eqM_lit h true (by decide +kernel)
def kindS (w f : Nat) (b : Int) : Str := if fdOf w f b = 2 ^ w - 1 then (if fgOf f b = 0 then "endless" else "none") else if 0 < fdOf w f b then "plain" else if fgOf f b = 0 then "nought" else "faint"
theorem s_kind (w f : Nat) (hw : w ≤ 20) (hf : f ≤ 200) (n : Nat) (h : HP) {b : Int} (h0 : 0 ≤ b) (h1 : b < 2 ^ (w + f + 1)) : run p.T p.fs (n + 3) 7 [.tup [.int w, .int f], .int b] h = .ok (.str (kindS w f b)) h := by
  rw [run_eq (F := fn7) rfl rfl]
  have e := s_parted w f hw hf n h h0 h1
  have s1 := shlB_one (b := (w : Int)) (by omega) (by omega)
  have ef : b / 2 ^ f % 2 ^ w = fdOf w f b := rfl
  have eg : b % 2 ^ f = fgOf f b := rfl
  rw [ef, eg] at e
  unfold kindS
  by_cases c1 : fdOf w f b = 2 ^ w - 1
  · by_cases c2 : fgOf f b = 0
    · simp [fn7, e, s1, c1, c2]
    · simp [fn7, e, s1, c1, c2]
  · by_cases c3 : 0 < fdOf w f b
    · simp [fn7, e, s1, c1, c3]
    · by_cases c2 : fgOf f b = 0
      · simp [fn7, e, s1, c1, c2, c3]
      · simp [fn7, e, s1, c1, c2, c3]
theorem kindS_eq (h : HP) (w f : Nat) (b : Int) : eqM h (.str (kindS w f b)) (.str (kindS w f b)) = some true := by
  unfold kindS
  split
  · split <;> simp
  · split
    · simp
    · split <;> simp
end Pg

namespace Pg
open PySem L2 Rm
open PySem.Builtin.Int (intBits)
def loOf (w f : Nat) : Int := 1 - (2 ^ (w - 1) - 1) - f
theorem pw_b {w : Nat} (hw : w ≤ 20) : (0 : Int) < 2 ^ (w - 1) ∧ (2 : Int) ^ (w - 1) ≤ 1048576 := ⟨p2 _, by have := two_le_pow (show w - 1 ≤ 20 by omega); simpa using this⟩
theorem pw_w {w : Nat} (hw1 : 1 ≤ w) : (2 : Int) ^ w = 2 * 2 ^ (w - 1) := by rw [← pow_s, Nat.sub_add_cancel hw1]
theorem s_bias (w f : Nat) (hw1 : 1 ≤ w) (hw : w ≤ 20) (n : Nat) (h : HP) : run p.T p.fs (n + 1) 1 [.tup [.int w, .int f]] h = .ok (.int (2 ^ (w - 1) - 1)) h := by
  have s := shlB_one (b := (w : Int) - 1) (by omega) (by omega)
  rw [run_eq (F := fn1) rfl rfl]; simp [fn1, s]
theorem s_low (w f : Nat) (hw1 : 1 ≤ w) (hw : w ≤ 20) (n : Nat) (h : HP) : run p.T p.fs (n + 2) 2 [.tup [.int w, .int f]] h = .ok (.int (loOf w f)) h := by
  rw [run_eq (F := fn2) rfl rfl]; simp [fn2, s_bias w f hw1 hw, loOf]
end Pg

namespace Pg
open PySem L2 Rm
open PySem.Builtin.Int (intBits)
def whOf (w f : Nat) (b : Int) : Int := if fdOf w f b = 0 then fgOf f b else 2 ^ f + fgOf f b
def pwOf (w f : Nat) (b : Int) : Int := if fdOf w f b = 0 then loOf w f else loOf w f + fdOf w f b - 1
theorem or_top {r : Int} {k : Nat} (h0 : 0 ≤ r) (h1 : r < 2 ^ k) : Builtin.bitOr r (2 ^ k) = 2 ^ k + r := by
  rw [PyProof.Rows.bitOr_comm]
  have := or_lowC (q := 1) (by decide) h0 h1
  simpa using this
theorem s_worth (w f : Nat) (hw1 : 1 ≤ w) (hw : w ≤ 20) (hf : f ≤ 200) (n : Nat) (h : HP) {b : Int} (h0 : 0 ≤ b) (h1 : b < 2 ^ (w + f + 1)) (hx : fdOf w f b ≠ 2 ^ w - 1) :
    run p.T p.fs (n + 3) 8 [.tup [.int w, .int f], .int b] h = .ok (.tup [.int (b / 2 ^ (w + f)), .int (whOf w f b), .int (pwOf w f b)]) h := by
  rw [run_eq (F := fn8) rfl rfl]
  have e := s_parted w f hw hf n h h0 h1
  have s1 := shlB_one (b := (w : Int)) (by omega) (by omega)
  have s2 := shlB_one (b := (f : Int)) (by omega) (by omega)
  have ef : b / 2 ^ f % 2 ^ w = fdOf w f b := rfl
  have eg : b % 2 ^ f = fgOf f b := rfl
  rw [ef, eg] at e
  have o := or_top (fg_b f b).1 (fg_b f b).2
  unfold whOf pwOf
  by_cases c1 : fdOf w f b = 0
  · have c2 : ¬ (0 : Int) = 2 ^ w - 1 := by rw [← c1]; exact hx
    simp [fn8, e, s1, c1, c2, s_low w f hw1 hw]
  · simp [fn8, e, s1, s2, hx, c1, s_low w f hw1 hw, o]
theorem wh_b (w f : Nat) (b : Int) : 0 ≤ whOf w f b ∧ whOf w f b < 2 ^ (f + 1) := by
  have := fg_b f b
  have := p2 f
  rw [pow_s]
  unfold whOf
  split <;> omega
theorem pw_bd (w f : Nat) (b : Int) (hw1 : 1 ≤ w) (hw : w ≤ 20) (hf : f ≤ 200) : -2000000 ≤ pwOf w f b ∧ pwOf w f b ≤ 2000000 := by
  have := fd_b w f b
  have := pw_b hw
  have := pw_w hw1
  unfold pwOf loOf
  split <;> omega
end Pg

namespace Pg
open PySem L2 Rm
open PySem.Builtin.Int (intBits)
theorem s_fraction (w f : Nat) (hw1 : 1 ≤ w) (hw : w ≤ 20) (hf : f ≤ 200) (n : Nat) (h : HP) {b : Int} (h0 : 0 ≤ b) (h1 : b < 2 ^ (w + f + 1)) (hx : fdOf w f b ≠ 2 ^ w - 1) :
    run p.T p.fs (n + 4) 9 [.tup [.int w, .int f], .int b] h = .ok (.tup [.int (b / 2 ^ (w + f)), .int (whOf w f b * 2 ^ (pwOf w f b).toNat), .int (2 ^ (-pwOf w f b).toNat)]) h := by
  rw [run_eq (F := fn9) rfl rfl]
  have e := s_worth w f hw1 hw hf n h h0 h1 hx
  have b1 := pw_bd w f b hw1 hw hf
  have b2 := wh_b w f b
  by_cases c : pwOf w f b < 0
  · have s := shlB_one (b := -pwOf w f b) (by omega) (by omega)
    have z : (pwOf w f b).toNat = 0 := by omega
    simp [fn9, e, c, s, z]
  · have s := shlB_of (b := pwOf w f b) (ib_lt b2.1 b2.2) (by omega) (by omega)
    have z : (-pwOf w f b).toNat = 0 := by omega
    simp [fn9, e, c, s, z]
end Pg

namespace Pg
open PySem L2 Rm
open PySem.Builtin.Int (intBits)
theorem pwa {a b c : Nat} (h : a = b + c) : (2 : Int) ^ a = 2 ^ b * 2 ^ c := by rw [h, Int.pow_add]
theorem ib_hi {x : Int} (h : 0 ≤ x) : x < 2 ^ intBits x := by
  have := Int.ofNat_lt.mpr (intBits_le_iff.mp (Nat.le_refl (intBits x)))
  rw [Int.natCast_pow, show ((2 : Nat) : Int) = 2 from rfl] at this
  omega
theorem ib_lo {x : Int} (h : 0 < x) : 1 ≤ intBits x ∧ 2 ^ (intBits x - 1) ≤ x := by
  have h1 : 1 ≤ intBits x := by
    rcases Nat.eq_zero_or_pos (intBits x) with z | z
    · have := intBits_le_iff.mp (Nat.le_of_eq z); simp at this; omega
    · exact z
  refine ⟨h1, ?_⟩
  rcases Int.lt_or_le x (2 ^ (intBits x - 1)) with z | z
  · have := ib_lt (Int.le_of_lt h) z; omega
  · exact z
def scT (t p : Int) : Int := t * 2 ^ (-p).toNat
def scW (b p : Int) : Int := b * 2 ^ p.toNat
theorem s_scaled (n : Nat) (h : HP) {t b q : Int} (ht : intBits t ≤ 4000000) (hb : intBits b ≤ 4000000) (p0 : -5000000 ≤ q) (p1 : q ≤ 5000000) :
    run p.T p.fs (n + 1) 23 [.int t, .int b, .int q] h = .ok (.tup [.int (scT t q), .int (scW b q)]) h := by
  rw [run_eq (F := fn23) rfl rfl]
  unfold scT scW
  by_cases c : q < 0
  · have z : q.toNat = 0 := by omega
    have s := shlB_of (b := -q) ht (by omega) (by omega)
    simp [fn23, c, z, s]
  · have z : (-q).toNat = 0 := by omega
    have s := shlB_of (b := q) hb (by omega) (by omega)
    simp [fn23, c, z, s]
/-- both sides on one power -/
theorem sc_com {t b q : Int} {N : Nat} (hN : 0 ≤ (N : Int) + q) : ∃ k : Nat, t * 2 ^ N = scT t q * 2 ^ k ∧ b * 2 ^ ((N : Int) + q).toNat = scW b q * 2 ^ k := by
  refine ⟨N - (-q).toNat, ?_, ?_⟩
  · have e : (2 : Int) ^ N = 2 ^ (-q).toNat * 2 ^ (N - (-q).toNat) := pwa (by omega)
    unfold scT; rw [e, Int.mul_assoc]
  · have e : (2 : Int) ^ ((N : Int) + q).toNat = 2 ^ q.toNat * 2 ^ (N - (-q).toNat) := pwa (by omega)
    unfold scW; rw [e, Int.mul_assoc]
theorem sc_lt {t b q : Int} {N : Nat} (hN : 0 ≤ (N : Int) + q) : scT t q < scW b q ↔ t * 2 ^ N < b * 2 ^ ((N : Int) + q).toNat := by
  obtain ⟨k, e1, e2⟩ := sc_com (t := t) (b := b) hN
  rw [e1, e2]
  exact (Int.mul_lt_mul_right (p2 k)).symm
def ahd (t b : Int) : Int := if scT t ((intBits t : Int) - intBits b) < scW b ((intBits t : Int) - intBits b) then (intBits t : Int) - intBits b else (intBits t : Int) - intBits b + 1
theorem s_ahead (n : Nat) (h : HP) {t b : Int} (ht : intBits t ≤ 4000000) (hb : intBits b ≤ 4000000) : run p.T p.fs (n + 2) 22 [.int t, .int b] h = .ok (.int (ahd t b)) h := by
  rw [run_eq (F := fn22) rfl rfl]
  have s := s_scaled n h (q := (intBits t : Int) - intBits b) ht hb (by omega) (by omega)
  unfold ahd
  by_cases c : scT t ((intBits t : Int) - intBits b) < scW b ((intBits t : Int) - intBits b)
  · simp [fn22, s, c]
  · simp [fn22, s, c]
theorem ahd_spec {t b : Int} (ht : 0 < t) (hb : 0 < b) (N : Nat) (hN : 0 ≤ (N : Int) + ahd t b - 1) :
    t * 2 ^ N < b * 2 ^ ((N : Int) + ahd t b).toNat ∧ b * 2 ^ ((N : Int) + ahd t b - 1).toNat ≤ t * 2 ^ N := by
  have t1 := ib_hi (Int.le_of_lt ht)
  have b1 := ib_hi (Int.le_of_lt hb)
  obtain ⟨t2, t3⟩ := ib_lo ht
  obtain ⟨b2, b3⟩ := ib_lo hb
  by_cases c : scT t ((intBits t : Int) - intBits b) < scW b ((intBits t : Int) - intBits b)
  · have a : ahd t b = (intBits t : Int) - intBits b := if_pos c
    rw [a] at hN ⊢
    refine ⟨(sc_lt (by omega)).mp c, ?_⟩
    have h1 : b * 2 ^ ((N : Int) + ((intBits t : Int) - intBits b) - 1).toNat ≤ 2 ^ intBits b * 2 ^ ((N : Int) + ((intBits t : Int) - intBits b) - 1).toNat := Int.mul_le_mul_of_nonneg_right (Int.le_of_lt b1) (Int.le_of_lt (p2 _))
    have h2 : (2 : Int) ^ (intBits t - 1) * 2 ^ N ≤ t * 2 ^ N := Int.mul_le_mul_of_nonneg_right t3 (Int.le_of_lt (p2 _))
    rw [← Int.pow_add] at h1 h2
    have e : intBits b + ((N : Int) + ((intBits t : Int) - intBits b) - 1).toNat = intBits t - 1 + N := by omega
    rw [e] at h1
    omega
  · have a : ahd t b = (intBits t : Int) - intBits b + 1 := if_neg c
    rw [a] at hN ⊢
    have c' : ¬ t * 2 ^ N < b * 2 ^ ((N : Int) + ((intBits t : Int) - intBits b)).toNat := fun z => c ((sc_lt (by omega)).mpr z)
    have e0 : (N : Int) + ((intBits t : Int) - intBits b + 1) - 1 = (N : Int) + ((intBits t : Int) - intBits b) := by omega
    rw [e0]
    refine ⟨?_, by omega⟩
    have h1 : t * 2 ^ N < 2 ^ intBits t * 2 ^ N := Int.mul_lt_mul_of_pos_right t1 (p2 _)
    have h2 : (2 : Int) ^ (intBits b - 1) * 2 ^ ((N : Int) + ((intBits t : Int) - intBits b + 1)).toNat ≤ b * 2 ^ ((N : Int) + ((intBits t : Int) - intBits b + 1)).toNat := Int.mul_le_mul_of_nonneg_right b3 (Int.le_of_lt (p2 _))
    rw [← Int.pow_add] at h1 h2
    have e : intBits b - 1 + ((N : Int) + ((intBits t : Int) - intBits b + 1)).toNat = intBits t + N := by omega
    rw [e] at h2
    omega
def rs (d g : Int) : Int := if d = 0 then 0 else if 2 * d < g then 1 else if 2 * d = g then 2 else 3
theorem s_rest (n : Nat) (h : HP) (l g : Int) (h0 : 0 ≤ l) : run p.T p.fs (n + 1) 24 [.int (2 * l), .int g] h = .ok (.int (rs l g)) h := by
  rw [run_eq (F := fn24) rfl rfl]
  unfold rs
  by_cases c1 : l = 0
  · simp [fn24, c1]
  have c1' : ¬ 2 * l = 0 := by omega
  by_cases c2 : 2 * l < g
  · simp [fn24, c1, c1', c2]
  by_cases c3 : 2 * l = g
  · rw [← c3]; simp [fn24, c1, c1']
  · simp [fn24, c1, c1', c2, c3]
theorem rs_mul (l g : Int) (k : Nat) : rs (l * 2 ^ k) (g * 2 ^ k) = rs l g := by
  have pk := p2 k
  have e1 : (l * 2 ^ k = 0) = (l = 0) := propext ⟨fun z => (Int.mul_eq_zero.mp z).resolve_right (Int.ne_of_gt pk), fun z => by rw [z, Int.zero_mul]⟩
  have e2 : (2 * (l * 2 ^ k) < g * 2 ^ k) = (2 * l < g) := by rw [← Int.mul_assoc]; exact propext (Int.mul_lt_mul_right pk)
  have e3 : (2 * (l * 2 ^ k) = g * 2 ^ k) = (2 * l = g) := by rw [← Int.mul_assoc]; exact propext (Int.mul_eq_mul_right_iff (Int.ne_of_gt pk))
  unfold rs
  simp only [e1, e2, e3]
theorem s_asked (n : Nat) (h : HP) {t b : Int} (ht : 0 ≤ t) (hb : 1 ≤ b) : run p.T p.fs (n + 1) 21 [.int t, .int b] h = .ok .non h := by
  rw [run_eq (F := fn21) rfl rfl]
  have c1 : ¬ t < 0 := by omega
  have c2 : ¬ b < 1 := by omega
  simp [fn21, c1, c2]
theorem s_asked_no (n : Nat) (h : HP) {t b : Int} (ht : t < 0 ∨ b < 1) : run p.T p.fs (n + 1) 21 [.int t, .int b] h = .exc (4, []) h := by
  rw [run_eq (F := fn21) rfl rfl]
  have r : p.T.rz 4 = true := rfl
  by_cases c1 : t < 0
  · simp [fn21, c1, r]
  · have c2 : b < 1 := by omega
    simp [fn21, c1, c2, r]
/-- the value in units of the least power -/
def stp0 (w f : Nat) : Nat := (-loOf w f).toNat
theorem lo_stp {w f : Nat} (hw : 2 ≤ w) : loOf w f = -(stp0 w f : Int) := by
  have := two_le_pow (show 1 ≤ w - 1 by omega)
  have e : (2 : Int) ^ 1 = 2 := rfl
  unfold stp0 loOf; omega
theorem stp_b {w f : Nat} (hw : w ≤ 20) (hf : f ≤ 200) : stp0 w f ≤ 2000000 := by
  have := pw_b hw
  unfold stp0 loOf; omega
end Pg

namespace Pg
open PySem L2 Rm
open PySem.Builtin.Int (intBits)
structure CutP (w f : Nat) (t b : Int) (u : Int) (s : Nat) (r : Int) : Prop where
  u0 : 0 ≤ u
  u1 : u < 2 ^ (f + 1)
  us : s = 0 ∨ 2 ^ f ≤ u
  sb : s ≤ 7000000
  lo : u * (b * 2 ^ s) ≤ t * 2 ^ stp0 w f
  hi : t * 2 ^ stp0 w f < (u + 1) * (b * 2 ^ s)
  rst : r = rs (t * 2 ^ stp0 w f - u * (b * 2 ^ s)) (b * 2 ^ s)
end Pg

namespace Pg
open PySem L2 Rm
open PySem.Builtin.Int (intBits)
theorem s_cut (w f : Nat) (hw2 : 2 ≤ w) (hw : w ≤ 20) (hf : f ≤ 200) (n : Nat) (h : HP) {t b : Int} (ht : 0 ≤ t) (hb : 1 ≤ b) (tb : intBits t ≤ 1000000) (bb : intBits b ≤ 1000000) :
    ∃ (u : Int) (s : Nat) (r : Int), CutP w f t b u s r ∧ run p.T p.fs (n + 4) 25 [.tup [.int w, .int f], .int t, .int b] h = .ok (.tup [.int u, .int (loOf w f + s), .int r]) h := by
  rw [run_eq (F := fn25) rfl rfl]
  have as := s_asked (n + 2) h ht hb
  have sl := s_low w f (by omega) hw (n + 1) h
  have lst := lo_stp (f := f) hw2
  have sb := stp_b hw hf
  by_cases h0 : t = 0
  · subst h0
    refine ⟨0, 0, 0, ⟨by omega, p2 _, .inl rfl, by omega, by simp, by simp; omega, by simp [rs]⟩, ?_⟩
    simp [fn25, as, sl]
  have sa := s_ahead (n + 1) h (t := t) (b := b) (by omega) (by omega)
  have ab : -3000000 ≤ ahd t b ∧ ahd t b ≤ 3000000 := by unfold ahd; split <;> omega
  generalize hA : ahd t b = A at *
  have key : ∀ q : Int, q = (if A - f - 1 > loOf w f then A - f - 1 else loOf w f) → ∃ (u : Int) (s : Nat) (r : Int), CutP w f t b u s r ∧ q = loOf w f + s ∧ u = scT t q / scW b q ∧ r = rs (scT t q % scW b q) (scW b q) ∧ 0 ≤ scT t q % scW b q ∧ dvB (scT t q) (scW b q) = true := by
    intro q hq
    have q0 : loOf w f ≤ q := by split at hq <;> omega
    have q1 : A - f - 1 ≤ q := by split at hq <;> omega
    obtain ⟨s, hs⟩ : ∃ s : Nat, q = loOf w f + s := ⟨(q - loOf w f).toNat, by omega⟩
    obtain ⟨k, e1, e2⟩ := sc_com (t := t) (b := b) (q := q) (N := stp0 w f) (by omega)
    have e3 : ((stp0 w f : Int) + q).toNat = s := by omega
    rw [e3] at e2
    have pk := p2 k
    have wp : 0 < scW b q := Int.mul_pos (by omega) (p2 _)
    have gp : 0 < b * 2 ^ s := Int.mul_pos (by omega) (p2 _)
    have du := Int.mul_ediv_add_emod (scT t q) (scW b q)
    have r0 := Int.emod_nonneg (scT t q) (Int.ne_of_gt wp)
    have r1 := Int.emod_lt_of_pos (scT t q) wp
    have tp : 0 ≤ scT t q := Int.mul_nonneg ht (Int.le_of_lt (p2 _))
    have u0 : 0 ≤ scT t q / scW b q := Int.ediv_nonneg tp (Int.le_of_lt wp)
    generalize hu : scT t q / scW b q = u at *
    generalize hl : scT t q % scW b q = l at *
    -- the rest
    have eV : t * 2 ^ stp0 w f = u * (b * 2 ^ s) + l * 2 ^ k := by
      rw [e1, e2, ← du]; grind
    have eG : b * 2 ^ s = scW b q * 2 ^ k := e2
    have l1 : l * 2 ^ k < b * 2 ^ s := by rw [eG]; exact Int.mul_lt_mul_of_pos_right r1 pk
    have l0 : 0 ≤ l * 2 ^ k := Int.mul_nonneg r0 (Int.le_of_lt pk)
    -- the bounds of u
    have M := ahd_spec (t := t) (b := b) (by omega) (by omega) (stp0 w f + 3000001) (by omega)
    rw [hA] at M
    have m1 : t * 2 ^ (stp0 w f + 3000001) = t * 2 ^ stp0 w f * 2 ^ 3000001 := by rw [Int.mul_assoc, ← pwa rfl]
    rw [m1] at M
    have u1 : u < 2 ^ (f + 1) := by
      rcases Int.lt_or_le u (2 ^ (f + 1)) with z | z
      · exact z
      · exfalso
        have a1 : 2 ^ (f + 1) * (b * 2 ^ s) ≤ u * (b * 2 ^ s) := Int.mul_le_mul_of_nonneg_right z (Int.le_of_lt gp)
        have a2 : 2 ^ (f + 1) * (b * 2 ^ s) * 2 ^ 3000001 ≤ t * 2 ^ stp0 w f * 2 ^ 3000001 := Int.mul_le_mul_of_nonneg_right (by omega) (Int.le_of_lt (p2 _))
        have a3 : 2 ^ (f + 1) * (b * 2 ^ s) * 2 ^ 3000001 = b * 2 ^ (f + 1 + s + 3000001) := by
          rw [Int.pow_add 2 (f + 1 + s), Int.pow_add 2 (f + 1)]; generalize (2 : Int) ^ 3000001 = y; grind
        have a4 : b * 2 ^ (((stp0 w f + 3000001 : Nat) : Int) + A).toNat ≤ b * 2 ^ (f + 1 + s + 3000001) := Int.mul_le_mul_of_nonneg_left (two_le_pow (by omega)) (by omega)
        omega
    have us : s = 0 ∨ 2 ^ f ≤ u := by
      by_cases z : s = 0
      · exact .inl z
      · right
        have qq : q = A - f - 1 := by split at hq <;> omega
        rcases Int.lt_or_le u (2 ^ f) with y | y
        · exfalso
          have a1 : (u + 1) * (b * 2 ^ s) ≤ 2 ^ f * (b * 2 ^ s) := Int.mul_le_mul_of_nonneg_right (by omega) (Int.le_of_lt gp)
          have a0 : t * 2 ^ stp0 w f < 2 ^ f * (b * 2 ^ s) := by rw [Int.add_mul] at a1; omega
          have a2 : t * 2 ^ stp0 w f * 2 ^ 3000001 < 2 ^ f * (b * 2 ^ s) * 2 ^ 3000001 := Int.mul_lt_mul_of_pos_right a0 (p2 _)
          have a3 : 2 ^ f * (b * 2 ^ s) * 2 ^ 3000001 = b * 2 ^ (f + s + 3000001) := by
            rw [Int.pow_add 2 (f + s), Int.pow_add 2 f]; generalize (2 : Int) ^ 3000001 = y; grind
          have a4 : (((stp0 w f + 3000001 : Nat) : Int) + A - 1).toNat = f + s + 3000001 := by omega
          rw [a4] at M
          omega
        · exact y
    have dv : dvB (scT t q) (scW b q) = true := by
      refine dvB_near wp ?_
      have w1 := (ib_lo wp)
      have w2 := ib_hi (Int.le_of_lt wp)
      have : scT t q < 2 ^ (f + 1 + intBits (scW b q)) := by
        rw [Int.pow_add]
        have a1 : scW b q * u + l < scW b q * (u + 1) := by rw [Int.mul_add]; omega
        have a2 : scW b q * (u + 1) ≤ scW b q * 2 ^ (f + 1) := Int.mul_le_mul_of_nonneg_left (by omega) (Int.le_of_lt wp)
        have a3 : scW b q * 2 ^ (f + 1) ≤ 2 ^ intBits (scW b q) * 2 ^ (f + 1) := Int.mul_le_mul_of_nonneg_right (Int.le_of_lt w2) (Int.le_of_lt (p2 _))
        rw [Int.mul_comm (2 ^ intBits (scW b q))] at a3
        omega
      have := ib_lt tp this
      omega
    refine ⟨u, s, rs l (scW b q), ⟨u0, u1, us, by split at hq <;> omega, by omega, by rw [Int.add_mul]; omega, ?_⟩, hs, rfl, rfl, r0, dv⟩
    have : t * 2 ^ stp0 w f - u * (b * 2 ^ s) = l * 2 ^ k := by omega
    rw [this, eG, rs_mul]
  obtain ⟨u, s, r, C, hs, hu, hr, l0, dv⟩ := key _ rfl
  refine ⟨u, s, r, C, ?_⟩
  generalize hq : (if A - f - 1 > loOf w f then A - f - 1 else loOf w f) = q at *
  have ss := s_scaled (n + 2) h (t := t) (b := b) (q := q) (by omega) (by omega) (by have := C.sb; omega) (by have := C.sb; omega)
  have sr := s_rest (n + 2) h (scT t q % scW b q) (scW b q) l0
  simp only [gt_iff_lt] at hq
  have m2 : mulB 2 (scT t q % scW b q) = true := mulB_left (by decide)
  rw [← hs, hu, hr]
  simp [fn25, as, sl, sa, h0, hq, ss, dv, m2, sr]
end Pg

namespace Pg
open PySem L2 Rm
open PySem.Builtin.Int (intBits)
/-! values -/
def lv (f : Nat) (c : Int) : Int := if c / 2 ^ f = 0 then c else (2 ^ f + c % 2 ^ f) * 2 ^ (c / 2 ^ f - 1).toNat
theorem lv_zero (f : Nat) : lv f 0 = 0 := by simp [lv]
theorem pow_lt_mul {a k : Nat} {x y : Int} (hx : x < 2 ^ (k + 1)) (hy : 2 ^ k ≤ y) (m : Nat) (hm : a + 1 ≤ m) : x * 2 ^ a < y * 2 ^ m := by
  have h1 : x * 2 ^ a < 2 ^ (k + 1) * 2 ^ a := Int.mul_lt_mul_of_pos_right hx (p2 a)
  have h2 : (2 : Int) ^ (k + 1) * 2 ^ a = 2 ^ k * 2 ^ (a + 1) := by rw [← Int.pow_add, ← Int.pow_add]; congr 1; omega
  have h3 : (2 : Int) ^ k * 2 ^ (a + 1) ≤ 2 ^ k * 2 ^ m := Int.mul_le_mul_of_nonneg_left (two_le_pow hm) (Int.le_of_lt (p2 k))
  have h4 : (2 : Int) ^ k * 2 ^ m ≤ y * 2 ^ m := Int.mul_le_mul_of_nonneg_right hy (Int.le_of_lt (p2 m))
  omega
theorem lv_lt {f : Nat} {a b : Int} (ha : 0 ≤ a) (hab : a < b) : lv f a < lv f b := by
  have hF := p2 f
  have qa := dn f ha
  have qb := dn f (show 0 ≤ b by omega)
  have sa := Int.mul_ediv_add_emod a (2 ^ f)
  have sb := Int.mul_ediv_add_emod b (2 ^ f)
  have ra := mn a f
  have rb := mn b f
  have qab : a / 2 ^ f ≤ b / 2 ^ f := Int.ediv_le_ediv hF (Int.le_of_lt hab)
  have eF := pow_s f
  unfold lv
  by_cases c1 : b / 2 ^ f = 0
  · have c2 : a / 2 ^ f = 0 := by omega
    simp only [c1, c2, if_true]; exact hab
  · by_cases c2 : a / 2 ^ f = 0
    · simp only [c1, c2, if_true, if_false]
      rw [c2] at sa
      have : (2 : Int) ^ f * 1 ≤ (2 ^ f + b % 2 ^ f) * 2 ^ (b / 2 ^ f - 1).toNat := Int.mul_le_mul (by omega) (by have := p2 (b / 2 ^ f - 1).toNat; omega) (by omega) (by omega)
      omega
    · simp only [c1, c2, if_false]
      by_cases c3 : a / 2 ^ f = b / 2 ^ f
      · rw [c3] at sa ⊢
        exact Int.mul_lt_mul_of_pos_right (by omega) (p2 _)
      · exact pow_lt_mul (k := f) (by omega) (by omega) _ (by omega)
theorem lv_le {f : Nat} {a b : Int} (ha : 0 ≤ a) (hab : a ≤ b) : lv f a ≤ lv f b := by
  rcases Int.lt_or_eq_of_le hab with z | z
  · exact Int.le_of_lt (lv_lt ha z)
  · rw [z]; exact Int.le_refl _
theorem lv_nn {f : Nat} {a : Int} (ha : 0 ≤ a) : 0 ≤ lv f a := by have := lv_le (f := f) (a := 0) (b := a) (by decide) ha; rw [lv_zero] at this; exact this
theorem lv_bits {w f : Nat} (hw : w ≤ 20) (hf : f ≤ 200) {c : Int} (h0 : 0 ≤ c) (h1 : c < 2 ^ (w + f)) : intBits (lv f c) ≤ 2000000 := by
  have q := div_lt_pow h1
  have q0 := dn f h0
  have w20 := two_le_pow hw
  unfold lv
  split
  · exact ib_mono (ib_lt h0 h1) (by omega)
  · have r := mn c f
    have eF := pow_s f
    have := intBits_mul_le (ib_lt (show 0 ≤ 2 ^ f + c % 2 ^ f by omega) (show 2 ^ f + c % 2 ^ f < 2 ^ (f + 1) by omega)) (ib_pow2 (c / 2 ^ f - 1).toNat)
    exact ib_mono this (by omega)
end Pg

namespace Pg
open PySem L2 Rm
open PySem.Builtin.Int (intBits)
theorem lv_cut {f s : Nat} {u : Int} (u0 : 0 ≤ u) (u1 : u ≤ 2 ^ (f + 1)) (us : s = 0 ∨ 2 ^ f ≤ u) : lv f (s * 2 ^ f + u) = u * 2 ^ s := by
  have pf := p2 f
  have eF := pow_s f
  have hd : ∀ (k : Nat) (x : Int), 0 ≤ x → x < 2 ^ f → ((k : Int) * 2 ^ f + x) / 2 ^ f = k ∧ ((k : Int) * 2 ^ f + x) % 2 ^ f = x := by
    intro k x x0 x1
    exact (Int.ediv_emod_unique (p2 f)).mpr ⟨by rw [Int.mul_comm]; omega, x0, x1⟩
  unfold lv
  rcases Int.lt_or_le u (2 ^ f) with c | c
  · have s0 : s = 0 := us.resolve_right (by omega)
    subst s0
    have := (hd 0 u u0 c).1
    simp at this
    simp [this]
  · rcases Int.lt_or_eq_of_le u1 with d | d
    · obtain ⟨h1, h2⟩ := hd (s + 1) (u - 2 ^ f) (by omega) (by omega)
      have e : (s : Int) * 2 ^ f + u = ((s + 1 : Nat) : Int) * 2 ^ f + (u - 2 ^ f) := by rw [Int.natCast_add, Int.add_mul]; simp; omega
      rw [e, h1, h2, if_neg (by omega)]
      have e2 : (((s + 1 : Nat) : Int) - 1).toNat = s := by omega
      rw [e2]
      congr 1; omega
    · obtain ⟨h1, h2⟩ := hd (s + 2) 0 (by omega) pf
      have e : (s : Int) * 2 ^ f + u = ((s + 2 : Nat) : Int) * 2 ^ f + 0 := by rw [d, Int.natCast_add, Int.add_mul, eF]; simp
      rw [e, h1, h2, if_neg (by omega)]
      have e2 : (((s + 2 : Nat) : Int) - 1).toNat = s + 1 := by omega
      rw [e2, d, pow_s s, eF, Int.add_zero]
      grind
end Pg

namespace Pg
open PySem L2 Rm
open PySem.Builtin.Int (intBits)
/-! the code of a cut -/
/-- c is the code below the value, r what is left over -/
structure CodeP (w f : Nat) (t b : Int) (c : Int) (r : Int) : Prop where
  c0 : 0 ≤ c
  lo : lv f c * b ≤ t * 2 ^ stp0 w f
  hi : t * 2 ^ stp0 w f < lv f (c + 1) * b
  rst : r = rs (t * 2 ^ stp0 w f - lv f c * b) ((lv f (c + 1) - lv f c) * b)
theorem CutP.code {w f : Nat} {t b u : Int} {s : Nat} {r : Int} (h : CutP w f t b u s r) : CodeP w f t b (s * 2 ^ f + u) r ∧ (u < 2 ^ f ↔ (s : Int) * 2 ^ f + u < 2 ^ f) := by
  have pf := p2 f
  have l1 := lv_cut h.u0 (Int.le_of_lt h.u1) h.us
  have us2 : s = 0 ∨ 2 ^ f ≤ u + 1 := by rcases h.us with z | z; exact .inl z; exact .inr (by omega)
  have l2 := lv_cut (f := f) (s := s) (u := u + 1) (by have := h.u0; omega) (by have := h.u1; omega) us2
  rw [← Int.add_assoc] at l2
  have sp : 0 ≤ (s : Int) * 2 ^ f := Int.mul_nonneg (by omega) (Int.le_of_lt pf)
  refine ⟨⟨by have := h.u0; omega, ?_, ?_, ?_⟩, ?_⟩
  · rw [l1]; have := h.lo; rw [Int.mul_assoc, Int.mul_comm (2 ^ s)]; exact this
  · rw [l2]; have := h.hi; rw [Int.mul_assoc, Int.mul_comm (2 ^ s)]; exact this
  · rw [l1, l2, h.rst]
    have e1 : u * 2 ^ s * b = u * (b * 2 ^ s) := by rw [Int.mul_assoc, Int.mul_comm (2 ^ s)]
    have e2 : ((u + 1) * 2 ^ s - u * 2 ^ s) * b = b * 2 ^ s := by rw [Int.add_mul]; grind
    rw [e1, e2]
  · constructor
    · intro z
      have : s = 0 := h.us.resolve_right (by omega)
      subst this; simp; exact z
    · intro z
      omega
end Pg

namespace Pg
open PySem L2 Rm
open PySem.Builtin.Int (intBits)
theorem lv_b15 {w f : Nat} (hw : w ≤ 15) (hf : f ≤ 112) {c : Int} (h0 : 0 ≤ c) (h1 : c < 2 ^ (w + f)) : intBits (lv f c) ≤ 40000 := by
  have q := div_lt_pow h1
  have q0 := dn f h0
  have w20 := two_le_pow hw
  have e15 : (2 : Int) ^ 15 = 32768 := rfl
  unfold lv
  split
  · exact ib_mono (ib_lt h0 h1) (by omega)
  · have r := mn c f
    have eF := pow_s f
    have := intBits_mul_le (ib_lt (show 0 ≤ 2 ^ f + c % 2 ^ f by omega) (show 2 ^ f + c % 2 ^ f < 2 ^ (f + 1) by omega)) (ib_pow2 (c / 2 ^ f - 1).toNat)
    exact ib_mono this (by omega)
theorem lvB {w f : Nat} (hw : w ≤ 15) (hf : f ≤ 112) {c : Int} (h0 : 0 ≤ c) (h1 : c < 2 ^ (w + f)) : 0 ≤ lv f c ∧ lv f c < 2 ^ 40000 := by
  have a := lv_nn (f := f) h0
  have b := ib_hi a
  have := two_le_pow (lv_b15 hw hf h0 h1)
  exact ⟨a, by omega⟩
theorem end_lt {w f : Nat} : (2 : Int) ^ (w + f) - 2 ^ f < 2 ^ (w + f) := by have := p2 f; omega
theorem end_3 {w f : Nat} (hw : 2 ≤ w) : 3 * (2 : Int) ^ f ≤ 2 ^ (w + f) - 2 ^ f := by
  have := two_le_pow (show 2 + f ≤ w + f by omega)
  rw [Int.pow_add] at this
  have e4 : (2 : Int) ^ 2 = 4 := rfl
  omega
/-- there is one code only -/
theorem CodeP.uniq {w f : Nat} {t b c r : Int} (C : CodeP w f t b c r) (hb : 0 < b) {c' : Int} (h0 : 0 ≤ c') (h1 : lv f c' * b ≤ t * 2 ^ stp0 w f) (h2 : t * 2 ^ stp0 w f < lv f (c' + 1) * b) : c = c' := by
  rcases Int.lt_trichotomy c c' with z | z | z
  · exfalso
    have a := lv_le (f := f) (a := c + 1) (b := c') (by have := C.c0; omega) (by omega)
    have a2 : lv f (c + 1) * b ≤ lv f c' * b := Int.mul_le_mul_of_nonneg_right a (Int.le_of_lt hb)
    have := C.hi; omega
  · exact z
  · exfalso
    have a := lv_le (f := f) (a := c' + 1) (b := c) (by omega) (by omega)
    have a2 : lv f (c' + 1) * b ≤ lv f c * b := Int.mul_le_mul_of_nonneg_right a (Int.le_of_lt hb)
    have := C.lo; omega
end Pg

namespace Pg
open PySem L2 Rm
open PySem.Builtin.Int (intBits)
theorem eqM_litw (h : HP) {a b : Str} (r : Bool) (e : (PyData.strOk a && PyData.strOk b && (decide (a = b) == r)) = true) : eqM h (.str a) (.str b) = some r := by
  simp only [Bool.and_eq_true, beq_iff_eq] at e
  rw [eqM_ss h e.1.1 e.1.2, e.2]
@[simp] theorem wq_even_even (h : HP) : eqM h (.str "even") (.str "even") = some true := eqM_litw h true (by decide +kernel)
@[simp] theorem wq_even_away (h : HP) : eqM h (.str "even") (.str "away") = some false := eqM_litw h false (by decide +kernel)
@[simp] theorem wq_even_nought (h : HP) : eqM h (.str "even") (.str "nought") = some false := eqM_litw h false (by decide +kernel)
@[simp] theorem wq_even_up (h : HP) : eqM h (.str "even") (.str "up") = some false := eqM_litw h false (by decide +kernel)
@[simp] theorem wq_even_down (h : HP) : eqM h (.str "even") (.str "down") = some false := eqM_litw h false (by decide +kernel)
@[simp] theorem wq_away_even (h : HP) : eqM h (.str "away") (.str "even") = some false := eqM_litw h false (by decide +kernel)
@[simp] theorem wq_away_away (h : HP) : eqM h (.str "away") (.str "away") = some true := eqM_litw h true (by decide +kernel)
@[simp] theorem wq_away_nought (h : HP) : eqM h (.str "away") (.str "nought") = some false := eqM_litw h false (by decide +kernel)
@[simp] theorem wq_away_up (h : HP) : eqM h (.str "away") (.str "up") = some false := eqM_litw h false (by decide +kernel)
@[simp] theorem wq_away_down (h : HP) : eqM h (.str "away") (.str "down") = some false := eqM_litw h false (by decide +kernel)
@[simp] theorem wq_nought_even (h : HP) : eqM h (.str "nought") (.str "even") = some false := eqM_litw h false (by decide +kernel)
@[simp] theorem wq_nought_away (h : HP) : eqM h (.str "nought") (.str "away") = some false := eqM_litw h false (by decide +kernel)
@[simp] theorem wq_nought_nought (h : HP) : eqM h (.str "nought") (.str "nought") = some true := eqM_litw h true (by decide +kernel)
@[simp] theorem wq_nought_up (h : HP) : eqM h (.str "nought") (.str "up") = some false := eqM_litw h false (by decide +kernel)
@[simp] theorem wq_nought_down (h : HP) : eqM h (.str "nought") (.str "down") = some false := eqM_litw h false (by decide +kernel)
@[simp] theorem wq_up_even (h : HP) : eqM h (.str "up") (.str "even") = some false := eqM_litw h false (by decide +kernel)
@[simp] theorem wq_up_away (h : HP) : eqM h (.str "up") (.str "away") = some false := eqM_litw h false (by decide +kernel)
@[simp] theorem wq_up_nought (h : HP) : eqM h (.str "up") (.str "nought") = some false := eqM_litw h false (by decide +kernel)
@[simp] theorem wq_up_up (h : HP) : eqM h (.str "up") (.str "up") = some true := eqM_litw h true (by decide +kernel)
@[simp] theorem wq_up_down (h : HP) : eqM h (.str "up") (.str "down") = some false := eqM_litw h false (by decide +kernel)
@[simp] theorem wq_down_even (h : HP) : eqM h (.str "down") (.str "even") = some false := eqM_litw h false (by decide +kernel)
@[simp] theorem wq_down_away (h : HP) : eqM h (.str "down") (.str "away") = some false := eqM_litw h false (by decide +kernel)
@[simp] theorem wq_down_nought (h : HP) : eqM h (.str "down") (.str "nought") = some false := eqM_litw h false (by decide +kernel)
@[simp] theorem wq_down_up (h : HP) : eqM h (.str "down") (.str "up") = some false := eqM_litw h false (by decide +kernel)
@[simp] theorem wq_down_down (h : HP) : eqM h (.str "down") (.str "down") = some true := eqM_litw h true (by decide +kernel)
def wayN : Nat → Str
  | 0 => "even" | 1 => "away" | 2 => "nought" | 3 => "up" | _ => "down"
def wayO : Nat → MV
  | 0 => .obj 6 [] | 1 => .obj 7 [] | 2 => .obj 5 [] | 3 => .obj 8 [.int 0] | _ => .obj 8 [.int 1]
def giK : Nat → Nat
  | 0 => 13 | 1 => 13 | 2 => 11 | 3 => 18 | _ => 18
def biK : Nat → Nat
  | 0 => 15 | 1 => 15 | 2 => 12 | 3 => 19 | _ => 19
def miK : Nat → Nat
  | 0 => 14 | _ => 16
theorem five {k : Nat} (h : k < 5) : k = 0 ∨ k = 1 ∨ k = 2 ∨ k = 3 ∨ k = 4 := by omega
theorem mg_ok (k : Nat) (hk : k < 5) (h : HP) : mthV p.T h (wayO k) "grows" = some (giK k) := by
  rcases five hk with z | z | z | z | z <;> subst z <;> rfl
theorem mb_ok (k : Nat) (hk : k < 5) (h : HP) : mthV p.T h (wayO k) "bursts" = some (biK k) := by
  rcases five hk with z | z | z | z | z <;> subst z <;> rfl
theorem mm_ok (k : Nat) (hk : k < 2) (h : HP) : mthV p.T h (wayO k) "grows_midway" = some (miK k) := by
  rcases (show k = 0 ∨ k = 1 by omega) with z | z <;> subst z <;> rfl
theorem s_init (n i : Nat) (h : HP) (s : Int) (e : h[i]? = some (.ins 8 [])) : run p.T p.fs (n + 1) 17 [.ref i, .int s] h = .ok .non (h.set i (.ins 8 [.int s])) := by
  rw [run_eq (F := fn17) rfl rfl]
  have st : staV p.T h (.ref i) "outward_sign" (.int s) = some (h.set i (.ins 8 [.int s])) := by
    unfold staV
    simp only [e]
    rfl
  simp [fn17, st, leave, fin]
theorem s_way_of (n : Nat) (h : HP) (k : Nat) (hk : k < 5) : run p.T p.fs (n + 2) 20 [.str (wayN k)] h = .ok (wayO k) h := by
  rw [run_eq (F := fn20) rfl rfl]
  have i0 : p.T.ini 6 = none := rfl
  have i1 : p.T.ini 7 = none := rfl
  have i2 : p.T.ini 5 = none := rfl
  have i3 : p.T.ini 8 = some 17 := rfl
  have o0 : p.T.obj 6 = true := rfl
  have o1 : p.T.obj 7 = true := rfl
  have o2 : p.T.obj 5 = true := rfl
  have o3 : p.T.obj 8 = true := rfl
  have n0 : p.T.n0 6 = true := rfl
  have n1 : p.T.n0 7 = true := rfl
  have n2 : p.T.n0 5 = true := rfl
  have ii (s : Int) := s_init n h.length (h ++ [.ins 8 []]) s (by simp)
  rcases five hk with z | z | z | z | z <;> subst z
  · simp [fn20, wayN, wayO, i0, o0, n0]
  · simp [fn20, wayN, wayO, i1, o1, n1]
  · simp [fn20, wayN, wayO, i2, o2, n2]
  · simp [fn20, wayN, wayO, i3, o3, ii, leave, fin, frz, lows, low]
  · simp [fn20, wayN, wayO, i3, o3, ii, leave, fin, frz, lows, low]
def grw (k : Nat) (s : Int) (odd : Bool) (r : Int) : Bool := match k with
  | 0 => if r = 2 then odd else decide (r = 3)
  | 1 => if r = 2 then true else decide (r = 3)
  | 2 => false
  | 3 => decide (0 < r) && decide (s = 0)
  | _ => decide (0 < r) && decide (s = 1)
def bst (k : Nat) (s : Int) : Bool := match k with
  | 0 => true
  | 1 => true
  | 2 => false
  | 3 => decide (s = 0)
  | _ => decide (s = 1)
theorem s_grows (n : Nat) (h : HP) (k : Nat) (hk : k < 5) (s : Int) (odd : Bool) (r : Int) : run p.T p.fs (n + 2) (giK k) [wayO k, .int s, .bl odd, .int r] h = .ok (.bl (grw k s odd r)) h := by
  rcases five hk with z | z | z | z | z <;> subst z
  · show run p.T p.fs (n + 2) 13 _ h = _
    rw [run_eq (F := fn13) rfl rfl]
    have m := mm_ok 0 (by decide) h
    have c : run p.T p.fs (n + 1) (miK 0) [wayO 0, .bl odd] h = .ok (.bl odd) h := by
      show run p.T p.fs (n + 1) 14 _ h = _
      rw [run_eq (F := fn14) rfl rfl]; simp [fn14]
    by_cases q : r = 2
    · simp [fn13, m, c, q, grw]
    · simp [fn13, m, c, q, grw]
  · show run p.T p.fs (n + 2) 13 _ h = _
    rw [run_eq (F := fn13) rfl rfl]
    have m := mm_ok 1 (by decide) h
    have c : run p.T p.fs (n + 1) (miK 1) [wayO 1, .bl odd] h = .ok (.bl true) h := by
      show run p.T p.fs (n + 1) 16 _ h = _
      rw [run_eq (F := fn16) rfl rfl]; simp [fn16]
    by_cases q : r = 2
    · simp [fn13, m, c, q, grw]
    · simp [fn13, m, c, q, grw]
  · show run p.T p.fs (n + 2) 11 _ h = _
    rw [run_eq (F := fn11) rfl rfl]; simp [fn11, grw]
  · show run p.T p.fs (n + 2) 18 _ h = _
    rw [run_eq (F := fn18) rfl rfl]
    have a : atrV p.T h (wayO 3) "outward_sign" = some (.int 0) := rfl
    simp [fn18, a, grw]
  · show run p.T p.fs (n + 2) 18 _ h = _
    rw [run_eq (F := fn18) rfl rfl]
    have a : atrV p.T h (wayO 4) "outward_sign" = some (.int 1) := rfl
    simp [fn18, a, grw]
theorem s_bursts (n : Nat) (h : HP) (k : Nat) (hk : k < 5) (s : Int) : run p.T p.fs (n + 1) (biK k) [wayO k, .int s] h = .ok (.bl (bst k s)) h := by
  rcases five hk with z | z | z | z | z <;> subst z
  · show run p.T p.fs (n + 1) 15 _ h = _
    rw [run_eq (F := fn15) rfl rfl]; simp [fn15, bst]
  · show run p.T p.fs (n + 1) 15 _ h = _
    rw [run_eq (F := fn15) rfl rfl]; simp [fn15, bst]
  · show run p.T p.fs (n + 1) 12 _ h = _
    rw [run_eq (F := fn12) rfl rfl]; simp [fn12, bst]
  · show run p.T p.fs (n + 1) 19 _ h = _
    rw [run_eq (F := fn19) rfl rfl]
    have a : atrV p.T h (wayO 3) "outward_sign" = some (.int 0) := rfl
    simp [fn19, a, bst]
  · show run p.T p.fs (n + 1) 19 _ h = _
    rw [run_eq (F := fn19) rfl rfl]
    have a : atrV p.T h (wayO 4) "outward_sign" = some (.int 1) := rfl
    simp [fn19, a, bst]
end Pg

namespace Pg
open PySem L2 Rm
open PySem.Builtin.Int (intBits)
/-! the size's own numbers -/
theorem s_endless (w f : Nat) (hw : w ≤ 20) (hf : f ≤ 200) (n : Nat) (h : HP) : run p.T p.fs (n + 1) 4 [.tup [.int w, .int f]] h = .ok (.int (2 ^ (w + f) - 2 ^ f)) h := by
  rw [run_eq (F := fn4) rfl rfl]
  have s1 := shlB_one (b := (w : Int)) (by omega) (by omega)
  have pw := p2 w
  have s2 : shlB (2 ^ w - 1) (f : Int) = true := shlB_of (m := 20) (ib_lt (by omega) (by have := two_le_pow hw; omega)) (by omega) (by omega)
  have x5 : (2 ^ w - 1) * (2 : Int) ^ f = 2 ^ (w + f) - 2 ^ f := by rw [Int.sub_mul, ← Int.pow_add, Int.one_mul]
  simp [fn4, s1, s2, x5]
theorem s_sign_bit' (w f : Nat) (hw : w ≤ 20) (hf : f ≤ 200) (n : Nat) (h : HP) : run p.T p.fs (n + 1) 3 [.tup [.int w, .int f]] h = .ok (.int (2 ^ (w + f))) h := by
  have s := shlB_one (b := (w : Int) + f) (by omega) (by omega)
  rw [run_eq (F := fn3) rfl rfl]; simp [fn3, s]
end Pg

namespace Pg
open PySem L2 Rm
open PySem.Builtin.Int (intBits)
/-- what a cut is settled to: the code, the flags -/
def stl (w f k : Nat) (s c r : Int) : Int × Int :=
  if 2 ^ (w + f) - 2 ^ f ≤ c then ((if bst k s = true then 2 ^ (w + f) - 2 ^ f else 2 ^ (w + f) - 2 ^ f - 1), 5)
  else if r = 0 then (c, 0)
  else ((if grw k s (decide (c % 2 = 1)) r = true then c + 1 else c), (if (if grw k s (decide (c % 2 = 1)) r = true then c + 1 else c) = 2 ^ (w + f) - 2 ^ f then 5 else if c < 2 ^ f then 3 else 1))
theorem s_settled (w f : Nat) (hw2 : 2 ≤ w) (hw : w ≤ 20) (hf1 : 1 ≤ f) (hf : f ≤ 200) (n : Nat) (h : HP) (k : Nat) (hk : k < 5) {s : Int} (hs : s = 0 ∨ s = 1) {u : Int} {d : Nat} {r : Int} (us : d = 0 ∨ 2 ^ f ≤ u) (u0 : 0 ≤ u) (d1 : d ≤ 8000000) :
    run p.T p.fs (n + 4) 28 [.tup [.int w, .int f], .str (wayN k), .int s, .int u, .int (loOf w f + d), .int r] h = .ok (.tup [.int (s * 2 ^ (w + f) + (stl w f k s (d * 2 ^ f + u) r).1), .int (stl w f k s (d * 2 ^ f + u) r).2]) h := by
  rw [run_eq (F := fn28) rfl rfl]
  have wo := s_way_of (n + 1) h k hk
  have sb := s_sign_bit' w f hw hf (n + 2) h
  have lw := s_low w f (by omega) hw (n + 1) h
  have en := s_endless w f hw hf (n + 2) h
  have ms : mulB s (2 ^ (w + f)) = true := mulB_left (by rcases hs with z | z <;> subst z <;> decide)
  have sh : shlB (d : Int) (f : Int) = true := shlB_of (m := 30) (ib_lt (by omega) (by omega)) (by omega) (by omega)
  have s1 := shlB_one (b := (f : Int)) (by omega) (by omega)
  have mb := mb_ok k hk h
  have mg := mg_ok k hk h
  have bb := s_bursts (n + 2) h k hk s
  have pf := p2 f
  have dp : 0 ≤ (d : Int) * 2 ^ f := Int.mul_nonneg (by omega) (Int.le_of_lt pf)
  have uc : u < 2 ^ f ↔ (d : Int) * 2 ^ f + u < 2 ^ f := by
    constructor
    · intro z
      have : d = 0 := us.resolve_right (by omega)
      subst this; simp; exact z
    · intro z; omega
  have od : u % 2 = ((d : Int) * 2 ^ f + u) % 2 := by
    have e : (2 : Int) ^ f = 2 * 2 ^ (f - 1) := by rw [← pow_s, Nat.sub_add_cancel hf1]
    have : (d : Int) * 2 ^ f = 2 * (d * 2 ^ (f - 1)) := by rw [e]; grind
    omega
  have b0 : Builtin.bitOr 1 4 = 5 := by decide
  have b1 : Builtin.bitOr 1 2 = 3 := by decide
  have eE : 3 * (2 : Int) ^ f ≤ 2 ^ (w + f) - 2 ^ f := by
    have := two_le_pow (show 2 + f ≤ w + f by omega)
    rw [Int.pow_add] at this
    have e4 : (2 : Int) ^ 2 = 4 := rfl
    omega
  have gr := s_grows (n + 1) h k hk s (decide (u % 2 = 1)) r
  rw [od] at gr
  generalize hc : (d : Int) * 2 ^ f + u = c at *
  generalize hE : (2 : Int) ^ (w + f) - 2 ^ f = E at *
  generalize hg : grw k s (decide (c % 2 = 1)) r = g at *
  unfold stl
  rw [hE, hg]
  have hd : loOf w f + (d : Int) - loOf w f = d := by omega
  by_cases h1 : E ≤ c
  · cases hb : bst k s
    · rw [hb] at bb
      simp [fn28, wo, sb, lw, en, ms, hd, sh, hc, h1, mb, bb, b0]
      omega
    · rw [hb] at bb
      simp [fn28, wo, sb, lw, en, ms, hd, sh, hc, h1, mb, bb, b0]
  by_cases h2 : r = 0
  · simp [fn28, wo, sb, lw, en, ms, hd, sh, hc, h1, h2]
  have oo : Builtin.bitAnd u 1 = c % 2 := by rw [PyProof.Rows.bitAnd_m1]; exact od
  by_cases h3 : u < 2 ^ f
  · have h3' := uc.mp h3
    cases g
    · have e1 : ¬ c = E := by omega
      simp [fn28, wo, sb, lw, en, ms, hd, sh, s1, hc, h1, h2, h3, h3', mg, oo, gr, e1, b1]
    · have e1 : ¬ c + 1 = E := by omega
      simp [fn28, wo, sb, lw, en, ms, hd, sh, s1, hc, h1, h2, h3, h3', mg, oo, gr, e1, b1]
  · have h3' : ¬ c < 2 ^ f := fun z => h3 (uc.mpr z)
    cases g
    · have e1 : ¬ c = E := by omega
      simp [fn28, wo, sb, lw, en, ms, hd, sh, s1, hc, h1, h2, h3, h3', mg, oo, gr, e1, b0]
    · by_cases e1 : c + 1 = E
      · simp [fn28, wo, sb, lw, en, ms, hd, sh, s1, hc, h1, h2, h3, h3', mg, oo, gr, e1, b0]
      · simp [fn28, wo, sb, lw, en, ms, hd, sh, s1, hc, h1, h2, h3, h3', mg, oo, gr, e1, b0]
end Pg

namespace Pg
open PySem L2 Rm
open PySem.Builtin.Int (intBits)
theorem s_rounded (w f : Nat) (hw2 : 2 ≤ w) (hw : w ≤ 20) (hf1 : 1 ≤ f) (hf : f ≤ 200) (n : Nat) (h : HP) (k : Nat) (hk : k < 5) {s : Int} (hs : s = 0 ∨ s = 1) {t b : Int} (ht : 0 ≤ t) (hb : 1 ≤ b) (tb : intBits t ≤ 1000000) (bb : intBits b ≤ 1000000) :
    ∃ c r : Int, CodeP w f t b c r ∧ run p.T p.fs (n + 5) 29 [.tup [.int w, .int f], .str (wayN k), .int s, .int t, .int b] h = .ok (.tup [.int (s * 2 ^ (w + f) + (stl w f k s c r).1), .int (stl w f k s c r).2]) h := by
  obtain ⟨u, d, r, C, ec⟩ := s_cut w f hw2 hw hf n h ht hb tb bb
  refine ⟨(d : Int) * 2 ^ f + u, r, C.code.1, ?_⟩
  rw [run_eq (F := fn29) rfl rfl]
  have wo := s_way_of (n + 2) h k hk
  have st := s_settled w f hw2 hw hf1 hf n h k hk hs (u := u) (d := d) (r := r) C.us C.u0 (by have := C.sb; omega)
  simp [fn29, wo, ec, st]
end Pg

namespace Pg
open PySem L2 Rm
open PySem.Builtin.Int (intBits)
/-- V over B lies between two neighbours -/
structure Fr (f : Nat) (V B c r : Int) : Prop where
  c0 : 0 ≤ c
  b0 : 0 < B
  lo : lv f c * B ≤ V
  hi : V < lv f (c + 1) * B
  rst : r = rs (V - lv f c * B) ((lv f (c + 1) - lv f c) * B)
theorem CodeP.fr {w f : Nat} {t b c r : Int} (C : CodeP w f t b c r) (hb : 0 < b) : Fr f (t * 2 ^ stp0 w f) b c r := ⟨C.c0, hb, C.lo, C.hi, C.rst⟩
theorem rs_mulI (l g : Int) {m : Int} (pk : 0 < m) : rs (l * m) (g * m) = rs l g := by
  have e1 : (l * m = 0) = (l = 0) := propext ⟨fun z => (Int.mul_eq_zero.mp z).resolve_right (Int.ne_of_gt pk), fun z => by rw [z, Int.zero_mul]⟩
  have e2 : (2 * (l * m) < g * m) = (2 * l < g) := by rw [← Int.mul_assoc]; exact propext (Int.mul_lt_mul_right pk)
  have e3 : (2 * (l * m) = g * m) = (2 * l = g) := by rw [← Int.mul_assoc]; exact propext (Int.mul_eq_mul_right_iff (Int.ne_of_gt pk))
  unfold rs
  simp only [e1, e2, e3]
theorem Fr.mul {f : Nat} {V B c r : Int} (F : Fr f V B c r) {m : Int} (hm : 0 < m) : Fr f (V * m) (B * m) c r := by
  refine ⟨F.c0, Int.mul_pos F.b0 hm, ?_, ?_, ?_⟩
  · rw [← Int.mul_assoc]; exact Int.mul_le_mul_of_nonneg_right F.lo (Int.le_of_lt hm)
  · rw [← Int.mul_assoc]; exact Int.mul_lt_mul_of_pos_right F.hi hm
  · rw [← Int.mul_assoc, ← Int.mul_assoc, ← Int.sub_mul, rs_mulI _ _ hm]; exact F.rst
end Pg

namespace Pg
open PySem L2 Rm
open PySem.Builtin.Int (intBits)
theorem stp_eq {w f : Nat} (hw : 2 ≤ w) : (2 : Int) ^ (w - 1) - 2 + f = stp0 w f := by
  have := lo_stp (f := f) hw
  unfold loOf at this; omega
theorem stp_s {w f : Nat} (hw : w ≤ 15) (hf : f ≤ 112) : stp0 w f ≤ 17000 := by
  have := two_le_pow (show w - 1 ≤ 14 by omega)
  have e14 : (2 : Int) ^ 14 = 16384 := rfl
  unfold stp0 loOf; omega
end Pg

namespace Pg
open PySem L2 Rm
open PySem.Builtin.Int (intBits)
/-! fields, figures, codes and values -/
theorem code_sp (w f : Nat) (b : Int) : b % 2 ^ (w + f) = 2 ^ f * fdOf w f b + fgOf f b := by
  have e : (2 : Int) ^ (w + f) = 2 ^ f * 2 ^ w := by rw [Int.pow_add, Int.mul_comm]
  rw [e, mod_split (p2 f) (p2 w)]; rfl
theorem lv_wh (w f : Nat) (b : Int) (hw2 : 2 ≤ w) : ∃ m : Int, 0 < m ∧ whOf w f b * 2 ^ (pwOf w f b).toNat * m = lv f (b % 2 ^ (w + f)) ∧ 2 ^ (-pwOf w f b).toNat * m = 2 ^ stp0 w f := by
  have ls := lo_stp (f := f) hw2
  have a := fd_b w f b
  have e1 : b % 2 ^ (w + f) / 2 ^ f = fdOf w f b := mod_div_pow b w f
  have e2 : b % 2 ^ (w + f) % 2 ^ f = fgOf f b := mod_mod_pow b w f
  have cs := code_sp w f b
  unfold lv whOf pwOf
  rw [e1, e2]
  by_cases z : fdOf w f b = 0
  · simp only [z, if_true]
    refine ⟨1, by decide, ?_, ?_⟩
    · have : (loOf w f).toNat = 0 := by omega
      rw [this, cs, z]; simp
    · have : (-loOf w f).toNat = stp0 w f := by omega
      rw [this, Int.mul_one]
  · simp only [z, if_false]
    refine ⟨2 ^ (stp0 w f - (-(loOf w f + fdOf w f b - 1)).toNat), p2 _, ?_, ?_⟩
    · rw [Int.mul_assoc, ← Int.pow_add]
      congr 2; omega
    · rw [← Int.pow_add]; congr 1; omega
theorem fd_last {w f : Nat} (hw : 1 ≤ w) {b : Int} : 2 ^ (w + f) - 2 ^ f ≤ b % 2 ^ (w + f) ↔ fdOf w f b = 2 ^ w - 1 := by
  have cs := code_sp w f b
  have a := fd_b w f b
  have c := fg_b f b
  have e : (2 : Int) ^ (w + f) = 2 ^ f * 2 ^ w := by rw [Int.pow_add, Int.mul_comm]
  have hF := p2 f
  rw [cs, e]
  constructor
  · intro z
    rcases Int.lt_or_le (fdOf w f b) (2 ^ w - 1) with y | y
    · exfalso
      have : 2 ^ f * fdOf w f b ≤ 2 ^ f * (2 ^ w - 2) := Int.mul_le_mul_of_nonneg_left (by omega) (by omega)
      rw [Int.mul_sub] at this
      omega
    · omega
  · intro z
    rw [z, Int.mul_sub]; omega
theorem fd_end {w f : Nat} (hw : 1 ≤ w) {b : Int} : b % 2 ^ (w + f) = 2 ^ (w + f) - 2 ^ f ↔ (fdOf w f b = 2 ^ w - 1 ∧ fgOf f b = 0) := by
  have cs := code_sp w f b
  have l := fd_last (w := w) (f := f) (b := b) hw
  have e : (2 : Int) ^ (w + f) = 2 ^ f * 2 ^ w := by rw [Int.pow_add, Int.mul_comm]
  constructor
  · intro z
    have y := l.mp (by omega)
    rw [y, Int.mul_sub] at cs
    exact ⟨y, by omega⟩
  · intro ⟨z, y⟩
    rw [z, y, Int.mul_sub] at cs
    omega
theorem wh_nought {w f : Nat} {b : Int} : b % 2 ^ (w + f) = 0 ↔ whOf w f b = 0 := by
  have cs := code_sp w f b
  have a := fd_b w f b
  have c := fg_b f b
  have hF := p2 f
  unfold whOf
  constructor
  · intro z
    have : fdOf w f b = 0 := by
      rcases Int.lt_or_le 0 (fdOf w f b) with y | y
      · exfalso
        have : 2 ^ f * 1 ≤ 2 ^ f * fdOf w f b := Int.mul_le_mul_of_nonneg_left (by omega) (by omega)
        omega
      · omega
    rw [this] at cs ⊢
    simp; omega
  · intro z
    split at z
    · rename_i y; rw [y, z] at cs; omega
    · omega
end Pg

namespace Pg
open PySem L2 Rm
open PySem.Builtin.Int (intBits)
theorem s_nonum (w f : Nat) (hw : w ≤ 15) (hw2 : 2 ≤ w) (hf1 : 1 ≤ f) (hf : f ≤ 112) (n : Nat) (h : HP) : run p.T p.fs (n + 2) 5 [.tup [.int w, .int f]] h = .ok (.int (2 ^ (w + f) - 2 ^ f + 2 ^ (f - 1))) h := by
  rw [run_eq (F := fn5) rfl rfl]
  have e := s_endless w f (by omega) (by omega) n h
  have s2 := shlB_one (b := (f : Int) - 1) (by omega) (by omega)
  have x5 : (2 ^ w - 1) * (2 : Int) ^ f = 2 ^ (w + f) - 2 ^ f := by rw [Int.sub_mul, ← Int.pow_add, Int.one_mul]
  have pw := p2 w
  have eF : (2 : Int) ^ f = 2 * 2 ^ (f - 1) := by rw [← pow_s, Nat.sub_add_cancel hf1]
  have pv := p2 (f - 1)
  have o := or_lowC (q := 2 ^ w - 1) (r := 2 ^ (f - 1)) (k := f) (by omega) (by omega) (by omega)
  rw [x5] at o
  simp [fn5, e, s2, o]
end Pg

namespace Pg
open PySem L2 Rm
open PySem.Builtin.Int (intBits)
/-! values and neighbours -/
theorem stl_exact {w f : Nat} {k : Nat} {s c : Int} (h : c < 2 ^ (w + f) - 2 ^ f) : stl w f k s c 0 = (c, 0) := by
  unfold stl; rw [if_neg (by omega)]; simp
theorem lv_last {w : Nat} (hw : 1 ≤ w) (f : Nat) : lv f (2 ^ (w + f) - 2 ^ f) = 2 ^ f * 2 ^ ((2 : Int) ^ w - 2).toNat := by
  have w2 : (2 : Int) ≤ 2 ^ w := by have := two_le_pow hw; simpa using this
  have pf := p2 f
  have := lv_cut (f := f) (s := ((2 : Int) ^ w - 2).toNat) (u := 2 ^ f) (by omega) (by rw [pow_s]; omega) (.inr (Int.le_refl _))
  rw [← this]
  congr 1
  have e : ((((2 : Int) ^ w - 2).toNat : Nat) : Int) = 2 ^ w - 2 := by omega
  rw [e, Int.sub_mul, ← Int.pow_add]; omega
/-- a code by its place and figures -/
theorem code_su (f : Nat) {c : Int} (c0 : 0 ≤ c) : ∃ (s : Nat) (u : Int), c = s * 2 ^ f + u ∧ 0 ≤ u ∧ u < 2 ^ (f + 1) ∧ (s = 0 ∨ 2 ^ f ≤ u) := by
  have pf := p2 f
  have eF := pow_s f
  have e := Int.mul_ediv_add_emod c (2 ^ f)
  have r := mn c f
  have q := dn f c0
  rcases Int.lt_or_eq_of_le q with z | z
  · refine ⟨(c / 2 ^ f - 1).toNat, 2 ^ f + c % 2 ^ f, ?_, by omega, by omega, .inr (by omega)⟩
    have h : (((c / 2 ^ f - 1).toNat : Nat) : Int) = c / 2 ^ f - 1 := by omega
    rw [h, Int.sub_mul, Int.mul_comm]; omega
  · rw [← z] at e
    exact ⟨0, c, by simp, c0, by omega, .inl rfl⟩
theorem lv_pw (f : Nat) {c : Int} (c0 : 0 ≤ c) : ∃ (x : Int) (q : Nat), lv f c = x * 2 ^ q ∧ 0 ≤ x ∧ x < 2 ^ (f + 1) := by
  obtain ⟨s, u, e, u0, u1, us⟩ := code_su f c0
  exact ⟨u, s, by rw [e]; exact lv_cut u0 (by omega) us, u0, u1⟩
theorem lv_exact {f : Nat} {c V x : Int} {q : Nat} (c0 : 0 ≤ c) (hV : V = x * 2 ^ q) (x0 : 0 ≤ x) (x1 : x < 2 ^ (f + 1)) (h1 : lv f c ≤ V) (h2 : V < lv f (c + 1)) : V = lv f c := by
  obtain ⟨s, u, e, u0, u1, us⟩ := code_su f c0
  have l1 : lv f c = u * 2 ^ s := by rw [e]; exact lv_cut u0 (by omega) us
  have l2 : lv f (c + 1) = (u + 1) * 2 ^ s := by
    rw [e, Int.add_assoc]; exact lv_cut (by omega) (by omega) (by omega)
  have ps := p2 s
  rw [l1] at h1 ⊢
  rw [l2] at h2
  have sq : s ≤ q := by
    rcases us with z | z
    · omega
    · rcases Nat.lt_or_ge q s with y | y
      · exfalso
        have a1 : (2 : Int) ^ f * 2 ^ s ≤ u * 2 ^ s := Int.mul_le_mul_of_nonneg_right z (by omega)
        have a2 : x * 2 ^ q < 2 ^ (f + 1) * 2 ^ q := Int.mul_lt_mul_of_pos_right x1 (p2 q)
        rw [← Int.pow_add] at a1 a2
        have a3 := two_le_pow (show f + 1 + q ≤ f + s by omega)
        omega
      · exact y
  have e2 : x * 2 ^ q = x * 2 ^ (q - s) * 2 ^ s := by rw [Int.mul_assoc, ← Int.pow_add, Nat.sub_add_cancel sq]
  rw [hV, e2] at h1 h2 ⊢
  have b1 := Int.le_of_mul_le_mul_right h1 ps
  have b2 := Int.lt_of_mul_lt_mul_right h2 (by omega)
  have : x * 2 ^ (q - s) = u := by omega
  rw [this]
theorem Fr.exact {f : Nat} {V B c r : Int} (F : Fr f V B c r) {c' : Int} (c0 : 0 ≤ c') (h : V = lv f c' * B) : c = c' ∧ r = 0 := by
  have e : c = c' := by
    have l := F.lo
    have u := F.hi
    rw [h] at l u
    have l1 := Int.le_of_mul_le_mul_right l F.b0
    have l2 := Int.lt_of_mul_lt_mul_right u (Int.le_of_lt F.b0)
    rcases Int.lt_trichotomy c c' with z | z | z
    · have := lv_le (f := f) (a := c + 1) (b := c') (by have := F.c0; omega) (by omega); omega
    · exact z
    · have := lv_lt (f := f) c0 z; omega
  refine ⟨e, ?_⟩
  have := F.rst
  rw [e, h, Int.sub_self] at this
  simpa [rs] using this
theorem Fr.zero {f : Nat} {V B c r : Int} (F : Fr f V B c r) (h : r = 0) : V = lv f c * B := by
  have := F.rst
  rw [h] at this
  unfold rs at this
  split at this
  · omega
  · split at this
    · omega
    · split at this <;> omega
theorem Fr.nn {f : Nat} {V B c r : Int} (F : Fr f V B c r) : 0 ≤ r := by
  rw [F.rst]; unfold rs; split
  · omega
  · split
    · omega
    · split <;> omega
theorem lv_lt_iff {f : Nat} {a b : Int} (ha : 0 ≤ a) (hb : 0 ≤ b) (h : lv f a < lv f b) : a < b := by
  rcases Int.lt_or_le a b with z | z
  · exact z
  · have := lv_le (f := f) hb z; omega
theorem lv_le_iff {f : Nat} {a b : Int} (ha : 0 ≤ a) (hb : 0 ≤ b) (h : lv f a ≤ lv f b) : a ≤ b := by
  rcases Int.lt_or_le b a with z | z
  · have := lv_lt (f := f) hb z; omega
  · exact z
theorem Fr.uniq {f : Nat} {V B c r : Int} (F : Fr f V B c r) {a : Int} (a0 : 0 ≤ a) (h1 : lv f a * B ≤ V) (h2 : V < lv f (a + 1) * B) : c = a := by
  have l1 := Int.lt_of_mul_lt_mul_right (Int.lt_of_le_of_lt h1 F.hi) (Int.le_of_lt F.b0)
  have l2 := Int.lt_of_mul_lt_mul_right (Int.lt_of_le_of_lt F.lo h2) (Int.le_of_lt F.b0)
  have := lv_lt_iff a0 (by have := F.c0; omega) l1
  have := lv_lt_iff F.c0 (by omega) l2
  omega
theorem lv_ge (f : Nat) : ∀ n : Nat, (n : Int) ≤ lv f n
  | 0 => by rw [show ((0 : Nat) : Int) = 0 from rfl, lv_zero]; omega
  | n + 1 => by
    have := lv_ge f n
    have := lv_lt (f := f) (a := n) (b := ((n + 1 : Nat) : Int)) (by omega) (by omega)
    omega
theorem lv_floor (f : Nat) {V : Int} (h : 0 ≤ V) : ∃ c : Int, 0 ≤ c ∧ lv f c ≤ V ∧ V < lv f (c + 1) := by
  have key : ∀ N : Nat, V < lv f N → ∃ c : Int, 0 ≤ c ∧ lv f c ≤ V ∧ V < lv f (c + 1) := by
    intro N
    induction N with
    | zero => intro z; rw [show ((0 : Nat) : Int) = 0 from rfl, lv_zero] at z; omega
    | succ N ih =>
      intro z
      rcases Int.lt_or_le V (lv f N) with y | y
      · exact ih y
      · exact ⟨N, by omega, y, by simpa using z⟩
  refine key (V.toNat + 1) ?_
  have := lv_ge f (V.toNat + 1)
  omega
/-- every number of a size is one of a wider size -/
theorem lv_emb {f f' d : Nat} (hf : f ≤ f') {a : Int} (a0 : 0 ≤ a) : ∃ p : Int, 0 ≤ p ∧ lv f' p = lv f a * 2 ^ d := by
  obtain ⟨x, q, ex, x0, x1⟩ := lv_pw f a0
  obtain ⟨c, c0, h1, h2⟩ := lv_floor f' (V := lv f a * 2 ^ d) (Int.mul_nonneg (lv_nn a0) (Int.le_of_lt (p2 d)))
  have xf := two_le_pow (show f + 1 ≤ f' + 1 by omega)
  exact ⟨c, c0, (lv_exact (x := x) (q := q + d) c0 (by rw [ex, Int.mul_assoc, ← Int.pow_add]) x0 (by omega) h1 h2).symm⟩
end Pg

namespace Pg
open PySem L2 Rm
open PySem.Builtin.Int (intBits)
/-! exact sums of worths -/
abbrev T3 := Int × Int × Int
def tm (t : T3) : MV := .tup [.int t.1, .int t.2.1, .int t.2.2]
def lstP (ts : List T3) : Int := match ts.map (·.2.2) with
  | [] => 0
  | i :: is => mnL i is
def exT (l : Int) (t : T3) : Int := (1 - 2 * t.1) * (t.2.1 * 2 ^ (t.2.2 - l).toNat)
def exS3 (l : Int) : List T3 → Int
  | [] => 0
  | t :: ts => exT l t + exS3 l ts
structure Tms (ts : List T3) : Prop where
  sgn : ∀ t ∈ ts, t.1 = 0 ∨ t.1 = 1
  nn : ∀ t ∈ ts, 0 ≤ t.2.1
  bits : ∀ t ∈ ts, intBits t.2.1 ≤ 40000000
  pw : ∀ t ∈ ts, -1000000 ≤ t.2.2 ∧ t.2.2 ≤ 1000000
theorem mnL_ok : ∀ (is : List Int) (m : Int), (mnL m is = m ∨ mnL m is ∈ is) ∧ mnL m is ≤ m ∧ ∀ y ∈ is, mnL m is ≤ y
  | [], m => ⟨.inl rfl, Int.le_refl _, fun y hy => by cases hy⟩
  | i :: is, m => by
    obtain ⟨a, b, c⟩ := mnL_ok is (if i < m then i else m)
    have e : mnL m (i :: is) = mnL (if i < m then i else m) is := rfl
    rw [e]
    refine ⟨?_, ?_, fun y hy => ?_⟩
    · rcases a with a | a
      · rw [a]; split
        · exact .inr (List.mem_cons_self ..)
        · exact .inl rfl
      · exact .inr (List.mem_cons_of_mem _ a)
    · split at b <;> split <;> omega
    · rcases List.mem_cons.mp hy with z | z
      · subst z; split at b <;> split <;> omega
      · exact c y z
theorem lstP_le {ts : List T3} {t : T3} (h : t ∈ ts) : lstP ts ≤ t.2.2 := by
  cases ts with
  | nil => cases h
  | cons u us =>
    obtain ⟨_, b, c⟩ := mnL_ok (us.map (·.2.2)) u.2.2
    show mnL u.2.2 (us.map (·.2.2)) ≤ _
    rcases List.mem_cons.mp h with z | z
    · rw [z]; exact b
    · exact c _ (List.mem_map.mpr ⟨t, z, rfl⟩)
theorem lstP_bd {ts : List T3} (h : Tms ts) : -1000000 ≤ lstP ts ∧ lstP ts ≤ 1000000 := by
  cases ts with
  | nil => exact ⟨by decide, by decide⟩
  | cons u us =>
    obtain ⟨a, _, _⟩ := mnL_ok (us.map (·.2.2)) u.2.2
    have e : lstP (u :: us) = mnL u.2.2 (us.map (·.2.2)) := rfl
    rw [e]
    rcases a with a | a
    · rw [a]; exact h.pw u (List.mem_cons_self ..)
    · obtain ⟨t, h1, h2⟩ := List.mem_map.mp a
      rw [← h2]; exact h.pw t (List.mem_cons_of_mem _ h1)
theorem getM (t : T3) (h : HP) : idxV h (tm t) (.int 2) = some (.int t.2.2) ∧ idxV h (tm t) (.int 0) = some (.int t.1) := ⟨by simp [tm], by simp [tm]⟩
theorem total_loop (n : Nat) {h : HP} {v : MV} {ts : List T3} (hv : seqOf h v = some (ts.map tm)) (l : Int) (C : Nat → List MV → HP → R MV) : ∀ (ys : List T3) (acc : Int) (x3 x4 x5 x6 x7 : Option MV), Tms ys → (∀ t ∈ ys, l ≤ t.2.2 ∧ t.2.2 - l ≤ 2000000) →
    ∃ y3 y4 y5 y6 : Option MV, forL (.tup [3, 4, 5]) (fun h => seqOf h v) (ts.map tm) (exSs p.T C w31_0) (ys.map tm) [some v, some (.int l), some (.int acc), x3, x4, x5, x6, x7] h = .nx [some v, some (.int l), some (.int (acc + exS3 l ys)), y3, y4, y5, y6, x7] h
  | [], acc, x3, x4, x5, x6, x7, _, _ => ⟨x3, x4, x5, x6, by simp only [List.map_nil]; rw [forL, if_pos hv]; simp [exS3]⟩
  | t :: ys, acc, x3, x4, x5, x6, x7, hy, hl => by
    have sg := hy.sgn t (List.mem_cons_self ..)
    have nn := hy.nn t (List.mem_cons_self ..)
    have bt := hy.bits t (List.mem_cons_self ..)
    have lt := hl t (List.mem_cons_self ..)
    have sh := shlB_of (b := t.2.2 - l) bt (by omega) (by omega)
    have hy' : Tms ys := ⟨fun u hu => hy.sgn u (List.mem_cons_of_mem _ hu), fun u hu => hy.nn u (List.mem_cons_of_mem _ hu), fun u hu => hy.bits u (List.mem_cons_of_mem _ hu), fun u hu => hy.pw u (List.mem_cons_of_mem _ hu)⟩
    have ih := total_loop n hv l C ys (acc + exT l t) (some (.int t.1)) (some (.int t.2.1)) (some (.int t.2.2)) (some (.int (t.2.1 * 2 ^ (t.2.2 - l).toNat))) x7 hy' fun u hu => hl u (List.mem_cons_of_mem _ hu)
    obtain ⟨y3, y4, y5, y6, e⟩ := ih
    refine ⟨y3, y4, y5, y6, ?_⟩
    have e2 : acc + exS3 l (t :: ys) = acc + exT l t + exS3 l ys := by
      have : exS3 l (t :: ys) = exT l t + exS3 l ys := rfl
      omega
    rw [e2]
    rw [List.map_cons, forL, if_pos hv]
    have sg1 : setG (.tup [3, 4, 5]) (tm t) [some v, some (.int l), some (.int acc), x3, x4, x5, x6, x7] = some [some v, some (.int l), some (.int acc), some (.int t.1), some (.int t.2.1), some (.int t.2.2), x6, x7] := by simp [tm]
    rw [sg1]
    rcases sg with z | z
    · have ex : acc + t.2.1 * 2 ^ (t.2.2 - l).toNat = acc + exT l t := by unfold exT; rw [z]; simp
      simp [z, sh, ex]
      rw [z] at e
      exact e
    · have ex : acc - t.2.1 * 2 ^ (t.2.2 - l).toNat = acc + exT l t := by unfold exT; rw [z, show (1 - 2 * 1 : Int) = -1 from rfl, Int.neg_one_mul, Int.sub_eq_add_neg]
      simp [z, sh, ex]
      rw [z] at e
      exact e
theorem s_total (n : Nat) {h : HP} {v : MV} {ts : List T3} (hv : ∀ g, seqOf (h ++ g) v = some (ts.map tm)) (ht : Tms ts) (hn : ts.length ≤ 1000000) :
    run p.T p.fs (n + 1) 31 [v] h = .ok (.tup [.int (if exS3 (lstP ts) ts < 0 then 1 else 0), .int (exS3 (lstP ts) ts).natAbs, .int (lstP ts)]) h := by
  rw [run_eq (F := fn31) rfl rfl]
  have hv0 : seqOf h v = some (ts.map tm) := by simpa using hv []
  have lb := lstP_bd ht
  have hl (e : EN) (he : 7 < e.length) : lcL false (.one 7) (fun h => seqOf h v) (ts.map tm) (evE p.T (run p.T p.fs n) (.idx (.var 7) (.cI 2))) e h (ts.map tm) [] = .ok (.lst (ts.map fun t => .int t.2.2)) h :=
    lcL_map ts tm (fun t => .int t.2.2) (fun acc => hv _) (by omega) fun t _ => ⟨e.set 7 (some (tm t)), rfl, fun H => by simp [he, tm], by simp⟩
  have hm : mndV h (.lst (ts.map fun t => MV.int t.2.2)) (.int 0) = some (.int (lstP ts)) := by
    have : (ts.map fun t => MV.int t.2.2) = (ts.map (·.2.2)).map .int := by rw [List.map_map]; rfl
    rw [this, mndV_lst]
    unfold lstP
    cases ts.map (·.2.2) <;> rfl
  obtain ⟨y3, y4, y5, y6, lp⟩ := total_loop n hv0 (lstP ts) (run p.T p.fs n) ts 0 none none none none none ht fun t hm => ⟨lstP_le hm, by have := ht.pw t hm; omega⟩
  rw [Int.zero_add] at lp
  obtain ⟨S, hS⟩ : ∃ S, exS3 (lstP ts) ts = S := ⟨_, rfl⟩
  rw [hS] at lp ⊢
  by_cases z : S < 0
  · have e : ((S.natAbs : Nat) : Int) = -S := by omega
    rw [e]
    simp [fn31, hv0, hl, hm, lp, z]
  · have e : ((S.natAbs : Nat) : Int) = S := by omega
    rw [e]
    simp [fn31, hv0, hl, hm, lp, z]
end Pg

namespace Pg
open PySem L2 Rm
open PySem.Builtin.Int (intBits)
/-- the same number by another top and bottom -/
theorem Fr.ratio {f : Nat} {V B c r V' B' : Int} (F : Fr f V B c r) (b' : 0 < B') (e : V * B' = V' * B) : Fr f V' B' c r := by
  have b0 := F.b0
  refine ⟨F.c0, b', ?_, ?_, ?_⟩
  · have h := Int.mul_le_mul_of_nonneg_right F.lo (Int.le_of_lt b')
    rw [e, Int.mul_assoc, Int.mul_comm B, ← Int.mul_assoc] at h
    exact Int.le_of_mul_le_mul_right h b0
  · have h := Int.mul_lt_mul_of_pos_right F.hi b'
    rw [e, Int.mul_assoc, Int.mul_comm B, ← Int.mul_assoc] at h
    exact Int.lt_of_mul_lt_mul_right h (Int.le_of_lt b0)
  · have h1 := rs_mulI (V - lv f c * B) ((lv f (c + 1) - lv f c) * B) b'
    have h2 := rs_mulI (V' - lv f c * B') ((lv f (c + 1) - lv f c) * B') b0
    rw [F.rst, ← h1, ← h2]
    congr 1
    · rw [Int.sub_mul, Int.sub_mul, e]
      congr 1
      rw [Int.mul_assoc, Int.mul_assoc, Int.mul_comm B]
    · rw [Int.mul_assoc, Int.mul_assoc, Int.mul_comm B]
end Pg

namespace Pg
open PySem L2 Rm
open PySem.Builtin.Int (intBits)
/-! sums settled: the sign of a sum that is nought, the rounding -/
theorem inF_ints (i : Int) : ∀ ss : List Int, inF (.int i) (ss.map .int) = decide (i ∈ ss)
  | [] => by simp [inF]
  | s :: ss => by
    have ih := inF_ints i ss
    unfold inF at ih ⊢
    rw [List.map_cons, List.any_cons, ih]
    have : eqF (.int s) (.int i) = decide (i = s) := by
      show (s == i) = _
      by_cases h : s = i
      · simp [h]
      · have h' : ¬ i = s := fun z => h z.symm
        simp [h, h']
    rw [this]
    by_cases h : i = s <;> simp [h]
theorem flat_ints (ss : List Int) : (ss.map MV.int).all flatM = true := by
  rw [List.all_eq_true]
  intro x hx
  obtain ⟨s, _, rfl⟩ := List.mem_map.mp hx
  rfl
theorem inV_ints {h : HP} {v : MV} {ss : List Int} (hv : seqOf h v = some (ss.map .int)) (i : Int) : Rm.inV h (.int i) v = some (decide (i ∈ ss)) := by
  rw [inV_seq hv]
  have : (flatM (.int i) && (ss.map MV.int).all flatM) = true := by rw [flat_ints]; rfl
  rw [if_pos this, inF_ints]
def noughtS (k : Nat) (ss : List Int) : Int := match ss with
  | [] => 0
  | s :: _ => if 0 ∈ ss ∧ 1 ∈ ss then (if k = 4 then 1 else 0) else s
theorem s_nought (n : Nat) (h : HP) (k : Nat) (hk : k < 5) {v : MV} {ss : List Int} (hv : seqOf h v = some (ss.map .int)) (hi : ∀ s0 rest, ss = s0 :: rest → idxV h v (.int 0) = some (.int s0)) :
    run p.T p.fs (n + 3) 32 [.str (wayN k), v] h = .ok (.int (noughtS k ss)) h := by
  rw [run_eq (F := fn32) rfl rfl]
  have wo := s_way_of n h k hk
  have i0 := inV_ints hv 0
  have i1 := inV_ints hv 1
  have w4 : eqM h (.str (wayN k)) (.str "down") = some (decide (k = 4)) := by rcases five hk with z | z | z | z | z <;> subst z <;> simp [wayN]
  cases ss with
  | nil => simp [fn32, wo, hv, noughtS]
  | cons s0 rest =>
    have ix := hi s0 rest rfl
    have len : ¬ ((rest.length : Int) + 1 = 0) := by omega
    by_cases a : (0 : Int) ∈ s0 :: rest
    · by_cases b : (1 : Int) ∈ s0 :: rest
      · by_cases c : k = 4
        · subst c
          simp -implicitDefEqProofs only [noughtS, a, b, and_self, if_true]
          simp -implicitDefEqProofs [fn32, wo, hv, i0, i1, a, b, w4, len]
        · simp -implicitDefEqProofs only [noughtS, a, b, c, and_self, if_true, if_false]
          simp -implicitDefEqProofs [fn32, wo, hv, i0, i1, a, b, w4, c, len]
      · simp -implicitDefEqProofs only [noughtS, a, b, and_false, if_false]
        simp -implicitDefEqProofs [fn32, wo, hv, i0, i1, a, b, len, ix]
    · simp -implicitDefEqProofs only [noughtS, a, false_and, if_false]
      simp -implicitDefEqProofs [fn32, wo, hv, i0, i1, a, len, ix]
end Pg

namespace Pg
open PySem L2 Rm
open PySem.Builtin.Int (intBits)
section
variable (w f : Nat) (hw2 : 2 ≤ w) (hw : w ≤ 15) (hf1 : 1 ≤ f) (hf : f ≤ 112) (n : Nat) {h : HP} (k : Nat) (hk : k < 5) {v : MV} {ts : List T3} (hv : ∀ g, seqOf (h ++ g) v = some (ts.map tm)) (ht : Tms ts) (hn : ts.length ≤ 1000000)
include hw2 hw hf1 hf hk hv ht hn
theorem s_settled_nought (hz : exS3 (lstP ts) ts = 0) :
    run p.T p.fs (n + 6) 33 [.tup [.int w, .int f], .str (wayN k), v] h = .ok (.tup [.int (noughtS k (ts.map (·.1)) * 2 ^ (w + f)), .int 0]) h := by
  rw [run_eq (F := fn33) rfl rfl]
  have wo := s_way_of (n + 3) h k hk
  have hv0 : seqOf h v = some (ts.map tm) := by simpa using hv []
  have tt := s_total (n + 4) hv ht hn
  rw [hz] at tt
  simp at tt
  have hl (e : EN) (he : 6 < e.length) : lcL false (.one 6) (fun h => seqOf h v) (ts.map tm) (evE p.T (run p.T p.fs (n + 5)) (.idx (.var 6) (.cI 0))) e h (ts.map tm) [] = .ok (.lst (ts.map fun t => .int t.1)) h :=
    lcL_map ts tm (fun t => .int t.1) (fun acc => hv _) (by omega) fun t _ => ⟨e.set 6 (some (tm t)), rfl, fun H => by simp [he, tm], by simp⟩
  have em : (ts.map fun t => MV.int t.1) = (ts.map (·.1)).map .int := by rw [List.map_map]; rfl
  have ns := s_nought (n + 2) h k hk (v := .lst (ts.map fun t => MV.int t.1)) (ss := ts.map (·.1)) (by rw [em]; rfl) (fun s0 rest e => by rw [em, e]; simp)
  have sb := s_sign_bit' w f (by omega) (by omega) (n + 4) h
  have nb : noughtS k (ts.map (·.1)) = 0 ∨ noughtS k (ts.map (·.1)) = 1 := by
    cases ts with
    | nil => left; rfl
    | cons t us =>
      show (if _ then _ else _) = _ ∨ (if _ then _ else _) = _
      have := ht.sgn t (List.mem_cons_self ..)
      split
      · split
        · right; rfl
        · left; rfl
      · exact this
  have ms : mulB (noughtS k (ts.map (·.1))) (2 ^ (w + f)) = true := mulB_left (by rcases nb with z | z <;> rw [z] <;> decide)
  simp -implicitDefEqProofs [fn33, wo, tt, hv0, hl, ns, sb, ms]
theorem s_settled_fin (hz : exS3 (lstP ts) ts ≠ 0) (sb : intBits (exS3 (lstP ts) ts) ≤ 400000) (lb : -400000 ≤ lstP ts ∧ lstP ts ≤ 400000) : ∃ c r : Int, Fr f ((exS3 (lstP ts) ts).natAbs * 2 ^ (lstP ts).toNat * 2 ^ stp0 w f) (2 ^ (-lstP ts).toNat) c r ∧
    run p.T p.fs (n + 6) 33 [.tup [.int w, .int f], .str (wayN k), v] h = .ok (.tup [.int ((if exS3 (lstP ts) ts < 0 then 1 else 0) * 2 ^ (w + f) + (stl w f k (if exS3 (lstP ts) ts < 0 then 1 else 0) c r).1), .int (stl w f k (if exS3 (lstP ts) ts < 0 then 1 else 0) c r).2]) h := by
  have wo := s_way_of (n + 3) h k hk
  have hv0 : seqOf h v = some (ts.map tm) := by simpa using hv []
  have tt := s_total (n + 4) hv ht hn
  obtain ⟨S, hS⟩ : ∃ S, exS3 (lstP ts) ts = S := ⟨_, rfl⟩
  obtain ⟨l, hl⟩ : ∃ l, lstP ts = l := ⟨_, rfl⟩
  rw [hS, hl] at tt
  rw [hS] at hz sb ⊢
  rw [hl] at lb ⊢
  have az : ¬ ((S.natAbs : Nat) : Int) = 0 := by omega
  have ab : intBits ((S.natAbs : Nat) : Int) ≤ 400000 := intBits_le_of_natAbs (by omega) sb
  obtain ⟨s, hs⟩ : ∃ s : Int, (if S < 0 then (1 : Int) else 0) = s := ⟨_, rfl⟩
  have s01 : s = 0 ∨ s = 1 := by split at hs <;> omega
  rw [hs] at tt ⊢
  obtain ⟨A, hA⟩ : ∃ A : Int, ((S.natAbs : Nat) : Int) = A := ⟨_, rfl⟩
  rw [hA] at tt az ab ⊢
  have A0 : 0 ≤ A := by omega
  have pp := p2 l.toNat
  have pm := p2 (-l).toNat
  obtain ⟨c, r, C, er⟩ := s_rounded w f hw2 (by omega) hf1 (by omega) n h k hk s01 (t := A * 2 ^ l.toNat) (b := 2 ^ (-l).toNat) (Int.mul_nonneg A0 (by omega)) (by omega) (ib_mono (intBits_mul_le ab (ib_pow2 _)) (by omega)) (ib_mono (ib_pow2 _) (by omega))
  refine ⟨c, r, C.fr (by omega), ?_⟩
  rw [run_eq (F := fn33) rfl rfl]
  by_cases z : 0 ≤ l
  · have e1 : (-l).toNat = 0 := by omega
    rw [e1] at er
    simp at er
    have sl := shlB_of (b := l) ab z (by omega)
    simp -implicitDefEqProofs [fn33, wo, tt, az, z, sl, er]
  · have e1 : l.toNat = 0 := by omega
    rw [e1] at er
    simp at er
    have sl := shlB_one (b := -l) (by omega) (by omega)
    simp -implicitDefEqProofs [fn33, wo, tt, az, z, sl, er]
end
end Pg

namespace Pg
open PySem L2 Rm
open PySem.Builtin.Int (intBits)
theorem s_gone (w f : Nat) (hw2 : 2 ≤ w) (hw : w ≤ 15) (hf1 : 1 ≤ f) (hf : f ≤ 112) (n : Nat) (h : HP) : run p.T p.fs (n + 3) 35 [.tup [.int w, .int f]] h = .ok (.tup [.int (2 ^ (w + f) - 2 ^ f + 2 ^ (f - 1)), .int 16]) h := by
  rw [run_eq (F := fn35) rfl rfl]
  have nn := s_nonum w f hw hw2 hf1 hf n h
  simp [fn35, nn]
end Pg

namespace Pg
open PySem L2 Rm
open PySem.Builtin.Int (intBits)
theorem s_endless_with (w f : Nat) (hw2 : 2 ≤ w) (hw : w ≤ 15) (hf1 : 1 ≤ f) (hf : f ≤ 112) (n : Nat) (h : HP) {s : Int} (hs : s = 0 ∨ s = 1) : run p.T p.fs (n + 2) 36 [.tup [.int w, .int f], .int s] h = .ok (.int (s * 2 ^ (w + f) + (2 ^ (w + f) - 2 ^ f))) h := by
  rw [run_eq (F := fn36) rfl rfl]
  have sb := s_sign_bit' w f (by omega) (by omega) n h
  have en := s_endless w f (by omega) (by omega) n h
  have ms : mulB s (2 ^ (w + f)) = true := mulB_left (by rcases hs with z | z <;> rw [z] <;> decide)
  simp [fn36, sb, en, ms]
end Pg

namespace Pg
open PySem L2 Rm
open PySem.Builtin.Int (intBits)
/-! sums of terms -/
inductive Tm3 where
  | wr | en (s : Int) | fin (t : T3)
def tmMV : Tm3 → MV
  | .wr => .tup [.str "wrong", .int 0, .int 0, .int 0]
  | .en s => .tup [.str "endless", .int s, .int 0, .int 0]
  | .fin t => .tup [.str "finite", .int t.1, .int t.2.1, .int t.2.2]
def ens : List Tm3 → List Int
  | [] => []
  | .en s :: ts => s :: ens ts
  | .wr :: ts => ens ts
  | .fin _ :: ts => ens ts
def fins : List Tm3 → List T3
  | [] => []
  | .fin t :: ts => t :: fins ts
  | .wr :: ts => fins ts
  | .en _ :: ts => fins ts
def hasWr : List Tm3 → Bool
  | [] => false
  | .wr :: _ => true
  | .en _ :: ts => hasWr ts
  | .fin _ :: ts => hasWr ts
theorem fins_len : ∀ ts : List Tm3, (fins ts).length ≤ ts.length
  | [] => Nat.le_refl _
  | .wr :: ts => by have := fins_len ts; simp only [fins, List.length_cons]; omega
  | .en _ :: ts => by have := fins_len ts; simp only [fins, List.length_cons]; omega
  | .fin _ :: ts => by have := fins_len ts; simp only [fins, List.length_cons]; omega
@[simp] theorem tq_ww (h : HP) : eqM h (.str "wrong") (.str "wrong") = some true := eqM_lit h true (by decide +kernel)
@[simp] theorem tq_ew (h : HP) : eqM h (.str "endless") (.str "wrong") = some false := eqM_lit h false (by decide +kernel)
@[simp] theorem tq_fw (h : HP) : eqM h (.str "finite") (.str "wrong") = some false := eqM_lit h false (by decide +kernel)
@[simp] theorem tq_fe (h : HP) : eqM h (.str "finite") (.str "endless") = some false := eqM_lit h false (by decide +kernel)
@[simp] theorem tq_ff (h : HP) : eqM h (.str "finite") (.str "finite") = some true := eqM_lit h true (by decide +kernel)
@[simp] theorem tq_ef (h : HP) : eqM h (.str "endless") (.str "finite") = some false := eqM_lit h false (by decide +kernel)
section
variable (h : HP) (A B : List MV) (x : MV)
theorem c0_at : (h ++ [.lst A, .lst B])[h.length]? = some (MO.lst A) := by simp
theorem c1_at : (h ++ [.lst A, .lst B])[h.length + 1]? = some (MO.lst B) := by simp
@[simp] theorem c0_cell : isCell (h ++ [.lst A, .lst B]) (.ref h.length) = true := by simp [isCell]
@[simp] theorem c1_cell : isCell (h ++ [.lst A, .lst B]) (.ref (h.length + 1)) = true := by simp [isCell]
theorem c0_app (ha : A.length < sz) : appV (h ++ [.lst A, .lst B]) (.ref h.length) x = some (h ++ [.lst (A ++ [x]), .lst B]) := by
  have : (h ++ [MO.lst A, .lst B]).set h.length (.lst (A ++ [x])) = h ++ [.lst (A ++ [x]), .lst B] := by
    rw [List.set_append_right _ _ (Nat.le_refl _)]; simp
  simp only [appV, c0_at]
  rw [if_pos ha, this]
theorem c1_app (hb : B.length < sz) : appV (h ++ [.lst A, .lst B]) (.ref (h.length + 1)) x = some (h ++ [.lst A, .lst (B ++ [x])]) := by
  have : (h ++ [MO.lst A, .lst B]).set (h.length + 1) (.lst (B ++ [x])) = h ++ [.lst A, .lst (B ++ [x])] := by
    rw [List.set_append_right _ _ (by omega)]
    have e : h.length + 1 - h.length = 1 := by omega
    rw [e]; rfl
  simp only [appV, c1_at]
  rw [if_pos hb, this]
theorem c0_seq (g : HP) : seqOf (h ++ [.lst A, .lst B] ++ g) (.ref h.length) = some A := by
  have : (h ++ [MO.lst A, .lst B] ++ g)[h.length]? = some (.lst A) := by rw [List.getElem?_append_left (by simp)]; simp
  simp only [seqOf, getL, this]
theorem c1_seq (g : HP) : seqOf (h ++ [.lst A, .lst B] ++ g) (.ref (h.length + 1)) = some B := by
  have : (h ++ [MO.lst A, .lst B] ++ g)[h.length + 1]? = some (.lst B) := by rw [List.getElem?_append_left (by simp)]; simp
  simp only [seqOf, getL, this]
theorem c0_idx (i : Int) : idxV (h ++ [.lst A, .lst B]) (.ref h.length) (.int i) = atI A i := by
  simp only [idxV, getL, c0_at]; rfl
end
theorem leave_app2 (h g : HP) (a b : Int) : leave false h (.ret (.tup [.int a, .int b]) (h ++ g)) = .ok (.tup [.int a, .int b]) h := by
  simp [leave, fin]
section
variable (w f : Nat) (hw2 : 2 ≤ w) (hw : w ≤ 15) (hf1 : 1 ≤ f) (hf : f ≤ 112) (n : Nat) {h : HP} (k : Nat) {v : MV} {ts : List Tm3} (hv : ∀ g, seqOf (h ++ g) v = some (ts.map tmMV))
include hw2 hw hf1 hf hv
theorem sot_wr (x : MV) : ∀ (ys : List Tm3) (A B : List MV) (x5 x6 x7 x8 : Option MV), hasWr ys = true → A.length + ys.length ≤ 1000000 → B.length + ys.length ≤ 1000000 →
    ∃ g, forL (.tup [5, 6, 7, 8]) (fun h => seqOf h v) (ts.map tmMV) (exSs p.T (run p.T p.fs (n + 3)) w39_0) (ys.map tmMV) [some (.tup [.int w, .int f]), some x, some v, some (.ref h.length), some (.ref (h.length + 1)), x5, x6, x7, x8] (h ++ [.lst A, .lst B]) =
      .ret (.tup [.int (2 ^ (w + f) - 2 ^ f + 2 ^ (f - 1)), .int 16]) (h ++ g)
  | [], A, B, x5, x6, x7, x8, hh, _, _ => by cases hh
  | .wr :: ys, A, B, x5, x6, x7, x8, _, _, _ => by
    have gw := s_gone w f hw2 hw hf1 hf n (h ++ [.lst A, .lst B])
    refine ⟨[.lst A, .lst B], ?_⟩
    rw [List.map_cons, forL, if_pos (hv _)]
    simp [tmMV, gw]
  | .en s :: ys, A, B, x5, x6, x7, x8, hh, l1, l2 => by
    rw [List.length_cons] at l1 l2
    obtain ⟨g, e⟩ := sot_wr x ys (A ++ [.int s]) B (some (.str "endless")) (some (.int s)) (some (.int 0)) (some (.int 0)) hh (by rw [List.length_append, List.length_singleton]; omega) (by omega)
    refine ⟨g, ?_⟩
    have ap := c0_app h A B (.int s) (by unfold sz; omega)
    rw [List.map_cons, forL, if_pos (hv _)]
    simp [tmMV, ap]
    exact e
  | .fin t :: ys, A, B, x5, x6, x7, x8, hh, l1, l2 => by
    rw [List.length_cons] at l1 l2
    obtain ⟨g, e⟩ := sot_wr x ys A (B ++ [.tup [.int t.1, .int t.2.1, .int t.2.2]]) (some (.str "finite")) (some (.int t.1)) (some (.int t.2.1)) (some (.int t.2.2)) hh (by omega) (by rw [List.length_append, List.length_singleton]; omega)
    refine ⟨g, ?_⟩
    have ap := c1_app h A B (.tup [.int t.1, .int t.2.1, .int t.2.2]) (by unfold sz; omega)
    rw [List.map_cons, forL, if_pos (hv _)]
    simp [tmMV, ap]
    exact e
theorem sot_ok (x : MV) : ∀ (ys : List Tm3) (A B : List MV) (x5 x6 x7 x8 : Option MV), hasWr ys = false → A.length + ys.length ≤ 1000000 → B.length + ys.length ≤ 1000000 →
    ∃ y5 y6 y7 y8 : Option MV, forL (.tup [5, 6, 7, 8]) (fun h => seqOf h v) (ts.map tmMV) (exSs p.T (run p.T p.fs (n + 3)) w39_0) (ys.map tmMV) [some (.tup [.int w, .int f]), some x, some v, some (.ref h.length), some (.ref (h.length + 1)), x5, x6, x7, x8] (h ++ [.lst A, .lst B]) =
      .nx [some (.tup [.int w, .int f]), some x, some v, some (.ref h.length), some (.ref (h.length + 1)), y5, y6, y7, y8] (h ++ [.lst (A ++ (ens ys).map .int), .lst (B ++ (fins ys).map tm)])
  | [], A, B, x5, x6, x7, x8, hh, _, _ => ⟨x5, x6, x7, x8, by
    rw [List.map_nil, forL, if_pos (hv _)]; simp [ens, fins]⟩
  | .wr :: ys, A, B, x5, x6, x7, x8, hh, _, _ => by cases hh
  | .en s :: ys, A, B, x5, x6, x7, x8, hh, l1, l2 => by
    rw [List.length_cons] at l1 l2
    obtain ⟨y5, y6, y7, y8, e⟩ := sot_ok x ys (A ++ [.int s]) B (some (.str "endless")) (some (.int s)) (some (.int 0)) (some (.int 0)) hh (by rw [List.length_append, List.length_singleton]; omega) (by omega)
    refine ⟨y5, y6, y7, y8, ?_⟩
    have ap := c0_app h A B (.int s) (by unfold sz; omega)
    have e1 : A ++ (ens (.en s :: ys)).map .int = A ++ [.int s] ++ (ens ys).map .int := by simp [ens]
    have e2 : (fins (.en s :: ys)) = fins ys := rfl
    rw [e1, e2, List.map_cons, forL, if_pos (hv _)]
    simp only [tmMV, setG_tup, setT_cons, setT_nil]
    refine Eq.trans ?_ e
    simp [ap]
  | .fin t :: ys, A, B, x5, x6, x7, x8, hh, l1, l2 => by
    rw [List.length_cons] at l1 l2
    obtain ⟨y5, y6, y7, y8, e⟩ := sot_ok x ys A (B ++ [.tup [.int t.1, .int t.2.1, .int t.2.2]]) (some (.str "finite")) (some (.int t.1)) (some (.int t.2.1)) (some (.int t.2.2)) hh (by omega) (by rw [List.length_append, List.length_singleton]; omega)
    refine ⟨y5, y6, y7, y8, ?_⟩
    have ap := c1_app h A B (.tup [.int t.1, .int t.2.1, .int t.2.2]) (by unfold sz; omega)
    have e1 : B ++ (fins (.fin t :: ys)).map tm = B ++ [.tup [.int t.1, .int t.2.1, .int t.2.2]] ++ (fins ys).map tm := by simp [fins, tm]
    have e2 : (ens (.fin t :: ys)) = ens ys := rfl
    rw [e1, e2, List.map_cons, forL, if_pos (hv _)]
    simp only [tmMV, setG_tup, setT_cons, setT_nil]
    refine Eq.trans ?_ e
    simp [ap]
theorem s_sum_wr (x : MV) (hn : ts.length ≤ 1000000) (hh : hasWr ts = true) : run p.T p.fs (n + 4) 39 [.tup [.int w, .int f], x, v] h = .ok (.tup [.int (2 ^ (w + f) - 2 ^ f + 2 ^ (f - 1)), .int 16]) h := by
  rw [run_eq (F := fn39) rfl rfl]
  obtain ⟨g, e⟩ := sot_wr w f hw2 hw hf1 hf n hv x ts [] [] none none none none hh (by simpa using hn) (by simpa using hn)
  have hv2 : seqOf (h ++ [.lst [], .lst []]) v = some (ts.map tmMV) := hv _
  simp [fn39, hv2, e, leave_app2]
theorem s_sum_two (x : MV) (hn : ts.length ≤ 1000000) (hh : hasWr ts = false) (h0 : 0 ∈ ens ts) (h1 : 1 ∈ ens ts) : run p.T p.fs (n + 4) 39 [.tup [.int w, .int f], x, v] h = .ok (.tup [.int (2 ^ (w + f) - 2 ^ f + 2 ^ (f - 1)), .int 16]) h := by
  rw [run_eq (F := fn39) rfl rfl]
  obtain ⟨y5, y6, y7, y8, e⟩ := sot_ok w f hw2 hw hf1 hf n hv x ts [] [] none none none none hh (by simpa using hn) (by simpa using hn)
  have hv2 : seqOf (h ++ [.lst [], .lst []]) v = some (ts.map tmMV) := hv _
  simp at e
  have sq : seqOf (h ++ [.lst ((ens ts).map .int), .lst ((fins ts).map tm)]) (.ref h.length) = some ((ens ts).map .int) := by simpa using c0_seq h ((ens ts).map .int) ((fins ts).map tm) []
  have i0 := inV_ints sq 0
  have i1 := inV_ints sq 1
  have gw := s_gone w f hw2 hw hf1 hf n (h ++ [.lst ((ens ts).map .int), .lst ((fins ts).map tm)])
  simp [fn39, hv2, e, i0, i1, h0, h1, gw, leave_app2]
theorem s_sum_end (x : MV) (hn : ts.length ≤ 1000000) (hh : hasWr ts = false) (s : Int) (rest : List Int) (es : ens ts = s :: rest) (hs : ∀ q ∈ ens ts, q = s) (s01 : s = 0 ∨ s = 1) : run p.T p.fs (n + 4) 39 [.tup [.int w, .int f], x, v] h = .ok (.tup [.int (s * 2 ^ (w + f) + (2 ^ (w + f) - 2 ^ f)), .int 0]) h := by
  rw [run_eq (F := fn39) rfl rfl]
  obtain ⟨y5, y6, y7, y8, e⟩ := sot_ok w f hw2 hw hf1 hf n hv x ts [] [] none none none none hh (by simpa using hn) (by simpa using hn)
  have hv2 : seqOf (h ++ [.lst [], .lst []]) v = some (ts.map tmMV) := hv _
  simp at e
  have sq : seqOf (h ++ [.lst ((ens ts).map .int), .lst ((fins ts).map tm)]) (.ref h.length) = some ((ens ts).map .int) := by simpa using c0_seq h ((ens ts).map .int) ((fins ts).map tm) []
  have i0 := inV_ints sq 0
  have i1 := inV_ints sq 1
  have ix := c0_idx h ((ens ts).map .int) ((fins ts).map tm) 0
  have ix2 : atI ((ens ts).map MV.int) 0 = some (.int s) := by rw [es]; simp
  rw [ix2] at ix
  have ew := s_endless_with w f hw2 hw hf1 hf (n + 1) (h ++ [.lst ((ens ts).map .int), .lst ((fins ts).map tm)]) s01
  have lp : 0 < (ens ts).length := by rw [es]; simp
  have nb : ¬ ((0 : Int) ∈ ens ts ∧ (1 : Int) ∈ ens ts) := fun ⟨a, b⟩ => by have := hs 0 a; have := hs 1 b; omega
  by_cases a : (0 : Int) ∈ ens ts
  · have b : ¬ (1 : Int) ∈ ens ts := fun z => nb ⟨a, z⟩
    simp [fn39, hv2, e, i0, i1, a, b, sq, lp, ix, ew, leave_app2]
  · simp [fn39, hv2, e, i0, i1, a, sq, lp, ix, ew, leave_app2]
end
section
variable (w f : Nat) (hw2 : 2 ≤ w) (hw : w ≤ 15) (hf1 : 1 ≤ f) (hf : f ≤ 112) (n : Nat) {h : HP} (k : Nat) (hk : k < 5) {v : MV} {ts : List Tm3} (hv : ∀ g, seqOf (h ++ g) v = some (ts.map tmMV)) (hn : ts.length ≤ 1000000) (hh : hasWr ts = false) (he : ens ts = []) (ht : Tms (fins ts))
include hw2 hw hf1 hf hk hv hn hh he ht
theorem s_sum_set {a b : Int} (hr : run p.T p.fs (n + 6) 33 [.tup [.int w, .int f], .str (wayN k), .ref (h.length + 1)] (h ++ [.lst [], .lst ((fins ts).map tm)]) = .ok (.tup [.int a, .int b]) (h ++ [.lst [], .lst ((fins ts).map tm)])) :
    run p.T p.fs (n + 7) 39 [.tup [.int w, .int f], .str (wayN k), v] h = .ok (.tup [.int a, .int b]) h := by
  rw [run_eq (F := fn39) rfl rfl]
  obtain ⟨y5, y6, y7, y8, e⟩ := sot_ok w f hw2 hw hf1 hf (n + 3) hv (.str (wayN k)) ts [] [] none none none none hh (by simpa using hn) (by simpa using hn)
  have hv2 : seqOf (h ++ [.lst [], .lst []]) v = some (ts.map tmMV) := hv _
  rw [he] at e
  simp at e
  have sq : seqOf (h ++ [.lst [], .lst ((fins ts).map tm)]) (.ref h.length) = some [] := by simpa using c0_seq h [] ((fins ts).map tm) []
  have i0 := inV_ints (ss := []) sq 0
  simp at i0
  simp [fn39, hv2, e, i0, sq, hr, leave_app2]
theorem s_sum_nought (hz : exS3 (lstP (fins ts)) (fins ts) = 0) :
    run p.T p.fs (n + 7) 39 [.tup [.int w, .int f], .str (wayN k), v] h = .ok (.tup [.int (noughtS k ((fins ts).map (·.1)) * 2 ^ (w + f)), .int 0]) h := by
  have q : ∀ g, seqOf (h ++ [.lst [], .lst ((fins ts).map tm)] ++ g) (.ref (h.length + 1)) = some ((fins ts).map tm) := fun g => c1_seq h [] ((fins ts).map tm) g
  have l : (fins ts).length ≤ 1000000 := by have := fins_len ts; omega
  have e := s_settled_nought w f hw2 hw hf1 hf n k hk q ht l hz
  exact s_sum_set w f hw2 hw hf1 hf n k hk hv hn hh he ht e
theorem s_sum_fin (hz : exS3 (lstP (fins ts)) (fins ts) ≠ 0) (sb : intBits (exS3 (lstP (fins ts)) (fins ts)) ≤ 400000) (lb : -400000 ≤ lstP (fins ts) ∧ lstP (fins ts) ≤ 400000) : ∃ c r : Int, Fr f ((exS3 (lstP (fins ts)) (fins ts)).natAbs * 2 ^ (lstP (fins ts)).toNat * 2 ^ stp0 w f) (2 ^ (-lstP (fins ts)).toNat) c r ∧
    run p.T p.fs (n + 7) 39 [.tup [.int w, .int f], .str (wayN k), v] h = .ok (.tup [.int ((if exS3 (lstP (fins ts)) (fins ts) < 0 then 1 else 0) * 2 ^ (w + f) + (stl w f k (if exS3 (lstP (fins ts)) (fins ts) < 0 then 1 else 0) c r).1), .int (stl w f k (if exS3 (lstP (fins ts)) (fins ts) < 0 then 1 else 0) c r).2]) h := by
  obtain ⟨c, r, F, e⟩ := s_settled_fin w f hw2 hw hf1 hf n k hk (h := h ++ [.lst [], .lst ((fins ts).map tm)]) (fun g => c1_seq h [] ((fins ts).map tm) g) ht (by have := fins_len ts; omega) hz sb lb
  exact ⟨c, r, F, s_sum_set w f hw2 hw hf1 hf n k hk hv hn hh he ht e⟩
end
end Pg

namespace Pg
open PySem L2 Rm
open PySem.Builtin.Int (intBits)
theorem xor_div {a b : Int} (n : Nat) (ha : 0 ≤ a) (hb : 0 ≤ b) : Builtin.bitXor a b / 2 ^ n = Builtin.bitXor (a / 2 ^ n) (b / 2 ^ n) := by
  have key (x : Int) (hx : 0 ≤ x) : x / 2 ^ n = ((x.toNat >>> n : Nat) : Int) := by
    rw [Nat.shiftRight_eq_div_pow]
    have : ((x.toNat : Nat) : Int) = x := by omega
    rw [Int.natCast_ediv, this, Int.natCast_pow]; rfl
  rw [Bits.bitXor_pp ha hb, Bits.bitXor_pp (dn n ha) (dn n hb), key a ha, key b hb]
  have e : (((a.toNat ^^^ b.toNat : Nat) : Int)).toNat = a.toNat ^^^ b.toNat := by omega
  rw [key _ (by omega), e, Nat.shiftRight_xor_distrib]
  rfl
theorem xor_01 {a b : Int} (ha : a = 0 ∨ a = 1) (hb : b = 0 ∨ b = 1) : Builtin.bitXor a b = 0 ∨ Builtin.bitXor a b = 1 := by
  rcases ha with y | y <;> rcases hb with x | x <;> rw [y, x] <;> decide
theorem xor_comm (a b : Int) : Builtin.bitXor a b = Builtin.bitXor b a := by rw [PyProof.Rows.bitXor_and, PyProof.Rows.bitXor_and, PyProof.Rows.bitAnd_comm, Int.add_comm]
theorem xor_sgn {n : Nat} {b s : Int} (hs : s = 0 ∨ s = 1) (h0 : 0 ≤ b) (h1 : b < 2 ^ (n + 1)) : 0 ≤ Builtin.bitXor b (s * 2 ^ n) ∧ Builtin.bitXor b (s * 2 ^ n) < 2 ^ (n + 1) := by
  have pn := p2 n
  have e := pow_s n
  rcases hs with y | y <;> rw [y]
  · rw [Int.zero_mul, PyProof.Rows.bitXor_zero]; exact ⟨h0, h1⟩
  · rw [Int.one_mul, PyProof.Rows.bitXor_and, PySem.W.kbt_bit]
    have q0 := dn n h0
    have q1 : b / 2 ^ n < 2 ^ 1 := div_lt_pow (m := 1) (by rw [Nat.add_comm 1]; exact h1)
    have ed := Int.mul_ediv_add_emod b (2 ^ n)
    have r := mn b n
    rcases (show b / 2 ^ n = 0 ∨ b / 2 ^ n = 1 by omega) with z | z <;> rw [z] at ed ⊢ <;> simp <;> omega
end Pg

namespace Pg
open PySem L2 Rm
open PySem.Builtin.Int (intBits)
theorem xor_lt {a b : Int} (n : Nat) (a0 : 0 ≤ a) (a1 : a < 2 ^ n) (b0 : 0 ≤ b) (b1 : b < 2 ^ n) : 0 ≤ Builtin.bitXor a b ∧ Builtin.bitXor a b < 2 ^ n := by
  rw [Bits.bitXor_pp a0 b0]
  have nat (x : Int) (h0 : 0 ≤ x) (h1 : x < 2 ^ n) : x.toNat < 2 ^ n := by
    have : ((x.toNat : Nat) : Int) < ((2 ^ n : Nat) : Int) := by rw [Int.natCast_pow]; show _ < (2 : Int) ^ n; omega
    exact Int.ofNat_lt.mp this
  have := Nat.xor_lt_two_pow (nat a a0 a1) (nat b b0 b1)
  refine ⟨by omega, ?_⟩
  have h := Int.ofNat_lt.mpr this
  rw [Int.natCast_pow] at h
  exact h
end Pg

namespace Pg
open PySem L2 Rm
open PySem.Builtin.Int (intBits)
/-! kinds and terms of a deed's numbers -/
def noneB (w f : Nat) (b : Int) : Bool := decide (2 ^ (w + f) - 2 ^ f < b % 2 ^ (w + f))
theorem kindS_none {w : Nat} (hw : 1 ≤ w) (f : Nat) (b : Int) : eqF (.str (kindS w f b)) (.str "none") = noneB w f b := by
  have l := fd_last (w := w) (f := f) (b := b) hw
  have e := fd_end (w := w) (f := f) (b := b) hw
  have c1 : eqF (.str "endless") (.str "none") = false := by decide +kernel
  have c2 : eqF (.str "none") (.str "none") = true := by decide +kernel
  have c3 : eqF (.str "plain") (.str "none") = false := by decide +kernel
  have c4 : eqF (.str "nought") (.str "none") = false := by decide +kernel
  have c5 : eqF (.str "faint") (.str "none") = false := by decide +kernel
  unfold kindS noneB
  by_cases z : fdOf w f b = 2 ^ w - 1
  · rw [if_pos z]
    by_cases y : fgOf f b = 0
    · rw [if_pos y, c1]
      have := e.mpr ⟨z, y⟩
      symm; simp; omega
    · rw [if_neg y, c2]
      have h1 := l.mpr z
      have h2 : ¬ b % 2 ^ (w + f) = 2 ^ (w + f) - 2 ^ f := fun q => y (e.mp q).2
      symm; simp; omega
  · rw [if_neg z]
    have h1 : ¬ 2 ^ (w + f) - 2 ^ f ≤ b % 2 ^ (w + f) := fun q => z (l.mp q)
    have h2 : decide (2 ^ (w + f) - 2 ^ f < b % 2 ^ (w + f)) = false := by simp; omega
    rw [h2]
    split
    · exact c3
    · split
      · exact c4
      · exact c5
theorem inV_kinds {w : Nat} (hw : 1 ≤ w) (f : Nat) (h : HP) (bs : List Int) : Rm.inV h (.str "none") (.lst (bs.map fun b => .str (kindS w f b))) = some (bs.any (noneB w f)) := by
  rw [inV_seq (seqOf_lst ..)]
  have fl : (flatM (.str "none") && (bs.map fun b => MV.str (kindS w f b)).all flatM) = true := by
    rw [Bool.and_eq_true]
    refine ⟨rfl, ?_⟩
    rw [List.all_eq_true]
    intro x hx
    obtain ⟨b, _, rfl⟩ := List.mem_map.mp hx
    rfl
  rw [if_pos fl]
  congr 1
  unfold inF
  rw [List.any_map]
  congr 1
  funext b
  exact kindS_none hw f b
theorem s_kinds_of (w f : Nat) (hw : w ≤ 20) (hf : f ≤ 200) (n : Nat) (h : HP) (k : Nat) (hk : k < 5) (bs : List Int) (hn : bs.length ≤ 1000000) (hb : ∀ b ∈ bs, 0 ≤ b ∧ b < 2 ^ (w + f + 1)) :
    run p.T p.fs (n + 4) 34 [.tup [.int w, .int f], .str (wayN k), .lst (bs.map .int)] h = .ok (.lst (bs.map fun b => .str (kindS w f b))) h := by
  rw [run_eq (F := fn34) rfl rfl]
  have wo := s_way_of (n + 1) h k hk
  have hl : lcL false (.one 3) (fun h => seqOf h (.lst (bs.map .int))) (bs.map .int) (evE p.T (run p.T p.fs (n + 3)) (.call 7 (.cons (.var 0) (.cons (.var 3) .nil)))) [some (.tup [.int w, .int f]), some (.str (wayN k)), some (.lst (bs.map .int)), none] h (bs.map .int) [] = .ok (.lst (bs.map fun b => .str (kindS w f b))) h :=
    lcL_map bs .int (fun b => .str (kindS w f b)) (fun acc => rfl) (by omega) fun b hm => ⟨_, rfl, fun H => by
      have := s_kind w f hw hf n H (hb b hm).1 (hb b hm).2
      simp [this], by simp⟩
  have fz : frzs h h.length (bs.map fun b => MV.str (kindS w f b)) = some (bs.map fun b => MV.str (kindS w f b)) := frzs_all _ _ _ fun x hx => by
    obtain ⟨b, _, rfl⟩ := List.mem_map.mp hx
    simp
  simp at hl
  simp [fn34, wo, hl, fz]
end Pg

namespace Pg
open PySem L2 Rm
open PySem.Builtin.Int (intBits)
theorem kindS_cases (w f : Nat) (b : Int) : kindS w f b = "endless" ∨ kindS w f b = "none" ∨ kindS w f b = "plain" ∨ kindS w f b = "nought" ∨ kindS w f b = "faint" := by
  unfold kindS; split
  · split <;> simp
  · split
    · simp
    · split <;> simp
theorem str_ne1 : ¬ (("none" : Str) = "endless") ∧ ¬ (("plain" : Str) = "endless") ∧ ¬ (("nought" : Str) = "endless") ∧ ¬ (("faint" : Str) = "endless") ∧ ¬ (("none" : Str) = "nought") ∧ ¬ (("plain" : Str) = "nought") ∧ ¬ (("endless" : Str) = "nought") ∧ ¬ (("faint" : Str) = "nought") := by
  refine ⟨?_, ?_, ?_, ?_, ?_, ?_, ?_, ?_⟩ <;> decide +kernel
theorem kindS_end {w : Nat} (hw : 1 ≤ w) (f : Nat) (b : Int) : kindS w f b = "endless" ↔ b % 2 ^ (w + f) = 2 ^ (w + f) - 2 ^ f := by
  rw [fd_end hw]
  obtain ⟨a1, a2, a3, a4, _⟩ := str_ne1
  unfold kindS
  by_cases z : fdOf w f b = 2 ^ w - 1
  · by_cases y : fgOf f b = 0
    · simp [z, y]
    · rw [if_pos z, if_neg y]
      exact ⟨fun q => absurd q a1, fun q => absurd q.2 y⟩
  · rw [if_neg z]
    split
    · exact ⟨fun q => absurd q a2, fun q => absurd q.1 z⟩
    · split
      · exact ⟨fun q => absurd q a3, fun q => absurd q.1 z⟩
      · exact ⟨fun q => absurd q a4, fun q => absurd q.1 z⟩
theorem kindS_zero {w : Nat} (hw : 2 ≤ w) (f : Nat) (b : Int) : kindS w f b = "nought" ↔ b % 2 ^ (w + f) = 0 := by
  obtain ⟨_, _, _, _, a1, a2, a3, a4⟩ := str_ne1
  have cs := code_sp w f b
  have a := fd_b w f b
  have c := fg_b f b
  have hF := p2 f
  have w4 := two_le_pow hw
  have e4 : (2 : Int) ^ 2 = 4 := rfl
  have pos (h : 0 < fdOf w f b) : 0 < 2 ^ f * fdOf w f b := Int.mul_pos hF h
  unfold kindS
  by_cases z : fdOf w f b = 2 ^ w - 1
  · have := pos (by omega)
    rw [if_pos z]
    by_cases y : fgOf f b = 0
    · rw [if_pos y]; exact ⟨fun q => absurd q a3, fun q => by omega⟩
    · rw [if_neg y]; exact ⟨fun q => absurd q a1, fun q => by omega⟩
  · rw [if_neg z]
    by_cases y : 0 < fdOf w f b
    · have := pos y
      rw [if_pos y]; exact ⟨fun q => absurd q a2, fun q => by omega⟩
    · have f0 : fdOf w f b = 0 := by omega
      rw [f0, Int.mul_zero] at cs
      rw [if_neg y]
      by_cases x : fgOf f b = 0
      · rw [if_pos x]; exact ⟨fun _ => by omega, fun _ => rfl⟩
      · rw [if_neg x]; exact ⟨fun q => absurd q a4, fun q => by omega⟩
theorem kindS_ok (w f : Nat) (b : Int) : PyData.strOk (kindS w f b) = true := by
  rcases kindS_cases w f b with z | z | z | z | z <;> rw [z] <;> decide +kernel
theorem kq_end {w : Nat} (hw : 1 ≤ w) (f : Nat) (b : Int) (h : HP) : eqM h (.str (kindS w f b)) (.str "endless") = some (decide (b % 2 ^ (w + f) = 2 ^ (w + f) - 2 ^ f)) := by
  rw [eqM_ss h (kindS_ok w f b) (by decide +kernel)]
  congr 1
  exact decide_eq_decide.mpr (kindS_end hw f b)
theorem kq_zero {w : Nat} (hw : 2 ≤ w) (f : Nat) (b : Int) (h : HP) : eqM h (.str (kindS w f b)) (.str "nought") = some (decide (b % 2 ^ (w + f) = 0)) := by
  rw [eqM_ss h (kindS_ok w f b) (by decide +kernel)]
  congr 1
  exact decide_eq_decide.mpr (kindS_zero hw f b)
theorem eqM_l2 (h : HP) {a b c d : Str} (ha : PyData.strOk a = true) (hb : PyData.strOk b = true) (hc : PyData.strOk c = true) (hd : PyData.strOk d = true) : eqM h (.lst [.str a, .str b]) (.lst [.str c, .str d]) = some (decide (a = c) && decide (b = d)) := by
  have (x y : Str) : (x == y) = decide (x = y) := by by_cases h : x = y <;> simp [h]
  simp [eqM, flatD, lstD, toD, toDs, SeqAt.shaped, PyData.eqv, PyData.eqvAll, PyData.canLay0, PyData.canLayAll0, PyData.depth, PyData.depthAll, ha, hb, hc, hd, this]
theorem kq_end2 {w : Nat} (hw : 1 ≤ w) (f : Nat) (a b : Int) (h : HP) : eqM h (.lst [.str (kindS w f a), .str (kindS w f b)]) (.lst [.str "endless", .str "endless"]) = some (decide (a % 2 ^ (w + f) = 2 ^ (w + f) - 2 ^ f) && decide (b % 2 ^ (w + f) = 2 ^ (w + f) - 2 ^ f)) := by
  rw [eqM_l2 h (kindS_ok w f a) (kindS_ok w f b) (by decide +kernel) (by decide +kernel)]
  have e1 : decide (kindS w f a = "endless") = decide (a % 2 ^ (w + f) = 2 ^ (w + f) - 2 ^ f) := decide_eq_decide.mpr (kindS_end hw f a)
  have e2 : decide (kindS w f b = "endless") = decide (b % 2 ^ (w + f) = 2 ^ (w + f) - 2 ^ f) := decide_eq_decide.mpr (kindS_end hw f b)
  rw [e1, e2]
theorem kq_zero2 {w : Nat} (hw : 2 ≤ w) (f : Nat) (a b : Int) (h : HP) : eqM h (.lst [.str (kindS w f a), .str (kindS w f b)]) (.lst [.str "nought", .str "nought"]) = some (decide (a % 2 ^ (w + f) = 0) && decide (b % 2 ^ (w + f) = 0)) := by
  rw [eqM_l2 h (kindS_ok w f a) (kindS_ok w f b) (by decide +kernel) (by decide +kernel)]
  have e1 : decide (kindS w f a = "nought") = decide (a % 2 ^ (w + f) = 0) := decide_eq_decide.mpr (kindS_zero hw f a)
  have e2 : decide (kindS w f b = "nought") = decide (b % 2 ^ (w + f) = 0) := decide_eq_decide.mpr (kindS_zero hw f b)
  rw [e1, e2]
end Pg

namespace Pg
open PySem L2 Rm
open PySem.Builtin.Int (intBits)
def tmOf (w f : Nat) (b : Int) : Tm3 := if b % 2 ^ (w + f) = 2 ^ (w + f) - 2 ^ f then .en (b / 2 ^ (w + f)) else .fin (b / 2 ^ (w + f), whOf w f b, pwOf w f b)
theorem s_term_of (w f : Nat) (hw2 : 1 ≤ w) (hw : w ≤ 20) (hf : f ≤ 200) (n : Nat) (h : HP) {b : Int} (h0 : 0 ≤ b) (h1 : b < 2 ^ (w + f + 1)) (hx : noneB w f b = false) :
    run p.T p.fs (n + 4) 37 [.tup [.int w, .int f], .int b] h = .ok (tmMV (tmOf w f b)) h := by
  rw [run_eq (F := fn37) rfl rfl]
  have ks := s_kind w f hw hf n h h0 h1
  have pp := s_parted w f hw hf (n + 1) h h0 h1
  have l := fd_last (w := w) (f := f) (b := b) hw2
  have e := fd_end (w := w) (f := f) (b := b) hw2
  unfold noneB at hx
  simp only [decide_eq_false_iff_not] at hx
  unfold tmOf
  by_cases z : b % 2 ^ (w + f) = 2 ^ (w + f) - 2 ^ f
  · obtain ⟨z1, z2⟩ := e.mp z
    have kk : kindS w f b = "endless" := by simp [kindS, z1, z2]
    rw [kk] at ks
    rw [if_pos z]
    simp [fn37, ks, pp, tmMV]
  · have nl : ¬ fdOf w f b = 2 ^ w - 1 := fun q => by have := l.mpr q; omega
    have wt := s_worth w f hw2 hw hf n h h0 h1 nl
    have k2 : eqM h (.str (kindS w f b)) (.str "endless") = some false := by
      unfold kindS; rw [if_neg nl]; split
      · simp
      · split <;> simp
    rw [if_neg z]
    simp [fn37, ks, k2, wt, tmMV]
end Pg

namespace Pg
open PySem L2 Rm
open PySem.Builtin.Int (intBits)
theorem pw15 {w f : Nat} (hw2 : 2 ≤ w) (hw : w ≤ 15) (hf : f ≤ 112) (b : Int) : -40000 ≤ pwOf w f b ∧ pwOf w f b ≤ 40000 := by
  have ls := lo_stp (f := f) hw2
  have ss := stp_s hw hf
  have a := fd_b w f b
  have w15 := two_le_pow hw
  have e15 : (2 : Int) ^ 15 = 32768 := rfl
  unfold pwOf; split <;> omega
theorem wh15 {w f : Nat} (hf : f ≤ 112) (b : Int) : intBits (whOf w f b) ≤ 113 := by
  have wb := wh_b w f b
  exact ib_mono (ib_lt wb.1 wb.2) (by omega)
end Pg

namespace Pg
open PySem L2 Rm
open PySem.Builtin.Int (intBits)
section
variable (w f : Nat) (hw2 : 2 ≤ w) (hw : w ≤ 15) (hf1 : 1 ≤ f) (hf : f ≤ 112) (n : Nat) (h : HP) (k : Nat) (hk : k < 5) {b : Int} (b0 : 0 ≤ b) (b1 : b < 2 ^ (w + f + 1))
include hw2 hw hf1 hf b0 b1
/-- the fraction of a finite number: sizes, and that it is divided as Python's small ones are -/
theorem fr_sizes : 0 ≤ whOf w f b * 2 ^ (pwOf w f b).toNat ∧ 1 ≤ (2 : Int) ^ (-pwOf w f b).toNat ∧ intBits (whOf w f b * 2 ^ (pwOf w f b).toNat) ≤ 60000 ∧ intBits ((2 : Int) ^ (-pwOf w f b).toNat) ≤ 60000 ∧ dvB (whOf w f b * 2 ^ (pwOf w f b).toNat) (2 ^ (-pwOf w f b).toNat) = true := by
  have wb := wh_b w f b
  have pb := pw_bd w f b (by omega) (by omega) (by omega)
  have ls := lo_stp (f := f) hw2
  have ss := stp_s hw hf
  have a := fd_b w f b
  have w15 := two_le_pow hw
  have e15 : (2 : Int) ^ 15 = 32768 := rfl
  have pu : pwOf w f b ≤ 40000 ∧ -40000 ≤ pwOf w f b := by unfold pwOf; split <;> omega
  have pp := p2 (pwOf w f b).toNat
  have bp := p2 (-pwOf w f b).toNat
  refine ⟨Int.mul_nonneg wb.1 (by omega), by omega, ib_mono (intBits_mul_le (ib_lt wb.1 wb.2) (ib_pow2 _)) (by omega), ib_mono (ib_pow2 _) (by omega), ?_⟩
  by_cases c : pwOf w f b < 0
  · have z : (pwOf w f b).toNat = 0 := by omega
    rw [z, Int.pow_zero, Int.mul_one]
    refine dvB_near bp ?_
    have := ib_lt wb.1 wb.2
    omega
  · have z : (-pwOf w f b).toNat = 0 := by omega
    rw [z]
    exact dvB_small (by decide) (by decide)
end
end Pg

namespace Pg
open PySem L2 Rm
open PySem.Builtin.Int (intBits)
def prT (x y : Tm3) : Tm3 := match x, y with
  | .fin a, .fin b => .fin (Builtin.bitXor a.1 b.1, a.2.1 * b.2.1, a.2.2 + b.2.2)
  | .fin a, .en s => if a.2.1 = 0 then .wr else .en (Builtin.bitXor a.1 s)
  | .en s, .fin b => if b.2.1 = 0 then .wr else .en (Builtin.bitXor s b.1)
  | .en s, .en t => .en (Builtin.bitXor s t)
  | _, _ => .wr
theorem s_product_term (w f : Nat) (hw2 : 2 ≤ w) (hw : w ≤ 15) (hf : f ≤ 112) (n : Nat) (h : HP) {a b : Int} (a0 : 0 ≤ a) (a1 : a < 2 ^ (w + f + 1)) (b0 : 0 ≤ b) (b1 : b < 2 ^ (w + f + 1)) (ha : noneB w f a = false) (hb : noneB w f b = false) :
    run p.T p.fs (n + 5) 38 [.tup [.int w, .int f], .int a, .int b] h = .ok (tmMV (prT (tmOf w f a) (tmOf w f b))) h := by
  rw [run_eq (F := fn38) rfl rfl]
  have ea := s_term_of w f (by omega) (by omega) (by omega) n h a0 a1 ha
  have eb := s_term_of w f (by omega) (by omega) (by omega) n h b0 b1 hb
  have mm : mulB (whOf w f a) (whOf w f b) = true := mulB_of (wh15 hf a) (wh15 hf b) (by decide)
  unfold tmOf at ea eb ⊢
  by_cases za : a % 2 ^ (w + f) = 2 ^ (w + f) - 2 ^ f
  · by_cases zb : b % 2 ^ (w + f) = 2 ^ (w + f) - 2 ^ f
    · rw [if_pos za] at ea ⊢
      rw [if_pos zb] at eb ⊢
      simp [tmMV] at ea eb
      simp [fn38, ea, eb, prT, tmMV, forL]
    · rw [if_pos za] at ea ⊢
      rw [if_neg zb] at eb ⊢
      simp [tmMV] at ea eb
      by_cases y : whOf w f b = 0
      · simp [fn38, ea, eb, prT, tmMV, forL, y]
      · simp [fn38, ea, eb, prT, tmMV, forL, y]
  · by_cases zb : b % 2 ^ (w + f) = 2 ^ (w + f) - 2 ^ f
    · rw [if_neg za] at ea ⊢
      rw [if_pos zb] at eb ⊢
      simp [tmMV] at ea eb
      by_cases y : whOf w f a = 0
      · simp [fn38, ea, eb, prT, tmMV, forL, y]
      · simp [fn38, ea, eb, prT, tmMV, forL, y]
    · rw [if_neg za] at ea ⊢
      rw [if_neg zb] at eb ⊢
      simp [tmMV] at ea eb
      simp [fn38, ea, eb, prT, tmMV, mm]
end Pg

namespace Pg
open PySem L2 Rm
open PySem.Builtin.Int (intBits)
/-! a sum in units of a power -/
def exN (N : Nat) : List T3 → Int
  | [] => 0
  | t :: ts => (1 - 2 * t.1) * (t.2.1 * 2 ^ (t.2.2 + N).toNat) + exN N ts
theorem exN_eq {l : Int} {N : Nat} (hl : 0 ≤ l + N) : ∀ ts : List T3, (∀ t ∈ ts, l ≤ t.2.2) → exS3 l ts * 2 ^ (l + N).toNat = exN N ts
  | [], _ => by simp [exS3, exN]
  | t :: ts, h => by
    have e1 : exS3 l (t :: ts) = exT l t + exS3 l ts := rfl
    have e2 : exN N (t :: ts) = (1 - 2 * t.1) * (t.2.1 * 2 ^ (t.2.2 + N).toNat) + exN N ts := rfl
    rw [e1, e2, Int.add_mul, exN_eq hl ts fun u hu => h u (List.mem_cons_of_mem _ hu)]
    congr 1
    unfold exT
    have := h t (List.mem_cons_self ..)
    rw [Int.mul_assoc, Int.mul_assoc, ← Int.pow_add]
    congr 3
    omega
theorem exN_zero {l : Int} {N : Nat} (hl : 0 ≤ l + N) {ts : List T3} (h : ∀ t ∈ ts, l ≤ t.2.2) : exS3 l ts = 0 ↔ exN N ts = 0 := by
  rw [← exN_eq hl ts h]
  have := p2 (l + N).toNat
  exact ⟨fun z => by rw [z, Int.zero_mul], fun z => (Int.mul_eq_zero.mp z).resolve_right (by omega)⟩
theorem exN_neg {l : Int} {N : Nat} (hl : 0 ≤ l + N) {ts : List T3} (h : ∀ t ∈ ts, l ≤ t.2.2) : exS3 l ts < 0 ↔ exN N ts < 0 := by
  rw [← exN_eq hl ts h]
  have pp := p2 (l + N).toNat
  constructor
  · intro z
    have := Int.mul_lt_mul_of_pos_right z pp
    rwa [Int.zero_mul] at this
  · intro z
    rcases Int.lt_or_le (exS3 l ts) 0 with y | y
    · exact y
    · have := Int.mul_nonneg y (Int.le_of_lt pp); omega
theorem exN_abs {l : Int} {N : Nat} (hl : 0 ≤ l + N) {ts : List T3} (h : ∀ t ∈ ts, l ≤ t.2.2) : ((exN N ts).natAbs : Int) = (exS3 l ts).natAbs * 2 ^ (l + N).toNat := by
  rw [← exN_eq hl ts h, Int.natAbs_mul, Int.natCast_mul]
  have pp := p2 (l + N).toNat
  have e : ((((2 : Int) ^ (l + N).toNat).natAbs : Nat) : Int) = 2 ^ (l + N).toNat := by omega
  rw [e]
theorem exS3_bits {l : Int} {B D : Nat} : ∀ {ts : List T3}, (∀ t ∈ ts, (t.1 = 0 ∨ t.1 = 1) ∧ intBits t.2.1 ≤ B ∧ t.2.2 - l ≤ D) → intBits (exS3 l ts) ≤ B + D + 1 + ts.length
  | [], _ => by show intBits 0 ≤ _; exact Nat.le_trans (show intBits 0 ≤ 0 by decide) (Nat.zero_le _)
  | t :: ts, h => by
    have ih := exS3_bits (ts := ts) fun u hu => h u (List.mem_cons_of_mem _ hu)
    obtain ⟨s, b, p⟩ := h t (List.mem_cons_self ..)
    have e : intBits (exT l t) ≤ B + D + 1 := by
      refine intBits_le_of_natAbs (y := t.2.1 * 2 ^ (t.2.2 - l).toNat) ?_ (ib_mono (intBits_mul_le b (ib_pow2 _)) (by omega))
      unfold exT
      rcases s with z | z <;> rw [z] <;> omega
    have := intBits_add_le e ih
    show intBits (exT l t + exS3 l ts) ≤ _
    rw [List.length_cons]
    omega
end Pg

namespace Pg
open PySem L2 Rm
open PySem.Builtin.Int (intBits)
/-- the settled sum's number, in those units -/
theorem Fr.exn {f S : Nat} {N : Nat} {ts : List T3} {l c r : Int} (F : Fr f ((exS3 l ts).natAbs * 2 ^ l.toNat * 2 ^ S) (2 ^ (-l).toNat) c r) (hl : 0 ≤ l + N) (hN : S ≤ N) (h : ∀ t ∈ ts, l ≤ t.2.2) : Fr f (exN N ts).natAbs (2 ^ (N - S)) c r := by
  refine F.ratio (p2 _) ?_
  rw [exN_abs hl h, Int.mul_assoc, Int.mul_assoc, Int.mul_assoc, ← Int.pow_add, ← Int.pow_add, ← Int.pow_add]
  have e : l.toNat + (S + (N - S)) = (l + N).toNat + (-l).toNat := by omega
  rw [e]
end Pg

namespace Pg
open PySem L2 Rm
open PySem.Builtin.Int (intBits)
theorem lv_codeP {w : Nat} (hw2 : 2 ≤ w) (f : Nat) (b : Int) : whOf w f b * 2 ^ (pwOf w f b + stp0 w f).toNat = lv f (b % 2 ^ (w + f)) ∧ 0 ≤ pwOf w f b + stp0 w f := by
  have ls := lo_stp (f := f) hw2
  have a := fd_b w f b
  have p0 : 0 ≤ pwOf w f b + stp0 w f := by unfold pwOf; split <;> omega
  refine ⟨?_, p0⟩
  obtain ⟨m, m0, m1, m2⟩ := lv_wh w f b hw2
  have e : (2 : Int) ^ (pwOf w f b).toNat * m = 2 ^ (pwOf w f b + stp0 w f).toNat := by
    have pz := p2 (-pwOf w f b).toNat
    refine Int.eq_of_mul_eq_mul_left (Int.ne_of_gt pz) ?_
    have l : (2 : Int) ^ (-pwOf w f b).toNat * (2 ^ (pwOf w f b).toNat * m) = 2 ^ (pwOf w f b).toNat * (2 ^ (-pwOf w f b).toNat * m) := by grind
    rw [l, m2, ← Int.pow_add, ← Int.pow_add]
    congr 1; omega
  rw [← m1, ← e, Int.mul_assoc]
end Pg

namespace Pg
open PySem L2 Rm
open PySem.Builtin.Int (intBits)
def sgl (w f : Nat) (b : Int) : Int := (1 - 2 * (b / 2 ^ (w + f))) * lv f (b % 2 ^ (w + f))
end Pg

namespace Pg
open PySem L2 Rm
open PySem.Builtin.Int (intBits)
theorem sgl_bits {w f : Nat} (hw : w ≤ 15) (hf : f ≤ 112) {b : Int} (b0 : 0 ≤ b) (b1 : b < 2 ^ (w + f + 1)) : intBits (sgl w f b) ≤ 40000 := by
  have cm := mn b (w + f)
  have q0 := dn (w + f) b0
  have q1 : b / 2 ^ (w + f) < 2 ^ 1 := div_lt_pow (m := 1) (by rw [Nat.add_comm 1]; exact b1)
  refine intBits_le_of_natAbs ?_ (lv_b15 hw hf cm.1 cm.2)
  unfold sgl
  rcases (show b / 2 ^ (w + f) = 0 ∨ b / 2 ^ (w + f) = 1 by omega) with y | y <;> rw [y] <;> omega
end Pg

namespace Pg
open PySem L2 Rm
open PySem.Builtin.Int (intBits)
theorem stl_nought {w f : Nat} (hw2 : 2 ≤ w) (k : Nat) (s : Int) {b c r : Int} (hb : 0 < b) (C : CodeP w f 0 b c r) : stl w f k s c r = (0, 0) := by
  have l0 := lv_zero f
  have l1 := lv_lt (f := f) (a := 0) (b := 1) (by decide) (by decide)
  have u := C.uniq hb (c' := 0) (by decide) (by simp [lv_zero]) (by have : 0 < lv f 1 * b := Int.mul_pos (by omega) hb; simpa using this)
  subst u
  have rr := C.rst
  simp [lv_zero, rs] at rr
  subst rr
  have pf := p2 f
  have E : 3 * (2 : Int) ^ f ≤ 2 ^ (w + f) - 2 ^ f := by
    have := two_le_pow (show 2 + f ≤ w + f by omega)
    rw [Int.pow_add] at this
    have e4 : (2 : Int) ^ 2 = 4 := rfl
    omega
  unfold stl; rw [if_neg (by omega)]; simp
end Pg

namespace Pg
open PySem L2 Rm
open PySem.Builtin.Int (intBits)
theorem xor_top2 {k : Nat} {b : Int} (h0 : 0 ≤ b) (h1 : b < 2 ^ (k + 1)) : Builtin.bitXor b (2 ^ k) = (1 - b / 2 ^ k) * 2 ^ k + b % 2 ^ k := by
  have e := pow_s k
  have pk := p2 k
  have ed := Int.mul_ediv_add_emod b (2 ^ k)
  have q0 := dn k h0
  have q1 : b / 2 ^ k < 2 ^ 1 := div_lt_pow (m := 1) (by rw [Nat.add_comm 1]; exact h1)
  rw [PyProof.Rows.bitXor_and, PySem.W.kbt_bit]
  rcases (show b / 2 ^ k = 0 ∨ b / 2 ^ k = 1 by omega) with z | z <;> rw [z] at ed ⊢ <;> simp <;> omega
theorem xor_parts {k : Nat} {b : Int} (h0 : 0 ≤ b) (h1 : b < 2 ^ (k + 1)) : Builtin.bitXor b (2 ^ k) / 2 ^ k = 1 - b / 2 ^ k ∧ Builtin.bitXor b (2 ^ k) % 2 ^ k = b % 2 ^ k := by
  have r := mn b k
  refine (Int.ediv_emod_unique (p2 k)).mpr ⟨?_, r.1, r.2⟩
  rw [xor_top2 h0 h1, Int.mul_comm]; omega
end Pg

namespace Pg
open PySem L2 Rm
open PySem.Builtin.Int (intBits)
theorem Fr.same {f : Nat} {V B c r c' r' : Int} (F : Fr f V B c r) (G : Fr f V B c' r') : c = c' ∧ r = r' := by
  have e := F.uniq G.c0 G.lo G.hi
  subst e
  exact ⟨rfl, F.rst.trans G.rst.symm⟩
end Pg

namespace Pg
open PySem L2 Rm
open PySem.Builtin.Int (intBits)
/-! the sum of terms, as one plain function -/
theorem Fr.exists {f : Nat} {V B : Int} (hV : 0 ≤ V) (hB : 0 < B) : ∃ p : Int × Int, Fr f V B p.1 p.2 := by
  obtain ⟨c, c0, h1, h2⟩ := lv_floor f (V := V / B) (Int.ediv_nonneg hV (Int.le_of_lt hB))
  have e := Int.mul_ediv_add_emod V B
  have m1 := Int.emod_nonneg V (Int.ne_of_gt hB)
  have m2 := Int.emod_lt_of_pos V hB
  refine ⟨(c, rs (V - lv f c * B) ((lv f (c + 1) - lv f c) * B)), c0, hB, ?_, ?_, rfl⟩
  · have := Int.mul_le_mul_of_nonneg_right h1 (Int.le_of_lt hB)
    rw [Int.mul_comm (V / B)] at this
    show lv f c * B ≤ V
    omega
  · have := Int.mul_le_mul_of_nonneg_right (show V / B + 1 ≤ lv f (c + 1) by omega) (Int.le_of_lt hB)
    rw [Int.add_mul, Int.one_mul, Int.mul_comm (V / B)] at this
    show V < lv f (c + 1) * B
    omega
open Classical in
noncomputable def frOf (f : Nat) (V B : Int) : Int × Int := if h : ∃ p : Int × Int, Fr f V B p.1 p.2 then h.choose else (0, 0)
theorem frOf_ok {f : Nat} {V B : Int} (hV : 0 ≤ V) (hB : 0 < B) : Fr f V B (frOf f V B).1 (frOf f V B).2 := by
  have h := Fr.exists (f := f) hV hB
  unfold frOf
  rw [dif_pos h]
  exact h.choose_spec
theorem Fr.of {f : Nat} {V B c r : Int} (F : Fr f V B c r) : frOf f V B = (c, r) := by
  have G := frOf_ok (f := f) (V := V) (B := B) (Int.le_trans (Int.mul_nonneg (lv_nn F.c0) (Int.le_of_lt F.b0)) F.lo) F.b0
  obtain ⟨e1, e2⟩ := G.same F
  exact Prod.ext e1 e2
theorem frOf_ratio {f : Nat} {V B V' B' : Int} (hV : 0 ≤ V) (hB : 0 < B) (hB' : 0 < B') (e : V * B' = V' * B) : frOf f V' B' = frOf f V B := ((frOf_ok hV hB).ratio hB' e).of
noncomputable def rdP (w f k : Nat) (X B s0 : Int) : Int × Int :=
  if X = 0 then (s0 * 2 ^ (w + f), 0)
  else ((if X < 0 then 1 else 0) * 2 ^ (w + f) + (stl w f k (if X < 0 then 1 else 0) (frOf f X.natAbs B).1 (frOf f X.natAbs B).2).1, (stl w f k (if X < 0 then 1 else 0) (frOf f X.natAbs B).1 (frOf f X.natAbs B).2).2)
theorem rdP_ratio (w f k : Nat) {X B X' B' : Int} (s0 : Int) (hB : 0 < B) (hB' : 0 < B') (e : X * B' = X' * B) : rdP w f k X' B' s0 = rdP w f k X B s0 := by
  have z : X' = 0 ↔ X = 0 := by
    constructor
    · intro y; rw [y, Int.zero_mul] at e; exact (Int.mul_eq_zero.mp e).resolve_right (Int.ne_of_gt hB')
    · intro y; rw [y, Int.zero_mul] at e; exact (Int.mul_eq_zero.mp e.symm).resolve_right (Int.ne_of_gt hB)
  have ng {x b : Int} (hb : 0 < b) : x * b < 0 ↔ x < 0 := by
    constructor
    · intro y
      rcases Int.lt_or_le x 0 with q | q
      · exact q
      · have := Int.mul_nonneg q (Int.le_of_lt hb); omega
    · intro y
      have := Int.mul_lt_mul_of_pos_right y hb
      rwa [Int.zero_mul] at this
  have n : X' < 0 ↔ X < 0 := by rw [← ng hB, ← e, ng hB']
  have a : (X.natAbs : Int) * B' = X'.natAbs * B := by
    have h := congrArg (fun x : Int => (x.natAbs : Int)) e
    simp only [Int.natAbs_mul, Int.natCast_mul] at h
    have h1 : ((B'.natAbs : Nat) : Int) = B' := by omega
    have h2 : ((B.natAbs : Nat) : Int) = B := by omega
    rwa [h1, h2] at h
  have fe := frOf_ratio (f := f) (V' := X'.natAbs) (by omega) hB hB' a
  have n' : (if X' < 0 then (1 : Int) else 0) = (if X < 0 then 1 else 0) := by
    by_cases y : X < 0
    · rw [if_pos y, if_pos (n.mpr y)]
    · rw [if_neg y, if_neg fun q => y (n.mp q)]
  unfold rdP
  rw [fe, n']
  by_cases y : X = 0
  · rw [if_pos y, if_pos (z.mpr y)]
  · rw [if_neg y, if_neg fun q => y (z.mp q)]
def noN (w f : Nat) : Int := 2 ^ (w + f) - 2 ^ f + 2 ^ (f - 1)
noncomputable def sumP (w f k N : Nat) (ts : List Tm3) : Int × Int :=
  if hasWr ts = true ∨ (0 ∈ ens ts ∧ 1 ∈ ens ts) then (noN w f, 16)
  else match ens ts with
   | s :: _ => (s * 2 ^ (w + f) + (2 ^ (w + f) - 2 ^ f), 0)
   | [] => rdP w f k (exN N (fins ts)) (2 ^ (N - stp0 w f)) (noughtS k ((fins ts).map (·.1)))
def tOK (N : Nat) : Tm3 → Prop
  | .wr => True
  | .en s => s = 0 ∨ s = 1
  | .fin t => (t.1 = 0 ∨ t.1 = 1) ∧ 0 ≤ t.2.1 ∧ intBits t.2.1 ≤ 1000 ∧ -(N : Int) ≤ t.2.2 ∧ t.2.2 ≤ 90000
theorem mem_ens : ∀ {ts : List Tm3} {s : Int}, s ∈ ens ts → Tm3.en s ∈ ts
  | .wr :: ts, s, h => List.mem_cons_of_mem _ (mem_ens (ts := ts) h)
  | .fin _ :: ts, s, h => List.mem_cons_of_mem _ (mem_ens (ts := ts) h)
  | .en t :: ts, s, h => by
    rcases List.mem_cons.mp (show s ∈ t :: ens ts from h) with z | z
    · rw [z]; exact List.mem_cons_self ..
    · exact List.mem_cons_of_mem _ (mem_ens z)
theorem mem_fins : ∀ {ts : List Tm3} {t : T3}, t ∈ fins ts → Tm3.fin t ∈ ts
  | .wr :: ts, s, h => List.mem_cons_of_mem _ (mem_fins (ts := ts) h)
  | .en _ :: ts, s, h => List.mem_cons_of_mem _ (mem_fins (ts := ts) h)
  | .fin t :: ts, s, h => by
    rcases List.mem_cons.mp (show s ∈ t :: fins ts from h) with z | z
    · rw [z]; exact List.mem_cons_self ..
    · exact List.mem_cons_of_mem _ (mem_fins z)
section
variable (w f : Nat) (hw2 : 2 ≤ w) (hw : w ≤ 15) (hf1 : 1 ≤ f) (hf : f ≤ 112) (k : Nat) (hk : k < 5) (N : Nat) (hN : stp0 w f ≤ N) (hN2 : N ≤ 90000) {v : MV} {ts : List Tm3} (hn : ts.length ≤ 100000) (ok : ∀ t ∈ ts, tOK N t)
include hw2 hw hf1 hf hk hN hN2 hn ok
theorem s_sumP (n : Nat) {h : HP} (hv : ∀ g, seqOf (h ++ g) v = some (ts.map tmMV)) : run p.T p.fs (n + 7) 39 [.tup [.int w, .int f], .str (wayN k), v] h = .ok (.tup [.int (sumP w f k N ts).1, .int (sumP w f k N ts).2]) h := by
  have hsm : sumP w f k N ts = if hasWr ts = true ∨ (0 ∈ ens ts ∧ 1 ∈ ens ts) then (noN w f, 16)
      else match ens ts with
        | s :: _ => (s * 2 ^ (w + f) + (2 ^ (w + f) - 2 ^ f), 0)
        | [] => rdP w f k (exN N (fins ts)) (2 ^ (N - stp0 w f)) (noughtS k ((fins ts).map (·.1))) := rfl
  by_cases hwr : hasWr ts = true
  · rw [hsm, if_pos (.inl hwr)]
    exact s_sum_wr w f hw2 hw hf1 hf (n + 3) hv (.str (wayN k)) (by omega) hwr
  have hwr' : hasWr ts = false := by simpa using hwr
  by_cases hb : 0 ∈ ens ts ∧ 1 ∈ ens ts
  · rw [hsm, if_pos (.inr hb)]
    exact s_sum_two w f hw2 hw hf1 hf (n + 3) hv (.str (wayN k)) (by omega) hwr' hb.1 hb.2
  have nq : ¬ (hasWr ts = true ∨ (0 ∈ ens ts ∧ 1 ∈ ens ts)) := fun q => q.elim hwr hb
  rw [if_neg nq] at hsm
  have eg : ∀ s ∈ ens ts, s = 0 ∨ s = 1 := fun s hs => ok _ (mem_ens hs)
  cases he : ens ts with
  | cons s rest =>
    rw [he] at hsm
    rw [hsm]
    have s01 := eg s (by rw [he]; exact List.mem_cons_self ..)
    have sm : s ∈ ens ts := by rw [he]; exact List.mem_cons_self ..
    refine s_sum_end w f hw2 hw hf1 hf (n + 3) hv (.str (wayN k)) (by omega) hwr' s rest he (fun q hq => ?_) s01
    have q01 := eg q hq
    rcases s01 with y | y <;> rcases q01 with x | x <;> rw [x, y]
    · exact absurd ⟨y ▸ sm, x ▸ hq⟩ hb
    · exact absurd ⟨x ▸ hq, y ▸ sm⟩ hb
  | nil =>
    rw [he] at hsm
    rw [hsm]
    have fk : ∀ t ∈ fins ts, (t.1 = 0 ∨ t.1 = 1) ∧ 0 ≤ t.2.1 ∧ intBits t.2.1 ≤ 1000 ∧ -(N : Int) ≤ t.2.2 ∧ t.2.2 ≤ 90000 := fun t ht => ok _ (mem_fins ht)
    have tms : Tms (fins ts) := ⟨fun t ht => (fk t ht).1, fun t ht => (fk t ht).2.1, fun t ht => ib_mono (fk t ht).2.2.1 (by decide), fun t ht => by have := (fk t ht).2.2.2; omega⟩
    have mem : ∀ t ∈ fins ts, lstP (fins ts) ≤ t.2.2 := fun t ht => lstP_le ht
    have hl : -(N : Int) ≤ lstP (fins ts) ∧ lstP (fins ts) ≤ 90000 := by
      cases hf : fins ts with
      | nil => exact ⟨by show -(N : Int) ≤ 0; omega, by decide⟩
      | cons u us =>
        have e : lstP (u :: us) = mnL u.2.2 (us.map (·.2.2)) := rfl
        rw [e]
        obtain ⟨a, _, _⟩ := mnL_ok (us.map (·.2.2)) u.2.2
        rcases a with a | a
        · rw [a]; exact (fk u (by rw [hf]; exact List.mem_cons_self ..)).2.2.2
        · obtain ⟨t, h1, h2⟩ := List.mem_map.mp a
          rw [← h2]; exact (fk t (by rw [hf]; exact List.mem_cons_of_mem _ h1)).2.2.2
    have hl0 : 0 ≤ lstP (fins ts) + (N : Int) := by omega
    have zz := exN_zero hl0 mem
    have zn := exN_neg hl0 mem
    by_cases z : exN N (fins ts) = 0
    · have sn := s_sum_nought w f hw2 hw hf1 hf n k hk hv (by omega) hwr' he tms (zz.mpr z)
      unfold rdP
      rw [if_pos z]
      exact sn
    · have fl := fins_len ts
      have Sb : intBits (exS3 (lstP (fins ts)) (fins ts)) ≤ 400000 := by
        have := exS3_bits (l := lstP (fins ts)) (B := 1000) (D := 180000) (ts := fins ts) fun t ht => ⟨(fk t ht).1, (fk t ht).2.2.1, by have := (fk t ht).2.2.2; omega⟩
        omega
      obtain ⟨c, r, F, er⟩ := s_sum_fin w f hw2 hw hf1 hf n k hk hv (by omega) hwr' he tms (fun q => z (zz.mp q)) Sb (by omega)
      have F2 := F.exn (N := N) hl0 hN mem
      have sg : (if exS3 (lstP (fins ts)) (fins ts) < 0 then (1 : Int) else 0) = (if exN N (fins ts) < 0 then 1 else 0) := by
        by_cases q : exN N (fins ts) < 0
        · rw [if_pos q, if_pos (zn.mpr q)]
        · rw [if_neg q, if_neg (fun y => q (zn.mp y))]
      rw [sg] at er
      unfold rdP
      rw [if_neg z, F2.of]
      exact er
end
theorem tOK_mono {M N : Nat} (h : M ≤ N) : ∀ {t : Tm3}, tOK M t → tOK N t
  | .wr, _ => trivial
  | .en _, q => q
  | .fin _, q => ⟨q.1, q.2.1, q.2.2.1, by have := q.2.2.2.1; omega, q.2.2.2.2⟩
theorem tmOf_ok {w f : Nat} (hw2 : 2 ≤ w) (hw : w ≤ 15) (hf : f ≤ 112) {a : Int} (a0 : 0 ≤ a) (a1 : a < 2 ^ (w + f + 1)) : tOK (stp0 w f) (tmOf w f a) := by
  have sa0 : 0 ≤ a / 2 ^ (w + f) := dn _ a0
  have sa1 : a / 2 ^ (w + f) < 2 ^ 1 := div_lt_pow (m := 1) (by rw [Nat.add_comm 1]; exact a1)
  have pa := pw15 hw2 hw hf a
  have w1 := wh_b w f a
  obtain ⟨_, p0⟩ := lv_codeP hw2 f a
  unfold tmOf
  split
  · show _ = _ ∨ _ = _; omega
  · exact ⟨by show _ = _ ∨ _ = _; dsimp only; omega, w1.1, ib_mono (wh15 hf a) (by decide), by dsimp only; omega, by dsimp only; omega⟩
theorem stp_b15 {w f : Nat} (hw : w ≤ 15) (hf : f ≤ 112) : stp0 w f ≤ 17000 := stp_s hw hf
theorem exN_sgl {w f : Nat} (hw2 : 2 ≤ w) (a : Int) (M : Nat) : (1 - 2 * (a / 2 ^ (w + f))) * (whOf w f a * 2 ^ (pwOf w f a + (stp0 w f + M : Nat)).toNat) = sgl w f a * 2 ^ M := by
  obtain ⟨la, p0⟩ := lv_codeP hw2 f a
  unfold sgl
  rw [← la]
  have e : (pwOf w f a + (stp0 w f + M : Nat)).toNat = (pwOf w f a + stp0 w f).toNat + M := by omega
  rw [e, show (2 : Int) ^ ((pwOf w f a + stp0 w f).toNat + M) = 2 ^ (pwOf w f a + stp0 w f).toNat * 2 ^ M from Int.pow_add .., Int.mul_assoc, Int.mul_assoc]
/-- the deeds' numbers as terms -/
noncomputable def addP (w f k : Nat) (a b : Int) : Int × Int := if noneB w f a = true ∨ noneB w f b = true then (noN w f, 0) else sumP w f k (stp0 w f) [tmOf w f a, tmOf w f b]
section
variable (w f : Nat) (hw2 : 2 ≤ w) (hw : w ≤ 15) (hf1 : 1 ≤ f) (hf : f ≤ 112) (k : Nat) (hk : k < 5) {a b : Int} (a0 : 0 ≤ a) (a1 : a < 2 ^ (w + f + 1)) (b0 : 0 ≤ b) (b1 : b < 2 ^ (w + f + 1))
include hw2 hw hf1 hf hk a0 a1 b0 b1
theorem k_two (n : Nat) (h : HP) : run p.T p.fs (n + 4) 34 [.tup [.int w, .int f], .str (wayN k), .lst [.int a, .int b]] h = .ok (.lst [.str (kindS w f a), .str (kindS w f b)]) h ∧ Rm.inV h (.str "none") (.lst [.str (kindS w f a), .str (kindS w f b)]) = some (noneB w f a || noneB w f b) := by
  have kk := s_kinds_of w f (by omega) (by omega) n h k hk [a, b] (by simp) (by
    intro x hx
    have : x = a ∨ x = b := by simpa using hx
    rcases this with y | y <;> rw [y]
    · exact ⟨a0, a1⟩
    · exact ⟨b0, b1⟩)
  have kn := inV_kinds (w := w) (by omega) f h [a, b]
  simp only [List.map_cons, List.map_nil, List.any_cons, List.any_nil, Bool.or_false] at kk kn
  exact ⟨kk, kn⟩
end
end Pg

namespace Pg
open PySem L2 Rm
open PySem.Builtin.Int (intBits)
theorem prT_ok {w f : Nat} (hw2 : 2 ≤ w) (hw : w ≤ 15) (hf : f ≤ 112) {a b : Int} (a0 : 0 ≤ a) (a1 : a < 2 ^ (w + f + 1)) (b0 : 0 ≤ b) (b1 : b < 2 ^ (w + f + 1)) : tOK (stp0 w f + stp0 w f) (prT (tmOf w f a) (tmOf w f b)) := by
  have sa0 : 0 ≤ a / 2 ^ (w + f) := dn _ a0
  have sa1 : a / 2 ^ (w + f) < 2 ^ 1 := div_lt_pow (m := 1) (by rw [Nat.add_comm 1]; exact a1)
  have sb0 : 0 ≤ b / 2 ^ (w + f) := dn _ b0
  have sb1 : b / 2 ^ (w + f) < 2 ^ 1 := div_lt_pow (m := 1) (by rw [Nat.add_comm 1]; exact b1)
  have sx := xor_01 (a := a / 2 ^ (w + f)) (b := b / 2 ^ (w + f)) (by omega) (by omega)
  have pa := pw15 hw2 hw hf a
  have pb := pw15 hw2 hw hf b
  have w1 := wh_b w f a
  have w2 := wh_b w f b
  obtain ⟨_, p0⟩ := lv_codeP hw2 f a
  obtain ⟨_, q0⟩ := lv_codeP hw2 f b
  unfold tmOf
  split <;> split <;> simp only [prT]
  · exact sx
  · split
    · trivial
    · exact sx
  · split
    · trivial
    · exact sx
  · exact ⟨sx, Int.mul_nonneg w1.1 w2.1, ib_mono (intBits_mul_le (wh15 hf a) (wh15 hf b)) (by decide), by dsimp only; omega, by dsimp only; omega⟩
end Pg

namespace Pg
open PySem L2 Rm
open PySem.Builtin.Int (intBits)
theorem exN_prod {w f : Nat} (hw2 : 2 ≤ w) (a b s : Int) : (1 - 2 * s) * (whOf w f a * whOf w f b * 2 ^ (pwOf w f a + pwOf w f b + (stp0 w f + stp0 w f : Nat)).toNat) = (1 - 2 * s) * lv f (a % 2 ^ (w + f)) * lv f (b % 2 ^ (w + f)) := by
  obtain ⟨la, p0⟩ := lv_codeP hw2 f a
  obtain ⟨lb, q0⟩ := lv_codeP hw2 f b
  rw [← la, ← lb]
  have e : (pwOf w f a + pwOf w f b + (stp0 w f + stp0 w f : Nat)).toNat = (pwOf w f a + stp0 w f).toNat + (pwOf w f b + stp0 w f).toNat := by omega
  rw [e, show (2 : Int) ^ ((pwOf w f a + stp0 w f).toNat + (pwOf w f b + stp0 w f).toNat) = 2 ^ (pwOf w f a + stp0 w f).toNat * 2 ^ (pwOf w f b + stp0 w f).toNat from Int.pow_add ..]
  grind
end Pg

namespace Pg
open PySem L2 Rm
open PySem.Builtin.Int (intBits)
section
variable (w f : Nat) (hw2 : 2 ≤ w) (hw : w ≤ 15) (hf1 : 1 ≤ f) (hf : f ≤ 112) (k : Nat) (hk : k < 5) {a b : Int} (a0 : 0 ≤ a) (a1 : a < 2 ^ (w + f + 1)) (b0 : 0 ≤ b) (b1 : b < 2 ^ (w + f + 1))
include hw2 hw hf1 hf hk a0 a1 b0 b1
theorem s_addP (n : Nat) (h : HP) : run p.T p.fs (n + 8) 40 [.tup [.int w, .int f], .str (wayN k), .int a, .int b] h = .ok (.tup [.int (addP w f k a b).1, .int (addP w f k a b).2]) h := by
  obtain ⟨kk, kn⟩ := k_two w f hw2 hw hf1 hf k hk a0 a1 b0 b1 (n + 3) h
  have nn := s_nonum w f hw hw2 hf1 hf (n + 5) h
  rw [run_eq (F := fn40) rfl rfl]
  by_cases hN : noneB w f a = true ∨ noneB w f b = true
  · have e : (noneB w f a || noneB w f b) = true := by
      rcases hN with y | y <;> rw [y] <;> simp
    rw [e] at kn
    have ef : addP w f k a b = (noN w f, 0) := if_pos hN
    rw [ef]
    unfold noN
    simp [fn40, kk, kn, nn]
  · have na : noneB w f a = false := by
      cases q : noneB w f a
      · rfl
      · exact absurd (.inl q) hN
    have nb : noneB w f b = false := by
      cases q : noneB w f b
      · rfl
      · exact absurd (.inr q) hN
    have ef : addP w f k a b = sumP w f k (stp0 w f) [tmOf w f a, tmOf w f b] := if_neg hN
    rw [ef]
    rw [na, nb] at kn
    have ta := s_term_of w f (by omega) (by omega) (by omega) (n + 3) h a0 a1 na
    have tb := s_term_of w f (by omega) (by omega) (by omega) (n + 3) h b0 b1 nb
    have ss := stp_s hw hf
    have sm := s_sumP w f hw2 hw hf1 hf k hk (stp0 w f) (by omega) (by omega) (v := .lst [tmMV (tmOf w f a), tmMV (tmOf w f b)]) (ts := [tmOf w f a, tmOf w f b]) (by simp) (by
      intro t ht
      have : t = tmOf w f a ∨ t = tmOf w f b := by simpa using ht
      rcases this with y | y <;> rw [y]
      · exact tmOf_ok hw2 hw hf a0 a1
      · exact tmOf_ok hw2 hw hf b0 b1) n (h := h) (fun g => rfl)
    simp [fn40, kk, kn, ta, tb, sm]
end
end Pg

namespace Pg
open PySem L2 Rm
open PySem.Builtin.Int (intBits)
theorem s_negX (w f : Nat) (hw : w ≤ 20) (hf : f ≤ 200) (n : Nat) (h : HP) {b : Int} (h0 : 0 ≤ b) (h1 : b < 2 ^ (w + f + 1)) : run p.T p.fs (n + 3) 10 [.tup [.int w, .int f], .int b] h = .ok (.int (Builtin.bitXor b (2 ^ (w + f)))) h := by
  rw [run_eq (F := fn10) rfl rfl]
  simp [fn10, s_parted w f hw hf n h h0 h1, s_sign_bit w f hw hf]
theorem s_takP (w f : Nat) (hw2 : 2 ≤ w) (hw : w ≤ 15) (hf1 : 1 ≤ f) (hf : f ≤ 112) (k : Nat) (hk : k < 5) {a b : Int} (a0 : 0 ≤ a) (a1 : a < 2 ^ (w + f + 1)) (b0 : 0 ≤ b) (b1 : b < 2 ^ (w + f + 1)) (n : Nat) (h : HP) :
    run p.T p.fs (n + 9) 41 [.tup [.int w, .int f], .str (wayN k), .int a, .int b] h = .ok (.tup [.int (addP w f k a (Builtin.bitXor b (2 ^ (w + f)))).1, .int (addP w f k a (Builtin.bitXor b (2 ^ (w + f)))).2]) h := by
  obtain ⟨kk, _⟩ := k_two w f hw2 hw hf1 hf k hk a0 a1 b0 b1 (n + 4) h
  have ng := s_negX w f (by omega) (by omega) (n + 5) h b0 b1
  have pT := p2 (w + f)
  have eT := pow_s (w + f)
  have tb := xor_lt (w + f + 1) b0 b1 (show 0 ≤ (2 : Int) ^ (w + f) by omega) (by omega)
  have hr := s_addP w f hw2 hw hf1 hf k hk a0 a1 tb.1 tb.2 n h
  rw [run_eq (F := fn41) rfl rfl]
  simp [fn41, kk, ng, hr]
end Pg

namespace Pg
open PySem L2 Rm
open PySem.Builtin.Int (intBits)
noncomputable def mulP (w f k : Nat) (a b : Int) : Int × Int := if noneB w f a = true ∨ noneB w f b = true then (noN w f, 0) else sumP w f k (stp0 w f + stp0 w f) [prT (tmOf w f a) (tmOf w f b)]
section
variable (w f : Nat) (hw2 : 2 ≤ w) (hw : w ≤ 15) (hf1 : 1 ≤ f) (hf : f ≤ 112) (k : Nat) (hk : k < 5) {a b : Int} (a0 : 0 ≤ a) (a1 : a < 2 ^ (w + f + 1)) (b0 : 0 ≤ b) (b1 : b < 2 ^ (w + f + 1))
include hw2 hw hf1 hf hk a0 a1 b0 b1
theorem s_mulP (n : Nat) (h : HP) : run p.T p.fs (n + 8) 42 [.tup [.int w, .int f], .str (wayN k), .int a, .int b] h = .ok (.tup [.int (mulP w f k a b).1, .int (mulP w f k a b).2]) h := by
  obtain ⟨kk, kn⟩ := k_two w f hw2 hw hf1 hf k hk a0 a1 b0 b1 (n + 3) h
  have nn := s_nonum w f hw hw2 hf1 hf (n + 5) h
  rw [run_eq (F := fn42) rfl rfl]
  by_cases hN : noneB w f a = true ∨ noneB w f b = true
  · have e : (noneB w f a || noneB w f b) = true := by
      rcases hN with y | y <;> rw [y] <;> simp
    rw [e] at kn
    have ef : mulP w f k a b = (noN w f, 0) := if_pos hN
    rw [ef]
    unfold noN
    simp [fn42, kk, kn, nn]
  · have na : noneB w f a = false := by
      cases q : noneB w f a
      · rfl
      · exact absurd (.inl q) hN
    have nb : noneB w f b = false := by
      cases q : noneB w f b
      · rfl
      · exact absurd (.inr q) hN
    have ef : mulP w f k a b = sumP w f k (stp0 w f + stp0 w f) [prT (tmOf w f a) (tmOf w f b)] := if_neg hN
    rw [ef]
    rw [na, nb] at kn
    have pt := s_product_term w f hw2 hw hf (n + 2) h a0 a1 b0 b1 na nb
    have ss := stp_s hw hf
    have sm := s_sumP w f hw2 hw hf1 hf k hk (stp0 w f + stp0 w f) (by omega) (by omega) (v := .lst [tmMV (prT (tmOf w f a) (tmOf w f b))]) (ts := [prT (tmOf w f a) (tmOf w f b)]) (by simp) (by
      intro t ht
      have : t = prT (tmOf w f a) (tmOf w f b) := by simpa using ht
      rw [this]
      exact prT_ok hw2 hw hf a0 a1 b0 b1) n (h := h) (fun g => rfl)
    simp [fn42, kk, kn, pt, sm]
end
end Pg

namespace Pg
open PySem L2 Rm
open PySem.Builtin.Int (intBits)
noncomputable def divP (w f k : Nat) (a b : Int) : Int × Int :=
  if noneB w f a = true ∨ noneB w f b = true then (noN w f, 0)
  else if a % 2 ^ (w + f) = 2 ^ (w + f) - 2 ^ f then (if b % 2 ^ (w + f) = 2 ^ (w + f) - 2 ^ f then (noN w f, 16) else (Builtin.bitXor (a / 2 ^ (w + f)) (b / 2 ^ (w + f)) * 2 ^ (w + f) + (2 ^ (w + f) - 2 ^ f), 0))
  else if b % 2 ^ (w + f) = 0 then (if a % 2 ^ (w + f) = 0 then (noN w f, 16) else (Builtin.bitXor (a / 2 ^ (w + f)) (b / 2 ^ (w + f)) * 2 ^ (w + f) + (2 ^ (w + f) - 2 ^ f), 8))
  else if b % 2 ^ (w + f) = 2 ^ (w + f) - 2 ^ f then (Builtin.bitXor (a / 2 ^ (w + f)) (b / 2 ^ (w + f)) * 2 ^ (w + f), 0)
  else (Builtin.bitXor (a / 2 ^ (w + f)) (b / 2 ^ (w + f)) * 2 ^ (w + f) + (stl w f k (Builtin.bitXor (a / 2 ^ (w + f)) (b / 2 ^ (w + f))) (frOf f (lv f (a % 2 ^ (w + f)) * 2 ^ stp0 w f) (lv f (b % 2 ^ (w + f)))).1 (frOf f (lv f (a % 2 ^ (w + f)) * 2 ^ stp0 w f) (lv f (b % 2 ^ (w + f)))).2).1, (stl w f k (Builtin.bitXor (a / 2 ^ (w + f)) (b / 2 ^ (w + f))) (frOf f (lv f (a % 2 ^ (w + f)) * 2 ^ stp0 w f) (lv f (b % 2 ^ (w + f)))).1 (frOf f (lv f (a % 2 ^ (w + f)) * 2 ^ stp0 w f) (lv f (b % 2 ^ (w + f)))).2).2)
theorem s_divP (w f : Nat) (hw2 : 2 ≤ w) (hw : w ≤ 15) (hf1 : 1 ≤ f) (hf : f ≤ 112) (k : Nat) (hk : k < 5) {a b : Int} (a0 : 0 ≤ a) (a1 : a < 2 ^ (w + f + 1)) (b0 : 0 ≤ b) (b1 : b < 2 ^ (w + f + 1)) (n : Nat) (h : HP) :
    run p.T p.fs (n + 8) 43 [.tup [.int w, .int f], .str (wayN k), .int a, .int b] h = .ok (.tup [.int (divP w f k a b).1, .int (divP w f k a b).2]) h := by
  have E3 := end_3 (f := f) hw2
  have EL := end_lt (w := w) (f := f)
  have pf := p2 f
  have sa0 : 0 ≤ a / 2 ^ (w + f) := dn _ a0
  have sa1 : a / 2 ^ (w + f) < 2 ^ 1 := div_lt_pow (m := 1) (by rw [Nat.add_comm 1]; exact a1)
  have sb0 : 0 ≤ b / 2 ^ (w + f) := dn _ b0
  have sb1 : b / 2 ^ (w + f) < 2 ^ 1 := div_lt_pow (m := 1) (by rw [Nat.add_comm 1]; exact b1)
  have sx := xor_01 (a := a / 2 ^ (w + f)) (b := b / 2 ^ (w + f)) (by omega) (by omega)
  obtain ⟨kk, kn⟩ := k_two w f hw2 hw hf1 hf k hk a0 a1 b0 b1 (n + 3) h
  have nn := s_nonum w f hw hw2 hf1 hf (n + 5) h
  have ke := kq_end2 (w := w) (by omega) f a b h
  have kz := kq_zero2 hw2 f a b h
  have k1 := kq_end (w := w) (by omega) f a h
  have k2 := kq_zero hw2 f b h
  have k3 := kq_end (w := w) (by omega) f b h
  have gw := s_gone w f hw2 hw hf1 hf (n + 4) h
  have pa := s_parted w f (by omega) (by omega) (n + 5) h a0 a1
  have pb := s_parted w f (by omega) (by omega) (n + 5) h b0 b1
  have sb := s_sign_bit' w f (by omega) (by omega) (n + 6) h
  unfold divP
  obtain ⟨s, hs⟩ : ∃ s, Builtin.bitXor (a / 2 ^ (w + f)) (b / 2 ^ (w + f)) = s := ⟨_, rfl⟩
  rw [hs] at sx ⊢
  have ew := s_endless_with w f hw2 hw hf1 hf (n + 5) h sx
  have ms : mulB s (2 ^ (w + f)) = true := mulB_left (by rcases sx with y | y <;> rw [y] <;> decide)
  have z1 : ¬ (0 : Int) = 2 ^ (w + f) - 2 ^ f := by omega
  have z2 : ¬ 2 ^ (w + f) - (2 : Int) ^ f = 0 := by omega
  rw [run_eq (F := fn43) rfl rfl]
  by_cases hN : noneB w f a = true ∨ noneB w f b = true
  · have e : (noneB w f a || noneB w f b) = true := by
      rcases hN with y | y <;> rw [y] <;> simp
    rw [e] at kn
    rw [if_pos hN]
    unfold noN
    simp [fn43, kk, kn, nn]
  rw [if_neg hN]
  have na : noneB w f a = false := by
    cases q : noneB w f a
    · rfl
    · exact absurd (.inl q) hN
  have nb : noneB w f b = false := by
    cases q : noneB w f b
    · rfl
    · exact absurd (.inr q) hN
  rw [na, nb] at kn
  have ya : ¬ 2 ^ (w + f) - 2 ^ f < a % 2 ^ (w + f) := by unfold noneB at na; simpa using na
  have yb : ¬ 2 ^ (w + f) - 2 ^ f < b % 2 ^ (w + f) := by unfold noneB at nb; simpa using nb
  by_cases za : a % 2 ^ (w + f) = 2 ^ (w + f) - 2 ^ f
  · rw [if_pos za]
    by_cases zb : b % 2 ^ (w + f) = 2 ^ (w + f) - 2 ^ f
    · rw [if_pos zb]
      unfold noN
      simp [fn43, kk, kn, ke, za, zb, gw]
    · rw [if_neg zb]
      simp [fn43, kk, kn, ke, kz, k1, za, zb, z2, pa, pb, hs, ew]
  rw [if_neg za]
  by_cases y2 : b % 2 ^ (w + f) = 0
  · rw [if_pos y2]
    by_cases y1 : a % 2 ^ (w + f) = 0
    · rw [if_pos y1]
      unfold noN
      simp [fn43, kk, kn, ke, kz, y1, y2, z1, gw]
    · rw [if_neg y1]
      simp [fn43, kk, kn, ke, kz, k1, k2, y1, y2, za, z1, pa, pb, hs, ew]
  rw [if_neg y2]
  by_cases zb : b % 2 ^ (w + f) = 2 ^ (w + f) - 2 ^ f
  · rw [if_pos zb]
    simp [fn43, kk, kn, ke, kz, k1, k2, k3, za, zb, z1, z2, pa, pb, hs, sb, ms]
  rw [if_neg zb]
  have ca := mn a (w + f)
  have cb := mn b (w + f)
  have nla : ¬ fdOf w f a = 2 ^ w - 1 := fun z => by have := (fd_last (w := w) (f := f) (b := a) (by omega)).mpr z; omega
  have nlb : ¬ fdOf w f b = 2 ^ w - 1 := fun z => by have := (fd_last (w := w) (f := f) (b := b) (by omega)).mpr z; omega
  have fa := s_fraction w f (by omega) (by omega) (by omega) (n + 3) h a0 a1 nla
  have fb := s_fraction w f (by omega) (by omega) (by omega) (n + 3) h b0 b1 nlb
  obtain ⟨m, m0, m1, m2⟩ := lv_wh w f a hw2
  obtain ⟨q, q0, q1, q2⟩ := lv_wh w f b hw2
  obtain ⟨u0, d0, ub, db, _⟩ := fr_sizes w f hw2 hw hf1 hf a0 a1
  obtain ⟨t0, e0, tb, eb, _⟩ := fr_sizes w f hw2 hw hf1 hf b0 b1
  obtain ⟨u, hu⟩ : ∃ t, whOf w f a * 2 ^ (pwOf w f a).toNat = t := ⟨_, rfl⟩
  obtain ⟨d, hd⟩ : ∃ d, (2 : Int) ^ (-pwOf w f a).toNat = d := ⟨_, rfl⟩
  obtain ⟨t, ht⟩ : ∃ t, whOf w f b * 2 ^ (pwOf w f b).toNat = t := ⟨_, rfl⟩
  obtain ⟨e, he⟩ : ∃ d, (2 : Int) ^ (-pwOf w f b).toNat = d := ⟨_, rfl⟩
  have tp : 0 < t := by
    have w1 := (wh_b w f b).1
    have wn : whOf w f b ≠ 0 := fun q => y2 ((wh_nought (w := w) (f := f) (b := b)).mpr q)
    rw [← ht]; exact Int.mul_pos (by omega) (p2 _)
  rw [hu, hd] at fa
  rw [ht, he] at fb
  rw [hu] at m1 u0 ub
  rw [hd] at m2 d0 db
  rw [ht] at q1 t0 tb
  rw [he] at q2 e0 eb
  have dt : 0 < d * t := Int.mul_pos (by omega) tp
  have mm1 : mulB d t = true := mulB_of db tb (by decide)
  have mm2 : mulB u e = true := mulB_of ub eb (by decide)
  obtain ⟨c, r, C, er⟩ := s_rounded w f hw2 (by omega) hf1 (by omega) (n + 2) h k hk sx (t := u * e) (b := d * t) (Int.mul_nonneg u0 (by omega)) (by omega) (ib_mono (intBits_mul_le ub eb) (by decide)) (ib_mono (intBits_mul_le db tb) (by decide))
  have lvb0 : 0 < lv f (b % 2 ^ (w + f)) := by rw [← q1]; exact Int.mul_pos tp q0
  have F := (C.fr dt).ratio lvb0 (V' := lv f (a % 2 ^ (w + f)) * 2 ^ stp0 w f) (by
    rw [← m1, ← q1]
    have : e * q = m * d := by rw [q2, Int.mul_comm m, m2]
    have l : u * e * 2 ^ stp0 w f * (t * q) = u * t * 2 ^ stp0 w f * (e * q) := by grind
    rw [l, this]; grind)
  rw [F.of]
  simp [fn43, kk, kn, ke, kz, k1, k2, k3, y2, za, zb, pa, pb, hs, fa, fb, mm1, mm2, er]
end Pg

namespace Pg
open PySem L2 Rm
open PySem.Builtin.Int (intBits)
theorem sqrt_ex : ∀ n : Nat, ∃ s : Nat, s * s ≤ n ∧ n < (s + 1) * (s + 1)
  | 0 => ⟨0, by decide, by decide⟩
  | n + 1 => by
    obtain ⟨s, h1, h2⟩ := sqrt_ex n
    by_cases h : (s + 1) * (s + 1) ≤ n + 1
    · refine ⟨s + 1, h, ?_⟩
      have : (s + 1 + 1) * (s + 1 + 1) = (s + 1) * (s + 1) + 2 * s + 3 := by grind
      omega
    · exact ⟨s, by omega, by omega⟩
theorem root_ex (n : Int) (hn : 0 ≤ n) : ∃ s : Int, 0 ≤ s ∧ s * s ≤ n ∧ n < (s + 1) * (s + 1) := by
  obtain ⟨s, h1, h2⟩ := sqrt_ex n.toNat
  refine ⟨s, by omega, ?_, ?_⟩
  · have := Int.ofNat_le.mpr h1
    rw [Int.natCast_mul] at this; omega
  · have := Int.ofNat_lt.mpr h2
    rw [Int.natCast_mul, Int.natCast_add] at this
    have e : ((1 : Nat) : Int) = 1 := rfl
    rw [e] at this; omega
theorem le_of_sq {a b : Int} (hb : 0 ≤ b) (h : a * a < (b + 1) * (b + 1)) : a ≤ b := by
  rcases Int.lt_or_le b a with z | z
  · have : (b + 1) * (b + 1) ≤ a * a := Int.mul_le_mul z z (by omega) (by omega)
    omega
  · exact z
/-- one step of the root's climb down -/
theorem newton {n s g : Int} (hs : 0 ≤ s) (h1 : s * s ≤ n) (h2 : n < (s + 1) * (s + 1)) (hg : 1 ≤ g) (hsg : s ≤ g) :
    s ≤ (g + n / g) / 2 ∧ (g ≤ (g + n / g) / 2 ↔ g = s) ∧ (s < g → 2 * ((g + n / g) / 2 - s) ≤ g - s) := by
  have q1 : 2 * s - g ≤ n / g := by
    rw [Int.le_ediv_iff_mul_le (by omega)]
    have : 0 ≤ (s - g) * (s - g) := by rcases Int.le_total 0 (s - g) with z | z; exact Int.mul_nonneg z z; exact Int.mul_nonneg_of_nonpos_of_nonpos z z
    grind
  have q2 : s < g → n / g ≤ s := by
    intro hlt
    have : n / g < s + 1 := by
      rw [Int.ediv_lt_iff_lt_mul (by omega)]
      have : (s + 1) * (s + 1) ≤ (s + 1) * g := Int.mul_le_mul_of_nonneg_left (by omega) (by omega)
      omega
    omega
  have q3 : g = s → s ≤ n / g := by
    intro e; subst e
    rw [Int.le_ediv_iff_mul_le (by omega)]; exact h1
  generalize n / g = q at *
  refine ⟨by omega, ⟨?_, ?_⟩, ?_⟩
  · intro z
    rcases Int.lt_or_le s g with y | y
    · have := q2 y; omega
    · omega
  · intro z
    have := q3 z; omega
  · intro z
    have := q2 z; omega
theorem root_loop (C : Nat → List MV → HP → R MV) (h : HP) (n s : Int) (hs1 : 0 < s) (h1 : s * s ≤ n) (h2 : n < (s + 1) * (s + 1)) : ∀ (k : Nat) (g : Int) (N : Nat) (b : Option MV), 1 ≤ g → s ≤ g → g - s < 2 ^ k → intBits g ≤ 9000 → k < N →
    whlL (evE p.T C t26_0) (exSs p.T C w26_0) N [some (.int n), some (.int g), b] h = .ret (.int s) h := by
  have hs : 0 ≤ s := by omega
  intro k
  induction k with
  | zero =>
    intro g N b hg hsg hk hb hN
    obtain ⟨M, rfl⟩ := pos_fuel hN
    have hgs : g = s := by simp at hk; omega
    obtain ⟨e1, e2, e3⟩ := newton hs h1 h2 hg hsg
    have d1 := dvB_bits (a := n) (by omega) hb (Nat.le_refl _)
    have d2 := dvB_small (a := g + n / g) (b := 2) (by decide) (by decide)
    have e4 := e2.mpr hgs
    rw [whlL_succ]
    simp [d1, d2, e4]
    exact hgs
  | succ k ih =>
    intro g N b hg hsg hk hb hN
    obtain ⟨M, rfl⟩ := pos_fuel hN
    obtain ⟨e1, e2, e3⟩ := newton hs h1 h2 hg hsg
    have d1 := dvB_bits (a := n) (by omega) hb (Nat.le_refl _)
    have d2 := dvB_small (a := g + n / g) (b := 2) (by decide) (by decide)
    have hp : (2 : Int) ^ (k + 1) = 2 * 2 ^ k := by rw [Int.pow_succ]; omega
    rw [whlL_succ]
    by_cases hgs : g = s
    · have e4 := e2.mpr hgs
      simp [d1, d2, e4]
      exact hgs
    · have e4 : ¬ g ≤ (g + n / g) / 2 := fun z => hgs (e2.mp z)
      have e5 := e3 (by omega)
      have hb' : intBits ((g + n / g) / 2) ≤ 9000 := intBits_le_of_natAbs (by omega) hb
      by_cases hz : 1 ≤ (g + n / g) / 2
      · have := ih ((g + n / g) / 2) M (some (.int ((g + n / g) / 2))) hz e1 (by omega) hb' (by omega)
        simp [d1, d2, e4, this]
      · exfalso
        omega
theorem root_start {n s : Int} (hn : 0 < n) (hs : 0 ≤ s) (h1 : s * s ≤ n) {m : Nat} (hm : intBits n ≤ m) : s ≤ 2 ^ ((m + 1) / 2) := by
  rcases Int.lt_or_le (2 ^ ((m + 1) / 2)) s with z | z
  · exfalso
    have p0 := Int.pow_pos (n := 2) (m := (m + 1) / 2) (by decide)
    have a1 : (2 : Int) ^ ((m + 1) / 2) * 2 ^ ((m + 1) / 2) ≤ s * s := Int.mul_le_mul (Int.le_of_lt z) (Int.le_of_lt z) (Int.le_of_lt p0) hs
    rw [← Int.pow_add] at a1
    have a2 := two_le_pow (show m ≤ (m + 1) / 2 + (m + 1) / 2 by omega)
    have a3 := Int.ofNat_lt.mpr (intBits_le_iff.mp hm)
    rw [Int.natCast_pow, show ((2 : Nat) : Int) = 2 from rfl] at a3
    omega
  · exact z
/-- the root of a number that is not below nought -/
theorem s_root (n : Nat) (h : HP) (x : Int) (h0 : 0 ≤ x) (hb : intBits x ≤ 17000) : ∃ s : Int, 0 ≤ s ∧ s * s ≤ x ∧ x < (s + 1) * (s + 1) ∧ run p.T p.fs (n + 1) 26 [.int x] h = .ok (.int s) h := by
  obtain ⟨s, hs, h1, h2⟩ := root_ex x h0
  refine ⟨s, hs, h1, h2, ?_⟩
  rw [run_eq (F := fn26) rfl rfl]
  by_cases hz : x = 0
  · subst hz
    have : s = 0 := by
      rcases Int.lt_or_le 0 s with z | z
      · have : 1 * 1 ≤ s * s := Int.mul_le_mul z z (by omega) (by omega)
        omega
      · omega
    subst this
    simp [fn26]
  have hx : ¬ x < 0 := by omega
  have hs1 : 0 < s := by
    rcases Int.lt_or_le 0 s with z | z
    · exact z
    · exfalso
      have : s = 0 := by omega
      subst this
      omega
  have st := root_start (by omega) hs h1 (Nat.le_refl (intBits x))
  have e1 : (((intBits x : Int) + 1) / 2).toNat = (intBits x + 1) / 2 := by omega
  have sh := shlB_one (b := ((intBits x : Int) + 1) / 2) (by omega) (by omega)
  have d2 := dvB_small (a := (intBits x : Int) + 1) (b := 2) (by decide) (by decide)
  have L := root_loop (run p.T p.fs n) h x s hs1 h1 h2 ((intBits x + 1) / 2 + 1) (2 ^ ((intBits x + 1) / 2)) fuel none (by have := Int.pow_pos (n := 2) (m := (intBits x + 1) / 2) (by decide); omega) st (by rw [Int.pow_succ]; have := Int.pow_pos (n := 2) (m := (intBits x + 1) / 2) (by decide); omega) (ib_mono (ib_pow2 _) (by omega)) (lt_fuel (by omega))
  simp [fn26, hx, hz, d2, sh, e1, L]
theorem s_root_no (n : Nat) (h : HP) (x : Int) (h0 : x < 0) : run p.T p.fs (n + 1) 26 [.int x] h = .exc (4, []) h := by
  rw [run_eq (F := fn26) rfl rfl]
  have : p.T.rz 4 = true := rfl
  simp [fn26, h0, this]
end Pg

namespace Pg
open PySem L2 Rm
open PySem.Builtin.Int (intBits)
/-- what is left over of a root's cut: u the root, T over W the number -/
def rr (u T W : Int) : Int := if u * u * W = T then 0 else if 4 * T < (2 * u + 1) * (2 * u + 1) * W then 1 else if 4 * T = (2 * u + 1) * (2 * u + 1) * W then 2 else 3
structure RootP (w f : Nat) (t b : Int) (u : Int) (s : Nat) (r : Int) : Prop where
  u0 : 0 ≤ u
  u1 : u < 2 ^ (f + 1)
  us : s = 0 ∨ 2 ^ f ≤ u
  sb : s ≤ 7000000
  lo : u * u * scW b (2 * (loOf w f + s)) ≤ scT t (2 * (loOf w f + s))
  hi : scT t (2 * (loOf w f + s)) < (u + 1) * (u + 1) * scW b (2 * (loOf w f + s))
  rst : r = rr u (scT t (2 * (loOf w f + s))) (scW b (2 * (loOf w f + s)))
theorem s_rootcut (w f : Nat) (hw2 : 2 ≤ w) (hw : w ≤ 20) (hf : f ≤ 200) (n : Nat) (h : HP) {t b : Int} (ht : 0 ≤ t) (hb : 1 ≤ b) (tb : intBits t ≤ 1000000) (bb : intBits b ≤ 1000000) :
    ∃ (u : Int) (s : Nat) (r : Int), RootP w f t b u s r ∧ run p.T p.fs (n + 4) 27 [.tup [.int w, .int f], .int t, .int b] h = .ok (.tup [.int u, .int (loOf w f + s), .int r]) h := by
  rw [run_eq (F := fn27) rfl rfl]
  have as := s_asked (n + 2) h ht hb
  have sl := s_low w f (by omega) hw (n + 1) h
  have lst := lo_stp (f := f) hw2
  have sb := stp_b hw hf
  by_cases h0 : t = 0
  · subst h0
    refine ⟨0, 0, 0, ⟨by omega, p2 _, .inl rfl, by omega, ?_, ?_, ?_⟩, ?_⟩
    · simp [scT]
    · have : 0 < scW b (2 * (loOf w f + ((0 : Nat) : Int))) := Int.mul_pos (by omega) (p2 _)
      simp [scT] at this ⊢; exact this
    · simp [rr, scT]
    · simp -implicitDefEqProofs [fn27, as, sl]
  have sa := s_ahead (n + 1) h (t := t) (b := b) (by omega) (by omega)
  have ab : -3000000 ≤ ahd t b ∧ ahd t b ≤ 3000000 := by unfold ahd; split <;> omega
  obtain ⟨N, hN⟩ : ∃ N : Nat, N = 12000000 := ⟨_, rfl⟩
  have M := ahd_spec (t := t) (b := b) (by omega) (by omega) N (by omega)
  generalize hA : ahd t b = A at *
  have d2 := dvB_small (a := A + 1) (b := 2) (by decide) (by decide)
  obtain ⟨q, hq⟩ : ∃ q : Int, (if (A + 1) / 2 - f - 1 > loOf w f then (A + 1) / 2 - f - 1 else loOf w f) = q := ⟨_, rfl⟩
  have q0 : loOf w f ≤ q := by split at hq <;> omega
  have q1 : (A + 1) / 2 - f - 1 ≤ q := by split at hq <;> omega
  have q2 : q ≤ 3000000 := by split at hq <;> omega
  obtain ⟨s, hs⟩ : ∃ s : Nat, q = loOf w f + s := ⟨(q - loOf w f).toNat, by omega⟩
  obtain ⟨k, e1, e2⟩ := sc_com (t := t) (b := b) (q := 2 * q) (N := N) (by omega)
  have ss := s_scaled (n + 2) h (t := t) (b := b) (q := 2 * q) (by omega) (by omega) (by omega) (by omega)
  have wp : 0 < scW b (2 * q) := Int.mul_pos (by omega) (p2 _)
  have tp : 0 < scT t (2 * q) := Int.mul_pos (by omega) (p2 _)
  have wb : intBits (scW b (2 * q)) ≤ 1000000 + ((2 * q).toNat + 1) := intBits_mul_le bb (ib_pow2 _)
  have tbb : intBits (scT t (2 * q)) ≤ 1000000 + ((-(2 * q)).toNat + 1) := intBits_mul_le tb (ib_pow2 _)
  have pk := p2 k
  -- the quotient is small
  have big : scT t (2 * q) < scW b (2 * q) * 2 ^ (2 * f + 2) := by
    have a1 : b * 2 ^ ((N : Int) + A).toNat ≤ b * 2 ^ (((N : Int) + 2 * q).toNat + (2 * f + 2)) := Int.mul_le_mul_of_nonneg_left (two_le_pow (by omega)) (by omega)
    rw [Int.pow_add, ← Int.mul_assoc, e2] at a1
    have a2 : scT t (2 * q) * 2 ^ k < scW b (2 * q) * 2 ^ (2 * f + 2) * 2 ^ k := by
      rw [← e1]
      have a3 : scW b (2 * q) * 2 ^ (2 * f + 2) * 2 ^ k = scW b (2 * q) * 2 ^ k * 2 ^ (2 * f + 2) := by grind
      omega
    exact Int.lt_of_mul_lt_mul_right a2 (Int.le_of_lt pk)
  have small : s ≠ 0 → scW b (2 * q) * 2 ^ (2 * f) ≤ scT t (2 * q) := by
    intro z
    have qq : q = (A + 1) / 2 - f - 1 := by split at hq <;> omega
    have a1 : b * 2 ^ (((N : Int) + 2 * q).toNat + 2 * f) ≤ b * 2 ^ ((N : Int) + A - 1).toNat := Int.mul_le_mul_of_nonneg_left (two_le_pow (by omega)) (by omega)
    rw [Int.pow_add, ← Int.mul_assoc, e2] at a1
    have a2 : scW b (2 * q) * 2 ^ (2 * f) * 2 ^ k ≤ scT t (2 * q) * 2 ^ k := by
      rw [← e1]
      have a3 : scW b (2 * q) * 2 ^ (2 * f) * 2 ^ k = scW b (2 * q) * 2 ^ k * 2 ^ (2 * f) := by grind
      omega
    exact Int.le_of_mul_le_mul_right a2 pk
  clear M e1 e2
  obtain ⟨T, hT⟩ : ∃ T : Int, scT t (2 * q) = T := ⟨_, rfl⟩
  obtain ⟨W, hW⟩ : ∃ T : Int, scW b (2 * q) = T := ⟨_, rfl⟩
  rw [hT, hW] at ss big small
  rw [hW] at wp wb
  rw [hT] at tp tbb
  have dv : dvB T W = true := by
    refine dvB_near wp ?_
    have w2 := ib_hi (Int.le_of_lt wp)
    have : T < 2 ^ (intBits W + (2 * f + 2)) := by
      rw [Int.pow_add]
      have a3 : W * 2 ^ (2 * f + 2) ≤ 2 ^ intBits W * 2 ^ (2 * f + 2) := Int.mul_le_mul_of_nonneg_right (Int.le_of_lt w2) (Int.le_of_lt (p2 _))
      omega
    have := ib_lt (Int.le_of_lt tp) this
    omega
  have du := Int.mul_ediv_add_emod T W
  have r0 := Int.emod_nonneg T (Int.ne_of_gt wp)
  have r1 := Int.emod_lt_of_pos T wp
  have x0 : 0 ≤ T / W := Int.ediv_nonneg (Int.le_of_lt tp) (Int.le_of_lt wp)
  have x1 : T / W < 2 ^ (2 * f + 2) := (Int.ediv_lt_iff_lt_mul wp).mpr (by rw [Int.mul_comm]; exact big)
  have xb := ib_lt x0 x1
  obtain ⟨u, u0, ul, uh, er⟩ := s_root (n + 2) h (T / W) x0 (by omega)
  have lo : u * u * W ≤ T := by
    have a := Int.mul_le_mul_of_nonneg_right ul (Int.le_of_lt wp)
    have : T / W * W = W * (T / W) := Int.mul_comm ..
    omega
  have hi : T < (u + 1) * (u + 1) * W := by
    have a : (T / W + 1) * W ≤ (u + 1) * (u + 1) * W := Int.mul_le_mul_of_nonneg_right (by omega) (Int.le_of_lt wp)
    rw [Int.add_mul, Int.one_mul] at a
    have : T / W * W = W * (T / W) := Int.mul_comm ..
    omega
  have pf1 := p2 (f + 1)
  have u1 : u < 2 ^ (f + 1) := by
    rcases Int.lt_or_le u (2 ^ (f + 1)) with z | z
    · exact z
    · exfalso
      have a : (2 : Int) ^ (f + 1) * 2 ^ (f + 1) ≤ u * u := Int.mul_le_mul z z (by omega) u0
      rw [← Int.pow_add, show f + 1 + (f + 1) = 2 * f + 2 by omega] at a
      omega
  have us : s = 0 ∨ 2 ^ f ≤ u := by
    by_cases z : s = 0
    · exact .inl z
    · right
      rcases Int.lt_or_le u (2 ^ f) with y | y
      · exfalso
        have a : (u + 1) * (u + 1) ≤ (2 : Int) ^ f * 2 ^ f := Int.mul_le_mul (by omega) (by omega) (by omega) (by have := p2 f; omega)
        rw [← Int.pow_add, show f + f = 2 * f by omega] at a
        have b1 := small z
        have b2 : (u + 1) * (u + 1) * W ≤ 2 ^ (2 * f) * W := Int.mul_le_mul_of_nonneg_right a (Int.le_of_lt wp)
        have b3 : (2 : Int) ^ (2 * f) * W = W * 2 ^ (2 * f) := Int.mul_comm ..
        omega
      · exact y
  have bu := ib_lt u0 u1
  have m1 := mulB_of bu bu (by omega)
  have m2 := mulB_of (intBits_mul_le bu bu) wb (by omega)
  have m3 : mulB 2 u = true := mulB_left (by decide)
  have b21 : intBits (2 * u + 1) ≤ 300 := ib_lt (n := 300) (by omega) (by have := two_le_pow (show f + 1 + 1 + 1 ≤ 300 by omega); have := pow_s (f + 1 + 1); have := pow_s (f + 1); omega)
  have m4 := mulB_of b21 b21 (by omega)
  have m5 := mulB_of (intBits_mul_le b21 b21) wb (by omega)
  have m6 : mulB 4 T = true := mulB_left (by decide)
  have m7 : mulB 2 q = true := mulB_left (by decide)
  refine ⟨u, s, rr u T W, ⟨u0, u1, us, by omega, by rw [← hs, hT, hW]; exact lo, by rw [← hs, hT, hW]; exact hi, by rw [← hs, hT, hW]⟩, ?_⟩
  rw [← hs]
  simp only [gt_iff_lt] at hq
  have rs_ : u * u * W ≠ T → run p.T p.fs (n + 3) 24 [.int (4 * T), .int ((2 * u + 1) * (2 * u + 1) * W)] h = .ok (.int (rr u T W)) h := by
    intro z
    rw [run_eq (F := fn24) rfl rfl]
    have c0 : ¬ 4 * T = 0 := by omega
    have c0' : ¬ T = 0 := by omega
    unfold rr
    obtain ⟨Y, hY⟩ : ∃ Y : Int, (2 * u + 1) * (2 * u + 1) * W = Y := ⟨_, rfl⟩
    rw [hY, if_neg z]
    by_cases c1 : 4 * T < Y
    · simp -implicitDefEqProofs [fn24, c0, c0', c1]
    · by_cases c2 : 4 * T = Y
      · have y0 : ¬ Y = 0 := by omega
        rw [c2]
        simp -implicitDefEqProofs [fn24, y0]
      · simp -implicitDefEqProofs [fn24, c0, c0', c1, c2]
  by_cases z : u * u * W = T
  · have : rr u T W = 0 := if_pos z
    rw [this]
    simp -implicitDefEqProofs [fn27, as, sl, sa, h0, d2, hq, m7, ss, dv, er, m1, m2, z]
  · have r' := rs_ z
    simp -implicitDefEqProofs [fn27, as, sl, sa, h0, d2, hq, m7, ss, dv, er, m1, m2, z, m3, m4, m5, m6, r']
end Pg

namespace Pg
open PySem L2 Rm
open PySem.Builtin.Int (intBits)
/-! roots in least steps -/
structure RFr (f : Nat) (Q c r : Int) : Prop where
  c0 : 0 ≤ c
  lo : lv f c * lv f c ≤ Q
  hi : Q < lv f (c + 1) * lv f (c + 1)
  rst : r = rs (2 * (Q - lv f c * lv f c)) ((lv f c + lv f (c + 1)) * (lv f c + lv f (c + 1)) - 4 * (lv f c * lv f c))
theorem sq_lt {a b : Int} (a0 : 0 ≤ a) (h : a < b) : a * a < b * b := by
  have h1 : a * a ≤ a * b := Int.mul_le_mul_of_nonneg_left (Int.le_of_lt h) a0
  have h2 : a * b < b * b := Int.mul_lt_mul_of_pos_right h (by omega)
  omega
theorem sq_le {a b : Int} (a0 : 0 ≤ a) (h : a ≤ b) : a * a ≤ b * b := Int.mul_le_mul h h a0 (by omega)
theorem RFr.same {f : Nat} {Q c r c' r' : Int} (F : RFr f Q c r) (G : RFr f Q c' r') : c = c' ∧ r = r' := by
  have key {x y s t : Int} (A : RFr f Q x s) (B : RFr f Q y t) : x ≤ y := by
    rcases Int.lt_or_le y x with z | z
    · have h1 := lv_le (f := f) (a := y + 1) (b := x) (by have := B.c0; omega) (by omega)
      have h2 := sq_le (lv_nn (f := f) (a := y + 1) (by have := B.c0; omega)) h1
      have := A.lo
      have := B.hi
      omega
    · exact z
  have e : c = c' := Int.le_antisymm (key F G) (key G F)
  subst e
  exact ⟨rfl, F.rst.trans G.rst.symm⟩
theorem RootP.rfr {w f : Nat} {t b u : Int} {s : Nat} {r : Int} (R : RootP w f t b u s r) (hw2 : 2 ≤ w) {m A : Int} (m0 : 0 < m) (h1 : t * m = A) (h2 : b * m = 2 ^ stp0 w f) : RFr f (A * 2 ^ stp0 w f) (s * 2 ^ f + u) r := by
  have lst := lo_stp (f := f) hw2
  have pf := p2 f
  have l1 := lv_cut R.u0 (Int.le_of_lt R.u1) R.us
  have us2 : s = 0 ∨ 2 ^ f ≤ u + 1 := by rcases R.us with z | z; exact .inl z; exact .inr (by omega)
  have l2 := lv_cut (f := f) (s := s) (u := u + 1) (by have := R.u0; omega) (by have := R.u1; omega) us2
  rw [← Int.add_assoc] at l2
  have sp : 0 ≤ (s : Int) * 2 ^ f := Int.mul_nonneg (by omega) (Int.le_of_lt pf)
  obtain ⟨k, e1, e2⟩ := sc_com (t := t) (b := b) (q := 2 * (loOf w f + s)) (N := 2 * stp0 w f) (by omega)
  have e3 : (((2 * stp0 w f : Nat) : Int) + 2 * (loOf w f + s)).toNat = s + s := by omega
  rw [e3] at e2
  have lo := R.lo
  have hi := R.hi
  have rst := R.rst
  obtain ⟨X, hX⟩ : ∃ X, scW b (2 * (loOf w f + s)) = X := ⟨_, rfl⟩
  obtain ⟨Y, hY⟩ : ∃ X, scT t (2 * (loOf w f + s)) = X := ⟨_, rfl⟩
  rw [hX] at e2 lo hi rst
  rw [hY] at e1 lo hi rst
  obtain ⟨D, hD⟩ : ∃ D : Int, (2 : Int) ^ s = D := ⟨_, rfl⟩
  obtain ⟨E, hE⟩ : ∃ D : Int, (2 : Int) ^ stp0 w f = D := ⟨_, rfl⟩
  have E0 : 0 < E := by rw [← hE]; exact p2 _
  have D0 : 0 < D := by rw [← hD]; exact p2 _
  rw [hE] at h2 ⊢
  rw [Nat.two_mul, Int.pow_add, hE] at e1
  rw [Int.pow_add, hD] at e2
  rw [hD] at l1 l2
  obtain ⟨P, hP⟩ : ∃ P : Int, 2 ^ k * m = P := ⟨_, rfl⟩
  have P0 : 0 < P := by rw [← hP]; exact Int.mul_pos (p2 _) m0
  obtain ⟨Q, hQ⟩ : ∃ Q : Int, A * E = Q := ⟨_, rfl⟩
  rw [hQ]
  have hW : X * P = D * D * E := by rw [← hP, ← Int.mul_assoc, ← e2, ← h2]; grind
  have hT : Y * P = Q * E := by rw [← hP, ← Int.mul_assoc, ← e1, ← hQ, ← h1]; grind
  have cl (a y : Int) : a * X ≤ y * Y ↔ a * (D * D) ≤ y * Q := by
    have q1 : a * X * P = a * (D * D) * E := by rw [Int.mul_assoc, hW]; grind
    have q2 : y * Y * P = y * Q * E := by rw [Int.mul_assoc, hT]; grind
    constructor
    · intro h
      have := Int.mul_le_mul_of_nonneg_right h (Int.le_of_lt P0)
      rw [q1, q2] at this
      exact Int.le_of_mul_le_mul_right this E0
    · intro h
      have := Int.mul_le_mul_of_nonneg_right h (Int.le_of_lt E0)
      rw [← q1, ← q2] at this
      exact Int.le_of_mul_le_mul_right this P0
  have cg (a y : Int) : y * Y ≤ a * X ↔ y * Q ≤ a * (D * D) := by
    have q1 : a * X * P = a * (D * D) * E := by rw [Int.mul_assoc, hW]; grind
    have q2 : y * Y * P = y * Q * E := by rw [Int.mul_assoc, hT]; grind
    constructor
    · intro h
      have := Int.mul_le_mul_of_nonneg_right h (Int.le_of_lt P0)
      rw [q1, q2] at this
      exact Int.le_of_mul_le_mul_right this E0
    · intro h
      have := Int.mul_le_mul_of_nonneg_right h (Int.le_of_lt E0)
      rw [← q1, ← q2] at this
      exact Int.le_of_mul_le_mul_right this P0
  have s1 : u * D * (u * D) = u * u * (D * D) := by grind
  have s2 : (u + 1) * D * ((u + 1) * D) = (u + 1) * (u + 1) * (D * D) := by grind
  have s3 : (u * D + (u + 1) * D) * (u * D + (u + 1) * D) = (2 * u + 1) * (2 * u + 1) * (D * D) := by grind
  have a1 := cl (u * u) 1
  have a2 := cg (u * u) 1
  have b1 := cg ((u + 1) * (u + 1)) 1
  have m1 := cl ((2 * u + 1) * (2 * u + 1)) 4
  have m2 := cg ((2 * u + 1) * (2 * u + 1)) 4
  simp only [Int.one_mul] at a1 a2 b1
  refine ⟨by have := R.u0; omega, ?_, ?_, ?_⟩
  · rw [l1, s1]; exact a1.mp lo
  · rw [l2, s2]
    rcases Int.lt_or_le Q ((u + 1) * (u + 1) * (D * D)) with z | z
    · exact z
    · rcases Int.lt_or_le Y ((u + 1) * (u + 1) * X) with y | y
      · exact absurd ((cl ((u + 1) * (u + 1)) 1).mpr (by rw [Int.one_mul]; exact z)) (by rw [Int.one_mul]; omega)
      · omega
  · rw [l1, l2, s1, s3, rst]
    unfold rr rs
    have c1 : u * u * X = Y ↔ 2 * (Q - u * u * (D * D)) = 0 := by
      constructor
      · intro h; have := a1.mp (by omega); have := a2.mp (by omega); omega
      · intro h; have := a1.mpr (by omega); have := a2.mpr (by omega); omega
    have c2 : 4 * Y < (2 * u + 1) * (2 * u + 1) * X ↔ 2 * (2 * (Q - u * u * (D * D))) < (2 * u + 1) * (2 * u + 1) * (D * D) - 4 * (u * u * (D * D)) := by
      constructor
      · intro h
        rcases Int.lt_or_le (4 * Q) ((2 * u + 1) * (2 * u + 1) * (D * D)) with z | z
        · omega
        · have := m1.mpr z; omega
      · intro h
        rcases Int.lt_or_le (4 * Y) ((2 * u + 1) * (2 * u + 1) * X) with z | z
        · exact z
        · have := m1.mp z; omega
    have c3 : 4 * Y = (2 * u + 1) * (2 * u + 1) * X ↔ 2 * (2 * (Q - u * u * (D * D))) = (2 * u + 1) * (2 * u + 1) * (D * D) - 4 * (u * u * (D * D)) := by
      constructor
      · intro h; have := m1.mp (by omega); have := m2.mp (by omega); omega
      · intro h; have := m1.mpr (by omega); have := m2.mpr (by omega); omega
    by_cases z1 : u * u * X = Y
    · rw [if_pos z1, if_pos (c1.mp z1)]
    · rw [if_neg z1, if_neg (fun q => z1 (c1.mpr q))]
      by_cases z2 : 4 * Y < (2 * u + 1) * (2 * u + 1) * X
      · rw [if_pos z2, if_pos (c2.mp z2)]
      · rw [if_neg z2, if_neg (fun q => z2 (c2.mpr q))]
        by_cases z3 : 4 * Y = (2 * u + 1) * (2 * u + 1) * X
        · rw [if_pos z3, if_pos (c3.mp z3)]
        · rw [if_neg z3, if_neg (fun q => z3 (c3.mpr q))]
theorem RFr.rng {w f : Nat} {a c r : Int} (F : RFr f (lv f a * 2 ^ stp0 w f) c r) (hw2 : 2 ≤ w) (a0 : 0 < a) (a1 : a < 2 ^ (w + f) - 2 ^ f) : 1 ≤ c ∧ c + 1 < 2 ^ (w + f) - 2 ^ f := by
  have E3 := end_3 (f := f) hw2
  have pf := p2 f
  have pS := p2 (stp0 w f)
  have la : 1 ≤ lv f a := by have := lv_lt (f := f) (a := 0) (b := a) (by decide) a0; rw [lv_zero] at this; omega
  have Q1 : 1 ≤ lv f a * 2 ^ stp0 w f := by
    have : 1 * 1 ≤ lv f a * 2 ^ stp0 w f := Int.mul_le_mul la (by omega) (by decide) (by omega)
    omega
  have l1 : lv f 1 = 1 := by
    have := lv_cut (f := f) (s := 0) (u := 1) (by decide) (by have := pow_s f; omega) (.inl rfl)
    simpa using this
  constructor
  · rcases Int.lt_or_le 0 c with z | z
    · omega
    · exfalso
      have e : c = 0 := by have := F.c0; omega
      have h := F.hi
      rw [e, Int.zero_add, l1] at h
      omega
  · rcases Int.lt_or_le (c + 1) (2 ^ (w + f) - 2 ^ f) with z | z
    · exact z
    · exfalso
      have ll := lv_last (w := w) (by omega) f
      have W2 : (2 : Int) ^ w = 2 * 2 ^ (w - 1) := by rw [← pow_s, Nat.sub_add_cancel (by omega)]
      have W4 : (2 : Int) ≤ 2 ^ (w - 1) := by have := two_le_pow (show 1 ≤ w - 1 by omega); simpa using this
      obtain ⟨g, hg⟩ : ∃ g : Nat, ((2 : Int) ^ w - 2).toNat = g + 1 := ⟨((2 : Int) ^ w - 2).toNat - 1, by omega⟩
      have es := stp_eq (f := f) hw2
      have gs : stp0 w f ≤ f + g - 1 := by omega
      rw [hg] at ll
      have half : lv f (2 ^ (w + f) - 2 ^ f - 1) = (2 ^ (f + 1) - 1) * 2 ^ g := by
        have pg := pow_s f
        have e := lv_cut (f := f) (s := g) (u := 2 ^ (f + 1) - 1) (by omega) (by omega) (.inr (by omega))
        rw [← e]
        congr 1
        have : ((g : Nat) : Int) = 2 ^ w - 3 := by omega
        rw [this, Int.sub_mul, ← Int.pow_add]
        omega
      have lo2 := lv_le (f := f) (a := 2 ^ (w + f) - 2 ^ f - 1) (b := c) (by omega) (by omega)
      have pg := pow_s f
      have h1 : 2 ^ f * 2 ^ g ≤ lv f (2 ^ (w + f) - 2 ^ f - 1) := by rw [half]; exact Int.mul_le_mul_of_nonneg_right (by omega) (Int.le_of_lt (p2 g))
      have h2 := sq_le (Int.le_of_lt (Int.mul_pos pf (p2 g))) (Int.le_trans h1 lo2)
      have h3 := F.lo
      have h4 : lv f a < 2 ^ f * 2 ^ (g + 1) := by rw [← ll]; exact lv_lt (Int.le_of_lt a0) a1
      have h5 : lv f a * 2 ^ stp0 w f < 2 ^ f * 2 ^ (g + 1) * 2 ^ stp0 w f := Int.mul_lt_mul_of_pos_right h4 pS
      rw [← Int.pow_add, ← Int.pow_add] at h5
      rw [← Int.pow_add, ← Int.pow_add] at h2
      have h6 := two_le_pow (show f + (g + 1) + stp0 w f ≤ f + g + (f + g) by omega)
      omega
end Pg

namespace Pg
open PySem L2 Rm
open PySem.Builtin.Int (intBits)
theorem RFr.exists (f : Nat) {Q : Int} (hQ : 0 ≤ Q) : ∃ p : Int × Int, RFr f Q p.1 p.2 := by
  obtain ⟨s, s0, s1, s2⟩ := root_ex Q hQ
  obtain ⟨c, c0, h1, h2⟩ := lv_floor f s0
  refine ⟨(c, rs (2 * (Q - lv f c * lv f c)) ((lv f c + lv f (c + 1)) * (lv f c + lv f (c + 1)) - 4 * (lv f c * lv f c))), c0, ?_, ?_, rfl⟩
  · have := sq_le (lv_nn c0) h1
    show lv f c * lv f c ≤ Q
    omega
  · have := sq_le (a := s + 1) (by omega) (show s + 1 ≤ lv f (c + 1) by omega)
    show Q < lv f (c + 1) * lv f (c + 1)
    omega
open Classical in
noncomputable def rtOf (f : Nat) (Q : Int) : Int × Int := if h : ∃ p : Int × Int, RFr f Q p.1 p.2 then h.choose else (0, 0)
theorem rtOf_ok (f : Nat) {Q : Int} (hQ : 0 ≤ Q) : RFr f Q (rtOf f Q).1 (rtOf f Q).2 := by
  have h := RFr.exists f hQ
  unfold rtOf
  rw [dif_pos h]
  exact h.choose_spec
theorem RFr.of {f : Nat} {Q c r : Int} (F : RFr f Q c r) : rtOf f Q = (c, r) := by
  have G := rtOf_ok f (Q := Q) (Int.le_trans (Int.mul_nonneg (lv_nn F.c0) (lv_nn F.c0)) F.lo)
  obtain ⟨e1, e2⟩ := G.same F
  exact Prod.ext e1 e2
noncomputable def rtP (w f k : Nat) (a : Int) : Int × Int :=
  if 2 ^ (w + f) - 2 ^ f < a % 2 ^ (w + f) then (2 ^ (w + f) - 2 ^ f + 2 ^ (f - 1), 0)
  else if a % 2 ^ (w + f) = 0 then (a, 0)
  else if 1 ≤ a / 2 ^ (w + f) then (2 ^ (w + f) - 2 ^ f + 2 ^ (f - 1), 16)
  else if a % 2 ^ (w + f) = 2 ^ (w + f) - 2 ^ f then (a, 0)
  else stl w f k 0 (rtOf f (lv f (a % 2 ^ (w + f)) * 2 ^ stp0 w f)).1 (rtOf f (lv f (a % 2 ^ (w + f)) * 2 ^ stp0 w f)).2
section
variable (w f : Nat) (hw2 : 2 ≤ w) (hw : w ≤ 15) (hf1 : 1 ≤ f) (hf : f ≤ 112) (k : Nat) (hk : k < 5) {a : Int} (a0 : 0 ≤ a) (a1 : a < 2 ^ (w + f + 1))
include hw2 hw hf1 hf hk a0 a1
theorem s_rtP (n : Nat) (h : HP) : run p.T p.fs (n + 8) 44 [.tup [.int w, .int f], .str (wayN k), .int a] h = .ok (.tup [.int (rtP w f k a).1, .int (rtP w f k a).2]) h := by
  have E3 := end_3 (f := f) hw2
  have pf := p2 f
  have q0 := dn (w + f) a0
  have q1 : a / 2 ^ (w + f) < 2 ^ 1 := div_lt_pow (m := 1) (by rw [Nat.add_comm 1]; exact a1)
  have kk := s_kinds_of w f (by omega) (by omega) (n + 3) h k hk [a] (by simp) (by
    intro x hx
    have : x = a := by simpa using hx
    rw [this]; exact ⟨a0, a1⟩)
  simp only [List.map_cons, List.map_nil] at kk
  have nn := s_nonum w f hw hw2 hf1 hf (n + 5) h
  have gw := s_gone w f hw2 hw hf1 hf (n + 4) h
  have pa := s_parted w f (by omega) (by omega) (n + 5) h a0 a1
  have ke := kq_end (w := w) (by omega) f a h
  have kz := kq_zero hw2 f a h
  have kn : eqM h (.str (kindS w f a)) (.str "none") = some (noneB w f a) := by
    rw [eqM_ss h (kindS_ok w f a) (by decide +kernel)]
    have e := kindS_none (w := w) (by omega) f a
    first | exact congrArg some e | (congr 1)
  rw [run_eq (F := fn44) rfl rfl]
  unfold rtP
  by_cases z : 2 ^ (w + f) - 2 ^ f < a % 2 ^ (w + f)
  · have nb : noneB w f a = true := by unfold noneB; simpa using z
    rw [nb] at kn
    rw [if_pos z]
    simp [fn44, kk, kn, nn]
  have nb : noneB w f a = false := by unfold noneB; simpa using z
  rw [nb] at kn
  rw [if_neg z]
  by_cases z0 : a % 2 ^ (w + f) = 0
  · rw [if_pos z0]
    simp [fn44, kk, kn, kz, z0]
  rw [if_neg z0]
  by_cases z1 : 1 ≤ a / 2 ^ (w + f)
  · rw [if_pos z1]
    have e1 : a / 2 ^ (w + f) = 1 := by omega
    simp [fn44, kk, kn, kz, z0, pa, e1, gw]
  rw [if_neg z1]
  have e1 : a / 2 ^ (w + f) = 0 := by omega
  by_cases z2 : a % 2 ^ (w + f) = 2 ^ (w + f) - 2 ^ f
  · rw [if_pos z2]
    have n0 : ¬ 2 ^ (w + f) - (2 : Int) ^ f = 0 := by omega
    simp [fn44, kk, kn, kz, ke, z2, n0, pa, e1]
  rw [if_neg z2]
  have nla : ¬ fdOf w f a = 2 ^ w - 1 := fun q => by have := (fd_last (w := w) (f := f) (b := a) (by omega)).mpr q; omega
  have fa := s_fraction w f (by omega) (by omega) (by omega) (n + 3) h a0 a1 nla
  obtain ⟨m, m0, m1, m2⟩ := lv_wh w f a hw2
  obtain ⟨u0, d0, ub, db, _⟩ := fr_sizes w f hw2 hw hf1 hf a0 a1
  obtain ⟨u, hu⟩ : ∃ t, whOf w f a * 2 ^ (pwOf w f a).toNat = t := ⟨_, rfl⟩
  obtain ⟨d, hd⟩ : ∃ d, (2 : Int) ^ (-pwOf w f a).toNat = d := ⟨_, rfl⟩
  rw [hu, hd] at fa
  rw [hu] at m1 u0 ub
  rw [hd] at m2 d0 db
  obtain ⟨x, s, r, R, er⟩ := s_rootcut w f hw2 (by omega) (by omega) (n + 3) h u0 d0 (ib_mono ub (by decide)) (ib_mono db (by decide))
  have F := R.rfr hw2 m0 m1 m2
  rw [F.of]
  have st := s_settled w f hw2 (by omega) hf1 (by omega) (n + 3) h k hk (s := 0) (.inl rfl) (u := x) (d := s) (r := r) R.us R.u0 (by have := R.sb; omega)
  rw [Int.zero_mul, Int.zero_add] at st
  simp [fn44, kk, kn, kz, ke, z0, z2, pa, e1, fa, er, st]
end
end Pg

namespace Pg
open PySem L2 Rm
open PySem.Builtin.Int (intBits)
/-! a number of one size changed to another -/
section
variable (w f w' f' : Nat) (hw2 : 2 ≤ w) (hw : w ≤ 15) (hf1 : 1 ≤ f) (hf : f ≤ 112) (hw2' : 2 ≤ w') (hw' : w' ≤ 15) (hf1' : 1 ≤ f') (hf' : f' ≤ 112) (n : Nat) (h : HP) (k : Nat) (hk : k < 5) {b : Int} (b0 : 0 ≤ b) (b1 : b < 2 ^ (w + f + 1))
include hw2 hw hf1 hf hw2' hw' hf1' hf' hk b0 b1
theorem s_changed_none (hx : 2 ^ (w + f) - 2 ^ f < b % 2 ^ (w + f)) :
    run p.T p.fs (n + 4) 30 [.tup [.int w, .int f], .tup [.int w', .int f'], .str (wayN k), .int b] h = .ok (.tup [.int (2 ^ (w' + f') - 2 ^ f' + 2 ^ (f' - 1)), .int 0]) h := by
  rw [run_eq (F := fn30) rfl rfl]
  have wo := s_way_of (n + 1) h k hk
  have ks := s_kind w f (by omega) (by omega) n h b0 b1
  have nn := s_nonum w' f' hw' hw2' hf1' hf' (n + 1) h
  have fl := (fd_last (w := w) (f := f) (b := b) (by omega)).mp (by omega)
  have fg : ¬ fgOf f b = 0 := fun z => by have := (fd_end (w := w) (f := f) (b := b) (by omega)).mpr ⟨fl, z⟩; omega
  have kk : kindS w f b = "none" := by simp [kindS, fl, fg]
  rw [kk] at ks
  simp [fn30, wo, ks, nn]
theorem s_changed_end (hx : b % 2 ^ (w + f) = 2 ^ (w + f) - 2 ^ f) :
    run p.T p.fs (n + 4) 30 [.tup [.int w, .int f], .tup [.int w', .int f'], .str (wayN k), .int b] h = .ok (.tup [.int (b / 2 ^ (w + f) * 2 ^ (w' + f') + (2 ^ (w' + f') - 2 ^ f')), .int 0]) h := by
  rw [run_eq (F := fn30) rfl rfl]
  have wo := s_way_of (n + 1) h k hk
  have ks := s_kind w f (by omega) (by omega) n h b0 b1
  obtain ⟨fl, fg⟩ := (fd_end (w := w) (f := f) (b := b) (by omega)).mp hx
  have kk : kindS w f b = "endless" := by simp [kindS, fl, fg]
  rw [kk] at ks
  have pp := s_parted w f (by omega) (by omega) (n + 1) h b0 b1
  have sb := s_sign_bit' w' f' (by omega) (by omega) (n + 2) h
  have en := s_endless w' f' (by omega) (by omega) (n + 2) h
  have eT : (2 : Int) ^ (w + f + 1) = 2 * 2 ^ (w + f) := pow_s _
  have sg0 : 0 ≤ b / 2 ^ (w + f) := dn _ b0
  have sg1 : b / 2 ^ (w + f) < 2 ^ 1 := div_lt_pow (m := 1) (by rw [Nat.add_comm 1]; exact b1)
  have ms : mulB (b / 2 ^ (w + f)) (2 ^ (w' + f')) = true := mulB_left (ib_mono (ib_lt sg0 sg1) (by decide))
  simp [fn30, wo, ks, pp, sb, en, ms]
theorem s_changed_fin (hx : b % 2 ^ (w + f) < 2 ^ (w + f) - 2 ^ f) : ∃ c r : Int, CodeP w' f' (whOf w f b * 2 ^ (pwOf w f b).toNat) (2 ^ (-pwOf w f b).toNat) c r ∧
    run p.T p.fs (n + 6) 30 [.tup [.int w, .int f], .tup [.int w', .int f'], .str (wayN k), .int b] h = .ok (.tup [.int (b / 2 ^ (w + f) * 2 ^ (w' + f') + (stl w' f' k (b / 2 ^ (w + f)) c r).1), .int (stl w' f' k (b / 2 ^ (w + f)) c r).2]) h := by
  have sg0 : 0 ≤ b / 2 ^ (w + f) := dn _ b0
  have sg1 : b / 2 ^ (w + f) < 2 ^ 1 := div_lt_pow (m := 1) (by rw [Nat.add_comm 1]; exact b1)
  have hs : b / 2 ^ (w + f) = 0 ∨ b / 2 ^ (w + f) = 1 := by omega
  have wb := wh_b w f b
  have pb := pw_bd w f b (by omega) (by omega) (by omega)
  have ls := lo_stp (f := f) hw2
  have ss := stp_s hw hf
  have a := fd_b w f b
  have w15 := two_le_pow hw
  have e15 : (2 : Int) ^ 15 = 32768 := rfl
  have pu : pwOf w f b ≤ 40000 ∧ -40000 ≤ pwOf w f b := by unfold pwOf; split <;> omega
  have pp := p2 (pwOf w f b).toNat
  have tb : intBits (whOf w f b * 2 ^ (pwOf w f b).toNat) ≤ 1000000 := ib_mono (intBits_mul_le (ib_lt wb.1 wb.2) (ib_pow2 _)) (by omega)
  have t0 : 0 ≤ whOf w f b * 2 ^ (pwOf w f b).toNat := Int.mul_nonneg wb.1 (by omega)
  have bb : intBits ((2 : Int) ^ (-pwOf w f b).toNat) ≤ 1000000 := ib_mono (ib_pow2 _) (by omega)
  have bp := p2 (-pwOf w f b).toNat
  obtain ⟨c, r, C, er⟩ := s_rounded w' f' hw2' (by omega) hf1' (by omega) n h k hk hs t0 (by omega) tb bb
  refine ⟨c, r, C, ?_⟩
  rw [run_eq (F := fn30) rfl rfl]
  have wo := s_way_of (n + 3) h k hk
  have ks := s_kind w f (by omega) (by omega) (n + 2) h b0 b1
  have nl : ¬ fdOf w f b = 2 ^ w - 1 := fun z => by have := (fd_last (w := w) (f := f) (b := b) (by omega)).mpr z; omega
  have fr := s_fraction w f (by omega) (by omega) (by omega) (n + 1) h b0 b1 nl
  have k1 : eqM h (.str (kindS w f b)) (.str "none") = some false := by
    unfold kindS; rw [if_neg nl]; split
    · simp
    · split <;> simp
  have k2 : eqM h (.str (kindS w f b)) (.str "endless") = some false := by
    unfold kindS; rw [if_neg nl]; split
    · simp
    · split <;> simp
  simp [fn30, wo, ks, k1, k2, fr, er]
end
end Pg

namespace Pg
open PySem L2 Rm
open PySem.Builtin.Int (intBits)
theorem s_changed_fr (w f w' f' : Nat) (hw2 : 2 ≤ w) (hw : w ≤ 15) (hf1 : 1 ≤ f) (hf : f ≤ 112) (hw2' : 2 ≤ w') (hw' : w' ≤ 15) (hf1' : 1 ≤ f') (hf' : f' ≤ 112) (n : Nat) (h : HP) (k : Nat) (hk : k < 5) {b : Int} (b0 : 0 ≤ b) (b1 : b < 2 ^ (w + f + 1)) (hx : b % 2 ^ (w + f) < 2 ^ (w + f) - 2 ^ f) :
    ∃ c r : Int, Fr f' (lv f (b % 2 ^ (w + f)) * 2 ^ stp0 w' f') (2 ^ stp0 w f) c r ∧
    run p.T p.fs (n + 6) 30 [.tup [.int w, .int f], .tup [.int w', .int f'], .str (wayN k), .int b] h = .ok (.tup [.int (b / 2 ^ (w + f) * 2 ^ (w' + f') + (stl w' f' k (b / 2 ^ (w + f)) c r).1), .int (stl w' f' k (b / 2 ^ (w + f)) c r).2]) h := by
  obtain ⟨c, r, C, ec⟩ := s_changed_fin w f w' f' hw2 hw hf1 hf hw2' hw' hf1' hf' n h k hk b0 b1 hx
  refine ⟨c, r, ?_, ec⟩
  obtain ⟨m, m0, m1, m2⟩ := lv_wh w f b hw2
  have F := (C.fr (p2 _)).mul m0
  have e1 : whOf w f b * 2 ^ (pwOf w f b).toNat * 2 ^ stp0 w' f' * m = lv f (b % 2 ^ (w + f)) * 2 ^ stp0 w' f' := by rw [← m1]; grind
  rw [e1, m2] at F
  exact F
end Pg

namespace Pg
open PySem L2 Rm
open PySem.Builtin.Int (intBits)
theorem stl_rng {w f k : Nat} (hw2 : 2 ≤ w) (hf1 : 1 ≤ f) {s c r : Int} (c0 : 0 ≤ c) (r0 : 0 ≤ r) : 0 ≤ (stl w f k s c r).1 ∧ (stl w f k s c r).1 ≤ 2 ^ (w + f) - 2 ^ f ∧ 0 ≤ (stl w f k s c r).2 ∧ (stl w f k s c r).2 ≤ 5 := by
  have E3 := end_3 (f := f) hw2
  have pf := p2 f
  unfold stl
  by_cases h1 : 2 ^ (w + f) - 2 ^ f ≤ c
  · rw [if_pos h1]
    refine ⟨?_, ?_, by dsimp only; omega, by dsimp only; omega⟩
    · dsimp only; split <;> omega
    · dsimp only; split <;> omega
  · rw [if_neg h1]
    by_cases h2 : r = 0
    · rw [if_pos h2]; exact ⟨c0, by dsimp only; omega, by dsimp only; omega, by dsimp only; omega⟩
    · rw [if_neg h2]
      refine ⟨?_, ?_, ?_, ?_⟩
      · dsimp only; split <;> omega
      · dsimp only; split <;> omega
      · dsimp only; split
        · omega
        · split <;> omega
      · dsimp only; split
        · omega
        · split <;> omega
end Pg

namespace Pg
open PySem L2 Rm
open PySem.Builtin.Int (intBits)
theorem rdP_rng {w f k : Nat} (hw2 : 2 ≤ w) (hf1 : 1 ≤ f) {X B s : Int} (hB : 0 < B) (s01 : s = 0 ∨ s = 1) : 0 ≤ (rdP w f k X B s).1 ∧ (rdP w f k X B s).1 < 2 ^ (w + f + 1) := by
  have E3 := end_3 (f := f) hw2
  have pf := p2 f
  have eT := pow_s (w + f)
  unfold rdP
  split
  · rcases s01 with y | y <;> rw [y] <;> dsimp only <;> omega
  · have F := frOf_ok (f := f) (V := (X.natAbs : Int)) (B := B) (by omega) hB
    have := stl_rng (w := w) (k := k) (s := if X < 0 then 1 else 0) hw2 hf1 F.c0 F.nn
    dsimp only
    by_cases n : X < 0
    · rw [if_pos n] at this ⊢; omega
    · rw [if_neg n] at this ⊢; omega
end Pg

namespace Pg
open PySem L2 Rm
open PySem.Builtin.Int (intBits)
/-! rows of finite numbers: their sums -/
abbrev okF (w f : Nat) (b : Int) : Prop := 0 ≤ b ∧ b < 2 ^ (w + f + 1) ∧ b % 2 ^ (w + f) < 2 ^ (w + f) - 2 ^ f
theorem row_rel {w f N : Nat} {K : Int} {pr : Int → Tm3} (hp : ∀ b, okF w f b → ∃ t : T3, pr b = .fin t ∧ t.1 = b / 2 ^ (w + f) ∧ (1 - 2 * t.1) * (t.2.1 * 2 ^ (t.2.2 + N).toNat) = sgl w f b * K) : ∀ row : List Int, (∀ b ∈ row, okF w f b) →
    hasWr (row.map pr) = false ∧ ens (row.map pr) = [] ∧ (fins (row.map pr)).map (·.1) = row.map (· / 2 ^ (w + f)) ∧ exN N (fins (row.map pr)) = (row.map (sgl w f)).sum * K
  | [], _ => ⟨rfl, rfl, rfl, by show (0 : Int) = 0 * K; rw [Int.zero_mul]⟩
  | b :: row, h => by
    obtain ⟨i1, i2, i3, i4⟩ := row_rel hp row fun u hu => h u (List.mem_cons_of_mem _ hu)
    obtain ⟨t, e, e1, e2⟩ := hp b (h b (List.mem_cons_self ..))
    rw [List.map_cons, e]
    refine ⟨i1, i2, ?_, ?_⟩
    · have : fins (.fin t :: row.map pr) = t :: fins (row.map pr) := rfl
      rw [this, List.map_cons, List.map_cons, i3, e1]
    · have : exN N (fins (.fin t :: row.map pr)) = (1 - 2 * t.1) * (t.2.1 * 2 ^ (t.2.2 + N).toNat) + exN N (fins (row.map pr)) := rfl
      rw [this, e2, i4, List.map_cons, List.sum_cons, Int.add_mul]
theorem sumP_fin {w f k N : Nat} {ts : List Tm3} (h1 : hasWr ts = false) (h2 : ens ts = []) : sumP w f k N ts = rdP w f k (exN N (fins ts)) (2 ^ (N - stp0 w f)) (noughtS k ((fins ts).map (·.1))) := by
  have hsm : sumP w f k N ts = if hasWr ts = true ∨ (0 ∈ ens ts ∧ 1 ∈ ens ts) then (noN w f, 16)
      else match ens ts with
        | s :: _ => (s * 2 ^ (w + f) + (2 ^ (w + f) - 2 ^ f), 0)
        | [] => rdP w f k (exN N (fins ts)) (2 ^ (N - stp0 w f)) (noughtS k ((fins ts).map (·.1))) := rfl
  rw [hsm, h1, h2, if_neg (by simp)]
theorem okF_none {w f : Nat} {b : Int} (h : okF w f b) : noneB w f b = false := by
  unfold noneB; have := h.2.2; simp; omega
theorem any_none {w f : Nat} {bs : List Int} (h : ∀ b ∈ bs, okF w f b) : ¬ bs.any (noneB w f) = true := by
  intro q
  obtain ⟨b, hb, e⟩ := List.any_eq_true.mp q
  rw [okF_none (h b hb)] at e; cases e
theorem tm_fin {w f : Nat} (hw2 : 2 ≤ w) {b : Int} (h : okF w f b) : ∃ t : T3, tmOf w f b = .fin t ∧ t.1 = b / 2 ^ (w + f) ∧ (1 - 2 * t.1) * (t.2.1 * 2 ^ (t.2.2 + (stp0 w f : Nat)).toNat) = sgl w f b * 1 := by
  have ne : ¬ b % 2 ^ (w + f) = 2 ^ (w + f) - 2 ^ f := by have := h.2.2; omega
  refine ⟨(b / 2 ^ (w + f), whOf w f b, pwOf w f b), by unfold tmOf; rw [if_neg ne], rfl, ?_⟩
  have := exN_sgl (f := f) hw2 b 0
  rw [Nat.add_zero, Int.pow_zero] at this
  exact this
theorem sum_bits {α : Type} {g : α → Int} {B : Nat} : ∀ {row : List α}, (∀ b ∈ row, intBits (g b) ≤ B) → intBits ((row.map g).sum) ≤ B + row.length
  | [], _ => by show intBits 0 ≤ _; exact Nat.le_trans (show intBits 0 ≤ 0 by decide) (Nat.zero_le _)
  | b :: row, h => by
    have ih := sum_bits (g := g) (row := row) fun u hu => h u (List.mem_cons_of_mem _ hu)
    rw [List.map_cons, List.sum_cons, List.length_cons]
    have hb := h b (List.mem_cons_self ..)
    have h1 : intBits (g b) ≤ B + row.length := by omega
    have := intBits_add_le h1 ih
    omega
end Pg

namespace Pg
open PySem L2 Rm
open PySem.Builtin.Int (intBits)
/-! products and sums of finite numbers (needs mulp, rowfinA) -/
theorem sgl_pm {w f : Nat} {b : Int} (hb : okF w f b) : (sgl w f b = lv f (b % 2 ^ (w + f)) ∧ b / 2 ^ (w + f) = 0) ∨ (sgl w f b = -lv f (b % 2 ^ (w + f)) ∧ b / 2 ^ (w + f) = 1) := by
  have q0 := dn (w + f) hb.1
  have q1 : b / 2 ^ (w + f) < 2 ^ 1 := div_lt_pow (m := 1) (by rw [Nat.add_comm 1]; exact hb.2.1)
  unfold sgl
  rcases (show b / 2 ^ (w + f) = 0 ∨ b / 2 ^ (w + f) = 1 by omega) with y | y <;> rw [y]
  · exact .inl ⟨by rw [Int.mul_zero, Int.sub_zero, Int.one_mul], rfl⟩
  · exact .inr ⟨by rw [show (1 - 2 * (1 : Int)) = -1 from rfl, Int.neg_one_mul], rfl⟩
theorem xor_sg {a b : Int} (ha : a = 0 ∨ a = 1) (hb : b = 0 ∨ b = 1) : (1 - 2 * Builtin.bitXor a b) = (1 - 2 * a) * (1 - 2 * b) := by
  rcases ha with x | x <;> rcases hb with y | y <;> rw [x, y] <;> decide
def wt (w f : Nat) (b : Int) : T3 := (b / 2 ^ (w + f), whOf w f b, pwOf w f b)
theorem tmOf_fin {w f : Nat} {a : Int} (ha : okF w f a) : tmOf w f a = .fin (wt w f a) := by
  unfold tmOf; rw [if_neg (by have := ha.2.2; omega)]; rfl
def tim (t u : T3) : T3 := (Builtin.bitXor t.1 u.1, t.2.1 * u.2.1, t.2.2 + u.2.2)
theorem exN_tim {w f : Nat} (hw2 : 2 ≤ w) {a b : Int} (ha : okF w f a) (hb : okF w f b) (ts : List T3) : exN (stp0 w f + stp0 w f) (tim (wt w f a) (wt w f b) :: ts) = sgl w f a * sgl w f b + exN (stp0 w f + stp0 w f) ts := by
  have e : exN (stp0 w f + stp0 w f) (tim (wt w f a) (wt w f b) :: ts) = (1 - 2 * Builtin.bitXor (a / 2 ^ (w + f)) (b / 2 ^ (w + f))) * (whOf w f a * whOf w f b * 2 ^ (pwOf w f a + pwOf w f b + (stp0 w f + stp0 w f : Nat)).toNat) + exN (stp0 w f + stp0 w f) ts := rfl
  have qa := sgl_pm ha
  have qb := sgl_pm hb
  rw [e, exN_prod hw2, xor_sg (by omega) (by omega)]
  unfold sgl
  congr 1
  grind
theorem mulP_fin {w f k : Nat} (hw2 : 2 ≤ w) {a b : Int} (ha : okF w f a) (hb : okF w f b) : mulP w f k a b = rdP w f k (sgl w f a * sgl w f b) (2 ^ stp0 w f) (Builtin.bitXor (a / 2 ^ (w + f)) (b / 2 ^ (w + f))) := by
  unfold mulP
  rw [if_neg (fun q => by rw [okF_none ha, okF_none hb] at q; rcases q with y | y <;> cases y), tmOf_fin ha, tmOf_fin hb]
  have e : prT (.fin (wt w f a)) (.fin (wt w f b)) = .fin (tim (wt w f a) (wt w f b)) := rfl
  rw [e, sumP_fin rfl rfl]
  have e2 : fins [.fin (tim (wt w f a) (wt w f b))] = [tim (wt w f a) (wt w f b)] := rfl
  have e3 : exN (stp0 w f + stp0 w f) [] = 0 := rfl
  rw [e2, exN_tim hw2 ha hb, e3, Int.add_zero, Nat.add_sub_cancel]
  congr 1
  have qa := sgl_pm ha
  have qb := sgl_pm hb
  have x := xor_01 (a := a / 2 ^ (w + f)) (b := b / 2 ^ (w + f)) (by omega) (by omega)
  show (if 0 ∈ [Builtin.bitXor (a / 2 ^ (w + f)) (b / 2 ^ (w + f))] ∧ 1 ∈ [Builtin.bitXor (a / 2 ^ (w + f)) (b / 2 ^ (w + f))] then (if k = 4 then 1 else 0) else Builtin.bitXor (a / 2 ^ (w + f)) (b / 2 ^ (w + f))) = _
  rw [if_neg]
  rintro ⟨p, q⟩
  have p := List.mem_singleton.mp p
  have q := List.mem_singleton.mp q
  omega
end Pg

namespace Pg
open PySem L2 Rm
open PySem.Builtin.Int (intBits)
/-! the law's own addition -/
theorem addP_fin {w f k : Nat} (hw2 : 2 ≤ w) {a b : Int} (ha : okF w f a) (hb : okF w f b) : addP w f k a b = rdP w f k (sgl w f a + sgl w f b) 1 (noughtS k [a / 2 ^ (w + f), b / 2 ^ (w + f)]) := by
  have ok : ∀ x ∈ [a, b], okF w f x := by
    intro x hx
    have : x = a ∨ x = b := by simpa using hx
    rcases this with y | y <;> rw [y] <;> assumption
  obtain ⟨r1, r2, r3, r4⟩ := row_rel (N := stp0 w f) (K := 1) (pr := tmOf w f) (fun b hb => tm_fin hw2 hb) [a, b] ok
  have e1 : [a, b].map (tmOf w f) = [tmOf w f a, tmOf w f b] := rfl
  have e2 : ([a, b].map (sgl w f)).sum = sgl w f a + sgl w f b := by simp
  have e3 : [a, b].map (· / 2 ^ (w + f)) = [a / 2 ^ (w + f), b / 2 ^ (w + f)] := rfl
  rw [e1] at r1 r2 r3 r4
  rw [e3] at r3
  rw [e2] at r4
  unfold addP
  rw [if_neg (fun q => by rw [okF_none ha, okF_none hb] at q; rcases q with y | y <;> cases y), sumP_fin r1 r2, r3, r4, Int.mul_one, Nat.sub_self, Int.pow_zero]
theorem nought2 (k : Nat) {a b : Int} (ha : a = 0 ∨ a = 1) (hb : b = 0 ∨ b = 1) : noughtS k [a, b] = if a = b then a else if k = 4 then 1 else 0 := by
  have e : noughtS k [a, b] = if (0 : Int) ∈ [a, b] ∧ (1 : Int) ∈ [a, b] then (if k = 4 then 1 else 0) else a := rfl
  rw [e]
  rcases ha with y | y <;> rcases hb with x | x <;> rw [y, x] <;> simp
section
variable (w f : Nat) (hw2 : 2 ≤ w) (hw : w ≤ 15) (hf1 : 1 ≤ f) (hf : f ≤ 112) (k : Nat) (hk : k < 5) {a b : Int} (a0 : 0 ≤ a) (a1 : a < 2 ^ (w + f + 1)) (b0 : 0 ≤ b) (b1 : b < 2 ^ (w + f + 1))
include hw2 hw hf1 hf hk a0 a1 b0 b1
theorem addP_rng : 0 ≤ (addP w f k a b).1 ∧ (addP w f k a b).1 < 2 ^ (w + f + 1) ∧ 0 ≤ (addP w f k a b).2 ∧ (addP w f k a b).2 ≤ 16 := by
  have E3 := end_3 (f := f) hw2
  have pf := p2 f
  have pg := p2 (f - 1)
  have eF : (2 : Int) ^ f = 2 * 2 ^ (f - 1) := by rw [← pow_s, Nat.sub_add_cancel hf1]
  have eT := pow_s (w + f)
  have sa0 : 0 ≤ a / 2 ^ (w + f) := dn _ a0
  have sa1 : a / 2 ^ (w + f) < 2 ^ 1 := div_lt_pow (m := 1) (by rw [Nat.add_comm 1]; exact a1)
  have sb0 : 0 ≤ b / 2 ^ (w + f) := dn _ b0
  have sb1 : b / 2 ^ (w + f) < 2 ^ 1 := div_lt_pow (m := 1) (by rw [Nat.add_comm 1]; exact b1)
  have nr : 0 ≤ noN w f ∧ noN w f < 2 ^ (w + f + 1) := by unfold noN; omega
  have sH (s x : Int) (hs : s = 0 ∨ s = 1) (x0 : 0 ≤ x) (x1 : x ≤ 2 ^ (w + f) - 2 ^ f) : 0 ≤ s * 2 ^ (w + f) + x ∧ s * 2 ^ (w + f) + x < 2 ^ (w + f + 1) := by
    rcases hs with y | y <;> rw [y]
    · rw [Int.zero_mul]; omega
    · rw [Int.one_mul]; omega
  by_cases hN : noneB w f a = true ∨ noneB w f b = true
  · have e : addP w f k a b = (noN w f, 0) := if_pos hN
    rw [e]; exact ⟨nr.1, nr.2, by dsimp only; omega, by dsimp only; omega⟩
  have e : addP w f k a b = sumP w f k (stp0 w f) [tmOf w f a, tmOf w f b] := if_neg hN
  by_cases za : a % 2 ^ (w + f) = 2 ^ (w + f) - 2 ^ f
  · have ta : tmOf w f a = .en (a / 2 ^ (w + f)) := by unfold tmOf; rw [if_pos za]
    have key : sumP w f k (stp0 w f) [tmOf w f a, tmOf w f b] = (noN w f, 16) ∨ sumP w f k (stp0 w f) [tmOf w f a, tmOf w f b] = (a / 2 ^ (w + f) * 2 ^ (w + f) + (2 ^ (w + f) - 2 ^ f), 0) := by
      have hsm : sumP w f k (stp0 w f) [tmOf w f a, tmOf w f b] = if hasWr [tmOf w f a, tmOf w f b] = true ∨ (0 ∈ ens [tmOf w f a, tmOf w f b] ∧ 1 ∈ ens [tmOf w f a, tmOf w f b]) then (noN w f, 16)
        else match ens [tmOf w f a, tmOf w f b] with
          | s :: _ => (s * 2 ^ (w + f) + (2 ^ (w + f) - 2 ^ f), 0)
          | [] => rdP w f k (exN (stp0 w f) (fins [tmOf w f a, tmOf w f b])) (2 ^ (stp0 w f - stp0 w f)) (noughtS k ((fins [tmOf w f a, tmOf w f b]).map (·.1))) := rfl
      rw [hsm]
      split
      · exact .inl rfl
      · rw [ta]; exact .inr rfl
    rw [e]
    rcases key with y | y <;> rw [y]
    · exact ⟨nr.1, nr.2, by dsimp only; omega, by dsimp only; omega⟩
    · have := sH (a / 2 ^ (w + f)) (2 ^ (w + f) - 2 ^ f) (by omega) (by omega) (Int.le_refl _)
      exact ⟨this.1, this.2, by dsimp only; omega, by dsimp only; omega⟩
  by_cases zb : b % 2 ^ (w + f) = 2 ^ (w + f) - 2 ^ f
  · have tb : tmOf w f b = .en (b / 2 ^ (w + f)) := by unfold tmOf; rw [if_pos zb]
    have ta : tmOf w f a = .fin (a / 2 ^ (w + f), whOf w f a, pwOf w f a) := by unfold tmOf; rw [if_neg za]
    have y : sumP w f k (stp0 w f) [tmOf w f a, tmOf w f b] = (b / 2 ^ (w + f) * 2 ^ (w + f) + (2 ^ (w + f) - 2 ^ f), 0) := by
      rw [ta, tb]
      unfold sumP
      rw [if_neg ?_]
      · rfl
      · rintro (q | ⟨q1, q2⟩)
        · cases q
        · have e0 : (0 : Int) = b / 2 ^ (w + f) := by simpa [ens] using q1
          have e1 : (1 : Int) = b / 2 ^ (w + f) := by simpa [ens] using q2
          omega
    rw [e, y]
    have := sH (b / 2 ^ (w + f)) (2 ^ (w + f) - 2 ^ f) (by omega) (by omega) (Int.le_refl _)
    exact ⟨this.1, this.2, by dsimp only; omega, by dsimp only; omega⟩
  · have na : ¬ 2 ^ (w + f) - 2 ^ f < a % 2 ^ (w + f) := fun q => hN (.inl (by unfold noneB; simpa using q))
    have nb : ¬ 2 ^ (w + f) - 2 ^ f < b % 2 ^ (w + f) := fun q => hN (.inr (by unfold noneB; simpa using q))
    rw [addP_fin hw2 ⟨a0, a1, by omega⟩ ⟨b0, b1, by omega⟩]
    unfold rdP
    have n01 : noughtS k [a / 2 ^ (w + f), b / 2 ^ (w + f)] = 0 ∨ noughtS k [a / 2 ^ (w + f), b / 2 ^ (w + f)] = 1 := by
      rw [nought2 k (by omega) (by omega)]
      split
      · omega
      · split <;> simp
    split
    · have := sH _ 0 n01 (by omega) (by omega)
      rw [Int.add_zero] at this
      exact ⟨this.1, this.2, by dsimp only; omega, by dsimp only; omega⟩
    · have F := frOf_ok (f := f) (V := ((sgl w f a + sgl w f b).natAbs : Int)) (B := 1) (by omega) (by decide)
      have s01 : (if sgl w f a + sgl w f b < 0 then (1 : Int) else 0) = 0 ∨ (if sgl w f a + sgl w f b < 0 then (1 : Int) else 0) = 1 := by split <;> simp
      obtain ⟨t0, t1, t2, t3⟩ := stl_rng (k := k) hw2 hf1 (s := if sgl w f a + sgl w f b < 0 then (1 : Int) else 0) F.c0 F.nn
      have := sH _ _ s01 t0 t1
      exact ⟨this.1, this.2, t2, by omega⟩
end
end Pg

namespace Pg
open PySem L2 Rm
open PySem.Builtin.Int (intBits)
/-! two roundings by "even": the wide one is innocent (needs pow lv lvcut lvb ways settled fr lvmore rootp) -/
def gE (c r : Int) : Bool := if r = 2 then decide (c % 2 = 1) else decide (r = 3)
def stE (E F c r : Int) : Int × Int :=
  if E ≤ c then (E, 5) else if r = 0 then (c, 0) else ((if gE c r = true then c + 1 else c), (if (if gE c r = true then c + 1 else c) = E then 5 else if c < F then 3 else 1))
theorem stl_even (w f : Nat) (s c r : Int) : stl w f 0 s c r = stE (2 ^ (w + f) - 2 ^ f) (2 ^ f) c r := rfl
/-- what is known of a number: L x : x is not more than its double, S x : x is less -/
structure Mono (L S : Int → Prop) : Prop where
  ls : ∀ x, S x → L x
  l : ∀ x y, 0 ≤ x → x ≤ y → L y → L x
  s : ∀ x y, 0 ≤ x → x < y → L y → S x
structure Cut (f : Nat) (L S : Int → Prop) (c r : Int) : Prop where
  c0 : 0 ≤ c
  lo : L (2 * lv f c)
  hi : ¬ L (2 * lv f (c + 1))
  rst : (r = 0 ∧ ¬ S (2 * lv f c)) ∨ (r = 1 ∧ S (2 * lv f c) ∧ ¬ L (lv f c + lv f (c + 1))) ∨ (r = 2 ∧ L (lv f c + lv f (c + 1)) ∧ ¬ S (lv f c + lv f (c + 1))) ∨ (r = 3 ∧ S (lv f c + lv f (c + 1)))
section
variable {f : Nat} {L S : Int → Prop} {c r c' r' : Int}
theorem Cut.le (m : Mono L S) (A : Cut f L S c r) {p : Int} (p0 : 0 ≤ p) (h : L (2 * lv f p)) : p ≤ c := by
  rcases Int.lt_or_le c p with z | z
  · exfalso
    have := lv_le (f := f) (a := c + 1) (b := p) (by have := A.c0; omega) (by omega)
    have := lv_nn (f := f) (a := c + 1) (by have := A.c0; omega)
    exact A.hi (m.l _ _ (by omega) (by omega) h)
  · exact z
theorem Cut.ge (m : Mono L S) (A : Cut f L S c r) {p : Int} (p0 : 0 ≤ p) (h : ¬ S (2 * lv f p)) : c ≤ p := by
  rcases Int.lt_or_le p c with z | z
  · exfalso
    have := lv_lt (f := f) p0 z
    have := lv_nn (f := f) p0
    exact h (m.s _ _ (by omega) (by omega) A.lo)
  · exact z
theorem Cut.r0 (m : Mono L S) (A : Cut f L S c r) (h : ¬ S (2 * lv f c)) : r = 0 := by
  have l1 := lv_lt (f := f) A.c0 (show c < c + 1 by omega)
  have l0 := lv_nn (f := f) A.c0
  rcases A.rst with z | z | z | z
  · exact z.1
  · exact absurd z.2.1 h
  · exact absurd (m.s _ _ (by omega) (by omega) z.2.1) h
  · exact absurd (m.s _ _ (by omega) (by omega) (m.ls _ z.2)) h
theorem Cut.uniq (m : Mono L S) (A : Cut f L S c r) (B : Cut f L S c' r') : c = c' ∧ r = r' := by
  have e : c = c' := Int.le_antisymm (B.le m A.c0 A.lo) (A.le m B.c0 B.lo)
  subst e
  refine ⟨rfl, ?_⟩
  have l1 := lv_lt (f := f) A.c0 (show c < c + 1 by omega)
  have l0 := lv_nn (f := f) A.c0
  have k (h : L (lv f c + lv f (c + 1))) : S (2 * lv f c) := m.s _ _ (by omega) (by omega) h
  rcases A.rst with z | z | z | z <;> rcases B.rst with y | y | y | y
  · rw [z.1, y.1]
  · exact absurd y.2.1 z.2
  · exact absurd (k y.2.1) z.2
  · exact absurd (k (m.ls _ y.2)) z.2
  · exact absurd z.2.1 y.2
  · rw [z.1, y.1]
  · exact absurd y.2.1 z.2.2
  · exact absurd (m.ls _ y.2) z.2.2
  · exact absurd (k z.2.1) y.2
  · exact absurd z.2.1 y.2.2
  · rw [z.1, y.1]
  · exact absurd y.2 z.2.2
  · exact absurd (k (m.ls _ z.2)) y.2
  · exact absurd (m.ls _ z.2) y.2.2
  · exact absurd z.2 y.2.2
  · rw [z.1, y.1]
theorem Mono.scale (m : Mono L S) {D : Int} (d0 : 0 < D) : Mono (fun x => L (x * D)) (fun x => S (x * D)) where
  ls := fun x h => m.ls _ h
  l := fun x y x0 h => m.l _ _ (Int.mul_nonneg x0 (Int.le_of_lt d0)) (Int.mul_le_mul_of_nonneg_right h (Int.le_of_lt d0))
  s := fun x y x0 h => m.s _ _ (Int.mul_nonneg x0 (Int.le_of_lt d0)) (Int.mul_lt_mul_of_pos_right h d0)
end
theorem mono_int (Y : Int) : Mono (fun x => x ≤ Y) (fun x => x < Y) := ⟨fun _ h => Int.le_of_lt h, fun _ _ _ h k => Int.le_trans h k, fun _ _ _ h k => Int.lt_of_lt_of_le h k⟩
theorem mono_fr (V : Int) {B : Int} (hB : 0 < B) : Mono (fun x => x * B ≤ 2 * V) (fun x => x * B < 2 * V) :=
  ⟨fun _ h => Int.le_of_lt h, fun _ _ _ h k => Int.le_trans (Int.mul_le_mul_of_nonneg_right h (Int.le_of_lt hB)) k, fun _ _ _ h k => Int.lt_of_lt_of_le (Int.mul_lt_mul_of_pos_right h hB) k⟩
theorem mono_sq (Q : Int) : Mono (fun x => x * x ≤ 4 * Q) (fun x => x * x < 4 * Q) :=
  ⟨fun _ h => Int.le_of_lt h, fun _ _ x0 h k => Int.le_trans (sq_le x0 h) k, fun _ _ x0 h k => Int.lt_of_lt_of_le (sq_lt x0 h) k⟩
theorem Fr.cut {f : Nat} {V B c r : Int} (F : Fr f V B c r) : Cut f (fun x => x * B ≤ 2 * V) (fun x => x * B < 2 * V) c r := by
  have e2 (x : Int) : 2 * x * B = 2 * (x * B) := Int.mul_assoc ..
  have ea : (lv f c + lv f (c + 1)) * B = lv f c * B + lv f (c + 1) * B := Int.add_mul ..
  have es : (lv f (c + 1) - lv f c) * B = lv f (c + 1) * B - lv f c * B := Int.sub_mul ..
  have lo := F.lo
  have hi := F.hi
  have rst := F.rst
  rw [es] at rst
  obtain ⟨a, ha⟩ : ∃ a, lv f c * B = a := ⟨_, rfl⟩
  obtain ⟨b, hb⟩ : ∃ b, lv f (c + 1) * B = b := ⟨_, rfl⟩
  rw [ha] at lo rst
  rw [hb] at hi rst
  refine ⟨F.c0, ?_, ?_, ?_⟩
  · try dsimp only
    rw [e2, ha]; omega
  · try dsimp only
    rw [e2, hb]; omega
  · try dsimp only
    rw [e2, ea, ha, hb]
    unfold rs at rst
    split at rst
    · exact .inl ⟨rst, by omega⟩
    · split at rst
      · exact .inr (.inl ⟨rst, by omega, by omega⟩)
      · split at rst
        · exact .inr (.inr (.inl ⟨rst, by omega, by omega⟩))
        · exact .inr (.inr (.inr ⟨rst, by omega⟩))
theorem RFr.cut {f : Nat} {Q c r : Int} (F : RFr f Q c r) : Cut f (fun x => x * x ≤ 4 * Q) (fun x => x * x < 4 * Q) c r := by
  have e4 (x : Int) : 2 * x * (2 * x) = 4 * (x * x) := by grind
  have lo := F.lo
  have hi := F.hi
  have rst := F.rst
  obtain ⟨a, ha⟩ : ∃ a, lv f c * lv f c = a := ⟨_, rfl⟩
  obtain ⟨b, hb⟩ : ∃ b, lv f (c + 1) * lv f (c + 1) = b := ⟨_, rfl⟩
  obtain ⟨g, hg⟩ : ∃ g, (lv f c + lv f (c + 1)) * (lv f c + lv f (c + 1)) = g := ⟨_, rfl⟩
  have ag : 4 * a < g := by
    rw [← ha, ← hg, ← e4]
    have l1 := lv_lt (f := f) F.c0 (show c < c + 1 by omega)
    have l0 := lv_nn (f := f) F.c0
    exact sq_lt (by omega) (by omega)
  rw [ha] at lo rst
  rw [hb] at hi
  rw [hg] at rst
  refine ⟨F.c0, ?_, ?_, ?_⟩
  · try dsimp only
    rw [e4, ha]; omega
  · try dsimp only
    rw [e4, hb]; omega
  · try dsimp only
    rw [e4, ha, hg]
    unfold rs at rst
    split at rst
    · exact .inl ⟨rst, by omega⟩
    · split at rst
      · exact .inr (.inl ⟨rst, by omega, by omega⟩)
      · split at rst
        · exact .inr (.inr (.inl ⟨rst, by omega, by omega⟩))
        · exact .inr (.inr (.inr ⟨rst, by omega⟩))
/-- where the rounded one stands -/
theorem stE_near {e : Nat} {L S : Int → Prop} (m : Mono L S) {M F2 cm rm : Int} (W : Cut e L S cm rm) (hm : (stE M F2 cm rm).1 < M) :
    ((stE M F2 cm rm).1 = cm ∧ L (2 * lv e cm) ∧ ¬ S (lv e cm + lv e (cm + 1))) ∨ ((stE M F2 cm rm).1 = cm + 1 ∧ L (lv e cm + lv e (cm + 1)) ∧ ¬ L (2 * lv e (cm + 1))) := by
  have l1 := lv_lt (f := e) W.c0 (show cm < cm + 1 by omega)
  have l0 := lv_nn (f := e) W.c0
  unfold stE at hm ⊢
  by_cases h1 : M ≤ cm
  · rw [if_pos h1] at hm; exact absurd hm (Int.lt_irrefl _)
  · rw [if_neg h1]
    rcases W.rst with z | z | z | z
    · rw [if_pos z.1]
      exact .inl ⟨rfl, W.lo, fun q => z.2 (m.s _ _ (by omega) (by omega) (m.ls _ q))⟩
    · rw [if_neg (by omega), z.1]
      exact .inl ⟨by simp [gE], W.lo, fun q => z.2.2 (m.ls _ q)⟩
    · rw [if_neg (by omega)]
      by_cases g : gE cm rm = true
      · exact .inr ⟨by simp [g], z.2.1, W.hi⟩
      · exact .inl ⟨by simp [g], W.lo, z.2.2⟩
    · rw [if_neg (by omega), z.1]
      exact .inr ⟨by simp [gE], m.ls _ z.2, W.hi⟩
theorem or_fl {a b : Int} (ha : a = 0 ∨ a = 1 ∨ a = 3) (hb : b = 1 ∨ b = 3 ∨ b = 5) (h : a = 3 → b = 3) : Builtin.bitOr a b = b := by
  rcases ha with y | y | y
  · subst y; rcases hb with x | x | x <;> subst x <;> decide
  · subst y; rcases hb with x | x | x <;> subst x <;> decide
  · subst y; rw [h rfl]; decide
theorem two_even {f e : Nat} {L S : Int → Prop} {E M F F2 D cg rg cm rm : Int} (m : Mono L S) (d0 : 0 < D) (F0 : 0 ≤ F) (FE : F < E) (M0 : 1 ≤ M) (hE : lv f E * D ≤ lv e (M - 1))
    (emb : ∀ a : Int, 0 ≤ a → ∃ p : Int, 0 ≤ p ∧ lv e p = lv f a * D) (embh : ∀ a : Int, 0 ≤ a → ∃ p : Int, 0 ≤ p ∧ 2 * lv e p = (lv f a + lv f (a + 1)) * D)
    (G : Cut f (fun x => L (x * D)) (fun x => S (x * D)) cg rg) (W : Cut e L S cm rm) (hF : F ≤ cg → F2 ≤ cm)
    (key : (stE M F2 cm rm).1 < M → ∀ x : Int, (∃ a : Int, 0 ≤ a ∧ (x = 2 * lv f a ∨ x = lv f a + lv f (a + 1))) → 2 * lv e (stE M F2 cm rm).1 = x * D → (L (x * D) ∧ ¬ S (x * D)) ∨ ∃ a : Int, 0 ≤ a ∧ a < E ∧ x = 2 * lv f a ∧ F ≤ cg) :
    ((stE M F2 cm rm).1 = M ∧ (stE M F2 cm rm).2 = 5 ∧ stE E F cg rg = (E, 5)) ∨
    (0 ≤ (stE M F2 cm rm).1 ∧ (stE M F2 cm rm).1 < M ∧ ∀ c2 r2, Cut f (fun x => x * D ≤ 2 * lv e (stE M F2 cm rm).1) (fun x => x * D < 2 * lv e (stE M F2 cm rm).1) c2 r2 →
      (stE E F c2 r2).1 = (stE E F cg rg).1 ∧ Builtin.bitOr (stE M F2 cm rm).2 (stE E F c2 r2).2 = (stE E F cg rg).2) := by
  have cg0 := G.c0
  have cm0 := W.c0
  have mD := m.scale d0
  -- the top
  have top : M - 1 ≤ cm → E ≤ cg := fun h => by
    refine G.le mD (p := E) (by omega) ?_
    have l1 := lv_le (f := e) (a := M - 1) (b := cm) (by omega) h
    have l2 := lv_nn (f := f) (a := E) (by omega)
    have l3 := Int.mul_nonneg l2 (Int.le_of_lt d0)
    refine m.l _ _ (by rw [Int.mul_assoc]; omega) ?_ W.lo
    rw [Int.mul_assoc]; omega
  have eE : E ≤ cg → stE E F cg rg = (E, 5) := fun h => by unfold stE; rw [if_pos h]
  by_cases hM : M ≤ cm
  · have q : stE M F2 cm rm = (M, 5) := by unfold stE; rw [if_pos hM]
    rw [q]
    exact .inl ⟨rfl, rfl, eE (top (by omega))⟩
  by_cases hU : cm + 1 = M ∧ rm ≠ 0 ∧ gE cm rm = true
  · have q : stE M F2 cm rm = (M, 5) := by unfold stE; rw [if_neg hM, if_neg hU.2.1, if_pos hU.2.2, if_pos hU.1, hU.1]
    rw [q]
    exact .inl ⟨rfl, rfl, eE (top (by omega))⟩
  refine .inr ?_
  obtain ⟨hm, hhm⟩ : ∃ x, (stE M F2 cm rm).1 = x := ⟨_, rfl⟩
  obtain ⟨fm, hfm⟩ : ∃ x, (stE M F2 cm rm).2 = x := ⟨_, rfl⟩
  have facts : (hm = cm ∨ hm = cm + 1) ∧ hm < M ∧ (fm = 0 ∨ fm = 1 ∨ fm = 3) ∧ (rm = 0 → hm = cm ∧ fm = 0) ∧ (rm ≠ 0 → fm ≠ 0) ∧ (F2 ≤ cm → fm = 0 ∨ fm = 1) := by
    unfold stE at hhm hfm
    rw [if_neg hM] at hhm hfm
    by_cases z : rm = 0
    · rw [if_pos z] at hhm hfm
      subst hhm; subst hfm
      exact ⟨.inl rfl, by dsimp only; omega, .inl rfl, fun _ => ⟨rfl, rfl⟩, fun q => absurd z q, fun _ => .inl rfl⟩
    · rw [if_neg z] at hhm hfm
      dsimp only at hhm hfm
      by_cases g : gE cm rm = true
      · have n1 : ¬ cm + 1 = M := fun q => hU ⟨q, z, g⟩
        rw [if_pos g] at hhm hfm
        rw [if_neg n1] at hfm
        refine ⟨.inr hhm.symm, by omega, ?_, fun q => absurd q z, ?_, ?_⟩
        · split at hfm <;> omega
        · split at hfm <;> omega
        · intro q; rw [if_neg (by omega)] at hfm; omega
      · have n1 : ¬ cm = M := by omega
        rw [if_neg g] at hhm hfm
        rw [if_neg n1] at hfm
        refine ⟨.inl hhm.symm, by omega, ?_, fun q => absurd q z, ?_, ?_⟩
        · split at hfm <;> omega
        · split at hfm <;> omega
        · intro q; rw [if_neg (by omega)] at hfm; omega
  rw [hhm, hfm]
  rw [hhm] at key
  obtain ⟨f1, f2, f3, f4, f5, f6⟩ := facts
  have key := key f2
  have hm0 : 0 ≤ hm := by omega
  refine ⟨hm0, f2, fun c2 r2 K => ?_⟩
  have mY := (mono_int (2 * lv e hm)).scale d0
  -- monotone
  have fA {p : Int} (p0 : 0 ≤ p) (h : L (2 * lv e p)) : lv e p ≤ lv e hm := lv_le p0 (by have := W.le m p0 h; omega)
  have fB {p : Int} (p0 : 0 ≤ p) (h : ¬ S (2 * lv e p)) : lv e hm ≤ lv e p := by
    have h1 := W.ge m p0 h
    rcases Int.lt_or_eq_of_le h1 with z | z
    · exact lv_le hm0 (by omega)
    · have r0 := W.r0 m (by rw [z]; exact h)
      have := (f4 r0).1
      rw [this, z]; exact Int.le_refl _
  obtain ⟨p0, p00, p01⟩ := emb cg cg0
  obtain ⟨p1, p10, p11⟩ := embh cg cg0
  obtain ⟨q1, q10, q11⟩ := emb (cg + 1) (by omega)
  have a0 : 2 * lv f cg * D = 2 * lv e p0 := by rw [p01, Int.mul_assoc]
  have a2 : 2 * lv f (cg + 1) * D = 2 * lv e q1 := by rw [q11, Int.mul_assoc]
  have lo : L (2 * lv e p0) := by rw [← a0]; exact G.lo
  have hi : ¬ L (2 * lv e q1) := by rw [← a2]; exact G.hi
  have y0 := fA p00 lo
  have y2 := fB q10 fun q => hi (m.ls _ q)
  have lt1 := lv_lt (f := f) cg0 (show cg < cg + 1 by omega)
  have b01 : 2 * lv e p0 < 2 * lv e p1 := by rw [← a0, p11]; exact Int.mul_lt_mul_of_pos_right (by omega) d0
  have b12 : 2 * lv e p1 < 2 * lv e q1 := by rw [← a2, p11]; exact Int.mul_lt_mul_of_pos_right (by omega) d0
  have ln := lv_nn (f := f) cg0
  have nm : ∀ a : Int, 0 ≤ a → lv f cg + lv f (cg + 1) ≠ 2 * lv f a := fun a ha q => by
    rcases Int.lt_or_le cg a with z | z
    · have := lv_le (f := f) (a := cg + 1) (b := a) (by omega) (by omega); omega
    · have := lv_le (f := f) ha z; omega
  have cutY {r' : Int} (h1 : 2 * lv e p0 ≤ 2 * lv e hm) (h2 : 2 * lv e hm < 2 * lv e q1) (h : (r' = 0 ∧ ¬ 2 * lv e p0 < 2 * lv e hm) ∨ (r' = 1 ∧ 2 * lv e p0 < 2 * lv e hm ∧ ¬ 2 * lv e p1 ≤ 2 * lv e hm) ∨ (r' = 2 ∧ 2 * lv e p1 ≤ 2 * lv e hm ∧ ¬ 2 * lv e p1 < 2 * lv e hm) ∨ (r' = 3 ∧ 2 * lv e p1 < 2 * lv e hm)) : c2 = cg ∧ r2 = r' := by
    refine K.uniq mY ⟨cg0, ?_, ?_, ?_⟩
    · try dsimp only
      rw [a0]; exact h1
    · try dsimp only
      rw [a2]; omega
    · try dsimp only
      rw [a0, ← p11]; exact h
  -- the flags where the cut is the same
  have same (h : c2 = cg ∧ r2 = rg) (hz : rg = 0 → fm = 0) : (stE E F c2 r2).1 = (stE E F cg rg).1 ∧ Builtin.bitOr fm (stE E F c2 r2).2 = (stE E F cg rg).2 := by
    rw [h.1, h.2]
    refine ⟨rfl, ?_⟩
    by_cases z : rg = 0
    · rw [hz z]
      unfold stE
      by_cases z1 : E ≤ cg
      · rw [if_pos z1]; exact (by decide : Builtin.bitOr 0 5 = 5)
      · rw [if_neg z1, if_pos z]; exact (by decide : Builtin.bitOr 0 0 = 0)
    · by_cases z1 : E ≤ cg
      · rw [eE z1]
        refine or_fl f3 (.inr (.inr rfl)) fun q => ?_
        have := f6 (hF (by omega)); omega
      · obtain ⟨hg, hhg⟩ : ∃ x, (if gE cg rg = true then cg + 1 else cg) = x := ⟨_, rfl⟩
        have hh : hg = cg ∨ hg = cg + 1 := by split at hhg <;> omega
        unfold stE
        rw [if_neg z1, if_neg z, hhg]
        dsimp only
        by_cases z2 : cg < F
        · have n : ¬ hg = E := by omega
          rw [if_neg n, if_pos z2]
          exact or_fl f3 (.inr (.inl rfl)) fun _ => rfl
        · have := f6 (hF (by omega))
          refine or_fl f3 ?_ fun q => by omega
          split
          · exact .inr (.inr rfl)
          · exact .inl rfl
  -- exact numbers
  have ex {c : Int} (hc : 0 ≤ c) (hcE : c < E) (h : 2 * lv e hm = 2 * lv f c * D) (cF : F ≤ cg) (hne : S (2 * lv e hm) ∨ ¬ L (2 * lv e hm)) : (c2 = c ∧ r2 = 0) ∧ fm = 1 := by
    have l1 := lv_lt (f := f) hc (show c < c + 1 by omega)
    have lm : 2 * lv f c * D < 2 * lv f (c + 1) * D := Int.mul_lt_mul_of_pos_right (by omega) d0
    refine ⟨K.uniq mY ⟨hc, ?_, ?_, .inl ⟨rfl, ?_⟩⟩, ?_⟩
    · try dsimp only
      omega
    · try dsimp only
      omega
    · try dsimp only
      omega
    · have n0 : fm ≠ 0 := by
        refine f5 fun z => ?_
        rw [(f4 z).1] at hne
        rcases hne with y | y
        · rcases W.rst with q | q | q | q
          · exact q.2 y
          · omega
          · omega
          · omega
        · exact y W.lo
      have := f6 (hF cF); omega
  rcases G.rst with z | z | z | z
  · -- exact
    have n : ¬ S (2 * lv e p0) := by rw [← a0]; exact z.2
    have y1 := fB p00 n
    have r0 : rm = 0 := by
      have e1 := W.le m p00 lo
      have e2 := W.ge m p00 n
      have : cm = p0 := Int.le_antisymm e2 e1
      exact W.r0 m (by rw [this]; exact n)
    exact same (by rw [z.1]; exact cutY (by omega) (by omega) (.inl ⟨rfl, by omega⟩)) fun _ => (f4 r0).2
  · have n1 : ¬ L (2 * lv e p1) := by rw [p11]; exact z.2.2
    have y1 := fB p10 fun q => n1 (m.ls _ q)
    have ny : ¬ lv e hm = lv e p1 := fun q => by
      rcases key _ ⟨cg, cg0, .inr rfl⟩ (by rw [q, p11]) with k | ⟨a, k0, _, k2, _⟩
      · exact n1 (by rw [p11]; exact k.1)
      · exact nm a k0 k2
    by_cases y : lv e hm = lv e p0
    · have S0 : S (2 * lv e p0) := by rw [← a0]; exact z.2.1
      rcases key _ ⟨cg, cg0, .inl rfl⟩ (by rw [y, a0]) with k | ⟨a, k0, k1, k2, k3⟩
      · exact absurd z.2.1 k.2
      · have : a = cg := by
          rcases Int.lt_trichotomy a cg with t | t | t
          · have := lv_lt (f := f) k0 t; omega
          · exact t
          · have := lv_lt (f := f) cg0 t; omega
        subst this
        obtain ⟨⟨e1, e2⟩, e3⟩ := ex k0 k1 (by rw [y, a0]) k3 (.inl (by rw [y]; exact S0))
        have o1 : stE E F c2 r2 = (a, 0) := by unfold stE; rw [e1, e2, if_neg (by omega)]; simp
        have o2 : stE E F a rg = (a, 1) := by
          unfold stE
          rw [if_neg (by omega), z.1]
          have n : ¬ a = E := by omega
          have n2 : ¬ a < F := by omega
          simp [gE, n, n2]
        rw [o1, o2, e3]
        exact ⟨rfl, (by decide : Builtin.bitOr 1 0 = 1)⟩
    · exact same (by rw [z.1]; exact cutY (by omega) (by omega) (.inr (.inl ⟨rfl, by omega, by omega⟩))) fun q => by omega
  · have n1 : L (2 * lv e p1) := by rw [p11]; exact z.2.1
    have n2 : ¬ S (2 * lv e p1) := by rw [p11]; exact z.2.2
    have y1 := fA p10 n1
    have y3 := fB p10 n2
    exact same (by rw [z.1]; exact cutY (by omega) (by omega) (.inr (.inr (.inl ⟨rfl, by omega, by omega⟩)))) fun q => by omega
  · have n1 : S (2 * lv e p1) := by rw [p11]; exact z.2
    have y1 := fA p10 (m.ls _ n1)
    have ny : ¬ lv e hm = lv e p1 := fun q => by
      rcases key _ ⟨cg, cg0, .inr rfl⟩ (by rw [q, p11]) with k | ⟨a, k0, _, k2, _⟩
      · exact k.2 z.2
      · exact nm a k0 k2
    by_cases y : lv e hm = lv e q1
    · rcases key _ ⟨cg + 1, by omega, .inl rfl⟩ (by rw [y, a2]) with k | ⟨a, k0, k1, k2, k3⟩
      · exact absurd (by rw [← a2]; exact k.1) hi
      · have : a = cg + 1 := by
          rcases Int.lt_trichotomy a (cg + 1) with t | t | t
          · have := lv_lt (f := f) k0 t; omega
          · exact t
          · have := lv_lt (f := f) (a := cg + 1) (by omega) t; omega
        subst this
        obtain ⟨⟨e1, e2⟩, e3⟩ := ex k0 k1 (by rw [y, a2]) k3 (.inr (by rw [y]; exact hi))
        have o1 : stE E F c2 r2 = (cg + 1, 0) := by unfold stE; rw [e1, e2, if_neg (by omega)]; simp
        have o2 : stE E F cg rg = (cg + 1, 1) := by
          unfold stE
          rw [if_neg (by omega), z.1]
          have n : ¬ cg + 1 = E := by omega
          have n2 : ¬ cg < F := by omega
          simp [gE, n, n2]
        rw [o1, o2, e3]
        exact ⟨rfl, (by decide : Builtin.bitOr 1 0 = 1)⟩
    · exact same (by rw [z.1]; exact cutY (by omega) (by omega) (.inr (.inr (.inr ⟨rfl, by omega⟩)))) fun q => by omega
end Pg

namespace Pg
open PySem L2 Rm
open PySem.Builtin.Int (intBits)
/-! no answer is too near a midway: quotients, roots, sums (needs dbl) -/
theorem two_lt_pow {m n : Nat} (h : m < n) : (2 : Int) ^ m < 2 ^ n := by
  have := two_le_pow (show m + 1 ≤ n from h)
  rw [pow_s] at this
  have := p2 m
  omega
theorem diff_pow {A B : Int} {α β : Nat} (h : A * 2 ^ α ≠ B * 2 ^ β) {m : Nat} (ha : m ≤ α) (hb : m ≤ β) : (2 : Int) ^ m ≤ A * 2 ^ α - B * 2 ^ β ∨ (2 : Int) ^ m ≤ B * 2 ^ β - A * 2 ^ α := by
  have e1 : A * 2 ^ α = A * 2 ^ (α - m) * 2 ^ m := by rw [Int.mul_assoc, ← Int.pow_add, Nat.sub_add_cancel ha]
  have e2 : B * 2 ^ β = B * 2 ^ (β - m) * 2 ^ m := by rw [Int.mul_assoc, ← Int.pow_add, Nat.sub_add_cancel hb]
  rw [e1, e2] at h ⊢
  obtain ⟨x, hx⟩ : ∃ x, A * 2 ^ (α - m) = x := ⟨_, rfl⟩
  obtain ⟨y, hy⟩ : ∃ x, B * 2 ^ (β - m) = x := ⟨_, rfl⟩
  rw [hx, hy] at h ⊢
  have pm := p2 m
  rcases Int.lt_trichotomy x y with z | z | z
  · right
    have := Int.mul_le_mul_of_nonneg_right (show 1 ≤ y - x by omega) (Int.le_of_lt pm)
    rw [Int.sub_mul] at this; omega
  · rw [z] at h; exact absurd rfl h
  · left
    have := Int.mul_le_mul_of_nonneg_right (show 1 ≤ x - y by omega) (Int.le_of_lt pm)
    rw [Int.sub_mul] at this; omega
theorem pow_lt_iff {a b : Nat} (h : (2 : Int) ^ a < 2 ^ b) : a < b := by
  rcases Nat.lt_or_ge a b with z | z
  · exact z
  · have := two_le_pow z; omega
theorem mul_pow_lt {n : Int} {g a : Nat} (h : n < 2 ^ g) : n * 2 ^ a < 2 ^ (g + a) := by
  rw [Int.pow_add]; exact Int.mul_lt_mul_of_pos_right h (p2 a)
theorem mul_pow_ge {n : Int} {g a : Nat} (h : 2 ^ g ≤ n) : 2 ^ (g + a) ≤ n * 2 ^ a := by
  rw [Int.pow_add]; exact Int.mul_le_mul_of_nonneg_right h (Int.le_of_lt (p2 a))
/-- a quotient n1 2^a / (n2 2^j); 2y = z 2^b, y = (u or u + 1) 2^s -/
theorem strict_div {f e s a b j : Nat} {n1 n2 z u y V B : Int} (he : 2 * f + 4 ≤ e) (hV : 2 * V = n1 * 2 ^ a) (hB : B = n2 * 2 ^ j) (n20 : 0 < n2) (n11 : n1 < 2 ^ (f + 1)) (n21 : n2 < 2 ^ (f + 1))
    (hz : 2 * y = z * 2 ^ b) (z1 : z < 2 ^ (f + 2)) (us : s = 0 ∨ 2 ^ e ≤ u) (yu : u * 2 ^ s ≤ y) (hu : u * 2 ^ s * B ≤ V) (hb : f + 1 ≤ b) (ha : f + j + 1 ≤ a)
    (near : 2 * V ≤ (2 * y + 2 ^ s) * B ∧ (2 * y - 2 ^ s) * B ≤ 2 * V) : 2 * V = 2 * y * B := by
  by_cases q : n1 * 2 ^ a = z * n2 * 2 ^ (b + j)
  · rw [hV, q, hz, hB, Int.pow_add]; grind
  exfalso
  have e1 : 2 * y * B = z * n2 * 2 ^ (b + j) := by rw [hz, hB, Int.pow_add]; grind
  have lB : 2 ^ s * B < 2 ^ (s + (f + 1 + j)) := by
    rw [hB, Int.pow_add 2 s]
    exact Int.mul_lt_mul_of_pos_left (mul_pow_lt n21) (p2 s)
  have near1 := near.1
  have near2 := near.2
  rw [Int.add_mul, e1, hV] at near1
  rw [Int.sub_mul, e1, hV] at near2
  obtain ⟨m, m1, m2, m3⟩ : ∃ m, m ≤ a ∧ m ≤ b + j ∧ (m = a ∨ m = b + j) := by
    rcases Nat.le_total a (b + j) with w | w
    · exact ⟨a, Nat.le_refl _, w, .inl rfl⟩
    · exact ⟨b + j, w, Nat.le_refl _, .inr rfl⟩
  have dp := diff_pow q m1 m2
  have ml : m < s + (f + 1 + j) := pow_lt_iff (by rcases dp with w | w <;> omega)
  rcases m3 with w | w
  · rcases us with s0 | ue
    · omega
    · have h1 : (2 : Int) ^ (e + s + j) ≤ V := by
        have a1 : (2 : Int) ^ (e + s) ≤ u * 2 ^ s := mul_pow_ge ue
        have a2 : (2 : Int) ^ j ≤ B := by
          rw [hB]
          have := Int.mul_le_mul_of_nonneg_right (show 1 ≤ n2 by omega) (Int.le_of_lt (p2 j))
          omega
        have a3 : (2 : Int) ^ (e + s) * 2 ^ j ≤ u * 2 ^ s * B := Int.mul_le_mul a1 a2 (Int.le_of_lt (p2 j)) (Int.le_trans (Int.le_of_lt (p2 _)) a1)
        rw [Int.pow_add]; omega
      have h2 := mul_pow_lt (a := a) n11
      rw [← hV] at h2
      have h3 : (2 : Int) ^ (e + s + j + 1) < 2 ^ (f + 1 + a) := by rw [pow_s]; omega
      have := pow_lt_iff h3
      omega
  · rcases us with s0 | ue
    · omega
    · have h1 : (2 : Int) ^ (e + s + 1) ≤ z * 2 ^ b := by
        have a1 : (2 : Int) ^ (e + s) ≤ u * 2 ^ s := mul_pow_ge ue
        rw [pow_s, ← hz]; omega
      have h2 := mul_pow_lt (a := b) z1
      have := pow_lt_iff (Int.lt_of_le_of_lt h1 h2)
      omega
theorem strict_root {f e s γ b : Nat} {n1 z u y Q : Int} (he : 2 * f + 4 ≤ e) (f1 : 1 ≤ f) (hQ : 4 * Q = n1 * 2 ^ γ) (n11 : n1 < 2 ^ (f + 1)) (hz : 2 * y = z * 2 ^ b) (z1 : z < 2 ^ (f + 2)) (u1 : u < 2 ^ (e + 1)) (us : s = 0 ∨ 2 ^ e ≤ u) (u0 : 0 ≤ u)
    (yu : y = u * 2 ^ s ∨ y = (u + 1) * 2 ^ s) (hu : u * 2 ^ s * (u * 2 ^ s) ≤ Q) (hb : e + 4 ≤ 2 * b) (ha : e + 4 ≤ γ)
    (near : 4 * Q ≤ (2 * y + 2 ^ s) * (2 * y + 2 ^ s) ∧ (2 * y * (2 * y) ≤ 4 * Q ∨ (2 * y - 2 ^ s) * (2 * y - 2 ^ s) ≤ 4 * Q)) : 4 * Q = 2 * y * (2 * y) := by
  by_cases q : n1 * 2 ^ γ = z * z * 2 ^ (b + b)
  · rw [hQ, q, hz, Int.pow_add]; grind
  exfalso
  have ps := p2 s
  have e1 : 2 * y * (2 * y) = z * z * 2 ^ (b + b) := by rw [hz, Int.pow_add]; grind
  have y0 : u * 2 ^ s ≤ y ∧ y ≤ (u + 1) * 2 ^ s ∧ 0 ≤ y := by
    have a := Int.mul_nonneg u0 (Int.le_of_lt ps)
    have b := Int.add_mul u 1 (2 ^ s)
    rw [Int.one_mul] at b
    rcases yu with w | w <;> rw [w] <;> omega
  have y1 : y ≤ 2 ^ (e + 1 + s) := by
    have := Int.mul_le_mul_of_nonneg_right (show u + 1 ≤ 2 ^ (e + 1) by omega) (Int.le_of_lt ps)
    rw [Int.pow_add]; omega
  -- the distance
  have D1 : (2 * y + 2 ^ s) * (2 * y + 2 ^ s) = 2 * y * (2 * y) + (4 * (y * 2 ^ s) + 2 ^ s * 2 ^ s) := by grind
  have D2 : (2 * y - 2 ^ s) * (2 * y - 2 ^ s) = 2 * y * (2 * y) - (4 * (y * 2 ^ s) - 2 ^ s * 2 ^ s) := by grind
  have D3 : 4 * (y * 2 ^ s) + 2 ^ s * 2 ^ s < 2 ^ (e + 4 + s + s) := by
    have a1 : y * 2 ^ s ≤ 2 ^ (e + 1 + s) * 2 ^ s := Int.mul_le_mul_of_nonneg_right y1 (Int.le_of_lt ps)
    rw [← Int.pow_add] at a1 
    rw [← Int.pow_add]
    have a2 : (2 : Int) ^ (e + 4 + s + s) = 8 * 2 ^ (e + 1 + s + s) := by
      rw [show e + 4 + s + s = e + 1 + s + s + 1 + 1 + 1 by omega, pow_s, pow_s, pow_s]; omega
    have a3 := two_le_pow (show s + s ≤ e + 1 + s + s by omega)
    have a4 := p2 (s + s)
    omega
  have qq := Int.mul_pos ps ps
  have yp := Int.mul_nonneg y0.2.2 (Int.le_of_lt ps)
  rw [D1, e1, hQ] at near
  rw [D2, e1] at near
  obtain ⟨m, m1, m2, m3⟩ : ∃ m, m ≤ γ ∧ m ≤ b + b ∧ (m = γ ∨ m = b + b) := by
    rcases Nat.le_total γ (b + b) with w | w
    · exact ⟨γ, Nat.le_refl _, w, .inl rfl⟩
    · exact ⟨b + b, w, Nat.le_refl _, .inr rfl⟩
  have dp := diff_pow q m1 m2
  have ml : m < e + 4 + s + s := pow_lt_iff (by
    have n1 := near.1
    rcases near.2 with n2 | n2 <;> rcases dp with w | w <;> omega)
  rcases us with s0 | ue
  · omega
  rcases m3 with w | w
  · have h1 : (2 : Int) ^ (e + s + (e + s)) ≤ Q := by
      have a1 : (2 : Int) ^ (e + s) ≤ u * 2 ^ s := mul_pow_ge ue
      have a2 : (2 : Int) ^ (e + s) * 2 ^ (e + s) ≤ u * 2 ^ s * (u * 2 ^ s) := Int.mul_le_mul a1 a1 (Int.le_of_lt (p2 _)) (Int.le_trans (Int.le_of_lt (p2 _)) a1)
      rw [Int.pow_add]; omega
    have h2 := mul_pow_lt (a := γ) n11
    rw [← hQ] at h2
    have h3 : (2 : Int) ^ (e + s + (e + s) + 1 + 1) < 2 ^ (f + 1 + γ) := by rw [pow_s, pow_s]; omega
    have := pow_lt_iff h3
    omega
  · have h1 : (2 : Int) ^ (e + s + 1) ≤ z * 2 ^ b := by
      have a1 : (2 : Int) ^ (e + s) ≤ u * 2 ^ s := mul_pow_ge ue
      rw [pow_s, ← hz]; omega
    have h2 := mul_pow_lt (a := b) z1
    have := pow_lt_iff (Int.lt_of_le_of_lt h1 h2)
    omega
/-- a sum: X = A + B, A = n1 2^i, B = n2 2^j (of any sign), in steps of D = 2^d wide ones; 2y = x D -/
theorem strict_sum1 {f e s d t i j : Nat} {n1 n2 z u X x : Int} (he : 2 * f + 4 ≤ e) (f1 : 1 ≤ f) (hX : X = n1 * 2 ^ i + n2 * 2 ^ j) (hij : j ≤ i) (hx : x = z * 2 ^ t) (z1 : z < 2 ^ (f + 2)) (n10 : n1 < 2 ^ (f + 1)) (n20 : -(2 ^ (f + 1)) < n2) (n21 : n2 < 2 ^ (f + 1))
    (us : s = 0 ∨ 2 ^ e ≤ u) (u0 : 0 ≤ u) (yu : 2 * (u * 2 ^ s) ≤ x * 2 ^ d) (hu : u * 2 ^ s ≤ X * 2 ^ d) (hd : 1 ≤ d) (ne : 2 * X ≠ x) (near : 2 * X * 2 ^ d ≤ x * 2 ^ d + 2 ^ s ∧ x * 2 ^ d - 2 ^ s ≤ 2 * X * 2 ^ d) :
    x = 2 * (n1 * 2 ^ i) ∧ 2 ^ f ≤ X := by
  have pd := p2 d
  -- s is d or more
  have ds : d ≤ s := by
    rcases Nat.lt_or_ge s d with w | w
    · exfalso
      have := two_lt_pow w
      rcases Int.lt_trichotomy (2 * X) x with v | v | v
      · have a := Int.mul_le_mul_of_nonneg_right (show 2 * X + 1 ≤ x by omega) (Int.le_of_lt pd)
        rw [Int.add_mul] at a; omega
      · exact ne v
      · have a := Int.mul_le_mul_of_nonneg_right (show x + 1 ≤ 2 * X by omega) (Int.le_of_lt pd)
        rw [Int.add_mul] at a; omega
    · exact w
  obtain ⟨k, rfl⟩ : ∃ k, s = k + d := ⟨s - d, by omega⟩
  have ue : 2 ^ e ≤ u := us.resolve_left (by omega)
  have pk := p2 k
  have near1 : 2 * X ≤ x + 2 ^ k := by
    have := near.1
    rw [Int.pow_add, ← Int.add_mul] at this
    exact Int.le_of_mul_le_mul_right this pd
  have near2 : x - 2 ^ k ≤ 2 * X := by
    have := near.2
    rw [Int.pow_add, ← Int.sub_mul] at this
    exact Int.le_of_mul_le_mul_right this pd
  have uX : u * 2 ^ k ≤ X := by
    rw [Int.pow_add, ← Int.mul_assoc] at hu
    exact Int.le_of_mul_le_mul_right hu pd
  have ux : 2 * (u * 2 ^ k) ≤ x := by
    rw [Int.pow_add, ← Int.mul_assoc u, ← Int.mul_assoc 2] at yu
    exact Int.le_of_mul_le_mul_right yu pd
  have lu : (2 : Int) ^ (e + k) ≤ u * 2 ^ k := mul_pow_ge ue
  have tk : e + k + 1 < f + 2 + t := by
    refine pow_lt_iff (Int.lt_of_le_of_lt ?_ (mul_pow_lt (a := t) z1))
    rw [pow_s, ← hx]; omega
  have fx : (2 : Int) ^ f ≤ X := by
    have := two_le_pow (show f ≤ e + k by omega); omega
  -- the lesser one is little
  have jk : j + 1 ≤ k := by
    rcases Nat.lt_or_ge k (j + 1) with w | w
    · exfalso
      obtain ⟨m, m1, m2, m3⟩ : ∃ m, k < m ∧ m ≤ j + 1 ∧ m ≤ t := ⟨k + 1, by omega, by omega, by omega⟩
      have e1 : 2 * X = (n1 * 2 ^ (i - j) + n2) * 2 ^ (j + 1) := by
        have : n1 * 2 ^ i = n1 * 2 ^ (i - j) * 2 ^ j := by rw [Int.mul_assoc, ← Int.pow_add, Nat.sub_add_cancel hij]
        rw [hX, this, ← Int.add_mul, pow_s]; grind
      have q : (n1 * 2 ^ (i - j) + n2) * 2 ^ (j + 1) ≠ z * 2 ^ t := by rw [← e1, ← hx]; exact ne
      have dp := diff_pow q m2 m3
      rw [← e1, ← hx] at dp
      have := two_lt_pow m1
      rcases dp with v | v <;> omega
    · exact w
  have b1 : n2 * 2 ^ j < 2 ^ (f + 1 + j) := mul_pow_lt n21
  have b2 : -(n2 * 2 ^ j) < 2 ^ (f + 1 + j) := by rw [← Int.neg_mul]; exact mul_pow_lt (by omega)
  have b3 := two_le_pow (show f + 1 + j + 1 ≤ f + 1 + k by omega)
  rw [pow_s] at b3
  have b4 := two_le_pow (show f + 1 + k + 1 + 1 ≤ e + k by omega)
  rw [pow_s, pow_s] at b4
  -- the greater one's power
  have ik : e + k < f + 1 + i + 1 := by
    refine pow_lt_iff ?_
    have a1 := mul_pow_lt (a := i) n10
    rw [pow_s]
    omega
  refine ⟨?_, fx⟩
  rcases Classical.em (n1 * 2 ^ (i + 1) = z * 2 ^ t) with v | v
  · rw [hx, ← v, pow_s]; grind
  · exfalso
    have dp := diff_pow v (m := e + k - f) (by omega) (by omega)
    rw [← hx] at dp
    have e2 : n1 * 2 ^ (i + 1) = 2 * (n1 * 2 ^ i) := by rw [pow_s]; grind
    rw [e2] at dp
    have b5 := two_le_pow (show f + 1 + k + 1 ≤ e + k - f by omega)
    rw [pow_s] at b5
    have b6 := two_le_pow (show k ≤ f + 1 + k by omega)
    have b7 : 2 * (n2 * 2 ^ j) < 2 ^ (f + 1 + k) := by omega
    have b8 : -(2 ^ (f + 1 + k)) < 2 * (n2 * 2 ^ j) := by omega
    have b9 := two_le_pow (show k + 1 ≤ f + 1 + k by omega)
    rw [pow_s] at b9
    rcases dp with y | y <;> omega
end Pg

namespace Pg
open PySem L2 Rm
open PySem.Builtin.Int (intBits)
/-! the wide size's answers go back to the narrow size's (needs dblx, divp, rtp, addpf, mulpf, chfr) -/
theorem lv_of (e : Nat) {x : Int} {q : Nat} (x0 : 0 ≤ x) (x1 : x < 2 ^ (e + 1)) : ∃ p : Int, 0 ≤ p ∧ lv e p = x * 2 ^ q := by
  obtain ⟨c, c0, h1, h2⟩ := lv_floor e (V := x * 2 ^ q) (Int.mul_nonneg x0 (Int.le_of_lt (p2 q)))
  exact ⟨c, c0, (lv_exact (x := x) (q := q) c0 rfl x0 x1 h1 h2).symm⟩
theorem lv_self (f : Nat) : lv f (2 ^ f) = 2 ^ f := by
  have pf := p2 f
  have := lv_cut (f := f) (s := 0) (u := 2 ^ f) (by omega) (by rw [pow_s]; omega) (.inl rfl)
  simpa using this
theorem lv_two (f : Nat) {c : Int} (c0 : 0 ≤ c) : ∃ (s : Nat) (u : Int), lv f c = u * 2 ^ s ∧ lv f (c + 1) = (u + 1) * 2 ^ s ∧ 0 ≤ u ∧ u < 2 ^ (f + 1) ∧ (s = 0 ∨ 2 ^ f ≤ u) := by
  obtain ⟨s, u, e, u0, u1, us⟩ := code_su f c0
  exact ⟨s, u, by rw [e]; exact lv_cut u0 (by omega) us, by rw [e, Int.add_assoc]; exact lv_cut (by omega) (by omega) (by omega), u0, u1, us⟩
theorem half_lv {f : Nat} {x : Int} (h : ∃ a : Int, 0 ≤ a ∧ (x = 2 * lv f a ∨ x = lv f a + lv f (a + 1))) : ∃ (z : Int) (t : Nat), x = z * 2 ^ t ∧ 0 ≤ z ∧ z < 2 ^ (f + 2) := by
  obtain ⟨a, a0, h⟩ := h
  obtain ⟨s, u, e1, e2, u0, u1, _⟩ := lv_two f a0
  have ef := pow_s (f + 1)
  rcases h with h | h
  · exact ⟨2 * u, s, by rw [h, e1, Int.mul_assoc], by omega, by rw [show f + 2 = f + 1 + 1 from rfl]; omega⟩
  · exact ⟨2 * u + 1, s, by rw [h, e1, e2]; grind, by omega, by rw [show f + 2 = f + 1 + 1 from rfl]; omega⟩
theorem near_fr {e : Nat} {V B M F2 cm rm : Int} (hB : 0 < B) (W : Cut e (fun x => x * B ≤ 2 * V) (fun x => x * B < 2 * V) cm rm) (hm : (stE M F2 cm rm).1 < M) :
    ∃ (s : Nat) (u : Int), (s = 0 ∨ 2 ^ e ≤ u) ∧ 0 ≤ u ∧ u < 2 ^ (e + 1) ∧ (lv e (stE M F2 cm rm).1 = u * 2 ^ s ∨ lv e (stE M F2 cm rm).1 = (u + 1) * 2 ^ s) ∧ u * 2 ^ s * B ≤ V ∧
      2 * V ≤ (2 * lv e (stE M F2 cm rm).1 + 2 ^ s) * B ∧ (2 * lv e (stE M F2 cm rm).1 - 2 ^ s) * B ≤ 2 * V := by
  obtain ⟨s, u, e1, e2, u0, u1, us⟩ := lv_two e W.c0
  have ps := p2 s
  have lo := W.lo
  rw [e1, Int.mul_assoc 2] at lo
  have gs : 0 < 2 ^ s * B := Int.mul_pos ps hB
  refine ⟨s, u, us, u0, u1, ?_⟩
  rcases stE_near (mono_fr V hB) W hm with ⟨h, h1, h2⟩ | ⟨h, h1, h2⟩
  · rw [h]
    rw [e1, e2] at h2
    have e3 : (u * 2 ^ s + (u + 1) * 2 ^ s) * B = (2 * (u * 2 ^ s) + 2 ^ s) * B := by grind
    rw [e3] at h2
    rw [e1]
    refine ⟨.inl rfl, by omega, by omega, ?_⟩
    rw [Int.sub_mul, Int.mul_assoc 2]
    omega
  · rw [h, e2]
    rw [e1, e2] at h1
    rw [e2] at h2
    have e3 : (u * 2 ^ s + (u + 1) * 2 ^ s) * B = (2 * ((u + 1) * 2 ^ s) - 2 ^ s) * B := by grind
    rw [e3] at h1
    refine ⟨.inr rfl, by omega, ?_, h1⟩
    rw [Int.add_mul]
    omega
theorem near_sq {e : Nat} {Q M F2 cm rm : Int} (W : Cut e (fun x => x * x ≤ 4 * Q) (fun x => x * x < 4 * Q) cm rm) (hm : (stE M F2 cm rm).1 < M) :
    ∃ (s : Nat) (u : Int), (s = 0 ∨ 2 ^ e ≤ u) ∧ 0 ≤ u ∧ u < 2 ^ (e + 1) ∧ (lv e (stE M F2 cm rm).1 = u * 2 ^ s ∨ lv e (stE M F2 cm rm).1 = (u + 1) * 2 ^ s) ∧ u * 2 ^ s * (u * 2 ^ s) ≤ Q ∧
      4 * Q ≤ (2 * lv e (stE M F2 cm rm).1 + 2 ^ s) * (2 * lv e (stE M F2 cm rm).1 + 2 ^ s) ∧ (2 * lv e (stE M F2 cm rm).1 * (2 * lv e (stE M F2 cm rm).1) ≤ 4 * Q ∨ (2 * lv e (stE M F2 cm rm).1 - 2 ^ s) * (2 * lv e (stE M F2 cm rm).1 - 2 ^ s) ≤ 4 * Q) := by
  obtain ⟨s, u, e1, e2, u0, u1, us⟩ := lv_two e W.c0
  have ps := p2 s
  have up := Int.mul_nonneg u0 (Int.le_of_lt ps)
  have lo := W.lo
  try dsimp only at lo
  rw [e1, show 2 * (u * 2 ^ s) * (2 * (u * 2 ^ s)) = 4 * (u * 2 ^ s * (u * 2 ^ s)) by grind] at lo
  refine ⟨s, u, us, u0, u1, ?_⟩
  rcases stE_near (mono_sq Q) W hm with ⟨h, h1, h2⟩ | ⟨h, h1, h2⟩
  · rw [h]
    rw [e1, e2] at h2
    have e3 : u * 2 ^ s + (u + 1) * 2 ^ s = 2 * (u * 2 ^ s) + 2 ^ s := by grind
    rw [e3] at h2
    rw [e1] at h1 ⊢
    exact ⟨.inl rfl, by omega, by omega, .inl h1⟩
  · rw [h, e2]
    rw [e1, e2] at h1
    rw [e2] at h2
    have e3 : u * 2 ^ s + (u + 1) * 2 ^ s = 2 * ((u + 1) * 2 ^ s) - 2 ^ s := by grind
    rw [e3] at h1
    refine ⟨.inr rfl, by omega, ?_, .inr h1⟩
    have l0 : 0 ≤ (u + 1) * 2 ^ s := Int.mul_nonneg (by omega) (Int.le_of_lt ps)
    have := sq_le (a := 2 * ((u + 1) * 2 ^ s)) (b := 2 * ((u + 1) * 2 ^ s) + 2 ^ s) (by omega) (by omega)
    omega
theorem Fr.cutD {f : Nat} {V B c r D : Int} (F : Fr f V B c r) (d0 : 0 < D) : Cut f (fun x => x * D * B ≤ 2 * (V * D)) (fun x => x * D * B < 2 * (V * D)) c r := by
  have F2 := F.cut
  have e (x : Int) : x * D * B = x * B * D := by rw [Int.mul_assoc, Int.mul_comm D, ← Int.mul_assoc]
  have e2 : 2 * (V * D) = 2 * V * D := (Int.mul_assoc ..).symm
  have l (x : Int) : (x * D * B ≤ 2 * (V * D)) ↔ x * B ≤ 2 * V := by rw [e, e2]; exact Int.mul_le_mul_right d0
  have s (x : Int) : (x * D * B < 2 * (V * D)) ↔ x * B < 2 * V := by rw [e, e2]; exact Int.mul_lt_mul_right d0
  refine ⟨F2.c0, (l _).mpr F2.lo, fun q => F2.hi ((l _).mp q), ?_⟩
  try dsimp only
  rw [l, s, s]
  exact F2.rst
theorem RFr.cutD {f : Nat} {Q c r D : Int} (F : RFr f Q c r) (d0 : 0 < D) : Cut f (fun x => x * D * (x * D) ≤ 4 * (Q * (D * D))) (fun x => x * D * (x * D) < 4 * (Q * (D * D))) c r := by
  have F2 := F.cut
  have dd := Int.mul_pos d0 d0
  have e (x : Int) : x * D * (x * D) = x * x * (D * D) := by grind
  have e2 : 4 * (Q * (D * D)) = 4 * Q * (D * D) := (Int.mul_assoc ..).symm
  have l (x : Int) : (x * D * (x * D) ≤ 4 * (Q * (D * D))) ↔ x * x ≤ 4 * Q := by rw [e, e2]; exact Int.mul_le_mul_right dd
  have s (x : Int) : (x * D * (x * D) < 4 * (Q * (D * D))) ↔ x * x < 4 * Q := by rw [e, e2]; exact Int.mul_lt_mul_right dd
  refine ⟨F2.c0, (l _).mpr F2.lo, fun q => F2.hi ((l _).mp q), ?_⟩
  try dsimp only
  rw [l, s, s]
  exact F2.rst
/-- the wide answer q', changed back, is q, and so are the flags -/
def Bk (w f v e : Nat) (q' q : Int × Int) : Prop := ∀ (n : Nat) (h : HP), ∃ y : Int, run p.T p.fs (n + 6) 30 [.tup [.int v, .int e], .tup [.int w, .int f], .str (wayN 0), .int q'.1] h = .ok (.tup [.int q.1, .int y]) h ∧ Builtin.bitOr q'.2 y = q.2
theorem bits64 {n : Nat} {s c : Int} (hs : s = 0 ∨ s = 1) (c0 : 0 ≤ c) (c1 : c < 2 ^ n) : 0 ≤ s * 2 ^ n + c ∧ s * 2 ^ n + c < 2 ^ (n + 1) ∧ (s * 2 ^ n + c) / 2 ^ n = s ∧ (s * 2 ^ n + c) % 2 ^ n = c := by
  have e := pow_s n
  have h := (Int.ediv_emod_unique (a := s * 2 ^ n + c) (b := 2 ^ n) (r := c) (q := s) (p2 n)).mpr ⟨by rw [Int.mul_comm]; omega, c0, c1⟩
  refine ⟨?_, ?_, h.1, h.2⟩ <;> rcases hs with z | z <;> rw [z] <;> omega
theorem noN_mod (v e : Nat) (v2 : 2 ≤ v) (e1 : 1 ≤ e) : 0 ≤ noN v e ∧ noN v e < 2 ^ (v + e) ∧ 2 ^ (v + e) - 2 ^ e < noN v e % 2 ^ (v + e) := by
  have pe := p2 e
  have pe1 := p2 (e - 1)
  have eF : (2 : Int) ^ e = 2 * 2 ^ (e - 1) := by rw [← pow_s, Nat.sub_add_cancel e1]
  have E3 := end_3 (f := e) v2
  have m : noN v e % 2 ^ (v + e) = noN v e := Int.emod_eq_of_lt (by unfold noN; omega) (by unfold noN; omega)
  rw [m]
  unfold noN; omega
section
variable {w f v e : Nat} (hw2 : 2 ≤ w) (hf1 : 1 ≤ f) (hv : w + 2 ≤ v) (hv2 : v ≤ 15) (he : 2 * f + 4 ≤ e) (he2 : e ≤ 112)
include hw2 hf1 hv hv2 he he2
theorem dd_ok : ∃ d : Nat, stp0 v e = stp0 w f + d ∧ e + 6 ≤ f + d ∧ f + 2 ^ w ≤ stp0 v e ∧ 2 * stp0 w f ≤ stp0 v e ∧ e ≤ stp0 v e ∧ lv f (2 ^ (w + f) - 2 ^ f) * 2 ^ d ≤ lv e (2 ^ (v + e) - 2 ^ e - 1) := by
  have s1 := stp_eq (f := f) hw2
  have s2 := stp_eq (w := v) (f := e) (by omega)
  have a1 := two_le_pow (show w - 1 + 2 ≤ v - 1 by omega)
  rw [Int.pow_add, show (2 : Int) ^ 2 = 4 from rfl] at a1
  have a2 := two_le_pow (show 1 ≤ w - 1 by omega)
  rw [Int.pow_one] at a2
  have ew : (2 : Int) ^ w = 2 * 2 ^ (w - 1) := by rw [← pow_s, Nat.sub_add_cancel (by omega)]
  have ev : (2 : Int) ^ v = 2 * 2 ^ (v - 1) := by rw [← pow_s, Nat.sub_add_cancel (by omega)]
  have cw : ((2 ^ w : Nat) : Int) = 2 ^ w := by simp
  refine ⟨stp0 v e - stp0 w f, by omega, by omega, by omega, by omega, by omega, ?_⟩
  have pe := p2 e
  have l1 := lv_cut (f := e) (s := ((2 : Int) ^ v - 3).toNat) (u := 2 ^ e) (by omega) (by rw [pow_s]; omega) (.inr (Int.le_refl _))
  have e1 : (((2 : Int) ^ v - 3).toNat : Int) * 2 ^ e + 2 ^ e = 2 ^ (v + e) - 2 ^ e - 2 ^ e := by
    rw [show ((((2 : Int) ^ v - 3).toNat : Nat) : Int) = 2 ^ v - 3 by omega, Int.sub_mul, ← Int.pow_add]; omega
  rw [e1] at l1
  have E3 := end_3 (w := v) (f := e) (by omega)
  have l2 := lv_le (f := e) (a := 2 ^ (v + e) - 2 ^ e - 2 ^ e) (b := 2 ^ (v + e) - 2 ^ e - 1) (by omega) (by omega)
  rw [lv_last (by omega), ← Int.pow_add, ← Int.pow_add]
  rw [l1, ← Int.pow_add] at l2
  exact Int.le_trans (two_le_pow (by omega)) l2
theorem bk_none {fl : Int} (hfl : Builtin.bitOr fl 0 = fl) : Bk w f v e (noN v e, fl) (noN w f, fl) := by
  intro n h
  have nm := noN_mod v e (by omega) (by omega)
  have := s_changed_none v e w f (by omega) hv2 (by omega) he2 hw2 (by omega) hf1 (by omega) (n + 2) h 0 (by decide) nm.1 (by have := pow_s (v + e); omega) nm.2.2
  exact ⟨0, this, hfl⟩
theorem bk_end {s fl : Int} (hs : s = 0 ∨ s = 1) (hfl : Builtin.bitOr fl 0 = fl) : Bk w f v e (s * 2 ^ (v + e) + (2 ^ (v + e) - 2 ^ e), fl) (s * 2 ^ (w + f) + (2 ^ (w + f) - 2 ^ f), fl) := by
  intro n h
  have E3 := end_3 (w := v) (f := e) (by omega)
  have EL := end_lt (w := v) (f := e)
  have pe := p2 e
  obtain ⟨b2, b3, b4, b5⟩ := bits64 (n := v + e) hs (c := 2 ^ (v + e) - 2 ^ e) (by omega) (by omega)
  have := s_changed_end v e w f (by omega) hv2 (by omega) he2 hw2 (by omega) hf1 (by omega) (n + 2) h 0 (by decide) b2 b3 b5
  rw [b4] at this
  exact ⟨0, this, hfl⟩
theorem bk_num {s c : Int} (hs : s = 0 ∨ s = 1) (c0 : 0 ≤ c) (c1 : c < 2 ^ (v + e) - 2 ^ e) {d : Nat} (hd : stp0 v e = stp0 w f + d) (n : Nat) (h : HP) : ∃ c2 r2 : Int, Cut f (fun x => x * 2 ^ d ≤ 2 * lv e c) (fun x => x * 2 ^ d < 2 * lv e c) c2 r2 ∧
    run p.T p.fs (n + 6) 30 [.tup [.int v, .int e], .tup [.int w, .int f], .str (wayN 0), .int (s * 2 ^ (v + e) + c)] h = .ok (.tup [.int (s * 2 ^ (w + f) + (stE (2 ^ (w + f) - 2 ^ f) (2 ^ f) c2 r2).1), .int (stE (2 ^ (w + f) - 2 ^ f) (2 ^ f) c2 r2).2]) h := by
  have EL := end_lt (w := v) (f := e)
  obtain ⟨b2, b3, b4, b5⟩ := bits64 (n := v + e) hs c0 (show c < 2 ^ (v + e) by omega)
  obtain ⟨c2, r2, F, ec⟩ := s_changed_fr v e w f (by omega) hv2 (by omega) he2 hw2 (by omega) hf1 (by omega) n h 0 (by decide) b2 b3 (by rw [b5]; exact c1)
  rw [b5] at F
  rw [b4, stl_even] at ec
  refine ⟨c2, r2, ?_, ec⟩
  have pq := p2 (stp0 w f)
  rw [hd, Int.pow_add, Int.mul_comm (2 ^ stp0 w f)] at F
  have F4 : Fr f (lv e c) (2 ^ d) c2 r2 := by
    refine ⟨F.c0, p2 d, ?_, ?_, ?_⟩
    · have := F.lo
      rw [← Int.mul_assoc] at this
      exact Int.le_of_mul_le_mul_right this pq
    · have := F.hi
      rw [← Int.mul_assoc] at this
      exact Int.lt_of_mul_lt_mul_right this (Int.le_of_lt pq)
    · have := F.rst
      rw [← Int.mul_assoc, ← Int.mul_assoc, ← Int.sub_mul, rs_mulI _ _ pq] at this
      exact this
  exact F4.cut
theorem bk_zero {s : Int} (hs : s = 0 ∨ s = 1) : Bk w f v e (s * 2 ^ (v + e), 0) (s * 2 ^ (w + f), 0) := by
  intro n h
  obtain ⟨d, hd, _⟩ := dd_ok hw2 hf1 hv hv2 he he2
  have E3 := end_3 (w := v) (f := e) (by omega)
  have E3' := end_3 (w := w) (f := f) hw2
  have pe := p2 e
  have pf := p2 f
  obtain ⟨c2, r2, F, ec⟩ := bk_num hw2 hf1 hv hv2 he he2 hs (c := 0) (by omega) (by omega) hd n h
  have l1 := lv_lt (f := f) (a := 0) (b := 1) (by decide) (by decide)
  have q : c2 = 0 ∧ r2 = 0 := F.uniq ((mono_int (2 * lv e 0)).scale (p2 d)) ⟨by decide, by (try dsimp only); rw [lv_zero, lv_zero]; simp, by
    try dsimp only
    rw [lv_zero e]
    have : 0 < 2 * lv f (0 + 1) * 2 ^ d := Int.mul_pos (by rw [lv_zero] at l1; rw [Int.zero_add]; omega) (p2 d)
    omega, .inl ⟨rfl, by (try dsimp only); rw [lv_zero, lv_zero]; simp⟩⟩
  rw [q.1, q.2] at ec
  have st : stE (2 ^ (w + f) - 2 ^ f) (2 ^ f) 0 0 = (0, 0) := by unfold stE; rw [if_neg (by omega)]; simp
  rw [st] at ec
  simp only [Int.add_zero] at ec
  exact ⟨0, ec, (by decide : Builtin.bitOr 0 0 = 0)⟩
/-- the rounded ones -/
theorem bk_fin {L S : Int → Prop} (m : Mono L S) {s cg rg cm rm : Int} (hs : s = 0 ∨ s = 1) {d : Nat} (hd : stp0 v e = stp0 w f + d) (h6 : e + 6 ≤ f + d) (hE : lv f (2 ^ (w + f) - 2 ^ f) * 2 ^ d ≤ lv e (2 ^ (v + e) - 2 ^ e - 1))
    (G : Cut f (fun x => L (x * 2 ^ d)) (fun x => S (x * 2 ^ d)) cg rg) (W : Cut e L S cm rm)
    (key : (stE (2 ^ (v + e) - 2 ^ e) (2 ^ e) cm rm).1 < 2 ^ (v + e) - 2 ^ e → ∀ x : Int, (∃ a : Int, 0 ≤ a ∧ (x = 2 * lv f a ∨ x = lv f a + lv f (a + 1))) → 2 * lv e (stE (2 ^ (v + e) - 2 ^ e) (2 ^ e) cm rm).1 = x * 2 ^ d →
      (L (x * 2 ^ d) ∧ ¬ S (x * 2 ^ d)) ∨ ∃ a : Int, 0 ≤ a ∧ a < 2 ^ (w + f) - 2 ^ f ∧ x = 2 * lv f a ∧ 2 ^ f ≤ cg) :
    Bk w f v e (s * 2 ^ (v + e) + (stl v e 0 s cm rm).1, (stl v e 0 s cm rm).2) (s * 2 ^ (w + f) + (stl w f 0 s cg rg).1, (stl w f 0 s cg rg).2) := by
  have E3 := end_3 (w := v) (f := e) (by omega)
  have E3' := end_3 (w := w) (f := f) hw2
  have pe := p2 e
  have pf := p2 f
  rw [stl_even, stl_even]
  have hF : (2 : Int) ^ f ≤ cg → (2 : Int) ^ e ≤ cm := fun h => by
    refine W.le m (Int.le_of_lt pe) ?_
    have l1 := lv_le (f := f) (Int.le_of_lt pf) h
    have l2 := Int.mul_le_mul_of_nonneg_right l1 (Int.le_of_lt (p2 d))
    rw [lv_self, ← Int.pow_add] at l2
    have l3 := two_le_pow (show e ≤ f + d by omega)
    refine m.l _ _ (by rw [lv_self]; omega) ?_ G.lo
    rw [lv_self, Int.mul_assoc]
    omega
  have emb (a : Int) (a0 : 0 ≤ a) : ∃ p : Int, 0 ≤ p ∧ lv e p = lv f a * 2 ^ d := lv_emb (by omega) a0
  have embh (a : Int) (a0 : 0 ≤ a) : ∃ p : Int, 0 ≤ p ∧ 2 * lv e p = (lv f a + lv f (a + 1)) * 2 ^ d := by
    obtain ⟨t, u, e1, e2, u0, u1, _⟩ := lv_two f a0
    have xf := two_le_pow (show f + 1 + 1 ≤ e + 1 by omega)
    rw [pow_s (f + 1)] at xf
    obtain ⟨p, p0, hp⟩ := lv_of e (x := 2 * u + 1) (q := t + (d - 1)) (by omega) (by omega)
    refine ⟨p, p0, ?_⟩
    have e3 : (2 : Int) ^ d = 2 * 2 ^ (d - 1) := by rw [← pow_s, Nat.sub_add_cancel (by omega)]
    rw [hp, e1, e2, e3, Int.pow_add]; grind
  rcases two_even m (p2 d) (Int.le_of_lt pf) (show (2 : Int) ^ f < 2 ^ (w + f) - 2 ^ f by omega) (show 1 ≤ (2 : Int) ^ (v + e) - 2 ^ e by omega) hE emb embh G W hF key with ⟨h1, h2, h3⟩ | ⟨h1, h2, h3⟩
  · rw [h1, h2, h3]
    exact bk_end hw2 hf1 hv hv2 he he2 hs (by decide)
  · intro n h
    obtain ⟨c2, r2, K, ec⟩ := bk_num hw2 hf1 hv hv2 he he2 hs h1 h2 hd n h
    obtain ⟨q1, q2⟩ := h3 c2 r2 K
    rw [q1] at ec
    exact ⟨_, ec, q2⟩
end
end Pg

namespace Pg
open PySem L2 Rm
open PySem.Builtin.Int (intBits)
/-! each deed done in the wide size (needs wide64) -/
inductive Kd (w f v e d : Nat) (a a' : Int) : Prop
  | none (h : 2 ^ (w + f) - 2 ^ f < a % 2 ^ (w + f)) (h' : 2 ^ (v + e) - 2 ^ e < a' % 2 ^ (v + e))
  | en (h : a % 2 ^ (w + f) = 2 ^ (w + f) - 2 ^ f) (h' : a' % 2 ^ (v + e) = 2 ^ (v + e) - 2 ^ e) (g : a' / 2 ^ (v + e) = a / 2 ^ (w + f))
  | fin (h : a % 2 ^ (w + f) < 2 ^ (w + f) - 2 ^ f) (h' : a' % 2 ^ (v + e) < 2 ^ (v + e) - 2 ^ e) (g : a' / 2 ^ (v + e) = a / 2 ^ (w + f)) (l : lv e (a' % 2 ^ (v + e)) = lv f (a % 2 ^ (w + f)) * 2 ^ d)
structure Wd (w f v e d : Nat) (a a' : Int) : Prop where
  a0 : 0 ≤ a
  a1 : a < 2 ^ (w + f + 1)
  b0 : 0 ≤ a'
  b1 : a' < 2 ^ (v + e + 1)
  k : Kd w f v e d a a'
theorem sg01 {n : Nat} {a : Int} (a0 : 0 ≤ a) (a1 : a < 2 ^ (n + 1)) : a / 2 ^ n = 0 ∨ a / 2 ^ n = 1 := by
  have q0 := dn n a0
  have q1 : a / 2 ^ n < 2 ^ 1 := div_lt_pow (m := 1) (by rw [Nat.add_comm 1]; exact a1)
  omega
theorem sumP_en2 (w f k N : Nat) (s t : Int) : sumP w f k N [.en s, .en t] = if 0 ∈ [s, t] ∧ 1 ∈ [s, t] then (noN w f, 16) else (s * 2 ^ (w + f) + (2 ^ (w + f) - 2 ^ f), 0) := by
  simp [sumP, hasWr, ens]
theorem sumP_en1 (w f k N : Nat) (s : Int) (t : T3) : sumP w f k N [.en s, .fin t] = (s * 2 ^ (w + f) + (2 ^ (w + f) - 2 ^ f), 0) := by
  unfold sumP
  rw [if_neg ?_]
  · rfl
  · rintro (q | ⟨q1, q2⟩)
    · cases q
    · have e0 : (0 : Int) = s := by simpa [ens] using q1
      have e1 : (1 : Int) = s := by simpa [ens] using q2
      omega
theorem sumP_en3 (w f k N : Nat) (s : Int) (t : T3) : sumP w f k N [.fin t, .en s] = (s * 2 ^ (w + f) + (2 ^ (w + f) - 2 ^ f), 0) := by
  unfold sumP
  rw [if_neg ?_]
  · rfl
  · rintro (q | ⟨q1, q2⟩)
    · cases q
    · have e0 : (0 : Int) = s := by simpa [ens] using q1
      have e1 : (1 : Int) = s := by simpa [ens] using q2
      omega
theorem sumP_e1 (w f k N : Nat) (s : Int) : sumP w f k N [.en s] = (s * 2 ^ (w + f) + (2 ^ (w + f) - 2 ^ f), 0) := by
  unfold sumP
  rw [if_neg ?_]
  · rfl
  · rintro (q | ⟨q1, q2⟩)
    · cases q
    · have e0 : (0 : Int) = s := by simpa [ens] using q1
      have e1 : (1 : Int) = s := by simpa [ens] using q2
      omega
theorem sumP_w1 (w f k N : Nat) : sumP w f k N [.wr] = (noN w f, 16) := by simp [sumP, hasWr]
theorem tm_en {w f : Nat} {a : Int} (h : a % 2 ^ (w + f) = 2 ^ (w + f) - 2 ^ f) : tmOf w f a = .en (a / 2 ^ (w + f)) := by unfold tmOf; rw [if_pos h]
theorem tm_fi {w f : Nat} {a : Int} (h : a % 2 ^ (w + f) < 2 ^ (w + f) - 2 ^ f) : tmOf w f a = .fin (wt w f a) := by unfold tmOf; rw [if_neg (by omega)]; rfl
theorem no_y {w f : Nat} {a : Int} (h : 2 ^ (w + f) - 2 ^ f < a % 2 ^ (w + f)) : noneB w f a = true := by unfold noneB; simpa using h
theorem no_n {w f : Nat} {a : Int} (h : a % 2 ^ (w + f) ≤ 2 ^ (w + f) - 2 ^ f) : ¬ noneB w f a = true := by unfold noneB; simp; omega
section
variable {w f v e d : Nat} (hw2 : 2 ≤ w) (hf1 : 1 ≤ f) (hv : w + 2 ≤ v) (hv2 : v ≤ 15) (he : 2 * f + 4 ≤ e) (he2 : e ≤ 112) (hd : stp0 v e = stp0 w f + d) (h6 : e + 6 ≤ f + d) (hS : f + 2 ^ w ≤ stp0 v e) (h2S : 2 * stp0 w f ≤ stp0 v e) (hE : lv f (2 ^ (w + f) - 2 ^ f) * 2 ^ d ≤ lv e (2 ^ (v + e) - 2 ^ e - 1))
include hw2 hf1 hv hv2 he he2 hd h6 hS h2S hE
theorem s_up {a : Int} (a0 : 0 ≤ a) (a1 : a < 2 ^ (w + f + 1)) : ∃ a' : Int, Wd w f v e d a a' ∧ ∀ (n : Nat) (h : HP), run p.T p.fs (n + 6) 30 [.tup [.int w, .int f], .tup [.int v, .int e], .str (wayN 0), .int a] h = .ok (.tup [.int a', .int 0]) h := by
  have s01 := sg01 a0 a1
  have cm := mn a (w + f)
  have E3 := end_3 (w := v) (f := e) (by omega)
  have EL := end_lt (w := v) (f := e)
  have pe := p2 e
  rcases Int.lt_trichotomy (a % 2 ^ (w + f)) (2 ^ (w + f) - 2 ^ f) with z | z | z
  · obtain ⟨p, p0, hp⟩ := lv_emb (f := f) (f' := e) (d := d) (by omega) cm.1
    have pM : p < 2 ^ (v + e) - 2 ^ e - 1 := by
      refine lv_lt_iff (f := e) p0 (by omega) ?_
      rw [hp]
      exact Int.lt_of_lt_of_le (Int.mul_lt_mul_of_pos_right (lv_lt cm.1 z) (p2 d)) hE
    obtain ⟨b2, b3, b4, b5⟩ := bits64 (n := v + e) s01 p0 (show p < 2 ^ (v + e) by omega)
    refine ⟨_, ⟨a0, a1, b2, b3, .fin z (by rw [b5]; omega) b4 (by rw [b5]; exact hp)⟩, fun n h => ?_⟩
    obtain ⟨c, r, F, ec⟩ := s_changed_fr w f v e hw2 (by omega) hf1 (by omega) (by omega) hv2 (by omega) he2 n h 0 (by decide) a0 a1 z
    obtain ⟨q1, q2⟩ := F.exact p0 (by rw [hp, hd, show (2 : Int) ^ (stp0 w f + d) = 2 ^ stp0 w f * 2 ^ d from Int.pow_add .., Int.mul_assoc, Int.mul_comm (2 ^ d)])
    rw [q1, q2, stl_exact (by omega)] at ec
    exact ec
  · obtain ⟨b2, b3, b4, b5⟩ := bits64 (n := v + e) s01 (c := 2 ^ (v + e) - 2 ^ e) (by omega) (by omega)
    exact ⟨_, ⟨a0, a1, b2, b3, .en z b5 b4⟩, fun n h => s_changed_end w f v e hw2 (by omega) hf1 (by omega) (by omega) hv2 (by omega) he2 (n + 2) h 0 (by decide) a0 a1 z⟩
  · have nm := noN_mod v e (by omega) (by omega)
    have eT := pow_s (v + e)
    exact ⟨noN v e, ⟨a0, a1, nm.1, by omega, .none z nm.2.2⟩, fun n h => s_changed_none w f v e hw2 (by omega) hf1 (by omega) (by omega) hv2 (by omega) he2 (n + 2) h 0 (by decide) a0 a1 z⟩
theorem code_f {c g : Int} (h : (2 : Int) ^ f ≤ c) (hg : lv f c < lv f (g + 1)) (g0 : 0 ≤ g) : (2 : Int) ^ f ≤ g := by
  have := lv_lt_iff (f := f) (a := c) (b := g + 1) (by have := p2 f; omega) (by omega) hg
  omega
theorem bk_add {X s0 : Int} {a b : Int} (hs : s0 = 0 ∨ s0 = 1) (ca : 0 ≤ a) (ca1 : a < 2 ^ (w + f) - 2 ^ f) (cb : 0 ≤ b) (cb1 : b < 2 ^ (w + f) - 2 ^ f) (hX : (X = lv f a + lv f b ∨ X = lv f a - lv f b) ∨ X = -lv f a + lv f b ∨ X = -lv f a - lv f b) :
    Bk w f v e (rdP v e 0 (X * 2 ^ d) 1 s0) (rdP w f 0 X 1 s0) := by
  have pd := p2 d
  unfold rdP
  by_cases z : X = 0
  · rw [if_pos z, if_pos (by rw [z, Int.zero_mul])]
    exact bk_zero hw2 hf1 hv hv2 he he2 hs
  have nz : ¬ X * 2 ^ d = 0 := fun q => z ((Int.mul_eq_zero.mp q).resolve_right (by omega))
  have sg : (if X * 2 ^ d < 0 then (1 : Int) else 0) = if X < 0 then 1 else 0 := by
    by_cases q : X < 0
    · have := Int.mul_lt_mul_of_pos_right q pd
      rw [if_pos q, if_pos (by omega)]
    · have := Int.mul_nonneg (show 0 ≤ X by omega) (Int.le_of_lt pd)
      rw [if_neg q, if_neg (by omega)]
  rw [if_neg z, if_neg nz, sg]
  have ab : ((X * 2 ^ d).natAbs : Int) = X.natAbs * 2 ^ d := by
    rw [Int.natAbs_mul, Int.natCast_mul]
    have : (((2 : Int) ^ d).natAbs : Int) = 2 ^ d := by omega
    rw [this]
  rw [ab]
  obtain ⟨Y, hY⟩ : ∃ Y : Int, (X.natAbs : Int) = Y := ⟨_, rfl⟩
  rw [hY]
  have Y0 : 0 < Y := by omega
  have Fn := frOf_ok (f := f) (V := Y) (B := 1) (by omega) (by decide)
  have Fw := frOf_ok (f := e) (V := Y * 2 ^ d) (B := 1) (Int.mul_nonneg (by omega) (by omega)) (by decide)
  have s01 : (if X < 0 then (1 : Int) else 0) = 0 ∨ (if X < 0 then (1 : Int) else 0) = 1 := by split <;> simp
  refine bk_fin hw2 hf1 hv hv2 he he2 (mono_fr (Y * 2 ^ d) (by decide)) s01 hd h6 hE (Fn.cutD pd) Fw.cut fun hm x hx hy => ?_
  obtain ⟨s, u, us, u0, u1, yu, uV, n1, n2⟩ := near_fr (by decide) Fw.cut hm
  rw [Int.mul_one] at uV n1 n2 
  by_cases q : 2 * Y = x
  · left
    rw [← q]
    exact ⟨by rw [Int.mul_one, Int.mul_assoc]; exact Int.le_refl _, by rw [Int.mul_one, Int.mul_assoc]; exact Int.lt_irrefl _⟩
  right
  obtain ⟨zz, t, ex, z0, z1⟩ := half_lv hx
  rw [hy] at n1 n2
  have yl : 2 * (u * 2 ^ s) ≤ x * 2 ^ d := by
    rw [← hy]
    have := p2 s
    have e3 := Int.add_mul u 1 (2 ^ s)
    rcases yu with w | w <;> rw [w] <;> omega
  -- the parts of the sum
  obtain ⟨i, na, ea, _, na0, na1, _⟩ := lv_two f ca
  obtain ⟨j, nb, eb, _, nb0, nb1, _⟩ := lv_two f cb
  have x0 : 0 ≤ x := by rw [ex]; exact Int.mul_nonneg z0 (Int.le_of_lt (p2 t))
  have pf := p2 (f + 1)
  obtain ⟨σ, τ, hσ, hτ, hYp⟩ : ∃ σ τ : Int, (σ = 1 ∨ σ = -1) ∧ (τ = 1 ∨ τ = -1) ∧ Y = σ * na * 2 ^ i + τ * nb * 2 ^ j := by
    rw [ea, eb] at hX
    rcases Int.lt_or_le X 0 with q0 | q0
    · have : Y = -X := by omega
      rcases hX with (h | h) | h | h
      · exact ⟨-1, -1, .inr rfl, .inr rfl, by rw [this, h]; grind⟩
      · exact ⟨-1, 1, .inr rfl, .inl rfl, by rw [this, h]; grind⟩
      · exact ⟨1, -1, .inl rfl, .inr rfl, by rw [this, h]; grind⟩
      · exact ⟨1, 1, .inl rfl, .inl rfl, by rw [this, h]; grind⟩
    · have : Y = X := by omega
      rcases hX with (h | h) | h | h
      · exact ⟨1, 1, .inl rfl, .inl rfl, by rw [this, h]; grind⟩
      · exact ⟨1, -1, .inl rfl, .inr rfl, by rw [this, h]; grind⟩
      · exact ⟨-1, 1, .inr rfl, .inl rfl, by rw [this, h]; grind⟩
      · exact ⟨-1, -1, .inr rfl, .inr rfl, by rw [this, h]; grind⟩
  have ra : -(2 ^ (f + 1)) < σ * na ∧ σ * na < 2 ^ (f + 1) := by rcases hσ with h | h <;> rw [h] <;> omega
  have rb : -(2 ^ (f + 1)) < τ * nb ∧ τ * nb < 2 ^ (f + 1) := by rcases hτ with h | h <;> rw [h] <;> omega
  have near : 2 * Y * 2 ^ d ≤ x * 2 ^ d + 2 ^ s ∧ x * 2 ^ d - 2 ^ s ≤ 2 * Y * 2 ^ d := by rw [Int.mul_assoc 2 Y]; omega
  have fin {c n : Int} {k : Nat} {σ : Int} (hσ : σ = 1 ∨ σ = -1) (c0 : 0 ≤ c) (c1 : c < 2 ^ (w + f) - 2 ^ f) (ec : lv f c = n * 2 ^ k) (n0 : 0 ≤ n) (h : x = 2 * (σ * n * 2 ^ k) ∧ 2 ^ f ≤ Y) : ∃ a : Int, 0 ≤ a ∧ a < 2 ^ (w + f) - 2 ^ f ∧ x = 2 * lv f a ∧ 2 ^ f ≤ (frOf f Y 1).1 := by
    refine ⟨c, c0, c1, ?_, ?_⟩
    · rw [ec]
      have l0 := Int.mul_nonneg n0 (Int.le_of_lt (p2 k))
      rcases hσ with g | g
      · rw [h.1, g, Int.one_mul]
      · have e4 : σ * n * 2 ^ k = -(n * 2 ^ k) := by rw [g]; grind
        rw [e4] at h
        omega
    · refine code_f hw2 hf1 hv hv2 he he2 hd h6 hS h2S hE (Int.le_refl (2 ^ f)) ?_ Fn.c0
      rw [lv_self]
      have := Fn.hi
      omega
  rcases Nat.le_total j i with ij | ij
  · exact fin hσ ca ca1 ea na0 (strict_sum1 he hf1 hYp ij ex z1 ra.2 rb.1 rb.2 us u0 yl uV (by omega) q near)
  · exact fin hτ cb cb1 eb nb0 (strict_sum1 he hf1 (by rw [hYp]; omega) ij ex z1 rb.2 ra.1 ra.2 us u0 yl uV (by omega) q near)
theorem bk_mul {X s0 : Int} {a b : Int} (hs : s0 = 0 ∨ s0 = 1) (ca : 0 ≤ a) (cb : 0 ≤ b) (hX : (X.natAbs : Int) = lv f a * lv f b) :
    Bk w f v e (rdP v e 0 (X * (2 ^ d * 2 ^ d)) (2 ^ stp0 v e) s0) (rdP w f 0 X (2 ^ stp0 w f) s0) := by
  have pd := p2 d
  have pdd := Int.mul_pos pd pd
  unfold rdP
  by_cases z : X = 0
  · rw [if_pos z, if_pos (by rw [z, Int.zero_mul])]
    exact bk_zero hw2 hf1 hv hv2 he he2 hs
  have nz : ¬ X * (2 ^ d * 2 ^ d) = 0 := fun q => z ((Int.mul_eq_zero.mp q).resolve_right (by omega))
  have sg : (if X * (2 ^ d * 2 ^ d) < 0 then (1 : Int) else 0) = if X < 0 then 1 else 0 := by
    by_cases q : X < 0
    · have := Int.mul_lt_mul_of_pos_right q pdd
      rw [if_pos q, if_pos (by omega)]
    · have := Int.mul_nonneg (show 0 ≤ X by omega) (Int.le_of_lt pdd)
      rw [if_neg q, if_neg (by omega)]
  rw [if_neg z, if_neg nz, sg]
  have ab : ((X * (2 ^ d * 2 ^ d)).natAbs : Int) = X.natAbs * 2 ^ d * 2 ^ d := by
    rw [Int.natAbs_mul, Int.natCast_mul, Int.mul_assoc]
    have : (((2 : Int) ^ d * 2 ^ d).natAbs : Int) = 2 ^ d * 2 ^ d := by omega
    rw [this]
  rw [ab]
  obtain ⟨Y, hY⟩ : ∃ Y : Int, (X.natAbs : Int) = Y := ⟨_, rfl⟩
  rw [hY] at hX ⊢
  have Y0 : 0 < Y := by omega
  have eB : (2 : Int) ^ stp0 v e = 2 ^ stp0 w f * 2 ^ d := by rw [hd, Int.pow_add]
  rw [eB]
  have bp := p2 (stp0 w f)
  have Fn := frOf_ok (f := f) (V := Y) (B := 2 ^ stp0 w f) (by omega) bp
  have bb := Int.mul_pos bp pd
  have Fw := frOf_ok (f := e) (V := Y * 2 ^ d * 2 ^ d) (B := 2 ^ stp0 w f * 2 ^ d) (Int.mul_nonneg (Int.mul_nonneg (by omega) (by omega)) (by omega)) bb
  have s01 : (if X < 0 then (1 : Int) else 0) = 0 ∨ (if X < 0 then (1 : Int) else 0) = 1 := by split <;> simp
  obtain ⟨i, na, ea, _, na0, na1, _⟩ := lv_two f ca
  obtain ⟨j, nb, eb, _, nb0, nb1, _⟩ := lv_two f cb
  have nn : na * nb < 2 ^ (e + 1) := by
    have h1 : na * nb ≤ 2 ^ (f + 1) * nb := Int.mul_le_mul_of_nonneg_right (by omega) nb0
    have h2 : 2 ^ (f + 1) * nb < 2 ^ (f + 1) * 2 ^ (f + 1) := Int.mul_lt_mul_of_pos_left nb1 (p2 _)
    rw [← Int.pow_add] at h2
    have := two_le_pow (show f + 1 + (f + 1) ≤ e + 1 by omega)
    omega
  obtain ⟨p, p0, hp⟩ := lv_of e (x := na * nb) (q := i + j + (d - stp0 w f)) (Int.mul_nonneg na0 nb0) nn
  have ds : stp0 w f ≤ d := by omega
  have ex : Y * 2 ^ d * 2 ^ d = lv e p * (2 ^ stp0 w f * 2 ^ d) := by
    have : (2 : Int) ^ d = 2 ^ (d - stp0 w f) * 2 ^ stp0 w f := by rw [← Int.pow_add, Nat.sub_add_cancel ds]
    rw [hX, ea, eb, hp, Int.pow_add, Int.pow_add]
    obtain ⟨P, hP⟩ : ∃ P : Int, (2 : Int) ^ d = P := ⟨_, rfl⟩
    rw [hP] at this ⊢
    have e5 : na * 2 ^ i * (nb * 2 ^ j) * P * P = na * nb * (2 ^ i * 2 ^ j) * P * P := by grind
    rw [e5]
    have e6 : na * nb * (2 ^ i * 2 ^ j * 2 ^ (d - stp0 w f)) * (2 ^ stp0 w f * P) = na * nb * (2 ^ i * 2 ^ j) * (2 ^ (d - stp0 w f) * 2 ^ stp0 w f) * P := by grind
    rw [e6, ← this]
  obtain ⟨q1, q2⟩ := Fw.exact p0 ex
  refine bk_fin hw2 hf1 hv hv2 he he2 (mono_fr (Y * 2 ^ d * 2 ^ d) bb) s01 hd h6 hE ((Fn.mul pd).cutD pd) Fw.cut fun hm x hx hy => ?_
  left
  rw [q1, q2] at hm hy
  have st : (stE (2 ^ (v + e) - 2 ^ e) (2 ^ e) p 0).1 = p := by
    unfold stE at hm ⊢
    by_cases g : 2 ^ (v + e) - 2 ^ e ≤ p
    · rw [if_pos g] at hm; exact absurd hm (Int.lt_irrefl _)
    · rw [if_neg g]; simp
  rw [st] at hy
  rw [← hy, ex, Int.mul_assoc 2]
  exact ⟨Int.le_refl _, Int.lt_irrefl _⟩
theorem exp_lt {c n : Int} {k : Nat} (c1 : c < 2 ^ (w + f) - 2 ^ f) (c0 : 0 ≤ c) (ec : lv f c = n * 2 ^ k) (us : k = 0 ∨ 2 ^ f ≤ n) : k ≤ 2 ^ w := by
  rcases us with h | h
  · rw [h]; exact Nat.zero_le _
  · have l := lv_lt (f := f) c0 c1
    rw [lv_last (by omega), ← Int.pow_add, ec] at l
    have g := mul_pow_ge (a := k) h
    have := pow_lt_iff (Int.lt_of_le_of_lt g l)
    have cw : ((2 ^ w : Nat) : Int) = 2 ^ w := by simp
    omega
theorem bk_div {s : Int} {a b : Int} (hs : s = 0 ∨ s = 1) (ca : 0 ≤ a) (cb : 0 < b) (cb1 : b < 2 ^ (w + f) - 2 ^ f) :
    Bk w f v e (s * 2 ^ (v + e) + (stl v e 0 s (frOf e (lv f a * 2 ^ d * 2 ^ stp0 v e) (lv f b * 2 ^ d)).1 (frOf e (lv f a * 2 ^ d * 2 ^ stp0 v e) (lv f b * 2 ^ d)).2).1, (stl v e 0 s (frOf e (lv f a * 2 ^ d * 2 ^ stp0 v e) (lv f b * 2 ^ d)).1 (frOf e (lv f a * 2 ^ d * 2 ^ stp0 v e) (lv f b * 2 ^ d)).2).2)
      (s * 2 ^ (w + f) + (stl w f 0 s (frOf f (lv f a * 2 ^ stp0 w f) (lv f b)).1 (frOf f (lv f a * 2 ^ stp0 w f) (lv f b)).2).1, (stl w f 0 s (frOf f (lv f a * 2 ^ stp0 w f) (lv f b)).1 (frOf f (lv f a * 2 ^ stp0 w f) (lv f b)).2).2) := by
  have pd := p2 d
  have la := lv_nn (f := f) ca
  have lb := lv_lt (f := f) (a := 0) (b := b) (by decide) cb
  rw [lv_zero] at lb
  have bp := p2 (stp0 w f)
  have V0 : 0 ≤ lv f a * 2 ^ stp0 w f * 2 ^ d := Int.mul_nonneg (Int.mul_nonneg la (by omega)) (by omega)
  have er : frOf e (lv f a * 2 ^ d * 2 ^ stp0 v e) (lv f b * 2 ^ d) = frOf e (lv f a * 2 ^ stp0 w f * 2 ^ d) (lv f b) := by
    refine frOf_ratio V0 lb (Int.mul_pos lb pd) ?_
    rw [hd, Int.pow_add]; grind
  rw [er]
  have Fn := frOf_ok (f := f) (V := lv f a * 2 ^ stp0 w f) (B := lv f b) (Int.mul_nonneg la (by omega)) lb
  have Fw := frOf_ok (f := e) (V := lv f a * 2 ^ stp0 w f * 2 ^ d) (B := lv f b) V0 lb
  refine bk_fin hw2 hf1 hv hv2 he he2 (mono_fr (lv f a * 2 ^ stp0 w f * 2 ^ d) lb) hs hd h6 hE (Fn.cutD pd) Fw.cut fun hm x hx hy => ?_
  left
  obtain ⟨t, u, us, u0, u1, yu, uV, n1, n2⟩ := near_fr lb Fw.cut hm
  obtain ⟨zz, t2, ex, z0, z1⟩ := half_lv hx
  obtain ⟨i, na, ea, _, na0, na1, _⟩ := lv_two f ca
  obtain ⟨j, nb, eb, _, nb0, nb1, ju⟩ := lv_two f (Int.le_of_lt cb)
  have jw := exp_lt hw2 hf1 hv hv2 he he2 hd h6 hS h2S hE cb1 (Int.le_of_lt cb) eb ju
  have nbp : 0 < nb := by
    rcases Int.lt_or_eq_of_le nb0 with h | h
    · exact h
    · rw [eb, ← h, Int.zero_mul] at lb; omega
  have yl : u * 2 ^ t ≤ lv e (stE (2 ^ (v + e) - 2 ^ e) (2 ^ e) (frOf e (lv f a * 2 ^ stp0 w f * 2 ^ d) (lv f b)).1 (frOf e (lv f a * 2 ^ stp0 w f * 2 ^ d) (lv f b)).2).1 := by
    have := p2 t
    have e3 := Int.add_mul u 1 (2 ^ t)
    rcases yu with w | w <;> rw [w] <;> omega
  have hV : 2 * (lv f a * 2 ^ stp0 w f * 2 ^ d) = na * 2 ^ (i + stp0 v e + 1) := by
    rw [ea, hd, pow_s, Int.pow_add, Int.pow_add]; grind
  have hz : 2 * lv e (stE (2 ^ (v + e) - 2 ^ e) (2 ^ e) (frOf e (lv f a * 2 ^ stp0 w f * 2 ^ d) (lv f b)).1 (frOf e (lv f a * 2 ^ stp0 w f * 2 ^ d) (lv f b)).2).1 = zz * 2 ^ (t2 + d) := by
    rw [hy, ex, Int.pow_add, Int.mul_assoc]
  have k := strict_div he hV eb nbp na1 nb1 hz z1 us yl uV (by omega) (by omega) ⟨n1, n2⟩
  rw [← hy, k]
  exact ⟨Int.le_refl _, Int.lt_irrefl _⟩
theorem bk_root {a : Int} (ca : 0 ≤ a) :
    Bk w f v e (stl v e 0 0 (rtOf e (lv f a * 2 ^ d * 2 ^ stp0 v e)).1 (rtOf e (lv f a * 2 ^ d * 2 ^ stp0 v e)).2) (stl w f 0 0 (rtOf f (lv f a * 2 ^ stp0 w f)).1 (rtOf f (lv f a * 2 ^ stp0 w f)).2) := by
  have pd := p2 d
  have la := lv_nn (f := f) ca
  have bp := p2 (stp0 w f)
  have eq : lv f a * 2 ^ d * 2 ^ stp0 v e = lv f a * 2 ^ stp0 w f * (2 ^ d * 2 ^ d) := by rw [hd, Int.pow_add]; grind
  rw [eq]
  have Q0 := Int.mul_nonneg la (Int.le_of_lt bp)
  have Fn := rtOf_ok f (Q := lv f a * 2 ^ stp0 w f) Q0
  have Fw := rtOf_ok e (Q := lv f a * 2 ^ stp0 w f * (2 ^ d * 2 ^ d)) (Int.mul_nonneg Q0 (Int.le_of_lt (Int.mul_pos pd pd)))
  have k := bk_fin hw2 hf1 hv hv2 he he2 (mono_sq (lv f a * 2 ^ stp0 w f * (2 ^ d * 2 ^ d))) (s := 0) (.inl rfl) hd h6 hE (Fn.cutD pd) Fw.cut fun hm x hx hy => by
    left
    obtain ⟨t, u, us, u0, u1, yu, uV, n1, n2⟩ := near_sq Fw.cut hm
    obtain ⟨zz, t2, ex, z0, z1⟩ := half_lv hx
    obtain ⟨i, na, ea, _, na0, na1, _⟩ := lv_two f ca
    have hQ : 4 * (lv f a * 2 ^ stp0 w f * (2 ^ d * 2 ^ d)) = na * 2 ^ (i + stp0 w f + d + d + 1 + 1) := by
      rw [ea, pow_s, pow_s, Int.pow_add, Int.pow_add, Int.pow_add]; grind
    have hz : 2 * lv e (stE (2 ^ (v + e) - 2 ^ e) (2 ^ e) (rtOf e (lv f a * 2 ^ stp0 w f * (2 ^ d * 2 ^ d))).1 (rtOf e (lv f a * 2 ^ stp0 w f * (2 ^ d * 2 ^ d))).2).1 = zz * 2 ^ (t2 + d) := by
      rw [hy, ex, Int.pow_add, Int.mul_assoc]
    have k := strict_root he hf1 hQ na1 hz z1 u1 us u0 yu uV (by omega) (by omega) ⟨n1, n2⟩
    rw [← hy, k]
    exact ⟨Int.le_refl _, Int.lt_irrefl _⟩
  rw [Int.zero_mul, Int.zero_add, Int.zero_mul, Int.zero_add] at k
  exact k
end
end Pg

namespace Pg
open PySem L2 Rm
open PySem.Builtin.Int (intBits)
@[simp] theorem s_whole (n : Nat) (h : HP) (x : Int) : run p.T p.fs (n + 1) 46 [.int x] h = .ok (.bl true) h := by
  rw [run_eq (F := fn46) rfl rfl]; simp [fn46]
end Pg

namespace Pg
open PySem L2 Rm
open PySem.Builtin.Int (intBits)
theorem s_two (n : Nat) (h : HP) (a b : Int) : run p.T p.fs (n + 2) 53 [.tup [.int a, .int b]] h = .ok (.bl true) h := by
  rw [run_eq (F := fn53) rfl rfl]
  simp [fn53]
end Pg

namespace Pg
open PySem L2 Rm
open PySem.Builtin.Int (intBits)
theorem s_mixed (n : Nat) (h : HP) {c m : Int} (hc : intBits c ≤ 1048576) (hm : 0 < m) : run p.T p.fs (n + 1) 47 [.int c, .int m] h = .ok (.int (c * 73846150927364518273645509182736455091827 % m)) h := by
  rw [run_eq (F := fn47) rfl rfl]
  have mb := mulB_of (a := c) (b := 73846150927364518273645509182736455091827) hc (show _ ≤ 200 by decide) (by omega)
  simp [fn47, mb, hm]
end Pg

namespace Pg
open PySem L2 Rm
open PySem.Builtin.Int (intBits)
theorem le_lists6 (a0 a1 a2 a3 a4 a5 i : Int) (i0 : 0 ≤ i) (i1 : i < 6) : ∃ v : Int, (v = a0 ∨ v = a1 ∨ v = a2 ∨ v = a3 ∨ v = a4 ∨ v = a5) ∧ atI [MV.int a0, .int a1, .int a2, .int a3, .int a4, .int a5] i = some (.int v) := by
  rcases (show i = 0 ∨ i = 1 ∨ i = 2 ∨ i = 3 ∨ i = 4 ∨ i = 5 by omega) with z | z | z | z | z | z
  · exact ⟨a0, by simp, by subst z; exact (atI_nat (k := 0) rfl (by simp)).trans rfl⟩
  · exact ⟨a1, by simp, by subst z; exact (atI_nat (k := 1) rfl (by simp)).trans rfl⟩
  · exact ⟨a2, by simp, by subst z; exact (atI_nat (k := 2) rfl (by simp)).trans rfl⟩
  · exact ⟨a3, by simp, by subst z; exact (atI_nat (k := 3) rfl (by simp)).trans rfl⟩
  · exact ⟨a4, by simp, by subst z; exact (atI_nat (k := 4) rfl (by simp)).trans rfl⟩
  · exact ⟨a5, by simp, by subst z; exact (atI_nat (k := 5) rfl (by simp)).trans rfl⟩
def mxI (a b : Int) : Int := if b > a then b else a
def mnI (a b : Int) : Int := if b < a then b else a
theorem biV_mx (h : HP) (a b : Int) : biV h .max2 [.int a, .int b] = some (.int (mxI a b)) := id rfl
theorem biV_mn (h : HP) (a b : Int) : biV h .min2 [.int a, .int b] = some (.int (mnI a b)) := id rfl
theorem mx_b (a b : Int) : a ≤ mxI a b ∧ b ≤ mxI a b ∧ (mxI a b = a ∨ mxI a b = b) := by unfold mxI; split <;> omega
theorem mn_b (a b : Int) : mnI a b ≤ a ∧ mnI a b ≤ b ∧ (mnI a b = a ∨ mnI a b = b) := by unfold mnI; split <;> omega
theorem s_bitsby (w f : Nat) (hw2 : 2 ≤ w) (hw : w ≤ 15) (hf1 : 1 ≤ f) (hf : f ≤ 112) (n : Nat) (h : HP) (c : Int) (hc : intBits c ≤ 1048576) :
    ∃ b : Int, 0 ≤ b ∧ b < 2 ^ (w + f + 1) ∧ run p.T p.fs (n + 2) 48 [.tup [.int w, .int f], .int c] h = .ok (.int b) h := by
  rw [run_eq (F := fn48) rfl rfl]
  have d1 := dvB_small (a := c) (b := 10) (by decide) (by decide)
  have d2 := dvB_small (a := c / 10) (b := 2) (by decide) (by decide)
  have d3 := dvB_small (a := c / 10 / 2) (b := 9) (by decide) (by decide)
  have s0 := shlB_one (b := (w : Int) + (f : Int)) (by omega) (by omega)
  have s1 := shlB_one (b := (w : Int)) (by omega) (by omega)
  have s2 := shlB_one (b := (f : Int)) (by omega) (by omega)
  have s4 := shlB_one (b := (w : Int) - 1) (by omega) (by omega)
  have pf := p2 f
  have eH : (2 : Int) ^ (w + f) = 2 ^ w * 2 ^ f := Int.pow_add ..
  have eT : (2 : Int) ^ (w + f + 1) = 2 * 2 ^ (w + f) := pow_s _
  have F2 : (2 : Int) ≤ 2 ^ f := by have := two_le_pow hf1; simpa using this
  have W4 : (4 : Int) ≤ 2 ^ w := by have := two_le_pow hw2; simpa using this
  have W15 : (2 : Int) ^ w ≤ 32768 := by have := two_le_pow hw; simpa using this
  have lo : 4 * 2 ^ f ≤ (2 : Int) ^ (w + f) := by rw [eH]; exact Int.mul_le_mul_of_nonneg_right W4 (by omega)
  have s5 : shlB (2 ^ w - 1) (f : Int) = true := shlB_of (m := 16) (ib_lt (by omega) (by omega)) (by omega) (by omega)
  have x5 : (2 ^ w - 1) * (2 : Int) ^ f = 2 ^ (w + f) - 2 ^ f := by rw [Int.sub_mul, ← eH, Int.one_mul]
  have m2 : mulB 2 (2 ^ (w + f)) = true := mulB_left (by decide)
  obtain ⟨s, hs⟩ : ∃ s : Int, c / 10 % 2 = s := ⟨_, rfl⟩
  have sb : s = 0 ∨ s = 1 := by omega
  have ms : mulB s (2 ^ (w + f)) = true := mulB_left (by rcases sb with y | y <;> rw [y] <;> decide)
  have fin {e : Int} (e0 : 0 ≤ e) (e1 : e < 2 ^ (w + f)) : 0 ≤ s * 2 ^ (w + f) + e ∧ s * 2 ^ (w + f) + e < 2 ^ (w + f + 1) := by rcases sb with y | y <;> rw [y] <;> omega
  have c0 : 0 ≤ c % 10 ∧ c % 10 < 10 := by omega
  have bc : intBits (c / 10) ≤ 1048576 := intBits_le_of_natAbs (by omega) hc
  by_cases z3 : c % 10 < 3
  · have mx := s_mixed n h (c := c / 10) (m := 2 * 2 ^ (w + f)) bc (by omega)
    refine ⟨c / 10 * 73846150927364518273645509182736455091827 % (2 * 2 ^ (w + f)), Int.emod_nonneg _ (by omega), ?_, ?_⟩
    · rw [eT]; exact Int.emod_lt_of_pos _ (by omega)
    · simp [fn48, d1, s0, s1, s5, m2, z3, mx]
  rcases (show c % 10 = 3 ∨ c % 10 = 4 ∨ c % 10 = 5 ∨ 6 ≤ c % 10 by omega) with z | z | z | z
  · have s6 : shlB 2 (f : Int) = true := shlB_of (m := 2) (by decide) (by omega) (by omega)
    have r0 := Int.emod_nonneg (c / 10 / 2) (show 2 * (2 : Int) ^ f ≠ 0 by omega)
    have r1 := Int.emod_lt_of_pos (c / 10 / 2) (show 0 < 2 * (2 : Int) ^ f by omega)
    have q := fin r0 (by omega)
    have r2 : 0 < 2 * (2 : Int) ^ f := by omega
    exact ⟨_, q.1, q.2, by simp [fn48, d1, d2, s0, s1, s5, s6, ms, z, hs, r2]⟩
  · have q := fin (e := 2 ^ (w + f) - 2 ^ f + 1 - c / 10 / 2 % 5) (by omega) (by omega)
    exact ⟨_, q.1, q.2, by simp [fn48, d1, d2, s0, s1, s5, ms, z, hs, x5]⟩
  · obtain ⟨v, hv, ev⟩ := le_lists6 0 1 (2 ^ f - 1) (2 ^ f) (2 ^ (w + f) - 2 ^ f - 1) (2 ^ (w + f) - 2 ^ f) (c / 10 / 2 % 6) (by omega) (by omega)
    have q := fin (e := v) (by omega) (by omega)
    exact ⟨_, q.1, q.2, by simp [fn48, d1, d2, s0, s1, s2, s5, ms, z, hs, x5, ev]⟩
  · have z4 : ¬ c % 10 = 3 := by omega
    have z5 : ¬ c % 10 = 4 := by omega
    have z6 : ¬ c % 10 = 5 := by omega
    obtain ⟨F, hF⟩ : ∃ F : Int, mxI 0 (mnI (2 ^ (w - 1) - 5 + c / 10 / 2 % 9) (2 ^ w - 1)) = F := ⟨_, rfl⟩
    have b1 := mx_b 0 (mnI (2 ^ (w - 1) - 5 + c / 10 / 2 % 9) (2 ^ w - 1))
    have b2 := mn_b (2 ^ (w - 1) - 5 + c / 10 / 2 % 9) (2 ^ w - 1)
    rw [hF] at b1
    have F0 : 0 ≤ F ∧ F ≤ 2 ^ w - 1 := by omega
    have s7 : shlB F (f : Int) = true := shlB_of (m := 16) (ib_lt (by omega) (by omega)) (by omega) (by omega)
    have mx := s_mixed n h (c := c / 10 / 2 / 9) (m := 2 ^ f) (intBits_le_of_natAbs (by omega) bc) pf
    obtain ⟨M, hM⟩ : ∃ M : Int, c / 10 / 2 / 9 * 73846150927364518273645509182736455091827 % 2 ^ f = M := ⟨_, rfl⟩
    have M0 : 0 ≤ M := by rw [← hM]; exact Int.emod_nonneg _ (by omega)
    have M1 : M < 2 ^ f := by rw [← hM]; exact Int.emod_lt_of_pos _ pf
    rw [hM] at mx
    have f1 : 0 ≤ F * 2 ^ f := Int.mul_nonneg F0.1 (by omega)
    have f2 : F * 2 ^ f ≤ (2 ^ w - 1) * 2 ^ f := Int.mul_le_mul_of_nonneg_right F0.2 (by omega)
    have q := fin (e := F * 2 ^ f + M) (by omega) (by omega)
    refine ⟨_, q.1, q.2, ?_⟩
    simp -implicitDefEqProofs [fn48, -biV_max2, -biV_min2, biV_mx, biV_mn, d1, d2, d3, s0, s1, s2, s4, s5, s7, ms, z3, z4, z5, z6, hs, x5, hF, mx]
end Pg

namespace Pg
open PySem L2 Rm
open PySem.Builtin.Int (intBits)
theorem s_oddby (w f : Nat) (hw2 : 2 ≤ w) (hw : w ≤ 15) (hf1 : 1 ≤ f) (hf : f ≤ 112) (n : Nat) (h : HP) (c : Int) (hc : intBits c ≤ 1048576) :
    ∃ b : Int, 0 ≤ b ∧ b < 2 ^ (w + f + 1) ∧ run p.T p.fs (n + 3) 49 [.tup [.int w, .int f], .int c] h = .ok (.int b) h := by
  rw [run_eq (F := fn49) rfl rfl]
  have d1 := dvB_small (a := c) (b := 5) (by decide) (by decide)
  have d2 := dvB_small (a := c / 5) (b := 2) (by decide) (by decide)
  have s0 := shlB_one (b := (w : Int) + (f : Int)) (by omega) (by omega)
  have s1 := shlB_one (b := (w : Int)) (by omega) (by omega)
  have s2 := shlB_one (b := (f : Int)) (by omega) (by omega)
  have pf := p2 f
  have eH : (2 : Int) ^ (w + f) = 2 ^ w * 2 ^ f := Int.pow_add ..
  have eT : (2 : Int) ^ (w + f + 1) = 2 * 2 ^ (w + f) := pow_s _
  have F2 : (2 : Int) ≤ 2 ^ f := by have := two_le_pow hf1; simpa using this
  have W4 : (4 : Int) ≤ 2 ^ w := by have := two_le_pow hw2; simpa using this
  have W15 : (2 : Int) ^ w ≤ 32768 := by have := two_le_pow hw; simpa using this
  have lo : 4 * 2 ^ f ≤ (2 : Int) ^ (w + f) := by rw [eH]; exact Int.mul_le_mul_of_nonneg_right W4 (by omega)
  have s5 : shlB (2 ^ w - 1) (f : Int) = true := shlB_of (m := 16) (ib_lt (by omega) (by omega)) (by omega) (by omega)
  have x5 : (2 ^ w - 1) * (2 : Int) ^ f = 2 ^ (w + f) - 2 ^ f := by rw [Int.sub_mul, ← eH, Int.one_mul]
  obtain ⟨s, hs⟩ : ∃ s : Int, c / 5 % 2 = s := ⟨_, rfl⟩
  have sb : s = 0 ∨ s = 1 := by omega
  have ms : mulB s (2 ^ (w + f)) = true := mulB_left (by rcases sb with y | y <;> rw [y] <;> decide)
  have fin {e : Int} (e0 : 0 ≤ e) (e1 : e < 2 ^ (w + f)) : 0 ≤ s * 2 ^ (w + f) + e ∧ s * 2 ^ (w + f) + e < 2 ^ (w + f + 1) := by rcases sb with y | y <;> rw [y] <;> omega
  have bc : intBits (c / 5) ≤ 1048576 := intBits_le_of_natAbs (by omega) hc
  obtain ⟨b, b0, b1, eb⟩ := s_bitsby w f hw2 hw hf1 hf n h (c / 5) bc
  rcases (show c % 5 = 0 ∨ c % 5 = 1 ∨ c % 5 = 2 ∨ c % 5 = 3 ∨ c % 5 = 4 by omega) with z | z | z | z | z
  · have r0 := Int.emod_nonneg (c / 5 / 2) (show (2 : Int) ^ f - 1 ≠ 0 by omega)
    have r1 := Int.emod_lt_of_pos (c / 5 / 2) (show (0 : Int) < 2 ^ f - 1 by omega)
    have r2 : (1 : Int) < 2 ^ f := by omega
    have q := fin (e := 2 ^ (w + f) - 2 ^ f + 1 + c / 5 / 2 % (2 ^ f - 1)) (by omega) (by omega)
    refine ⟨_, q.1, q.2, ?_⟩
    simp [fn49, d1, d2, s0, s1, s2, s5, ms, z, hs, x5, r2]
    try omega
  · have q := fin (e := 2 ^ (w + f) - 2 ^ f) (by omega) (by omega)
    refine ⟨_, q.1, q.2, ?_⟩
    simp [fn49, d1, s0, s1, s5, ms, z, hs, x5]
  · have q := fin (e := 0) (by omega) (by omega)
    rw [Int.add_zero] at q
    refine ⟨_, q.1, q.2, ?_⟩
    simp [fn49, d1, s0, s1, s5, ms, z, hs, x5]
  · exact ⟨b, b0, b1, by simp [fn49, d1, s0, s1, s5, ms, z, hs, x5, eb]⟩
  · exact ⟨b, b0, b1, by simp [fn49, d1, s0, s1, s5, ms, z, hs, x5, eb]⟩
end Pg

namespace Pg
open PySem L2 Rm
open PySem.Builtin.Int (intBits)
theorem s_nearby (w f : Nat) (hw2 : 2 ≤ w) (hw : w ≤ 15) (hf1 : 1 ≤ f) (hf : f ≤ 112) (n : Nat) (h : HP) {a : Int} (a0 : 0 ≤ a) (a1 : a < 2 ^ (w + f + 1)) (c : Int) (hc : intBits c ≤ 1048576) :
    ∃ b : Int, 0 ≤ b ∧ b < 2 ^ (w + f + 1) ∧ run p.T p.fs (n + 3) 50 [.tup [.int w, .int f], .int a, .int c] h = .ok (.int b) h := by
  rw [run_eq (F := fn50) rfl rfl]
  have d1 := dvB_small (a := c) (b := 9) (by decide) (by decide)
  have d2 := dvB_small (a := c / 9) (b := 3) (by decide) (by decide)
  have d3 := dvB_small (a := c / 9) (b := 6) (by decide) (by decide)
  have s0 := shlB_one (b := (w : Int) + (f : Int)) (by omega) (by omega)
  have bc : intBits (c / 9) ≤ 1048576 := intBits_le_of_natAbs (by omega) hc
  have pf := p2 f
  have pT := p2 (w + f)
  have eH : (2 : Int) ^ (w + f) = 2 ^ w * 2 ^ f := Int.pow_add ..
  have eT : (2 : Int) ^ (w + f + 1) = 2 * 2 ^ (w + f) := pow_s _
  have W15 : (2 : Int) ^ w ≤ 32768 := by have := two_le_pow hw; simpa using this
  have W4 : (4 : Int) ≤ 2 ^ w := by have := two_le_pow hw2; simpa using this
  have F2 : (2 : Int) ≤ 2 ^ f := by have := two_le_pow hf1; simpa using this
  have T8 : (8 : Int) ≤ 2 ^ (w + f) := by have := two_le_pow (show 3 ≤ w + f by omega); simpa using this
  have fn : (0 : Int) ≤ f := by omega
  have mT : mulB 2 (2 ^ (w + f)) = true := mulB_left (by decide)
  by_cases z6 : 5 < c % 9
  · obtain ⟨b, b0, b1, eb⟩ := s_bitsby w f hw2 hw hf1 hf n h (c / 9) bc
    have n0 : ¬ c % 9 = 0 := by omega
    have n1 : ¬ c % 9 = 1 := by omega
    have n2 : ¬ c % 9 = 2 := by omega
    have n3 : ¬ c % 9 = 3 := by omega
    have n4 : ¬ c % 9 = 4 := by omega
    have n5 : ¬ c % 9 = 5 := by omega
    exact ⟨b, b0, b1, by simp [fn50, d1, s0, n0, n1, n2, n3, n4, n5, eb]⟩
  rcases (show c % 9 = 0 ∨ c % 9 = 1 ∨ c % 9 = 2 ∨ c % 9 = 3 ∨ c % 9 = 4 ∨ c % 9 = 5 by omega) with z | z | z | z | z | z
  · have q := xor_lt (w + f + 1) a0 a1 (show 0 ≤ (2 : Int) ^ (w + f) by omega) (by omega)
    exact ⟨_, q.1, q.2, by simp [fn50, d1, s0, z]⟩
  · have q := xor_lt (w + f + 1) a0 a1 (show 0 ≤ c / 9 % 8 by omega) (by omega)
    exact ⟨_, q.1, q.2, by simp [fn50, d1, s0, z]⟩
  · have q := xor_lt (w + f + 1) a0 a1 (show 0 ≤ (2 : Int) ^ (w + f) by omega) (by omega)
    have q2 := xor_lt (w + f + 1) q.1 q.2 (show 0 ≤ c / 9 % 8 by omega) (by omega)
    exact ⟨_, q2.1, q2.2, by simp [fn50, d1, s0, z]⟩
  · have q2 : 0 < 2 * (2 : Int) ^ (w + f) := by omega
    refine ⟨(a + c / 9 % 17 - 8) % (2 * 2 ^ (w + f)), Int.emod_nonneg _ (by omega), ?_, by simp [fn50, d1, s0, z, mT, q2]⟩
    rw [eT]; exact Int.emod_lt_of_pos _ (by omega)
  · have sw : shlB 2 (w : Int) = true := shlB_of (m := 2) (by decide) (by omega) (by omega)
    have pw2 : 0 < 2 * (2 : Int) ^ w := by omega
    have r0 := Int.emod_nonneg (c / 9) (Int.ne_of_gt pw2)
    have r1 := Int.emod_lt_of_pos (c / 9) pw2
    have sf : shlB (c / 9 % (2 * 2 ^ w)) (f : Int) = true := shlB_of (m := 17) (ib_lt r0 (by omega)) (by omega) (by omega)
    have m0 : 0 ≤ c / 9 % (2 * 2 ^ w) * 2 ^ f := Int.mul_nonneg r0 (by omega)
    have m1 : c / 9 % (2 * 2 ^ w) * 2 ^ f < 2 * 2 ^ w * 2 ^ f := Int.mul_lt_mul_of_pos_right r1 pf
    rw [Int.mul_assoc, ← eH, ← eT] at m1
    have q := xor_lt (w + f + 1) a0 a1 m0 m1
    exact ⟨_, q.1, q.2, by simp [fn50, d1, s0, z, sw, pw2, sf]⟩
  · obtain ⟨s, hs⟩ : ∃ s : Int, c / 9 / 3 % 2 = s := ⟨_, rfl⟩
    have sb : s = 0 ∨ s = 1 := by omega
    have ms : mulB s (2 ^ (w + f)) = true := mulB_left (by rcases sb with y | y <;> rw [y] <;> decide)
    obtain ⟨F, hF⟩ : ∃ F : Int, mxI 0 (a % 2 ^ (w + f) / 2 ^ f - f + c / 9 % 3 - 2) = F := ⟨_, rfl⟩
    have b1 := mx_b 0 (a % 2 ^ (w + f) / 2 ^ f - f + c / 9 % 3 - 2)
    rw [hF] at b1
    have fd : a % 2 ^ (w + f) / 2 ^ f < 2 ^ w := by rw [mod_div_pow]; exact (mn _ _).2
    have F0 : 0 ≤ F ∧ F ≤ 2 ^ w - 2 := by omega
    have sF : shlB F (f : Int) = true := shlB_of (m := 15) (ib_lt F0.1 (by omega)) (by omega) (by omega)
    have f1 : 0 ≤ F * 2 ^ f := Int.mul_nonneg F0.1 (by omega)
    have f2 : F * 2 ^ f ≤ (2 ^ w - 2) * 2 ^ f := Int.mul_le_mul_of_nonneg_right F0.2 (by omega)
    rw [Int.sub_mul, ← eH] at f2
    obtain ⟨G, hG⟩ : ∃ F' : Int, mxI 0 (F * 2 ^ f + c / 9 / 6 % 3 - 1) = F' := ⟨_, rfl⟩
    have b2 := mx_b 0 (F * 2 ^ f + c / 9 / 6 % 3 - 1)
    rw [hG] at b2
    refine ⟨s * 2 ^ (w + f) + G, by rcases sb with y | y <;> rw [y] <;> omega, by rcases sb with y | y <;> rw [y] <;> omega, ?_⟩
    simp -implicitDefEqProofs [fn50, -biV_max2, -biV_min2, biV_mx, biV_mn, d1, d2, d3, s0, z, hs, ms, fn, hF, sF, hG]
end Pg

namespace Pg
open PySem L2 Rm
open PySem.Builtin.Int (intBits)
theorem rs2 (i j : Int) : Builtin.Range.rangeSize i j 2 = if i < j then (j - i - 1) / 2 + 1 else 0 := by
  unfold Builtin.Range.rangeSize
  simp only [show (2 : Int) > 0 by decide, if_true]
theorem rg3B_ok {i j : Int} (h0 : 0 ≤ i) (h1 : i < 1000000) (h2 : 0 ≤ j) (h3 : j < 1000000) : rg3B i j 2 = true := by
  unfold rg3B Builtin.Range.small
  rw [rs2]
  simp only [Builtin.Range.rangeFitsLong, Bool.and_eq_true, Bool.or_eq_true, decide_eq_true_eq, beq_iff_eq, show (2 : Int) > 0 by decide, if_true]
  split <;> omega
theorem rg3M_ok {i j : Int} (h0 : 0 ≤ i) (h1 : i < 1000000) (h2 : 0 ≤ j) (h3 : j < 1000000) (h : HP) : rng3M (.int i) (.int j) (.int 2) h = .ok (rg3 i j 2, fun _ => some (rg3 i j 2)) h := by
  rw [rng3M_int, if_pos (rg3B_ok h0 h1 h2 h3)]
theorem rg3_mem {i j : Int} {x : MV} (h : x ∈ rg3 i j 2) : ∃ k : Nat, x = .int (i + (k : Int) * 2) ∧ i + (k : Int) * 2 < j := by
  unfold rg3 at h
  obtain ⟨k, hk, rfl⟩ := List.mem_map.mp h
  rw [List.mem_range, rs2] at hk
  refine ⟨k, rfl, ?_⟩
  split at hk <;> omega
end Pg

namespace Pg
open PySem L2 Rm
open PySem.Builtin.Int (intBits)
theorem le_lists4 (a0 a1 a2 a3 i : Int) (i0 : 0 ≤ i) (i1 : i < 4) : ∃ v : Int, (v = a0 ∨ v = a1 ∨ v = a2 ∨ v = a3) ∧ atI [MV.int a0, .int a1, .int a2, .int a3] i = some (.int v) := by
  rcases (show i = 0 ∨ i = 1 ∨ i = 2 ∨ i = 3 by omega) with z | z | z | z
  · exact ⟨a0, by simp, by subst z; exact (atI_nat (k := 0) rfl (by simp)).trans rfl⟩
  · exact ⟨a1, by simp, by subst z; exact (atI_nat (k := 1) rfl (by simp)).trans rfl⟩
  · exact ⟨a2, by simp, by subst z; exact (atI_nat (k := 2) rfl (by simp)).trans rfl⟩
  · exact ⟨a3, by simp, by subst z; exact (atI_nat (k := 3) rfl (by simp)).trans rfl⟩
theorem s_mateby (w f : Nat) (hw2 : 2 ≤ w) (hw : w ≤ 15) (hf1 : 1 ≤ f) (hf : f ≤ 112) (n : Nat) (h : HP) {a : Int} (a0 : 0 ≤ a) (a1 : a < 2 ^ (w + f + 1)) (c : Int) (hc : intBits c ≤ 1048576) (t : Bool) :
    ∃ b : Int, 0 ≤ b ∧ b < 2 ^ (w + f + 1) ∧ run p.T p.fs (n + 4) 51 [.tup [.int w, .int f], .int a, .int c, .bl t] h = .ok (.int b) h := by
  rw [run_eq (F := fn51) rfl rfl]
  have d1 := dvB_small (a := c) (b := 9) (by decide) (by decide)
  have d2 := dvB_small (a := c / 9) (b := 3) (by decide) (by decide)
  have d3 := dvB_small (a := c / 9) (b := 5) (by decide) (by decide)
  have s0 := shlB_one (b := (w : Int) + (f : Int)) (by omega) (by omega)
  have s1 := shlB_one (b := (w : Int)) (by omega) (by omega)
  have s2 := shlB_one (b := (f : Int)) (by omega) (by omega)
  have s3 := shlB_one (b := (f : Int) - 1) (by omega) (by omega)
  have s4 := shlB_one (b := (w : Int) - 1) (by omega) (by omega)
  have bc : intBits (c / 9) ≤ 1048576 := intBits_le_of_natAbs (by omega) hc
  have pf := p2 f
  have pf1 := p2 (f - 1)
  have eF : (2 : Int) ^ f = 2 * 2 ^ (f - 1) := by rw [← pow_s, Nat.sub_add_cancel hf1]
  have eH : (2 : Int) ^ (w + f) = 2 ^ w * 2 ^ f := Int.pow_add ..
  have eT : (2 : Int) ^ (w + f + 1) = 2 * 2 ^ (w + f) := pow_s _
  have eW : (2 : Int) ^ w = 2 * 2 ^ (w - 1) := by rw [← pow_s, Nat.sub_add_cancel (by omega)]
  have W2 : (2 : Int) ≤ 2 ^ (w - 1) := by have := two_le_pow (show 1 ≤ w - 1 by omega); simpa using this
  have W15 : (2 : Int) ^ w ≤ 32768 := by have := two_le_pow hw; simpa using this
  have fn : (0 : Int) ≤ f := by omega
  by_cases z7 : 6 < c % 9
  · obtain ⟨b, b0, b1, eb⟩ := s_bitsby w f hw2 hw hf1 hf (n + 1) h (c / 9) bc
    have n5 : ¬ c % 9 < 5 := by omega
    have n6 : ¬ c % 9 = 5 := by omega
    have n7 : ¬ c % 9 = 6 := by omega
    exact ⟨b, b0, b1, by simp [fn51, d1, s0, s4, n5, n6, n7, eb]⟩
  by_cases z6 : c % 9 = 6
  · obtain ⟨b, b0, b1, eb⟩ := s_oddby w f hw2 hw hf1 hf n h (c / 9) bc
    exact ⟨b, b0, b1, by simp [fn51, d1, s0, s4, z6, eb]⟩
  by_cases z5 : c % 9 = 5
  · obtain ⟨s, hs⟩ : ∃ s : Int, c / 9 % 2 = s := ⟨_, rfl⟩
    have sb : s = 0 ∨ s = 1 := by omega
    have ms : mulB s (2 ^ (w + f)) = true := mulB_left (by rcases sb with y | y <;> rw [y] <;> decide)
    have q := xor_sgn sb a0 a1
    exact ⟨_, q.1, q.2, by simp [fn51, d1, s0, s4, z5, hs, ms]⟩
  have z4 : c % 9 < 5 := by omega
  obtain ⟨s, hs⟩ : ∃ s : Int, c / 9 / 5 % 2 = s := ⟨_, rfl⟩
  have sb : s = 0 ∨ s = 1 := by omega
  have ms : mulB s (2 ^ (w + f)) = true := mulB_left (by rcases sb with y | y <;> rw [y] <;> decide)
  have g8 : (0 : Int) < f + 8 := by omega
  obtain ⟨g, hg0, hg1⟩ : ∃ g : Int, (c % 9 < 2 → 2 ^ w - 5 + c / 9 % 7 = g) ∧ (¬ c % 9 < 2 → c / 9 % (f + 8) - f - 4 = g) := by
    by_cases y : c % 9 < 2
    · exact ⟨_, fun _ => rfl, fun x => absurd y x⟩
    · exact ⟨_, fun x => absurd x y, fun _ => rfl⟩
  have m2 : mulB 2 (2 ^ (w - 1) - 1) = true := mulB_left (by decide)
  have fld (x : Int) : ∃ F : Int, mxI 0 (mnI (2 ^ (w - 1) - 1 + x) (2 * (2 ^ (w - 1) - 1))) = F ∧ 0 ≤ F ∧ F ≤ 2 ^ w - 2 ∧ shlB F (f : Int) = true := by
    have b1 := mx_b 0 (mnI (2 ^ (w - 1) - 1 + x) (2 * (2 ^ (w - 1) - 1)))
    have b2 := mn_b (2 ^ (w - 1) - 1 + x) (2 * (2 ^ (w - 1) - 1))
    have F0 : 0 ≤ mxI 0 (mnI (2 ^ (w - 1) - 1 + x) (2 * (2 ^ (w - 1) - 1))) ∧ mxI 0 (mnI (2 ^ (w - 1) - 1 + x) (2 * (2 ^ (w - 1) - 1))) ≤ 2 ^ w - 2 := by omega
    exact ⟨_, rfl, F0.1, F0.2, shlB_of (m := 15) (ib_lt F0.1 (by omega)) (by omega) (by omega)⟩
  have mx := s_mixed (n + 2) h (c := c / 9) (m := 2 ^ f) bc pf
  obtain ⟨M, hM⟩ : ∃ M : Int, c / 9 * 73846150927364518273645509182736455091827 % 2 ^ f = M := ⟨_, rfl⟩
  have M0 : 0 ≤ M := by rw [← hM]; exact Int.emod_nonneg _ (by omega)
  have M1 : M < 2 ^ f := by rw [← hM]; exact Int.emod_lt_of_pos _ pf
  rw [hM] at mx
  obtain ⟨G, hG, eG⟩ := le_lists4 0 (2 ^ (f - 1)) (2 ^ f - 1) M (c / 9 / 3 % 4) (by omega) (by omega)
  have fin {F : Int} (F0 : 0 ≤ F) (F1 : F ≤ 2 ^ w - 2) : 0 ≤ s * 2 ^ (w + f) + F * 2 ^ f + G ∧ s * 2 ^ (w + f) + F * 2 ^ f + G < 2 ^ (w + f + 1) := by
    have f1 : 0 ≤ F * 2 ^ f := Int.mul_nonneg F0 (by omega)
    have f2 : F * 2 ^ f ≤ (2 ^ w - 2) * 2 ^ f := Int.mul_le_mul_of_nonneg_right F1 (by omega)
    rw [Int.sub_mul, ← eH] at f2
    rcases sb with y | y <;> rw [y] <;> omega
  cases t
  · obtain ⟨F, hF, F0, F1, sF⟩ := fld (g - a % 2 ^ (w + f) / 2 ^ f)
    have q := fin F0 F1
    refine ⟨_, q.1, q.2, ?_⟩
    by_cases y : c % 9 < 2
    · have hg := hg0 y
      simp -implicitDefEqProofs [fn51, -biV_max2, -biV_min2, biV_mx, biV_mn, d1, d2, d3, s0, s1, s2, s3, s4, z4, y, g8, fn, hg, m2, hF, sF, mx, eG, hs, ms]
    · have hg := hg1 y
      simp -implicitDefEqProofs [fn51, -biV_max2, -biV_min2, biV_mx, biV_mn, d1, d2, d3, s0, s1, s2, s3, s4, z4, y, g8, fn, hg, m2, hF, sF, mx, eG, hs, ms]
  · obtain ⟨F, hF, F0, F1, sF⟩ := fld (a % 2 ^ (w + f) / 2 ^ f - g)
    have q := fin F0 F1
    refine ⟨_, q.1, q.2, ?_⟩
    by_cases y : c % 9 < 2
    · have hg := hg0 y
      simp -implicitDefEqProofs [fn51, -biV_max2, -biV_min2, biV_mx, biV_mn, d1, d2, d3, s0, s1, s2, s3, s4, z4, y, g8, fn, hg, m2, hF, sF, mx, eG, hs, ms]
    · have hg := hg1 y
      simp -implicitDefEqProofs [fn51, -biV_max2, -biV_min2, biV_mx, biV_mn, d1, d2, d3, s0, s1, s2, s3, s4, z4, y, g8, fn, hg, m2, hF, sF, mx, eG, hs, ms]
end Pg

namespace Pg
open PySem L2 Rm
open PySem.Builtin.Int (intBits)
theorem s_squareby (w f : Nat) (hw2 : 2 ≤ w) (hw : w ≤ 15) (hf1 : 1 ≤ f) (hf : f ≤ 112) (n : Nat) (h : HP) (c : Int) :
    ∃ b : Int, 0 ≤ b ∧ b < 2 ^ (w + f) - 2 ^ f ∧ run p.T p.fs (n + 1) 52 [.tup [.int w, .int f], .int c] h = .ok (.int b) h := by
  rw [run_eq (F := fn52) rfl rfl]
  have s1 := shlB_one (b := (w : Int)) (by omega) (by omega)
  have s4 := shlB_one (b := (w : Int) - 1) (by omega) (by omega)
  have pw := p2 w
  have W15 := two_le_pow hw
  have e15 : (2 : Int) ^ 15 = 32768 := rfl
  have s5 : shlB (2 ^ w - 1) (f : Int) = true := shlB_of (m := 16) (ib_lt (by omega) (by omega)) (by omega) (by omega)
  have x5 : (2 ^ w - 1) * (2 : Int) ^ f = 2 ^ (w + f) - 2 ^ f := by rw [Int.sub_mul, ← Int.pow_add, Int.one_mul]
  have E3 := end_3 (f := f) hw2
  have pf := p2 f
  have d1 := dvB_small (a := (f : Int) + 1) (b := 2) (by decide) (by decide)
  have d7 := dvB_small (a := c) (b := 7) (by decide) (by decide)
  have s2 := shlB_one (b := ((f : Int) + 1) / 2) (by omega) (by omega)
  have eh : (((f : Int) + 1) / 2).toNat = (f + 1) / 2 := by omega
  obtain ⟨g, hg⟩ : ∃ g : Nat, (f + 1) / 2 = g := ⟨_, rfl⟩
  rw [hg] at eh
  have pg := p2 g
  obtain ⟨x, hx⟩ : ∃ x : Int, c % 2 ^ g = x := ⟨_, rfl⟩
  have x0 : 0 ≤ x := by rw [← hx]; exact Int.emod_nonneg _ (by omega)
  have x1 : x < 2 ^ g := by rw [← hx]; exact Int.emod_lt_of_pos _ pg
  by_cases z : x = 0
  · refine ⟨0, by decide, by omega, ?_⟩
    simp -implicitDefEqProofs [fn52, s1, s5, d1, s2, eh, pg, hx, z]
  · have xb := ib_lt x0 x1
    have mm : mulB x x = true := mulB_of xb xb (by omega)
    have bb := intBits_mul_le xb xb
    have xx : x * x < 2 ^ (f + 1) := by
      have h1 := sq_lt x0 x1
      rw [← Int.pow_add] at h1
      have := two_le_pow (show g + g ≤ f + 1 by omega)
      omega
    have x2 : 0 ≤ x * x := Int.mul_nonneg x0 x0
    have bx := ib_lt x2 xx
    obtain ⟨X, hX⟩ : ∃ X, x * x = X := ⟨_, rfl⟩
    rw [hX] at bx bb
    obtain ⟨sp, hsp⟩ : ∃ sp : Int, (f : Int) + 1 - (intBits X : Int) = sp := ⟨_, rfl⟩
    have sp0 : 0 ≤ sp := by omega
    have sh := shlB_of (b := sp) bx sp0 (by omega)
    have est := stp_eq (f := f) hw2
    have sS := stp_s hw hf
    obtain ⟨pp, hpp⟩ : ∃ pp : Int, 2 * (c / 7 % 3) + (stp0 w f : Int) - sp = pp := ⟨_, rfl⟩
    have sh2 : shlB pp (f : Int) = true := shlB_of (m := 20) (intBits_le_of_natAbs (y := 100000) (by omega) (by decide)) (by omega) (by omega)
    have m2 : mulB 2 (c / 7 % 3) = true := mulB_left (by decide)
    have mb := mn_b (pp * 2 ^ f + X * 2 ^ sp.toNat) (2 ^ (w + f) - 2 ^ f - 1)
    have X1 : 1 ≤ X := by
      rw [← hX]
      have := Int.mul_le_mul (show (1 : Int) ≤ x by omega) (show (1 : Int) ≤ x by omega) (by decide) x0
      omega
    have b1 : 1 ≤ intBits X := by
      rcases Nat.eq_zero_or_pos (intBits X) with q | q
      · exfalso
        have := ib_hi (show 0 ≤ X by omega)
        rw [q] at this
        omega
      · exact q
    have w2 := two_le_pow (show 1 ≤ w - 1 by omega)
    rw [Int.pow_one] at w2
    have pp0 : 0 ≤ pp := by omega
    have t0 : 0 ≤ pp * 2 ^ f + X * 2 ^ sp.toNat := Int.add_nonneg (Int.mul_nonneg pp0 (Int.le_of_lt pf)) (Int.mul_nonneg (by omega) (Int.le_of_lt (p2 _)))
    refine ⟨mnI (pp * 2 ^ f + X * 2 ^ sp.toNat) (2 ^ (w + f) - 2 ^ f - 1), by unfold mnI; split <;> omega, by omega, ?_⟩
    simp -implicitDefEqProofs [fn52, -biV_max2, -biV_min2, biV_mx, biV_mn, s1, s4, s5, x5, d1, d7, s2, eh, pg, hx, z, mm, hX, hsp, est, hpp, sh, sh2, m2, sp0]
theorem lv_z {f : Nat} {c : Int} (c0 : 0 ≤ c) : lv f c = 0 ↔ c = 0 := by
  constructor
  · intro h
    rcases Int.lt_or_eq_of_le c0 with z | z
    · have := lv_lt (f := f) (a := 0) (by decide) z
      rw [lv_zero] at this; omega
    · exact z.symm
  · intro h; rw [h, lv_zero]
section
variable {w f k : Nat} {a b : Int}
theorem nn2 (q : a % 2 ^ (w + f) ≤ 2 ^ (w + f) - 2 ^ f) (r : b % 2 ^ (w + f) ≤ 2 ^ (w + f) - 2 ^ f) : ¬ (noneB w f a = true ∨ noneB w f b = true) := fun y => y.elim (no_n q) (no_n r)
theorem divP_ee (q : a % 2 ^ (w + f) = 2 ^ (w + f) - 2 ^ f) (r : b % 2 ^ (w + f) = 2 ^ (w + f) - 2 ^ f) : divP w f k a b = (noN w f, 16) := by
  unfold divP; rw [if_neg (nn2 (Int.le_of_eq q) (Int.le_of_eq r)), if_pos q, if_pos r]
theorem divP_ef (q : a % 2 ^ (w + f) = 2 ^ (w + f) - 2 ^ f) (r : b % 2 ^ (w + f) < 2 ^ (w + f) - 2 ^ f) : divP w f k a b = (Builtin.bitXor (a / 2 ^ (w + f)) (b / 2 ^ (w + f)) * 2 ^ (w + f) + (2 ^ (w + f) - 2 ^ f), 0) := by
  unfold divP; rw [if_neg (nn2 (Int.le_of_eq q) (Int.le_of_lt r)), if_pos q, if_neg (Int.ne_of_lt r)]
theorem divP_fe (hw2 : 2 ≤ w) (q : a % 2 ^ (w + f) < 2 ^ (w + f) - 2 ^ f) (r : b % 2 ^ (w + f) = 2 ^ (w + f) - 2 ^ f) : divP w f k a b = (Builtin.bitXor (a / 2 ^ (w + f)) (b / 2 ^ (w + f)) * 2 ^ (w + f), 0) := by
  have E3 := end_3 (w := w) (f := f) hw2
  have pf := p2 f
  have z : ¬ b % 2 ^ (w + f) = 0 := by omega
  unfold divP; rw [if_neg (nn2 (Int.le_of_lt q) (Int.le_of_eq r)), if_neg (Int.ne_of_lt q), if_neg z, if_pos r]
theorem divP_zz (q : a % 2 ^ (w + f) < 2 ^ (w + f) - 2 ^ f) (r : b % 2 ^ (w + f) < 2 ^ (w + f) - 2 ^ f) (y : a % 2 ^ (w + f) = 0) (z : b % 2 ^ (w + f) = 0) : divP w f k a b = (noN w f, 16) := by
  unfold divP; rw [if_neg (nn2 (Int.le_of_lt q) (Int.le_of_lt r)), if_neg (Int.ne_of_lt q), if_pos z, if_pos y]
theorem divP_fz (q : a % 2 ^ (w + f) < 2 ^ (w + f) - 2 ^ f) (r : b % 2 ^ (w + f) < 2 ^ (w + f) - 2 ^ f) (y : ¬ a % 2 ^ (w + f) = 0) (z : b % 2 ^ (w + f) = 0) : divP w f k a b = (Builtin.bitXor (a / 2 ^ (w + f)) (b / 2 ^ (w + f)) * 2 ^ (w + f) + (2 ^ (w + f) - 2 ^ f), 8) := by
  unfold divP; rw [if_neg (nn2 (Int.le_of_lt q) (Int.le_of_lt r)), if_neg (Int.ne_of_lt q), if_pos z, if_neg y]
theorem divP_ff (q : a % 2 ^ (w + f) < 2 ^ (w + f) - 2 ^ f) (r : b % 2 ^ (w + f) < 2 ^ (w + f) - 2 ^ f) (z : ¬ b % 2 ^ (w + f) = 0) : divP w f k a b = (Builtin.bitXor (a / 2 ^ (w + f)) (b / 2 ^ (w + f)) * 2 ^ (w + f) + (stl w f k (Builtin.bitXor (a / 2 ^ (w + f)) (b / 2 ^ (w + f))) (frOf f (lv f (a % 2 ^ (w + f)) * 2 ^ stp0 w f) (lv f (b % 2 ^ (w + f)))).1 (frOf f (lv f (a % 2 ^ (w + f)) * 2 ^ stp0 w f) (lv f (b % 2 ^ (w + f)))).2).1, (stl w f k (Builtin.bitXor (a / 2 ^ (w + f)) (b / 2 ^ (w + f))) (frOf f (lv f (a % 2 ^ (w + f)) * 2 ^ stp0 w f) (lv f (b % 2 ^ (w + f)))).1 (frOf f (lv f (a % 2 ^ (w + f)) * 2 ^ stp0 w f) (lv f (b % 2 ^ (w + f)))).2).2) := by
  unfold divP; rw [if_neg (nn2 (Int.le_of_lt q) (Int.le_of_lt r)), if_neg (Int.ne_of_lt q), if_neg z, if_neg (Int.ne_of_lt r)]
theorem rtP_no (q : 2 ^ (w + f) - 2 ^ f < a % 2 ^ (w + f)) : rtP w f k a = (noN w f, 0) := by unfold rtP; rw [if_pos q]; rfl
theorem rtP_z (hw2 : 2 ≤ w) (q : a % 2 ^ (w + f) = 0) : rtP w f k a = (a, 0) := by
  have E3 := end_3 (w := w) (f := f) hw2
  have pf := p2 f
  unfold rtP; rw [if_neg (show ¬ 2 ^ (w + f) - 2 ^ f < a % 2 ^ (w + f) by omega), if_pos q]
theorem rtP_neg (q : a % 2 ^ (w + f) ≤ 2 ^ (w + f) - 2 ^ f) (z : ¬ a % 2 ^ (w + f) = 0) (s : 1 ≤ a / 2 ^ (w + f)) : rtP w f k a = (noN w f, 16) := by
  unfold rtP; rw [if_neg (show ¬ 2 ^ (w + f) - 2 ^ f < a % 2 ^ (w + f) by omega), if_neg z, if_pos s]; rfl
theorem rtP_en (q : a % 2 ^ (w + f) = 2 ^ (w + f) - 2 ^ f) (z : ¬ a % 2 ^ (w + f) = 0) (s : ¬ 1 ≤ a / 2 ^ (w + f)) : rtP w f k a = (a, 0) := by
  unfold rtP; rw [if_neg (show ¬ 2 ^ (w + f) - 2 ^ f < a % 2 ^ (w + f) by omega), if_neg z, if_neg s, if_pos q]
theorem rtP_fi (q : a % 2 ^ (w + f) < 2 ^ (w + f) - 2 ^ f) (z : ¬ a % 2 ^ (w + f) = 0) (s : ¬ 1 ≤ a / 2 ^ (w + f)) : rtP w f k a = stl w f k 0 (rtOf f (lv f (a % 2 ^ (w + f)) * 2 ^ stp0 w f)).1 (rtOf f (lv f (a % 2 ^ (w + f)) * 2 ^ stp0 w f)).2 := by
  unfold rtP; rw [if_neg (show ¬ 2 ^ (w + f) - 2 ^ f < a % 2 ^ (w + f) by omega), if_neg z, if_neg s, if_neg (Int.ne_of_lt q)]
end
theorem bitOr0 : Builtin.bitOr 0 0 = 0 ∧ Builtin.bitOr 16 0 = 16 ∧ Builtin.bitOr 8 0 = 8 := ⟨by decide, by decide, by decide⟩
section
variable {w f v e d : Nat} (hw2 : 2 ≤ w) (hf1 : 1 ≤ f) (hv : w + 2 ≤ v) (hv2 : v ≤ 15) (he : 2 * f + 4 ≤ e) (he2 : e ≤ 112) (hd : stp0 v e = stp0 w f + d) (h6 : e + 6 ≤ f + d) (hS : f + 2 ^ w ≤ stp0 v e) (h2S : 2 * stp0 w f ≤ stp0 v e) (hE : lv f (2 ^ (w + f) - 2 ^ f) * 2 ^ d ≤ lv e (2 ^ (v + e) - 2 ^ e - 1)) {a a' b b' : Int} (A : Wd w f v e d a a')
include hw2 hf1 hv hv2 he he2 hd h6 hS h2S hE A
theorem z_wd (h : a % 2 ^ (w + f) < 2 ^ (w + f) - 2 ^ f) (h' : a' % 2 ^ (v + e) < 2 ^ (v + e) - 2 ^ e) : a' % 2 ^ (v + e) = 0 ↔ a % 2 ^ (w + f) = 0 := by
  have E3 := end_3 (w := v) (f := e) (by omega)
  have E3' := end_3 (w := w) (f := f) hw2
  have pe := p2 e
  have pf := p2 f
  rcases A.k with ⟨q, q'⟩ | ⟨q, q', g⟩ | ⟨q, q', g, l⟩
  · omega
  · omega
  · have c := mn a (w + f)
    have c' := mn a' (v + e)
    rw [← lv_z (f := e) c'.1, ← lv_z (f := f) c.1, l]
    constructor
    · intro h; exact (Int.mul_eq_zero.mp h).resolve_right (by have := p2 d; omega)
    · intro h; rw [h, Int.zero_mul]
theorem sgl_wd (h : a % 2 ^ (w + f) < 2 ^ (w + f) - 2 ^ f) (h' : a' % 2 ^ (v + e) < 2 ^ (v + e) - 2 ^ e) : sgl v e a' = sgl w f a * 2 ^ d := by
  rcases A.k with ⟨q, q'⟩ | ⟨q, q', g⟩ | ⟨q, q', g, l⟩
  · omega
  · omega
  · unfold sgl; rw [g, l, Int.mul_assoc]
theorem root_wd : Bk w f v e (rtP v e 0 a') (rtP w f 0 a) := by
  have s01 := sg01 A.a0 A.a1
  have E3 := end_3 (w := v) (f := e) (by omega)
  have E3' := end_3 (w := w) (f := f) hw2
  have pe := p2 e
  have pf := p2 f
  have v2 : 2 ≤ v := by omega
  have da := Int.mul_ediv_add_emod a (2 ^ (w + f))
  have db := Int.mul_ediv_add_emod a' (2 ^ (v + e))
  rcases A.k with ⟨q, q'⟩ | ⟨q, q', g⟩ | ⟨q, q', g, l⟩
  · rw [rtP_no q, rtP_no q']
    exact bk_none hw2 hf1 hv hv2 he he2 bitOr0.1
  · have z : ¬ a % 2 ^ (w + f) = 0 := by omega
    have z' : ¬ a' % 2 ^ (v + e) = 0 := by omega
    by_cases s : 1 ≤ a / 2 ^ (w + f)
    · rw [rtP_neg (Int.le_of_eq q) z s, rtP_neg (Int.le_of_eq q') z' (by rw [g]; exact s)]
      exact bk_none hw2 hf1 hv hv2 he he2 bitOr0.2.1
    · have s0 : a / 2 ^ (w + f) = 0 := by omega
      rw [rtP_en q z s, rtP_en q' z' (by rw [g]; exact s)]
      have k := bk_end hw2 hf1 hv hv2 he he2 (s := 0) (.inl rfl) bitOr0.1
      rw [g, s0, q'] at db
      rw [s0, q] at da
      have e1 : (0 : Int) * 2 ^ (v + e) + (2 ^ (v + e) - 2 ^ e) = a' := by rw [Int.zero_mul]; rw [Int.mul_zero] at db; exact db
      have e2 : (0 : Int) * 2 ^ (w + f) + (2 ^ (w + f) - 2 ^ f) = a := by rw [Int.zero_mul]; rw [Int.mul_zero] at da; exact da
      rw [e1, e2] at k
      exact k
  · have z := z_wd hw2 hf1 hv hv2 he he2 hd h6 hS h2S hE A q q'
    by_cases z0 : a % 2 ^ (w + f) = 0
    · have z1 := z.mpr z0
      rw [rtP_z hw2 z0, rtP_z v2 z1]
      have k := bk_zero hw2 hf1 hv hv2 he he2 s01
      rw [g, z1] at db
      rw [z0] at da
      have e1 : a / 2 ^ (w + f) * 2 ^ (v + e) = a' := by rw [Int.mul_comm]; omega
      have e2 : a / 2 ^ (w + f) * 2 ^ (w + f) = a := by rw [Int.mul_comm]; omega
      rw [e1, e2] at k
      exact k
    · have z1 : ¬ a' % 2 ^ (v + e) = 0 := fun y => z0 (z.mp y)
      by_cases s : 1 ≤ a / 2 ^ (w + f)
      · rw [rtP_neg (Int.le_of_lt q) z0 s, rtP_neg (Int.le_of_lt q') z1 (by rw [g]; exact s)]
        exact bk_none hw2 hf1 hv hv2 he he2 bitOr0.2.1
      · rw [rtP_fi q z0 s, rtP_fi q' z1 (by rw [g]; exact s), l]
        exact bk_root hw2 hf1 hv hv2 he he2 hd h6 hS h2S hE (mn a (w + f)).1
section
variable (B : Wd w f v e d b b')
include B
theorem add_wd : Bk w f v e (addP v e 0 a' b') (addP w f 0 a b) := by
  have sa := sg01 A.a0 A.a1
  have sb := sg01 B.a0 B.a1
  have ca := mn a (w + f)
  have cb := mn b (w + f)
  have no (h : noneB w f a = true ∨ noneB w f b = true) (h' : noneB v e a' = true ∨ noneB v e b' = true) : Bk w f v e (addP v e 0 a' b') (addP w f 0 a b) := by
    unfold addP
    rw [if_pos h, if_pos h']
    exact bk_none hw2 hf1 hv hv2 he he2 bitOr0.1
  rcases A.k with ⟨q, q'⟩ | ⟨q, q', g⟩ | ⟨q, q', g, l⟩
  · exact no (.inl (no_y q)) (.inl (no_y q'))
  · rcases B.k with ⟨r, r'⟩ | ⟨r, r', g2⟩ | ⟨r, r', g2, l2⟩
    · exact no (.inr (no_y r)) (.inr (no_y r'))
    · unfold addP
      rw [if_neg (fun y => y.elim (no_n (by omega)) (no_n (by omega))), if_neg (fun y => y.elim (no_n (by omega)) (no_n (by omega))), tm_en q, tm_en r, tm_en q', tm_en r', sumP_en2, sumP_en2, g, g2]
      split
      · exact bk_none hw2 hf1 hv hv2 he he2 bitOr0.2.1
      · exact bk_end hw2 hf1 hv hv2 he he2 sa bitOr0.1
    · unfold addP
      rw [if_neg (fun y => y.elim (no_n (by omega)) (no_n (by omega))), if_neg (fun y => y.elim (no_n (by omega)) (no_n (by omega))), tm_en q, tm_fi r, tm_en q', tm_fi r', sumP_en1, sumP_en1, g]
      exact bk_end hw2 hf1 hv hv2 he he2 sa bitOr0.1
  · rcases B.k with ⟨r, r'⟩ | ⟨r, r', g2⟩ | ⟨r, r', g2, l2⟩
    · exact no (.inr (no_y r)) (.inr (no_y r'))
    · unfold addP
      rw [if_neg (fun y => y.elim (no_n (by omega)) (no_n (by omega))), if_neg (fun y => y.elim (no_n (by omega)) (no_n (by omega))), tm_fi q, tm_en r, tm_fi q', tm_en r', sumP_en3, sumP_en3, g2]
      exact bk_end hw2 hf1 hv hv2 he he2 sb bitOr0.1
    · rw [addP_fin hw2 ⟨A.a0, A.a1, q⟩ ⟨B.a0, B.a1, r⟩, addP_fin (by omega) ⟨A.b0, A.b1, q'⟩ ⟨B.b0, B.b1, r'⟩, sgl_wd hw2 hf1 hv hv2 he he2 hd h6 hS h2S hE A q q', sgl_wd hw2 hf1 hv hv2 he he2 hd h6 hS h2S hE B r r', ← Int.add_mul, g, g2]
      have n01 : noughtS 0 [a / 2 ^ (w + f), b / 2 ^ (w + f)] = 0 ∨ noughtS 0 [a / 2 ^ (w + f), b / 2 ^ (w + f)] = 1 := by
        rw [nought2 0 sa sb]
        split
        · exact sa
        · exact .inl rfl
      refine bk_add hw2 hf1 hv hv2 he he2 hd h6 hS h2S hE n01 ca.1 q cb.1 r ?_
      have pa := sgl_pm (w := w) (f := f) ⟨A.a0, A.a1, q⟩
      have pb := sgl_pm (w := w) (f := f) ⟨B.a0, B.a1, r⟩
      rcases pa with ⟨x, _⟩ | ⟨x, _⟩ <;> rcases pb with ⟨y, _⟩ | ⟨y, _⟩ <;> rw [x, y]
      · exact .inl (.inl rfl)
      · exact .inl (.inr (by omega))
      · exact .inr (.inl rfl)
      · exact .inr (.inr (by omega))
theorem mul_wd : Bk w f v e (mulP v e 0 a' b') (mulP w f 0 a b) := by
  have sa := sg01 A.a0 A.a1
  have sb := sg01 B.a0 B.a1
  have ca := mn a (w + f)
  have cb := mn b (w + f)
  have sx := xor_01 (a := a / 2 ^ (w + f)) (b := b / 2 ^ (w + f)) sa sb
  have no (h : noneB w f a = true ∨ noneB w f b = true) (h' : noneB v e a' = true ∨ noneB v e b' = true) : Bk w f v e (mulP v e 0 a' b') (mulP w f 0 a b) := by
    unfold mulP
    rw [if_pos h, if_pos h']
    exact bk_none hw2 hf1 hv hv2 he he2 bitOr0.1
  have wz (w f : Nat) (b : Int) : (wt w f b).2.1 = 0 ↔ b % 2 ^ (w + f) = 0 := wh_nought.symm
  rcases A.k with ⟨q, q'⟩ | ⟨q, q', g⟩ | ⟨q, q', g, l⟩
  · exact no (.inl (no_y q)) (.inl (no_y q'))
  · rcases B.k with ⟨r, r'⟩ | ⟨r, r', g2⟩ | ⟨r, r', g2, l2⟩
    · exact no (.inr (no_y r)) (.inr (no_y r'))
    · unfold mulP
      rw [if_neg (fun y => y.elim (no_n (by omega)) (no_n (by omega))), if_neg (fun y => y.elim (no_n (by omega)) (no_n (by omega))), tm_en q, tm_en r, tm_en q', tm_en r', g, g2]
      simp only [prT]
      rw [sumP_e1, sumP_e1]
      exact bk_end hw2 hf1 hv hv2 he he2 sx bitOr0.1
    · unfold mulP
      rw [if_neg (fun y => y.elim (no_n (by omega)) (no_n (by omega))), if_neg (fun y => y.elim (no_n (by omega)) (no_n (by omega))), tm_en q, tm_fi r, tm_en q', tm_fi r', g]
      simp only [prT]
      have z := z_wd hw2 hf1 hv hv2 he he2 hd h6 hS h2S hE B r r'
      by_cases z0 : b % 2 ^ (w + f) = 0
      · rw [if_pos ((wz ..).mpr z0), if_pos ((wz ..).mpr (z.mpr z0)), sumP_w1, sumP_w1]
        exact bk_none hw2 hf1 hv hv2 he he2 bitOr0.2.1
      · rw [if_neg (fun y => z0 ((wz ..).mp y)), if_neg (fun y => z0 (z.mp ((wz ..).mp y))), sumP_e1, sumP_e1]
        have : (wt v e b').1 = (wt w f b).1 := g2
        rw [this]
        exact bk_end hw2 hf1 hv hv2 he he2 sx bitOr0.1
  · rcases B.k with ⟨r, r'⟩ | ⟨r, r', g2⟩ | ⟨r, r', g2, l2⟩
    · exact no (.inr (no_y r)) (.inr (no_y r'))
    · unfold mulP
      rw [if_neg (fun y => y.elim (no_n (by omega)) (no_n (by omega))), if_neg (fun y => y.elim (no_n (by omega)) (no_n (by omega))), tm_fi q, tm_en r, tm_fi q', tm_en r', g2]
      simp only [prT]
      have z := z_wd hw2 hf1 hv hv2 he he2 hd h6 hS h2S hE A q q'
      by_cases z0 : a % 2 ^ (w + f) = 0
      · rw [if_pos ((wz ..).mpr z0), if_pos ((wz ..).mpr (z.mpr z0)), sumP_w1, sumP_w1]
        exact bk_none hw2 hf1 hv hv2 he he2 bitOr0.2.1
      · rw [if_neg (fun y => z0 ((wz ..).mp y)), if_neg (fun y => z0 (z.mp ((wz ..).mp y))), sumP_e1, sumP_e1]
        have : (wt v e a').1 = (wt w f a).1 := g
        rw [this]
        exact bk_end hw2 hf1 hv hv2 he he2 sx bitOr0.1
    · rw [mulP_fin hw2 ⟨A.a0, A.a1, q⟩ ⟨B.a0, B.a1, r⟩, mulP_fin (by omega) ⟨A.b0, A.b1, q'⟩ ⟨B.b0, B.b1, r'⟩, sgl_wd hw2 hf1 hv hv2 he he2 hd h6 hS h2S hE A q q', sgl_wd hw2 hf1 hv hv2 he he2 hd h6 hS h2S hE B r r', g, g2]
      rw [show sgl w f a * 2 ^ d * (sgl w f b * 2 ^ d) = sgl w f a * sgl w f b * (2 ^ d * 2 ^ d) by grind]
      refine bk_mul hw2 hf1 hv hv2 he he2 hd h6 hS h2S hE sx ca.1 cb.1 ?_
      have la := lv_nn (f := f) ca.1
      have lb := lv_nn (f := f) cb.1
      have lab := Int.mul_nonneg la lb
      have pa := sgl_pm (w := w) (f := f) ⟨A.a0, A.a1, q⟩
      have pb := sgl_pm (w := w) (f := f) ⟨B.a0, B.a1, r⟩
      rcases pa with ⟨x, _⟩ | ⟨x, _⟩ <;> rcases pb with ⟨y, _⟩ | ⟨y, _⟩ <;> rw [x, y]
      · omega
      · rw [Int.mul_neg]; omega
      · rw [Int.neg_mul]; omega
      · rw [Int.neg_mul_neg]; omega
theorem div_wd : Bk w f v e (divP v e 0 a' b') (divP w f 0 a b) := by
  have sa := sg01 A.a0 A.a1
  have sb := sg01 B.a0 B.a1
  have ca := mn a (w + f)
  have cb := mn b (w + f)
  have E3 := end_3 (w := v) (f := e) (by omega)
  have E3' := end_3 (w := w) (f := f) hw2
  have pe := p2 e
  have pf := p2 f
  have sx := xor_01 (a := a / 2 ^ (w + f)) (b := b / 2 ^ (w + f)) sa sb
  have no (h : noneB w f a = true ∨ noneB w f b = true) (h' : noneB v e a' = true ∨ noneB v e b' = true) : Bk w f v e (divP v e 0 a' b') (divP w f 0 a b) := by
    unfold divP
    rw [if_pos h, if_pos h']
    exact bk_none hw2 hf1 hv hv2 he he2 bitOr0.1
  rcases A.k with ⟨q, q'⟩ | ⟨q, q', g⟩ | ⟨q, q', g, l⟩
  · exact no (.inl (no_y q)) (.inl (no_y q'))
  · rcases B.k with ⟨r, r'⟩ | ⟨r, r', g2⟩ | ⟨r, r', g2, l2⟩
    · exact no (.inr (no_y r)) (.inr (no_y r'))
    · rw [divP_ee q r, divP_ee q' r']
      exact bk_none hw2 hf1 hv hv2 he he2 bitOr0.2.1
    · rw [divP_ef q r, divP_ef q' r', g, g2]
      exact bk_end hw2 hf1 hv hv2 he he2 sx bitOr0.1
  · rcases B.k with ⟨r, r'⟩ | ⟨r, r', g2⟩ | ⟨r, r', g2, l2⟩
    · exact no (.inr (no_y r)) (.inr (no_y r'))
    · rw [divP_fe hw2 q r, divP_fe (by omega) q' r', g, g2]
      exact bk_zero hw2 hf1 hv hv2 he he2 sx
    · have za := z_wd hw2 hf1 hv hv2 he he2 hd h6 hS h2S hE A q q'
      have zb := z_wd hw2 hf1 hv hv2 he he2 hd h6 hS h2S hE B r r'
      by_cases z0 : b % 2 ^ (w + f) = 0
      · by_cases y0 : a % 2 ^ (w + f) = 0
        · rw [divP_zz q r y0 z0, divP_zz q' r' (za.mpr y0) (zb.mpr z0)]
          exact bk_none hw2 hf1 hv hv2 he he2 bitOr0.2.1
        · rw [divP_fz q r y0 z0, divP_fz q' r' (fun y => y0 (za.mp y)) (zb.mpr z0), g, g2]
          exact bk_end hw2 hf1 hv hv2 he he2 sx bitOr0.2.2
      · rw [divP_ff q r z0, divP_ff q' r' (fun y => z0 (zb.mp y)), g, g2, l, l2]
        exact bk_div hw2 hf1 hv hv2 he he2 hd h6 hS h2S hE sx ca.1 (by omega) r
end
theorem neg_wd : Wd w f v e d (Builtin.bitXor a (2 ^ (w + f))) (Builtin.bitXor a' (2 ^ (v + e))) := by
  have pT := p2 (w + f)
  have eT := pow_s (w + f)
  have pT' := p2 (v + e)
  have eT' := pow_s (v + e)
  have t1 := xor_lt (w + f + 1) A.a0 A.a1 (show 0 ≤ (2 : Int) ^ (w + f) by omega) (by omega)
  have t2 := xor_lt (v + e + 1) A.b0 A.b1 (show 0 ≤ (2 : Int) ^ (v + e) by omega) (by omega)
  obtain ⟨x1, x2⟩ := xor_parts A.a0 A.a1
  obtain ⟨y1, y2⟩ := xor_parts A.b0 A.b1
  refine ⟨t1.1, t1.2, t2.1, t2.2, ?_⟩
  rcases A.k with ⟨q, q'⟩ | ⟨q, q', g⟩ | ⟨q, q', g, l⟩
  · exact .none (by rw [x2]; exact q) (by rw [y2]; exact q')
  · exact .en (by rw [x2]; exact q) (by rw [y2]; exact q') (by rw [x1, y1, g])
  · exact .fin (by rw [x2]; exact q) (by rw [y2]; exact q') (by rw [x1, y1, g]) (by rw [x2, y2]; exact l)
end
noncomputable def toldP (w f : Nat) (q : Int) (a b : Int) : Int × Int :=
  if q = 0 then addP w f 0 a b else if q = 1 then addP w f 0 a (Builtin.bitXor b (2 ^ (w + f))) else if q = 2 then mulP w f 0 a b else if q = 3 then divP w f 0 a b else rtP w f 0 a
theorem s_told (w f : Nat) (hw2 : 2 ≤ w) (hw : w ≤ 15) (hf1 : 1 ≤ f) (hf : f ≤ 112) (n : Nat) (h : HP) (q : Int) {a b : Int} (a0 : 0 ≤ a) (a1 : a < 2 ^ (w + f + 1)) (b0 : 0 ≤ b) (b1 : b < 2 ^ (w + f + 1)) :
    run p.T p.fs (n + 10) 56 [.int q, .tup [.int w, .int f], .int a, .int b] h = .ok (.tup [.int (toldP w f q a b).1, .int (toldP w f q a b).2]) h := by
  have t0 := s_addP w f hw2 hw hf1 hf 0 (by decide) a0 a1 b0 b1 (n + 1) h
  have t1 := s_takP w f hw2 hw hf1 hf 0 (by decide) a0 a1 b0 b1 n h
  have t2 := s_mulP w f hw2 hw hf1 hf 0 (by decide) a0 a1 b0 b1 (n + 1) h
  have t3 := s_divP w f hw2 hw hf1 hf 0 (by decide) a0 a1 b0 b1 (n + 1) h
  have t4 := s_rtP w f hw2 hw hf1 hf 0 (by decide) a0 a1 (n + 1) h
  rw [show wayN 0 = "even" from rfl] at t0 t1 t2 t3 t4
  rw [run_eq (F := fn56) rfl rfl]
  unfold toldP
  by_cases z0 : q = 0
  · simp -implicitDefEqProofs [fn56, z0, t0]
  by_cases z1 : q = 1
  · simp -implicitDefEqProofs [fn56, z1, t1]
  by_cases z2 : q = 2
  · simp -implicitDefEqProofs [fn56, z2, t2]
  by_cases z3 : q = 3
  · simp -implicitDefEqProofs [fn56, z3, t3]
  · simp -implicitDefEqProofs [fn56, z0, z1, z2, z3, t4]
theorem s_same {w f v e : Nat} (hw2 : 2 ≤ w) (hf1 : 1 ≤ f) (hv : w + 2 ≤ v) (hv2 : v ≤ 15) (he : 2 * f + 4 ≤ e) (he2 : e ≤ 112) (n : Nat) (h : HP) (q : Int) {a b : Int} (a0 : 0 ≤ a) (a1 : a < 2 ^ (w + f + 1)) (b0 : 0 ≤ b) (b1 : b < 2 ^ (w + f + 1)) :
    run p.T p.fs (n + 11) 57 [.int q, .tup [.int w, .int f], .tup [.int v, .int e], .int a, .int b] h = .ok (.bl true) h := by
  obtain ⟨d, hd, h6, hS, h2S, _, hE⟩ := dd_ok hw2 hf1 hv hv2 he he2
  obtain ⟨a', A, ea⟩ := s_up hw2 hf1 hv hv2 he he2 hd h6 hS h2S hE a0 a1
  obtain ⟨b', B, eb⟩ := s_up hw2 hf1 hv hv2 he he2 hd h6 hS h2S hE b0 b1
  have t1 := s_told w f hw2 (by omega) hf1 (by omega) n h q a0 a1 b0 b1
  have t2 := s_told v e (by omega) hv2 (by omega) he2 n h q A.b0 A.b1 B.b0 B.b1
  have bk : Bk w f v e (toldP v e q a' b') (toldP w f q a b) := by
    unfold toldP
    by_cases z0 : q = 0
    · rw [if_pos z0, if_pos z0]; exact add_wd hw2 hf1 hv hv2 he he2 hd h6 hS h2S hE A B
    by_cases z1 : q = 1
    · rw [if_neg z0, if_neg z0, if_pos z1, if_pos z1]; exact add_wd hw2 hf1 hv hv2 he he2 hd h6 hS h2S hE A (neg_wd hw2 hf1 hv hv2 he he2 hd h6 hS h2S hE B)
    by_cases z2 : q = 2
    · rw [if_neg z0, if_neg z0, if_neg z1, if_neg z1, if_pos z2, if_pos z2]; exact mul_wd hw2 hf1 hv hv2 he he2 hd h6 hS h2S hE A B
    by_cases z3 : q = 3
    · rw [if_neg z0, if_neg z0, if_neg z1, if_neg z1, if_neg z2, if_neg z2, if_pos z3, if_pos z3]; exact div_wd hw2 hf1 hv hv2 he he2 hd h6 hS h2S hE A B
    · rw [if_neg z0, if_neg z0, if_neg z1, if_neg z1, if_neg z2, if_neg z2, if_neg z3, if_neg z3]; exact root_wd hw2 hf1 hv hv2 he he2 hd h6 hS h2S hE A
  have ea := ea (n + 4) h
  have eb := eb (n + 4) h
  obtain ⟨y, ec, fl⟩ := bk (n + 4) h
  rw [show wayN 0 = "even" from rfl] at ea eb ec
  obtain ⟨Q, hQ⟩ : ∃ Q, toldP w f q a b = Q := ⟨_, rfl⟩
  obtain ⟨Q', hQ'⟩ : ∃ Q, toldP v e q a' b' = Q := ⟨_, rfl⟩
  rw [hQ] at t1 ec fl
  rw [hQ'] at t2 ec fl
  have w1 := s_two (n + 8) h a' 0
  have w2 := s_two (n + 8) h b' 0
  have w3 := s_two (n + 8) h Q.1 Q.2
  have w4 := s_two (n + 8) h Q'.1 Q'.2
  have w5 := s_two (n + 8) h Q.1 y
  rw [run_eq (F := fn57) rfl rfl]
  simp -implicitDefEqProofs [fn57, ea, eb, t1, t2, ec, fl, w1, w2, w3, w4, w5]
theorem s_narrowby (n : Nat) (h : HP) (c : Int) : ∃ w f : Nat, 2 ≤ w ∧ w ≤ 13 ∧ 1 ≤ f ∧ f ≤ 54 ∧ run p.T p.fs (n + 1) 54 [.int c] h = .ok (.tup [.int w, .int f]) h := by
  rw [run_eq (F := fn54) rfl rfl]
  have d1 := dvB_small (a := c) (b := 4) (by decide) (by decide)
  have d2 := dvB_small (a := c) (b := 48) (by decide) (by decide)
  have d3 := dvB_small (a := c) (b := 16) (by decide) (by decide)
  by_cases h0 : c % 4 = 0
  · rcases (show c / 4 % 6 = 0 ∨ c / 4 % 6 = 1 ∨ c / 4 % 6 = 2 ∨ c / 4 % 6 = 3 ∨ c / 4 % 6 = 4 ∨ c / 4 % 6 = 5 by omega) with z | z | z | z | z | z
    · exact ⟨5, 10, by decide, by decide, by decide, by decide, by simp [fn54, d1, h0, z]⟩
    · exact ⟨8, 23, by decide, by decide, by decide, by decide, by simp [fn54, d1, h0, z]⟩
    · exact ⟨11, 52, by decide, by decide, by decide, by decide, by simp [fn54, d1, h0, z]⟩
    · exact ⟨2, 54, by decide, by decide, by decide, by decide, by simp [fn54, d1, h0, z]⟩
    · exact ⟨13, 54, by decide, by decide, by decide, by decide, by
        have a4 : atI [MV.tup [.int 5, .int 10], .tup [.int 8, .int 23], .tup [.int 11, .int 52], .tup [.int 2, .int 54], .tup [.int 13, .int 54], .tup [.int 4, .int 3]] 4 = some (.tup [.int 13, .int 54]) := (atI_nat (k := 4) rfl (by simp)).trans rfl
        simp [fn54, d1, h0, z, a4]⟩
    · exact ⟨4, 3, by decide, by decide, by decide, by decide, by
        have a4 : atI [MV.tup [.int 5, .int 10], .tup [.int 8, .int 23], .tup [.int 11, .int 52], .tup [.int 2, .int 54], .tup [.int 13, .int 54], .tup [.int 4, .int 3]] 5 = some (.tup [.int 4, .int 3]) := (atI_nat (k := 5) rfl (by simp)).trans rfl
        simp [fn54, d1, h0, z, a4]⟩
  by_cases h1 : c % 4 = 1
  · refine ⟨(2 + c / 4 % 12).toNat, (1 + c / 48 % 54).toNat, by omega, by omega, by omega, by omega, ?_⟩
    have e1 : (((2 + c / 4 % 12).toNat : Nat) : Int) = 2 + c / 4 % 12 := by omega
    have e2 : (((1 + c / 48 % 54).toNat : Nat) : Int) = 1 + c / 48 % 54 := by omega
    rw [e1, e2]
    simp [fn54, d1, d2, h1]
  · refine ⟨(2 + c / 4 % 4).toNat, (1 + c / 16 % 5).toNat, by omega, by omega, by omega, by omega, ?_⟩
    have e1 : (((2 + c / 4 % 4).toNat : Nat) : Int) = 2 + c / 4 % 4 := by omega
    have e2 : (((1 + c / 16 % 5).toNat : Nat) : Int) = 1 + c / 16 % 5 := by omega
    rw [e1, e2]
    simp [fn54, d1, d3, h0, h1]
theorem s_wideby (w f : Nat) (hw2 : 2 ≤ w) (hw : w ≤ 13) (hf1 : 1 ≤ f) (hf : f ≤ 54) (n : Nat) (h : HP) (c : Int) : ∃ v e : Nat, w + 2 ≤ v ∧ v ≤ 15 ∧ 2 * f + 4 ≤ e ∧ e ≤ 112 ∧
    run p.T p.fs (n + 1) 55 [.tup [.int w, .int f], .int c] h = .ok (.tup [.int v, .int e]) h := by
  rw [run_eq (F := fn55) rfl rfl]
  have d1 := dvB_small (a := c) (b := 2) (by decide) (by decide)
  have d2 := dvB_small (a := c) (b := 24) (by decide) (by decide)
  have m2 : mulB 2 (f : Int) = true := mulB_left (by decide)
  have a0 : (0 : Int) < 14 - w := by omega
  have a1 : (0 : Int) < 109 - 2 * f := by omega
  have b1 := Int.emod_nonneg (c / 2) (Int.ne_of_gt a0)
  have b2 := Int.emod_lt_of_pos (c / 2) a0
  have b3 := Int.emod_nonneg (c / 24) (Int.ne_of_gt a1)
  have b4 := Int.emod_lt_of_pos (c / 24) a1
  have a0' : (w : Int) < 14 := by omega
  have a1' : 2 * (f : Int) < 109 := by omega
  by_cases z : c % 2 = 0
  · refine ⟨w + 2, 2 * f + 4, by omega, by omega, by omega, by omega, ?_⟩
    simp [fn55, d1, m2, z, a0']
  · refine ⟨((w : Int) + 2 + c / 2 % (14 - w)).toNat, (2 * (f : Int) + 4 + c / 24 % (109 - 2 * f)).toNat, by omega, by omega, by omega, by omega, ?_⟩
    have e1 : ((((w : Int) + 2 + c / 2 % (14 - w)).toNat : Nat) : Int) = w + 2 + c / 2 % (14 - w) := by omega
    have e2 : (((2 * (f : Int) + 4 + c / 24 % (109 - 2 * f)).toNat : Nat) : Int) = 2 * f + 4 + c / 24 % (109 - 2 * f) := by omega
    rw [e1, e2]
    simp [fn55, d1, d2, m2, z, a0', a1']
theorem law_true : ∀ ns : List Int, ns.length ≤ 63 → (∀ z ∈ ns, Builtin.Int.intBits z ≤ 1048576) → run p.T p.fs 40 58 [.lst (ns.map .int)] [] = .ok (.bl true) [] := by
  intro ns hl hn
  rw [run_eq (F := fn58) rfl rfl]
  have e0 := s_cellat (ns := ns) (i := 0) (k := 0) rfl
  have e1 := s_cellat (ns := ns) (i := 1) (k := 1) rfl
  obtain ⟨c0, hc0⟩ : ∃ c, cellAt ns 0 = c := ⟨_, rfl⟩
  obtain ⟨c1, hc1⟩ : ∃ c, cellAt ns 1 = c := ⟨_, rfl⟩
  rw [hc0] at e0
  rw [hc1] at e1
  obtain ⟨w, f, hw2, hw, hf1, hf, es⟩ := s_narrowby 38 [] c0
  obtain ⟨v, e, hv, hv2, he, he2, ev⟩ := s_wideby w f hw2 hw hf1 hf 38 [] c1
  obtain ⟨L, hL⟩ : ∃ L : Int, (if (ns.length : Int) > 4 then (ns.length : Int) else 4) = L := ⟨_, rfl⟩
  have L0 : 4 ≤ L ∧ L ≤ 63 := by split at hL <;> omega
  have rg := rg3M_ok (i := 2) (j := L) (by decide) (by decide) (by omega) (by omega) []
  obtain ⟨e', h9, _⟩ := forL_inv (tg := .one 3) (src := fun _ => some (rg3 2 L 2)) (h := []) rfl (f := exSs p.T (run p.T p.fs 39) w58_0) (fun g => ∃ x3 x4 x5 x6 : Option MV, g = [some (.lst (ns.map .int)), some (.tup [.int w, .int f]), some (.tup [.int v, .int e]), x3, x4, x5, x6]) (rg3 2 L 2)
    (by
      intro x hx g hg
      obtain ⟨z3, z4, z5, z6, rfl⟩ := hg
      obtain ⟨k, rfl, hk⟩ := rg3_mem hx
      have ek := s_cellat (ns := ns) (i := 2 + (k : Int) * 2) (k := 2 + k * 2) (by omega)
      have ek2 := s_cellat (ns := ns) (i := 2 + (k : Int) * 2 + 1) (k := 2 + k * 2 + 1) (by omega)
      have bc := cellAt_bits hn (2 + k * 2)
      have bd := cellAt_bits hn (2 + k * 2 + 1)
      obtain ⟨c, hc⟩ : ∃ c, cellAt ns (2 + k * 2) = c := ⟨_, rfl⟩
      obtain ⟨y, hy⟩ : ∃ c, cellAt ns (2 + k * 2 + 1) = c := ⟨_, rfl⟩
      rw [hc] at ek bc
      rw [hy] at ek2 bd
      obtain ⟨q, hq⟩ : ∃ q : Int, 2 + (k : Int) * 2 = q := ⟨_, rfl⟩
      rw [hq] at ek ek2 ⊢
      have d5 := dvB_small (a := c) (b := 5) (by decide) (by decide)
      have d3 := dvB_small (a := y) (b := 3) (by decide) (by decide)
      have bc5 : intBits (c / 5) ≤ 1048576 := intBits_le_of_natAbs (by omega) bc
      obtain ⟨W, hW⟩ : ∃ W : Int, c % 5 = W := ⟨_, rfl⟩
      obtain ⟨a, a0, a1, ea⟩ := s_bitsby w f hw2 (by omega) hf1 (by omega) 37 [] (c / 5) bc5
      obtain ⟨r, r0, r1, er⟩ := s_squareby w f hw2 (by omega) hf1 (by omega) 38 [] (y / 3)
      have EL := end_lt (w := w) (f := f)
      have eT := pow_s (w + f)
      have r1' : r < 2 ^ (w + f + 1) := by have := p2 (w + f); have := p2 f; omega
      -- the first number
      by_cases sq : W = 4 ∧ y % 3 = 0
      · obtain ⟨b, b0, b1, eb⟩ := s_mateby w f hw2 (by omega) hf1 (by omega) 35 [] r0 r1' y bd false
        have sm := s_same hw2 hf1 hv hv2 he he2 28 [] W r0 r1' b0 b1
        rw [sq.1] at sm hW
        exact ⟨_, [some (.lst (ns.map .int)), some (.tup [.int w, .int f]), some (.tup [.int v, .int e]), some (.int q), some (.int 4), some (.int r), some (.int b)], rfl, by simp [ek, ek2, ea, d5, d3, hW, sq.2, er, eb, sm], _, _, _, _, rfl⟩
      · by_cases lo : W < 2
        · have W4 : ¬ W = 4 := by omega
          have W3 : ¬ W = 3 := by omega
          obtain ⟨b0', b00, b01, eb0⟩ := s_mateby w f hw2 (by omega) hf1 (by omega) 35 [] a0 a1 y bd false
          obtain ⟨b, b0, b1, eb⟩ := s_nearby w f hw2 (by omega) hf1 (by omega) 36 [] a0 a1 y bd
          have sm := s_same hw2 hf1 hv hv2 he he2 28 [] W a0 a1 b0 b1
          exact ⟨_, [some (.lst (ns.map .int)), some (.tup [.int w, .int f]), some (.tup [.int v, .int e]), some (.int q), some (.int W), some (.int a), some (.int b)], rfl, by simp [ek, ek2, ea, d5, d3, hW, W4, W3, lo, eb0, eb, sm], _, _, _, _, rfl⟩
        · obtain ⟨b, b0, b1, eb⟩ := s_mateby w f hw2 (by omega) hf1 (by omega) 35 [] a0 a1 y bd (decide (W = 3))
          have sm := s_same hw2 hf1 hv hv2 he he2 28 [] W a0 a1 b0 b1
          by_cases W4 : W = 4
          · have y3 : ¬ y % 3 = 0 := fun z => sq ⟨W4, z⟩
            rw [W4] at eb sm hW
            have eb' : run p.T p.fs 39 51 [.tup [.int w, .int f], .int a, .int y, .bl false] [] = .ok (.int b) [] := eb
            exact ⟨_, [some (.lst (ns.map .int)), some (.tup [.int w, .int f]), some (.tup [.int v, .int e]), some (.int q), some (.int 4), some (.int a), some (.int b)], rfl, by simp [ek, ek2, ea, d5, d3, hW, y3, eb', sm], _, _, _, _, rfl⟩
          · exact ⟨_, [some (.lst (ns.map .int)), some (.tup [.int w, .int f]), some (.tup [.int v, .int e]), some (.int q), some (.int W), some (.int a), some (.int b)], rfl, by simp [ek, ek2, ea, d5, d3, hW, W4, lo, eb, sm], _, _, _, _, rfl⟩) [some (.lst (ns.map .int)), some (.tup [.int w, .int f]), some (.tup [.int v, .int e]), none, none, none, none] ⟨none, none, none, none, rfl⟩
  simp only [gt_iff_lt] at hL
  simp [fn58, e0, e1, es, ev, hL, rg, h9]
end Pg

open PySem PySem.W PySem.Calls PyProof.Rows
theorem PySem.Challenge.cw_roundmill_k64_whole_wide_holds : PySem.Challenge.rw_roundmill_k64_whole_wide.Holds := by
  w_on; o_law
  refine HandSHeadRun.head_any (r := OpenLaw.row PySem.Challenge.rw_roundmill_k64_whole_wide) (q := view (OpenLaw.row PySem.Challenge.rw_roundmill_k64_whole_wide).prog [73]) (H := Pg.p.hook 4) (ob := Pg.ob) (M := 12560) (loose := Pg.names) (d := HandSHeadRun.topDef (OpenLaw.row PySem.Challenge.rw_roundmill_k64_whole_wide).prog 73) (kwd := []) Pg.ob_eq
    (by kernel_rfl) (fun s => by kernel_rfl) Pg.runH (by kernel_rfl) (by kernel_rfl) (by kernel_rfl) (by rfl) (by first | assumption | decide +kernel) (by decide +kernel) ⟨rfl, rfl, rfl, rfl, rfl, by decide +kernel⟩ ?hw ?hc
  case hw => w_witness2
  case hc =>
    exact Rm.law_walk (p := Pg.p) (n := 63) (k := 40) (f := 58) (D := Pg.d58) (x := "_law_script") rfl (by decide) (by kernel_rfl) ⟨rfl, by decide, by decide⟩ (by kernel_rfl) rfl Pg.tbs Pg.okp Pg.inc rfl (by kernel_rfl) (by kernel_rfl) Pg.law_true
