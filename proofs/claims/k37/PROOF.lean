import PyProof.Rows.All
import Wide.All
import OpenK.AllK
import Wide.FinOn
import HandS.ForMost
import HandS.ForExc
import HandS.Wide
import HandS.WideBits
import HandS.Text
import HandS.StrMore
import PyProof.StrBlock2
import HandS.Conv
import HandS.ListItems
import HandS.Replace
import HandS.IsInst
import HandS.ExcIs
import HandS.ExcValue
import HandS.Comp
import HandS.Iter
import HandS.Zip
import HandS.More
import HandS.SortKw
import KE.DatumOrd
import HandS.TryOnly
import KE.GoesRaise
import HandS.Rev
import HandS.ForDict
import HandS.Defaults
import HandS.Head0
import HandS.Head1
import HandS.Head2
import HandS.HeadEnd
import HandS.HeadHook1
import HandS.HeadHook2
import HandS.EndBits
import KE.KBits
import KE.BitLaws
import KE.KBitsMul
import HandS.Lambda
import HandS.Nested
import HandS.NestedK
import HandS.HeadHook4
import KE.SortKeyHeap
import PySem.Challenge.RW_roundmill_k37_gathered_in_any_order
set_option Elab.async false
set_option linter.all false
set_option maxRecDepth 100000
set_option maxHeartbeats 4000000
/-! Rm, part A: values, the small language, its evaluator. -/
namespace Rm
open PySem L2

inductive MV where
  | non | bl (b : Bool) | int (i : Int) | str (s : Str)
  | tup (xs : List MV) | lst (xs : List MV)
  | ref (i : Nat)
  | obj (c : Nat) (fs : List MV)
  | exc (c : Nat) (fs : List MV)
  deriving Inhabited

inductive MO where
  | lst (xs : List MV)
  | ins (c : Nat) (fs : List MV)
  | dic (kvs : List (L2.Key × MV))
  deriving Inhabited

abbrev HP := List MO
abbrev MX := Nat × List MV
abbrev EN := List (Option MV)

inductive R (α : Type) where
  | ok (a : α) (h : HP) | exc (x : MX) (h : HP) | bad

def R.bind {α β : Type} (r : R α) (f : α → HP → R β) : R β := match r with
  | .ok a h => f a h
  | .exc x h => .exc x h
  | .bad => .bad
@[simp] theorem R.bind_ok {α β : Type} (a : α) (h : HP) (f : α → HP → R β) : (R.ok a h).bind f = f a h := rfl
@[simp] theorem R.bind_exc {α β : Type} (x : MX) (h : HP) (f : α → HP → R β) : (R.exc x h : R α).bind f = .exc x h := rfl
@[simp] theorem R.bind_bad {α β : Type} (f : α → HP → R β) : (R.bad : R α).bind f = .bad := rfl
def R.of {α : Type} (o : Option α) (h : HP) : R α := match o with
  | some a => .ok a h
  | none => .bad
@[simp] theorem R.of_some {α : Type} (a : α) (h : HP) : R.of (some a) h = .ok a h := rfl
@[simp] theorem R.of_none {α : Type} (h : HP) : (R.of none h : R α) = .bad := rfl

inductive Bop where
  | add | sub | mul | fdv | mod | pow | shl | shr | and | or | xor
  deriving DecidableEq
inductive Cop where
  | eq | ne | lt | le | gt | ge | is | isn | inn | nin
  deriving DecidableEq
inductive Bi where
  | len | dvm | abs | max2 | min2 | int1 | str1 | list1 | sum1 | all1 | max1
  deriving DecidableEq
inductive Me where
  | bitlen | strip1 | rstrip1 | starts | part | zfill | split1 | join1 | upper
  deriving DecidableEq
inductive Tg where
  | one (i : Nat) | tup (is : List Nat)
mutual
inductive E where
  | var (i : Nat) | cI (i : Int) | cS (s : Str) | cB (b : Bool) | cN | gI (x : Str) (i : Int) | gS (x s : Str)
  | neg (a : E) | not (a : E)
  | bin (o : Bop) (a b : E) | cmp (o : Cop) (a b : E) | chn (o p : Cop) (a b c : E)
  | and (a b : E) | or (a b : E) | ife (t a b : E)
  | tup (es : Es) | lst (es : Es) | cel (es : Es)
  | idx (a i : E) | slc (a lo hi : E)
  | call (f : Nat) (es : Es)
  | bi (b : Bi) (es : Es)
  | me (m : Me) (o : E) (es : Es)
  | isT (a : E) (n : String)
  | isC (a : E) (c : Nat)
  | isCs (a : E) (cs : List Nat)
  | atr (o : E) (f : Str)
  | mcl (o : E) (m : Str) (es : Es)
  | new (c : Nat) (es : Es)
  | cll (a : E)
  | lcm (cl : Bool) (tg : Tg) (vs : List Nat) (it : I) (a : E)
  | lcg (tg : Tg) (vs : List Nat) (it : I) (a : E)
  | lcf (tg : Tg) (vs : List Nat) (it : I) (t a : E)
  | mnd (a d : E)
  | dnw | dgt (d k : E) | din (ng : Bool) (k d : E) | dks (cl : Bool) (d : E) | dit (d : E)
  | mclc (o : E) (m : Str) (es : Es)
  | lix (o y : E)
  | spc (o y : E) | sxi (o y : E)
  | dln (d : E)
  | lrv (cl : Bool) (a : E)
  | scl (a lo hi : E)
inductive Es where
  | nil | cons (e : E) (es : Es)
inductive I where
  | seq (e : E) | rng1 (a : E) | rng2 (a b : E) | rng3 (a b c : E) | zip (a b : E) | enm (a : E)
end
mutual
inductive S where
  | asg (t : Tg) (e : E)
  | aug (i : Nat) (o : Bop) (e : E)
  | exp (e : E)
  | app (o e : E)
  | rvs (o : E)
  | ins (o i e : E)
  | sto (o i e : E)
  | sta (o : E) (f : Str) (e : E)
  | iff (t : E) (a b : Ss)
  | whl (t : E) (b : Ss)
  | fr (tg : Tg) (it : I) (b : Ss)
  | ret (e : E) | retN
  | rais (c : Nat)
  | tri (b : Ss) (c : Nat) (i y : Nat)
  | cont
  | dpt (o i e : E)
  | clr (o : E)
  | trx (b : Ss)
  | pas
inductive Ss where
  | nil | cons (s : S) (ss : Ss)
end

/-! ### operations on values -/
def sz : Nat := 16777216
def getL (h : HP) : MV → Option (List MV)
  | .lst xs => some xs
  | .ref i => match h[i]? with
    | some (.lst xs) => some xs
    | _ => none
  | _ => none
def mulB (i j : Int) : Bool := decide (Builtin.Int.intBits i ≤ 64) || decide (Builtin.Int.intBits j ≤ 64) || decide ((Builtin.Int.intBits i : Int) + (Builtin.Int.intBits j : Int) ≤ 134217728)
def dvB (i j : Int) : Bool := decide (0 < j) && (decide (j < 1073741824) || !Builtin.divisionGoesByPylong i j)
def powB (i j : Int) : Bool := decide (0 ≤ j) && ((decide (j ≤ 1000000) && decide (i.natAbs < 2 ^ 64)) || decide ((Builtin.Int.intBits i : Int) * j ≤ 134217728))
def shlB (i j : Int) : Bool := decide (0 ≤ j) && decide ((Builtin.Int.intBits i : Int) + j ≤ 134217728)

-- plain data of a value
mutual
def toD (h : HP) : MV → Option PyData
  | .non => some .none
  | .bl b => some (.bool b)
  | .int i => some (.int i)
  | .str s => some (.str s)
  | .tup xs => (toDs h xs).map .tuple
  | .lst xs => (toDs h xs).map .list
  | _ => none
def toDs (h : HP) : List MV → Option (List PyData)
  | [] => some []
  | x :: xs => (toD h x).bind fun d => (toDs h xs).map fun ds => d :: ds
end
def flat0 (h : HP) : MV → Option PyData
  | .ref i => match h[i]? with
    | some (.lst xs) => (toDs h xs).map .list
    | _ => none
  | v => toD h v
def flats0 (h : HP) : List MV → Option (List PyData)
  | [] => some []
  | x :: xs => (flat0 h x).bind fun d => (flats0 h xs).map fun ds => d :: ds
def lstD (h : HP) (xs : List MV) : Option PyData := match toDs h xs with
  | some ds => some (.list ds)
  | none => (flats0 h xs).map .list
def flatD (h : HP) : MV → Option PyData
  | .ref i => match h[i]? with
    | some (.lst xs) => (toDs h xs).map .list
    | _ => none
  | .lst xs => lstD h xs
  | v => toD h v
def eqM (h : HP) (x y : MV) : Option Bool := (flatD h x).bind fun d => (flatD h y).bind fun e => if SeqAt.shaped d && SeqAt.shaped e then some (PyData.eqv d e) else none

def int2 (x y : MV) (f : Int → Int → Option MV) : Option MV := match x, y with
  | .int a, .int b => f a b
  | _, _ => none
@[simp] theorem int2_ii (a b : Int) (f : Int → Int → Option MV) : int2 (.int a) (.int b) f = f a b := rfl
theorem int2_some {x y z : MV} {f : Int → Int → Option MV} (h : int2 x y f = some z) : ∃ a b, x = .int a ∧ y = .int b ∧ f a b = some z := by
  unfold int2 at h
  split at h
  · exact ⟨_, _, rfl, rfl, h⟩
  · cases h
def catL (h : HP) (x y : MV) : Option MV := (getL h x).bind fun xs => (getL h y).bind fun ys => if xs.length + ys.length ≤ sz then some (.lst (xs ++ ys)) else none
def addV (h : HP) : MV → MV → Option MV
  | .int a, y => int2 (.int a) y fun a b => some (.int (a + b))
  | .str a, .str b => if a.length + b.length ≤ sz then some (.str (a ++ b)) else none
  | .tup xs, .tup ys => if xs.isEmpty = false ∧ ys.isEmpty = false ∧ xs.length + ys.length ≤ sz then some (.tup (xs ++ ys)) else none
  | x, y => catL h x y
def mulV (h : HP) : MV → MV → Option MV
  | .int a, y => int2 (.int a) y fun a b => if mulB a b then some (.int (a * b)) else none
  | .str a, .int k => if 0 ≤ k ∧ k < 1000000 ∧ a.length * k.toNat ≤ sz then some (.str (Txt.mul a k)) else none
  | x, .int k => (getL h x).bind fun xs => if 0 ≤ k ∧ k < 1000000 ∧ xs.length * k.toNat ≤ sz then some (.lst (List.replicate k.toNat xs).flatten) else none
  | _, _ => none
def binV (h : HP) (o : Bop) (x y : MV) : Option MV := match o with
  | .add => addV h x y
  | .sub => int2 x y fun a b => some (.int (a - b))
  | .mul => mulV h x y
  | .fdv => int2 x y fun a b => if dvB a b || decide (0 < b) then some (.int (a / b)) else none
  | .mod => int2 x y fun a b => if 0 < b then some (.int (a % b)) else none
  | .pow => int2 x y fun a b => if powB a b then some (.int (a ^ b.toNat)) else none
  | .shl => int2 x y fun a b => if shlB a b then some (.int (a * 2 ^ b.toNat)) else none
  | .shr => int2 x y fun a b => if 0 ≤ b then some (.int (a / 2 ^ b.toNat)) else none
  | .and => int2 x y fun a b => some (.int (Builtin.bitAnd a b))
  | .or => int2 x y fun a b => some (.int (Builtin.bitOr a b))
  | .xor => int2 x y fun a b => some (.int (Builtin.bitXor a b))
def augA : MV → MV → Option MV
  | .str a, .str b => if a.length + b.length ≤ sz then some (.str (a ++ b)) else none
  | x, y => int2 x y fun a b => some (.int (a + b))
def augV (o : Bop) (x y : MV) : Option MV := match o with
  | .add => augA x y
  | .sub => int2 x y fun a b => some (.int (a - b))
  | .mul => int2 x y fun a b => if mulB a b then some (.int (a * b)) else none
  | .shr => int2 x y fun a b => if 0 ≤ b then some (.int (a / 2 ^ b.toNat)) else none
  | .or => int2 x y fun a b => some (.int (Builtin.bitOr a b))
  | _ => none

def flatM : MV → Bool
  | .non => true | .bl _ => true | .int _ => true | .str _ => true | _ => false
def eqF : MV → MV → Bool
  | .non, .non => true
  | .bl a, .bl b => a == b
  | .bl a, .int b => (if a then 1 else 0) == b
  | .int a, .bl b => a == (if b then 1 else 0)
  | .int a, .int b => a == b
  | .str a, .str b => a == b
  | _, _ => false
def inF (x : MV) (xs : List MV) : Bool := xs.any fun y => eqF y x
def seqOf (h : HP) : MV → Option (List MV)
  | .tup xs => some xs
  | v => getL h v
def isNon : MV → Bool
  | .non => true
  | _ => false
def cmp2 (x y : MV) (f : Int → Int → Bool) : Option Bool := match x, y with
  | .int a, .int b => some (f a b)
  | _, _ => none
@[simp] theorem cmp2_ii (a b : Int) (f : Int → Int → Bool) : cmp2 (.int a) (.int b) f = some (f a b) := rfl
theorem cmp2_some {x y : MV} {z : Bool} {f : Int → Int → Bool} (h : cmp2 x y f = some z) : ∃ a b, x = .int a ∧ y = .int b ∧ f a b = z := by
  unfold cmp2 at h
  split at h
  · cases h; exact ⟨_, _, rfl, rfl, rfl⟩
  · cases h
/-- one sign in a text -/
def inS : MV → Str → Option Bool
  | .str c, z => match c.cps.toList with
    | [k] => some (decide (k ∈ z.cps.toList))
    | _ => none
  | _, _ => none
def inV (h : HP) (x y : MV) : Option Bool := match y with
  | .str z => inS x z
  | y => (seqOf h y).bind fun ys => if flatM x && ys.all flatM then some (inF x ys) else none
def cmpV (h : HP) (o : Cop) (x y : MV) : Option Bool := match o with
  | .eq => eqM h x y
  | .ne => (eqM h x y).map (!·)
  | .lt => cmp2 x y fun a b => decide (a < b)
  | .le => cmp2 x y fun a b => decide (a ≤ b)
  | .gt => cmp2 x y fun a b => decide (b < a)
  | .ge => cmp2 x y fun a b => decide (b ≤ a)
  | .is => if isNon y then some (isNon x) else none
  | .isn => if isNon y then some (!isNon x) else none
  | .inn => inV h x y
  | .nin => (inV h x y).map (!·)

def idxV (h : HP) : MV → MV → Option MV
  | .tup xs, .int i => atI xs i
  | .str z, .int i => if z.length ≤ sz then (atI z.cps.toList i).map fun c => .str ⟨#[c]⟩ else none
  | v, .int i => (getL h v).bind fun xs => atI xs i
  | _, _ => none
def cutM (xs : List MV) (lo hi : Option Int) : List MV := (xs.drop (HT.sIx xs.length 0 lo)).take (HT.sIx xs.length xs.length hi - HT.sIx xs.length 0 lo)
def pI : MV → Option (Option Int)
  | .int i => some (some i)
  | _ => none
def slcV (h : HP) (v : MV) (l u : Option Int) : Option MV := match v with
  | .str z => if z.length ≤ sz then some (.str (cutS z l u)) else none
  | v => (getL h v).map fun xs => .lst (cutM xs l u)
def isN : E → Bool
  | .cN => true
  | _ => false
def b1 (xs : List MV) (f : MV → Option MV) : Option MV := match xs with
  | [x] => f x
  | _ => none
def b2 (xs : List MV) (f : MV → MV → Option MV) : Option MV := match xs with
  | [x, y] => f x y
  | _ => none
@[simp] theorem b1_one (x : MV) (f : MV → Option MV) : b1 [x] f = f x := rfl
@[simp] theorem b2_two (x y : MV) (f : MV → MV → Option MV) : b2 [x, y] f = f x y := rfl
theorem b1_some {xs : List MV} {f : MV → Option MV} {z : MV} (h : b1 xs f = some z) : ∃ x, xs = [x] ∧ f x = some z := by
  unfold b1 at h
  split at h
  · exact ⟨_, rfl, h⟩
  · cases h
theorem b2_some {xs : List MV} {f : MV → MV → Option MV} {z : MV} (h : b2 xs f = some z) : ∃ x y, xs = [x, y] ∧ f x y = some z := by
  unfold b2 at h
  split at h
  · exact ⟨_, _, rfl, h⟩
  · cases h
def int1 (x : MV) (f : Int → Option MV) : Option MV := match x with
  | .int a => f a
  | _ => none
@[simp] theorem int1_i (a : Int) (f : Int → Option MV) : int1 (.int a) f = f a := rfl
theorem int1_some {x z : MV} {f : Int → Option MV} (h : int1 x f = some z) : ∃ a, x = .int a ∧ f a = some z := by
  unfold int1 at h
  split at h
  · exact ⟨_, rfl, h⟩
  · cases h
def toI : MV → Option MV
  | .int a => some (.int a)
  | .str a => if a.length ≤ 640 then (PySem.intText? a).map .int else none
  | .bl b => some (.int (if b then 1 else 0))
  | _ => none
def intsOf : List MV → Option (List Int)
  | [] => some []
  | .int i :: xs => (intsOf xs).map fun is => i :: is
  | _ => none
def blsOf : List MV → Option (List Bool)
  | [] => some []
  | .bl b :: xs => (blsOf xs).map fun bs => b :: bs
  | _ => none
def lenS : MV → Option MV
  | .str z => if z.length ≤ sz then some (.int z.length) else none
  | _ => none
def strsOf : List MV → Option (List Str)
  | [] => some []
  | .str i :: xs => (strsOf xs).map fun is => i :: is
  | _ => none
def strI : MV → Option MV
  | .int i => if i.natAbs.log2 < 1920 then some (.str (toString i)) else none
  | _ => none
def mnL (m : Int) (is : List Int) : Int := is.foldl (fun a y => if y < a then y else a) m
def mxL (m : Int) (is : List Int) : Int := is.foldl (fun a y => if a < y then y else a) m
def mxV : List Int → Option MV
  | [] => none
  | i :: is => some (.int (mxL i is))
def mnV (d : MV) : List Int → MV
  | [] => d
  | i :: is => .int (mnL i is)
def mndV (h : HP) (x d : MV) : Option MV := (getL h x).bind fun ys => (intsOf ys).map (mnV d)
/-! ### dicts -/
def keyM : MV → Option L2.Key
  | .int i => some (.inl i)
  | .str s => some (.inr s)
  | _ => none
def kM : L2.Key → MV
  | .inl i => .int i
  | .inr s => .str s
def dicAt (h : HP) : MV → Option (List (L2.Key × MV))
  | .ref i => match h[i]? with
    | some (.dic kvs) => some kvs
    | _ => none
  | _ => none
def valM (kvs : List (L2.Key × MV)) (k : L2.Key) : Option MV := (kvs.find? fun kv => decide (kv.1 = k)).map (·.2)
def putM (kvs : List (L2.Key × MV)) (k : L2.Key) (v : MV) : List (L2.Key × MV) :=
  if kvs.any (fun kv => decide (kv.1 = k)) = true then kvs.map fun kv => if kv.1 = k then (kv.1, v) else kv else kvs ++ [(k, v)]
def dgtV (h : HP) (d k : MV) : Option MV := (dicAt h d).bind fun kvs => (keyM k).bind fun k => valM kvs k
def dinV (h : HP) (ng : Bool) (k d : MV) : Option MV := (dicAt h d).bind fun kvs => (keyM k).map fun k => .bl (xor ng (valM kvs k).isSome)
def dksV (h : HP) (d : MV) : Option (List MV) := (dicAt h d).map fun kvs => kvs.map fun kv => kM kv.1
def ditV (h : HP) (d : MV) : Option MV := (dicAt h d).map fun kvs => .lst (kvs.map fun kv => .tup [kM kv.1, kv.2])
def dlnV (h : HP) (d : MV) : Option MV := (dicAt h d).map fun kvs => .int (kvs.length : Nat)
def dptV (h : HP) (o k v : MV) : Option HP := match o with
  | .ref i => match h[i]? with
    | some (.dic kvs) => if kvs.length < sz then (keyM k).map fun k => h.set i (.dic (putM kvs k v)) else none
    | _ => none
  | _ => none
def clrV (h : HP) (o : MV) : Option HP := match o with
  | .ref i => match h[i]? with
    | some (.lst _) => some (h.set i (.lst []))
    | _ => none
  | _ => none
def lixV (h : HP) (o y : MV) : Option MV := (getL h o).bind fun xs => if flatM y && xs.all flatM then (xs.findIdx? fun x => eqF x y).map (fun (j : Nat) => MV.int (j : Int)) else none
def biV (h : HP) (b : Bi) (xs : List MV) : Option MV := match b with
  | .len => b1 xs fun x => ((seqOf h x).map fun ys => .int ys.length).or (lenS x)
  | .dvm => b2 xs fun x y => int2 x y fun a b => if dvB a b then some (.tup [.int (a / b), .int (a % b)]) else none
  | .abs => b1 xs fun x => int1 x fun a => some (.int (if a < 0 then -a else a))
  | .max2 => b2 xs fun x y => int2 x y fun a b => some (.int (if b > a then b else a))
  | .min2 => b2 xs fun x y => int2 x y fun a b => some (.int (if b < a then b else a))
  | .int1 => b1 xs toI
  | .str1 => b1 xs strI
  | .list1 => b1 xs fun x => (seqOf h x).map .lst
  | .max1 => b1 xs fun x => (getL h x).bind fun ys => (intsOf ys).bind mxV
  | .sum1 => b1 xs fun x => (getL h x).bind fun ys => (intsOf ys).map fun is => .int is.sum
  | .all1 => b1 xs fun x => (getL h x).bind fun ys => (blsOf ys).map fun bs => .bl (bs.all id)
def isStr : MV → Bool
  | .str _ => true
  | _ => false
/-- what a method may be asked of -/
def meK : Me → MV → Bool
  | .bitlen, _ => true
  | _, x => isStr x
def meV (h : HP) : Me → MV → List MV → Option MV
  | .bitlen, .int a, [] => some (.int (Builtin.Int.intBits a : Nat))
  | .strip1, .str a, [.str b] => if a.length ≤ sz then some (.str (Txt.stripChars a b)) else none
  | .rstrip1, .str a, [.str b] => if a.length ≤ sz then some (.str (Txt.rstripChars a b)) else none
  | .starts, .str a, [.str b] => some (.bl (Txt.startswith a b))
  | .part, .str a, [.str b] => if (b.length == 0) = false ∧ a.length ≤ sz then some (.tup [.str (Txt.partition a b).1, .str (Txt.partition a b).2.1, .str (Txt.partition a b).2.2]) else none
  | .zfill, .str a, [.int i] => if PadOk i = true then some (.str (Txt.zfill a i)) else none
  | .split1, .str a, [.str b] => if (b.length == 0) = false ∧ a.length + 2 ≤ sz then some (.lst ((Txt.split a b).map .str)) else none
  | .join1, .str a, [x] => (seqOf h x).bind fun ys => (strsOf ys).bind fun ss => if (ss.map (·.length)).sum + ss.length * a.length ≤ 16777216 then some (.str (Txt.join a ss)) else none
  | .upper, .str a, [] => if a.length ≤ 5592405 then some (.str (Txt.upper a)) else none
  | _, _, _ => none

def spcV : MV → MV → Option (List MV)
  | .str a, .str b => if (b.length == 0) = false ∧ a.length + 2 ≤ sz then some ((Txt.split a b).map .str) else none
  | _, _ => none
def sxiV : MV → MV → Option MV
  | .str a, .str b => match Builtin.Str.occurrences a b 0 a.length 1 with
    | i :: _ => some (.int (i : Nat))
    | [] => none
  | _, _ => none
/-- what the program's classes say -/
structure Tab where
  obj : Nat → Bool
  n0 : Nat → Bool
  mth : Nat → Str → Option Nat
  ini : Nat → Option Nat
  fld : Nat → List Str
  sub : Nat → Nat → Bool
  ve : Nat → Bool
  exc : Nat → Bool
  rz : Nat → Bool

def tyNs : List String := ["int", "bool", "str", "tuple", "list"]
def isTV (T : Tab) (h : HP) : MV → String → Option Bool
  | .int _, n => if n ∈ tyNs then some (n == "int") else none
  | .bl _, n => if n ∈ tyNs then some (n == "int" || n == "bool") else none
  | .str _, n => if n ∈ tyNs then some (n == "str") else none
  | .tup _, n => if n ∈ tyNs then some (n == "tuple") else none
  | .lst _, n => if n ∈ tyNs then some (n == "list") else none
  | .ref i, n => match h[i]? with
    | some (.lst _) => if n ∈ tyNs then some (n == "list") else none
    | _ => none
  | .non, n => if n ∈ tyNs then some false else none
  | .exc c _, n => if n = "ValueError" && T.exc c then some (T.ve c) else none
  | .obj _ _, _ => none
def isCV (T : Tab) : MV → Nat → Option Bool
  | .exc c _, d => if T.exc c && T.exc d then some (T.sub c d) else none
  | .obj c _, d => if T.obj c && T.obj d then some (T.sub c d) else none
  | .non, d => if T.exc d then some false else none
  | _, _ => none

/-- isinstance(x, (C1, C2, ..)) -/
def isCsV (T : Tab) : MV → List Nat → Option Bool
  | _, [] => some false
  | .exc c xs, d :: ds => if T.exc c && T.exc d then (isCsV T (.exc c xs) ds).map fun b => T.sub c d || b else none
  | .non, d :: ds => if T.exc d then isCsV T .non ds else none
  | _, _ => none
def clsM (h : HP) : MV → Option (Nat × List MV)
  | .obj c xs => some (c, xs)
  | .ref i => match h[i]? with
    | some (.ins c xs) => some (c, xs)
    | _ => none
  | _ => none
/-- the place of an attribute -/
def fix (T : Tab) (c : Nat) (f : Str) : Option Nat := if (T.fld c).idxOf f < (T.fld c).length then some ((T.fld c).idxOf f) else none
def atrV (T : Tab) (h : HP) (x : MV) (f : Str) : Option MV := (clsM h x).bind fun p => if T.obj p.1 then (fix T p.1 f).bind fun j => p.2[j]? else none
def mthV (T : Tab) (h : HP) (x : MV) (m : Str) : Option Nat := (clsM h x).bind fun p => if T.obj p.1 then T.mth p.1 m else none
def putL (xs : List MV) (j : Nat) (v : MV) : Option (List MV) := if j = xs.length then some (xs ++ [v]) else if j < xs.length then some (xs.set j v) else none
def staV (T : Tab) (h : HP) (x : MV) (f : Str) (v : MV) : Option HP := match x with
  | .ref i => match h[i]? with
    | some (.ins c xs) => if T.obj c && decide (xs.length < 900) then (fix T c f).bind fun j => (putL xs j v).map fun ys => h.set i (.ins c ys) else none
    | _ => none
  | _ => none

def nilE : Es → Bool
  | .nil => true
  | _ => false

mutual
def low (b : Nat) : MV → Bool
  | .ref i => decide (i < b)
  | .tup xs => lows b xs
  | .lst xs => lows b xs
  | .obj _ xs => lows b xs
  | .exc _ xs => lows b xs
  | _ => true
def lows (b : Nat) : List MV → Bool
  | [] => true
  | x :: xs => low b x && lows b xs
end
def setT : List Nat → List MV → EN → Option EN
  | [], [], e => some e
  | i :: is, v :: vs, e => setT is vs (e.set i (some v))
  | _, _, _ => none
def setG : Tg → MV → EN → Option EN
  | .one i, v, e => some (e.set i (some v))
  | .tup is, .tup vs, e => setT is vs e
  | .tup is, .lst vs, e => setT is vs e
  | _, _, _ => none
def wipE (e : EN) : List Nat → EN
  | [] => e
  | v :: vs => (wipE e vs).set v none
def zipM (xs ys : List MV) : List MV := List.zipWith (fun a b => MV.tup [a, b]) xs ys
def zipS (x y : MV) (h : HP) : Option (List MV) := (getL h x).bind fun xs => (getL h y).map fun ys => zipM xs ys
def enmM : Nat → List MV → List MV
  | _, [] => []
  | n, x :: xs => .tup [.int n, x] :: enmM (n + 1) xs
def enmS (x : MV) (h : HP) : Option (List MV) := (getL h x).map (enmM 0)
def rg3 (i j c : Int) : List MV := (List.range (Builtin.Range.rangeSize i j c).toNat).map fun (k : Nat) => .int (i + (k : Int) * c)
def rg3B (i j c : Int) : Bool := decide (c ≠ 0) && (decide (c.natAbs < 1073741824) && (Builtin.Range.small i j c && decide (0 ≤ Builtin.Range.rangeSize i j c)))
def signs (z : Str) : List MV := z.cps.toList.map fun c => .str ⟨#[c]⟩
abbrev IR := List MV × (HP → Option (List MV))
open Classical in
/-- the turns of a list comprehension: h the heap without the new list -/
noncomputable def lcL (cl : Bool) (tg : Tg) (src : HP → Option (List MV)) (all : List MV) (f : EN → HP → R MV) (e : EN) (h : HP) : List MV → List MV → R MV
  | [], acc => if src (h ++ [.lst acc]) = some all then (if cl then .ok (.ref h.length) (h ++ [.lst acc]) else .ok (.lst acc) h) else .bad
  | x :: xs, acc => if src (h ++ [.lst acc]) = some all then (match setG tg x e with
    | none => .bad
    | some e' => (match f e' (h ++ [.lst acc]) with
      | .ok y h2 => if h2 = h ++ [.lst acc] ∧ low h.length y = true ∧ acc.length < sz then lcL cl tg src all f e h xs (acc ++ [y]) else .bad
      | .exc x h2 => if h2 = h ++ [.lst acc] then .exc x h else .bad
      | .bad => .bad)) else .bad

open Classical in
/-- the turns of a list comprehension whose elements make cells: the list is the cell D -/
noncomputable def lcG (tg : Tg) (src : HP → Option (List MV)) (all : List MV) (f : EN → HP → R MV) (e : EN) (D : Nat) : HP → List MV → List MV → R MV
  | h, [], acc => if src h = some all then .ok (.ref D) h else .bad
  | h, x :: xs, acc => if src h = some all then (match setG tg x e with
    | none => .bad
    | some e' => (match f e' h with
      | .ok y h2 => if h2[D]? = some (.lst acc) ∧ acc.length < sz then lcG tg src all f e D (h2.set D (.lst (acc ++ [y]))) xs (acc ++ [y]) else .bad
      | _ => .bad)) else .bad

open Classical in
/-- the turns of a list comprehension with a test -/
noncomputable def lcF (tg : Tg) (src : HP → Option (List MV)) (all : List MV) (tt f : EN → HP → R MV) (e : EN) (h : HP) : List MV → List MV → R MV
  | [], acc => if src (h ++ [.lst acc]) = some all then .ok (.lst acc) h else .bad
  | x :: xs, acc => if src (h ++ [.lst acc]) = some all then (match setG tg x e with
    | none => .bad
    | some e' => (match tt e' (h ++ [.lst acc]) with
      | .ok (.bl b) h1 => if h1 = h ++ [.lst acc] then (if b = true then (match f e' (h ++ [.lst acc]) with
        | .ok y h2 => if h2 = h ++ [.lst acc] ∧ low h.length y = true ∧ acc.length < sz then lcF tg src all tt f e h xs (acc ++ [y]) else .bad
        | _ => .bad) else lcF tg src all tt f e h xs acc) else .bad
      | _ => .bad)) else .bad

/-! ### the evaluator -/
section
variable (T : Tab) (C : Nat → List MV → HP → R MV)
mutual
noncomputable def evE : E → EN → HP → R MV
  | .var i, e, h => match e[i]? with
    | some (some v) => .ok v h
    | _ => .bad
  | .cI i, _, h => .ok (.int i) h
  | .cS s, _, h => .ok (.str s) h
  | .cB b, _, h => .ok (.bl b) h
  | .cN, _, h => .ok .non h
  | .gI _ i, _, h => .ok (.int i) h
  | .gS _ s, _, h => .ok (.str s) h
  | .neg a, e, h => (evE a e h).bind fun x h => match x with
    | .int i => .ok (.int (-i)) h
    | _ => .bad
  | .not a, e, h => (evE a e h).bind fun x h => match x with
    | .bl b => .ok (.bl (!b)) h
    | _ => .bad
  | .bin o a b, e, h => (evE a e h).bind fun x h => (evE b e h).bind fun y h => R.of (binV h o x y) h
  | .cmp o a b, e, h => (evE a e h).bind fun x h => (evE b e h).bind fun y h => R.of ((cmpV h o x y).map .bl) h
  | .chn o p a b c, e, h => (evE a e h).bind fun x h => (evE b e h).bind fun y h => match cmpV h o x y with
    | some true => (evE c e h).bind fun z h => R.of ((cmpV h p y z).map .bl) h
    | some false => .ok (.bl false) h
    | none => .bad
  | .and a b, e, h => (evE a e h).bind fun x h => match x with
    | .bl true => (evE b e h).bind fun y h => match y with
      | .bl c => .ok (.bl c) h
      | _ => .bad
    | .bl false => .ok (.bl false) h
    | _ => .bad
  | .or a b, e, h => (evE a e h).bind fun x h => match x with
    | .bl false => (evE b e h).bind fun y h => match y with
      | .bl c => .ok (.bl c) h
      | _ => .bad
    | .bl true => .ok (.bl true) h
    | _ => .bad
  | .ife t a b, e, h => (evE t e h).bind fun x h => match x with
    | .bl true => evE a e h
    | .bl false => evE b e h
    | _ => .bad
  | .tup es, e, h => (evEs es e h).bind fun xs h => if xs.length ≤ sz then .ok (.tup xs) h else .bad
  | .lst es, e, h => (evEs es e h).bind fun xs h => if xs.length ≤ sz then .ok (.lst xs) h else .bad
  | .cel es, e, h => (evEs es e h).bind fun xs h => if xs.length ≤ sz then .ok (.ref h.length) (h ++ [.lst xs]) else .bad
  | .idx a i, e, h => (evE a e h).bind fun x h => (evE i e h).bind fun y h => R.of (idxV h x y) h
  | .slc a lo hi, e, h => (evE a e h).bind fun x h => (if isN lo then .ok none h else (evE lo e h).bind fun v h => R.of (pI v) h).bind fun l h => (if isN hi then .ok none h else (evE hi e h).bind fun v h => R.of (pI v) h).bind fun u h => R.of (slcV h x l u) h
  | .call f es, e, h => (evEs es e h).bind fun xs h => C f xs h
  | .bi b es, e, h => (evEs es e h).bind fun xs h => R.of (biV h b xs) h
  | .me m o es, e, h => (evE o e h).bind fun x h => if meK m x then (evEs es e h).bind fun xs h => R.of (meV h m x xs) h else .bad
  | .isT a n, e, h => (evE a e h).bind fun x h => R.of ((isTV T h x n).map .bl) h
  | .isC a c, e, h => (evE a e h).bind fun x h => R.of ((isCV T x c).map .bl) h
  | .isCs a cs, e, h => (evE a e h).bind fun x h => R.of ((isCsV T x cs).map .bl) h
  | .atr o f, e, h => (evE o e h).bind fun x h => R.of (atrV T h x f) h
  | .mcl o m es, e, h => (evE o e h).bind fun x h => (R.of (mthV T h x m) h).bind fun f h => (evEs es e h).bind fun xs h => C f (x :: xs) h
  | .new c es, e, h => match T.ini c with
    | none => if nilE es && (T.n0 c && T.obj c) then .ok (.obj c []) h else .bad
    | some f => if T.obj c then (evEs es e h).bind fun xs h => (C f (.ref h.length :: xs) (h ++ [.ins c []])).bind fun v h' => if isNon v then .ok (.ref h.length) h' else .bad else .bad
  | .cll a, e, h => (evE a e h).bind fun x h => match seqOf h x with
    | some xs => .ok (.ref h.length) (h ++ [.lst xs])
    | none => .bad
  | .lcg tg vs it a, e, h => (itE it e h).bind fun p h => lcG tg p.2 p.1 (fun e h => evE a e h) (wipE e vs) h.length (h ++ [.lst []]) p.1 []
  | .lcm cl tg vs it a, e, h => (itE it e h).bind fun p h => lcL cl tg p.2 p.1 (fun e h => evE a e h) (wipE e vs) h p.1 []
  | .lcf tg vs it t a, e, h => (itE it e h).bind fun p h => lcF tg p.2 p.1 (fun e h => evE t e h) (fun e h => evE a e h) (wipE e vs) h p.1 []
  | .mnd a d, e, h => (evE a e h).bind fun x h => (evE d e h).bind fun y h => R.of (mndV h x y) h
  | .dnw, _, h => .ok (.ref h.length) (h ++ [.dic []])
  | .dgt d k, e, h => (evE d e h).bind fun x h => (evE k e h).bind fun y h => R.of (dgtV h x y) h
  | .din ng k d, e, h => (evE k e h).bind fun y h => (evE d e h).bind fun x h => R.of (dinV h ng y x) h
  | .dks cl d, e, h => (evE d e h).bind fun x h => match dksV h x with
    | some xs => if cl then .ok (.ref h.length) (h ++ [.lst xs]) else .ok (.lst xs) h
    | none => .bad
  | .scl a lo hi, e, h => (evE a e h).bind fun x h => (if isN lo then .ok none h else (evE lo e h).bind fun v h => R.of (pI v) h).bind fun l h => (if isN hi then .ok none h else (evE hi e h).bind fun v h => R.of (pI v) h).bind fun u h => match (getL h x).map fun xs => cutM xs l u with
    | some xs => .ok (.ref h.length) (h ++ [.lst xs])
    | none => .bad
  | .lrv cl a, e, h => (evE a e h).bind fun x h => match (getL h x).map List.reverse with
    | some xs => if cl then .ok (.ref h.length) (h ++ [.lst xs]) else .ok (.lst xs) h
    | none => .bad
  | .dit d, e, h => (evE d e h).bind fun x h => R.of (ditV h x) h
  | .mclc o m es, e, h => (evE o e h).bind fun x h => (R.of (mthV T h x m) h).bind fun f h => (evEs es e h).bind fun xs h => C (f + 100000) (x :: xs) h
  | .lix o y, e, h => (evE o e h).bind fun x h => match getL h x with
    | some _ => (evE y e h).bind fun y h => R.of (lixV h x y) h
    | none => .bad
  | .spc o y, e, h => (evE o e h).bind fun x h => if isStr x then (evE y e h).bind fun y h => (match spcV x y with
    | some xs => .ok (.ref h.length) (h ++ [.lst xs])
    | none => .bad) else .bad
  | .sxi o y, e, h => (evE o e h).bind fun x h => if isStr x then (evE y e h).bind fun y h => R.of (sxiV x y) h else .bad
  | .dln d, e, h => (evE d e h).bind fun x h => R.of (dlnV h x) h
noncomputable def evEs : Es → EN → HP → R (List MV)
  | .nil, _, h => .ok [] h
  | .cons a es, e, h => (evE a e h).bind fun x h => (evEs es e h).bind fun xs h => .ok (x :: xs) h
/-- what a for walks: the items, and how it is told later that they stand -/
noncomputable def itE : I → EN → HP → R IR
  | .seq a, e, h => (evE a e h).bind fun x h => match seqOf h x with
    | some xs => .ok (xs, fun h => seqOf h x) h
    | none => match x with
      | .str z => .ok (signs z, fun _ => some (signs z)) h
      | _ => .bad
  | .rng1 a, e, h => (evE a e h).bind fun x h => match x with
    | .int j => if -(2 ^ 62) ≤ j ∧ j < 2 ^ 62 then .ok ((List.range j.toNat).map fun (i : Nat) => .int (0 + (i : Int)), fun _ => some ((List.range j.toNat).map fun (i : Nat) => .int (0 + (i : Int)))) h else .bad
    | _ => .bad
  | .rng2 a b, e, h => (evE a e h).bind fun x h => (evE b e h).bind fun y h => match x, y with
    | .int i, .int j => if (-(2 ^ 62) ≤ i ∧ i < 2 ^ 62) ∧ -(2 ^ 62) ≤ j ∧ j < 2 ^ 62 then .ok ((List.range (j - i).toNat).map fun (k : Nat) => .int (i + (k : Int)), fun _ => some ((List.range (j - i).toNat).map fun (k : Nat) => .int (i + (k : Int)))) h else .bad
    | _, _ => .bad
  | .rng3 a b c, e, h => (evE a e h).bind fun x h => (evE b e h).bind fun y h => (evE c e h).bind fun z h => match x, y, z with
    | .int i, .int j, .int k => if rg3B i j k then .ok (rg3 i j k, fun _ => some (rg3 i j k)) h else .bad
    | _, _, _ => .bad
  | .zip a b, e, h => (evE a e h).bind fun x h => (evE b e h).bind fun y h => match zipS x y h with
    | some xs => .ok (xs, zipS x y) h
    | none => .bad
  | .enm a, e, h => (evE a e h).bind fun x h => match enmS x h with
    | some xs => .ok (xs, enmS x) h
    | none => .bad
end

inductive O where
  | nx (e : EN) (h : HP) | ret (v : MV) (h : HP) | exc (x : MX) (e : EN) (h : HP) | ct (e : EN) (h : HP) | bad

/-- the result of an expression, handed on within a statement -/
def R.go {α : Type} (r : R α) (e : EN) (f : α → HP → O) : O := match r with
  | .ok a h => f a h
  | .exc x h => .exc x e h
  | .bad => .bad
@[simp] theorem R.go_ok {α : Type} (a : α) (h : HP) (e : EN) (f : α → HP → O) : (R.ok a h).go e f = f a h := rfl
@[simp] theorem R.go_exc {α : Type} (x : MX) (h : HP) (e : EN) (f : α → HP → O) : (R.exc x h : R α).go e f = .exc x e h := rfl
@[simp] theorem R.go_bad {α : Type} (e : EN) (f : α → HP → O) : (R.bad : R α).go e f = .bad := rfl
def O.then (o : O) (f : EN → HP → O) : O := match o with
  | .nx e h => f e h
  | o => o
@[simp] theorem O.then_nx (e : EN) (h : HP) (f : EN → HP → O) : (O.nx e h).then f = f e h := rfl
@[simp] theorem O.then_ret (v : MV) (h : HP) (f : EN → HP → O) : (O.ret v h).then f = .ret v h := rfl
@[simp] theorem O.then_exc (x : MX) (e : EN) (h : HP) (f : EN → HP → O) : (O.exc x e h).then f = .exc x e h := rfl
@[simp] theorem O.then_ct (e : EN) (h : HP) (f : EN → HP → O) : (O.ct e h).then f = .ct e h := rfl
@[simp] theorem O.then_bad (f : EN → HP → O) : (O.bad).then f = .bad := rfl

open Classical in
noncomputable def forL (tg : Tg) (src : HP → Option (List MV)) (all : List MV) (f : EN → HP → O) : List MV → EN → HP → O
  | [], e, h => if src h = some all then .nx e h else .bad
  | x :: xs, e, h => if src h = some all then (match setG tg x e with
    | none => .bad
    | some e => (match f e h with
      | .nx e h => forL tg src all f xs e h
      | .ct e h => forL tg src all f xs e h
      | o => o)) else .bad
def whlL (t : EN → HP → R MV) (f : EN → HP → O) : Nat → EN → HP → O
  | 0, _, _ => .bad
  | n + 1, e, h => (t e h).go e fun x h => match x with
    | .bl true => (match f e h with
      | .nx e h => whlL t f n e h
      | .ct e h => whlL t f n e h
      | o => o)
    | .bl false => .nx e h
    | _ => .bad
def isCell (h : HP) (x : MV) : Bool := match x with
  | .ref i => match h[i]? with
    | some (.lst _) => true
    | _ => false
  | _ => false
def appV (h : HP) (o v : MV) : Option HP := match o with
  | .ref i => match h[i]? with
    | some (.lst xs) => if xs.length < sz then some (h.set i (.lst (xs ++ [v]))) else none
    | _ => none
  | _ => none
def rvsV (h : HP) (o : MV) : Option HP := match o with
  | .ref i => match h[i]? with
    | some (.lst xs) => some (h.set i (.lst xs.reverse))
    | _ => none
  | _ => none
def insV (h : HP) (o i v : MV) : Option HP := match o, i with
  | .ref j, .int n => match h[j]? with
    | some (.lst xs) => if xs.length < sz ∧ 0 ≤ n ∧ n < 2 ^ 63 then some (h.set j (.lst (xs.take n.toNat ++ [v] ++ xs.drop n.toNat))) else none
    | _ => none
  | _, _ => none
def stoV (h : HP) (o i v : MV) : Option HP := match o, i with
  | .ref j, .int n => match h[j]? with
    | some (.lst xs) => (ixN xs.length n).map fun k => h.set j (.lst (xs.set k v))
    | _ => none
  | _, _ => none
def fuel : Nat := 1000000000000000000000000000000
mutual
noncomputable def exS : S → EN → HP → O
  | .asg t a, e, h => (evE T C a e h).go e fun v h => match setG t v e with
    | some e => .nx e h
    | none => .bad
  | .aug i o a, e, h => match e[i]? with
    | some (some x) => (evE T C a e h).go e fun y h => match augV o x y with
      | some z => .nx (e.set i (some z)) h
      | none => .bad
    | _ => .bad
  | .exp a, e, h => (evE T C a e h).go e fun _ h => .nx e h
  | .app o a, e, h => (evE T C o e h).go e fun x h => if isCell h x then (evE T C a e h).go e fun v h => match appV h x v with
    | some h => .nx e h
    | none => .bad else .bad
  | .rvs o, e, h => (evE T C o e h).go e fun x h => match rvsV h x with
    | some h => .nx e h
    | none => .bad
  | .ins o i a, e, h => (evE T C o e h).go e fun x h => if isCell h x then (evE T C i e h).go e fun n h => (evE T C a e h).go e fun v h => match insV h x n v with
    | some h => .nx e h
    | none => .bad else .bad
  | .sto o i a, e, h => (evE T C a e h).go e fun v h => (evE T C o e h).go e fun x h => (evE T C i e h).go e fun n h => match stoV h x n v with
    | some h => .nx e h
    | none => .bad
  | .sta o f a, e, h => (evE T C a e h).go e fun v h => (evE T C o e h).go e fun x h => match staV T h x f v with
    | some h => .nx e h
    | none => .bad
  | .iff t a b, e, h => (evE T C t e h).go e fun x h => match x with
    | .bl true => exSs a e h
    | .bl false => exSs b e h
    | _ => .bad
  | .whl t b, e, h => whlL (fun e h => evE T C t e h) (fun e h => exSs b e h) fuel e h
  | .fr tg it b, e, h => (itE T C it e h).go e fun p h => forL tg p.2 p.1 (fun e h => exSs b e h) p.1 e h
  | .ret a, e, h => (evE T C a e h).go e fun v h => .ret v h
  | .retN, _, h => .ret .non h
  | .rais c, e, h => if T.rz c then .exc (c, []) e h else .bad
  | .tri b c i y, e, h => match exSs b e h with
    | .exc (d, []) e h => if T.exc d && T.exc c then (if T.sub d c then .nx (((e.set i (some (.exc d []))).set y (some (.exc d []))).set i none) h else .exc (d, []) e h) else .bad
    | .exc _ _ _ => .bad
    | o => o
  | .cont, e, h => .ct e h
  | .dpt o i a, e, h => (evE T C a e h).go e fun v h => (evE T C o e h).go e fun x h => (evE T C i e h).go e fun n h => match dptV h x n v with
    | some h => .nx e h
    | none => .bad
  | .clr o, e, h => (evE T C o e h).go e fun x h => match clrV h x with
    | some h => .nx e h
    | none => .bad
  | .trx b, e, h => match exSs b e h with
    | .exc _ _ _ => .bad
    | o => o
  | .pas, e, h => .nx e h
noncomputable def exSs : Ss → EN → HP → O
  | .nil, e, h => .nx e h
  | .cons s ss, e, h => (exS s e h).then fun e h => exSs ss e h
end
end

/-! ### functions -/
structure FI where
  np : Nat
  nl : Nat
  body : Ss
  keep : Bool := false
mutual
def frz (h : HP) (b : Nat) : MV → Option MV
  | .ref i => if i < b then some (.ref i) else match h[i]? with
    | some (.lst xs) => if lows b xs then some (.lst xs) else none
    | some (.ins c xs) => if lows b xs then some (.obj c xs) else none
    | some (.dic _) => none
    | none => none
  | .tup xs => (frzs h b xs).map .tup
  | .lst xs => (frzs h b xs).map .lst
  | .obj c xs => (frzs h b xs).map (.obj c)
  | .exc c xs => (frzs h b xs).map (.exc c)
  | v => some v
def frzs (h : HP) (b : Nat) : List MV → Option (List MV)
  | [] => some []
  | x :: xs => (frz h b x).bind fun y => (frzs h b xs).map fun ys => y :: ys
end
def lowO (b : Nat) : MO → Bool
  | .lst xs => lows b xs
  | .ins _ xs => lows b xs
  | .dic kvs => lows b (kvs.map (·.2))
def lowH (b : Nat) (h : HP) : Bool := h.all (lowO b)
open Classical in
noncomputable def fin (keep : Bool) (h : HP) (v : MV) (h' : HP) : R MV :=
  if keep then .ok v h' else if h'.take h.length = h then (match frz h' h.length v with
    | some w => .ok w h
    | none => .bad) else if lowH h.length (h'.take h.length) = true then (match frz h' h.length v with
    | some w => .ok w (h'.take h.length)
    | none => .bad) else .bad
open Classical in
/-- the result of a call taken as a cell of the caller's -/
noncomputable def finC (h : HP) (v : MV) (h' : HP) : R MV :=
  if h'.take h.length = h then (match v with
    | .ref i => if h.length ≤ i then (match h'[i]? with
      | some (.lst xs) => if lows h.length xs then .ok (.ref h.length) (h ++ [.lst xs]) else .bad
      | _ => .bad) else .bad
    | _ => .bad) else .bad
def big : Nat := 100000
def start (F : FI) (vs : List MV) : EN := vs.map some ++ List.replicate (F.nl - F.np) none
open Classical in
noncomputable def run (T : Tab) (fs : List FI) : Nat → Nat → List MV → HP → R MV
  | 0, _, _, _ => .bad
  | n + 1, f, vs, h => match fs[f]? with
    | none => (match fs[f - big]? with
      | none => .bad
      | some F => if vs.length = F.np then (match exSs T (run T fs n) F.body (start F vs) h with
        | .ret v h' => finC h v h'
        | .exc x _ h' => if h'.take h.length = h then .exc x h else .bad
        | _ => .bad) else .bad)
    | some F => if vs.length = F.np then (match exSs T (run T fs n) F.body (start F vs) h with
      | .nx _ h' => fin F.keep h .non h'
      | .ret v h' => fin F.keep h v h'
      | .exc x _ h' => if h'.take h.length = h then .exc x h else .bad
      | _ => .bad) else .bad
noncomputable def leaveB (fr : Bool) (F : FI) (h : HP) (o : O) : R MV := match o with
  | .nx _ h' => if fr then .bad else fin F.keep h .non h'
  | .ret v h' => if fr then finC h v h' else fin F.keep h v h'
  | .exc x _ h' => open Classical in if h'.take h.length = h then .exc x h else .bad
  | _ => .bad
theorem run_at {T : Tab} {fs : List FI} {n f : Nat} {F : FI} (e : fs[f]? = some F) (vs : List MV) (h : HP) : run T fs (n + 1) f vs h = if vs.length = F.np then leaveB false F h (exSs T (run T fs n) F.body (start F vs) h) else .bad := by
  simp only [run, e]
  split
  · generalize exSs T (run T fs n) F.body (start F vs) h = o
    cases o <;> rfl
  · rfl
theorem run_atC {T : Tab} {fs : List FI} {n f : Nat} {F : FI} (e : fs[f]? = some F) (e0 : fs[f + big]? = none) (vs : List MV) (h : HP) : run T fs (n + 1) (f + big) vs h = if vs.length = F.np then leaveB true F h (exSs T (run T fs n) F.body (start F vs) h) else .bad := by
  simp only [run, e0, Nat.add_sub_cancel, e]
  split
  · generalize exSs T (run T fs n) F.body (start F vs) h = o
    cases o <;> rfl
  · rfl
end Rm

/-! Rm, part B: how values of the small language stand in the heap. -/
namespace Rm
open PySem L2

/-- a caught exception of the class at C, without a dict of its own -/
def ExcV (C a : Addr) : HO := .ext fun h => ∃ oe vs, h.get? a = some oe ∧ Zc (.ref C) none oe ∧ oe.data = .fields vs
/-- a list that nobody changes -/
def FzL (K : PySem.W.Frag) (H : Hp) (r : List Addr) (a : Addr) (vs : List V) : Prop :=
  (a ∉ r ∧ Rd H a (.lst vs)) ∨ ∃ (its : Array Value) (n : Nat), K.lookup a = some { cls := .type "list", data := .seq its n } ∧ its.size ≤ sizeLine ∧ Vals vs its.toList
theorem FzL.sq {K : PySem.W.Frag} {H : Hp} {r : List Addr} {a : Addr} {vs : List V} (h : FzL K H r a vs) : SqL K H a vs := by
  rcases h with ⟨_, h⟩ | ⟨its, n, h, z, q⟩
  · exact .inl h
  · exact .inr ⟨_, its, n, h, rfl, rfl, rfl, z, q⟩

section
variable (K : PySem.W.Frag) (cA : Nat → Addr) (cF : Nat → List Str)
mutual
def Rep (H : Hp) (r : List Addr) : MV → V → Prop
  | .non, v => v = .non
  | .bl b, v => v = .bl b
  | .int i, v => v = .int i
  | .str s, v => v = .str s
  | .tup xs, v => ∃ a vs, v = .ref a ∧ (a ∉ r ∧ H a = some (.tup vs)) ∧ Reps H r xs vs
  | .lst xs, v => ∃ a vs, v = .ref a ∧ FzL K H r a vs ∧ Reps H r xs vs
  | .ref i, v => ∃ a, v = .ref a ∧ r[i]? = some a
  | .obj c xs, v => ∃ a dx vs, v = .ref a ∧ (a ∉ r ∧ H a = some (.ins (cA c) dx ((cF c).zip vs))) ∧ Reps H r xs vs
  | .exc c xs, v => ∃ a, v = .ref a ∧ (a ∉ r ∧ H a = some (ExcV (cA c) a)) ∧ xs = []
def Reps (H : Hp) (r : List Addr) : List MV → List V → Prop
  | [], vs => vs = []
  | x :: xs, vs => ∃ v ws, vs = v :: ws ∧ Rep H r x v ∧ Reps H r xs ws
end

/-- what may have happened: cells may be new and be written, all else stays -/
structure Ext (r : List Addr) (H : Hp) (r' : List Addr) (H' : Hp) : Prop where
  pre : ∃ t, r' = r ++ t
  keep : ∀ a o, H a = some o → a ∉ r → H' a = some o ∧ a ∉ r'
end
theorem nodup_inj {α : Type} : ∀ {l : List α} {i j : Nat} {a : α}, l.Nodup → l[i]? = some a → l[j]? = some a → i = j
  | [], i, j, a, _, h, _ => by simp at h
  | x :: l, 0, 0, a, _, _, _ => rfl
  | x :: l, 0, j + 1, a, n, h, k => by
    simp at h k; subst h
    exact absurd (List.mem_of_getElem? k) (List.nodup_cons.mp n).1
  | x :: l, i + 1, 0, a, n, h, k => by
    simp at h k; subst k
    exact absurd (List.mem_of_getElem? h) (List.nodup_cons.mp n).1
  | x :: l, i + 1, j + 1, a, n, h, k => by
    have := nodup_inj (List.nodup_cons.mp n).2 (by simpa using h) (by simpa using k)
    omega
section
variable {K : PySem.W.Frag} {cA : Nat → Addr} {cF : Nat → List Str} {r r' r'' : List Addr} {H H' H'' : Hp}
theorem Ext.refl : Ext r H r H := ⟨⟨[], by simp⟩, fun _ _ h n => ⟨h, n⟩⟩
theorem Ext.trans (a : Ext r H r' H') (b : Ext r' H' r'' H'') : Ext r H r'' H'' := by
  obtain ⟨t, rfl⟩ := a.pre
  obtain ⟨u, rfl⟩ := b.pre
  exact ⟨⟨t ++ u, by simp⟩, fun x o h n => let ⟨h1, n1⟩ := a.keep x o h n; b.keep x o h1 n1⟩
theorem Ext.new {p : Addr} {o : HO} (h : H p = none) (hr : ∀ a ∈ r, H a ≠ none) : Ext r H r (upd H p o) := ⟨⟨[], by simp⟩, fun a u e n => ⟨by rw [upd_ne (ne_of_none e h)]; exact e, n⟩⟩
theorem Ext.get {i : Nat} {a : Addr} (e : Ext r H r' H') (h : r[i]? = some a) : r'[i]? = some a := by
  obtain ⟨t, rfl⟩ := e.pre
  have hi : i < r.length := (List.getElem?_eq_some_iff.mp h).1
  rw [List.getElem?_append_left hi]; exact h
theorem FzL.mono {a : Addr} {vs : List V} (e : Ext r H r' H') (h : FzL K H r a vs) : FzL K H' r' a vs := by
  rcases h with ⟨n, h⟩ | h
  · rcases h with h | ⟨o, h⟩
    · obtain ⟨h1, n1⟩ := e.keep a _ h n
      exact .inl ⟨n1, .inl h1⟩
    · obtain ⟨h1, n1⟩ := e.keep a _ h n
      exact .inl ⟨n1, .inr ⟨o, h1⟩⟩
  · exact .inr h
mutual
theorem Rep.mono (e : Ext r H r' H') : ∀ (x : MV) (v : V), Rep K cA cF H r x v → Rep K cA cF H' r' x v
  | .non, v, h => by simpa only [Rep] using h
  | .bl b, v, h => by simpa only [Rep] using h
  | .int i, v, h => by simpa only [Rep] using h
  | .str s, v, h => by simpa only [Rep] using h
  | .tup xs, v, h => by
    simp only [Rep] at h ⊢
    obtain ⟨a, vs, e1, ⟨n, h1⟩, h2⟩ := h
    obtain ⟨h3, n3⟩ := e.keep a _ h1 n
    exact ⟨a, vs, e1, ⟨n3, h3⟩, Reps.mono e xs vs h2⟩
  | .lst xs, v, h => by
    simp only [Rep] at h ⊢
    obtain ⟨a, vs, e1, h1, h2⟩ := h
    exact ⟨a, vs, e1, h1.mono e, Reps.mono e xs vs h2⟩
  | .ref i, v, h => by
    simp only [Rep] at h ⊢
    obtain ⟨a, e1, h1⟩ := h
    exact ⟨a, e1, e.get h1⟩
  | .obj c xs, v, h => by
    simp only [Rep] at h ⊢
    obtain ⟨a, dx, vs, e1, ⟨n, h1⟩, h2⟩ := h
    obtain ⟨h3, n3⟩ := e.keep a _ h1 n
    exact ⟨a, dx, vs, e1, ⟨n3, h3⟩, Reps.mono e xs vs h2⟩
  | .exc c xs, v, h => by
    simp only [Rep] at h ⊢
    obtain ⟨a, e1, ⟨n, h1⟩, h2⟩ := h
    obtain ⟨h3, n3⟩ := e.keep a _ h1 n
    exact ⟨a, e1, ⟨n3, h3⟩, h2⟩
theorem Reps.mono (e : Ext r H r' H') : ∀ (xs : List MV) (vs : List V), Reps K cA cF H r xs vs → Reps K cA cF H' r' xs vs
  | [], vs, h => by simpa only [Reps] using h
  | x :: xs, vs, h => by
    simp only [Reps] at h ⊢
    obtain ⟨v, ws, e1, h1, h2⟩ := h
    exact ⟨v, ws, e1, Rep.mono e x v h1, Reps.mono e xs ws h2⟩
end
theorem Reps.length : ∀ {xs : List MV} {vs : List V}, Reps K cA cF H r xs vs → vs.length = xs.length
  | [], vs, h => by simp only [Reps] at h; rw [h]; rfl
  | x :: xs, vs, h => by
    simp only [Reps] at h
    obtain ⟨v, ws, e1, h1, h2⟩ := h
    rw [e1, List.length_cons, List.length_cons, Reps.length h2]
theorem Reps.get : ∀ {xs : List MV} {vs : List V} {i : Nat} {x : MV}, Reps K cA cF H r xs vs → xs[i]? = some x → ∃ v, vs[i]? = some v ∧ Rep K cA cF H r x v
  | [], vs, i, x, h, e => by simp at e
  | y :: xs, vs, 0, x, h, e => by
    simp only [Reps] at h
    obtain ⟨v, ws, e1, h1, h2⟩ := h
    simp at e; subst e
    exact ⟨v, by rw [e1]; rfl, h1⟩
  | y :: xs, vs, i + 1, x, h, e => by
    simp only [Reps] at h
    obtain ⟨v, ws, e1, h1, h2⟩ := h
    obtain ⟨u, h3, h4⟩ := Reps.get (i := i) (x := x) h2 (by simpa using e)
    exact ⟨u, by rw [e1]; simpa using h3, h4⟩
theorem Reps.append : ∀ {xs ys : List MV} {vs ws : List V}, Reps K cA cF H r xs vs → Reps K cA cF H r ys ws → Reps K cA cF H r (xs ++ ys) (vs ++ ws)
  | [], ys, vs, ws, h, k => by simp only [Reps] at h; rw [h]; exact k
  | x :: xs, ys, vs, ws, h, k => by
    simp only [Reps] at h
    obtain ⟨v, us, e1, h1, h2⟩ := h
    rw [e1]
    simp only [List.cons_append, Reps]
    exact ⟨v, us ++ ws, rfl, h1, Reps.append h2 k⟩
theorem reps_rev : ∀ {xs : List MV} {vs : List V}, Reps K cA cF H r xs vs → Reps K cA cF H r xs.reverse vs.reverse
  | [], vs, h => by simp only [Reps] at h; rw [h]; simp [Reps]
  | x :: xs, vs, h => by
    simp only [Reps] at h
    obtain ⟨v, us, rfl, h1, h2⟩ := h
    rw [List.reverse_cons, List.reverse_cons]
    exact (reps_rev h2).append (by simp only [Reps]; exact ⟨v, [], rfl, h1, rfl⟩)
theorem Reps.drop : ∀ {xs : List MV} {vs : List V} (n : Nat), Reps K cA cF H r xs vs → Reps K cA cF H r (xs.drop n) (vs.drop n)
  | xs, vs, 0, h => by simpa using h
  | [], vs, n + 1, h => by simp only [Reps] at h; rw [h]; simp [Reps]
  | x :: xs, vs, n + 1, h => by
    simp only [Reps] at h
    obtain ⟨v, us, e1, h1, h2⟩ := h
    rw [e1]; simpa using Reps.drop n h2
theorem Reps.take : ∀ {xs : List MV} {vs : List V} (n : Nat), Reps K cA cF H r xs vs → Reps K cA cF H r (xs.take n) (vs.take n)
  | xs, vs, 0, h => by simp [Reps]
  | [], vs, n + 1, h => by simp only [Reps] at h; rw [h]; simp [Reps]
  | x :: xs, vs, n + 1, h => by
    simp only [Reps] at h
    obtain ⟨v, us, e1, h1, h2⟩ := h
    rw [e1]; simp only [List.take_succ_cons, Reps]
    exact ⟨v, us.take n, rfl, h1, Reps.take n h2⟩
theorem Reps.set : ∀ {xs : List MV} {vs : List V} {i : Nat} {x : MV} {v : V}, Reps K cA cF H r xs vs → Rep K cA cF H r x v → Reps K cA cF H r (xs.set i x) (vs.set i v)
  | [], vs, i, x, v, h, p => by simp only [Reps] at h; rw [h]; simp [Reps]
  | y :: xs, vs, 0, x, v, h, p => by
    simp only [Reps] at h
    obtain ⟨u, us, e1, h1, h2⟩ := h
    rw [e1]; simp only [List.set_cons_zero, Reps]
    exact ⟨v, us, rfl, p, h2⟩
  | y :: xs, vs, i + 1, x, v, h, p => by
    simp only [Reps] at h
    obtain ⟨u, us, e1, h1, h2⟩ := h
    rw [e1]; simp only [List.set_cons_succ, Reps]
    exact ⟨u, us.set i v, rfl, h1, Reps.set h2 p⟩
theorem Reps.atI {xs : List MV} {vs : List V} {i : Int} {x : MV} (h : Reps K cA cF H r xs vs) (e : L2.atI xs i = some x) : ∃ v, L2.atI vs i = some v ∧ Rep K cA cF H r x v := by
  have hl := h.length
  unfold L2.atI at e ⊢
  rw [hl]
  cases q : ixN xs.length i with
  | none => rw [q] at e; cases e
  | some j =>
    rw [q] at e
    exact h.get e
theorem Reps.cut {xs : List MV} {vs : List V} {lo hi : Option Int} (h : Reps K cA cF H r xs vs) : Reps K cA cF H r (cutM xs lo hi) (cutV vs lo hi) := by
  have hl := h.length
  unfold cutM cutV
  rw [hl]
  exact (h.drop _).take _

/-! ### the cells -/
def RepO (K : PySem.W.Frag) (cA : Nat → Addr) (cF : Nat → List Str) (H : Hp) (r : List Addr) : MO → Addr → Prop
  | .lst xs, a => ∃ vs, H a = some (.lst vs) ∧ Reps K cA cF H r xs vs
  | .ins c xs, a => ∃ dx vs, H a = some (.ins (cA c) dx ((cF c).zip vs)) ∧ Reps K cA cF H r xs vs
  | .dic kvs, a => ∃ vs, H a = some (.dK ((kvs.map (·.1)).zip vs)) ∧ Reps K cA cF H r (kvs.map (·.2)) vs
structure Emb (K : PySem.W.Frag) (cA : Nat → Addr) (cF : Nat → List Str) (H : Hp) (r : List Addr) (h : HP) : Prop where
  len : r.length = h.length
  nd : r.Nodup
  at_ : ∀ (i : Nat) o a, h[i]? = some o → r[i]? = some a → RepO K cA cF H r o a
variable {h h' : HP}
theorem Emb.get (E : Emb K cA cF H r h) {i : Nat} {o : MO} (e : h[i]? = some o) : ∃ a, r[i]? = some a ∧ RepO K cA cF H r o a := by
  have hi : i < h.length := (List.getElem?_eq_some_iff.mp e).1
  have hr : i < r.length := by rw [E.len]; exact hi
  exact ⟨r[i], by simp [hr], E.at_ i o _ e (by simp [hr])⟩
theorem RepO.some {o : MO} {a : Addr} (h : RepO K cA cF H r o a) : ∃ u, H a = some u := by
  cases o with
  | lst xs => obtain ⟨vs, h1, _⟩ := h; exact ⟨_, h1⟩
  | ins c xs => obtain ⟨dx, vs, h1, _⟩ := h; exact ⟨_, h1⟩
  | dic kvs => obtain ⟨vs, h1, _⟩ := h; exact ⟨_, h1⟩
theorem Emb.tracked (E : Emb K cA cF H r h) {a : Addr} (ha : a ∈ r) : ∃ u, H a = some u := by
  obtain ⟨i, hi, e⟩ := List.mem_iff_getElem.mp ha
  have hh : i < h.length := by rw [← E.len]; exact hi
  exact (E.at_ i h[i] a (by simp [hh]) (by rw [← e]; simp [hi])).some
/-- something new that is no cell -/
theorem Emb.new (E : Emb K cA cF H r h) {p : Addr} {o : HO} (hp : H p = none) : Ext r H r (upd H p o) ∧ Emb K cA cF (upd H p o) r h ∧ p ∉ r := by
  have hpr : p ∉ r := fun z => by obtain ⟨u, q⟩ := E.tracked z; rw [hp] at q; cases q
  have X : Ext r H r (upd H p o) := ⟨⟨[], by simp⟩, fun a u e n => ⟨by rw [upd_ne (ne_of_none e hp)]; exact e, n⟩⟩
  refine ⟨X, ⟨E.len, E.nd, fun i u a e1 e2 => ?_⟩, hpr⟩
  have q := E.at_ i u a e1 e2
  have hne : a ≠ p := fun z => hpr (z ▸ List.mem_of_getElem? e2)
  cases u with
  | lst xs => obtain ⟨vs, h1, h2⟩ := q; exact ⟨vs, by rw [upd_ne hne]; exact h1, Reps.mono X _ _ h2⟩
  | ins c xs => obtain ⟨dx, vs, h1, h2⟩ := q; exact ⟨dx, vs, by rw [upd_ne hne]; exact h1, Reps.mono X _ _ h2⟩
  | dic kvs => obtain ⟨vs, h1, h2⟩ := q; exact ⟨vs, by rw [upd_ne hne]; exact h1, Reps.mono X _ _ h2⟩
/-- a new cell that holds a list -/
theorem Emb.cell (E : Emb K cA cF H r h) {p : Addr} {xs : List MV} {vs : List V} (hp : H p = none) (hv : Reps K cA cF H r xs vs) :
    Ext r H (r ++ [p]) (upd H p (.lst vs)) ∧ Emb K cA cF (upd H p (.lst vs)) (r ++ [p]) (h ++ [.lst xs]) := by
  have hpr : p ∉ r := fun z => by obtain ⟨u, q⟩ := E.tracked z; rw [hp] at q; cases q
  have X : Ext r H (r ++ [p]) (upd H p (.lst vs)) := ⟨⟨[p], rfl⟩, fun a u e n => by
    have hne := ne_of_none e hp
    exact ⟨by rw [upd_ne hne]; exact e, fun z => by
      rcases List.mem_append.mp z with z | z
      · exact n z
      · exact hne (by simpa using z)⟩⟩
  refine ⟨X, ⟨by simp [E.len], ?_, fun i u a e1 e2 => ?_⟩⟩
  · rw [List.nodup_append]
    refine ⟨E.nd, by simp, fun a ha b hb => ?_⟩
    have : b = p := by simpa using hb
    subst this
    exact fun z => hpr (z ▸ ha)
  · by_cases hi : i < h.length
    · rw [List.getElem?_append_left hi] at e1
      rw [List.getElem?_append_left (by rw [E.len]; exact hi)] at e2
      have q := E.at_ i u a e1 e2
      have hne : a ≠ p := fun z => hpr (z ▸ List.mem_of_getElem? e2)
      cases u with
      | lst xs => obtain ⟨ws, h1, h2⟩ := q; exact ⟨ws, by rw [upd_ne hne]; exact h1, Reps.mono X _ _ h2⟩
      | ins c xs => obtain ⟨dx, ws, h1, h2⟩ := q; exact ⟨dx, ws, by rw [upd_ne hne]; exact h1, Reps.mono X _ _ h2⟩
      | dic kvs => obtain ⟨ws, h1, h2⟩ := q; exact ⟨ws, by rw [upd_ne hne]; exact h1, Reps.mono X _ _ h2⟩
    · have hi2 : i = h.length := by
        have : i < (h ++ [MO.lst xs]).length := (List.getElem?_eq_some_iff.mp e1).1
        simp at this; omega
      subst hi2
      rw [List.getElem?_append_right (Nat.le_refl _), Nat.sub_self] at e1
      rw [← E.len, List.getElem?_append_right (Nat.le_refl _), Nat.sub_self] at e2
      simp at e1 e2
      subst e1 e2
      exact ⟨vs, upd_same, Reps.mono X _ _ hv⟩
/-- a cell's list is written -/
theorem Emb.write (E : Emb K cA cF H r h) {i : Nat} {a : Addr} {xs : List MV} {vs : List V} (hi : r[i]? = some a) (hv : Reps K cA cF H r xs vs) :
    Ext r H r (upd H a (.lst vs)) ∧ Emb K cA cF (upd H a (.lst vs)) r (h.set i (.lst xs)) := by
  have X : Ext r H r (upd H a (.lst vs)) := ⟨⟨[], by simp⟩, fun b u e n => ⟨by
    have hne : b ≠ a := fun z => by subst z; exact n (List.mem_of_getElem? hi)
    rw [upd_ne hne]; exact e, n⟩⟩
  refine ⟨X, ⟨by simp [E.len], E.nd, fun j u b e1 e2 => ?_⟩⟩
  have hir : i < r.length := (List.getElem?_eq_some_iff.mp hi).1
  by_cases hj : i = j
  · subst hj
    rw [hi] at e2; cases e2
    rw [List.getElem?_set_self (by rw [← E.len]; exact hir)] at e1
    cases e1
    exact ⟨vs, upd_same, Reps.mono X _ _ hv⟩
  · rw [List.getElem?_set_ne hj] at e1
    have q := E.at_ j u b e1 e2
    have hne : b ≠ a := fun z => by
      subst z
      exact hj (nodup_inj E.nd hi e2)
    cases u with
    | lst ys => obtain ⟨ws, h1, h2⟩ := q; exact ⟨ws, by rw [upd_ne hne]; exact h1, Reps.mono X _ _ h2⟩
    | ins c ys => obtain ⟨dx, ws, h1, h2⟩ := q; exact ⟨dx, ws, by rw [upd_ne hne]; exact h1, Reps.mono X _ _ h2⟩
    | dic kvs => obtain ⟨ws, h1, h2⟩ := q; exact ⟨ws, by rw [upd_ne hne]; exact h1, Reps.mono X _ _ h2⟩

/-- more things beside what was there -/
theorem Emb.more (E : Emb K cA cF H r h) (k : ∀ b o, H b = some o → H' b = some o) : Ext r H r H' ∧ Emb K cA cF H' r h := by
  have X : Ext r H r H' := ⟨⟨[], by simp⟩, fun a u e n => ⟨k a u e, n⟩⟩
  refine ⟨X, ⟨E.len, E.nd, fun i u a e1 e2 => ?_⟩⟩
  have q := E.at_ i u a e1 e2
  cases u with
  | lst xs => obtain ⟨vs, h1, h2⟩ := q; exact ⟨vs, k _ _ h1, Reps.mono X _ _ h2⟩
  | ins c xs => obtain ⟨dx, vs, h1, h2⟩ := q; exact ⟨dx, vs, k _ _ h1, Reps.mono X _ _ h2⟩
  | dic kvs => obtain ⟨vs, h1, h2⟩ := q; exact ⟨vs, k _ _ h1, Reps.mono X _ _ h2⟩
/-- a new cell that holds an empty dict -/
theorem Emb.dict (E : Emb K cA cF H r h) {p : Addr} (hp : H p = none) :
    Ext r H (r ++ [p]) (upd H p (.dK [])) ∧ Emb K cA cF (upd H p (.dK [])) (r ++ [p]) (h ++ [.dic []]) := by
  have hpr : p ∉ r := fun z => by obtain ⟨u, q⟩ := E.tracked z; rw [hp] at q; cases q
  have X : Ext r H (r ++ [p]) (upd H p (.dK [])) := ⟨⟨[p], rfl⟩, fun a u e n => by
    have hne := ne_of_none e hp
    exact ⟨by rw [upd_ne hne]; exact e, fun z => by
      rcases List.mem_append.mp z with z | z
      · exact n z
      · exact hne (by simpa using z)⟩⟩
  refine ⟨X, ⟨by simp [E.len], ?_, fun i u a e1 e2 => ?_⟩⟩
  · rw [List.nodup_append]
    refine ⟨E.nd, by simp, fun a ha b hb => ?_⟩
    have : b = p := by simpa using hb
    subst this
    exact fun z => hpr (z ▸ ha)
  · by_cases hi : i < h.length
    · rw [List.getElem?_append_left hi] at e1
      rw [List.getElem?_append_left (by rw [E.len]; exact hi)] at e2
      have q := E.at_ i u a e1 e2
      have hne : a ≠ p := fun z => hpr (z ▸ List.mem_of_getElem? e2)
      cases u with
      | lst xs => obtain ⟨ws, h1, h2⟩ := q; exact ⟨ws, by rw [upd_ne hne]; exact h1, Reps.mono X _ _ h2⟩
      | ins c xs => obtain ⟨dx, ws, h1, h2⟩ := q; exact ⟨dx, ws, by rw [upd_ne hne]; exact h1, Reps.mono X _ _ h2⟩
      | dic kvs => obtain ⟨ws, h1, h2⟩ := q; exact ⟨ws, by rw [upd_ne hne]; exact h1, Reps.mono X _ _ h2⟩
    · have hi2 : i = h.length := by
        have : i < (h ++ [MO.dic []]).length := (List.getElem?_eq_some_iff.mp e1).1
        simp at this; omega
      subst hi2
      rw [List.getElem?_append_right (Nat.le_refl _), Nat.sub_self] at e1
      rw [← E.len, List.getElem?_append_right (Nat.le_refl _), Nat.sub_self] at e2
      simp at e1 e2
      subst e1 e2
      exact ⟨[], by rw [List.zip_nil_right]; exact upd_same, by simp only [List.map_nil, Reps]⟩
/-- a cell's dict is written -/
theorem Emb.writeD (E : Emb K cA cF H r h) {i : Nat} {a : Addr} {kvs : List (L2.Key × MV)} {vs : List V} (hi : r[i]? = some a) (hv : Reps K cA cF H r (kvs.map (·.2)) vs) :
    Ext r H r (upd H a (.dK ((kvs.map (·.1)).zip vs))) ∧ Emb K cA cF (upd H a (.dK ((kvs.map (·.1)).zip vs))) r (h.set i (.dic kvs)) := by
  have X : Ext r H r (upd H a (.dK ((kvs.map (·.1)).zip vs))) := ⟨⟨[], by simp⟩, fun b u e n => ⟨by
    have hne : b ≠ a := fun z => by subst z; exact n (List.mem_of_getElem? hi)
    rw [upd_ne hne]; exact e, n⟩⟩
  refine ⟨X, ⟨by simp [E.len], E.nd, fun j u b e1 e2 => ?_⟩⟩
  have hir : i < r.length := (List.getElem?_eq_some_iff.mp hi).1
  by_cases hj : i = j
  · subst hj
    rw [hi] at e2; cases e2
    rw [List.getElem?_set_self (by rw [← E.len]; exact hir)] at e1
    cases e1
    exact ⟨vs, upd_same, Reps.mono X _ _ hv⟩
  · rw [List.getElem?_set_ne hj] at e1
    have q := E.at_ j u b e1 e2
    have hne : b ≠ a := fun z => by
      subst z
      exact hj (nodup_inj E.nd hi e2)
    cases u with
    | lst ys => obtain ⟨ws, h1, h2⟩ := q; exact ⟨ws, by rw [upd_ne hne]; exact h1, Reps.mono X _ _ h2⟩
    | ins c ys => obtain ⟨dx, ws, h1, h2⟩ := q; exact ⟨dx, ws, by rw [upd_ne hne]; exact h1, Reps.mono X _ _ h2⟩
    | dic kvs => obtain ⟨ws, h1, h2⟩ := q; exact ⟨ws, by rw [upd_ne hne]; exact h1, Reps.mono X _ _ h2⟩
/-- a new cell that holds an instance -/
theorem Emb.inst (E : Emb K cA cF H r h) {p dx : Addr} {c : Nat} (hp : H p = none) (hd : H dx = none) (hne : dx ≠ p) :
    Ext r H (r ++ [p]) (upd (upd H dx (.own p)) p (.ins (cA c) dx [])) ∧ Emb K cA cF (upd (upd H dx (.own p)) p (.ins (cA c) dx [])) (r ++ [p]) (h ++ [.ins c []]) := by
  have hpr : p ∉ r := fun z => by obtain ⟨u, q⟩ := E.tracked z; rw [hp] at q; cases q
  have keep : ∀ {a : Addr} {u : HO}, H a = some u → upd (upd H dx (.own p)) p (.ins (cA c) dx []) a = some u := fun {a u} e => by
    rw [upd_ne (ne_of_none e hp), upd_ne (ne_of_none e hd)]; exact e
  have X : Ext r H (r ++ [p]) (upd (upd H dx (.own p)) p (.ins (cA c) dx [])) := ⟨⟨[p], rfl⟩, fun a u e n => by
    exact ⟨keep e, fun z => by
      rcases List.mem_append.mp z with z | z
      · exact n z
      · exact ne_of_none e hp (by simpa using z)⟩⟩
  refine ⟨X, ⟨by simp [E.len], ?_, fun i u a e1 e2 => ?_⟩⟩
  · rw [List.nodup_append]
    refine ⟨E.nd, by simp, fun a ha b hb => ?_⟩
    have : b = p := by simpa using hb
    subst this
    exact fun z => hpr (z ▸ ha)
  · by_cases hi : i < h.length
    · rw [List.getElem?_append_left hi] at e1
      rw [List.getElem?_append_left (by rw [E.len]; exact hi)] at e2
      have q := E.at_ i u a e1 e2
      cases u with
      | lst xs => obtain ⟨ws, h1, h2⟩ := q; exact ⟨ws, keep h1, Reps.mono X _ _ h2⟩
      | ins c xs => obtain ⟨dx, ws, h1, h2⟩ := q; exact ⟨dx, ws, keep h1, Reps.mono X _ _ h2⟩
      | dic kvs => obtain ⟨ws, h1, h2⟩ := q; exact ⟨ws, keep h1, Reps.mono X _ _ h2⟩
    · have hi2 : i = h.length := by
        have : i < (h ++ [MO.ins c []]).length := (List.getElem?_eq_some_iff.mp e1).1
        simp at this; omega
      subst hi2
      rw [List.getElem?_append_right (Nat.le_refl _), Nat.sub_self] at e1
      rw [← E.len, List.getElem?_append_right (Nat.le_refl _), Nat.sub_self] at e2
      simp at e1 e2
      subst e1 e2
      exact ⟨dx, [], by rw [List.zip_nil_right]; exact upd_same, by simp only [Reps]⟩
/-- a cell's instance is written -/
theorem Emb.writeI (E : Emb K cA cF H r h) {i c : Nat} {a dx : Addr} {xs : List MV} {vs : List V} (hi : r[i]? = some a) (hv : Reps K cA cF H r xs vs) :
    Ext r H r (upd H a (.ins (cA c) dx ((cF c).zip vs))) ∧ Emb K cA cF (upd H a (.ins (cA c) dx ((cF c).zip vs))) r (h.set i (.ins c xs)) := by
  have X : Ext r H r (upd H a (.ins (cA c) dx ((cF c).zip vs))) := ⟨⟨[], by simp⟩, fun b u e n => ⟨by
    have hne : b ≠ a := fun z => by subst z; exact n (List.mem_of_getElem? hi)
    rw [upd_ne hne]; exact e, n⟩⟩
  refine ⟨X, ⟨by simp [E.len], E.nd, fun j u b e1 e2 => ?_⟩⟩
  have hir : i < r.length := (List.getElem?_eq_some_iff.mp hi).1
  by_cases hj : i = j
  · subst hj
    rw [hi] at e2; cases e2
    rw [List.getElem?_set_self (by rw [← E.len]; exact hir)] at e1
    cases e1
    exact ⟨dx, vs, upd_same, Reps.mono X _ _ hv⟩
  · rw [List.getElem?_set_ne hj] at e1
    have q := E.at_ j u b e1 e2
    have hne : b ≠ a := fun z => by
      subst z
      exact hj (nodup_inj E.nd hi e2)
    cases u with
    | lst ys => obtain ⟨ws, h1, h2⟩ := q; exact ⟨ws, by rw [upd_ne hne]; exact h1, Reps.mono X _ _ h2⟩
    | ins c ys => obtain ⟨dx, ws, h1, h2⟩ := q; exact ⟨dx, ws, by rw [upd_ne hne]; exact h1, Reps.mono X _ _ h2⟩
    | dic kvs => obtain ⟨ws, h1, h2⟩ := q; exact ⟨ws, by rw [upd_ne hne]; exact h1, Reps.mono X _ _ h2⟩
/-- the attributes by place -/
theorem lookup_zip : ∀ (ns : List Str) (vs : List V) (f : Str), ns.idxOf f < ns.length → (ns.zip vs).lookup f = vs[ns.idxOf f]?
  | [], vs, f, h => by simp at h
  | n :: ns, [], f, h => by simp
  | n :: ns, v :: vs, f, h => by
    rw [List.zip_cons_cons, List.lookup_cons]
    by_cases e : f = n
    · subst e; simp
    · have e2 : (f == n) = false := by simp [e]
      have e3 : (n == f) = false := by simp; exact fun z => e z.symm
      rw [e2]
      rw [List.idxOf_cons, e3] at h ⊢
      simp only [cond_false] at h ⊢
      rw [lookup_zip ns vs f (by simpa using h)]
      simp
theorem lookup_zip_none : ∀ (ns : List Str) (vs : List V) (f : Str), f ∉ ns → (ns.zip vs).lookup f = none
  | [], vs, f, h => by simp
  | n :: ns, [], f, h => by simp
  | n :: ns, v :: vs, f, h => by
    rw [List.zip_cons_cons, List.lookup_cons]
    have e2 : (f == n) = false := by simp; exact fun z => h (z ▸ List.mem_cons_self ..)
    rw [e2]
    exact lookup_zip_none ns vs f (fun z => h (List.mem_cons_of_mem _ z))
theorem putF_zip : ∀ (ns : List Str) (vs : List V) (f : Str) (v : V), ns.idxOf f < ns.length → ns.idxOf f ≤ vs.length →
    putF f v (ns.zip vs) = ns.zip (if ns.idxOf f = vs.length then vs ++ [v] else vs.set (ns.idxOf f) v)
  | [], vs, f, v, h, _ => by simp at h
  | n :: ns, [], f, v, h, k => by
    have : (n :: ns).idxOf f = 0 := by simpa using k
    have e : n = f := by
      rw [List.idxOf_cons] at this
      cases q : n == f with
      | true => simpa using q
      | false => rw [q] at this; simp at this
    subst e
    simp [putF]
  | n :: ns, u :: vs, f, v, h, k => by
    rw [List.zip_cons_cons]
    unfold putF
    by_cases e : n = f
    · subst e
      simp
    · have e3 : (n == f) = false := by simp [e]
      rw [if_neg e]
      rw [List.idxOf_cons, e3] at h k ⊢
      simp only [cond_false, List.length_cons] at h k ⊢
      rw [putF_zip ns vs f v (by omega) (by omega)]
      by_cases z : ns.idxOf f = vs.length
      · rw [if_pos z, if_pos (by omega)]; simp
      · rw [if_neg z, if_neg (by omega)]; simp
theorem cls_rep (E : Emb K cA cF H r h) {x : MV} {c : Nat} {xs : List MV} {v : V} (e : clsM h x = some (c, xs)) (hx : Rep K cA cF H r x v) : ∃ a dx vs, v = .ref a ∧ H a = some (.ins (cA c) dx ((cF c).zip vs)) ∧ Reps K cA cF H r xs vs := by
  cases x with
  | obj d ys =>
    simp only [clsM, Option.some.injEq, Prod.mk.injEq] at e
    obtain ⟨rfl, rfl⟩ := e
    simp only [Rep] at hx
    obtain ⟨a, dx, vs, e1, ⟨_, h1⟩, h2⟩ := hx
    exact ⟨a, dx, vs, e1, h1, h2⟩
  | ref i =>
    simp only [clsM] at e
    simp only [Rep] at hx
    obtain ⟨a, e1, h1⟩ := hx
    cases q : h[i]? with
    | none => rw [q] at e; cases e
    | some o =>
      rw [q] at e
      cases o with
      | ins d ys =>
        simp only [Option.some.injEq, Prod.mk.injEq] at e
        obtain ⟨rfl, rfl⟩ := e
        obtain ⟨dx, vs, h2, h3⟩ := E.at_ i _ a q h1
        exact ⟨a, dx, vs, e1, h2, h3⟩
      | lst ys => cases e
      | dic kvs => cases e
  | _ => simp [clsM] at e

/-- a list value is read -/
theorem getL_ok (E : Emb K cA cF H r h) {x : MV} {xs : List MV} {v : V} (e : getL h x = some xs) (hx : Rep K cA cF H r x v) : ∃ a vs, v = .ref a ∧ (H a = some (.lst vs) ∨ FzL K H r a vs) ∧ Reps K cA cF H r xs vs := by
  cases x with
  | lst ys =>
    simp only [getL, Option.some.injEq] at e
    subst e
    simp only [Rep] at hx
    obtain ⟨a, vs, e1, h1, h2⟩ := hx
    exact ⟨a, vs, e1, .inr h1, h2⟩
  | ref i =>
    simp only [getL] at e
    simp only [Rep] at hx
    obtain ⟨a, e1, h1⟩ := hx
    cases q : h[i]? with
    | none => rw [q] at e; cases e
    | some o =>
      rw [q] at e
      cases o with
      | lst ys =>
        simp only [Option.some.injEq] at e
        subst e
        obtain ⟨vs, h2, h3⟩ := E.at_ i _ a q h1
        exact ⟨a, vs, e1, .inl h2, h3⟩
      | ins c ys => cases e
      | dic kvs => cases e
  | _ => simp [getL] at e
theorem sq_of {K : PySem.W.Frag} {H : Hp} {r : List Addr} {a : Addr} {vs : List V} (h : H a = some (.lst vs) ∨ FzL K H r a vs) : SqL K H a vs := by
  rcases h with h | h
  · exact SqL.of h
  · exact h.sq

/-! ### dicts -/
theorem zip_val {kvs : List (L2.Key × MV)} {vs : List V} {k : L2.Key} (h : Reps K cA cF H r (kvs.map (·.2)) vs) :
    (valM kvs k = none → valV ((kvs.map (·.1)).zip vs) k = none) ∧ ∀ x, valM kvs k = some x → ∃ v, valV ((kvs.map (·.1)).zip vs) k = some v ∧ Rep K cA cF H r x v := by
  induction kvs generalizing vs with
  | nil => exact ⟨fun _ => rfl, fun x z => by cases z⟩
  | cons kv kvs ih =>
    simp only [List.map_cons, Reps] at h
    obtain ⟨v, ws, rfl, h1, h2⟩ := h
    simp only [List.map_cons, List.zip_cons_cons]
    by_cases e : kv.1 = k
    · refine ⟨fun z => ?_, fun x z => ?_⟩
      · simp [valM, e] at z
      · simp [valM, e] at z
        subst z
        exact ⟨v, valV_pos e, h1⟩
    · rw [valV_neg (p := (kv.1, v)) e]
      have e2 : valM (kv :: kvs) k = valM kvs k := by simp [valM, List.find?_cons, e]
      rw [e2]
      exact ih h2
theorem zip_any {kvs : List (L2.Key × MV)} {vs : List V} {k : L2.Key} (h : vs.length = kvs.length) : ((kvs.map (·.1)).zip vs).any (fun kv => decide (kv.1 = k)) = kvs.any fun kv => decide (kv.1 = k) := by
  induction kvs generalizing vs with
  | nil => rfl
  | cons kv kvs ih =>
    cases vs with
    | nil => simp at h
    | cons v vs => simp only [List.map_cons, List.zip_cons_cons, List.any_cons]; rw [ih (by simpa using h)]
theorem zip_put {kvs : List (L2.Key × MV)} {vs : List V} {k : L2.Key} {x : MV} {v : V} (h : Reps K cA cF H r (kvs.map (·.2)) vs) (p : Rep K cA cF H r x v) :
    ∃ ws, putK ((kvs.map (·.1)).zip vs) k v = ((putM kvs k x).map (·.1)).zip ws ∧ Reps K cA cF H r ((putM kvs k x).map (·.2)) ws := by
  have hl : vs.length = kvs.length := by have := h.length; simpa using this
  unfold putK putM
  rw [zip_any hl]
  by_cases q : (kvs.any fun kv => decide (kv.1 = k)) = true
  · rw [if_pos q, if_pos q]
    clear q hl
    induction kvs generalizing vs with
    | nil => exact ⟨[], rfl, by simp [Reps]⟩
    | cons kv kvs ih =>
      simp only [List.map_cons, Reps] at h
      obtain ⟨u, us, rfl, h1, h2⟩ := h
      obtain ⟨ws, e1, e2⟩ := ih h2
      by_cases e : kv.1 = k
      · refine ⟨v :: ws, ?_, ?_⟩
        · simp only [List.map_cons, List.zip_cons_cons, if_pos e]
          rw [e1]
        · simp only [List.map_cons, if_pos e, Reps]
          exact ⟨v, ws, rfl, p, e2⟩
      · refine ⟨u :: ws, ?_, ?_⟩
        · simp only [List.map_cons, List.zip_cons_cons, if_neg e]
          rw [e1]
        · simp only [List.map_cons, if_neg e, Reps]
          exact ⟨u, ws, rfl, h1, e2⟩
  · rw [if_neg q, if_neg q]
    refine ⟨vs ++ [v], ?_, ?_⟩
    · rw [List.map_append, List.zip_append (by rw [List.length_map, hl])]; rfl
    · rw [List.map_append]
      exact h.append (by simp only [List.map_cons, List.map_nil, Reps]; exact ⟨v, [], rfl, p, rfl⟩)
theorem rep_key {x : MV} {k : L2.Key} {v : V} (e : keyM x = some k) (p : Rep K cA cF H r x v) : v = kV k := by
  cases x with
  | int i => simp only [keyM, Option.some.injEq] at e; subst e; simp only [Rep] at p; exact p
  | str i => simp only [keyM, Option.some.injEq] at e; subst e; simp only [Rep] at p; exact p
  | _ => simp [keyM] at e
theorem rep_kM (k : L2.Key) : Rep K cA cF H r (kM k) (kV k) := by
  cases k with
  | inl i => simp only [kM, kV, Rep]
  | inr i => simp only [kM, kV, Rep]
theorem zip_keys : ∀ {kvs : List (L2.Key × MV)} {vs : List V}, Reps K cA cF H r (kvs.map (·.2)) vs → (((kvs.map (·.1)).zip vs).map fun kv => kV kv.1) = kvs.map fun kv => kV kv.1
  | [], vs, h => rfl
  | kv :: kvs, vs, h => by
    simp only [List.map_cons, Reps] at h
    obtain ⟨v, ws, rfl, h1, h2⟩ := h
    simp only [List.map_cons, List.zip_cons_cons]
    rw [zip_keys h2]
theorem reps_keys : ∀ kvs : List (L2.Key × MV), Reps K cA cF H r (kvs.map fun kv => kM kv.1) (kvs.map fun kv => kV kv.1)
  | [] => by simp [Reps]
  | kv :: kvs => by simp only [List.map_cons, Reps]; exact ⟨_, _, rfl, rep_kM _, reps_keys kvs⟩
theorem pairs_rep : ∀ {kvs : List (L2.Key × MV)} {vs : List V} {ts : List Addr}, (∀ t ∈ ts, t ∉ r) → Reps K cA cF H r (kvs.map (·.2)) vs →
    Paired (fun (t : Addr) (q : L2.Key × V) => H t = some (.tup [kV q.1, q.2])) ts ((kvs.map (·.1)).zip vs) → Reps K cA cF H r (kvs.map fun kv => .tup [kM kv.1, kv.2]) (ts.map V.ref)
  | [], vs, ts, ht, h, p => by
    simp only [List.map_nil, List.zip_nil_left] at p
    cases p
    simp [Reps]
  | kv :: kvs, vs, ts, ht, h, p => by
    simp only [List.map_cons, Reps] at h
    obtain ⟨v, ws, rfl, h1, h2⟩ := h
    simp only [List.map_cons, List.zip_cons_cons] at p
    cases p with
    | cons e t =>
      rename_i a ts
      simp only [List.map_cons, Reps, Rep]
      refine ⟨_, _, rfl, ⟨a, _, rfl, ⟨ht a (List.mem_cons_self ..), e⟩, ?_⟩, pairs_rep (fun t z => ht t (List.mem_cons_of_mem _ z)) h2 t⟩
      exact ⟨_, _, rfl, rep_kM _, _, _, rfl, h1, rfl⟩
theorem dic_ok (E : Emb K cA cF H r h) {x : MV} {kvs : List (L2.Key × MV)} {v : V} (e : dicAt h x = some kvs) (hx : Rep K cA cF H r x v) :
    ∃ i a vs, x = .ref i ∧ h[i]? = some (.dic kvs) ∧ r[i]? = some a ∧ v = .ref a ∧ H a = some (.dK ((kvs.map (·.1)).zip vs)) ∧ Reps K cA cF H r (kvs.map (·.2)) vs := by
  cases x with
  | ref i =>
    simp only [dicAt] at e
    simp only [Rep] at hx
    obtain ⟨a, e1, h1⟩ := hx
    split at e
    · rename_i kvs' q
      cases e
      obtain ⟨vs, h2, h3⟩ := E.at_ i _ a q h1
      exact ⟨i, a, vs, rfl, q, h1, e1, h2, h3⟩
    · cases e
  | _ => simp [dicAt] at e

/-! ### giving up cells: what is left is frozen -/
mutual
theorem Rep.low {t : List Addr} : ∀ (x : MV) (v : V), low r.length x = true → Rep K cA cF H (r ++ t) x v → Rep K cA cF H r x v
  | .non, v, _, h => by simpa only [Rep] using h
  | .bl b, v, _, h => by simpa only [Rep] using h
  | .int i, v, _, h => by simpa only [Rep] using h
  | .str s, v, _, h => by simpa only [Rep] using h
  | .tup xs, v, hl, h => by
    simp only [Rep] at h ⊢
    simp only [low] at hl
    obtain ⟨a, vs, e1, ⟨n, h1⟩, h2⟩ := h
    exact ⟨a, vs, e1, ⟨fun z => n (List.mem_append_left _ z), h1⟩, Reps.low xs vs hl h2⟩
  | .lst xs, v, hl, h => by
    simp only [Rep] at h ⊢
    simp only [low] at hl
    obtain ⟨a, vs, e1, h1, h2⟩ := h
    refine ⟨a, vs, e1, ?_, Reps.low xs vs hl h2⟩
    rcases h1 with ⟨n, h1⟩ | h1
    · exact .inl ⟨fun z => n (List.mem_append_left _ z), h1⟩
    · exact .inr h1
  | .ref i, v, hl, h => by
    simp only [Rep] at h ⊢
    simp only [low, decide_eq_true_eq] at hl
    obtain ⟨a, e1, h1⟩ := h
    rw [List.getElem?_append_left hl] at h1
    exact ⟨a, e1, h1⟩
  | .obj c xs, v, hl, h => by
    simp only [Rep] at h ⊢
    simp only [low] at hl
    obtain ⟨a, dx, vs, e1, ⟨n, h1⟩, h2⟩ := h
    exact ⟨a, dx, vs, e1, ⟨fun z => n (List.mem_append_left _ z), h1⟩, Reps.low xs vs hl h2⟩
  | .exc c xs, v, hl, h => by
    simp only [Rep] at h ⊢
    obtain ⟨a, e1, ⟨n, h1⟩, h2⟩ := h
    exact ⟨a, e1, ⟨fun z => n (List.mem_append_left _ z), h1⟩, h2⟩
theorem Reps.low {t : List Addr} : ∀ (xs : List MV) (vs : List V), lows r.length xs = true → Reps K cA cF H (r ++ t) xs vs → Reps K cA cF H r xs vs
  | [], vs, _, h => by simpa only [Reps] using h
  | x :: xs, vs, hl, h => by
    simp only [Reps] at h ⊢
    simp only [lows, Bool.and_eq_true] at hl
    obtain ⟨v, ws, e1, h1, h2⟩ := h
    exact ⟨v, ws, e1, Rep.low x v hl.1 h1, Reps.low xs ws hl.2 h2⟩
end
mutual
theorem Rep.low2 {t u : List Addr} (hu : ∀ a ∈ u, a ∈ t) : ∀ (x : MV) (v : V), low r.length x = true → Rep K cA cF H (r ++ t) x v → Rep K cA cF H (r ++ u) x v
  | .non, v, _, h => by simpa only [Rep] using h
  | .bl b, v, _, h => by simpa only [Rep] using h
  | .int i, v, _, h => by simpa only [Rep] using h
  | .str s, v, _, h => by simpa only [Rep] using h
  | .tup xs, v, hl, h => by
    simp only [Rep] at h ⊢
    simp only [low] at hl
    obtain ⟨a, vs, e1, ⟨n, h1⟩, h2⟩ := h
    exact ⟨a, vs, e1, ⟨fun z => n ((List.mem_append.mp z).elim (List.mem_append_left _) fun y => List.mem_append_right _ (hu _ y)), h1⟩, Reps.low2 hu xs vs hl h2⟩
  | .lst xs, v, hl, h => by
    simp only [Rep] at h ⊢
    simp only [low] at hl
    obtain ⟨a, vs, e1, h1, h2⟩ := h
    refine ⟨a, vs, e1, ?_, Reps.low2 hu xs vs hl h2⟩
    rcases h1 with ⟨n, h1⟩ | h1
    · exact .inl ⟨fun z => n ((List.mem_append.mp z).elim (List.mem_append_left _) fun y => List.mem_append_right _ (hu _ y)), h1⟩
    · exact .inr h1
  | .ref i, v, hl, h => by
    simp only [Rep] at h ⊢
    simp only [low, decide_eq_true_eq] at hl
    obtain ⟨a, e1, h1⟩ := h
    rw [List.getElem?_append_left hl] at h1
    exact ⟨a, e1, by rw [List.getElem?_append_left hl]; exact h1⟩
  | .obj c xs, v, hl, h => by
    simp only [Rep] at h ⊢
    simp only [low] at hl
    obtain ⟨a, dx, vs, e1, ⟨n, h1⟩, h2⟩ := h
    exact ⟨a, dx, vs, e1, ⟨fun z => n ((List.mem_append.mp z).elim (List.mem_append_left _) fun y => List.mem_append_right _ (hu _ y)), h1⟩, Reps.low2 hu xs vs hl h2⟩
  | .exc c xs, v, hl, h => by
    simp only [Rep] at h ⊢
    obtain ⟨a, e1, ⟨n, h1⟩, h2⟩ := h
    exact ⟨a, e1, ⟨fun z => n ((List.mem_append.mp z).elim (List.mem_append_left _) fun y => List.mem_append_right _ (hu _ y)), h1⟩, h2⟩
theorem Reps.low2 {t u : List Addr} (hu : ∀ a ∈ u, a ∈ t) : ∀ (xs : List MV) (vs : List V), lows r.length xs = true → Reps K cA cF H (r ++ t) xs vs → Reps K cA cF H (r ++ u) xs vs
  | [], vs, _, h => by simpa only [Reps] using h
  | x :: xs, vs, hl, h => by
    simp only [Reps] at h ⊢
    simp only [lows, Bool.and_eq_true] at hl
    obtain ⟨v, ws, e1, h1, h2⟩ := h
    exact ⟨v, ws, e1, Rep.low2 hu x v hl.1 h1, Reps.low2 hu xs ws hl.2 h2⟩
end
mutual
theorem Rep.islow : ∀ (x : MV) (v : V), Rep K cA cF H r x v → Rm.low r.length x = true
  | .non, v, h => by simp only [Rm.low]
  | .bl b, v, h => by simp only [Rm.low]
  | .int i, v, h => by simp only [Rm.low]
  | .str s, v, h => by simp only [Rm.low]
  | .tup xs, v, h => by
    simp only [Rep] at h
    simp only [Rm.low]
    obtain ⟨a, vs, e1, _, h2⟩ := h
    exact Reps.islow xs vs h2
  | .lst xs, v, h => by
    simp only [Rep] at h
    simp only [Rm.low]
    obtain ⟨a, vs, e1, _, h2⟩ := h
    exact Reps.islow xs vs h2
  | .ref i, v, h => by
    simp only [Rep] at h
    simp only [Rm.low, decide_eq_true_eq]
    obtain ⟨a, e1, h1⟩ := h
    exact (List.getElem?_eq_some_iff.mp h1).1
  | .obj c xs, v, h => by
    simp only [Rep] at h
    simp only [Rm.low]
    obtain ⟨a, dx, vs, e1, _, h2⟩ := h
    exact Reps.islow xs vs h2
  | .exc c xs, v, h => by
    simp only [Rep] at h
    obtain ⟨a, e1, _, h2⟩ := h
    subst h2
    simp only [Rm.low, lows]
theorem Reps.islow : ∀ (xs : List MV) (vs : List V), Reps K cA cF H r xs vs → lows r.length xs = true
  | [], vs, h => by simp only [lows]
  | x :: xs, vs, h => by
    simp only [Reps] at h
    simp only [lows, Bool.and_eq_true]
    obtain ⟨v, ws, e1, h1, h2⟩ := h
    exact ⟨Rep.islow x v h1, Reps.islow xs ws h2⟩
end
theorem Emb.cut {t : List Addr} {H0 : Hp} (E : Emb K cA cF H (r ++ t) h') (E0 : Emb K cA cF H0 r h) (e : h'.take h.length = h) : Emb K cA cF H r h := by
  refine ⟨E0.len, E0.nd, fun i o a e1 e2 => ?_⟩
  have hi : i < r.length := (List.getElem?_eq_some_iff.mp e2).1
  have e3 : h'[i]? = some o := by
    rw [← e] at e1
    rw [List.getElem?_take] at e1
    split at e1
    · exact e1
    · cases e1
  have q := E.at_ i o a e3 (by rw [List.getElem?_append_left hi]; exact e2)
  have q0 := E0.at_ i o a e1 e2
  cases o with
  | lst xs =>
    obtain ⟨vs, h1, h2⟩ := q
    obtain ⟨ws, _, h4⟩ := q0
    exact ⟨vs, h1, Reps.low xs vs (Reps.islow xs ws h4) h2⟩
  | ins c xs =>
    obtain ⟨dx, vs, h1, h2⟩ := q
    obtain ⟨dx', ws, _, h4⟩ := q0
    exact ⟨dx, vs, h1, Reps.low xs vs (Reps.islow xs ws h4) h2⟩
  | dic kvs =>
    obtain ⟨vs, h1, h2⟩ := q
    obtain ⟨ws, _, h4⟩ := q0
    exact ⟨vs, h1, Reps.low _ vs (Reps.islow _ ws h4) h2⟩
/-- the cells that were there are kept as they are now -/
theorem Emb.cutL {t : List Addr} (E : Emb K cA cF H (r ++ t) h') (low : lowH r.length (h'.take r.length) = true) : Emb K cA cF H r (h'.take r.length) := by
  have hl : r.length ≤ h'.length := by rw [← E.len, List.length_append]; omega
  refine ⟨by rw [List.length_take, Nat.min_eq_left hl], (List.nodup_append.mp E.nd).1, fun i o a e1 e2 => ?_⟩
  have hi : i < r.length := (List.getElem?_eq_some_iff.mp e2).1
  have ho : lowO r.length o = true := List.all_eq_true.mp low o (List.mem_of_getElem? e1)
  have e3 : h'[i]? = some o := by
    rw [List.getElem?_take, if_pos hi] at e1
    exact e1
  have q := E.at_ i o a e3 (by rw [List.getElem?_append_left hi]; exact e2)
  cases o with
  | lst xs =>
    obtain ⟨vs, h1, h2⟩ := q
    exact ⟨vs, h1, Reps.low xs vs ho h2⟩
  | ins c xs =>
    obtain ⟨dx, vs, h1, h2⟩ := q
    exact ⟨dx, vs, h1, Reps.low xs vs ho h2⟩
  | dic kvs =>
    obtain ⟨vs, h1, h2⟩ := q
    exact ⟨vs, h1, Reps.low _ vs ho h2⟩
theorem Emb.pick {t : List Addr} {H0 : Hp} {i : Nat} {a : Addr} {xs : List MV} (E : Emb K cA cF H (r ++ t) h') (E0 : Emb K cA cF H0 r h) (e : h'.take h.length = h) (hi : r.length ≤ i) (hr : (r ++ t)[i]? = some a) (hx : h'[i]? = some (.lst xs)) (hl : lows r.length xs = true) :
    Emb K cA cF H (r ++ [a]) (h ++ [.lst xs]) := by
  have hat : a ∈ t := by
    rw [List.getElem?_append_right hi] at hr
    exact List.mem_of_getElem? hr
  have sub : ∀ b ∈ [a], b ∈ t := fun b hb => by
    have : b = a := by simpa using hb
    rw [this]; exact hat
  have nd := E.nd
  rw [List.nodup_append] at nd
  refine ⟨by simp [E0.len], ?_, fun j o b e1 e2 => ?_⟩
  · rw [List.nodup_append]
    refine ⟨E0.nd, by simp, fun x hx y hy => ?_⟩
    have : y = a := by simpa using hy
    rw [this]
    exact nd.2.2 x hx a hat
  · by_cases hj : j < h.length
    · rw [List.getElem?_append_left hj] at e1
      rw [List.getElem?_append_left (by rw [E0.len]; exact hj)] at e2
      have e3 : h'[j]? = some o := by
        have z : (h'.take h.length)[j]? = some o := by rw [e]; exact e1
        rw [List.getElem?_take, if_pos hj] at z
        exact z
      have q := E.at_ j o b e3 (by rw [List.getElem?_append_left (by rw [E0.len]; exact hj)]; exact e2)
      have q0 := E0.at_ j o b e1 e2
      cases o with
      | lst ys =>
        obtain ⟨vs, h1, h2⟩ := q
        obtain ⟨ws, _, h4⟩ := q0
        exact ⟨vs, h1, Reps.low2 sub ys vs (Reps.islow ys ws h4) h2⟩
      | ins c ys =>
        obtain ⟨dx, vs, h1, h2⟩ := q
        obtain ⟨dx', ws, _, h4⟩ := q0
        exact ⟨dx, vs, h1, Reps.low2 sub ys vs (Reps.islow ys ws h4) h2⟩
      | dic kvs =>
        obtain ⟨vs, h1, h2⟩ := q
        obtain ⟨ws, _, h4⟩ := q0
        exact ⟨vs, h1, Reps.low2 sub _ vs (Reps.islow _ ws h4) h2⟩
    · have hj2 : j = h.length := by
        have : j < (h ++ [MO.lst xs]).length := (List.getElem?_eq_some_iff.mp e1).1
        simp at this; omega
      subst hj2
      rw [List.getElem?_append_right (Nat.le_refl _), Nat.sub_self] at e1
      rw [← E0.len, List.getElem?_append_right (Nat.le_refl _), Nat.sub_self] at e2
      simp at e1 e2
      subst e1 e2
      obtain ⟨vs, h1, h2⟩ := E.at_ i (.lst xs) a hx hr
      exact ⟨vs, h1, Reps.low2 sub xs vs hl h2⟩
mutual
theorem frz_ok {t : List Addr} (E : Emb K cA cF H (r ++ t) h') : ∀ (x y : MV) (v : V), frz h' r.length x = some y → Rep K cA cF H (r ++ t) x v → Rep K cA cF H r y v
  | .non, y, v, e, h => by simp only [frz, Option.some.injEq] at e; subst e; simpa only [Rep] using h
  | .bl b, y, v, e, h => by simp only [frz, Option.some.injEq] at e; subst e; simpa only [Rep] using h
  | .int i, y, v, e, h => by simp only [frz, Option.some.injEq] at e; subst e; simpa only [Rep] using h
  | .str s, y, v, e, h => by simp only [frz, Option.some.injEq] at e; subst e; simpa only [Rep] using h
  | .tup xs, y, v, e, h => by
    simp only [frz] at e
    obtain ⟨ys, e1, e2⟩ := Option.map_eq_some_iff.mp e
    subst e2
    simp only [Rep] at h ⊢
    obtain ⟨a, vs, e1', ⟨n, h1⟩, h2⟩ := h
    exact ⟨a, vs, e1', ⟨fun z => n (List.mem_append_left _ z), h1⟩, frzs_ok E xs ys vs e1 h2⟩
  | .lst xs, y, v, e, h => by
    simp only [frz] at e
    obtain ⟨ys, e1, e2⟩ := Option.map_eq_some_iff.mp e
    subst e2
    simp only [Rep] at h ⊢
    obtain ⟨a, vs, e1', h1, h2⟩ := h
    refine ⟨a, vs, e1', ?_, frzs_ok E xs ys vs e1 h2⟩
    rcases h1 with ⟨n, h1⟩ | h1
    · exact .inl ⟨fun z => n (List.mem_append_left _ z), h1⟩
    · exact .inr h1
  | .obj c xs, y, v, e, h => by
    simp only [frz] at e
    obtain ⟨ys, e1, e2⟩ := Option.map_eq_some_iff.mp e
    subst e2
    simp only [Rep] at h ⊢
    obtain ⟨a, dx, vs, e1', ⟨n, h1⟩, h2⟩ := h
    exact ⟨a, dx, vs, e1', ⟨fun z => n (List.mem_append_left _ z), h1⟩, frzs_ok E xs ys vs e1 h2⟩
  | .exc c xs, y, v, e, h => by
    simp only [frz] at e
    obtain ⟨ys, e1, e2⟩ := Option.map_eq_some_iff.mp e
    subst e2
    simp only [Rep] at h ⊢
    obtain ⟨a, e1', ⟨n, h1⟩, h2⟩ := h
    subst h2
    simp only [frzs, Option.some.injEq] at e1
    exact ⟨a, e1', ⟨fun z => n (List.mem_append_left _ z), h1⟩, e1.symm⟩
  | .ref i, y, v, e, h => by
    simp only [frz] at e
    simp only [Rep] at h
    obtain ⟨a, e1, h1⟩ := h
    by_cases hi : i < r.length
    · rw [if_pos hi] at e
      simp only [Option.some.injEq] at e
      subst e
      rw [List.getElem?_append_left hi] at h1
      simp only [Rep]
      exact ⟨a, e1, h1⟩
    · rw [if_neg hi] at e
      have ha : a ∉ r := fun z => by
        obtain ⟨j, hj, e2⟩ := List.mem_iff_getElem.mp z
        have e4 : (r ++ t)[j]? = some a := by rw [List.getElem?_append_left hj, ← e2]; simp [hj]
        have := nodup_inj E.nd h1 e4
        omega
      cases q : h'[i]? with
      | none => rw [q] at e; cases e
      | some o =>
        rw [q] at e
        have qo := E.at_ i o a q h1
        cases o with
        | lst xs =>
          simp only at e
          split at e
          · rename_i hl
            simp only [Option.some.injEq] at e
            subst e
            obtain ⟨vs, h2, h3⟩ := qo
            simp only [Rep]
            exact ⟨a, vs, e1, .inl ⟨ha, .inl h2⟩, Reps.low xs vs hl h3⟩
          · cases e
        | ins c xs =>
          simp only at e
          split at e
          · rename_i hl
            simp only [Option.some.injEq] at e
            subst e
            obtain ⟨dx, vs, h2, h3⟩ := qo
            simp only [Rep]
            exact ⟨a, dx, vs, e1, ⟨ha, h2⟩, Reps.low xs vs hl h3⟩
          · cases e
        | dic kvs => cases e
theorem frzs_ok {t : List Addr} (E : Emb K cA cF H (r ++ t) h') : ∀ (xs ys : List MV) (vs : List V), frzs h' r.length xs = some ys → Reps K cA cF H (r ++ t) xs vs → Reps K cA cF H r ys vs
  | [], ys, vs, e, h => by simp only [frzs, Option.some.injEq] at e; subst e; simpa only [Reps] using h
  | x :: xs, ys, vs, e, h => by
    simp only [frzs] at e
    obtain ⟨y, e1, e2⟩ := Option.bind_eq_some_iff.mp e
    obtain ⟨zs, e3, e4⟩ := Option.map_eq_some_iff.mp e2
    subst e4
    simp only [Reps] at h ⊢
    obtain ⟨v, ws, e5, h1, h2⟩ := h
    exact ⟨v, ws, e5, frz_ok E x y v e1 h1, frzs_ok E xs zs ws e3 h2⟩
end
end
end Rm

/-! Rm, part C: the text against the small language; expressions. -/
namespace Rm
open PySem L2 PySem.Spec PyProof.Rows

structure Ck where
  N : List Str
  sc : Scope
  fnm : List (Option Str)
  cnm : List Str
  free : List Str
  gI : List (Str × Int)
  gS : List (Str × Str)

/-- the def's name at an index; from big on: the call's result is taken as a cell -/
def Ck.fa (c : Ck) (f : Nat) : Option (Option Str) := match c.fnm[f]? with
  | some o => some o
  | none => if big ≤ f then c.fnm[f - big]? else none
def visB (sc : Scope) (x : Str) : Bool := match sc.names.lookup x with
  | some .local => true
  | some .cell => true
  | some .free => true
  | _ => false
def glB (sc : Scope) (x : Str) : Bool := decide (sc.names.lookup x = some .globalImplicit) && !(x == ("__debug__" : Str))
def bopB : Bop → Operator → Bool
  | .add, .Add => true | .sub, .Sub => true | .mul, .Mult => true | .fdv, .FloorDiv => true | .mod, .Mod => true | .pow, .Pow => true
  | .shl, .LShift => true | .shr, .RShift => true | .and, .BitAnd => true | .or, .BitOr => true | .xor, .BitXor => true
  | _, _ => false
def copB : Cop → CmpOp → Bool
  | .eq, .Eq => true | .ne, .NotEq => true | .lt, .Lt => true | .le, .LtE => true | .gt, .Gt => true | .ge, .GtE => true
  | .is, .Is => true | .isn, .IsNot => true | .inn, .In => true | .nin, .NotIn => true
  | _, _ => false
def biN : Bi → String
  | .len => "len" | .dvm => "divmod" | .abs => "abs" | .max2 => "max" | .min2 => "min" | .int1 => "int" | .str1 => "str" | .list1 => "list" | .sum1 => "sum" | .all1 => "all" | .max1 => "max"
def meN : Me → String
  | .bitlen => "bit_length" | .strip1 => "strip" | .rstrip1 => "rstrip" | .starts => "startswith" | .part => "partition" | .zfill => "zfill" | .split1 => "split" | .join1 => "join" | .upper => "upper"
def meA : Me → Nat
  | .bitlen => 0 | .upper => 0 | _ => 1
def esL : Es → Nat
  | .nil => 0
  | .cons _ es => esL es + 1
def isBO : Expr → Bool
  | .BoolOp _ _ _ => true
  | _ => false
def plT : Expr → Bool
  | .Name _ _ => true
  | .Constant _ _ _ => true
  | .Call _ _ _ _ => true
  | .Subscript _ _ _ => true
  | .Attribute _ _ _ => true
  | _ => false
def tsB : Expr → Bool
  | .UnaryOp .Not _ _ => true
  | .BoolOp _ _ _ => true
  | .Compare _ _ _ _ => true
  | e => plT e
def plIx : Expr → Bool
  | .Slice _ _ _ _ => false
  | _ => true
def noStar : Expr → Bool
  | .Starred _ _ => false
  | _ => true
def plB : Expr → Bool
  | .Call _ (_ :: _) _ _ => true
  | .Call _ _ _ _ => false
  | _ => true

/-- a row of classes' names -/
def ckCs (c : Ck) : List Nat → List Expr → Bool
  | [], xs => match xs with
    | [] => true
    | _ => false
  | k :: ks, xs => match xs with
    | .Name y _ :: xs => decide (c.cnm[k]? = some y) && glB c.sc y && ckCs c ks xs
    | _ => false
def locB (sc : Scope) (x : Str) : Bool := match sc.names.lookup x with
  | some .local => true
  | some .cell => true
  | _ => false
def ckNs (c : Ck) : List Nat → List Expr → Bool
  | [], xs => match xs with
    | [] => true
    | _ => false
  | i :: is, xs => match xs with
    | .Name x _ :: xs => decide (c.N[i]? = some x) && locB c.sc x && ckNs c is xs
    | _ => false
def ckG (c : Ck) : Tg → Expr → Bool
  | .one i, x => match x with
    | .Name x _ => decide (c.N[i]? = some x) && locB c.sc x
    | _ => false
  | .tup is, x => match x with
    | .Tuple xs _ _ => ckNs c is xs
    | _ => false
def noSet : Expr → Bool
  | .Set _ _ _ => false
  | _ => true
/-- the targets of a comprehension: names of its block -/
def ckNw (c : Ck) (vs : List Nat) : List Nat → List Expr → Bool
  | [], xs => match xs with
    | [] => true
    | _ => false
  | i :: is, xs => match xs with
    | .Name x _ :: xs => decide (c.N[i]? = some x) && decide (c.sc.names.lookup x = some .local) && decide (i ∈ vs) && ckNw c vs is xs
    | _ => false
def ckGw (c : Ck) (vs : List Nat) : Tg → Expr → Bool
  | .one i, x => match x with
    | .Name x _ => decide (c.N[i]? = some x) && decide (c.sc.names.lookup x = some .local) && decide (i ∈ vs)
    | _ => false
  | .tup is, x => match x with
    | .Tuple xs _ _ => ckNw c vs is xs
    | _ => false
def ownOf (N : List Str) (vs : List Nat) : List (Str × Nat) := vs.map fun i => (N.getD i (Str.ofString ""), i)
theorem ownOf_snd (N : List Str) (vs : List Nat) : (ownOf N vs).map (·.2) = vs := by
  unfold ownOf
  rw [List.map_map]
  induction vs with
  | nil => rfl
  | cons v vs ih => simp only [List.map_cons, Function.comp]; congr 1
def Ck.blk (c : Ck) (scope : Scope) : Ck := { c with sc := relS scope c.sc }
def inB : Bool → CmpOp → Bool
  | false, .In => true | true, .NotIn => true
  | _, _ => false
/-- a tuple of targets -/
def isTup : Expr → Bool
  | .Tuple _ _ _ => true
  | _ => false
mutual
def ckE (c : Ck) : E → Expr → Bool
  | .var i, x => match x with
    | .Name x _ => decide (c.N[i]? = some x) && visB c.sc x && !(x == ("__debug__" : Str)) && !(x == ("__classdict__" : Str))
    | _ => false
  | .cI i, x => match x with
    | .Constant (.int j) _ _ => decide (i = j)
    | _ => false
  | .cS s, x => match x with
    | .Constant (.str t) _ _ => decide (s = t)
    | _ => false
  | .cB b, x => match x with
    | .Constant (.bool d) _ _ => b == d
    | _ => false
  | .cN, x => match x with
    | .Constant .none _ _ => true
    | _ => false
  | .gI x i, y => match y with
    | .Name y _ => decide (x = y) && glB c.sc y && decide ((x, i) ∈ c.gI)
    | _ => false
  | .gS x i, y => match y with
    | .Name y _ => decide (x = y) && glB c.sc y && decide ((x, i) ∈ c.gS)
    | _ => false
  | .neg a, x => match x with
    | .UnaryOp .USub e _ => ckE c a e
    | _ => false
  | .not a, x => match x with
    | .UnaryOp .Not e _ => tsB e && ckE c a e
    | _ => false
  | .bin o a b, x => match x with
    | .BinOp e op f _ => bopB o op && ckE c a e && ckE c b f
    | _ => false
  | .cmp o a b, x => match x with
    | .Compare e [op] [f] _ => copB o op && !behindInMarks op f && ckE c a e && ckE c b f
    | _ => false
  | .chn o p a b d, x => match x with
    | .Compare e [op, oq] [f, g] _ => copB o op && copB p oq && !lastMarks [op, oq] [f, g] && ckE c a e && ckE c b f && ckE c d g
    | _ => false
  | .and a b, x => match x with
    | .BoolOp .And (e :: f :: r) pos => tsB e && ckE c a e && (match r with
      | [] => tsB f && ckE c b f
      | _ :: _ => ckE c b (.BoolOp .And (f :: r) pos))
    | _ => false
  | .or a b, x => match x with
    | .BoolOp .Or (e :: f :: r) pos => tsB e && ckE c a e && (match r with
      | [] => tsB f && ckE c b f
      | _ :: _ => ckE c b (.BoolOp .Or (f :: r) pos))
    | _ => false
  | .ife t a b, x => match x with
    | .IfExp e f g _ => tsB e && ckE c t e && ckE c a f && ckE c b g
    | _ => false
  | .tup es, x => match x with
    | .Tuple xs _ _ => ckEs c es xs
    | _ => false
  | .lst es, x => match x with
    | .List xs _ => ckEs c es xs
    | _ => false
  | .cel es, x => match x with
    | .List xs _ => ckEs c es xs
    | _ => false
  | .idx a i, x => match x with
    | .Subscript e f _ => plIx f && ckE c a e && ckE c i f
    | _ => false
  | .slc a l u, x => match x with
    | .Subscript e (.Slice f g none _) _ => ckE c a e && (match f with
      | none => isN l
      | some f => ckE c l f && !isN l) && (match g with
      | none => isN u
      | some g => ckE c u g && !isN u)
    | _ => false
  | .call f es, x => match x with
    | .Call (.Name x _) xs [] _ => decide (c.fa f = some (some x)) && glB c.sc x && ckEs c es xs
    | _ => false
  | .bi b es, x => match x with
    | .Call (.Name x _) (e :: xs) [] _ => decide (x = Str.ofString (biN b)) && glB c.sc x && decide (x ∈ c.free) && ckEs c es (e :: xs)
    | _ => false
  | .me m o es, x => match x with
    | .Call (.Attribute e a ap) xs [] pos => decide (esL es = meA m) && decide (a = Str.ofString (meN m)) && plB e && (ap.endLine == pos.line) && ckE c o e && ckEs c es xs
    | _ => false
  | .isT a n, x => match x with
    | .Call (.Name x _) [e, .Name y _] [] _ => noStar e && decide (x = Str.ofString "isinstance") && glB c.sc x && decide (x ∈ c.free) && glB c.sc y && decide (y ∈ c.free) && decide (bootBuiltins y = some (.type n)) && decide (y ≠ "__name__") && ckE c a e
    | _ => false
  | .isC a k, x => match x with
    | .Call (.Name x _) [e, .Name y _] [] _ => noStar e && decide (x = Str.ofString "isinstance") && glB c.sc x && decide (x ∈ c.free) && decide (c.cnm[k]? = some y) && glB c.sc y && ckE c a e
    | _ => false
  | .isCs a ks, x => match x with
    | .Call (.Name x _) [e, .Tuple ys _ _] [] _ => noStar e && decide (x = Str.ofString "isinstance") && glB c.sc x && decide (x ∈ c.free) && ckCs c ks ys && decide (ks.length ≤ 100) && !ks.isEmpty && ckE c a e
    | _ => false
  | .atr o f, x => match x with
    | .Attribute e g _ => decide (f = g) && plB e && ckE c o e
    | _ => false
  | .mcl o m es, x => match x with
    | .Call (.Attribute e g ap) xs [] pos => decide (m = g) && plB e && (ap.endLine == pos.line) && decide (xs.length < 29) && ckE c o e && ckEs c es xs
    | _ => false
  | .new k es, x => match x with
    | .Call (.Name x _) xs [] _ => decide (c.cnm[k]? = some x) && glB c.sc x && ckEs c es xs
    | _ => false
  | .cll a, x => match x with
    | .Call (.Name x _) [e] [] _ => noStar e && decide (x = Str.ofString "list") && glB c.sc x && decide (x ∈ c.free) && ckE c a e
    | _ => false
  | .lcm cl tg vs it a, x => match x with
    | .ListComp elt [⟨t, iter, [], z⟩] scope _ => decide (z = 0) && blkC c.N c.sc scope (ownOf c.N vs) && noSet iter && ckI c t it iter && ckGw (c.blk scope) vs tg t && ckE (c.blk scope) a elt
    | _ => false
  | .lcg tg vs it a, x => match x with
    | .ListComp elt [⟨t, iter, [], z⟩] scope _ => decide (z = 0) && blkC c.N c.sc scope (ownOf c.N vs) && noSet iter && ckI c t it iter && ckGw (c.blk scope) vs tg t && ckE (c.blk scope) a elt
    | _ => false
  | .lcf tg vs it b a, x => match x with
    | .ListComp elt [⟨t, iter, [cd], z⟩] scope _ => decide (z = 0) && blkC c.N c.sc scope (ownOf c.N vs) && noSet iter && ckI c t it iter && ckGw (c.blk scope) vs tg t && ckE (c.blk scope) a elt && ckE (c.blk scope) b cd && tsB cd
    | _ => false
  | .mnd a d, x => match x with
    | .Call (.Name x _) [e] [⟨some k, f, _⟩] _ => noStar e && decide (x = Str.ofString "min") && decide (k = Str.ofString "default") && glB c.sc x && decide (x ∈ c.free) && ckE c a e && ckE c d f
    | _ => false
  | .dnw, x => match x with
    | .Dict [] [] _ => true
    | _ => false
  | .dgt d k, x => match x with
    | .Subscript e f _ => plIx f && ckE c d e && ckE c k f
    | _ => false
  | .din ng k d, x => match x with
    | .Compare e [op] [f] _ => inB ng op && !behindInMarks op f && ckE c k e && ckE c d f
    | _ => false
  | .dks cl d, x => match x with
    | .Call (.Name x _) [e] [] _ => noStar e && decide (x = Str.ofString "list") && glB c.sc x && decide (x ∈ c.free) && ckE c d e
    | _ => false
  | .scl a l u, x => match x with
    | .Subscript e (.Slice f g none _) _ => ckE c a e && (match f with
      | none => isN l
      | some f => ckE c l f && !isN l) && (match g with
      | none => isN u
      | some g => ckE c u g && !isN u)
    | _ => false
  | .lrv cl a, x => match x with
    | .Call (.Name x _) [.Call (.Name y _) [e] [] _] [] _ => noStar e && decide (x = Str.ofString "list") && glB c.sc x && decide (x ∈ c.free) && decide (y = Str.ofString "reversed") && glB c.sc y && decide (y ∈ c.free) && ckE c a e
    | _ => false
  | .dit d, x => match x with
    | .Call (.Name x _) [.Call (.Attribute e a ap) [] [] cpos] [] _ => decide (x = Str.ofString "list") && glB c.sc x && decide (x ∈ c.free) && decide (a = Str.ofString "items") && plB e && (ap.endLine == cpos.line) && ckE c d e
    | _ => false
  | .mclc o m es, x => match x with
    | .Call (.Attribute e g ap) xs [] pos => decide (m = g) && plB e && (ap.endLine == pos.line) && decide (xs.length < 29) && ckE c o e && ckEs c es xs
    | _ => false
  | .lix o y, x => match x with
    | .Call (.Attribute e a ap) [f] [] pos => decide (a = Str.ofString "index") && noStar f && plB e && (ap.endLine == pos.line) && ckE c o e && ckE c y f
    | _ => false
  | .spc o y, x => match x with
    | .Call (.Attribute e a ap) [f] [] pos => decide (a = Str.ofString "split") && noStar f && plB e && (ap.endLine == pos.line) && ckE c o e && ckE c y f
    | _ => false
  | .sxi o y, x => match x with
    | .Call (.Attribute e a ap) [f] [] pos => decide (a = Str.ofString "index") && noStar f && plB e && (ap.endLine == pos.line) && ckE c o e && ckE c y f
    | _ => false
  | .dln d, x => match x with
    | .Call (.Name x _) [e] [] _ => noStar e && decide (x = Str.ofString "len") && glB c.sc x && decide (x ∈ c.free) && ckE c d e
    | _ => false
def ckEs (c : Ck) : Es → List Expr → Bool
  | .nil, xs => match xs with
    | [] => true
    | _ => false
  | .cons a es, xs => match xs with
    | e :: xs => noStar e && ckE c a e && ckEs c es xs
    | _ => false
def ckI (c : Ck) (t : Expr) : I → Expr → Bool
  | .seq e, x => noSet x && ckE c e x
  | .rng1 a, x => match x with
    | .Call (.Name y _) [e] [] _ => noStar e && decide (y = Str.ofString "range") && glB c.sc y && decide (y ∈ c.free) && ckE c a e
    | _ => false
  | .rng2 a b, x => match x with
    | .Call (.Name y _) [e, f] [] _ => noStar e && noStar f && decide (y = Str.ofString "range") && glB c.sc y && decide (y ∈ c.free) && ckE c a e && ckE c b f
    | _ => false
  | .rng3 a b d, x => match x with
    | .Call (.Name y _) [e, f, g] [] _ => noStar e && noStar f && noStar g && decide (y = Str.ofString "range") && glB c.sc y && decide (y ∈ c.free) && ckE c a e && ckE c b f && ckE c d g
    | _ => false
  | .zip a b, x => match x with
    | .Call (.Name y _) [e, f] [] _ => isTup t && noStar e && noStar f && decide (y = Str.ofString "zip") && glB c.sc y && decide (y ∈ c.free) && ckE c a e && ckE c b f
    | _ => false
  | .enm a, x => match x with
    | .Call (.Name y _) [e] [] _ => isTup t && noStar e && decide (y = Str.ofString "enumerate") && glB c.sc y && decide (y ∈ c.free) && ckE c a e
    | _ => false
end

/-- a value that is stored as it is -/
def plV : Expr → Bool
  | .ListComp _ _ _ _ => false
  | .SetComp _ _ _ _ => false
  | .DictComp _ _ _ _ _ => false
  | .Tuple _ _ _ => false
  | .List _ _ => false
  | _ => true
def plC : Expr → Bool
  | .ListComp _ _ _ _ => false
  | .SetComp _ _ _ _ => false
  | .DictComp _ _ _ _ _ => false
  | _ => true
def augB : Bop → Operator → Bool
  | .add, .Add => true | .sub, .Sub => true | .mul, .Mult => true | .shr, .RShift => true | .or, .BitOr => true
  | _, _ => false
/-- a comprehension stored into a name: it may be swapped with it -/
def swB (sc : Scope) (y : Str) (l l' : Nat) (scope : Scope) : Bool := decide (sc.names.lookup y = some .local) && ((l == l') && !(scope.names.any fun (n, k) => n == y && (k == .local || k == .cell)))
def isFn : ScopeKind → Bool
  | .function => true
  | _ => false
def lcB (c : Ck) (t e : Expr) : Bool := match t, e with
  | .Name _ _, .ListComp _ _ _ _ => isFn c.sc.kind
  | _, _ => false
mutual
def ckS (c : Ck) : S → Stmt → Bool
  | .asg (.one i) a, x => match x with
    | .Assign [t] e _ => ckG c (.one i) t && (plC e || lcB c t e) && ckE c a e
    | _ => false
  | .asg (.tup is) a, x => match x with
    | .Assign [t] e _ => ckG c (.tup is) t && plV e && ckE c a e
    | _ => false
  | .aug i o a, x => match x with
    | .AugAssign (.Name y _) op e _ => decide (c.N[i]? = some y) && locB c.sc y && augB o op && ckE c a e
    | _ => false
  | .exp a, x => match x with
    | .Expr e _ => plC e && ckE c a e
    | _ => false
  | .app o a, x => match x with
    | .Expr (.Call (.Attribute e m ap) [f] [] pos) _ => decide (m = Str.ofString "append") && noStar f && plB e && (ap.endLine == pos.line) && ckE c o e && ckE c a f
    | _ => false
  | .rvs o, x => match x with
    | .Expr (.Call (.Attribute e m ap) [] [] pos) _ => decide (m = Str.ofString "reverse") && plB e && (ap.endLine == pos.line) && ckE c o e
    | _ => false
  | .ins o i a, x => match x with
    | .Expr (.Call (.Attribute e m ap) [g, f] [] pos) _ => decide (m = Str.ofString "insert") && noStar g && noStar f && plB e && (ap.endLine == pos.line) && ckE c o e && ckE c i g && ckE c a f
    | _ => false
  | .sto o i a, x => match x with
    | .Assign [.Subscript e f _] g _ => plIx f && plV g && ckE c o e && ckE c i f && ckE c a g
    | _ => false
  | .sta o f a, x => match x with
    | .Assign [.Attribute e g _] v _ => decide (f = g) && plC v && ckE c o e && ckE c a v
    | _ => false
  | .iff t a b, x => match x with
    | .If e xs ys _ => tsB e && ckE c t e && ckSs c a xs && ckSs c b ys
    | _ => false
  | .whl t b, x => match x with
    | .While e xs [] _ => tsB e && ckE c t e && ckSs c b xs
    | _ => false
  | .fr tg it b, x => match x with
    | .For t e xs [] _ => ckG c tg t && noSet e && ckI c t it e && ckSs c b xs
    | _ => false
  | .ret a, x => match x with
    | .Return (some e) _ => ckE c a e
    | _ => false
  | .retN, x => match x with
    | .Return none _ => true
    | _ => false
  | .rais d, x => match x with
    | .Raise (some (.Call (.Name y _) [.Constant (.str _) _ _] [] _)) none _ => decide (c.cnm[d]? = some y) && glB c.sc y
    | _ => false
  | .tri b d i y, x => match x with
    | .Try xs [.ExceptHandler (some (.Name z _)) (some n) [.Assign [.Name u _] (.Name v _) _] _] [] [] _ =>
      decide (c.cnm[d]? = some z) && glB c.sc z && decide (c.N[i]? = some n) && decide (c.sc.names.lookup n = some .local) && decide (v = n) && visB c.sc n && !(n == ("__debug__" : Str)) && !(n == ("__classdict__" : Str)) && decide (c.N[y]? = some u) && locB c.sc u && decide (i ≠ y) && ckSs c b xs
    | _ => false
  | .cont, x => match x with
    | .Continue _ => true
    | _ => false
  | .dpt o i a, x => match x with
    | .Assign [.Subscript e f _] g _ => plC g && ckE c o e && ckE c i f && ckE c a g
    | _ => false
  | .clr o, x => match x with
    | .Expr (.Call (.Attribute e m ap) [] [] pos) _ => decide (m = Str.ofString "clear") && plB e && (ap.endLine == pos.line) && ckE c o e
    | _ => false
  | .trx b, x => match x with
    | .Try xs (_ :: _) [] [] _ => ckSs c b xs
    | _ => false
  | .pas, x => match x with
    | .Pass _ => true
    | _ => false
def ckSs (c : Ck) : Ss → List Stmt → Bool
  | .nil, xs => match xs with
    | [] => true
    | _ => false
  | .cons s ss, xs => match xs with
    | x :: xs => ckS c s x && ckSs c ss xs
    | _ => false
end

/-! ### readings -/
section
variable (K : PySem.W.Frag) (cA : Nat → Addr) (cF : Nat → List Str)
def RepX (x : MX) (cls : Value) (d : Option Addr) : Prop := cls = .ref (cA x.1) ∧ x.2 = [] ∧ d = none
def wpG {α β : Type} (rel : Hp → List Addr → α → β → Prop) (r : List Addr) (H : Hp) (res : R α) (Q : β → Hp → Prop) (X : XK) : Prop := match res with
  | .ok x h' => ∀ r' H' V, Ext r H r' H' → Emb K cA cF H' r' h' → rel H' r' x V → Q V H'
  | .exc x h' => ∀ r' H' cls d, Ext r H r' H' → Emb K cA cF H' r' h' → RepX cA x cls d → X cls d H'
  | .bad => False
abbrev wpR := wpG K cA cF (Rep K cA cF)
abbrev wpRs := wpG K cA cF (Reps K cA cF)
structure REn (H : Hp) (r : List Addr) (e : EN) (σ : L2.St) : Prop where
  len : e.length = σ.length
  at_ : ∀ (i : Nat) v, e[i]? = some (some v) → ∃ V, σ[i]? = some (some V) ∧ Rep K cA cF H r v V
def tE (W : WX) (f : EN → HP → R MV) : TE := fun σ H Q => ∃ r e h, Emb K cA cF H r h ∧ REn K cA cF H r e σ ∧ wpR K cA cF r H (f e h) Q fun cls d H' => W cls d σ H'
def tAs (W : WX) (f : EN → HP → R (List MV)) : TA := fun σ H Q => ∃ r e h, Emb K cA cF H r h ∧ REn K cA cF H r e σ ∧ wpRs K cA cF r H (f e h) Q fun cls d H' => W cls d σ H'
def RepB (_ : Hp) (_ : List Addr) (x : MV) (b : Bool) : Prop := x = .bl b
def tTt (W : WX) (f : EN → HP → R MV) : TT := fun σ H Q => ∃ r e h, Emb K cA cF H r h ∧ REn K cA cF H r e σ ∧ (match f e h with
  | .ok (.bl b) h' => ∀ r' H', Ext r H r' H' → Emb K cA cF H' r' h' → Q b H'
  | .exc x h' => ∀ r' H' cls d, Ext r H r' H' → Emb K cA cF H' r' h' → RepX cA x cls d → W cls d σ H'
  | _ => False)
/-- a def's promise: what the evaluator's call says -/
def spR (C : Nat → List MV → HP → R MV) (f : Nat) : Sp := fun vs H Q X => ∃ r args h, Emb K cA cF H r h ∧ Reps K cA cF H r args vs ∧ wpR K cA cF r H (C f args h) Q X
end
section
variable {K : PySem.W.Frag} {cA : Nat → Addr} {cF : Nat → List Str} {r r1 : List Addr} {H H1 : Hp} {h : HP} {e : EN} {σ : L2.St} {W : WX}
theorem wpG.mono {α β : Type} {rel : Hp → List Addr → α → β → Prop} {res : R α} {Q : β → Hp → Prop} {X : XK} (x : Ext r H r1 H1) (w : wpG K cA cF rel r H res Q X) : wpG K cA cF rel r1 H1 res Q X := by
  cases res with
  | ok a h' => exact fun r' H' V e1 e2 e3 => w r' H' V (x.trans e1) e2 e3
  | exc a h' => exact fun r' H' cls d e1 e2 e3 => w r' H' cls d (x.trans e1) e2 e3
  | bad => exact w
theorem REn.mono (x : Ext r H r1 H1) (n : REn K cA cF H r e σ) : REn K cA cF H1 r1 e σ := ⟨n.len, fun i v q => let ⟨V, h1, h2⟩ := n.at_ i v q; ⟨V, h1, Rep.mono x v V h2⟩⟩
/-- the first part of an evaluation -/
theorem step {α β : Type} {rel : Hp → List Addr → α → β → Prop} {a : R MV} {k : MV → HP → R α} {Q : β → Hp → Prop} {X : XK} {Q' : VK}
    (w : wpG K cA cF rel r H (a.bind k) Q X)
    (cont : ∀ r1 H1 h1 x V, Ext r H r1 H1 → Emb K cA cF H1 r1 h1 → Rep K cA cF H1 r1 x V → wpG K cA cF rel r1 H1 (k x h1) Q X → Q' V H1) : wpR K cA cF r H a Q' X := by
  cases a with
  | ok x h1 => exact fun r1 H1 V e1 e2 e3 => cont r1 H1 h1 x V e1 e2 e3 (wpG.mono e1 w)
  | exc x h1 => exact w
  | bad => exact w
theorem stepE {α β : Type} {rel : Hp → List Addr → α → β → Prop} {f : EN → HP → R MV} {k : MV → HP → R α} {Q : β → Hp → Prop} {Q' : VK}
    (E : Emb K cA cF H r h) (n : REn K cA cF H r e σ) (w : wpG K cA cF rel r H ((f e h).bind k) Q fun cls d H' => W cls d σ H')
    (cont : ∀ r1 H1 h1 x V, Ext r H r1 H1 → Emb K cA cF H1 r1 h1 → REn K cA cF H1 r1 e σ → Rep K cA cF H1 r1 x V → wpG K cA cF rel r1 H1 (k x h1) Q (fun cls d H' => W cls d σ H') → Q' V H1) : tE K cA cF W f σ H Q' :=
  ⟨r, e, h, E, n, step w fun r1 H1 h1 x V e1 e2 e3 w1 => cont r1 H1 h1 x V e1 e2 (n.mono e1) e3 w1⟩
theorem stepA {α β : Type} {rel : Hp → List Addr → α → β → Prop} {f : EN → HP → R (List MV)} {k : List MV → HP → R α} {Q : β → Hp → Prop} {Q' : List V → Hp → Prop}
    (E : Emb K cA cF H r h) (n : REn K cA cF H r e σ) (w : wpG K cA cF rel r H ((f e h).bind k) Q fun cls d H' => W cls d σ H')
    (cont : ∀ r1 H1 h1 x V, Ext r H r1 H1 → Emb K cA cF H1 r1 h1 → REn K cA cF H1 r1 e σ → Reps K cA cF H1 r1 x V → wpG K cA cF rel r1 H1 (k x h1) Q (fun cls d H' => W cls d σ H') → Q' V H1) : tAs K cA cF W f σ H Q' := by
  refine ⟨r, e, h, E, n, ?_⟩
  cases q : f e h with
  | ok x h1 =>
    rw [q] at w
    exact fun r1 H1 V e1 e2 e3 => cont r1 H1 h1 x V e1 e2 (n.mono e1) e3 (wpG.mono e1 w)
  | exc x h1 => rw [q] at w; exact w
  | bad => rw [q] at w; exact w
theorem PEimp {X : Cx} {x : Expr} {t u : TE} (p : PE X x t) (i : ∀ σ H Q, u σ H Q → t σ H Q) : PE X x u := ⟨fun pins s σ H Q I q => p.run pins s σ H Q I (i σ H Q q)⟩
theorem PTimp {X : Cx} {x : Expr} {t u : TT} (p : PT X x t) (i : ∀ σ H Q, u σ H Q → t σ H Q) : PT X x u := ⟨fun pins s σ H Q I q => p.run pins s σ H Q I (i σ H Q q)⟩
theorem PWimp {X : Cx} {x : Expr} {t u : TT} (p : PW X x t) (i : ∀ σ H Q, u σ H Q → t σ H Q) : PW X x u := ⟨fun wh pins s σ H Q I q => p.run wh pins s σ H Q I (i σ H Q q)⟩
theorem PAimp {X : Cx} {x : List Expr} {t u : TA} (p : PA X x t) (i : ∀ σ H Q, u σ H Q → t σ H Q) : PA X x u := ⟨fun pos pins s σ H Q I q => p.run pos pins s σ H Q I (i σ H Q q)⟩
/-- the end of an evaluation: a value that needs nothing -/
theorem wpR.ok {x : MV} {h' : HP} {Q : VK} {X : XK} {V : V} (w : wpR K cA cF r H (.ok x h') Q X) (E : Emb K cA cF H r h') (p : Rep K cA cF H r x V) : Q V H := w r H V Ext.refl E p
end

/-! ### operators, by values -/
section
variable {X : Cx} {cA : Nat → Addr} {cF : Nat → List Str}
/-- a value of two values: what comes of them where they stand -/
def rV2 (K : PySem.W.Frag) (cA : Nat → Addr) (cF : Nat → List Str) (g : HP → MV → MV → Option MV) : R2 := fun v u H Q =>
  ∃ r h x y z, Emb K cA cF H r h ∧ Rep K cA cF H r x v ∧ Rep K cA cF H r y u ∧ g h x y = some z ∧ ∀ r' H' V, Ext r H r' H' → Emb K cA cF H' r' h → Rep K cA cF H' r' z V → Q V H'
theorem Inv.isL {pins : List (Addr × Obj)} {σ : L2.St} {H : Hp} {s : Shared} {r : List Addr} {a : Addr} {vs : List V} (I : Inv X pins σ H s) (q : H a = some (.lst vs) ∨ FzL X.K H r a vs) :
    ∃ (its : List Value) (n : Nat), Vals vs its ∧ s.heap.get? a = some { cls := .type "list", data := .seq its.toArray n } ∧ vs.length ≤ sizeLine := by
  rcases q with q | ⟨_, q⟩ | ⟨its, n, q, z, rv⟩
  · obtain ⟨z, its, n, rv, e⟩ := I.hok a _ q
    exact ⟨its, n, rv, e, z⟩
  · obtain ⟨z, its, n, rv, e⟩ := q.ok I.hok
    exact ⟨its, n, rv, e, z⟩
  · refine ⟨its.toList, n, rv, by simpa using I.kIn a _ q, ?_⟩
    have e := rv.length
    simp only [Array.length_toList] at e
    omega
/-- a new list of values is a frozen one -/
theorem new_lst {K : PySem.W.Frag} {H : Hp} {r : List Addr} {h : HP} {p : Addr} {xs : List MV} {vs : List V} (E : Emb K cA cF H r h) (hp : H p = none) (q : Reps K cA cF H r xs vs) :
    Ext r H r (upd H p (.lst vs)) ∧ Emb K cA cF (upd H p (.lst vs)) r h ∧ Rep K cA cF (upd H p (.lst vs)) r (.lst xs) (.ref p) := by
  obtain ⟨x1, x2, x3⟩ := E.new (o := .lst vs) hp
  refine ⟨x1, x2, ?_⟩
  simp only [Rep]
  exact ⟨p, vs, rfl, .inl ⟨x3, .inl upd_same⟩, Reps.mono x1 _ _ q⟩
theorem new_tup {K : PySem.W.Frag} {H : Hp} {r : List Addr} {h : HP} {p : Addr} {xs : List MV} {vs : List V} (E : Emb K cA cF H r h) (hp : H p = none) (q : Reps K cA cF H r xs vs) :
    Ext r H r (upd H p (.tup vs)) ∧ Emb K cA cF (upd H p (.tup vs)) r h ∧ Rep K cA cF (upd H p (.tup vs)) r (.tup xs) (.ref p) := by
  obtain ⟨x1, x2, x3⟩ := E.new (o := .tup vs) hp
  refine ⟨x1, x2, ?_⟩
  simp only [Rep]
  exact ⟨p, vs, rfl, ⟨x3, upd_same⟩, Reps.mono x1 _ _ q⟩
theorem rep_int {K : PySem.W.Frag} {H : Hp} {r : List Addr} {i : Int} : Rep K cA cF H r (.int i) (.int i) := by simp only [Rep]
theorem rep_bl {K : PySem.W.Frag} {H : Hp} {r : List Addr} {i : Bool} : Rep K cA cF H r (.bl i) (.bl i) := by simp only [Rep]
theorem rep_str {K : PySem.W.Frag} {H : Hp} {r : List Addr} {i : Str} : Rep K cA cF H r (.str i) (.str i) := by simp only [Rep]
theorem rep_non {K : PySem.W.Frag} {H : Hp} {r : List Addr} : Rep K cA cF H r .non .non := by simp only [Rep]
theorem mulB_ok {i j : Int} (h : mulB i j = true) : IntMulOk i j := by
  unfold mulB at h
  simp only [Bool.or_eq_true, decide_eq_true_eq] at h
  rcases h with (h | h) | h
  · exact .of_left h
  · exact .of_right h
  · exact CMulX.ok h
theorem sz_eq : sz = sizeLine := by rw [sizeLine_eq]; rfl
theorem dvB_ok {i j : Int} (h : dvB i j = true) : 0 < j ∧ Builtin.divisionGoesByPylong i j = false := by
  unfold dvB at h
  simp only [Bool.and_eq_true, Bool.or_eq_true, decide_eq_true_eq, Bool.not_eq_true'] at h
  obtain ⟨h0, h1 | h1⟩ := h
  · exact ⟨h0, PyProof.noPylong_small (by omega)⟩
  · exact ⟨h0, h1⟩
/-- room for a long division by _pylong -/
structure Deep (X : Cx) : Prop where
  seer : X.base.NoSeer
  tree : X.prog.given.tree = none
  room : X.A.depth + 100 < recursionLimit
  stk : ∃ env l, X.stack = env :: l ∧ env.scope.isGenerator = false ∧ env.scope.isCoroutine = false ∧ env.builtins = builtinsNs ∧ env.globals = mainGlobals
  frm : ∃ env l L, X.stack = env :: l ∧ env.frame = some L ∧ X.env.frame = some L
theorem op_fdivM (dp : Deep X) : OpR X (binaryOp .FloorDiv) (rI (fun i j => (dvB i j || decide (0 < j)) = true) fun i j => .int (i / j)) := by
  intro pins s σ H v1 v2 u1 u2 Q I r1 r2 q
  obtain ⟨i, j, rfl, rfl, hc, q⟩ := q
  obtain ⟨t1, rfl⟩ := _root_.id r1
  obtain ⟨t2, rfl⟩ := _root_.id r2
  have hj : 0 < j := by
    simp only [Bool.or_eq_true, decide_eq_true_eq] at hc
    rcases hc with h | h
    · exact (dvB_ok h).1
    · exact h
  obtain ⟨env, l, e0, e1, e2, e3, e4⟩ := dp.stk
  have sa : SeerAt (model X.prog X.w) X.A s.heap := SeerAt.of (dp.seer.keeps I.bk) dp.tree (by rw [I.ok.frames, e0]) e1 e2 e3 e4
  refine floordiv_int (by omega) ?_ (.inr (PylongRoom.of I.nolimit dp.room sa))
  rw [Int.fdiv_eq_ediv_of_nonneg i (by omega)]
  exact ⟨.int (i / j), H, I.tok _, ⟨_, rfl⟩, q⟩
theorem op_mulM : OpR X (binaryOp .Mult) (rI (fun i j => mulB i j = true) fun i j => .int (i * j)) := opI fun _ _ _ _ _ _ _ hc q => mul_int q (mulB_ok hc)
theorem iop_mulM : OpR X (inplaceOp .Mult) (rI (fun i j => mulB i j = true) fun i j => .int (i * j)) := opI fun _ _ _ _ _ _ _ hc q => imul_int q (mulB_ok hc)
theorem op_powM : OpR X (binaryOp .Pow) (rI (fun i j => powB i j = true) fun i j => .int (i ^ j.toNat)) := opI fun _ _ _ _ _ _ _ hc q => by
  unfold powB at hc
  simp only [Bool.and_eq_true, Bool.or_eq_true, decide_eq_true_eq] at hc
  rcases hc.2 with h | h
  · exact pow_int_small hc.1 h.1 h.2 q
  · exact pow_int hc.1 (by have : (2 : Int) ^ 27 = 134217728 := rfl; omega) q
theorem op_shlM : OpR X (binaryOp .LShift) (rI (fun i j => shlB i j = true) fun i j => .int (i * 2 ^ j.toNat)) := opI fun _ _ _ _ _ _ _ hc q => by
  unfold shlB at hc
  simp only [Bool.and_eq_true, decide_eq_true_eq] at hc
  exact lshift_int hc.1 (by have := hc.2; omega) q
/-- two ints, a condition on them -/
theorem int_op {f : Value → Value → Sem Value} {c : Int → Int → Bool} {g : Int → Int → Int} (ho : OpR X f (rI (fun i j => c i j = true) fun i j => .int (g i j))) :
    OpR X f (rV2 X.K cA cF fun _ x y => int2 x y fun a b => if c a b then some (.int (g a b)) else none) := by
  intro pins s σ H v u w t Q I rv ru hq
  obtain ⟨r, h, x, y, z, E, rx, ry, e, q⟩ := hq
  obtain ⟨a, b, ex, ey, e2⟩ := int2_some e
  clear e
  subst ex ey
  split at e2
  · rename_i hc
    cases e2
    simp only [Rep] at rx ry
    exact ho pins s σ H v u w t Q I rv ru ⟨a, b, rx, ry, hc, q _ _ _ Ext.refl E rep_int⟩
  · cases e2
theorem int_op0 {f : Value → Value → Sem Value} {g : Int → Int → Int} (ho : OpR X f (rI0 fun i j => .int (g i j))) :
    OpR X f (rV2 X.K cA cF fun _ x y => int2 x y fun a b => some (.int (g a b))) := by
  intro pins s σ H v u w t Q I rv ru hq
  obtain ⟨r, h, x, y, z, E, rx, ry, e, q⟩ := hq
  obtain ⟨a, b, ex, ey, e2⟩ := int2_some e
  clear e
  subst ex ey
  cases e2
  simp only [Rep] at rx ry
  exact ho pins s σ H v u w t Q I rv ru ⟨a, b, rx, ry, q _ _ _ Ext.refl E rep_int⟩
theorem int_opP {f : Value → Value → Sem Value} {c : Int → Int → Prop} [∀ i j, Decidable (c i j)] {g : Int → Int → Int} (ho : OpR X f (rI c fun i j => .int (g i j))) :
    OpR X f (rV2 X.K cA cF fun _ x y => int2 x y fun a b => if c a b then some (.int (g a b)) else none) := by
  intro pins s σ H v u w t Q I rv ru hq
  obtain ⟨r, h, x, y, z, E, rx, ry, e, q⟩ := hq
  obtain ⟨a, b, ex, ey, e2⟩ := int2_some e
  clear e
  subst ex ey
  split at e2
  · rename_i hc
    cases e2
    simp only [Rep] at rx ry
    exact ho pins s σ H v u w t Q I rv ru ⟨a, b, rx, ry, hc, q _ _ _ Ext.refl E rep_int⟩
  · cases e2
theorem OpR.imp {f : Value → Value → Sem Value} {r r' : R2} (ho : OpR X f r) (h : ∀ x y H Q, r' x y H Q → r x y H Q) : OpR X f r' := fun pins s σ H x y v u Q I rx ry q => ho pins s σ H x y v u Q I rx ry (h _ _ _ _ q)
theorem add_op : OpR X (binaryOp .Add) (rV2 X.K cA cF addV) := by
  intro pins s σ H v u w t Q I rv ru hq
  obtain ⟨r, h, x, y, z, E, rx, ry, g, q⟩ := hq
  unfold addV at g
  split at g
  · exact int_op0 (g := fun a b => a + b) op_add pins s σ H v u w t Q I rv ru ⟨r, h, _, _, z, E, rx, ry, g, q⟩
  · split at g
    · rename_i hl
      cases g
      simp only [Rep] at rx ry
      exact op_add_str pins s σ H v u w t Q I rv ru ⟨_, _, rx, ry, by rw [← sz_eq]; exact hl, q _ _ _ Ext.refl E rep_str⟩
    · cases g
  · split at g
    · rename_i xs ys hl
      obtain ⟨l1, l2, l3⟩ := hl
      cases g
      simp only [Rep] at rx ry
      obtain ⟨a, vs, rfl, ⟨_, ha⟩, q1⟩ := rx
      obtain ⟨b, us, rfl, ⟨_, hb⟩, q2⟩ := ry
      have n1 : vs ≠ [] := fun z => by
        have := q1.length
        rw [z] at this
        cases xs with
        | nil => simp at l1
        | cons => simp at this
      have n2 : us ≠ [] := fun z => by
        have := q2.length
        rw [z] at this
        cases ys with
        | nil => simp at l2
        | cons => simp at this
      exact op_catT pins s σ H (.ref a) (.ref b) w t Q I rv ru ⟨a, b, vs, us, rfl, rfl, SqT.of ha, SqT.of hb, n1, by rw [q1.length, q2.length, ← sz_eq]; exact l3, fun z => absurd z n2, fun _ p hp => by
        obtain ⟨x1, x2, x3⟩ := new_tup E hp (q1.append q2)
        exact q _ _ _ x1 x2 x3⟩
    · cases g
  · unfold catL at g
    obtain ⟨xs, g1, g⟩ := Option.bind_eq_some_iff.mp g
    obtain ⟨ys, g2, g⟩ := Option.bind_eq_some_iff.mp g
    split at g
    · rename_i hl
      cases g
      obtain ⟨a, vs, rfl, l1, q1⟩ := getL_ok E g1 rx
      obtain ⟨b, us, rfl, l2, q2⟩ := getL_ok E g2 ry
      cases rv
      cases ru
      obtain ⟨its, n, k1, e1, z1⟩ := Inv.isL I l1
      obtain ⟨its2, n2, k2, e2, z2⟩ := Inv.isL I l2
      have hz : vs.length + us.length ≤ sizeLine := by rw [q1.length, q2.length, ← sz_eq]; exact hl
      refine PySem.P.add_list e1 e2 ?_ (by rw [List.size_toArray, List.size_toArray, ← k1.length, ← k2.length]; exact hz)
      have ea : its.toArray ++ its2.toArray = (its ++ its2).toArray := by simp
      rw [ea]
      obtain ⟨x1, x2, x3⟩ := new_lst E I.fresh (q1.append q2)
      exact ⟨.ref _, _, I.lnew (t' := s.toks) (k1.append k2) (by rw [List.length_append]; exact hz), rfl, q _ _ _ x1 x2 x3⟩
    · cases g
theorem Reps.rep {K : PySem.W.Frag} {cA : Nat → Addr} {cF : Nat → List Str} {H : Hp} {r : List Addr} {xs : List MV} {vs : List V} (q : Reps K cA cF H r xs vs) : ∀ k : Nat, Reps K cA cF H r (List.replicate k xs).flatten (List.replicate k vs).flatten
  | 0 => by simp [Reps]
  | k + 1 => by
    rw [List.replicate_succ, List.replicate_succ, List.flatten_cons, List.flatten_cons]
    exact q.append (Reps.rep q k)
theorem mul_op : OpR X (binaryOp .Mult) (rV2 X.K cA cF mulV) := by
  intro pins s σ H v u w t Q I rv ru hq
  obtain ⟨r, h, x, y, z, E, rx, ry, g, q⟩ := hq
  unfold mulV at g
  split at g
  · exact int_op op_mulM pins s σ H v u w t Q I rv ru ⟨r, h, _, _, z, E, rx, ry, g, q⟩
  · split at g
    · rename_i a k hl
      cases g
      obtain ⟨h1, h2, hz⟩ := hl
      simp only [Rep] at rx ry
      subst rx ry
      obtain ⟨t1, rfl⟩ := rv
      obtain ⟨t2, rfl⟩ := ru
      have hz' : a.length * k.toNat ≤ 16777216 := hz
      refine PySem.SB.mul ⟨?_, fun h3 _ => ?_, fun _ _ => PyProof.Rows.short24 hz'⟩ fun t' k' => ⟨.str _, H, I.tok _, ⟨_, rfl⟩, q _ _ _ Ext.refl E rep_str⟩
      · simp; omega
      · have h5 : a.length ≤ a.length * k.toNat := Nat.le_mul_of_pos_right _ (by omega)
        have h6 : (16777216 : Int) ≤ (2 ^ 63 - 1) / k := (Int.le_ediv_iff_mul_le (by omega)).mpr (by omega)
        omega
    · cases g
  · rename_i x' k _ _
    obtain ⟨xs, g1, g⟩ := Option.bind_eq_some_iff.mp g
    split at g
    · rename_i hl
      cases g
      obtain ⟨h1, h2, hz⟩ := hl
      obtain ⟨l, vs, rfl, l1, q1⟩ := getL_ok E g1 rx
      simp only [Rep] at ry
      subst ry
      cases rv
      obtain ⟨tk, rfl⟩ := ru
      obtain ⟨its, n, k1, e, z1⟩ := Inv.isL I l1
      have hl : vs.length = its.length := k1.length
      have hz' : vs.length * k.toNat ≤ sizeLine := by rw [q1.length, ← sz_eq]; exact hz
      have hlen : its.toArray.size * k.toNat ≤ sizeLine := by rw [List.size_toArray, ← hl]; exact hz'
      have hcap : ¬ its.toArray.size * k.toNat > (2 ^ 63 - 1) / 8 := by
        have : (sizeLine : Nat) ≤ (2 ^ 63 - 1) / 8 := by decide
        omega
      have hfit : ¬ (!Builtin.List.listFitsIndex k) = true := by
        rw [fitsIndex_both (by omega) (by omega)]
        exact Bool.false_ne_true
      have hlong : ¬ Builtin.List.listTooLong (its.toArray.size * k.toNat) = true := by
        rw [notLongL hlen]
        exact Bool.false_ne_true
      have hnew : List.foldl (fun x1 x2 => x1 ++ x2) #[] (List.replicate (if its.toArray.isEmpty = true then 0 else k.toNat) its.toArray) = (List.replicate k.toNat its).flatten.toArray := by
        have f0 : ∀ m : Nat, List.foldl (fun x1 x2 => x1 ++ x2) #[] (List.replicate m its.toArray) = (List.replicate m its).flatten.toArray := fun m => by
          have := L2.foldl_rep its m []
          rw [List.nil_append] at this
          exact this
        rw [f0]
        cases its with
        | nil => simp
        | cons a r' => rw [if_neg (by simp)]
      refine PySem.wpAny_binaryOp_repeat_ref (T := "list") (U := "int") (by decide) ⟨_, e, rfl⟩ (fun s' => typeIs_int s' k tk) noFill_list_mul F.fills_int_mul F.slot_int_rmul repeat_list F.slot_int_index.lookup
        (call_meets F.slot_int_rmul (typeIs_int s k tk) F.entry_int_rmul (F.args_int_rmul_2 _ _) (int___rmul___int_list k tk l its.toArray n)
          ⟨e, rfl, ⟨_, e, rfl⟩, call_meets F.slot_list_mul ⟨_, e, rfl⟩ F.entry_list_mul (F.args_list_mul_2 _ _) (AutoListH.list___mul___list_int_3 l its.toArray n k tk hfit hcap hlong) ⟨e, ?_⟩⟩)
      rw [hnew]
      obtain ⟨x1, x2, x3⟩ := new_lst E I.fresh (q1.rep k.toNat)
      exact ⟨.ref _, _, I.lnew (t' := s.toks) (k1.rep k.toNat) (by rw [PyProof.Rows.lm_len_rep_flat, Nat.mul_comm]; exact hz'), rfl, q _ _ _ x1 x2 x3⟩
    · cases g
  · cases g
theorem binop_ok (dp : Deep X) {o : Bop} {op : Operator} (hb : bopB o op = true) : OpR X (binaryOp op) (rV2 X.K cA cF fun h => binV h o) := by
  cases o <;> cases op <;> first | (exact absurd hb (by decide)) | skip
  · exact add_op
  · exact int_op0 op_sub
  · exact mul_op
  · exact int_op (op_fdivM dp)
  · exact int_opP (c := fun _ j => 0 < j) op_mod
  · exact int_op op_powM
  · exact int_op op_shlM
  · exact int_opP (c := fun _ j => 0 ≤ j) op_shr
  · exact int_op0 op_and
  · exact int_op0 op_or
  · exact int_op0 op_xor
theorem augA_op : OpR X (inplaceOp .Add) (rV2 X.K cA cF fun _ => augA) := by
  intro pins s σ H v u w t Q I rv ru hq
  obtain ⟨r, h, x, y, z, E, rx, ry, g, q⟩ := hq
  replace g : augA x y = some z := g
  unfold augA at g
  split at g
  · split at g
    · rename_i hl
      cases g
      simp only [Rep] at rx ry
      exact iop_add_str pins s σ H v u w t Q I rv ru ⟨_, _, rx, ry, by rw [← sz_eq]; exact hl, q _ _ _ Ext.refl E rep_str⟩
    · cases g
  · exact int_op0 (g := fun a b => a + b) iop_add pins s σ H v u w t Q I rv ru ⟨r, h, _, _, z, E, rx, ry, g, q⟩
theorem augop_ok {o : Bop} {op : Operator} (hb : augB o op = true) : OpR X (inplaceOp op) (rV2 X.K cA cF fun _ => augV o) := by
  cases o <;> cases op <;> first | (exact absurd hb (by decide)) | skip
  · exact augA_op
  · exact int_op0 iop_sub
  · exact int_op iop_mulM
  · exact int_opP (c := fun _ j => 0 ≤ j) iop_shr
  · exact int_op0 iop_or
end
end Rm

/-! Rm, part D: expressions do what the evaluator says. -/
namespace Rm
open PySem L2 PySem.Spec PyProof.Rows

section
variable {X : Cx} {cA : Nat → Addr} {cF : Nat → List Str}
/-! ### comparisons -/
mutual
theorem toD_ok {K : PySem.W.Frag} {H : Hp} {r : List Addr} {h : HP} : ∀ (x : MV) (d : PyData) (v : V), toD h x = some d → Rep K cA cF H r x v → Dp K H v d
  | .non, d, v, e, p => by simp only [toD, Option.some.injEq] at e; subst e; simp only [Rep] at p; subst p; exact .non
  | .bl b, d, v, e, p => by simp only [toD, Option.some.injEq] at e; subst e; simp only [Rep] at p; subst p; exact .bl b
  | .int i, d, v, e, p => by simp only [toD, Option.some.injEq] at e; subst e; simp only [Rep] at p; subst p; exact .int i
  | .str s, d, v, e, p => by simp only [toD, Option.some.injEq] at e; subst e; simp only [Rep] at p; subst p; exact .str s
  | .tup xs, d, v, e, p => by
    simp only [toD] at e
    obtain ⟨ds, e1, e2⟩ := Option.map_eq_some_iff.mp e
    subst e2
    simp only [Rep] at p
    obtain ⟨a, vs, rfl, ⟨_, h1⟩, h2⟩ := p
    exact .tup (SqT.of h1) (toDs_ok xs ds vs e1 h2)
  | .lst xs, d, v, e, p => by
    simp only [toD] at e
    obtain ⟨ds, e1, e2⟩ := Option.map_eq_some_iff.mp e
    subst e2
    simp only [Rep] at p
    obtain ⟨a, vs, rfl, h1, h2⟩ := p
    exact .lst h1.sq (toDs_ok xs ds vs e1 h2)
  | .ref i, d, v, e, p => by simp only [toD] at e; cases e
  | .obj c xs, d, v, e, p => by simp only [toD] at e; cases e
  | .exc c xs, d, v, e, p => by simp only [toD] at e; cases e
theorem toDs_ok {K : PySem.W.Frag} {H : Hp} {r : List Addr} {h : HP} : ∀ (xs : List MV) (ds : List PyData) (vs : List V), toDs h xs = some ds → Reps K cA cF H r xs vs → DpAll K H vs ds
  | [], ds, vs, e, p => by simp only [toDs, Option.some.injEq] at e; subst e; simp only [Reps] at p; subst p; exact .nil
  | x :: xs, ds, vs, e, p => by
    simp only [toDs] at e
    obtain ⟨d, e1, e2⟩ := Option.bind_eq_some_iff.mp e
    obtain ⟨ds', e3, e4⟩ := Option.map_eq_some_iff.mp e2
    subst e4
    simp only [Reps] at p
    obtain ⟨v, ws, rfl, h1, h2⟩ := p
    exact .cons (toD_ok x d v e1 h1) (toDs_ok xs ds' ws e3 h2)
end
theorem flat0_ok {K : PySem.W.Frag} {H : Hp} {r : List Addr} {h : HP} (E : Emb K cA cF H r h) {x : MV} {d : PyData} {v : V} (e : flat0 h x = some d) (p : Rep K cA cF H r x v) : Dp K H v d := by
  cases x with
  | ref i =>
    simp only [flat0] at e
    cases q : h[i]? with
    | none => rw [q] at e; cases e
    | some o =>
      rw [q] at e
      cases o with
      | lst xs =>
        obtain ⟨ds, e1, e2⟩ := Option.map_eq_some_iff.mp e
        subst e2
        have g : getL h (.ref i) = some xs := by simp only [getL, q]
        obtain ⟨a, vs, rfl, l1, q1⟩ := getL_ok E g p
        exact .lst (sq_of l1) (toDs_ok xs ds vs e1 q1)
      | ins c xs => cases e
      | dic kvs => cases e
  | _ => exact toD_ok _ _ _ (by simpa only [flat0] using e) p
theorem flats0_ok {K : PySem.W.Frag} {H : Hp} {r : List Addr} {h : HP} (E : Emb K cA cF H r h) : ∀ (xs : List MV) (ds : List PyData) (vs : List V), flats0 h xs = some ds → Reps K cA cF H r xs vs → DpAll K H vs ds
  | [], ds, vs, e, p => by simp only [flats0, Option.some.injEq] at e; subst e; simp only [Reps] at p; subst p; exact .nil
  | x :: xs, ds, vs, e, p => by
    simp only [flats0] at e
    obtain ⟨d, e1, e2⟩ := Option.bind_eq_some_iff.mp e
    obtain ⟨ds', e3, e4⟩ := Option.map_eq_some_iff.mp e2
    subst e4
    simp only [Reps] at p
    obtain ⟨v, ws, rfl, h1, h2⟩ := p
    exact .cons (flat0_ok E e1 h1) (flats0_ok E xs ds' ws e3 h2)
theorem flatD_ok {K : PySem.W.Frag} {H : Hp} {r : List Addr} {h : HP} (E : Emb K cA cF H r h) {x : MV} {d : PyData} {v : V} (e : flatD h x = some d) (p : Rep K cA cF H r x v) : Dp K H v d := by
  cases x with
  | ref i => exact flat0_ok E (by simpa only [flat0, flatD] using e) p
  | lst xs =>
    simp only [flatD, lstD] at e
    simp only [Rep] at p
    obtain ⟨a, vs, rfl, h1, h2⟩ := p
    split at e
    · rename_i ds q
      simp only [Option.some.injEq] at e
      subst e
      exact .lst h1.sq (toDs_ok xs ds vs q h2)
    · obtain ⟨ds, e1, e2⟩ := Option.map_eq_some_iff.mp e
      subst e2
      exact .lst h1.sq (flats0_ok E xs ds vs e1 h2)
  | _ => exact toD_ok _ _ _ (by simpa only [flatD] using e) p
def rB2 (K : PySem.W.Frag) (cA : Nat → Addr) (cF : Nat → List Str) (g : HP → MV → MV → Option Bool) : R2 := fun v u H Q =>
  ∃ r h x y b, Emb K cA cF H r h ∧ Rep K cA cF H r x v ∧ Rep K cA cF H r y u ∧ g h x y = some b ∧ Q (.bl b) H
theorem eqM_ok {K : PySem.W.Frag} {H : Hp} {r : List Addr} {h : HP} (E : Emb K cA cF H r h) {x y : MV} {v u : V} {b : Bool} (g : eqM h x y = some b) (p : Rep K cA cF H r x v) (q : Rep K cA cF H r y u) :
    ∃ d e, Dp K H v d ∧ Dp K H u e ∧ SeqAt.shaped d = true ∧ SeqAt.shaped e = true ∧ PyData.eqv d e = b := by
  unfold eqM at g
  obtain ⟨d, e1, g⟩ := Option.bind_eq_some_iff.mp g
  obtain ⟨e, e2, g⟩ := Option.bind_eq_some_iff.mp g
  split at g
  · rename_i hs
    simp only [Bool.and_eq_true] at hs
    cases g
    exact ⟨d, e, flatD_ok E e1 p, flatD_ok E e2 q, hs.1, hs.2, rfl⟩
  · cases g
theorem flat_rep {K : PySem.W.Frag} {H : Hp} {r : List Addr} {x : MV} {v : V} (f : flatM x = true) (p : Rep K cA cF H r x v) : flatV v = true ∧ ∀ y w, flatM y = true → Rep K cA cF H r y w → eqV w v = eqF y x := by
  have key : ∀ {x : MV} {v : V}, flatM x = true → Rep K cA cF H r x v → (x = .non ∧ v = .non) ∨ (∃ b, x = .bl b ∧ v = .bl b) ∨ (∃ i, x = .int i ∧ v = .int i) ∨ ∃ s, x = .str s ∧ v = .str s := by
    intro x v f p
    cases x with
    | non => simp only [Rep] at p; exact .inl ⟨rfl, p⟩
    | bl b => simp only [Rep] at p; exact .inr (.inl ⟨b, rfl, p⟩)
    | int i => simp only [Rep] at p; exact .inr (.inr (.inl ⟨i, rfl, p⟩))
    | str s => simp only [Rep] at p; exact .inr (.inr (.inr ⟨s, rfl, p⟩))
    | _ => cases f
  rcases key f p with ⟨rfl, rfl⟩ | ⟨b, rfl, rfl⟩ | ⟨i, rfl, rfl⟩ | ⟨s, rfl, rfl⟩ <;> refine ⟨rfl, fun y w fy py => ?_⟩ <;>
    rcases key fy py with ⟨rfl, rfl⟩ | ⟨b', rfl, rfl⟩ | ⟨i', rfl, rfl⟩ | ⟨s', rfl, rfl⟩ <;> rfl
theorem flats_rep {K : PySem.W.Frag} {H : Hp} {r : List Addr} {x : MV} {v : V} (f : flatM x = true) (p : Rep K cA cF H r x v) : ∀ {ys : List MV} {us : List V}, ys.all flatM = true → Reps K cA cF H r ys us → us.all flatV = true ∧ L2.inV v us = inF x ys
  | [], us, fs, q => by simp only [Reps] at q; subst q; exact ⟨rfl, rfl⟩
  | y :: ys, us, fs, q => by
    simp only [Reps] at q
    obtain ⟨w, ws, rfl, h1, h2⟩ := q
    simp only [List.all_cons, Bool.and_eq_true] at fs
    obtain ⟨k1, k2⟩ := flats_rep f p fs.2 h2
    refine ⟨by rw [List.all_cons, k1, (flat_rep fs.1 h1).1]; rfl, ?_⟩
    have e := (flat_rep f p).2 y w fs.1 h1
    unfold L2.inV inF at *
    rw [List.any_cons, List.any_cons, e, k2]
theorem seq_ok {K : PySem.W.Frag} {H : Hp} {r : List Addr} {h : HP} (E : Emb K cA cF H r h) {x : MV} {xs : List MV} {v : V} (e : seqOf h x = some xs) (p : Rep K cA cF H r x v) :
    ∃ a vs, v = .ref a ∧ (SqL K H a vs ∨ SqT K H a vs) ∧ Reps K cA cF H r xs vs := by
  cases x with
  | tup ys =>
    simp only [seqOf, Option.some.injEq] at e
    subst e
    simp only [Rep] at p
    obtain ⟨a, vs, e1, ⟨_, h1⟩, h2⟩ := p
    exact ⟨a, vs, e1, .inr (SqT.of h1), h2⟩
  | _ =>
    obtain ⟨a, vs, e1, l1, q1⟩ := getL_ok E (by simpa only [seqOf] using e) p
    exact ⟨a, vs, e1, .inl (sq_of l1), q1⟩
theorem int_cmp {f : Value → Value → Sem Value} {g : Int → Int → Bool} (ho : OpR X f (rI0 fun i j => .bl (g i j))) : OpR X f (rB2 X.K cA cF fun _ x y => cmp2 x y g) :=
  OpR.imp ho fun v u H Q q => by
    obtain ⟨r, h, x, y, b, E, rx, ry, e, q⟩ := q
    obtain ⟨i, j, ex, ey, e2⟩ := cmp2_some e
    subst ex ey e2
    simp only [Rep] at rx ry
    exact ⟨i, j, rx, ry, q⟩
theorem rep_non_iff {K : PySem.W.Frag} {H : Hp} {r : List Addr} {x : MV} {v : V} (p : Rep K cA cF H r x v) : decide (v = .non) = isNon x := by
  cases x with
  | non => simp only [Rep] at p; subst p; rfl
  | bl b => simp only [Rep] at p; subst p; rfl
  | int i => simp only [Rep] at p; subst p; rfl
  | str s => simp only [Rep] at p; subst p; rfl
  | tup xs => simp only [Rep] at p; obtain ⟨a, vs, rfl, _⟩ := p; rfl
  | lst xs => simp only [Rep] at p; obtain ⟨a, vs, rfl, _⟩ := p; rfl
  | ref i => simp only [Rep] at p; obtain ⟨a, rfl, _⟩ := p; rfl
  | obj c xs => simp only [Rep] at p; obtain ⟨a, dx, vs, rfl, _⟩ := p; rfl
  | exc c xs => simp only [Rep] at p; obtain ⟨a, rfl, _⟩ := p; rfl
theorem cmpop_ok (hu : X.A.units + 64 < cLine) {o : Cop} {op : CmpOp} (hb : copB o op = true) : OpR X (compareOp op) (rB2 X.K cA cF fun h => cmpV h o) := by
  have isn : ∀ {g : Bool → Bool} {x y : MV} {v u : V} {b : Bool} {H : Hp} {r : List Addr}, (if isNon y then some (g (isNon x)) else none) = some b → Rep X.K cA cF H r x v → Rep X.K cA cF H r y u → u = .non ∧ g (decide (v = .non)) = b := by
    intro g x y v u b H r e p q
    split at e
    · rename_i hy
      cases e
      have := rep_non_iff q
      rw [hy] at this
      exact ⟨of_decide_eq_true this, by rw [rep_non_iff p]⟩
    · cases e
  have ins : ∀ {x y : MV} {v u : V} {b : Bool} {H : Hp} {r : List Addr} {h : HP}, Emb X.K cA cF H r h → inV h x y = some b → Rep X.K cA cF H r x v → Rep X.K cA cF H r y u →
      (∃ p xs, u = .ref p ∧ (SqL X.K H p xs ∨ SqT X.K H p xs) ∧ flatV v = true ∧ xs.all flatV = true ∧ L2.inV v xs = b) ∨ ∃ (c : Nat) (z : Str), v = .str ⟨#[c]⟩ ∧ u = .str z ∧ decide (c ∈ z.cps.toList) = b := by
    intro x y v u b H r h E e p q
    unfold Rm.inV at e
    split at e
    · unfold inS at e
      split at e
      · split at e
        · rename_i c z k hk
          cases e
          simp only [Rep] at p q
          refine .inr ⟨k, _, ?_, q, rfl⟩
          rw [p]
          congr 1
          have : c.cps = #[k] := by rw [← Array.toArray_toList (xs := c.cps), hk]
          cases c
          simp_all
        · cases e
      · cases e
    left
    obtain ⟨ys, e1, e⟩ := Option.bind_eq_some_iff.mp e
    split at e
    · rename_i hf
      simp only [Bool.and_eq_true] at hf
      cases e
      obtain ⟨a, vs, rfl, hs, q1⟩ := seq_ok E e1 q
      obtain ⟨k1, k2⟩ := flats_rep hf.1 p hf.2 q1
      exact ⟨a, vs, rfl, hs, (flat_rep hf.1 p).1, k1, k2⟩
    · cases e
  cases o <;> cases op <;> first | (exact absurd hb (by decide)) | skip
  · exact OpR.imp (op_eqD hu) fun v u H Q q => by
      obtain ⟨r, h, x, y, b, E, rx, ry, e, q⟩ := q
      obtain ⟨d, f, h1, h2, h3, h4, h5⟩ := eqM_ok E e rx ry
      exact ⟨d, f, h1, h2, h3, h4, by rw [h5]; exact q⟩
  · exact OpR.imp (op_neD hu) fun v u H Q q => by
      obtain ⟨r, h, x, y, b, E, rx, ry, e, q⟩ := q
      obtain ⟨c, e1, e2⟩ := Option.map_eq_some_iff.mp e
      obtain ⟨d, f, h1, h2, h3, h4, h5⟩ := eqM_ok E e1 rx ry
      exact ⟨d, f, h1, h2, h3, h4, by rw [h5, e2]; exact q⟩
  · exact int_cmp op_lt
  · exact int_cmp op_le
  · exact int_cmp op_gt
  · exact int_cmp op_ge
  · exact OpR.imp op_isN fun v u H Q q => by
      obtain ⟨r, h, x, y, b, E, rx, ry, e, q⟩ := q
      obtain ⟨h1, h2⟩ := isn (g := fun b => b) e rx ry
      exact ⟨h1, by rw [h2]; exact q⟩
  · exact OpR.imp op_notN fun v u H Q q => by
      obtain ⟨r, h, x, y, b, E, rx, ry, e, q⟩ := q
      obtain ⟨h1, h2⟩ := isn (g := fun b => !b) e rx ry
      exact ⟨h1, by rw [h2]; exact q⟩
  · exact OpR.imp (L2.OpR.or op_in_seq op_in_sign) fun v u H Q q => by
      obtain ⟨r, h, x, y, b, E, rx, ry, e, q⟩ := q
      rcases ins E e rx ry with ⟨p, xs, h1, h2, h3, h4, h5⟩ | ⟨c, z, h1, h2, h3⟩
      · exact .inl ⟨p, xs, h1, h2, h3, h4, by rw [if_neg Bool.false_ne_true, h5]; exact q⟩
      · exact .inr ⟨c, z, h1, h2, by rw [h3]; exact q⟩
  · exact OpR.imp (L2.OpR.or op_notIn_seq op_notIn_sign) fun v u H Q q => by
      obtain ⟨r, h, x, y, b, E, rx, ry, e, q⟩ := q
      obtain ⟨c, e1, e2⟩ := Option.map_eq_some_iff.mp e
      rcases ins E e1 rx ry with ⟨p, xs, h1, h2, h3, h4, h5⟩ | ⟨k, z, h1, h2, h3⟩
      · exact .inl ⟨p, xs, h1, h2, h3, h4, by rw [if_pos rfl, h5, e2]; exact q⟩
      · exact .inr ⟨k, z, h1, h2, by rw [h3, e2]; exact q⟩

/-! ### items and slices -/
theorem IxR.imp {r r' : R2} (h : IxR X r) (i : ∀ x y H Q, r' x y H Q → r x y H Q) : IxR X r' := fun value slice pins s σ H x y v u Q I rx ry q hs => h value slice pins s σ H x y v u Q I rx ry (i _ _ _ _ q) hs
theorem IxR.or {r r' : R2} (h : IxR X r) (h' : IxR X r') : IxR X (fun x y H Q => r x y H Q ∨ r' x y H Q) := fun value slice pins s σ H x y v u Q I rx ry q hs => by
  rcases q with q | q
  · exact h value slice pins s σ H x y v u Q I rx ry q hs
  · exact h' value slice pins s σ H x y v u Q I rx ry q hs
theorem ix_ok : IxR X (rV2 X.K cA cF idxV) :=
  IxR.imp (IxR.or ix_tup (IxR.or ix_list ix_str)) fun v u H Q q => by
    obtain ⟨r, h, x, y, z, E, rx, ry, e, q⟩ := q
    unfold idxV at e
    split at e
    · simp only [Rep] at rx ry
      obtain ⟨a, vs, e1, ⟨_, h1⟩, h2⟩ := rx
      obtain ⟨w, h3, h4⟩ := h2.atI e
      exact .inl ⟨a, vs, _, w, e1, ry, SqT.of h1, h3, q _ _ _ Ext.refl E h4⟩
    · split at e
      · rename_i hz
        obtain ⟨c, e1, e2⟩ := Option.map_eq_some_iff.mp e
        subst e2
        simp only [Rep] at rx ry
        exact .inr (.inr ⟨_, _, c, rx, ry, by rw [← sz_eq]; exact hz, e1, q _ _ _ Ext.refl E rep_str⟩)
      · cases e
    · obtain ⟨xs, e1, e⟩ := Option.bind_eq_some_iff.mp e
      obtain ⟨a, vs, e2, l1, q1⟩ := getL_ok E e1 rx
      simp only [Rep] at ry
      obtain ⟨w, h3, h4⟩ := q1.atI e
      exact .inr (.inl ⟨a, vs, _, w, e2, ry, sq_of l1, h3, q _ _ _ Ext.refl E h4⟩)
    · cases e

/-! ### built-ins -/
def rBi (K : PySem.W.Frag) (cA : Nat → Addr) (cF : Nat → List Str) (g : HP → List MV → Option MV) : List V → Hp → VK → Prop := fun vs H Q =>
  ∃ r h xs z, Emb K cA cF H r h ∧ Reps K cA cF H r xs vs ∧ g h xs = some z ∧ ∀ r' H' V, Ext r H r' H' → Emb K cA cF H' r' h → Rep K cA cF H' r' z V → Q V H'
theorem CallR.imp {f : Value} {r r' : List V → Hp → VK → Prop} (h : CallR X f r) (i : ∀ xs H Q, r' xs H Q → r xs H Q) : CallR X f r' := fun pins s σ H xs us Q I rv q => h pins s σ H xs us Q I rv (i _ _ _ q)
theorem reps1 {K : PySem.W.Frag} {H : Hp} {r : List Addr} {x : MV} {vs : List V} (p : Reps K cA cF H r [x] vs) : ∃ v, vs = [v] ∧ Rep K cA cF H r x v := by
  simp only [Reps] at p
  obtain ⟨w, ws, e1, h1, h2⟩ := p
  subst h2
  exact ⟨w, e1, h1⟩
theorem reps2 {K : PySem.W.Frag} {H : Hp} {r : List Addr} {x y : MV} {vs : List V} (p : Reps K cA cF H r [x, y] vs) : ∃ v u, vs = [v, u] ∧ Rep K cA cF H r x v ∧ Rep K cA cF H r y u := by
  simp only [Reps] at p
  obtain ⟨w, ws, e1, h1, u, us, e2, h2, h3⟩ := p
  subst h3 e2
  exact ⟨w, u, e1, h1, h2⟩
def biVal : Bi → Value
  | .len => .builtin "len" | .dvm => .builtin "divmod" | .abs => .builtin "abs" | .max2 => .builtin "max" | .min2 => .builtin "min"
  | .int1 => .type "int" | .str1 => .type "str" | .list1 => .type "list" | .sum1 => .builtin "sum" | .all1 => .builtin "all" | .max1 => .builtin "max"
theorem intsOf_ok : ∀ (xs : List MV) (is : List Int), intsOf xs = some is → xs = is.map .int
  | [], is, e => by simp only [intsOf, Option.some.injEq] at e; subst e; rfl
  | .int i :: xs, is, e => by
    simp only [intsOf] at e
    obtain ⟨js, e1, e2⟩ := Option.map_eq_some_iff.mp e
    subst e2
    rw [intsOf_ok xs js e1]; rfl
  | .non :: xs, is, e => by simp only [intsOf] at e; cases e
  | .bl b :: xs, is, e => by simp only [intsOf] at e; cases e
  | .str b :: xs, is, e => by simp only [intsOf] at e; cases e
  | .tup b :: xs, is, e => by simp only [intsOf] at e; cases e
  | .lst b :: xs, is, e => by simp only [intsOf] at e; cases e
  | .ref b :: xs, is, e => by simp only [intsOf] at e; cases e
  | .obj b c :: xs, is, e => by simp only [intsOf] at e; cases e
  | .exc b c :: xs, is, e => by simp only [intsOf] at e; cases e
theorem blsOf_ok : ∀ (xs : List MV) (is : List Bool), blsOf xs = some is → xs = is.map .bl
  | [], is, e => by simp only [blsOf, Option.some.injEq] at e; subst e; rfl
  | .bl i :: xs, is, e => by
    simp only [blsOf] at e
    obtain ⟨js, e1, e2⟩ := Option.map_eq_some_iff.mp e
    subst e2
    rw [blsOf_ok xs js e1]; rfl
  | .non :: xs, is, e => by simp only [blsOf] at e; cases e
  | .int b :: xs, is, e => by simp only [blsOf] at e; cases e
  | .str b :: xs, is, e => by simp only [blsOf] at e; cases e
  | .tup b :: xs, is, e => by simp only [blsOf] at e; cases e
  | .lst b :: xs, is, e => by simp only [blsOf] at e; cases e
  | .ref b :: xs, is, e => by simp only [blsOf] at e; cases e
  | .obj b c :: xs, is, e => by simp only [blsOf] at e; cases e
  | .exc b c :: xs, is, e => by simp only [blsOf] at e; cases e
theorem reps_ints {K : PySem.W.Frag} {H : Hp} {r : List Addr} : ∀ (is : List Int) (vs : List V), Reps K cA cF H r (is.map .int) vs → vs = is.map V.int
  | [], vs, p => by simpa only [List.map_nil, Reps] using p
  | i :: is, vs, p => by
    simp only [List.map_cons, Reps, Rep] at p
    obtain ⟨v, ws, rfl, rfl, p⟩ := p
    rw [reps_ints is ws p]; rfl
theorem reps_bls {K : PySem.W.Frag} {H : Hp} {r : List Addr} : ∀ (is : List Bool) (vs : List V), Reps K cA cF H r (is.map .bl) vs → vs = is.map V.bl
  | [], vs, p => by simpa only [List.map_nil, Reps] using p
  | i :: is, vs, p => by
    simp only [List.map_cons, Reps, Rep] at p
    obtain ⟨v, ws, rfl, rfl, p⟩ := p
    rw [reps_bls is ws p]; rfl
theorem mxL_ok : ∀ (is : List Int) (m : Int), (mxL m is = m ∨ mxL m is ∈ is) ∧ m ≤ mxL m is ∧ ∀ y ∈ is, y ≤ mxL m is
  | [], m => ⟨.inl rfl, Int.le_refl _, fun y hy => by cases hy⟩
  | i :: is, m => by
    obtain ⟨a, b, c⟩ := mxL_ok is (if m < i then i else m)
    have e : mxL m (i :: is) = mxL (if m < i then i else m) is := rfl
    rw [e]
    refine ⟨?_, ?_, fun y hy => ?_⟩
    · rcases a with a | a
      · rw [a]; split
        · exact .inr (List.mem_cons_self ..)
        · exact .inl rfl
      · exact .inr (List.mem_cons_of_mem _ a)
    · split at b <;> split <;> omega
    · rcases List.mem_cons.mp hy with z | z
      · subst z; split at b <;> split <;> omega
      · exact c y z
/-- min(xs, default=d), ints -/
def rMnd (K : PySem.W.Frag) : List V → List V → Hp → VK → Prop := fun vs zs H Q => ∃ (a : Addr) (ns : List Int) (d : V), vs = [.ref a] ∧ zs = [d] ∧ SqL K H a (ns.map V.int) ∧ Q (match ns with | [] => d | i :: is => .int (mnL i is)) H
theorem cr_mnd (hc : X.calm = true) (hu : X.A.units + 64 < cLine) : CallRK X (.builtin "min") [Str.ofString "default"] (rMnd X.K) := by
  intro pins s σ H vs zs us ws Q I r rz h
  obtain ⟨a, ns, d, rfl, rfl, hs, q⟩ := h
  obtain ⟨its, rv, hl, _⟩ := I.list hs
  rw [Vals.ref1 r]
  obtain ⟨w1, rfl, e1⟩ := vals1 rz
  refine PySem.W.min_list_datum_default (α := Int) (vs := its.toArray) (xs := ns) (I.ok.hd hc) hl.isList (PySem.W.HoldAll.of_ints (by simpa using rv.ints)) (by show X.A.units + 1 + 0 < cLine; omega) (fun e h' tk hk => ?_) (fun y ys i v h' tk e hi hv hk => ?_)
  · subst e
    exact ⟨d, H, I.kept hk, e1, q⟩
  · subst e
    obtain ⟨as, rd⟩ := hv
    have rd : Reads h' v (.int (mnL y ys)) as := by
      have e : PySem.W.minOf y ys = mnL y ys := by
        unfold PySem.W.minOf mnL
        congr 1
        funext a b
        show (if decide (b < a) = true then b else a) = _
        simp only [decide_eq_true_eq]
      rw [e] at rd; exact rd
    cases rd
    exact ⟨.int _, H, I.kept hk, ⟨_, rfl⟩, q⟩
theorem strsOf_ok : ∀ (xs : List MV) (is : List Str), strsOf xs = some is → xs = is.map .str
  | [], is, e => by simp only [strsOf, Option.some.injEq] at e; subst e; rfl
  | x :: xs, is, e => by
    cases x <;> first
      | (simp only [strsOf] at e; cases e; done)
      | skip
    simp only [strsOf] at e
    obtain ⟨js, e1, e2⟩ := Option.map_eq_some_iff.mp e
    subst e2
    rw [strsOf_ok xs js e1]; rfl
theorem reps_strs {K : PySem.W.Frag} {H : Hp} {r : List Addr} : ∀ (is : List Str) (vs : List V), Reps K cA cF H r (is.map .str) vs → vs = is.map V.str
  | [], vs, p => by simp only [List.map_nil, Reps] at p; exact p
  | i :: is, vs, p => by
    simp only [List.map_cons, Reps] at p
    obtain ⟨v, ws, rfl, h1, h2⟩ := p
    simp only [Rep] at h1
    rw [h1, reps_strs is ws h2]; rfl
theorem strs_reps {K : PySem.W.Frag} {H : Hp} {r : List Addr} : ∀ (is : List Str), Reps K cA cF H r (is.map .str) (is.map V.str)
  | [] => by simp only [List.map_nil, Reps]
  | i :: is => by
    simp only [List.map_cons, Reps]
    exact ⟨_, _, rfl, rep_str, strs_reps is⟩
theorem bi_ok (hc : X.calm = true) (b : Bi) : CallR X (biVal b) (rBi X.K cA cF fun h => biV h b) := by
  cases b with
  | len =>
    refine CallR.imp (L2.CallR.or call_len_seq call_len_str) fun vs H Q q => ?_
    obtain ⟨r, h, xs, z, E, p, e, q⟩ := q
    obtain ⟨x, e1, e2⟩ := b1_some e
    clear e
    subst e1
    obtain ⟨v, rfl, p1⟩ := reps1 p
    cases e3 : seqOf h x with
    | some ys =>
      rw [e3] at e2
      simp only [Option.map_some, Option.some_or, Option.some.injEq] at e2
      subst e2
      obtain ⟨a, us, rfl, h1, h2⟩ := seq_ok E e3 p1
      exact .inl ⟨a, us, rfl, h1, q _ _ _ Ext.refl E (by rw [h2.length]; exact rep_int)⟩
    | none =>
      rw [e3] at e2
      simp only [Option.map_none, Option.none_or] at e2
      unfold lenS at e2
      split at e2
      · split at e2
        · rename_i hz
          cases e2
          simp only [Rep] at p1
          subst p1
          exact .inr ⟨_, rfl, by rw [← sz_eq]; exact hz, q _ _ _ Ext.refl E rep_int⟩
        · cases e2
      · cases e2
  | dvm =>
    refine CallR.imp (r := fun xs H Q => ∃ i j, xs = [.int i, .int j] ∧ dvB i j = true ∧ ∀ p, H p = none → Q (.ref p) (upd H p (.tup [.int (i / j), .int (i % j)]))) ?_ fun vs H Q q => ?_
    · intro pins s σ H xs us Q I r h
      obtain ⟨i, j, rfl, hc, q⟩ := h
      obtain ⟨h1, h2⟩ := dvB_ok hc
      exact call_divmodW pins s σ H _ us Q I r ⟨i, j, rfl, ⟨h1, h2⟩, q⟩
    · obtain ⟨r, h, xs, z, E, p, e, q⟩ := q
      obtain ⟨x, y, e1, e2⟩ := b2_some e
      obtain ⟨i, j, e3, e4, e5⟩ := int2_some e2
      clear e e2
      subst e1 e3 e4
      obtain ⟨v, u, rfl, p1, p2⟩ := reps2 p
      split at e5
      · rename_i hd
        cases e5
        simp only [Rep] at p1 p2
        subst p1 p2
        refine ⟨i, j, rfl, hd, fun p hp => ?_⟩
        obtain ⟨x1, x2, x3⟩ := new_tup (cA := cA) (cF := cF) (xs := [.int (i / j), .int (i % j)]) (vs := [.int (i / j), .int (i % j)]) E hp (by simp only [Reps]; exact ⟨_, _, rfl, rep_int, _, _, rfl, rep_int, rfl⟩)
        exact q _ _ _ x1 x2 x3
      · cases e5
  | abs =>
    refine CallR.imp call_abs fun vs H Q q => ?_
    obtain ⟨r, h, xs, z, E, p, e, q⟩ := q
    obtain ⟨x, e1, e2⟩ := b1_some e
    obtain ⟨i, e3, e4⟩ := int1_some e2
    clear e e2
    cases e4
    subst e1 e3
    obtain ⟨v, rfl, p1⟩ := reps1 p
    simp only [Rep] at p1
    subst p1
    exact ⟨i, rfl, q _ _ _ Ext.refl E rep_int⟩
  | max2 =>
    refine CallR.imp (call_max2 hc) fun vs H Q q => ?_
    obtain ⟨r, h, xs, z, E, p, e, q⟩ := q
    obtain ⟨x, y, e1, e2⟩ := b2_some e
    obtain ⟨i, j, e3, e4, e5⟩ := int2_some e2
    clear e e2
    cases e5
    subst e1 e3 e4
    obtain ⟨v, u, rfl, p1, p2⟩ := reps2 p
    simp only [Rep] at p1 p2
    subst p1 p2
    exact ⟨i, j, rfl, q _ _ _ Ext.refl E rep_int⟩
  | min2 =>
    refine CallR.imp (call_min2 hc) fun vs H Q q => ?_
    obtain ⟨r, h, xs, z, E, p, e, q⟩ := q
    obtain ⟨x, y, e1, e2⟩ := b2_some e
    obtain ⟨i, j, e3, e4, e5⟩ := int2_some e2
    clear e e2
    cases e5
    subst e1 e3 e4
    obtain ⟨v, u, rfl, p1, p2⟩ := reps2 p
    simp only [Rep] at p1 p2
    subst p1 p2
    exact ⟨i, j, rfl, q _ _ _ Ext.refl E rep_int⟩
  | int1 =>
    refine CallR.imp (L2.CallR.or call_int1 call_int_str) fun vs H Q q => ?_
    obtain ⟨r, h, xs, z, E, p, e, q⟩ := q
    obtain ⟨x, e1, e2⟩ := b1_some e
    clear e
    subst e1
    obtain ⟨v, rfl, p1⟩ := reps1 p
    unfold toI at e2
    split at e2
    · cases e2
      simp only [Rep] at p1
      subst p1
      exact .inl (.inl ⟨_, rfl, q _ _ _ Ext.refl E rep_int⟩)
    · split at e2
      · rename_i hz
        obtain ⟨n, e3, e4⟩ := Option.map_eq_some_iff.mp e2
        subst e4
        simp only [Rep] at p1
        subst p1
        exact .inr ⟨_, n, rfl, e3, hz, q _ _ _ Ext.refl E rep_int⟩
      · cases e2
    · cases e2
      simp only [Rep] at p1
      subst p1
      exact .inl (.inr ⟨_, rfl, q _ _ _ Ext.refl E rep_int⟩)
    · cases e2
  | str1 =>
    refine CallR.imp call_str_int fun vs H Q q => ?_
    obtain ⟨r, h, xs, z, E, p, e, q⟩ := q
    obtain ⟨x, e1, e2⟩ := b1_some e
    clear e
    subst e1
    obtain ⟨v, rfl, p1⟩ := reps1 p
    unfold strI at e2
    split at e2
    · split at e2
      · rename_i hz
        cases e2
        simp only [Rep] at p1
        subst p1
        exact ⟨_, rfl, hz, q _ _ _ Ext.refl E rep_str⟩
      · cases e2
    · cases e2
  | list1 =>
    refine CallR.imp call_list_of fun vs H Q q => ?_
    obtain ⟨r, h, xs, z, E, p, e, q⟩ := q
    obtain ⟨x, e1, e2⟩ := b1_some e
    obtain ⟨ys, e3, e4⟩ := Option.map_eq_some_iff.mp e2
    clear e
    subst e1 e4
    obtain ⟨v, rfl, p1⟩ := reps1 p
    obtain ⟨a, us, rfl, h1, h2⟩ := seq_ok E e3 p1
    refine ⟨a, us, rfl, h1, fun l hl => ?_⟩
    obtain ⟨x1, x2, x3⟩ := new_lst E hl h2
    exact q _ _ _ x1 x2 x3
  | sum1 =>
    refine CallR.imp (cr_sum hc) fun vs H Q q => ?_
    obtain ⟨r, h, xs, z, E, p, e, q⟩ := q
    obtain ⟨x, e1, e2⟩ := b1_some e
    obtain ⟨ys, e3, e4⟩ := Option.bind_eq_some_iff.mp e2
    obtain ⟨is, e5, e6⟩ := Option.map_eq_some_iff.mp e4
    clear e
    subst e1 e6
    obtain ⟨v, rfl, p1⟩ := reps1 p
    obtain ⟨a, us, rfl, l1, q1⟩ := getL_ok E e3 p1
    rw [intsOf_ok _ _ e5] at q1
    have := reps_ints _ _ q1
    subst this
    exact ⟨a, is, rfl, sq_of l1, q _ _ _ Ext.refl E rep_int⟩
  | all1 =>
    refine CallR.imp (cr_all hc) fun vs H Q q => ?_
    obtain ⟨r, h, xs, z, E, p, e, q⟩ := q
    obtain ⟨x, e1, e2⟩ := b1_some e
    obtain ⟨ys, e3, e4⟩ := Option.bind_eq_some_iff.mp e2
    obtain ⟨is, e5, e6⟩ := Option.map_eq_some_iff.mp e4
    clear e
    subst e1 e6
    obtain ⟨v, rfl, p1⟩ := reps1 p
    obtain ⟨a, us, rfl, l1, q1⟩ := getL_ok E e3 p1
    rw [blsOf_ok _ _ e5] at q1
    have := reps_bls _ _ q1
    subst this
    exact ⟨a, is, rfl, sq_of l1, q _ _ _ Ext.refl E rep_bl⟩
  | max1 =>
    refine CallR.imp (cr_max hc) fun vs H Q q => ?_
    obtain ⟨r, h, xs, z, E, p, e, q⟩ := q
    obtain ⟨x, e1, e2⟩ := b1_some e
    obtain ⟨ys, e3, e4⟩ := Option.bind_eq_some_iff.mp e2
    obtain ⟨is, e5, e6⟩ := Option.bind_eq_some_iff.mp e4
    clear e
    cases is with
    | nil => cases e6
    | cons i is =>
      simp only [mxV, Option.some.injEq] at e6
      subst e1 e6
      obtain ⟨v, rfl, p1⟩ := reps1 p
      obtain ⟨a, us, rfl, l1, q1⟩ := getL_ok E e3 p1
      rw [intsOf_ok _ _ e5] at q1
      have := reps_ints _ _ q1
      subst this
      refine ⟨a, i :: is, rfl, sq_of l1, by simp, fun m hm hx => ?_⟩
      obtain ⟨k1, k2, k3⟩ := mxL_ok is i
      have em : m = mxL i is := by
        have a1 : mxL i is ≤ m := by
          rcases k1 with k | k
          · rw [k]; exact hx _ (List.mem_cons_self ..)
          · exact hx _ (List.mem_cons_of_mem _ k)
        have a2 : m ≤ mxL i is := by
          rcases List.mem_cons.mp hm with k | k
          · rw [k]; exact k2
          · exact k3 _ k
        omega
      rw [em]
      exact q _ _ _ Ext.refl E rep_int

/-! ### types asked -/
def rTy (K : PySem.W.Frag) (cA : Nat → Addr) (cF : Nat → List Str) (g : HP → MV → Option Bool) (c : V) : List V → Hp → VK → Prop := fun vs H Q =>
  ∃ r h x v b, Emb K cA cF H r h ∧ vs = [v, c] ∧ Rep K cA cF H r x v ∧ g h x = some b ∧ Q (.bl b) H
/-- what the classes of exceptions say -/
structure ExF (K : PySem.W.Frag) (cA : Nat → Addr) (T : Tab) : Prop where
  exc : ∀ c, T.exc c = true → ExcC K (cA c)
  ve : ∀ c, T.exc c = true → PySem.W.kitOne K (.ref (cA c)) (.type "ValueError") = some (T.ve c)
  sub : ∀ c d, T.exc c = true → T.exc d = true → PySem.W.kitOne K (.ref (cA c)) (.ref (cA d)) = some (T.sub c d)
  osub : ∀ c d, T.obj c = true → T.obj d = true → PySem.W.kitOne K (.ref (cA c)) (.ref (cA d)) = some (T.sub c d)
  oi : ∀ c, T.obj c = true → PySem.W.findIn K (.ref (cA c)) "__class__" = some (some (.builtin "object.__class__")) ∧ PySem.W.specialIn K (.builtin "object.__class__") "__get__" = some (some (.builtin "getset_descriptor.__get__")) ∧ PySem.W.takesIn K (.builtin "object.__class__") = some true ∧ PySem.W.mroIn K (cA c) (.type "object") = some true
  non : ∀ d, T.exc d = true → PySem.W.kitOne K (.type "NoneType") (.ref (cA d)) = some false
  em : ∀ c d, T.exc c = true → T.exc d = true → PySem.W.exmOne K (.ref (cA c)) (.ref (cA d)) = some (T.sub c d)
  rz : ∀ c, T.rz c = true → PySem.W.excIn K (cA c) [.type "ValueError", .type "Exception", .type "BaseException", .type "object"] "ValueError.__new__" = true ∧ PySem.W.subIn K (.ref (cA c)) (.type "BaseException") = some true ∧ PySem.W.typeIn K (.ref (cA c)) = some (.type "type")
theorem call_exc {D a : Addr} {cv : Value} {c : V} {b : Bool} (C : ExcC X.K D) (hcv : ∀ u, RelV c u → u = cv) (e : PySem.W.kitOne X.K (.ref D) cv = some b) {pins : List (Addr × Obj)} {s : Shared} {σ : L2.St} {H : Hp} {us : List Value} {Q : VK}
    (I : L2.Inv X pins σ H s) (hH : H a = some (ExcV D a)) (rv : Vals [.ref a, c] us) (q : Q (.bl b) H) : wpAny (model X.prog X.w) X.A (call (.builtin "isinstance") us) (EP X pins σ Q) X.xe s := by
  cases rv with
  | cons rx rr =>
    cases rr with
    | cons rt rr =>
      cases rr
      cases rx
      have ec := hcv _ rt
      subst ec
      have x := I.hok a _ hH
      obtain ⟨⟨oe, vs, hget, hz, hv⟩, _, _⟩ := x
      have J : PySem.W.InstAt s.heap a oe D none := by
        obtain ⟨oc, od, oda, osl⟩ := oe
        obtain ⟨h1, h2⟩ := hz
        dsimp only at h1 h2 hv
        subst h1 h2 hv
        exact ⟨hget, rfl, rfl, trivial⟩
      exact PySem.W.kia_one (PySem.W.handS_kitx_exc C.hg C.hk C.hs C.hd C.ha C.hn C.ht C.hm) I.kIn J e (fun z => nomatch z) fun tk => ⟨.bl b, H, I.kept (t' := tk) fun _ _ z => z, rfl, q⟩
theorem kit_tys {K : PySem.W.Frag} {t n : String} (ht : t ∈ "NoneType" :: tyNs) (hn : n ∈ tyNs) : PySem.W.kitOne K (.type t) (.type n) = some (n == t || (n == "int" && t == "bool")) := by
  simp only [tyNs, List.mem_cons, List.not_mem_nil, or_false] at ht hn
  rcases ht with rfl | rfl | rfl | rfl | rfl | rfl <;> rcases hn with rfl | rfl | rfl | rfl | rfl <;> exact kit_ty (by decide +kernel)
theorem FzL.ty {K : PySem.W.Frag} {H : Hp} {r : List Addr} {a : Addr} {vs : List V} (h : FzL K H r a vs) : TyX K H (.ref a) (.type "list") := by
  rcases h with ⟨_, h | ⟨o, h⟩⟩ | ⟨its, n, h, _⟩
  · exact .base (.lst h)
  · exact .base (.frz h)
  · exact .kList h rfl
/-- isinstance(x, n), n a built-in type -/
theorem isT_ok {T : Tab} (F : ExF X.K cA T) (n : String) : CallR X (.builtin "isinstance") (rTy X.K cA cF (fun h x => isTV T h x n) (.ty n)) := by
  intro pins s σ H us ws Q I rv q
  obtain ⟨r, h, x, v, b, E, rfl, p, e, q⟩ := q
  have base : ∀ {t : String}, t ∈ "NoneType" :: tyNs → TyX X.K H v (.type t) → (if n ∈ tyNs then some (n == t || (n == "int" && t == "bool")) else none) = some b → wpAny (model X.prog X.w) X.A (call (.builtin "isinstance") ws) (EP X pins σ Q) X.xe s := by
    intro t ht ty e
    split at e
    · rename_i hn
      cases e
      exact call_isi pins s σ H _ ws Q I rv ⟨v, .ty n, _, _, _, rfl, .ty n, ty, kit_tys ht hn, q⟩
    · cases e
  have go : ∀ {t : String}, t ∈ "NoneType" :: tyNs → TyX X.K H v (.type t) → ∀ {o : Option Bool}, o = some b → o = (if n ∈ tyNs then some (n == t || (n == "int" && t == "bool")) else none) → wpAny (model X.prog X.w) X.A (call (.builtin "isinstance") ws) (EP X pins σ Q) X.xe s :=
    fun ht ty _ e1 e2 => base ht ty (e2.symm.trans e1)
  have side : ∀ {t : String} {c : Bool}, (n ∈ tyNs → c = (n == t || (n == "int" && t == "bool"))) → (if n ∈ tyNs then some c else none) = (if n ∈ tyNs then some (n == t || (n == "int" && t == "bool")) else none) := by
    intro t c hc
    by_cases hn : n ∈ tyNs
    · rw [if_pos hn, if_pos hn, hc hn]
    · rw [if_neg hn, if_neg hn]
  have all : ∀ {t : String} {c : String → Bool}, (∀ m ∈ tyNs, c m = (m == t || (m == "int" && t == "bool"))) → (if n ∈ tyNs then some (c n) else none) = (if n ∈ tyNs then some (n == t || (n == "int" && t == "bool")) else none) := fun hc => side (fun hn => hc n hn)
  cases x with
  | non => simp only [Rep] at p; subst p; exact go (t := "NoneType") (by decide) (.base .non) e (all (c := fun _ => false) (by decide))
  | bl k => simp only [Rep] at p; subst p; exact go (t := "bool") (by decide) (.base (.bl k)) e (all (c := fun n => n == "int" || n == "bool") (by decide))
  | int i => simp only [Rep] at p; subst p; exact go (t := "int") (by decide) (.base (.int i)) e (all (c := fun n => n == "int") (by decide))
  | str i => simp only [Rep] at p; subst p; exact go (t := "str") (by decide) (.base (.str i)) e (all (c := fun n => n == "str") (by decide))
  | tup xs =>
    simp only [Rep] at p
    obtain ⟨a, vs, rfl, ⟨_, h1⟩, h2⟩ := p
    exact go (t := "tuple") (by decide) (.base (.tup h1)) e (all (c := fun n => n == "tuple") (by decide))
  | lst xs =>
    simp only [Rep] at p
    obtain ⟨a, vs, rfl, h1, h2⟩ := p
    exact go (t := "list") (by decide) h1.ty e (all (c := fun n => n == "list") (by decide))
  | ref i =>
    have e0 : isTV T h (.ref i) n = some b := e
    simp only [isTV] at e0
    cases hg : h[i]? with
    | none => rw [hg] at e0; cases e0
    | some o =>
      rw [hg] at e0
      cases o with
      | ins c fs => cases e0
      | dic kvs => cases e0
      | lst ys =>
        have g1 : getL h (.ref i) = some ys := by simp only [getL, hg]
        obtain ⟨a, vs, rfl, l1, q1⟩ := getL_ok E g1 p
        have ty : TyX X.K H (.ref a) (.type "list") := l1.elim (fun z => .base (.lst z)) (fun z => z.ty)
        exact go (t := "list") (by decide) ty e0 (all (c := fun n => n == "list") (by decide))
  | obj c xs => simp only [isTV] at e; cases e
  | exc c xs =>
    simp only [Rep] at p
    obtain ⟨a, rfl, ⟨_, h1⟩, h2⟩ := p
    simp only [isTV] at e
    split at e
    · rename_i hc
      simp only [Bool.and_eq_true, decide_eq_true_eq] at hc
      cases e
      obtain ⟨rfl, hc⟩ := hc
      exact call_exc (c := .ty "ValueError") (cv := .type "ValueError") (F.exc c hc) (fun u ru => (show u = Value.type "ValueError" from ru)) (F.ve c hc) I h1 rv q
    · cases e
/-- isinstance(x, C), C an own class of exceptions -/
theorem isC_ok {T : Tab} (F : ExF X.K cA T) (hob : ∀ d, T.obj d = true → Cls X.K (cA d)) (d : Nat) : CallR X (.builtin "isinstance") (rTy X.K cA cF (fun _ x => isCV T x d) (.ref (cA d))) := by
  intro pins s σ H us ws Q I rv q
  obtain ⟨r, h, x, v, b, E, rfl, p, e, q⟩ := q
  replace e : isCV T x d = some b := e
  unfold isCV at e
  split at e
  · split at e
    · rename_i _ _ c xs hc
      simp only [Bool.and_eq_true] at hc
      cases e
      simp only [Rep] at p
      obtain ⟨a, rfl, ⟨_, h1⟩, h2⟩ := p
      exact call_exc (c := .ref (cA d)) (cv := .ref (cA d)) (F.exc c hc.1) (fun u ru => (show u = Value.ref (cA d) from ru)) (F.sub c d hc.1 hc.2) I h1 rv q
    · cases e
  · split at e
    · rename_i _ _ c xs hc
      simp only [Bool.and_eq_true] at hc
      cases e
      simp only [Rep] at p
      obtain ⟨a, dx, vs, rfl, ⟨_, h1⟩, h2⟩ := p
      obtain ⟨i1, i2, i3, i4⟩ := F.oi c hc.1
      exact call_isi pins s σ H _ ws Q I rv ⟨.ref a, .ref (cA d), _, _, _, rfl, .own _, .base (.ins h1 (hob c hc.1) i1 i2 i3 i4), F.osub c d hc.1 hc.2, q⟩
    · cases e
  · split at e
    · rename_i hd
      cases e
      simp only [Rep] at p
      subst p
      exact call_isi pins s σ H _ ws Q I rv ⟨.non, .ref (cA d), _, _, _, rfl, .own _, .base .non, F.non d hd, q⟩
    · cases e
  · cases e

/-! ### a row of classes asked -/
def rTyT (K : PySem.W.Frag) (cA : Nat → Addr) (cF : Nat → List Str) (g : MV → Option Bool) (cs : List V) : List V → Hp → VK → Prop := fun vs H Q =>
  ∃ r h x v tp b, Emb K cA cF H r h ∧ vs = [v, .ref tp] ∧ H tp = some (.tup cs) ∧ Rep K cA cF H r x v ∧ g x = some b ∧ Q (.bl b) H
theorem kitAny_exc {K : PySem.W.Frag} {T : Tab} (F : ExF K cA T) {c : Nat} {xs : List MV} : ∀ {ds : List Nat} {b : Bool}, isCsV T (.exc c xs) ds = some b → (ds ≠ [] → T.exc c = true) ∧ PySem.W.kitAny K (.ref (cA c)) (ds.map fun d => Value.ref (cA d)) = some b
  | [], b, e => by simp only [isCsV, Option.some.injEq] at e; subst e; exact ⟨fun z => absurd rfl z, rfl⟩
  | d :: ds, b, e => by
    simp only [isCsV] at e
    split at e
    · rename_i hc
      simp only [Bool.and_eq_true] at hc
      obtain ⟨b2, e1, e2⟩ := Option.map_eq_some_iff.mp e
      obtain ⟨_, k⟩ := kitAny_exc F e1
      refine ⟨fun _ => hc.1, ?_⟩
      rw [List.map_cons]
      unfold PySem.W.kitAny
      rw [F.sub c d hc.1 hc.2]
      cases q : T.sub c d with
      | true => rw [q] at e2; simp at e2; subst e2; rfl
      | false => rw [q] at e2; simp at e2; subst e2; exact k
    · cases e
theorem kitAny_non {K : PySem.W.Frag} {T : Tab} (F : ExF K cA T) : ∀ {ds : List Nat} {b : Bool}, isCsV T .non ds = some b → PySem.W.kitAny K (.type "NoneType") (ds.map fun d => Value.ref (cA d)) = some b
  | [], b, e => by simp only [isCsV, Option.some.injEq] at e; subst e; rfl
  | d :: ds, b, e => by
    simp only [isCsV] at e
    split at e
    · rename_i hc
      rw [List.map_cons]
      unfold PySem.W.kitAny
      rw [F.non d hc]
      exact kitAny_non F e
    · cases e
theorem vals_cls : ∀ (ds : List Nat), Paired ClsV (ds.map fun d => V.ref (cA d)) (ds.map fun d => Value.ref (cA d))
  | [] => .nil
  | d :: ds => .cons (.own _) (vals_cls ds)
theorem isCs_ok {T : Tab} (F : ExF X.K cA T) (ds : List Nat) (hne : ds ≠ []) : CallR X (.builtin "isinstance") (rTyT X.K cA cF (fun x => isCsV T x ds) (ds.map fun d => V.ref (cA d))) := by
  intro pins s σ H us ws Q I rv q
  obtain ⟨r, h, x, v, tp, b, E, rfl, hT, p, e, q⟩ := q
  replace e : isCsV T x ds = some b := e
  cases x with
  | exc c xs =>
    obtain ⟨hc, k⟩ := kitAny_exc F e
    simp only [Rep] at p
    obtain ⟨a, rfl, ⟨_, h1⟩, h2⟩ := p
    have C := F.exc c (hc hne)
    cases rv with
    | cons rx rr =>
      cases rr with
      | cons rt rr =>
        cases rr
        cases rx
        rename_i u2
        cases (show u2 = Value.ref tp from rt)
        obtain ⟨_, its, rvs, o, g1, g2, n, g3⟩ := (show ObjOk X.prog X.w H s.heap tp (.tup (ds.map fun d => V.ref (cA d))) from I.hok tp _ hT)
        have e3 := ClsV.all (vals_cls ds) rvs
        subst e3
        obtain ⟨oc, od, dt, sl⟩ := o
        simp only at g2 g3
        subst g2 g3
        have x := I.hok a _ h1
        obtain ⟨⟨oe, vs, hget, hz, hv⟩, _, _⟩ := x
        have J : PySem.W.InstAt s.heap a oe (cA c) none := by
          obtain ⟨oc, od, oda, osl⟩ := oe
          obtain ⟨h1, h2⟩ := hz
          dsimp only at h1 h2 hv
          subst h1 h2 hv
          exact ⟨hget, rfl, rfl, trivial⟩
        exact PySem.W.kia_tup (PySem.W.handS_kitx_exc C.hg C.hk C.hs C.hd C.ha C.hn C.ht C.hm) I.kIn J g1 k (fun z => nomatch z) fun tk => ⟨.bl b, H, I.kept (t' := tk) fun _ _ z => z, rfl, q⟩
  | non =>
    simp only [Rep] at p
    subst p
    exact call_isiT pins s σ H _ ws Q I rv ⟨.non, tp, _, _, _, b, rfl, hT, vals_cls ds, .base .non, kitAny_non F e, q⟩
  | _ =>
    cases ds with
    | nil => exact absurd rfl hne
    | cons d ds => simp [isCsV] at e

/-! ### making an instance where __init__ is object's -/
theorem run_make0 {C : Addr} {pins : List (Addr × Obj)} {σ : L2.St} {H : Hp} {s : Shared} {Q : VK} (hm : PySem.W.makesIn X.K C = true) (hi : PySem.W.findIn X.K (.ref C) "__init__" = some (some (.builtin "object.__init__")))
    (I : L2.Inv X pins σ H s) (h : ∀ x dx, H x = none → H dx = none → dx ≠ x → Q (.ref x) (upd (upd H dx (.own x)) x (.ins C dx []))) : wpAny (model X.prog X.w) X.A (call (.ref C) []) (EP X pins σ Q) X.xe s := by
  have hq := h (s.heap.objs.size + 1) s.heap.objs.size (I.hok.fresh (Nat.le_succ _)) (I.hok.fresh (Nat.le_refl _)) (Nat.ne_of_lt (Nat.lt_succ_self _))
  have I2 := L2.Inv.made (C := C) I
  have Y := PySem.W.makes_of (M := model X.prog X.w) I.kIn hm
  obtain ⟨hh, g, d, t, os⟩ := s
  refine wpAny_call (make_map0 (s := ⟨hh, g, d, t, os⟩) I.kIn hm hi (fun self => PySem.W.Looks.of_pure (PySem.W.oi_bind self)) ?_)
  have ob : ((hh.push PySem.W.emptyDict).push (PySem.W.instObj C hh.objs.size)).get? (hh.objs.size + 1) = some (PySem.W.instObj C hh.objs.size) := by
    have := Heap.get?_push_size (hh.push PySem.W.emptyDict) (o := PySem.W.instObj C hh.objs.size) rfl
    rwa [Heap.size_push] at this
  have t1 : PySem.W.Looks (model X.prog X.w) ((hh.push PySem.W.emptyDict).push (PySem.W.instObj C hh.objs.size)) (typeOf (.ref (hh.objs.size + 1))) (.ref C) := (PySem.W.Looks.ld ob).andThen .now
  have t2 : PySem.W.Looks (model X.prog X.w) ((hh.push PySem.W.emptyDict).push (PySem.W.instObj C hh.objs.size)) (isInstance (.ref (hh.objs.size + 1)) (.type "object")) true := t1.andThen (Y.top.keeps fun b o e => Heap.get?_push_of_some _ (Heap.get?_push_of_some _ e))
  refine codeAny_call_builtin PySem.W.oi_plain PySem.W.entry_oi (@PySem.W.check_slot (model X.prog X.w) _ _ _ "object.__init__" "object" "__init__" (.ref (hh.objs.size + 1)) [] [] _ PySem.W.oi_kind PySem.W.oi_split t2 (PySem.W.oi_args (.ref (hh.objs.size + 1))) ?_)
  rw [PySem.W.oi_run]
  exact wpAny_pure (And.intro rfl ⟨V.ref (hh.objs.size + 1), _, I2, rfl, hq⟩)

/-! ### what holds of the program where the text runs -/
structure Fc (P : Program) (w : World) (K : PySem.W.Frag) (mg : Str → Option Value) (base : Heap) (cA : Nat → Addr) (cF : Nat → List Str) (T : Tab) (C : Nat → List MV → HP → R MV) (k : Nat) (c : Ck) : Prop where
  fn : ∀ (f : Nat) x, c.fa f = some (some x) → ∃ a fd ps, FnOk P w K mg base (L2.CX P w) k a fd ps (spR K cA cF C f) ∧ mg x = some (.ref a) ∧ PySem.W.keepIn K (.ref a) = true ∧ Binds K fd ps []
  free : ∀ x ∈ c.free, mg x = none
  gi : ∀ x i, (x, i) ∈ c.gI → ∃ t, mg x = some (.int i t)
  gs : ∀ x i, (x, i) ∈ c.gS → ∃ t, mg x = some (.str i t)
  cl : ∀ (d : Nat) x, c.cnm[d]? = some x → mg x = some (.ref (cA d)) ∧ PySem.W.keepIn K (.ref (cA d)) = true
  ex : ExF K cA T
  fl : cF = T.fld
  ob : ∀ d, T.obj d = true → Cls K (cA d) ∧ ∀ f ∈ T.fld d, NoAttr K (cA d) f
  mt : ∀ d m g, T.obj d = true → T.mth d m = some g → m ∉ T.fld d ∧ ∃ a fd ps, FnOk P w K mg base (L2.CX P w) k a fd ps (spR K cA cF C g) ∧ Meth K (cA d) m a ∧ Binds K fd ps []
  mtC : ∀ d m g, T.obj d = true → T.mth d m = some g → m ∉ T.fld d ∧ ∃ a fd ps, FnOk P w K mg base (L2.CX P w) k a fd ps (spR K cA cF C (g + 100000)) ∧ Meth K (cA d) m a ∧ Binds K fd ps []
  mkI : ∀ d g, T.obj d = true → T.ini d = some g → ∃ a fd ps, FnOk P w K mg base (L2.CX P w) k a fd ps (spR K cA cF C g) ∧ Mk K (cA d) a ∧ Binds K fd ps []
  m0 : ∀ d, T.n0 d = true → PySem.W.makesIn K (cA d) = true ∧ PySem.W.findIn K (.ref (cA d)) "__init__" = some (some (.builtin "object.__init__"))
structure Gd (X : Cx) (c : Ck) (k : Nat) : Prop where
  hN : X.N = c.N
  sc : X.env.scope = c.sc
  rm : Room (k + 1) X.A
  calm : X.calm = true
  nd : X.N.Nodup
  deep : Deep X

theorem vis_of {sc : Scope} {x : Str} (h : visB sc x = true) : Vis sc x := by
  unfold visB at h
  unfold Vis
  split at h
  · exact .inl (by assumption)
  · exact .inr (.inl (by assumption))
  · exact .inr (.inr (by assumption))
  · cases h
theorem gl_of {c : Ck} {k : Nat} (G : Gd X c k) {x : Str} (h : glB c.sc x = true) : Gl X x ∧ (x == ("__debug__" : Str)) = false := by
  unfold glB at h
  simp only [Bool.and_eq_true, decide_eq_true_eq, Bool.not_eq_true'] at h
  refine ⟨?_, h.2⟩
  show X.env.scope.names.lookup x = _
  rw [G.sc]; exact h.1
theorem star_cons {e : Expr} {es : List Expr} {env : Env} (h : noStar e = true) : starEach (e :: es) env = (false, eval e env) :: starEach es env := by
  cases e <;> first | rfl | cases h
theorem star_any {c : Ck} {env : Env} {pos : Pos} : ∀ {es : Es} {xs : List Expr}, ckEs c es xs = true → (backTo pos (starEach xs env)).any (·.1) = false
  | .nil, [], _ => rfl
  | .nil, _ :: _, h => by simp [ckEs] at h
  | .cons a es, [], h => by simp [ckEs] at h
  | .cons a es, x :: xs, h => by
    simp only [ckEs, Bool.and_eq_true] at h
    have ih := star_any (env := env) (pos := pos) h.2
    rw [star_cons h.1.1]
    show (false || (backTo pos (starEach xs env)).any (·.1)) = false
    rw [ih]; rfl
theorem pe_callS0 {CX : CXT} {k : Nat} {f : Addr} {fd : FuncData} {ps : List Str} {sp : Sp} {E : L2.St → XK} {x : Str} {p pos : Pos} (F : FnOk X.prog X.w X.K X.mg X.base CX k f fd ps sp) (hr : Room k X.A) (hg : Gl X x) (hm : X.mg x = some (.ref f)) (hk : PySem.W.keepIn X.K (.ref f) = true) (hb : Binds X.K fd ps []) (hx : ∀ σ, PassesAt CX X σ (E σ))
    (hdb : (x == ("__debug__" : Str)) = false) : PE X (.Call (.Name x p) [] [] pos) (tCallS sp E tNil) := by
  refine ⟨fun pins s σ H Q I h => ?_⟩
  refine wpAny_Call_Name_kw (ld_glob I hg hm ?_ hdb)
  exact PySem.W.callWith_K0 I.kIn hk (run_fnS (us := []) F hr hb (hx σ) I .nil h)
theorem pe_make0N {C : Addr} {x : Str} {p pos : Pos} (hm : PySem.W.makesIn X.K C = true) (hi : PySem.W.findIn X.K (.ref C) "__init__" = some (some (.builtin "object.__init__"))) (hk : PySem.W.keepIn X.K (.ref C) = true)
    (hg : Gl X x) (hmg : X.mg x = some (.ref C)) (hdb : (x == ("__debug__" : Str)) = false) :
    PE X (.Call (.Name x p) [] [] pos) (fun σ H Q => ∀ x dx, H x = none → H dx = none → dx ≠ x → Q (.ref x) (upd (upd H dx (.own x)) x (.ins C dx []))) := by
  refine ⟨fun pins s σ H Q I h => ?_⟩
  refine wpAny_Call_Name_kw (ld_glob I hg hmg ?_ hdb)
  exact PySem.W.callWith_K0 I.kIn hk (run_make0 hm hi I h)
/-- C(..) with its own __init__; what is let out, by the slots -/
def tMakeS (C : Addr) (sp : Sp) (E : L2.St → XK) (t : TA) : TE := fun σ H Q => t σ H fun vs H1 => ∀ x dx, H1 x = none → H1 dx = none → dx ≠ x →
  sp (.ref x :: vs) (upd (upd H1 dx (.own x)) x (.ins C dx [])) (fun v H2 => v = .non ∧ Q (.ref x) H2) (E σ)
section
variable {CX : CXT} {k : Nat} {f C : Addr} {fd : FuncData} {ps : List Str} {sp : Sp} {E : L2.St → XK} {x m : Str} {p pos apos : Pos} {e o : Expr} {es : List Expr} {ta : TE} {t : TA}
theorem run_makeS {pins : List (Addr × Obj)} {σ : L2.St} {H : Hp} {s : Shared} {Q : VK} {us : List Value} {vs : List V} (M : Mk X.K C f) (F : FnOk X.prog X.w X.K X.mg X.base CX k f fd ps sp) (hr : Room (k + 1) X.A) (hb : Binds X.K fd ps [])
    (hx : PassesAt CX X σ (E σ)) (I : L2.Inv X pins σ H s) (r : Vals vs us)
    (h : ∀ x dx, H x = none → H dx = none → dx ≠ x → sp (.ref x :: vs) (upd (upd H dx (.own x)) x (.ins C dx [])) (fun v H2 => v = .non ∧ Q (.ref x) H2) (E σ)) :
    wpAny (model X.prog X.w) X.A (call (.ref C) us) (EP X pins σ Q) X.xe s := by
  have hq := h (s.heap.objs.size + 1) s.heap.objs.size (I.hok.fresh (Nat.le_succ _)) (I.hok.fresh (Nat.le_refl _)) (Nat.ne_of_lt (Nat.lt_succ_self _))
  have I2 := L2.Inv.made (C := C) I
  have r2 : Vals (V.ref (s.heap.objs.size + 1) :: vs) (Value.ref (s.heap.objs.size + 1) :: us) := .cons rfl r
  have hl : (Value.ref (s.heap.objs.size + 1) :: us).length = ps.length := by
    rw [← r2.length]; exact F.len _ _ _ _ hq
  have b := hb { s with heap := (s.heap.push PySem.W.emptyDict).push (PySem.W.instObj C s.heap.objs.size) } (Value.ref (s.heap.objs.size + 1) :: us) I2.kIn (by rw [List.append_nil]; exact hl)
  rw [List.append_nil] at b
  refine wpAny_call (make_map (f := f) I.kIn M.makes M.init (beq_iff_eq.mp M.fn) (codeAny_mono (F.run _ X.stack _ _ ⟨Value.ref (s.heap.objs.size + 1) :: us, []⟩ (Value.ref (s.heap.objs.size + 1) :: us) _ _ (E σ) (hr.make C us [])
    (I2.env0.make C us []) b r2 hq) fun r s' hq' => ?_))
  cases r with
  | error e => exact hx pins _ _ e s' I2 hq'
  | ok fl =>
    cases fl with
    | ret u =>
      obtain ⟨v, H', I3, rv, ev, q3⟩ := I2.after hq'
      subst ev
      exact ⟨rv, ⟨V.ref (s.heap.objs.size + 1), H', I3, rfl, q3⟩⟩
    | next => exact False.elim hq'
    | brk => exact False.elim hq'
    | cont => exact False.elim hq'
theorem pe_makeS (M : Mk X.K C f) (F : FnOk X.prog X.w X.K X.mg X.base CX k f fd ps sp) (hr : Room (k + 1) X.A) (hg : Gl X x) (hm : X.mg x = some (.ref C)) (hb : Binds X.K fd ps []) (hx : ∀ σ, PassesAt CX X σ (E σ))
    (ha : PA X (e :: es) t) (hdb : (x == ("__debug__" : Str)) = false) (he : starEach (e :: es) X.env = (false, eval e X.env) :: starEach es X.env) (hpl : (backTo pos (starEach es X.env)).any (·.1) = false) :
    PE X (.Call (.Name x p) (e :: es) [] pos) (tMakeS C sp E t) := by
  refine ⟨fun pins s σ H Q I h => ?_⟩
  refine wpAny_Call_Name_kw (ld_glob I hg hm ?_ hdb)
  refine PySem.W.callWith_K (h₀ := X.base) I.ok.mod.kin M.kp (thn (ha.run pos pins s σ H _ I h) fun us s1 ⟨vs, H1, I1, r, q⟩ => ⟨I1.kIn, ?_⟩) he hpl
  exact run_makeS M F hr hb (hx σ) I1 r q
theorem pe_makeS0 (M : Mk X.K C f) (F : FnOk X.prog X.w X.K X.mg X.base CX k f fd ps sp) (hr : Room (k + 1) X.A) (hg : Gl X x) (hm : X.mg x = some (.ref C)) (hb : Binds X.K fd ps []) (hx : ∀ σ, PassesAt CX X σ (E σ))
    (hdb : (x == ("__debug__" : Str)) = false) : PE X (.Call (.Name x p) [] [] pos) (tMakeS C sp E tNil) := by
  refine ⟨fun pins s σ H Q I h => ?_⟩
  refine wpAny_Call_Name_kw (ld_glob I hg hm ?_ hdb)
  exact PySem.W.callWith_K0 I.kIn M.kp (run_makeS (us := []) M F hr hb (hx σ) I .nil h)
/-- a method's call, the class by what o is -/
structure MSel (X : Cx) (CX : CXT) (k : Nat) (m : Str) (E : L2.St → XK) (C : Addr) (sp : Sp) : Prop where
  cls : Cls X.K C
  fn : ∃ f fd ps, Meth X.K C m f ∧ FnOk X.prog X.w X.K X.mg X.base CX k f fd ps sp ∧ Binds X.K fd ps []
def tMethS2 (X : Cx) (CX : CXT) (k : Nat) (m : Str) (E : L2.St → XK) (ta : TE) (t : TA) : TE := fun σ H Q => ta σ H fun x H1 => ∃ a C dx fs sp, x = .ref a ∧ H1 a = some (.ins C dx fs) ∧ fs.lookup m = none ∧ MSel X CX k m E C sp ∧
  t σ H1 fun vs H2 => sp (x :: vs) H2 Q (E σ)
theorem pe_methS2 {pl : Sem Bool} (he : PE X o ta) (hr : Room k X.A) (hx : ∀ σ, PassesAt CX X σ (E σ)) (ha : PA X (e :: es) t)
    (hst : starEach (e :: es) X.env = (false, eval e X.env) :: starEach es X.env) (hpl : (backTo pos (starEach es X.env)).any (·.1) = false)
    (ht : eval (.Call (.Attribute o m apos) (e :: es) [] pos) X.env = (do
      let ov ← eval o X.env
      standAt apos.atName
      let (f, first) ← holding [ov] (getMethod ov m pl)
      callWith pos f first (backTo pos (starEach (e :: es) X.env)) (backToKw pos (keywordEach [] X.env)))) :
    PE X (.Call (.Attribute o m apos) (e :: es) [] pos) (tMethS2 X CX k m E ta t) := by
  refine ⟨fun pins s σ H Q I h => ?_⟩
  refine PySem.W.methodCall_KW (pl := pl) (thn (he.run pins s σ H _ I h) fun u s1 ⟨x, H1, I1, rx, a, C, dx, fs, sp, ex, ea, l, M, q⟩ => ?_) ht
  subst ex
  obtain rfl : u = Value.ref a := rx
  obtain ⟨f, fd, ps, hm, F, hb⟩ := M.fn
  refine getmeth_ok I1 ea M.cls hm l ?_
  refine PySem.W.callWith_K (first := [.ref a]) (h₀ := X.base) I.ok.mod.kin hm.kp (thn (ha.run pos pins s1 σ H1 _ I1 q) fun us s2 ⟨vs, H2, I2, r, q2⟩ => ⟨I2.kIn, ?_⟩) hst hpl
  exact run_fnS (us := .ref a :: us) (vs := .ref a :: vs) F hr hb (hx σ) I2 (.cons rfl r) q2
theorem pe_methS20 {pl : Sem Bool} (he : PE X o ta) (hr : Room k X.A) (hx : ∀ σ, PassesAt CX X σ (E σ))
    (ht : eval (.Call (.Attribute o m apos) [] [] pos) X.env = (do
      let ov ← eval o X.env
      standAt apos.atName
      let (f, first) ← holding [ov] (getMethod ov m pl)
      callWith pos f first (backTo pos (starEach [] X.env)) (backToKw pos (keywordEach [] X.env)))) :
    PE X (.Call (.Attribute o m apos) [] [] pos) (tMethS2 X CX k m E ta tNil) := by
  refine ⟨fun pins s σ H Q I h => ?_⟩
  refine PySem.W.methodCall_KW (pl := pl) (thn (he.run pins s σ H _ I h) fun u s1 ⟨x, H1, I1, rx, a, C, dx, fs, sp, ex, ea, l, M, q⟩ => ?_) ht
  subst ex
  obtain rfl : u = Value.ref a := rx
  obtain ⟨f, fd, ps, hm, F, hb⟩ := M.fn
  refine getmeth_ok I1 ea M.cls hm l ?_
  exact PySem.W.callWith_K0 (first := [.ref a]) I1.kIn hm.kp (run_fnS (us := [.ref a]) (vs := [.ref a]) F hr hb (hx σ) I1 (.cons rfl .nil) q)
end
theorem meth_eval {o : Expr} {m : Str} {args : List Expr} {pos apos : Pos} {env : Env} (hb : attributeBase o m env (eval o env) = eval o env)
    (hf : methodCallForm (args.length + ([] : List Keyword).length) (backTo pos (starEach args env)) (backToKw pos (keywordEach [] env)) = true) (hl : (apos.endLine == pos.line) = true) :
    eval (.Call (.Attribute o m apos) args [] pos) env = (do
      let ov ← eval o env
      standAt apos.atName
      let (f, first) ← holding [ov] (getMethod ov m (do return (← importBound o env).getD true))
      callWith pos f first (backTo pos (starEach args env)) (backToKw pos (keywordEach [] env))) := by
  have e : eval (.Call (.Attribute o m apos) args [] pos) env = (do
      let ov ← attributeBase o m env (eval o env)
      standAt apos.atName
      methodCall o m apos pos env ov (args.length + ([] : List Keyword).length) (backTo pos (starEach args env)) (backToKw pos (keywordEach [] env))) := rfl
  rw [e, hb]
  have k : ∀ ov, methodCall o m apos pos env ov (args.length + ([] : List Keyword).length) (backTo pos (starEach args env)) (backToKw pos (keywordEach [] env)) = (do
      let (f, first) ← holding [ov] (getMethod ov m (do return (← importBound o env).getD true))
      callWith pos f first (backTo pos (starEach args env)) (backToKw pos (keywordEach [] env))) := fun ov => by
    unfold methodCall
    rw [hf]
    unfold calleeOf methodCallPos
    rw [hl]
    rfl
  simp only [k]
theorem few_of {env : Env} {pos : Pos} {args : List Expr} (h : (backTo pos (starEach args env)).any (·.1) = false) (hl : args.length < 29) : methodCallForm (args.length + ([] : List Keyword).length) (backTo pos (starEach args env)) (backToKw pos (keywordEach [] env)) = true := by
  have a : (backTo pos (starEach args env)).all (!·.1) = true := by
    rw [List.all_eq_true]
    intro x hx
    have := List.any_eq_false.mp h x hx
    simpa using this
  unfold methodCallForm
  rw [a]
  have b : (backToKw pos (keywordEach [] env)).all (·.1.isSome) = true := rfl
  have c : (backToKw pos (keywordEach [] env)).isEmpty = true := rfl
  rw [b, c]
  simp only [Bool.true_and, if_true, decide_eq_true_eq]
  show args.length + 0 + 0 < 30
  omega
def tCs (cs : List V) : TA := fun _ H Q => Q cs H
end
end Rm

/-! Rm, part L: an exception out of a comprehension's element. -/
namespace Rm
open PySem L2 PySem.Spec PyProof.Rows
section
variable {X : Cx} {W : WX}
def noW : WX := fun _ _ _ _ => False
theorem takes_no : Takes X noW := fun u s' ⟨a, B, sI, pins, σ, H, cls, d, e, I, nb, up, sky, na, os, ag, w⟩ => w.elim
/-! ### exceptions in a comprehension -/
/-- an exception in the air, or held by our frame -/
def XF (X : Cx) (W : WX) (u : Value) (s' : Shared) : Prop :=
  ∃ (a : Addr) (B : Heap) (sI : Shared) (pins : List (Addr × Obj)) (σ : L2.St) (H : Hp) (cls : Value) (d : Option Addr),
    u = .ref a ∧ L2.Inv X pins σ H sI ∧ (∀ b o, sI.heap.get? b = some o → b ∉ frs X.stack → B.get? b = some o) ∧ sI.heap.UpToSlots s'.heap ∧
      (HandSPX.FlyingZ B X.stack a (Zc cls d) s'.heap ∨ ∃ L, X.env.frame = some L ∧ HandSPX.HeldZ B X.stack a (Zc cls d) L s'.heap) ∧ H a = none ∧ s'.os = sI.os ∧ AllBare s'.gens ∧ W cls d σ H
def TakesF (X : Cx) (W : WX) : Prop := ∀ u s', XF X W u s' → X.xe u s'
theorem takesF_of (hf : X.env.frame = some X.env.locals) (tk : Takes X W) : TakesF X W := fun u s' ⟨a, B, sI, pins, σ, H, cls, d, e, I, nb, up, sky, r⟩ =>
  tk u s' ⟨a, B, sI, pins, σ, H, cls, d, e, I, nb, up, sky.elim (fun z => .inr (.inl z)) (fun ⟨L, e, z⟩ => by rw [hf] at e; cases e; exact .inr (.inr z)), r⟩
theorem takesF_no : TakesF X noW := fun u s' ⟨a, B, sI, pins, σ, H, cls, d, e, I, nb, up, sky, na, os, ag, w⟩ => w.elim
theorem fly_only {B0 B1 : Heap} {l l' : List Env} {a L : Addr} {Z0 Z1 : Obj → Prop} {h : Heap} (fl : HandSPX.FlyingZ B0 l' a Z0 h) (sk : Sky B1 l a Z1 L h) : HandSPX.FlyingZ B1 l a Z1 h := by
  obtain ⟨_, _, _, oe, vs, T, oT, ts, he, hz, hd, h1, hnT, hTe, hT, hdT, h3⟩ := fl
  rcases sk with ⟨_, _, _, oe', vs', he', _, hd', h1'⟩ | z | ⟨_, _, _, oe', vs', T', oT', ts', he', _, hd', h1', _, _, hT', hdT', h3'⟩
  · rw [he] at he'; cases he'; rw [hd] at hd'; cases hd'; rw [h1] at h1'; cases h1'
  · exact z
  · rw [he] at he'; cases he'; rw [hd] at hd'; cases hd'; rw [h1] at h1'; cases h1'; rw [hT] at hT'; cases hT'; rw [hdT] at hdT'; cases hdT'; rw [h3] at h3'; simp [rawInt] at h3'
theorem passF (tk : TakesF X W) (σ : L2.St) : PassesAt (L2.CX X.prog X.w) X σ (WE W σ) := fun _ _ s e s' I c => by
  obtain ⟨a0, B0, c0, d0, e0, fl⟩ : ∃ a B cls d, e = .ref a ∧ HandSPX.FlyingZ B X.stack a (Zc cls d) s'.heap := let ⟨a, B, H', cls, d, e1, fl, _⟩ := c; ⟨a, B, cls, d, e1, fl⟩
  subst e0
  obtain ⟨a, B, sI, pins, σ', H, cls, d, e1, I1, nb, up, sky, r⟩ := XE.of_call (W := W) I (fun _ _ _ h => h) c
  cases e1
  exact tk _ _ ⟨a0, B, sI, pins, σ', H, cls, d, rfl, I1, nb, up, .inl (fly_only fl sky), r⟩
/-- the block's context, with what it lets out -/
abbrev blkX (X : Cx) (s : Shared) (H : Hp) (scope : Scope) (cenv : Env) (fp : List Addr) (xe : Value → Shared → Prop) : Cx := { X.blk s H scope cenv fp with xe := xe }
theorem Inv.toXe {pins : List (Addr × Obj)} {σ : L2.St} {H : Hp} {s : Shared} (xe : Value → Shared → Prop) (I : L2.Inv X pins σ H s) : L2.Inv { X with xe := xe } pins σ H s :=
  ⟨⟨I.ok.mod, I.ok.kind, I.ok.glob, I.ok.blt, I.ok.above, I.ok.inj, I.ok.has, I.ok.cab, I.ok.hd, I.ok.frames, I.ok.stk, I.ok.exf, I.ok.bs, I.ok.bsz, I.ok.noex, I.ok.exfs, I.ok.funs, I.ok.frf⟩, I.os, I.bare, I.base, I.loc, I.cell, I.free, I.freeC, I.pin, I.hok, I.len⟩
/-- what the block lets out is handed on -/
theorem blk_takes {pins : List (Addr × Obj)} {σ : L2.St} {H3 : Hp} {s3 : Shared} {scope : Scope} {ce : Env} {fp : List Addr} (tk : TakesF X W) (fr : ∃ env l L, X.stack = env :: l ∧ env.frame = some L ∧ X.env.frame = some L)
    (I3 : L2.Inv X pins σ H3 s3) (hfp : ∀ b ∈ fp, FpOk X pins H3 b) (cL : ce.locals = s3.heap.objs.size) (cf : ce.frame = X.env.frame) :
    TakesF (blkX X s3 H3 scope ce fp (notedBy (model X.prog X.w) X.A ce (CompFails (model X.prog X.w) X.A X.xe ce))) (fun cls d _ H' => W cls d σ H') := by
  intro u s' ⟨a, B, sI, pins', σ', H', cls, d, e, IB, nb, up, sky, na, os, ag, w⟩
  subst e
  obtain ⟨env0, l, L, hst, hf0, hf⟩ := fr
  have hst' : (blkX X s3 H3 scope ce fp (notedBy (model X.prog X.w) X.A ce (CompFails (model X.prog X.w) X.A X.xe ce))).stack = env0 :: l := hst
  have hfr : X.A.frames = some (env0 :: l) := by
    have z := I3.ok.frames
    rw [hst] at z; exact z
  show wpAny (model X.prog X.w) X.A (noteFrame (.ref a) ce) (fun _ s'' => CompFails (model X.prog X.w) X.A X.xe ce (.ref a) s'') (CompFails (model X.prog X.w) X.A X.xe ce) s'
  rw [noteFrame_env _ (cf.trans (hf.trans hf0.symm))]
  have nC : H' ce.locals = none := IB.free
  have fC : FpOk X pins H' ce.locals := I3.fpOk (Nat.le_of_eq cL.symm) nC
  have I7 : L2.Inv X pins σ H' sI := I3.call' (ch := fp) IB.os IB.base IB.hok IB.bare fun b hb => ⟨(hfp b hb).2.2.2.1, (hfp b hb).2.1, (hfp b hb).2.2.2.2.1, (hfp b hb).2.2.2.2.2⟩
  have I8 : L2.Inv X pins σ H' { sI with heap := PySem.W.hideAll sI.heap [ce.locals] } :=
    I7.turned (t' := sI.toks) (it := ce.locals) (fun b o hb e => PySem.W.hideAll_get _ e (by simpa using hb)) fC.1 fC.2.1 fC.2.2.2.1 fC.2.2.2.2.1 fC.2.2.2.2.2
  have hid : ∀ (G : Heap) b o, (PySem.W.hideAll G [ce.locals]).get? b = some o → b ≠ ce.locals := fun G b o e z => by
    rw [PySem.W.hideAll_none (h := G) [ce.locals] (by rw [z]; exact List.mem_cons_self)] at e
    cases e
  have fin : ∀ h1, HandSPX.HeldZ B (env0 :: l) a (Zc cls d) L h1 → s'.heap.UpToSlots h1 → CompFails (model X.prog X.w) X.A X.xe ce (.ref a) { s' with heap := h1 } := by
    rintro h1 ⟨b1, b0, f1, oe, vs, T, oT, ts, he, hz, hd, h1', hnT, hTe, hT, hdT, h3⟩ up1
    obtain ⟨m, hn, _⟩ := IB.loc
    have hn1 : h1.Ns ce.locals m := Heap.Ns.upToSlots hn (up.trans up1)
    refine ⟨m, hn1, fun h2 m2 hn2 hs2 => ?_⟩
    have ne : ∀ b o vs, h1.get? b = some o → o.data = .fields vs → b ≠ ce.locals := by
      rintro b o vs e q rfl
      obtain ⟨oL, es, ep, hoL, hdL, _⟩ := hn1
      rw [hoL] at e; cases e; rw [hdL] at q; cases q
    have he2 := (hs2.2 a (ne _ _ _ he hd)).trans he
    have hT2 := (hs2.2 T (ne _ _ _ hT hdT)).trans hT
    have no' : ∀ b, B.get? b = none → (PySem.W.hideAll B [ce.locals]).get? b = none := fun b q => by
      cases z : (PySem.W.hideAll B [ce.locals]).get? b with
      | none => rfl
      | some o => rw [PySem.W.of_hideAll _ z] at q; cases q
    have st2 : (PySem.W.hideAll B [ce.locals]).StaysIn h2 := fun b o e => (hs2.2 b (hid _ b o e)).trans (b1 b o (PySem.W.of_hideAll _ e))
    have f2 : h2.FunFrames B (env0 :: l) := Heap.FunFrames.sameBut hs2 hn2 f1
    have f3 : h2.FunFrames (PySem.W.hideAll B [ce.locals]) (env0 :: l) := funFrames_none f2 fun b hb => no' b (f2.mem hb).1
    unfold PySem.passOn
    refine wpAny_bind (wpAny_field he2 hd h1' ?_)
    rw [if_neg (show ¬ ((Value.ref T == Value.none) = true) from by simp)]
    have fin2 : wpAny (model X.prog X.w) X.A (setFlight (.ref a) ce.frame) (fun _ s4 => wpAny (model X.prog X.w) X.A (throw (.ref a) : Sem Value) (fun _ _ => False) X.xe s4) X.xe { s' with heap := h2 } := by
      rw [cf, hf]
      refine HandSPX.setFlight_anyZ (base := PySem.W.hideAll B [ce.locals]) (l := env0 :: l) (Z := Zc cls d) (fl := rawInt L) st2 f3 ⟨oe, vs, T, oT, ts, he2, hz, hd, h1', no' T hnT, hTe, hT2, hdT, h3⟩ fun h4 k1 k2 k3 k4 => wpAny_throw (tk _ _ ?_)
      refine ⟨a, PySem.W.hideAll B [ce.locals], { sI with heap := PySem.W.hideAll sI.heap [ce.locals] }, pins, σ, H', cls, d, rfl, I8, fun b o e hb => ?_, fun b o e hnf => ?_, .inr ⟨L, hf, ?_⟩, na, os, ag, w⟩
      · exact PySem.W.hideAll_get _ (nb b o (PySem.W.of_hideAll _ e) hb) (by simpa using hid _ b o e)
      · obtain ⟨sl, e1⟩ := (up.trans up1) b o (PySem.W.of_hideAll _ e) hnf
        exact (fun b o e hnf => k4 b o e hnf : h2.UpToSlots h4) b _ ((hs2.2 b (hid _ b o e)).trans e1) hnf |>.imp fun sl' q => q
      · rw [hst]
        exact ⟨k1, no' a b0, k2, k3⟩
    first
      | exact wpAny_bind (wpAny_pure (wpAny_bind fin2))
      | exact wpAny_bind fin2
  rcases sky with fl | ⟨L', e', hh⟩
  · rw [hst'] at fl
    exact HandSPX.looks_onZ Zc.steady hfr hf0 fl fun h1 hh up' => fin h1 hh up'
  · have e' : ce.frame = some L' := e'
    rw [cf, hf] at e'
    cases e'
    rw [hst'] at hh
    exact HandSPX.againZ hf0 hh.2.2.2 (fin s'.heap hh (Heap.UpToSlots.refl _))
theorem lcx_core {pins : List (Addr × Obj)} {s : Shared} {σ : L2.St} {H : Hp} {Q : VK} {elt tg iter : Expr} {ifs : List Expr} {scope : Scope} {own : List (Str × Nat)} {pos pos' : Pos} {wi : TI} {g : TG} {tt : TT} {te : TE} {use : Option (Value → Sem Unit)} {Qf : Value → Shared → Prop}
    (hc : X.calm = true) (hN : X.N.Nodup) (tk : TakesF X W) (fr : ∃ env l L, X.stack = env :: l ∧ env.frame = some L ∧ X.env.frame = some L) (I : L2.Inv X pins σ H s) (hi : PI X tg iter wi) (ok : BlkOk X.N X.env.scope scope own)
    (hg : ∀ (s : Shared) (H : Hp) (C : Addr) (cl : List (Str × Addr)) (fp : List Addr) (xe : Value → Shared → Prop), PG (blkX X s H scope (compEnvC scope cl C X.env) fp xe) tg g) (ht : ∀ (s : Shared) (H : Hp) (C : Addr) (cl : List (Str × Addr)) (fp : List Addr) (xe : Value → Shared → Prop), PTs (blkX X s H scope (compEnvC scope cl C X.env) fp xe) ifs tt)
    (he : ∀ (s : Shared) (H : Hp) (C : Addr) (cl : List (Str × Addr)) (fp : List Addr) (xe : Value → Shared → Prop), TakesF (blkX X s H scope (compEnvC scope cl C X.env) fp xe) (fun cls d _ H' => W cls d σ H') → PE (blkX X s H scope (compEnvC scope cl C X.env) fp xe) elt te) (hs : ∀ x, foldedSetIterable iter X.env x = pure x)
    (h : tLc wi g tt te (own.map (·.2)) σ H Q)
    (hRR : ∀ D (ce : Env) s' m H', L2.Inv X pins σ H' s' → Q (.ref D) H' → s'.heap.Ns ce.locals m → FpOk X pins H' ce.locals → compEnds (model X.prog X.w) X.A X.xe use Qf (.ref D) ce (.ok .next) s') :
    wpAny (model X.prog X.w) X.A (comprehension (.ListComp elt [⟨tg, iter, ifs, 0⟩] scope pos) scope X.env pos' (newList []) false (eval iter X.env) use) Qf X.xe s := by
  have hfree : ∀ y ∈ scope.names, y.2 = .free → ∃ c, X.env.cells.lookup y.1 = some c := fun y hy e => by
    rcases ok.free y hy e with k | k
    · exact I.ok.has _ (.inl k)
    · exact I.ok.has _ (.inr k)
  refine comprehension_at (use := use) rfl hs (closure_ok hfree) ok.kind (fun y hy e => by rw [ok.uniq y hy, e])
    (thn (hi.run pins s σ H _ I h) fun xv s1 hx => thn hx fun itv s2 h2 => ?_)
  obtain ⟨it, fp, tn, J, H2, e, I2, Tk, st2, f2, q⟩ := h2
  subst e
  refine wpAny_newObj_type (newEnv_comp ?_) (by show 0 ≤ sizeLine; decide)
  generalize hD : s2.heap.objs.size = D
  have hDn : H2 D = none := I2.hok.fresh (Nat.le_of_eq hD)
  obtain ⟨Wi, ⟨m0, w0⟩, turn⟩ := q D hDn
  generalize hs3 : ({ s2 with heap := s2.heap.push { cls := .type "list", data := .seq ([] : List Value).toArray } } : Shared) = s3
  have I3 : L2.Inv X pins σ (upd H2 D (.lst [])) s3 := by
    rw [← hs3]
    refine I2.laid (t' := s2.toks) (fun b o e => Heap.get?_push_of_some _ e) (Nat.le_of_eq hD) ⟨Nat.zero_le _, [], 0, .nil, ?_⟩
    rw [← hD]
    exact Heap.get?_push_size _ rfl
  have h3 : s3.heap = s2.heap.push { cls := .type "list", data := .seq ([] : List Value).toArray } := by rw [← hs3]
  have sz : ∀ b ∈ fp, b < s2.heap.objs.size := fun b hb => by
    obtain ⟨o, e, _⟩ := Tk.obj _ _ st2 b hb
    exact Heap.lt_size e
  have f3 : ∀ b ∈ fp, FpOk X pins (upd H2 D (.lst [])) b ∧ b < s3.heap.objs.size := fun b hb => by
    have hlt := sz b hb
    refine ⟨⟨?_, (f2 b hb).2⟩, by rw [h3, Heap.size_push]; exact Nat.lt_succ_of_lt hlt⟩
    rw [upd_ne (by rw [← hD]; exact Nat.ne_of_lt hlt)]
    exact (f2 b hb).1
  have st3 : tn 0 s3.heap := Tk.keep _ _ _ st2 fun b _ o e => by rw [h3]; exact Heap.get?_push_of_some _ e
  have I4 := block_start I3 ok hN f3
  show codeAny _ _ (.compStart (.ListComp elt [⟨tg, iter, ifs, 0⟩] scope pos) 0 (.ref it) (.ref D) (compEnvC scope (cellsFrom (s3.heap.objs.size + 1) scope.names (cloFrom X.env.cells scope.names [])) s3.heap.objs.size X.env)) (compEnds (model X.prog X.w) X.A X.xe use Qf (.ref D) (compEnvC scope (cellsFrom (s3.heap.objs.size + 1) scope.names (cloFrom X.env.cells scope.names [])) s3.heap.objs.size X.env)) { s3 with heap := pushCells (s3.heap.push { cls := .type "dict", data := .dict #[] }) scope.names }
  have nfp : ∀ b ∈ fp, (upd H2 D (.lst [])) b = none := fun b hb => (f3 b hb).1.1
  have pg := hg s3 (upd H2 D (.lst [])) s3.heap.objs.size (cellsFrom (s3.heap.objs.size + 1) scope.names (cloFrom X.env.cells scope.names [])) fp
  have pt := ht s3 (upd H2 D (.lst [])) s3.heap.objs.size (cellsFrom (s3.heap.objs.size + 1) scope.names (cloFrom X.env.cells scope.names [])) fp
  have pe := he s3 (upd H2 D (.lst [])) s3.heap.objs.size (cellsFrom (s3.heap.objs.size + 1) scope.names (cloFrom X.env.cells scope.names [])) fp
  have cf : (compEnvC scope (cellsFrom (s3.heap.objs.size + 1) scope.names (cloFrom X.env.cells scope.names [])) s3.heap.objs.size X.env).frame = X.env.frame := rfl
  generalize hce : compEnvC scope (cellsFrom (s3.heap.objs.size + 1) scope.names (cloFrom X.env.cells scope.names [])) s3.heap.objs.size X.env = ce at I4 pg pt pe cf ⊢
  have cL : ce.locals = s3.heap.objs.size := by subst hce; rfl
  have xeq : (fun e s' => compEnds (model X.prog X.w) X.A X.xe use Qf (.ref D) ce (.error e) s') = CompFails (model X.prog X.w) X.A X.xe ce := by
    cases use <;> rfl
  have tkB := blk_takes (scope := scope) tk fr I3 (fun b hb => (f3 b hb).1) cL cf
  have pg := pg (notedBy (model X.prog X.w) X.A ce (CompFails (model X.prog X.w) X.A X.xe ce))
  have pt := pt (notedBy (model X.prog X.w) X.A ce (CompFails (model X.prog X.w) X.A X.xe ce))
  have pe := pe _ tkB
  generalize hH3 : upd H2 D (.lst []) = H3 at I3 I4 pg pt pe w0 nfp f3
  generalize hs4 : ({ s3 with heap := pushCells (s3.heap.push { cls := .type "dict", data := .dict #[] }) scope.names } : Shared) = s4 at I4 ⊢
  have st4 : tn 0 s4.heap := Tk.keep _ _ _ st3 fun b _ o e => by rw [← hs4]; exact pushCells_keeps _ _ _ _ (Heap.get?_push_of_some _ e)
  have I4 : L2.Inv (blkX X s3 H3 scope ce fp (notedBy (model X.prog X.w) X.A ce (CompFails (model X.prog X.w) X.A X.xe ce))) [] (wipe σ (own.map (·.2))) H3 s4 := Inv.toXe (notedBy (model X.prog X.w) X.A ce (CompFails (model X.prog X.w) X.A X.xe ce)) I4
  have stat : ∀ {σ' : L2.St} {H' : Hp} {s' : Shared}, L2.Inv (blkX X s3 H3 scope ce fp (notedBy (model X.prog X.w) X.A ce (CompFails (model X.prog X.w) X.A X.xe ce))) [] σ' H' s' → (∀ b ∈ fp, H' b = none) → ∀ b ∈ fp, FpOk (blkX X s3 H3 scope ce fp (notedBy (model X.prog X.w) X.A ce (CompFails (model X.prog X.w) X.A X.xe ce))) [] H' b := by
    exact fun {σ' H' s'} I' hn b hb =>
      ⟨hn b hb, (I'.ok.exf b hb).1, I'.ok.exfs b hb, .inl hb, fun x c e => (I'.ok.exf b hb).2 x c e, fun p hp => absurd (show p ∈ ([] : List (Addr × Obj)) ++ [] from hp) (by simp)⟩
  have loop : codeAny (model X.prog X.w) X.A (.compLoop (.ListComp elt [⟨tg, iter, ifs, 0⟩] scope pos) 0 (.ref it) (.ref D) ce) (compEnds (model X.prog X.w) X.A X.xe use Qf (.ref D) ce) s4 := by
    refine compLoop_any (fun n s' => ∃ i H', L2.Inv (blkX X s3 H3 scope ce fp (notedBy (model X.prog X.w) X.A ce (CompFails (model X.prog X.w) X.A X.xe ce))) [] (wipe σ (own.map (·.2))) H' s' ∧ tn i s'.heap ∧ (∀ b ∈ fp, H' b = none) ∧ Wi i n H') ?_ m0 ⟨0, H3, I4, st4, nfp, w0⟩
    rw [xeq]
    rintro n s5 ⟨i, H5, I5, st5, n5, w5⟩
    rcases turn i n H5 w5 with ⟨stop, qq⟩ | ⟨go, Nx, hNx, step⟩
    · have td := Tk.done (blkX X s3 H3 scope ce fp (notedBy (model X.prog X.w) X.A ce (CompFails (model X.prog X.w) X.A X.xe ce))) rfl rfl rfl hc i [] s5 _ H5 (fun _ _ => False) I5 (stat I5 n5) st5 stop
      refine thnF td fun r s6 ⟨hr, I6⟩ => ?_
      subst hr
      have I7 : L2.Inv X pins σ H5 s6 := I3.call' (ch := fp) I6.os I6.base I6.hok I6.bare fun b hb => ⟨(f3 b hb).1.2.2.2.1, (f3 b hb).1.2.1, (f3 b hb).1.2.2.2.2.1, (f3 b hb).1.2.2.2.2.2⟩
      have nC : H5 ce.locals = none := I6.free
      obtain ⟨m, hn, _⟩ := I6.loc
      exact hRR D ce s6 m H5 I7 qq hn (I3.fpOk (Nat.le_of_eq cL.symm) nC)
    · have ti := Tk.item (blkX X s3 H3 scope ce fp (notedBy (model X.prog X.w) X.A ce (CompFails (model X.prog X.w) X.A X.xe ce))) rfl rfl rfl hc i [] s5 _ H5 (fun _ _ => False) I5 (stat I5 n5) st5 go
      refine thnF ti fun r s6 ⟨u, hr, h6⟩ => ?_
      subst hr
      refine thnF h6 fun _ s7 ⟨x, H7, I7, r7, y7, st7, n7⟩ => ?_
      have I7' := I7.pinned (stat I7 n7) (Tk.obj _ _ st7)
      refine thn (pg.run _ s7 _ H7 x u _ I7' r7 (step x H7 y7)) fun _ s8 ⟨σ8, H8, I8, hw8, q8⟩ => ?_
      refine thn (pt.run _ s8 σ8 H8 _ I8 q8) fun b s9 ⟨H9, I9, q9⟩ => ?_
      have fin : ∀ {s' : Shared} {H' : Hp}, L2.Inv (blkX X s3 H3 scope ce fp (notedBy (model X.prog X.w) X.A ce (CompFails (model X.prog X.w) X.A X.xe ce))) ([] ++ pinsAt fp s7.heap) σ8 H' s' → Nx H' → ∃ m, m < n ∧ ∃ i H', L2.Inv (blkX X s3 H3 scope ce fp (notedBy (model X.prog X.w) X.A ce (CompFails (model X.prog X.w) X.A X.xe ce))) [] (wipe σ (own.map (·.2))) H' s' ∧ tn i s'.heap ∧ (∀ b ∈ fp, H' b = none) ∧ Wi i m H' := fun {s' H'} I' nx => by
        obtain ⟨m', hm, w'⟩ := hNx H' nx
        have pin' : ∀ b ∈ fp, ∀ o, s7.heap.get? b = some o → s'.heap.get? b = some o ∧ H' b = none := fun b hb o e =>
          let z := I'.pin (b, o) (List.mem_append_right _ (List.mem_append_right _ (mem_pinsAt hb e)))
          ⟨z.1, z.2.1⟩
        have hl : (wipe σ (own.map (·.2))).length = σ8.length := by rw [← hw8, wipe_length]
        refine ⟨m', hm, i + 1, H', (I'.unpinned (pins := [])).weak hl (fun j v e => ?_), Tk.keep _ _ _ st7 fun b hb o e => (pin' b hb o e).1, fun b hb => ?_, w'⟩
        · rw [← hw8] at e
          exact (wipe_some e).1
        · obtain ⟨o, e, _⟩ := Tk.obj _ _ st7 b hb
          exact (pin' b hb o e).2
      cases b with
      | false =>
        simp only [Bool.false_eq_true, if_false] at q9 ⊢
        exact fin I9 q9
      | true =>
        simp only [if_true] at q9 ⊢
        refine thn (pe.run _ s9 σ8 H9 _ I9 q9) fun z s10 ⟨yv, H10, I10, r10, acc, hD10, hz10, nx⟩ => ?_
        exact app_ok (X := blkX X s3 H3 scope ce fp (notedBy (model X.prog X.w) X.A ce (CompFails (model X.prog X.w) X.A X.xe ce))) I10 hD10 hz10 r10 fun s11 I11 => fin I11 nx
  exact codeAny_compStart_list loop (Tk.self X.A 0 _ _ _ st4 loop)
/-- as a value -/
theorem pe_lcx {elt tg iter : Expr} {ifs : List Expr} {scope : Scope} {own : List (Str × Nat)} {pos : Pos} {wi : TI} {g : TG} {tt : TT} {te : WX → TE} (hc : X.calm = true) (hN : X.N.Nodup) (tk : TakesF X W) (fr : ∃ env l L, X.stack = env :: l ∧ env.frame = some L ∧ X.env.frame = some L) (hi : PI X tg iter wi) (ok : BlkOk X.N X.env.scope scope own)
    (hg : ∀ (s : Shared) (H : Hp) (C : Addr) (cl : List (Str × Addr)) (fp : List Addr) (xe : Value → Shared → Prop), PG (blkX X s H scope (compEnvC scope cl C X.env) fp xe) tg g) (ht : ∀ (s : Shared) (H : Hp) (C : Addr) (cl : List (Str × Addr)) (fp : List Addr) (xe : Value → Shared → Prop), PTs (blkX X s H scope (compEnvC scope cl C X.env) fp xe) ifs tt)
    (he : ∀ (W' : WX) (s : Shared) (H : Hp) (C : Addr) (cl : List (Str × Addr)) (fp : List Addr) (xe : Value → Shared → Prop), TakesF (blkX X s H scope (compEnvC scope cl C X.env) fp xe) W' → PE (blkX X s H scope (compEnvC scope cl C X.env) fp xe) elt (te W')) (hs : ∀ x, foldedSetIterable iter X.env x = pure x := by intro _; rfl) :
    PE X (.ListComp elt [⟨tg, iter, ifs, 0⟩] scope pos) (fun σ H Q => tLc wi g tt (te fun cls d _ H' => W cls d σ H') (own.map (·.2)) σ H Q) := by
  refine ⟨fun pins s σ H Q I h => ?_⟩
  rw [eval_ListComp]
  refine lcx_core hc hN tk fr I hi ok hg ht (he _) hs h fun D ce s' m H' I' q hn f => ⟨m, hn, fun h'' sb => ?_⟩
  obtain ⟨f0, f1, f2, f3, f4, f5⟩ := f
  exact ⟨.ref D, H', I'.turned (t' := s'.toks) (fun b o hb e => (sb.2 b hb).trans e) f0 f1 f3 f4 f5, rfl, q⟩
/-- name = [..] on one line, the name a local -/
theorem ps_setLcx {i : Nat} {y : Str} {py : Pos} {elt tg iter : Expr} {ifs : List Expr} {scope : Scope} {own : List (Str × Nat)} {pos spos : Pos} {wi : TI} {g : TG} {tt : TT} {te : WX → TE} (hc : X.calm = true) (hN : X.N.Nodup) (tk : TakesF X W) (fr : ∃ env l L, X.stack = env :: l ∧ env.frame = some L ∧ X.env.frame = some L) (hy : X.N[i]? = some y) (hyl : X.env.scope.names.lookup y = some .local)
    (hsw : swapsWith (.ListComp elt [⟨tg, iter, ifs, 0⟩] scope pos) (some (.Name y py)) spos.line X.env = pure true) (hi : PI X tg iter wi) (ok : BlkOk X.N X.env.scope scope own)
    (hg : ∀ (s : Shared) (H : Hp) (C : Addr) (cl : List (Str × Addr)) (fp : List Addr) (xe : Value → Shared → Prop), PG (blkX X s H scope (compEnvC scope cl C X.env) fp xe) tg g) (ht : ∀ (s : Shared) (H : Hp) (C : Addr) (cl : List (Str × Addr)) (fp : List Addr) (xe : Value → Shared → Prop), PTs (blkX X s H scope (compEnvC scope cl C X.env) fp xe) ifs tt)
    (he : ∀ (W' : WX) (s : Shared) (H : Hp) (C : Addr) (cl : List (Str × Addr)) (fp : List Addr) (xe : Value → Shared → Prop), TakesF (blkX X s H scope (compEnvC scope cl C X.env) fp xe) W' → PE (blkX X s H scope (compEnvC scope cl C X.env) fp xe) elt (te W')) (hs : ∀ x, foldedSetIterable iter X.env x = pure x := by intro _; rfl) :
    PS X (.Assign [.Name y py] (.ListComp elt [⟨tg, iter, ifs, 0⟩] scope pos) spos) (tAsg (fun σ H Q => tLc wi g tt (te fun cls d _ H' => W cls d σ H') (own.map (·.2)) σ H Q) (gName i)) := by
  refine ⟨fun pins s σ H D I h => ?_⟩
  rw [exec_Assign_Name_used _ _ _ _ hsw]
  refine wpAny_bind (wpAny_standAt (wpAny_bind ?_))
  show wpAny _ X.A (do let _ ← comprehension (.ListComp elt [⟨tg, iter, ifs, 0⟩] scope pos) scope X.env (firstIterPos [⟨tg, iter, ifs, 0⟩] pos) (newList []) false (eval iter X.env) (some (assign (.Name y py) X.env))) _ _ s
  have h : tLc wi g tt (te fun cls d _ H' => W cls d σ H') (own.map (·.2)) σ H (fun x H1 => gName i x σ H1 D.nx) := h
  refine wpAny_bind (thn (lcx_core (Qf := fun _ s' => SP X pins D .next s') hc hN tk fr I hi ok hg ht (he _) hs h fun L ce s' m H' I' q hn f => ?_) fun _ s' hq => wpAny_pure (wpAny_pure hq))
  show wpAny _ _ (assign (.Name y py) X.env (.ref L)) _ _ _
  refine wpAny_assign_Name (store_ok2 (v := V.ref L) I' hN hy (.inl hyl) rfl (fun s2 I2 ⟨a, sb, ha⟩ => ?_) (.inr hyl))
  obtain ⟨f0, f1, f2, f3, f4, f5⟩ := f
  have haC : ce.locals ≠ a := by
    rcases ha with z | z
    · rw [z]; exact f1
    · exact fun e => f4 y a z e.symm
  refine ⟨m, hn.sameBut sb haC, fun h3 sb3 => ?_⟩
  exact ⟨_, H', I2.turned (t' := s2.toks) (fun b o hb e => (sb3.2 b hb).trans e) f0 f1 f3 f4 f5, q⟩
end
end Rm
/-! list(reversed(a list)) -/
namespace RT
open PySem PySem.Spec PyProof.Rows L2
section
variable {prog : Program} {w : World} {A : Around} {E : Value → Shared → Prop} {s : Shared}
theorem init_list_rev {it l S : Addr} {items : Array Value} {R : Result → Shared → Prop} (hh : A.handled = none) (hit : s.heap.IsRevIter it l ((items.size : Int) - 1)) (hl : s.heap.IsList l items) (hne : l ≠ it) (hn : items.size ≤ sizeLine) (hSi : S ≠ it) (hSl : S ≠ l)
    (hS : s.heap.get? S = some { cls := .type "list", data := .seq #[] })
    (hR : ∀ h' tk acc' c', (∀ b o, b ≠ S → b ≠ it → s.heap.get? b = some o → h'.get? b = some o) → h'.get? S = some { cls := .type "list", dict := none, data := .seq acc' c', slots := #[] } → ItemsOf (fun i v => items[items.size - 1 - i]? = some v) acc' items.size → R (.ok (.ret .none)) { s with heap := h', toks := tk }) :
    wpAny (model prog w) A.in1 (Builtin.«list.__init__» ⟨[.ref S, .ref it], []⟩)
      (fun fin s' => match fin with | .done f => R (.ok f) s' | .again c' => c'.quiet = true ∧ codeAny (model prog w) A c' R s') (fun e s' => R (.error e) s') s := by
  show wpAny _ _ (do let old ← Builtin.List.listItems (.ref S); Builtin.List.listUpdate (.ref S) (fun _ => #[]); letGo old.toList.reverse; Builtin.List.listExtendWith (.ref S) (.ref it) .none) _ _ s
  refine wpAny_bind ?_
  unfold Builtin.List.listItems
  refine wpAny_bind (wpAny_seqItems hS rfl (wpAny_pure ?_))
  show wpAny _ _ (updateSeq S (fun _ => #[]) >>= fun _ => letGo (#[] : Array Value).toList.reverse >>= fun _ => Builtin.List.listExtendWith (.ref S) (.ref it) .none) _ _ s
  refine wpAny_bind (wpAny_updateSeq hS rfl ?_)
  have hS₂ := Heap.get?_update_self (Obj.mapSeq (fun _ => (#[] : Array Value))) hS rfl
  have oth : ∀ b o, b ≠ S → s.heap.get? b = some o → (s.heap.update S (Obj.mapSeq (fun _ => (#[] : Array Value)))).get? b = some o :=
    fun b o hb e => (Heap.get?_update_other _ _ (Ne.symm hb)).trans e
  refine wpAny_bind (wpAny_letGo ?_)
  have W := (Walks.listRev (prog := prog) (w := w) (A := A.in1) hh it l hne items).toS
  have hSf : S ∉ [it, l] := by simp only [List.mem_cons, List.not_mem_nil, or_false, not_or]; exact ⟨hSi, hSl⟩
  have hit1 : (s.heap.update S (Obj.mapSeq (fun _ => (#[] : Array Value)))).IsRevIter it l ((items.size : Int) - 1) := hit.at fun o e => oth _ _ (Ne.symm hSi) e
  have hl1 : (s.heap.update S (Obj.mapSeq (fun _ => (#[] : Array Value)))).IsList l items := by
    obtain ⟨o, ho, r⟩ := hl
    exact ⟨o, oth _ _ (Ne.symm hSl) ho, r⟩
  have hT : ({ s with heap := s.heap.update S (Obj.mapSeq (fun _ => (#[] : Array Value))) } : Shared).TypeIs (.ref it) "list_reverseiterator" := Heap.IsRevIter.typeIs (s := { s with heap := s.heap.update S (Obj.mapSeq (fun _ => (#[] : Array Value))) }) hit1
  have h1 : Builtin.List.listSameRef (.ref S) (.ref it) = false := by simp [Builtin.List.listSameRef, hSi]
  unfold Builtin.List.listExtendWith
  refine wpAny_bind (wpAny_typeOf hT ?_)
  rw [if_neg (by rw [h1]; decide)]
  refine wpAny_bind (wpAny_pyIter_revIter (s := { s with heap := s.heap.update S (Obj.mapSeq (fun _ => (#[] : Array Value))) }) hit1 ?_)
  refine wpAny_bind (wpAny_holding ?_)
  unfold Builtin.List.listLengthHint
  refine wpAny_bind (wpAny_specialOf hT nolen_lri ?_)
  show wpAny _ A.in1 (specialOf (Value.ref it) (Str.ofString "__length_hint__") >>= _) _ _ _
  refine wpAny_bind (wpAny_specialOf hT hint_lri ?_)
  generalize hid : ("list_reverseiterator.__length_hint__" : String) = id0
  wp_delta
  rw [show splitId id0 = some ("list_reverseiterator", "__length_hint__") from by subst hid; decide +kernel]
  subst hid
  refine wpAny_bind (wpAny_isInstance (b := true) hT (by rw [isSubtype_type]; kernel_rfl) ?_)
  refine wpAny_pure ?_
  rw [if_neg (by decide)]
  have e0 : ((items.size : Nat) : Int) - 1 - ((0 : Nat) : Int) = (items.size : Int) - 1 := by omega
  refine wpAny_pure ⟨plainId_quiet F.plain_extend_loop _, codeAny_extend_loopS W hn _ hSf _ items.size 0 _ _ _ rfl (Nat.zero_le _) ⟨Nat.zero_le _, by rw [e0]; exact hit1, hl1⟩ hS₂ (ItemsOf.nil _) fun s' acc' c' hm hS' hacc => ?_⟩
  rw [Moved.eq_with hm]
  refine hR s'.heap s'.toks acc' c' (fun b o hb hbi e => hm.heap b o (fun hmem => ?_) (oth b o hb e)) hS' hacc
  rcases List.mem_cons.mp hmem with e' | hmem
  · exact hb e'
  · exact hbi (List.mem_singleton.mp hmem)
theorem call_list_revit {it l : Addr} {items : Array Value} {Q : Value → Shared → Prop} (hh : A.handled = none) (hit : s.heap.IsRevIter it l ((items.size : Int) - 1)) (hl : s.heap.IsList l items) (hne : l ≠ it) (hn : items.size ≤ sizeLine)
    (hQ : ∀ h' tk acc' c', (∀ b o, b ≠ it → s.heap.get? b = some o → h'.get? b = some o) → h'.get? s.heap.objs.size = some { cls := .type "list", dict := none, data := .seq acc' c', slots := #[] } → ItemsOf (fun i v => items[items.size - 1 - i]? = some v) acc' items.size → Q (.ref s.heap.objs.size) { s with heap := h', toks := tk }) :
    wpAny (model prog w) A (call (.type "list") [.ref it]) Q E s := by
  obtain ⟨oi, hoi, _⟩ := id hit
  obtain ⟨ol, hol, _⟩ := id hl
  refine callType_codes (Q₁ := fun obj s₁ => obj = .ref s.heap.objs.size ∧ s₁ = { s with heap := s.heap.push { cls := .type "list", data := .seq #[] } }) PySem.F.called_list (PySem.F.typeCall_list_1 _) PySem.F.entry_list_init
    (code_list_new _ ⟨rfl, rfl⟩) fun obj s₁ h₁ => ?_
  obtain ⟨rfl, rfl⟩ := h₁
  have hS : (s.heap.push { cls := .type "list", data := .seq #[] }).get? s.heap.objs.size = some { cls := .type "list", data := .seq #[] } := Heap.get?_push_size _ rfl
  refine ⟨⟨_, hS, rfl⟩, PySem.F.args_list_init_2 _ _, init_list_rev (A := A.in1) hh (hit.at fun o e => Heap.get?_push_of_some _ e) (hl.push _) hne hn (Nat.ne_of_gt (Heap.lt_size hoi)) (Nat.ne_of_gt (Heap.lt_size hol)) hS (fun h' tk acc' c' hk hS' hacc => ?_)⟩
  exact ⟨rfl, hQ h' tk acc' c' (fun b o hb e => hk b o (Nat.ne_of_lt (Heap.lt_size e)) hb (Heap.get?_push_of_some _ e)) hS' hacc⟩
end
/-- list(reversed(x)), x a list: a new list -/
def tLstRev (K : PySem.W.Frag) (te : TE) : TE := fun σ H Q => te σ H fun v H1 => ∃ (a : Addr) (xs : List V), v = .ref a ∧ SqL K H1 a xs ∧ ∀ q, H1 q = none → Q (.ref q) (upd H1 q (.lst xs.reverse))
section
variable {X : Cx}
theorem pe_lstRev {e : Expr} {te : TE} {p p2 pos pos2 : Pos} (hc : X.calm = true) (hg : Gl X "list") (hm : X.mg "list" = none) (hg2 : Gl X "reversed") (hm2 : X.mg "reversed" = none) (he : PE X e te)
    (hs : starEach [e] X.env = (false, eval e X.env) :: starEach [] X.env := by rfl)
    (hs2 : starEach [.Call (.Name "reversed" p2) [e] [] pos2] X.env = (false, eval (.Call (.Name "reversed" p2) [e] [] pos2) X.env) :: starEach [] X.env := by rfl) :
    PE X (.Call (.Name "list" p) [.Call (.Name "reversed" p2) [e] [] pos2] [] pos) (tLstRev X.K te) := by
  refine ⟨fun pins s σ H Q I h => ?_⟩
  refine Call_ (ld_blt I hg hm boot_list (PyProof.Rows.callWith_type1 (args_cons (Call_ (ld_blt I hg2 hm2 PyProof.Rows.boot_reversed (PyProof.Rows.callWith_type1 (args_cons (thn (he.run pins s σ H _ I h) fun u s1 ⟨v, H1, I1, r1, q1⟩ => args_nil ?_) hs) hs rfl))) hs2) hs2 rfl))
  obtain ⟨a, xs, ev, hq, q⟩ := q1
  subst ev
  obtain rfl : u = Value.ref a := r1
  obtain ⟨its, rv, p', hz⟩ := I1.list hq
  refine call_reversed_list p'.isList (args_nil ?_)
  have hl := p'.isList
  obtain ⟨ol, hol, _⟩ := id hl
  have hne : a ≠ s1.heap.objs.size := Nat.ne_of_lt (Heap.lt_size hol)
  have hn : its.toArray.size ≤ sizeLine := by rw [List.size_toArray, ← rv.length]; exact hz
  refine call_list_revit (s := { s1 with heap := s1.heap.push (revObj a ((its.toArray.size : Int) - 1)) }) (I1.ok.hd hc) ⟨_, Heap.get?_push_size _ rfl, rfl, rfl⟩ (hl.push _) hne hn fun h' tk acc c' hk hS hi => ?_
  have hsz : (s1.heap.push (revObj a ((its.toArray.size : Int) - 1))).objs.size = s1.heap.objs.size + 1 := by simp [Heap.push]
  have keep : ∀ b o, s1.heap.get? b = some o → h'.get? b = some o := fun b o e => hk b o (Nat.ne_of_lt (Heap.lt_size e)) (Heap.get?_push_of_some _ e)
  refine ⟨.ref _, upd H1 (s1.heap.push (revObj a ((its.toArray.size : Int) - 1))).objs.size (.lst xs.reverse), I1.laid (t' := tk) keep (by rw [hsz]; exact Nat.le_succ _) (show ObjOk X.prog X.w _ _ _ (.lst xs.reverse) from ⟨by rw [List.length_reverse]; exact hz, acc.toList, c', vals_rev rv hi, ?_⟩), rfl, q _ (I1.hok.fresh (by rw [hsz]; exact Nat.le_succ _))⟩
  rw [Array.toArray_toList]
  exact hS
end
end RT

/-! Rm, part E: the theorem for expressions. -/
namespace Rm
open PySem L2 PySem.Spec PyProof.Rows
section
variable {K : PySem.W.Frag} {cA : Nat → Addr} {cF : Nat → List Str} {r r1 : List Addr} {H H1 : Hp} {h : HP} {e : EN} {σ : L2.St}
theorem REn.set {i : Nat} {v : MV} {V : V} (n : REn K cA cF H r e σ) (p : Rep K cA cF H r v V) : REn K cA cF H r (e.set i (some v)) (σ.set i (some V)) := by
  refine ⟨by simp [n.len], fun j u q => ?_⟩
  by_cases hj : i = j
  · subst hj
    by_cases hi : i < e.length
    · rw [List.getElem?_set_self hi] at q
      simp only [Option.some.injEq] at q
      subst q
      exact ⟨V, List.getElem?_set_self (by rw [← n.len]; exact hi), p⟩
    · rw [List.getElem?_eq_none (by simpa using hi)] at q; cases q
  · rw [List.getElem?_set_ne hj] at q
    obtain ⟨U, k1, k2⟩ := n.at_ j u q
    exact ⟨U, by rw [List.getElem?_set_ne hj]; exact k1, k2⟩
theorem REn.unset {i : Nat} {o : Option V} (n : REn K cA cF H r e σ) : REn K cA cF H r (e.set i none) (σ.set i o) := by
  refine ⟨by simp [n.len], fun j u q => ?_⟩
  by_cases hj : i = j
  · subst hj
    by_cases hi : i < e.length
    · rw [List.getElem?_set_self hi] at q; cases q
    · rw [List.getElem?_eq_none (by simpa using hi)] at q; cases q
  · rw [List.getElem?_set_ne hj] at q
    obtain ⟨U, k1, k2⟩ := n.at_ j u q
    exact ⟨U, by rw [List.getElem?_set_ne hj]; exact k1, k2⟩
end
theorem loc_of {sc : Scope} {x : Str} (h : locB sc x = true) : L2.Loc sc x := by
  unfold locB at h
  unfold L2.Loc
  split at h
  · exact .inl (by assumption)
  · exact .inr (by assumption)
  · cases h
theorem set_pl {e : Expr} {env : Env} (h : noSet e = true) : ∀ x, foldedSetIterable e env x = pure x := by
  intro x
  cases e <;> first | rfl | cases h
theorem PGimp {X : Cx} {x : Expr} {t u : TG} (p : PG X x t) (i : ∀ v σ H Q, u v σ H Q → t v σ H Q) : PG X x u := ⟨fun pins s σ H v w Q I rv q => p.run pins s σ H v w Q I rv (i v σ H Q q)⟩
theorem PGsimp {X : Cx} {x : List Expr} {t u : TGs} (p : PGs X x t) (i : ∀ v σ H Q, u v σ H Q → t v σ H Q) : PGs X x u := ⟨fun pins s σ H v w Q I rv q => p.run pins s σ H v w Q I rv (i v σ H Q q)⟩
section
variable {X : Cx} {cA : Nat → Addr} {cF : Nat → List Str} {T : Tab} {C : Nat → List MV → HP → R MV} {k : Nat} {c : Ck} {W : WX}
theorem pe_cst {x : Expr} {v : V} {m : MV} (p : PE X x (tC v)) (hm : ∀ H r, Rep X.K cA cF H r m v) : PE X x (tE X.K cA cF W fun _ h => .ok m h) :=
  PEimp p fun σ H Q q => by
    obtain ⟨r, e, h, E, n, w⟩ := q
    exact w r H v Ext.refl E (hm H r)
theorem bin_use {ea eb : EN → HP → R MV} {rr : R2} {g : HP → MV → MV → R MV} {x : Expr} (p : PE X x (tOp rr (tE X.K cA cF W ea) (tE X.K cA cF W eb)))
    (hr : ∀ r H h va vb A B Q (Y : XK), Emb X.K cA cF H r h → Rep X.K cA cF H r va A → Rep X.K cA cF H r vb B → wpR X.K cA cF r H (g h va vb) Q Y → rr A B H Q) :
    PE X x (tE X.K cA cF W fun e h => (ea e h).bind fun x h => (eb e h).bind fun y h => g h x y) :=
  PEimp p fun σ H Q q => by
    obtain ⟨r, e, h, E, n, w⟩ := q
    refine stepE E n w fun r1 H1 h1 va A x1 E1 n1 p1 w1 => ?_
    refine stepE E1 n1 w1 fun r2 H2 h2 vb B x2 E2 n2 p2 w2 => ?_
    exact hr r2 H2 h2 va vb A B Q _ E2 (Rep.mono x2 _ _ p1) p2 w2
theorem wpR_of {g : HP → MV → MV → Option MV} {r : List Addr} {H : Hp} {h : HP} {va vb : MV} {A B : V} {Q : VK} {Y : XK} (E : Emb X.K cA cF H r h) (p1 : Rep X.K cA cF H r va A) (p2 : Rep X.K cA cF H r vb B)
    (w : wpR X.K cA cF r H (R.of (g h va vb) h) Q Y) : rV2 X.K cA cF g A B H Q := by
  cases e : g h va vb with
  | none => rw [e] at w; exact w.elim
  | some z => rw [e] at w; exact ⟨r, h, va, vb, z, E, p1, p2, e, w⟩
theorem wpR_ofB {g : HP → MV → MV → Option Bool} {r : List Addr} {H : Hp} {h : HP} {va vb : MV} {A B : V} {Q : VK} {Y : XK} (E : Emb X.K cA cF H r h) (p1 : Rep X.K cA cF H r va A) (p2 : Rep X.K cA cF H r vb B)
    (w : wpR X.K cA cF r H (R.of ((g h va vb).map .bl) h) Q Y) : rB2 X.K cA cF g A B H Q := by
  cases e : g h va vb with
  | none => rw [e] at w; exact w.elim
  | some z => rw [e] at w; exact ⟨r, h, va, vb, z, E, p1, p2, e, w r H _ Ext.refl E rep_bl⟩
theorem una_use {ea : EN → HP → R MV} {rr : V → Hp → VK → Prop} {g : HP → MV → R MV} {x : Expr} (p : PE X x (tUn rr (tE X.K cA cF W ea)))
    (hr : ∀ r H h va A Q (Y : XK), Emb X.K cA cF H r h → Rep X.K cA cF H r va A → wpR X.K cA cF r H (g h va) Q Y → rr A H Q) :
    PE X x (tE X.K cA cF W fun e h => (ea e h).bind fun x h => g h x) :=
  PEimp p fun σ H Q q => by
    obtain ⟨r, e, h, E, n, w⟩ := q
    refine stepE E n w fun r1 H1 h1 va A x1 E1 n1 p1 w1 => ?_
    exact hr r1 H1 h1 va A Q _ E1 p1 w1
def tO (K : PySem.W.Frag) (cA : Nat → Addr) (cF : Nat → List Str) (W : WX) (f : EN → HP → R (Option Int)) : TO := fun σ H Q => ∃ r e h, Emb K cA cF H r h ∧ REn K cA cF H r e σ ∧ wpG K cA cF (fun _ _ (x y : Option Int) => x = y) r H (f e h) Q fun cls d H' => W cls d σ H'
theorem POimp {x : Option Expr} {t u : TO} (p : PO X x t) (i : ∀ σ H Q, u σ H Q → t σ H Q) : PO X x u := ⟨fun pins s σ H Q I q => p.run pins s σ H Q I (i σ H Q q)⟩
theorem stepO {α β : Type} {K : PySem.W.Frag} {rel : Hp → List Addr → α → β → Prop} {f : EN → HP → R (Option Int)} {k : Option Int → HP → R α} {Q : β → Hp → Prop} {Q' : Option Int → Hp → Prop} {r : List Addr} {H : Hp} {h : HP} {e : EN} {σ : L2.St}
    (E : Emb K cA cF H r h) (n : REn K cA cF H r e σ) (w : wpG K cA cF rel r H ((f e h).bind k) Q fun cls d H' => W cls d σ H')
    (cont : ∀ r1 H1 h1 x, Ext r H r1 H1 → Emb K cA cF H1 r1 h1 → REn K cA cF H1 r1 e σ → wpG K cA cF rel r1 H1 (k x h1) Q (fun cls d H' => W cls d σ H') → Q' x H1) : tO K cA cF W f σ H Q' := by
  refine ⟨r, e, h, E, n, ?_⟩
  cases q : f e h with
  | ok x h1 =>
    rw [q] at w
    intro r1 H1 V e1 e2 e3
    subst e3
    exact cont r1 H1 h1 x e1 e2 (n.mono e1) (wpG.mono e1 w)
  | exc x h1 => rw [q] at w; exact w
  | bad => rw [q] at w; exact w
theorem plix {f : Expr} (h : plIx f = true) : PlainIx f := by
  intro o i
  cases f <;> first | rfl | cases h

theorem attr_plain {o : Expr} {a : Str} {env : Env} (h : plB o = true) : attributeBase o a env (eval o env) = eval o env := by
  cases o <;> first | rfl | skip
  rename_i f xs ks pos
  cases xs with
  | nil => cases h
  | cons x xs => cases f <;> rfl
/-- a test's wish as a value's -/
theorem tt_wp {K : PySem.W.Frag} {cA : Nat → Addr} {cF : Nat → List Str} {r : List Addr} {H : Hp} {res : R MV} {Q : Bool → Hp → Prop} {Y : XK} (w : match res with
  | .ok (.bl b) h' => ∀ r' H', Ext r H r' H' → Emb K cA cF H' r' h' → Q b H'
  | .exc x h' => ∀ r' H' cls d, Ext r H r' H' → Emb K cA cF H' r' h' → RepX cA x cls d → Y cls d H'
  | _ => False) : wpR K cA cF r H res (fun x H' => ∃ k, x = .bl k ∧ Q k H') Y := by
  cases res with
  | bad => exact w
  | exc x h' => exact w
  | ok v h' =>
    cases v <;> first | exact w.elim | skip
    intro r' H' V e1 e2 e3
    simp only [Rep] at e3
    exact ⟨_, e3, w r' H' e1 e2⟩
theorem plT_ok {e : Expr} {env : Env} (h : plT e = true) : ∀ whole, isTrue e env whole = (do let v ← whole; standAt e.pos; holding [v] (truthy v)) := by
  intro whole
  cases e <;> first | rfl | cases h
theorem fin3 {x : Expr} {f : EN → HP → R MV} (p : PE X x (tE X.K cA cF W f)) (hx : plT x = true) : PE X x (tE X.K cA cF W f) ∧ (tsB x = true → PT X x (tTt X.K cA cF W f)) ∧ (isBO x = true → PW X x (tTt X.K cA cF W f)) := by
  refine ⟨p, fun _ => PTimp (pt_val p (plT_ok hx)) fun σ H Q q => ?_, fun z => ?_⟩
  · obtain ⟨r, e, h, E, n, w⟩ := q
    exact ⟨r, e, h, E, n, tt_wp w⟩
  · cases x <;> first | (cases hx; done) | (cases z; done)
theorem and_l {a b : Bool} (h : (a && b) = true) : a = true := (Bool.and_eq_true_iff.mp h).1
theorem and_r {a b : Bool} (h : (a && b) = true) : b = true := (Bool.and_eq_true_iff.mp h).2
theorem Fc.re {P : Program} {w : World} {K : PySem.W.Frag} {mg : Str → Option Value} {base : Heap} {c' : Ck} (F : Fc P w K mg base cA cF T C k c) (e1 : c'.fnm = c.fnm) (e2 : c'.cnm = c.cnm) (e3 : c'.free = c.free) (e4 : c'.gI = c.gI) (e5 : c'.gS = c.gS) : Fc P w K mg base cA cF T C k c' :=
  ⟨by unfold Ck.fa; rw [e1]; exact F.fn, by rw [e3]; exact F.free, by rw [e4]; exact F.gi, by rw [e5]; exact F.gs, by rw [e2]; exact F.cl, F.ex, F.fl, F.ob, F.mt, F.mtC, F.mkI, F.m0⟩
/-! ### what a for walks -/
structure Lk (K : PySem.W.Frag) (cA : Nat → Addr) (cF : Nat → List Str) (J : It) (src : HP → Option (List MV)) (all : List MV) (P : List Addr → Hp → Prop) : Prop where
  mono : ∀ r H r1 H1, P r H → Ext r H r1 H1 → P r1 H1
  go : ∀ r H h (i : Nat) x, P r H → Emb K cA cF H r h → src h = some all → all[i]? = some x → J.go i H ∧ ∀ V H', J.yld i H V H' → Ext r H r H' ∧ Emb K cA cF H' r h ∧ Rep K cA cF H' r x V
  stop : ∀ r H h, P r H → Emb K cA cF H r h → src h = some all → J.stop all.length H
def tI (K : PySem.W.Frag) (cA : Nat → Addr) (cF : Nat → List Str) (W : WX) (f : EN → HP → R (List MV × (HP → Option (List MV)))) : TI := fun σ H Rr => ∃ r e h, Emb K cA cF H r h ∧ REn K cA cF H r e σ ∧ (match f e h with
  | .ok p h' => ∀ r' H' J P, Ext r H r' H' → Emb K cA cF H' r' h' → P r' H' → Lk K cA cF J p.2 p.1 P → Rr J H'
  | .exc x h' => ∀ r' H' cls d, Ext r H r' H' → Emb K cA cF H' r' h' → RepX cA x cls d → W cls d σ H'
  | .bad => False)
theorem PIimp {X : Cx} {tg x : Expr} {t u : TI} (p : PI X tg x t) (i : ∀ σ H Q, u σ H Q → t σ H Q) : PI X tg x u := ⟨fun pins s σ H Q I q => p.run pins s σ H Q I (i σ H Q q)⟩
theorem pi_seq {tg l : Expr} {tl : TE} (hl : PE X l tl) : PI X tg l (fun σ H Rr => tl σ H fun x H1 => (∃ a, x = .ref a ∧ (((∃ xs, SqL X.K H1 a xs) ∧ Rr (Itl X.K a) H1) ∨ ((∃ xs, SqT X.K H1 a xs) ∧ Rr (Itt X.K a) H1))) ∨ ∃ z, x = .str z ∧ Rr (Its z) H1) := by
  refine ⟨fun pins s σ H Rr I h => ?_⟩
  refine thn (hl.run pins s σ H _ I h) fun v s1 ⟨x, H1, I1, r1, q1⟩ => ?_
  rcases q1 with q1 | ⟨z, ex, q⟩
  rotate_left
  · subst ex
    obtain ⟨t, rfl⟩ := r1
    cases ha : z.cps.all (· < 128)
    · exact wpAny_pyIter_wide ha (pi_one (tk := s1.toks) I1 _ (turn_str _ z t "str_iterator" (.inr rfl)) ⟨_, Heap.get?_push_size _ rfl, rfl, rfl⟩ q)
    · exact wpAny_pyIter_ascii ha (pi_one (tk := s1.toks) I1 _ (turn_str _ z t "str_ascii_iterator" (.inl rfl)) ⟨_, Heap.get?_push_size _ rfl, rfl, rfl⟩ q)
  obtain ⟨a, e, q1⟩ := q1
  subst e
  cases r1
  rcases q1 with ⟨⟨xs, hq⟩, q⟩ | ⟨⟨xs, hq⟩, q⟩
  · obtain ⟨its, rv, p, hz⟩ := I1.list hq
    refine wpAny_pyIter_list p.isList ?_
    refine ⟨s1.heap.objs.size, [s1.heap.objs.size], _, _, H1, rfl, I1.kept (t' := s1.toks) fun b o e => Heap.get?_push_of_some _ e, turn_list a _, ⟨_, Heap.get?_push_size _ rfl, rfl, rfl⟩, fun b hb => ?_, q⟩
    have e : b = s1.heap.objs.size := by simpa using hb
    subst e
    exact I1.fpOk (Nat.le_refl _) (I1.hok.fresh (Nat.le_refl _))
  · obtain ⟨its, rv, p, hz⟩ := I1.tuple hq
    refine wpAny_pyIter_tuple (show s1.heap.IsTuple a its.toArray from p) ?_
    refine ⟨s1.heap.objs.size, [s1.heap.objs.size], _, _, H1, rfl, I1.kept (t' := s1.toks) fun b o e => Heap.get?_push_of_some _ e, turn_tuple a _, ⟨_, Heap.get?_push_size _ rfl, rfl, rfl⟩, fun b hb => ?_, q⟩
    have e : b = s1.heap.objs.size := by simpa using hb
    subst e
    exact I1.fpOk (Nat.le_refl _) (I1.hok.fresh (Nat.le_refl _))
theorem lk_list {a : Addr} {v : MV} {all : List MV} (hv : ∀ h, seqOf h v = getL h v) : Lk X.K cA cF (Itl X.K a) (fun h => seqOf h v) all (fun r H => Rep X.K cA cF H r v (.ref a)) where
  mono := fun r H r1 H1 p x => Rep.mono x _ _ p
  go := fun r H h i x p E e q => by
    rw [hv] at e
    obtain ⟨b, vs, e1, l1, q1⟩ := getL_ok E e p
    cases e1
    obtain ⟨V, k1, k2⟩ := q1.get q
    refine ⟨⟨vs, V, sq_of l1, k1⟩, fun V' H' y => ?_⟩
    obtain ⟨rfl, y⟩ := y
    have := y vs (sq_of l1)
    rw [k1] at this
    cases this
    exact ⟨Ext.refl, E, k2⟩
  stop := fun r H h p E e => by
    rw [hv] at e
    obtain ⟨b, vs, e1, l1, q1⟩ := getL_ok E e p
    cases e1
    exact ⟨vs, sq_of l1, by rw [q1.length]; exact Nat.le_refl _⟩
theorem lk_str {z : Str} : Lk X.K cA cF (Its z) (fun _ => some (signs z)) (signs z) (fun _ _ => True) where
  mono := fun _ _ _ _ _ _ => trivial
  go := fun r H h i x _ E e q => by
    unfold signs at q
    rw [List.getElem?_map] at q
    obtain ⟨c, k1, k2⟩ := Option.map_eq_some_iff.mp q
    subst k2
    rw [Array.getElem?_toList] at k1
    refine ⟨(Array.getElem?_eq_some_iff.mp k1).1, fun V H' y => ?_⟩
    obtain ⟨rfl, c', y1, y2⟩ := y
    rw [k1] at y1
    cases y1
    rw [y2]
    exact ⟨Ext.refl, E, rep_str⟩
  stop := fun r H h _ E e => by
    show z.cps.size ≤ _
    simp [signs]
theorem lk_tup {a : Addr} {all : List MV} : Lk X.K cA cF (Itt X.K a) (fun h => seqOf h (.tup all)) all (fun r H => Rep X.K cA cF H r (.tup all) (.ref a)) where
  mono := fun r H r1 H1 p x => Rep.mono x _ _ p
  go := fun r H h i x p E e q => by
    simp only [Rep] at p
    obtain ⟨b, vs, e1, ⟨_, h1⟩, q1⟩ := p
    cases e1
    obtain ⟨V, k1, k2⟩ := q1.get q
    refine ⟨⟨vs, V, SqT.of h1, k1⟩, fun V' H' y => ?_⟩
    obtain ⟨rfl, y⟩ := y
    have := y vs (SqT.of h1)
    rw [k1] at this
    cases this
    exact ⟨Ext.refl, E, k2⟩
  stop := fun r H h p E e => by
    simp only [Rep] at p
    obtain ⟨b, vs, e1, ⟨_, h1⟩, q1⟩ := p
    cases e1
    exact ⟨vs, SqT.of h1, by rw [q1.length]; exact Nat.le_refl _⟩
theorem lk_rng {lo : Int} {n : Nat} : Lk X.K cA cF (Itr lo n) (fun _ => some ((List.range n).map fun (i : Nat) => MV.int (lo + (i : Int)))) ((List.range n).map fun (i : Nat) => MV.int (lo + (i : Int))) (fun _ _ => True) where
  mono := fun _ _ _ _ _ _ => trivial
  go := fun r H h i x _ E e q => by
    have hi : i < n := by
      have := (List.getElem?_eq_some_iff.mp q).1
      simpa using this
    refine ⟨hi, fun V H' y => ?_⟩
    rw [List.getElem?_map, List.getElem?_range hi] at q
    simp only [Option.map_some, Option.some.injEq] at q
    subst q
    obtain ⟨rfl, y⟩ := y
    rw [y]
    exact ⟨Ext.refl, E, rep_int⟩
  stop := fun r H h _ E e => by
    show n ≤ _
    simp
theorem lk_rg3 {lo c : Int} {n : Nat} : Lk X.K cA cF (Itc lo c n) (fun _ => some ((List.range n).map fun (i : Nat) => MV.int (lo + (i : Int) * c))) ((List.range n).map fun (i : Nat) => MV.int (lo + (i : Int) * c)) (fun _ _ => True) where
  mono := fun _ _ _ _ _ _ => trivial
  go := fun r H h i x _ E e q => by
    have hi : i < n := by
      have := (List.getElem?_eq_some_iff.mp q).1
      simpa using this
    refine ⟨hi, fun V H' y => ?_⟩
    rw [List.getElem?_map, List.getElem?_range hi] at q
    simp only [Option.map_some, Option.some.injEq] at q
    subst q
    obtain ⟨rfl, y⟩ := y
    rw [y]
    exact ⟨Ext.refl, E, rep_int⟩
  stop := fun r H h _ E e => by
    show n ≤ _
    simp
theorem zipM_get {xs ys : List MV} {i : Nat} {z : MV} (h : (zipM xs ys)[i]? = some z) : ∃ x y, xs[i]? = some x ∧ ys[i]? = some y ∧ z = .tup [x, y] := by
  unfold zipM at h
  rw [List.getElem?_zipWith] at h
  split at h
  · rename_i a b h1 h2
    cases h
    exact ⟨a, b, h1, h2, rfl⟩
  · cases h
theorem zipM_len (xs ys : List MV) : (zipM xs ys).length = min xs.length ys.length := by unfold zipM; simp
theorem pair_rep {K : PySem.W.Frag} {H : Hp} {r : List Addr} {x y : MV} {A B : L2.V} (h1 : Rep K cA cF H r x A) (h2 : Rep K cA cF H r y B) : Reps K cA cF H r [x, y] [A, B] := by
  simp only [Reps]
  exact ⟨A, [B], rfl, h1, B, [], rfl, h2, rfl⟩
theorem lk_zip {a b : Addr} {v u : MV} {all : List MV} : Lk X.K cA cF (Itz X.K a b) (zipS v u) all (fun r H => Rep X.K cA cF H r v (.ref a) ∧ Rep X.K cA cF H r u (.ref b)) where
  mono := fun r H r1 H1 p x => ⟨Rep.mono x _ _ p.1, Rep.mono x _ _ p.2⟩
  go := fun r H h i x p E e q => by
    unfold zipS at e
    obtain ⟨xs, e1, e⟩ := Option.bind_eq_some_iff.mp e
    obtain ⟨ys, e2, e⟩ := Option.map_eq_some_iff.mp e
    subst e
    obtain ⟨a', vs, e3, l1, q1⟩ := getL_ok E e1 p.1
    obtain ⟨b', us, e4, l2, q2⟩ := getL_ok E e2 p.2
    cases e3; cases e4
    obtain ⟨x1, y1, g1, g2, rfl⟩ := zipM_get q
    obtain ⟨V, k1, k2⟩ := q1.get g1
    obtain ⟨U, k3, k4⟩ := q2.get g2
    refine ⟨⟨vs, us, V, U, sq_of l1, sq_of l2, k1, k3⟩, fun V' H' y => ?_⟩
    obtain ⟨T, V2, U2, rfl, hT, rfl, y1, y2⟩ := y
    have z1 := y1 vs (sq_of l1)
    have z2 := y2 us (sq_of l2)
    rw [k1] at z1
    rw [k3] at z2
    cases z1; cases z2
    exact new_tup E hT (pair_rep k2 k4)
  stop := fun r H h p E e => by
    unfold zipS at e
    obtain ⟨xs, e1, e⟩ := Option.bind_eq_some_iff.mp e
    obtain ⟨ys, e2, e⟩ := Option.map_eq_some_iff.mp e
    subst e
    obtain ⟨a', vs, e3, l1, q1⟩ := getL_ok E e1 p.1
    obtain ⟨b', us, e4, l2, q2⟩ := getL_ok E e2 p.2
    cases e3; cases e4
    refine ⟨vs, us, sq_of l1, sq_of l2, ?_⟩
    rw [q1.length, q2.length, zipM_len]
    omega
theorem enmM_get : ∀ {xs : List MV} {n i : Nat} {z : MV}, (enmM n xs)[i]? = some z → ∃ x, xs[i]? = some x ∧ z = .tup [.int ((n + i : Nat) : Int), x]
  | [], n, i, z, h => by simp [enmM] at h
  | x :: xs, n, 0, z, h => by
    simp only [enmM, List.getElem?_cons_zero, Option.some.injEq] at h
    exact ⟨x, rfl, h.symm⟩
  | x :: xs, n, i + 1, z, h => by
    simp only [enmM, List.getElem?_cons_succ] at h
    obtain ⟨y, h1, h2⟩ := enmM_get h
    exact ⟨y, by simpa using h1, by rw [h2]; congr 3; omega⟩
theorem enmM_len : ∀ (xs : List MV) (n : Nat), (enmM n xs).length = xs.length
  | [], n => rfl
  | x :: xs, n => by simp only [enmM, List.length_cons, enmM_len xs]
theorem lk_enm {a : Addr} {v : MV} {all : List MV} : Lk X.K cA cF (Ite X.K a) (enmS v) all (fun r H => Rep X.K cA cF H r v (.ref a)) where
  mono := fun r H r1 H1 p x => Rep.mono x _ _ p
  go := fun r H h i x p E e q => by
    unfold enmS at e
    obtain ⟨xs, e1, e⟩ := Option.map_eq_some_iff.mp e
    subst e
    obtain ⟨a', vs, e3, l1, q1⟩ := getL_ok E e1 p
    cases e3
    obtain ⟨x1, g1, rfl⟩ := enmM_get q
    obtain ⟨V, k1, k2⟩ := q1.get g1
    refine ⟨⟨vs, V, sq_of l1, k1⟩, fun V' H' y => ?_⟩
    obtain ⟨T, V2, rfl, hT, rfl, y1⟩ := y
    have z1 := y1 vs (sq_of l1)
    rw [k1] at z1
    cases z1
    refine new_tup E hT (pair_rep ?_ k2)
    simp only [Rep, Nat.zero_add]
  stop := fun r H h p E e => by
    unfold enmS at e
    obtain ⟨xs, e1, e⟩ := Option.map_eq_some_iff.mp e
    subst e
    obtain ⟨a', vs, e3, l1, q1⟩ := getL_ok E e1 p
    cases e3
    exact ⟨vs, sq_of l1, by rw [q1.length, enmM_len]; exact Nat.le_refl _⟩
/-! ### list comprehensions -/
theorem wipe_set_comm : ∀ (vs : List Nat) (σ : L2.St) (i : Nat) (x : Option V), i ∉ vs → wipe (σ.set i x) vs = (wipe σ vs).set i x
  | [], σ, i, x, _ => rfl
  | v :: vs, σ, i, x, h => by
    simp only [List.mem_cons, not_or] at h
    unfold wipe
    rw [wipe_set_comm vs σ i x h.2, List.set_comm _ _ h.1]
theorem wipe_set : ∀ (vs : List Nat) (σ : L2.St) (i : Nat) (x : Option V), i ∈ vs → wipe (σ.set i x) vs = wipe σ vs
  | [], σ, i, x, h => by cases h
  | v :: vs, σ, i, x, h => by
    by_cases hv : i ∈ vs
    · unfold wipe
      rw [wipe_set vs σ i x hv]
    · have : i = v := by
        rcases List.mem_cons.mp h with z | z
        · exact z
        · exact absurd z hv
      subst this
      unfold wipe
      rw [wipe_set_comm vs σ i x hv, List.set_set]
theorem wipe_wipe (σ : L2.St) (ws : List Nat) : ∀ vs : List Nat, (∀ v ∈ vs, v ∈ ws) → wipe (wipe σ vs) ws = wipe σ ws
  | [], _ => rfl
  | v :: vs, h => by
    show wipe ((wipe σ vs).set v none) ws = _
    rw [wipe_set ws _ v none (h v (List.mem_cons_self ..))]
    exact wipe_wipe σ ws vs fun u hu => h u (List.mem_cons_of_mem _ hu)
theorem REn.wipe {K : PySem.W.Frag} {H : Hp} {r : List Addr} {e : EN} {σ : L2.St} (n : REn K cA cF H r e σ) : ∀ vs : List Nat, REn K cA cF H r (wipE e vs) (L2.wipe σ vs)
  | [] => n
  | v :: vs => (REn.wipe n vs).unset
def tGw (K : PySem.W.Frag) (cA : Nat → Addr) (cF : Nat → List Str) (vs : List Nat) (tg : Tg) : TG := fun V σ H Q => ∃ r e h v e', Emb K cA cF H r h ∧ REn K cA cF H r e σ ∧ Rep K cA cF H r v V ∧ setG tg v e = some e' ∧ ∀ σ', REn K cA cF H r e' σ' → L2.wipe σ' vs = L2.wipe σ vs → Q σ' H
def tGws (K : PySem.W.Frag) (cA : Nat → Addr) (cF : Nat → List Str) (vs : List Nat) (is : List Nat) : TGs := fun Vs σ H Q => ∃ r e h us e', Emb K cA cF H r h ∧ REn K cA cF H r e σ ∧ Reps K cA cF H r us Vs ∧ setT is us e = some e' ∧ ∀ σ', REn K cA cF H r e' σ' → L2.wipe σ' vs = L2.wipe σ vs → Q σ' H
theorem pgws_ok {vs : List Nat} (nd : X.N.Nodup) (hN : X.N = c.N) (sc : X.env.scope = c.sc) : ∀ (is : List Nat) (xs : List Expr), ckNw c vs is xs = true → PGs X xs (tGws X.K cA cF vs is)
  | [], xs, hh => by
    cases xs with
    | cons _ _ => simp [ckNw] at hh
    | nil =>
      refine PGsimp pgs_nil fun V σ H Q q => ?_
      obtain ⟨r, e, h, us, e', E, n, p, g, q⟩ := q
      cases us with
      | cons _ _ => simp [setT] at g
      | nil =>
        simp only [setT, Option.some.injEq] at g
        subst g
        simp only [Reps] at p
        exact ⟨p, q σ n rfl⟩
  | i :: is, xs, hh => by
    unfold ckNw at hh
    split at hh <;> first | (cases hh; done) | skip
    simp only [Bool.and_eq_true, decide_eq_true_eq] at hh
    obtain ⟨⟨⟨h1, h2⟩, h4⟩, h3⟩ := hh
    rename_i y pos ys
    have h2 : X.env.scope.names.lookup y = some .local := by rw [sc]; exact h2
    refine PGsimp (pgs_cons (pg_name (i := i) nd (by rw [hN]; exact h1) (.inl h2) (.inr h2)) (pgws_ok nd hN sc is ys h3) rfl) fun V σ H Q q => ?_
    obtain ⟨r, e, h, us, e', E, n, p, g, q⟩ := q
    cases us with
    | nil => simp [setT] at g
    | cons v us =>
      simp only [setT] at g
      simp only [Reps] at p
      obtain ⟨V1, Vs, rfl, p1, p2⟩ := p
      exact ⟨V1, Vs, rfl, r, _, h, us, e', E, n.set p1, p2, g, fun σ' n' w => q σ' n' (by rw [w, wipe_set _ _ _ _ h4])⟩
theorem assignEach_lenw {c : Ck} {vs : List Nat} {env : Env} : ∀ (is : List Nat) (xs : List Expr), ckNw c vs is xs = true → (assignEach xs env).length = is.length ∧ (assignEach xs env).findIdx? (·.1) = none
  | [], xs, hh => by
    cases xs with
    | cons _ _ => simp [ckNw] at hh
    | nil => exact ⟨rfl, rfl⟩
  | i :: is, xs, hh => by
    unfold ckNw at hh
    split at hh <;> first | (cases hh; done) | skip
    simp only [Bool.and_eq_true] at hh
    obtain ⟨a, b⟩ := assignEach_lenw (env := env) is _ hh.2
    rename_i y pos ys
    refine ⟨?_, ?_⟩
    · show (_ :: assignEach ys env).length = _
      rw [List.length_cons, a, List.length_cons]
    · show List.findIdx? _ (_ :: assignEach ys env) = none
      rw [List.findIdx?_cons, b]; rfl
theorem pgw_ok {vs : List Nat} (hc : X.calm = true) (nd : X.N.Nodup) (hN : X.N = c.N) (sc : X.env.scope = c.sc) (tg : Tg) (x : Expr) (hh : ckGw c vs tg x = true) : PG X x (tGw X.K cA cF vs tg) := by
  cases tg with
  | one i =>
    simp only [ckGw] at hh
    split at hh <;> first | (cases hh; done) | skip
    simp only [Bool.and_eq_true, decide_eq_true_eq] at hh
    obtain ⟨⟨h1, h2⟩, h4⟩ := hh
    rename_i y pos
    have h2 : X.env.scope.names.lookup y = some .local := by rw [sc]; exact h2
    refine PGimp (pg_name (i := i) nd (by rw [hN]; exact h1) (.inl h2) (.inr h2)) fun V σ H Q q => ?_
    obtain ⟨r, e, h, v, e', E, n, p, g, q⟩ := q
    simp only [setG, Option.some.injEq] at g
    subst g
    exact q _ (n.set p) (wipe_set _ _ _ _ h4)
  | tup is =>
    simp only [ckGw] at hh
    split at hh <;> first | (cases hh; done) | skip
    obtain ⟨a, b⟩ := assignEach_lenw (env := X.env) is _ hh
    rename_i kk pp
    have P1 := pg_tup (k := kk) (pos := pp) hc (pgws_ok (cA := cA) (cF := cF) nd hN sc is _ hh) a b
    have P2 := pg_lst (k := kk) (pos := pp) hc (pgws_ok (cA := cA) (cF := cF) nd hN sc is _ hh) a b
    have hl : ∀ (is : List Nat) (us : List MV) (e e' : EN), setT is us e = some e' → us.length = is.length := by
      intro is
      induction is with
      | nil => intro us e e' g; cases us with | nil => rfl | cons _ _ => simp [setT] at g
      | cons i is ih => intro us e e' g; cases us with | nil => simp [setT] at g | cons v us => simp only [setT] at g; simp [ih us _ _ g]
    refine ⟨fun pins s σ H V u Q I rr q => ?_⟩
    obtain ⟨r, e, h, v, e', E, n, p, g, q⟩ := q
    cases v <;> first | (simp only [setG] at g; cases g; done) | skip
    · simp only [setG] at g
      simp only [Rep] at p
      obtain ⟨ad, Vs, rfl, ⟨_, p1⟩, p2⟩ := p
      exact P1.run pins s σ H _ u Q I rr ⟨ad, Vs, rfl, SqT.of p1, by rw [p2.length]; exact hl _ _ _ _ g, r, e, h, _, e', E, n, p2, g, q⟩
    · simp only [setG] at g
      simp only [Rep] at p
      obtain ⟨ad, Vs, rfl, p1, p2⟩ := p
      exact P2.run pins s σ H _ u Q I rr ⟨ad, Vs, rfl, p1.sq, by rw [p2.length]; exact hl _ _ _ _ g, r, e, h, _, e', E, n, p2, g, q⟩
theorem lows_app (b : Nat) : ∀ (xs ys : List MV), lows b (xs ++ ys) = (lows b xs && lows b ys)
  | [], ys => by simp [lows]
  | x :: xs, ys => by simp only [List.cons_append, lows, lows_app b xs ys, Bool.and_assoc]
theorem lcm_ok {K : PySem.W.Frag} {J : It} {src : HP → Option (List MV)} {all : List MV} {P : List Addr → Hp → Prop} {cl : Bool} {tg : Tg} {vs : List Nat} {f : EN → HP → R MV} {r : List Addr} {H : Hp} {h : HP} {e : EN} {σ : L2.St} {Q : VK} {Y : XK}
    (L : Lk K cA cF J src all P) (p : P r H) (E : Emb K cA cF H r h) (n : REn K cA cF H r e σ) (w : wpR K cA cF r H (lcL cl tg src all f (wipE e vs) h all []) Q Y) :
    ∀ D, H D = none → ∃ Wi : Nat → Nat → Hp → Prop, (∃ m, Wi 0 m (upd H D (.lst []))) ∧ ∀ i m H, Wi i m H →
      (J.stop i H ∧ Q (.ref D) H) ∨ (J.go i H ∧ ∃ Nx : Hp → Prop, (∀ H', Nx H' → ∃ m', m' < m ∧ Wi (i + 1) m' H') ∧ ∀ x H', J.yld i H x H' → tGw K cA cF vs tg x (L2.wipe σ vs) H' fun σ2 H2 => L2.wipe σ2 vs = L2.wipe σ vs ∧ tYes σ2 H2 fun b H3 =>
        if b = true then tE K cA cF (fun cls d _ H' => Y cls d H') f σ2 H3 fun y H4 => ∃ acc, H4 D = some (.lst acc) ∧ acc.length < sizeLine ∧ Nx (upd H4 D (.lst (acc ++ [y]))) else Nx H3) := by
  intro D hD
  obtain ⟨x0, E0⟩ := E.cell hD (xs := []) (vs := []) (by simp only [Reps])
  refine ⟨fun i m Hc => m = all.length - i ∧ i ≤ all.length ∧ ∃ acc, Ext r H (r ++ [D]) Hc ∧ Emb K cA cF Hc (r ++ [D]) (h ++ [.lst acc]) ∧ lows h.length acc = true ∧ wpR K cA cF r H (lcL cl tg src all f (wipE e vs) h (all.drop i) acc) Q Y,
    ⟨all.length, by simp, Nat.zero_le _, [], x0, E0, by simp only [lows], by simpa using w⟩, ?_⟩
  rintro i m Hc ⟨rfl, hi, acc, xc, Ec, lo, w⟩
  have hDn : D ∉ r := fun z => by
    have := Ec.nd
    rw [List.nodup_append] at this
    exact this.2.2 D z D (by simp) rfl
  have atD : (h ++ [MO.lst acc])[h.length]? = some (.lst acc) := by simp
  have rD : (r ++ [D])[h.length]? = some D := by rw [← E.len]; simp
  obtain ⟨av, hav, rav⟩ := Ec.at_ h.length (.lst acc) D atD rD
  by_cases hlt : i < all.length
  · have ed : all.drop i = all[i] :: all.drop (i + 1) := List.drop_eq_getElem_cons hlt
    rw [ed] at w
    unfold lcL at w
    by_cases hs : src (h ++ [.lst acc]) = some all
    · rw [if_pos hs] at w
      obtain ⟨g1, g2⟩ := L.go (r ++ [D]) Hc _ i all[i] (L.mono _ _ _ _ p xc) Ec hs (by simp [hlt])
      refine .inr ⟨g1, _, fun H' z => ⟨all.length - (i + 1), by omega, rfl, hlt, z⟩, fun V H' y => ?_⟩
      obtain ⟨x1, E1, p1⟩ := g2 V H' y
      cases q : setG tg all[i] (wipE e vs) with
      | none => rw [q] at w; exact w.elim
      | some e' =>
        rw [q] at w
        refine ⟨r ++ [D], wipE e vs, _, all[i], e', E1, ((n.mono xc).mono x1).wipe vs, p1, q, fun σ' n' hw => ⟨by rw [hw, wipe_wipe σ vs vs fun v hv => hv], ?_⟩⟩
        unfold tYes
        dsimp only
        rw [if_pos rfl]
        refine ⟨r ++ [D], e', _, E1, n', ?_⟩
        cases q2 : f e' (h ++ [.lst acc]) with
        | bad => simp only [q2] at w; exact w.elim
        | exc x h2 =>
          simp only [q2] at w
          split at w
          · rename_i hh
            subst hh
            intro r2 H4 cls d x2 E2 p2
            obtain ⟨t, et⟩ := x2.pre
            have ht : t = [] := by
              have l2 := E2.len
              have l3 := E1.len
              rw [et, List.length_append, l3] at l2
              exact List.eq_nil_of_length_eq_zero (by omega)
            subst ht
            rw [List.append_nil] at et
            subst et
            have E3 := Emb.cut E2 E (by simp)
            have x3 : Ext r H r H4 := ⟨⟨[], by simp⟩, fun a o e n => ⟨(((xc.trans x1).trans x2).keep a o e n).1, n⟩⟩
            exact w r H4 cls d x3 E3 p2
          · exact w.elim
        | ok y h2 =>
          simp only [q2] at w
          split at w
          · rename_i hh
            obtain ⟨rfl, ly, la⟩ := hh
            intro r2 H4 U x2 E2 p2
            obtain ⟨t, et⟩ := x2.pre
            have ht : t = [] := by
              have l2 := E2.len
              have l3 := E1.len
              rw [et, List.length_append, l3] at l2
              exact List.eq_nil_of_length_eq_zero (by omega)
            subst ht
            rw [List.append_nil] at et
            subst et
            obtain ⟨bv, hbv, rbv⟩ := E2.at_ h.length (.lst acc) D atD rD
            refine ⟨bv, hbv, by rw [rbv.length, ← sz_eq]; exact la, ?_⟩
            have q3 : Reps K cA cF H4 (r ++ [D]) (acc ++ [y]) (bv ++ [U]) := rbv.append (by simp only [Reps]; exact ⟨U, [], rfl, p2, rfl⟩)
            obtain ⟨y1, y2⟩ := E2.write rD q3
            have es : (h ++ [MO.lst acc]).set h.length (.lst (acc ++ [y])) = h ++ [.lst (acc ++ [y])] := by
              rw [List.set_append_right _ _ (Nat.le_refl _)]; simp
            rw [es] at y2
            refine ⟨acc ++ [y], ((xc.trans x1).trans x2).trans y1, y2, ?_, w⟩
            rw [lows_app, lo]
            simp only [lows, ly, Bool.and_true]
          · exact w.elim
    · rw [if_neg hs] at w; exact w.elim
  · have ei : i = all.length := by omega
    subst ei
    rw [List.drop_length] at w
    unfold lcL at w
    by_cases hs : src (h ++ [.lst acc]) = some all
    · rw [if_pos hs] at w
      cases cl with
      | true =>
        rw [if_pos rfl] at w
        refine .inl ⟨L.stop _ _ _ (L.mono _ _ _ _ p xc) Ec hs, w (r ++ [D]) Hc _ xc Ec ?_⟩
        simp only [Rep]
        exact ⟨D, rfl, rD⟩
      | false =>
        rw [if_neg Bool.false_ne_true] at w
        have E2 := Emb.cut Ec E (by simp)
        have x2 : Ext r H r Hc := ⟨⟨[], by simp⟩, fun a o e n => ⟨(xc.keep a o e n).1, n⟩⟩
        refine .inl ⟨L.stop _ _ _ (L.mono _ _ _ _ p xc) Ec hs, w r Hc _ x2 E2 ?_⟩
        simp only [Rep]
        exact ⟨D, av, rfl, .inl ⟨hDn, .inl hav⟩, Reps.low _ _ (by rw [E.len]; exact lo) rav⟩
    · rw [if_neg hs] at w; exact w.elim
theorem lc_imp {K : PySem.W.Frag} {cl : Bool} {tg : Tg} {vs : List Nat} {f : EN → HP → R MV} {g : EN → HP → R IR} {σ : L2.St} {H : Hp} {Q : VK}
    (q : tE K cA cF W (fun e h => (g e h).bind fun p h => lcL cl tg p.2 p.1 f (wipE e vs) h p.1 []) σ H Q) : tLc (tI K cA cF W g) (tGw K cA cF vs tg) tYes (tE K cA cF (fun cls d _ H' => W cls d σ H') f) vs σ H Q := by
  obtain ⟨r, e, h, E, n, w⟩ := q
  refine ⟨r, e, h, E, n, ?_⟩
  cases q : g e h with
  | bad => simp only [q] at w; exact w
  | exc y h1 => simp only [q] at w; exact w
  | ok p h1 =>
    simp only [q, R.bind_ok] at w
    intro r1 H1 J P x1 E1 p1 L
    exact lcm_ok L p1 E1 (n.mono x1) (wpG.mono x1 w)
theorem lcg_ok {K : PySem.W.Frag} {J : It} {src : HP → Option (List MV)} {all : List MV} {P : List Addr → Hp → Prop} {tg : Tg} {vs : List Nat} {f : EN → HP → R MV} {r : List Addr} {H : Hp} {h : HP} {e : EN} {σ : L2.St} {Q : VK} {Y : XK} {Z : WX}
    (L : Lk K cA cF J src all P) (p : P r H) (E : Emb K cA cF H r h) (n : REn K cA cF H r e σ) (w : wpR K cA cF r H (lcG tg src all f (wipE e vs) h.length (h ++ [.lst []]) all []) Q Y) :
    ∀ D, H D = none → ∃ Wi : Nat → Nat → Hp → Prop, (∃ m, Wi 0 m (upd H D (.lst []))) ∧ ∀ i m H, Wi i m H →
      (J.stop i H ∧ Q (.ref D) H) ∨ (J.go i H ∧ ∃ Nx : Hp → Prop, (∀ H', Nx H' → ∃ m', m' < m ∧ Wi (i + 1) m' H') ∧ ∀ x H', J.yld i H x H' → tGw K cA cF vs tg x (L2.wipe σ vs) H' fun σ2 H2 => L2.wipe σ2 vs = L2.wipe σ vs ∧ tYes σ2 H2 fun b H3 =>
        if b = true then tE K cA cF Z f σ2 H3 fun y H4 => ∃ acc, H4 D = some (.lst acc) ∧ acc.length < sizeLine ∧ Nx (upd H4 D (.lst (acc ++ [y]))) else Nx H3) := by
  intro D hD
  obtain ⟨x0, E0⟩ := E.cell hD (xs := []) (vs := []) (by simp only [Reps])
  refine ⟨fun i m Hc => m = all.length - i ∧ i ≤ all.length ∧ ∃ acc r' h', r'[h.length]? = some D ∧ Ext r H r' Hc ∧ Emb K cA cF Hc r' h' ∧ wpR K cA cF r H (lcG tg src all f (wipE e vs) h.length h' (all.drop i) acc) Q Y,
    ⟨all.length, by simp, Nat.zero_le _, [], r ++ [D], h ++ [.lst []], by rw [← E.len]; simp, x0, E0, by simpa using w⟩, ?_⟩
  rintro i m Hc ⟨rfl, hi, acc, r', h', rD, xc, Ec, w⟩
  by_cases hlt : i < all.length
  · have ed : all.drop i = all[i] :: all.drop (i + 1) := List.drop_eq_getElem_cons hlt
    rw [ed] at w
    unfold lcG at w
    by_cases hs : src h' = some all
    · rw [if_pos hs] at w
      obtain ⟨g1, g2⟩ := L.go r' Hc _ i all[i] (L.mono _ _ _ _ p xc) Ec hs (by simp [hlt])
      refine .inr ⟨g1, _, fun H' z => ⟨all.length - (i + 1), by omega, rfl, hlt, z⟩, fun V H' y => ?_⟩
      obtain ⟨x1, E1, p1⟩ := g2 V H' y
      cases q : setG tg all[i] (wipE e vs) with
      | none => rw [q] at w; exact w.elim
      | some e' =>
        rw [q] at w
        refine ⟨r', wipE e vs, _, all[i], e', E1, ((n.mono xc).mono x1).wipe vs, p1, q, fun σ' n' hw => ⟨by rw [hw, wipe_wipe σ vs vs fun v hv => hv], ?_⟩⟩
        unfold tYes
        dsimp only
        rw [if_pos rfl]
        refine ⟨r', e', _, E1, n', ?_⟩
        cases q2 : f e' h' with
        | bad => simp only [q2] at w; exact w.elim
        | exc x h2 => simp only [q2] at w; exact w.elim
        | ok y h2 =>
          simp only [q2] at w
          split at w
          · rename_i hh
            obtain ⟨hD2, la⟩ := hh
            intro r2 H4 U x2 E2 p2
            have rD2 : r2[h.length]? = some D := by
              obtain ⟨t, et⟩ := x2.pre
              rw [et, List.getElem?_append_left (List.getElem?_eq_some_iff.mp rD).1]; exact rD
            obtain ⟨bv, hbv, rbv⟩ := E2.at_ h.length (.lst acc) D hD2 rD2
            refine ⟨bv, hbv, by rw [rbv.length, ← sz_eq]; exact la, ?_⟩
            have q3 : Reps K cA cF H4 r2 (acc ++ [y]) (bv ++ [U]) := rbv.append (by simp only [Reps]; exact ⟨U, [], rfl, p2, rfl⟩)
            obtain ⟨y1, y2⟩ := E2.write rD2 q3
            exact ⟨acc ++ [y], r2, _, rD2, ((xc.trans x1).trans x2).trans y1, y2, w⟩
          · exact w.elim
    · rw [if_neg hs] at w; exact w.elim
  · have ei : i = all.length := by omega
    subst ei
    rw [List.drop_length] at w
    unfold lcG at w
    by_cases hs : src h' = some all
    · rw [if_pos hs] at w
      refine .inl ⟨L.stop _ _ _ (L.mono _ _ _ _ p xc) Ec hs, w r' Hc _ xc Ec ?_⟩
      simp only [Rep]
      exact ⟨D, rfl, rD⟩
    · rw [if_neg hs] at w; exact w.elim
theorem lcg_imp {K : PySem.W.Frag} {tg : Tg} {vs : List Nat} {f : EN → HP → R MV} {g : EN → HP → R IR} {σ : L2.St} {H : Hp} {Q : VK} {Z : WX}
    (q : tE K cA cF W (fun e h => (g e h).bind fun p h => lcG tg p.2 p.1 f (wipE e vs) h.length (h ++ [.lst []]) p.1 []) σ H Q) : tLc (tI K cA cF W g) (tGw K cA cF vs tg) tYes (tE K cA cF Z f) vs σ H Q := by
  obtain ⟨r, e, h, E, n, w⟩ := q
  refine ⟨r, e, h, E, n, ?_⟩
  cases q : g e h with
  | bad => simp only [q] at w; exact w
  | exc y h1 => simp only [q] at w; exact w
  | ok p h1 =>
    simp only [q, R.bind_ok] at w
    intro r1 H1 J P x1 E1 p1 L
    exact lcg_ok L p1 E1 (n.mono x1) (wpG.mono x1 w)
theorem lcf_ok {K : PySem.W.Frag} {J : It} {src : HP → Option (List MV)} {all : List MV} {P : List Addr → Hp → Prop} {tg : Tg} {vs : List Nat} {tt f : EN → HP → R MV} {r : List Addr} {H : Hp} {h : HP} {e : EN} {σ : L2.St} {Q : VK} {Y : XK}
    (L : Lk K cA cF J src all P) (p : P r H) (E : Emb K cA cF H r h) (n : REn K cA cF H r e σ) (w : wpR K cA cF r H (lcF tg src all tt f (wipE e vs) h all []) Q Y) :
    ∀ D, H D = none → ∃ Wi : Nat → Nat → Hp → Prop, (∃ m, Wi 0 m (upd H D (.lst []))) ∧ ∀ i m H, Wi i m H →
      (J.stop i H ∧ Q (.ref D) H) ∨ (J.go i H ∧ ∃ Nx : Hp → Prop, (∀ H', Nx H' → ∃ m', m' < m ∧ Wi (i + 1) m' H') ∧ ∀ x H', J.yld i H x H' → tGw K cA cF vs tg x (L2.wipe σ vs) H' fun σ2 H2 => L2.wipe σ2 vs = L2.wipe σ vs ∧ tTt K cA cF noW tt σ2 H2 fun b H3 =>
        if b = true then tE K cA cF noW f σ2 H3 fun y H4 => ∃ acc, H4 D = some (.lst acc) ∧ acc.length < sizeLine ∧ Nx (upd H4 D (.lst (acc ++ [y]))) else Nx H3) := by
  intro D hD
  obtain ⟨x0, E0⟩ := E.cell hD (xs := []) (vs := []) (by simp only [Reps])
  refine ⟨fun i m Hc => m = all.length - i ∧ i ≤ all.length ∧ ∃ acc, Ext r H (r ++ [D]) Hc ∧ Emb K cA cF Hc (r ++ [D]) (h ++ [.lst acc]) ∧ lows h.length acc = true ∧ wpR K cA cF r H (lcF tg src all tt f (wipE e vs) h (all.drop i) acc) Q Y,
    ⟨all.length, by simp, Nat.zero_le _, [], x0, E0, by simp only [lows], by simpa using w⟩, ?_⟩
  rintro i m Hc ⟨rfl, hi, acc, xc, Ec, lo, w⟩
  have hDn : D ∉ r := fun z => by
    have := Ec.nd
    rw [List.nodup_append] at this
    exact this.2.2 D z D (by simp) rfl
  have atD : (h ++ [MO.lst acc])[h.length]? = some (.lst acc) := by simp
  have rD : (r ++ [D])[h.length]? = some D := by rw [← E.len]; simp
  obtain ⟨av, hav, rav⟩ := Ec.at_ h.length (.lst acc) D atD rD
  by_cases hlt : i < all.length
  · have ed : all.drop i = all[i] :: all.drop (i + 1) := List.drop_eq_getElem_cons hlt
    rw [ed] at w
    unfold lcF at w
    by_cases hs : src (h ++ [.lst acc]) = some all
    · rw [if_pos hs] at w
      obtain ⟨g1, g2⟩ := L.go (r ++ [D]) Hc _ i all[i] (L.mono _ _ _ _ p xc) Ec hs (by simp [hlt])
      refine .inr ⟨g1, _, fun H' z => ⟨all.length - (i + 1), by omega, rfl, hlt, z⟩, fun V H' y => ?_⟩
      obtain ⟨x1, E1, p1⟩ := g2 V H' y
      cases q : setG tg all[i] (wipE e vs) with
      | none => rw [q] at w; exact w.elim
      | some e' =>
        rw [q] at w
        refine ⟨r ++ [D], wipE e vs, _, all[i], e', E1, ((n.mono xc).mono x1).wipe vs, p1, q, fun σ' n' hw => ⟨by rw [hw, wipe_wipe σ vs vs fun v hv => hv], ?_⟩⟩
        refine ⟨r ++ [D], e', _, E1, n', ?_⟩
        cases qt : tt e' (h ++ [.lst acc]) with
        | bad => simp only [qt] at w; exact w.elim
        | exc x h2 => simp only [qt] at w; exact w.elim
        | ok tb h1 =>
          cases tb with
          | bl b =>
            simp only [qt] at w
            split at w
            · rename_i hh1
              subst hh1
              intro r3 H3 x3 E3
              have pre3 : r3 = r ++ [D] := by
                obtain ⟨t, et⟩ := x3.pre
                have l2 := E3.len
                have l3 := E1.len
                rw [et, List.length_append, l3] at l2
                have : t = [] := List.eq_nil_of_length_eq_zero (by omega)
                rw [et, this, List.append_nil]
              subst pre3
              cases b with
              | false =>
                rw [if_neg Bool.false_ne_true] at w ⊢
                exact ⟨acc, ((xc.trans x1).trans x3), E3, lo, w⟩
              | true =>
                rw [if_pos rfl] at w ⊢
                refine ⟨r ++ [D], e', _, E3, n'.mono x3, ?_⟩
                cases q2 : f e' (h ++ [.lst acc]) with
                | bad => simp only [q2] at w; exact w.elim
                | exc x h2 => simp only [q2] at w; exact w.elim
                | ok y h2 =>
                  simp only [q2] at w
                  split at w
                  · rename_i hh
                    obtain ⟨rfl, ly, la⟩ := hh
                    intro r2 H4 U x2 E2 p2
                    obtain ⟨t, et⟩ := x2.pre
                    have ht : t = [] := by
                      have l2 := E2.len
                      have l3 := E1.len
                      rw [et, List.length_append, l3] at l2
                      exact List.eq_nil_of_length_eq_zero (by omega)
                    subst ht
                    rw [List.append_nil] at et
                    subst et
                    obtain ⟨bv, hbv, rbv⟩ := E2.at_ h.length (.lst acc) D atD rD
                    refine ⟨bv, hbv, by rw [rbv.length, ← sz_eq]; exact la, ?_⟩
                    have q3 : Reps K cA cF H4 (r ++ [D]) (acc ++ [y]) (bv ++ [U]) := rbv.append (by simp only [Reps]; exact ⟨U, [], rfl, p2, rfl⟩)
                    obtain ⟨y1, y2⟩ := E2.write rD q3
                    have es : (h ++ [MO.lst acc]).set h.length (.lst (acc ++ [y])) = h ++ [.lst (acc ++ [y])] := by
                      rw [List.set_append_right _ _ (Nat.le_refl _)]; simp
                    rw [es] at y2
                    refine ⟨acc ++ [y], (((xc.trans x1).trans x3).trans x2).trans y1, y2, ?_, w⟩
                    rw [lows_app, lo]
                    simp only [lows, ly, Bool.and_true]
                  · exact w.elim
            · exact w.elim
          | _ => simp only [qt] at w; exact w.elim
    · rw [if_neg hs] at w; exact w.elim
  · have ei : i = all.length := by omega
    subst ei
    rw [List.drop_length] at w
    unfold lcF at w
    by_cases hs : src (h ++ [.lst acc]) = some all
    · rw [if_pos hs] at w
      have E2 := Emb.cut Ec E (by simp)
      have x2 : Ext r H r Hc := ⟨⟨[], by simp⟩, fun a o e n => ⟨(xc.keep a o e n).1, n⟩⟩
      refine .inl ⟨L.stop _ _ _ (L.mono _ _ _ _ p xc) Ec hs, w r Hc _ x2 E2 ?_⟩
      simp only [Rep]
      exact ⟨D, av, rfl, .inl ⟨hDn, .inl hav⟩, Reps.low _ _ (by rw [E.len]; exact lo) rav⟩
    · rw [if_neg hs] at w; exact w.elim
theorem lcf_imp {K : PySem.W.Frag} {tg : Tg} {vs : List Nat} {tt f : EN → HP → R MV} {g : EN → HP → R IR} {σ : L2.St} {H : Hp} {Q : VK}
    (q : tE K cA cF W (fun e h => (g e h).bind fun p h => lcF tg p.2 p.1 tt f (wipE e vs) h p.1 []) σ H Q) : tLc (tI K cA cF W g) (tGw K cA cF vs tg) (tTt K cA cF noW tt) (tE K cA cF noW f) vs σ H Q := by
  obtain ⟨r, e, h, E, n, w⟩ := q
  refine ⟨r, e, h, E, n, ?_⟩
  cases q : g e h with
  | bad => simp only [q] at w; exact w
  | exc y h1 => simp only [q] at w; exact w
  | ok p h1 =>
    simp only [q, R.bind_ok] at w
    intro r1 H1 J P x1 E1 p1 L
    exact lcf_ok L p1 E1 (n.mono x1) (wpG.mono x1 w)
variable (FC : Fc X.prog X.w X.K X.mg X.base cA cF T C k c) (G : Gd X c k) (tk : TakesF X W)
include FC G tk
include FC G in
omit tk in
theorem pcs_ok : ∀ (ds : List Nat) (ys : List Expr), ckCs c ds ys = true → PA X ys (tCs (ds.map fun d => V.ref (cA d)))
  | [], ys, hh => by
    cases ys with
    | cons _ _ => simp [ckCs] at hh
    | nil => exact PAimp pa_nil fun σ H Q q => q
  | d :: ds, ys, hh => by
    unfold ckCs at hh
    split at hh <;> first | (cases hh; done) | skip
    simp only [Bool.and_eq_true, decide_eq_true_eq] at hh
    obtain ⟨⟨h1, h2⟩, h3⟩ := hh
    obtain ⟨m1, m2⟩ := FC.cl _ _ h1
    obtain ⟨g1, g2⟩ := gl_of G h2
    exact PAimp (pa_cons (pe_glob (v := .ref (cA d)) g1 m1 rfl g2) (pcs_ok ds _ h3) rfl) fun σ H Q q => q
end
section
variable {cA : Nat → Addr} {cF : Nat → List Str} {T : Tab} {C : Nat → List MV → HP → R MV} {k : Nat}
mutual
theorem sndA : ∀ (e : E) (X : Cx) (c : Ck) (W : WX) (FC : Fc X.prog X.w X.K X.mg X.base cA cF T C k c) (G : Gd X c k) (tk : TakesF X W) (x : Expr), ckE c e x = true → PE X x (tE X.K cA cF W (evE T C e)) ∧ (tsB x = true → PT X x (tTt X.K cA cF W (evE T C e))) ∧ (isBO x = true → PW X x (tTt X.K cA cF W (evE T C e)))
  | .var i, X, c, W, FC, G, tk, x, hh => by
    unfold ckE at hh
    split at hh <;> first | (cases hh; done) | skip
    refine fin3 ?_ rfl
    simp only [Bool.and_eq_true, decide_eq_true_eq, Bool.not_eq_true'] at hh
    obtain ⟨⟨⟨h1, h2⟩, h3⟩, h4⟩ := hh
    refine PEimp (pe_var (i := i) (by rw [G.hN]; exact h1) (by rw [G.sc]; exact vis_of h2) h3 h4) fun σ H Q q => ?_
    obtain ⟨r, e, h, E, n, w⟩ := q
    simp only [evE] at w
    split at w
    · rename_i v he
      obtain ⟨V, k1, k2⟩ := n.at_ i v he
      exact ⟨V, k1, w r H V Ext.refl E k2⟩
    · exact w.elim
  | .cI i, X, c, W, FC, G, tk, x, hh => by
    unfold ckE at hh
    split at hh <;> first | (cases hh; done) | skip
    refine fin3 ?_ rfl
    simp only [decide_eq_true_eq] at hh
    subst hh
    simpa only [evE] using pe_cst pe_int (fun _ _ => rep_int)
  | .cS i, X, c, W, FC, G, tk, x, hh => by
    unfold ckE at hh
    split at hh <;> first | (cases hh; done) | skip
    refine fin3 ?_ rfl
    simp only [decide_eq_true_eq] at hh
    subst hh
    simpa only [evE] using pe_cst pe_str (fun _ _ => rep_str)
  | .cB i, X, c, W, FC, G, tk, x, hh => by
    unfold ckE at hh
    split at hh <;> first | (cases hh; done) | skip
    refine fin3 ?_ rfl
    simp only [beq_iff_eq] at hh
    subst hh
    simpa only [evE] using pe_cst pe_bl (fun _ _ => rep_bl)
  | .cN, X, c, W, FC, G, tk, x, hh => by
    unfold ckE at hh
    split at hh <;> first | (cases hh; done) | skip
    refine fin3 ?_ rfl
    simpa only [evE] using pe_cst pe_non (fun _ _ => rep_non)
  | .gI y i, X, c, W, FC, G, tk, x, hh => by
    unfold ckE at hh
    split at hh <;> first | (cases hh; done) | skip
    refine fin3 ?_ rfl
    simp only [Bool.and_eq_true, decide_eq_true_eq] at hh
    obtain ⟨⟨rfl, h2⟩, h3⟩ := hh
    obtain ⟨t, h4⟩ := FC.gi _ _ h3
    obtain ⟨g1, g2⟩ := gl_of G h2
    simpa only [evE] using pe_cst (pe_glob (v := .int i) g1 h4 ⟨t, rfl⟩ g2) (fun _ _ => rep_int)
  | .gS y i, X, c, W, FC, G, tk, x, hh => by
    unfold ckE at hh
    split at hh <;> first | (cases hh; done) | skip
    refine fin3 ?_ rfl
    simp only [Bool.and_eq_true, decide_eq_true_eq] at hh
    obtain ⟨⟨rfl, h2⟩, h3⟩ := hh
    obtain ⟨t, h4⟩ := FC.gs _ _ h3
    obtain ⟨g1, g2⟩ := gl_of G h2
    simpa only [evE] using pe_cst (pe_glob (v := .str i) g1 h4 ⟨t, rfl⟩ g2) (fun _ _ => rep_str)
  | .neg a, X, c, W, FC, G, tk, x, hh => by
    unfold ckE at hh
    split at hh <;> first | (cases hh; done) | skip
    refine ⟨?_, fun z => (by cases z), fun z => (by cases z)⟩
    simp only [evE]
    refine una_use (pe_un un_neg (sndA a X c W FC G tk _ hh).1) fun r H h va A Q Y E p w => ?_
    split at w
    · simp only [Rep] at p
      exact ⟨_, p, w r H _ Ext.refl E rep_int⟩
    · exact w.elim
  | .not a, X, c, W, FC, G, tk, x, hh => by
    unfold ckE at hh
    split at hh <;> first | (cases hh; done) | skip
    simp only [Bool.and_eq_true] at hh
    obtain ⟨hts, hh⟩ := hh
    refine ⟨?_, fun _ => ?_, fun z => (by cases z)⟩
    · simp only [evE]
      refine una_use (rr := fun x H Q => ∃ c, x = .bl c ∧ Q (.bl (!c)) H) (pe_not (sndA a X c W FC G tk _ hh).1) fun r H h va A Q Y E p w => ?_
      split at w
      · simp only [Rep] at p
        exact ⟨_, p, w r H _ Ext.refl E rep_bl⟩
      · exact w.elim
    · simp only [evE]
      refine PTimp (pt_not ((sndA a X c W FC G tk _ hh).2.1 hts)) fun σ H Q q => ?_
      obtain ⟨r, e, h, E, n, w⟩ := q
      refine ⟨r, e, h, E, n, ?_⟩
      dsimp only at w
      cases q : evE T C a e h with
      | bad => rw [q] at w; exact w.elim
      | exc y h1 => rw [q] at w; exact w
      | ok v h1 =>
        rw [q] at w
        cases v <;> first | exact w.elim | skip
        exact w
  | .bin o a b, X, c, W, FC, G, tk, x, hh => by
    unfold ckE at hh
    split at hh <;> first | (cases hh; done) | skip
    refine ⟨?_, fun z => (by cases z), fun z => (by cases z)⟩
    simp only [Bool.and_eq_true] at hh
    obtain ⟨⟨h1, h2⟩, h3⟩ := hh
    simp only [evE]
    exact bin_use (pe_op (binop_ok G.deep h1) (sndA a X c W FC G tk _ h2).1 (sndA b X c W FC G tk _ h3).1) fun r H h va vb A B Q Y E p1 p2 w => wpR_of E p1 p2 w
  | .cmp o a b, X, c, W, FC, G, tk, x, hh => by
    unfold ckE at hh
    split at hh <;> first | (cases hh; done) | skip
    simp only [Bool.and_eq_true, Bool.not_eq_true'] at hh
    obtain ⟨⟨⟨h1, h0⟩, h2⟩, h3⟩ := hh
    refine ⟨?_, fun _ => ?_, fun z => (by cases z)⟩
    · simp only [evE]
      exact bin_use (pe_cmpR (cmpop_ok G.rm.units h1) (sndA a X c W FC G tk _ h2).1 (sndA b X c W FC G tk _ h3).1 h0) fun r H h va vb A B Q Y E p1 p2 w => wpR_ofB E p1 p2 w
    · simp only [evE]
      refine PTimp (pt_cmpR (cmpop_ok (cA := cA) (cF := cF) G.rm.units h1) (sndA a X c W FC G tk _ h2).1 (sndA b X c W FC G tk _ h3).1 h0) fun σ H Q q => ?_
      obtain ⟨r, e, h, E, n, w⟩ := q
      have w2 := tt_wp w
      refine stepE E n w2 fun r1 H1 h1 va A x1 E1 n1 p1 w1 => ?_
      refine stepE E1 n1 w1 fun r2 H2 h2 vb B x2 E2 n2 p2 w3 => ?_
      exact wpR_ofB E2 (Rep.mono x2 _ _ p1) p2 w3
  | .chn o p a b d, X, c, W, FC, G, tk, x, hh => by
    unfold ckE at hh
    split at hh <;> first | (cases hh; done) | skip
    simp only [Bool.and_eq_true, Bool.not_eq_true'] at hh
    obtain ⟨⟨⟨⟨⟨h1, h2⟩, h0⟩, h3⟩, h4⟩, h5⟩ := hh
    refine ⟨?_, fun _ => ?_, fun z => (by cases z)⟩
    · simp only [evE]
      refine PEimp (pe_chain (cmpop_ok (cA := cA) (cF := cF) G.rm.units h1) (cmpop_ok (cA := cA) (cF := cF) G.rm.units h2) (sndA a X c W FC G tk _ h3).1 (sndA b X c W FC G tk _ h4).1 (sndA d X c W FC G tk _ h5).1 h0) fun σ H Q q => ?_
      obtain ⟨r, e, h, E, n, w⟩ := q
      refine stepE E n w fun r1 H1 h1 va A x1 E1 n1 p1 w1 => ?_
      refine stepE E1 n1 w1 fun r2 H2 h2 vb B x2 E2 n2 p2 w2 => ?_
      cases g : cmpV h2 o va vb with
      | none => rw [g] at w2; exact w2.elim
      | some t =>
        rw [g] at w2
        refine ⟨r2, h2, va, vb, t, E2, Rep.mono x2 _ _ p1, p2, g, t, rfl, ?_⟩
        cases t with
        | false => rw [if_neg Bool.false_ne_true]; exact w2 r2 H2 _ Ext.refl E2 rep_bl
        | true =>
          rw [if_pos rfl]
          refine stepE E2 n2 w2 fun r3 H3 h3 vd D x3 E3 n3 p3 w3 => ?_
          exact wpR_ofB E3 (Rep.mono x3 _ _ p2) p3 w3
    · simp only [evE]
      refine PTimp (pt_chain (cmpop_ok (cA := cA) (cF := cF) G.rm.units h1) (cmpop_ok (cA := cA) (cF := cF) G.rm.units h2) (sndA a X c W FC G tk _ h3).1 (sndA b X c W FC G tk _ h4).1 (sndA d X c W FC G tk _ h5).1 h0) fun σ H Q q => ?_
      obtain ⟨r, e, h, E, n, w⟩ := q
      have w2 := tt_wp w
      refine stepE E n w2 fun r1 H1 h1 va A x1 E1 n1 p1 w1 => ?_
      refine stepE E1 n1 w1 fun r2 H2 h2 vb B x2 E2 n2 p2 w2 => ?_
      cases g : cmpV h2 o va vb with
      | none => rw [g] at w2; exact w2.elim
      | some t =>
        rw [g] at w2
        refine ⟨r2, h2, va, vb, t, E2, Rep.mono x2 _ _ p1, p2, g, t, rfl, ?_⟩
        cases t with
        | false => rw [if_neg Bool.false_ne_true]; exact w2 r2 H2 _ Ext.refl E2 rep_bl
        | true =>
          rw [if_pos rfl]
          refine stepE E2 n2 w2 fun r3 H3 h3 vd D x3 E3 n3 p3 w3 => ?_
          exact wpR_ofB E3 (Rep.mono x3 _ _ p2) p3 w3
  | .and a b, X, c, W, FC, G, tk, x, hh => by
    unfold ckE at hh
    split at hh <;> first | (cases hh; done) | skip
    rename_i f g rr pos
    simp only [Bool.and_eq_true] at hh
    obtain ⟨⟨h0, h1⟩, h2⟩ := hh
    have hw : PW X (.BoolOp .And (g :: rr) pos) (tTt X.K cA cF W (evE T C b)) := by
      split at h2
      · exact pw_and1 ((sndA b X c W FC G tk _ (and_r h2)).2.1 (and_l h2))
      · exact (sndA b X c W FC G tk _ h2).2.2 rfl
    have key : PW X (.BoolOp .And (f :: g :: rr) pos) (tTt X.K cA cF W (evE T C (.and a b))) := by
      simp only [evE]
      refine PWimp (pw_and ((sndA a X c W FC G tk _ h1).2.1 h0) hw) fun σ H Q q => ?_
      obtain ⟨r, e, h, E, n, w⟩ := q
      refine ⟨r, e, h, E, n, ?_⟩
      dsimp only at w
      cases q : evE T C a e h with
      | bad => rw [q] at w; exact w.elim
      | exc y h1 => rw [q] at w; exact w
      | ok v h1 =>
        rw [q] at w
        cases v <;> first | exact w.elim | skip
        rename_i bb
        intro r1 H1 x1 E1
        cases bb with
        | false => rw [if_neg Bool.false_ne_true]; exact w r1 H1 x1 E1
        | true =>
          rw [if_pos rfl]
          refine ⟨r1, e, h1, E1, n.mono x1, ?_⟩
          simp only [R.bind_ok] at w
          cases q2 : evE T C b e h1 with
          | bad => rw [q2] at w; exact w.elim
          | exc y h2 => rw [q2] at w; exact fun r' H' cls d e1 e2 e3 => w r' H' cls d (x1.trans e1) e2 e3
          | ok v h2 =>
            rw [q2] at w
            cases v <;> first | exact w.elim | skip
            exact fun r' H' e1 e2 => w r' H' (x1.trans e1) e2
    refine ⟨?_, fun _ => key.pt, fun _ => key⟩
    have hb : PE X (.BoolOp .And (g :: rr) pos) (tE X.K cA cF W (evE T C b)) := by
      split at h2
      · exact pe_one (sndA b X c W FC G tk _ (and_r h2)).1
      · exact (sndA b X c W FC G tk _ h2).1
    simp only [evE]
    refine PEimp (pe_and (sndA a X c W FC G tk _ h1).1 hb) fun σ H Q q => ?_
    obtain ⟨r, e, h, E, n, w⟩ := q
    refine stepE E n w fun r1 H1 h1 va A x1 E1 n1 p1 w1 => ?_
    split at w1
    · simp only [Rep] at p1
      refine ⟨true, p1, ?_⟩
      rw [if_pos rfl]
      refine stepE E1 n1 w1 fun r2 H2 h2 vb B x2 E2 n2 p2 w2 => ?_
      split at w2
      · simp only [Rep] at p2; subst p2; exact w2 r2 H2 _ Ext.refl E2 rep_bl
      · exact w2.elim
    · simp only [Rep] at p1
      refine ⟨false, p1, ?_⟩
      rw [if_neg Bool.false_ne_true]
      exact w1 r1 H1 _ Ext.refl E1 rep_bl
    · exact w1.elim
  | .or a b, X, c, W, FC, G, tk, x, hh => by
    unfold ckE at hh
    split at hh <;> first | (cases hh; done) | skip
    rename_i f g rr pos
    simp only [Bool.and_eq_true] at hh
    obtain ⟨⟨h0, h1⟩, h2⟩ := hh
    have hw : PW X (.BoolOp .Or (g :: rr) pos) (tTt X.K cA cF W (evE T C b)) := by
      split at h2
      · exact pw_or1 ((sndA b X c W FC G tk _ (and_r h2)).2.1 (and_l h2))
      · exact (sndA b X c W FC G tk _ h2).2.2 rfl
    have key : PW X (.BoolOp .Or (f :: g :: rr) pos) (tTt X.K cA cF W (evE T C (.or a b))) := by
      simp only [evE]
      refine PWimp (pw_or ((sndA a X c W FC G tk _ h1).2.1 h0) hw) fun σ H Q q => ?_
      obtain ⟨r, e, h, E, n, w⟩ := q
      refine ⟨r, e, h, E, n, ?_⟩
      dsimp only at w
      cases q : evE T C a e h with
      | bad => rw [q] at w; exact w.elim
      | exc y h1 => rw [q] at w; exact w
      | ok v h1 =>
        rw [q] at w
        cases v <;> first | exact w.elim | skip
        rename_i bb
        intro r1 H1 x1 E1
        cases bb with
        | true => rw [if_pos rfl]; exact w r1 H1 x1 E1
        | false =>
          rw [if_neg Bool.false_ne_true]
          refine ⟨r1, e, h1, E1, n.mono x1, ?_⟩
          simp only [R.bind_ok] at w
          cases q2 : evE T C b e h1 with
          | bad => rw [q2] at w; exact w.elim
          | exc y h2 => rw [q2] at w; exact fun r' H' cls d e1 e2 e3 => w r' H' cls d (x1.trans e1) e2 e3
          | ok v h2 =>
            rw [q2] at w
            cases v <;> first | exact w.elim | skip
            exact fun r' H' e1 e2 => w r' H' (x1.trans e1) e2
    refine ⟨?_, fun _ => key.pt, fun _ => key⟩
    have hb : PE X (.BoolOp .Or (g :: rr) pos) (tE X.K cA cF W (evE T C b)) := by
      split at h2
      · exact pe_one (sndA b X c W FC G tk _ (and_r h2)).1
      · exact (sndA b X c W FC G tk _ h2).1
    simp only [evE]
    refine PEimp (pe_or (sndA a X c W FC G tk _ h1).1 hb) fun σ H Q q => ?_
    obtain ⟨r, e, h, E, n, w⟩ := q
    refine stepE E n w fun r1 H1 h1 va A x1 E1 n1 p1 w1 => ?_
    split at w1
    · simp only [Rep] at p1
      refine ⟨false, p1, ?_⟩
      rw [if_neg Bool.false_ne_true]
      refine stepE E1 n1 w1 fun r2 H2 h2 vb B x2 E2 n2 p2 w2 => ?_
      split at w2
      · simp only [Rep] at p2; subst p2; exact w2 r2 H2 _ Ext.refl E2 rep_bl
      · exact w2.elim
    · simp only [Rep] at p1
      refine ⟨true, p1, ?_⟩
      rw [if_pos rfl]
      exact w1 r1 H1 _ Ext.refl E1 rep_bl
    · exact w1.elim
  | .ife t a b, X, c, W, FC, G, tk, x, hh => by
    unfold ckE at hh
    split at hh <;> first | (cases hh; done) | skip
    refine ⟨?_, fun z => (by cases z), fun z => (by cases z)⟩
    simp only [Bool.and_eq_true] at hh
    obtain ⟨⟨⟨h0, h1⟩, h2⟩, h3⟩ := hh
    simp only [evE]
    refine PEimp (pe_ifExp ((sndA t X c W FC G tk _ h1).2.1 h0) (sndA a X c W FC G tk _ h2).1 (sndA b X c W FC G tk _ h3).1) fun σ H Q q => ?_
    obtain ⟨r, e, h, E, n, w⟩ := q
    refine ⟨r, e, h, E, n, ?_⟩
    dsimp only at w
    cases q : evE T C t e h with
    | bad => rw [q] at w; exact w.elim
    | exc y h1 => rw [q] at w; exact w
    | ok v h1 =>
      rw [q] at w
      cases v <;> first | exact w.elim | skip
      rename_i bb
      intro r1 H1 x1 E1
      cases bb with
      | true => rw [if_pos rfl]; exact ⟨r1, e, h1, E1, n.mono x1, wpG.mono x1 w⟩
      | false => rw [if_neg Bool.false_ne_true]; exact ⟨r1, e, h1, E1, n.mono x1, wpG.mono x1 w⟩
  | .tup es, X, c, W, FC, G, tk, x, hh => by
    unfold ckE at hh
    split at hh <;> first | (cases hh; done) | skip
    refine ⟨?_, fun z => (by cases z), fun z => (by cases z)⟩
    simp only [evE]
    refine PEimp (pe_tup (sndEsA es X c W FC G tk _ hh)) fun σ H Q q => ?_
    obtain ⟨r, e, h, E, n, w⟩ := q
    refine stepA E n w fun r1 H1 h1 vs VS x1 E1 n1 p1 w1 => ?_
    split at w1
    · rename_i hl
      refine ⟨by rw [p1.length, ← sz_eq]; exact hl, fun p hp => ?_⟩
      obtain ⟨y1, y2, y3⟩ := new_tup E1 hp p1
      exact w1 _ _ _ y1 y2 y3
    · exact w1.elim
  | .lst es, X, c, W, FC, G, tk, x, hh => by
    unfold ckE at hh
    split at hh <;> first | (cases hh; done) | skip
    refine ⟨?_, fun z => (by cases z), fun z => (by cases z)⟩
    simp only [evE]
    refine PEimp (pe_lst (sndEsA es X c W FC G tk _ hh)) fun σ H Q q => ?_
    obtain ⟨r, e, h, E, n, w⟩ := q
    refine stepA E n w fun r1 H1 h1 vs VS x1 E1 n1 p1 w1 => ?_
    split at w1
    · rename_i hl
      refine ⟨by rw [p1.length, ← sz_eq]; exact hl, fun p hp => ?_⟩
      obtain ⟨y1, y2, y3⟩ := new_lst E1 hp p1
      exact w1 _ _ _ y1 y2 y3
    · exact w1.elim
  | .cel es, X, c, W, FC, G, tk, x, hh => by
    unfold ckE at hh
    split at hh <;> first | (cases hh; done) | skip
    refine ⟨?_, fun z => (by cases z), fun z => (by cases z)⟩
    simp only [evE]
    refine PEimp (pe_lst (sndEsA es X c W FC G tk _ hh)) fun σ H Q q => ?_
    obtain ⟨r, e, h, E, n, w⟩ := q
    refine stepA E n w fun r1 H1 h1 vs VS x1 E1 n1 p1 w1 => ?_
    split at w1
    · rename_i hl
      refine ⟨by rw [p1.length, ← sz_eq]; exact hl, fun p hp => ?_⟩
      obtain ⟨y1, y2⟩ := E1.cell hp p1
      refine w1 _ _ _ y1 y2 ?_
      simp only [Rep]
      exact ⟨p, rfl, by rw [← E1.len]; simp⟩
    · exact w1.elim
  | .idx a i, X, c, W, FC, G, tk, x, hh => by
    unfold ckE at hh
    split at hh <;> first | (cases hh; done) | skip
    refine fin3 ?_ rfl
    simp only [Bool.and_eq_true] at hh
    obtain ⟨⟨h1, h2⟩, h3⟩ := hh
    simp only [evE]
    exact bin_use (pe_ix ix_ok (sndA a X c W FC G tk _ h2).1 (sndA i X c W FC G tk _ h3).1 (plix h1)) fun r H h va vb A B Q Y E p1 p2 w => wpR_of E p1 p2 w
  | .slc a l u, X, c, W, FC, G, tk, x, hh => by
    unfold ckE at hh
    split at hh <;> first | (cases hh; done) | skip
    refine fin3 ?_ rfl
    rename_i f g pos' pos
    simp only [Bool.and_eq_true] at hh
    obtain ⟨⟨h1, h2⟩, h3⟩ := hh
    simp only [evE]
    have part : ∀ (z : E) (f : Option Expr), (∀ x, ckE c z x = true → PE X x (tE X.K cA cF W (evE T C z))) → (match f with
      | none => isN z
      | some f => ckE c z f && !isN z) = true → PO X f (tO X.K cA cF W fun e h => if isN z then .ok none h else (evE T C z e h).bind fun v h => R.of (pI v) h) := by
      intro z f hz hf
      cases f with
      | none =>
        have hf : isN z = true := hf
        refine POimp po_none fun σ H Q q => ?_
        obtain ⟨r, e, h, E, n, w⟩ := q
        dsimp only at w
        rw [if_pos hf] at w
        exact w r H none Ext.refl E rfl
      | some f =>
        have hf : (ckE c z f && !isN z) = true := hf
        simp only [Bool.and_eq_true, Bool.not_eq_true'] at hf
        refine POimp (po_some (hz f hf.1)) fun σ H Q q => ?_
        obtain ⟨r, e, h, E, n, w⟩ := q
        simp only [hf.2, Bool.false_eq_true, if_false] at w
        refine stepE E n w fun r1 H1 h1 v V x1 E1 n1 p1 w1 => ?_
        cases v <;> first | exact w1.elim | skip
        simp only [Rep] at p1
        exact ⟨_, p1, w1 r1 H1 _ Ext.refl E1 rfl⟩
    refine PEimp (pe_slice (L2.SlR.or sl_list sl_str) (sndA a X c W FC G tk _ h1).1 (part l f (fun x h => (sndA l X c W FC G tk x h).1) h2) (part u g (fun x h => (sndA u X c W FC G tk x h).1) h3)) fun σ H Q q => ?_
    obtain ⟨r, e, h, E, n, w⟩ := q
    refine stepE E n w fun r1 H1 h1 va A x1 E1 n1 p1 w1 => ?_
    refine stepO E1 n1 w1 fun r2 H2 h2 lo x2 E2 n2 w2 => ?_
    refine stepO E2 n2 w2 fun r3 H3 h3 hi x3 E3 n3 w3 => ?_
    cases g : slcV h3 va lo hi with
    | none => rw [g] at w3; exact w3.elim
    | some z =>
      rw [g] at w3
      unfold slcV at g
      split at g
      · split at g
        · rename_i hz
          cases g
          simp only [Rep] at p1
          exact .inr ⟨_, p1, by rw [← sz_eq]; exact hz, w3 _ _ _ Ext.refl E3 rep_str⟩
        · cases g
      left
      obtain ⟨xs, e1, e2⟩ := Option.map_eq_some_iff.mp g
      subst e2
      obtain ⟨b, vs, rfl, l1, q1⟩ := getL_ok E3 e1 (Rep.mono (x2.trans x3) _ _ p1)
      refine ⟨b, vs, rfl, sq_of l1, fun p hp => ?_⟩
      obtain ⟨y1, y2, y3⟩ := new_lst E3 hp (q1.cut (lo := lo) (hi := hi))
      exact w3 _ _ _ y1 y2 y3
  | .call f es, X, c, W, FC, G, tk, x, hh => by
    unfold ckE at hh
    split at hh <;> first | (cases hh; done) | skip
    refine fin3 ?_ rfl
    rename_i y p xs pos
    simp only [Bool.and_eq_true, decide_eq_true_eq] at hh
    obtain ⟨⟨h1, h2⟩, h3⟩ := hh
    obtain ⟨a, fd, ps, F, m1, m2, m3⟩ := FC.fn f _ h1
    obtain ⟨g1, g2⟩ := gl_of G h2
    simp only [evE]
    have use : ∀ {x : Expr}, PE X x (tCallS (spR X.K cA cF C f) (WE W) (tAs X.K cA cF W (evEs T C es))) → PE X x (tE X.K cA cF W fun e h => (evEs T C es e h).bind fun xs h => C f xs h) := fun p => PEimp p fun σ H Q q => by
      obtain ⟨r, e, h, E, n, w⟩ := q
      refine stepA E n w fun r1 H1 h1 vs VS x1 E1 n1 p1 w1 => ?_
      exact ⟨r1, vs, h1, E1, p1, w1⟩
    cases xs with
    | nil =>
      refine use (PEimp (pe_callS0 F (G.rm.mono (Nat.le_succ k)) g1 m1 m2 m3 (fun σ => passF tk σ) g2) fun σ H Q q => ?_)
      cases es with
      | cons _ _ => simp [ckEs] at h3
      | nil =>
        obtain ⟨r, e, h, E, n, w⟩ := q
        simp only [evEs] at w
        exact w r H [] Ext.refl E (by simp only [Reps])
    | cons z zs =>
      have hs : noStar z = true := by
        cases es with
        | nil => simp [ckEs] at h3
        | cons b bs => simp only [ckEs, Bool.and_eq_true] at h3; exact h3.1.1
      have hany : (backTo pos (starEach zs X.env)).any (·.1) = false := by
        cases es with
        | nil => simp [ckEs] at h3
        | cons b bs => simp only [ckEs, Bool.and_eq_true] at h3; exact star_any h3.2
      exact use (pe_callS F (G.rm.mono (Nat.le_succ k)) g1 m1 m2 m3 (fun σ => passF tk σ) (sndEsA es X c W FC G tk _ h3) g2 (star_cons hs) hany)
  | .bi b es, X, c, W, FC, G, tk, x, hh => by
    unfold ckE at hh
    split at hh <;> first | (cases hh; done) | skip
    refine fin3 ?_ rfl
    rename_i y p z zs pos
    simp only [Bool.and_eq_true, decide_eq_true_eq] at hh
    obtain ⟨⟨⟨rfl, h1⟩, h2⟩, h3⟩ := hh
    obtain ⟨g1, g2⟩ := gl_of G h1
    have hm := FC.free _ h2
    have hs : noStar z = true := by
      cases es with
      | nil => simp [ckEs] at h3
      | cons b bs => simp only [ckEs, Bool.and_eq_true] at h3; exact h3.1.1
    have hany : (backTo pos (starEach zs X.env)).any (·.1) = false := by
      cases es with
      | nil => simp [ckEs] at h3
      | cons b bs => simp only [ckEs, Bool.and_eq_true] at h3; exact star_any h3.2
    simp only [evE]
    have use : ∀ {x : Expr}, PE X x (tCB (rBi X.K cA cF fun h => biV h b) (tAs X.K cA cF W (evEs T C es))) → PE X x (tE X.K cA cF W fun e h => (evEs T C es e h).bind fun xs h => R.of (biV h b xs) h) := fun p => PEimp p fun σ H Q q => by
      obtain ⟨r, e, h, E, n, w⟩ := q
      refine stepA E n w fun r1 H1 h1 vs VS x1 E1 n1 p1 w1 => ?_
      cases g : biV h1 b vs with
      | none => rw [g] at w1; exact w1.elim
      | some z => rw [g] at w1; exact ⟨r1, h1, vs, z, E1, p1, g, w1⟩
    have fn : ∀ {id : String}, biVal b = .builtin id → bootBuiltins (Str.ofString (biN b)) = some (.builtin id) → Str.ofString (biN b) ≠ "__name__" → PE X (.Call (.Name (Str.ofString (biN b)) p) (z :: zs) [] pos) (tE X.K cA cF W fun e h => (evEs T C es e h).bind fun xs h => R.of (biV h b xs) h) := fun e1 e2 e3 =>
      use (pe_callB (by rw [← e1]; exact bi_ok G.calm b) g1 hm e2 (sndEsA es X c W FC G tk _ h3) e3 g2 (star_cons hs) hany)
    have ty : ∀ {id : String}, biVal b = .type id → bootBuiltins (Str.ofString (biN b)) = some (.type id) → Str.ofString (biN b) ≠ "__name__" → PE X (.Call (.Name (Str.ofString (biN b)) p) (z :: zs) [] pos) (tE X.K cA cF W fun e h => (evEs T C es e h).bind fun xs h => R.of (biV h b xs) h) := fun e1 e2 e3 =>
      use (pe_callTy (by rw [← e1]; exact bi_ok G.calm b) g1 hm e2 (sndEsA es X c W FC G tk _ h3) e3 g2 (star_cons hs) hany)
    cases b <;> first
      | exact fn rfl (by decide +kernel) (by decide +kernel)
      | exact ty rfl (by decide +kernel) (by decide +kernel)
  | .me m o es, X, c, W, FC, G, tk, x, hh => by
    unfold ckE at hh
    split at hh <;> first | (cases hh; done) | skip
    refine fin3 ?_ rfl
    simp only [Bool.and_eq_true, decide_eq_true_eq] at hh
    obtain ⟨⟨⟨⟨⟨h0, rfl⟩, h1⟩, h2⟩, h3⟩, h4⟩ := hh
    simp only [evE]
    rename_i y ap xs pos
    have one : ∀ {m : Me}, esL es = 1 → ∃ a f, es = .cons a .nil ∧ xs = [f] ∧ noStar f = true ∧ ckE c a f = true := by
      intro m he
      cases es with
      | nil => cases he
      | cons a as =>
        cases as with
        | cons b bs => exact absurd he (by show esL bs + 1 + 1 ≠ 1; omega)
        | nil =>
          cases xs with
          | nil => simp [ckEs] at h4
          | cons f fs =>
            cases fs with
            | cons _ _ => simp [ckEs] at h4
            | nil =>
              simp only [ckEs, Bool.and_eq_true] at h4
              exact ⟨a, f, rfl, rfl, h4.1.1, h4.1.2⟩
    have two : ∀ {m : Me} {r : V → List V → Hp → VK → Prop} {a : E} {f : Expr}, es = .cons a .nil → (∀ x, meK m x = isStr x) → PE X (.Call (.Attribute y (Str.ofString (meN m)) ap) [f] [] pos) (tM1 r (tE X.K cA cF W (evE T C o)) (tE X.K cA cF W (evE T C a))) →
        (∀ rr H h s u U z Q, Emb X.K cA cF H rr h → Rep X.K cA cF H rr u U → meV h m (.str s) [u] = some z → (∀ r' H' V, Ext rr H r' H' → Emb X.K cA cF H' r' h → Rep X.K cA cF H' r' z V → Q V H') → r (.str s) [U] H Q) →
        PE X (.Call (.Attribute y (Str.ofString (meN m)) ap) [f] [] pos) (tE X.K cA cF W fun e h => (evE T C o e h).bind fun x h => if meK m x = true then (evEs T C es e h).bind fun xs h => R.of (meV h m x xs) h else .bad) := by
      intro m r a f ee hk p hr
      subst ee
      refine PEimp p fun σ H Q q => ?_
      obtain ⟨r0, e, h, E, n, w⟩ := q
      refine stepE E n w fun r1 H1 h1 va A x1 E1 n1 p1 w1 => ?_
      rw [hk] at w1
      cases va <;> first | exact w1.elim | skip
      simp only [Rep] at p1
      subst p1
      refine ⟨⟨_, rfl⟩, ?_⟩
      simp only [isStr, if_true, evEs] at w1
      refine stepE E1 n1 (f := evE T C a) (k := fun x h => (R.ok [x] h).bind fun xs h => R.of (meV h m _ xs) h) (by
        cases q2 : evE T C a e h1 with
        | ok v h2 => rw [q2] at w1; exact w1
        | exc x h2 => rw [q2] at w1; exact w1
        | bad => rw [q2] at w1; exact w1) fun r2 H2 h2 vb B x2 E2 n2 p2 w2 => ?_
      simp only [R.bind_ok] at w2
      cases g : meV h2 m (.str _) [vb] with
      | none => rw [g] at w2; exact w2.elim
      | some z => rw [g] at w2; exact hr _ _ _ _ _ _ _ _ E2 p2 g w2
    cases m with
    | bitlen =>
      cases es with
      | cons z zs => exact absurd h0 (by show esL zs + 1 ≠ 0; omega)
      | nil =>
        cases xs with
        | cons _ _ => simp [ckEs] at h4
        | nil =>
          refine PEimp (pe_bits (sndA o X c W FC G tk y h3).1 (attr_plain h1) h2) fun σ H Q q => ?_
          obtain ⟨r, e, h, E, n, w⟩ := q
          refine stepE E n w fun r1 H1 h1 va A x1 E1 n1 p1 w1 => ?_
          simp only [meK, if_true, evEs, R.bind_ok] at w1
          cases va <;> first | exact w1.elim | skip
          simp only [Rep] at p1
          exact ⟨_, p1, w1 r1 H1 _ Ext.refl E1 rep_int⟩
    | upper =>
      cases es with
      | cons z zs => exact absurd h0 (by show esL zs + 1 ≠ 0; omega)
      | nil =>
        cases xs with
        | cons _ _ => simp [ckEs] at h4
        | nil =>
          refine PEimp (pe_upper (sndA o X c W FC G tk y h3).1 (attr_plain h1) h2) fun σ H Q q => ?_
          obtain ⟨r, e, h, E, n, w⟩ := q
          refine stepE E n w fun r1 H1 h1 va A x1 E1 n1 p1 w1 => ?_
          simp only [meK] at w1
          cases va <;> first | exact w1.elim | skip
          simp only [isStr, if_true, evEs, R.bind_ok] at w1
          simp only [Rep] at p1
          subst p1
          simp only [meV] at w1
          split at w1
          · rename_i hz
            exact ⟨⟨_, rfl⟩, _, rfl, rfl, hz, w1 r1 H1 _ Ext.refl E1 rep_str⟩
          · exact w1.elim
    | strip1 =>
      obtain ⟨a, f, e1, rfl, hs, hf⟩ := one (m := .strip1) h0
      refine two e1 (fun _ => rfl) (pe_m1 F.slot_str_strip F.type_str_strip mt_stripChars (sndA o X c W FC G tk y h3).1 (sndA a X c W FC G tk f hf).1 (star_cons hs) (attr_plain h1) h2) fun rr H h s u U z Q E p g q => ?_
      cases u <;> first | (simp only [meV] at g; cases g; done) | skip
      simp only [meV] at g
      split at g
      · rename_i hz
        cases g
        simp only [Rep] at p
        subst p
        exact ⟨_, _, rfl, rfl, by rw [← sz_eq]; exact hz, q _ _ _ Ext.refl E rep_str⟩
      · cases g
    | rstrip1 =>
      obtain ⟨a, f, e1, rfl, hs, hf⟩ := one (m := .rstrip1) h0
      refine two e1 (fun _ => rfl) (pe_m1 F.slot_str_rstrip F.type_str_rstrip mt_rstripChars (sndA o X c W FC G tk y h3).1 (sndA a X c W FC G tk f hf).1 (star_cons hs) (attr_plain h1) h2) fun rr H h s u U z Q E p g q => ?_
      cases u <;> first | (simp only [meV] at g; cases g; done) | skip
      simp only [meV] at g
      split at g
      · rename_i hz
        cases g
        simp only [Rep] at p
        subst p
        exact ⟨_, _, rfl, rfl, by rw [← sz_eq]; exact hz, q _ _ _ Ext.refl E rep_str⟩
      · cases g
    | starts =>
      obtain ⟨a, f, e1, rfl, hs, hf⟩ := one (m := .starts) h0
      refine two e1 (fun _ => rfl) (pe_m1 F.slot_str_startswith F.type_str_startswith mt_startswith (sndA o X c W FC G tk y h3).1 (sndA a X c W FC G tk f hf).1 (star_cons hs) (attr_plain h1) h2) fun rr H h s u U z Q E p g q => ?_
      cases u <;> first | (simp only [meV] at g; cases g; done) | skip
      simp only [meV] at g
      cases g
      simp only [Rep] at p
      subst p
      exact ⟨_, _, rfl, rfl, q _ _ _ Ext.refl E rep_bl⟩
    | part =>
      obtain ⟨a, f, e1, rfl, hs, hf⟩ := one (m := .part) h0
      refine two e1 (fun _ => rfl) (pe_m1 F.slot_str_partition F.type_str_partition mt_partition (sndA o X c W FC G tk y h3).1 (sndA a X c W FC G tk f hf).1 (star_cons hs) (attr_plain h1) h2) fun rr H h s u U z Q E p g q => ?_
      cases u <;> first | (simp only [meV] at g; cases g; done) | skip
      simp only [meV] at g
      split at g
      · rename_i hz
        cases g
        simp only [Rep] at p
        subst p
        refine ⟨_, _, rfl, rfl, hz.1, by rw [← sz_eq]; exact hz.2, fun p hp => ?_⟩
        obtain ⟨y1, y2, y3⟩ := new_tup E hp (strs_reps (cA := cA) (cF := cF) [_, _, _])
        exact q _ _ _ y1 y2 y3
      · cases g
    | zfill =>
      obtain ⟨a, f, e1, rfl, hs, hf⟩ := one (m := .zfill) h0
      refine two e1 (fun _ => rfl) (pe_m1 F.slot_str_zfill F.type_str_zfill mt_zfill (sndA o X c W FC G tk y h3).1 (sndA a X c W FC G tk f hf).1 (star_cons hs) (attr_plain h1) h2) fun rr H h s u U z Q E p g q => ?_
      cases u <;> first | (simp only [meV] at g; cases g; done) | skip
      simp only [meV] at g
      split at g
      · rename_i hz
        cases g
        simp only [Rep] at p
        subst p
        exact ⟨_, _, rfl, rfl, hz, q _ _ _ Ext.refl E rep_str⟩
      · cases g
    | split1 =>
      obtain ⟨a, f, e1, rfl, hs, hf⟩ := one (m := .split1) h0
      refine two e1 (fun _ => rfl) (pe_m1 F.slot_str_split F.type_str_split mt_split (sndA o X c W FC G tk y h3).1 (sndA a X c W FC G tk f hf).1 (star_cons hs) (attr_plain h1) h2) fun rr H h s u U z Q E p g q => ?_
      cases u <;> first | (simp only [meV] at g; cases g; done) | skip
      simp only [meV] at g
      split at g
      · rename_i hz
        cases g
        simp only [Rep] at p
        subst p
        refine ⟨_, _, rfl, rfl, hz.1, by rw [← sz_eq]; exact hz.2, fun p hp => ?_⟩
        obtain ⟨y1, y2, y3⟩ := new_lst E hp (strs_reps (cA := cA) (cF := cF) (Txt.split _ _))
        exact q _ _ _ y1 y2 y3
      · cases g
    | join1 =>
      obtain ⟨a, f, e1, rfl, hs, hf⟩ := one (m := .join1) h0
      refine two e1 (fun _ => rfl) (pe_m1 F.slot_str_join F.type_str_join mt_join (sndA o X c W FC G tk y h3).1 (sndA a X c W FC G tk f hf).1 (star_cons hs) (attr_plain h1) h2) fun rr H h s u U z Q E p g q => ?_
      simp only [meV] at g
      obtain ⟨ys, k1, g⟩ := Option.bind_eq_some_iff.mp g
      obtain ⟨ss, k2, g⟩ := Option.bind_eq_some_iff.mp g
      split at g
      · rename_i hz
        cases g
        obtain ⟨b, vs, rfl, l1, q1⟩ := seq_ok E k1 p
        rw [strsOf_ok _ _ k2] at q1
        have := reps_strs _ _ q1
        subst this
        exact ⟨_, b, ss, rfl, rfl, l1, hz, q _ _ _ Ext.refl E rep_str⟩
      · cases g
  | .isT a m, X, c, W, FC, G, tk, x, hh => by
    unfold ckE at hh
    split at hh <;> first | (cases hh; done) | skip
    refine fin3 ?_ rfl
    simp only [Bool.and_eq_true, decide_eq_true_eq] at hh
    obtain ⟨⟨⟨⟨⟨⟨⟨⟨h0, rfl⟩, h1⟩, h2⟩, h3⟩, h4⟩, h5⟩, hn⟩, h6⟩ := hh
    rename_i p y yn py pos
    obtain ⟨g1, g2⟩ := gl_of G h1
    obtain ⟨g3, g4⟩ := gl_of G h3
    have hm := FC.free _ h2
    have hy := FC.free _ h4
    simp only [evE]
    have pn : PE X (.Name yn py) (tC (.ty m)) := pe_bltn (v := .ty m) g3 hy h5 rfl hn g4
    refine PEimp (pe_callB (isT_ok (cF := cF) FC.ex m) g1 hm (by decide +kernel) (pa_cons (sndA a X c W FC G tk _ h6).1 (pa_cons pn pa_nil) (star_cons h0)) (by decide +kernel) g2 (star_cons h0) rfl) fun σ H Q q => ?_
    obtain ⟨r, e, h, E, n, w⟩ := q
    refine stepE E n w fun r1 H1 h1 va A x1 E1 n1 p1 w1 => ?_
    cases g : isTV T h1 va m with
    | none => rw [g] at w1; exact w1.elim
    | some b => rw [g] at w1; exact ⟨r1, h1, va, A, b, E1, rfl, p1, g, w1 r1 H1 _ Ext.refl E1 rep_bl⟩
  | .isC a m, X, c, W, FC, G, tk, x, hh => by
    unfold ckE at hh
    split at hh <;> first | (cases hh; done) | skip
    refine fin3 ?_ rfl
    simp only [Bool.and_eq_true, decide_eq_true_eq] at hh
    obtain ⟨⟨⟨⟨⟨⟨h0, rfl⟩, h1⟩, h2⟩, h3⟩, h4⟩, h6⟩ := hh
    rename_i p y yn py pos
    obtain ⟨g1, g2⟩ := gl_of G h1
    obtain ⟨g3, g4⟩ := gl_of G h4
    have hm := FC.free _ h2
    obtain ⟨hy, _⟩ := FC.cl _ _ h3
    simp only [evE]
    have pn : PE X (.Name yn py) (tC (.ref (cA m))) := pe_glob (v := .ref (cA m)) g3 hy rfl g4
    refine PEimp (pe_callB (isC_ok (cF := cF) FC.ex (fun d h => (FC.ob d h).1) m) g1 hm (by decide +kernel) (pa_cons (sndA a X c W FC G tk _ h6).1 (pa_cons pn pa_nil) (star_cons h0)) (by decide +kernel) g2 (star_cons h0) rfl) fun σ H Q q => ?_
    obtain ⟨r, e, h, E, n, w⟩ := q
    refine stepE E n w fun r1 H1 h1 va A x1 E1 n1 p1 w1 => ?_
    cases g : isCV T va m with
    | none => rw [g] at w1; exact w1.elim
    | some b => rw [g] at w1; exact ⟨r1, h1, va, A, b, E1, rfl, p1, g, w1 r1 H1 _ Ext.refl E1 rep_bl⟩
  | .isCs a ds, X, c, W, FC, G, tk, x, hh => by
    unfold ckE at hh
    split at hh <;> first | (cases hh; done) | skip
    refine fin3 ?_ rfl
    simp only [Bool.and_eq_true, decide_eq_true_eq] at hh
    obtain ⟨⟨⟨⟨⟨⟨⟨h0, rfl⟩, h1⟩, h2⟩, h3⟩, h4⟩, h5⟩, h6⟩ := hh
    rename_i p y ys t2 t3 pos
    obtain ⟨g1, g2⟩ := gl_of G h1
    have hm := FC.free _ h2
    simp only [evE]
    have hne : ds ≠ [] := fun z => by subst z; cases h5
    have pn := pe_tup (x1 := t2) (pos := t3) (pcs_ok FC G ds ys h3)
    refine PEimp (pe_callB (isCs_ok (cF := cF) FC.ex ds hne) g1 hm (by decide +kernel) (pa_cons (sndA a X c W FC G tk _ h6).1 (pa_cons pn pa_nil rfl) (star_cons h0)) (by decide +kernel) g2 (star_cons h0) rfl) fun σ H Q q => ?_
    obtain ⟨r, e, h, E, n, w⟩ := q
    refine stepE E n w fun r1 H1 h1 va A x1 E1 n1 p1 w1 => ?_
    refine ⟨by rw [List.length_map, ← sz_eq]; exact Nat.le_trans h4 (by decide), fun p hp => ?_⟩
    obtain ⟨y1, y2, y3⟩ := E1.new (o := .tup (ds.map fun d => V.ref (cA d))) hp
    cases g : isCsV T va ds with
    | none => rw [g] at w1; exact w1.elim
    | some b => rw [g] at w1; exact ⟨r1, h1, va, A, p, b, y2, rfl, upd_same, Rep.mono y1 _ _ p1, g, w1 r1 _ _ y1 y2 rep_bl⟩
  | .atr o f, X, c, W, FC, G, tk, x, hh => by
    unfold ckE at hh
    split at hh <;> first | (cases hh; done) | skip
    refine fin3 ?_ rfl
    simp only [Bool.and_eq_true, decide_eq_true_eq] at hh
    obtain ⟨⟨rfl, h1⟩, h2⟩ := hh
    simp only [evE]
    refine PEimp (pe_fld (sndA o X c W FC G tk _ h2).1 (attr_plain h1)) fun σ H Q q => ?_
    obtain ⟨r, e, h, E, n, w⟩ := q
    refine stepE E n w fun r1 H1 h1 va A x1 E1 n1 p1 w1 => ?_
    cases g : atrV T h1 va f with
    | none => rw [g] at w1; exact w1.elim
    | some z =>
      rw [g] at w1
      unfold atrV at g
      obtain ⟨⟨d, xs⟩, g1, g2⟩ := Option.bind_eq_some_iff.mp g
      dsimp only at g2
      split at g2
      · rename_i ho
        obtain ⟨j, g3, g4⟩ := Option.bind_eq_some_iff.mp g2
        unfold fix at g3
        split at g3
        · rename_i hj
          cases g3
          obtain ⟨c1, c2⟩ := FC.ob d ho
          obtain ⟨ad, dx, vs, rfl, l1, q1⟩ := cls_rep E1 g1 p1
          obtain ⟨v, k1, k2⟩ := q1.get g4
          refine ⟨ad, cA d, dx, _, v, rfl, l1, c1, c2 f (List.idxOf_lt_length_iff.mp hj), ?_, w1 r1 H1 v Ext.refl E1 k2⟩
          rw [FC.fl, lookup_zip _ _ _ hj]; exact k1
        · cases g3
      · cases g2
  | .mcl o m es, X, c, W, FC, G, tk, x, hh => by
    unfold ckE at hh
    split at hh <;> first | (cases hh; done) | skip
    refine fin3 ?_ rfl
    simp only [Bool.and_eq_true, decide_eq_true_eq] at hh
    obtain ⟨⟨⟨⟨⟨rfl, hb⟩, hl⟩, hn⟩, h1⟩, h3⟩ := hh
    rename_i y ap xs pos
    simp only [evE]
    have use : ∀ {x : Expr}, PE X x (tMethS2 X (L2.CX X.prog X.w) k m (WE W) (tE X.K cA cF W (evE T C o)) (tAs X.K cA cF W (evEs T C es))) → PE X x (tE X.K cA cF W fun e h => (evE T C o e h).bind fun x h => (R.of (mthV T h x m) h).bind fun f h => (evEs T C es e h).bind fun xs h => C f (x :: xs) h) := fun p => PEimp p fun σ H Q q => by
      obtain ⟨r, e, h, E, n, w⟩ := q
      refine stepE E n w fun r1 H1 h1 va A x1 E1 n1 p1 w1 => ?_
      cases g : mthV T h1 va m with
      | none => rw [g] at w1; exact w1.elim
      | some f =>
        rw [g] at w1
        simp only [R.of_some, R.bind_ok] at w1
        unfold mthV at g
        obtain ⟨⟨d, zs⟩, g1, g2⟩ := Option.bind_eq_some_iff.mp g
        dsimp only at g2
        split at g2
        · rename_i ho
          obtain ⟨c1, c2⟩ := FC.ob d ho
          obtain ⟨nm, ad, fd, ps, F, M, B⟩ := FC.mt d m f ho g2
          obtain ⟨ao, dx, vs, rfl, l1, q1⟩ := cls_rep E1 g1 p1
          refine ⟨ao, cA d, dx, _, _, rfl, l1, by rw [FC.fl]; exact lookup_zip_none _ _ _ nm, ⟨c1, ad, fd, ps, M, F, B⟩, ?_⟩
          refine stepA E1 n1 w1 fun r2 H2 h2 vs VS x2 E2 n2 p2 w2 => ?_
          exact ⟨r2, va :: vs, h2, E2, by simp only [Reps]; exact ⟨_, _, rfl, Rep.mono x2 _ _ p1, p2⟩, w2⟩
        · cases g2
    cases xs with
    | nil =>
      refine use (PEimp (pe_methS20 (sndA o X c W FC G tk y h1).1 (G.rm.mono (Nat.le_succ k)) (fun σ => passF tk σ) (meth_eval (attr_plain hb) (few_of rfl hn) hl)) fun σ H Q q => ?_)
      cases es with
      | cons _ _ => simp [ckEs] at h3
      | nil =>
        obtain ⟨r, e, h, E, n, w⟩ := q
        refine ⟨r, e, h, E, n, ?_⟩
        have mono : ∀ {res : R MV} {Q1 Q2 : VK} {Y : XK}, (∀ V H, Q1 V H → Q2 V H) → wpR X.K cA cF r H res Q1 Y → wpR X.K cA cF r H res Q2 Y := by
          intro res Q1 Q2 Y hq hw
          cases res with
          | ok v h' => exact fun r' H' V e1 e2 e3 => hq _ _ (hw r' H' V e1 e2 e3)
          | exc x h' => exact hw
          | bad => exact hw
        refine mono (fun V H1 z => ?_) w
        obtain ⟨a, C1, dx, fs, sp, z1, z2, z3, z4, z5⟩ := z
        refine ⟨a, C1, dx, fs, sp, z1, z2, z3, z4, ?_⟩
        obtain ⟨r5, e5, h5, E5, n5, w5⟩ := z5
        simp only [evEs] at w5
        exact w5 r5 H1 [] Ext.refl E5 (by simp only [Reps])
    | cons z zs =>
      have hs : noStar z = true := by
        cases es with
        | nil => simp [ckEs] at h3
        | cons b bs => simp only [ckEs, Bool.and_eq_true] at h3; exact h3.1.1
      have hany : (backTo pos (starEach zs X.env)).any (·.1) = false := by
        cases es with
        | nil => simp [ckEs] at h3
        | cons b bs => simp only [ckEs, Bool.and_eq_true] at h3; exact star_any h3.2
      exact use (pe_methS2 (sndA o X c W FC G tk y h1).1 (G.rm.mono (Nat.le_succ k)) (fun σ => passF tk σ) (sndEsA es X c W FC G tk _ h3) (star_cons hs) hany (meth_eval (attr_plain hb) (few_of (by rw [star_cons hs]; show (false || (backTo pos (starEach zs X.env)).any (·.1)) = false; rw [hany]; rfl) hn) hl))
  | .new d es, X, c, W, FC, G, tk, x, hh => by
    unfold ckE at hh
    split at hh <;> first | (cases hh; done) | skip
    refine fin3 ?_ rfl
    simp only [Bool.and_eq_true, decide_eq_true_eq] at hh
    obtain ⟨⟨h1, h2⟩, h3⟩ := hh
    rename_i y p xs pos
    obtain ⟨m1, m2⟩ := FC.cl _ _ h1
    obtain ⟨g1, g2⟩ := gl_of G h2
    simp only [evE]
    have bad : PE X (.Call (.Name y p) xs [] pos) (fun _ _ _ => False) := ⟨fun _ _ _ _ _ _ h => h.elim⟩
    cases hi : T.ini d with
    | none =>
      simp only
      by_cases h0 : (nilE es && (T.n0 d && T.obj d)) = true
      · simp only [h0, if_true]
        simp only [Bool.and_eq_true] at h0
        cases es with
        | cons _ _ => simp [nilE] at h0
        | nil =>
          cases xs with
          | cons _ _ => simp [ckEs] at h3
          | nil =>
            obtain ⟨k1, k2⟩ := FC.m0 d h0.2.1
            refine PEimp (pe_make0N k1 k2 m2 g1 m1 g2) fun σ H Q q => ?_
            obtain ⟨r, e, h, E, n, w⟩ := q
            intro x dx hx hdx hne
            obtain ⟨y1, y2, y3⟩ := E.new (o := .own x) hdx
            obtain ⟨z1, z2, z3⟩ := y2.new (p := x) (o := .ins (cA d) dx []) (by rw [upd_ne hne.symm]; exact hx)
            refine w _ _ _ (y1.trans z1) z2 ?_
            simp only [Rep, Reps]
            exact ⟨x, dx, [], rfl, ⟨z3, by rw [List.zip_nil_right]; exact upd_same⟩, rfl⟩
      · simp only [h0, Bool.false_eq_true, if_false]
        refine PEimp bad fun σ H Q q => ?_
        obtain ⟨r, e, h, E, n, w⟩ := q
        exact w
    | some f =>
      simp only
      by_cases ho : T.obj d = true
      · simp only [ho, if_true]
        obtain ⟨ad, fd, ps, F, M, B⟩ := FC.mkI d f ho hi
        have use : ∀ {x : Expr}, PE X x (tMakeS (cA d) (spR X.K cA cF C f) (WE W) (tAs X.K cA cF W (evEs T C es))) → PE X x (tE X.K cA cF W fun e h => (evEs T C es e h).bind fun xs h => (C f (.ref h.length :: xs) (h ++ [.ins d []])).bind fun v h' => if isNon v = true then .ok (.ref h.length) h' else .bad) := fun p => PEimp p fun σ H Q q => by
          obtain ⟨r, e, h, E, n, w⟩ := q
          refine stepA E n w fun r1 H1 h1 vs VS x1 E1 n1 p1 w1 => ?_
          intro x dx hx hdx hne
          obtain ⟨y1, y2⟩ := E1.inst (c := d) hx hdx hne
          refine ⟨r1 ++ [x], .ref h1.length :: vs, _, y2, ?_, ?_⟩
          · simp only [Reps, Rep]
            exact ⟨_, _, rfl, ⟨x, rfl, by rw [← E1.len]; simp⟩, Reps.mono y1 _ _ p1⟩
          · replace w1 := wpG.mono y1 w1
            cases q2 : C f (.ref h1.length :: vs) (h1 ++ [.ins d []]) with
            | bad => rw [q2] at w1; exact w1.elim
            | exc z hz => rw [q2] at w1; exact w1
            | ok v hz =>
              rw [q2] at w1
              simp only [R.bind_ok] at w1
              intro r2 H2 V x2 E2 p2
              split at w1
              · rename_i hv
                have := rep_non_iff p2
                rw [hv] at this
                refine ⟨of_decide_eq_true this, w1 r2 H2 _ x2 E2 ?_⟩
                simp only [Rep]
                exact ⟨x, rfl, x2.get (by rw [← E1.len]; simp)⟩
              · exact w1.elim
        cases xs with
        | nil =>
          refine use (PEimp (pe_makeS0 M F G.rm g1 m1 B (fun σ => passF tk σ) g2) fun σ H Q q => ?_)
          cases es with
          | cons _ _ => simp [ckEs] at h3
          | nil =>
            obtain ⟨r, e, h, E, n, w⟩ := q
            simp only [evEs] at w
            exact w r H [] Ext.refl E (by simp only [Reps])
        | cons z zs =>
          have hs : noStar z = true := by
            cases es with
            | nil => simp [ckEs] at h3
            | cons b bs => simp only [ckEs, Bool.and_eq_true] at h3; exact h3.1.1
          have hany : (backTo pos (starEach zs X.env)).any (·.1) = false := by
            cases es with
            | nil => simp [ckEs] at h3
            | cons b bs => simp only [ckEs, Bool.and_eq_true] at h3; exact star_any h3.2
          exact use (pe_makeS M F G.rm g1 m1 B (fun σ => passF tk σ) (sndEsA es X c W FC G tk _ h3) g2 (star_cons hs) hany)
      · simp only [ho, Bool.false_eq_true, if_false]
        refine PEimp bad fun σ H Q q => ?_
        obtain ⟨r, e, h, E, n, w⟩ := q
        exact w
  | .cll a, X, c, W, FC, G, tk, x, hh => by
    unfold ckE at hh
    split at hh <;> first | (cases hh; done) | skip
    refine fin3 ?_ rfl
    simp only [Bool.and_eq_true, decide_eq_true_eq] at hh
    obtain ⟨⟨⟨⟨h0, rfl⟩, h1⟩, h2⟩, h6⟩ := hh
    rename_i p y pos
    obtain ⟨g1, g2⟩ := gl_of G h1
    have hm := FC.free _ h2
    simp only [evE]
    refine PEimp (pe_callTy call_list_of g1 hm (by decide +kernel) (pa_cons (sndA a X c W FC G tk _ h6).1 pa_nil (star_cons h0)) (by decide +kernel) g2 (star_cons h0) rfl) fun σ H Q q => ?_
    obtain ⟨r, e, h, E, n, w⟩ := q
    refine stepE E n w fun r1 H1 h1 va A x1 E1 n1 p1 w1 => ?_
    cases g : seqOf h1 va with
    | none => rw [g] at w1; exact w1.elim
    | some xs =>
      rw [g] at w1
      obtain ⟨b, vs, rfl, l1, q1⟩ := seq_ok E1 g p1
      refine ⟨b, vs, rfl, l1, fun l hl => ?_⟩
      obtain ⟨y1, y2⟩ := E1.cell hl q1
      refine w1 _ _ _ y1 y2 ?_
      simp only [Rep]
      exact ⟨l, rfl, by rw [← E1.len]; simp⟩
  | .lcm cl tg vs it a, X, c, W, FC, G, tk, x, hh => by
    unfold ckE at hh
    split at hh <;> first | (cases hh; done) | skip
    refine ⟨?_, ⟨fun z => by (exact absurd z (by simp [tsB, plT])), fun z => by (exact absurd z (by simp [isBO]))⟩⟩
    simp only [Bool.and_eq_true, decide_eq_true_eq] at hh
    obtain ⟨⟨⟨⟨⟨rfl, h1⟩, h2⟩, h3⟩, h4⟩, h5⟩ := hh
    rename_i elt t iter scope pos
    simp only [evE]
    have hv := ownOf_snd c.N vs
    refine PEimp (pe_lcx (own := ownOf c.N vs) (g := tGw X.K cA cF vs tg) (te := fun W' => tE X.K cA cF W' (evE T C a)) G.calm G.nd tk G.deep.frm (sndI it X c W FC G tk _ _ h3) (by rw [G.hN, G.sc]; exact blkOk_by h1) (fun s H C' cl fp xe => pgw_ok (X := blkX X s H scope (compEnvC scope cl C' X.env) fp xe) (cA := cA) (cF := cF) (c := c.blk scope) (vs := vs) (tg := tg) G.calm G.nd G.hN (by rw [Ck.blk, ← G.sc]; rfl) _ h4)
      (fun s H C cl fp xe => pts_nil) (fun W' s H C' cl fp xe tk' => (sndA a (blkX X s H scope (compEnvC scope cl C' X.env) fp xe) (c.blk scope) W' (FC.re (c := c) (c' := c.blk scope) rfl rfl rfl rfl rfl) ⟨G.hN, by rw [Ck.blk, ← G.sc]; rfl, G.rm, G.calm, G.nd, ⟨G.deep.seer, G.deep.tree, G.deep.room, G.deep.stk, G.deep.frm⟩⟩ tk' _ h5).1) (set_pl h2)) fun σ H Q q => ?_
    rw [hv]
    exact lc_imp q
  | .lcg tg vs it a, X, c, W, FC, G, tk, x, hh => by
    unfold ckE at hh
    split at hh <;> first | (cases hh; done) | skip
    refine ⟨?_, ⟨fun z => by (exact absurd z (by simp [tsB, plT])), fun z => by (exact absurd z (by simp [isBO]))⟩⟩
    simp only [Bool.and_eq_true, decide_eq_true_eq] at hh
    obtain ⟨⟨⟨⟨⟨rfl, h1⟩, h2⟩, h3⟩, h4⟩, h5⟩ := hh
    rename_i elt t iter scope pos
    simp only [evE]
    have hv := ownOf_snd c.N vs
    refine PEimp (pe_lcx (own := ownOf c.N vs) (g := tGw X.K cA cF vs tg) (te := fun W' => tE X.K cA cF W' (evE T C a)) G.calm G.nd tk G.deep.frm (sndI it X c W FC G tk _ _ h3) (by rw [G.hN, G.sc]; exact blkOk_by h1) (fun s H C' cl fp xe => pgw_ok (X := blkX X s H scope (compEnvC scope cl C' X.env) fp xe) (cA := cA) (cF := cF) (c := c.blk scope) (vs := vs) (tg := tg) G.calm G.nd G.hN (by rw [Ck.blk, ← G.sc]; rfl) _ h4)
      (fun s H C cl fp xe => pts_nil) (fun W' s H C' cl fp xe tk' => (sndA a (blkX X s H scope (compEnvC scope cl C' X.env) fp xe) (c.blk scope) W' (FC.re (c := c) (c' := c.blk scope) rfl rfl rfl rfl rfl) ⟨G.hN, by rw [Ck.blk, ← G.sc]; rfl, G.rm, G.calm, G.nd, ⟨G.deep.seer, G.deep.tree, G.deep.room, G.deep.stk, G.deep.frm⟩⟩ tk' _ h5).1) (set_pl h2)) fun σ H Q q => ?_
    rw [hv]
    exact lcg_imp q
  | .lcf tg vs it b a, X, c, W, FC, G, tk, x, hh => by
    unfold ckE at hh
    split at hh <;> first | (cases hh; done) | skip
    refine ⟨?_, ⟨fun z => by (exact absurd z (by simp [tsB, plT])), fun z => by (exact absurd z (by simp [isBO]))⟩⟩
    simp only [Bool.and_eq_true, decide_eq_true_eq] at hh
    obtain ⟨⟨⟨⟨⟨⟨⟨rfl, h1⟩, h2⟩, h3⟩, h4⟩, h5⟩, h6⟩, h7⟩ := hh
    rename_i elt t iter cd scope pos
    simp only [evE]
    have hv := ownOf_snd c.N vs
    refine PEimp (pe_lc (own := ownOf c.N vs) (g := tGw X.K cA cF vs tg) (tt := tTt X.K cA cF noW (evE T C b)) (te := tE X.K cA cF noW (evE T C a)) G.calm G.nd (sndI it X c W FC G tk _ _ h3) (by rw [G.hN, G.sc]; exact blkOk_by h1) (fun s H C' cl fp => pgw_ok (X := X.blk s H scope (compEnvC scope cl C' X.env) fp) (cA := cA) (cF := cF) (c := c.blk scope) (vs := vs) (tg := tg) G.calm G.nd G.hN (by rw [Ck.blk, ← G.sc]; rfl) _ h4)
      (fun s H C' cl fp => pts_one ((sndA b (X.blk s H scope (compEnvC scope cl C' X.env) fp) (c.blk scope) noW (FC.re (c := c) (c' := c.blk scope) rfl rfl rfl rfl rfl) ⟨G.hN, by rw [Ck.blk, ← G.sc]; rfl, G.rm, G.calm, G.nd, ⟨G.deep.seer, G.deep.tree, G.deep.room, G.deep.stk, G.deep.frm⟩⟩ takesF_no _ h6).2.1 h7)) (fun s H C' cl fp => (sndA a (X.blk s H scope (compEnvC scope cl C' X.env) fp) (c.blk scope) noW (FC.re (c := c) (c' := c.blk scope) rfl rfl rfl rfl rfl) ⟨G.hN, by rw [Ck.blk, ← G.sc]; rfl, G.rm, G.calm, G.nd, ⟨G.deep.seer, G.deep.tree, G.deep.room, G.deep.stk, G.deep.frm⟩⟩ takesF_no _ h5).1) (set_pl h2)) fun σ H Q q => ?_
    rw [hv]
    exact lcf_imp q
  | .mnd a d, X, c, W, FC, G, tk, x, hh => by
    unfold ckE at hh
    split at hh <;> first | (cases hh; done) | skip
    refine fin3 ?_ rfl
    simp only [Bool.and_eq_true, decide_eq_true_eq] at hh
    obtain ⟨⟨⟨⟨⟨⟨h0, rfl⟩, rfl⟩, h1⟩, h2⟩, h3⟩, h4⟩ := hh
    obtain ⟨g1, g2⟩ := gl_of G h1
    simp only [evE]
    refine PEimp (pe_callBK (cr_mnd G.calm G.rm.units) g1 (FC.free _ h2) (by decide +kernel) (pa_cons (sndA a X c W FC G tk _ h3).1 pa_nil (star_cons h0)) (pk_cons (sndA d X c W FC G tk _ h4).1 pk_nil) (by decide +kernel) g2 (by rw [star_cons h0]; rfl) (by rw [star_cons h0]; rfl)) fun σ H Q q => ?_
    obtain ⟨r, e, h, E, n, w⟩ := q
    refine stepE E n w fun r1 H1 h1 va A x1 E1 n1 p1 w1 => ?_
    refine stepE E1 n1 w1 fun r2 H2 h2 vb B x2 E2 n2 p2 w2 => ?_
    cases g : mndV h2 va vb with
    | none => rw [g] at w2; exact w2.elim
    | some z =>
      rw [g] at w2
      unfold mndV at g
      obtain ⟨ys, e1, g⟩ := Option.bind_eq_some_iff.mp g
      obtain ⟨is, e2, g⟩ := Option.map_eq_some_iff.mp g
      subst g
      obtain ⟨b, vs, rfl, l1, q1⟩ := getL_ok E2 e1 (Rep.mono x2 _ _ p1)
      rw [intsOf_ok _ _ e2] at q1
      have := reps_ints _ _ q1
      subst this
      refine ⟨b, is, B, rfl, rfl, sq_of l1, ?_⟩
      cases is with
      | nil => exact w2 r2 H2 B Ext.refl E2 p2
      | cons i is => exact w2 r2 H2 _ Ext.refl E2 rep_int
  | .mclc o m es, X, c, W, FC, G, tk, x, hh => by
    unfold ckE at hh
    split at hh <;> first | (cases hh; done) | skip
    refine fin3 ?_ rfl
    simp only [Bool.and_eq_true, decide_eq_true_eq] at hh
    obtain ⟨⟨⟨⟨⟨rfl, hb⟩, hl⟩, hn⟩, h1⟩, h3⟩ := hh
    rename_i y ap xs pos
    simp only [evE]
    have use : ∀ {x : Expr}, PE X x (tMethS2 X (L2.CX X.prog X.w) k m (WE W) (tE X.K cA cF W (evE T C o)) (tAs X.K cA cF W (evEs T C es))) → PE X x (tE X.K cA cF W fun e h => (evE T C o e h).bind fun x h => (R.of (mthV T h x m) h).bind fun f h => (evEs T C es e h).bind fun xs h => C (f + 100000) (x :: xs) h) := fun p => PEimp p fun σ H Q q => by
      obtain ⟨r, e, h, E, n, w⟩ := q
      refine stepE E n w fun r1 H1 h1 va A x1 E1 n1 p1 w1 => ?_
      cases g : mthV T h1 va m with
      | none => rw [g] at w1; exact w1.elim
      | some f =>
        rw [g] at w1
        simp only [R.of_some, R.bind_ok] at w1
        unfold mthV at g
        obtain ⟨⟨d, zs⟩, g1, g2⟩ := Option.bind_eq_some_iff.mp g
        dsimp only at g2
        split at g2
        · rename_i ho
          obtain ⟨c1, c2⟩ := FC.ob d ho
          obtain ⟨nm, ad, fd, ps, F, M, B⟩ := FC.mtC d m f ho g2
          obtain ⟨ao, dx, vs, rfl, l1, q1⟩ := cls_rep E1 g1 p1
          refine ⟨ao, cA d, dx, _, _, rfl, l1, by rw [FC.fl]; exact lookup_zip_none _ _ _ nm, ⟨c1, ad, fd, ps, M, F, B⟩, ?_⟩
          refine stepA E1 n1 w1 fun r2 H2 h2 vs VS x2 E2 n2 p2 w2 => ?_
          exact ⟨r2, va :: vs, h2, E2, by simp only [Reps]; exact ⟨_, _, rfl, Rep.mono x2 _ _ p1, p2⟩, w2⟩
        · cases g2
    cases xs with
    | nil =>
      refine use (PEimp (pe_methS20 (sndA o X c W FC G tk y h1).1 (G.rm.mono (Nat.le_succ k)) (fun σ => passF tk σ) (meth_eval (attr_plain hb) (few_of rfl hn) hl)) fun σ H Q q => ?_)
      cases es with
      | cons _ _ => simp [ckEs] at h3
      | nil =>
        obtain ⟨r, e, h, E, n, w⟩ := q
        refine ⟨r, e, h, E, n, ?_⟩
        have mono : ∀ {res : R MV} {Q1 Q2 : VK} {Y : XK}, (∀ V H, Q1 V H → Q2 V H) → wpR X.K cA cF r H res Q1 Y → wpR X.K cA cF r H res Q2 Y := by
          intro res Q1 Q2 Y hq hw
          cases res with
          | ok v h' => exact fun r' H' V e1 e2 e3 => hq _ _ (hw r' H' V e1 e2 e3)
          | exc x h' => exact hw
          | bad => exact hw
        refine mono (fun V H1 z => ?_) w
        obtain ⟨a, C1, dx, fs, sp, z1, z2, z3, z4, z5⟩ := z
        refine ⟨a, C1, dx, fs, sp, z1, z2, z3, z4, ?_⟩
        obtain ⟨r5, e5, h5, E5, n5, w5⟩ := z5
        simp only [evEs] at w5
        exact w5 r5 H1 [] Ext.refl E5 (by simp only [Reps])
    | cons z zs =>
      have hs : noStar z = true := by
        cases es with
        | nil => simp [ckEs] at h3
        | cons b bs => simp only [ckEs, Bool.and_eq_true] at h3; exact h3.1.1
      have hany : (backTo pos (starEach zs X.env)).any (·.1) = false := by
        cases es with
        | nil => simp [ckEs] at h3
        | cons b bs => simp only [ckEs, Bool.and_eq_true] at h3; exact star_any h3.2
      exact use (pe_methS2 (sndA o X c W FC G tk y h1).1 (G.rm.mono (Nat.le_succ k)) (fun σ => passF tk σ) (sndEsA es X c W FC G tk _ h3) (star_cons hs) hany (meth_eval (attr_plain hb) (few_of (by rw [star_cons hs]; show (false || (backTo pos (starEach zs X.env)).any (·.1)) = false; rw [hany]; rfl) hn) hl))
  | .dnw, X, c, W, FC, G, tk, x, hh => by
    unfold ckE at hh
    split at hh <;> first | (cases hh; done) | skip
    refine ⟨?_, ⟨fun z => by (exact absurd z (by simp [tsB, plT])), fun z => by (exact absurd z (by simp [isBO]))⟩⟩
    simp only [evE]
    refine PEimp pe_dnewK fun σ H Q q => ?_
    obtain ⟨r, e, h, E, n, w⟩ := q
    intro p hp
    obtain ⟨y1, y2⟩ := E.dict hp
    refine w _ _ _ y1 y2 ?_
    simp only [Rep]
    exact ⟨p, rfl, by rw [← E.len]; simp⟩
  | .dgt d k', X, c, W, FC, G, tk, x, hh => by
    unfold ckE at hh
    split at hh <;> first | (cases hh; done) | skip
    refine fin3 ?_ rfl
    simp only [Bool.and_eq_true] at hh
    obtain ⟨⟨h1, h2⟩, h3⟩ := hh
    have hu : X.A.units + 1 < cLine := by have := G.rm.units; omega
    simp only [evE]
    refine PEimp (pe_dget hu (sndA d X c W FC G tk _ h2).1 (sndA k' X c W FC G tk _ h3).1 (plix h1)) fun σ H Q q => ?_
    obtain ⟨r, e, h, E, n, w⟩ := q
    refine stepE E n w fun r1 H1 h1 va A x1 E1 n1 p1 w1 => ?_
    refine stepE E1 n1 w1 fun r2 H2 h2 vb B x2 E2 n2 p2 w2 => ?_
    cases g : dgtV h2 va vb with
    | none => rw [g] at w2; exact w2.elim
    | some z =>
      rw [g] at w2
      unfold dgtV at g
      obtain ⟨kvs, g1, g2⟩ := Option.bind_eq_some_iff.mp g
      obtain ⟨kk, g3, g4⟩ := Option.bind_eq_some_iff.mp g2
      obtain ⟨i, a, vs, rfl, hi, hr, rfl, hd, q1⟩ := dic_ok E2 g1 (Rep.mono x2 _ _ p1)
      have ek := rep_key g3 p2
      subst ek
      obtain ⟨v, e1, e2⟩ := (zip_val (k := kk) q1).2 _ g4
      refine ⟨a, v, rfl, ?_, w2 r2 H2 _ Ext.refl E2 e2⟩
      rw [← e1]
      exact DGet.k hd
  | .din ng k' d, X, c, W, FC, G, tk, x, hh => by
    unfold ckE at hh
    split at hh <;> first | (cases hh; done) | skip
    simp only [Bool.and_eq_true, Bool.not_eq_true'] at hh
    obtain ⟨⟨⟨h1, h0⟩, h2⟩, h3⟩ := hh
    rename_i ee op ff pos
    have hu : X.A.units + 1 < cLine := by have := G.rm.units; omega
    have core : ∀ {σ : L2.St} {H : Hp} {Q : VK} {r : List Addr} {e : EN} {h : HP}, Emb X.K cA cF H r h → REn X.K cA cF H r e σ →
        wpR X.K cA cF r H ((evE T C k' e h).bind fun y h => (evE T C d e h).bind fun x h => R.of (dinV h ng y x) h) Q (fun cls dd H' => W cls dd σ H') →
        tE X.K cA cF W (evE T C k') σ H fun y H1 => tE X.K cA cF W (evE T C d) σ H1 fun x H2 => ∃ a o, x = .ref a ∧ DGet H2 a y o ∧ Q (.bl (xor ng o.isSome)) H2 := by
      intro σ H Q r e h E n w
      refine stepE E n w fun r1 H1 h1 va A x1 E1 n1 p1 w1 => ?_
      refine stepE E1 n1 w1 fun r2 H2 h2 vb B x2 E2 n2 p2 w2 => ?_
      cases g : dinV h2 ng va vb with
      | none => rw [g] at w2; exact w2.elim
      | some z =>
        rw [g] at w2
        unfold dinV at g
        obtain ⟨kvs, g1, g2⟩ := Option.bind_eq_some_iff.mp g
        obtain ⟨kk, g3, g4⟩ := Option.map_eq_some_iff.mp g2
        subst g4
        obtain ⟨i, a, vs, rfl, hi, hr, rfl, hd, q1⟩ := dic_ok E2 g1 p2
        have ek := rep_key g3 (Rep.mono x2 _ _ p1)
        subst ek
        refine ⟨a, _, rfl, DGet.k hd, ?_⟩
        have e1 : (valV ((kvs.map (·.1)).zip vs) kk).isSome = (valM kvs kk).isSome := by
          obtain ⟨z1, z2⟩ := zip_val (k := kk) q1
          cases q : valM kvs kk with
          | none => rw [z1 q]; rfl
          | some x => obtain ⟨v, e1, _⟩ := z2 x q; rw [e1]; rfl
        rw [e1]
        exact w2 r2 H2 _ Ext.refl E2 rep_bl
    refine ⟨?_, fun _ => ?_, fun z => (by cases z)⟩
    · simp only [evE]
      cases ng <;> cases op <;> first | (cases h1; done) | skip
      · refine PEimp (pe_cmp (pc_din hu (sndA k' X c W FC G tk _ h2).1 (sndA d X c W FC G tk _ h3).1) h0) fun σ H Q q => ?_
        obtain ⟨r, e, h, E, n, w⟩ := q
        have := core E n w
        simp only [Bool.false_xor] at this
        exact this
      · refine PEimp (pe_cmp (pc_dnotin hu (sndA k' X c W FC G tk _ h2).1 (sndA d X c W FC G tk _ h3).1) h0) fun σ H Q q => ?_
        obtain ⟨r, e, h, E, n, w⟩ := q
        have := core E n w
        simp only [Bool.true_xor] at this
        exact this
    · simp only [evE]
      cases ng <;> cases op <;> first | (cases h1; done) | skip
      · refine PTimp (pt_cmp (pc_din hu (sndA k' X c W FC G tk _ h2).1 (sndA d X c W FC G tk _ h3).1) h0) fun σ H Q q => ?_
        obtain ⟨r, e, h, E, n, w⟩ := q
        have := core E n (tt_wp w)
        simp only [Bool.false_xor] at this
        exact this
      · refine PTimp (pt_cmp (pc_dnotin hu (sndA k' X c W FC G tk _ h2).1 (sndA d X c W FC G tk _ h3).1) h0) fun σ H Q q => ?_
        obtain ⟨r, e, h, E, n, w⟩ := q
        have := core E n (tt_wp w)
        simp only [Bool.true_xor] at this
        exact this
  | .dks cl d, X, c, W, FC, G, tk, x, hh => by
    unfold ckE at hh
    split at hh <;> first | (cases hh; done) | skip
    refine fin3 ?_ rfl
    simp only [Bool.and_eq_true, decide_eq_true_eq] at hh
    obtain ⟨⟨⟨⟨h0, rfl⟩, h1⟩, h2⟩, h6⟩ := hh
    rename_i p y pos
    obtain ⟨g1, g2⟩ := gl_of G h1
    have hm := FC.free _ h2
    simp only [evE]
    refine PEimp (pe_callTy (call_list_dK G.calm) g1 hm (by decide +kernel) (pa_cons (sndA d X c W FC G tk _ h6).1 pa_nil (star_cons h0)) (by decide +kernel) g2 (star_cons h0) rfl) fun σ H Q q => ?_
    obtain ⟨r, e, h, E, n, w⟩ := q
    refine stepE E n w fun r1 H1 h1 va A x1 E1 n1 p1 w1 => ?_
    cases g : dksV h1 va with
    | none => rw [g] at w1; exact w1.elim
    | some xs =>
      rw [g] at w1
      unfold dksV at g
      obtain ⟨kvs, g1, g2⟩ := Option.map_eq_some_iff.mp g
      subst g2
      obtain ⟨i, a, vs, rfl, hi, hr, rfl, hd, q1⟩ := dic_ok E1 g1 p1
      refine ⟨a, _, rfl, hd, fun l hl => ?_⟩
      have ek := zip_keys q1
      rw [ek]
      have qk := reps_keys (K := X.K) (cA := cA) (cF := cF) (H := H1) (r := r1) kvs
      cases cl with
      | true =>
        obtain ⟨y1, y2⟩ := E1.cell hl qk
        refine w1 _ _ _ y1 y2 ?_
        simp only [Rep]
        exact ⟨l, rfl, by rw [← E1.len]; simp⟩
      | false =>
        obtain ⟨y1, y2, y3⟩ := new_lst E1 hl qk
        exact w1 _ _ _ y1 y2 y3
  | .scl a l u, X, c, W, FC, G, tk, x, hh => by
    unfold ckE at hh
    split at hh <;> first | (cases hh; done) | skip
    refine fin3 ?_ rfl
    rename_i f g pos' pos
    simp only [Bool.and_eq_true] at hh
    obtain ⟨⟨h1, h2⟩, h3⟩ := hh
    simp only [evE]
    have part : ∀ (z : E) (f : Option Expr), (∀ x, ckE c z x = true → PE X x (tE X.K cA cF W (evE T C z))) → (match f with
      | none => isN z
      | some f => ckE c z f && !isN z) = true → PO X f (tO X.K cA cF W fun e h => if isN z then .ok none h else (evE T C z e h).bind fun v h => R.of (pI v) h) := by
      intro z f hz hf
      cases f with
      | none =>
        have hf : isN z = true := hf
        refine POimp po_none fun σ H Q q => ?_
        obtain ⟨r, e, h, E, n, w⟩ := q
        dsimp only at w
        rw [if_pos hf] at w
        exact w r H none Ext.refl E rfl
      | some f =>
        have hf : (ckE c z f && !isN z) = true := hf
        simp only [Bool.and_eq_true, Bool.not_eq_true'] at hf
        refine POimp (po_some (hz f hf.1)) fun σ H Q q => ?_
        obtain ⟨r, e, h, E, n, w⟩ := q
        simp only [hf.2, Bool.false_eq_true, if_false] at w
        refine stepE E n w fun r1 H1 h1 v V x1 E1 n1 p1 w1 => ?_
        cases v <;> first | exact w1.elim | skip
        simp only [Rep] at p1
        exact ⟨_, p1, w1 r1 H1 _ Ext.refl E1 rfl⟩
    refine PEimp (pe_slice (L2.SlR.or sl_list sl_str) (sndA a X c W FC G tk _ h1).1 (part l f (fun x h => (sndA l X c W FC G tk x h).1) h2) (part u g (fun x h => (sndA u X c W FC G tk x h).1) h3)) fun σ H Q q => ?_
    obtain ⟨r, e, h, E, n, w⟩ := q
    refine stepE E n w fun r1 H1 h1 va A x1 E1 n1 p1 w1 => ?_
    refine stepO E1 n1 w1 fun r2 H2 h2 lo x2 E2 n2 w2 => ?_
    refine stepO E2 n2 w2 fun r3 H3 h3 hi x3 E3 n3 w3 => ?_
    cases g : (getL h3 va).map fun xs => cutM xs lo hi with
    | none => rw [g] at w3; exact w3.elim
    | some z =>
      rw [g] at w3
      left
      obtain ⟨xs, e1, e2⟩ := Option.map_eq_some_iff.mp g
      subst e2
      obtain ⟨b, vs, rfl, l1, q1⟩ := getL_ok E3 e1 (Rep.mono (x2.trans x3) _ _ p1)
      refine ⟨b, vs, rfl, sq_of l1, fun p hp => ?_⟩
      obtain ⟨y1, y2⟩ := E3.cell hp (q1.cut (lo := lo) (hi := hi))
      refine w3 _ _ _ y1 y2 ?_
      simp only [Rep]
      exact ⟨p, rfl, by rw [← E3.len]; simp⟩
  | .lrv cl a, X, c, W, FC, G, tk, x, hh => by
    unfold ckE at hh
    split at hh <;> first | (cases hh; done) | skip
    refine fin3 ?_ rfl
    simp only [Bool.and_eq_true, decide_eq_true_eq] at hh
    obtain ⟨⟨⟨⟨⟨⟨⟨h0, rfl⟩, h1⟩, h2⟩, rfl⟩, h3⟩, h4⟩, h6⟩ := hh
    rename_i p p2 pos2 pos
    obtain ⟨g1, g2⟩ := gl_of G h1
    obtain ⟨g3, g4⟩ := gl_of G h3
    have hm := FC.free _ h2
    have hm2 := FC.free _ h4
    simp only [evE]
    refine PEimp (RT.pe_lstRev G.calm g1 hm g3 hm2 (sndA a X c W FC G tk _ h6).1 (star_cons h0) (by rfl)) fun σ H Q q => ?_
    obtain ⟨r, e, h, E, n, w⟩ := q
    refine stepE E n w fun r1 H1 h1 va A x1 E1 n1 p1 w1 => ?_
    cases g : (getL h1 va).map List.reverse with
    | none => rw [g] at w1; exact w1.elim
    | some xs =>
      rw [g] at w1
      obtain ⟨ys, g1, g2⟩ := Option.map_eq_some_iff.mp g
      subst g2
      obtain ⟨a, vs, rfl, l1, q1⟩ := getL_ok E1 g1 p1
      refine ⟨a, _, rfl, sq_of l1, fun l hl => ?_⟩
      have qk := reps_rev q1
      cases cl with
      | true =>
        obtain ⟨y1, y2⟩ := E1.cell hl qk
        refine w1 _ _ _ y1 y2 ?_
        simp only [Rep]
        exact ⟨l, rfl, by rw [← E1.len]; simp⟩
      | false =>
        obtain ⟨y1, y2, y3⟩ := new_lst E1 hl qk
        exact w1 _ _ _ y1 y2 y3
  | .dln d, X, c, W, FC, G, tk, x, hh => by
    unfold ckE at hh
    split at hh <;> first | (cases hh; done) | skip
    refine fin3 ?_ rfl
    simp only [Bool.and_eq_true, decide_eq_true_eq] at hh
    obtain ⟨⟨⟨⟨h0, rfl⟩, h1⟩, h2⟩, h6⟩ := hh
    rename_i p y pos
    obtain ⟨g1, g2⟩ := gl_of G h1
    have hm := FC.free _ h2
    simp only [evE]
    refine PEimp (pe_callB call_lenD g1 hm (by decide +kernel) (pa_cons (sndA d X c W FC G tk _ h6).1 pa_nil (star_cons h0)) (by decide +kernel) g2 (star_cons h0) rfl) fun σ H Q q => ?_
    obtain ⟨r, e, h, E, n, w⟩ := q
    refine stepE E n w fun r1 H1 h1 va A x1 E1 n1 p1 w1 => ?_
    cases g : dlnV h1 va with
    | none => rw [g] at w1; exact w1.elim
    | some z =>
      rw [g] at w1
      unfold dlnV at g
      obtain ⟨kvs, g1, g2⟩ := Option.map_eq_some_iff.mp g
      subst g2
      obtain ⟨i, a, vs, rfl, hi, hr, rfl, hd, q1⟩ := dic_ok E1 g1 p1
      refine ⟨a, _, rfl, hd, ?_⟩
      have el : ((kvs.map (·.1)).zip vs).length = kvs.length := by
        have := q1.length
        rw [List.length_map] at this
        rw [List.length_zip, List.length_map]; omega
      rw [el]
      exact w1 _ _ _ Ext.refl E1 rep_int
  | .dit d, X, c, W, FC, G, tk, x, hh => by
    unfold ckE at hh
    split at hh <;> first | (cases hh; done) | skip
    refine fin3 ?_ rfl
    simp only [Bool.and_eq_true, decide_eq_true_eq] at hh
    obtain ⟨⟨⟨⟨⟨⟨rfl, h1⟩, h2⟩, rfl⟩, h3⟩, h4⟩, h5⟩ := hh
    obtain ⟨g1, g2⟩ := gl_of G h1
    have hm := FC.free _ h2
    simp only [evE]
    refine PEimp (LiI.pe_listItems G.calm (sndA d X c W FC G tk _ h5).1 g1 hm (by decide +kernel) (attr_plain h3) h4 rfl) fun σ H Q q => ?_
    obtain ⟨r, e, h, E, n, w⟩ := q
    refine stepE E n w fun r1 H1 h1 va A x1 E1 n1 p1 w1 => ?_
    cases g : ditV h1 va with
    | none => rw [g] at w1; exact w1.elim
    | some z =>
      rw [g] at w1
      unfold ditV at g
      obtain ⟨kvs, g1, g2⟩ := Option.map_eq_some_iff.mp g
      subst g2
      obtain ⟨i, a, vs, rfl, hi, hr, rfl, hd, q1⟩ := dic_ok E1 g1 p1
      refine ⟨a, _, rfl, hd, fun H' p ts k1 k2 k3 k4 k5 k6 => ?_⟩
      obtain ⟨y1, y2⟩ := E1.more k1
      refine w1 _ _ _ y1 y2 ?_
      have no : ∀ {b : Addr}, H1 b = none → b ∉ r1 := fun hb z => by obtain ⟨u, q⟩ := E1.tracked z; rw [hb] at q; cases q
      simp only [Rep]
      exact ⟨p, _, rfl, .inl ⟨no k2, .inl k5⟩, pairs_rep (fun t ht => no (k3 t ht)) (Reps.mono y1 _ _ q1) k6⟩
  | .lix o y, X, c, W, FC, G, tk, x, hh => by
    unfold ckE at hh
    split at hh <;> first | (cases hh; done) | skip
    rename_i e m ap f pos
    refine fin3 ?_ rfl
    simp only [Bool.and_eq_true, decide_eq_true_eq] at hh
    obtain ⟨⟨⟨⟨⟨rfl, h1⟩, h2⟩, h3⟩, h4⟩, h5⟩ := hh
    have hfew : ((backTo pos (starEach [f] X.env)).all (fun x => !x.1) && (backToKw pos (keywordEach [] X.env)).all (fun x => x.1.isSome)
      && decide ([f].length + ([] : List Keyword).length + (if ([] : List Keyword).isEmpty then 0 else 1) < 30)) = true := by
      rw [star_cons h1]; rfl
    simp only [evE]
    refine PEimp (pe_bm PySem.F.plainAttrs_list PySem.F.slot_list_index PySem.F.type_list_index mt_index (sndA o X c W FC G tk _ h4).1 (pa_cons (sndA y X c W FC G tk _ h5).1 pa_nil (star_cons h1)) (attr_plain h2) hfew h3 (star_cons h1) rfl) fun σ H Q q => ?_
    obtain ⟨r, e, h, E, n, w⟩ := q
    refine stepE E n w fun r1 H1 h1 va A x1 E1 n1 p1 w1 => ?_
    cases g0 : getL h1 va with
    | none => rw [g0] at w1; exact w1.elim
    | some ys =>
      rw [g0] at w1
      obtain ⟨a, vs, rfl, l1, q1⟩ := getL_ok E1 g0 p1
      refine ⟨.inl ⟨rfl, vs, sq_of l1⟩, ?_⟩
      refine stepE E1 n1 w1 fun r2 H2 h2 vb B x2 E2 n2 p2 w2 => ?_
      cases g : lixV h2 va vb with
      | none => rw [g] at w2; exact w2.elim
      | some z =>
        rw [g] at w2
        unfold lixV at g
        obtain ⟨zs, g1, g2⟩ := Option.bind_eq_some_iff.mp g
        split at g2
        · rename_i hf
          simp only [Bool.and_eq_true] at hf
          obtain ⟨j, g3, g4⟩ := Option.map_eq_some_iff.mp g2
          subst g4
          obtain ⟨b, us, e0, l2, q2⟩ := getL_ok E2 g1 (Rep.mono x2 _ _ p1)
          cases e0
          obtain ⟨f1, f2⟩ := flat_rep hf.1 p2
          obtain ⟨k1, _⟩ := flats_rep hf.1 p2 hf.2 q2
          rw [List.findIdx?_eq_some_iff_getElem] at g3
          obtain ⟨hj, e1, e2⟩ := g3
          obtain ⟨v, e3, e4⟩ := q2.get (i := j) (x := zs[j]) (by simp [hj])
          have fl : ∀ (i : Nat) (hi : i < zs.length), flatM zs[i] = true := fun i hi => List.all_eq_true.mp hf.2 _ (List.getElem_mem hi)
          refine ⟨a, us, B, j, v, rfl, rfl, sq_of l2, f1, k1, e3, by rw [f2 _ _ (fl j hj) e4]; exact e1, fun m z' hm ez => ?_, w2 r2 H2 _ Ext.refl E2 rep_int⟩
          have hm2 : m < zs.length := by omega
          obtain ⟨v', e5, e6⟩ := q2.get (i := m) (x := zs[m]) (by simp [hm2])
          rw [ez] at e5
          cases e5
          rw [f2 _ _ (fl m hm2) e6]
          have := e2 m hm
          simpa using this
        · cases g2
  | .spc o y, X, c, W, FC, G, tk, x, hh => by
    unfold ckE at hh
    split at hh <;> first | (cases hh; done) | skip
    refine fin3 ?_ rfl
    simp only [Bool.and_eq_true, decide_eq_true_eq] at hh
    obtain ⟨⟨⟨⟨⟨rfl, hs⟩, h1⟩, h2⟩, h3⟩, h4⟩ := hh
    simp only [evE]
    refine PEimp (pe_m1 F.slot_str_split F.type_str_split mt_split (sndA o X c W FC G tk _ h3).1 (sndA y X c W FC G tk _ h4).1 (star_cons hs) (attr_plain h1) h2) fun σ H Q q => ?_
    obtain ⟨r, e, h, E, n, w⟩ := q
    refine stepE E n w fun r1 H1 h1 va A x1 E1 n1 p1 w1 => ?_
    cases va <;> first | exact w1.elim | skip
    simp only [Rep] at p1
    subst p1
    refine ⟨⟨_, rfl⟩, ?_⟩
    simp only [isStr, if_true] at w1
    refine stepE E1 n1 w1 fun r2 H2 h2 vb B x2 E2 n2 p2 w2 => ?_
    cases vb <;> first | (simp only [spcV] at w2; exact w2.elim) | skip
    simp only [spcV] at w2
    simp only [Rep] at p2
    subst p2
    split at w2
    · rename_i xs hz
      split at hz
      · rename_i hz2
        cases hz
        refine ⟨_, _, rfl, rfl, hz2.1, by rw [← sz_eq]; exact hz2.2, fun p hp => ?_⟩
        obtain ⟨y1, y2⟩ := E2.cell hp (strs_reps (cA := cA) (cF := cF) (Txt.split _ _))
        refine w2 _ _ _ y1 y2 ?_
        simp only [Rep]
        exact ⟨p, rfl, by rw [← E2.len]; simp⟩
      · cases hz
    · exact w2.elim
  | .sxi o y, X, c, W, FC, G, tk, x, hh => by
    unfold ckE at hh
    split at hh <;> first | (cases hh; done) | skip
    refine fin3 ?_ rfl
    simp only [Bool.and_eq_true, decide_eq_true_eq] at hh
    obtain ⟨⟨⟨⟨⟨rfl, hs⟩, h1⟩, h2⟩, h3⟩, h4⟩ := hh
    simp only [evE]
    refine PEimp (pe_m1 F.slot_str_index F.type_str_index mt_sindex (sndA o X c W FC G tk _ h3).1 (sndA y X c W FC G tk _ h4).1 (star_cons hs) (attr_plain h1) h2) fun σ H Q q => ?_
    obtain ⟨r, e, h, E, n, w⟩ := q
    refine stepE E n w fun r1 H1 h1 va A x1 E1 n1 p1 w1 => ?_
    cases va <;> first | exact w1.elim | skip
    simp only [Rep] at p1
    subst p1
    refine ⟨⟨_, rfl⟩, ?_⟩
    simp only [isStr, if_true] at w1
    refine stepE E1 n1 w1 fun r2 H2 h2 vb B x2 E2 n2 p2 w2 => ?_
    cases vb <;> first | (simp only [sxiV] at w2; exact w2.elim) | skip
    simp only [sxiV] at w2
    simp only [Rep] at p2
    subst p2
    cases q : Builtin.Str.occurrences _ _ 0 _ 1 with
    | nil => rw [q] at w2; exact w2.elim
    | cons i rest =>
      rw [q] at w2
      exact ⟨_, _, i, rest, rfl, rfl, q, w2 r2 H2 _ Ext.refl E2 rep_int⟩
theorem sndEsA : ∀ (es : Es) (X : Cx) (c : Ck) (W : WX) (FC : Fc X.prog X.w X.K X.mg X.base cA cF T C k c) (G : Gd X c k) (tk : TakesF X W) (xs : List Expr), ckEs c es xs = true → PA X xs (tAs X.K cA cF W (evEs T C es))
  | .nil, X, c, W, FC, G, tk, xs, hh => by
    cases xs with
    | cons _ _ => simp [ckEs] at hh
    | nil =>
      refine PAimp pa_nil fun σ H Q q => ?_
      obtain ⟨r, e, h, E, n, w⟩ := q
      simp only [evEs] at w
      exact w r H [] Ext.refl E (by simp only [Reps])
  | .cons a es, X, c, W, FC, G, tk, xs, hh => by
    cases xs with
    | nil => simp [ckEs] at hh
    | cons x xs =>
      simp only [ckEs, Bool.and_eq_true] at hh
      obtain ⟨⟨h1, h2⟩, h3⟩ := hh
      refine PAimp (pa_cons (sndA a X c W FC G tk x h2).1 (sndEsA es X c W FC G tk xs h3) (star_cons h1)) fun σ H Q q => ?_
      obtain ⟨r, e, h, E, n, w⟩ := q
      simp only [evEs] at w
      refine stepE E n w fun r1 H1 h1 va A x1 E1 n1 p1 w1 => ?_
      refine stepA E1 n1 w1 fun r2 H2 h2 vs VS x2 E2 n2 p2 w2 => ?_
      exact w2 r2 H2 (A :: VS) Ext.refl E2 (by simp only [Reps]; exact ⟨A, VS, rfl, Rep.mono x2 _ _ p1, p2⟩)
theorem sndI : ∀ (it : I) (X : Cx) (c : Ck) (W : WX) (FC : Fc X.prog X.w X.K X.mg X.base cA cF T C k c) (G : Gd X c k) (tk : TakesF X W) (tg x : Expr), ckI c tg it x = true → PI X tg x (tI X.K cA cF W (itE T C it))
  | .seq a, X, c, W, FC, G, tk, tg, x, hh => by
    simp only [ckI, Bool.and_eq_true] at hh
    refine PIimp (pi_seq (sndA a X c W FC G tk x hh.2).1) fun σ H Q q => ?_
    obtain ⟨r, e, h, E, n, w⟩ := q
    refine ⟨r, e, h, E, n, ?_⟩
    simp only [itE] at w
    cases q : evE T C a e h with
    | bad => rw [q] at w; exact w
    | exc y h1 => rw [q] at w; exact w
    | ok v h1 =>
      rw [q] at w
      simp only [R.bind_ok] at w
      intro r1 H1 V x1 E1 p1
      cases g : seqOf h1 v with
      | none =>
        rw [g] at w
        cases v <;> first | exact w.elim | skip
        have p2 := p1
        simp only [Rep] at p2
        exact .inr ⟨_, p2, w r1 H1 _ _ x1 E1 trivial lk_str⟩
      | some xs =>
        rw [g] at w
        left
        by_cases hv : ∃ ys, v = .tup ys
        · obtain ⟨ys, rfl⟩ := hv
          simp only [seqOf, Option.some.injEq] at g
          subst g
          have p := p1
          simp only [Rep] at p
          obtain ⟨a, vs, rfl, ⟨_, h1⟩, _⟩ := p
          exact ⟨a, rfl, .inr ⟨⟨vs, SqT.of h1⟩, w r1 H1 _ _ x1 E1 p1 lk_tup⟩⟩
        · have hs : ∀ h, seqOf h v = getL h v := by
            intro h
            cases v <;> first | rfl | exact absurd ⟨_, rfl⟩ hv
          obtain ⟨a, vs, rfl, l1, q1⟩ := getL_ok E1 (by rw [← hs]; exact g) p1
          exact ⟨a, rfl, .inl ⟨⟨vs, sq_of l1⟩, w r1 H1 _ _ x1 E1 p1 (lk_list hs)⟩⟩
  | .rng1 a, X, c, W, FC, G, tk, tg, x, hh => by
    simp only [ckI] at hh
    split at hh <;> first | (cases hh; done) | skip
    simp only [Bool.and_eq_true, decide_eq_true_eq] at hh
    obtain ⟨⟨⟨⟨h0, rfl⟩, h1⟩, h2⟩, h3⟩ := hh
    obtain ⟨g1, g2⟩ := gl_of G h1
    refine PIimp (pi_range1 g1 (FC.free _ h2) (pa_cons (sndA a X c W FC G tk _ h3).1 pa_nil (star_cons h0)) (star_cons h0)) fun σ H Q q => ?_
    obtain ⟨r, e, h, E, n, w⟩ := q
    simp only [itE] at w
    refine ⟨r, e, h, E, n, ?_⟩
    cases q : evE T C a e h with
    | bad => rw [q] at w; exact w
    | exc y h1 => rw [q] at w; exact w
    | ok v h1 =>
      rw [q] at w
      simp only [R.bind_ok] at w
      intro r1 H1 V x1 E1 p1
      cases v <;> first | exact w.elim | skip
      simp only [Rep] at p1
      subst p1
      rename_i j
      by_cases hj : -(2 ^ 62) ≤ j ∧ j < 2 ^ 62
      · simp only [if_pos hj] at w
        exact ⟨_, rfl, hj.1, hj.2, w r1 H1 _ _ x1 E1 trivial lk_rng⟩
      · simp only [if_neg hj] at w
  | .rng2 a b, X, c, W, FC, G, tk, tg, x, hh => by
    simp only [ckI] at hh
    split at hh <;> first | (cases hh; done) | skip
    simp only [Bool.and_eq_true, decide_eq_true_eq] at hh
    obtain ⟨⟨⟨⟨⟨⟨h0, h0'⟩, rfl⟩, h1⟩, h2⟩, h3⟩, h4⟩ := hh
    obtain ⟨g1, g2⟩ := gl_of G h1
    refine PIimp (pi_range2 g1 (FC.free _ h2) (pa_cons (sndA a X c W FC G tk _ h3).1 (pa_cons (sndA b X c W FC G tk _ h4).1 pa_nil (star_cons h0')) (star_cons h0)) (by rw [star_cons h0, star_cons h0']; rfl) (star_cons h0')) fun σ H Q q => ?_
    obtain ⟨r, e, h, E, n, w⟩ := q
    simp only [itE] at w
    refine ⟨r, e, h, E, n, ?_⟩
    cases q : evE T C a e h with
    | bad => rw [q] at w; exact w
    | exc y h1 => rw [q] at w; exact w
    | ok v h1 =>
      rw [q] at w
      simp only [R.bind_ok] at w
      intro r1 H1 V x1 E1 p1
      refine ⟨r1, e, h1, E1, n.mono x1, ?_⟩
      cases q2 : evE T C b e h1 with
      | bad => rw [q2] at w; exact w
      | exc y h2 => rw [q2] at w; exact fun r' H' cls d e1 e2 e3 => w r' H' cls d (x1.trans e1) e2 e3
      | ok u h2 =>
        rw [q2] at w
        simp only [R.bind_ok] at w
        intro r2 H2 U x2 E2 p2
        cases v <;> first | exact w.elim | skip
        cases u <;> first | exact w.elim | skip
        simp only [Rep] at p1 p2
        subst p1 p2
        rename_i i j
        by_cases hj : (-(2 ^ 62) ≤ i ∧ i < 2 ^ 62) ∧ -(2 ^ 62) ≤ j ∧ j < 2 ^ 62
        · simp only [if_pos hj] at w
          exact ⟨_, _, rfl, ⟨hj.1.1, hj.1.2, hj.2.1, hj.2.2⟩, w r2 H2 _ _ (x1.trans x2) E2 trivial lk_rng⟩
        · simp only [if_neg hj] at w
  | .rng3 a b d, X, c, W, FC, G, tk, tg, x, hh => by
    simp only [ckI] at hh
    split at hh <;> first | (cases hh; done) | skip
    simp only [Bool.and_eq_true, decide_eq_true_eq] at hh
    obtain ⟨⟨⟨⟨⟨⟨⟨⟨h0, h0'⟩, h0''⟩, rfl⟩, h1⟩, h2⟩, h3⟩, h4⟩, h5⟩ := hh
    obtain ⟨g1, g2⟩ := gl_of G h1
    refine PIimp (pi_range3 g1 (FC.free _ h2) (pa_cons (sndA a X c W FC G tk _ h3).1 (pa_cons (sndA b X c W FC G tk _ h4).1 (pa_cons (sndA d X c W FC G tk _ h5).1 pa_nil (star_cons h0'')) (star_cons h0')) (star_cons h0)) (star_cons h0) (by rw [star_cons h0', star_cons h0'']; rfl)) fun σ H Q q => ?_
    obtain ⟨r, e, h, E, n, w⟩ := q
    simp only [itE] at w
    refine ⟨r, e, h, E, n, ?_⟩
    cases q : evE T C a e h with
    | bad => rw [q] at w; exact w
    | exc y h1 => rw [q] at w; exact w
    | ok v h1 =>
      rw [q] at w
      simp only [R.bind_ok] at w
      intro r1 H1 V x1 E1 p1
      refine ⟨r1, e, h1, E1, n.mono x1, ?_⟩
      cases q2 : evE T C b e h1 with
      | bad => rw [q2] at w; exact w
      | exc y h2 => rw [q2] at w; exact fun r' H' cls d e1 e2 e3 => w r' H' cls d (x1.trans e1) e2 e3
      | ok u h2 =>
        rw [q2] at w
        simp only [R.bind_ok] at w
        intro r2 H2 U x2 E2 p2
        refine ⟨r2, e, h2, E2, (n.mono x1).mono x2, ?_⟩
        cases q3 : evE T C d e h2 with
        | bad => rw [q3] at w; exact w
        | exc y h3 => rw [q3] at w; exact fun r' H' cls d e1 e2 e3 => w r' H' cls d ((x1.trans x2).trans e1) e2 e3
        | ok z h3 =>
          rw [q3] at w
          simp only [R.bind_ok] at w
          intro r3 H3 Z x3 E3 p3
          cases v <;> first | exact w.elim | skip
          cases u <;> first | exact w.elim | skip
          cases z <;> first | exact w.elim | skip
          simp only [Rep] at p1 p2 p3
          subst p1 p2 p3
          rename_i i j s
          by_cases hj : rg3B i j s = true
          · simp only [if_pos hj] at w
            have hb := hj
            unfold rg3B at hj
            simp only [Bool.and_eq_true, decide_eq_true_eq] at hj
            exact ⟨i, j, s, (Builtin.Range.rangeSize i j s).toNat, rfl, ⟨hj.1, hj.2.1, hj.2.2.1, by have := hj.2.2.2; omega⟩, w r3 H3 _ _ ((x1.trans x2).trans x3) E3 trivial lk_rg3⟩
          · simp only [if_neg hj] at w
  | .zip a b, X, c, W, FC, G, tk, tg, x, hh => by
    simp only [ckI] at hh
    split at hh <;> first | (cases hh; done) | skip
    simp only [Bool.and_eq_true, decide_eq_true_eq] at hh
    obtain ⟨⟨⟨⟨⟨⟨⟨ht, h0⟩, h0'⟩, rfl⟩, h1⟩, h2⟩, h3⟩, h4⟩ := hh
    cases tg <;> first | (cases ht; done) | skip
    obtain ⟨g1, g2⟩ := gl_of G h1
    refine PIimp (pi_zip g1 (FC.free _ h2) (pa_cons (sndA a X c W FC G tk _ h3).1 (pa_cons (sndA b X c W FC G tk _ h4).1 pa_nil (star_cons h0')) (star_cons h0)) (star_cons h0) (by rw [star_cons h0']; rfl)) fun σ H Q q => ?_
    obtain ⟨r, e, h, E, n, w⟩ := q
    simp only [itE] at w
    refine ⟨r, e, h, E, n, ?_⟩
    cases q : evE T C a e h with
    | bad => rw [q] at w; exact w
    | exc y h1 => rw [q] at w; exact w
    | ok v h1 =>
      rw [q] at w
      simp only [R.bind_ok] at w
      intro r1 H1 V x1 E1 p1
      refine ⟨r1, e, h1, E1, n.mono x1, ?_⟩
      cases q2 : evE T C b e h1 with
      | bad => rw [q2] at w; exact w
      | exc y h2 => rw [q2] at w; exact fun r' H' cls d e1 e2 e3 => w r' H' cls d (x1.trans e1) e2 e3
      | ok u h2 =>
        rw [q2] at w
        simp only [R.bind_ok] at w
        intro r2 H2 U x2 E2 p2
        cases g : zipS v u h2 with
        | none => rw [g] at w; exact w.elim
        | some zs =>
          rw [g] at w
          have g0 := g
          unfold zipS at g
          obtain ⟨xs, e1, g⟩ := Option.bind_eq_some_iff.mp g
          obtain ⟨ys, e2, g⟩ := Option.map_eq_some_iff.mp g
          have p1 := Rep.mono x2 _ _ p1
          obtain ⟨a', vs, rfl, l1, q1⟩ := getL_ok E2 e1 p1
          obtain ⟨b', us, rfl, l2, q2⟩ := getL_ok E2 e2 p2
          exact ⟨a', b', vs, us, rfl, sq_of l1, sq_of l2, w r2 H2 _ _ (x1.trans x2) E2 ⟨p1, p2⟩ lk_zip⟩
  | .enm a, X, c, W, FC, G, tk, tg, x, hh => by
    simp only [ckI] at hh
    split at hh <;> first | (cases hh; done) | skip
    simp only [Bool.and_eq_true, decide_eq_true_eq] at hh
    obtain ⟨⟨⟨⟨⟨ht, h0⟩, rfl⟩, h1⟩, h2⟩, h3⟩ := hh
    cases tg <;> first | (cases ht; done) | skip
    obtain ⟨g1, g2⟩ := gl_of G h1
    refine PIimp (pi_enum g1 (FC.free _ h2) (pa_cons (sndA a X c W FC G tk _ h3).1 pa_nil (star_cons h0)) (star_cons h0)) fun σ H Q q => ?_
    obtain ⟨r, e, h, E, n, w⟩ := q
    simp only [itE] at w
    refine ⟨r, e, h, E, n, ?_⟩
    cases q : evE T C a e h with
    | bad => rw [q] at w; exact w
    | exc y h1 => rw [q] at w; exact w
    | ok v h1 =>
      rw [q] at w
      simp only [R.bind_ok] at w
      intro r1 H1 V x1 E1 p1
      cases g : enmS v h1 with
      | none => rw [g] at w; exact w.elim
      | some zs =>
        rw [g] at w
        have g0 := g
        unfold enmS at g
        obtain ⟨xs, e1, g⟩ := Option.map_eq_some_iff.mp g
        obtain ⟨a', vs, rfl, l1, q1⟩ := getL_ok E1 e1 p1
        exact ⟨a', vs, rfl, sq_of l1, w r1 H1 _ _ x1 E1 p1 lk_enm⟩
end
end
section
variable {X : Cx} {cA : Nat → Addr} {cF : Nat → List Str} {T : Tab} {C : Nat → List MV → HP → R MV} {k : Nat} {c : Ck} {W : WX}
theorem snd (FC : Fc X.prog X.w X.K X.mg X.base cA cF T C k c) (G : Gd X c k) (tk : TakesF X W) (e : E) (x : Expr) (hh : ckE c e x = true) : PE X x (tE X.K cA cF W (evE T C e)) ∧ (tsB x = true → PT X x (tTt X.K cA cF W (evE T C e))) ∧ (isBO x = true → PW X x (tTt X.K cA cF W (evE T C e))) := sndA e X c W FC G tk x hh
end
end Rm

/-! Rm, part F: statements. -/
namespace Rm
open PySem L2 PySem.Spec PyProof.Rows
section
variable (K : PySem.W.Frag) (cA : Nat → Addr) (cF : Nat → List Str)
def wpO (r : List Addr) (H : Hp) (o : O) (D : Ends) (W : WX) : Prop := match o with
  | .nx e h' => ∀ r' H' σ, Ext r H r' H' → Emb K cA cF H' r' h' → REn K cA cF H' r' e σ → D.nx σ H'
  | .ct e h' => ∀ r' H' σ, Ext r H r' H' → Emb K cA cF H' r' h' → REn K cA cF H' r' e σ → D.ct σ H'
  | .ret v h' => ∀ r' H' V, Ext r H r' H' → Emb K cA cF H' r' h' → Rep K cA cF H' r' v V → D.rt V H'
  | .exc x e h' => ∀ r' H' σ cls d, Ext r H r' H' → Emb K cA cF H' r' h' → REn K cA cF H' r' e σ → RepX cA x cls d → W cls d σ H'
  | .bad => False
def tS (W : WX) (f : EN → HP → O) : TS := fun D σ H => ∃ r e h, Emb K cA cF H r h ∧ REn K cA cF H r e σ ∧ wpO K cA cF r H (f e h) D W
def tG (tg : Tg) : TG := fun V σ H Q => ∃ r e h v e', Emb K cA cF H r h ∧ REn K cA cF H r e σ ∧ Rep K cA cF H r v V ∧ setG tg v e = some e' ∧ ∀ σ', REn K cA cF H r e' σ' → Q σ' H
end
section
variable {K : PySem.W.Frag} {cA : Nat → Addr} {cF : Nat → List Str} {r r1 : List Addr} {H H1 : Hp} {h : HP} {e : EN} {σ : L2.St} {W : WX} {D : Ends}
theorem wpO.mono {o : O} (x : Ext r H r1 H1) (w : wpO K cA cF r H o D W) : wpO K cA cF r1 H1 o D W := by
  cases o with
  | nx a b => exact fun r' H' s e1 e2 e3 => w r' H' s (x.trans e1) e2 e3
  | ct a b => exact fun r' H' s e1 e2 e3 => w r' H' s (x.trans e1) e2 e3
  | ret a b => exact fun r' H' s e1 e2 e3 => w r' H' s (x.trans e1) e2 e3
  | exc a b c => exact fun r' H' s cls d e1 e2 e3 => w r' H' s cls d (x.trans e1) e2 e3
  | bad => exact w
/-- an expression ahead in a statement -/
theorem stepS {f : EN → HP → R MV} {k : MV → HP → O} {Q' : VK}
    (E : Emb K cA cF H r h) (n : REn K cA cF H r e σ) (w : wpO K cA cF r H ((f e h).go e k) D W)
    (cont : ∀ r1 H1 h1 x V, Ext r H r1 H1 → Emb K cA cF H1 r1 h1 → REn K cA cF H1 r1 e σ → Rep K cA cF H1 r1 x V → wpO K cA cF r1 H1 (k x h1) D W → Q' V H1) : tE K cA cF W f σ H Q' := by
  refine ⟨r, e, h, E, n, ?_⟩
  cases q : f e h with
  | ok x h1 =>
    rw [q] at w
    exact fun r1 H1 V e1 e2 e3 => cont r1 H1 h1 x V e1 e2 (n.mono e1) e3 (wpO.mono e1 w)
  | exc x h1 =>
    rw [q] at w
    exact fun r' H' cls d e1 e2 e3 => w r' H' σ cls d e1 e2 (n.mono e1) e3
  | bad => rw [q] at w; exact w
theorem stepT {f : EN → HP → R MV} {k : MV → HP → O} {Q' : Bool → Hp → Prop}
    (E : Emb K cA cF H r h) (n : REn K cA cF H r e σ) (w : wpO K cA cF r H ((f e h).go e k) D W) (hb : ∀ x h1, (∀ b, x ≠ .bl b) → k x h1 = .bad)
    (cont : ∀ r1 H1 h1 b, Ext r H r1 H1 → Emb K cA cF H1 r1 h1 → REn K cA cF H1 r1 e σ → wpO K cA cF r1 H1 (k (.bl b) h1) D W → Q' b H1) : tTt K cA cF W f σ H Q' := by
  refine ⟨r, e, h, E, n, ?_⟩
  cases q : f e h with
  | ok x h1 =>
    rw [q] at w
    by_cases hx : ∃ b, x = .bl b
    · obtain ⟨b, rfl⟩ := hx
      exact fun r1 H1 e1 e2 => cont r1 H1 h1 b e1 e2 (n.mono e1) (wpO.mono e1 w)
    · have z := hb x h1 (fun b hb => hx ⟨b, hb⟩)
      rw [R.go_ok, z] at w
      exact w.elim
  | exc x h1 =>
    rw [q] at w
    exact fun r' H' cls d e1 e2 e3 => w r' H' σ cls d e1 e2 (n.mono e1) e3
  | bad => rw [q] at w; exact w
theorem PSimp {X : Cx} {x : Stmt} {t u : TS} (p : PS X x t) (i : ∀ D σ H, u D σ H → t D σ H) : PS X x u := ⟨fun pins s σ H D I q => p.run pins s σ H D I (i D σ H q)⟩
theorem PSsimp {X : Cx} {x : List Stmt} {t u : TS} (p : PSs X x t) (i : ∀ D σ H, u D σ H → t D σ H) : PSs X x u := ⟨fun pins s σ H D I q => p.run pins s σ H D I (i D σ H q)⟩
end

structure Gs (X : Cx) (c : Ck) (k : Nat) : Prop extends Gd X c k where
  fn : ∀ x, X.fn x = true
  own : PassesOwn (model X.prog X.w) X.A X.env X.xe
  stk : X.stack = X.env :: X.outer
  frm : X.env.frame = some X.env.locals
  exn : X.ex = []
section
variable {X : Cx} {cA : Nat → Addr} {cF : Nat → List Str} {T : Tab} {C : Nat → List MV → HP → R MV} {k : Nat} {c : Ck} {W : WX}
/-! ### targets -/
def tGs (K : PySem.W.Frag) (cA : Nat → Addr) (cF : Nat → List Str) (is : List Nat) : TGs := fun Vs σ H Q => ∃ r e h vs e', Emb K cA cF H r h ∧ REn K cA cF H r e σ ∧ Reps K cA cF H r vs Vs ∧ setT is vs e = some e' ∧ ∀ σ', REn K cA cF H r e' σ' → Q σ' H
theorem pgs_ok (G : Gs X c k) : ∀ (is : List Nat) (xs : List Expr), ckNs c is xs = true → PGs X xs (tGs X.K cA cF is)
  | [], xs, hh => by
    cases xs with
    | cons _ _ => simp [ckNs] at hh
    | nil =>
      refine PGsimp pgs_nil fun V σ H Q q => ?_
      obtain ⟨r, e, h, vs, e', E, n, p, g, q⟩ := q
      cases vs with
      | cons _ _ => simp [setT] at g
      | nil =>
        simp only [setT, Option.some.injEq] at g
        subst g
        simp only [Reps] at p
        exact ⟨p, q σ n⟩
  | i :: is, xs, hh => by
    unfold ckNs at hh
    split at hh <;> first | (cases hh; done) | skip
    simp only [Bool.and_eq_true, decide_eq_true_eq] at hh
    obtain ⟨⟨h1, h2⟩, h3⟩ := hh
    rename_i y pos ys
    refine PGsimp (pgs_cons (pg_name (i := i) G.nd (by rw [G.hN]; exact h1) (by rw [G.sc]; exact loc_of h2) (.inl (G.fn _))) (pgs_ok G is ys h3) rfl) fun V σ H Q q => ?_
    obtain ⟨r, e, h, vs, e', E, n, p, g, q⟩ := q
    cases vs with
    | nil => simp [setT] at g
    | cons v vs =>
      simp only [setT] at g
      simp only [Reps] at p
      obtain ⟨V1, Vs, rfl, p1, p2⟩ := p
      exact ⟨V1, Vs, rfl, r, _, h, vs, e', E, n.set p1, p2, g, q⟩
theorem assignEach_len {c : Ck} {env : Env} : ∀ (is : List Nat) (xs : List Expr), ckNs c is xs = true → (assignEach xs env).length = is.length ∧ (assignEach xs env).findIdx? (·.1) = none
  | [], xs, hh => by
    cases xs with
    | cons _ _ => simp [ckNs] at hh
    | nil => exact ⟨rfl, rfl⟩
  | i :: is, xs, hh => by
    unfold ckNs at hh
    split at hh <;> first | (cases hh; done) | skip
    simp only [Bool.and_eq_true] at hh
    obtain ⟨a, b⟩ := assignEach_len (env := env) is _ hh.2
    rename_i y pos ys
    refine ⟨?_, ?_⟩
    · show (_ :: assignEach ys env).length = _
      rw [List.length_cons, a, List.length_cons]
    · show List.findIdx? _ (_ :: assignEach ys env) = none
      rw [List.findIdx?_cons, b]; rfl
theorem pg_ok (G : Gs X c k) (tg : Tg) (x : Expr) (hh : ckG c tg x = true) : PG X x (tG X.K cA cF tg) := by
  cases tg with
  | one i =>
    simp only [ckG] at hh
    split at hh <;> first | (cases hh; done) | skip
    simp only [Bool.and_eq_true, decide_eq_true_eq] at hh
    refine PGimp (pg_name (i := i) G.nd (by rw [G.hN]; exact hh.1) (by rw [G.sc]; exact loc_of hh.2) (.inl (G.fn _))) fun V σ H Q q => ?_
    obtain ⟨r, e, h, v, e', E, n, p, g, q⟩ := q
    simp only [setG, Option.some.injEq] at g
    subst g
    exact q _ (n.set p)
  | tup is =>
    simp only [ckG] at hh
    split at hh <;> first | (cases hh; done) | skip
    obtain ⟨a, b⟩ := assignEach_len (env := X.env) is _ hh
    rename_i kk pp
    have P1 := pg_tup (k := kk) (pos := pp) G.calm (pgs_ok (cA := cA) (cF := cF) G is _ hh) a b
    have P2 := pg_lst (k := kk) (pos := pp) G.calm (pgs_ok (cA := cA) (cF := cF) G is _ hh) a b
    have hl : ∀ (is : List Nat) (us : List MV) (e e' : EN), setT is us e = some e' → us.length = is.length := by
      intro is
      induction is with
      | nil => intro us e e' g; cases us with | nil => rfl | cons _ _ => simp [setT] at g
      | cons i is ih => intro us e e' g; cases us with | nil => simp [setT] at g | cons v us => simp only [setT] at g; simp [ih us _ _ g]
    refine ⟨fun pins s σ H V u Q I rr q => ?_⟩
    obtain ⟨r, e, h, v, e', E, n, p, g, q⟩ := q
    cases v <;> first | (simp only [setG] at g; cases g; done) | skip
    · simp only [setG] at g
      simp only [Rep] at p
      obtain ⟨ad, Vs, rfl, ⟨_, p1⟩, p2⟩ := p
      exact P1.run pins s σ H _ u Q I rr ⟨ad, Vs, rfl, SqT.of p1, by rw [p2.length]; exact hl _ _ _ _ g, r, e, h, _, e', E, n, p2, g, q⟩
    · simp only [setG] at g
      simp only [Rep] at p
      obtain ⟨ad, Vs, rfl, p1, p2⟩ := p
      exact P2.run pins s σ H _ u Q I rr ⟨ad, Vs, rfl, p1.sq, by rw [p2.length]; exact hl _ _ _ _ g, r, e, h, _, e', E, n, p2, g, q⟩

theorem pi_ok (FC : Fc X.prog X.w X.K X.mg X.base cA cF T C k c) (G : Gs X c k) (tk : Takes X W) (tg : Expr) (it : I) (x : Expr) (hh : ckI c tg it x = true) : PI X tg x (tI X.K cA cF W (itE T C it)) := sndI it X c W FC G.toGd (takesF_of G.frm tk) tg x hh
end
end Rm

/-! Rm, part G: loops, try, the theorem for statements. -/
namespace Rm
open PySem L2 PySem.Spec PyProof.Rows
section
variable {X : Cx} {cA : Nat → Addr} {cF : Nat → List Str} {W : WX}
theorem for_ok {K : PySem.W.Frag} {tg : Tg} {J : It} {src : HP → Option (List MV)} {all : List MV} {P : List Addr → Hp → Prop} {f : EN → HP → O} {D : Ends} {r : List Addr} {H : Hp} {e : EN} {h : HP} {σ : L2.St}
    (L : Lk K cA cF J src all P) (p : P r H) (E : Emb K cA cF H r h) (n : REn K cA cF H r e σ) (w : wpO K cA cF r H (forL tg src all f all e h) D W) :
    ∃ Wi : Nat → Nat → L2.St → Hp → Prop, (∃ m, Wi 0 m σ H) ∧ ∀ i m σ H, Wi i m σ H →
      (J.stop i H ∧ D.nx σ H) ∨ (J.go i H ∧ ∃ N : L2.St → Hp → Prop, (∀ σ' H', N σ' H' → ∃ m', m' < m ∧ Wi (i + 1) m' σ' H') ∧ ∀ x H', J.yld i H x H' → tG K cA cF tg x σ H' fun σ2 H2 => tS K cA cF W f { D with nx := N, ct := N, bk := D.nx } σ2 H2) := by
  refine ⟨fun i m σ H => m = all.length - i ∧ i ≤ all.length ∧ ∃ r e h, P r H ∧ Emb K cA cF H r h ∧ REn K cA cF H r e σ ∧ wpO K cA cF r H (forL tg src all f (all.drop i) e h) D W,
    ⟨all.length, by simp, Nat.zero_le _, r, e, h, p, E, n, by simpa using w⟩, ?_⟩
  rintro i m σ H ⟨rfl, hi, r, e, h, p, E, n, w⟩
  by_cases hlt : i < all.length
  · have ed : all.drop i = all[i] :: all.drop (i + 1) := List.drop_eq_getElem_cons hlt
    rw [ed] at w
    unfold forL at w
    by_cases hs : src h = some all
    · rw [if_pos hs] at w
      obtain ⟨g1, g2⟩ := L.go r H h i all[i] p E hs (by simp [hlt])
      refine .inr ⟨g1, _, fun σ' H' z => ⟨all.length - (i + 1), by omega, rfl, hlt, z⟩, fun V H' y => ?_⟩
      obtain ⟨x0, E, rv⟩ := g2 V H' y
      replace p := L.mono _ _ _ _ p x0
      replace n := n.mono x0
      replace w := wpO.mono x0 w
      cases q : setG tg all[i] e with
      | none => rw [q] at w; exact w.elim
      | some e' =>
        rw [q] at w
        refine ⟨r, e, h, _, e', E, n, rv, q, fun σ' n' => ⟨r, e', h, E, n', ?_⟩⟩
        cases q2 : f e' h with
        | nx a b => simp only [q2] at w; exact fun r' H' s x1 x2 x3 => ⟨r', a, b, L.mono _ _ _ _ p x1, x2, x3, wpO.mono x1 w⟩
        | ct a b => simp only [q2] at w; exact fun r' H' s x1 x2 x3 => ⟨r', a, b, L.mono _ _ _ _ p x1, x2, x3, wpO.mono x1 w⟩
        | ret a b => simp only [q2] at w; exact w
        | exc a b d => simp only [q2] at w; exact w
        | bad => simp only [q2] at w; exact w.elim
    · rw [if_neg hs] at w; exact w.elim
  · have ei : i = all.length := by omega
    subst ei
    rw [List.drop_length] at w
    unfold forL at w
    by_cases hs : src h = some all
    · rw [if_pos hs] at w
      exact .inl ⟨L.stop r H h p E hs, w r H σ Ext.refl E n⟩
    · rw [if_neg hs] at w; exact w.elim
theorem whl_ok {K : PySem.W.Frag} {t : EN → HP → R MV} {f : EN → HP → O} {D : Ends} {r : List Addr} {H : Hp} {e : EN} {h : HP} {σ : L2.St} {m : Nat}
    (E : Emb K cA cF H r h) (n : REn K cA cF H r e σ) (w : wpO K cA cF r H (whlL t f m e h) D W) : tWhile (tTt K cA cF W t) (tS K cA cF W f) D σ H := by
  refine ⟨fun m σ H => ∃ r e h, Emb K cA cF H r h ∧ REn K cA cF H r e σ ∧ wpO K cA cF r H (whlL t f m e h) D W, ⟨m, r, e, h, E, n, w⟩, ?_⟩
  rintro m σ H ⟨r, e, h, E, n, w⟩
  cases m with
  | zero => exact w.elim
  | succ m =>
    unfold whlL at w
    refine stepT E n w (fun x h1 hx => ?_) fun r1 H1 h1 b x1 E1 n1 w1 => ?_
    · cases x <;> first | rfl | exact absurd rfl (hx _)
    · cases b with
      | false => rw [if_neg Bool.false_ne_true]; exact w1 r1 H1 σ Ext.refl E1 n1
      | true =>
        rw [if_pos rfl]
        refine ⟨fun σ' H' => ∃ r e h, Emb K cA cF H' r h ∧ REn K cA cF H' r e σ' ∧ wpO K cA cF r H' (whlL t f m e h) D W, fun σ' H' z => ⟨m, Nat.lt_succ_self _, z⟩, r1, e, h1, E1, n1, ?_⟩
        cases q2 : f e h1 with
        | nx a b => simp only [q2] at w1; exact fun r' H' s x1 x2 x3 => ⟨r', a, b, x2, x3, wpO.mono x1 w1⟩
        | ct a b => simp only [q2] at w1; exact fun r' H' s x1 x2 x3 => ⟨r', a, b, x2, x3, wpO.mono x1 w1⟩
        | ret a b => simp only [q2] at w1; exact w1
        | exc a b d => simp only [q2] at w1; exact w1
        | bad => simp only [q2] at w1; exact w1.elim

/-! ### a caught exception is kept as a value -/
theorem Inv.track {pins : List (Addr × Obj)} {σ : L2.St} {H : Hp} {s : Shared} {a : Addr} {o : HO} (I : L2.Inv X pins σ H s) (hn : H a = none) (h0 : X.s_0.heap.get? a = none) (hL : a ≠ X.env.locals)
    (hc : ∀ x c, X.env.cells.lookup x = some c → c ≠ a) (hp : ∀ p ∈ X.pn ++ pins, p.1 ≠ a) (new : ObjOk X.prog X.w (upd H a o) s.heap a o) : L2.Inv X pins σ (upd H a o) s := by
  have ne : ∀ b u, H b = some u → b ≠ a := fun b u e => ne_of_none e hn
  have ne0 : ∀ b u, X.s_0.heap.get? b = some u → b ≠ a := fun b u e z => by rw [z, h0] at e; cases e
  refine ⟨I.ok, I.os, I.bare, ⟨I.base.keep, I.base.slot, fun b u e n hx => ?_, I.base.there, fun b xs e => ?_, fun b u xs e => ?_, fun b ps e => ?_⟩, I.loc, I.cell, ?_, fun x c e => ?_, fun p hpm => ?_, fun b u e => ?_, I.len⟩
  · rw [upd_ne (ne0 b u e)]; exact I.base.free b u e n hx
  · have z := I.base.tups b xs e
    rw [upd_ne (ne b _ z)]; exact z
  · have z := I.base.frzs b u xs e
    rw [upd_ne (ne b _ z)]; exact z
  · obtain ⟨more, z⟩ := I.base.tbls b ps e
    exact ⟨more, by rw [upd_ne (ne b _ z)]; exact z⟩
  · rw [upd_ne (Ne.symm hL)]; exact I.free
  · rw [upd_ne (hc x c e)]; exact I.freeC x c e
  · obtain ⟨z1, z2, z3, z4, z5⟩ := I.pin p hpm
    exact ⟨z1, by rw [upd_ne (hp p hpm)]; exact z2, z3, z4, z5⟩
  · by_cases hb : b = a
    · subst hb
      rw [upd_same] at e
      cases e
      exact new
    · rw [upd_ne hb] at e
      exact (I.hok b u e).stay (fun c v _ q => q) (fun c q => by rw [upd_ne (ne c _ q)]; exact q) fun c xs q => by rw [upd_ne (ne c _ q)]; exact q
/-- what «except x as n: y = n» wishes -/
def wVal (K : PySem.W.Frag) (c : Value) (i j : Nat) (Wout : WX) (D : Ends) : WX := fun cls d σ H =>
  ∃ b, PySem.W.exmOne K cls c = some b ∧ (b = true → ∃ C, cls = .ref C ∧ d = none ∧ ∀ a, H a = none → D.nx (((σ.set i (some (.ref a))).set j (some (.ref a))).set i none) (upd H a (ExcV C a))) ∧ (b = false → Wout cls d σ H)
theorem ps_try_val {x n u : Str} {c : Value} {i j : Nat} {body : List Stmt} {np pos pos' p1 p2 p3 : Pos} {tb : WX → TS} {Wout : WX} (hs : X.stack = X.env :: X.outer) (hf : X.env.frame = some X.env.locals) (hex : X.ex = []) (hN : X.N.Nodup) (hi : X.N[i]? = some n) (hln : X.env.kindOf n = some .local)
    (hj : X.N[j]? = some u) (hlu : L2.Loc X.env.scope u) (hfu : X.fn u = true) (hdn : (n == ("__debug__" : Str)) = false) (hcn : (n == ("__classdict__" : Str)) = false) (hc : Names X x c) (tk : Takes X Wout)
    (hb : ∀ (W : WX) (pn : List (Addr × Obj)) (xe : Value → Shared → Prop), Takes (X.tr pn xe) W → PassesOwn (model X.prog X.w) X.A X.env xe → PSs (X.tr pn xe) body (tb W)) :
    PS X (.Try body [.ExceptHandler (some (.Name x np)) (some n) [.Assign [.Name u p1] (.Name n p2) p3] pos'] [] [] pos) (fun D σ H => tb (wVal X.K c i j Wout D) D σ H) := by
  refine ⟨fun pins s σ H D I h => ?_⟩
  have ok := I.ok
  have hfr : X.A.frames = some (X.env :: X.outer) := by rw [ok.frames, hs]
  have hloc : L2.Loc X.env.scope n := .inl hln
  refine wpAny_Try_except ?_
  refine wpAny_mono ((hb (wVal X.K c i j Wout D) (X.pn ++ pins) (fun e s₁ => wpAny (model X.prog X.w) X.A (noteFrame e X.env) (fun _ s₂ => wpAny (model X.prog X.w) X.A (setFlight e none) (fun _ s₃ =>
    wpAny (model X.prog X.w) X.A (handleBy e X.env [.ExceptHandler (some (.Name x np)) (some n) [.Assign [.Name u p1] (.Name n p2) p3] pos']) (SP X pins D) X.xe s₃) X.xe s₂) X.xe s₁) (fun u' s' xx => ?_) PassesOwn.looking).run [] s σ H D (I.toTry _) h) (fun f s1 hsp => ?_) (fun e s1 he => he)
  · obtain ⟨a, B, sI, pins', σ', H', cls, d, rfl, J', nb, up, sky, na, os, ag, b, hb1, hyes, hno⟩ := xx
    have J : L2.Inv X pins σ' H' sI := J'.ofTry ok
    have sky' : Sky B (X.env :: X.outer) a (Zc cls d) X.env.locals s'.heap := by rw [← hs]; exact sky
    show wpAny (model X.prog X.w) X.A (noteFrame (.ref a) X.env) _ _ _
    refine Sky.land Zc.steady hfr hf sky' fun h3 fl3 up3 => ?_
    have J3 : L2.Inv X pins σ' H' { s' with heap := h3 } := J.landed nb fl3.1 (up.trans up3) os ag
    obtain ⟨oe3, vs3, he3, hz3, hd3⟩ := fl3.there
    have notFr : ∀ {h : Heap} {o : Obj} {vs : Array Value}, h.FunFrames B (X.env :: X.outer) → h.get? a = some o → o.data = .fields vs → a ∉ frs (X.env :: X.outer) := fun {h o vs} ff e dd hm => by
      obtain ⟨_, o', e', hnf⟩ := ff.mem hm
      rw [e] at e'; cases e'
      exact hnf _ dd
    have nfr := notFr fl3.2.2.1 he3 hd3
    have nL : a ≠ X.env.locals := fun z => nfr (List.mem_filterMap.mpr ⟨X.env, List.mem_cons_self, by rw [hf, z]⟩)
    have nF : a ∉ X.fs := fun hm => by
      obtain ⟨e, he, q⟩ := List.mem_filterMap.mp hm
      exact nfr (List.mem_filterMap.mpr ⟨e, List.mem_cons_of_mem _ he, q⟩)
    have nI : sI.heap.get? a = none := by
      cases q : sI.heap.get? a with
      | none => rfl
      | some o =>
        have z := nb a o q (by rw [hs]; exact nfr)
        rw [fl3.2.1] at z; cases z
    have n0 : X.s_0.heap.get? a = none := by
      cases q : X.s_0.heap.get? a with
      | none => rfl
      | some o =>
        obtain ⟨o', z⟩ := J.base.there a o q (by rw [hex]; simp)
        rw [nI] at z; cases z
    have nP : ∀ p ∈ X.pn ++ pins, p.1 ≠ a := fun p hp z => by
      have := (J.pin p hp).1
      rw [z, nI] at this; cases this
    have nC : ∀ x c, X.env.cells.lookup x = some c → c ≠ a := fun x c e z => by
      obtain ⟨v, o, ho, _⟩ := J.cell x c e
      rw [z, nI] at ho; cases ho
    have S3 := J3.suite he3 hd3 na nL nF
    refine wpAny_handleBy_cons (codeAny_handlers_test ?_) (by intro q; cases q)
    have LT : PySem.W.Looks (model X.prog X.w) h3 (typeOf (.ref a)) cls := fun A Q E s k q => wpAny_typeOf_ref (k _ _ he3) (by rw [hz3.1]; exact q)
    have LM := PySem.W.exm_one (M := model X.prog X.w) (J3.kIn) LT hb1
    have test : ∀ {Q : Value → Shared → Prop} {E : Value → Shared → Prop}, Q c { s' with heap := h3 } → wpAny (model X.prog X.w) (X.A.mark (some (.ref a))) (eval (.Name x np) X.env) Q E { s' with heap := h3 } := fun {Q E} q => by
      obtain ⟨hg, hdbg, hm | ⟨hm, hv, hnn⟩⟩ := hc
      · exact ld_glob (X := X.suite a ((a, oe3) :: (X.pn ++ pins))) S3 hg hm q hdbg
      · exact ld_blt (X := X.suite a ((a, oe3) :: (X.pn ++ pins))) S3 hg hm hv q hnn hdbg
    refine test (LM.here ?_)
    cases b with
    | true =>
      obtain ⟨C, rfl, rfl, hyes2⟩ := hyes rfl
      refine codeAny_handlers_suite_as ?_
      refine HandSPX.lands_againZ fl3 fun h4 fl4 up4 => ?_
      have J4 : L2.Inv X pins σ' H' { s' with heap := h4 } := J.landed nb fl4.1 ((up.trans up3).trans up4) os ag
      obtain ⟨oe4, vs4, he4, hz4, hd4⟩ := fl4.there
      have S4 := J4.suite he4 hd4 na nL nF
      refine store_ok (X := X.suite a ((a, oe4) :: (X.pn ++ pins))) (v := .ref a) S4 hN hi hloc rfl (fun s5 S5 => ?_) (.inr hln)
      have asg : PSs (X.suite a ((a, oe4) :: (X.pn ++ pins))) [.Assign [.Name u p1] (.Name n p2) p3] (tAsg (tVar i) (gName j)) :=
        pss_one (ps_set (X := X.suite a ((a, oe4) :: (X.pn ++ pins))) (i := j) hN hj hlu (pe_var (X := X.suite a ((a, oe4) :: (X.pn ++ pins))) (i := i) hi (.inl hln) hdn hcn) rfl (.inl hfu))
      have hil : i < σ'.length := by
        have z := (List.getElem?_eq_some_iff.mp hi).1
        rw [J.len]; exact z
      refine wpAny_mono (asg.run [] s5 _ H' { nx := fun σ7 H7 => H7 = H' ∧ σ7 = (σ'.set i (some (.ref a))).set j (some (.ref a)), rt := fun _ _ => False } S5 ⟨.ref a, List.getElem?_set_self hil, rfl, rfl⟩) (fun f s6 hsp => ?_) (fun _ _ z => False.elim z)
      cases f with
      | next =>
        obtain ⟨σ6, H6, S6, rfl, rfl⟩ := hsp
        have K6 : L2.Inv X ((a, oe4) :: pins) ((σ'.set i (some (.ref a))).set j (some (.ref a))) H6 s6 :=
          ⟨ok, S6.os, S6.bare, S6.base, S6.loc, S6.cell, S6.free, S6.freeC, fun p hp => S6.pin p (by
            rw [List.append_nil]
            rcases List.mem_append.mp hp with z | z
            · exact List.mem_cons_of_mem _ (List.mem_append_left _ z)
            · rcases List.mem_cons.mp z with rfl | z
              · exact List.mem_cons_self
              · exact List.mem_cons_of_mem _ (List.mem_append_right _ z)), S6.hok, S6.len⟩
        refine gone_ok K6 hN hi hln fun s7 J7 => ?_
        have hp7 := J7.pin (a, oe4) (List.mem_append_right _ List.mem_cons_self)
        have J8 : L2.Inv X pins ((((σ'.set i (some (.ref a))).set j (some (.ref a))).set i none)) H6 s7 := J7.pins_of fun p hp => J7.pin p (List.mem_append_right _ (List.mem_cons_of_mem _ hp))
        have J9 := Inv.track (o := ExcV C a) J8 na n0 nL nC nP ⟨⟨oe4, vs4, hp7.1, hz4, hd4⟩, ⟨oe4, hp7.1⟩, fun h1 h2 ⟨o, v, q, z⟩ k => ⟨o, v, k o q, z⟩⟩
        exact ⟨_, _, J9, hyes2 a na⟩
      | brk => obtain ⟨_, _, _, q⟩ := hsp; exact q.elim
      | cont => obtain ⟨_, _, _, q⟩ := hsp; exact q.elim
      | ret v => obtain ⟨_, _, _, _, _, q⟩ := hsp; exact q.elim
    | false =>
      show wpAny _ X.A (handleBy (.ref a) X.env []) _ _ _
      refine wpAny_handleBy_nil ?_
      obtain ⟨k1, k2, k3, oe, vs, T, oT, ts', he, hz, hd, h1, hr⟩ := id fl3
      unfold PySem.passOn
      refine wpAny_bind (wpAny_field he hd h1 ?_)
      rw [if_neg (show ¬ ((Value.ref T == Value.none) = true) from by simp)]
      have fin : wpAny (model X.prog X.w) X.A (setFlight (.ref a) X.env.frame) (fun _ s4 => wpAny (model X.prog X.w) X.A (throw (.ref a) : Sem Flow) (SP X pins D) X.xe s4) X.xe { s' with heap := h3 } := by
        rw [hf]
        refine HandSPX.setFlight_upZ fl3 fun h4 hh4 up4 => wpAny_throw (tk _ _ ?_)
        exact ⟨a, B, sI, pins, σ', H', cls, d, rfl, J, nb, (up.trans up3).trans up4, .inr (.inr (by rw [hs]; exact hh4)), na, os, ag, hno rfl⟩
      first
        | exact wpAny_bind (wpAny_pure (wpAny_bind fin))
        | exact wpAny_bind fin
  · cases f with
    | next =>
      obtain ⟨σ', H', J', q⟩ := hsp
      exact wpAny_execs_nil ⟨σ', H', J'.ofTry ok, q⟩
    | brk =>
      obtain ⟨σ', H', J', q⟩ := hsp
      exact ⟨σ', H', J'.ofTry ok, q⟩
    | cont =>
      obtain ⟨σ', H', J', q⟩ := hsp
      exact ⟨σ', H', J'.ofTry ok, q⟩
    | ret u =>
      obtain ⟨v, σ', H', J', r, q⟩ := hsp
      exact ⟨v, σ', H', J'.ofTry ok, r, q⟩
end
end Rm

/-! Rm, part H: the theorem for statements. -/
namespace Rm
open PySem L2 PySem.Spec PyProof.Rows
theorem swaps_pl {e : Expr} {t : Option Expr} {l : Nat} {env : Env} (h : plC e = true) : swapsWith e t l env = pure false := by
  cases e <;> first | rfl | cases h
theorem sole_pl {e t : Expr} {l : Nat} {env : Env} (h : plC e = true) : swapsWithSole [t] e l env = pure false := swaps_pl h
theorem stores_pl {e t : Expr} {env : Env} (h : plV e = true) : swappedStores [t] e env = pure none := by
  cases e <;> cases t <;> first | rfl | cases h
theorem plV_C {e : Expr} (h : plV e = true) : plC e = true := by
  cases e <;> first | rfl | cases h
theorem sub_asg {o i : Expr} {pos : Pos} {env : Env} (h : plIx i = true) : ∀ v, assign (.Subscript o i pos) env v = (do
      let ov ← holding [v] (eval o env)
      let iv ← holding [v, ov] (eval i env)
      standAt pos
      holding [v, ov, iv] (setItem ov iv v)
      release [v, ov, iv] []) := by
  intro v
  cases i <;> first | rfl | cases h
section
variable {X : Cx} {cA : Nat → Addr} {cF : Nat → List Str} {T : Tab} {C : Nat → List MV → HP → R MV} {k : Nat} {c : Ck}
theorem wpO_seq {r : List Addr} {H : Hp} {o : O} {f : EN → HP → O} {D : Ends} {W : WX} (w : wpO X.K cA cF r H (o.then f) D W) : wpO X.K cA cF r H o { D with nx := tS X.K cA cF W f D } W := by
  cases o with
  | nx a b => exact fun r' H' s x1 x2 x3 => ⟨r', a, b, x2, x3, wpO.mono x1 w⟩
  | ct a b => exact w
  | ret a b => exact w
  | exc a b d => exact w
  | bad => exact w
theorem Gs.tr (G : Gs X c k) {pn : List (Addr × Obj)} {xe : Value → Shared → Prop} (own : PassesOwn (model X.prog X.w) X.A X.env xe) : Gs (X.tr pn xe) c k :=
  ⟨⟨G.hN, G.sc, G.rm, G.calm, G.nd, ⟨G.deep.seer, G.deep.tree, G.deep.room, G.deep.stk, G.deep.frm⟩⟩, G.fn, own, G.stk, G.frm, G.exn⟩
theorem own_no {M : Model} {A : Around} {env : Env} : PassesOwn M A env fun _ _ => False := fun _ _ z => z.elim
mutual
theorem sndS : ∀ (s : S) (X : Cx) (W : WX) (FC : Fc X.prog X.w X.K X.mg X.base cA cF T C k c) (G : Gs X c k) (tk : Takes X W) (x : Stmt), ckS c s x = true → PS X x (tS X.K cA cF W (exS T C s))
  | .asg tg a, X, W, FC, G, tk, x, hh => by
    cases tg with
    | one i =>
      simp only [ckS] at hh
      split at hh <;> first | (cases hh; done) | skip
      rename_i t e pos
      simp only [Bool.and_eq_true] at hh
      obtain ⟨⟨h1, h2⟩, h3⟩ := hh
      simp only [ckG] at h1
      split at h1 <;> first | (cases h1; done) | skip
      rename_i y py
      simp only [Bool.and_eq_true, decide_eq_true_eq] at h1
      simp only [exS]
      have fin : ∀ D σ H, tS X.K cA cF W (fun e h => (evE T C a e h).go e fun v h => match setG (.one i) v e with
          | some e => .nx e h
          | none => .bad) D σ H → tAsg (tE X.K cA cF W (evE T C a)) (gName i) D σ H := by
        intro D σ H q
        obtain ⟨r, e, h, E, n, w⟩ := q
        refine stepS E n w fun r1 H1 h1 v V x1 E1 n1 p1 w1 => ?_
        simp only [setG] at w1
        exact w1 r1 H1 _ Ext.refl E1 (n1.set p1)
      by_cases hp : plC e = true
      · exact PSimp (ps_set (i := i) G.nd (by rw [G.hN]; exact h1.1) (by rw [G.sc]; exact loc_of h1.2) (snd FC G.toGd (takesF_of G.frm tk) a _ h3).1 (swaps_pl hp) (.inl (G.fn _))) fin
      · have h2 : lcB c (.Name y py) e = true := by
          rcases Bool.or_eq_true_iff.mp h2 with z | z
          · exact absurd z hp
          · exact z
        unfold lcB at h2
        split at h2 <;> first | (cases h2; done) | skip
        rename_i y' py' elt gs scope lpos et ee
        cases et
        have hk : X.env.scope.kind = .function := by
          rw [G.sc]
          unfold isFn at h2
          split at h2
          · assumption
          · cases h2
        by_cases hs : swB c.sc y py.line lpos.line scope = true
        · unfold swB at hs
          simp only [Bool.and_eq_true, decide_eq_true_eq, Bool.not_eq_true'] at hs
          obtain ⟨k1, k2, k3⟩ := hs
          cases a <;> first | (exfalso; unfold ckE at h3; cases h3; done) | skip
          · rename_i cl' tg' vs' it' a'
            unfold ckE at h3
            split at h3 <;> first | (cases h3; done) | skip
            rename_i z0 hx
            simp only [Bool.and_eq_true, decide_eq_true_eq] at h3
            obtain ⟨⟨⟨⟨⟨rfl, m1⟩, m2⟩, m3⟩, m4⟩, m5⟩ := h3
            cases hx
            have hv := ownOf_snd c.N vs'
            have kl : X.env.scope.names.lookup y = some .local := by rw [G.sc]; exact k1
            refine PSimp (ps_setLcx (i := i) (own := ownOf c.N vs') (g := tGw X.K cA cF vs' tg') (te := fun W' => tE X.K cA cF W' (evE T C a')) G.calm G.nd (takesF_of G.frm tk) G.deep.frm (by rw [G.hN]; exact h1.1) kl (sw_true hk kl k2 k3) (pi_ok FC G tk _ it' _ m3) (by rw [G.hN, G.sc]; exact blkOk_by m1) (fun s H C' cl fp xe => pgw_ok (X := blkX X s H _ (compEnvC _ cl C' X.env) fp xe) (cA := cA) (cF := cF) (c := c.blk _) (vs := vs') (tg := tg') G.calm G.nd G.hN (by rw [Ck.blk, ← G.sc]; rfl) _ m4)
              (fun s H C' cl fp xe => pts_nil) (fun W' s H C' cl fp xe tk' => (sndA a' (blkX X s H _ (compEnvC _ cl C' X.env) fp xe) (c.blk _) W' (FC.re (c := c) (c' := c.blk _) rfl rfl rfl rfl rfl) ⟨G.hN, by rw [Ck.blk, ← G.sc]; rfl, G.rm, G.calm, G.nd, ⟨G.deep.seer, G.deep.tree, G.deep.room, G.deep.stk, G.deep.frm⟩⟩ tk' _ m5).1) (set_pl m2)) fun D σ H q => ?_
            have q : tE X.K cA cF W (evE T C (.lcm cl' tg' vs' it' a')) σ H (fun x H1 => gName i x σ H1 D.nx) := fin D σ H q
            simp only [evE] at q
            rw [hv]
            exact lc_imp q
          · rename_i tg' vs' it' a'
            unfold ckE at h3
            split at h3 <;> first | (cases h3; done) | skip
            rename_i z0 hx
            simp only [Bool.and_eq_true, decide_eq_true_eq] at h3
            obtain ⟨⟨⟨⟨⟨rfl, m1⟩, m2⟩, m3⟩, m4⟩, m5⟩ := h3
            cases hx
            have hv := ownOf_snd c.N vs'
            have kl : X.env.scope.names.lookup y = some .local := by rw [G.sc]; exact k1
            refine PSimp (ps_setLcx (i := i) (own := ownOf c.N vs') (g := tGw X.K cA cF vs' tg') (te := fun W' => tE X.K cA cF W' (evE T C a')) G.calm G.nd (takesF_of G.frm tk) G.deep.frm (by rw [G.hN]; exact h1.1) kl (sw_true hk kl k2 k3) (pi_ok FC G tk _ it' _ m3) (by rw [G.hN, G.sc]; exact blkOk_by m1) (fun s H C' cl fp xe => pgw_ok (X := blkX X s H _ (compEnvC _ cl C' X.env) fp xe) (cA := cA) (cF := cF) (c := c.blk _) (vs := vs') (tg := tg') G.calm G.nd G.hN (by rw [Ck.blk, ← G.sc]; rfl) _ m4)
              (fun s H C' cl fp xe => pts_nil) (fun W' s H C' cl fp xe tk' => (sndA a' (blkX X s H _ (compEnvC _ cl C' X.env) fp xe) (c.blk _) W' (FC.re (c := c) (c' := c.blk _) rfl rfl rfl rfl rfl) ⟨G.hN, by rw [Ck.blk, ← G.sc]; rfl, G.rm, G.calm, G.nd, ⟨G.deep.seer, G.deep.tree, G.deep.room, G.deep.stk, G.deep.frm⟩⟩ tk' _ m5).1) (set_pl m2)) fun D σ H q => ?_
            have q : tE X.K cA cF W (evE T C (.lcg tg' vs' it' a')) σ H (fun x H1 => gName i x σ H1 D.nx) := fin D σ H q
            simp only [evE] at q
            rw [hv]
            exact lcg_imp q
          · rename_i tg' vs' it' b' a'
            unfold ckE at h3
            split at h3 <;> first | (cases h3; done) | skip
            rename_i z0 hx
            simp only [Bool.and_eq_true, decide_eq_true_eq] at h3
            obtain ⟨⟨⟨⟨⟨⟨⟨rfl, m1⟩, m2⟩, m3⟩, m4⟩, m5⟩, m6⟩, m7⟩ := h3
            cases hx
            have hv := ownOf_snd c.N vs'
            have kl : X.env.scope.names.lookup y = some .local := by rw [G.sc]; exact k1
            refine PSimp (ps_setLc (i := i) (own := ownOf c.N vs') (g := tGw X.K cA cF vs' tg') (tt := tTt X.K cA cF noW (evE T C b')) (te := tE X.K cA cF noW (evE T C a')) G.calm G.nd (by rw [G.hN]; exact h1.1) kl (sw_true hk kl k2 k3) (pi_ok FC G tk _ it' _ m3) (by rw [G.hN, G.sc]; exact blkOk_by m1) (fun s H C' cl fp => pgw_ok (X := X.blk s H _ (compEnvC _ cl C' X.env) fp) (cA := cA) (cF := cF) (c := c.blk _) (vs := vs') (tg := tg') G.calm G.nd G.hN (by rw [Ck.blk, ← G.sc]; rfl) _ m4)
              (fun s H C' cl fp => pts_one ((sndA b' (X.blk s H _ (compEnvC _ cl C' X.env) fp) (c.blk _) noW (FC.re (c := c) (c' := c.blk _) rfl rfl rfl rfl rfl) ⟨G.hN, by rw [Ck.blk, ← G.sc]; rfl, G.rm, G.calm, G.nd, ⟨G.deep.seer, G.deep.tree, G.deep.room, G.deep.stk, G.deep.frm⟩⟩ takesF_no _ m6).2.1 m7)) (fun s H C' cl fp => (sndA a' (X.blk s H _ (compEnvC _ cl C' X.env) fp) (c.blk _) noW (FC.re (c := c) (c' := c.blk _) rfl rfl rfl rfl rfl) ⟨G.hN, by rw [Ck.blk, ← G.sc]; rfl, G.rm, G.calm, G.nd, ⟨G.deep.seer, G.deep.tree, G.deep.room, G.deep.stk, G.deep.frm⟩⟩ takesF_no _ m5).1) (set_pl m2)) fun D σ H q => ?_
            have q : tE X.K cA cF W (evE T C (.lcf tg' vs' it' b' a')) σ H (fun x H1 => gName i x σ H1 D.nx) := fin D σ H q
            simp only [evE] at q
            rw [hv]
            exact lcf_imp q
        · have hsw : swapsWith (.ListComp elt gs scope lpos) (some (.Name y py)) pos.line X.env = pure false := by
            have ky : X.env.kindOf y = X.env.scope.names.lookup y := rfl
            have hb : X.env.blockKind = .function := by unfold Env.blockKind; rw [hk]; rfl
            have e : swapsWith (.ListComp elt gs scope lpos) (some (.Name y py)) pos.line X.env = pure (X.env.blockKind == .function && X.env.kindOf y == some .local && py.line == lpos.line && !(scope.names.any fun (n, k) => n == y && (k == .local || k == .cell))) := rfl
            rw [e, hb, ky, G.sc]
            congr 1
            cases q : (_ && _ && _ && _ : Bool) with
            | false => rfl
            | true =>
              exfalso
              apply hs
              simp only [Bool.and_eq_true] at q
              unfold swB
              simp only [Bool.and_eq_true, decide_eq_true_eq]
              exact ⟨by simpa using q.1.1.2, q.1.2, q.2⟩
          exact PSimp (ps_set (i := i) G.nd (by rw [G.hN]; exact h1.1) (by rw [G.sc]; exact loc_of h1.2) (snd FC G.toGd (takesF_of G.frm tk) a _ h3).1 hsw (.inl (G.fn _))) fin
    | tup is =>
      simp only [ckS] at hh
      split at hh <;> first | (cases hh; done) | skip
      rename_i t e pos
      simp only [Bool.and_eq_true] at hh
      obtain ⟨⟨h1, h2⟩, h3⟩ := hh
      simp only [exS]
      have h0 : (assignEach [t] X.env).map (·.2) = [assign t X.env] := by
        have h1 := h1
        simp only [ckG] at h1
        split at h1 <;> first | (cases h1; done) | rfl
      refine PSimp (ps_asg (snd FC G.toGd (takesF_of G.frm tk) a _ h3).1 (pg_ok (cA := cA) (cF := cF) G (.tup is) _ h1) (sole_pl (plV_C h2)) (stores_pl h2) h0) fun D σ H q => ?_
      obtain ⟨r, e, h, E, n, w⟩ := q
      refine stepS E n w fun r1 H1 h1 v V x1 E1 n1 p1 w1 => ?_
      cases g : setG (.tup is) v e with
      | none => rw [g] at w1; exact w1.elim
      | some e' => rw [g] at w1; exact ⟨r1, e, h1, v, e', E1, n1, p1, g, fun σ' n' => w1 r1 H1 σ' Ext.refl E1 n'⟩
  | .aug i o a, X, W, FC, G, tk, x, hh => by
    simp only [ckS] at hh
    split at hh <;> first | (cases hh; done) | skip
    simp only [Bool.and_eq_true, decide_eq_true_eq] at hh
    obtain ⟨⟨⟨h1, h2⟩, h3⟩, h4⟩ := hh
    simp only [exS]
    refine PSimp (ps_aug (i := i) G.nd (by rw [G.hN]; exact h1) (by rw [G.sc]; exact loc_of h2) (snd FC G.toGd (takesF_of G.frm tk) a _ h4).1 (augop_ok (cA := cA) (cF := cF) h3) (.inl (G.fn _))) fun D σ H q => ?_
    obtain ⟨r, e, h, E, n, w⟩ := q
    simp only at w
    split at w
    · rename_i v he
      obtain ⟨V, k1, k2⟩ := n.at_ i v he
      refine ⟨V, k1, stepS E n w fun r1 H1 h1 u U x1 E1 n1 p1 w1 => ?_⟩
      cases g : augV o v u with
      | none => rw [g] at w1; exact w1.elim
      | some z =>
        rw [g] at w1
        exact ⟨r1, h1, v, u, z, E1, Rep.mono x1 _ _ k2, p1, g, fun r' H' V' y1 y2 y3 => w1 r' H' _ y1 y2 ((n1.mono y1).set y3)⟩
    · exact w.elim
  | .exp a, X, W, FC, G, tk, x, hh => by
    simp only [ckS] at hh
    split at hh <;> first | (cases hh; done) | skip
    simp only [Bool.and_eq_true] at hh
    simp only [exS]
    refine PSimp (ps_expr (snd FC G.toGd (takesF_of G.frm tk) a _ hh.2).1 (swaps_pl hh.1)) fun D σ H q => ?_
    obtain ⟨r, e, h, E, n, w⟩ := q
    exact stepS E n w fun r1 H1 h1 v V x1 E1 n1 p1 w1 => w1 r1 H1 σ Ext.refl E1 n1
  | .app o a, X, W, FC, G, tk, x, hh => by
    simp only [ckS] at hh
    split at hh <;> first | (cases hh; done) | skip
    rename_i e m ap f pos pos'
    simp only [Bool.and_eq_true, decide_eq_true_eq] at hh
    obtain ⟨⟨⟨⟨⟨rfl, h1⟩, h2⟩, h3⟩, h4⟩, h5⟩ := hh
    simp only [exS]
    have hfew : ((backTo pos (starEach [f] X.env)).all (fun x => !x.1) && (backToKw pos (keywordEach [] X.env)).all (fun x => x.1.isSome)
      && decide ([f].length + ([] : List Keyword).length + (if ([] : List Keyword).isEmpty then 0 else 1) < 30)) = true := by
      rw [star_cons h1]; rfl
    refine PSimp (ps_expr (pe_bm PySem.F.plainAttrs_list PySem.F.slot_list_append PySem.F.type_list_append mt_append (snd FC G.toGd (takesF_of G.frm tk) o _ h4).1 (pa_cons (snd FC G.toGd (takesF_of G.frm tk) a _ h5).1 pa_nil (star_cons h1)) (attr_plain h2) hfew h3 (star_cons h1) rfl) rfl) fun D σ H q => ?_
    obtain ⟨r, e, h, E, n, w⟩ := q
    refine stepS E n w fun r1 H1 h1 x X' x1 E1 n1 p1 w1 => ?_
    split at w1
    · rename_i hc
      unfold isCell at hc
      split at hc
      · rename_i i
        split at hc
        · rename_i xs hx
          have p := p1
          simp only [Rep] at p1
          obtain ⟨ad, rfl, hi⟩ := p1
          refine ⟨.inl ⟨rfl, ?_⟩, ?_⟩
          · obtain ⟨vs, q1, _⟩ := E1.at_ i _ ad hx hi
            exact ⟨vs, SqL.of q1⟩
          · refine stepS E1 n1 w1 fun r2 H2 h2 v V x2 E2 n2 p2 w2 => ?_
            have hi2 := x2.get hi
            cases g : appV h2 (.ref i) v with
            | none => rw [g] at w2; exact w2.elim
            | some h3 =>
              rw [g] at w2
              simp only [appV] at g
              cases qo : h2[i]? with
              | none => rw [qo] at g; cases g
              | some oo =>
                rw [qo] at g
                cases oo with
                | ins d xs => cases g
                | dic kvs => cases g
                | lst xs =>
                  simp only at g
                  split at g
                  · rename_i hl
                    cases g
                    obtain ⟨vs, q1, q2⟩ := E2.at_ i _ ad qo hi2
                    have q3 : Reps X.K cA cF H2 r2 (xs ++ [v]) (vs ++ [V]) := q2.append (by simp only [Reps]; exact ⟨V, [], rfl, p2, rfl⟩)
                    refine ⟨ad, vs, V, rfl, rfl, q1, by rw [q2.length, ← sz_eq]; exact hl, ?_⟩
                    obtain ⟨y1, y2⟩ := E2.write hi2 q3
                    exact w2 r2 _ σ y1 y2 (n2.mono y1)
                  · cases g
        · cases hc
      · cases hc
    · exact w1.elim
  | .rvs o, X, W, FC, G, tk, x, hh => by
    simp only [ckS] at hh
    split at hh <;> first | (cases hh; done) | skip
    simp only [Bool.and_eq_true, decide_eq_true_eq] at hh
    obtain ⟨⟨⟨rfl, h1⟩, h2⟩, h3⟩ := hh
    simp only [exS]
    refine PSimp (ps_expr (pe_bm0 PySem.F.plainAttrs_list PySem.F.slot_list_reverse PySem.F.type_list_reverse mt_reverse (snd FC G.toGd (takesF_of G.frm tk) o _ h3).1 (attr_plain h1) h2) rfl) fun D σ H q => ?_
    obtain ⟨r, e, h, E, n, w⟩ := q
    refine stepS E n w fun r1 H1 h1 x X' x1 E1 n1 p1 w1 => ?_
    cases g : rvsV h1 x with
    | none => rw [g] at w1; exact w1.elim
    | some h2 =>
      rw [g] at w1
      unfold rvsV at g
      split at g
      · rename_i i
        split at g
        · rename_i xs hx
          cases g
          simp only [Rep] at p1
          obtain ⟨ad, rfl, hi⟩ := p1
          obtain ⟨vs, q1, q2⟩ := E1.at_ i _ ad hx hi
          obtain ⟨y1, y2⟩ := E1.write hi (reps_rev q2)
          exact ⟨.inl ⟨rfl, ⟨vs, SqL.of q1⟩⟩, ad, vs, rfl, rfl, q1, w1 r1 _ σ y1 y2 (n1.mono y1)⟩
        · cases g
      · cases g
  | .ins o i a, X, W, FC, G, tk, x, hh => by
    simp only [ckS] at hh
    split at hh <;> first | (cases hh; done) | skip
    rename_i e m ap gg f pos pos'
    simp only [Bool.and_eq_true, decide_eq_true_eq] at hh
    obtain ⟨⟨⟨⟨⟨⟨⟨rfl, h0⟩, h1⟩, h2⟩, h3⟩, h4⟩, h5⟩, h6⟩ := hh
    simp only [exS]
    have hfew : ((backTo pos (starEach [gg, f] X.env)).all (fun x => !x.1) && (backToKw pos (keywordEach [] X.env)).all (fun x => x.1.isSome)
      && decide ([gg, f].length + ([] : List Keyword).length + (if ([] : List Keyword).isEmpty then 0 else 1) < 30)) = true := by
      rw [star_cons h0, star_cons h1]; rfl
    refine PSimp (ps_expr (pe_bm PySem.F.plainAttrs_list PySem.F.slot_list_insert PySem.F.type_list_insert mt_insert (snd FC G.toGd (takesF_of G.frm tk) o _ h4).1 (pa_cons (snd FC G.toGd (takesF_of G.frm tk) i _ h5).1 (pa_cons (snd FC G.toGd (takesF_of G.frm tk) a _ h6).1 pa_nil (star_cons h1)) (star_cons h0)) (attr_plain h2) hfew h3 (star_cons h0) (by rw [star_cons h1]; rfl)) rfl) fun D σ H q => ?_
    obtain ⟨r, e, h, E, n, w⟩ := q
    refine stepS E n w fun r1 H1 h1 x X' x1 E1 n1 p1 w1 => ?_
    split at w1
    · rename_i hc
      unfold isCell at hc
      split at hc
      · rename_i j
        split at hc
        · rename_i xs hx
          have p := p1
          simp only [Rep] at p1
          obtain ⟨ad, rfl, hi⟩ := p1
          refine ⟨.inl ⟨rfl, ?_⟩, ?_⟩
          · obtain ⟨vs, q1, _⟩ := E1.at_ j _ ad hx hi
            exact ⟨vs, SqL.of q1⟩
          · refine stepS E1 n1 w1 fun r2 H2 h2 m M x2 E2 n2 p2 w2 => ?_
            refine stepS E2 n2 w2 fun r3 H3 h3 v V x3 E3 n3 p3 w3 => ?_
            have hi3 := (x2.trans x3).get hi
            cases g : insV h3 (.ref j) m v with
            | none => rw [g] at w3; exact w3.elim
            | some h4 =>
              rw [g] at w3
              unfold insV at g
              split at g
              · rename_i jj kk ej
                cases ej
                split at g
                · rename_i xs hx
                  split at g
                  · rename_i hl
                    cases g
                    simp only [Rep] at p2
                    subst p2
                    obtain ⟨vs, q1, q2⟩ := E3.at_ _ _ ad hx hi3
                    have q3 : Reps X.K cA cF H3 r3 (xs.take kk.toNat ++ [v] ++ xs.drop kk.toNat) (vs.take kk.toNat ++ [V] ++ vs.drop kk.toNat) := ((q2.take _).append (by simp only [Reps]; exact ⟨V, [], rfl, p3, rfl⟩)).append (q2.drop _)
                    obtain ⟨y1, y2⟩ := E3.write hi3 q3
                    exact ⟨ad, vs, kk, V, rfl, rfl, q1, by rw [q2.length, ← sz_eq]; exact hl.1, hl.2.1, hl.2.2, w3 r3 _ σ y1 y2 (n3.mono y1)⟩
                  · cases g
                · cases g
              · cases g
        · cases hc
      · cases hc
    · exact w1.elim
  | .sto o i a, X, W, FC, G, tk, x, hh => by
    simp only [ckS] at hh
    split at hh <;> first | (cases hh; done) | skip
    simp only [Bool.and_eq_true] at hh
    obtain ⟨⟨⟨⟨h1, h2⟩, h3⟩, h4⟩, h5⟩ := hh
    simp only [exS]
    refine PSimp (ps_asg (snd FC G.toGd (takesF_of G.frm tk) a _ h5).1 (pg_sub (snd FC G.toGd (takesF_of G.frm tk) o _ h3).1 (snd FC G.toGd (takesF_of G.frm tk) i _ h4).1 set_list (sub_asg h1)) (sole_pl (plV_C h2)) (stores_pl h2) rfl) fun D σ H q => ?_
    obtain ⟨r, e, h, E, n, w⟩ := q
    refine stepS E n w fun r1 H1 h1 v V x1 E1 n1 p1 w1 => ?_
    refine stepS E1 n1 w1 fun r2 H2 h2 x XV x2 E2 n2 p2 w2 => ?_
    refine stepS E2 n2 w2 fun r3 H3 h3 m M x3 E3 n3 p3 w3 => ?_
    cases g : stoV h3 x m v with
    | none => rw [g] at w3; exact w3.elim
    | some h4 =>
      rw [g] at w3
      unfold stoV at g
      split at g
      · rename_i j k
        split at g
        · rename_i xs hx
          obtain ⟨kk, g1, g2⟩ := Option.map_eq_some_iff.mp g
          subst g2
          have p2' := Rep.mono x3 _ _ p2
          simp only [Rep] at p2' p3
          obtain ⟨ad, rfl, hi⟩ := p2'
          subst p3
          obtain ⟨vs, q1, q2⟩ := E3.at_ j _ ad hx hi
          have q3 : Reps X.K cA cF H3 r3 (xs.set kk v) (vs.set kk V) := Reps.set q2 (Rep.mono (x2.trans x3) _ _ p1)
          obtain ⟨y1, y2⟩ := E3.write hi q3
          exact ⟨ad, vs, k, kk, rfl, rfl, q1, by rw [q2.length]; exact g1, w3 r3 _ σ y1 y2 (n3.mono y1)⟩
        · cases g
      · cases g
  | .sta o f a, X, W, FC, G, tk, x, hh => by
    simp only [ckS] at hh
    split at hh <;> first | (cases hh; done) | skip
    simp only [Bool.and_eq_true, decide_eq_true_eq] at hh
    obtain ⟨⟨⟨rfl, h1⟩, h2⟩, h3⟩ := hh
    simp only [exS]
    refine PSimp (ps_fld (snd FC G.toGd (takesF_of G.frm tk) o _ h2).1 (snd FC G.toGd (takesF_of G.frm tk) a _ h3).1 (swaps_pl h1)) fun D σ H q => ?_
    obtain ⟨r, e, h, E, n, w⟩ := q
    refine stepS E n w fun r1 H1 h1 v V x1 E1 n1 p1 w1 => ?_
    refine stepS E1 n1 w1 fun r2 H2 h2 x XV x2 E2 n2 p2 w2 => ?_
    cases g : staV T h2 x f v with
    | none => rw [g] at w2; exact w2.elim
    | some h3 =>
      rw [g] at w2
      unfold staV at g
      split at g
      · rename_i j
        split at g
        · rename_i d xs hx
          split at g
          · rename_i hc
            simp only [Bool.and_eq_true, decide_eq_true_eq] at hc
            obtain ⟨jj, g1, g2⟩ := Option.bind_eq_some_iff.mp g
            obtain ⟨ys, g3, g4⟩ := Option.map_eq_some_iff.mp g2
            subst g4
            unfold fix at g1
            split at g1
            · rename_i hj
              cases g1
              simp only [Rep] at p2
              obtain ⟨ad, rfl, hi⟩ := p2
              obtain ⟨dx, vs, q1, q2⟩ := E2.at_ j _ ad hx hi
              obtain ⟨c1, c2⟩ := FC.ob d hc.1
              have pv := Rep.mono x2 _ _ p1
              have hl := q2.length
              have key : ((T.fld d).idxOf f ≤ vs.length) ∧ Reps X.K cA cF H2 r2 ys (if (T.fld d).idxOf f = vs.length then vs ++ [V] else vs.set ((T.fld d).idxOf f) V) := by
                unfold putL at g3
                rw [hl]
                split at g3
                · rename_i z
                  cases g3
                  rw [if_pos z]
                  exact ⟨Nat.le_of_eq z, q2.append (by simp only [Reps]; exact ⟨V, [], rfl, pv, rfl⟩)⟩
                · rename_i z
                  split at g3
                  · rename_i z2
                    cases g3
                    rw [if_neg z]
                    exact ⟨Nat.le_of_lt z2, Reps.set q2 pv⟩
                  · cases g3
              obtain ⟨y1, y2⟩ := E2.writeI (dx := dx) (c := d) hi key.2
              refine ⟨ad, cA d, dx, _, rfl, q1, c1, c2 f (List.idxOf_lt_length_iff.mp hj), ?_, ?_⟩
              · rw [List.length_zip]
                have := Nat.min_le_right (cF d).length vs.length
                have := hc.2
                omega
              · have e := putF_zip (T.fld d) vs f V hj key.1
                rw [show putF f V ((cF d).zip vs) = (cF d).zip (if (T.fld d).idxOf f = vs.length then vs ++ [V] else vs.set ((T.fld d).idxOf f) V) from by rw [FC.fl]; exact e]
                exact w2 r2 _ σ y1 y2 (n2.mono y1)
            · cases g1
          · cases g
        · cases g
      · cases g
  | .iff t a b, X, W, FC, G, tk, x, hh => by
    simp only [ckS] at hh
    split at hh <;> first | (cases hh; done) | skip
    simp only [Bool.and_eq_true] at hh
    obtain ⟨⟨⟨h0, h1⟩, h2⟩, h3⟩ := hh
    simp only [exS]
    refine PSimp (ps_if ((snd FC G.toGd (takesF_of G.frm tk) t _ h1).2.1 h0) (sndSs a X W FC G tk _ h2) (sndSs b X W FC G tk _ h3)) fun D σ H q => ?_
    obtain ⟨r, e, h, E, n, w⟩ := q
    refine stepT E n w (fun x h1 hx => ?_) fun r1 H1 h1 b x1 E1 n1 w1 => ?_
    · cases x <;> first | rfl | exact absurd rfl (hx _)
    · cases b with
      | false => rw [if_neg Bool.false_ne_true]; exact ⟨r1, e, h1, E1, n1, w1⟩
      | true => rw [if_pos rfl]; exact ⟨r1, e, h1, E1, n1, w1⟩
  | .whl t b, X, W, FC, G, tk, x, hh => by
    simp only [ckS] at hh
    split at hh <;> first | (cases hh; done) | skip
    simp only [Bool.and_eq_true] at hh
    obtain ⟨⟨h0, h1⟩, h2⟩ := hh
    simp only [exS]
    refine PSimp (ps_while G.own ((snd FC G.toGd (takesF_of G.frm tk) t _ h1).2.1 h0) (sndSs b X W FC G tk _ h2)) fun D σ H q => ?_
    obtain ⟨r, e, h, E, n, w⟩ := q
    exact whl_ok E n w
  | .fr tg it b, X, W, FC, G, tk, x, hh => by
    simp only [ckS] at hh
    split at hh <;> first | (cases hh; done) | skip
    simp only [Bool.and_eq_true] at hh
    obtain ⟨⟨⟨h0, h1⟩, h2⟩, h3⟩ := hh
    simp only [exS]
    refine PSimp (ps_for G.own G.calm (pi_ok FC G tk _ it _ h2) (pg_ok (cA := cA) (cF := cF) G tg _ h0) (sndSs b X W FC G tk _ h3) (set_pl h1)) fun D σ H q => ?_
    obtain ⟨r, e, h, E, n, w⟩ := q
    refine ⟨r, e, h, E, n, ?_⟩
    dsimp only at w
    cases q : itE T C it e h with
    | bad => rw [q] at w; exact w
    | exc y h1 => rw [q] at w; exact fun r' H' cls d e1 e2 e3 => w r' H' σ cls d e1 e2 (n.mono e1) e3
    | ok p h1 =>
      rw [q] at w
      simp only [R.go_ok] at w
      exact fun r1 H1 J P x1 E1 p1 L => for_ok L p1 E1 (n.mono x1) (wpO.mono x1 w)
  | .ret a, X, W, FC, G, tk, x, hh => by
    simp only [ckS] at hh
    split at hh <;> first | (cases hh; done) | skip
    simp only [exS]
    refine PSimp (ps_ret (snd FC G.toGd (takesF_of G.frm tk) a _ hh).1) fun D σ H q => ?_
    obtain ⟨r, e, h, E, n, w⟩ := q
    refine stepS E n w fun r1 H1 h1 v V x1 E1 n1 p1 w1 => w1 r1 H1 V Ext.refl E1 p1
  | .retN, X, W, FC, G, tk, x, hh => by
    simp only [ckS] at hh
    split at hh <;> first | (cases hh; done) | skip
    simp only [exS]
    refine PSimp ps_retN fun D σ H q => ?_
    obtain ⟨r, e, h, E, n, w⟩ := q
    exact w r H _ Ext.refl E rep_non
  | .rais d, X, W, FC, G, tk, x, hh => by
    simp only [ckS] at hh
    split at hh <;> first | (cases hh; done) | skip
    simp only [Bool.and_eq_true, decide_eq_true_eq] at hh
    obtain ⟨h1, h2⟩ := hh
    obtain ⟨m1, m2⟩ := FC.cl _ _ h1
    obtain ⟨g1, g2⟩ := gl_of G.toGd h2
    simp only [exS]
    cases hz : T.rz d with
    | false =>
      refine PSimp (ps_never (X := X)) fun D σ H q => ?_
      obtain ⟨r, e, h, E, n, w⟩ := q
      simp only [Bool.false_eq_true, if_false] at w
      exact w
    | true =>
      obtain ⟨z1, z2, z3⟩ := FC.ex.rz d hz
      refine PSimp (ps_raise G.calm tk (pmk_own PySem.F.excBase_ValueError z1 m1 m2 (raises_own z2 z3) g1 g2)) fun D σ H q => ?_
      obtain ⟨r, e, h, E, n, w⟩ := q
      simp only [if_true] at w
      exact w r H σ _ _ Ext.refl E n ⟨rfl, rfl, rfl⟩
  | .tri b d i y, X, W, FC, G, tk, x, hh => by
    simp only [ckS] at hh
    split at hh <;> first | (cases hh; done) | skip
    simp only [Bool.and_eq_true, decide_eq_true_eq, Bool.not_eq_true'] at hh
    obtain ⟨⟨⟨⟨⟨⟨⟨⟨⟨⟨⟨h1, h2⟩, h3⟩, h4⟩, rfl⟩, h5⟩, h6⟩, h7⟩, h8⟩, h9⟩, h10⟩, h11⟩ := hh
    obtain ⟨m1, m2⟩ := FC.cl _ _ h1
    obtain ⟨g1, g2⟩ := gl_of G.toGd h2
    simp only [exS]
    refine PSimp (ps_try_val (tb := fun W' => tS X.K cA cF W' (exSs T C b)) G.stk G.frm G.exn G.nd (by rw [G.hN]; exact h3) (by show X.env.scope.names.lookup _ = _; rw [G.sc]; exact h4) (by rw [G.hN]; exact h8) (by rw [G.sc]; exact loc_of h9) (G.fn _) h6 h7 ⟨g1, g2, .inl m1⟩ tk
      (fun W' pn xe tk' own => sndSs b (X.tr pn xe) W' FC (G.tr own) tk' _ h11)) fun D σ H q => ?_
    obtain ⟨r, e, h, E, n, w⟩ := q
    refine ⟨r, e, h, E, n, ?_⟩
    dsimp only at w
    cases q : exSs T C b e h with
    | nx a b => simp only [q] at w; exact w
    | ct a b => simp only [q] at w; exact w
    | ret a b => simp only [q] at w; exact w
    | bad => simp only [q] at w; exact w.elim
    | exc xx e1 hh1 =>
      obtain ⟨cc, fs⟩ := xx
      cases fs with
      | cons _ _ => simp only [q] at w; exact w.elim
      | nil =>
        simp only [q] at w
        by_cases hc : (T.exc cc && T.exc d) = true
        · rw [if_pos hc] at w
          simp only [Bool.and_eq_true] at hc
          intro r' H' σ' cls dd x1 E1 n1 rx
          obtain ⟨rfl, _, rfl⟩ := rx
          refine ⟨T.sub cc d, FC.ex.em cc d hc.1 hc.2, fun hb => ⟨cA cc, rfl, rfl, fun a ha => ?_⟩, fun hb => ?_⟩
          · rw [hb, if_pos rfl] at w
            obtain ⟨y1, y2, y3⟩ := E1.new (o := ExcV (cA cc) a) ha
            have pe : Rep X.K cA cF (upd H' a (ExcV (cA cc) a)) r' (.exc cc []) (.ref a) := by
              simp only [Rep]
              exact ⟨a, rfl, ⟨y3, upd_same⟩, trivial⟩
            have n2 := n1.mono y1
            exact w r' _ _ (x1.trans y1) y2 (((n2.set (i := i) pe).set (i := y) pe).unset)
          · rw [hb, if_neg Bool.false_ne_true] at w
            exact w r' H' σ' _ _ x1 E1 n1 ⟨rfl, rfl, rfl⟩
        · rw [if_neg hc] at w; exact w.elim
  | .cont, X, W, FC, G, tk, x, hh => by
    simp only [ckS] at hh
    split at hh <;> first | (cases hh; done) | skip
    simp only [exS]
    exact PSimp ps_continue fun D σ H q => by
      obtain ⟨r, e, h, E, n, w⟩ := q
      exact w r H σ Ext.refl E n
  | .dpt o i a, X, W, FC, G, tk, x, hh => by
    simp only [ckS] at hh
    split at hh <;> first | (cases hh; done) | skip
    simp only [Bool.and_eq_true] at hh
    obtain ⟨⟨⟨h2, h3⟩, h4⟩, h5⟩ := hh
    have hu : X.A.units + 1 < cLine := by have := G.rm.units; omega
    simp only [exS]
    refine PSimp (ps_dput hu (snd FC G.toGd (takesF_of G.frm tk) o _ h3).1 (snd FC G.toGd (takesF_of G.frm tk) i _ h4).1 (snd FC G.toGd (takesF_of G.frm tk) a _ h5).1 (swaps_pl h2)) fun D σ H q => ?_
    obtain ⟨r, e, h, E, n, w⟩ := q
    refine stepS E n w fun r1 H1 h1 v V x1 E1 n1 p1 w1 => ?_
    refine stepS E1 n1 w1 fun r2 H2 h2 x XV x2 E2 n2 p2 w2 => ?_
    refine stepS E2 n2 w2 fun r3 H3 h3 m M x3 E3 n3 p3 w3 => ?_
    cases g : dptV h3 x m v with
    | none => rw [g] at w3; exact w3.elim
    | some h4 =>
      rw [g] at w3
      unfold dptV at g
      split at g
      · rename_i j
        split at g
        · rename_i kvs hx
          split at g
          · rename_i hl
            obtain ⟨kk, g1, g2⟩ := Option.map_eq_some_iff.mp g
            subst g2
            obtain ⟨i', a', vs, e0, hi, hr, rfl, hd, q1⟩ := dic_ok (kvs := kvs) E3 (by simp only [dicAt, hx]) (Rep.mono x3 _ _ p2)
            cases e0
            have ek := rep_key g1 p3
            subst ek
            obtain ⟨ws, e1, e2⟩ := zip_put (k := kk) q1 (Rep.mono (x2.trans x3) _ _ p1)
            obtain ⟨y1, y2⟩ := E3.writeD hr e2
            have hz : ((kvs.map (·.1)).zip vs).length < sizeLine := by
              have := q1.length
              rw [List.length_map] at this
              rw [List.length_zip, List.length_map, this, Nat.min_self, ← sz_eq]; exact hl
            refine ⟨a', _, rfl, DPut.k hd hz, ?_⟩
            rw [e1]
            exact w3 r3 _ σ y1 y2 (n3.mono y1)
          · cases g
        · cases g
      · cases g
  | .clr o, X, W, FC, G, tk, x, hh => by
    simp only [ckS] at hh
    split at hh <;> first | (cases hh; done) | skip
    simp only [Bool.and_eq_true, decide_eq_true_eq] at hh
    obtain ⟨⟨⟨rfl, h1⟩, h2⟩, h3⟩ := hh
    simp only [exS]
    refine PSimp (ps_expr (pe_bm0 PySem.F.plainAttrs_list PySem.F.slot_list_clear PySem.F.type_list_clear mt_clear (snd FC G.toGd (takesF_of G.frm tk) o _ h3).1 (attr_plain h1) h2) rfl) fun D σ H q => ?_
    obtain ⟨r, e, h, E, n, w⟩ := q
    refine stepS E n w fun r1 H1 h1 x X' x1 E1 n1 p1 w1 => ?_
    cases g : clrV h1 x with
    | none => rw [g] at w1; exact w1.elim
    | some h2 =>
      rw [g] at w1
      unfold clrV at g
      split at g
      · rename_i i
        split at g
        · rename_i xs hx
          cases g
          simp only [Rep] at p1
          obtain ⟨ad, rfl, hi⟩ := p1
          obtain ⟨vs, q1, q2⟩ := E1.at_ i _ ad hx hi
          obtain ⟨y1, y2⟩ := E1.write (xs := []) (vs := []) hi (by simp only [Reps])
          exact ⟨.inl ⟨rfl, ⟨vs, SqL.of q1⟩⟩, ad, vs, rfl, rfl, q1, w1 r1 _ σ y1 y2 (n1.mono y1)⟩
        · cases g
      · cases g
  | .trx b, X, W, FC, G, tk, x, hh => by
    simp only [ckS] at hh
    split at hh <;> first | (cases hh; done) | skip
    simp only [exS]
    have G2 : Gs X.nox c k := ⟨⟨G.hN, G.sc, G.rm, G.calm, G.nd, ⟨G.deep.seer, G.deep.tree, G.deep.room, G.deep.stk, G.deep.frm⟩⟩, G.fn, own_no, G.stk, G.frm, G.exn⟩
    refine PSimp (ps_try_thru0 (t := tS X.K cA cF (fun _ _ _ _ => False) (exSs T C b)) (sndSs b X.nox (fun _ _ _ _ => False) FC G2 takes_no _ hh)) fun D σ H q => ?_
    obtain ⟨r, e, h, E, n, w⟩ := q
    refine ⟨r, e, h, E, n, ?_⟩
    cases q : exSs T C b e h with
    | nx a b => simp only [q] at w; exact w
    | ct a b => simp only [q] at w; exact w
    | ret a b => simp only [q] at w; exact w
    | bad => simp only [q] at w; exact w.elim
    | exc a b d => simp only [q] at w; exact w.elim
  | .pas, X, W, FC, G, tk, x, hh => by
    simp only [ckS] at hh
    split at hh <;> first | (cases hh; done) | skip
    simp only [exS]
    refine PSimp ps_pass fun D σ H q => ?_
    obtain ⟨r, e, h, E, n, w⟩ := q
    exact w r H σ Ext.refl E n
theorem sndSs : ∀ (ss : Ss) (X : Cx) (W : WX) (FC : Fc X.prog X.w X.K X.mg X.base cA cF T C k c) (G : Gs X c k) (tk : Takes X W) (xs : List Stmt), ckSs c ss xs = true → PSs X xs (tS X.K cA cF W (exSs T C ss))
  | .nil, X, W, FC, G, tk, xs, hh => by
    cases xs with
    | cons _ _ => simp [ckSs] at hh
    | nil =>
      refine PSsimp pss_nil fun D σ H q => ?_
      obtain ⟨r, e, h, E, n, w⟩ := q
      simp only [exSs] at w
      exact w r H σ Ext.refl E n
  | .cons s ss, X, W, FC, G, tk, xs, hh => by
    cases xs with
    | nil => simp [ckSs] at hh
    | cons x xs =>
      simp only [ckSs, Bool.and_eq_true] at hh
      refine PSsimp (pss_cons (sndS s X W FC G tk x hh.1) (sndSs ss X W FC G tk xs hh.2)) fun D σ H q => ?_
      obtain ⟨r, e, h, E, n, w⟩ := q
      simp only [exSs] at w
      exact ⟨r, e, h, E, n, wpO_seq w⟩
end
end
end Rm

/-! Rm, part I: functions, the program. -/
namespace Rm
open PySem L2 PySem.Spec PyProof.Rows

/-- a def of the text: where it stands, its slots, what it is in the small language -/
structure FD where
  at_ : Str × Option Str
  name : Str
  qual : Str
  N : List Str
  st : Stmt
  fi : FI
structure PD where
  mts : List (Nat × Str × Nat)
  inis : List (Nat × Nat)
  fds : List FD
  cls : List Str
  free : List Str
  gI : List (Str × Int)
  gS : List (Str × Str)
  T : Tab
def PD.fs (p : PD) : List FI := p.fds.map (·.fi)
def FD.ps (d : FD) : List Str := d.N.take d.fi.np
def PD.ck (p : PD) (d : FD) : Ck := { N := d.N, sc := defScope d.st, fnm := p.fds.map fun d => match d.at_.2 with | none => some d.at_.1 | some _ => none, cnm := p.cls, free := p.free, gI := p.gI, gS := p.gS }
/-- plain parameters -/
def plainArgs (a : Arguments) (ps : List Str) : Bool := a.posonlyargs.isEmpty && decide (a.args.map (·.arg) = ps) && a.vararg.isNone && a.kwonlyargs.isEmpty && a.kw_defaults.isEmpty && a.kwarg.isNone && a.defaults.isEmpty
def FD.ok0 (p : PD) (d : FD) : Bool :=
  decide ((defScope d.st).kind = .function) && decide ((defScope d.st).isCoroutine = false) && decide ((defScope d.st).isGenerator = false) && decide d.N.Nodup &&
  d.ps.all (fun x => decide ((defScope d.st).names.lookup x = some .local) || decide ((defScope d.st).names.lookup x = some .cell)) &&
  (defScope d.st).names.all (fun y => decide (y.2 ≠ .free)) && decide (d.fi.np ≤ d.N.length) && decide (d.fi.nl = d.N.length) && plainArgs (defArgs d.st) d.ps &&
  ckSs (p.ck d) d.fi.body (defBody d.st)
def FD.ok (p : PD) (d : FD) : Bool := decide (p.fds.length ≤ 100000) && FD.ok0 p d
theorem FD.scope {p : PD} {d : FD} (h : d.ok p = true) : FnScope d.N d.ps (defScope d.st) ∧ d.ps.length = d.fi.np ∧ d.fi.nl = d.N.length ∧ d.fi.np ≤ d.N.length ∧ plainArgs (defArgs d.st) d.ps = true ∧ ckSs (p.ck d) d.fi.body (defBody d.st) = true := by
  unfold FD.ok at h
  rw [Bool.and_eq_true] at h
  replace h := h.2
  unfold FD.ok0 at h
  simp only [Bool.and_eq_true, decide_eq_true_eq, List.all_eq_true, Bool.or_eq_true] at h
  obtain ⟨⟨⟨⟨⟨⟨⟨⟨⟨h1, h2⟩, h3⟩, h4⟩, h5⟩, h6⟩, h7⟩, h8⟩, h9⟩, h11⟩ := h
  refine ⟨⟨h1, h2, h3, h4, ?_, h5, h6⟩, ?_, h8, h7, h9, h11⟩
  · unfold FD.ps; rw [List.length_take, Nat.min_eq_left h7]
  · unfold FD.ps; rw [List.length_take]; omega

/-! ### binding plain parameters -/
theorem zip_look : ∀ {ps : List Str} {us : List Value} {x : Str}, us.length = ps.length → x ∈ ps → ((ps.zip us).lookup x).isNone = false
  | [], _, x, _, h => by cases h
  | p :: ps, [], x, hl, _ => by simp at hl
  | p :: ps, u :: us, x, hl, h => by
    rw [List.zip_cons_cons, List.lookup_cons]
    cases e : x == p with
    | true => rfl
    | false =>
      rcases List.mem_cons.mp h with z | z
      · subst z; simp at e
      · exact zip_look (by simpa using hl) z
theorem zip_fm : ∀ {ps : List Str} {us : List Value} (L : List (Str × Value)), ps.Nodup → us.length = ps.length → (∀ x ∈ ps, L.lookup x = (ps.zip us).lookup x) → ps.filterMap (fun n => (L.lookup n).map fun v => (n, v)) = ps.zip us
  | [], us, L, _, _, _ => by simp
  | p :: ps, [], L, _, hl, _ => by simp at hl
  | p :: ps, u :: us, L, nd, hl, h => by
    obtain ⟨n1, n2⟩ := List.nodup_cons.mp nd
    have e : L.lookup p = some u := by rw [h p List.mem_cons_self, List.zip_cons_cons, List.lookup_cons]; simp
    rw [List.filterMap_cons, e, List.zip_cons_cons]
    simp only [Option.map_some]
    rw [zip_fm L n2 (by simpa using hl) fun x hx => ?_]
    rw [h x (List.mem_cons_of_mem _ hx), List.zip_cons_cons, List.lookup_cons]
    have : (x == p) = false := by
      cases q : x == p with
      | false => rfl
      | true => rw [beq_iff_eq] at q; subst q; exact absurd hx n1
    rw [this]
theorem bind_plain {n q : Str} {b : List Stmt} {sc : Scope} {kV doc pm cdv ct : Value} {an : Option Addr} {ar : List Arg} (us : List Value) (nd : (ar.map (·.arg)).Nodup) (hl : us.length = ar.length) :
    bindArgs (PySem.W.fnOf n q ⟨[], ar, none, [], [], none, []⟩ b sc .none kV doc pm an cdv ct) ⟨us, []⟩ = pure ((ar.map (·.arg)).zip us) := by
  have hl2 : us.length = (ar.map (·.arg)).length := by simpa using hl
  have hm : (List.filter (fun n => (List.lookup n ((ar.map (·.arg)).zip us)).isNone) (ar.map (·.arg))) = [] := by
    rw [List.filter_eq_nil_iff]
    intro x hx
    rw [zip_look hl2 hx]
    decide
  have hz := zip_fm ((ar.map (·.arg)).zip us) nd hl2 fun _ _ => rfl
  have ht : List.take ar.length (List.map (fun x => x.arg) ar) = List.map (fun x => x.arg) ar := List.take_of_length_le (by simp)
  have hn : notAStandIn Value.none = pure () := rfl
  unfold bindArgs
  simp only [PySem.W.fnOf]
  simp [seqItems?, hl, hm, ht, hn]
  rw [List.filterMap_map] at hz
  exact congrArg pure hz
theorem bind_plainA {n q : Str} {b : List Stmt} {sc : Scope} {kV doc pm cdv ct : Value} {an : Option Addr} {a : Arguments} {ps : List Str} (h : plainArgs a ps = true) (nd : ps.Nodup) (us : List Value) (hl : us.length = ps.length) :
    bindArgs (PySem.W.fnOf n q a b sc .none kV doc pm an cdv ct) ⟨us, []⟩ = pure (ps.zip us) := by
  obtain ⟨po, ar, va, ko, kd, kw, df⟩ := a
  unfold plainArgs at h
  simp only [Bool.and_eq_true, decide_eq_true_eq, List.isEmpty_iff, Option.isNone_iff_eq_none] at h
  obtain ⟨⟨⟨⟨⟨⟨rfl, rfl⟩, rfl⟩, rfl⟩, rfl⟩, rfl⟩, rfl⟩ := h
  exact bind_plain us nd (by simpa using hl)

/-! ### the facts that the head tells -/
/-- what an own class of exceptions must say -/
def exB (K : PySem.W.Frag) (D : Addr) : Bool :=
  He.eqO (PySem.W.findIn K (.ref D) "__getattribute__") (some (some (.builtin "BaseException.__getattribute__"))) && He.eqO (PySem.W.findIn K (.ref D) "__getattr__") (some none) &&
  decide (PySem.W.subIn K (.ref D) (.type "BaseException") = some true) && PySem.W.hasDictIn K D && He.eqO (PySem.W.findIn K (.ref D) "__class__") (some (some (.builtin "object.__class__"))) &&
  He.eqO (PySem.W.specialIn K (.builtin "object.__class__") "__get__") (some (some (.builtin "getset_descriptor.__get__"))) && decide (PySem.W.takesIn K (.builtin "object.__class__") = some true) && decide (PySem.W.mroIn K D (.type "object") = some true)
theorem exB_ok {K : PySem.W.Frag} {D : Addr} (h : exB K D = true) : ExcC K D := by
  unfold exB at h
  simp only [Bool.and_eq_true, decide_eq_true_eq] at h
  obtain ⟨⟨⟨⟨⟨⟨⟨h1, h2⟩, h3⟩, h4⟩, h5⟩, h6⟩, h7⟩, h8⟩ := h
  exact ⟨He.eqO_ok h1, He.eqO_ok h2, h3, h4, He.eqO_ok h5, He.eqO_ok h6, h7, h8⟩
def PD.cA (p : PD) (K : PySem.W.Frag) (c : Nat) : Addr := He.ga K (p.cls.getD c (Str.ofString ""))
def PD.exF (p : PD) (K : PySem.W.Frag) : Bool := (List.range p.cls.length).all fun c =>
  (!p.T.exc c || (exB K (p.cA K c) && decide (PySem.W.kitOne K (.ref (p.cA K c)) (.type "ValueError") = some (p.T.ve c)) && decide (PySem.W.kitOne K (.type "NoneType") (.ref (p.cA K c)) = some false) &&
    (List.range p.cls.length).all fun d => !p.T.exc d || (decide (PySem.W.kitOne K (.ref (p.cA K c)) (.ref (p.cA K d)) = some (p.T.sub c d)) && decide (PySem.W.exmOne K (.ref (p.cA K c)) (.ref (p.cA K d)) = some (p.T.sub c d))))) &&
  (!p.T.rz c || (PySem.W.excIn K (p.cA K c) [.type "ValueError", .type "Exception", .type "BaseException", .type "object"] "ValueError.__new__" && decide (PySem.W.subIn K (.ref (p.cA K c)) (.type "BaseException") = some true) && decide (PySem.W.typeIn K (.ref (p.cA K c)) = some (.type "type")))) &&
  (!p.T.obj c || (He.eqO (PySem.W.findIn K (.ref (p.cA K c)) "__class__") (some (some (.builtin "object.__class__"))) && He.eqO (PySem.W.specialIn K (.builtin "object.__class__") "__get__") (some (some (.builtin "getset_descriptor.__get__"))) && decide (PySem.W.takesIn K (.builtin "object.__class__") = some true) && decide (PySem.W.mroIn K (p.cA K c) (.type "object") = some true) &&
    (List.range p.cls.length).all fun d => !p.T.obj d || decide (PySem.W.kitOne K (.ref (p.cA K c)) (.ref (p.cA K d)) = some (p.T.sub c d))))
/-- what the plain classes must say; mt: class, method, the def -/
def PD.obF (p : PD) (K : PySem.W.Frag) : Bool := (List.range p.cls.length).all fun c =>
  (!p.T.obj c || ((He.Fa.cls (p.cls.getD c (Str.ofString ""))).ok K && (p.T.fld c).all fun f => (He.Fa.noat (p.cls.getD c (Str.ofString "")) f).ok K)) &&
  (!p.T.n0 c || (PySem.W.makesIn K (p.cA K c) && He.eqO (PySem.W.findIn K (.ref (p.cA K c)) "__init__") (some (some (.builtin "object.__init__")))))
def PD.mtF (p : PD) (K : PySem.W.Frag) : Bool := p.mts.all fun q => (match p.cls[q.1]?, p.fds[q.2.2]? with
  | some x, some d => (He.Fa.meth x q.2.1).ok K && decide (He.ma K (He.ga K x) q.2.1 = He.fAd K d.at_) && !(p.T.fld q.1).contains q.2.1
  | _, _ => false)
def PD.inF (p : PD) (K : PySem.W.Frag) : Bool := p.inis.all fun q => (match p.cls[q.1]?, p.fds[q.2]? with
  | some x, some d => (He.Fa.mkr x).ok K && decide (He.ma K (He.ga K x) (Str.ofString "__init__") = He.fAd K d.at_)
  | _, _ => false)
/-- the tables are those of the lists -/
structure PD.tabs (p : PD) : Prop where
  ob : ∀ c, (p.T.obj c = true ∨ p.T.n0 c = true) → c < p.cls.length
  mt : ∀ c m g, p.T.mth c m = some g → (c, m, g) ∈ p.mts
  ini : ∀ c g, p.T.ini c = some g → (c, g) ∈ p.inis
def PD.inCls (p : PD) : Prop := ∀ c, (p.T.exc c = true ∨ p.T.rz c = true) → c < p.cls.length
theorem PD.exF_ok {p : PD} {K : PySem.W.Frag} (hc : p.inCls) (tb : p.tabs) (h : p.exF K = true) : ExF K (p.cA K) p.T := by
  unfold PD.exF at h
  simp only [List.all_eq_true, List.mem_range, Bool.and_eq_true, Bool.or_eq_true, Bool.not_eq_true', decide_eq_true_eq] at h
  have get : ∀ c, p.T.exc c = true → _ := fun c e => (h c (hc c (.inl e))).1.1.resolve_left (by rw [e]; decide)
  have ge : ∀ c, p.T.obj c = true → _ := fun c e => (h c (tb.ob c (.inl e))).2.resolve_left (by rw [e]; decide)
  exact {
    exc := fun c e => exB_ok (get c e).1.1.1
    ve := fun c e => (get c e).1.1.2
    non := fun c e => (get c e).1.2
    osub := fun c d e f => ((ge c e).2 d (tb.ob d (.inl f))).resolve_left (by rw [f]; decide)
    oi := fun c e => ⟨He.eqO_ok (ge c e).1.1.1.1, He.eqO_ok (ge c e).1.1.1.2, (ge c e).1.1.2, (ge c e).1.2⟩
    sub := fun c d e f => (((get c e).2 d (hc d (.inl f))).resolve_left (by rw [f]; decide)).1
    em := fun c d e f => (((get c e).2 d (hc d (.inl f))).resolve_left (by rw [f]; decide)).2
    rz := fun c e => by
      have z := (h c (hc c (.inr e))).1.2.resolve_left (by rw [e]; decide)
      exact ⟨z.1.1, z.1.2, z.2⟩ }
def PD.fa (p : PD) : List He.Fa := p.free.map He.Fa.free ++ p.gI.map (fun q => He.Fa.int q.1 q.2) ++ p.gS.map (fun q => He.Fa.str q.1 q.2) ++ p.cls.map He.Fa.glo ++ p.cls.map He.Fa.keep ++
  p.fds.filterMap fun d => match d.at_.2 with | none => some (He.Fa.glo d.at_.1) | some _ => none
def FD.defD (d : FD) : He.DefD := ⟨d.at_, d.name, d.qual, defArgs d.st, defBody d.st, defScope d.st, [], []⟩
def PD.fn (p : PD) : List He.DefD := p.fds.map FD.defD
def PD.obs (p : PD) (K : PySem.W.Frag) : He.AlD := ((p.exF K && (p.obF K && (p.mtF K && p.inF K))) && (He.obsD p.fa p.fn K).1, (He.obsD p.fa p.fn K).2)
def PD.says (p : PD) (K : PySem.W.Frag) : Prop := p.obs K = He.valD p.fn
/-- the objects that the module's names reach -/
def refsOf (g : Addr → Option Obj) (as : List Addr) : List Addr := as.flatMap fun a => match g a with
  | some o => He.refsD o
  | none => []
def asP (g : Addr → Option Obj) : List Addr :=
  let l1 := refsOf g [mainGlobals]
  let l2 := refsOf g l1
  let l3 := refsOf g l2
  mainGlobals :: (l1 ++ (l2 ++ (l3 ++ refsOf g l3)))
def PD.obsG (p : PD) (_ : Nat) (g : Addr → Option Obj) : He.AlD := p.obs (He.frG g (asP g))
/-- what the head's run must show, in parts -/
def PD.obA (p : PD) (K : PySem.W.Frag) : Bool := (p.exF K && (p.obF K && (p.mtF K && p.inF K))) && p.fa.all fun f => f.ok K
def obB (fn : List He.DefD) (K : PySem.W.Frag) : Bool × List He.FnW := (fn.all fun d => d.ok K, fn.map fun d => He.fnW K d.at_)
section
open PySem.W HandSHeadRun
def KS (s : PySem.W.SharedT) : PySem.W.Frag := He.frG (getT s) (asP (getT s))
def Run1 (r : OpenRow) (q : Program) (M : Nat) (loose : List PySem.Str) (w : World) : Prop :=
  ∀ os : OsState, (endF (stepQ (denQ tabQ) r.prog w) M r.prog w os).map (fun s => (looksF r.prog (boot_heap w.params) s.abs, seenQ q loose (importedModules r.prog.main.body) (fun s => xlAt q [] s && recOk r.toRowW.records s) s.abs)) = some (true, openGood q loose)
def Run2 (r : OpenRow) (p : PD) (M : Nat) (w : World) : Prop := ∀ os : OsState, (endF (stepQ (denQ tabQ) r.prog w) M r.prog w os).map (fun s => p.obA (KS s)) = some true
def Run3 (r : OpenRow) (fn : List He.DefD) (M : Nat) (w : World) : Prop := ∀ os : OsState, (endF (stepQ (denQ tabQ) r.prog w) M r.prog w os).map (fun s => obB fn (KS s)) = some (true, fn.map He.DefD.val)
end
def PD.hook (p : PD) (n : Nat) : PySem.W.Hook where
  α := He.AlD
  obs := fun s => p.obsG n s.heap.get?
  val := fun _ => He.valD p.fn
  says := fun _ h => ∃ K : PySem.W.Frag, K.In h ∧ p.says K
  of := fun _ _ e => ⟨_, He.frG_in, e⟩
  keeps := fun _ _ _ ⟨K, hK, c⟩ k => ⟨K, PySem.W.Frag.In.keeps hK k, c⟩
open PySem.W HandSHeadRun in
theorem run_join {r : OpenRow} {q : Program} {p : PD} {n M m : Nat} {loose : List PySem.Str} {w : World} (h1 : Run1 r q M loose w) (h2 : Run2 r p M w) (h3 : Run3 r (p.fn.take m) M w) (h4 : Run3 r (p.fn.drop m) M w) :
    RunEq r q (p.hook n) (fun s => p.obsG n (getT s)) M loose w := by
  intro os
  have e1 := h1 os
  have e2 := h2 os
  have e3 := h3 os
  have e4 := h4 os
  cases X : endF (stepQ (denQ tabQ) r.prog w) M r.prog w os with
  | none => rw [X] at e1; cases e1
  | some s =>
    rw [X] at e1 e2 e3 e4
    simp only [Option.map_some, Option.some.injEq, Prod.mk.injEq] at e1 e2
    have e3 : obB (p.fn.take m) (KS s) = (true, (p.fn.take m).map He.DefD.val) := Option.some.inj e3
    have e4 : obB (p.fn.drop m) (KS s) = (true, (p.fn.drop m).map He.DefD.val) := Option.some.inj e4
    have a3 : ((p.fn.take m).all fun d => d.ok (KS s)) = true := congrArg (fun z : Bool × List _ => z.1) e3
    have b3 : ((p.fn.take m).map fun d => He.fnW (KS s) d.at_) = (p.fn.take m).map He.DefD.val := congrArg (fun z : Bool × List _ => z.2) e3
    have a4 : ((p.fn.drop m).all fun d => d.ok (KS s)) = true := congrArg (fun z : Bool × List _ => z.1) e4
    have b4 : ((p.fn.drop m).map fun d => He.fnW (KS s) d.at_) = (p.fn.drop m).map He.DefD.val := congrArg (fun z : Bool × List _ => z.2) e4
    have a5 : (p.fn.all fun d => d.ok (KS s)) = true := by
      rw [← List.take_append_drop m p.fn, List.all_append, a3, a4]; rfl
    have b5 : (p.fn.map fun d => He.fnW (KS s) d.at_) = p.fn.map He.DefD.val := by
      rw [← List.take_append_drop m p.fn, List.map_append, List.map_append, b3, b4]
    have eo : p.obsG n (getT s) = He.valD p.fn := by
      unfold PD.obA at e2
      rw [Bool.and_eq_true] at e2
      show (((p.exF (KS s) && (p.obF (KS s) && (p.mtF (KS s) && p.inF (KS s)))) && ((p.fa.all fun f => f.ok (KS s)) && p.fn.all fun d => d.ok (KS s))), p.fn.map fun d => He.fnW (KS s) d.at_) = (true, p.fn.map He.DefD.val)
      rw [e2.1, e2.2, a5, b5]; rfl
    show some (_, _, p.obsG n (getT s)) = some (true, openGood q loose, He.valD p.fn)
    exact congrArg some (Prod.ext e1.1 (Prod.ext e1.2 eo))
theorem PD.obsG_eq {p : PD} {n : Nat} {g : Addr → Option Obj} {s : Shared} (h : ∀ a, g a = s.heap.get? a) : p.obsG n g = (p.hook n).obs s := by
  have e : g = s.heap.get? := funext h
  rw [e] <;> rfl
theorem PD.says_ok {p : PD} {K : PySem.W.Frag} (h : p.says K) : p.exF K = true ∧ He.SaysD p.fa p.fn K := by
  have h1 := congrArg (fun z : He.AlD => z.1) h
  have h2 := congrArg (fun z : He.AlD => z.2) h
  have h1' : ((p.exF K && (p.obF K && (p.mtF K && p.inF K))) && (He.obsD p.fa p.fn K).1) = true := h1
  obtain ⟨a, b⟩ := He.ba h1'
  exact ⟨(He.ba a).1, Prod.ext b h2⟩
theorem PD.says_ob {p : PD} {K : PySem.W.Frag} (h : p.says K) : p.obF K = true ∧ p.mtF K = true ∧ p.inF K = true := by
  have h1 := congrArg (fun z : He.AlD => z.1) h
  have h1' : ((p.exF K && (p.obF K && (p.mtF K && p.inF K))) && (He.obsD p.fa p.fn K).1) = true := h1
  obtain ⟨a, b⟩ := He.ba h1'
  obtain ⟨_, a⟩ := He.ba a
  obtain ⟨a1, a⟩ := He.ba a
  obtain ⟨a2, a3⟩ := He.ba a
  exact ⟨a1, a2, a3⟩
theorem says_fact {fa : List He.Fa} {fn : List He.DefD} {K : PySem.W.Frag} (c : He.SaysD fa fn K) {f : He.Fa} (h : f ∈ fa) : f.ok K = true := by
  obtain ⟨i, hi, e⟩ := List.mem_iff_getElem.mp h
  exact c.fact i (by rw [← e]; simp [hi])

/-! ### every def keeps its promise -/
section
variable {p : PD} {P : Program} {w : World} {K : PySem.W.Frag} {mg : Str → Option Value} {h0 : Heap} {base : Heap}
def fAd (K : PySem.W.Frag) (p : PD) (f : Nat) : Addr := match p.fds[f]? with
  | some d => He.fAd K d.at_
  | none => 0
theorem run_ok (hok : p.fds.all (fun d => d.ok p) = true) (hin : p.inCls) (tb : p.tabs) (c : p.says K) (X : K.In h0) (G : h0.Ns mainGlobals mg) (sr : base.NoSeer) (tr : P.given.tree = none) :
    ∀ (n : Nat) (f : Nat) (d : FD), p.fds[f]? = some d → ∃ fd, FunD K d.name d.qual (defArgs d.st) (defBody d.st) (defScope d.st) [] [] (He.fAd K d.at_) fd ∧
      FnOk P w K mg base (L2.CX P w) (34 + 2 * n) (He.fAd K d.at_) fd d.ps (spR K (p.cA K) p.T.fld (run p.T p.fs n) f) ∧ (p.fds[f + big]? = none → FnOk P w K mg base (L2.CX P w) (34 + 2 * n) (He.fAd K d.at_) fd d.ps (spR K (p.cA K) p.T.fld (run p.T p.fs n) (f + big))) := by
  obtain ⟨c1, c2⟩ := PD.says_ok c
  have exf := PD.exF_ok hin tb c1
  obtain ⟨o1, o2, o3⟩ := PD.says_ob c
  have bnd : ∀ {d : FD} {fd : FuncData}, d.ok p = true → FunD K d.name d.qual (defArgs d.st) (defBody d.st) (defScope d.st) [] [] (He.fAd K d.at_) fd → Binds K fd d.ps [] := by
    intro d fd hd F
    obtain ⟨S, h2, _, _, h5, _⟩ := FD.scope hd
    obtain ⟨oc, od, dV, kV, doc, pm, an, cdv, ct, osl, rfl, lk, hcd, hdv, hkv⟩ := F.ex
    rcases hdv with ⟨_, rfl⟩ | ⟨z, _⟩
    · exact .all fun us hl => bind_plainA h5 (S.nd.sublist (List.take_sublist _ _)) us hl
    · exact absurd rfl z
  intro n
  induction n with
  | zero =>
    intro f d hf
    have hfn : p.fn[f]? = some d.defD := by unfold PD.fn; rw [List.getElem?_map, hf]; rfl
    obtain ⟨fd, F⟩ := c2.def_ f hfn
    refine ⟨fd, F, ⟨fun vs H Q E q => ?_, fun A outer s H args us vs Q E _ _ _ _ q => ?_⟩, fun _ => ⟨fun vs H Q E q => ?_, fun A outer s H args us vs Q E _ _ _ _ q => ?_⟩⟩
    · obtain ⟨r, as, h, _, _, z⟩ := q
      simp only [run] at z
      exact z.elim
    · obtain ⟨r, as, h, _, _, z⟩ := q
      simp only [run] at z
      exact z.elim
    · obtain ⟨r, as, h, _, _, z⟩ := q
      simp only [run] at z
      exact z.elim
    · obtain ⟨r, as, h, _, _, z⟩ := q
      simp only [run] at z
      exact z.elim
  | succ n ih =>
    intro f d hf
    have hfn : p.fn[f]? = some d.defD := by unfold PD.fn; rw [List.getElem?_map, hf]; rfl
    obtain ⟨fd, F⟩ := c2.def_ f hfn
    have F : FunD K d.name d.qual (defArgs d.st) (defBody d.st) (defScope d.st) [] [] (He.fAd K d.at_) fd := F
    have hd : d.ok p = true := List.all_eq_true.mp hok d (List.mem_of_getElem? hf)
    obtain ⟨S, h2, h3, h4, h5, h7⟩ := FD.scope hd
    have hfs : p.fs[f]? = some d.fi := by unfold PD.fs; rw [List.getElem?_map, hf]; rfl
    have main : ∀ (fr : Bool) (ff : Nat), (∀ vs h, run p.T p.fs (n + 1) ff vs h = if vs.length = d.fi.np then leaveB fr d.fi h (exSs p.T (run p.T p.fs n) d.fi.body (Rm.start d.fi vs) h) else .bad) →
        FnOk P w K mg base (L2.CX P w) (34 + 2 * (n + 1)) (He.fAd K d.at_) fd d.ps (spR K (p.cA K) p.T.fld (run p.T p.fs (n + 1)) ff) := by
      intro fr ff hrun
      have len : ∀ vs H Q E, spR K (p.cA K) p.T.fld (run p.T p.fs (n + 1)) ff vs H Q E → vs.length = d.ps.length := by
        intro vs H Q E q
        obtain ⟨r, as, h, _, p1, z⟩ := q
        rw [hrun] at z
        split at z
        · rename_i hl
          rw [p1.length, hl, h2]
        · exact z.elim
      refine FunD.ok F S len fun cdv A outer s H vs Q E hr q => ?_
      refine ⟨tS K (p.cA K) p.T.fld (fun cls dd _ H => E cls dd H) (exSs p.T (run p.T p.fs n) d.fi.body), ?_, ?_⟩
      · have FC : Fc P w K mg base (p.cA K) p.T.fld p.T (run p.T p.fs n) (34 + 2 * n) (p.ck d) := {
          fn := fun g x e => by
            have e2 : ∃ d', (p.fds[g]? = some d' ∨ (p.fds[g]? = none ∧ big ≤ g ∧ p.fds[g - big]? = some d')) ∧ (match d'.at_.2 with | none => some d'.at_.1 | some _ => none) = some x := by
              unfold Ck.fa at e
              have ef : (p.ck d).fnm = p.fds.map fun d => match d.at_.2 with | none => some d.at_.1 | some _ => none := rfl
              rw [ef, List.getElem?_map, List.getElem?_map] at e
              cases q1 : p.fds[g]? with
              | some d' => rw [q1] at e; simp only [Option.map_some, Option.some.injEq] at e; exact ⟨d', .inl rfl, e⟩
              | none =>
                rw [q1] at e
                simp only [Option.map_none] at e
                split at e
                · rename_i hb
                  obtain ⟨d', hd', e3⟩ := Option.map_eq_some_iff.mp e
                  exact ⟨d', .inr ⟨rfl, hb, hd'⟩, e3⟩
                · cases e
            obtain ⟨d', hcase, e3⟩ := e2
            have hex : ∃ fd', FunD K d'.name d'.qual (defArgs d'.st) (defBody d'.st) (defScope d'.st) [] [] (He.fAd K d'.at_) fd' ∧
                FnOk P w K mg base (L2.CX P w) (34 + 2 * n) (He.fAd K d'.at_) fd' d'.ps (spR K (p.cA K) p.T.fld (run p.T p.fs n) g) ∧ ∃ g' : Nat, p.fds[g']? = some d' := by
              rcases hcase with hd' | ⟨h0, hb, hd'⟩
              · obtain ⟨fd', F', O', _⟩ := ih g d' hd'
                exact ⟨fd', F', O', g, hd'⟩
              · obtain ⟨fd', F', _, O'⟩ := ih (g - big) d' hd'
                have eg : g - big + big = g := Nat.sub_add_cancel hb
                rw [eg] at O'
                exact ⟨fd', F', O' h0, g - big, hd'⟩
            obtain ⟨fd', F', O', g', hd'⟩ := hex
            have hz : d'.at_ = (x, none) := by
              obtain ⟨⟨a1, a2⟩, _⟩ := d'
              cases a2 with
              | none => simp only [Option.some.injEq] at e3; simp [e3]
              | some _ => cases e3
            have hg := He.glo_ok X G (says_fact c2 (f := .glo x) (by
              unfold PD.fa
              refine List.mem_append_right _ (List.mem_filterMap.mpr ⟨d', List.mem_of_getElem? hd', ?_⟩)
              rw [hz]))
            have hd'' : d'.ok p = true := List.all_eq_true.mp hok d' (List.mem_of_getElem? hd')
            refine ⟨He.fAd K d'.at_, fd', d'.ps, O', ?_, F'.kp, bnd hd'' F'⟩
            rw [hg, hz]; rfl
          free := fun x hx => He.free_ok X G (says_fact c2 (f := .free x) (by
            unfold PD.fa
            simp only [List.append_assoc]
            exact List.mem_append_left _ (List.mem_map.mpr ⟨x, hx, rfl⟩)))
          gi := fun x i hx => He.int_ok X G (says_fact c2 (f := .int x i) (by
            unfold PD.fa
            simp only [List.append_assoc]
            exact List.mem_append_right _ (List.mem_append_left _ (List.mem_map.mpr ⟨(x, i), hx, rfl⟩))))
          gs := fun x i hx => He.str_ok X G (says_fact c2 (f := .str x i) (by
            unfold PD.fa
            simp only [List.append_assoc]
            exact List.mem_append_right _ (List.mem_append_right _ (List.mem_append_left _ (List.mem_map.mpr ⟨(x, i), hx, rfl⟩)))))
          cl := fun e x hx => by
            have hx : p.cls[e]? = some x := hx
            have hm : x ∈ p.cls := List.mem_of_getElem? hx
            have hA : p.cA K e = He.ga K x := by unfold PD.cA; rw [List.getD_eq_getElem?_getD, hx]; rfl
            rw [hA]
            exact ⟨He.glo_ok X G (says_fact c2 (f := .glo x) (by
              unfold PD.fa
              simp only [List.append_assoc]
              exact List.mem_append_right _ (List.mem_append_right _ (List.mem_append_right _ (List.mem_append_left _ (List.mem_map.mpr ⟨x, hm, rfl⟩)))))), He.keep_ok (says_fact c2 (f := .keep x) (by
              unfold PD.fa
              simp only [List.append_assoc]
              exact List.mem_append_right _ (List.mem_append_right _ (List.mem_append_right _ (List.mem_append_right _ (List.mem_append_left _ (List.mem_map.mpr ⟨x, hm, rfl⟩)))))))⟩
          ex := exf
          fl := rfl
          ob := fun d ho => by
            have z := List.all_eq_true.mp o1 d (List.mem_range.mpr (tb.ob d (.inl ho)))
            simp only [Bool.and_eq_true, Bool.or_eq_true, Bool.not_eq_true'] at z
            have z1 := z.1.resolve_left (by rw [ho]; decide)
            exact ⟨He.cls_ok z1.1, fun f hf => He.noat_ok (List.all_eq_true.mp z1.2 f hf)⟩
          mt := fun d m g ho hm => by
            have z := List.all_eq_true.mp o2 _ (tb.mt d m g hm)
            dsimp only at z
            split at z
            · rename_i x d' hx hd'
              simp only [Bool.and_eq_true, decide_eq_true_eq, Bool.not_eq_true', List.contains_eq_mem, decide_eq_false_iff_not] at z
              obtain ⟨⟨z1, z2⟩, z3⟩ := z
              obtain ⟨fd', F', O', _⟩ := ih g d' hd'
              have hd'' : d'.ok p = true := List.all_eq_true.mp hok d' (List.mem_of_getElem? hd')
              refine ⟨z3, He.fAd K d'.at_, fd', d'.ps, O', ?_, bnd hd'' F'⟩
              have hA : p.cA K d = He.ga K x := by unfold PD.cA; rw [List.getD_eq_getElem?_getD, hx]; rfl
              rw [hA, ← z2]
              exact He.meth_ok z1
            · cases z
          mtC := fun d m g ho hm => by
            have z := List.all_eq_true.mp o2 _ (tb.mt d m g hm)
            dsimp only at z
            split at z
            · rename_i x d' hx hd'
              simp only [Bool.and_eq_true, decide_eq_true_eq, Bool.not_eq_true', List.contains_eq_mem, decide_eq_false_iff_not] at z
              obtain ⟨⟨z1, z2⟩, z3⟩ := z
              obtain ⟨fd', F', _, O'⟩ := ih g d' hd'
              have hd'' : d'.ok p = true := List.all_eq_true.mp hok d' (List.mem_of_getElem? hd')
              have hlen : p.fds.length ≤ 100000 := by
                have h9 := hd''
                unfold FD.ok at h9
                rw [Bool.and_eq_true, decide_eq_true_eq] at h9
                exact h9.1
              refine ⟨z3, He.fAd K d'.at_, fd', d'.ps, O' (List.getElem?_eq_none (by unfold big; omega)), ?_, bnd hd'' F'⟩
              have hA : p.cA K d = He.ga K x := by unfold PD.cA; rw [List.getD_eq_getElem?_getD, hx]; rfl
              rw [hA, ← z2]
              exact He.meth_ok z1
            · cases z
          mkI := fun d g ho hm => by
            have z := List.all_eq_true.mp o3 _ (tb.ini d g hm)
            dsimp only at z
            split at z
            · rename_i x d' hx hd'
              simp only [Bool.and_eq_true, decide_eq_true_eq] at z
              obtain ⟨z1, z2⟩ := z
              obtain ⟨fd', F', O', _⟩ := ih g d' hd'
              have hd'' : d'.ok p = true := List.all_eq_true.mp hok d' (List.mem_of_getElem? hd')
              refine ⟨He.fAd K d'.at_, fd', d'.ps, O', ?_, bnd hd'' F'⟩
              have hA : p.cA K d = He.ga K x := by unfold PD.cA; rw [List.getD_eq_getElem?_getD, hx]; rfl
              rw [hA, ← z2]
              exact He.mkr_ok z1
            · cases z
          m0 := fun d h0 => by
            have z := List.all_eq_true.mp o1 d (List.mem_range.mpr (tb.ob d (.inr h0)))
            simp only [Bool.and_eq_true, Bool.or_eq_true, Bool.not_eq_true'] at z
            have z1 := z.2.resolve_left (by rw [h0]; decide)
            exact ⟨z1.1, He.eqO_ok z1.2⟩ }
        exact sndSs d.fi.body (cxOf (L2.CX P w) P w K mg base d.N d.qual (defScope d.st) (He.fAd K d.at_) cdv A outer s H E) (fun cls dd _ H => E cls dd H) FC
          { hN := rfl, sc := rfl, rm := hr, calm := rfl, nd := S.nd, deep := ⟨sr, tr, by have h0 : Room (34 + 2 * n + 1) (A.deeper (envOfC d.qual (defScope d.st) s.heap.objs.size (He.fAd K d.at_) cdv)) := hr; have := h0.dp; show (A.deeper (envOfC d.qual (defScope d.st) s.heap.objs.size (He.fAd K d.at_) cdv)).depth + 100 < _; omega, ⟨_, _, rfl, S.gen, S.co, rfl, rfl⟩, ⟨_, _, _, rfl, rfl, rfl⟩⟩, fn := fun _ => rfl, own := passes_of rfl, stk := rfl, frm := rfl, exn := rfl } (takes_of rfl rfl rfl rfl) (defBody d.st) h7
      · obtain ⟨r, as, h, Em, p1, z⟩ := q
        rw [hrun] at z
        split at z
        · rename_i hl
          refine ⟨r, Rm.start d.fi as, h, Em, ?_, ?_⟩
          · refine ⟨?_, fun i v e => ?_⟩
            · unfold Rm.start L2.start
              rw [List.length_append, List.length_append, List.length_map, List.length_map, List.length_replicate, List.length_replicate, p1.length, hl, h3]
            · unfold Rm.start at e
              have hi : i < as.length := by
                by_cases hi : i < as.length
                · exact hi
                · rw [List.getElem?_append_right (by simpa using hi), List.getElem?_replicate] at e
                  split at e <;> cases e
              rw [List.getElem?_append_left (by simpa using hi), List.getElem?_map] at e
              cases ea : as[i]? with
              | none => rw [ea] at e; cases e
              | some x =>
                rw [ea] at e
                simp only [Option.map_some, Option.some.injEq] at e
                subst e
                obtain ⟨V, k1, k2⟩ := p1.get ea
                refine ⟨V, ?_, k2⟩
                unfold L2.start
                rw [List.getElem?_append_left (by rw [List.length_map, p1.length]; exact hi), List.getElem?_map, k1]; rfl
          · have fin_ok : ∀ {v : MV} {h' : HP}, wpR K (p.cA K) p.T.fld r H (Rm.fin d.fi.keep h v h') Q E → ∀ r' H' V, Ext r H r' H' → Emb K (p.cA K) p.T.fld H' r' h' → Rep K (p.cA K) p.T.fld H' r' v V → Q V H' := by
              intro v h' w r' H' V x1 E1 p2
              unfold Rm.fin at w
              split at w
              · exact w r' H' V x1 E1 p2
              · split at w
                · rename_i ht
                  obtain ⟨t, rfl⟩ := x1.pre
                  have E2 := Emb.cut E1 Em ht
                  have x2 : Ext r H r H' := ⟨⟨[], by simp⟩, fun a o e n => ⟨(x1.keep a o e n).1, n⟩⟩
                  cases g : frz h' h.length v with
                  | none => rw [g] at w; exact w.elim
                  | some u =>
                    rw [g] at w
                    rw [← Em.len] at g
                    exact w r H' V x2 E2 (frz_ok E1 v u V g p2)
                · split at w
                  · rename_i hlow
                    obtain ⟨t, rfl⟩ := x1.pre
                    rw [← Em.len] at hlow
                    have E2 := Emb.cutL E1 hlow
                    have x2 : Ext r H r H' := ⟨⟨[], by simp⟩, fun a o e n => ⟨(x1.keep a o e n).1, n⟩⟩
                    cases g : frz h' h.length v with
                    | none => rw [g] at w; exact w.elim
                    | some u =>
                      rw [g] at w
                      rw [← Em.len] at g w
                      exact w r H' V x2 E2 (frz_ok E1 v u V g p2)
                  · exact w.elim
            have finC_ok : ∀ {v : MV} {h' : HP}, wpR K (p.cA K) p.T.fld r H (Rm.finC h v h') Q E → ∀ r' H' V, Ext r H r' H' → Emb K (p.cA K) p.T.fld H' r' h' → Rep K (p.cA K) p.T.fld H' r' v V → Q V H' := by
              intro v h' w r' H' V x1 E1 p2
              unfold Rm.finC at w
              split at w
              · rename_i ht
                split at w
                · rename_i i
                  split at w
                  · rename_i hi
                    split at w
                    · rename_i xs hx
                      split at w
                      · rename_i hl
                        obtain ⟨t, rfl⟩ := x1.pre
                        simp only [Rep] at p2
                        obtain ⟨a, rfl, hr⟩ := p2
                        rw [← Em.len] at hi hl
                        have E2 := Emb.pick E1 Em ht hi hr hx hl
                        have ha : a ∈ r ++ t := List.mem_of_getElem? hr
                        have x2 : Ext r H (r ++ [a]) H' := ⟨⟨[a], rfl⟩, fun b o e n => ⟨(x1.keep b o e n).1, fun z => by
                          rcases List.mem_append.mp z with z | z
                          · exact n z
                          · have : b = a := by simpa using z
                            rw [this] at e n
                            exact (x1.keep a o e n).2 ha⟩⟩
                        refine w (r ++ [a]) H' _ x2 E2 ?_
                        simp only [Rep]
                        exact ⟨a, rfl, by rw [← Em.len]; simp⟩
                      · exact w.elim
                    · exact w.elim
                  · exact w.elim
                · exact w.elim
              · exact w.elim
            cases q2 : exSs p.T (run p.T p.fs n) d.fi.body (Rm.start d.fi as) h with
            | nx a b =>
              cases fr with
              | true => simp only [leaveB, q2, if_true] at z; exact z.elim
              | false => simp only [leaveB, q2, Bool.false_eq_true, if_false] at z; exact fun r' H' s' x1 E1 n1 => fin_ok z r' H' V.non x1 E1 rep_non
            | ret a b =>
              cases fr with
              | true => simp only [leaveB, q2, if_true] at z; exact finC_ok z
              | false => simp only [leaveB, q2, Bool.false_eq_true, if_false] at z; exact fin_ok z
            | ct a b => simp only [leaveB, q2] at z; exact z.elim
            | bad => simp only [leaveB, q2] at z; exact z.elim
            | exc x a b =>
              simp only [leaveB, q2] at z
              intro r' H' s' cls dd x1 E1 n1 rx
              split at z
              · rename_i ht
                obtain ⟨t, rfl⟩ := x1.pre
                have E2 := Emb.cut E1 Em ht
                have x2 : Ext r H r H' := ⟨⟨[], by simp⟩, fun a o e n => ⟨(x1.keep a o e n).1, n⟩⟩
                exact z r H' cls dd x2 E2 rx
              · exact z.elim
        · exact z.elim
    exact ⟨fd, F, main false f fun vs h => run_at hfs vs h, fun h0 => main true (f + big) fun vs h => run_atC hfs (by unfold PD.fs; rw [List.getElem?_map, h0]; rfl) vs h⟩
end
end Rm

/-! Rm, part J: the end of a law's row. -/
namespace Rm
open PySem L2 PySem.Spec PyProof.Rows
theorem law_callF {P : Program} {w : World} {K : PySem.W.Frag} {mg mb : Str → Option Value} {CX : CXT} {k : Nat} {fa a : Addr} {fd : FuncData} {x : Str} {sp : Sp} {s₁ : Shared} {vs : List Value} {ns : List Int}
    (KX : K.In s₁.heap) (hns : s₁.heap.Ns mainGlobals mg) (hb : s₁.heap.Ns builtinsNs mb) (hbb : ∀ x : Str, x ≠ "__name__" → mb x = bootBuiltins x) (hlim : s₁.heap.NoLimit) (hseer : s₁.heap.NoSeer) (hg : s₁.gens = #[])
    (ha : s₁.heap.get? a = some { cls := .type "list", data := .seq vs.toArray }) (hi : IntsAre vs ns) (hl : ns.length ≤ sizeLine) (hr : Room k callerA)
    (F : ∀ base : Heap, K.In base → base.Ns mainGlobals mg → base.NoSeer → FnOk P w K mg base CX k fa fd [x] sp) (hbind : ∀ (s : Shared) (u : Value), BindsTo s fd ⟨[u], []⟩ [(x, u)])
    (hsp : ∀ H : Hp, FzL K H [] a (ns.map V.int) → sp [.ref a] H (fun v _ => v = .bl true) fun _ _ _ => False)
    (hCX : ∀ H e s', CX [] H s₁ (fun _ _ _ => False) e s' → False) :
    codeAny (model P w) callerA (.call (.ref fa) ⟨[.ref a], []⟩) (fun r s' => r = .ok (.ret (.bool true)) ∧ OldK s₁.heap s'.heap ∧ s'.os = s₁.os ∧ AllBare s'.gens) s₁ := by
  have rv := vals_ints hi
  have lenV := hi.length
  have core : ∀ H : Hp, Only H → FzL K H [] a (ns.map V.int) → HOk P w H s₁.heap → (∀ b, H b ≠ none → b = a) → (H a ≠ none → K.lookup a = none) →
      codeAny (model P w) callerA (.call (.ref fa) ⟨[.ref a], []⟩) (fun r s' => r = .ok (.ret (.bool true)) ∧ OldK s₁.heap s'.heap ∧ s'.os = s₁.os ∧ AllBare s'.gens) s₁ := by
    intro H hO hS hok hA hK
    have base_of : ∀ {b : Addr} {o : Obj}, s₁.heap.get? b = some o → H b = none → (hidT s₁.heap H).get? b = some o := fun e n => hidT_get e n
    have noA : ∀ {b : Addr} {o : Obj} {es : Array DictEntry} {ep : Nat}, s₁.heap.get? b = some o → o.data = .dict es ep → H b = none := fun {b o es ep} e d => by
      cases q : H b with
      | none => rfl
      | some u =>
        have e' : b = a := hA b (by rw [q]; simp)
        subst e'
        rw [ha] at e; cases e
        have d' : Data.seq vs.toArray _ = Data.dict es ep := d
        cases d'
    have nsK : ∀ {b : Addr} {m : Str → Option Value}, s₁.heap.Ns b m → (hidT s₁.heap H).Ns b m := fun {b m} ⟨o, es, ep, e, d, r⟩ => ⟨o, es, ep, base_of e (noA e d), d, r⟩
    have hKb : K.In (hidT s₁.heap H) := fun b o e => base_of (KX b o e) (by
      cases q : H b with
      | none => rfl
      | some u =>
        have e' : b = a := hA b (by rw [q]; simp)
        subst e'
        rw [hK (by rw [q]; simp)] at e; cases e)
    have hM : Mod K mg (hidT s₁.heap H) := ⟨hKb, nsK hns, ⟨mb, nsK hb, hbb⟩, let ⟨mc, h1, h2⟩ := hlim; ⟨mc, nsK h1, h2⟩⟩
    have hSe : (hidT s₁.heap H).NoSeer := {
      statics := let ⟨mc, x, y⟩ := hseer.statics; ⟨mc, nsK x, y⟩
      mods := let ⟨mc, x, y⟩ := hseer.mods; ⟨mc, nsK x, y⟩
      imp := let ⟨mc, x, y⟩ := hseer.imp; ⟨mc, nsK x, y⟩
      main := let ⟨mg', bm, ob, x, y, z, u, v⟩ := hseer.main; ⟨mg', bm, ob, nsK x, y, base_of z (by
        cases q : H bm with
        | none => rfl
        | some _ =>
          have e' : bm = a := hA bm (by rw [q]; simp)
          subst e'
          rw [ha] at z
          cases z
          have u' : Value.type "list" = Value.type "module" := u
          exact absurd u' (by decide)), u, v⟩ }
    have e0 : Env0 P w K mg (hidT s₁.heap H) callerA [] s₁ H := ⟨rfl, hM, fun b o e => of_hidT e, Nat.le_of_eq (hidT_size _ _), trivial, fun b hb => absurd (show b ∈ ([] : List Addr) from hb) (by simp), hok, .of_eq hg⟩
    refine codeAny_mono ((F _ hKb (nsK hns) hSe).run callerA [] s₁ H ⟨[.ref a], []⟩ [.ref a] [.ref a] _ _ hr e0 (hbind s₁ (.ref a)) (.cons rfl .nil) (hsp H hS)) fun r s' h => ?_
    cases r with
    | error e => exact (hCX H e s' h).elim
    | ok fl =>
      cases fl with
      | next => exact False.elim h
      | brk => exact False.elim h
      | cont => exact False.elim h
      | ret u =>
        obtain ⟨v, H', os, bare, un, hok', r', q⟩ := h
        have q' : v = .bl true := q
        subst q'
        obtain rfl : u = Value.bool true := r'
        refine ⟨rfl, OldK.of_keep fun b o e => ?_, os, bare⟩
        cases q : H b with
        | none => exact un.keep b o e q (by intro z; exact absurd (show b ∈ ([] : List Addr) from z) (by simp)) (by simp)
        | some u =>
          rcases hO b with z | ⟨ob, xs, z⟩
          · rw [q] at z; cases z
          · have z2 := un.frzs b ob _ z
            obtain ⟨e1, _⟩ := hok b _ z
            obtain ⟨e2, _⟩ := hok' b _ z2
            rw [e] at e1; cases e1
            exact e2
  cases hk : K.lookup a with
  | some o =>
    have e := KX a o hk
    rw [ha] at e
    cases e
    refine core (fun _ => none) (fun _ => .inl rfl) (.inr ⟨vs.toArray, _, hk, by rw [List.size_toArray, lenV]; exact hl, by simpa using rv⟩) (fun b u z => by have z' : (none : Option HO) = some u := z; cases z') (fun b z => absurd rfl z) fun z => absurd rfl z
  | none =>
    refine core (fun b => if b = a then some (.frz { cls := .type "list", data := .seq vs.toArray } (.lst (ns.map V.int))) else none) (fun b => ?_) (.inl ⟨by simp, .inr ⟨{ cls := .type "list", data := .seq vs.toArray }, if_pos rfl⟩⟩) (fun b u z => ?_) (fun b z => ?_) fun _ => hk
    · by_cases hb : b = a
      · exact .inr ⟨_, _, if_pos hb⟩
      · exact .inl (if_neg hb)
    · by_cases hb : b = a
      · have z' := (if_pos hb).symm.trans z
        cases z'
        subst hb
        exact ⟨ha, by rw [List.length_map]; exact hl, vs, _, rv, ha⟩
      · have z' := (if_neg hb).symm.trans z
        cases z'
    · by_cases hb : b = a
      · exact hb
      · exact absurd (if_neg hb) z
theorem reps_intsJ {K : PySem.W.Frag} {cA : Nat → Addr} {cF : Nat → List Str} {H : Hp} {r : List Addr} : ∀ ns : List Int, Reps K cA cF H r (ns.map .int) (ns.map V.int)
  | [] => by simp [Reps]
  | n :: ns => by simp only [List.map_cons, Reps]; exact ⟨_, _, rfl, rep_int, reps_intsJ ns⟩
theorem law_walk {l : PySem.W.OpenLaw} {n k : Nat} {q : Program} {loose : List Str} {XP : (Str → Option Value) → Heap → Prop} {d : DefRec} {p : PD} {m f : Nat} {D : FD} {x : Str}
    (hn : l.most = some n) (hn2 : n ≤ sizeLine) (hdf : d.params.defaults = []) (hr : Room (34 + 2 * k) callerA) (hin0 : importsNone q = true) (htr : l.prog.given.tree = none)
    (tb : p.tabs) (hok : p.fds.all (fun d => d.ok p) = true) (hin : p.inCls) (hf : p.fds[f]? = some D) (hat : D.at_ = (d.name, none)) (hps : D.ps = [x])
    (hrun : ∀ ns : List Int, ns.length ≤ n → (∀ z ∈ ns, Builtin.Int.intBits z ≤ 1048576) → run p.T p.fs k f [.lst (ns.map .int)] [] = .ok (.bl true) []) :
    PySem.W.WalkO q loose XP (p.hook m).says l.row.toRowW d [] (fun f vs => PySem.call f vs) := by
  refine Att.attach_callB hn hdf fun w s₀ s₁ mg mb fa o pm cd doc a vs ns G Y ho hd hcd hmg hobj hints hlen hbits hg => ?_
  obtain ⟨K, KX, c⟩ := Y
  have hga := He.glo_ok KX G.T.g (says_fact (PD.says_ok c).2 (f := .glo d.name) (by
    unfold PD.fa
    refine List.mem_append_right _ (List.mem_filterMap.mpr ⟨D, List.mem_of_getElem? hf, ?_⟩)
    rw [hat]))
  rw [hmg] at hga
  have hfa : fa = He.ga K d.name := by cases hga; rfl
  obtain ⟨fd, F, _⟩ := run_ok (P := l.prog) (w := w) (base := s₁.heap) hok hin tb c KX G.T.g (G.T.seer hin0) htr 0 f D hf
  have hd : D.ok p = true := List.all_eq_true.mp hok D (List.mem_of_getElem? hf)
  obtain ⟨S, h2, _, _, h5, _⟩ := FD.scope hd
  obtain ⟨oc, od, dV, kV, doc', pm', an, cdv, ct, osl, rfl, lk, hcd', hdv, hkv⟩ := F.ex
  rcases hdv with ⟨_, rfl⟩ | ⟨z, _⟩
  · refine law_callF KX G.T.g G.T.b G.T.builtins G.T.nolimit (G.T.seer hin0) hg hobj hints (Nat.le_trans hlen hn2) hr (k := 34 + 2 * k) (x := x) (fd := PySem.W.fnOf D.name D.qual (defArgs D.st) (defBody D.st) (defScope D.st) .none kV doc' pm' an cdv ct) (CX := L2.CX l.prog w) (sp := spR K (p.cA K) p.T.fld (run p.T p.fs k) f) (fun base KB GB hbs => ?_) (fun s u => ?_) (fun H hS => ?_) (fun H e s' z => ?_)
    · obtain ⟨fd', F', O, _⟩ := run_ok (P := l.prog) (w := w) (base := base) hok hin tb c KX G.T.g hbs htr k f D hf
      have e1 : fd' = PySem.W.fnOf D.name D.qual (defArgs D.st) (defBody D.st) (defScope D.st) .none kV doc' pm' an cdv ct := by
        obtain ⟨oc2, od2, dV2, kV2, doc2, pm2, an2, cdv2, ct2, osl2, e, lk2, _⟩ := F'.ex
        rw [lk] at lk2
        injection lk2 with z
        injection z with z1 z2 z3 z4
        injection z3 with z5
        exact z5.symm
      rw [hps, e1] at O
      rw [hfa]
      rw [hat] at O
      exact O
    · have b := bind_plainA (n := D.name) (q := D.qual) (b := defBody D.st) (sc := defScope D.st) (kV := kV) (doc := doc') (pm := pm') (cdv := cdv) (ct := ct) (an := an) h5 (S.nd.sublist (List.take_sublist _ _)) [u] (by rw [hps]; rfl)
      rw [hps] at b
      exact .of_eq b
    · refine ⟨[], [.lst (ns.map .int)], [], ⟨rfl, List.nodup_nil, fun i o a e => by simp at e⟩, ?_, ?_⟩
      · simp only [Reps, Rep]
        exact ⟨_, _, rfl, ⟨a, _, rfl, hS, reps_intsJ ns⟩, rfl⟩
      · rw [hrun ns hlen hbits]
        intro r' H' V _ _ p1
        simp only [Rep] at p1
        exact p1
    · obtain ⟨_, _, _, _, _, _, _, _, _, _, _, _, z⟩ := z
      exact z
  · exact absurd rfl z
end Rm

namespace Rm
open PySem L2
def mkT (exl rzl : List Bool) (subL : List (List Bool)) (obl n0l : List Bool) (flds : List (List Str)) (mts : List (Nat × Str × Nat)) (inis : List (Nat × Nat)) : Tab := {
  obj := fun c => obl.getD c false
  n0 := fun c => n0l.getD c false
  fld := fun c => flds.getD c []
  mth := fun c m => (mts.find? fun q => decide (q.1 = c) && decide (q.2.1 = m)).map (·.2.2)
  ini := fun c => (inis.find? fun q => decide (q.1 = c)).map (·.2)
  sub := fun c d => (subL.getD c []).getD d false, ve := fun c => exl.getD c false, exc := fun c => exl.getD c false, rz := fun c => rzl.getD c false }
theorem getD_lt {l : List Bool} {c : Nat} (h : l.getD c false = true) : c < l.length := by
  rcases Nat.lt_or_ge c l.length with z | z
  · exact z
  · rw [List.getD_eq_getElem?_getD, List.getElem?_eq_none z] at h; cases h
theorem mkT_tabs {p : PD} {a b : List Bool} {s : List (List Bool)} {ol nl : List Bool} {fl : List (List Str)} (hT : p.T = mkT a b s ol nl fl p.mts p.inis) (h : (decide (ol.length ≤ p.cls.length) && decide (nl.length ≤ p.cls.length)) = true) : p.tabs := by
  rw [Bool.and_eq_true, decide_eq_true_eq, decide_eq_true_eq] at h
  refine ⟨fun c z => ?_, fun c m g e => ?_, fun c g e => ?_⟩
  · rw [hT] at z
    rcases z with z | z
    · exact Nat.lt_of_lt_of_le (getD_lt z) h.1
    · exact Nat.lt_of_lt_of_le (getD_lt z) h.2
  · rw [hT] at e
    obtain ⟨q, e1, e2⟩ := Option.map_eq_some_iff.mp e
    have m1 := List.mem_of_find?_eq_some e1
    have m2 := List.find?_some e1
    simp only [Bool.and_eq_true, decide_eq_true_eq] at m2
    obtain ⟨q1, q2, q3⟩ := q
    obtain ⟨rfl, rfl⟩ := m2
    cases e2
    exact m1
  · rw [hT] at e
    obtain ⟨q, e1, e2⟩ := Option.map_eq_some_iff.mp e
    have m1 := List.mem_of_find?_eq_some e1
    have m2 := List.find?_some e1
    simp only [decide_eq_true_eq] at m2
    obtain ⟨q1, q2⟩ := q
    subst m2
    cases e2
    exact m1
theorem mkT_in {p : PD} {a b : List Bool} {s : List (List Bool)} {ol nl : List Bool} {fl : List (List Str)} {ml : List (Nat × Str × Nat)} {il : List (Nat × Nat)} (hT : p.T = mkT a b s ol nl fl ml il) (h : (decide (a.length ≤ p.cls.length) && decide (b.length ≤ p.cls.length)) = true) : p.inCls := by
  intro c z
  rw [hT] at z
  rw [Bool.and_eq_true, decide_eq_true_eq, decide_eq_true_eq] at h
  rcases z with z | z
  · exact Nat.lt_of_lt_of_le (getD_lt z) h.1
  · exact Nat.lt_of_lt_of_le (getD_lt z) h.2
open Classical in
noncomputable def leave (keep : Bool) (h : HP) (o : O) : R MV := match o with
  | .nx _ h' => fin keep h .non h'
  | .ret v h' => fin keep h v h'
  | .exc x _ h' => if h'.take h.length = h then .exc x h else .bad
  | _ => .bad
theorem run_eq {T : Tab} {fs : List FI} {n f : Nat} {vs : List MV} {h : HP} {F : FI} (e : fs[f]? = some F) (l : vs.length = F.np) : run T fs (n + 1) f vs h = leave F.keep h (exSs T (run T fs n) F.body (start F vs) h) := by
  rw [run]; simp only [e, l, if_true]; rfl
theorem leave_exc {h : HP} {x : MX} {e : EN} {keep : Bool} : leave keep h (.exc x e h) = .exc x h := by simp [leave]
theorem leave_ret {h : HP} {v w : MV} (hf : frz h h.length v = some w) : leave false h (.ret v h) = .ok w h := by simp [leave, fin, hf]
theorem leave_nx {h : HP} {e : EN} : leave false h (.nx e h) = .ok .non h := by simp [leave, fin, frz]
end Rm

/-! Rm, part M: the evaluator's rows for simp. -/
namespace Rm
open PySem L2
open PySem.Builtin.Int (intBits)

/-! ### branches -/
def iteM {α : Type} (x : MV) (a b z : α) : α := match x with
  | .bl true => a
  | .bl false => b
  | _ => z
@[simp] theorem iteM_bl {α : Type} (c : Bool) (a b z : α) : iteM (.bl c) a b z = if c = true then a else b := by cases c <;> rfl
theorem R.bind_ite {α β : Type} (c : Prop) [Decidable c] (a b : R α) (f : α → HP → R β) : (if c then a else b).bind f = if c then a.bind f else b.bind f := by split <;> rfl
theorem R.go_ite {α : Type} (c : Prop) [Decidable c] (a b : R α) (e : EN) (f : α → HP → O) : (if c then a else b).go e f = if c then a.go e f else b.go e f := by split <;> rfl
theorem O.then_ite (c : Prop) [Decidable c] (a b : O) (f : EN → HP → O) : (if c then a else b).then f = if c then a.then f else b.then f := by split <;> rfl
theorem leave_ite (c : Prop) [Decidable c] (a b : O) (k : Bool) (h : HP) : leave k h (if c then a else b) = if c then leave k h a else leave k h b := by split <;> rfl
theorem and_ok (p q : Bool) (h : HP) : (if p = true then R.ok (MV.bl q) h else R.ok (MV.bl false) h) = R.ok (MV.bl (p && q)) h := by cases p <;> rfl
theorem or_ok (p q : Bool) (h : HP) : (if p = true then R.ok (MV.bl true) h else R.ok (MV.bl q) h) = R.ok (MV.bl (p || q)) h := by cases p <;> rfl
@[simp] theorem andP (P : Prop) [Decidable P] (q : Bool) (h : HP) : (if P then R.ok (MV.bl q) h else R.ok (MV.bl false) h) = R.ok (MV.bl (decide P && q)) h := by split <;> simp [*]
@[simp] theorem andN (P : Prop) [Decidable P] (q : Bool) (h : HP) : (if P then R.ok (MV.bl false) h else R.ok (MV.bl q) h) = R.ok (MV.bl (!decide P && q)) h := by split <;> simp [*]
@[simp] theorem orN (P : Prop) [Decidable P] (q : Bool) (h : HP) : (if P then R.ok (MV.bl q) h else R.ok (MV.bl true) h) = R.ok (MV.bl (!decide P || q)) h := by split <;> simp [*]
@[simp] theorem orP (P : Prop) [Decidable P] (q : Bool) (h : HP) : (if P then R.ok (MV.bl true) h else R.ok (MV.bl q) h) = R.ok (MV.bl (decide P || q)) h := by split <;> simp [*]

section
variable (T : Tab) (C : Nat → List MV → HP → R MV) (e : EN) (h : HP)
def getV (o : Option (Option MV)) (h : HP) : R MV := match o with
  | some (some v) => .ok v h
  | _ => .bad
@[simp] theorem getV_some (v : MV) : getV (some (some v)) h = .ok v h := id rfl
@[simp] theorem evE_var (i : Nat) : evE T C (.var i) e h = getV e[i]? h := by rw [evE]; rfl
@[simp] theorem evE_cI (i : Int) : evE T C (.cI i) e h = .ok (.int i) h := by rw [evE]
@[simp] theorem evE_cS (i : Str) : evE T C (.cS i) e h = .ok (.str i) h := by rw [evE]
@[simp] theorem evE_cB (i : Bool) : evE T C (.cB i) e h = .ok (.bl i) h := by rw [evE]
@[simp] theorem evE_cN : evE T C .cN e h = .ok .non h := by rw [evE]
@[simp] theorem evE_gI (x : Str) (i : Int) : evE T C (.gI x i) e h = .ok (.int i) h := by rw [evE]
@[simp] theorem evE_gS (x : Str) (i : Str) : evE T C (.gS x i) e h = .ok (.str i) h := by rw [evE]
def negM (x : MV) (h : HP) : R MV := match x with
  | .int i => .ok (.int (-i)) h
  | _ => .bad
@[simp] theorem negM_int (i : Int) : negM (.int i) h = .ok (.int (-i)) h := id rfl
@[simp] theorem evE_neg (a : E) : evE T C (.neg a) e h = (evE T C a e h).bind negM := by rw [evE]; rfl
def notM (x : MV) (h : HP) : R MV := match x with
  | .bl b => .ok (.bl (!b)) h
  | _ => .bad
@[simp] theorem notM_bl (b : Bool) : notM (.bl b) h = .ok (.bl (!b)) h := id rfl
@[simp] theorem evE_not (a : E) : evE T C (.not a) e h = (evE T C a e h).bind notM := by rw [evE]; rfl
@[simp] theorem evE_bin (o : Bop) (a b : E) : evE T C (.bin o a b) e h = (evE T C a e h).bind fun x h => (evE T C b e h).bind fun y h => R.of (binV h o x y) h := by rw [evE]
@[simp] theorem evE_cmp (o : Cop) (a b : E) : evE T C (.cmp o a b) e h = (evE T C a e h).bind fun x h => (evE T C b e h).bind fun y h => R.of ((cmpV h o x y).map .bl) h := by rw [evE]
def chnM (x : Option Bool) (a : R MV) (h : HP) : R MV := match x with
  | some true => a
  | some false => .ok (.bl false) h
  | none => .bad
@[simp] theorem chnM_some (b : Bool) (a : R MV) : chnM (some b) a h = if b = true then a else .ok (.bl false) h := by cases b <;> rfl
@[simp] theorem evE_chn (o p : Cop) (a b c : E) : evE T C (.chn o p a b c) e h = (evE T C a e h).bind fun x h => (evE T C b e h).bind fun y h => chnM (cmpV h o x y) ((evE T C c e h).bind fun z h => R.of ((cmpV h p y z).map .bl) h) h := by
  rw [evE]
  congr 1
def blM (x : MV) (h : HP) : R MV := match x with
  | .bl c => .ok (.bl c) h
  | _ => .bad
@[simp] theorem blM_bl (b : Bool) : blM (.bl b) h = .ok (.bl b) h := id rfl
@[simp] theorem evE_and (a b : E) : evE T C (.and a b) e h = (evE T C a e h).bind fun x h => iteM x ((evE T C b e h).bind blM) (.ok (.bl false) h) .bad := by
  rw [evE]; congr 1
@[simp] theorem evE_or (a b : E) : evE T C (.or a b) e h = (evE T C a e h).bind fun x h => iteM x (.ok (.bl true) h) ((evE T C b e h).bind blM) .bad := by
  rw [evE]; congr 1; funext x h
  cases x <;> try rfl
  case bl c => cases c <;> rfl
@[simp] theorem evE_ife (t a b : E) : evE T C (.ife t a b) e h = (evE T C t e h).bind fun x h => iteM x (evE T C a e h) (evE T C b e h) .bad := by
  rw [evE]; congr 1
@[simp] theorem evE_tup (es : Es) : evE T C (.tup es) e h = (evEs T C es e h).bind fun xs h => if xs.length ≤ sz then .ok (.tup xs) h else .bad := by rw [evE]
@[simp] theorem evE_lst (es : Es) : evE T C (.lst es) e h = (evEs T C es e h).bind fun xs h => if xs.length ≤ sz then .ok (.lst xs) h else .bad := by rw [evE]
@[simp] theorem evE_cel (es : Es) : evE T C (.cel es) e h = (evEs T C es e h).bind fun xs h => if xs.length ≤ sz then .ok (.ref h.length) (h ++ [.lst xs]) else .bad := by rw [evE]
@[simp] theorem evE_idx (a i : E) : evE T C (.idx a i) e h = (evE T C a e h).bind fun x h => (evE T C i e h).bind fun y h => R.of (idxV h x y) h := by rw [evE]
@[simp] theorem evE_slc (a lo hi : E) : evE T C (.slc a lo hi) e h = (evE T C a e h).bind fun x h => (if isN lo then .ok none h else (evE T C lo e h).bind fun v h => R.of (pI v) h).bind fun l h => (if isN hi then .ok none h else (evE T C hi e h).bind fun v h => R.of (pI v) h).bind fun u h => R.of (slcV h x l u) h := by rw [evE]
@[simp] theorem evE_call (f : Nat) (es : Es) : evE T C (.call f es) e h = (evEs T C es e h).bind fun xs h => C f xs h := by rw [evE]
@[simp] theorem evE_bi (b : Bi) (es : Es) : evE T C (.bi b es) e h = (evEs T C es e h).bind fun xs h => R.of (biV h b xs) h := by rw [evE]
@[simp] theorem meK_bit (x : MV) : meK .bitlen x = true := rfl
@[simp] theorem meK_str (m : Me) (s : Str) : meK m (.str s) = true := by cases m <;> rfl
@[simp] theorem evE_me (m : Me) (o : E) (es : Es) : evE T C (.me m o es) e h = (evE T C o e h).bind fun x h => if meK m x = true then (evEs T C es e h).bind fun xs h => R.of (meV h m x xs) h else .bad := by rw [evE]
@[simp] theorem evE_isT (a : E) (n : String) : evE T C (.isT a n) e h = (evE T C a e h).bind fun x h => R.of ((isTV T h x n).map .bl) h := by rw [evE]
@[simp] theorem evE_isC (a : E) (c : Nat) : evE T C (.isC a c) e h = (evE T C a e h).bind fun x h => R.of ((isCV T x c).map .bl) h := by rw [evE]
@[simp] theorem evE_isCs (a : E) (cs : List Nat) : evE T C (.isCs a cs) e h = (evE T C a e h).bind fun x h => R.of ((isCsV T x cs).map .bl) h := by rw [evE]
@[simp] theorem evE_atr (o : E) (f : Str) : evE T C (.atr o f) e h = (evE T C o e h).bind fun x h => R.of (atrV T h x f) h := by rw [evE]
@[simp] theorem evE_mcl (o : E) (m : Str) (es : Es) : evE T C (.mcl o m es) e h = (evE T C o e h).bind fun x h => (R.of (mthV T h x m) h).bind fun f h => (evEs T C es e h).bind fun xs h => C f (x :: xs) h := by rw [evE]
def newM (T : Tab) (C : Nat → List MV → HP → R MV) (c : Nat) (es : Es) (a : R (List MV)) (o : Option Nat) (h : HP) : R MV := match o with
  | none => if (nilE es && (T.n0 c && T.obj c)) = true then .ok (.obj c []) h else .bad
  | some f => if T.obj c = true then a.bind fun xs h => (C f (.ref h.length :: xs) (h ++ [.ins c []])).bind fun v h' => if isNon v = true then .ok (.ref h.length) h' else .bad else .bad
@[simp] theorem newM_none (c : Nat) (es : Es) (a : R (List MV)) : newM T C c es a none h = if (nilE es && (T.n0 c && T.obj c)) = true then .ok (.obj c []) h else .bad := id rfl
@[simp] theorem newM_some (c : Nat) (es : Es) (a : R (List MV)) (f : Nat) : newM T C c es a (some f) h = if T.obj c = true then a.bind fun xs h => (C f (.ref h.length :: xs) (h ++ [.ins c []])).bind fun v h' => if isNon v = true then .ok (.ref h.length) h' else .bad else .bad := id rfl
@[simp] theorem nilE_nil : nilE .nil = true := id rfl
@[simp] theorem evE_new (c : Nat) (es : Es) : evE T C (.new c es) e h = newM T C c es (evEs T C es e h) (T.ini c) h := by
  rw [evE]
  cases T.ini c <;> rfl
def cllM (o : Option (List MV)) (h : HP) : R MV := match o with
  | some xs => .ok (.ref h.length) (h ++ [.lst xs])
  | none => .bad
@[simp] theorem cllM_some (xs : List MV) : cllM (some xs) h = .ok (.ref h.length) (h ++ [.lst xs]) := id rfl
@[simp] theorem evE_cll (a : E) : evE T C (.cll a) e h = (evE T C a e h).bind fun x h => cllM (seqOf h x) h := by
  rw [evE]; congr 1
@[simp] theorem evE_lcg (tg : Tg) (vs : List Nat) (it : I) (a : E) : evE T C (.lcg tg vs it a) e h = (itE T C it e h).bind fun p h => lcG tg p.2 p.1 (evE T C a) (wipE e vs) h.length (h ++ [.lst []]) p.1 [] := by rw [evE]
@[simp] theorem evE_lcm (cl : Bool) (tg : Tg) (vs : List Nat) (it : I) (a : E) : evE T C (.lcm cl tg vs it a) e h = (itE T C it e h).bind fun p h => lcL cl tg p.2 p.1 (evE T C a) (wipE e vs) h p.1 [] := by rw [evE]
@[simp] theorem evE_lcf (tg : Tg) (vs : List Nat) (it : I) (t a : E) : evE T C (.lcf tg vs it t a) e h = (itE T C it e h).bind fun p h => lcF tg p.2 p.1 (evE T C t) (evE T C a) (wipE e vs) h p.1 [] := by rw [evE]
@[simp] theorem evE_mnd (a d : E) : evE T C (.mnd a d) e h = (evE T C a e h).bind fun x h => (evE T C d e h).bind fun y h => R.of (mndV h x y) h := by rw [evE]
@[simp] theorem evE_dnw : evE T C .dnw e h = .ok (.ref h.length) (h ++ [.dic []]) := by rw [evE]
@[simp] theorem evE_dgt (d k : E) : evE T C (.dgt d k) e h = (evE T C d e h).bind fun x h => (evE T C k e h).bind fun y h => R.of (dgtV h x y) h := by rw [evE]
@[simp] theorem evE_din (ng : Bool) (k d : E) : evE T C (.din ng k d) e h = (evE T C k e h).bind fun y h => (evE T C d e h).bind fun x h => R.of (dinV h ng y x) h := by rw [evE]
def dksM (cl : Bool) (o : Option (List MV)) (h : HP) : R MV := match o with
  | some xs => if cl then .ok (.ref h.length) (h ++ [.lst xs]) else .ok (.lst xs) h
  | none => .bad
@[simp] theorem dksM_some (cl : Bool) (xs : List MV) : dksM cl (some xs) h = if cl = true then .ok (.ref h.length) (h ++ [.lst xs]) else .ok (.lst xs) h := id rfl
@[simp] theorem evE_dks (cl : Bool) (d : E) : evE T C (.dks cl d) e h = (evE T C d e h).bind fun x h => dksM cl (dksV h x) h := by
  rw [evE]; congr 1
@[simp] theorem evE_scl (a lo hi : E) : evE T C (.scl a lo hi) e h = (evE T C a e h).bind fun x h => (if isN lo then .ok none h else (evE T C lo e h).bind fun v h => R.of (pI v) h).bind fun l h => (if isN hi then .ok none h else (evE T C hi e h).bind fun v h => R.of (pI v) h).bind fun u h => cllM ((getL h x).map fun xs => cutM xs l u) h := by
  rw [evE]; congr 1
@[simp] theorem evE_lrv (cl : Bool) (a : E) : evE T C (.lrv cl a) e h = (evE T C a e h).bind fun x h => dksM cl ((getL h x).map List.reverse) h := by
  rw [evE]; congr 1
@[simp] theorem evE_dln (d : E) : evE T C (.dln d) e h = (evE T C d e h).bind fun x h => R.of (dlnV h x) h := by rw [evE]
@[simp] theorem evE_dit (d : E) : evE T C (.dit d) e h = (evE T C d e h).bind fun x h => R.of (ditV h x) h := by rw [evE]
@[simp] theorem evE_mclc (o : E) (m : Str) (es : Es) : evE T C (.mclc o m es) e h = (evE T C o e h).bind fun x h => (R.of (mthV T h x m) h).bind fun f h => (evEs T C es e h).bind fun xs h => C (f + 100000) (x :: xs) h := by rw [evE]
def lixM (o : Option (List MV)) (r : R MV) : R MV := match o with
  | some _ => r
  | none => .bad
@[simp] theorem lixM_some (xs : List MV) (r : R MV) : lixM (some xs) r = r := id rfl
@[simp] theorem evE_lix (o y : E) : evE T C (.lix o y) e h = (evE T C o e h).bind fun x h => lixM (getL h x) ((evE T C y e h).bind fun y h => R.of (lixV h x y) h) := by
  rw [evE]; congr 1
@[simp] theorem isStr_str (s : Str) : isStr (.str s) = true := id rfl
@[simp] theorem evE_spc (o y : E) : evE T C (.spc o y) e h = (evE T C o e h).bind fun x h => if isStr x = true then (evE T C y e h).bind fun y h => cllM (spcV x y) h else .bad := by
  rw [evE]; rfl
@[simp] theorem evE_sxi (o y : E) : evE T C (.sxi o y) e h = (evE T C o e h).bind fun x h => if isStr x = true then (evE T C y e h).bind fun y h => R.of (sxiV x y) h else .bad := by rw [evE]
@[simp] theorem evEs_nil : evEs T C .nil e h = .ok [] h := by rw [evEs]
@[simp] theorem evEs_cons (a : E) (es : Es) : evEs T C (.cons a es) e h = (evE T C a e h).bind fun x h => (evEs T C es e h).bind fun xs h => .ok (x :: xs) h := by rw [evEs]
def sgM (o : Option EN) (h : HP) : O := match o with
  | some e => .nx e h
  | none => .bad
@[simp] theorem sgM_some : sgM (some e) h = .nx e h := id rfl
@[simp] theorem exS_asg (t : Tg) (a : E) : exS T C (.asg t a) e h = (evE T C a e h).go e fun v h => sgM (setG t v e) h := by
  rw [exS]; congr 1
def agM (o : Option MV) (i : Nat) (e : EN) (h : HP) : O := match o with
  | some z => .nx (e.set i (some z)) h
  | none => .bad
@[simp] theorem agM_some (z : MV) (i : Nat) : agM (some z) i e h = .nx (e.set i (some z)) h := id rfl
def auM (x : Option (Option MV)) (f : MV → O) : O := match x with
  | some (some x) => f x
  | _ => .bad
@[simp] theorem auM_some (x : MV) (f : MV → O) : auM (some (some x)) f = f x := id rfl
@[simp] theorem exS_aug (i : Nat) (o : Bop) (a : E) : exS T C (.aug i o a) e h = auM e[i]? fun x => (evE T C a e h).go e fun y h => agM (augV o x y) i e h := by
  rw [exS]
  rcases e[i]? with _ | _ | x
  · rfl
  · rfl
  · show (evE T C a e h).go e _ = (evE T C a e h).go e _
    congr 1
@[simp] theorem exS_exp (a : E) : exS T C (.exp a) e h = (evE T C a e h).go e fun _ h => .nx e h := by rw [exS]
def hpM (o : Option HP) (e : EN) : O := match o with
  | some h => .nx e h
  | none => .bad
@[simp] theorem hpM_some : hpM (some h) e = .nx e h := id rfl
@[simp] theorem exS_app (o a : E) : exS T C (.app o a) e h = (evE T C o e h).go e fun x h => if isCell h x = true then (evE T C a e h).go e fun v h => hpM (appV h x v) e else .bad := by
  rw [exS]; congr 1
@[simp] theorem exS_rvs (o : E) : exS T C (.rvs o) e h = (evE T C o e h).go e fun x h => hpM (rvsV h x) e := by
  rw [exS]; rfl
@[simp] theorem exS_ins (o i a : E) : exS T C (.ins o i a) e h = (evE T C o e h).go e fun x h => if isCell h x = true then (evE T C i e h).go e fun n h => (evE T C a e h).go e fun v h => hpM (insV h x n v) e else .bad := by
  rw [exS]; rfl
@[simp] theorem exS_sto (o i a : E) : exS T C (.sto o i a) e h = (evE T C a e h).go e fun v h => (evE T C o e h).go e fun x h => (evE T C i e h).go e fun n h => hpM (stoV h x n v) e := by
  rw [exS]; congr 1
@[simp] theorem exS_sta (o : E) (f : Str) (a : E) : exS T C (.sta o f a) e h = (evE T C a e h).go e fun v h => (evE T C o e h).go e fun x h => hpM (staV T h x f v) e := by
  rw [exS]; congr 1
@[simp] theorem exS_iff (t : E) (a b : Ss) : exS T C (.iff t a b) e h = (evE T C t e h).go e fun x h => iteM x (exSs T C a e h) (exSs T C b e h) .bad := by
  rw [exS]; congr 1
@[simp] theorem exS_whl (t : E) (b : Ss) : exS T C (.whl t b) e h = whlL (evE T C t) (exSs T C b) fuel e h := by rw [exS]
@[simp] theorem exS_fr (tg : Tg) (it : I) (b : Ss) : exS T C (.fr tg it b) e h = (itE T C it e h).go e fun p h => forL tg p.2 p.1 (exSs T C b) p.1 e h := by rw [exS]
@[simp] theorem exS_ret (a : E) : exS T C (.ret a) e h = (evE T C a e h).go e fun v h => .ret v h := by rw [exS]
@[simp] theorem exS_retN : exS T C .retN e h = .ret .non h := by rw [exS]
@[simp] theorem exS_rais (c : Nat) : exS T C (.rais c) e h = if T.rz c = true then .exc (c, []) e h else .bad := by rw [exS]
@[simp] theorem exS_dpt (o i a : E) : exS T C (.dpt o i a) e h = (evE T C a e h).go e fun v h => (evE T C o e h).go e fun x h => (evE T C i e h).go e fun n h => hpM (dptV h x n v) e := by
  rw [exS]; congr 1
@[simp] theorem exS_clr (o : E) : exS T C (.clr o) e h = (evE T C o e h).go e fun x h => hpM (clrV h x) e := by
  rw [exS]; rfl
def trxM (o : O) : O := match o with
  | .exc _ _ _ => .bad
  | o => o
@[simp] theorem trxM_nx : trxM (.nx e h) = .nx e h := id rfl
@[simp] theorem trxM_ret (v : MV) : trxM (.ret v h) = .ret v h := id rfl
@[simp] theorem exS_trx (b : Ss) : exS T C (.trx b) e h = trxM (exSs T C b e h) := by
  rw [exS]; rfl
@[simp] theorem exS_pas : exS T C .pas e h = .nx e h := by rw [exS]
@[simp] theorem exS_cont : exS T C .cont e h = .ct e h := by rw [exS]
def triM (T : Tab) (c i y : Nat) (o : O) : O := match o with
  | .exc (d, []) e h => if T.exc d && T.exc c then (if T.sub d c then .nx (((e.set i (some (.exc d []))).set y (some (.exc d []))).set i none) h else .exc (d, []) e h) else .bad
  | .exc _ _ _ => .bad
  | o => o
@[simp] theorem triM_nx (c i y : Nat) : triM T c i y (.nx e h) = .nx e h := id rfl
@[simp] theorem triM_ret (c i y : Nat) (v : MV) : triM T c i y (.ret v h) = .ret v h := id rfl
@[simp] theorem triM_exc (c i y d : Nat) : triM T c i y (.exc (d, []) e h) = if (T.exc d && T.exc c) = true then (if T.sub d c = true then .nx (((e.set i (some (.exc d []))).set y (some (.exc d []))).set i none) h else .exc (d, []) e h) else .bad := id rfl
theorem triM_ite (c i y : Nat) (q : Prop) [Decidable q] (a b : O) : triM T c i y (if q then a else b) = if q then triM T c i y a else triM T c i y b := by split <;> rfl
@[simp] theorem exS_tri (b : Ss) (c i y : Nat) : exS T C (.tri b c i y) e h = triM T c i y (exSs T C b e h) := by
  rw [exS]
  rfl
@[simp] theorem exSs_nil : exSs T C .nil e h = .nx e h := by rw [exSs]
@[simp] theorem exSs_cons (s : S) (ss : Ss) : exSs T C (.cons s ss) e h = (exS T C s e h).then fun e h => exSs T C ss e h := by rw [exSs]
def seM (o : Option (List MV)) (f : HP → Option (List MV)) (h : HP) : R (List MV × (HP → Option (List MV))) := match o with
  | some xs => .ok (xs, f) h
  | none => .bad
@[simp] theorem seM_some (xs : List MV) (f : HP → Option (List MV)) : seM (some xs) f h = .ok (xs, f) h := id rfl
def seX (x : MV) (o : Option (List MV)) (f : HP → Option (List MV)) (h : HP) : R (List MV × (HP → Option (List MV))) := match o with
  | some xs => .ok (xs, f) h
  | none => match x with
    | .str z => .ok (signs z, fun _ => some (signs z)) h
    | _ => .bad
@[simp] theorem seX_some (x : MV) (xs : List MV) (f : HP → Option (List MV)) : seX x (some xs) f h = .ok (xs, f) h := id rfl
@[simp] theorem seX_sign (z : Str) (f : HP → Option (List MV)) : seX (.str z) none f h = .ok (signs z, fun _ => some (signs z)) h := id rfl
@[simp] theorem itE_seq (a : E) : itE T C (.seq a) e h = (evE T C a e h).bind fun x h => seX x (seqOf h x) (fun h => seqOf h x) h := by
  unfold itE; congr 1
end
section
variable (T : Tab) (C : Nat → List MV → HP → R MV) (e : EN) (h : HP)
def rng1M (x : MV) (h : HP) : R (List MV × (HP → Option (List MV))) := match x with
  | .int j => if -(2 ^ 62) ≤ j ∧ j < 2 ^ 62 then .ok ((List.range j.toNat).map fun (i : Nat) => .int (0 + (i : Int)), fun _ => some ((List.range j.toNat).map fun (i : Nat) => .int (0 + (i : Int)))) h else .bad
  | _ => .bad
def rng2M (x y : MV) (h : HP) : R (List MV × (HP → Option (List MV))) := match x, y with
  | .int i, .int j => if (-(2 ^ 62) ≤ i ∧ i < 2 ^ 62) ∧ -(2 ^ 62) ≤ j ∧ j < 2 ^ 62 then .ok ((List.range (j - i).toNat).map fun (k : Nat) => .int (i + (k : Int)), fun _ => some ((List.range (j - i).toNat).map fun (k : Nat) => .int (i + (k : Int)))) h else .bad
  | _, _ => .bad
def rng3M (x y z : MV) (h : HP) : R IR := match x, y, z with
  | .int i, .int j, .int k => if rg3B i j k then .ok (rg3 i j k, fun _ => some (rg3 i j k)) h else .bad
  | _, _, _ => .bad
@[simp] theorem rng3M_int (i j k : Int) : rng3M (.int i) (.int j) (.int k) h = if rg3B i j k = true then .ok (rg3 i j k, fun _ => some (rg3 i j k)) h else .bad := id rfl
@[simp] theorem itE_rng3 (a b c : E) : itE T C (.rng3 a b c) e h = (evE T C a e h).bind fun x h => (evE T C b e h).bind fun y h => (evE T C c e h).bind fun z h => rng3M x y z h := by rw [itE]; rfl
@[simp] theorem itE_zip (a b : E) : itE T C (.zip a b) e h = (evE T C a e h).bind fun x h => (evE T C b e h).bind fun y h => seM (zipS x y h) (zipS x y) h := by rw [itE]; rfl
@[simp] theorem itE_enm (a : E) : itE T C (.enm a) e h = (evE T C a e h).bind fun x h => seM (enmS x h) (enmS x) h := by rw [itE]; rfl
@[simp] theorem itE_rng1 (a : E) : itE T C (.rng1 a) e h = (evE T C a e h).bind rng1M := by unfold itE; congr 1
@[simp] theorem itE_rng2 (a b : E) : itE T C (.rng2 a b) e h = (evE T C a e h).bind fun x h => (evE T C b e h).bind fun y h => rng2M x y h := by unfold itE; congr 1
theorem rng1M_ok {j : Int} (h0 : 0 ≤ j) (h1 : j < 1000000) (h : HP) : rng1M (.int j) h = .ok ((List.range j.toNat).map fun (i : Nat) => .int (0 + (i : Int)), fun _ => some ((List.range j.toNat).map fun (i : Nat) => .int (0 + (i : Int)))) h := if_pos ⟨by omega, by omega⟩
theorem rng2M_ok {i j : Int} (h0 : 0 ≤ i) (h1 : i < 1000000) (h2 : 0 ≤ j) (h3 : j < 1000000) (h : HP) : rng2M (.int i) (.int j) h = .ok ((List.range (j - i).toNat).map fun (k : Nat) => .int (i + (k : Int)), fun _ => some ((List.range (j - i).toNat).map fun (k : Nat) => .int (i + (k : Int)))) h := if_pos ⟨⟨by omega, by omega⟩, by omega, by omega⟩
end
/-! ### single rows -/
@[simp] theorem setG_one (i : Nat) (v : MV) (e : EN) : setG (.one i) v e = some (e.set i (some v)) := id rfl
@[simp] theorem setG_tup (is : List Nat) (vs : List MV) (e : EN) : setG (.tup is) (.tup vs) e = setT is vs e := id rfl
@[simp] theorem setG_lst (is : List Nat) (vs : List MV) (e : EN) : setG (.tup is) (.lst vs) e = setT is vs e := id rfl
@[simp] theorem setT_nil (e : EN) : setT [] [] e = some e := id rfl
@[simp] theorem setT_cons (i : Nat) (is : List Nat) (v : MV) (vs : List MV) (e : EN) : setT (i :: is) (v :: vs) e = setT is vs (e.set i (some v)) := id rfl
@[simp] theorem wipE_nil (e : EN) : wipE e [] = e := id rfl
@[simp] theorem wipE_cons (e : EN) (v : Nat) (vs : List Nat) : wipE e (v :: vs) = (wipE e vs).set v none := id rfl
@[simp] theorem getL_lst (h : HP) (xs : List MV) : getL h (.lst xs) = some xs := id rfl
@[simp] theorem zipS_lst (h : HP) (xs ys : List MV) : zipS (.lst xs) (.lst ys) h = some (zipM xs ys) := id rfl
@[simp] theorem enmS_lst (h : HP) (xs : List MV) : enmS (.lst xs) h = some (enmM 0 xs) := id rfl
@[simp] theorem intsOf_map (is : List Int) : intsOf (is.map .int) = some is := by
  induction is with
  | nil => rfl
  | cons i is ih => simp [intsOf, ih]
@[simp] theorem blsOf_map (is : List Bool) : blsOf (is.map .bl) = some is := by
  induction is with
  | nil => rfl
  | cons i is ih => simp [blsOf, ih]
@[simp] theorem mndV_lst (h : HP) (is : List Int) (d : MV) : mndV h (.lst (is.map .int)) d = some (mnV d is) := by
  show (intsOf _).map _ = _
  rw [intsOf_map]; rfl
@[simp] theorem biV_max1 (h : HP) (x : MV) : biV h .max1 [x] = (getL h x).bind fun ys => (intsOf ys).bind mxV := id rfl
@[simp] theorem biV_sum1 (h : HP) (x : MV) : biV h .sum1 [x] = (getL h x).bind fun ys => (intsOf ys).map fun is => .int is.sum := id rfl
@[simp] theorem biV_all1 (h : HP) (x : MV) : biV h .all1 [x] = (getL h x).bind fun ys => (blsOf ys).map fun bs => .bl (bs.all id) := id rfl
@[simp] theorem low_int (b : Nat) (i : Int) : low b (.int i) = true := by simp only [low]
@[simp] theorem low_bl (b : Nat) (i : Bool) : low b (.bl i) = true := by simp only [low]
@[simp] theorem low_str (b : Nat) (i : Str) : low b (.str i) = true := by simp only [low]
@[simp] theorem low_tup (b : Nat) (xs : List MV) : low b (.tup xs) = lows b xs := by simp only [low]
@[simp] theorem low_lst (b : Nat) (xs : List MV) : low b (.lst xs) = lows b xs := by simp only [low]
@[simp] theorem lows_nil (b : Nat) : lows b [] = true := by simp only [lows]
@[simp] theorem lows_cons (b : Nat) (x : MV) (xs : List MV) : lows b (x :: xs) = (low b x && lows b xs) := by simp only [lows]
/-- a comprehension whose element is told for each item -/
theorem lcL_mapC {α : Type} (cl : Bool) (xs : List α) (inj : α → MV) {tg : Tg} {src : HP → Option (List MV)} {f : EN → HP → R MV} {e : EN} {h : HP} (g : α → MV) (hs : ∀ acc, src (h ++ [.lst acc]) = some (xs.map inj)) (hl : xs.length ≤ 16777216)
    (hf : ∀ x ∈ xs, ∃ e', setG tg (inj x) e = some e' ∧ (∀ H, f e' H = .ok (g x) H) ∧ low h.length (g x) = true) : lcL cl tg src (xs.map inj) f e h (xs.map inj) [] = if cl then .ok (.ref h.length) (h ++ [.lst (xs.map g)]) else .ok (.lst (xs.map g)) h := by
  have key : ∀ (ys zs : List α), zs ++ ys = xs → lcL cl tg src (xs.map inj) f e h (ys.map inj) (zs.map g) = if cl then .ok (.ref h.length) (h ++ [.lst (xs.map g)]) else .ok (.lst (xs.map g)) h := by
    intro ys
    induction ys with
    | nil =>
      intro zs hz
      rw [List.append_nil] at hz
      subst hz
      simp only [List.map_nil]
      unfold lcL
      rw [if_pos (hs _)]
    | cons y ys ih =>
      intro zs hz
      obtain ⟨e', h1, h2, h3⟩ := hf y (by rw [← hz]; simp)
      have hlen : zs.length < 16777216 := by
        have : xs.length = zs.length + (ys.length + 1) := by rw [← hz]; simp
        omega
      have ih := ih (zs ++ [y]) (by rw [← hz]; simp)
      simp only [List.map_cons]
      unfold lcL
      rw [if_pos (hs _), h1]
      simp only [h2]
      rw [if_pos ⟨by first | trivial | rfl, h3, by rw [List.length_map]; exact hlen⟩]
      rw [← ih]
      simp
  simpa using key xs [] (by simp)
/-- a comprehension whose element is refused at an item -/
theorem lcL_excC {α : Type} (cl : Bool) (xs ys : List α) (z : α) (zs : List α) (hx : xs = ys ++ z :: zs) (inj : α → MV) {tg : Tg} {src : HP → Option (List MV)} {f : EN → HP → R MV} {e : EN} {h : HP} (g : α → MV) (x : MX) (hs : ∀ acc, src (h ++ [.lst acc]) = some (xs.map inj)) (hl : xs.length ≤ 16777216)
    (hf : ∀ x ∈ ys, ∃ e', setG tg (inj x) e = some e' ∧ (∀ H, f e' H = .ok (g x) H) ∧ low h.length (g x) = true) (hz : ∃ e', setG tg (inj z) e = some e' ∧ ∀ H, f e' H = .exc x H) : lcL cl tg src (xs.map inj) f e h (xs.map inj) [] = .exc x h := by
  obtain ⟨ez, z1, z2⟩ := hz
  have key : ∀ (us vs : List α), vs ++ us = ys → lcL cl tg src (xs.map inj) f e h ((us ++ z :: zs).map inj) (vs.map g) = .exc x h := by
    intro us
    induction us with
    | nil =>
      intro vs hv
      simp only [List.nil_append, List.map_cons]
      unfold lcL
      rw [if_pos (hs _), z1]
      simp only [z2]
      rw [if_pos (by first | trivial | rfl)]
    | cons y us ih =>
      intro vs hv
      obtain ⟨e', h1, h2, h3⟩ := hf y (by rw [← hv]; simp)
      have hlen : vs.length < 16777216 := by
        have : xs.length = vs.length + (us.length + 1) + (zs.length + 1) := by rw [hx, ← hv]; simp; omega
        omega
      have ih := ih (vs ++ [y]) (by rw [← hv]; simp)
      simp only [List.cons_append, List.map_cons]
      unfold lcL
      rw [if_pos (hs _), h1]
      simp only [h2]
      rw [if_pos ⟨by first | trivial | rfl, h3, by rw [List.length_map]; exact hlen⟩]
      rw [← ih]
      simp
  have := key ys [] (by simp)
  rw [← hx] at this
  simpa using this
theorem lcL_map {α : Type} (xs : List α) (inj : α → MV) {tg : Tg} {src : HP → Option (List MV)} {f : EN → HP → R MV} {e : EN} {h : HP} (g : α → MV) (hs : ∀ acc, src (h ++ [.lst acc]) = some (xs.map inj)) (hl : xs.length ≤ 16777216)
    (hf : ∀ x ∈ xs, ∃ e', setG tg (inj x) e = some e' ∧ (∀ H, f e' H = .ok (g x) H) ∧ low h.length (g x) = true) : lcL false tg src (xs.map inj) f e h (xs.map inj) [] = .ok (.lst (xs.map g)) h := by
  rw [lcL_mapC false xs inj g hs hl hf]; rfl
section
variable (h : HP) (a b : Int)
@[simp] theorem binV_add : binV h .add (.int a) (.int b) = some (.int (a + b)) := id rfl
@[simp] theorem binV_addS (x y : Str) : binV h .add (.str x) (.str y) = if x.length + y.length ≤ sz then some (.str (x ++ y)) else none := id rfl
@[simp] theorem binV_addT (xs ys : List MV) : binV h .add (.tup xs) (.tup ys) = if xs.isEmpty = false ∧ ys.isEmpty = false ∧ xs.length + ys.length ≤ sz then some (.tup (xs ++ ys)) else none := id rfl
@[simp] theorem binV_addL (xs ys : List MV) : binV h .add (.lst xs) (.lst ys) = if xs.length + ys.length ≤ sz then some (.lst (xs ++ ys)) else none := id rfl
@[simp] theorem binV_sub : binV h .sub (.int a) (.int b) = some (.int (a - b)) := id rfl
@[simp] theorem binV_mul : binV h .mul (.int a) (.int b) = if mulB a b = true then some (.int (a * b)) else none := id rfl
theorem binV_mulL (xs : List MV) (k : Int) : binV h .mul (.lst xs) (.int k) = if 0 ≤ k ∧ k < 1000000 ∧ xs.length * k.toNat ≤ sz then some (.lst (List.replicate k.toNat xs).flatten) else none := id rfl
theorem binV_mulR (xs : List MV) (i : Nat) (k : Int) (e : getL h (.ref i) = some xs) (h0 : 0 ≤ k) (h1 : k < 1000000) (hz : xs.length * k.toNat ≤ 16777216) : binV h .mul (.ref i) (.int k) = some (.lst (List.replicate k.toNat xs).flatten) := by
  show (getL h (.ref i)).bind _ = _
  rw [e, Option.bind_some, if_pos ⟨h0, h1, hz⟩]
@[simp] theorem binV_fdv : binV h .fdv (.int a) (.int b) = if (dvB a b || decide (0 < b)) = true then some (.int (a / b)) else none := id rfl
@[simp] theorem binV_mod : binV h .mod (.int a) (.int b) = if 0 < b then some (.int (a % b)) else none := id rfl
@[simp] theorem binV_pow : binV h .pow (.int a) (.int b) = if powB a b = true then some (.int (a ^ b.toNat)) else none := id rfl
@[simp] theorem binV_shl : binV h .shl (.int a) (.int b) = if shlB a b = true then some (.int (a * 2 ^ b.toNat)) else none := id rfl
@[simp] theorem binV_shr : binV h .shr (.int a) (.int b) = if 0 ≤ b then some (.int (a / 2 ^ b.toNat)) else none := id rfl
@[simp] theorem binV_and : binV h .and (.int a) (.int b) = some (.int (Builtin.bitAnd a b)) := id rfl
@[simp] theorem binV_or : binV h .or (.int a) (.int b) = some (.int (Builtin.bitOr a b)) := id rfl
@[simp] theorem binV_xor : binV h .xor (.int a) (.int b) = some (.int (Builtin.bitXor a b)) := id rfl
@[simp] theorem augV_addS (x y : Str) : augV .add (.str x) (.str y) = if x.length + y.length ≤ sz then some (.str (x ++ y)) else none := id rfl
@[simp] theorem augV_add : augV .add (.int a) (.int b) = some (.int (a + b)) := id rfl
@[simp] theorem augV_sub : augV .sub (.int a) (.int b) = some (.int (a - b)) := id rfl
@[simp] theorem augV_mul : augV .mul (.int a) (.int b) = if mulB a b = true then some (.int (a * b)) else none := id rfl
@[simp] theorem augV_shr : augV .shr (.int a) (.int b) = if 0 ≤ b then some (.int (a / 2 ^ b.toNat)) else none := id rfl
@[simp] theorem augV_or : augV .or (.int a) (.int b) = some (.int (Builtin.bitOr a b)) := id rfl
@[simp] theorem cmpV_lt : cmpV h .lt (.int a) (.int b) = some (decide (a < b)) := id rfl
@[simp] theorem cmpV_le : cmpV h .le (.int a) (.int b) = some (decide (a ≤ b)) := id rfl
@[simp] theorem cmpV_gt : cmpV h .gt (.int a) (.int b) = some (decide (b < a)) := id rfl
@[simp] theorem cmpV_ge : cmpV h .ge (.int a) (.int b) = some (decide (b ≤ a)) := id rfl
@[simp] theorem cmpV_eq (x y : MV) : cmpV h .eq x y = eqM h x y := id rfl
@[simp] theorem cmpV_ne (x y : MV) : cmpV h .ne x y = (eqM h x y).map (!·) := id rfl
@[simp] theorem cmpV_isN (x : MV) : cmpV h .is x .non = some (isNon x) := id rfl
@[simp] theorem cmpV_isnN (x : MV) : cmpV h .isn x .non = some (!isNon x) := id rfl
@[simp] theorem isNon_non : isNon .non = true := id rfl
@[simp] theorem isNon_exc (c : Nat) (fs : List MV) : isNon (.exc c fs) = false := id rfl
@[simp] theorem isNon_int : isNon (.int a) = false := id rfl
@[simp] theorem isNon_tup (xs : List MV) : isNon (.tup xs) = false := id rfl
@[simp] theorem cmpV_in (x y : MV) : cmpV h .inn x y = inV h x y := id rfl
@[simp] theorem cmpV_nin (x y : MV) : cmpV h .nin x y = (inV h x y).map (!·) := id rfl
@[simp] theorem eqM_ii : eqM h (.int a) (.int b) = some (decide (a = b)) := by
  have : (a == b) = decide (a = b) := rfl
  simp [eqM, flatD, lstD, toD, SeqAt.shaped, PyData.eqv, PyData.canLay0, PyData.depth, this]
@[simp] theorem eqM_bb (x y : Bool) : eqM h (.bl x) (.bl y) = some (x == y) := by
  simp [eqM, flatD, lstD, toD, SeqAt.shaped, PyData.eqv, PyData.canLay0, PyData.depth]
theorem eqM_ss {x y : Str} (hx : PyData.strOk x = true) (hy : PyData.strOk y = true) : eqM h (.str x) (.str y) = some (decide (x = y)) := by
  have : (x == y) = decide (x = y) := by by_cases h : x = y <;> simp [h]
  simp [eqM, flatD, lstD, toD, SeqAt.shaped, PyData.eqv, PyData.canLay0, PyData.depth, hx, hy, this]
@[simp] theorem idxV_tup (xs : List MV) (i : Int) : idxV h (.tup xs) (.int i) = atI xs i := id rfl
@[simp] theorem idxV_lst (xs : List MV) (i : Int) : idxV h (.lst xs) (.int i) = atI xs i := id rfl
@[simp] theorem pI_int (i : Int) : pI (.int i) = some (some i) := id rfl
@[simp] theorem slcV_lst (xs : List MV) (l u : Option Int) : slcV h (.lst xs) l u = some (.lst (cutM xs l u)) := id rfl
@[simp] theorem seqOf_tup (xs : List MV) : seqOf h (.tup xs) = some xs := id rfl
theorem inV_seq {h : HP} {x v : MV} {ys : List MV} (hv : seqOf h v = some ys) : inV h x v = if (flatM x && ys.all flatM) = true then some (inF x ys) else none := by
  unfold inV
  split
  · cases hv
  · rw [hv]; rfl
@[simp] theorem inV_str {h : HP} {x : MV} {z : Str} : inV h x (.str z) = inS x z := rfl
@[simp] theorem seqOf_str (z : Str) : seqOf h (.str z) = none := id rfl
@[simp] theorem seqOf_lst (xs : List MV) : seqOf h (.lst xs) = some xs := id rfl
@[simp] theorem biV_len (x : MV) : biV h .len [x] = ((seqOf h x).map fun ys => .int ys.length).or (lenS x) := id rfl
@[simp] theorem lenS_str (z : Str) : lenS (.str z) = if z.length ≤ sz then some (.int z.length) else none := id rfl
@[simp] theorem biV_dvm : biV h .dvm [.int a, .int b] = if dvB a b = true then some (.tup [.int (a / b), .int (a % b)]) else none := id rfl
@[simp] theorem biV_abs : biV h .abs [.int a] = some (.int (if a < 0 then -a else a)) := id rfl
@[simp] theorem biV_max2 : biV h .max2 [.int a, .int b] = some (.int (if b > a then b else a)) := id rfl
@[simp] theorem biV_min2 : biV h .min2 [.int a, .int b] = some (.int (if b < a then b else a)) := id rfl
@[simp] theorem biV_int1i : biV h .int1 [.int a] = some (.int a) := id rfl
@[simp] theorem biV_int1b (b : Bool) : biV h .int1 [.bl b] = some (.int (if b = true then 1 else 0)) := id rfl
@[simp] theorem meV_bitlen : meV h .bitlen (.int a) [] = some (.int (intBits a : Nat)) := id rfl
end
/-! ### dicts -/
@[simp] theorem keyM_int (i : Int) : keyM (.int i) = some (.inl i) := id rfl
@[simp] theorem keyM_str (s : Str) : keyM (.str s) = some (.inr s) := id rfl
@[simp] theorem kM_inl (i : Int) : kM (.inl i) = .int i := id rfl
@[simp] theorem kM_inr (s : Str) : kM (.inr s) = .str s := id rfl
theorem dgtV_at {h : HP} {i : Nat} {kvs : List (L2.Key × MV)} (e : h[i]? = some (.dic kvs)) (k : MV) : dgtV h (.ref i) k = (keyM k).bind fun k => valM kvs k := by simp [dgtV, dicAt, e]
theorem dinV_at {h : HP} {i : Nat} {kvs : List (L2.Key × MV)} (e : h[i]? = some (.dic kvs)) (ng : Bool) (k : MV) : dinV h ng k (.ref i) = (keyM k).map fun k => .bl (xor ng (valM kvs k).isSome) := by simp [dinV, dicAt, e]
theorem dksV_at {h : HP} {i : Nat} {kvs : List (L2.Key × MV)} (e : h[i]? = some (.dic kvs)) : dksV h (.ref i) = some (kvs.map fun kv => kM kv.1) := by simp [dksV, dicAt, e]
theorem ditV_at {h : HP} {i : Nat} {kvs : List (L2.Key × MV)} (e : h[i]? = some (.dic kvs)) : ditV h (.ref i) = some (.lst (kvs.map fun kv => .tup [kM kv.1, kv.2])) := by simp [ditV, dicAt, e]
theorem dptV_at {h : HP} {i : Nat} {kvs : List (L2.Key × MV)} (e : h[i]? = some (.dic kvs)) (hl : kvs.length < 16777216) (k v : MV) : dptV h (.ref i) k v = (keyM k).map fun k => h.set i (.dic (putM kvs k v)) := by simp only [dptV, e]; exact if_pos hl
@[simp] theorem isTV_int (T : Tab) (h : HP) (a : Int) : isTV T h (.int a) "int" = some true := id rfl
@[simp] theorem isTV_intb (T : Tab) (h : HP) (a : Int) : isTV T h (.int a) "bool" = some false := id rfl
@[simp] theorem isTV_intt (T : Tab) (h : HP) (a : Int) : isTV T h (.int a) "tuple" = some false := id rfl
@[simp] theorem isTV_tup (T : Tab) (h : HP) (a : List MV) : isTV T h (.tup a) "tuple" = some true := id rfl
@[simp] theorem isTV_lst (T : Tab) (h : HP) (a : List MV) : isTV T h (.lst a) "list" = some true := id rfl
@[simp] theorem isTV_lstb (T : Tab) (h : HP) (a : List MV) : isTV T h (.lst a) "tuple" = some false := id rfl
@[simp] theorem isTV_str (T : Tab) (h : HP) (a : Str) : isTV T h (.str a) "str" = some true := id rfl
@[simp] theorem isTV_ve (T : Tab) (h : HP) (c : Nat) (fs : List MV) : isTV T h (.exc c fs) "ValueError" = if T.exc c = true then some (T.ve c) else none := by simp [isTV]
@[simp] theorem isCV_exc (T : Tab) (c : Nat) (fs : List MV) (d : Nat) : isCV T (.exc c fs) d = if (T.exc c && T.exc d) = true then some (T.sub c d) else none := id rfl
@[simp] theorem isCsV_nil (T : Tab) (x : MV) : isCsV T x [] = some false := by cases x <;> rfl
@[simp] theorem isCsV_exc (T : Tab) (c : Nat) (fs : List MV) (d : Nat) (ds : List Nat) : isCsV T (.exc c fs) (d :: ds) = if (T.exc c && T.exc d) = true then (isCsV T (.exc c fs) ds).map fun b => T.sub c d || b else none := id rfl
@[simp] theorem isCsV_non (T : Tab) (d : Nat) (ds : List Nat) : isCsV T .non (d :: ds) = if T.exc d = true then isCsV T .non ds else none := id rfl
@[simp] theorem biV_list1 (h : HP) (x : MV) : biV h .list1 [x] = (seqOf h x).map .lst := id rfl
@[simp] theorem clsM_obj (h : HP) (c : Nat) (xs : List MV) : clsM h (.obj c xs) = some (c, xs) := id rfl
@[simp] theorem frz_obj (h : HP) (b c : Nat) (xs : List MV) : frz h b (.obj c xs) = (frzs h b xs).map (.obj c) := by simp [frz]
@[simp] theorem isNon_obj (c : Nat) (fs : List MV) : isNon (.obj c fs) = false := id rfl
@[simp] theorem isCV_obj (T : Tab) (c : Nat) (fs : List MV) (d : Nat) : isCV T (.obj c fs) d = if (T.obj c && T.obj d) = true then some (T.sub c d) else none := id rfl
@[simp] theorem isCV_non (T : Tab) (d : Nat) : isCV T .non d = if T.exc d = true then some false else none := id rfl
@[simp] theorem frz_int (h : HP) (b : Nat) (i : Int) : frz h b (.int i) = some (.int i) := by simp [frz]
@[simp] theorem frz_bl (h : HP) (b : Nat) (i : Bool) : frz h b (.bl i) = some (.bl i) := by simp [frz]
@[simp] theorem frz_str (h : HP) (b : Nat) (i : Str) : frz h b (.str i) = some (.str i) := by simp [frz]
@[simp] theorem frz_non (h : HP) (b : Nat) : frz h b .non = some .non := by simp [frz]
@[simp] theorem frz_tup (h : HP) (b : Nat) (xs : List MV) : frz h b (.tup xs) = (frzs h b xs).map .tup := by simp [frz]
@[simp] theorem frz_lst (h : HP) (b : Nat) (xs : List MV) : frz h b (.lst xs) = (frzs h b xs).map .lst := by simp [frz]
@[simp] theorem frz_exc (h : HP) (b c : Nat) (xs : List MV) : frz h b (.exc c xs) = (frzs h b xs).map (.exc c) := by simp [frz]
@[simp] theorem frzs_nil (h : HP) (b : Nat) : frzs h b [] = some [] := by simp [frzs]
@[simp] theorem frzs_cons (h : HP) (b : Nat) (x : MV) (xs : List MV) : frzs h b (x :: xs) = (frz h b x).bind fun y => (frzs h b xs).map fun ys => y :: ys := by simp [frzs]
theorem frzs_all (h : HP) (b : Nat) (xs : List MV) (hx : ∀ x ∈ xs, frz h b x = some x) : frzs h b xs = some xs := by
  induction xs with
  | nil => simp
  | cons x xs ih => simp [hx x (List.mem_cons_self ..), ih fun y hy => hx y (List.mem_cons_of_mem _ hy)]
@[simp] theorem frzs_ints (h : HP) (b : Nat) (ns : List Int) : frzs h b (ns.map .int) = some (ns.map .int) := frzs_all h b _ (by intro x hx; obtain ⟨n, _, rfl⟩ := List.mem_map.mp hx; simp)
@[simp] theorem leave_ret' (h : HP) (v : MV) : leave false h (.ret v h) = R.of (frz h h.length v) h := by
  simp only [leave, fin, Bool.false_eq_true, if_false, List.take_length, if_true]
  cases frz h h.length v <;> rfl
@[simp] theorem leave_nx' (h : HP) (e : EN) : leave false h (.nx e h) = .ok .non h := leave_nx
@[simp] theorem leave_exc' (h : HP) (x : MX) (e : EN) (keep : Bool) : leave keep h (.exc x e h) = .exc x h := leave_exc
/-- a call that wrote cells of its caller's -/
theorem leave_cut {h h' g : HP} {v w : MV} (hl : h'.length = h.length) (hw : lowH h.length h' = true) (hf : frz (h' ++ g) h.length v = some w) : leave false h (.ret v (h' ++ g)) = .ok w h' := by
  have e : (h' ++ g).take h.length = h' := by rw [← hl, List.take_left]
  simp only [leave, fin, Bool.false_eq_true, if_false, e, hf]
  split
  · rename_i z; rw [e] at z; rw [z]
  · first | rfl | rw [if_pos hw]
theorem leave_cutN {h h' g : HP} {e : EN} (hl : h'.length = h.length) (hw : lowH h.length h' = true) : leave false h (.nx e (h' ++ g)) = .ok .non h' := by
  have e : (h' ++ g).take h.length = h' := by rw [← hl, List.take_left]
  simp only [leave, fin, Bool.false_eq_true, if_false, e, frz]
  split
  · rename_i z; rw [e] at z; rw [z]
  · first | rfl | rw [if_pos hw]
@[simp] theorem start_mk (np nl : Nat) (b : Ss) (k : Bool) (vs : List MV) : start ⟨np, nl, b, k⟩ vs = vs.map some ++ List.replicate (nl - np) none := id rfl

/-! ### loops -/
theorem forL_inv {tg : Tg} {src : HP → Option (List MV)} {all : List MV} {f : EN → HP → O} {h : HP} (hs : src h = some all) (Inv : EN → Prop) : ∀ xs : List MV,
    (∀ x ∈ xs, ∀ e, Inv e → ∃ e1 e2, setG tg x e = some e1 ∧ f e1 h = .nx e2 h ∧ Inv e2) → ∀ e, Inv e → ∃ e', forL tg src all f xs e h = .nx e' h ∧ Inv e'
  | [], _, e, he => ⟨e, by rw [forL]; simp [hs], he⟩
  | x :: xs, hf, e, he => by
    obtain ⟨e1, e2, h1, h2, h3⟩ := hf x (List.mem_cons_self ..) e he
    obtain ⟨e', h4, h5⟩ := forL_inv hs Inv xs (fun y hy => hf y (List.mem_cons_of_mem _ hy)) e2 h3
    refine ⟨e', ?_, h5⟩
    rw [forL]
    simp [hs, h1, h2, h4]
theorem whlL_succ (t : EN → HP → R MV) (f : EN → HP → O) (n : Nat) (e : EN) (h : HP) : whlL t f (n + 1) e h = (t e h).go e fun x h => iteM x (match f e h with
      | .nx e h => whlL t f n e h
      | .ct e h => whlL t f n e h
      | o => o) (.nx e h) .bad := by
  rw [whlL]; congr 1
theorem pos_fuel {N k : Nat} (h : k < N) : ∃ M, N = M + 1 := ⟨N - 1, by omega⟩
theorem lt_fuel {k : Nat} (h : k < 1000000) : k < fuel := by unfold fuel; omega
theorem mem_cutM {xs : List MV} {l u : Option Int} {x : MV} (hx : x ∈ cutM xs l u) : x ∈ xs := List.mem_of_mem_drop (List.mem_of_mem_take hx)
theorem cutM_len (xs : List MV) (l u : Option Int) : (cutM xs l u).length ≤ xs.length := by
  unfold cutM
  simp only [List.length_take, List.length_drop]
  omega

/-! ### bit sizes -/
theorem mulB_of {a b : Int} {m n : Nat} (ha : intBits a ≤ m) (hb : intBits b ≤ n) (h : m + n ≤ 134217728) : mulB a b = true := by
  unfold mulB
  rw [Bool.or_eq_true]
  right
  rw [decide_eq_true_eq]
  omega
theorem mulB_left {a b : Int} (ha : intBits a ≤ 64) : mulB a b = true := by simp [mulB, ha]
theorem mulB_right {a b : Int} (hb : intBits b ≤ 64) : mulB a b = true := by simp [mulB, hb]
theorem dvB_small {a b : Int} (h : 0 < b) (h' : b < 1073741824) : dvB a b = true := by simp [dvB, h, h']
theorem shlB_of {a b : Int} {m : Nat} (ha : intBits a ≤ m) (h : 0 ≤ b) (h' : (m : Int) + b ≤ 134217728) : shlB a b = true := by
  simp only [shlB, h, decide_true, Bool.true_and, decide_eq_true_eq]; omega
theorem two_cases (a : Int) : a % 2 = 0 ∨ a % 2 = 1 := by omega
theorem ib_abs {x : Int} {n : Nat} (h : x.natAbs < 2 ^ n) : intBits x ≤ n := intBits_le_iff.mpr h
theorem ib_lt {x : Int} {n : Nat} (h0 : 0 ≤ x) (h : x < 2 ^ n) : intBits x ≤ n := ib_abs (by
  have : ((x.natAbs : Nat) : Int) < ((2 ^ n : Nat) : Int) := by
    rw [Int.natCast_pow, show ((2 : Nat) : Int) = 2 from rfl]; omega
  exact Int.ofNat_lt.mp this)
theorem ib_mono {x : Int} {m n : Nat} (h : intBits x ≤ m) (hmn : m ≤ n) : intBits x ≤ n := Nat.le_trans h hmn

/-! ### places, powers -/
theorem atI_nat {α : Type} {xs : List α} {k : Nat} {i : Int} (h : i = k) (hk : k < xs.length) : atI xs i = some xs[k] := by
  subst h
  have : (k : Int) < xs.length := by omega
  simp [atI, ixN, this, hk]
@[simp] theorem atI_0 {α : Type} (x : α) (xs : List α) : atI (x :: xs) 0 = some x := by simp [atI, ixN]
@[simp] theorem atI_1 {α : Type} (x y : α) (xs : List α) : atI (x :: y :: xs) 1 = some y := (atI_nat (k := 1) rfl (by simp)).trans rfl
@[simp] theorem atI_2 {α : Type} (x y z : α) (xs : List α) : atI (x :: y :: z :: xs) 2 = some z := (atI_nat (k := 2) rfl (by simp)).trans rfl
@[simp] theorem atI_3 {α : Type} (x y z u : α) (xs : List α) : atI (x :: y :: z :: u :: xs) 3 = some u := (atI_nat (k := 3) rfl (by simp)).trans rfl
@[simp] theorem atI_4 {α : Type} (x y z u v : α) (xs : List α) : atI (x :: y :: z :: u :: v :: xs) 4 = some v := (atI_nat (k := 4) rfl (by simp)).trans rfl
@[simp] theorem atI_m1 {α : Type} (x : α) : atI [x] (-1) = some x := by simp [atI, ixN]
@[simp] theorem sz_le (n : Nat) : (n ≤ sz) = (n ≤ 16777216) := id rfl
@[simp] theorem pow2_pos (n : Nat) : (0 < (2 : Int) ^ n) = True := eq_true (Int.pow_pos (by decide))
@[simp] theorem pow2_nn (n : Nat) : (0 ≤ (2 : Int) ^ n) = True := eq_true (Int.le_of_lt (Int.pow_pos (by decide)))
@[simp] theorem tn_add (a b : Nat) : ((a : Int) + (b : Int)).toNat = a + b := by omega
@[simp] theorem tn_add1 (a : Nat) : ((a : Int) + 1).toNat = a + 1 := by omega
@[simp] theorem tn_add2 (a b : Nat) : ((a : Int) + (b : Int) + 1).toNat = a + b + 1 := by omega
@[simp] theorem tn_sub1 (a : Nat) : ((a : Int) - 1).toNat = a - 1 := by omega
theorem ib_one : intBits (1 : Int) ≤ 1 := by decide
theorem shlB_one {b : Int} (h : 0 ≤ b) (h' : b ≤ 134217727) : shlB 1 b = true := shlB_of ib_one h (by omega)
theorem ib_pow2 (n : Nat) : intBits ((2 : Int) ^ n) ≤ n + 1 := ib_lt (by simp) (by rw [Int.pow_succ]; have := Int.pow_pos (n := 2) (m := n) (by decide); omega)
theorem dvB_bits {a b : Int} {n : Nat} (h : 0 < b) (hb : intBits b ≤ n) (hn : n ≤ 9000) : dvB a b = true := by
  have : Builtin.divisionGoesByPylong a b = false := PyProof.noPylong_of_log2 (by
    have h1 := intBits_le_iff.mp (Nat.le_trans hb hn)
    exact (Nat.log2_lt (by omega)).mpr h1)
  simp [dvB, h, this]
theorem dvB_pow {a : Int} {n : Nat} (h : n < 9000) : dvB a (2 ^ n) = true := dvB_bits (by simp) (ib_pow2 n) (by omega)
theorem dvB_near {a b : Int} (h : 0 < b) (hb : intBits a ≤ intBits b + 4000) : dvB a b = true := by
  simp [dvB, h, (divp_ok h hb).2]
theorem two_le_pow {m n : Nat} (h : m ≤ n) : (2 : Int) ^ m ≤ 2 ^ n := by
  have := Int.ofNat_le.mpr (Nat.pow_le_pow_right (show 0 < 2 by decide) h)
  simpa using this
theorem or_lowC {q r : Int} {k : Nat} (hq : 0 ≤ q) (h0 : 0 ≤ r) (h1 : r < 2 ^ k) : Builtin.bitOr (q * 2 ^ k) r = q * 2 ^ k + r := or_low hq h0 h1
end Rm

/-! Rm, part N: sorted(x, key=lambda y: ..) in the law's own def. -/
namespace SrtK
open PySem PySem.W PySem.Calls PyProof.Rows
section
variable {prog : Program} {w : World} {A : Around} {E : Value → Shared → Prop} {a kS : Addr} {vs : List Value} {e1 : Nat} {P : PySem.Fin → Shared → Prop} {ks : List Int} {f : Value}
/-- what every turn keeps: what is known of the state, the two lists -/
structure Run (Φ : Shared → Prop) (a kS : Addr) (e1 : Nat) (ks : List Int) (s : Shared) : Prop where
  phi : Φ s
  src : s.heap.get? a = some (seqObj "list" #[] e1)
  keys : ∃ (kA : Array Value) (e : Nat), s.heap.get? kS = some (seqObj "list" kA e) ∧ EachIs (fun v k => ∃ t, v = Value.int k t) kA.toList ks
theorem each_add {α β : Type} {R : α → β → Prop} : ∀ {l : List α} {m : List β} {x : α} {y : β}, EachIs R l m → R x y → EachIs R (l ++ [x]) (m ++ [y])
  | _, _, _, _, .nil, h => .cons h .nil
  | _, _, _, _, .cons q t, h => .cons q (each_add t h)
theorem each_reads {h : Heap} : ∀ {l : List Value} {ns : List Int}, EachIs (fun v k => ∃ t, v = Value.int k t) l ns → EachIs (fun v k => ∃ as, Reads h v k as) l (ns.map PyData.int)
  | _, _, .nil => .nil
  | _, _, .cons ⟨t, e⟩ q => by
    subst e
    exact .cons ⟨[], .int _ t⟩ (each_reads q)
theorem each_len {α β : Type} {R : α → β → Prop} {l : List α} {m : List β} (h : EachIs R l m) : l.length = m.length := h.length
theorem tree_run {Φ : Shared → Prop} {s : Shared} (hka : kS ≠ a) (hlen : ks.length = vs.length) (hZ : vs.length ≤ sizeLine) (hu : A.units + 8 < cLine)
    (up : ∀ (s' : Shared) (kA : Array Value) (e : Nat) (v : Value), Φ s' → s'.heap.get? kS = some (seqObj "list" kA e) → Φ { s' with heap := s'.heap.update kS (Obj.mapSeq (·.push v)) })
    (turn : ∀ (i : Nat) (v : Value) (k : Int) (s' : Shared), vs[i]? = some v → ks[i]? = some k → Φ s' → s'.heap.get? a = some (seqObj "list" #[] e1) → (∃ (kA : Array Value) (e : Nat), s'.heap.get? kS = some (seqObj "list" kA e)) →
      wpAny (model prog w) A (call f [v]) (fun r s2 => Φ s2 ∧ s2.heap.get? a = s'.heap.get? a ∧ s2.heap.get? kS = s'.heap.get? kS ∧ ∃ t, r = Value.int k t) (fun _ _ => False) s')
    (fin : ∀ (s' : Shared) (h' : Heap) (tk : Nat) (out : List Value) (c : Nat), Φ s' → (∀ b o, b ≠ a → b ≠ kS → s'.heap.get? b = some o → h'.get? b = some o) → h'.get? a = some (seqObj "list" (List.toArray out) c) →
      KeyedOut false (ks.map PyData.int) vs out → P (.done (.ret .none)) { s' with heap := h', toks := tk })
    (h0 : Run Φ a kS e1 [] s) : wpAny (model prog w) A (ksk_rest a f false vs.toArray e1 (.ref kS)) P E s := by
  unfold ksk_rest
  apply wpAny_bind
  apply wpAny_rule
  first
    | rw [List.forIn_toArray]
    | (rw [← Array.forIn_toList]; simp only [List.toList_toArray])
    | rw [← Array.forIn_toList]
  apply wpAny_bind
  refine ksk_fold (fun i s' => Run Φ a kS e1 (ks.take i) s') vs 0 s (by rw [List.take_zero]; exact h0) ?one ?all
  case one =>
    intro j x s' hx R
    rw [Nat.zero_add] at R ⊢
    have hj : j < vs.length := (List.getElem?_eq_some_iff.mp hx).1
    have hkj : ks[j]? = some (ks[j]'(by omega)) := List.getElem?_eq_getElem (by omega)
    obtain ⟨k, hk⟩ : ∃ k, ks[j]'(by omega) = k := ⟨_, rfl⟩
    rw [hk] at hkj
    obtain ⟨kA, e, hS, hE⟩ := R.keys
    have lk : kA.size ≤ vs.length := by
      have q := each_len hE
      rw [List.length_take, Array.length_toList] at q
      omega
    apply wpAny_bind
    apply wpAny_attempt
    refine wpAny_mono (turn j x k s' hx hkj R.phi R.src ⟨kA, e, hS⟩) (fun v s2 q => ?_) fun _ _ z => z.elim
    obtain ⟨q1, q2, q3, t, rfl⟩ := q
    have hS2 := q3.trans hS
    have ha2 := q2.trans R.src
    have same := Heap.SameBut.update s2.heap kS (Obj.mapSeq (·.push (Value.int k t)))
    obtain ⟨c2, hc2⟩ : ∃ c2, (s2.heap.update kS (Obj.mapSeq (·.push (Value.int k t)))).get? kS = some (seqObj "list" (kA.push (Value.int k t)) c2) := ⟨_, get?_update_seq hS2 (·.push (Value.int k t))⟩
    apply wpAny_bind
    refine listUpdate_at hS2 rfl ?_ (Nat.le_trans lk hZ) (by rw [Array.size_push]; omega)
    refine wpAny_pure ⟨rfl, up s2 kA e _ q1 hS2, (same.2 a hka.symm).trans ha2, kA.push (Value.int k t), c2, hc2, ?_⟩
    have e3 : ks.take (j + 1) = ks.take j ++ [k] := by rw [List.take_add_one, hkj]; rfl
    have e4 : (kA.push (Value.int k t)).toList = kA.toList ++ [Value.int k t] := by simp
    rw [e3, e4]
    exact each_add hE ⟨t, rfl⟩
  case all =>
    intro s' R
    have e3 : ks.take (0 + vs.length) = ks := List.take_of_length_le (by omega)
    rw [e3] at R
    obtain ⟨kA, e, hS, hE⟩ := R.keys
    have hsz : kA.size = vs.length := by
      have q := each_len hE
      rw [Array.length_toList] at q
      omega
    have hal : AllAlike (ks.map PyData.int) := fun d hd d' hd' => by
      obtain ⟨i, _, rfl⟩ := List.mem_map.mp hd
      obtain ⟨j, _, rfl⟩ := List.mem_map.mp hd'
      rfl
    have hsk : Sortable (ks.map PyData.int) := .inr fun d hd => by
      obtain ⟨i, _, rfl⟩ := List.mem_map.mp hd
      exact ⟨fun z => (by cases z), fun xs z => (by cases z)⟩
    have hrd : EachIs (fun v k => ∃ as, Reads s'.heap v k as) kA.toList (ks.map PyData.int) := each_reads hE
    have hb : ∀ d, d ∈ ks.map PyData.int → A.units + d.depth < cLine := fun d hd => by
      obtain ⟨i, _, rfl⟩ := List.mem_map.mp hd
      have q : (PyData.int i).depth ≤ 8 := by first | decide | exact Nat.zero_le _ | simp [PyData.depth]
      omega
    obtain ⟨G, g1, g2⟩ := L2.restrict s'.heap fun b => decide (b ≠ kS)
    have gk : ∀ b, b ≠ kS → G.get? b = s'.heap.get? b := fun b hb => g1 b (decide_eq_true hb)
    have ge : G.get? kS = none := g2 kS (by simp)
    have kp : KeepsBut a G s'.heap := fun b o _ q => by
      by_cases z : b = kS
      · rw [z, ge] at q; cases q
      · rw [gk b z] at q; exact q
    try dsimp only
    apply wpAny_bind
    refine listItems_at hS rfl ?_
    refine keyH_end (κ := dataKind s'.heap (ks.map PyData.int)) (h₁ := G) kp ge hS R.src hka (SortsAt.data hrd hal hsk hb) hsz hZ fun h3 tk3 c k3 n3 => ?_
    exact fin s' h3 tk3 _ c R.phi (fun b o b1 b2 q => k3 b o b1 (by rw [gk b b2]; exact q)) n3 ⟨s'.heap, kA.toList, hal, rfl, hrd⟩
theorem keyed_perm {β : Type} {R : Value → β → Prop} {bs : List β} {out : List Value} {κ : β → Int} (h : KeyedOut false ((bs.map κ).map PyData.int) vs out) (hR : EachIs R vs bs) :
    EachIs R out (bs.mergeSort fun x y => decide (κ x ≤ κ y)) := by
  rw [List.map_map] at h
  have q := keyedOut_each (fun x => PyData.int (κ x)) h hR
  have le : ∀ x y : β, dataLe false (fun x => PyData.int (κ x)) x y = decide (κ x ≤ κ y) := by
    intro x y
    show (!PyProof.Rows.lexLt itemOrd [.inl (κ y)] [.inl (κ x)]) = _
    have q : (!PyProof.Rows.lexLt itemOrd [.inl (κ y)] [.inl (κ x)]) = !(decide (κ y < κ x) || (!decide (κ x < κ y) && false)) := rfl
    rw [q]
    by_cases h1 : κ y < κ x
    · have h2 : ¬ κ x ≤ κ y := by omega
      simp [h1, h2]
    · have h2 : κ x ≤ κ y := by omega
      simp [h1, h2]
  have e : dataLe false (fun x => PyData.int (κ x)) = fun x y => decide (κ x ≤ κ y) := funext fun x => funext fun y => le x y
  rw [e] at q
  exact q
end
end SrtK

namespace Rm
open PySem L2 PySem.Spec PyProof.Rows LamX NdefX
open PySem.W (EachIs KeyedOut)
noncomputable def srt (κ : MV → Int) (xs : List MV) : List MV := xs.mergeSort fun x y => decide (κ x ≤ κ y)
theorem srt_perm (κ : MV → Int) (xs : List MV) : (srt κ xs).Perm xs := List.mergeSort_perm ..
theorem srt_sorted (κ : MV → Int) (xs : List MV) : (srt κ xs).Pairwise fun x y => κ x ≤ κ y := by
  have z := List.pairwise_mergeSort (le := fun x y : MV => decide (κ x ≤ κ y)) (fun x y z h1 h2 => by
    rw [decide_eq_true_eq] at *
    omega) (fun x y => by
    by_cases h : κ x ≤ κ y
    · simp [h]
    · have : κ y ≤ κ x := by omega
      simp [this]) xs
  exact z.imp fun h => by rw [decide_eq_true_eq] at h; exact h
section
variable {K : PySem.W.Frag} {cA : Nat → Addr} {cF : Nat → List Str} {r : List Addr} {H H' : Hp} {h : HP} {e : EN} {σ : L2.St}
/-- all but tables stay -/
def NoT (H H' : Hp) : Prop := ∀ a o, H a = some o → (∀ ps, o ≠ .tbl ps) → H' a = some o
theorem rd_not {a : Addr} {xs : List V} (x : NoT H H') (q : Rd H a (.lst xs)) : Rd H' a (.lst xs) := by
  rcases q with q | ⟨o, q⟩
  · exact .inl (x _ _ q fun ps z => by cases z)
  · exact .inr ⟨o, x _ _ q fun ps z => by cases z⟩
theorem fzl_not {a : Addr} {vs : List V} (x : NoT H H') (q : FzL K H r a vs) : FzL K H' r a vs := by
  rcases q with ⟨n, q⟩ | q
  · exact .inl ⟨n, rd_not x q⟩
  · exact .inr q
theorem excV_tbl {C a : Addr} {ps : Array Value} : ExcV C a ≠ .tbl ps := fun z => by unfold ExcV at z; cases z
mutual
theorem rep_not (x : NoT H H') : ∀ (m : MV) (v : V), Rep K cA cF H r m v → Rep K cA cF H' r m v
  | .non, v, q => by simpa only [Rep] using q
  | .bl b, v, q => by simpa only [Rep] using q
  | .int i, v, q => by simpa only [Rep] using q
  | .str s, v, q => by simpa only [Rep] using q
  | .tup xs, v, q => by
    simp only [Rep] at q ⊢
    obtain ⟨a, vs, e, ⟨n, k⟩, z⟩ := q
    exact ⟨a, vs, e, ⟨n, x _ _ k fun ps z => by cases z⟩, reps_not x xs vs z⟩
  | .lst xs, v, q => by
    simp only [Rep] at q ⊢
    obtain ⟨a, vs, e, k, z⟩ := q
    exact ⟨a, vs, e, fzl_not x k, reps_not x xs vs z⟩
  | .ref i, v, q => by simpa only [Rep] using q
  | .obj c xs, v, q => by
    simp only [Rep] at q ⊢
    obtain ⟨a, dx, vs, e, ⟨n, k⟩, z⟩ := q
    exact ⟨a, dx, vs, e, ⟨n, x _ _ k fun ps z => by cases z⟩, reps_not x xs vs z⟩
  | .exc c xs, v, q => by
    simp only [Rep] at q ⊢
    obtain ⟨a, e, ⟨n, k⟩, z⟩ := q
    exact ⟨a, e, ⟨n, x _ _ k fun ps => excV_tbl⟩, z⟩
theorem reps_not (x : NoT H H') : ∀ (m : List MV) (v : List V), Reps K cA cF H r m v → Reps K cA cF H' r m v
  | [], v, q => by simpa only [Reps] using q
  | m :: ms, v, q => by
    simp only [Reps] at q ⊢
    obtain ⟨u, ws, e, k, z⟩ := q
    exact ⟨u, ws, e, rep_not x m u k, reps_not x ms ws z⟩
end
theorem emb_not (x : NoT H H') (E : Emb K cA cF H r h) : Emb K cA cF H' r h := by
  refine ⟨E.len, E.nd, fun i o a e1 e2 => ?_⟩
  have q := E.at_ i o a e1 e2
  cases o with
  | lst xs => obtain ⟨vs, k, z⟩ := q; exact ⟨vs, x _ _ k (fun ps y => (by cases y)), reps_not x _ _ z⟩
  | ins c xs => obtain ⟨dx, vs, k, z⟩ := q; exact ⟨dx, vs, x _ _ k (fun ps y => (by cases y)), reps_not x _ _ z⟩
  | dic kvs => obtain ⟨vs, k, z⟩ := q; exact ⟨vs, x _ _ k (fun ps y => (by cases y)), reps_not x _ _ z⟩
theorem ren_not (x : NoT H H') (n : REn K cA cF H r e σ) : REn K cA cF H' r e σ := ⟨n.len, fun i v q => let ⟨V, h1, h2⟩ := n.at_ i v q; ⟨V, h1, rep_not x v V h2⟩⟩
/-- what is no list, no instance, no dict is no cell -/
theorem emb_ext (E : Emb K cA cF H r h) {a : Addr} {φ : Heap → Prop} (e : H a = some (.ext φ)) : a ∉ r := fun hm => by
  obtain ⟨i, hi⟩ := List.mem_iff_getElem?.mp hm
  have hl : i < h.length := by rw [← E.len]; exact (List.getElem?_eq_some_iff.mp hi).1
  have q := E.at_ i _ a (List.getElem?_eq_getElem hl) hi
  generalize h[i] = o at q
  cases o with
  | lst xs => obtain ⟨vs, k, _⟩ := q; rw [e] at k; cases k
  | ins c xs => obtain ⟨dx, vs, k, _⟩ := q; rw [e] at k; cases k
  | dic kvs => obtain ⟨vs, k, _⟩ := q; rw [e] at k; cases k
theorem emb_tbl (E : Emb K cA cF H r h) {a : Addr} {ps : Array Value} (e : H a = some (.tbl ps)) : a ∉ r := fun hm => by
  obtain ⟨i, hi⟩ := List.mem_iff_getElem?.mp hm
  have hl : i < h.length := by rw [← E.len]; exact (List.getElem?_eq_some_iff.mp hi).1
  have q := E.at_ i _ a (List.getElem?_eq_getElem hl) hi
  generalize h[i] = o at q
  cases o with
  | lst xs => obtain ⟨vs, k, _⟩ := q; rw [e] at k; cases k
  | ins c xs => obtain ⟨dx, vs, k, _⟩ := q; rw [e] at k; cases k
  | dic kvs => obtain ⟨vs, k, _⟩ := q; rw [e] at k; cases k
/-- no new cell: the same ones -/
theorem ext_same {r' : List Addr} {h' : HP} (x : Ext r H r' H') (E : Emb K cA cF H r h) (E' : Emb K cA cF H' r' h') (e : h'.length = h.length) : r' = r := by
  obtain ⟨t, ht⟩ := x.pre
  have l1 := E.len
  have l2 := E'.len
  rw [ht, List.length_append] at l2
  have : t = [] := List.length_eq_zero_iff.mp (by omega)
  rw [ht, this, List.append_nil]
theorem reps_mem : ∀ {l : List (MV × V)}, (∀ p ∈ l, Rep K cA cF H r p.1 p.2) → Reps K cA cF H r (l.map (·.1)) (l.map (·.2))
  | [], _ => by simp [Reps]
  | p :: l, hl => by
    simp only [List.map_cons, Reps]
    exact ⟨_, _, rfl, hl p List.mem_cons_self, reps_mem fun q hq => hl q (List.mem_cons_of_mem _ hq)⟩
theorem mem_reps : ∀ {xs : List MV} {vs : List V}, Reps K cA cF H r xs vs → ∀ p ∈ xs.zip vs, Rep K cA cF H r p.1 p.2
  | [], _, _, p, hp => by simp at hp
  | x :: xs, vs, q, p, hp => by
    simp only [Reps] at q
    obtain ⟨v, ws, rfl, k, z⟩ := q
    rcases List.mem_cons.mp hp with rfl | hp
    · exact k
    · exact mem_reps z p hp
end

/-- what is sorted: a list, or range(n) -/
def rgA : MV → Option (List MV)
  | .int n => if 0 ≤ n ∧ n < 1000000 then some (((List.range n.toNat).map fun (i : Nat) => (i : Int)).map .int) else none
  | _ => none
def srcA (rg : Bool) (h : HP) (v : MV) : Option (List MV) := if rg = true then rgA v else getL h v
theorem rgA_some {v : MV} {xs : List MV} (h : rgA v = some xs) : ∃ n : Int, v = .int n ∧ 0 ≤ n ∧ n < 1000000 ∧ xs = ((List.range n.toNat).map fun (i : Nat) => (i : Int)).map .int := by
  cases v with
  | int n =>
    have h : (if 0 ≤ n ∧ n < 1000000 then some (((List.range n.toNat).map fun (i : Nat) => (i : Int)).map MV.int) else none) = some xs := h
    by_cases q : 0 ≤ n ∧ n < 1000000
    · rw [if_pos q] at h
      exact ⟨n, rfl, q.1, q.2, (Option.some.inj h).symm⟩
    · rw [if_neg q] at h
      cases h
  | _ => cases h
/-- the reading of sorted(e, key=lambda y: a): the captured names at the slots js -/
def tSrk (rg : Bool) (K : PySem.W.Frag) (cA : Nat → Addr) (cF : Nat → List Str) (P : Addr) (T : Tab) (C : Nat → List MV → HP → R MV) (arg ak : E) (js : List Nat) : TE := fun σ H Q => ∃ (r : List Addr) (en : EN) (h : HP) (v : MV) (h2 : HP) (xs : List MV) (κ : MV → Int),
  Emb K cA cF H r h ∧ REn K cA cF H r en σ ∧ H P = some (.tbl #[]) ∧ evE T C arg en h = .ok v h2 ∧ srcA rg h2 v = some xs ∧
  (∀ x ∈ xs, evE T C ak (some x :: js.map fun j => (en[j]?).join) h2 = .ok (.int (κ x)) h2) ∧
  ∀ (H' : Hp) (r' : List Addr) (V : V), Emb K cA cF H' r' h2 → REn K cA cF H' r' en σ → Rep K cA cF H' r' (.lst (srt κ xs)) V → Q V H'
abbrev lamF (X : Cx) (params : Arguments) (scope : Scope) (c' : Addr) : NF := ⟨"<lambda>", X.env.qual ++ "<lambda>", params, [], scope, cloFrom X.env.cells scope.names [], c'⟩
section
variable {X : Cx} {cA : Nat → Addr} {cF : Nat → List Str} {T : Tab} {C : Nat → List MV → HP → R MV} {k : Nat}
theorem vals_each {vs : List V} {us : List Value} (q : Vals vs us) : ∀ {xs : List MV}, xs.length = vs.length → EachIs (fun u (p : MV × V) => L2.RelV p.2 u) us (xs.zip vs) := by
  induction q with
  | nil => intro xs _; cases xs <;> exact .nil
  | cons q _ ih =>
    intro xs e
    cases xs with
    | nil => simp at e
    | cons x xs => exact .cons q (ih (by simpa using e))
theorem each_vals {us : List Value} {l : List (MV × V)} (q : EachIs (fun u (p : MV × V) => L2.RelV p.2 u) us l) : Vals (l.map (·.2)) us := by
  induction q with
  | nil => exact .nil
  | cons q _ ih => exact .cons q ih
theorem zip_srt {κ : MV → Int} {xs : List MV} {vs : List V} (e : xs.length = vs.length) : ((xs.zip vs).mergeSort fun x y => decide (κ x.1 ≤ κ y.1)).map (·.1) = srt κ xs := by
  rw [List.map_mergeSort (s := fun x y : MV => decide (κ x ≤ κ y)) (fun _ _ _ _ => rfl)]
  unfold srt
  congr 1
  exact List.map_fst_zip (by omega)
/-- the state while the keys are asked -/
structure Ask (X : Cx) (cA : Nat → Addr) (cF : Nat → List Str) (σ : L2.St) (en : EN) (h2 : HP) (xs : List MV) (vs : List V) (r : List Addr) (H0 : Hp) (s0 : Shared) (a kS c' : Addr) (q : Str) (s' : Shared) (H' : Hp) : Prop where
  hok : HOk X.prog X.w H' s'.heap
  un : Un (frs X.stack) [] H0 H' s0.heap s'.heap
  bare : AllBare s'.gens
  os : s'.os = s0.os
  emb : Emb X.K cA cF H' r h2
  ren : REn X.K cA cF H' r en σ
  reps : Reps X.K cA cF H' r xs vs
  na : H' a = none
  nk : H' kS = none
  co : H' c' = some (CodeO c' q)
theorem ren_lam {r : List Addr} {H : Hp} {en : EN} {σ : L2.St} {x : MV} {u : V} {js : List Nat} {y : Str} {fr : List Str} (n : REn X.K cA cF H r en σ) (hx : Rep X.K cA cF H r x u) (hl : js.length = fr.length) :
    REn X.K cA cF H r (some x :: js.map fun j => (en[j]?).join) (startF (y :: fr) [u] (js.map (slotAt σ))) := by
  have es : startF (y :: fr) [u] (js.map (slotAt σ)) = some u :: js.map (slotAt σ) := by
    unfold startF
    have : (y :: fr).length - [u].length - (js.map (slotAt σ)).length = 0 := by simp; omega
    rw [this]
    simp
  rw [es]
  refine ⟨by simp, fun i v q => ?_⟩
  cases i with
  | zero =>
    simp at q
    subst q
    exact ⟨u, by simp, hx⟩
  | succ i =>
    simp only [List.getElem?_cons_succ, List.getElem?_map] at q ⊢
    cases hj : js[i]? with
    | none => rw [hj] at q; simp at q
    | some j =>
      rw [hj] at q
      simp only [Option.map_some, Option.some.injEq] at q
      cases he : en[j]? with
      | none => rw [he] at q; simp at q
      | some o =>
        rw [he] at q
        have q : o = some v := q
        subst q
        obtain ⟨V, h1, h2⟩ := n.at_ j v he
        exact ⟨V, by simp [slotAt_of h1], h2⟩
theorem hok_but {P : Program} {w : World} {H : Hp} {h h' : Heap} {b0 : Addr} (x : HOk P w H h) (n : H b0 = none) (k : ∀ b o, b ≠ b0 → h.get? b = some o → h'.get? b = some o) : HOk P w H h' := fun b u e =>
  (x b u e).stay (fun c v hc q => k c v (fun z => by
    rcases hc with hc | hc
    · rw [← hc, z, n] at e; cases e
    · rw [z, n] at hc; cases hc) q) (fun _ q => q) fun _ _ q => q
theorem srk_core {ak : E} {js : List Nat} {body : Expr} {params : Arguments} {scope : Scope} {y : Str} {fr : List Str} 
    (S : NScope (y :: fr) [y] fr scope) (hfree : ∀ z ∈ scope.names, z.2 = .free → X.env.scope.names.lookup z.1 = some .cell ∨ X.env.scope.names.lookup z.1 = some .free) (hfr : ∀ z ∈ fr, (z, NameKind.free) ∈ scope.names) (hjs : js.map (fun j => X.N[j]?) = fr.map some)
    (hbind : ∀ (q : Str) (cl : List (Str × Addr)) (pm cv ctv u : Value), bindArgs (PySem.W.kla_fn "<lambda>" q params body scope cl pm cv ctv) ⟨[u], []⟩ = pure [(y, u)])
    (hr : Room (k + 4) X.A)
    (hbody : ∀ (A : Around) (outer : List Env) (s : Shared) (H : Hp) (f c' : Addr), Room (k + 1) (A.deeper (envF (lamF X params scope c') f s.heap.objs.size)) →
      PE (ncx (L2.CX X.prog X.w) X.prog X.w X.K X.mg X.base (y :: fr) (lamF X params scope c') f A outer s H (fun _ _ _ => False)) body (tE X.K cA cF noW (evE T C ak)))
    {pins : List (Addr × Obj)} {σ : L2.St} {Q : V → Hp → Prop} {f c' : Addr} {pm ctv : Value} {H2 : Hp} {s2 : Shared} {r1 : List Addr} {en : EN} {h2 : HP} {xs : List MV} {vs : List V} {its : List Value} {κ : MV → Int} (I2 : L2.Inv X pins σ H2 s2)
    (hf : s2.heap.get? f = some (PySem.W.kla_obj "<lambda>" (X.env.qual ++ "<lambda>") params body scope (cloFrom X.env.cells scope.names []) pm c' ctv)) (hfn : H2 f = none) (hfr2 : f ∉ frs X.stack) (hco : H2 c' = some (CodeO c' (X.env.qual ++ "<lambda>")))
    (E2 : Emb X.K cA cF H2 r1 h2) (n2 : REn X.K cA cF H2 r1 en σ) (q2 : Reps X.K cA cF H2 r1 xs vs) (rits : Vals vs its) (hz : its.length ≤ sizeLine)
    (hkey : ∀ x ∈ xs, evE T C ak (some x :: js.map fun j => (en[j]?).join) h2 = .ok (.int (κ x)) h2)
    (hQ : ∀ (H' : Hp) (r' : List Addr) (V : V), Emb X.K cA cF H' r' h2 → REn X.K cA cF H' r' en σ → Rep X.K cA cF H' r' (.lst (srt κ xs)) V → Q V H')
    {cp : Heap} {tk0 : Nat} {aa : Addr} {E' : Value → Shared → Prop} (ho : cp.get? aa = some (seqObj "list" its.toArray 0)) (old : ∀ b o, s2.heap.get? b = some o → cp.get? b = some o) (aS : @LE.le Nat _ s2.heap.objs.size aa) :
    wpAny (model X.prog X.w) X.A.in1.in1 (Builtin.«list.sort» ⟨[.ref aa], [(Str.ofString "key", .ref f)]⟩) (fun fi s' => fi = .done (.ret .none) ∧ EP X pins σ Q (.ref aa) s') E' { s2 with heap := cp, toks := tk0 } := by
  have hjl : js.length = fr.length := by
    have q := congrArg List.length hjs
    simpa using q
  have lvx := q2.length
  have lvi := rits.length
  rw [PyProof.Rows.ksk_t1 f]
  have hlt := Heap.lt_size ho
  obtain ⟨e1, ho1⟩ : ∃ e1, (cp.update aa (Obj.mapSeq fun _ => (#[] : Array Value))).get? aa = some (seqObj "list" #[] e1) := ⟨_, get?_update_seq ho fun _ => #[]⟩
  have sm := Heap.SameBut.update cp aa (Obj.mapSeq fun _ => (#[] : Array Value))
  have hsz : (cp.update aa (Obj.mapSeq fun _ => (#[] : Array Value))).objs.size = cp.objs.size := Heap.size_update _ _ _
  obtain ⟨up, hup⟩ : ∃ up, cp.update aa (Obj.mapSeq fun _ => (#[] : Array Value)) = up := ⟨_, rfl⟩
  rw [hup] at ho1 sm hsz
  have hZ : its.length ≤ sizeLine := hz
  unfold PyProof.Rows.ksk_tree
  apply wpAny_bind
  refine listItems_at ho rfl ?_
  apply wpAny_bind
  refine listUpdate_at ho rfl ?_ (by rw [List.size_toArray]; exact hZ) (Nat.zero_le _)
  show wpAny _ _ _ _ _ { s2 with heap := cp.update aa (Obj.mapSeq fun _ => (#[] : Array Value)), toks := tk0 }
  rw [hup]
  apply wpAny_bind
  refine seqEpoch_at ho1 rfl ?_
  apply wpAny_bind
  refine wpAny_newTuple ?_ (by show its.length ≤ _; exact hZ)
  apply wpAny_bind
  refine wpAny_newList ?_ (Nat.zero_le _)
  apply wpAny_holding
  have hnew : ∀ b, s2.heap.objs.size ≤ b → H2 b = none := fun b hb => I2.hok.fresh hb
  obtain ⟨kS, hkS⟩ : ∃ kS, (up.push (seqObj "tuple" its.toArray 0)).objs.size = kS := ⟨_, rfl⟩
  have kSz : kS = cp.objs.size + 1 := by rw [← hkS, Heap.size_push, hsz]
  have keep3 : ∀ b o, b ≠ aa → cp.get? b = some o → ((up.push (seqObj "tuple" its.toArray 0)).push (seqObj "list" #[] 0)).get? b = some o := fun b o hb z =>
    Heap.get?_push_of_some _ (Heap.get?_push_of_some _ ((sm.2 b hb).trans z))
  have old3 : ∀ b o, s2.heap.get? b = some o → ((up.push (seqObj "tuple" its.toArray 0)).push (seqObj "list" #[] 0)).get? b = some o := fun b o z => keep3 b o (Nat.ne_of_lt (by have q : @LT.lt Nat _ b s2.heap.objs.size := Heap.lt_size z; omega)) (old b o z)
  have nb : ∀ b o, s2.heap.get? b = some o → b ≠ aa ∧ b ≠ kS := fun b o z => by
    have q : @LT.lt Nat _ b s2.heap.objs.size := Heap.lt_size z
    have q2 : @LT.lt Nat _ aa cp.objs.size := hlt
    have q3 : @Ne Nat b aa := by omega
    have q4 : @Ne Nat b kS := by omega
    exact ⟨q3, q4⟩
  have src3 : ((up.push (seqObj "tuple" its.toArray 0)).push (seqObj "list" #[] 0)).get? aa = some (seqObj "list" #[] e1) := Heap.get?_push_of_some _ (Heap.get?_push_of_some _ ho1)
  have key3 : ((up.push (seqObj "tuple" its.toArray 0)).push (seqObj "list" #[] 0)).get? kS = some (seqObj "list" #[] 0) := by rw [← hkS]; exact Heap.get?_push_size _ rfl
  show wpAny _ _ (PyProof.Rows.ksk_rest aa (.ref f) false its.toArray e1 (.ref (up.push (seqObj "tuple" its.toArray 0)).objs.size)) _ _ { s2 with heap := (up.push (seqObj "tuple" its.toArray 0)).push (seqObj "list" #[] 0), toks := tk0 }
  rw [hkS]
  obtain ⟨h3, hh3⟩ : ∃ h3, (up.push (seqObj "tuple" its.toArray 0)).push (seqObj "list" #[] 0) = h3 := ⟨_, rfl⟩
  rw [hh3] at old3 src3 key3 ⊢
  have r2 := (hr.mono (show k + 4 ≤ k + 4 from Nat.le_refl _))
  have rA : Room (k + 2) X.A.in1.in1 := (Room.in1 (k := k + 2) (Room.in1 (k := k + 3) r2))
  have hltN : @LT.lt Nat _ aa cp.objs.size := hlt
  have hka : kS ≠ aa := by
    have q : @Ne Nat kS aa := by omega
    exact q
  refine SrtK.tree_run (ks := xs.map κ) (Φ := fun s' => ∃ H', Ask X cA cF σ en h2 xs vs r1 H2 s2 aa kS c' (X.env.qual ++ "<lambda>") s' H') hka (by rw [List.length_map]; omega) hZ (by have := rA.units; omega) ?up ?turn ?fin ⟨⟨H2, ?start⟩, src3, #[], 0, key3, .nil⟩
  case start => exact ⟨I2.hok.kept old3, Un.kept old3, I2.bare, rfl, E2, n2, q2, hnew aa (show @LE.le Nat _ s2.heap.objs.size aa by omega), hnew kS (show @LE.le Nat _ s2.heap.objs.size kS by omega), hco⟩
  case up =>
    rintro s' kA ee u ⟨H', A⟩ hk
    have s1 := Heap.SameBut.update s'.heap kS (Obj.mapSeq (·.push u))
    refine ⟨H', hok_but A.hok A.nk (fun b o hb z => (s1.2 b hb).trans z), ⟨fun b o z n1 n2 n3 => ?_, fun b o z n1 n2 n3 => ?_, A.un.free, fun b o z n => ?_, A.un.tups, A.un.frzs, A.un.tbls⟩, A.bare, A.os, A.emb, A.ren, A.reps, A.na, A.nk, A.co⟩
    · exact (s1.2 b (nb b o z).2).trans (A.un.keep b o z n1 n2 n3)
    · obtain ⟨sl, q⟩ := A.un.slot b o z n1 n2 n3
      exact ⟨sl, (s1.2 b (nb b o z).2).trans q⟩
    · obtain ⟨o', q⟩ := A.un.there b o z n
      exact ⟨o', (s1.2 b (nb b o z).2).trans q⟩
  case turn =>
    rintro i u kk s' hu hk ⟨H', A⟩ hsa ⟨kA, ee, hsk⟩
    -- the item
    rw [List.getElem?_map] at hk
    cases hx : xs[i]? with
    | none => rw [hx] at hk; simp at hk
    | some x =>
    rw [hx] at hk
    simp only [Option.map_some, Option.some.injEq] at hk
    obtain ⟨vi, hvi, rx⟩ := A.reps.get hx
    obtain ⟨u', hu', ru⟩ := rits.get hvi
    rw [hu] at hu'
    obtain rfl : u = u' := Option.some.inj hu'
    have I' : L2.Inv X pins σ H' s' := I2.call' (ch := []) A.os A.un A.hok A.bare (fun b z => absurd z (by simp))
    have e0 := I'.env0.in1.in1
    have hf' := A.un.keep f _ hf hfn hfr2 (by simp)
    have hcd := codeO_at A.hok A.co
    have Cc := cells_of I' (Caps.made I'.ok hfree hfr hjs)
    have mx : x ∈ xs := List.mem_of_getElem? hx
    refine wpAny_call (codeAny_mono (PySem.W.kla_callFunE (R := CR (L2.CX X.prog X.w) X.stack X.prog X.w H' s' (fun V H'' => V = .int kk ∧ Emb X.K cA cF H'' r1 h2 ∧ REn X.K cA cF H'' r1 en σ ∧ Reps X.K cA cF H'' r1 xs vs ∧ H'' c' = some (CodeO c' (X.env.qual ++ "<lambda>"))) (fun _ _ _ => False)) rA.depth hf' rfl S.co S.gen rfl hcd ?_) fun rr s'' hq => ?_)
    · rw [hbind]
      refine wpAny_pure (wpAny_newFunctionEnv S.nocell (fun z hz => ?_) (fun g hns hsb => ⟨I'.nolimit.fresh _ hsb, ?_⟩) S.kind)
      · rw [List.mem_singleton.mp hz]
        exact S.par y (List.mem_singleton.mpr rfl)
      have kp : ∀ b o, s'.heap.get? b = some o → g.get? b = some o := fun b o z => hsb.extBut b o (Nat.ne_of_lt (Heap.lt_size z)) (Heap.get?_push_of_some _ z)
      have J := inv_startN (CX := L2.CX X.prog X.w) (F := lamF X params scope c') (f := f) (E := fun _ _ _ => False) (tk := s'.toks + ([(y, u)] : List (Str × Value)).length) S rA.hd e0 (vs := [vi]) (us := [u]) rfl (.cons ru .nil) Cc hns kp
      show codeAny _ _ (.expr body (envF (lamF X params scope c') f s'.heap.objs.size)) _ _
      refine PySem.W.kla_codeExpr (wpAny_mono ((hbody X.A.in1.in1 X.stack s' H' f c' (Room.deeper (k := k + 1) rA _)).run [] _ _ H' (fun V H'' => V = .int kk ∧ Emb X.K cA cF H'' r1 h2 ∧ REn X.K cA cF H'' r1 en σ ∧ Reps X.K cA cF H'' r1 xs vs ∧ H'' c' = some (CodeO c' (X.env.qual ++ "<lambda>"))) J ?_) (fun vv s'' hq => ?_) fun ee s'' hq => hq)
      · refine ⟨r1, some x :: js.map fun j => (en[j]?).join, h2, A.emb, ren_lam A.ren rx hjl, ?_⟩
        rw [hkey x mx]
        intro r' H'' V x1 x2 x3
        have er := ext_same x1 A.emb x2 rfl
        subst er
        refine ⟨?_, x2, A.ren.mono x1, Reps.mono x1 _ _ A.reps, (x1.keep _ _ A.co (emb_ext A.emb (by exact A.co))).1⟩
        have x3 : V = .int (κ x) := by simpa only [Rep] using x3
        rw [x3, hk]
      · obtain ⟨V, H'', J', rv', q⟩ := hq
        exact ⟨V, H'', J'.os, J'.bare, J'.base, J'.hok, rv', q⟩
    · cases rr with
      | error er =>
        obtain ⟨_, _, _, _, _, _, _, _, _, _, _, _, z⟩ := hq
        exact z.elim
      | ok fl =>
        cases fl with
        | ret w' =>
          obtain ⟨V, H'', os', bare', un', hok', rv', rfl, k1, k2, k3, k4⟩ := hq
          obtain ⟨t, rfl⟩ : ∃ t, w' = Value.int kk t := rv'
          have fa := un'.free aa _ hsa A.na (by simp)
          have fk := un'.free kS _ hsk A.nk (by simp)
          have nfr : ∀ b o, s'.heap.get? b = some o → s2.heap.get? b = none → b ∉ frs X.stack := fun b o z z2 hm => by
            obtain ⟨_, o', e', _⟩ := (I2.stack).mem hm
            rw [z2] at e'; cases e'
          have na2 : s2.heap.get? aa = none := Heap.get?_none_of_le (show @LE.le Nat _ s2.heap.objs.size aa by omega)
          have nk2 : s2.heap.get? kS = none := Heap.get?_none_of_le (show @LE.le Nat _ s2.heap.objs.size kS by omega)
          refine ⟨⟨H'', hok', A.un.trans un', bare', os'.trans A.os, k1, k2, k3, fa, fk, k4⟩, ?_, ?_, t, rfl⟩
          · exact (un'.keep aa _ hsa A.na (nfr aa _ hsa na2) (by simp)).trans hsa.symm
          · exact (un'.keep kS _ hsk A.nk (nfr kS _ hsk nk2) (by simp)).trans hsk.symm
        | next => exact False.elim hq
        | brk => exact False.elim hq
        | cont => exact False.elim hq
  case fin =>
    rintro s' h' tk out c ⟨H', A⟩ kp ha ko
    have lxv : xs.length = vs.length := lvx.symm
    have em : xs.map κ = (xs.zip vs).map fun p => κ p.1 := by
      have z := List.map_fst_zip (l₁ := xs) (l₂ := vs) (by omega)
      rw [show (fun p : MV × V => κ p.1) = κ ∘ Prod.fst from rfl, ← List.map_map, z]
    rw [em] at ko
    have cs := SrtK.keyed_perm (κ := fun p : MV × V => κ p.1) ko (vals_each rits lxv)
    obtain ⟨cl, hcl⟩ : ∃ cl, ((xs.zip vs).mergeSort fun x y => decide (κ x.1 ≤ κ y.1)) = cl := ⟨_, rfl⟩
    have hcs := zip_srt (κ := κ) lxv
    rw [hcl] at cs hcs
    have vo := each_vals cs
    have mem : ∀ p ∈ cl, Rep X.K cA cF H' r1 p.1 p.2 := fun p hp => mem_reps A.reps p ((List.mergeSort_perm _ _).mem_iff.mp (by rw [hcl]; exact hp))
    have ro := reps_mem mem
    rw [hcs] at ro
    obtain ⟨ys, hys⟩ : ∃ ys, cl.map (·.2) = ys := ⟨_, rfl⟩
    rw [hys] at vo ro
    obtain ⟨x5, E5, nr⟩ := A.emb.new (o := .lst ys) A.na
    have lo : ys.length ≤ sizeLine := by
      rw [ro.length, (srt_perm κ xs).length_eq]
      omega
    have keep5 : ∀ b o, H' b ≠ none → s'.heap.get? b = some o → h'.get? b = some o := fun b o n z => kp b o (fun q => n (by rw [q]; exact A.na)) (fun q => n (by rw [q]; exact A.nk)) z
    have ne5 : ∀ {b : Addr} {u : HO}, H' b = some u → b ≠ aa := fun {b u} z q => by rw [q, A.na] at z; cases z
    have hok5 : HOk X.prog X.w (upd H' aa (.lst ys)) h' := fun b u z => by
      by_cases hb : b = aa
      · rw [hb, upd_same] at z
        cases z
        rw [hb]
        exact ⟨lo, out, c, vo, ha⟩
      · rw [upd_ne hb] at z
        refine (A.hok b u z).stay (fun c v hc q => keep5 c v ?_ q) (fun d q => by rw [upd_ne (ne5 q)]; exact q) fun d _ q => by rw [upd_ne (ne5 q)]; exact q
        rcases hc with hc | hc
        · rw [hc, z]; exact fun w => by cases w
        · rw [hc]; exact fun w => by cases w
    refine ⟨rfl, .ref aa, upd H' aa (.lst ys), I2.call' (ch := []) A.os ⟨fun b o z n1 n2 n3 => ?_, fun b o z n1 n2 n3 => ?_, fun b o z n1 n2 => ?_, fun b o z n => ?_, fun b x z => ?_, fun b o u z => ?_, fun b ps z => ?_⟩ hok5 A.bare (fun b z => absurd z (by simp)), rfl, hQ _ r1 _ E5 (A.ren.mono x5) ?_⟩
    · exact kp b o (nb b o z).1 (nb b o z).2 (A.un.keep b o z n1 n2 n3)
    · obtain ⟨sl, q⟩ := A.un.slot b o z n1 n2 n3
      exact ⟨sl, kp b _ (nb b o z).1 (nb b o z).2 q⟩
    · rw [upd_ne (nb b o z).1]; exact A.un.free b o z n1 n2
    · obtain ⟨o', q⟩ := A.un.there b o z n
      exact ⟨o', kp b _ (nb b o z).1 (nb b o z).2 q⟩
    · have q := A.un.tups b x z
      rw [upd_ne (ne5 q)]; exact q
    · have q := A.un.frzs b o u z
      rw [upd_ne (ne5 q)]; exact q
    · obtain ⟨more, q⟩ := A.un.tbls b ps z
      exact ⟨more, by rw [upd_ne (ne5 q)]; exact q⟩
    · simp only [Rep]
      exact ⟨aa, ys, rfl, .inl ⟨nr, .inl upd_same⟩, Reps.mono x5 _ _ ro⟩
theorem pe_srk {arg ak : E} {js : List Nat} {p lpos kpos pos : Pos} {e body : Expr} {params : Arguments} {scope : Scope} {y : Str} {fr : List Str} {cc P : Addr}
    (he : PE X e (tE X.K cA cF noW (evE T C arg))) (hst : starEach [e] X.env = (false, eval e X.env) :: starEach [] X.env) (hg : Gl X "sorted") (hm : X.mg "sorted" = none) (TB : TabB X.base X.mg cc P) (hcode : X.env.code = .ref cc) (hdef : defaultsOf params X.env = ([], []))
    (S : NScope (y :: fr) [y] fr scope) (hfree : ∀ z ∈ scope.names, z.2 = .free → X.env.scope.names.lookup z.1 = some .cell ∨ X.env.scope.names.lookup z.1 = some .free) (hfr : ∀ z ∈ fr, (z, NameKind.free) ∈ scope.names) (hjs : js.map (fun j => X.N[j]?) = fr.map some)
    (hbind : ∀ (q : Str) (cl : List (Str × Addr)) (pm cv ctv u : Value), bindArgs (PySem.W.kla_fn "<lambda>" q params body scope cl pm cv ctv) ⟨[u], []⟩ = pure [(y, u)])
    (hr : Room (k + 4) X.A)
    (hbody : ∀ (A : Around) (outer : List Env) (s : Shared) (H : Hp) (f c' : Addr), Room (k + 1) (A.deeper (envF (lamF X params scope c') f s.heap.objs.size)) →
      PE (ncx (L2.CX X.prog X.w) X.prog X.w X.K X.mg X.base (y :: fr) (lamF X params scope c') f A outer s H (fun _ _ _ => False)) body (tE X.K cA cF noW (evE T C ak))) :
    PE X (.Call (.Name "sorted" p) [e] [⟨some "key", .Lambda params body scope lpos, kpos⟩] pos) (tSrk false X.K cA cF P T C arg ak js) := by
  have hjl : js.length = fr.length := by
    have q := congrArg List.length hjs
    simpa using q
  refine ⟨fun pins s σ H Q I q => ?_⟩
  obtain ⟨r, en, h, v, h2, xs, κ, E0, n0, hP, hev, hxs, hkey, hQ⟩ := q
  have hxs : getL h2 v = some xs := hxs
  refine wpAny_Call_Name_kw (ld_blt I hg hm rfl ?_ (by decide) (by decide))
  refine PyProof.Rows.callWith_kw (thn ((pa_cons he pa_nil hst).run pos pins s σ H (fun vs H1 => ∃ (V : V) (r1 : List Addr), vs = [V] ∧ H1 P = some (.tbl #[]) ∧ Emb X.K cA cF H1 r1 h2 ∧ REn X.K cA cF H1 r1 en σ ∧ Rep X.K cA cF H1 r1 v V) I ?_) fun us s1 hq => ?_) (by rw [hst]; rfl) (by rw [hst]; rfl)
  · refine ⟨r, en, h, E0, n0, ?_⟩
    rw [hev]
    intro r' H' V x1 x2 x3
    exact ⟨V, r', rfl, (x1.keep _ _ hP (emb_tbl E0 hP)).1, x2, n0.mono x1, x3⟩
  obtain ⟨_, H1, I1, rv, V, r1, rfl, hP1, E1, n1, p1⟩ := hq
  obtain ⟨l, vs, rfl, l1, q1⟩ := getL_ok E1 hxs p1
  have hus : us = [Value.ref l] := by
    cases rv with
    | cons ra rb =>
      cases rb with
      | nil => rw [show _ = Value.ref l from ra]
  subst hus
  show wpAny _ _ (evalAll [(do let v ← eval (.Lambda params body scope lpos) X.env; standAt pos; pure v)]) _ _ s1
  refine wpAny_evalAll_cons (wpAny_bind (lam_make2 (T := [(P, X.env.qual ++ "<lambda>")]) I1 TB hcode (List.mem_singleton.mpr rfl) (fun p hp _ => by rw [List.mem_singleton.mp hp]) (fun p hp => by rw [List.mem_singleton.mp hp]; exact TabS.nil hP1) hdef
    (fun z hz e => (hfree z hz e).elim (fun q => I1.ok.has _ (.inl q)) fun q => I1.ok.has _ (.inr q)) fun f c' pm ctv H2 s2 I2 eN T2 hf hfn hfr2 hco => wpAny_bind (wpAny_standAt (wpAny_pure (wpAny_evalAll_nil ?_)))))
  show wpAny _ _ (call (.builtin "sorted") [.ref l] [(Str.ofString "key", .ref f)]) _ _ s2
  have nt : NoT H1 H2 := eN
  have E2 := emb_not nt E1
  have n2 := ren_not nt n1
  have q2 := reps_not nt _ _ q1
  have sq : SqL X.K H2 l vs := by
    rcases l1 with l1 | l1
    · exact .inl (.inl (nt _ _ l1 fun ps z => (by cases z)))
    · exact (fzl_not nt l1).sq
  obtain ⟨its, rits, pl, hz⟩ := I2.list sq
  have lvx := q2.length
  have lvi := rits.length
  refine PySem.W.sorted_of_sort pl.isList (by omega) (PyProof.Rows.ksk_s1 _ _) (fun x => PyProof.Rows.ksk_l1 _ _) fun E' => ?_
  exact srk_core S hfree hfr hjs hbind hr hbody I2 hf hfn hfr2 hco E2 n2 q2 rits (by omega) hkey hQ (cp := PySem.W.copyHeap s2.heap its) (tk0 := s2.toks) (aa := s2.heap.objs.size + 1) (PySem.W.copyHeap_at s2.heap its) (fun b o z => PySem.W.copyHeap_old z) (Nat.le_succ _)
theorem collect_range2 {prog : Program} {w : World} {A : Around} {E : Value → Shared → Prop} {s : Shared} {r : Addr} {a b c : Int} {t u v : Tok} {n : Nat} {Q : List Value → Shared → Prop} (hh : A.handled = none) (hr : IsRange s.heap r a b c t u v) (hsmall : Builtin.Range.small a b c = true) (hn : Builtin.Range.rangeSize a b c = n) (hlen : n ≤ 2 ^ 24)
    (hQ : ∀ (h' : Heap) (tk : Nat) (acc : Array Value), (∀ b o, s.heap.get? b = some o → h'.get? b = some o) → @LT.lt Nat _ s.heap.objs.size h'.objs.size → ItemsOf (fun i v => ∃ t, v = .int (a + i * c) t) acc n → Q acc.toList { s with heap := h', toks := tk }) :
    wpAny (model prog w) A (collect (.ref r)) Q E s := by
  unfold collect
  refine wpAny_bind (wpAny_runValue (codeAny_builtin F.entry_proto_collect ?_))
  rw [Around.under_plainId F.plain_proto_collect _]
  show wpAny _ A.in1 (newList [] >>= fun l => again (.builtin "list.__iadd__" ⟨[l, .ref r], []⟩)) _ _ s
  refine wpAny_bind (wpAny_newObj_type ?_)
  refine wpAny_pure ⟨plainId_quiet F.plain_list_iadd _, codeAny_builtin F.entry_list_iadd ?_⟩
  rw [Around.under_plainId F.plain_list_iadd _]
  show wpAny _ A.in1 (Builtin.List.listExtendWith (.ref s.heap.objs.size) (.ref r) (.ref s.heap.objs.size)) _ _ _
  have hS : (s.heap.push { cls := .type "list", data := .seq ([] : List Value).toArray }).get? s.heap.objs.size = some { cls := .type "list", data := .seq #[] 0 } := Heap.get?_push_size _ rfl
  refine wpAny_mono (wpAny_extend_range (A := A) (R := fun rr s' => rr = .ok (.ret (.ref s.heap.objs.size)) ∧ ∃ (h' : Heap) (tk : Nat) (acc : Array Value) (c' : Nat), s' = { s with heap := h', toks := tk } ∧
      (∀ b o, s.heap.get? b = some o → h'.get? b = some o) ∧ h'.get? s.heap.objs.size = some { cls := .type "list", dict := none, data := .seq acc c', slots := #[] } ∧ ItemsOf (fun i v => ∃ t, v = .int (a + i * c) t) acc n)
    (s := { s with heap := s.heap.push { cls := .type "list", data := .seq ([] : List Value).toArray } }) hh (Heap.get?_push_of_some _ hr) hsmall hn hlen _ _ 0 hS
    (fun h' tk acc c' hk e hi => ⟨rfl, h', tk, acc, c', rfl, fun b o q => hk b o (Nat.ne_of_lt (Heap.lt_size q)) (Heap.get?_push_of_some _ q), e, hi⟩)) (fun fin s' h => ?_) (fun e s' h => ?_)
  · cases fin with
    | done f =>
      obtain ⟨e, h', tk, acc, c', rfl, hk, hS', hi⟩ := h
      cases e
      show wpAny _ A (load s.heap.objs.size >>= _) _ _ _
      exact wpAny_bind (wpAny_load hS' (wpAny_pure (hQ h' tk acc hk (Heap.lt_size hS') hi)))
    | again c' =>
      refine ⟨h.1, codeAny_mono h.2 fun rr s'' hr' => ?_⟩
      obtain ⟨rfl, h', tk, acc, c', rfl, hk, hS', hi⟩ := hr'
      show wpAny _ A (load s.heap.objs.size >>= _) _ _ _
      exact wpAny_bind (wpAny_load hS' (wpAny_pure (hQ h' tk acc hk (Heap.lt_size hS') hi)))
  · exact absurd h.1 (by simp)
theorem sorted_of_range {prog : Program} {w : World} {A : Around} {E : Value → Shared → Prop} {s : Shared} {r : Addr} {a b c : Int} {t u v : Tok} {n : Nat} {kw : List (Str × Value)} {Q : Value → Shared → Prop} (hh : A.handled = none) (hr : IsRange s.heap r a b c t u v) (hsmall : Builtin.Range.small a b c = true) (hn : Builtin.Range.rangeSize a b c = n) (hlen : n ≤ 1000000)
    (ha1 : argsOk "sorted" ⟨[.ref r], kw⟩) (ha2 : ∀ x, argsOk "list.sort" ⟨[.ref x], kw⟩)
    (body : ∀ (E' : Value → Shared → Prop) (h' : Heap) (tk : Nat) (acc : List Value), (∀ b o, s.heap.get? b = some o → h'.get? b = some o) → @LT.lt Nat _ s.heap.objs.size h'.objs.size → ItemsOf (fun i v => ∃ t, v = .int (a + i * c) t) acc.toArray n →
      wpAny (model prog w) A.in1.in1 (Builtin.«list.sort» ⟨[.ref h'.objs.size], kw⟩) (fun f s' => f = .done (.ret .none) ∧ Q (.ref h'.objs.size) s') E' { s with heap := h'.push (seqObj "list" acc.toArray 0), toks := tk }) :
    wpAny (model prog w) A (call (.builtin "sorted") [.ref r] kw) Q E s := by
  refine PyProof.Rows.call_function_entry_kw PyProof.Rows.kind_sorted PyProof.Rows.plain_sorted PyProof.Rows.entry_sorted ha1 ?_
  unfold Builtin.«sorted»
  refine wpAny_bind (m := checkCount "sorted" 1 1 _) (wpAny_pure ?_)
  refine wpAny_bind (collect_range2 (A := A.in1) hh hr hsmall hn (by omega) fun h' tk acc hk hlt hi => ?_)
  have hL : acc.toList.length ≤ sizeLine := by
    rw [Array.length_toList, hi.1, sizeLine_eq]; omega
  have ei : acc.toList.toArray = acc := by simp
  have hi' : ItemsOf (fun i v => ∃ t, v = .int (a + i * c) t) acc.toList.toArray n := by rw [ei]; exact hi
  refine wpAny_bind (wpAny_newList ?_ hL)
  refine wpAny_bind (wpAny_holding (PyProof.Rows.wpAny_call_entry_kw PyProof.Rows.slot_list_sort ⟨_, Heap.get?_push_size _ rfl, rfl⟩ PyProof.Rows.entry_list_sort ?body (ha2 _)))
  case body =>
    show wpAny (model prog w) A.in1.in1 (Builtin.«list.sort» ⟨[.ref h'.objs.size], kw⟩) _ _ { s with heap := h'.push (seqObj "list" acc.toList.toArray 0), toks := tk }
    refine wpAny_mono (body _ h' tk acc.toList hk hlt hi') (fun f s' hf => ?_) fun _ _ e => e
    obtain ⟨rfl, hq⟩ := hf
    exact ⟨_, rfl, wpAny_pure ⟨_, rfl, hq⟩⟩
theorem pe_srkR {arg ak : E} {js : List Nat} {p p2 pos2 lpos kpos pos : Pos} {e body : Expr} {params : Arguments} {scope : Scope} {y : Str} {fr : List Str} {cc P : Addr}
    (he : PE X e (tE X.K cA cF noW (evE T C arg))) (hst : starEach [e] X.env = (false, eval e X.env) :: starEach [] X.env) (hg2 : Gl X "range") (hm2 : X.mg "range" = none) (hg : Gl X "sorted") (hm : X.mg "sorted" = none) (TB : TabB X.base X.mg cc P) (hcode : X.env.code = .ref cc) (hdef : defaultsOf params X.env = ([], []))
    (S : NScope (y :: fr) [y] fr scope) (hfree : ∀ z ∈ scope.names, z.2 = .free → X.env.scope.names.lookup z.1 = some .cell ∨ X.env.scope.names.lookup z.1 = some .free) (hfr : ∀ z ∈ fr, (z, NameKind.free) ∈ scope.names) (hjs : js.map (fun j => X.N[j]?) = fr.map some)
    (hbind : ∀ (q : Str) (cl : List (Str × Addr)) (pm cv ctv u : Value), bindArgs (PySem.W.kla_fn "<lambda>" q params body scope cl pm cv ctv) ⟨[u], []⟩ = pure [(y, u)])
    (hr : Room (k + 4) X.A)
    (hbody : ∀ (A : Around) (outer : List Env) (s : Shared) (H : Hp) (f c' : Addr), Room (k + 1) (A.deeper (envF (lamF X params scope c') f s.heap.objs.size)) →
      PE (ncx (L2.CX X.prog X.w) X.prog X.w X.K X.mg X.base (y :: fr) (lamF X params scope c') f A outer s H (fun _ _ _ => False)) body (tE X.K cA cF noW (evE T C ak))) :
    PE X (.Call (.Name "sorted" p) [.Call (.Name "range" p2) [e] [] pos2] [⟨some "key", .Lambda params body scope lpos, kpos⟩] pos) (tSrk true X.K cA cF P T C arg ak js) := by
  refine ⟨fun pins s σ H Q I q => ?_⟩
  obtain ⟨r, en, h, v, h2, xs, κ, E0, n0, hP, hev, hxs, hkey, hQ⟩ := q
  obtain ⟨n, rfl, hn0, hn1, rfl⟩ := rgA_some hxs
  have nst : starEach [.Call (.Name "range" p2) [e] [] pos2] X.env = (false, eval (.Call (.Name "range" p2) [e] [] pos2) X.env) :: starEach [] X.env := rfl
  have hrng : wpAny (model X.prog X.w) X.A (eval (.Call (.Name "range" p2) [e] [] pos2) X.env) (fun x s1 => ∃ (rr : Addr) (t u v : Tok) (ro : Obj) (H1 : Hp) (r1 : List Addr), x = .ref rr ∧ (∀ g : Heap, g.get? rr = some ro → IsRange g rr 0 n 1 t u v) ∧ L2.Inv X ((rr, ro) :: pins) σ H1 s1 ∧ H1 P = some (.tbl #[]) ∧ Emb X.K cA cF H1 r1 h2 ∧ REn X.K cA cF H1 r1 en σ) X.xe s := by
    refine Call_ (ld_blt I hg2 hm2 boot_range (PyProof.Rows.callWith_type1 (one_arg (R := fun x H1 => ∃ r1 : List Addr, x = .int n ∧ H1 P = some (.tbl #[]) ∧ Emb X.K cA cF H1 r1 h2 ∧ REn X.K cA cF H1 r1 en σ) he I ?_ (fun v s2 x H2 I2 rv q => ?_) hst) hst))
    · refine ⟨r, en, h, E0, n0, ?_⟩
      rw [hev]
      intro r' H' V x1 x2 x3
      have x3 : V = .int n := by simpa only [Rep] using x3
      exact ⟨r', x3, (x1.keep _ _ hP (emb_tbl E0 hP)).1, x2, n0.mono x1⟩
    · obtain ⟨r1, rfl, q1, q2, q3⟩ := q
      obtain ⟨t, rfl⟩ := rv
      refine call_range_1 ⟨_, s2.toks, t, s2.toks + 1, { cls := .type "range", data := .fields #[.int 0 s2.toks, .int n t, .int 1 (s2.toks + 1)] }, H2, r1, rfl, fun g hg => hg, ?_, q1, q2, q3⟩
      have I3 := I2.kept (t' := s2.toks + 1 + 1) (h' := s2.heap.push { cls := .type "range", data := .fields #[.int 0 s2.toks, .int n t, .int 1 (s2.toks + 1)] }) fun b u e => Heap.get?_push_of_some _ e
      refine I3.pins_of fun p hp => ?_
      rcases List.mem_cons.mp hp with rfl | hp
      · exact ⟨Heap.get?_push_size _ rfl, I2.hok.fresh (Nat.le_refl _), Ne.symm (Nat.ne_of_lt I2.lt), I2.nofs (Nat.le_refl _), fun v z => by cases z⟩
      · exact I3.pin p (List.mem_append_right _ hp)
  refine wpAny_Call_Name_kw (ld_blt I hg hm rfl ?_ (by decide) (by decide))
  refine PyProof.Rows.callWith_kw (thn (Q := fun us s1 => ∃ (rr : Addr) (t u v : Tok) (ro : Obj) (H1 : Hp) (r1 : List Addr), us = [Value.ref rr] ∧ (∀ g : Heap, g.get? rr = some ro → IsRange g rr 0 n 1 t u v) ∧ L2.Inv X ((rr, ro) :: pins) σ H1 s1 ∧ H1 P = some (.tbl #[]) ∧ Emb X.K cA cF H1 r1 h2 ∧ REn X.K cA cF H1 r1 en σ) (args_cons (thn hrng fun vv s1 hq => args_nil ?_) nst) fun us s1 hq => ?_) (by rfl) (by rfl)
  · obtain ⟨rr, t, u, v, ro, H1, r1, rfl, z⟩ := hq
    exact ⟨rr, t, u, v, ro, H1, r1, rfl, z⟩
  obtain ⟨rr, t, u, v, ro, H1, r1, rfl, hro, I1, hP1, E1, n1⟩ := hq
  show wpAny _ _ (evalAll [(do let v ← eval (.Lambda params body scope lpos) X.env; standAt pos; pure v)]) _ _ s1
  refine wpAny_evalAll_cons (wpAny_bind (lam_make2 (T := [(P, X.env.qual ++ "<lambda>")]) I1 TB hcode (List.mem_singleton.mpr rfl) (fun p hp _ => by rw [List.mem_singleton.mp hp]) (fun p hp => by rw [List.mem_singleton.mp hp]; exact TabS.nil hP1) hdef
    (fun z hz e => (hfree z hz e).elim (fun q => I1.ok.has _ (.inl q)) fun q => I1.ok.has _ (.inr q)) fun f c' pm ctv H2 s2 I2 eN T2 hf hfn hfr2 hco => wpAny_bind (wpAny_standAt (wpAny_pure (wpAny_evalAll_nil ?_)))))
  show wpAny _ _ (call (.builtin "sorted") [.ref rr] [(Str.ofString "key", .ref f)]) _ _ s2
  have nt : NoT H1 H2 := eN
  have E2 := emb_not nt E1
  have n2 := ren_not nt n1
  have I2' : L2.Inv X pins σ H2 s2 := I2.pins_of fun p hp => I2.pin p (List.mem_append_right _ (List.mem_cons_of_mem _ hp))
  have hra := hro s2.heap (I2.pin (rr, ro) (List.mem_append_right _ List.mem_cons_self)).1
  have q2 : Reps X.K cA cF H2 r1 (((List.range n.toNat).map fun (i : Nat) => (i : Int)).map .int) (((List.range n.toNat).map fun (i : Nat) => (i : Int)).map V.int) := reps_intsJ _
  have hrs : Builtin.Range.rangeSize 0 n 1 = (n.toNat : Int) := by
    rw [rangeSize_one]
    split <;> omega
  refine sorted_of_range (hr.hd) hra ?_ hrs (by omega) (PyProof.Rows.ksk_s1 _ _) (fun x => PyProof.Rows.ksk_l1 _ _) fun E' h' tk acc hk hlt hi => ?_
  · exact small_one (by omega) (by omega) (by omega) (by omega)
  have lacc : acc.length = n.toNat := by
    have := hi.1
    simpa using this
  have rits : Vals (((List.range n.toNat).map fun (i : Nat) => (i : Int)).map V.int) acc := by
    have z := vals_of_get acc (fun i => V.int (i : Int)) fun j u hu => by
      obtain ⟨t, ht⟩ := hi.2 j u (by simpa using hu)
      exact ⟨t, by rw [ht, Int.mul_one, Int.zero_add]⟩
    rw [lacc] at z
    rw [List.map_map]
    exact z
  have hz : acc.length ≤ sizeLine := by rw [lacc, sizeLine_eq]; omega
  exact srk_core S hfree hfr hjs hbind hr hbody I2' hf hfn hfr2 hco E2 n2 q2 rits hz hkey hQ (cp := h'.push (seqObj "list" acc.toArray 0)) (tk0 := tk) (aa := h'.objs.size) (Heap.get?_push_size _ rfl) (fun b o z => Heap.get?_push_of_some _ (hk b o z)) (Nat.le_of_lt hlt)
end
/-! ### the law's def -/
section
variable {p : PD} {P : Program} {w : World} {K : PySem.W.Frag} {mg : Str → Option Value} {h0 : Heap} {base : Heap}
theorem fc_ok (hok : p.fds.all (fun d => d.ok p) = true) (hin : p.inCls) (tb : p.tabs) (c : p.says K) (X : K.In h0) (G : h0.Ns mainGlobals mg) (sr : base.NoSeer) (tr : P.given.tree = none) (n : Nat) (d : FD) :
    Fc P w K mg base (p.cA K) p.T.fld p.T (run p.T p.fs n) (34 + 2 * n) (p.ck d) := by
  obtain ⟨c1, c2⟩ := PD.says_ok c
  have exf := PD.exF_ok hin tb c1
  obtain ⟨o1, o2, o3⟩ := PD.says_ob c
  have bnd : ∀ {d : FD} {fd : FuncData}, d.ok p = true → FunD K d.name d.qual (defArgs d.st) (defBody d.st) (defScope d.st) [] [] (He.fAd K d.at_) fd → Binds K fd d.ps [] := by
    intro d fd hd F
    obtain ⟨S, h2, _, _, h5, _⟩ := FD.scope hd
    obtain ⟨oc, od, dV, kV, doc, pm, an, cdv, ct, osl, rfl, lk, hcd, hdv, hkv⟩ := F.ex
    rcases hdv with ⟨_, rfl⟩ | ⟨z, _⟩
    · exact .all fun us hl => bind_plainA h5 (S.nd.sublist (List.take_sublist _ _)) us hl
    · exact absurd rfl z
  have ih := run_ok (P := P) (w := w) (base := base) hok hin tb c X G sr tr n
  exact {
    fn := fun g x e => by
      have e2 : ∃ d', (p.fds[g]? = some d' ∨ (p.fds[g]? = none ∧ big ≤ g ∧ p.fds[g - big]? = some d')) ∧ (match d'.at_.2 with | none => some d'.at_.1 | some _ => none) = some x := by
        unfold Ck.fa at e
        have ef : (p.ck d).fnm = p.fds.map fun d => match d.at_.2 with | none => some d.at_.1 | some _ => none := rfl
        rw [ef, List.getElem?_map, List.getElem?_map] at e
        cases q1 : p.fds[g]? with
        | some d' => rw [q1] at e; simp only [Option.map_some, Option.some.injEq] at e; exact ⟨d', .inl rfl, e⟩
        | none =>
          rw [q1] at e
          simp only [Option.map_none] at e
          split at e
          · rename_i hb
            obtain ⟨d', hd', e3⟩ := Option.map_eq_some_iff.mp e
            exact ⟨d', .inr ⟨rfl, hb, hd'⟩, e3⟩
          · cases e
      obtain ⟨d', hcase, e3⟩ := e2
      have hex : ∃ fd', FunD K d'.name d'.qual (defArgs d'.st) (defBody d'.st) (defScope d'.st) [] [] (He.fAd K d'.at_) fd' ∧
          FnOk P w K mg base (L2.CX P w) (34 + 2 * n) (He.fAd K d'.at_) fd' d'.ps (spR K (p.cA K) p.T.fld (run p.T p.fs n) g) ∧ ∃ g' : Nat, p.fds[g']? = some d' := by
        rcases hcase with hd' | ⟨h0, hb, hd'⟩
        · obtain ⟨fd', F', O', _⟩ := ih g d' hd'
          exact ⟨fd', F', O', g, hd'⟩
        · obtain ⟨fd', F', _, O'⟩ := ih (g - big) d' hd'
          have eg : g - big + big = g := Nat.sub_add_cancel hb
          rw [eg] at O'
          exact ⟨fd', F', O' h0, g - big, hd'⟩
      obtain ⟨fd', F', O', g', hd'⟩ := hex
      have hz : d'.at_ = (x, none) := by
        obtain ⟨⟨a1, a2⟩, _⟩ := d'
        cases a2 with
        | none => simp only [Option.some.injEq] at e3; simp [e3]
        | some _ => cases e3
      have hg := He.glo_ok X G (says_fact c2 (f := .glo x) (by
        unfold PD.fa
        refine List.mem_append_right _ (List.mem_filterMap.mpr ⟨d', List.mem_of_getElem? hd', ?_⟩)
        rw [hz]))
      have hd'' : d'.ok p = true := List.all_eq_true.mp hok d' (List.mem_of_getElem? hd')
      refine ⟨He.fAd K d'.at_, fd', d'.ps, O', ?_, F'.kp, bnd hd'' F'⟩
      rw [hg, hz]; rfl
    free := fun x hx => He.free_ok X G (says_fact c2 (f := .free x) (by
      unfold PD.fa
      simp only [List.append_assoc]
      exact List.mem_append_left _ (List.mem_map.mpr ⟨x, hx, rfl⟩)))
    gi := fun x i hx => He.int_ok X G (says_fact c2 (f := .int x i) (by
      unfold PD.fa
      simp only [List.append_assoc]
      exact List.mem_append_right _ (List.mem_append_left _ (List.mem_map.mpr ⟨(x, i), hx, rfl⟩))))
    gs := fun x i hx => He.str_ok X G (says_fact c2 (f := .str x i) (by
      unfold PD.fa
      simp only [List.append_assoc]
      exact List.mem_append_right _ (List.mem_append_right _ (List.mem_append_left _ (List.mem_map.mpr ⟨(x, i), hx, rfl⟩)))))
    cl := fun e x hx => by
      have hx : p.cls[e]? = some x := hx
      have hm : x ∈ p.cls := List.mem_of_getElem? hx
      have hA : p.cA K e = He.ga K x := by unfold PD.cA; rw [List.getD_eq_getElem?_getD, hx]; rfl
      rw [hA]
      exact ⟨He.glo_ok X G (says_fact c2 (f := .glo x) (by
        unfold PD.fa
        simp only [List.append_assoc]
        exact List.mem_append_right _ (List.mem_append_right _ (List.mem_append_right _ (List.mem_append_left _ (List.mem_map.mpr ⟨x, hm, rfl⟩)))))), He.keep_ok (says_fact c2 (f := .keep x) (by
        unfold PD.fa
        simp only [List.append_assoc]
        exact List.mem_append_right _ (List.mem_append_right _ (List.mem_append_right _ (List.mem_append_right _ (List.mem_append_left _ (List.mem_map.mpr ⟨x, hm, rfl⟩)))))))⟩
    ex := exf
    fl := rfl
    ob := fun d ho => by
      have z := List.all_eq_true.mp o1 d (List.mem_range.mpr (tb.ob d (.inl ho)))
      simp only [Bool.and_eq_true, Bool.or_eq_true, Bool.not_eq_true'] at z
      have z1 := z.1.resolve_left (by rw [ho]; decide)
      exact ⟨He.cls_ok z1.1, fun f hf => He.noat_ok (List.all_eq_true.mp z1.2 f hf)⟩
    mt := fun d m g ho hm => by
      have z := List.all_eq_true.mp o2 _ (tb.mt d m g hm)
      dsimp only at z
      split at z
      · rename_i x d' hx hd'
        simp only [Bool.and_eq_true, decide_eq_true_eq, Bool.not_eq_true', List.contains_eq_mem, decide_eq_false_iff_not] at z
        obtain ⟨⟨z1, z2⟩, z3⟩ := z
        obtain ⟨fd', F', O', _⟩ := ih g d' hd'
        have hd'' : d'.ok p = true := List.all_eq_true.mp hok d' (List.mem_of_getElem? hd')
        refine ⟨z3, He.fAd K d'.at_, fd', d'.ps, O', ?_, bnd hd'' F'⟩
        have hA : p.cA K d = He.ga K x := by unfold PD.cA; rw [List.getD_eq_getElem?_getD, hx]; rfl
        rw [hA, ← z2]
        exact He.meth_ok z1
      · cases z
    mtC := fun d m g ho hm => by
      have z := List.all_eq_true.mp o2 _ (tb.mt d m g hm)
      dsimp only at z
      split at z
      · rename_i x d' hx hd'
        simp only [Bool.and_eq_true, decide_eq_true_eq, Bool.not_eq_true', List.contains_eq_mem, decide_eq_false_iff_not] at z
        obtain ⟨⟨z1, z2⟩, z3⟩ := z
        obtain ⟨fd', F', _, O'⟩ := ih g d' hd'
        have hd'' : d'.ok p = true := List.all_eq_true.mp hok d' (List.mem_of_getElem? hd')
        have hlen : p.fds.length ≤ 100000 := by
          have h9 := hd''
          unfold FD.ok at h9
          rw [Bool.and_eq_true, decide_eq_true_eq] at h9
          exact h9.1
        refine ⟨z3, He.fAd K d'.at_, fd', d'.ps, O' (List.getElem?_eq_none (by unfold big; omega)), ?_, bnd hd'' F'⟩
        have hA : p.cA K d = He.ga K x := by unfold PD.cA; rw [List.getD_eq_getElem?_getD, hx]; rfl
        rw [hA, ← z2]
        exact He.meth_ok z1
      · cases z
    mkI := fun d g ho hm => by
      have z := List.all_eq_true.mp o3 _ (tb.ini d g hm)
      dsimp only at z
      split at z
      · rename_i x d' hx hd'
        simp only [Bool.and_eq_true, decide_eq_true_eq] at z
        obtain ⟨z1, z2⟩ := z
        obtain ⟨fd', F', O', _⟩ := ih g d' hd'
        have hd'' : d'.ok p = true := List.all_eq_true.mp hok d' (List.mem_of_getElem? hd')
        refine ⟨He.fAd K d'.at_, fd', d'.ps, O', ?_, bnd hd'' F'⟩
        have hA : p.cA K d = He.ga K x := by unfold PD.cA; rw [List.getD_eq_getElem?_getD, hx]; rfl
        rw [hA, ← z2]
        exact He.mkr_ok z1
      · cases z
    m0 := fun d h0 => by
      have z := List.all_eq_true.mp o1 d (List.mem_range.mpr (tb.ob d (.inr h0)))
      simp only [Bool.and_eq_true, Bool.or_eq_true, Bool.not_eq_true'] at z
      have z1 := z.2.resolve_left (by rw [h0]; decide)
      exact ⟨z1.1, He.eqO_ok z1.2⟩ }
end
/-- the law's text: statements, then x = sorted(arg, key=lambda y: ak), then statements -/
structure LD where
  D : FD
  pre : Ss
  i : Nat
  arg : E
  ak : E
  js : List Nat
  y : Str
  fr : List Str
  post : Ss
  m : Nat
  rg : Bool
def okS (d : FD) : Bool :=
  decide ((defScope d.st).kind = .function) && decide ((defScope d.st).isCoroutine = false) && decide ((defScope d.st).isGenerator = false) && decide d.N.Nodup &&
  d.ps.all (fun x => decide ((defScope d.st).names.lookup x = some .local) || decide ((defScope d.st).names.lookup x = some .cell)) &&
  (defScope d.st).names.all (fun y => decide (y.2 ≠ .free)) && decide (d.fi.np ≤ d.N.length) && decide (d.fi.nl = d.N.length) && plainArgs (defArgs d.st) d.ps
theorem okS_scope {d : FD} (h : okS d = true) : FnScope d.N d.ps (defScope d.st) ∧ d.ps.length = d.fi.np ∧ d.fi.nl = d.N.length ∧ plainArgs (defArgs d.st) d.ps = true := by
  unfold okS at h
  simp only [Bool.and_eq_true, decide_eq_true_eq, List.all_eq_true, Bool.or_eq_true] at h
  obtain ⟨⟨⟨⟨⟨⟨⟨⟨h1, h2⟩, h3⟩, h4⟩, h5⟩, h6⟩, h7⟩, h8⟩, h9⟩ := h
  refine ⟨⟨h1, h2, h3, h4, ?_, h5, h6⟩, ?_, h8, h9⟩
  · unfold FD.ps; rw [List.length_take, Nat.min_eq_left h7]
  · unfold FD.ps; rw [List.length_take]; omega
def notStar : Expr → Bool
  | .Starred _ _ => false
  | _ => true
theorem star_one {e : Expr} {env : Env} (h : notStar e = true) : starEach [e] env = (false, eval e env) :: starEach [] env := by
  cases e <;> first | rfl | cases h
def LD.lck (L : LD) (p : PD) (scope : Scope) : Ck := { p.ck L.D with N := L.y :: L.fr, sc := scope }
/-- the text of what is sorted -/
def ckArg (L : LD) (p : PD) (e : Expr) : Bool :=
  if L.rg = true then (match e with
    | .Call (.Name g _) [e'] [] _ => decide (g = Str.ofString "range") && decide (Str.ofString "range" ∈ p.free) && decide ((defScope L.D.st).names.lookup (Str.ofString "range") = some .globalImplicit) && (notStar e' && ckE (p.ck L.D) L.arg e')
    | _ => false) else ckE (p.ck L.D) L.arg e
/-- the statement's text -/
def ckSrk (L : LD) (p : PD) : Stmt → Bool
  | .Assign [.Name z _] (.Call (.Name f _) [e] [⟨some kw, .Lambda params body scope _, _⟩] _) _ =>
    decide (f = Str.ofString "sorted") && decide (kw = Str.ofString "key") && decide (Str.ofString "sorted" ∈ p.free) && decide ((defScope L.D.st).names.lookup (Str.ofString "sorted") = some .globalImplicit) &&
    (decide (L.D.N[L.i]? = some z) && decide ((defScope L.D.st).names.lookup z = some .local)) && (notStar e && ckArg L p e) && plainArgs params [L.y] &&
    nscB (L.y :: L.fr) [L.y] L.fr scope && scope.names.all (fun q => decide (q.2 ≠ .free) || decide ((defScope L.D.st).names.lookup q.1 = some .cell) || decide ((defScope L.D.st).names.lookup q.1 = some .free)) &&
    L.fr.all (fun z => decide ((z, NameKind.free) ∈ scope.names)) && decide (L.js.map (fun j => L.D.N[j]?) = L.fr.map some) && ckE (L.lck p scope) L.ak body
  | _ => false
def LD.ok (L : LD) (p : PD) : Bool := okS L.D && (ckSs (p.ck L.D) L.pre ((defBody L.D.st).take L.m) && ((match (defBody L.D.st)[L.m]? with | some x => ckSrk L p x | none => false) && ckSs (p.ck L.D) L.post ((defBody L.D.st).drop (L.m + 1))))
theorem split_at {α : Type} {l : List α} {m : Nat} {x : α} (h : l[m]? = some x) : l = l.take m ++ x :: l.drop (m + 1) := by
  obtain ⟨hm, e⟩ := List.getElem?_eq_some_iff.mp h
  rw [← e, List.getElem_cons_drop, List.take_append_drop]
theorem lam_bind {y q : Str} {b : Expr} {params : Arguments} {sc : Scope} {cl : List (Str × Addr)} {pm cv ctv u : Value} (h : plainArgs params [y] = true) : bindArgs (PySem.W.kla_fn "<lambda>" q params b sc cl pm cv ctv) ⟨[u], []⟩ = pure [(y, u)] := by
  obtain ⟨po, ar, va, ko, kd, kw, df⟩ := params
  unfold plainArgs at h
  simp only [Bool.and_eq_true, decide_eq_true_eq, List.isEmpty_iff, Option.isNone_iff_eq_none] at h
  obtain ⟨⟨⟨⟨⟨⟨rfl, hy⟩, rfl⟩, rfl⟩, rfl⟩, rfl⟩, rfl⟩ := h
  cases ar with
  | nil => simp at hy
  | cons a ar =>
    cases ar with
    | cons _ _ => simp at hy
    | nil =>
      have hy : a.arg = y := by simpa using hy
      subst hy
      have hn : notAStandIn Value.none = pure () := rfl
      unfold bindArgs
      simp [PySem.W.kla_fn, seqItems?, hn]
theorem lam_dflt {params : Arguments} {y : Str} {env : Env} (h : plainArgs params [y] = true) : defaultsOf params env = ([], []) := by
  obtain ⟨po, ar, va, ko, kd, kw, df⟩ := params
  unfold plainArgs at h
  simp only [Bool.and_eq_true, decide_eq_true_eq, List.isEmpty_iff, Option.isNone_iff_eq_none] at h
  obtain ⟨⟨⟨⟨⟨⟨rfl, hy⟩, rfl⟩, rfl⟩, rfl⟩, rfl⟩, rfl⟩ := h
  rfl
section
variable {X : Cx} {cA : Nat → Addr} {cF : Nat → List Str} {T : Tab} {C : Nat → List MV → HP → R MV} {k : Nat} {c : Ck} {W : WX}
theorem pss_pre {rest : List Stmt} {t : TS} (hrest : PSs X rest t) : ∀ (ss : Ss) (FC : Fc X.prog X.w X.K X.mg X.base cA cF T C k c) (G : Gs X c k) (tk : Takes X W) (xs : List Stmt), ckSs c ss xs = true →
    PSs X (xs ++ rest) (fun D σ H => tS X.K cA cF W (exSs T C ss) { D with nx := t D } σ H)
  | .nil, FC, G, tk, xs, hh => by
    cases xs with
    | cons _ _ => simp [ckSs] at hh
    | nil =>
      refine PSsimp hrest fun D σ H q => ?_
      obtain ⟨r, e, h, E, n, w⟩ := q
      simp only [exSs] at w
      exact w r H σ Ext.refl E n
  | .cons s ss, FC, G, tk, xs, hh => by
    cases xs with
    | nil => simp [ckSs] at hh
    | cons x xs =>
      simp only [ckSs, Bool.and_eq_true] at hh
      refine PSsimp (pss_cons (sndS s X W FC G tk x hh.1) (pss_pre hrest ss FC G tk xs hh.2)) fun D σ H q => ?_
      obtain ⟨r, e, h, E, n, w⟩ := q
      simp only [exSs] at w
      exact ⟨r, e, h, E, n, wpO_seq w⟩
end

section
variable {p : PD} {P : Program} {w : World} {K : PySem.W.Frag} {mg : Str → Option Value} {h0 : Heap} {base : Heap}
/-- what the law's run must show -/
def LawRun (p : PD) (L : LD) (k : Nat) (args : List MV) : Prop := ∃ (e1 : EN) (h1 : HP) (v : MV) (h2 : HP) (xs : List MV) (κ : MV → Int) (h3 : HP),
  exSs p.T (run p.T p.fs k) L.pre (Rm.start L.D.fi args) [] = .nx e1 h1 ∧ evE p.T (run p.T p.fs k) L.arg e1 h1 = .ok v h2 ∧ srcA L.rg h2 v = some xs ∧
  (∀ x ∈ xs, evE p.T (run p.T p.fs k) L.ak (some x :: L.js.map fun j => (e1[j]?).join) h2 = .ok (.int (κ x)) h2) ∧
  exSs p.T (run p.T p.fs k) L.post (e1.set L.i (some (.lst (srt κ xs)))) h2 = .ret (.bl true) h3
def spLaw (p : PD) (K : PySem.W.Frag) (L : LD) (k : Nat) (tb : Addr) : Sp := fun vs H Q _ => vs.length = L.D.ps.length ∧ ∃ args : List MV, args.length = L.D.fi.np ∧ Emb K (p.cA K) p.T.fld H [] [] ∧ Reps K (p.cA K) p.T.fld H [] args vs ∧ H tb = some (.tbl #[]) ∧ LawRun p L k args ∧ ∀ H', Q (.bl true) H'
theorem start_ren {H : Hp} {r : List Addr} {cA : Nat → Addr} {cF : Nat → List Str} {D : FD} {args : List MV} {vs : List V} (hl : args.length = D.fi.np) (h3 : D.fi.nl = D.N.length) (p1 : Reps K cA cF H r args vs) : REn K cA cF H r (Rm.start D.fi args) (L2.start D.N vs) := by
  refine ⟨?_, fun i v e => ?_⟩
  · unfold Rm.start L2.start
    rw [List.length_append, List.length_append, List.length_map, List.length_map, List.length_replicate, List.length_replicate, p1.length, hl, h3]
  · unfold Rm.start at e
    have hi : i < args.length := by
      by_cases hi : i < args.length
      · exact hi
      · rw [List.getElem?_append_right (by simpa using hi), List.getElem?_replicate] at e
        split at e <;> cases e
    rw [List.getElem?_append_left (by simpa using hi), List.getElem?_map] at e
    cases ea : args[i]? with
    | none => rw [ea] at e; cases e
    | some x =>
      rw [ea] at e
      simp only [Option.map_some, Option.some.injEq] at e
      subst e
      obtain ⟨V, k1, k2⟩ := p1.get ea
      refine ⟨V, ?_, k2⟩
      unfold L2.start
      rw [List.getElem?_append_left (by rw [List.length_map, p1.length]; exact hi), List.getElem?_map, k1]; rfl
theorem law_fn (hok : p.fds.all (fun d => d.ok p) = true) (hin : p.inCls) (tb : p.tabs) (c : p.says K) (X : K.In h0) (G : h0.Ns mainGlobals mg) (sr : base.NoSeer) (tr : P.given.tree = none) (L : LD) (hL : L.ok p = true) (k : Nat) {fd : FuncData}
    (F : FunD K L.D.name L.D.qual (defArgs L.D.st) (defBody L.D.st) (defScope L.D.st) [] [] (He.fAd K L.D.at_) fd) (TB : TabB base mg (He.cT K L.D.at_).1 (He.cT K L.D.at_).2) :
    FnOk P w K mg base (L2.CX P w) (34 + 2 * k + 6) (He.fAd K L.D.at_) fd L.D.ps (spLaw p K L k (He.cT K L.D.at_).2) := by
  have FC := fc_ok (P := P) (w := w) (base := base) hok hin tb c X G sr tr k L.D
  unfold LD.ok at hL
  simp only [Bool.and_eq_true] at hL
  obtain ⟨hs, hpre, hst, hpost⟩ := hL
  obtain ⟨S, h2, h3, h5⟩ := okS_scope hs
  cases hx : (defBody L.D.st)[L.m]? with
  | none => rw [hx] at hst; cases hst
  | some x =>
  rw [hx] at hst
  have hst : ckSrk L p x = true := hst
  obtain ⟨oc, od, dV, kV, doc, pm, an, cdv, ct, osl, rfl, lk, hcd, _, _⟩ := F.ex
  obtain ⟨cc, rfl⟩ := He.codeIn_ref hcd
  have ecc : He.codeOf K L.D.at_ = cc := He.codeOf_eq lk rfl
  have TB : TabB base mg cc (He.cT K L.D.at_).2 := by
    have q : (He.cT K L.D.at_).1 = cc := ecc
    rw [q] at TB; exact TB
  refine fn_of lk hcd S (fun vs H Q E q => q.1) fun A outer s H vs Q E hr q => ?_
  obtain ⟨_, args, hl, Em, p1, hP, ⟨e1, h1, v, hh2, xs, κ, hh3, r1, r2, r3, r4, r5⟩, hQ⟩ := q
  obtain ⟨tP, htP⟩ : ∃ t, (He.cT K L.D.at_).2 = t := ⟨_, rfl⟩
  rw [htP] at TB hP
  obtain ⟨X0, hX0⟩ : ∃ X0, cxOf (L2.CX P w) P w K mg base L.D.N L.D.qual (defScope L.D.st) (He.fAd K L.D.at_) (.ref cc) A outer s H E = X0 := ⟨_, rfl⟩
  have hr0 : Room (34 + 2 * k + 5) (A.deeper (envOfC L.D.qual (defScope L.D.st) s.heap.objs.size (He.fAd K L.D.at_) (.ref cc))) := hr
  have G0 : Gs (cxOf (L2.CX P w) P w K mg base L.D.N L.D.qual (defScope L.D.st) (He.fAd K L.D.at_) (.ref cc) A outer s H E) (p.ck L.D) (34 + 2 * k) :=
    { hN := rfl, sc := rfl, rm := hr0.mono (by omega), calm := rfl, nd := S.nd, deep := ⟨sr, tr, by have := hr0.dp; show (A.deeper (envOfC L.D.qual (defScope L.D.st) s.heap.objs.size (He.fAd K L.D.at_) (.ref cc))).depth + 100 < _; omega, ⟨_, _, rfl, S.gen, S.co, rfl, rfl⟩, ⟨_, _, _, rfl, rfl, rfl⟩⟩, fn := fun _ => rfl, own := passes_of rfl, stk := rfl, frm := rfl, exn := rfl }
  have tk : Takes (cxOf (L2.CX P w) P w K mg base L.D.N L.D.qual (defScope L.D.st) (He.fAd K L.D.at_) (.ref cc) A outer s H E) (fun cls dd _ H => E cls dd H) := takes_of rfl rfl rfl rfl
  -- the statement
  unfold ckSrk at hst
  split at hst <;> first | (cases hst; done) | skip
  rename_i z zp f fp e kw params body scope lpos kpos cpos apos _
  simp only [Bool.and_eq_true, decide_eq_true_eq, List.all_eq_true, Bool.or_eq_true] at hst
  obtain ⟨⟨⟨⟨⟨⟨⟨⟨⟨⟨⟨rfl, rfl⟩, c3⟩, c4⟩, c5, c6⟩, c7, c8⟩, c9⟩, c10⟩, c11⟩, c12⟩, c13⟩, c14⟩ := hst
  have Sl := nscope_by c10
  have hpe : PE (cxOf (L2.CX P w) P w K mg base L.D.N L.D.qual (defScope L.D.st) (He.fAd K L.D.at_) (.ref cc) A outer s H E) (.Call (.Name (Str.ofString "sorted") fp) [e] [⟨some (Str.ofString "key"), .Lambda params body scope lpos, kpos⟩] cpos) (tSrk L.rg K (p.cA K) p.T.fld tP p.T (run p.T p.fs k) L.arg L.ak L.js) := by
    unfold ckArg at c8
    cases hrg : L.rg with
    | false =>
      rw [hrg, if_neg (by decide)] at c8
      exact pe_srk (X := cxOf (L2.CX P w) P w K mg base L.D.N L.D.qual (defScope L.D.st) (He.fAd K L.D.at_) (.ref cc) A outer s H E) (cA := p.cA K) (cF := p.T.fld) (T := p.T) (C := run p.T p.fs k) (k := 34 + 2 * k) (arg := L.arg) (ak := L.ak) (js := L.js) (p := fp) (lpos := lpos) (kpos := kpos) (pos := cpos) (body := body) (cc := cc) (P := tP)
                (snd FC G0.toGd takesF_no L.arg e c8).1 (star_one c7) c4 (FC.free _ c3) TB rfl (lam_dflt c9) Sl
            (fun q hq eq => by
              rcases c11 q hq with (y1 | y2) | y3
              · exact absurd eq y1
              · exact .inl y2
              · exact .inr y3)
            (fun q hq => c12 q hq) c13 (fun q cl pm cv ctv u => lam_bind c9) (hr0.mono (by omega))
            (fun A' outer' s' H' f' c' hr' => (snd (X := ncx (L2.CX P w) P w K mg base (L.y :: L.fr) (lamF (cxOf (L2.CX P w) P w K mg base L.D.N L.D.qual (defScope L.D.st) (He.fAd K L.D.at_) (.ref cc) A outer s H E) params scope c') f' A' outer' s' H' (fun _ _ _ => False)) (c := L.lck p scope) (FC.re (c := p.ck L.D) (c' := L.lck p scope) rfl rfl rfl rfl rfl)
              { hN := rfl, sc := rfl, rm := hr', calm := rfl, nd := Sl.nd, deep := ⟨sr, tr, by have := hr'.dp; show (A'.deeper (envF _ _ _)).depth + 100 < _; omega, ⟨_, _, rfl, Sl.gen, Sl.co, rfl, rfl⟩, ⟨_, _, _, rfl, rfl, rfl⟩⟩ } takesF_no L.ak body c14).1)
    | true =>
      rw [hrg, if_pos rfl] at c8
      split at c8 <;> first | (cases c8; done) | skip
      rename_i g gp e' gpos
      simp only [Bool.and_eq_true, decide_eq_true_eq] at c8
      obtain ⟨⟨⟨rfl, d1⟩, d2⟩, d3, d4⟩ := c8
      exact pe_srkR (X := cxOf (L2.CX P w) P w K mg base L.D.N L.D.qual (defScope L.D.st) (He.fAd K L.D.at_) (.ref cc) A outer s H E) (cA := p.cA K) (cF := p.T.fld) (T := p.T) (C := run p.T p.fs k) (k := 34 + 2 * k) (arg := L.arg) (ak := L.ak) (js := L.js) (p := fp) (lpos := lpos) (kpos := kpos) (pos := cpos) (body := body) (cc := cc) (P := tP)
                (snd FC G0.toGd takesF_no L.arg e' d4).1 (star_one d3) d2 (FC.free _ d1) c4 (FC.free _ c3) TB rfl (lam_dflt c9) Sl
            (fun q hq eq => by
              rcases c11 q hq with (y1 | y2) | y3
              · exact absurd eq y1
              · exact .inl y2
              · exact .inr y3)
            (fun q hq => c12 q hq) c13 (fun q cl pm cv ctv u => lam_bind c9) (hr0.mono (by omega))
            (fun A' outer' s' H' f' c' hr' => (snd (X := ncx (L2.CX P w) P w K mg base (L.y :: L.fr) (lamF (cxOf (L2.CX P w) P w K mg base L.D.N L.D.qual (defScope L.D.st) (He.fAd K L.D.at_) (.ref cc) A outer s H E) params scope c') f' A' outer' s' H' (fun _ _ _ => False)) (c := L.lck p scope) (FC.re (c := p.ck L.D) (c' := L.lck p scope) rfl rfl rfl rfl rfl)
              { hN := rfl, sc := rfl, rm := hr', calm := rfl, nd := Sl.nd, deep := ⟨sr, tr, by have := hr'.dp; show (A'.deeper (envF _ _ _)).depth + 100 < _; omega, ⟨_, _, rfl, Sl.gen, Sl.co, rfl, rfl⟩, ⟨_, _, _, rfl, rfl, rfl⟩⟩ } takesF_no L.ak body c14).1)
  have hset := ps_set (i := L.i) (pos := apos) (pos' := zp) S.nd c5 (.inl c6) hpe (by rfl) (.inl rfl)
  have hpo := sndSs L.post _ _ FC G0 tk _ hpost
  have hall := pss_pre (pss_cons hset hpo) L.pre FC G0 tk _ hpre
  rw [← split_at hx] at hall
  refine ⟨_, hall, ?_⟩
  refine ⟨[], Rm.start L.D.fi args, [], Em, start_ren hl h3 p1, ?_⟩
  rw [r1]
  intro r' H' σ' x1 E1 n1
  refine ⟨r', e1, h1, v, hh2, xs, κ, E1, n1, (x1.keep _ _ hP (by simp)).1, r2, r3, r4, fun H2 r2' V E2 n2 pV => ?_⟩
  refine ⟨r2', _, hh2, E2, n2.set pV, ?_⟩
  rw [r5]
  intro r3' H3 V3 _ _ pV3
  have pV3 : V3 = .bl true := by simpa only [Rep] using pV3
  rw [pV3]
  exact hQ H3
end
/-! ### the end -/
abbrev AlL : Type := He.AlD × (He.AlD × Bool)
def lfa (L : LD) : List He.Fa := [He.Fa.glo L.D.at_.1]
def obsL (p : PD) (L : LD) (g : Addr → Option Obj) : AlL := (p.obs (He.frT g (asP g)), (He.obsD (lfa L) [L.D.defD] (He.frT g (asP g)), He.tabsB g [L.D.at_] (He.frT g (asP g))))
structure SaysL (p : PD) (L : LD) (h : Heap) (K : PySem.W.Frag) : Prop where
  p : p.says K
  d : He.SaysD (lfa L) [L.D.defD] K
  hd : PySem.W.codeHdIn K (He.cT K L.D.at_).1 (He.cT K L.D.at_).2 = true
  out : K.lookup (He.cT K L.D.at_).2 = none
  empty : h.get? (He.cT K L.D.at_).2 = some { cls := .none, data := .fields #[] }
theorem saysL_of {p : PD} {L : LD} {h : Heap} (e : obsL p L h.get? = (He.valD p.fn, (He.valD [L.D.defD], true))) : SaysL p L h (He.frT h.get? (asP h.get?)) := by
  have e1 : p.obs (He.frT h.get? (asP h.get?)) = He.valD p.fn := congrArg (fun z : AlL => z.1) e
  have e2 : He.obsD (lfa L) [L.D.defD] (He.frT h.get? (asP h.get?)) = He.valD [L.D.defD] := congrArg (fun z : AlL => z.2.1) e
  have e3 : He.tabsB h.get? [L.D.at_] (He.frT h.get? (asP h.get?)) = true := congrArg (fun z : AlL => z.2.2) e
  have e4 := List.all_eq_true.mp e3 L.D.at_ (List.mem_singleton.mpr rfl)
  obtain ⟨e5, e6⟩ := He.ba e4
  cases q : h.get? (He.cT (He.frT h.get? (asP h.get?)) L.D.at_).2 with
  | none => rw [q] at e6; cases e6
  | some o =>
    rw [q] at e6
    have e6 : He.emptyTab o = true := e6
    exact ⟨e1, e2, e5, He.frT_none q e6, by rw [q, He.emptyTab_eq e6]⟩
def hookL (p : PD) (L : LD) : PySem.W.Hook where
  α := AlL
  obs := fun s => obsL p L s.heap.get?
  val := fun _ => (He.valD p.fn, (He.valD [L.D.defD], true))
  says := fun _ h => ∃ K : PySem.W.Frag, K.In h ∧ SaysL p L h K
  of := fun _ _ e => ⟨_, He.frT_in, saysL_of e⟩
  keeps := fun _ _ _ ⟨K, hK, c⟩ k => ⟨K, PySem.W.Frag.In.keeps hK k, ⟨c.p, c.d, c.hd, c.out, k _ _ c.empty⟩⟩
theorem obsL_eq {p : PD} {L : LD} {g : Addr → Option Obj} {s : Shared} (h : ∀ a, g a = s.heap.get? a) : obsL p L g = (hookL p L).obs s := by
  have e : g = s.heap.get? := funext h
  rw [e] <;> rfl
theorem law_callT {P : Program} {w : World} {K : PySem.W.Frag} {mg mb : Str → Option Value} {CX : CXT} {k : Nat} {fa a cc tb : Addr} {fd : FuncData} {x : Str} {sp : Sp} {s₁ : Shared} {vs : List Value} {ns : List Int}
    (KX : K.In s₁.heap) (hns : s₁.heap.Ns mainGlobals mg) (hb : s₁.heap.Ns builtinsNs mb) (hbb : ∀ x : Str, x ≠ "__name__" → mb x = bootBuiltins x) (hlim : s₁.heap.NoLimit) (hseer : s₁.heap.NoSeer) (hg : s₁.gens = #[])
    (hT : s₁.heap.get? tb = some { cls := .none, data := .fields #[] }) (nT : K.lookup tb = none) (hC : PySem.W.CodeHd s₁.heap cc tb)
    (hbm : ∃ (bm : Addr) (ob : Obj), mg "__builtins__" = some (.ref bm) ∧ bm ≠ builtinsNs ∧ s₁.heap.get? bm = some ob ∧ ob.cls = .type "module" ∧ ob.dict = some builtinsNs ∧ ob.data = .plain)
    (ha : s₁.heap.get? a = some { cls := .type "list", data := .seq vs.toArray }) (hi : IntsAre vs ns) (hl : ns.length ≤ sizeLine) (hr : Room k callerA)
    (F : ∀ base : Heap, K.In base → base.Ns mainGlobals mg → base.NoSeer → TabB base mg cc tb → FnOk P w K mg base CX k fa fd [x] sp) (hbind : ∀ (s : Shared) (u : Value), BindsTo s fd ⟨[u], []⟩ [(x, u)])
    (hsp : ∀ H : Hp, H tb = some (.tbl #[]) → FzL K H [] a (ns.map V.int) → sp [.ref a] H (fun v _ => v = .bl true) fun _ _ _ => False)
    (hCX : ∀ H e s', CX [] H s₁ (fun _ _ _ => False) e s' → False) :
    codeAny (model P w) callerA (.call (.ref fa) ⟨[.ref a], []⟩) (fun r s' => r = .ok (.ret (.bool true)) ∧ OldK s₁.heap s'.heap ∧ s'.os = s₁.os ∧ AllBare s'.gens) s₁ := by
  have rv := vals_ints hi
  have lenV := hi.length
  have aT : a ≠ tb := fun z => by
    rw [z, hT] at ha
    cases ha
  have core : ∀ H : Hp, (∀ b, H b = none ∨ b = tb ∨ ∃ o xs, H b = some (.frz o (.lst xs))) → H tb = some (.tbl #[]) → FzL K H [] a (ns.map V.int) → HOk P w H s₁.heap → (∀ b, H b ≠ none → b = a ∨ b = tb) → (H a ≠ none → K.lookup a = none) →
      codeAny (model P w) callerA (.call (.ref fa) ⟨[.ref a], []⟩) (fun r s' => r = .ok (.ret (.bool true)) ∧ OldK s₁.heap s'.heap ∧ s'.os = s₁.os ∧ AllBare s'.gens) s₁ := by
    intro H hO hHT hS hok hA hK
    have base_of : ∀ {b : Addr} {o : Obj}, s₁.heap.get? b = some o → H b = none → (hidT s₁.heap H).get? b = some o := fun e n => hidT_get e n
    have noD : ∀ {b : Addr} {o : Obj}, s₁.heap.get? b = some o → (∀ vs n, o.data ≠ .seq vs n) → o.data ≠ .fields #[] → H b = none := fun {b o} e n1 n2 => by
      cases q : H b with
      | none => rfl
      | some u =>
        rcases hA b (by rw [q]; simp) with z | z
        · subst z; rw [ha] at e; cases e; exact absurd rfl (n1 _ _)
        · subst z; rw [hT] at e; cases e; exact absurd rfl n2
    have noA : ∀ {b : Addr} {o : Obj} {es : Array DictEntry} {ep : Nat}, s₁.heap.get? b = some o → o.data = .dict es ep → H b = none := fun {b o es ep} e d =>
      noD e (fun vs n z => by rw [d] at z; cases z) fun z => by rw [d] at z; cases z
    have nsK : ∀ {b : Addr} {m : Str → Option Value}, s₁.heap.Ns b m → (hidT s₁.heap H).Ns b m := fun {b m} ⟨o, es, ep, e, d, r⟩ => ⟨o, es, ep, base_of e (noA e d), d, r⟩
    have hKb : K.In (hidT s₁.heap H) := fun b o e => base_of (KX b o e) (by
      cases q : H b with
      | none => rfl
      | some u =>
        rcases hA b (by rw [q]; simp) with z | z
        · subst z; rw [hK (by rw [q]; simp)] at e; cases e
        · subst z; rw [nT] at e; cases e)
    have hM : Mod K mg (hidT s₁.heap H) := ⟨hKb, nsK hns, ⟨mb, nsK hb, hbb⟩, let ⟨mc, h1, h2⟩ := hlim; ⟨mc, nsK h1, h2⟩⟩
    have plain : ∀ {b : Addr} {o : Obj}, s₁.heap.get? b = some o → o.cls = .type "module" → H b = none := fun {b o} e q => by
      cases q2 : H b with
      | none => rfl
      | some u =>
        rcases hA b (by rw [q2]; simp) with z | z
        · subst z; rw [ha] at e; cases e
          have q' : Value.type "list" = Value.type "module" := q
          exact absurd q' (by decide)
        · subst z; rw [hT] at e; cases e; cases q
    have hSe : (hidT s₁.heap H).NoSeer := {
      statics := let ⟨mc, x, y⟩ := hseer.statics; ⟨mc, nsK x, y⟩
      mods := let ⟨mc, x, y⟩ := hseer.mods; ⟨mc, nsK x, y⟩
      imp := let ⟨mc, x, y⟩ := hseer.imp; ⟨mc, nsK x, y⟩
      main := let ⟨mg', bm, ob, x, y, z, u, v⟩ := hseer.main; ⟨mg', bm, ob, nsK x, y, base_of z (plain z u), u, v⟩ }
    have hTB : TabB (hidT s₁.heap H) mg cc tb := by
      refine ⟨?_, ?_, fun z => ?_⟩
      · obtain ⟨o, us, file, tf, flags, tg, inF, text, tt, c1, c2, c3, c4, c5⟩ := hC
        refine ⟨o, us, file, tf, flags, tg, inF, text, tt, base_of c1 (noD c1 (fun vs n z => ?_) fun z => ?_), c2, c3, c4, c5⟩
        · rw [c3] at z; cases z
        · rw [c3] at z; cases z; simp at c4
      · obtain ⟨bm, ob, b1, b2, b3, b4, b5, b6⟩ := hbm
        refine ⟨bm, ob, b1, b2, fun q => ?_, fun q => ?_, base_of b3 (plain b3 b4), b4, b5, b6⟩
        · obtain ⟨o, es, ep, e, d, _⟩ := hns
          rw [q, e] at b3
          cases b3
          rw [d] at b6; cases b6
        · rw [q, hT] at b3
          cases b3; cases b4
      · obtain ⟨o, es, ep, e, d, _⟩ := hns
        rw [z, hT] at e
        cases e; cases d
    have e0 : Env0 P w K mg (hidT s₁.heap H) callerA [] s₁ H := ⟨rfl, hM, fun b o e => of_hidT e, Nat.le_of_eq (hidT_size _ _), trivial, fun b hb => absurd (show b ∈ ([] : List Addr) from hb) (by simp), hok, .of_eq hg⟩
    refine codeAny_mono ((F _ hKb (nsK hns) hSe hTB).run callerA [] s₁ H ⟨[.ref a], []⟩ [.ref a] [.ref a] _ _ hr e0 (hbind s₁ (.ref a)) (.cons rfl .nil) (hsp H hHT hS)) fun r s' h => ?_
    cases r with
    | error e => exact (hCX H e s' h).elim
    | ok fl =>
      cases fl with
      | next => exact False.elim h
      | brk => exact False.elim h
      | cont => exact False.elim h
      | ret u =>
        obtain ⟨v, H', os, bare, un, hok', r', q⟩ := h
        have q' : v = .bl true := q
        subst q'
        obtain rfl : u = Value.bool true := r'
        have key : ∀ b o, b ≠ tb → s₁.heap.get? b = some o → s'.heap.get? b = some o := fun b o nb e => by
          cases q : H b with
          | none => exact un.keep b o e q (by intro z; exact absurd (show b ∈ ([] : List Addr) from z) (by simp)) (by simp)
          | some u =>
            rcases hO b with z | z | ⟨ob, xs, z⟩
            · rw [q] at z; cases z
            · exact absurd z nb
            · have z2 := un.frzs b ob _ z
              obtain ⟨e1, _⟩ := hok b _ z
              obtain ⟨e2, _⟩ := hok' b _ z2
              rw [e] at e1; cases e1
              exact e2
        obtain ⟨more, hm⟩ : ∃ more : Array Value, s'.heap.get? tb = some { cls := .none, data := .fields more } := by
          obtain ⟨more, z⟩ := un.tbls tb #[] hHT
          exact ⟨_, hok' tb _ z⟩
        refine ⟨rfl, ⟨fun b o e => ?_, fun b o e => ?_⟩, os, bare⟩
        · by_cases hb : b = tb
          · subst hb
            rw [hT] at e
            cases e
            exact .inr (.inl ⟨(hC.tab hT).isCodeTable, rfl, #[], more, rfl, by rw [Array.empty_append]; exact hm⟩)
          · exact .inl (key b o hb e)
        · by_cases hb : b = tb
          · subst hb; exact ⟨_, hm⟩
          · exact ⟨o, key b o hb e⟩
  cases hk : K.lookup a with
  | some o =>
    have e := KX a o hk
    rw [ha] at e
    cases e
    refine core (fun b => if b = tb then some (.tbl #[]) else none) (fun b => ?_) (if_pos rfl) (.inr ⟨vs.toArray, _, hk, by rw [List.size_toArray, lenV]; exact hl, by simpa using rv⟩) (fun b u z => ?_) (fun b z => ?_) fun z => absurd (if_neg aT) z
    · by_cases q : b = tb
      · exact .inr (.inl q)
      · exact .inl (if_neg q)
    · by_cases q : b = tb
      · have z' := (if_pos q).symm.trans z
        cases z'
        subst q
        exact hT
      · have z' := (if_neg q).symm.trans z
        cases z'
    · by_cases q : b = tb
      · exact .inr q
      · exact absurd (if_neg q) z
  | none =>
    refine core (fun b => if b = a then some (.frz { cls := .type "list", data := .seq vs.toArray } (.lst (ns.map V.int))) else if b = tb then some (.tbl #[]) else none) (fun b => ?_) ((if_neg (Ne.symm aT)).trans (if_pos rfl)) (.inl ⟨by simp, .inr ⟨{ cls := .type "list", data := .seq vs.toArray }, if_pos rfl⟩⟩) (fun b u z => ?_) (fun b z => ?_) fun _ => hk
    · by_cases hb : b = a
      · exact .inr (.inr ⟨_, _, if_pos hb⟩)
      · by_cases q : b = tb
        · exact .inr (.inl q)
        · exact .inl ((if_neg hb).trans (if_neg q))
    · by_cases hb : b = a
      · have z' := (if_pos hb).symm.trans z
        cases z'
        subst hb
        exact ⟨ha, by rw [List.length_map]; exact hl, vs, _, rv, ha⟩
      · have z1 := (if_neg hb).symm.trans z
        by_cases q : b = tb
        · have z' := (if_pos q).symm.trans z1
          cases z'
          subst q
          exact hT
        · have z' := (if_neg q).symm.trans z1
          cases z'
    · by_cases hb : b = a
      · exact .inl hb
      · by_cases q : b = tb
        · exact .inr q
        · exact absurd ((if_neg hb).trans (if_neg q)) z
theorem law_walkK {l : PySem.W.OpenLaw} {n k : Nat} {q : Program} {loose : List Str} {XP : (Str → Option Value) → Heap → Prop} {d : DefRec} {p : PD} {L : LD} {x : Str}
    (hn : l.most = some n) (hn2 : n ≤ sizeLine) (hdf : d.params.defaults = []) (hr : Room (34 + 2 * k + 6) callerA) (hin0 : importsNone q = true) (htr : l.prog.given.tree = none)
    (tb : p.tabs) (hok : p.fds.all (fun d => d.ok p) = true) (hin : p.inCls) (hL : L.ok p = true) (hat : L.D.at_ = (d.name, none)) (hps : L.D.ps = [x]) (hnp : L.D.fi.np = 1)
    (hrun : ∀ ns : List Int, ns.length ≤ n → (∀ z ∈ ns, Builtin.Int.intBits z ≤ 1048576) → LawRun p L k [.lst (ns.map .int)]) :
    PySem.W.WalkO q loose XP (hookL p L).says l.row.toRowW d [] (fun f vs => PySem.call f vs) := by
  refine Att.attach_callB hn hdf fun w s₀ s₁ mg mb fa o pm cd doc a vs ns G Y ho hd hcd hmg hobj hints hlen hbits hg => ?_
  obtain ⟨K, KX, c⟩ := Y
  have hga := He.glo_ok KX G.T.g (says_fact c.d (f := .glo d.name) (by unfold lfa; rw [hat]; exact List.mem_singleton.mpr rfl))
  rw [hmg] at hga
  have hfa : fa = He.ga K d.name := by cases hga; rfl
  have hfn : [L.D.defD][0]? = some L.D.defD := rfl
  obtain ⟨fd, F0⟩ := c.d.def_ 0 hfn
  have F : FunD K L.D.name L.D.qual (defArgs L.D.st) (defBody L.D.st) (defScope L.D.st) [] [] (He.fAd K L.D.at_) fd := F0
  have hs : okS L.D = true := by
    unfold LD.ok at hL
    rw [Bool.and_eq_true] at hL
    exact hL.1
  obtain ⟨S, h2, _, h5⟩ := okS_scope hs
  have F' := F
  obtain ⟨oc, od, dV, kV, doc', pm', an, cdv, ct, osl, rfl, lk, hcd', hdv, hkv⟩ := F'.ex
  rcases hdv with ⟨_, rfl⟩ | ⟨z, _⟩
  · refine law_callT (cc := (He.cT K L.D.at_).1) (tb := (He.cT K L.D.at_).2) KX G.T.g G.T.b G.T.builtins G.T.nolimit (G.T.seer hin0) hg c.empty c.out (PySem.W.codeHd_of_K KX c.hd) G.T.bmain hobj hints (Nat.le_trans hlen hn2) hr (k := 34 + 2 * k + 6) (x := x) (fd := PySem.W.fnOf L.D.name L.D.qual (defArgs L.D.st) (defBody L.D.st) (defScope L.D.st) .none kV doc' pm' an cdv ct) (CX := L2.CX l.prog w) (sp := spLaw p K L k (He.cT K L.D.at_).2) (fun base KB GB hbs TB => ?_) (fun s u => ?_) (fun H hHT hS => ?_) (fun H e s' z => ?_)
    · have O := law_fn (P := l.prog) (w := w) (base := base) hok hin tb c.p KX G.T.g hbs htr L hL k F TB
      rw [hps] at O
      rw [hfa]
      rw [hat] at O ⊢
      exact O
    · have b := bind_plainA (n := L.D.name) (q := L.D.qual) (b := defBody L.D.st) (sc := defScope L.D.st) (kV := kV) (doc := doc') (pm := pm') (cdv := cdv) (ct := ct) (an := an) h5 (S.nd.sublist (List.take_sublist _ _)) [u] (by rw [hps]; rfl)
      rw [hps] at b
      exact .of_eq b
    · refine ⟨by rw [hps]; rfl, [.lst (ns.map .int)], by rw [hnp]; rfl, ⟨rfl, List.nodup_nil, fun i o a e => by simp at e⟩, ?_, hHT, hrun ns hlen hbits, fun _ => rfl⟩
      simp only [Reps, Rep]
      exact ⟨_, _, rfl, ⟨a, _, rfl, hS, reps_intsJ ns⟩, rfl⟩
    · obtain ⟨_, _, _, _, _, _, _, _, _, _, _, _, z⟩ := z
      exact z
  · exact absurd rfl z
end Rm

namespace Pg
open PySem L2 Rm
def top (i : Nat) : Stmt := PySem.Challenge.pw_roundmill_k37_gathered_in_any_order.main.body.getD i (.Pass ⟨0, 0, 0, 0⟩)
/-! 0: width(size); slots 0 size -/
def fn0 : FI := ⟨1, 1, .cons (.ret (.bin .add (.bin .add (.idx (.var 0) (.cI 0)) (.idx (.var 0) (.cI 1))) (.cI 1))) (.nil), false⟩
/-! 1: bias(size); slots 0 size -/
def fn1 : FI := ⟨1, 1, .cons (.ret (.bin .sub (.bin .shl (.cI 1) (.bin .sub (.idx (.var 0) (.cI 0)) (.cI 1))) (.cI 1))) (.nil), false⟩
/-! 2: low(size); slots 0 size -/
def fn2 : FI := ⟨1, 1, .cons (.ret (.bin .sub (.bin .sub (.cI 1) (.call 1 (.cons (.var 0) (.nil)))) (.idx (.var 0) (.cI 1)))) (.nil), false⟩
/-! 3: sign_bit(size); slots 0 size -/
def fn3 : FI := ⟨1, 1, .cons (.ret (.bin .shl (.cI 1) (.bin .add (.idx (.var 0) (.cI 0)) (.idx (.var 0) (.cI 1))))) (.nil), false⟩
/-! 4: endless(size); slots 0 size -/
def fn4 : FI := ⟨1, 1, .cons (.ret (.bin .shl (.bin .sub (.bin .shl (.cI 1) (.idx (.var 0) (.cI 0))) (.cI 1)) (.idx (.var 0) (.cI 1)))) (.nil), false⟩
/-! 5: no_number(size); slots 0 size -/
def fn5 : FI := ⟨1, 1, .cons (.ret (.bin .or (.call 4 (.cons (.var 0) (.nil))) (.bin .shl (.cI 1) (.bin .sub (.idx (.var 0) (.cI 1)) (.cI 1))))) (.nil), false⟩
/-! 6: asked_fraction(top, bottom); slots 0 top, 1 bottom -/
def fn6 : FI := ⟨2, 2, .cons (.iff (.or (.cmp .lt (.var 0) (.cI 0)) (.cmp .lt (.var 1) (.cI 1))) (.cons (.rais 4) (.nil)) (.nil)) (.nil), false⟩
/-! 7: ahead(top, bottom); slots 0 top, 1 bottom, 2 power, 3 tall, 4 wide -/
def fn7 : FI := ⟨2, 5, .cons (.asg (.one 2) (.bin .sub (.me .bitlen (.var 0) .nil) (.me .bitlen (.var 1) .nil))) (.cons (.asg (.tup [3, 4]) (.call 8 (.cons (.var 0) (.cons (.var 1) (.cons (.var 2) (.nil)))))) (.cons (.iff (.cmp .lt (.var 3) (.var 4)) (.cons (.ret (.var 2)) (.nil)) (.nil)) (.cons (.ret (.bin .add (.var 2) (.cI 1))) (.nil)))), false⟩
/-! 8: scaled(top, bottom, power); slots 0 top, 1 bottom, 2 power -/
def fn8 : FI := ⟨3, 3, .cons (.iff (.cmp .lt (.var 2) (.cI 0)) (.cons (.ret (.tup (.cons (.bin .shl (.var 0) (.neg (.var 2))) (.cons (.var 1) (.nil))))) (.nil)) (.nil)) (.cons (.ret (.tup (.cons (.var 0) (.cons (.bin .shl (.var 1) (.var 2)) (.nil))))) (.nil)), false⟩
/-! 9: rest_of(left, half); slots 0 left, 1 half -/
def fn9 : FI := ⟨2, 2, .cons (.iff (.cmp .eq (.var 0) (.cI 0)) (.cons (.ret (.cI 0)) (.nil)) (.nil)) (.cons (.iff (.cmp .lt (.var 0) (.var 1)) (.cons (.ret (.cI 1)) (.nil)) (.nil)) (.cons (.iff (.cmp .eq (.var 0) (.var 1)) (.cons (.ret (.cI 2)) (.nil)) (.nil)) (.cons (.ret (.cI 3)) (.nil)))), false⟩
/-! 10: cut(size, top, bottom); slots 0 size, 1 top, 2 bottom, 3 power, 4 tall, 5 wide, 6 whole, 7 left -/
def fn10 : FI := ⟨3, 8, .cons (.exp (.call 6 (.cons (.var 1) (.cons (.var 2) (.nil))))) (.cons (.iff (.cmp .eq (.var 1) (.cI 0)) (.cons (.ret (.tup (.cons (.cI 0) (.cons (.call 2 (.cons (.var 0) (.nil))) (.cons (.cI 0) (.nil)))))) (.nil)) (.nil)) (.cons (.asg (.one 3) (.bi .max2 (.cons (.call 2 (.cons (.var 0) (.nil))) (.cons (.bin .sub (.bin .sub (.call 7 (.cons (.var 1) (.cons (.var 2) (.nil)))) (.idx (.var 0) (.cI 1))) (.cI 1)) (.nil))))) (.cons (.asg (.tup [4, 5]) (.call 8 (.cons (.var 1) (.cons (.var 2) (.cons (.var 3) (.nil)))))) (.cons (.asg (.tup [6, 7]) (.bi .dvm (.cons (.var 4) (.cons (.var 5) (.nil))))) (.cons (.ret (.tup (.cons (.var 6) (.cons (.var 3) (.cons (.call 9 (.cons (.bin .mul (.cI 2) (.var 7)) (.cons (.var 5) (.nil)))) (.nil)))))) (.nil)))))), false⟩
/-! 11: parted(size, bits); slots 0 size, 1 bits, 2 sign, 3 code, 4 field, 5 figures -/
def fn11 : FI := ⟨2, 6, .cons (.iff (.or (.cmp .lt (.var 1) (.cI 0)) (.cmp .ne (.bin .shr (.var 1) (.call 0 (.cons (.var 0) (.nil)))) (.cI 0))) (.cons (.rais 1) (.nil)) (.nil)) (.cons (.asg (.tup [2, 3]) (.bi .dvm (.cons (.var 1) (.cons (.call 3 (.cons (.var 0) (.nil))) (.nil))))) (.cons (.asg (.tup [4, 5]) (.bi .dvm (.cons (.var 3) (.cons (.bin .shl (.cI 1) (.idx (.var 0) (.cI 1))) (.nil))))) (.cons (.ret (.tup (.cons (.var 2) (.cons (.var 4) (.cons (.var 5) (.nil)))))) (.nil)))), false⟩
/-! 12: kind(size, bits); slots 0 size, 1 bits, 2 sign, 3 field, 4 figures -/
def fn12 : FI := ⟨2, 5, .cons (.asg (.tup [2, 3, 4]) (.call 11 (.cons (.var 0) (.cons (.var 1) (.nil))))) (.cons (.iff (.cmp .eq (.var 3) (.bin .sub (.bin .shl (.cI 1) (.idx (.var 0) (.cI 0))) (.cI 1))) (.cons (.ret (.ife (.cmp .eq (.var 4) (.cI 0)) (.cS "endless") (.cS "none"))) (.nil)) (.nil)) (.cons (.iff (.cmp .gt (.var 3) (.cI 0)) (.cons (.ret (.cS "plain")) (.nil)) (.nil)) (.cons (.ret (.ife (.cmp .eq (.var 4) (.cI 0)) (.cS "nought") (.cS "faint"))) (.nil)))), false⟩
/-! 13: worth(size, bits); slots 0 size, 1 bits, 2 sign, 3 field, 4 figures -/
def fn13 : FI := ⟨2, 5, .cons (.asg (.tup [2, 3, 4]) (.call 11 (.cons (.var 0) (.cons (.var 1) (.nil))))) (.cons (.iff (.cmp .eq (.var 3) (.bin .sub (.bin .shl (.cI 1) (.idx (.var 0) (.cI 0))) (.cI 1))) (.cons (.rais 2) (.nil)) (.nil)) (.cons (.iff (.cmp .eq (.var 3) (.cI 0)) (.cons (.ret (.tup (.cons (.var 2) (.cons (.var 4) (.cons (.call 2 (.cons (.var 0) (.nil))) (.nil)))))) (.nil)) (.nil)) (.cons (.ret (.tup (.cons (.var 2) (.cons (.bin .or (.var 4) (.bin .shl (.cI 1) (.idx (.var 0) (.cI 1)))) (.cons (.bin .sub (.bin .add (.call 2 (.cons (.var 0) (.nil))) (.var 3)) (.cI 1)) (.nil)))))) (.nil)))), false⟩
/-! 14: Way.grows(self, sign, odd, rest); slots 0 self, 1 sign, 2 odd, 3 rest -/
def fn14 : FI := ⟨4, 4, .cons (.ret (.cB false)) (.nil), false⟩
/-! 15: Way.bursts(self, sign); slots 0 self, 1 sign -/
def fn15 : FI := ⟨2, 2, .cons (.ret (.cB false)) (.nil), false⟩
/-! 16: Nearest.grows(self, sign, odd, rest); slots 0 self, 1 sign, 2 odd, 3 rest -/
def fn16 : FI := ⟨4, 4, .cons (.iff (.cmp .eq (.var 3) (.cI 2)) (.cons (.ret (.mcl (.var 0) "grows_midway" (.cons (.var 2) (.nil)))) (.nil)) (.nil)) (.cons (.ret (.cmp .eq (.var 3) (.cI 3))) (.nil)), false⟩
/-! 17: Nearest.grows_midway(self, odd); slots 0 self, 1 odd -/
def fn17 : FI := ⟨2, 2, .cons (.ret (.var 1)) (.nil), false⟩
/-! 18: Nearest.bursts(self, sign); slots 0 self, 1 sign -/
def fn18 : FI := ⟨2, 2, .cons (.ret (.cB true)) (.nil), false⟩
/-! 19: NearestAway.grows_midway(self, odd); slots 0 self, 1 odd -/
def fn19 : FI := ⟨2, 2, .cons (.ret (.cB true)) (.nil), false⟩
/-! 20: Outward.__init__(self, sign); slots 0 self, 1 sign -/
def fn20 : FI := ⟨2, 2, .cons (.sta (.var 0) "outward_sign" (.var 1)) (.nil), true⟩
/-! 21: Outward.grows(self, sign, odd, rest); slots 0 self, 1 sign, 2 odd, 3 rest -/
def fn21 : FI := ⟨4, 4, .cons (.ret (.and (.cmp .gt (.var 3) (.cI 0)) (.cmp .eq (.var 1) (.atr (.var 0) "outward_sign")))) (.nil), false⟩
/-! 22: Outward.bursts(self, sign); slots 0 self, 1 sign -/
def fn22 : FI := ⟨2, 2, .cons (.ret (.cmp .eq (.var 1) (.atr (.var 0) "outward_sign"))) (.nil), false⟩
/-! 23: way_of(name); slots 0 name -/
def fn23 : FI := ⟨1, 1, .cons (.iff (.cmp .eq (.var 0) (.cS "even")) (.cons (.ret (.new 7 (.nil))) (.nil)) (.nil)) (.cons (.iff (.cmp .eq (.var 0) (.cS "away")) (.cons (.ret (.new 8 (.nil))) (.nil)) (.nil)) (.cons (.iff (.cmp .eq (.var 0) (.cS "nought")) (.cons (.ret (.new 6 (.nil))) (.nil)) (.nil)) (.cons (.iff (.cmp .eq (.var 0) (.cS "up")) (.cons (.ret (.new 9 (.cons (.cI 0) (.nil)))) (.nil)) (.nil)) (.cons (.iff (.cmp .eq (.var 0) (.cS "down")) (.cons (.ret (.new 9 (.cons (.cI 1) (.nil)))) (.nil)) (.nil)) (.cons (.rais 3) (.nil)))))), false⟩
/-! 24: settled(size, way, sign, whole, power, rest); slots 0 size, 1 way, 2 sign, 3 whole, 4 power, 5 rest, 6 rule, 7 first, 8 code, 9 flags -/
def fn24 : FI := ⟨6, 10, .cons (.asg (.one 6) (.call 23 (.cons (.var 1) (.nil)))) (.cons (.asg (.one 7) (.bin .mul (.var 2) (.call 3 (.cons (.var 0) (.nil))))) (.cons (.asg (.one 8) (.bin .add (.bin .shl (.bin .sub (.var 4) (.call 2 (.cons (.var 0) (.nil)))) (.idx (.var 0) (.cI 1))) (.var 3))) (.cons (.iff (.cmp .ge (.var 8) (.call 4 (.cons (.var 0) (.nil)))) (.cons (.iff (.mcl (.var 6) "bursts" (.cons (.var 2) (.nil))) (.cons (.ret (.tup (.cons (.bin .add (.var 7) (.call 4 (.cons (.var 0) (.nil)))) (.cons (.bin .or (.gI "INEXACT" 1) (.gI "GREAT" 4)) (.nil))))) (.nil)) (.nil)) (.cons (.ret (.tup (.cons (.bin .sub (.bin .add (.var 7) (.call 4 (.cons (.var 0) (.nil)))) (.cI 1)) (.cons (.bin .or (.gI "INEXACT" 1) (.gI "GREAT" 4)) (.nil))))) (.nil))) (.nil)) (.cons (.iff (.cmp .eq (.var 5) (.cI 0)) (.cons (.ret (.tup (.cons (.bin .add (.var 7) (.var 8)) (.cons (.cI 0) (.nil))))) (.nil)) (.nil)) (.cons (.asg (.one 9) (.gI "INEXACT" 1)) (.cons (.iff (.cmp .lt (.var 3) (.bin .shl (.cI 1) (.idx (.var 0) (.cI 1)))) (.cons (.asg (.one 9) (.bin .or (.var 9) (.gI "SMALL" 2))) (.nil)) (.nil)) (.cons (.iff (.mcl (.var 6) "grows" (.cons (.var 2) (.cons (.cmp .eq (.bin .and (.var 3) (.cI 1)) (.cI 1)) (.cons (.var 5) (.nil))))) (.cons (.aug 8 .add (.cI 1)) (.nil)) (.nil)) (.cons (.iff (.cmp .eq (.var 8) (.call 4 (.cons (.var 0) (.nil)))) (.cons (.asg (.one 9) (.bin .or (.var 9) (.gI "GREAT" 4))) (.nil)) (.nil)) (.cons (.ret (.tup (.cons (.bin .add (.var 7) (.var 8)) (.cons (.var 9) (.nil))))) (.nil)))))))))), false⟩
/-! 25: rounded(size, way, sign, top, bottom); slots 0 size, 1 way, 2 sign, 3 top, 4 bottom, 5 whole, 6 power, 7 rest -/
def fn25 : FI := ⟨5, 8, .cons (.exp (.call 23 (.cons (.var 1) (.nil)))) (.cons (.asg (.tup [5, 6, 7]) (.call 10 (.cons (.var 0) (.cons (.var 3) (.cons (.var 4) (.nil)))))) (.cons (.ret (.call 24 (.cons (.var 0) (.cons (.var 1) (.cons (.var 2) (.cons (.var 5) (.cons (.var 6) (.cons (.var 7) (.nil))))))))) (.nil))), false⟩
/-! 26: total(terms); slots 0 terms, 1 least, 2 exact, 3 sign, 4 whole, 5 power, 6 part, 7 term -/
def w26_0 : Ss := .cons (.asg (.one 6) (.bin .shl (.var 4) (.bin .sub (.var 5) (.var 1)))) (.cons (.iff (.cmp .eq (.var 3) (.cI 1)) (.cons (.aug 2 .sub (.var 6)) (.nil)) (.cons (.aug 2 .add (.var 6)) (.nil))) (.nil))
@[simp] theorem w26_0e (T : Tab) (C : Nat → List MV → HP → R MV) (e : EN) (h : HP) : exSs T C w26_0 e h = exSs T C (.cons (.asg (.one 6) (.bin .shl (.var 4) (.bin .sub (.var 5) (.var 1)))) (.cons (.iff (.cmp .eq (.var 3) (.cI 1)) (.cons (.aug 2 .sub (.var 6)) (.nil)) (.cons (.aug 2 .add (.var 6)) (.nil))) (.nil))) e h := rfl
def fn26 : FI := ⟨1, 8, .cons (.asg (.one 1) (.mnd (.lcm false (.one 7) [7] (.seq (.var 0)) (.idx (.var 7) (.cI 2))) (.cI 0))) (.cons (.asg (.one 2) (.cI 0)) (.cons (.fr (.tup [3, 4, 5]) (.seq (.var 0)) w26_0) (.cons (.iff (.cmp .lt (.var 2) (.cI 0)) (.cons (.ret (.tup (.cons (.cI 1) (.cons (.neg (.var 2)) (.cons (.var 1) (.nil)))))) (.nil)) (.nil)) (.cons (.ret (.tup (.cons (.cI 0) (.cons (.var 2) (.cons (.var 1) (.nil)))))) (.nil))))), false⟩
/-! 27: nought_sign(way, signs); slots 0 way, 1 signs -/
def fn27 : FI := ⟨2, 2, .cons (.exp (.call 23 (.cons (.var 0) (.nil)))) (.cons (.iff (.cmp .eq (.bi .len (.cons (.var 1) (.nil))) (.cI 0)) (.cons (.ret (.cI 0)) (.nil)) (.nil)) (.cons (.iff (.and (.cmp .inn (.cI 0) (.var 1)) (.cmp .inn (.cI 1) (.var 1))) (.cons (.iff (.cmp .eq (.var 0) (.cS "down")) (.cons (.ret (.cI 1)) (.nil)) (.nil)) (.cons (.ret (.cI 0)) (.nil))) (.nil)) (.cons (.ret (.idx (.var 1) (.cI 0))) (.nil)))), false⟩
/-! 28: settled_total(size, way, terms); slots 0 size, 1 way, 2 terms, 3 sign, 4 whole, 5 power, 6 term -/
def fn28 : FI := ⟨3, 7, .cons (.exp (.call 23 (.cons (.var 1) (.nil)))) (.cons (.asg (.tup [3, 4, 5]) (.call 26 (.cons (.var 2) (.nil)))) (.cons (.iff (.cmp .eq (.var 4) (.cI 0)) (.cons (.ret (.tup (.cons (.bin .mul (.call 27 (.cons (.var 1) (.cons (.lcm false (.one 6) [6] (.seq (.var 2)) (.idx (.var 6) (.cI 0))) (.nil)))) (.call 3 (.cons (.var 0) (.nil)))) (.cons (.cI 0) (.nil))))) (.nil)) (.nil)) (.cons (.iff (.cmp .ge (.var 5) (.cI 0)) (.cons (.ret (.call 25 (.cons (.var 0) (.cons (.var 1) (.cons (.var 3) (.cons (.bin .shl (.var 4) (.var 5)) (.cons (.cI 1) (.nil)))))))) (.nil)) (.nil)) (.cons (.ret (.call 25 (.cons (.var 0) (.cons (.var 1) (.cons (.var 3) (.cons (.var 4) (.cons (.bin .shl (.cI 1) (.neg (.var 5))) (.nil)))))))) (.nil))))), false⟩
/-! 29: kinds_of(size, way, numbers); slots 0 size, 1 way, 2 numbers, 3 bits -/
def fn29 : FI := ⟨3, 4, .cons (.exp (.call 23 (.cons (.var 1) (.nil)))) (.cons (.ret (.lcm false (.one 3) [3] (.seq (.var 2)) (.call 12 (.cons (.var 0) (.cons (.var 3) (.nil)))))) (.nil)), false⟩
/-! 30: gone_wrong(size); slots 0 size -/
def fn30 : FI := ⟨1, 1, .cons (.ret (.tup (.cons (.call 5 (.cons (.var 0) (.nil))) (.cons (.gI "WRONG" 16) (.nil))))) (.nil), false⟩
/-! 31: endless_with(size, sign); slots 0 size, 1 sign -/
def fn31 : FI := ⟨2, 2, .cons (.ret (.bin .add (.bin .mul (.var 1) (.call 3 (.cons (.var 0) (.nil)))) (.call 4 (.cons (.var 0) (.nil))))) (.nil), false⟩
/-! 32: term_of(size, bits); slots 0 size, 1 bits, 2 sign, 3 whole, 4 power -/
def fn32 : FI := ⟨2, 5, .cons (.iff (.cmp .eq (.call 12 (.cons (.var 0) (.cons (.var 1) (.nil)))) (.cS "endless")) (.cons (.ret (.tup (.cons (.cS "endless") (.cons (.idx (.call 11 (.cons (.var 0) (.cons (.var 1) (.nil)))) (.cI 0)) (.cons (.cI 0) (.cons (.cI 0) (.nil))))))) (.nil)) (.nil)) (.cons (.asg (.tup [2, 3, 4]) (.call 13 (.cons (.var 0) (.cons (.var 1) (.nil))))) (.cons (.ret (.tup (.cons (.cS "finite") (.cons (.var 2) (.cons (.var 3) (.cons (.var 4) (.nil))))))) (.nil))), false⟩
/-! 33: product_term(size, a, b); slots 0 size, 1 a, 2 b, 3 one, 4 two, 5 sign, 6 term -/
def w33_0 : Ss := .cons (.iff (.and (.cmp .eq (.idx (.var 6) (.cI 0)) (.cS "finite")) (.cmp .eq (.idx (.var 6) (.cI 2)) (.cI 0))) (.cons (.ret (.tup (.cons (.cS "wrong") (.cons (.cI 0) (.cons (.cI 0) (.cons (.cI 0) (.nil))))))) (.nil)) (.nil)) (.nil)
@[simp] theorem w33_0e (T : Tab) (C : Nat → List MV → HP → R MV) (e : EN) (h : HP) : exSs T C w33_0 e h = exSs T C (.cons (.iff (.and (.cmp .eq (.idx (.var 6) (.cI 0)) (.cS "finite")) (.cmp .eq (.idx (.var 6) (.cI 2)) (.cI 0))) (.cons (.ret (.tup (.cons (.cS "wrong") (.cons (.cI 0) (.cons (.cI 0) (.cons (.cI 0) (.nil))))))) (.nil)) (.nil)) (.nil)) e h := rfl
def fn33 : FI := ⟨3, 7, .cons (.asg (.one 3) (.call 32 (.cons (.var 0) (.cons (.var 1) (.nil))))) (.cons (.asg (.one 4) (.call 32 (.cons (.var 0) (.cons (.var 2) (.nil))))) (.cons (.asg (.one 5) (.bin .xor (.idx (.var 3) (.cI 1)) (.idx (.var 4) (.cI 1)))) (.cons (.iff (.and (.cmp .eq (.idx (.var 3) (.cI 0)) (.cS "finite")) (.cmp .eq (.idx (.var 4) (.cI 0)) (.cS "finite"))) (.cons (.ret (.tup (.cons (.cS "finite") (.cons (.var 5) (.cons (.bin .mul (.idx (.var 3) (.cI 2)) (.idx (.var 4) (.cI 2))) (.cons (.bin .add (.idx (.var 3) (.cI 3)) (.idx (.var 4) (.cI 3))) (.nil))))))) (.nil)) (.nil)) (.cons (.fr (.one 6) (.seq (.lst (.cons (.var 3) (.cons (.var 4) (.nil))))) w33_0) (.cons (.ret (.tup (.cons (.cS "endless") (.cons (.var 5) (.cons (.cI 0) (.cons (.cI 0) (.nil))))))) (.nil)))))), false⟩
/-! 34: sum_of_terms(size, way, terms); slots 0 size, 1 way, 2 terms, 3 signs, 4 worths, 5 sort, 6 sign, 7 whole, 8 power -/
def w34_0 : Ss := .cons (.iff (.cmp .eq (.var 5) (.cS "wrong")) (.cons (.ret (.call 30 (.cons (.var 0) (.nil)))) (.nil)) (.nil)) (.cons (.iff (.cmp .eq (.var 5) (.cS "endless")) (.cons (.app (.var 3) (.var 6)) (.cons (.cont) (.nil))) (.nil)) (.cons (.app (.var 4) (.tup (.cons (.var 6) (.cons (.var 7) (.cons (.var 8) (.nil)))))) (.nil)))
@[simp] theorem w34_0e (T : Tab) (C : Nat → List MV → HP → R MV) (e : EN) (h : HP) : exSs T C w34_0 e h = exSs T C (.cons (.iff (.cmp .eq (.var 5) (.cS "wrong")) (.cons (.ret (.call 30 (.cons (.var 0) (.nil)))) (.nil)) (.nil)) (.cons (.iff (.cmp .eq (.var 5) (.cS "endless")) (.cons (.app (.var 3) (.var 6)) (.cons (.cont) (.nil))) (.nil)) (.cons (.app (.var 4) (.tup (.cons (.var 6) (.cons (.var 7) (.cons (.var 8) (.nil)))))) (.nil)))) e h := rfl
def fn34 : FI := ⟨3, 9, .cons (.asg (.one 3) (.cel (.nil))) (.cons (.asg (.one 4) (.cel (.nil))) (.cons (.fr (.tup [5, 6, 7, 8]) (.seq (.var 2)) w34_0) (.cons (.iff (.and (.cmp .inn (.cI 0) (.var 3)) (.cmp .inn (.cI 1) (.var 3))) (.cons (.ret (.call 30 (.cons (.var 0) (.nil)))) (.nil)) (.nil)) (.cons (.iff (.cmp .gt (.bi .len (.cons (.var 3) (.nil))) (.cI 0)) (.cons (.ret (.tup (.cons (.call 31 (.cons (.var 0) (.cons (.idx (.var 3) (.cI 0)) (.nil)))) (.cons (.cI 0) (.nil))))) (.nil)) (.nil)) (.cons (.ret (.call 28 (.cons (.var 0) (.cons (.var 1) (.cons (.var 4) (.nil)))))) (.nil)))))), false⟩
/-! 35: gathered(size, way, xs, ys); slots 0 size, 1 way, 2 xs, 3 ys, 4 x, 5 y -/
def fn35 : FI := ⟨4, 6, .cons (.exp (.call 23 (.cons (.var 1) (.nil)))) (.cons (.iff (.cmp .ne (.bi .len (.cons (.var 2) (.nil))) (.bi .len (.cons (.var 3) (.nil)))) (.cons (.rais 5) (.nil)) (.nil)) (.cons (.iff (.cmp .inn (.cS "none") (.call 29 (.cons (.var 0) (.cons (.var 1) (.cons (.bin .add (.var 2) (.var 3)) (.nil)))))) (.cons (.ret (.tup (.cons (.call 5 (.cons (.var 0) (.nil))) (.cons (.cI 0) (.nil))))) (.nil)) (.nil)) (.cons (.ret (.call 34 (.cons (.var 0) (.cons (.var 1) (.cons (.lcm false (.tup [4, 5]) [4, 5] (.zip (.var 2) (.var 3)) (.call 33 (.cons (.var 0) (.cons (.var 4) (.cons (.var 5) (.nil)))))) (.nil)))))) (.nil)))), false⟩
/-! 36: summed(size, way, xs); slots 0 size, 1 way, 2 xs, 3 x -/
def fn36 : FI := ⟨3, 4, .cons (.iff (.cmp .inn (.cS "none") (.call 29 (.cons (.var 0) (.cons (.var 1) (.cons (.var 2) (.nil)))))) (.cons (.ret (.tup (.cons (.call 5 (.cons (.var 0) (.nil))) (.cons (.cI 0) (.nil))))) (.nil)) (.nil)) (.cons (.ret (.call 34 (.cons (.var 0) (.cons (.var 1) (.cons (.lcm false (.one 3) [3] (.seq (.var 2)) (.call 32 (.cons (.var 0) (.cons (.var 3) (.nil))))) (.nil)))))) (.nil)), false⟩
/-! 37: _law_cell_at(_law_script, _law_k); slots 0 _law_script, 1 _law_k -/
def fn37 : FI := ⟨2, 2, .cons (.iff (.cmp .lt (.var 1) (.bi .len (.cons (.var 0) (.nil)))) (.cons (.ret (.idx (.var 0) (.var 1))) (.nil)) (.nil)) (.cons (.ret (.cI 0)) (.nil)), false⟩
/-! 38: _law_whole(_law_found); slots 0 _law_found -/
def fn38 : FI := ⟨1, 1, .cons (.ret (.and (.isT (.var 0) "int") (.not (.isT (.var 0) "bool")))) (.nil), false⟩
/-! 39: _law_size_by(_law_cell); slots 0 _law_cell, 1 _law_way, 2 _law_rest -/
def fn39 : FI := ⟨1, 3, .cons (.asg (.one 1) (.bin .mod (.var 0) (.cI 8))) (.cons (.asg (.one 2) (.bin .fdv (.var 0) (.cI 8))) (.cons (.iff (.cmp .lt (.var 1) (.cI 4)) (.cons (.ret (.idx (.lst (.cons (.tup (.cons (.cI 5) (.cons (.cI 10) (.nil)))) (.cons (.tup (.cons (.cI 8) (.cons (.cI 23) (.nil)))) (.cons (.tup (.cons (.cI 11) (.cons (.cI 52) (.nil)))) (.cons (.tup (.cons (.cI 15) (.cons (.cI 112) (.nil)))) (.nil)))))) (.var 1))) (.nil)) (.nil)) (.cons (.iff (.cmp .lt (.var 1) (.cI 6)) (.cons (.ret (.tup (.cons (.bin .add (.cI 2) (.bin .mod (.var 2) (.cI 14))) (.cons (.bin .add (.cI 1) (.bin .mod (.bin .fdv (.var 2) (.cI 14)) (.cI 112))) (.nil))))) (.nil)) (.nil)) (.cons (.ret (.tup (.cons (.bin .add (.cI 2) (.bin .mod (.var 2) (.cI 4))) (.cons (.bin .add (.cI 1) (.bin .mod (.bin .fdv (.var 2) (.cI 4)) (.cI 5))) (.nil))))) (.nil))))), false⟩
/-! 40: _law_way_by(_law_cell); slots 0 _law_cell -/
def fn40 : FI := ⟨1, 1, .cons (.ret (.idx (.lst (.cons (.cS "even") (.cons (.cS "away") (.cons (.cS "nought") (.cons (.cS "up") (.cons (.cS "down") (.nil))))))) (.bin .mod (.var 0) (.cI 5)))) (.nil), false⟩
/-! 41: _law_bits_by(_law_size, _law_cell); slots 0 _law_size, 1 _law_cell, 2 _law_half, 3 _law_last, 4 _law_way, 5 _law_rest, 6 _law_side, 7 _law_figures -/
def fn41 : FI := ⟨2, 8, .cons (.asg (.one 2) (.bin .shl (.cI 1) (.bin .add (.idx (.var 0) (.cI 0)) (.idx (.var 0) (.cI 1))))) (.cons (.asg (.one 3) (.bin .shl (.bin .sub (.bin .shl (.cI 1) (.idx (.var 0) (.cI 0))) (.cI 1)) (.idx (.var 0) (.cI 1)))) (.cons (.asg (.one 4) (.bin .mod (.var 1) (.cI 9))) (.cons (.asg (.one 5) (.bin .fdv (.var 1) (.cI 9))) (.cons (.iff (.cmp .lt (.var 4) (.cI 3)) (.cons (.ret (.bin .mod (.bin .mul (.var 5) (.cI 73846150927364518273645509182736455091829)) (.bin .mul (.cI 2) (.var 2)))) (.nil)) (.nil)) (.cons (.asg (.one 6) (.bin .mul (.bin .mod (.var 5) (.cI 2)) (.var 2))) (.cons (.asg (.one 5) (.bin .fdv (.var 5) (.cI 2))) (.cons (.iff (.cmp .eq (.var 4) (.cI 3)) (.cons (.ret (.bin .add (.var 6) (.bin .mod (.var 5) (.cI 6)))) (.nil)) (.nil)) (.cons (.iff (.cmp .eq (.var 4) (.cI 4)) (.cons (.ret (.bin .add (.bin .sub (.bin .add (.var 6) (.var 3)) (.cI 3)) (.bin .mod (.var 5) (.cI 5)))) (.nil)) (.nil)) (.cons (.iff (.cmp .eq (.var 4) (.cI 5)) (.cons (.ret (.bin .add (.bin .sub (.bin .add (.var 6) (.bin .shl (.cI 1) (.idx (.var 0) (.cI 1)))) (.cI 2)) (.bin .mod (.var 5) (.cI 4)))) (.nil)) (.nil)) (.cons (.iff (.cmp .eq (.var 4) (.cI 6)) (.cons (.ret (.bin .add (.bin .sub (.bin .add (.var 6) (.bin .shl (.bin .sub (.bin .shl (.cI 1) (.bin .sub (.idx (.var 0) (.cI 0)) (.cI 1))) (.cI 1)) (.idx (.var 0) (.cI 1)))) (.cI 2)) (.bin .mod (.var 5) (.cI 5)))) (.nil)) (.nil)) (.cons (.iff (.cmp .eq (.var 4) (.cI 7)) (.cons (.ret (.bin .add (.bin .add (.bin .add (.var 6) (.var 3)) (.cI 1)) (.bin .mod (.var 5) (.bin .sub (.bin .shl (.cI 1) (.idx (.var 0) (.cI 1))) (.cI 1))))) (.nil)) (.nil)) (.cons (.asg (.one 7) (.idx (.lst (.cons (.cI 0) (.cons (.cI 1) (.cons (.bin .sub (.bin .shl (.cI 1) (.idx (.var 0) (.cI 1))) (.cI 1)) (.cons (.bin .shl (.cI 1) (.bin .sub (.idx (.var 0) (.cI 1)) (.cI 1))) (.nil)))))) (.bin .mod (.var 5) (.cI 4)))) (.cons (.ret (.bin .add (.bin .add (.var 6) (.bin .shl (.bin .mod (.bin .fdv (.var 5) (.cI 4)) (.bin .shl (.cI 1) (.idx (.var 0) (.cI 0)))) (.idx (.var 0) (.cI 1)))) (.var 7))) (.nil)))))))))))))), false⟩
/-! 42: _law_finite_by(_law_size, _law_cell); slots 0 _law_size, 1 _law_cell, 2 _law_half, 3 _law_last, 4 _law_way, 5 _law_rest, 6 _law_side, 7 _law_middle, 8 _law_field, 9 _law_figures, 10 _law_mixed -/
def fn42 : FI := ⟨2, 11, .cons (.asg (.one 2) (.bin .shl (.cI 1) (.bin .add (.idx (.var 0) (.cI 0)) (.idx (.var 0) (.cI 1))))) (.cons (.asg (.one 3) (.bin .sub (.var 2) (.bin .shl (.cI 1) (.idx (.var 0) (.cI 1))))) (.cons (.asg (.one 4) (.bin .mod (.var 1) (.cI 6))) (.cons (.asg (.one 5) (.bin .fdv (.var 1) (.cI 6))) (.cons (.iff (.cmp .lt (.var 4) (.cI 2)) (.cons (.asg (.one 10) (.bin .mod (.bin .mul (.var 5) (.cI 73846150927364518273645509182736455091829)) (.bin .mul (.cI 2) (.var 3)))) (.cons (.ret (.bin .add (.bin .mul (.bin .fdv (.var 10) (.var 3)) (.var 2)) (.bin .mod (.var 10) (.var 3)))) (.nil))) (.nil)) (.cons (.asg (.one 6) (.bin .mul (.bin .mod (.var 5) (.cI 2)) (.var 2))) (.cons (.asg (.one 5) (.bin .fdv (.var 5) (.cI 2))) (.cons (.iff (.cmp .eq (.var 4) (.cI 2)) (.cons (.ret (.bin .add (.var 6) (.bin .mod (.var 5) (.cI 6)))) (.nil)) (.nil)) (.cons (.iff (.cmp .eq (.var 4) (.cI 3)) (.cons (.ret (.bin .sub (.bin .sub (.bin .add (.var 6) (.var 3)) (.cI 1)) (.bin .mod (.var 5) (.cI 4)))) (.nil)) (.nil)) (.cons (.asg (.one 7) (.bin .sub (.bin .shl (.cI 1) (.bin .sub (.idx (.var 0) (.cI 0)) (.cI 1))) (.cI 1))) (.cons (.iff (.cmp .eq (.var 4) (.cI 4)) (.cons (.ret (.bin .add (.bin .sub (.bin .add (.var 6) (.bin .shl (.var 7) (.idx (.var 0) (.cI 1)))) (.cI 2)) (.bin .mod (.var 5) (.cI 5)))) (.nil)) (.nil)) (.cons (.asg (.one 8) (.bi .max2 (.cons (.cI 0) (.cons (.bi .min2 (.cons (.bin .sub (.bin .shl (.cI 1) (.idx (.var 0) (.cI 0))) (.cI 2)) (.cons (.bin .add (.bin .sub (.var 7) (.cI 3)) (.bin .mod (.var 5) (.cI 8))) (.nil)))) (.nil))))) (.cons (.asg (.one 9) (.bin .mod (.bin .mul (.bin .fdv (.var 5) (.cI 8)) (.cI 73846150927364518273645509182736455091829)) (.bin .shl (.cI 1) (.idx (.var 0) (.cI 1))))) (.cons (.ret (.bin .add (.bin .add (.var 6) (.bin .shl (.var 8) (.idx (.var 0) (.cI 1)))) (.var 9))) (.nil)))))))))))))), false⟩
/-! 43: _law_rows_by(_law_size, _law_cells, _law_plan); slots 0 _law_size, 1 _law_cells, 2 _law_plan, 3 _law_half, 4 _law_many, 5 _law_xs, 6 _law_ys, 7 _law_spared, 8 _law_k -/
def w43_0 : Ss := .cons (.iff (.and (.cmp .gt (.bin .mod (.var 2) (.cI 3)) (.cI 0)) (.or (.cmp .eq (.var 7) (.cI 1)) (.cmp .ne (.bin .mod (.var 8) (.var 7)) (.cI 0)))) (.cons (.app (.var 5) (.idx (.var 6) (.var 8))) (.cons (.app (.var 6) (.bin .mod (.bin .add (.idx (.var 5) (.var 8)) (.var 3)) (.bin .mul (.cI 2) (.var 3)))) (.nil))) (.nil)) (.nil)
@[simp] theorem w43_0e (T : Tab) (C : Nat → List MV → HP → R MV) (e : EN) (h : HP) : exSs T C w43_0 e h = exSs T C (.cons (.iff (.and (.cmp .gt (.bin .mod (.var 2) (.cI 3)) (.cI 0)) (.or (.cmp .eq (.var 7) (.cI 1)) (.cmp .ne (.bin .mod (.var 8) (.var 7)) (.cI 0)))) (.cons (.app (.var 5) (.idx (.var 6) (.var 8))) (.cons (.app (.var 6) (.bin .mod (.bin .add (.idx (.var 5) (.var 8)) (.var 3)) (.bin .mul (.cI 2) (.var 3)))) (.nil))) (.nil)) (.nil)) e h := rfl
def fn43 : FI := ⟨3, 9, .cons (.asg (.one 3) (.bin .shl (.cI 1) (.bin .add (.idx (.var 0) (.cI 0)) (.idx (.var 0) (.cI 1))))) (.cons (.asg (.one 4) (.bin .fdv (.bi .len (.cons (.var 1) (.nil))) (.cI 2))) (.cons (.asg (.one 5) (.lcm true (.one 8) [8] (.rng1 (.var 4)) (.call 42 (.cons (.var 0) (.cons (.idx (.var 1) (.bin .mul (.cI 2) (.var 8))) (.nil)))))) (.cons (.asg (.one 6) (.lcm true (.one 8) [8] (.rng1 (.var 4)) (.call 42 (.cons (.var 0) (.cons (.idx (.var 1) (.bin .add (.bin .mul (.cI 2) (.var 8)) (.cI 1))) (.nil)))))) (.cons (.asg (.one 7) (.bin .add (.cI 1) (.bin .mod (.bin .fdv (.var 2) (.cI 3)) (.cI 5)))) (.cons (.fr (.one 8) (.rng1 (.var 4)) w43_0) (.cons (.iff (.cmp .eq (.bin .mod (.bin .fdv (.var 2) (.cI 15)) (.cI 2)) (.cI 1)) (.cons (.asg (.one 5) (.lrv true (.var 5))) (.cons (.asg (.one 6) (.lrv true (.var 6))) (.nil))) (.nil)) (.cons (.asg (.one 4) (.bin .add (.cI 1) (.bin .mod (.bin .fdv (.var 2) (.cI 30)) (.cI 3)))) (.cons (.ret (.tup (.cons (.slc (.bin .mul (.var 5) (.var 4)) (.cN) (.cI 200)) (.cons (.slc (.bin .mul (.var 6) (.var 4)) (.cN) (.cI 200)) (.nil))))) (.nil))))))))), false⟩
/-! 44: _law_clean(_law_size, _law_bits, _law_plan); slots 0 _law_size, 1 _law_bits, 2 _law_plan, 3 _law_half, 4 _law_last -/
def fn44 : FI := ⟨3, 5, .cons (.asg (.one 3) (.bin .shl (.cI 1) (.bin .add (.idx (.var 0) (.cI 0)) (.idx (.var 0) (.cI 1))))) (.cons (.asg (.one 4) (.bin .sub (.var 3) (.bin .shl (.cI 1) (.idx (.var 0) (.cI 1))))) (.cons (.iff (.and (.cmp .gt (.var 2) (.cI 0)) (.cmp .gt (.bin .mod (.var 1) (.var 3)) (.var 4))) (.cons (.ret (.bin .add (.bin .mul (.bin .fdv (.var 1) (.var 3)) (.var 3)) (.var 4))) (.nil)) (.nil)) (.cons (.iff (.and (.cmp .gt (.var 2) (.cI 1)) (.cmp .eq (.bin .mod (.var 1) (.var 3)) (.cI 0))) (.cons (.ret (.bin .add (.var 1) (.cI 1))) (.nil)) (.nil)) (.cons (.ret (.var 1)) (.nil))))), false⟩
/-! 45: _law_built(_law_size, _law_cells, _law_plan); slots 0 _law_size, 1 _law_cells, 2 _law_plan, 3 _law_half, 4 _law_xs, 5 _law_ys, 6 _law_k, 7 _law_x, 8 _law_y -/
def w45_0 : Ss := .cons (.asg (.one 7) (.call 41 (.cons (.var 0) (.cons (.idx (.var 1) (.bin .mul (.cI 2) (.var 6))) (.nil))))) (.cons (.asg (.one 8) (.call 41 (.cons (.var 0) (.cons (.idx (.var 1) (.bin .add (.bin .mul (.cI 2) (.var 6)) (.cI 1))) (.nil))))) (.cons (.iff (.cmp .eq (.bin .mod (.var 2) (.cI 4)) (.cI 3)) (.cons (.asg (.one 7) (.bin .mul (.bin .fdv (.var 7) (.var 3)) (.var 3))) (.cons (.asg (.one 8) (.bin .mul (.bin .fdv (.var 8) (.var 3)) (.var 3))) (.nil))) (.nil)) (.cons (.app (.var 4) (.call 44 (.cons (.var 0) (.cons (.var 7) (.cons (.bin .mod (.bin .mod (.var 2) (.cI 4)) (.cI 3)) (.nil)))))) (.cons (.app (.var 5) (.call 44 (.cons (.var 0) (.cons (.var 8) (.cons (.bin .mod (.bin .mod (.var 2) (.cI 4)) (.cI 3)) (.nil)))))) (.nil)))))
@[simp] theorem w45_0e (T : Tab) (C : Nat → List MV → HP → R MV) (e : EN) (h : HP) : exSs T C w45_0 e h = exSs T C (.cons (.asg (.one 7) (.call 41 (.cons (.var 0) (.cons (.idx (.var 1) (.bin .mul (.cI 2) (.var 6))) (.nil))))) (.cons (.asg (.one 8) (.call 41 (.cons (.var 0) (.cons (.idx (.var 1) (.bin .add (.bin .mul (.cI 2) (.var 6)) (.cI 1))) (.nil))))) (.cons (.iff (.cmp .eq (.bin .mod (.var 2) (.cI 4)) (.cI 3)) (.cons (.asg (.one 7) (.bin .mul (.bin .fdv (.var 7) (.var 3)) (.var 3))) (.cons (.asg (.one 8) (.bin .mul (.bin .fdv (.var 8) (.var 3)) (.var 3))) (.nil))) (.nil)) (.cons (.app (.var 4) (.call 44 (.cons (.var 0) (.cons (.var 7) (.cons (.bin .mod (.bin .mod (.var 2) (.cI 4)) (.cI 3)) (.nil)))))) (.cons (.app (.var 5) (.call 44 (.cons (.var 0) (.cons (.var 8) (.cons (.bin .mod (.bin .mod (.var 2) (.cI 4)) (.cI 3)) (.nil)))))) (.nil)))))) e h := rfl
def fn45 : FI := ⟨3, 9, .cons (.asg (.one 3) (.bin .shl (.cI 1) (.bin .add (.idx (.var 0) (.cI 0)) (.idx (.var 0) (.cI 1))))) (.cons (.iff (.cmp .eq (.bin .mod (.var 2) (.cI 4)) (.cI 2)) (.cons (.ret (.call 43 (.cons (.var 0) (.cons (.var 1) (.cons (.bin .fdv (.var 2) (.cI 4)) (.nil)))))) (.nil)) (.nil)) (.cons (.asg (.one 4) (.cel (.nil))) (.cons (.asg (.one 5) (.cel (.nil))) (.cons (.fr (.one 6) (.rng1 (.bin .fdv (.bi .len (.cons (.var 1) (.nil))) (.cI 2))) w45_0) (.cons (.ret (.tup (.cons (.var 4) (.cons (.var 5) (.nil))))) (.nil)))))), false⟩
/-! 46: _law_placed(_law_size, _law_x, _law_y, _law_way); slots 0 _law_size, 1 _law_x, 2 _law_y, 3 _law_way, 4 _law_half -/
def fn46 : FI := ⟨4, 5, .cons (.asg (.one 4) (.bin .shl (.cI 1) (.bin .add (.idx (.var 0) (.cI 0)) (.idx (.var 0) (.cI 1))))) (.cons (.iff (.cmp .gt (.var 3) (.cI 1)) (.cons (.asg (.one 1) (.bin .mod (.bin .add (.var 1) (.var 4)) (.bin .mul (.cI 2) (.var 4)))) (.cons (.asg (.one 2) (.bin .mod (.bin .add (.var 2) (.var 4)) (.bin .mul (.cI 2) (.var 4)))) (.nil))) (.nil)) (.cons (.iff (.cmp .eq (.bin .mod (.var 3) (.cI 2)) (.cI 1)) (.cons (.ret (.tup (.cons (.var 2) (.cons (.var 1) (.nil))))) (.nil)) (.nil)) (.cons (.ret (.tup (.cons (.var 1) (.cons (.var 2) (.nil))))) (.nil)))), false⟩
/-! 47: _law_good(_law_size, _law_found); slots 0 _law_size, 1 _law_found -/
def fn47 : FI := ⟨2, 2, .cons (.iff (.or (.not (.isT (.var 1) "tuple")) (.or (.cmp .ne (.bi .len (.cons (.var 1) (.nil))) (.cI 2)) (.or (.not (.call 38 (.cons (.idx (.var 1) (.cI 0)) (.nil)))) (.not (.call 38 (.cons (.idx (.var 1) (.cI 1)) (.nil))))))) (.cons (.ret (.cB false)) (.nil)) (.nil)) (.cons (.ret (.and (.chn .le .lt (.cI 0) (.idx (.var 1) (.cI 0)) (.bin .shl (.cI 2) (.bin .add (.idx (.var 0) (.cI 0)) (.idx (.var 0) (.cI 1))))) (.chn .le .lt (.cI 0) (.idx (.var 1) (.cI 1)) (.cI 32)))) (.nil)), false⟩
/-! 48: law(_law_script); slots 0 _law_script, 1 _law_size, 2 _law_way, 3 _law_cells, 4 _law_order, 5 _law_ones, 6 _law_others, 7 _law_k, 8 _law_found, 9 _law_told, 10 _law_xs, 11 _law_ys, 12 _law_one, 13 _law_other -/
def w48_0 : Ss := .cons (.asg (.tup [12, 13]) (.call 46 (.cons (.var 1) (.cons (.idx (.var 10) (.var 7)) (.cons (.idx (.var 11) (.var 7)) (.cons (.bin .mod (.bin .fdv (.idx (.var 3) (.bin .mod (.var 7) (.bi .len (.cons (.var 3) (.nil))))) (.cI 7)) (.cI 4)) (.nil))))))) (.cons (.app (.var 5) (.var 12)) (.cons (.app (.var 6) (.var 13)) (.nil)))
@[simp] theorem w48_0e (T : Tab) (C : Nat → List MV → HP → R MV) (e : EN) (h : HP) : exSs T C w48_0 e h = exSs T C (.cons (.asg (.tup [12, 13]) (.call 46 (.cons (.var 1) (.cons (.idx (.var 10) (.var 7)) (.cons (.idx (.var 11) (.var 7)) (.cons (.bin .mod (.bin .fdv (.idx (.var 3) (.bin .mod (.var 7) (.bi .len (.cons (.var 3) (.nil))))) (.cI 7)) (.cI 4)) (.nil))))))) (.cons (.app (.var 5) (.var 12)) (.cons (.app (.var 6) (.var 13)) (.nil)))) e h := rfl
def fn48 : FI := ⟨1, 14, .nil, false⟩
def d0 : FD := ⟨("width", none), "width", "width", ["size"], top 8, fn0⟩
def d1 : FD := ⟨("bias", none), "bias", "bias", ["size"], top 9, fn1⟩
def d2 : FD := ⟨("low", none), "low", "low", ["size"], top 10, fn2⟩
def d3 : FD := ⟨("sign_bit", none), "sign_bit", "sign_bit", ["size"], top 11, fn3⟩
def d4 : FD := ⟨("endless", none), "endless", "endless", ["size"], top 12, fn4⟩
def d5 : FD := ⟨("no_number", none), "no_number", "no_number", ["size"], top 13, fn5⟩
def d6 : FD := ⟨("asked_fraction", none), "asked_fraction", "asked_fraction", ["top", "bottom"], top 15, fn6⟩
def d7 : FD := ⟨("ahead", none), "ahead", "ahead", ["top", "bottom", "power", "tall", "wide"], top 16, fn7⟩
def d8 : FD := ⟨("scaled", none), "scaled", "scaled", ["top", "bottom", "power"], top 17, fn8⟩
def d9 : FD := ⟨("rest_of", none), "rest_of", "rest_of", ["left", "half"], top 18, fn9⟩
def d10 : FD := ⟨("cut", none), "cut", "cut", ["size", "top", "bottom", "power", "tall", "wide", "whole", "left"], top 19, fn10⟩
def d11 : FD := ⟨("parted", none), "parted", "parted", ["size", "bits", "sign", "code", "field", "figures"], top 25, fn11⟩
def d12 : FD := ⟨("kind", none), "kind", "kind", ["size", "bits", "sign", "field", "figures"], top 26, fn12⟩
def d13 : FD := ⟨("worth", none), "worth", "worth", ["size", "bits", "sign", "field", "figures"], top 27, fn13⟩
def d14 : FD := ⟨("Way", some "grows"), "grows", "Way.grows", ["self", "sign", "odd", "rest"], inClass (top 29) 0, fn14⟩
def d15 : FD := ⟨("Way", some "bursts"), "bursts", "Way.bursts", ["self", "sign"], inClass (top 29) 1, fn15⟩
def d16 : FD := ⟨("Nearest", some "grows"), "grows", "Nearest.grows", ["self", "sign", "odd", "rest"], inClass (top 30) 0, fn16⟩
def d17 : FD := ⟨("Nearest", some "grows_midway"), "grows_midway", "Nearest.grows_midway", ["self", "odd"], inClass (top 30) 1, fn17⟩
def d18 : FD := ⟨("Nearest", some "bursts"), "bursts", "Nearest.bursts", ["self", "sign"], inClass (top 30) 2, fn18⟩
def d19 : FD := ⟨("NearestAway", some "grows_midway"), "grows_midway", "NearestAway.grows_midway", ["self", "odd"], inClass (top 31) 0, fn19⟩
def d20 : FD := ⟨("Outward", some "__init__"), "__init__", "Outward.__init__", ["self", "sign"], inClass (top 32) 0, fn20⟩
def d21 : FD := ⟨("Outward", some "grows"), "grows", "Outward.grows", ["self", "sign", "odd", "rest"], inClass (top 32) 1, fn21⟩
def d22 : FD := ⟨("Outward", some "bursts"), "bursts", "Outward.bursts", ["self", "sign"], inClass (top 32) 2, fn22⟩
def d23 : FD := ⟨("way_of", none), "way_of", "way_of", ["name"], top 33, fn23⟩
def d24 : FD := ⟨("settled", none), "settled", "settled", ["size", "way", "sign", "whole", "power", "rest", "rule", "first", "code", "flags"], top 35, fn24⟩
def d25 : FD := ⟨("rounded", none), "rounded", "rounded", ["size", "way", "sign", "top", "bottom", "whole", "power", "rest"], top 36, fn25⟩
def d26 : FD := ⟨("total", none), "total", "total", ["terms", "least", "exact", "sign", "whole", "power", "part", "term"], top 38, fn26⟩
def d27 : FD := ⟨("nought_sign", none), "nought_sign", "nought_sign", ["way", "signs"], top 39, fn27⟩
def d28 : FD := ⟨("settled_total", none), "settled_total", "settled_total", ["size", "way", "terms", "sign", "whole", "power", "term"], top 40, fn28⟩
def d29 : FD := ⟨("kinds_of", none), "kinds_of", "kinds_of", ["size", "way", "numbers", "bits"], top 42, fn29⟩
def d30 : FD := ⟨("gone_wrong", none), "gone_wrong", "gone_wrong", ["size"], top 43, fn30⟩
def d31 : FD := ⟨("endless_with", none), "endless_with", "endless_with", ["size", "sign"], top 44, fn31⟩
def d32 : FD := ⟨("term_of", none), "term_of", "term_of", ["size", "bits", "sign", "whole", "power"], top 45, fn32⟩
def d33 : FD := ⟨("product_term", none), "product_term", "product_term", ["size", "a", "b", "one", "two", "sign", "term"], top 46, fn33⟩
def d34 : FD := ⟨("sum_of_terms", none), "sum_of_terms", "sum_of_terms", ["size", "way", "terms", "signs", "worths", "sort", "sign", "whole", "power"], top 47, fn34⟩
def d35 : FD := ⟨("gathered", none), "gathered", "gathered", ["size", "way", "xs", "ys", "x", "y"], top 49, fn35⟩
def d36 : FD := ⟨("summed", none), "summed", "summed", ["size", "way", "xs", "x"], top 50, fn36⟩
def d37 : FD := ⟨("_law_cell_at", none), "_law_cell_at", "_law_cell_at", ["_law_script", "_law_k"], top 52, fn37⟩
def d38 : FD := ⟨("_law_whole", none), "_law_whole", "_law_whole", ["_law_found"], top 53, fn38⟩
def d39 : FD := ⟨("_law_size_by", none), "_law_size_by", "_law_size_by", ["_law_cell", "_law_way", "_law_rest"], top 54, fn39⟩
def d40 : FD := ⟨("_law_way_by", none), "_law_way_by", "_law_way_by", ["_law_cell"], top 55, fn40⟩
def d41 : FD := ⟨("_law_bits_by", none), "_law_bits_by", "_law_bits_by", ["_law_size", "_law_cell", "_law_half", "_law_last", "_law_way", "_law_rest", "_law_side", "_law_figures"], top 56, fn41⟩
def d42 : FD := ⟨("_law_finite_by", none), "_law_finite_by", "_law_finite_by", ["_law_size", "_law_cell", "_law_half", "_law_last", "_law_way", "_law_rest", "_law_side", "_law_middle", "_law_field", "_law_figures", "_law_mixed"], top 57, fn42⟩
def d43 : FD := ⟨("_law_rows_by", none), "_law_rows_by", "_law_rows_by", ["_law_size", "_law_cells", "_law_plan", "_law_half", "_law_many", "_law_xs", "_law_ys", "_law_spared", "_law_k"], top 58, fn43⟩
def d44 : FD := ⟨("_law_clean", none), "_law_clean", "_law_clean", ["_law_size", "_law_bits", "_law_plan", "_law_half", "_law_last"], top 59, fn44⟩
def d45 : FD := ⟨("_law_built", none), "_law_built", "_law_built", ["_law_size", "_law_cells", "_law_plan", "_law_half", "_law_xs", "_law_ys", "_law_k", "_law_x", "_law_y"], top 60, fn45⟩
def d46 : FD := ⟨("_law_placed", none), "_law_placed", "_law_placed", ["_law_size", "_law_x", "_law_y", "_law_way", "_law_half"], top 61, fn46⟩
def d47 : FD := ⟨("_law_good", none), "_law_good", "_law_good", ["_law_size", "_law_found"], top 62, fn47⟩
def d48 : FD := ⟨("law", none), "law", "law", ["_law_script", "_law_size", "_law_way", "_law_cells", "_law_order", "_law_ones", "_law_others", "_law_k", "_law_found", "_law_told", "_law_xs", "_law_ys", "_law_one", "_law_other"], top 63, fn48⟩
def mtl : List (Nat × PySem.Str × Nat) := [(6, "bursts", 15), (6, "grows", 14), (7, "bursts", 18), (7, "grows", 16), (7, "grows_midway", 17), (8, "bursts", 18), (8, "grows", 16), (8, "grows_midway", 19), (9, "bursts", 22), (9, "grows", 21)]
def inl : List (Nat × Nat) := [(9, 20)]
def tab : Tab := mkT [true, true, true, true, true, true, false, false, false, false] [false, true, true, true, true, true, false, false, false, false] [[true, false, false, false, false, false, false, false, false, false], [true, true, false, false, false, false, false, false, false, false], [true, false, true, false, false, false, false, false, false, false], [true, false, false, true, false, false, false, false, false, false], [true, false, false, false, true, false, false, false, false, false], [true, false, false, false, false, true, false, false, false, false], [false, false, false, false, false, false, true, false, false, false], [false, false, false, false, false, false, true, true, false, false], [false, false, false, false, false, false, true, true, true, false], [false, false, false, false, false, false, true, false, false, true]] [false, false, false, false, false, false, true, true, true, true] [false, false, false, false, false, false, true, true, true, false] [[], [], [], [], [], [], [], [], [], ["outward_sign"]] mtl inl
def p : PD := { mts := mtl, inis := inl, fds := [d0, d1, d2, d3, d4, d5, d6, d7, d8, d9, d10, d11, d12, d13, d14, d15, d16, d17, d18, d19, d20, d21, d22, d23, d24, d25, d26, d27, d28, d29, d30, d31, d32, d33, d34, d35, d36, d37, d38, d39, d40, d41, d42, d43, d44, d45, d46, d47], cls := ["MillError", "NoBits", "NotFinite", "NoWay", "NoFraction", "Unlike", "Way", "Nearest", "NearestAway", "Outward"], free := ["bool", "divmod", "int", "isinstance", "len", "list", "max", "min", "range", "reversed", "sorted", "tuple", "zip"], gI := [("GREAT", 4), ("INEXACT", 1), ("SMALL", 2), ("WRONG", 16)], gS := [], T := tab }
def preL : Ss := .cons (.asg (.one 1) (.call 39 (.cons (.call 37 (.cons (.var 0) (.cons (.cI 0) (.nil)))) (.nil)))) (.cons (.asg (.one 2) (.call 40 (.cons (.call 37 (.cons (.var 0) (.cons (.cI 1) (.nil)))) (.nil)))) (.cons (.asg (.one 3) (.slc (.var 0) (.cI 3) (.cI 203))) (.cons (.asg (.tup [10, 11]) (.call 45 (.cons (.var 1) (.cons (.var 3) (.cons (.call 37 (.cons (.var 0) (.cons (.cI 2) (.nil)))) (.nil)))))) (.nil))))
def postL : Ss := .cons (.asg (.one 5) (.cel (.nil))) (.cons (.asg (.one 6) (.cel (.nil))) (.cons (.fr (.one 7) (.seq (.var 4)) w48_0) (.cons (.asg (.one 8) (.call 35 (.cons (.var 1) (.cons (.var 2) (.cons (.bi .list1 (.cons (.var 10) (.nil))) (.cons (.bi .list1 (.cons (.var 11) (.nil))) (.nil))))))) (.cons (.iff (.or (.not (.call 47 (.cons (.var 1) (.cons (.var 8) (.nil))))) (.cmp .ne (.call 35 (.cons (.var 1) (.cons (.var 2) (.cons (.var 5) (.cons (.var 6) (.nil)))))) (.var 8))) (.cons (.ret (.cB false)) (.nil)) (.nil)) (.cons (.asg (.one 9) (.call 36 (.cons (.var 1) (.cons (.var 2) (.cons (.bi .list1 (.cons (.var 10) (.nil))) (.nil)))))) (.cons (.ret (.and (.call 47 (.cons (.var 1) (.cons (.var 9) (.nil)))) (.cmp .eq (.call 36 (.cons (.var 1) (.cons (.var 2) (.cons (.lcm false (.one 7) [7] (.seq (.var 4)) (.idx (.var 10) (.var 7))) (.nil))))) (.var 9)))) (.nil)))))))
def lamL : E := .bin .mod (.bin .mul (.idx (.var 1) (.bin .mod (.var 0) (.bi .len (.cons (.var 1) (.nil))))) (.bin .add (.cI 48271) (.bin .mul (.bin .mul (.cI 2) (.var 0)) (.var 0)))) (.cI 2147483647)
def argL : E := (.bi .len (.cons (.var 10) (.nil)))
def lD : LD := { D := d48, pre := preL, i := 4, arg := argL, ak := lamL, js := [3], y := "_law_k", fr := ["_law_cells"], post := postL, m := 4, rg := true }
theorem okp : p.fds.all (fun d => d.ok p) = true := by decide +kernel
theorem okL : lD.ok p = true := by decide +kernel
theorem inc : p.inCls := mkT_in rfl rfl
theorem tbs : p.tabs := mkT_tabs rfl rfl
abbrev Rw : PySem.W.OpenRow := PySem.W.OpenLaw.row PySem.Challenge.rw_roundmill_k37_gathered_in_any_order
def ob (s : PySem.W.SharedT) : AlL := obsL p lD (HandSHeadRun.getT s)
theorem ob_eq (s : PySem.W.SharedT) : ob s = (hookL p lD).obs s.abs := obsL_eq (HandSHeadRun.getT_eq s)
def nm0 : List PySem.Str := ["MillError", "NoBits", "NotFinite", "NoWay", "NoFraction", "Unlike", "width", "bias", "low", "sign_bit", "endless", "no_number", "asked_fraction", "ahead", "scaled", "rest_of", "cut", "INEXACT", "SMALL", "GREAT", "WRONG", "parted", "kind", "worth", "Way", "Nearest", "NearestAway", "Outward", "way_of", "settled"]
def nm1 : List PySem.Str := ["rounded", "total", "nought_sign", "settled_total", "kinds_of", "gone_wrong", "endless_with", "term_of", "product_term", "sum_of_terms", "gathered", "summed", "_law_cell_at", "_law_whole", "_law_size_by", "_law_way_by", "_law_bits_by", "_law_finite_by", "_law_rows_by", "_law_clean", "_law_built", "_law_placed", "_law_good"]
def names : List PySem.Str := nm0 ++ nm1
theorem runH (w : World) : HandSHeadRun.RunEq Rw (PySem.W.view Rw.prog [63]) (hookL p lD) ob 11480 names w := by
  intro os
  kernel_rfl
end Pg

namespace Pg
open PySem L2 Rm
open PySem.Builtin.Int (intBits)
/-! powers of two: quotients and rests -/
theorem p2 (n : Nat) : (0 : Int) < 2 ^ n := Int.pow_pos (by decide)
theorem div_div (b : Int) (m n : Nat) : b / 2 ^ m / 2 ^ n = b / 2 ^ (m + n) := by
  rw [Int.ediv_ediv_of_nonneg (Int.le_of_lt (p2 m)), Int.pow_add]
theorem mod_split {b F W : Int} (hF : 0 < F) (hW : 0 < W) : b % (F * W) = F * (b / F % W) + b % F := by
  have e1 := Int.mul_ediv_add_emod b F
  have e2 := Int.mul_ediv_add_emod (b / F) W
  have r1 := Int.emod_nonneg b (Int.ne_of_gt hF)
  have r2 := Int.emod_lt_of_pos b hF
  have r3 := Int.emod_nonneg (b / F) (Int.ne_of_gt hW)
  have r4 := Int.emod_lt_of_pos (b / F) hW
  have h := (Int.ediv_emod_unique (a := b) (b := F * W) (r := F * (b / F % W) + b % F) (q := b / F / W) (Int.mul_pos hF hW)).mpr
  refine (h ⟨?_, ?_, ?_⟩).2
  · generalize b / F / W = q at *
    generalize b / F % W = r at *
    generalize b % F = t at *
    generalize b / F = u at *
    subst e2
    rw [← e1]
    grind
  · have := Int.mul_nonneg (Int.le_of_lt hF) r3; omega
  · have : F * (b / F % W) ≤ F * (W - 1) := Int.mul_le_mul_of_nonneg_left (by omega) (Int.le_of_lt hF)
    rw [Int.mul_sub] at this; omega
theorem mod_div_pow (b : Int) (w f : Nat) : b % 2 ^ (w + f) / 2 ^ f = b / 2 ^ f % 2 ^ w := by
  have e : (2 : Int) ^ (w + f) = 2 ^ f * 2 ^ w := by rw [Int.pow_add, Int.mul_comm]
  rw [e, mod_split (p2 f) (p2 w), Int.mul_add_ediv_left _ _ (Int.ne_of_gt (p2 f))]
  rw [Int.ediv_eq_zero_of_lt (Int.emod_nonneg _ (Int.ne_of_gt (p2 f))) (Int.emod_lt_of_pos _ (p2 f)), Int.add_zero]
theorem mod_mod_pow (b : Int) (w f : Nat) : b % 2 ^ (w + f) % 2 ^ f = b % 2 ^ f := by
  have e : (2 : Int) ^ (w + f) = 2 ^ f * 2 ^ w := by rw [Int.pow_add, Int.mul_comm]
  rw [e]
  exact Int.emod_emod_of_dvd b (Int.dvd_mul_right _ _)
theorem pow_le_div {b : Int} {n : Nat} (h : 2 ^ n ≤ b) : ¬ b / 2 ^ n = 0 := by
  have := (Int.le_ediv_iff_mul_le (c := 2 ^ n) (a := 1) (b := b) (p2 n)).mpr (by omega)
  omega
theorem div_lt_pow {b : Int} {m n : Nat} (h : b < 2 ^ (m + n)) : b / 2 ^ n < 2 ^ m := (Int.ediv_lt_iff_lt_mul (p2 n)).mpr (by rw [← Int.pow_add]; exact h)
theorem dn {b : Int} (n : Nat) (h : 0 ≤ b) : 0 ≤ b / 2 ^ n := Int.ediv_nonneg h (Int.le_of_lt (p2 n))
theorem mn (b : Int) (n : Nat) : 0 ≤ b % 2 ^ n ∧ b % 2 ^ n < 2 ^ n := ⟨Int.emod_nonneg _ (Int.ne_of_gt (p2 n)), Int.emod_lt_of_pos _ (p2 n)⟩
theorem pow_s (n : Nat) : (2 : Int) ^ (n + 1) = 2 * 2 ^ n := by rw [Int.pow_succ, Int.mul_comm]
@[simp] theorem eqM_t3 (h : HP) (a b c a' b' c' : Int) : eqM h (.tup [.int a, .int b, .int c]) (.tup [.int a', .int b', .int c']) = some (decide (a = a') && (decide (b = b') && decide (c = c'))) := by
  have (x y : Int) : (x == y) = decide (x = y) := rfl
  simp [eqM, flatD, lstD, toD, toDs, SeqAt.shaped, PyData.eqv, PyData.eqvAll, PyData.canLay0, PyData.canLayAll0, PyData.depth, PyData.depthAll, this]
end Pg

namespace Pg
open PySem L2 Rm
open PySem.Builtin.Int (intBits)
@[simp] theorem s_whole (n : Nat) (h : HP) (x : Int) : run p.T p.fs (n + 1) 38 [.int x] h = .ok (.bl true) h := by
  rw [run_eq (F := fn38) rfl rfl]; simp [fn38]
end Pg

namespace Pg
open PySem L2 Rm
open PySem.Builtin.Int (intBits)
def cellAt (ns : List Int) (k : Nat) : Int := ns.getD k 0
theorem cellAt_bits {ns : List Int} (hn : ∀ z ∈ ns, intBits z ≤ 1048576) (k : Nat) : intBits (cellAt ns k) ≤ 1048576 := by
  unfold cellAt
  rw [List.getD_eq_getElem?_getD]
  rcases Nat.lt_or_ge k ns.length with z | z
  · rw [List.getElem?_eq_getElem z]; exact hn _ (List.getElem_mem z)
  · rw [List.getElem?_eq_none z]; decide
theorem s_cellat {ns : List Int} {i : Int} {k : Nat} (hk : i = k) (n : Nat) (h : HP) : run p.T p.fs (n + 1) 37 [.lst (ns.map .int), .int i] h = .ok (.int (cellAt ns k)) h := by
  subst hk
  rw [run_eq (F := fn37) rfl rfl]
  by_cases z : k < ns.length
  · have a : atI (ns.map MV.int) (k : Int) = some (.int (cellAt ns k)) := by
      rw [atI_nat (k := k) rfl (by simpa using z)]
      simp [cellAt, z]
    have z' : (k : Int) < (ns.length : Int) := by omega
    simp [fn37, a, z']
  · have z' : ¬ (k : Int) < (ns.length : Int) := by omega
    have : cellAt ns k = 0 := by simp [cellAt, Nat.le_of_not_lt z]
    simp [fn37, z', this]
end Pg

namespace Pg
open PySem L2 Rm
open PySem.Builtin.Int (intBits)
section
variable (w f : Nat) (hw : w ≤ 20) (hf : f ≤ 200) (n : Nat) (h : HP)
include hw hf
theorem s_width : run p.T p.fs (n + 1) 0 [.tup [.int w, .int f]] h = .ok (.int (w + f + 1)) h := by
  rw [run_eq (F := fn0) rfl rfl]; simp [fn0]
theorem s_sign_bit : run p.T p.fs (n + 1) 3 [.tup [.int w, .int f]] h = .ok (.int (2 ^ (w + f))) h := by
  have s := shlB_one (b := (w : Int) + f) (by omega) (by omega)
  rw [run_eq (F := fn3) rfl rfl]; simp [fn3, s]
theorem s_parted {b : Int} (h0 : 0 ≤ b) (h1 : b < 2 ^ (w + f + 1)) : run p.T p.fs (n + 2) 11 [.tup [.int w, .int f], .int b] h = .ok (.tup [.int (b / 2 ^ (w + f)), .int (b / 2 ^ f % 2 ^ w), .int (b % 2 ^ f)]) h := by
  rw [run_eq (F := fn11) rfl rfl]
  have z : b / 2 ^ (w + f + 1) = 0 := Int.ediv_eq_zero_of_lt h0 h1
  have nn : 0 ≤ (w : Int) + f + 1 := by omega
  have ng : ¬ b < 0 := by omega
  have s := shlB_one (b := (f : Int)) (by omega) (by omega)
  have d1 := dvB_pow (a := b) (n := w + f) (by omega)
  have d2 := dvB_pow (a := b % 2 ^ (w + f)) (n := f) (by omega)
  simp [fn11, s_width w f hw hf, s_sign_bit w f hw hf, z, nn, ng, s, d1, d2, mod_div_pow, mod_mod_pow]
theorem s_parted_no {b : Int} (hb : b < 0 ∨ 2 ^ (w + f + 1) ≤ b) : run p.T p.fs (n + 2) 11 [.tup [.int w, .int f], .int b] h = .exc (1, []) h := by
  rw [run_eq (F := fn11) rfl rfl]
  have nn : 0 ≤ (w : Int) + f + 1 := by omega
  have r : p.T.rz 1 = true := rfl
  by_cases ng : b < 0
  · simp [fn11, ng, r]
  · have z : ¬ b / 2 ^ (w + f + 1) = 0 := pow_le_div (by omega)
    simp [fn11, s_width w f hw hf, nn, ng, z, r]
end
end Pg

namespace Pg
open PySem L2 Rm
open PySem.Builtin.Int (intBits)
def fdOf (w f : Nat) (b : Int) : Int := b / 2 ^ f % 2 ^ w
def fgOf (f : Nat) (b : Int) : Int := b % 2 ^ f
theorem fd_b (w f : Nat) (b : Int) : 0 ≤ fdOf w f b ∧ fdOf w f b < 2 ^ w := mn _ _
theorem fg_b (f : Nat) (b : Int) : 0 ≤ fgOf f b ∧ fgOf f b < 2 ^ f := mn _ _
end Pg

namespace Pg
open PySem L2 Rm
open PySem.Builtin.Int (intBits)
theorem eqM_lit (h : HP) {a b : Str} (r : Bool) (e : (PyData.strOk a && PyData.strOk b && (decide (a = b) == r)) = true) : eqM h (.str a) (.str b) = some r := by
  simp only [Bool.and_eq_true, beq_iff_eq] at e
  rw [eqM_ss h e.1.1 e.1.2, e.2]
@[simp] theorem kq_endless_endless (h : HP) : eqM h (.str "endless") (.str "endless") = some true := eqM_lit h true (by decide +kernel)
@[simp] theorem kq_endless_none (h : HP) : eqM h (.str "endless") (.str "none") = some false := eqM_lit h false (by decide +kernel)
@[simp] theorem kq_endless_plain (h : HP) : eqM h (.str "endless") (.str "plain") = some false := eqM_lit h false (by decide +kernel)
@[simp] theorem kq_endless_nought (h : HP) : eqM h (.str "endless") (.str "nought") = some false := eqM_lit h false (by decide +kernel)
@[simp] theorem kq_endless_faint (h : HP) : eqM h (.str "endless") (.str "faint") = some false := eqM_lit h false (by decide +kernel)
@[simp] theorem kq_none_endless (h : HP) : eqM h (.str "none") (.str "endless") = some false := eqM_lit h false (by decide +kernel)
@[simp] theorem kq_none_none (h : HP) : eqM h (.str "none") (.str "none") = some true := eqM_lit h true (by decide +kernel)
@[simp] theorem kq_none_plain (h : HP) : eqM h (.str "none") (.str "plain") = some false := eqM_lit h false (by decide +kernel)
@[simp] theorem kq_none_nought (h : HP) : eqM h (.str "none") (.str "nought") = some false := eqM_lit h false (by decide +kernel)
@[simp] theorem kq_none_faint (h : HP) : eqM h (.str "none") (.str "faint") = some false := eqM_lit h false (by decide +kernel)
@[simp] theorem kq_plain_endless (h : HP) : eqM h (.str "plain") (.str "endless") = some false := eqM_lit h false (by decide +kernel)
@[simp] theorem kq_plain_none (h : HP) : eqM h (.str "plain") (.str "none") = some false := eqM_lit h false (by decide +kernel)
@[simp] theorem kq_plain_plain (h : HP) : eqM h (.str "plain") (.str "plain") = some true := eqM_lit h true (by decide +kernel)
@[simp] theorem kq_plain_nought (h : HP) : eqM h (.str "plain") (.str "nought") = some false := eqM_lit h false (by decide +kernel)
@[simp] theorem kq_plain_faint (h : HP) : eqM h (.str "plain") (.str "faint") = some false := eqM_lit h false (by decide +kernel)
@[simp] theorem kq_nought_endless (h : HP) : eqM h (.str "nought") (.str "endless") = some false := eqM_lit h false (by decide +kernel)
@[simp] theorem kq_nought_none (h : HP) : eqM h (.str "nought") (.str "none") = some false := eqM_lit h false (by decide +kernel)
@[simp] theorem kq_nought_plain (h : HP) : eqM h (.str "nought") (.str "plain") = some false := eqM_lit h false (by decide +kernel)
@[simp] theorem kq_nought_nought (h : HP) : eqM h (.str "nought") (.str "nought") = some true := eqM_lit h true (by decide +kernel)
@[simp] theorem kq_nought_faint (h : HP) : eqM h (.str "nought") (.str "faint") = some false := eqM_lit h false (by decide +kernel)
@[simp] theorem kq_faint_endless (h : HP) : eqM h (.str "faint") (.str "endless") = some false := eqM_lit h false (by decide +kernel)
@[simp] theorem kq_faint_none (h : HP) : eqM h (.str "faint") (.str "none") = some false := eqM_lit h false (by decide +kernel)
@[simp] theorem kq_faint_plain (h : HP) : eqM h (.str "faint") (.str "plain") = some false := eqM_lit h false (by decide +kernel)
@[simp] theorem kq_faint_nought (h : HP) : eqM h (.str "faint") (.str "nought") = some false := eqM_lit h false (by decide +kernel)
@[simp] theorem kq_faint_faint (h : HP) : eqM h (.str "faint") (.str "faint") = some true := eqM_lit h true (by decide +kernel)
def kindS (w f : Nat) (b : Int) : Str := if fdOf w f b = 2 ^ w - 1 then (if fgOf f b = 0 then "endless" else "none") else if 0 < fdOf w f b then "plain" else if fgOf f b = 0 then "nought" else "faint"
theorem s_kind (w f : Nat) (hw : w ≤ 20) (hf : f ≤ 200) (n : Nat) (h : HP) {b : Int} (h0 : 0 ≤ b) (h1 : b < 2 ^ (w + f + 1)) : run p.T p.fs (n + 3) 12 [.tup [.int w, .int f], .int b] h = .ok (.str (kindS w f b)) h := by
  rw [run_eq (F := fn12) rfl rfl]
  have e := s_parted w f hw hf n h h0 h1
  have s1 := shlB_one (b := (w : Int)) (by omega) (by omega)
  have ef : b / 2 ^ f % 2 ^ w = fdOf w f b := rfl
  have eg : b % 2 ^ f = fgOf f b := rfl
  rw [ef, eg] at e
  unfold kindS
  by_cases c1 : fdOf w f b = 2 ^ w - 1
  · by_cases c2 : fgOf f b = 0
    · simp [fn12, e, s1, c1, c2]
    · simp [fn12, e, s1, c1, c2]
  · by_cases c3 : 0 < fdOf w f b
    · simp [fn12, e, s1, c1, c3]
    · by_cases c2 : fgOf f b = 0
      · simp [fn12, e, s1, c1, c2, c3]
      · simp [fn12, e, s1, c1, c2, c3]
theorem kindS_eq (h : HP) (w f : Nat) (b : Int) : eqM h (.str (kindS w f b)) (.str (kindS w f b)) = some true := by
  unfold kindS
  split
  · split <;> simp
  · split
    · simp
    · split <;> simp
end Pg

namespace Pg
open PySem L2 Rm
open PySem.Builtin.Int (intBits)
def loOf (w f : Nat) : Int := 1 - (2 ^ (w - 1) - 1) - f
theorem pw_b {w : Nat} (hw : w ≤ 20) : (0 : Int) < 2 ^ (w - 1) ∧ (2 : Int) ^ (w - 1) ≤ 1048576 := ⟨p2 _, by have := two_le_pow (show w - 1 ≤ 20 by omega); simpa using this⟩
theorem pw_w {w : Nat} (hw1 : 1 ≤ w) : (2 : Int) ^ w = 2 * 2 ^ (w - 1) := by rw [← pow_s, Nat.sub_add_cancel hw1]
theorem s_bias (w f : Nat) (hw1 : 1 ≤ w) (hw : w ≤ 20) (n : Nat) (h : HP) : run p.T p.fs (n + 1) 1 [.tup [.int w, .int f]] h = .ok (.int (2 ^ (w - 1) - 1)) h := by
  have s := shlB_one (b := (w : Int) - 1) (by omega) (by omega)
  rw [run_eq (F := fn1) rfl rfl]; simp [fn1, s]
theorem s_low (w f : Nat) (hw1 : 1 ≤ w) (hw : w ≤ 20) (n : Nat) (h : HP) : run p.T p.fs (n + 2) 2 [.tup [.int w, .int f]] h = .ok (.int (loOf w f)) h := by
  rw [run_eq (F := fn2) rfl rfl]; simp [fn2, s_bias w f hw1 hw, loOf]
end Pg

namespace Pg
open PySem L2 Rm
open PySem.Builtin.Int (intBits)
def whOf (w f : Nat) (b : Int) : Int := if fdOf w f b = 0 then fgOf f b else 2 ^ f + fgOf f b
def pwOf (w f : Nat) (b : Int) : Int := if fdOf w f b = 0 then loOf w f else loOf w f + fdOf w f b - 1
theorem or_top {r : Int} {k : Nat} (h0 : 0 ≤ r) (h1 : r < 2 ^ k) : Builtin.bitOr r (2 ^ k) = 2 ^ k + r := by
  rw [PyProof.Rows.bitOr_comm]
  have := or_lowC (q := 1) (by decide) h0 h1
  simpa using this
theorem s_worth (w f : Nat) (hw1 : 1 ≤ w) (hw : w ≤ 20) (hf : f ≤ 200) (n : Nat) (h : HP) {b : Int} (h0 : 0 ≤ b) (h1 : b < 2 ^ (w + f + 1)) (hx : fdOf w f b ≠ 2 ^ w - 1) :
    run p.T p.fs (n + 3) 13 [.tup [.int w, .int f], .int b] h = .ok (.tup [.int (b / 2 ^ (w + f)), .int (whOf w f b), .int (pwOf w f b)]) h := by
  rw [run_eq (F := fn13) rfl rfl]
  have e := s_parted w f hw hf n h h0 h1
  have s1 := shlB_one (b := (w : Int)) (by omega) (by omega)
  have s2 := shlB_one (b := (f : Int)) (by omega) (by omega)
  have ef : b / 2 ^ f % 2 ^ w = fdOf w f b := rfl
  have eg : b % 2 ^ f = fgOf f b := rfl
  rw [ef, eg] at e
  have o := or_top (fg_b f b).1 (fg_b f b).2
  unfold whOf pwOf
  by_cases c1 : fdOf w f b = 0
  · have c2 : ¬ (0 : Int) = 2 ^ w - 1 := by rw [← c1]; exact hx
    simp [fn13, e, s1, c1, c2, s_low w f hw1 hw]
  · simp [fn13, e, s1, s2, hx, c1, s_low w f hw1 hw, o]
theorem wh_b (w f : Nat) (b : Int) : 0 ≤ whOf w f b ∧ whOf w f b < 2 ^ (f + 1) := by
  have := fg_b f b
  have := p2 f
  rw [pow_s]
  unfold whOf
  split <;> omega
theorem pw_bd (w f : Nat) (b : Int) (hw1 : 1 ≤ w) (hw : w ≤ 20) (hf : f ≤ 200) : -2000000 ≤ pwOf w f b ∧ pwOf w f b ≤ 2000000 := by
  have := fd_b w f b
  have := pw_b hw
  have := pw_w hw1
  unfold pwOf loOf
  split <;> omega
end Pg

namespace Pg
open PySem L2 Rm
open PySem.Builtin.Int (intBits)
theorem pwa {a b c : Nat} (h : a = b + c) : (2 : Int) ^ a = 2 ^ b * 2 ^ c := by rw [h, Int.pow_add]
theorem ib_hi {x : Int} (h : 0 ≤ x) : x < 2 ^ intBits x := by
  have := Int.ofNat_lt.mpr (intBits_le_iff.mp (Nat.le_refl (intBits x)))
  rw [Int.natCast_pow, show ((2 : Nat) : Int) = 2 from rfl] at this
  omega
theorem ib_lo {x : Int} (h : 0 < x) : 1 ≤ intBits x ∧ 2 ^ (intBits x - 1) ≤ x := by
  have h1 : 1 ≤ intBits x := by
    rcases Nat.eq_zero_or_pos (intBits x) with z | z
    · have := intBits_le_iff.mp (Nat.le_of_eq z); simp at this; omega
    · exact z
  refine ⟨h1, ?_⟩
  rcases Int.lt_or_le x (2 ^ (intBits x - 1)) with z | z
  · have := ib_lt (Int.le_of_lt h) z; omega
  · exact z
def scT (t p : Int) : Int := t * 2 ^ (-p).toNat
def scW (b p : Int) : Int := b * 2 ^ p.toNat
theorem s_scaled (n : Nat) (h : HP) {t b q : Int} (ht : intBits t ≤ 4000000) (hb : intBits b ≤ 4000000) (p0 : -5000000 ≤ q) (p1 : q ≤ 5000000) :
    run p.T p.fs (n + 1) 8 [.int t, .int b, .int q] h = .ok (.tup [.int (scT t q), .int (scW b q)]) h := by
  rw [run_eq (F := fn8) rfl rfl]
  unfold scT scW
  by_cases c : q < 0
  · have z : q.toNat = 0 := by omega
    have s := shlB_of (b := -q) ht (by omega) (by omega)
    simp [fn8, c, z, s]
  · have z : (-q).toNat = 0 := by omega
    have s := shlB_of (b := q) hb (by omega) (by omega)
    simp [fn8, c, z, s]
/-- both sides on one power -/
theorem sc_com {t b q : Int} {N : Nat} (hN : 0 ≤ (N : Int) + q) : ∃ k : Nat, t * 2 ^ N = scT t q * 2 ^ k ∧ b * 2 ^ ((N : Int) + q).toNat = scW b q * 2 ^ k := by
  refine ⟨N - (-q).toNat, ?_, ?_⟩
  · have e : (2 : Int) ^ N = 2 ^ (-q).toNat * 2 ^ (N - (-q).toNat) := pwa (by omega)
    unfold scT; rw [e, Int.mul_assoc]
  · have e : (2 : Int) ^ ((N : Int) + q).toNat = 2 ^ q.toNat * 2 ^ (N - (-q).toNat) := pwa (by omega)
    unfold scW; rw [e, Int.mul_assoc]
theorem sc_lt {t b q : Int} {N : Nat} (hN : 0 ≤ (N : Int) + q) : scT t q < scW b q ↔ t * 2 ^ N < b * 2 ^ ((N : Int) + q).toNat := by
  obtain ⟨k, e1, e2⟩ := sc_com (t := t) (b := b) hN
  rw [e1, e2]
  exact (Int.mul_lt_mul_right (p2 k)).symm
def ahd (t b : Int) : Int := if scT t ((intBits t : Int) - intBits b) < scW b ((intBits t : Int) - intBits b) then (intBits t : Int) - intBits b else (intBits t : Int) - intBits b + 1
theorem s_ahead (n : Nat) (h : HP) {t b : Int} (ht : intBits t ≤ 4000000) (hb : intBits b ≤ 4000000) : run p.T p.fs (n + 2) 7 [.int t, .int b] h = .ok (.int (ahd t b)) h := by
  rw [run_eq (F := fn7) rfl rfl]
  have s := s_scaled n h (q := (intBits t : Int) - intBits b) ht hb (by omega) (by omega)
  unfold ahd
  by_cases c : scT t ((intBits t : Int) - intBits b) < scW b ((intBits t : Int) - intBits b)
  · simp [fn7, s, c]
  · simp [fn7, s, c]
theorem ahd_spec {t b : Int} (ht : 0 < t) (hb : 0 < b) (N : Nat) (hN : 0 ≤ (N : Int) + ahd t b - 1) :
    t * 2 ^ N < b * 2 ^ ((N : Int) + ahd t b).toNat ∧ b * 2 ^ ((N : Int) + ahd t b - 1).toNat ≤ t * 2 ^ N := by
  have t1 := ib_hi (Int.le_of_lt ht)
  have b1 := ib_hi (Int.le_of_lt hb)
  obtain ⟨t2, t3⟩ := ib_lo ht
  obtain ⟨b2, b3⟩ := ib_lo hb
  by_cases c : scT t ((intBits t : Int) - intBits b) < scW b ((intBits t : Int) - intBits b)
  · have a : ahd t b = (intBits t : Int) - intBits b := if_pos c
    rw [a] at hN ⊢
    refine ⟨(sc_lt (by omega)).mp c, ?_⟩
    have h1 : b * 2 ^ ((N : Int) + ((intBits t : Int) - intBits b) - 1).toNat ≤ 2 ^ intBits b * 2 ^ ((N : Int) + ((intBits t : Int) - intBits b) - 1).toNat := Int.mul_le_mul_of_nonneg_right (Int.le_of_lt b1) (Int.le_of_lt (p2 _))
    have h2 : (2 : Int) ^ (intBits t - 1) * 2 ^ N ≤ t * 2 ^ N := Int.mul_le_mul_of_nonneg_right t3 (Int.le_of_lt (p2 _))
    rw [← Int.pow_add] at h1 h2
    have e : intBits b + ((N : Int) + ((intBits t : Int) - intBits b) - 1).toNat = intBits t - 1 + N := by omega
    rw [e] at h1
    omega
  · have a : ahd t b = (intBits t : Int) - intBits b + 1 := if_neg c
    rw [a] at hN ⊢
    have c' : ¬ t * 2 ^ N < b * 2 ^ ((N : Int) + ((intBits t : Int) - intBits b)).toNat := fun z => c ((sc_lt (by omega)).mpr z)
    have e0 : (N : Int) + ((intBits t : Int) - intBits b + 1) - 1 = (N : Int) + ((intBits t : Int) - intBits b) := by omega
    rw [e0]
    refine ⟨?_, by omega⟩
    have h1 : t * 2 ^ N < 2 ^ intBits t * 2 ^ N := Int.mul_lt_mul_of_pos_right t1 (p2 _)
    have h2 : (2 : Int) ^ (intBits b - 1) * 2 ^ ((N : Int) + ((intBits t : Int) - intBits b + 1)).toNat ≤ b * 2 ^ ((N : Int) + ((intBits t : Int) - intBits b + 1)).toNat := Int.mul_le_mul_of_nonneg_right b3 (Int.le_of_lt (p2 _))
    rw [← Int.pow_add] at h1 h2
    have e : intBits b - 1 + ((N : Int) + ((intBits t : Int) - intBits b + 1)).toNat = intBits t + N := by omega
    rw [e] at h2
    omega
def rs (d g : Int) : Int := if d = 0 then 0 else if 2 * d < g then 1 else if 2 * d = g then 2 else 3
theorem s_rest (n : Nat) (h : HP) (l g : Int) (h0 : 0 ≤ l) : run p.T p.fs (n + 1) 9 [.int (2 * l), .int g] h = .ok (.int (rs l g)) h := by
  rw [run_eq (F := fn9) rfl rfl]
  unfold rs
  by_cases c1 : l = 0
  · simp [fn9, c1]
  have c1' : ¬ 2 * l = 0 := by omega
  by_cases c2 : 2 * l < g
  · simp [fn9, c1, c1', c2]
  by_cases c3 : 2 * l = g
  · rw [← c3]; simp [fn9, c1, c1']
  · simp [fn9, c1, c1', c2, c3]
theorem rs_mul (l g : Int) (k : Nat) : rs (l * 2 ^ k) (g * 2 ^ k) = rs l g := by
  have pk := p2 k
  have e1 : (l * 2 ^ k = 0) = (l = 0) := propext ⟨fun z => (Int.mul_eq_zero.mp z).resolve_right (Int.ne_of_gt pk), fun z => by rw [z, Int.zero_mul]⟩
  have e2 : (2 * (l * 2 ^ k) < g * 2 ^ k) = (2 * l < g) := by rw [← Int.mul_assoc]; exact propext (Int.mul_lt_mul_right pk)
  have e3 : (2 * (l * 2 ^ k) = g * 2 ^ k) = (2 * l = g) := by rw [← Int.mul_assoc]; exact propext (Int.mul_eq_mul_right_iff (Int.ne_of_gt pk))
  unfold rs
  simp only [e1, e2, e3]
theorem s_asked (n : Nat) (h : HP) {t b : Int} (ht : 0 ≤ t) (hb : 1 ≤ b) : run p.T p.fs (n + 1) 6 [.int t, .int b] h = .ok .non h := by
  rw [run_eq (F := fn6) rfl rfl]
  have c1 : ¬ t < 0 := by omega
  have c2 : ¬ b < 1 := by omega
  simp [fn6, c1, c2]
theorem s_asked_no (n : Nat) (h : HP) {t b : Int} (ht : t < 0 ∨ b < 1) : run p.T p.fs (n + 1) 6 [.int t, .int b] h = .exc (4, []) h := by
  rw [run_eq (F := fn6) rfl rfl]
  have r : p.T.rz 4 = true := rfl
  by_cases c1 : t < 0
  · simp [fn6, c1, r]
  · have c2 : b < 1 := by omega
    simp [fn6, c1, c2, r]
/-- the value in units of the least power -/
def stp0 (w f : Nat) : Nat := (-loOf w f).toNat
theorem lo_stp {w f : Nat} (hw : 2 ≤ w) : loOf w f = -(stp0 w f : Int) := by
  have := two_le_pow (show 1 ≤ w - 1 by omega)
  have e : (2 : Int) ^ 1 = 2 := rfl
  unfold stp0 loOf; omega
theorem stp_b {w f : Nat} (hw : w ≤ 20) (hf : f ≤ 200) : stp0 w f ≤ 2000000 := by
  have := pw_b hw
  unfold stp0 loOf; omega
end Pg

namespace Pg
open PySem L2 Rm
open PySem.Builtin.Int (intBits)
structure CutP (w f : Nat) (t b : Int) (u : Int) (s : Nat) (r : Int) : Prop where
  u0 : 0 ≤ u
  u1 : u < 2 ^ (f + 1)
  us : s = 0 ∨ 2 ^ f ≤ u
  sb : s ≤ 7000000
  lo : u * (b * 2 ^ s) ≤ t * 2 ^ stp0 w f
  hi : t * 2 ^ stp0 w f < (u + 1) * (b * 2 ^ s)
  rst : r = rs (t * 2 ^ stp0 w f - u * (b * 2 ^ s)) (b * 2 ^ s)
end Pg

namespace Pg
open PySem L2 Rm
open PySem.Builtin.Int (intBits)
theorem s_cut (w f : Nat) (hw2 : 2 ≤ w) (hw : w ≤ 20) (hf : f ≤ 200) (n : Nat) (h : HP) {t b : Int} (ht : 0 ≤ t) (hb : 1 ≤ b) (tb : intBits t ≤ 1000000) (bb : intBits b ≤ 1000000) :
    ∃ (u : Int) (s : Nat) (r : Int), CutP w f t b u s r ∧ run p.T p.fs (n + 4) 10 [.tup [.int w, .int f], .int t, .int b] h = .ok (.tup [.int u, .int (loOf w f + s), .int r]) h := by
  rw [run_eq (F := fn10) rfl rfl]
  have as := s_asked (n + 2) h ht hb
  have sl := s_low w f (by omega) hw (n + 1) h
  have lst := lo_stp (f := f) hw2
  have sb := stp_b hw hf
  by_cases h0 : t = 0
  · subst h0
    refine ⟨0, 0, 0, ⟨by omega, p2 _, .inl rfl, by omega, by simp, by simp; omega, by simp [rs]⟩, ?_⟩
    simp [fn10, as, sl]
  have sa := s_ahead (n + 1) h (t := t) (b := b) (by omega) (by omega)
  have ab : -3000000 ≤ ahd t b ∧ ahd t b ≤ 3000000 := by unfold ahd; split <;> omega
  generalize hA : ahd t b = A at *
  have key : ∀ q : Int, q = (if A - f - 1 > loOf w f then A - f - 1 else loOf w f) → ∃ (u : Int) (s : Nat) (r : Int), CutP w f t b u s r ∧ q = loOf w f + s ∧ u = scT t q / scW b q ∧ r = rs (scT t q % scW b q) (scW b q) ∧ 0 ≤ scT t q % scW b q ∧ dvB (scT t q) (scW b q) = true := by
    intro q hq
    have q0 : loOf w f ≤ q := by split at hq <;> omega
    have q1 : A - f - 1 ≤ q := by split at hq <;> omega
    obtain ⟨s, hs⟩ : ∃ s : Nat, q = loOf w f + s := ⟨(q - loOf w f).toNat, by omega⟩
    obtain ⟨k, e1, e2⟩ := sc_com (t := t) (b := b) (q := q) (N := stp0 w f) (by omega)
    have e3 : ((stp0 w f : Int) + q).toNat = s := by omega
    rw [e3] at e2
    have pk := p2 k
    have wp : 0 < scW b q := Int.mul_pos (by omega) (p2 _)
    have gp : 0 < b * 2 ^ s := Int.mul_pos (by omega) (p2 _)
    have du := Int.mul_ediv_add_emod (scT t q) (scW b q)
    have r0 := Int.emod_nonneg (scT t q) (Int.ne_of_gt wp)
    have r1 := Int.emod_lt_of_pos (scT t q) wp
    have tp : 0 ≤ scT t q := Int.mul_nonneg ht (Int.le_of_lt (p2 _))
    have u0 : 0 ≤ scT t q / scW b q := Int.ediv_nonneg tp (Int.le_of_lt wp)
    generalize hu : scT t q / scW b q = u at *
    generalize hl : scT t q % scW b q = l at *
    -- the rest
    have eV : t * 2 ^ stp0 w f = u * (b * 2 ^ s) + l * 2 ^ k := by
      rw [e1, e2, ← du]; grind
    have eG : b * 2 ^ s = scW b q * 2 ^ k := e2
    have l1 : l * 2 ^ k < b * 2 ^ s := by rw [eG]; exact Int.mul_lt_mul_of_pos_right r1 pk
    have l0 : 0 ≤ l * 2 ^ k := Int.mul_nonneg r0 (Int.le_of_lt pk)
    -- the bounds of u
    have M := ahd_spec (t := t) (b := b) (by omega) (by omega) (stp0 w f + 3000001) (by omega)
    rw [hA] at M
    have m1 : t * 2 ^ (stp0 w f + 3000001) = t * 2 ^ stp0 w f * 2 ^ 3000001 := by rw [Int.mul_assoc, ← pwa rfl]
    rw [m1] at M
    have u1 : u < 2 ^ (f + 1) := by
      rcases Int.lt_or_le u (2 ^ (f + 1)) with z | z
      · exact z
      · exfalso
        have a1 : 2 ^ (f + 1) * (b * 2 ^ s) ≤ u * (b * 2 ^ s) := Int.mul_le_mul_of_nonneg_right z (Int.le_of_lt gp)
        have a2 : 2 ^ (f + 1) * (b * 2 ^ s) * 2 ^ 3000001 ≤ t * 2 ^ stp0 w f * 2 ^ 3000001 := Int.mul_le_mul_of_nonneg_right (by omega) (Int.le_of_lt (p2 _))
        have a3 : 2 ^ (f + 1) * (b * 2 ^ s) * 2 ^ 3000001 = b * 2 ^ (f + 1 + s + 3000001) := by
          rw [Int.pow_add 2 (f + 1 + s), Int.pow_add 2 (f + 1)]; generalize (2 : Int) ^ 3000001 = y; grind
        have a4 : b * 2 ^ (((stp0 w f + 3000001 : Nat) : Int) + A).toNat ≤ b * 2 ^ (f + 1 + s + 3000001) := Int.mul_le_mul_of_nonneg_left (two_le_pow (by omega)) (by omega)
        omega
    have us : s = 0 ∨ 2 ^ f ≤ u := by
      by_cases z : s = 0
      · exact .inl z
      · right
        have qq : q = A - f - 1 := by split at hq <;> omega
        rcases Int.lt_or_le u (2 ^ f) with y | y
        · exfalso
          have a1 : (u + 1) * (b * 2 ^ s) ≤ 2 ^ f * (b * 2 ^ s) := Int.mul_le_mul_of_nonneg_right (by omega) (Int.le_of_lt gp)
          have a0 : t * 2 ^ stp0 w f < 2 ^ f * (b * 2 ^ s) := by rw [Int.add_mul] at a1; omega
          have a2 : t * 2 ^ stp0 w f * 2 ^ 3000001 < 2 ^ f * (b * 2 ^ s) * 2 ^ 3000001 := Int.mul_lt_mul_of_pos_right a0 (p2 _)
          have a3 : 2 ^ f * (b * 2 ^ s) * 2 ^ 3000001 = b * 2 ^ (f + s + 3000001) := by
            rw [Int.pow_add 2 (f + s), Int.pow_add 2 f]; generalize (2 : Int) ^ 3000001 = y; grind
          have a4 : (((stp0 w f + 3000001 : Nat) : Int) + A - 1).toNat = f + s + 3000001 := by omega
          rw [a4] at M
          omega
        · exact y
    have dv : dvB (scT t q) (scW b q) = true := by
      refine dvB_near wp ?_
      have w1 := (ib_lo wp)
      have w2 := ib_hi (Int.le_of_lt wp)
      have : scT t q < 2 ^ (f + 1 + intBits (scW b q)) := by
        rw [Int.pow_add]
        have a1 : scW b q * u + l < scW b q * (u + 1) := by rw [Int.mul_add]; omega
        have a2 : scW b q * (u + 1) ≤ scW b q * 2 ^ (f + 1) := Int.mul_le_mul_of_nonneg_left (by omega) (Int.le_of_lt wp)
        have a3 : scW b q * 2 ^ (f + 1) ≤ 2 ^ intBits (scW b q) * 2 ^ (f + 1) := Int.mul_le_mul_of_nonneg_right (Int.le_of_lt w2) (Int.le_of_lt (p2 _))
        rw [Int.mul_comm (2 ^ intBits (scW b q))] at a3
        omega
      have := ib_lt tp this
      omega
    refine ⟨u, s, rs l (scW b q), ⟨u0, u1, us, by split at hq <;> omega, by omega, by rw [Int.add_mul]; omega, ?_⟩, hs, rfl, rfl, r0, dv⟩
    have : t * 2 ^ stp0 w f - u * (b * 2 ^ s) = l * 2 ^ k := by omega
    rw [this, eG, rs_mul]
  obtain ⟨u, s, r, C, hs, hu, hr, l0, dv⟩ := key _ rfl
  refine ⟨u, s, r, C, ?_⟩
  generalize hq : (if A - f - 1 > loOf w f then A - f - 1 else loOf w f) = q at *
  have ss := s_scaled (n + 2) h (t := t) (b := b) (q := q) (by omega) (by omega) (by have := C.sb; omega) (by have := C.sb; omega)
  have sr := s_rest (n + 2) h (scT t q % scW b q) (scW b q) l0
  simp only [gt_iff_lt] at hq
  have m2 : mulB 2 (scT t q % scW b q) = true := mulB_left (by decide)
  rw [← hs, hu, hr]
  simp [fn10, as, sl, sa, h0, hq, ss, dv, m2, sr]
end Pg

namespace Pg
open PySem L2 Rm
open PySem.Builtin.Int (intBits)
/-! values -/
def lv (f : Nat) (c : Int) : Int := if c / 2 ^ f = 0 then c else (2 ^ f + c % 2 ^ f) * 2 ^ (c / 2 ^ f - 1).toNat
theorem lv_zero (f : Nat) : lv f 0 = 0 := by simp [lv]
theorem pow_lt_mul {a k : Nat} {x y : Int} (hx : x < 2 ^ (k + 1)) (hy : 2 ^ k ≤ y) (m : Nat) (hm : a + 1 ≤ m) : x * 2 ^ a < y * 2 ^ m := by
  have h1 : x * 2 ^ a < 2 ^ (k + 1) * 2 ^ a := Int.mul_lt_mul_of_pos_right hx (p2 a)
  have h2 : (2 : Int) ^ (k + 1) * 2 ^ a = 2 ^ k * 2 ^ (a + 1) := by rw [← Int.pow_add, ← Int.pow_add]; congr 1; omega
  have h3 : (2 : Int) ^ k * 2 ^ (a + 1) ≤ 2 ^ k * 2 ^ m := Int.mul_le_mul_of_nonneg_left (two_le_pow hm) (Int.le_of_lt (p2 k))
  have h4 : (2 : Int) ^ k * 2 ^ m ≤ y * 2 ^ m := Int.mul_le_mul_of_nonneg_right hy (Int.le_of_lt (p2 m))
  omega
theorem lv_lt {f : Nat} {a b : Int} (ha : 0 ≤ a) (hab : a < b) : lv f a < lv f b := by
  have hF := p2 f
  have qa := dn f ha
  have qb := dn f (show 0 ≤ b by omega)
  have sa := Int.mul_ediv_add_emod a (2 ^ f)
  have sb := Int.mul_ediv_add_emod b (2 ^ f)
  have ra := mn a f
  have rb := mn b f
  have qab : a / 2 ^ f ≤ b / 2 ^ f := Int.ediv_le_ediv hF (Int.le_of_lt hab)
  have eF := pow_s f
  unfold lv
  by_cases c1 : b / 2 ^ f = 0
  · have c2 : a / 2 ^ f = 0 := by omega
    simp only [c1, c2, if_true]; exact hab
  · by_cases c2 : a / 2 ^ f = 0
    · simp only [c1, c2, if_true, if_false]
      rw [c2] at sa
      have : (2 : Int) ^ f * 1 ≤ (2 ^ f + b % 2 ^ f) * 2 ^ (b / 2 ^ f - 1).toNat := Int.mul_le_mul (by omega) (by have := p2 (b / 2 ^ f - 1).toNat; omega) (by omega) (by omega)
      omega
    · simp only [c1, c2, if_false]
      by_cases c3 : a / 2 ^ f = b / 2 ^ f
      · rw [c3] at sa ⊢
        exact Int.mul_lt_mul_of_pos_right (by omega) (p2 _)
      · exact pow_lt_mul (k := f) (by omega) (by omega) _ (by omega)
theorem lv_le {f : Nat} {a b : Int} (ha : 0 ≤ a) (hab : a ≤ b) : lv f a ≤ lv f b := by
  rcases Int.lt_or_eq_of_le hab with z | z
  · exact Int.le_of_lt (lv_lt ha z)
  · rw [z]; exact Int.le_refl _
theorem lv_nn {f : Nat} {a : Int} (ha : 0 ≤ a) : 0 ≤ lv f a := by have := lv_le (f := f) (a := 0) (b := a) (by decide) ha; rw [lv_zero] at this; exact this
theorem lv_bits {w f : Nat} (hw : w ≤ 20) (hf : f ≤ 200) {c : Int} (h0 : 0 ≤ c) (h1 : c < 2 ^ (w + f)) : intBits (lv f c) ≤ 2000000 := by
  have q := div_lt_pow h1
  have q0 := dn f h0
  have w20 := two_le_pow hw
  unfold lv
  split
  · exact ib_mono (ib_lt h0 h1) (by omega)
  · have r := mn c f
    have eF := pow_s f
    have := intBits_mul_le (ib_lt (show 0 ≤ 2 ^ f + c % 2 ^ f by omega) (show 2 ^ f + c % 2 ^ f < 2 ^ (f + 1) by omega)) (ib_pow2 (c / 2 ^ f - 1).toNat)
    exact ib_mono this (by omega)
end Pg

namespace Pg
open PySem L2 Rm
open PySem.Builtin.Int (intBits)
theorem lv_cut {f s : Nat} {u : Int} (u0 : 0 ≤ u) (u1 : u ≤ 2 ^ (f + 1)) (us : s = 0 ∨ 2 ^ f ≤ u) : lv f (s * 2 ^ f + u) = u * 2 ^ s := by
  have pf := p2 f
  have eF := pow_s f
  have hd : ∀ (k : Nat) (x : Int), 0 ≤ x → x < 2 ^ f → ((k : Int) * 2 ^ f + x) / 2 ^ f = k ∧ ((k : Int) * 2 ^ f + x) % 2 ^ f = x := by
    intro k x x0 x1
    exact (Int.ediv_emod_unique (p2 f)).mpr ⟨by rw [Int.mul_comm]; omega, x0, x1⟩
  unfold lv
  rcases Int.lt_or_le u (2 ^ f) with c | c
  · have s0 : s = 0 := us.resolve_right (by omega)
    subst s0
    have := (hd 0 u u0 c).1
    simp at this
    simp [this]
  · rcases Int.lt_or_eq_of_le u1 with d | d
    · obtain ⟨h1, h2⟩ := hd (s + 1) (u - 2 ^ f) (by omega) (by omega)
      have e : (s : Int) * 2 ^ f + u = ((s + 1 : Nat) : Int) * 2 ^ f + (u - 2 ^ f) := by rw [Int.natCast_add, Int.add_mul]; simp; omega
      rw [e, h1, h2, if_neg (by omega)]
      have e2 : (((s + 1 : Nat) : Int) - 1).toNat = s := by omega
      rw [e2]
      congr 1; omega
    · obtain ⟨h1, h2⟩ := hd (s + 2) 0 (by omega) pf
      have e : (s : Int) * 2 ^ f + u = ((s + 2 : Nat) : Int) * 2 ^ f + 0 := by rw [d, Int.natCast_add, Int.add_mul, eF]; simp
      rw [e, h1, h2, if_neg (by omega)]
      have e2 : (((s + 2 : Nat) : Int) - 1).toNat = s + 1 := by omega
      rw [e2, d, pow_s s, eF, Int.add_zero]
      grind
end Pg

namespace Pg
open PySem L2 Rm
open PySem.Builtin.Int (intBits)
/-! the code of a cut -/
/-- c is the code below the value, r what is left over -/
structure CodeP (w f : Nat) (t b : Int) (c : Int) (r : Int) : Prop where
  c0 : 0 ≤ c
  lo : lv f c * b ≤ t * 2 ^ stp0 w f
  hi : t * 2 ^ stp0 w f < lv f (c + 1) * b
  rst : r = rs (t * 2 ^ stp0 w f - lv f c * b) ((lv f (c + 1) - lv f c) * b)
theorem CutP.code {w f : Nat} {t b u : Int} {s : Nat} {r : Int} (h : CutP w f t b u s r) : CodeP w f t b (s * 2 ^ f + u) r ∧ (u < 2 ^ f ↔ (s : Int) * 2 ^ f + u < 2 ^ f) := by
  have pf := p2 f
  have l1 := lv_cut h.u0 (Int.le_of_lt h.u1) h.us
  have us2 : s = 0 ∨ 2 ^ f ≤ u + 1 := by rcases h.us with z | z; exact .inl z; exact .inr (by omega)
  have l2 := lv_cut (f := f) (s := s) (u := u + 1) (by have := h.u0; omega) (by have := h.u1; omega) us2
  rw [← Int.add_assoc] at l2
  have sp : 0 ≤ (s : Int) * 2 ^ f := Int.mul_nonneg (by omega) (Int.le_of_lt pf)
  refine ⟨⟨by have := h.u0; omega, ?_, ?_, ?_⟩, ?_⟩
  · rw [l1]; have := h.lo; rw [Int.mul_assoc, Int.mul_comm (2 ^ s)]; exact this
  · rw [l2]; have := h.hi; rw [Int.mul_assoc, Int.mul_comm (2 ^ s)]; exact this
  · rw [l1, l2, h.rst]
    have e1 : u * 2 ^ s * b = u * (b * 2 ^ s) := by rw [Int.mul_assoc, Int.mul_comm (2 ^ s)]
    have e2 : ((u + 1) * 2 ^ s - u * 2 ^ s) * b = b * 2 ^ s := by rw [Int.add_mul]; grind
    rw [e1, e2]
  · constructor
    · intro z
      have : s = 0 := h.us.resolve_right (by omega)
      subst this; simp; exact z
    · intro z
      omega
end Pg

namespace Pg
open PySem L2 Rm
open PySem.Builtin.Int (intBits)
theorem lv_b15 {w f : Nat} (hw : w ≤ 15) (hf : f ≤ 112) {c : Int} (h0 : 0 ≤ c) (h1 : c < 2 ^ (w + f)) : intBits (lv f c) ≤ 40000 := by
  have q := div_lt_pow h1
  have q0 := dn f h0
  have w20 := two_le_pow hw
  have e15 : (2 : Int) ^ 15 = 32768 := rfl
  unfold lv
  split
  · exact ib_mono (ib_lt h0 h1) (by omega)
  · have r := mn c f
    have eF := pow_s f
    have := intBits_mul_le (ib_lt (show 0 ≤ 2 ^ f + c % 2 ^ f by omega) (show 2 ^ f + c % 2 ^ f < 2 ^ (f + 1) by omega)) (ib_pow2 (c / 2 ^ f - 1).toNat)
    exact ib_mono this (by omega)
theorem lvB {w f : Nat} (hw : w ≤ 15) (hf : f ≤ 112) {c : Int} (h0 : 0 ≤ c) (h1 : c < 2 ^ (w + f)) : 0 ≤ lv f c ∧ lv f c < 2 ^ 40000 := by
  have a := lv_nn (f := f) h0
  have b := ib_hi a
  have := two_le_pow (lv_b15 hw hf h0 h1)
  exact ⟨a, by omega⟩
theorem end_lt {w f : Nat} : (2 : Int) ^ (w + f) - 2 ^ f < 2 ^ (w + f) := by have := p2 f; omega
theorem end_3 {w f : Nat} (hw : 2 ≤ w) : 3 * (2 : Int) ^ f ≤ 2 ^ (w + f) - 2 ^ f := by
  have := two_le_pow (show 2 + f ≤ w + f by omega)
  rw [Int.pow_add] at this
  have e4 : (2 : Int) ^ 2 = 4 := rfl
  omega
/-- there is one code only -/
theorem CodeP.uniq {w f : Nat} {t b c r : Int} (C : CodeP w f t b c r) (hb : 0 < b) {c' : Int} (h0 : 0 ≤ c') (h1 : lv f c' * b ≤ t * 2 ^ stp0 w f) (h2 : t * 2 ^ stp0 w f < lv f (c' + 1) * b) : c = c' := by
  rcases Int.lt_trichotomy c c' with z | z | z
  · exfalso
    have a := lv_le (f := f) (a := c + 1) (b := c') (by have := C.c0; omega) (by omega)
    have a2 : lv f (c + 1) * b ≤ lv f c' * b := Int.mul_le_mul_of_nonneg_right a (Int.le_of_lt hb)
    have := C.hi; omega
  · exact z
  · exfalso
    have a := lv_le (f := f) (a := c' + 1) (b := c) (by omega) (by omega)
    have a2 : lv f (c' + 1) * b ≤ lv f c * b := Int.mul_le_mul_of_nonneg_right a (Int.le_of_lt hb)
    have := C.lo; omega
end Pg

namespace Pg
open PySem L2 Rm
open PySem.Builtin.Int (intBits)
theorem eqM_litw (h : HP) {a b : Str} (r : Bool) (e : (PyData.strOk a && PyData.strOk b && (decide (a = b) == r)) = true) : eqM h (.str a) (.str b) = some r := by
  simp only [Bool.and_eq_true, beq_iff_eq] at e
  rw [eqM_ss h e.1.1 e.1.2, e.2]
@[simp] theorem wq_even_even (h : HP) : eqM h (.str "even") (.str "even") = some true := eqM_litw h true (by decide +kernel)
@[simp] theorem wq_even_away (h : HP) : eqM h (.str "even") (.str "away") = some false := eqM_litw h false (by decide +kernel)
@[simp] theorem wq_even_nought (h : HP) : eqM h (.str "even") (.str "nought") = some false := eqM_litw h false (by decide +kernel)
@[simp] theorem wq_even_up (h : HP) : eqM h (.str "even") (.str "up") = some false := eqM_litw h false (by decide +kernel)
@[simp] theorem wq_even_down (h : HP) : eqM h (.str "even") (.str "down") = some false := eqM_litw h false (by decide +kernel)
@[simp] theorem wq_away_even (h : HP) : eqM h (.str "away") (.str "even") = some false := eqM_litw h false (by decide +kernel)
@[simp] theorem wq_away_away (h : HP) : eqM h (.str "away") (.str "away") = some true := eqM_litw h true (by decide +kernel)
@[simp] theorem wq_away_nought (h : HP) : eqM h (.str "away") (.str "nought") = some false := eqM_litw h false (by decide +kernel)
@[simp] theorem wq_away_up (h : HP) : eqM h (.str "away") (.str "up") = some false := eqM_litw h false (by decide +kernel)
@[simp] theorem wq_away_down (h : HP) : eqM h (.str "away") (.str "down") = some false := eqM_litw h false (by decide +kernel)
@[simp] theorem wq_nought_even (h : HP) : eqM h (.str "nought") (.str "even") = some false := eqM_litw h false (by decide +kernel)
@[simp] theorem wq_nought_away (h : HP) : eqM h (.str "nought") (.str "away") = some false := eqM_litw h false (by decide +kernel)
@[simp] theorem wq_nought_nought (h : HP) : eqM h (.str "nought") (.str "nought") = some true := eqM_litw h true (by decide +kernel)
@[simp] theorem wq_nought_up (h : HP) : eqM h (.str "nought") (.str "up") = some false := eqM_litw h false (by decide +kernel)
@[simp] theorem wq_nought_down (h : HP) : eqM h (.str "nought") (.str "down") = some false := eqM_litw h false (by decide +kernel)
@[simp] theorem wq_up_even (h : HP) : eqM h (.str "up") (.str "even") = some false := eqM_litw h false (by decide +kernel)
@[simp] theorem wq_up_away (h : HP) : eqM h (.str "up") (.str "away") = some false := eqM_litw h false (by decide +kernel)
@[simp] theorem wq_up_nought (h : HP) : eqM h (.str "up") (.str "nought") = some false := eqM_litw h false (by decide +kernel)
@[simp] theorem wq_up_up (h : HP) : eqM h (.str "up") (.str "up") = some true := eqM_litw h true (by decide +kernel)
@[simp] theorem wq_up_down (h : HP) : eqM h (.str "up") (.str "down") = some false := eqM_litw h false (by decide +kernel)
@[simp] theorem wq_down_even (h : HP) : eqM h (.str "down") (.str "even") = some false := eqM_litw h false (by decide +kernel)
@[simp] theorem wq_down_away (h : HP) : eqM h (.str "down") (.str "away") = some false := eqM_litw h false (by decide +kernel)
@[simp] theorem wq_down_nought (h : HP) : eqM h (.str "down") (.str "nought") = some false := eqM_litw h false (by decide +kernel)
@[simp] theorem wq_down_up (h : HP) : eqM h (.str "down") (.str "up") = some false := eqM_litw h false (by decide +kernel)
@[simp] theorem wq_down_down (h : HP) : eqM h (.str "down") (.str "down") = some true := eqM_litw h true (by decide +kernel)
def wayN : Nat → Str
  | 0 => "even" | 1 => "away" | 2 => "nought" | 3 => "up" | _ => "down"
def wayO : Nat → MV
  | 0 => .obj 7 [] | 1 => .obj 8 [] | 2 => .obj 6 [] | 3 => .obj 9 [.int 0] | _ => .obj 9 [.int 1]
def giK : Nat → Nat
  | 0 => 16 | 1 => 16 | 2 => 14 | 3 => 21 | _ => 21
def biK : Nat → Nat
  | 0 => 18 | 1 => 18 | 2 => 15 | 3 => 22 | _ => 22
def miK : Nat → Nat
  | 0 => 17 | _ => 19
theorem five {k : Nat} (h : k < 5) : k = 0 ∨ k = 1 ∨ k = 2 ∨ k = 3 ∨ k = 4 := by omega
theorem mg_ok (k : Nat) (hk : k < 5) (h : HP) : mthV p.T h (wayO k) "grows" = some (giK k) := by
  rcases five hk with z | z | z | z | z <;> subst z <;> rfl
theorem mb_ok (k : Nat) (hk : k < 5) (h : HP) : mthV p.T h (wayO k) "bursts" = some (biK k) := by
  rcases five hk with z | z | z | z | z <;> subst z <;> rfl
theorem mm_ok (k : Nat) (hk : k < 2) (h : HP) : mthV p.T h (wayO k) "grows_midway" = some (miK k) := by
  rcases (show k = 0 ∨ k = 1 by omega) with z | z <;> subst z <;> rfl
theorem s_init (n i : Nat) (h : HP) (s : Int) (e : h[i]? = some (.ins 9 [])) : run p.T p.fs (n + 1) 20 [.ref i, .int s] h = .ok .non (h.set i (.ins 9 [.int s])) := by
  rw [run_eq (F := fn20) rfl rfl]
  have st : staV p.T h (.ref i) "outward_sign" (.int s) = some (h.set i (.ins 9 [.int s])) := by
    unfold staV
    simp only [e]
    rfl
  simp [fn20, st, leave, fin]
theorem s_way_of (n : Nat) (h : HP) (k : Nat) (hk : k < 5) : run p.T p.fs (n + 2) 23 [.str (wayN k)] h = .ok (wayO k) h := by
  rw [run_eq (F := fn23) rfl rfl]
  have i0 : p.T.ini 7 = none := rfl
  have i1 : p.T.ini 8 = none := rfl
  have i2 : p.T.ini 6 = none := rfl
  have i3 : p.T.ini 9 = some 20 := rfl
  have o0 : p.T.obj 7 = true := rfl
  have o1 : p.T.obj 8 = true := rfl
  have o2 : p.T.obj 6 = true := rfl
  have o3 : p.T.obj 9 = true := rfl
  have n0 : p.T.n0 7 = true := rfl
  have n1 : p.T.n0 8 = true := rfl
  have n2 : p.T.n0 6 = true := rfl
  have ii (s : Int) := s_init n h.length (h ++ [.ins 9 []]) s (by simp)
  rcases five hk with z | z | z | z | z <;> subst z
  · simp [fn23, wayN, wayO, i0, o0, n0]
  · simp [fn23, wayN, wayO, i1, o1, n1]
  · simp [fn23, wayN, wayO, i2, o2, n2]
  · simp [fn23, wayN, wayO, i3, o3, ii, leave, fin, frz, lows, low]
  · simp [fn23, wayN, wayO, i3, o3, ii, leave, fin, frz, lows, low]
def grw (k : Nat) (s : Int) (odd : Bool) (r : Int) : Bool := match k with
  | 0 => if r = 2 then odd else decide (r = 3)
  | 1 => if r = 2 then true else decide (r = 3)
  | 2 => false
  | 3 => decide (0 < r) && decide (s = 0)
  | _ => decide (0 < r) && decide (s = 1)
def bst (k : Nat) (s : Int) : Bool := match k with
  | 0 => true
  | 1 => true
  | 2 => false
  | 3 => decide (s = 0)
  | _ => decide (s = 1)
theorem s_grows (n : Nat) (h : HP) (k : Nat) (hk : k < 5) (s : Int) (odd : Bool) (r : Int) : run p.T p.fs (n + 2) (giK k) [wayO k, .int s, .bl odd, .int r] h = .ok (.bl (grw k s odd r)) h := by
  rcases five hk with z | z | z | z | z <;> subst z
  · show run p.T p.fs (n + 2) 16 _ h = _
    rw [run_eq (F := fn16) rfl rfl]
    have m := mm_ok 0 (by decide) h
    have c : run p.T p.fs (n + 1) (miK 0) [wayO 0, .bl odd] h = .ok (.bl odd) h := by
      show run p.T p.fs (n + 1) 17 _ h = _
      rw [run_eq (F := fn17) rfl rfl]; simp [fn17]
    by_cases q : r = 2
    · simp [fn16, m, c, q, grw]
    · simp [fn16, m, c, q, grw]
  · show run p.T p.fs (n + 2) 16 _ h = _
    rw [run_eq (F := fn16) rfl rfl]
    have m := mm_ok 1 (by decide) h
    have c : run p.T p.fs (n + 1) (miK 1) [wayO 1, .bl odd] h = .ok (.bl true) h := by
      show run p.T p.fs (n + 1) 19 _ h = _
      rw [run_eq (F := fn19) rfl rfl]; simp [fn19]
    by_cases q : r = 2
    · simp [fn16, m, c, q, grw]
    · simp [fn16, m, c, q, grw]
  · show run p.T p.fs (n + 2) 14 _ h = _
    rw [run_eq (F := fn14) rfl rfl]; simp [fn14, grw]
  · show run p.T p.fs (n + 2) 21 _ h = _
    rw [run_eq (F := fn21) rfl rfl]
    have a : atrV p.T h (wayO 3) "outward_sign" = some (.int 0) := rfl
    simp [fn21, a, grw]
  · show run p.T p.fs (n + 2) 21 _ h = _
    rw [run_eq (F := fn21) rfl rfl]
    have a : atrV p.T h (wayO 4) "outward_sign" = some (.int 1) := rfl
    simp [fn21, a, grw]
theorem s_bursts (n : Nat) (h : HP) (k : Nat) (hk : k < 5) (s : Int) : run p.T p.fs (n + 1) (biK k) [wayO k, .int s] h = .ok (.bl (bst k s)) h := by
  rcases five hk with z | z | z | z | z <;> subst z
  · show run p.T p.fs (n + 1) 18 _ h = _
    rw [run_eq (F := fn18) rfl rfl]; simp [fn18, bst]
  · show run p.T p.fs (n + 1) 18 _ h = _
    rw [run_eq (F := fn18) rfl rfl]; simp [fn18, bst]
  · show run p.T p.fs (n + 1) 15 _ h = _
    rw [run_eq (F := fn15) rfl rfl]; simp [fn15, bst]
  · show run p.T p.fs (n + 1) 22 _ h = _
    rw [run_eq (F := fn22) rfl rfl]
    have a : atrV p.T h (wayO 3) "outward_sign" = some (.int 0) := rfl
    simp [fn22, a, bst]
  · show run p.T p.fs (n + 1) 22 _ h = _
    rw [run_eq (F := fn22) rfl rfl]
    have a : atrV p.T h (wayO 4) "outward_sign" = some (.int 1) := rfl
    simp [fn22, a, bst]
end Pg

namespace Pg
open PySem L2 Rm
open PySem.Builtin.Int (intBits)
/-! the size's own numbers -/
theorem s_endless (w f : Nat) (hw : w ≤ 20) (hf : f ≤ 200) (n : Nat) (h : HP) : run p.T p.fs (n + 1) 4 [.tup [.int w, .int f]] h = .ok (.int (2 ^ (w + f) - 2 ^ f)) h := by
  rw [run_eq (F := fn4) rfl rfl]
  have s1 := shlB_one (b := (w : Int)) (by omega) (by omega)
  have pw := p2 w
  have s2 : shlB (2 ^ w - 1) (f : Int) = true := shlB_of (m := 20) (ib_lt (by omega) (by have := two_le_pow hw; omega)) (by omega) (by omega)
  have x5 : (2 ^ w - 1) * (2 : Int) ^ f = 2 ^ (w + f) - 2 ^ f := by rw [Int.sub_mul, ← Int.pow_add, Int.one_mul]
  simp [fn4, s1, s2, x5]
theorem s_sign_bit' (w f : Nat) (hw : w ≤ 20) (hf : f ≤ 200) (n : Nat) (h : HP) : run p.T p.fs (n + 1) 3 [.tup [.int w, .int f]] h = .ok (.int (2 ^ (w + f))) h := by
  have s := shlB_one (b := (w : Int) + f) (by omega) (by omega)
  rw [run_eq (F := fn3) rfl rfl]; simp [fn3, s]
end Pg

namespace Pg
open PySem L2 Rm
open PySem.Builtin.Int (intBits)
/-- what a cut is settled to: the code, the flags -/
def stl (w f k : Nat) (s c r : Int) : Int × Int :=
  if 2 ^ (w + f) - 2 ^ f ≤ c then ((if bst k s = true then 2 ^ (w + f) - 2 ^ f else 2 ^ (w + f) - 2 ^ f - 1), 5)
  else if r = 0 then (c, 0)
  else ((if grw k s (decide (c % 2 = 1)) r = true then c + 1 else c), (if (if grw k s (decide (c % 2 = 1)) r = true then c + 1 else c) = 2 ^ (w + f) - 2 ^ f then 5 else if c < 2 ^ f then 3 else 1))
theorem s_settled (w f : Nat) (hw2 : 2 ≤ w) (hw : w ≤ 20) (hf1 : 1 ≤ f) (hf : f ≤ 200) (n : Nat) (h : HP) (k : Nat) (hk : k < 5) {s : Int} (hs : s = 0 ∨ s = 1) {u : Int} {d : Nat} {r : Int} (us : d = 0 ∨ 2 ^ f ≤ u) (u0 : 0 ≤ u) (d1 : d ≤ 8000000) :
    run p.T p.fs (n + 4) 24 [.tup [.int w, .int f], .str (wayN k), .int s, .int u, .int (loOf w f + d), .int r] h = .ok (.tup [.int (s * 2 ^ (w + f) + (stl w f k s (d * 2 ^ f + u) r).1), .int (stl w f k s (d * 2 ^ f + u) r).2]) h := by
  rw [run_eq (F := fn24) rfl rfl]
  have wo := s_way_of (n + 1) h k hk
  have sb := s_sign_bit' w f hw hf (n + 2) h
  have lw := s_low w f (by omega) hw (n + 1) h
  have en := s_endless w f hw hf (n + 2) h
  have ms : mulB s (2 ^ (w + f)) = true := mulB_left (by rcases hs with z | z <;> subst z <;> decide)
  have sh : shlB (d : Int) (f : Int) = true := shlB_of (m := 30) (ib_lt (by omega) (by omega)) (by omega) (by omega)
  have s1 := shlB_one (b := (f : Int)) (by omega) (by omega)
  have mb := mb_ok k hk h
  have mg := mg_ok k hk h
  have bb := s_bursts (n + 2) h k hk s
  have pf := p2 f
  have dp : 0 ≤ (d : Int) * 2 ^ f := Int.mul_nonneg (by omega) (Int.le_of_lt pf)
  have uc : u < 2 ^ f ↔ (d : Int) * 2 ^ f + u < 2 ^ f := by
    constructor
    · intro z
      have : d = 0 := us.resolve_right (by omega)
      subst this; simp; exact z
    · intro z; omega
  have od : u % 2 = ((d : Int) * 2 ^ f + u) % 2 := by
    have e : (2 : Int) ^ f = 2 * 2 ^ (f - 1) := by rw [← pow_s, Nat.sub_add_cancel hf1]
    have : (d : Int) * 2 ^ f = 2 * (d * 2 ^ (f - 1)) := by rw [e]; grind
    omega
  have b0 : Builtin.bitOr 1 4 = 5 := by decide
  have b1 : Builtin.bitOr 1 2 = 3 := by decide
  have eE : 3 * (2 : Int) ^ f ≤ 2 ^ (w + f) - 2 ^ f := by
    have := two_le_pow (show 2 + f ≤ w + f by omega)
    rw [Int.pow_add] at this
    have e4 : (2 : Int) ^ 2 = 4 := rfl
    omega
  have gr := s_grows (n + 1) h k hk s (decide (u % 2 = 1)) r
  rw [od] at gr
  generalize hc : (d : Int) * 2 ^ f + u = c at *
  generalize hE : (2 : Int) ^ (w + f) - 2 ^ f = E at *
  generalize hg : grw k s (decide (c % 2 = 1)) r = g at *
  unfold stl
  rw [hE, hg]
  have hd : loOf w f + (d : Int) - loOf w f = d := by omega
  by_cases h1 : E ≤ c
  · cases hb : bst k s
    · rw [hb] at bb
      simp [fn24, wo, sb, lw, en, ms, hd, sh, hc, h1, mb, bb, b0]
      omega
    · rw [hb] at bb
      simp [fn24, wo, sb, lw, en, ms, hd, sh, hc, h1, mb, bb, b0]
  by_cases h2 : r = 0
  · simp [fn24, wo, sb, lw, en, ms, hd, sh, hc, h1, h2]
  have oo : Builtin.bitAnd u 1 = c % 2 := by rw [PyProof.Rows.bitAnd_m1]; exact od
  by_cases h3 : u < 2 ^ f
  · have h3' := uc.mp h3
    cases g
    · have e1 : ¬ c = E := by omega
      simp [fn24, wo, sb, lw, en, ms, hd, sh, s1, hc, h1, h2, h3, h3', mg, oo, gr, e1, b1]
    · have e1 : ¬ c + 1 = E := by omega
      simp [fn24, wo, sb, lw, en, ms, hd, sh, s1, hc, h1, h2, h3, h3', mg, oo, gr, e1, b1]
  · have h3' : ¬ c < 2 ^ f := fun z => h3 (uc.mpr z)
    cases g
    · have e1 : ¬ c = E := by omega
      simp [fn24, wo, sb, lw, en, ms, hd, sh, s1, hc, h1, h2, h3, h3', mg, oo, gr, e1, b0]
    · by_cases e1 : c + 1 = E
      · simp [fn24, wo, sb, lw, en, ms, hd, sh, s1, hc, h1, h2, h3, h3', mg, oo, gr, e1, b0]
      · simp [fn24, wo, sb, lw, en, ms, hd, sh, s1, hc, h1, h2, h3, h3', mg, oo, gr, e1, b0]
end Pg

namespace Pg
open PySem L2 Rm
open PySem.Builtin.Int (intBits)
theorem s_rounded (w f : Nat) (hw2 : 2 ≤ w) (hw : w ≤ 20) (hf1 : 1 ≤ f) (hf : f ≤ 200) (n : Nat) (h : HP) (k : Nat) (hk : k < 5) {s : Int} (hs : s = 0 ∨ s = 1) {t b : Int} (ht : 0 ≤ t) (hb : 1 ≤ b) (tb : intBits t ≤ 1000000) (bb : intBits b ≤ 1000000) :
    ∃ c r : Int, CodeP w f t b c r ∧ run p.T p.fs (n + 5) 25 [.tup [.int w, .int f], .str (wayN k), .int s, .int t, .int b] h = .ok (.tup [.int (s * 2 ^ (w + f) + (stl w f k s c r).1), .int (stl w f k s c r).2]) h := by
  obtain ⟨u, d, r, C, ec⟩ := s_cut w f hw2 hw hf n h ht hb tb bb
  refine ⟨(d : Int) * 2 ^ f + u, r, C.code.1, ?_⟩
  rw [run_eq (F := fn25) rfl rfl]
  have wo := s_way_of (n + 2) h k hk
  have st := s_settled w f hw2 hw hf1 hf n h k hk hs (u := u) (d := d) (r := r) C.us C.u0 (by have := C.sb; omega)
  simp [fn25, wo, ec, st]
end Pg

namespace Pg
open PySem L2 Rm
open PySem.Builtin.Int (intBits)
/-- V over B lies between two neighbours -/
structure Fr (f : Nat) (V B c r : Int) : Prop where
  c0 : 0 ≤ c
  b0 : 0 < B
  lo : lv f c * B ≤ V
  hi : V < lv f (c + 1) * B
  rst : r = rs (V - lv f c * B) ((lv f (c + 1) - lv f c) * B)
theorem CodeP.fr {w f : Nat} {t b c r : Int} (C : CodeP w f t b c r) (hb : 0 < b) : Fr f (t * 2 ^ stp0 w f) b c r := ⟨C.c0, hb, C.lo, C.hi, C.rst⟩
theorem rs_mulI (l g : Int) {m : Int} (pk : 0 < m) : rs (l * m) (g * m) = rs l g := by
  have e1 : (l * m = 0) = (l = 0) := propext ⟨fun z => (Int.mul_eq_zero.mp z).resolve_right (Int.ne_of_gt pk), fun z => by rw [z, Int.zero_mul]⟩
  have e2 : (2 * (l * m) < g * m) = (2 * l < g) := by rw [← Int.mul_assoc]; exact propext (Int.mul_lt_mul_right pk)
  have e3 : (2 * (l * m) = g * m) = (2 * l = g) := by rw [← Int.mul_assoc]; exact propext (Int.mul_eq_mul_right_iff (Int.ne_of_gt pk))
  unfold rs
  simp only [e1, e2, e3]
theorem Fr.mul {f : Nat} {V B c r : Int} (F : Fr f V B c r) {m : Int} (hm : 0 < m) : Fr f (V * m) (B * m) c r := by
  refine ⟨F.c0, Int.mul_pos F.b0 hm, ?_, ?_, ?_⟩
  · rw [← Int.mul_assoc]; exact Int.mul_le_mul_of_nonneg_right F.lo (Int.le_of_lt hm)
  · rw [← Int.mul_assoc]; exact Int.mul_lt_mul_of_pos_right F.hi hm
  · rw [← Int.mul_assoc, ← Int.mul_assoc, ← Int.sub_mul, rs_mulI _ _ hm]; exact F.rst
end Pg

namespace Pg
open PySem L2 Rm
open PySem.Builtin.Int (intBits)
theorem s_sizeby (n : Nat) (h : HP) (c : Int) : ∃ w f : Nat, 2 ≤ w ∧ w ≤ 15 ∧ 1 ≤ f ∧ f ≤ 112 ∧ run p.T p.fs (n + 1) 39 [.int c] h = .ok (.tup [.int w, .int f]) h := by
  rw [run_eq (F := fn39) rfl rfl]
  have d1 := dvB_small (a := c) (b := 8) (by decide) (by decide)
  have d2 := dvB_small (a := c / 8) (b := 14) (by decide) (by decide)
  have d3 := dvB_small (a := c / 8) (b := 4) (by decide) (by decide)
  have w0 : 0 ≤ c % 8 := by omega
  have w1 : c % 8 < 8 := by omega
  by_cases h4 : c % 8 < 4
  · have : c % 8 = 0 ∨ c % 8 = 1 ∨ c % 8 = 2 ∨ c % 8 = 3 := by omega
    rcases this with z | z | z | z
    · exact ⟨5, 10, by decide, by decide, by decide, by decide, by simp [fn39, d1, z]⟩
    · exact ⟨8, 23, by decide, by decide, by decide, by decide, by simp [fn39, d1, z]⟩
    · exact ⟨11, 52, by decide, by decide, by decide, by decide, by simp [fn39, d1, z]⟩
    · exact ⟨15, 112, by decide, by decide, by decide, by decide, by simp [fn39, d1, z]⟩
  by_cases h6 : c % 8 < 6
  · refine ⟨(2 + c / 8 % 14).toNat, (1 + c / 8 / 14 % 112).toNat, by omega, by omega, by omega, by omega, ?_⟩
    have e1 : (((2 + c / 8 % 14).toNat : Nat) : Int) = 2 + c / 8 % 14 := by omega
    have e2 : (((1 + c / 8 / 14 % 112).toNat : Nat) : Int) = 1 + c / 8 / 14 % 112 := by omega
    rw [e1, e2]
    simp [fn39, d1, d2, h4, h6]
  · refine ⟨(2 + c / 8 % 4).toNat, (1 + c / 8 / 4 % 5).toNat, by omega, by omega, by omega, by omega, ?_⟩
    have e1 : (((2 + c / 8 % 4).toNat : Nat) : Int) = 2 + c / 8 % 4 := by omega
    have e2 : (((1 + c / 8 / 4 % 5).toNat : Nat) : Int) = 1 + c / 8 / 4 % 5 := by omega
    rw [e1, e2]
    simp [fn39, d1, d3, h4, h6]
end Pg

namespace Pg
open PySem L2 Rm
open PySem.Builtin.Int (intBits)
theorem s_wayby (n : Nat) (h : HP) (c : Int) : ∃ k : Nat, k < 5 ∧ run p.T p.fs (n + 1) 40 [.int c] h = .ok (.str (wayN k)) h := by
  rw [run_eq (F := fn40) rfl rfl]
  rcases (show c % 5 = 0 ∨ c % 5 = 1 ∨ c % 5 = 2 ∨ c % 5 = 3 ∨ c % 5 = 4 by omega) with z | z | z | z | z
  · exact ⟨0, by decide, by simp [fn40, z, wayN]⟩
  · exact ⟨1, by decide, by simp [fn40, z, wayN]⟩
  · exact ⟨2, by decide, by simp [fn40, z, wayN]⟩
  · exact ⟨3, by decide, by simp [fn40, z, wayN]⟩
  · exact ⟨4, by decide, by simp [fn40, z, wayN]⟩
end Pg

namespace Pg
open PySem L2 Rm
open PySem.Builtin.Int (intBits)
theorem stp_eq {w f : Nat} (hw : 2 ≤ w) : (2 : Int) ^ (w - 1) - 2 + f = stp0 w f := by
  have := lo_stp (f := f) hw
  unfold loOf at this; omega
theorem stp_s {w f : Nat} (hw : w ≤ 15) (hf : f ≤ 112) : stp0 w f ≤ 17000 := by
  have := two_le_pow (show w - 1 ≤ 14 by omega)
  have e14 : (2 : Int) ^ 14 = 16384 := rfl
  unfold stp0 loOf; omega
end Pg

namespace Pg
open PySem L2 Rm
open PySem.Builtin.Int (intBits)
theorem s_bitsby (w f : Nat) (hw2 : 2 ≤ w) (hw : w ≤ 15) (hf1 : 1 ≤ f) (hf : f ≤ 112) (n : Nat) (h : HP) (c : Int) (hc : intBits c ≤ 1048576) :
    ∃ b : Int, 0 ≤ b ∧ b < 2 ^ (w + f + 1) ∧ run p.T p.fs (n + 1) 41 [.tup [.int w, .int f], .int c] h = .ok (.int b) h := by
  rw [run_eq (F := fn41) rfl rfl]
  have d1 := dvB_small (a := c) (b := 9) (by decide) (by decide)
  have d2 := dvB_small (a := c / 9) (b := 2) (by decide) (by decide)
  have d3 := dvB_small (a := c / 9 / 2) (b := 4) (by decide) (by decide)
  have w0 : 0 ≤ c % 9 := by omega
  have w1 : c % 9 < 9 := by omega
  have mb := mulB_of (a := c / 9) (b := 73846150927364518273645509182736455091829) (intBits_le_of_natAbs (by omega) hc) (show _ ≤ 200 by decide) (by omega)
  have hg := p2 (f - 1)
  have hv := p2 (w - 1)
  have eF : (2 : Int) ^ f = 2 * 2 ^ (f - 1) := by rw [← pow_s, Nat.sub_add_cancel hf1]
  have eW : (2 : Int) ^ w = 2 * 2 ^ (w - 1) := by rw [← pow_s, Nat.sub_add_cancel (by omega)]
  have hw' : 2 ≤ (2 : Int) ^ (w - 1) := by have := two_le_pow (show 1 ≤ w - 1 by omega); simpa using this
  have eH : (2 : Int) ^ (w + f) = 2 ^ w * 2 ^ f := Int.pow_add ..
  have eH1 : (2 : Int) ^ (w + f) = 2 * (2 ^ (w - 1) * 2 ^ f) := by rw [eH, eW, Int.mul_assoc]
  have eT : (2 : Int) ^ (w + f + 1) = 2 * 2 ^ (w + f) := pow_s _
  have lo : 2 * 2 ^ f ≤ (2 : Int) ^ (w - 1) * 2 ^ f := Int.mul_le_mul_of_nonneg_right hw' (by omega)
  have s0 := shlB_one (b := (w : Int) + (f : Int)) (by omega) (by omega)
  have s1 := shlB_one (b := (w : Int)) (by omega) (by omega)
  have s2 := shlB_one (b := (f : Int)) (by omega) (by omega)
  have s3 := shlB_one (b := (f : Int) - 1) (by omega) (by omega)
  have s4 := shlB_one (b := (w : Int) - 1) (by omega) (by omega)
  have s5 : shlB (2 ^ w - 1) (f : Int) = true := shlB_of (m := 16) (ib_lt (by omega) (by have := two_le_pow (show w ≤ 15 by omega); omega)) (by omega) (by omega)
  have s6 : shlB (2 ^ (w - 1) - 1) (f : Int) = true := shlB_of (m := 16) (ib_lt (by omega) (by have := two_le_pow (show w - 1 ≤ 15 by omega); omega)) (by omega) (by omega)
  have s7 : shlB (c / 9 / 2 / 4 % 2 ^ w) (f : Int) = true := shlB_of (m := 16) (ib_lt (mn _ _).1 (by have := two_le_pow (show w ≤ 15 by omega); have := (mn (c / 9 / 2 / 4) w).2; omega)) (by omega) (by omega)
  have m2 : mulB 2 (2 ^ (w + f)) = true := mulB_left (by decide)
  have ms : mulB (c / 9 % 2) (2 ^ (w + f)) = true := mulB_left (ib_mono (ib_lt (n := 1) (by omega) (by omega)) (by decide))
  have x5 : (2 ^ w - 1) * (2 : Int) ^ f = 2 ^ (w + f) - 2 ^ f := by rw [Int.sub_mul, ← eH, Int.one_mul]
  have x6 : (2 ^ (w - 1) - 1) * (2 : Int) ^ f = 2 ^ (w - 1) * 2 ^ f - 2 ^ f := by rw [Int.sub_mul, Int.one_mul]
  have y0 : 0 ≤ c / 9 % 2 ∧ c / 9 % 2 < 2 := by omega
  have hs : 0 ≤ c / 9 % 2 * 2 ^ (w + f) ∧ c / 9 % 2 * 2 ^ (w + f) ≤ 2 ^ (w + f) := by
    have : c / 9 % 2 = 0 ∨ c / 9 % 2 = 1 := by omega
    rcases this with z | z <;> rw [z] <;> omega
  have n1 : ¬ (1 : Int) < 0 := by decide
  rcases (show c % 9 < 3 ∨ c % 9 = 3 ∨ c % 9 = 4 ∨ c % 9 = 5 ∨ c % 9 = 6 ∨ c % 9 = 7 ∨ c % 9 = 8 by omega) with z | z | z | z | z | z | z
  · refine ⟨c / 9 * 73846150927364518273645509182736455091829 % (2 * 2 ^ (w + f)), Int.emod_nonneg _ (by omega), ?_, ?_⟩
    · rw [eT]; exact Int.emod_lt_of_pos _ (by omega)
    · have r2 : 0 < 2 * (2 : Int) ^ (w + f) := by have := p2 (w + f); omega
      simp [fn41, d1, s0, s1, s5, mb, m2, z, r2]
  · refine ⟨c / 9 % 2 * 2 ^ (w + f) + c / 9 / 2 % 6, by omega, by omega, ?_⟩
    simp [fn41, d1, d2, s0, s1, s5, ms, z]
  · refine ⟨c / 9 % 2 * 2 ^ (w + f) + (2 ^ w - 1) * 2 ^ f - 3 + c / 9 / 2 % 5, by omega, by omega, ?_⟩
    simp [fn41, d1, d2, s0, s1, s5, ms, z]
  · refine ⟨c / 9 % 2 * 2 ^ (w + f) + 2 ^ f - 2 + c / 9 / 2 % 4, by omega, by omega, ?_⟩
    simp [fn41, d1, d2, s0, s1, s2, s5, ms, z]
  · refine ⟨c / 9 % 2 * 2 ^ (w + f) + (2 ^ (w - 1) - 1) * 2 ^ f - 2 + c / 9 / 2 % 5, by omega, by omega, ?_⟩
    simp [fn41, d1, d2, s0, s1, s2, s4, s5, s6, ms, z]
  · have r0 := Int.emod_nonneg (c / 9 / 2) (show (2 : Int) ^ f - 1 ≠ 0 by omega)
    have r1 := Int.emod_lt_of_pos (c / 9 / 2) (show (0 : Int) < 2 ^ f - 1 by omega)
    have r2 : (1 : Int) < 2 ^ f := by omega
    refine ⟨c / 9 % 2 * 2 ^ (w + f) + (2 ^ w - 1) * 2 ^ f + 1 + c / 9 / 2 % (2 ^ f - 1), by omega, by omega, ?_⟩
    simp [fn41, d1, d2, s0, s1, s2, s5, ms, z, r2]
  · have q := mn (c / 9 / 2 / 4) w
    have q1 : c / 9 / 2 / 4 % 2 ^ w * 2 ^ f ≤ (2 ^ w - 1) * 2 ^ f := Int.mul_le_mul_of_nonneg_right (by omega) (by omega)
    have q0 : 0 ≤ c / 9 / 2 / 4 % 2 ^ w * 2 ^ f := Int.mul_nonneg q.1 (by omega)
    rcases (show c / 9 / 2 % 4 = 0 ∨ c / 9 / 2 % 4 = 1 ∨ c / 9 / 2 % 4 = 2 ∨ c / 9 / 2 % 4 = 3 by omega) with y | y | y | y
    · refine ⟨c / 9 % 2 * 2 ^ (w + f) + c / 9 / 2 / 4 % 2 ^ w * 2 ^ f + 0, by omega, by omega, ?_⟩
      simp [fn41, d1, d2, d3, s0, s1, s2, s3, s5, s7, ms, z, y]
    · refine ⟨c / 9 % 2 * 2 ^ (w + f) + c / 9 / 2 / 4 % 2 ^ w * 2 ^ f + 1, by omega, by omega, ?_⟩
      simp [fn41, d1, d2, d3, s0, s1, s2, s3, s5, s7, ms, z, y]
    · refine ⟨c / 9 % 2 * 2 ^ (w + f) + c / 9 / 2 / 4 % 2 ^ w * 2 ^ f + (2 ^ f - 1), by omega, by omega, ?_⟩
      simp [fn41, d1, d2, d3, s0, s1, s2, s3, s5, s7, ms, z, y]
    · refine ⟨c / 9 % 2 * 2 ^ (w + f) + c / 9 / 2 / 4 % 2 ^ w * 2 ^ f + 2 ^ (f - 1), by omega, by omega, ?_⟩
      simp [fn41, d1, d2, d3, s0, s1, s2, s3, s5, s7, ms, z, y]
end Pg

namespace Pg
open PySem L2 Rm
open PySem.Builtin.Int (intBits)
/-! fields, figures, codes and values -/
theorem code_sp (w f : Nat) (b : Int) : b % 2 ^ (w + f) = 2 ^ f * fdOf w f b + fgOf f b := by
  have e : (2 : Int) ^ (w + f) = 2 ^ f * 2 ^ w := by rw [Int.pow_add, Int.mul_comm]
  rw [e, mod_split (p2 f) (p2 w)]; rfl
theorem lv_wh (w f : Nat) (b : Int) (hw2 : 2 ≤ w) : ∃ m : Int, 0 < m ∧ whOf w f b * 2 ^ (pwOf w f b).toNat * m = lv f (b % 2 ^ (w + f)) ∧ 2 ^ (-pwOf w f b).toNat * m = 2 ^ stp0 w f := by
  have ls := lo_stp (f := f) hw2
  have a := fd_b w f b
  have e1 : b % 2 ^ (w + f) / 2 ^ f = fdOf w f b := mod_div_pow b w f
  have e2 : b % 2 ^ (w + f) % 2 ^ f = fgOf f b := mod_mod_pow b w f
  have cs := code_sp w f b
  unfold lv whOf pwOf
  rw [e1, e2]
  by_cases z : fdOf w f b = 0
  · simp only [z, if_true]
    refine ⟨1, by decide, ?_, ?_⟩
    · have : (loOf w f).toNat = 0 := by omega
      rw [this, cs, z]; simp
    · have : (-loOf w f).toNat = stp0 w f := by omega
      rw [this, Int.mul_one]
  · simp only [z, if_false]
    refine ⟨2 ^ (stp0 w f - (-(loOf w f + fdOf w f b - 1)).toNat), p2 _, ?_, ?_⟩
    · rw [Int.mul_assoc, ← Int.pow_add]
      congr 2; omega
    · rw [← Int.pow_add]; congr 1; omega
theorem fd_last {w f : Nat} (hw : 1 ≤ w) {b : Int} : 2 ^ (w + f) - 2 ^ f ≤ b % 2 ^ (w + f) ↔ fdOf w f b = 2 ^ w - 1 := by
  have cs := code_sp w f b
  have a := fd_b w f b
  have c := fg_b f b
  have e : (2 : Int) ^ (w + f) = 2 ^ f * 2 ^ w := by rw [Int.pow_add, Int.mul_comm]
  have hF := p2 f
  rw [cs, e]
  constructor
  · intro z
    rcases Int.lt_or_le (fdOf w f b) (2 ^ w - 1) with y | y
    · exfalso
      have : 2 ^ f * fdOf w f b ≤ 2 ^ f * (2 ^ w - 2) := Int.mul_le_mul_of_nonneg_left (by omega) (by omega)
      rw [Int.mul_sub] at this
      omega
    · omega
  · intro z
    rw [z, Int.mul_sub]; omega
theorem fd_end {w f : Nat} (hw : 1 ≤ w) {b : Int} : b % 2 ^ (w + f) = 2 ^ (w + f) - 2 ^ f ↔ (fdOf w f b = 2 ^ w - 1 ∧ fgOf f b = 0) := by
  have cs := code_sp w f b
  have l := fd_last (w := w) (f := f) (b := b) hw
  have e : (2 : Int) ^ (w + f) = 2 ^ f * 2 ^ w := by rw [Int.pow_add, Int.mul_comm]
  constructor
  · intro z
    have y := l.mp (by omega)
    rw [y, Int.mul_sub] at cs
    exact ⟨y, by omega⟩
  · intro ⟨z, y⟩
    rw [z, y, Int.mul_sub] at cs
    omega
theorem wh_nought {w f : Nat} {b : Int} : b % 2 ^ (w + f) = 0 ↔ whOf w f b = 0 := by
  have cs := code_sp w f b
  have a := fd_b w f b
  have c := fg_b f b
  have hF := p2 f
  unfold whOf
  constructor
  · intro z
    have : fdOf w f b = 0 := by
      rcases Int.lt_or_le 0 (fdOf w f b) with y | y
      · exfalso
        have : 2 ^ f * 1 ≤ 2 ^ f * fdOf w f b := Int.mul_le_mul_of_nonneg_left (by omega) (by omega)
        omega
      · omega
    rw [this] at cs ⊢
    simp; omega
  · intro z
    split at z
    · rename_i y; rw [y, z] at cs; omega
    · omega
end Pg

namespace Pg
open PySem L2 Rm
open PySem.Builtin.Int (intBits)
theorem s_nonum (w f : Nat) (hw : w ≤ 15) (hw2 : 2 ≤ w) (hf1 : 1 ≤ f) (hf : f ≤ 112) (n : Nat) (h : HP) : run p.T p.fs (n + 2) 5 [.tup [.int w, .int f]] h = .ok (.int (2 ^ (w + f) - 2 ^ f + 2 ^ (f - 1))) h := by
  rw [run_eq (F := fn5) rfl rfl]
  have e := s_endless w f (by omega) (by omega) n h
  have s2 := shlB_one (b := (f : Int) - 1) (by omega) (by omega)
  have x5 : (2 ^ w - 1) * (2 : Int) ^ f = 2 ^ (w + f) - 2 ^ f := by rw [Int.sub_mul, ← Int.pow_add, Int.one_mul]
  have pw := p2 w
  have eF : (2 : Int) ^ f = 2 * 2 ^ (f - 1) := by rw [← pow_s, Nat.sub_add_cancel hf1]
  have pv := p2 (f - 1)
  have o := or_lowC (q := 2 ^ w - 1) (r := 2 ^ (f - 1)) (k := f) (by omega) (by omega) (by omega)
  rw [x5] at o
  simp [fn5, e, s2, o]
end Pg

namespace Pg
open PySem L2 Rm
open PySem.Builtin.Int (intBits)
/-! values and neighbours -/
theorem stl_exact {w f : Nat} {k : Nat} {s c : Int} (h : c < 2 ^ (w + f) - 2 ^ f) : stl w f k s c 0 = (c, 0) := by
  unfold stl; rw [if_neg (by omega)]; simp
theorem lv_last {w : Nat} (hw : 1 ≤ w) (f : Nat) : lv f (2 ^ (w + f) - 2 ^ f) = 2 ^ f * 2 ^ ((2 : Int) ^ w - 2).toNat := by
  have w2 : (2 : Int) ≤ 2 ^ w := by have := two_le_pow hw; simpa using this
  have pf := p2 f
  have := lv_cut (f := f) (s := ((2 : Int) ^ w - 2).toNat) (u := 2 ^ f) (by omega) (by rw [pow_s]; omega) (.inr (Int.le_refl _))
  rw [← this]
  congr 1
  have e : ((((2 : Int) ^ w - 2).toNat : Nat) : Int) = 2 ^ w - 2 := by omega
  rw [e, Int.sub_mul, ← Int.pow_add]; omega
/-- a code by its place and figures -/
theorem code_su (f : Nat) {c : Int} (c0 : 0 ≤ c) : ∃ (s : Nat) (u : Int), c = s * 2 ^ f + u ∧ 0 ≤ u ∧ u < 2 ^ (f + 1) ∧ (s = 0 ∨ 2 ^ f ≤ u) := by
  have pf := p2 f
  have eF := pow_s f
  have e := Int.mul_ediv_add_emod c (2 ^ f)
  have r := mn c f
  have q := dn f c0
  rcases Int.lt_or_eq_of_le q with z | z
  · refine ⟨(c / 2 ^ f - 1).toNat, 2 ^ f + c % 2 ^ f, ?_, by omega, by omega, .inr (by omega)⟩
    have h : (((c / 2 ^ f - 1).toNat : Nat) : Int) = c / 2 ^ f - 1 := by omega
    rw [h, Int.sub_mul, Int.mul_comm]; omega
  · rw [← z] at e
    exact ⟨0, c, by simp, c0, by omega, .inl rfl⟩
theorem lv_pw (f : Nat) {c : Int} (c0 : 0 ≤ c) : ∃ (x : Int) (q : Nat), lv f c = x * 2 ^ q ∧ 0 ≤ x ∧ x < 2 ^ (f + 1) := by
  obtain ⟨s, u, e, u0, u1, us⟩ := code_su f c0
  exact ⟨u, s, by rw [e]; exact lv_cut u0 (by omega) us, u0, u1⟩
theorem lv_exact {f : Nat} {c V x : Int} {q : Nat} (c0 : 0 ≤ c) (hV : V = x * 2 ^ q) (x0 : 0 ≤ x) (x1 : x < 2 ^ (f + 1)) (h1 : lv f c ≤ V) (h2 : V < lv f (c + 1)) : V = lv f c := by
  obtain ⟨s, u, e, u0, u1, us⟩ := code_su f c0
  have l1 : lv f c = u * 2 ^ s := by rw [e]; exact lv_cut u0 (by omega) us
  have l2 : lv f (c + 1) = (u + 1) * 2 ^ s := by
    rw [e, Int.add_assoc]; exact lv_cut (by omega) (by omega) (by omega)
  have ps := p2 s
  rw [l1] at h1 ⊢
  rw [l2] at h2
  have sq : s ≤ q := by
    rcases us with z | z
    · omega
    · rcases Nat.lt_or_ge q s with y | y
      · exfalso
        have a1 : (2 : Int) ^ f * 2 ^ s ≤ u * 2 ^ s := Int.mul_le_mul_of_nonneg_right z (by omega)
        have a2 : x * 2 ^ q < 2 ^ (f + 1) * 2 ^ q := Int.mul_lt_mul_of_pos_right x1 (p2 q)
        rw [← Int.pow_add] at a1 a2
        have a3 := two_le_pow (show f + 1 + q ≤ f + s by omega)
        omega
      · exact y
  have e2 : x * 2 ^ q = x * 2 ^ (q - s) * 2 ^ s := by rw [Int.mul_assoc, ← Int.pow_add, Nat.sub_add_cancel sq]
  rw [hV, e2] at h1 h2 ⊢
  have b1 := Int.le_of_mul_le_mul_right h1 ps
  have b2 := Int.lt_of_mul_lt_mul_right h2 (by omega)
  have : x * 2 ^ (q - s) = u := by omega
  rw [this]
theorem Fr.exact {f : Nat} {V B c r : Int} (F : Fr f V B c r) {c' : Int} (c0 : 0 ≤ c') (h : V = lv f c' * B) : c = c' ∧ r = 0 := by
  have e : c = c' := by
    have l := F.lo
    have u := F.hi
    rw [h] at l u
    have l1 := Int.le_of_mul_le_mul_right l F.b0
    have l2 := Int.lt_of_mul_lt_mul_right u (Int.le_of_lt F.b0)
    rcases Int.lt_trichotomy c c' with z | z | z
    · have := lv_le (f := f) (a := c + 1) (b := c') (by have := F.c0; omega) (by omega); omega
    · exact z
    · have := lv_lt (f := f) c0 z; omega
  refine ⟨e, ?_⟩
  have := F.rst
  rw [e, h, Int.sub_self] at this
  simpa [rs] using this
theorem Fr.zero {f : Nat} {V B c r : Int} (F : Fr f V B c r) (h : r = 0) : V = lv f c * B := by
  have := F.rst
  rw [h] at this
  unfold rs at this
  split at this
  · omega
  · split at this
    · omega
    · split at this <;> omega
theorem Fr.nn {f : Nat} {V B c r : Int} (F : Fr f V B c r) : 0 ≤ r := by
  rw [F.rst]; unfold rs; split
  · omega
  · split
    · omega
    · split <;> omega
theorem lv_lt_iff {f : Nat} {a b : Int} (ha : 0 ≤ a) (hb : 0 ≤ b) (h : lv f a < lv f b) : a < b := by
  rcases Int.lt_or_le a b with z | z
  · exact z
  · have := lv_le (f := f) hb z; omega
theorem lv_le_iff {f : Nat} {a b : Int} (ha : 0 ≤ a) (hb : 0 ≤ b) (h : lv f a ≤ lv f b) : a ≤ b := by
  rcases Int.lt_or_le b a with z | z
  · have := lv_lt (f := f) hb z; omega
  · exact z
theorem Fr.uniq {f : Nat} {V B c r : Int} (F : Fr f V B c r) {a : Int} (a0 : 0 ≤ a) (h1 : lv f a * B ≤ V) (h2 : V < lv f (a + 1) * B) : c = a := by
  have l1 := Int.lt_of_mul_lt_mul_right (Int.lt_of_le_of_lt h1 F.hi) (Int.le_of_lt F.b0)
  have l2 := Int.lt_of_mul_lt_mul_right (Int.lt_of_le_of_lt F.lo h2) (Int.le_of_lt F.b0)
  have := lv_lt_iff a0 (by have := F.c0; omega) l1
  have := lv_lt_iff F.c0 (by omega) l2
  omega
theorem lv_ge (f : Nat) : ∀ n : Nat, (n : Int) ≤ lv f n
  | 0 => by rw [show ((0 : Nat) : Int) = 0 from rfl, lv_zero]; omega
  | n + 1 => by
    have := lv_ge f n
    have := lv_lt (f := f) (a := n) (b := ((n + 1 : Nat) : Int)) (by omega) (by omega)
    omega
theorem lv_floor (f : Nat) {V : Int} (h : 0 ≤ V) : ∃ c : Int, 0 ≤ c ∧ lv f c ≤ V ∧ V < lv f (c + 1) := by
  have key : ∀ N : Nat, V < lv f N → ∃ c : Int, 0 ≤ c ∧ lv f c ≤ V ∧ V < lv f (c + 1) := by
    intro N
    induction N with
    | zero => intro z; rw [show ((0 : Nat) : Int) = 0 from rfl, lv_zero] at z; omega
    | succ N ih =>
      intro z
      rcases Int.lt_or_le V (lv f N) with y | y
      · exact ih y
      · exact ⟨N, by omega, y, by simpa using z⟩
  refine key (V.toNat + 1) ?_
  have := lv_ge f (V.toNat + 1)
  omega
/-- every number of a size is one of a wider size -/
theorem lv_emb {f f' d : Nat} (hf : f ≤ f') {a : Int} (a0 : 0 ≤ a) : ∃ p : Int, 0 ≤ p ∧ lv f' p = lv f a * 2 ^ d := by
  obtain ⟨x, q, ex, x0, x1⟩ := lv_pw f a0
  obtain ⟨c, c0, h1, h2⟩ := lv_floor f' (V := lv f a * 2 ^ d) (Int.mul_nonneg (lv_nn a0) (Int.le_of_lt (p2 d)))
  have xf := two_le_pow (show f + 1 ≤ f' + 1 by omega)
  exact ⟨c, c0, (lv_exact (x := x) (q := q + d) c0 (by rw [ex, Int.mul_assoc, ← Int.pow_add]) x0 (by omega) h1 h2).symm⟩
end Pg

namespace Pg
open PySem L2 Rm
open PySem.Builtin.Int (intBits)
/-! exact sums of worths -/
abbrev T3 := Int × Int × Int
def tm (t : T3) : MV := .tup [.int t.1, .int t.2.1, .int t.2.2]
def lstP (ts : List T3) : Int := match ts.map (·.2.2) with
  | [] => 0
  | i :: is => mnL i is
def exT (l : Int) (t : T3) : Int := (1 - 2 * t.1) * (t.2.1 * 2 ^ (t.2.2 - l).toNat)
def exS3 (l : Int) : List T3 → Int
  | [] => 0
  | t :: ts => exT l t + exS3 l ts
structure Tms (ts : List T3) : Prop where
  sgn : ∀ t ∈ ts, t.1 = 0 ∨ t.1 = 1
  nn : ∀ t ∈ ts, 0 ≤ t.2.1
  bits : ∀ t ∈ ts, intBits t.2.1 ≤ 40000000
  pw : ∀ t ∈ ts, -1000000 ≤ t.2.2 ∧ t.2.2 ≤ 1000000
theorem mnL_ok : ∀ (is : List Int) (m : Int), (mnL m is = m ∨ mnL m is ∈ is) ∧ mnL m is ≤ m ∧ ∀ y ∈ is, mnL m is ≤ y
  | [], m => ⟨.inl rfl, Int.le_refl _, fun y hy => by cases hy⟩
  | i :: is, m => by
    obtain ⟨a, b, c⟩ := mnL_ok is (if i < m then i else m)
    have e : mnL m (i :: is) = mnL (if i < m then i else m) is := rfl
    rw [e]
    refine ⟨?_, ?_, fun y hy => ?_⟩
    · rcases a with a | a
      · rw [a]; split
        · exact .inr (List.mem_cons_self ..)
        · exact .inl rfl
      · exact .inr (List.mem_cons_of_mem _ a)
    · split at b <;> split <;> omega
    · rcases List.mem_cons.mp hy with z | z
      · subst z; split at b <;> split <;> omega
      · exact c y z
theorem lstP_le {ts : List T3} {t : T3} (h : t ∈ ts) : lstP ts ≤ t.2.2 := by
  cases ts with
  | nil => cases h
  | cons u us =>
    obtain ⟨_, b, c⟩ := mnL_ok (us.map (·.2.2)) u.2.2
    show mnL u.2.2 (us.map (·.2.2)) ≤ _
    rcases List.mem_cons.mp h with z | z
    · rw [z]; exact b
    · exact c _ (List.mem_map.mpr ⟨t, z, rfl⟩)
theorem lstP_bd {ts : List T3} (h : Tms ts) : -1000000 ≤ lstP ts ∧ lstP ts ≤ 1000000 := by
  cases ts with
  | nil => exact ⟨by decide, by decide⟩
  | cons u us =>
    obtain ⟨a, _, _⟩ := mnL_ok (us.map (·.2.2)) u.2.2
    have e : lstP (u :: us) = mnL u.2.2 (us.map (·.2.2)) := rfl
    rw [e]
    rcases a with a | a
    · rw [a]; exact h.pw u (List.mem_cons_self ..)
    · obtain ⟨t, h1, h2⟩ := List.mem_map.mp a
      rw [← h2]; exact h.pw t (List.mem_cons_of_mem _ h1)
theorem getM (t : T3) (h : HP) : idxV h (tm t) (.int 2) = some (.int t.2.2) ∧ idxV h (tm t) (.int 0) = some (.int t.1) := ⟨by simp [tm], by simp [tm]⟩
theorem total_loop (n : Nat) {h : HP} {v : MV} {ts : List T3} (hv : seqOf h v = some (ts.map tm)) (l : Int) (C : Nat → List MV → HP → R MV) : ∀ (ys : List T3) (acc : Int) (x3 x4 x5 x6 x7 : Option MV), Tms ys → (∀ t ∈ ys, l ≤ t.2.2 ∧ t.2.2 - l ≤ 2000000) →
    ∃ y3 y4 y5 y6 : Option MV, forL (.tup [3, 4, 5]) (fun h => seqOf h v) (ts.map tm) (exSs p.T C w26_0) (ys.map tm) [some v, some (.int l), some (.int acc), x3, x4, x5, x6, x7] h = .nx [some v, some (.int l), some (.int (acc + exS3 l ys)), y3, y4, y5, y6, x7] h
  | [], acc, x3, x4, x5, x6, x7, _, _ => ⟨x3, x4, x5, x6, by simp only [List.map_nil]; rw [forL, if_pos hv]; simp [exS3]⟩
  | t :: ys, acc, x3, x4, x5, x6, x7, hy, hl => by
    have sg := hy.sgn t (List.mem_cons_self ..)
    have nn := hy.nn t (List.mem_cons_self ..)
    have bt := hy.bits t (List.mem_cons_self ..)
    have lt := hl t (List.mem_cons_self ..)
    have sh := shlB_of (b := t.2.2 - l) bt (by omega) (by omega)
    have hy' : Tms ys := ⟨fun u hu => hy.sgn u (List.mem_cons_of_mem _ hu), fun u hu => hy.nn u (List.mem_cons_of_mem _ hu), fun u hu => hy.bits u (List.mem_cons_of_mem _ hu), fun u hu => hy.pw u (List.mem_cons_of_mem _ hu)⟩
    have ih := total_loop n hv l C ys (acc + exT l t) (some (.int t.1)) (some (.int t.2.1)) (some (.int t.2.2)) (some (.int (t.2.1 * 2 ^ (t.2.2 - l).toNat))) x7 hy' fun u hu => hl u (List.mem_cons_of_mem _ hu)
    obtain ⟨y3, y4, y5, y6, e⟩ := ih
    refine ⟨y3, y4, y5, y6, ?_⟩
    have e2 : acc + exS3 l (t :: ys) = acc + exT l t + exS3 l ys := by
      have : exS3 l (t :: ys) = exT l t + exS3 l ys := rfl
      omega
    rw [e2]
    rw [List.map_cons, forL, if_pos hv]
    have sg1 : setG (.tup [3, 4, 5]) (tm t) [some v, some (.int l), some (.int acc), x3, x4, x5, x6, x7] = some [some v, some (.int l), some (.int acc), some (.int t.1), some (.int t.2.1), some (.int t.2.2), x6, x7] := by simp [tm]
    rw [sg1]
    rcases sg with z | z
    · have ex : acc + t.2.1 * 2 ^ (t.2.2 - l).toNat = acc + exT l t := by unfold exT; rw [z]; simp
      simp [z, sh, ex]
      rw [z] at e
      exact e
    · have ex : acc - t.2.1 * 2 ^ (t.2.2 - l).toNat = acc + exT l t := by unfold exT; rw [z, show (1 - 2 * 1 : Int) = -1 from rfl, Int.neg_one_mul, Int.sub_eq_add_neg]
      simp [z, sh, ex]
      rw [z] at e
      exact e
theorem s_total (n : Nat) {h : HP} {v : MV} {ts : List T3} (hv : ∀ g, seqOf (h ++ g) v = some (ts.map tm)) (ht : Tms ts) (hn : ts.length ≤ 1000000) :
    run p.T p.fs (n + 1) 26 [v] h = .ok (.tup [.int (if exS3 (lstP ts) ts < 0 then 1 else 0), .int (exS3 (lstP ts) ts).natAbs, .int (lstP ts)]) h := by
  rw [run_eq (F := fn26) rfl rfl]
  have hv0 : seqOf h v = some (ts.map tm) := by simpa using hv []
  have lb := lstP_bd ht
  have hl (e : EN) (he : 7 < e.length) : lcL false (.one 7) (fun h => seqOf h v) (ts.map tm) (evE p.T (run p.T p.fs n) (.idx (.var 7) (.cI 2))) e h (ts.map tm) [] = .ok (.lst (ts.map fun t => .int t.2.2)) h :=
    lcL_map ts tm (fun t => .int t.2.2) (fun acc => hv _) (by omega) fun t _ => ⟨e.set 7 (some (tm t)), rfl, fun H => by simp [he, tm], by simp⟩
  have hm : mndV h (.lst (ts.map fun t => MV.int t.2.2)) (.int 0) = some (.int (lstP ts)) := by
    have : (ts.map fun t => MV.int t.2.2) = (ts.map (·.2.2)).map .int := by rw [List.map_map]; rfl
    rw [this, mndV_lst]
    unfold lstP
    cases ts.map (·.2.2) <;> rfl
  obtain ⟨y3, y4, y5, y6, lp⟩ := total_loop n hv0 (lstP ts) (run p.T p.fs n) ts 0 none none none none none ht fun t hm => ⟨lstP_le hm, by have := ht.pw t hm; omega⟩
  rw [Int.zero_add] at lp
  obtain ⟨S, hS⟩ : ∃ S, exS3 (lstP ts) ts = S := ⟨_, rfl⟩
  rw [hS] at lp ⊢
  by_cases z : S < 0
  · have e : ((S.natAbs : Nat) : Int) = -S := by omega
    rw [e]
    simp [fn26, hv0, hl, hm, lp, z]
  · have e : ((S.natAbs : Nat) : Int) = S := by omega
    rw [e]
    simp [fn26, hv0, hl, hm, lp, z]
end Pg

namespace Pg
open PySem L2 Rm
open PySem.Builtin.Int (intBits)
/-- the same number by another top and bottom -/
theorem Fr.ratio {f : Nat} {V B c r V' B' : Int} (F : Fr f V B c r) (b' : 0 < B') (e : V * B' = V' * B) : Fr f V' B' c r := by
  have b0 := F.b0
  refine ⟨F.c0, b', ?_, ?_, ?_⟩
  · have h := Int.mul_le_mul_of_nonneg_right F.lo (Int.le_of_lt b')
    rw [e, Int.mul_assoc, Int.mul_comm B, ← Int.mul_assoc] at h
    exact Int.le_of_mul_le_mul_right h b0
  · have h := Int.mul_lt_mul_of_pos_right F.hi b'
    rw [e, Int.mul_assoc, Int.mul_comm B, ← Int.mul_assoc] at h
    exact Int.lt_of_mul_lt_mul_right h (Int.le_of_lt b0)
  · have h1 := rs_mulI (V - lv f c * B) ((lv f (c + 1) - lv f c) * B) b'
    have h2 := rs_mulI (V' - lv f c * B') ((lv f (c + 1) - lv f c) * B') b0
    rw [F.rst, ← h1, ← h2]
    congr 1
    · rw [Int.sub_mul, Int.sub_mul, e]
      congr 1
      rw [Int.mul_assoc, Int.mul_assoc, Int.mul_comm B]
    · rw [Int.mul_assoc, Int.mul_assoc, Int.mul_comm B]
end Pg

namespace Pg
open PySem L2 Rm
open PySem.Builtin.Int (intBits)
/-! sums settled: the sign of a sum that is nought, the rounding -/
theorem inF_ints (i : Int) : ∀ ss : List Int, inF (.int i) (ss.map .int) = decide (i ∈ ss)
  | [] => by simp [inF]
  | s :: ss => by
    have ih := inF_ints i ss
    unfold inF at ih ⊢
    rw [List.map_cons, List.any_cons, ih]
    have : eqF (.int s) (.int i) = decide (i = s) := by
      show (s == i) = _
      by_cases h : s = i
      · simp [h]
      · have h' : ¬ i = s := fun z => h z.symm
        simp [h, h']
    rw [this]
    by_cases h : i = s <;> simp [h]
theorem flat_ints (ss : List Int) : (ss.map MV.int).all flatM = true := by
  rw [List.all_eq_true]
  intro x hx
  obtain ⟨s, _, rfl⟩ := List.mem_map.mp hx
  rfl
theorem inV_ints {h : HP} {v : MV} {ss : List Int} (hv : seqOf h v = some (ss.map .int)) (i : Int) : Rm.inV h (.int i) v = some (decide (i ∈ ss)) := by
  rw [inV_seq hv]
  have : (flatM (.int i) && (ss.map MV.int).all flatM) = true := by rw [flat_ints]; rfl
  rw [if_pos this, inF_ints]
def noughtS (k : Nat) (ss : List Int) : Int := match ss with
  | [] => 0
  | s :: _ => if 0 ∈ ss ∧ 1 ∈ ss then (if k = 4 then 1 else 0) else s
theorem s_nought (n : Nat) (h : HP) (k : Nat) (hk : k < 5) {v : MV} {ss : List Int} (hv : seqOf h v = some (ss.map .int)) (hi : ∀ s0 rest, ss = s0 :: rest → idxV h v (.int 0) = some (.int s0)) :
    run p.T p.fs (n + 3) 27 [.str (wayN k), v] h = .ok (.int (noughtS k ss)) h := by
  rw [run_eq (F := fn27) rfl rfl]
  have wo := s_way_of n h k hk
  have i0 := inV_ints hv 0
  have i1 := inV_ints hv 1
  have w4 : eqM h (.str (wayN k)) (.str "down") = some (decide (k = 4)) := by rcases five hk with z | z | z | z | z <;> subst z <;> simp [wayN]
  cases ss with
  | nil => simp [fn27, wo, hv, noughtS]
  | cons s0 rest =>
    have ix := hi s0 rest rfl
    have len : ¬ ((rest.length : Int) + 1 = 0) := by omega
    by_cases a : (0 : Int) ∈ s0 :: rest
    · by_cases b : (1 : Int) ∈ s0 :: rest
      · by_cases c : k = 4
        · subst c
          simp -implicitDefEqProofs only [noughtS, a, b, and_self, if_true]
          simp -implicitDefEqProofs [fn27, wo, hv, i0, i1, a, b, w4, len]
        · simp -implicitDefEqProofs only [noughtS, a, b, c, and_self, if_true, if_false]
          simp -implicitDefEqProofs [fn27, wo, hv, i0, i1, a, b, w4, c, len]
      · simp -implicitDefEqProofs only [noughtS, a, b, and_false, if_false]
        simp -implicitDefEqProofs [fn27, wo, hv, i0, i1, a, b, len, ix]
    · simp -implicitDefEqProofs only [noughtS, a, false_and, if_false]
      simp -implicitDefEqProofs [fn27, wo, hv, i0, i1, a, len, ix]
end Pg

namespace Pg
open PySem L2 Rm
open PySem.Builtin.Int (intBits)
section
variable (w f : Nat) (hw2 : 2 ≤ w) (hw : w ≤ 15) (hf1 : 1 ≤ f) (hf : f ≤ 112) (n : Nat) {h : HP} (k : Nat) (hk : k < 5) {v : MV} {ts : List T3} (hv : ∀ g, seqOf (h ++ g) v = some (ts.map tm)) (ht : Tms ts) (hn : ts.length ≤ 1000000)
include hw2 hw hf1 hf hk hv ht hn
theorem s_settled_nought (hz : exS3 (lstP ts) ts = 0) :
    run p.T p.fs (n + 6) 28 [.tup [.int w, .int f], .str (wayN k), v] h = .ok (.tup [.int (noughtS k (ts.map (·.1)) * 2 ^ (w + f)), .int 0]) h := by
  rw [run_eq (F := fn28) rfl rfl]
  have wo := s_way_of (n + 3) h k hk
  have hv0 : seqOf h v = some (ts.map tm) := by simpa using hv []
  have tt := s_total (n + 4) hv ht hn
  rw [hz] at tt
  simp at tt
  have hl (e : EN) (he : 6 < e.length) : lcL false (.one 6) (fun h => seqOf h v) (ts.map tm) (evE p.T (run p.T p.fs (n + 5)) (.idx (.var 6) (.cI 0))) e h (ts.map tm) [] = .ok (.lst (ts.map fun t => .int t.1)) h :=
    lcL_map ts tm (fun t => .int t.1) (fun acc => hv _) (by omega) fun t _ => ⟨e.set 6 (some (tm t)), rfl, fun H => by simp [he, tm], by simp⟩
  have em : (ts.map fun t => MV.int t.1) = (ts.map (·.1)).map .int := by rw [List.map_map]; rfl
  have ns := s_nought (n + 2) h k hk (v := .lst (ts.map fun t => MV.int t.1)) (ss := ts.map (·.1)) (by rw [em]; rfl) (fun s0 rest e => by rw [em, e]; simp)
  have sb := s_sign_bit' w f (by omega) (by omega) (n + 4) h
  have nb : noughtS k (ts.map (·.1)) = 0 ∨ noughtS k (ts.map (·.1)) = 1 := by
    cases ts with
    | nil => left; rfl
    | cons t us =>
      show (if _ then _ else _) = _ ∨ (if _ then _ else _) = _
      have := ht.sgn t (List.mem_cons_self ..)
      split
      · split
        · right; rfl
        · left; rfl
      · exact this
  have ms : mulB (noughtS k (ts.map (·.1))) (2 ^ (w + f)) = true := mulB_left (by rcases nb with z | z <;> rw [z] <;> decide)
  simp -implicitDefEqProofs [fn28, wo, tt, hv0, hl, ns, sb, ms]
theorem s_settled_fin (hz : exS3 (lstP ts) ts ≠ 0) (sb : intBits (exS3 (lstP ts) ts) ≤ 400000) (lb : -400000 ≤ lstP ts ∧ lstP ts ≤ 400000) : ∃ c r : Int, Fr f ((exS3 (lstP ts) ts).natAbs * 2 ^ (lstP ts).toNat * 2 ^ stp0 w f) (2 ^ (-lstP ts).toNat) c r ∧
    run p.T p.fs (n + 6) 28 [.tup [.int w, .int f], .str (wayN k), v] h = .ok (.tup [.int ((if exS3 (lstP ts) ts < 0 then 1 else 0) * 2 ^ (w + f) + (stl w f k (if exS3 (lstP ts) ts < 0 then 1 else 0) c r).1), .int (stl w f k (if exS3 (lstP ts) ts < 0 then 1 else 0) c r).2]) h := by
  have wo := s_way_of (n + 3) h k hk
  have hv0 : seqOf h v = some (ts.map tm) := by simpa using hv []
  have tt := s_total (n + 4) hv ht hn
  obtain ⟨S, hS⟩ : ∃ S, exS3 (lstP ts) ts = S := ⟨_, rfl⟩
  obtain ⟨l, hl⟩ : ∃ l, lstP ts = l := ⟨_, rfl⟩
  rw [hS, hl] at tt
  rw [hS] at hz sb ⊢
  rw [hl] at lb ⊢
  have az : ¬ ((S.natAbs : Nat) : Int) = 0 := by omega
  have ab : intBits ((S.natAbs : Nat) : Int) ≤ 400000 := intBits_le_of_natAbs (by omega) sb
  obtain ⟨s, hs⟩ : ∃ s : Int, (if S < 0 then (1 : Int) else 0) = s := ⟨_, rfl⟩
  have s01 : s = 0 ∨ s = 1 := by split at hs <;> omega
  rw [hs] at tt ⊢
  obtain ⟨A, hA⟩ : ∃ A : Int, ((S.natAbs : Nat) : Int) = A := ⟨_, rfl⟩
  rw [hA] at tt az ab ⊢
  have A0 : 0 ≤ A := by omega
  have pp := p2 l.toNat
  have pm := p2 (-l).toNat
  obtain ⟨c, r, C, er⟩ := s_rounded w f hw2 (by omega) hf1 (by omega) n h k hk s01 (t := A * 2 ^ l.toNat) (b := 2 ^ (-l).toNat) (Int.mul_nonneg A0 (by omega)) (by omega) (ib_mono (intBits_mul_le ab (ib_pow2 _)) (by omega)) (ib_mono (ib_pow2 _) (by omega))
  refine ⟨c, r, C.fr (by omega), ?_⟩
  rw [run_eq (F := fn28) rfl rfl]
  by_cases z : 0 ≤ l
  · have e1 : (-l).toNat = 0 := by omega
    rw [e1] at er
    simp at er
    have sl := shlB_of (b := l) ab z (by omega)
    simp -implicitDefEqProofs [fn28, wo, tt, az, z, sl, er]
  · have e1 : l.toNat = 0 := by omega
    rw [e1] at er
    simp at er
    have sl := shlB_one (b := -l) (by omega) (by omega)
    simp -implicitDefEqProofs [fn28, wo, tt, az, z, sl, er]
end
end Pg

namespace Pg
open PySem L2 Rm
open PySem.Builtin.Int (intBits)
theorem s_gone (w f : Nat) (hw2 : 2 ≤ w) (hw : w ≤ 15) (hf1 : 1 ≤ f) (hf : f ≤ 112) (n : Nat) (h : HP) : run p.T p.fs (n + 3) 30 [.tup [.int w, .int f]] h = .ok (.tup [.int (2 ^ (w + f) - 2 ^ f + 2 ^ (f - 1)), .int 16]) h := by
  rw [run_eq (F := fn30) rfl rfl]
  have nn := s_nonum w f hw hw2 hf1 hf n h
  simp [fn30, nn]
end Pg

namespace Pg
open PySem L2 Rm
open PySem.Builtin.Int (intBits)
theorem s_endless_with (w f : Nat) (hw2 : 2 ≤ w) (hw : w ≤ 15) (hf1 : 1 ≤ f) (hf : f ≤ 112) (n : Nat) (h : HP) {s : Int} (hs : s = 0 ∨ s = 1) : run p.T p.fs (n + 2) 31 [.tup [.int w, .int f], .int s] h = .ok (.int (s * 2 ^ (w + f) + (2 ^ (w + f) - 2 ^ f))) h := by
  rw [run_eq (F := fn31) rfl rfl]
  have sb := s_sign_bit' w f (by omega) (by omega) n h
  have en := s_endless w f (by omega) (by omega) n h
  have ms : mulB s (2 ^ (w + f)) = true := mulB_left (by rcases hs with z | z <;> rw [z] <;> decide)
  simp [fn31, sb, en, ms]
end Pg

namespace Pg
open PySem L2 Rm
open PySem.Builtin.Int (intBits)
/-! sums of terms -/
inductive Tm3 where
  | wr | en (s : Int) | fin (t : T3)
def tmMV : Tm3 → MV
  | .wr => .tup [.str "wrong", .int 0, .int 0, .int 0]
  | .en s => .tup [.str "endless", .int s, .int 0, .int 0]
  | .fin t => .tup [.str "finite", .int t.1, .int t.2.1, .int t.2.2]
def ens : List Tm3 → List Int
  | [] => []
  | .en s :: ts => s :: ens ts
  | .wr :: ts => ens ts
  | .fin _ :: ts => ens ts
def fins : List Tm3 → List T3
  | [] => []
  | .fin t :: ts => t :: fins ts
  | .wr :: ts => fins ts
  | .en _ :: ts => fins ts
def hasWr : List Tm3 → Bool
  | [] => false
  | .wr :: _ => true
  | .en _ :: ts => hasWr ts
  | .fin _ :: ts => hasWr ts
theorem fins_len : ∀ ts : List Tm3, (fins ts).length ≤ ts.length
  | [] => Nat.le_refl _
  | .wr :: ts => by have := fins_len ts; simp only [fins, List.length_cons]; omega
  | .en _ :: ts => by have := fins_len ts; simp only [fins, List.length_cons]; omega
  | .fin _ :: ts => by have := fins_len ts; simp only [fins, List.length_cons]; omega
@[simp] theorem tq_ww (h : HP) : eqM h (.str "wrong") (.str "wrong") = some true := eqM_lit h true (by decide +kernel)
@[simp] theorem tq_ew (h : HP) : eqM h (.str "endless") (.str "wrong") = some false := eqM_lit h false (by decide +kernel)
@[simp] theorem tq_fw (h : HP) : eqM h (.str "finite") (.str "wrong") = some false := eqM_lit h false (by decide +kernel)
@[simp] theorem tq_fe (h : HP) : eqM h (.str "finite") (.str "endless") = some false := eqM_lit h false (by decide +kernel)
@[simp] theorem tq_ff (h : HP) : eqM h (.str "finite") (.str "finite") = some true := eqM_lit h true (by decide +kernel)
@[simp] theorem tq_ef (h : HP) : eqM h (.str "endless") (.str "finite") = some false := eqM_lit h false (by decide +kernel)
section
variable (h : HP) (A B : List MV) (x : MV)
theorem c0_at : (h ++ [.lst A, .lst B])[h.length]? = some (MO.lst A) := by simp
theorem c1_at : (h ++ [.lst A, .lst B])[h.length + 1]? = some (MO.lst B) := by simp
@[simp] theorem c0_cell : isCell (h ++ [.lst A, .lst B]) (.ref h.length) = true := by simp [isCell]
@[simp] theorem c1_cell : isCell (h ++ [.lst A, .lst B]) (.ref (h.length + 1)) = true := by simp [isCell]
theorem c0_app (ha : A.length < sz) : appV (h ++ [.lst A, .lst B]) (.ref h.length) x = some (h ++ [.lst (A ++ [x]), .lst B]) := by
  have : (h ++ [MO.lst A, .lst B]).set h.length (.lst (A ++ [x])) = h ++ [.lst (A ++ [x]), .lst B] := by
    rw [List.set_append_right _ _ (Nat.le_refl _)]; simp
  simp only [appV, c0_at]
  rw [if_pos ha, this]
theorem c1_app (hb : B.length < sz) : appV (h ++ [.lst A, .lst B]) (.ref (h.length + 1)) x = some (h ++ [.lst A, .lst (B ++ [x])]) := by
  have : (h ++ [MO.lst A, .lst B]).set (h.length + 1) (.lst (B ++ [x])) = h ++ [.lst A, .lst (B ++ [x])] := by
    rw [List.set_append_right _ _ (by omega)]
    have e : h.length + 1 - h.length = 1 := by omega
    rw [e]; rfl
  simp only [appV, c1_at]
  rw [if_pos hb, this]
theorem c0_seq (g : HP) : seqOf (h ++ [.lst A, .lst B] ++ g) (.ref h.length) = some A := by
  have : (h ++ [MO.lst A, .lst B] ++ g)[h.length]? = some (.lst A) := by rw [List.getElem?_append_left (by simp)]; simp
  simp only [seqOf, getL, this]
theorem c1_seq (g : HP) : seqOf (h ++ [.lst A, .lst B] ++ g) (.ref (h.length + 1)) = some B := by
  have : (h ++ [MO.lst A, .lst B] ++ g)[h.length + 1]? = some (.lst B) := by rw [List.getElem?_append_left (by simp)]; simp
  simp only [seqOf, getL, this]
theorem c0_idx (i : Int) : idxV (h ++ [.lst A, .lst B]) (.ref h.length) (.int i) = atI A i := by
  simp only [idxV, getL, c0_at]; rfl
end
theorem leave_app2 (h g : HP) (a b : Int) : leave false h (.ret (.tup [.int a, .int b]) (h ++ g)) = .ok (.tup [.int a, .int b]) h := by
  simp [leave, fin]
section
variable (w f : Nat) (hw2 : 2 ≤ w) (hw : w ≤ 15) (hf1 : 1 ≤ f) (hf : f ≤ 112) (n : Nat) {h : HP} (k : Nat) {v : MV} {ts : List Tm3} (hv : ∀ g, seqOf (h ++ g) v = some (ts.map tmMV))
include hw2 hw hf1 hf hv
theorem sot_wr (x : MV) : ∀ (ys : List Tm3) (A B : List MV) (x5 x6 x7 x8 : Option MV), hasWr ys = true → A.length + ys.length ≤ 1000000 → B.length + ys.length ≤ 1000000 →
    ∃ g, forL (.tup [5, 6, 7, 8]) (fun h => seqOf h v) (ts.map tmMV) (exSs p.T (run p.T p.fs (n + 3)) w34_0) (ys.map tmMV) [some (.tup [.int w, .int f]), some x, some v, some (.ref h.length), some (.ref (h.length + 1)), x5, x6, x7, x8] (h ++ [.lst A, .lst B]) =
      .ret (.tup [.int (2 ^ (w + f) - 2 ^ f + 2 ^ (f - 1)), .int 16]) (h ++ g)
  | [], A, B, x5, x6, x7, x8, hh, _, _ => by cases hh
  | .wr :: ys, A, B, x5, x6, x7, x8, _, _, _ => by
    have gw := s_gone w f hw2 hw hf1 hf n (h ++ [.lst A, .lst B])
    refine ⟨[.lst A, .lst B], ?_⟩
    rw [List.map_cons, forL, if_pos (hv _)]
    simp [tmMV, gw]
  | .en s :: ys, A, B, x5, x6, x7, x8, hh, l1, l2 => by
    rw [List.length_cons] at l1 l2
    obtain ⟨g, e⟩ := sot_wr x ys (A ++ [.int s]) B (some (.str "endless")) (some (.int s)) (some (.int 0)) (some (.int 0)) hh (by rw [List.length_append, List.length_singleton]; omega) (by omega)
    refine ⟨g, ?_⟩
    have ap := c0_app h A B (.int s) (by unfold sz; omega)
    rw [List.map_cons, forL, if_pos (hv _)]
    simp [tmMV, ap]
    exact e
  | .fin t :: ys, A, B, x5, x6, x7, x8, hh, l1, l2 => by
    rw [List.length_cons] at l1 l2
    obtain ⟨g, e⟩ := sot_wr x ys A (B ++ [.tup [.int t.1, .int t.2.1, .int t.2.2]]) (some (.str "finite")) (some (.int t.1)) (some (.int t.2.1)) (some (.int t.2.2)) hh (by omega) (by rw [List.length_append, List.length_singleton]; omega)
    refine ⟨g, ?_⟩
    have ap := c1_app h A B (.tup [.int t.1, .int t.2.1, .int t.2.2]) (by unfold sz; omega)
    rw [List.map_cons, forL, if_pos (hv _)]
    simp [tmMV, ap]
    exact e
theorem sot_ok (x : MV) : ∀ (ys : List Tm3) (A B : List MV) (x5 x6 x7 x8 : Option MV), hasWr ys = false → A.length + ys.length ≤ 1000000 → B.length + ys.length ≤ 1000000 →
    ∃ y5 y6 y7 y8 : Option MV, forL (.tup [5, 6, 7, 8]) (fun h => seqOf h v) (ts.map tmMV) (exSs p.T (run p.T p.fs (n + 3)) w34_0) (ys.map tmMV) [some (.tup [.int w, .int f]), some x, some v, some (.ref h.length), some (.ref (h.length + 1)), x5, x6, x7, x8] (h ++ [.lst A, .lst B]) =
      .nx [some (.tup [.int w, .int f]), some x, some v, some (.ref h.length), some (.ref (h.length + 1)), y5, y6, y7, y8] (h ++ [.lst (A ++ (ens ys).map .int), .lst (B ++ (fins ys).map tm)])
  | [], A, B, x5, x6, x7, x8, hh, _, _ => ⟨x5, x6, x7, x8, by
    rw [List.map_nil, forL, if_pos (hv _)]; simp [ens, fins]⟩
  | .wr :: ys, A, B, x5, x6, x7, x8, hh, _, _ => by cases hh
  | .en s :: ys, A, B, x5, x6, x7, x8, hh, l1, l2 => by
    rw [List.length_cons] at l1 l2
    obtain ⟨y5, y6, y7, y8, e⟩ := sot_ok x ys (A ++ [.int s]) B (some (.str "endless")) (some (.int s)) (some (.int 0)) (some (.int 0)) hh (by rw [List.length_append, List.length_singleton]; omega) (by omega)
    refine ⟨y5, y6, y7, y8, ?_⟩
    have ap := c0_app h A B (.int s) (by unfold sz; omega)
    have e1 : A ++ (ens (.en s :: ys)).map .int = A ++ [.int s] ++ (ens ys).map .int := by simp [ens]
    have e2 : (fins (.en s :: ys)) = fins ys := rfl
    rw [e1, e2, List.map_cons, forL, if_pos (hv _)]
    simp only [tmMV, setG_tup, setT_cons, setT_nil]
    refine Eq.trans ?_ e
    simp [ap]
  | .fin t :: ys, A, B, x5, x6, x7, x8, hh, l1, l2 => by
    rw [List.length_cons] at l1 l2
    obtain ⟨y5, y6, y7, y8, e⟩ := sot_ok x ys A (B ++ [.tup [.int t.1, .int t.2.1, .int t.2.2]]) (some (.str "finite")) (some (.int t.1)) (some (.int t.2.1)) (some (.int t.2.2)) hh (by omega) (by rw [List.length_append, List.length_singleton]; omega)
    refine ⟨y5, y6, y7, y8, ?_⟩
    have ap := c1_app h A B (.tup [.int t.1, .int t.2.1, .int t.2.2]) (by unfold sz; omega)
    have e1 : B ++ (fins (.fin t :: ys)).map tm = B ++ [.tup [.int t.1, .int t.2.1, .int t.2.2]] ++ (fins ys).map tm := by simp [fins, tm]
    have e2 : (ens (.fin t :: ys)) = ens ys := rfl
    rw [e1, e2, List.map_cons, forL, if_pos (hv _)]
    simp only [tmMV, setG_tup, setT_cons, setT_nil]
    refine Eq.trans ?_ e
    simp [ap]
theorem s_sum_wr (x : MV) (hn : ts.length ≤ 1000000) (hh : hasWr ts = true) : run p.T p.fs (n + 4) 34 [.tup [.int w, .int f], x, v] h = .ok (.tup [.int (2 ^ (w + f) - 2 ^ f + 2 ^ (f - 1)), .int 16]) h := by
  rw [run_eq (F := fn34) rfl rfl]
  obtain ⟨g, e⟩ := sot_wr w f hw2 hw hf1 hf n hv x ts [] [] none none none none hh (by simpa using hn) (by simpa using hn)
  have hv2 : seqOf (h ++ [.lst [], .lst []]) v = some (ts.map tmMV) := hv _
  simp [fn34, hv2, e, leave_app2]
theorem s_sum_two (x : MV) (hn : ts.length ≤ 1000000) (hh : hasWr ts = false) (h0 : 0 ∈ ens ts) (h1 : 1 ∈ ens ts) : run p.T p.fs (n + 4) 34 [.tup [.int w, .int f], x, v] h = .ok (.tup [.int (2 ^ (w + f) - 2 ^ f + 2 ^ (f - 1)), .int 16]) h := by
  rw [run_eq (F := fn34) rfl rfl]
  obtain ⟨y5, y6, y7, y8, e⟩ := sot_ok w f hw2 hw hf1 hf n hv x ts [] [] none none none none hh (by simpa using hn) (by simpa using hn)
  have hv2 : seqOf (h ++ [.lst [], .lst []]) v = some (ts.map tmMV) := hv _
  simp at e
  have sq : seqOf (h ++ [.lst ((ens ts).map .int), .lst ((fins ts).map tm)]) (.ref h.length) = some ((ens ts).map .int) := by simpa using c0_seq h ((ens ts).map .int) ((fins ts).map tm) []
  have i0 := inV_ints sq 0
  have i1 := inV_ints sq 1
  have gw := s_gone w f hw2 hw hf1 hf n (h ++ [.lst ((ens ts).map .int), .lst ((fins ts).map tm)])
  simp [fn34, hv2, e, i0, i1, h0, h1, gw, leave_app2]
theorem s_sum_end (x : MV) (hn : ts.length ≤ 1000000) (hh : hasWr ts = false) (s : Int) (rest : List Int) (es : ens ts = s :: rest) (hs : ∀ q ∈ ens ts, q = s) (s01 : s = 0 ∨ s = 1) : run p.T p.fs (n + 4) 34 [.tup [.int w, .int f], x, v] h = .ok (.tup [.int (s * 2 ^ (w + f) + (2 ^ (w + f) - 2 ^ f)), .int 0]) h := by
  rw [run_eq (F := fn34) rfl rfl]
  obtain ⟨y5, y6, y7, y8, e⟩ := sot_ok w f hw2 hw hf1 hf n hv x ts [] [] none none none none hh (by simpa using hn) (by simpa using hn)
  have hv2 : seqOf (h ++ [.lst [], .lst []]) v = some (ts.map tmMV) := hv _
  simp at e
  have sq : seqOf (h ++ [.lst ((ens ts).map .int), .lst ((fins ts).map tm)]) (.ref h.length) = some ((ens ts).map .int) := by simpa using c0_seq h ((ens ts).map .int) ((fins ts).map tm) []
  have i0 := inV_ints sq 0
  have i1 := inV_ints sq 1
  have ix := c0_idx h ((ens ts).map .int) ((fins ts).map tm) 0
  have ix2 : atI ((ens ts).map MV.int) 0 = some (.int s) := by rw [es]; simp
  rw [ix2] at ix
  have ew := s_endless_with w f hw2 hw hf1 hf (n + 1) (h ++ [.lst ((ens ts).map .int), .lst ((fins ts).map tm)]) s01
  have lp : 0 < (ens ts).length := by rw [es]; simp
  have nb : ¬ ((0 : Int) ∈ ens ts ∧ (1 : Int) ∈ ens ts) := fun ⟨a, b⟩ => by have := hs 0 a; have := hs 1 b; omega
  by_cases a : (0 : Int) ∈ ens ts
  · have b : ¬ (1 : Int) ∈ ens ts := fun z => nb ⟨a, z⟩
    simp [fn34, hv2, e, i0, i1, a, b, sq, lp, ix, ew, leave_app2]
  · simp [fn34, hv2, e, i0, i1, a, sq, lp, ix, ew, leave_app2]
end
section
variable (w f : Nat) (hw2 : 2 ≤ w) (hw : w ≤ 15) (hf1 : 1 ≤ f) (hf : f ≤ 112) (n : Nat) {h : HP} (k : Nat) (hk : k < 5) {v : MV} {ts : List Tm3} (hv : ∀ g, seqOf (h ++ g) v = some (ts.map tmMV)) (hn : ts.length ≤ 1000000) (hh : hasWr ts = false) (he : ens ts = []) (ht : Tms (fins ts))
include hw2 hw hf1 hf hk hv hn hh he ht
theorem s_sum_set {a b : Int} (hr : run p.T p.fs (n + 6) 28 [.tup [.int w, .int f], .str (wayN k), .ref (h.length + 1)] (h ++ [.lst [], .lst ((fins ts).map tm)]) = .ok (.tup [.int a, .int b]) (h ++ [.lst [], .lst ((fins ts).map tm)])) :
    run p.T p.fs (n + 7) 34 [.tup [.int w, .int f], .str (wayN k), v] h = .ok (.tup [.int a, .int b]) h := by
  rw [run_eq (F := fn34) rfl rfl]
  obtain ⟨y5, y6, y7, y8, e⟩ := sot_ok w f hw2 hw hf1 hf (n + 3) hv (.str (wayN k)) ts [] [] none none none none hh (by simpa using hn) (by simpa using hn)
  have hv2 : seqOf (h ++ [.lst [], .lst []]) v = some (ts.map tmMV) := hv _
  rw [he] at e
  simp at e
  have sq : seqOf (h ++ [.lst [], .lst ((fins ts).map tm)]) (.ref h.length) = some [] := by simpa using c0_seq h [] ((fins ts).map tm) []
  have i0 := inV_ints (ss := []) sq 0
  simp at i0
  simp [fn34, hv2, e, i0, sq, hr, leave_app2]
theorem s_sum_nought (hz : exS3 (lstP (fins ts)) (fins ts) = 0) :
    run p.T p.fs (n + 7) 34 [.tup [.int w, .int f], .str (wayN k), v] h = .ok (.tup [.int (noughtS k ((fins ts).map (·.1)) * 2 ^ (w + f)), .int 0]) h := by
  have q : ∀ g, seqOf (h ++ [.lst [], .lst ((fins ts).map tm)] ++ g) (.ref (h.length + 1)) = some ((fins ts).map tm) := fun g => c1_seq h [] ((fins ts).map tm) g
  have l : (fins ts).length ≤ 1000000 := by have := fins_len ts; omega
  have e := s_settled_nought w f hw2 hw hf1 hf n k hk q ht l hz
  exact s_sum_set w f hw2 hw hf1 hf n k hk hv hn hh he ht e
theorem s_sum_fin (hz : exS3 (lstP (fins ts)) (fins ts) ≠ 0) (sb : intBits (exS3 (lstP (fins ts)) (fins ts)) ≤ 400000) (lb : -400000 ≤ lstP (fins ts) ∧ lstP (fins ts) ≤ 400000) : ∃ c r : Int, Fr f ((exS3 (lstP (fins ts)) (fins ts)).natAbs * 2 ^ (lstP (fins ts)).toNat * 2 ^ stp0 w f) (2 ^ (-lstP (fins ts)).toNat) c r ∧
    run p.T p.fs (n + 7) 34 [.tup [.int w, .int f], .str (wayN k), v] h = .ok (.tup [.int ((if exS3 (lstP (fins ts)) (fins ts) < 0 then 1 else 0) * 2 ^ (w + f) + (stl w f k (if exS3 (lstP (fins ts)) (fins ts) < 0 then 1 else 0) c r).1), .int (stl w f k (if exS3 (lstP (fins ts)) (fins ts) < 0 then 1 else 0) c r).2]) h := by
  obtain ⟨c, r, F, e⟩ := s_settled_fin w f hw2 hw hf1 hf n k hk (h := h ++ [.lst [], .lst ((fins ts).map tm)]) (fun g => c1_seq h [] ((fins ts).map tm) g) ht (by have := fins_len ts; omega) hz sb lb
  exact ⟨c, r, F, s_sum_set w f hw2 hw hf1 hf n k hk hv hn hh he ht e⟩
end
end Pg

namespace Pg
open PySem L2 Rm
open PySem.Builtin.Int (intBits)
theorem xor_div {a b : Int} (n : Nat) (ha : 0 ≤ a) (hb : 0 ≤ b) : Builtin.bitXor a b / 2 ^ n = Builtin.bitXor (a / 2 ^ n) (b / 2 ^ n) := by
  have key (x : Int) (hx : 0 ≤ x) : x / 2 ^ n = ((x.toNat >>> n : Nat) : Int) := by
    rw [Nat.shiftRight_eq_div_pow]
    have : ((x.toNat : Nat) : Int) = x := by omega
    rw [Int.natCast_ediv, this, Int.natCast_pow]; rfl
  rw [Bits.bitXor_pp ha hb, Bits.bitXor_pp (dn n ha) (dn n hb), key a ha, key b hb]
  have e : (((a.toNat ^^^ b.toNat : Nat) : Int)).toNat = a.toNat ^^^ b.toNat := by omega
  rw [key _ (by omega), e, Nat.shiftRight_xor_distrib]
  rfl
theorem xor_01 {a b : Int} (ha : a = 0 ∨ a = 1) (hb : b = 0 ∨ b = 1) : Builtin.bitXor a b = 0 ∨ Builtin.bitXor a b = 1 := by
  rcases ha with y | y <;> rcases hb with x | x <;> rw [y, x] <;> decide
theorem xor_comm (a b : Int) : Builtin.bitXor a b = Builtin.bitXor b a := by rw [PyProof.Rows.bitXor_and, PyProof.Rows.bitXor_and, PyProof.Rows.bitAnd_comm, Int.add_comm]
theorem xor_sgn {n : Nat} {b s : Int} (hs : s = 0 ∨ s = 1) (h0 : 0 ≤ b) (h1 : b < 2 ^ (n + 1)) : 0 ≤ Builtin.bitXor b (s * 2 ^ n) ∧ Builtin.bitXor b (s * 2 ^ n) < 2 ^ (n + 1) := by
  have pn := p2 n
  have e := pow_s n
  rcases hs with y | y <;> rw [y]
  · rw [Int.zero_mul, PyProof.Rows.bitXor_zero]; exact ⟨h0, h1⟩
  · rw [Int.one_mul, PyProof.Rows.bitXor_and, PySem.W.kbt_bit]
    have q0 := dn n h0
    have q1 : b / 2 ^ n < 2 ^ 1 := div_lt_pow (m := 1) (by rw [Nat.add_comm 1]; exact h1)
    have ed := Int.mul_ediv_add_emod b (2 ^ n)
    have r := mn b n
    rcases (show b / 2 ^ n = 0 ∨ b / 2 ^ n = 1 by omega) with z | z <;> rw [z] at ed ⊢ <;> simp <;> omega
end Pg

namespace Pg
open PySem L2 Rm
open PySem.Builtin.Int (intBits)
/-! kinds and terms of a deed's numbers -/
def noneB (w f : Nat) (b : Int) : Bool := decide (2 ^ (w + f) - 2 ^ f < b % 2 ^ (w + f))
theorem kindS_none {w : Nat} (hw : 1 ≤ w) (f : Nat) (b : Int) : eqF (.str (kindS w f b)) (.str "none") = noneB w f b := by
  have l := fd_last (w := w) (f := f) (b := b) hw
  have e := fd_end (w := w) (f := f) (b := b) hw
  have c1 : eqF (.str "endless") (.str "none") = false := by decide +kernel
  have c2 : eqF (.str "none") (.str "none") = true := by decide +kernel
  have c3 : eqF (.str "plain") (.str "none") = false := by decide +kernel
  have c4 : eqF (.str "nought") (.str "none") = false := by decide +kernel
  have c5 : eqF (.str "faint") (.str "none") = false := by decide +kernel
  unfold kindS noneB
  by_cases z : fdOf w f b = 2 ^ w - 1
  · rw [if_pos z]
    by_cases y : fgOf f b = 0
    · rw [if_pos y, c1]
      have := e.mpr ⟨z, y⟩
      symm; simp; omega
    · rw [if_neg y, c2]
      have h1 := l.mpr z
      have h2 : ¬ b % 2 ^ (w + f) = 2 ^ (w + f) - 2 ^ f := fun q => y (e.mp q).2
      symm; simp; omega
  · rw [if_neg z]
    have h1 : ¬ 2 ^ (w + f) - 2 ^ f ≤ b % 2 ^ (w + f) := fun q => z (l.mp q)
    have h2 : decide (2 ^ (w + f) - 2 ^ f < b % 2 ^ (w + f)) = false := by simp; omega
    rw [h2]
    split
    · exact c3
    · split
      · exact c4
      · exact c5
theorem inV_kinds {w : Nat} (hw : 1 ≤ w) (f : Nat) (h : HP) (bs : List Int) : Rm.inV h (.str "none") (.lst (bs.map fun b => .str (kindS w f b))) = some (bs.any (noneB w f)) := by
  rw [inV_seq (seqOf_lst ..)]
  have fl : (flatM (.str "none") && (bs.map fun b => MV.str (kindS w f b)).all flatM) = true := by
    rw [Bool.and_eq_true]
    refine ⟨rfl, ?_⟩
    rw [List.all_eq_true]
    intro x hx
    obtain ⟨b, _, rfl⟩ := List.mem_map.mp hx
    rfl
  rw [if_pos fl]
  congr 1
  unfold inF
  rw [List.any_map]
  congr 1
  funext b
  exact kindS_none hw f b
theorem s_kinds_of (w f : Nat) (hw : w ≤ 20) (hf : f ≤ 200) (n : Nat) (h : HP) (k : Nat) (hk : k < 5) (bs : List Int) (hn : bs.length ≤ 1000000) (hb : ∀ b ∈ bs, 0 ≤ b ∧ b < 2 ^ (w + f + 1)) :
    run p.T p.fs (n + 4) 29 [.tup [.int w, .int f], .str (wayN k), .lst (bs.map .int)] h = .ok (.lst (bs.map fun b => .str (kindS w f b))) h := by
  rw [run_eq (F := fn29) rfl rfl]
  have wo := s_way_of (n + 1) h k hk
  have hl : lcL false (.one 3) (fun h => seqOf h (.lst (bs.map .int))) (bs.map .int) (evE p.T (run p.T p.fs (n + 3)) (.call 12 (.cons (.var 0) (.cons (.var 3) .nil)))) [some (.tup [.int w, .int f]), some (.str (wayN k)), some (.lst (bs.map .int)), none] h (bs.map .int) [] = .ok (.lst (bs.map fun b => .str (kindS w f b))) h :=
    lcL_map bs .int (fun b => .str (kindS w f b)) (fun acc => rfl) (by omega) fun b hm => ⟨_, rfl, fun H => by
      have := s_kind w f hw hf n H (hb b hm).1 (hb b hm).2
      simp [this], by simp⟩
  have fz : frzs h h.length (bs.map fun b => MV.str (kindS w f b)) = some (bs.map fun b => MV.str (kindS w f b)) := frzs_all _ _ _ fun x hx => by
    obtain ⟨b, _, rfl⟩ := List.mem_map.mp hx
    simp
  simp at hl
  simp [fn29, wo, hl, fz]
end Pg

namespace Pg
open PySem L2 Rm
open PySem.Builtin.Int (intBits)
def tmOf (w f : Nat) (b : Int) : Tm3 := if b % 2 ^ (w + f) = 2 ^ (w + f) - 2 ^ f then .en (b / 2 ^ (w + f)) else .fin (b / 2 ^ (w + f), whOf w f b, pwOf w f b)
theorem s_term_of (w f : Nat) (hw2 : 1 ≤ w) (hw : w ≤ 20) (hf : f ≤ 200) (n : Nat) (h : HP) {b : Int} (h0 : 0 ≤ b) (h1 : b < 2 ^ (w + f + 1)) (hx : noneB w f b = false) :
    run p.T p.fs (n + 4) 32 [.tup [.int w, .int f], .int b] h = .ok (tmMV (tmOf w f b)) h := by
  rw [run_eq (F := fn32) rfl rfl]
  have ks := s_kind w f hw hf n h h0 h1
  have pp := s_parted w f hw hf (n + 1) h h0 h1
  have l := fd_last (w := w) (f := f) (b := b) hw2
  have e := fd_end (w := w) (f := f) (b := b) hw2
  unfold noneB at hx
  simp only [decide_eq_false_iff_not] at hx
  unfold tmOf
  by_cases z : b % 2 ^ (w + f) = 2 ^ (w + f) - 2 ^ f
  · obtain ⟨z1, z2⟩ := e.mp z
    have kk : kindS w f b = "endless" := by simp [kindS, z1, z2]
    rw [kk] at ks
    rw [if_pos z]
    simp [fn32, ks, pp, tmMV]
  · have nl : ¬ fdOf w f b = 2 ^ w - 1 := fun q => by have := l.mpr q; omega
    have wt := s_worth w f hw2 hw hf n h h0 h1 nl
    have k2 : eqM h (.str (kindS w f b)) (.str "endless") = some false := by
      unfold kindS; rw [if_neg nl]; split
      · simp
      · split <;> simp
    rw [if_neg z]
    simp [fn32, ks, k2, wt, tmMV]
end Pg

namespace Pg
open PySem L2 Rm
open PySem.Builtin.Int (intBits)
theorem pw15 {w f : Nat} (hw2 : 2 ≤ w) (hw : w ≤ 15) (hf : f ≤ 112) (b : Int) : -40000 ≤ pwOf w f b ∧ pwOf w f b ≤ 40000 := by
  have ls := lo_stp (f := f) hw2
  have ss := stp_s hw hf
  have a := fd_b w f b
  have w15 := two_le_pow hw
  have e15 : (2 : Int) ^ 15 = 32768 := rfl
  unfold pwOf; split <;> omega
theorem wh15 {w f : Nat} (hf : f ≤ 112) (b : Int) : intBits (whOf w f b) ≤ 113 := by
  have wb := wh_b w f b
  exact ib_mono (ib_lt wb.1 wb.2) (by omega)
end Pg

namespace Pg
open PySem L2 Rm
open PySem.Builtin.Int (intBits)
def prT (x y : Tm3) : Tm3 := match x, y with
  | .fin a, .fin b => .fin (Builtin.bitXor a.1 b.1, a.2.1 * b.2.1, a.2.2 + b.2.2)
  | .fin a, .en s => if a.2.1 = 0 then .wr else .en (Builtin.bitXor a.1 s)
  | .en s, .fin b => if b.2.1 = 0 then .wr else .en (Builtin.bitXor s b.1)
  | .en s, .en t => .en (Builtin.bitXor s t)
  | _, _ => .wr
theorem s_product_term (w f : Nat) (hw2 : 2 ≤ w) (hw : w ≤ 15) (hf : f ≤ 112) (n : Nat) (h : HP) {a b : Int} (a0 : 0 ≤ a) (a1 : a < 2 ^ (w + f + 1)) (b0 : 0 ≤ b) (b1 : b < 2 ^ (w + f + 1)) (ha : noneB w f a = false) (hb : noneB w f b = false) :
    run p.T p.fs (n + 5) 33 [.tup [.int w, .int f], .int a, .int b] h = .ok (tmMV (prT (tmOf w f a) (tmOf w f b))) h := by
  rw [run_eq (F := fn33) rfl rfl]
  have ea := s_term_of w f (by omega) (by omega) (by omega) n h a0 a1 ha
  have eb := s_term_of w f (by omega) (by omega) (by omega) n h b0 b1 hb
  have mm : mulB (whOf w f a) (whOf w f b) = true := mulB_of (wh15 hf a) (wh15 hf b) (by decide)
  unfold tmOf at ea eb ⊢
  by_cases za : a % 2 ^ (w + f) = 2 ^ (w + f) - 2 ^ f
  · by_cases zb : b % 2 ^ (w + f) = 2 ^ (w + f) - 2 ^ f
    · rw [if_pos za] at ea ⊢
      rw [if_pos zb] at eb ⊢
      simp [tmMV] at ea eb
      simp [fn33, ea, eb, prT, tmMV, forL]
    · rw [if_pos za] at ea ⊢
      rw [if_neg zb] at eb ⊢
      simp [tmMV] at ea eb
      by_cases y : whOf w f b = 0
      · simp [fn33, ea, eb, prT, tmMV, forL, y]
      · simp [fn33, ea, eb, prT, tmMV, forL, y]
  · by_cases zb : b % 2 ^ (w + f) = 2 ^ (w + f) - 2 ^ f
    · rw [if_neg za] at ea ⊢
      rw [if_pos zb] at eb ⊢
      simp [tmMV] at ea eb
      by_cases y : whOf w f a = 0
      · simp [fn33, ea, eb, prT, tmMV, forL, y]
      · simp [fn33, ea, eb, prT, tmMV, forL, y]
    · rw [if_neg za] at ea ⊢
      rw [if_neg zb] at eb ⊢
      simp [tmMV] at ea eb
      simp [fn33, ea, eb, prT, tmMV, mm]
end Pg

namespace Pg
open PySem L2 Rm
open PySem.Builtin.Int (intBits)
/-! a sum in units of a power -/
def exN (N : Nat) : List T3 → Int
  | [] => 0
  | t :: ts => (1 - 2 * t.1) * (t.2.1 * 2 ^ (t.2.2 + N).toNat) + exN N ts
theorem exN_eq {l : Int} {N : Nat} (hl : 0 ≤ l + N) : ∀ ts : List T3, (∀ t ∈ ts, l ≤ t.2.2) → exS3 l ts * 2 ^ (l + N).toNat = exN N ts
  | [], _ => by simp [exS3, exN]
  | t :: ts, h => by
    have e1 : exS3 l (t :: ts) = exT l t + exS3 l ts := rfl
    have e2 : exN N (t :: ts) = (1 - 2 * t.1) * (t.2.1 * 2 ^ (t.2.2 + N).toNat) + exN N ts := rfl
    rw [e1, e2, Int.add_mul, exN_eq hl ts fun u hu => h u (List.mem_cons_of_mem _ hu)]
    congr 1
    unfold exT
    have := h t (List.mem_cons_self ..)
    rw [Int.mul_assoc, Int.mul_assoc, ← Int.pow_add]
    congr 3
    omega
theorem exN_zero {l : Int} {N : Nat} (hl : 0 ≤ l + N) {ts : List T3} (h : ∀ t ∈ ts, l ≤ t.2.2) : exS3 l ts = 0 ↔ exN N ts = 0 := by
  rw [← exN_eq hl ts h]
  have := p2 (l + N).toNat
  exact ⟨fun z => by rw [z, Int.zero_mul], fun z => (Int.mul_eq_zero.mp z).resolve_right (by omega)⟩
theorem exN_neg {l : Int} {N : Nat} (hl : 0 ≤ l + N) {ts : List T3} (h : ∀ t ∈ ts, l ≤ t.2.2) : exS3 l ts < 0 ↔ exN N ts < 0 := by
  rw [← exN_eq hl ts h]
  have pp := p2 (l + N).toNat
  constructor
  · intro z
    have := Int.mul_lt_mul_of_pos_right z pp
    rwa [Int.zero_mul] at this
  · intro z
    rcases Int.lt_or_le (exS3 l ts) 0 with y | y
    · exact y
    · have := Int.mul_nonneg y (Int.le_of_lt pp); omega
theorem exN_abs {l : Int} {N : Nat} (hl : 0 ≤ l + N) {ts : List T3} (h : ∀ t ∈ ts, l ≤ t.2.2) : ((exN N ts).natAbs : Int) = (exS3 l ts).natAbs * 2 ^ (l + N).toNat := by
  rw [← exN_eq hl ts h, Int.natAbs_mul, Int.natCast_mul]
  have pp := p2 (l + N).toNat
  have e : ((((2 : Int) ^ (l + N).toNat).natAbs : Nat) : Int) = 2 ^ (l + N).toNat := by omega
  rw [e]
theorem exS3_bits {l : Int} {B D : Nat} : ∀ {ts : List T3}, (∀ t ∈ ts, (t.1 = 0 ∨ t.1 = 1) ∧ intBits t.2.1 ≤ B ∧ t.2.2 - l ≤ D) → intBits (exS3 l ts) ≤ B + D + 1 + ts.length
  | [], _ => by show intBits 0 ≤ _; exact Nat.le_trans (show intBits 0 ≤ 0 by decide) (Nat.zero_le _)
  | t :: ts, h => by
    have ih := exS3_bits (ts := ts) fun u hu => h u (List.mem_cons_of_mem _ hu)
    obtain ⟨s, b, p⟩ := h t (List.mem_cons_self ..)
    have e : intBits (exT l t) ≤ B + D + 1 := by
      refine intBits_le_of_natAbs (y := t.2.1 * 2 ^ (t.2.2 - l).toNat) ?_ (ib_mono (intBits_mul_le b (ib_pow2 _)) (by omega))
      unfold exT
      rcases s with z | z <;> rw [z] <;> omega
    have := intBits_add_le e ih
    show intBits (exT l t + exS3 l ts) ≤ _
    rw [List.length_cons]
    omega
end Pg

namespace Pg
open PySem L2 Rm
open PySem.Builtin.Int (intBits)
/-- the settled sum's number, in those units -/
theorem Fr.exn {f S : Nat} {N : Nat} {ts : List T3} {l c r : Int} (F : Fr f ((exS3 l ts).natAbs * 2 ^ l.toNat * 2 ^ S) (2 ^ (-l).toNat) c r) (hl : 0 ≤ l + N) (hN : S ≤ N) (h : ∀ t ∈ ts, l ≤ t.2.2) : Fr f (exN N ts).natAbs (2 ^ (N - S)) c r := by
  refine F.ratio (p2 _) ?_
  rw [exN_abs hl h, Int.mul_assoc, Int.mul_assoc, Int.mul_assoc, ← Int.pow_add, ← Int.pow_add, ← Int.pow_add]
  have e : l.toNat + (S + (N - S)) = (l + N).toNat + (-l).toNat := by omega
  rw [e]
end Pg

namespace Pg
open PySem L2 Rm
open PySem.Builtin.Int (intBits)
theorem lv_codeP {w : Nat} (hw2 : 2 ≤ w) (f : Nat) (b : Int) : whOf w f b * 2 ^ (pwOf w f b + stp0 w f).toNat = lv f (b % 2 ^ (w + f)) ∧ 0 ≤ pwOf w f b + stp0 w f := by
  have ls := lo_stp (f := f) hw2
  have a := fd_b w f b
  have p0 : 0 ≤ pwOf w f b + stp0 w f := by unfold pwOf; split <;> omega
  refine ⟨?_, p0⟩
  obtain ⟨m, m0, m1, m2⟩ := lv_wh w f b hw2
  have e : (2 : Int) ^ (pwOf w f b).toNat * m = 2 ^ (pwOf w f b + stp0 w f).toNat := by
    have pz := p2 (-pwOf w f b).toNat
    refine Int.eq_of_mul_eq_mul_left (Int.ne_of_gt pz) ?_
    have l : (2 : Int) ^ (-pwOf w f b).toNat * (2 ^ (pwOf w f b).toNat * m) = 2 ^ (pwOf w f b).toNat * (2 ^ (-pwOf w f b).toNat * m) := by grind
    rw [l, m2, ← Int.pow_add, ← Int.pow_add]
    congr 1; omega
  rw [← m1, ← e, Int.mul_assoc]
end Pg

namespace Pg
open PySem L2 Rm
open PySem.Builtin.Int (intBits)
def sgl (w f : Nat) (b : Int) : Int := (1 - 2 * (b / 2 ^ (w + f))) * lv f (b % 2 ^ (w + f))
end Pg

namespace Pg
open PySem L2 Rm
open PySem.Builtin.Int (intBits)
theorem Fr.same {f : Nat} {V B c r c' r' : Int} (F : Fr f V B c r) (G : Fr f V B c' r') : c = c' ∧ r = r' := by
  have e := F.uniq G.c0 G.lo G.hi
  subst e
  exact ⟨rfl, F.rst.trans G.rst.symm⟩
end Pg

namespace Pg
open PySem L2 Rm
open PySem.Builtin.Int (intBits)
/-! the sum of terms, as one plain function -/
theorem Fr.exists {f : Nat} {V B : Int} (hV : 0 ≤ V) (hB : 0 < B) : ∃ p : Int × Int, Fr f V B p.1 p.2 := by
  obtain ⟨c, c0, h1, h2⟩ := lv_floor f (V := V / B) (Int.ediv_nonneg hV (Int.le_of_lt hB))
  have e := Int.mul_ediv_add_emod V B
  have m1 := Int.emod_nonneg V (Int.ne_of_gt hB)
  have m2 := Int.emod_lt_of_pos V hB
  refine ⟨(c, rs (V - lv f c * B) ((lv f (c + 1) - lv f c) * B)), c0, hB, ?_, ?_, rfl⟩
  · have := Int.mul_le_mul_of_nonneg_right h1 (Int.le_of_lt hB)
    rw [Int.mul_comm (V / B)] at this
    show lv f c * B ≤ V
    omega
  · have := Int.mul_le_mul_of_nonneg_right (show V / B + 1 ≤ lv f (c + 1) by omega) (Int.le_of_lt hB)
    rw [Int.add_mul, Int.one_mul, Int.mul_comm (V / B)] at this
    show V < lv f (c + 1) * B
    omega
open Classical in
noncomputable def frOf (f : Nat) (V B : Int) : Int × Int := if h : ∃ p : Int × Int, Fr f V B p.1 p.2 then h.choose else (0, 0)
theorem frOf_ok {f : Nat} {V B : Int} (hV : 0 ≤ V) (hB : 0 < B) : Fr f V B (frOf f V B).1 (frOf f V B).2 := by
  have h := Fr.exists (f := f) hV hB
  unfold frOf
  rw [dif_pos h]
  exact h.choose_spec
theorem Fr.of {f : Nat} {V B c r : Int} (F : Fr f V B c r) : frOf f V B = (c, r) := by
  have G := frOf_ok (f := f) (V := V) (B := B) (Int.le_trans (Int.mul_nonneg (lv_nn F.c0) (Int.le_of_lt F.b0)) F.lo) F.b0
  obtain ⟨e1, e2⟩ := G.same F
  exact Prod.ext e1 e2
theorem frOf_ratio {f : Nat} {V B V' B' : Int} (hV : 0 ≤ V) (hB : 0 < B) (hB' : 0 < B') (e : V * B' = V' * B) : frOf f V' B' = frOf f V B := ((frOf_ok hV hB).ratio hB' e).of
noncomputable def rdP (w f k : Nat) (X B s0 : Int) : Int × Int :=
  if X = 0 then (s0 * 2 ^ (w + f), 0)
  else ((if X < 0 then 1 else 0) * 2 ^ (w + f) + (stl w f k (if X < 0 then 1 else 0) (frOf f X.natAbs B).1 (frOf f X.natAbs B).2).1, (stl w f k (if X < 0 then 1 else 0) (frOf f X.natAbs B).1 (frOf f X.natAbs B).2).2)
theorem rdP_ratio (w f k : Nat) {X B X' B' : Int} (s0 : Int) (hB : 0 < B) (hB' : 0 < B') (e : X * B' = X' * B) : rdP w f k X' B' s0 = rdP w f k X B s0 := by
  have z : X' = 0 ↔ X = 0 := by
    constructor
    · intro y; rw [y, Int.zero_mul] at e; exact (Int.mul_eq_zero.mp e).resolve_right (Int.ne_of_gt hB')
    · intro y; rw [y, Int.zero_mul] at e; exact (Int.mul_eq_zero.mp e.symm).resolve_right (Int.ne_of_gt hB)
  have ng {x b : Int} (hb : 0 < b) : x * b < 0 ↔ x < 0 := by
    constructor
    · intro y
      rcases Int.lt_or_le x 0 with q | q
      · exact q
      · have := Int.mul_nonneg q (Int.le_of_lt hb); omega
    · intro y
      have := Int.mul_lt_mul_of_pos_right y hb
      rwa [Int.zero_mul] at this
  have n : X' < 0 ↔ X < 0 := by rw [← ng hB, ← e, ng hB']
  have a : (X.natAbs : Int) * B' = X'.natAbs * B := by
    have h := congrArg (fun x : Int => (x.natAbs : Int)) e
    simp only [Int.natAbs_mul, Int.natCast_mul] at h
    have h1 : ((B'.natAbs : Nat) : Int) = B' := by omega
    have h2 : ((B.natAbs : Nat) : Int) = B := by omega
    rwa [h1, h2] at h
  have fe := frOf_ratio (f := f) (V' := X'.natAbs) (by omega) hB hB' a
  have n' : (if X' < 0 then (1 : Int) else 0) = (if X < 0 then 1 else 0) := by
    by_cases y : X < 0
    · rw [if_pos y, if_pos (n.mpr y)]
    · rw [if_neg y, if_neg fun q => y (n.mp q)]
  unfold rdP
  rw [fe, n']
  by_cases y : X = 0
  · rw [if_pos y, if_pos (z.mpr y)]
  · rw [if_neg y, if_neg fun q => y (z.mp q)]
def noN (w f : Nat) : Int := 2 ^ (w + f) - 2 ^ f + 2 ^ (f - 1)
noncomputable def sumP (w f k N : Nat) (ts : List Tm3) : Int × Int :=
  if hasWr ts = true ∨ (0 ∈ ens ts ∧ 1 ∈ ens ts) then (noN w f, 16)
  else match ens ts with
   | s :: _ => (s * 2 ^ (w + f) + (2 ^ (w + f) - 2 ^ f), 0)
   | [] => rdP w f k (exN N (fins ts)) (2 ^ (N - stp0 w f)) (noughtS k ((fins ts).map (·.1)))
def tOK (N : Nat) : Tm3 → Prop
  | .wr => True
  | .en s => s = 0 ∨ s = 1
  | .fin t => (t.1 = 0 ∨ t.1 = 1) ∧ 0 ≤ t.2.1 ∧ intBits t.2.1 ≤ 1000 ∧ -(N : Int) ≤ t.2.2 ∧ t.2.2 ≤ 90000
theorem mem_ens : ∀ {ts : List Tm3} {s : Int}, s ∈ ens ts → Tm3.en s ∈ ts
  | .wr :: ts, s, h => List.mem_cons_of_mem _ (mem_ens (ts := ts) h)
  | .fin _ :: ts, s, h => List.mem_cons_of_mem _ (mem_ens (ts := ts) h)
  | .en t :: ts, s, h => by
    rcases List.mem_cons.mp (show s ∈ t :: ens ts from h) with z | z
    · rw [z]; exact List.mem_cons_self ..
    · exact List.mem_cons_of_mem _ (mem_ens z)
theorem mem_fins : ∀ {ts : List Tm3} {t : T3}, t ∈ fins ts → Tm3.fin t ∈ ts
  | .wr :: ts, s, h => List.mem_cons_of_mem _ (mem_fins (ts := ts) h)
  | .en _ :: ts, s, h => List.mem_cons_of_mem _ (mem_fins (ts := ts) h)
  | .fin t :: ts, s, h => by
    rcases List.mem_cons.mp (show s ∈ t :: fins ts from h) with z | z
    · rw [z]; exact List.mem_cons_self ..
    · exact List.mem_cons_of_mem _ (mem_fins z)
section
variable (w f : Nat) (hw2 : 2 ≤ w) (hw : w ≤ 15) (hf1 : 1 ≤ f) (hf : f ≤ 112) (k : Nat) (hk : k < 5) (N : Nat) (hN : stp0 w f ≤ N) (hN2 : N ≤ 90000) {v : MV} {ts : List Tm3} (hn : ts.length ≤ 100000) (ok : ∀ t ∈ ts, tOK N t)
include hw2 hw hf1 hf hk hN hN2 hn ok
theorem s_sumP (n : Nat) {h : HP} (hv : ∀ g, seqOf (h ++ g) v = some (ts.map tmMV)) : run p.T p.fs (n + 7) 34 [.tup [.int w, .int f], .str (wayN k), v] h = .ok (.tup [.int (sumP w f k N ts).1, .int (sumP w f k N ts).2]) h := by
  have hsm : sumP w f k N ts = if hasWr ts = true ∨ (0 ∈ ens ts ∧ 1 ∈ ens ts) then (noN w f, 16)
      else match ens ts with
        | s :: _ => (s * 2 ^ (w + f) + (2 ^ (w + f) - 2 ^ f), 0)
        | [] => rdP w f k (exN N (fins ts)) (2 ^ (N - stp0 w f)) (noughtS k ((fins ts).map (·.1))) := rfl
  by_cases hwr : hasWr ts = true
  · rw [hsm, if_pos (.inl hwr)]
    exact s_sum_wr w f hw2 hw hf1 hf (n + 3) hv (.str (wayN k)) (by omega) hwr
  have hwr' : hasWr ts = false := by simpa using hwr
  by_cases hb : 0 ∈ ens ts ∧ 1 ∈ ens ts
  · rw [hsm, if_pos (.inr hb)]
    exact s_sum_two w f hw2 hw hf1 hf (n + 3) hv (.str (wayN k)) (by omega) hwr' hb.1 hb.2
  have nq : ¬ (hasWr ts = true ∨ (0 ∈ ens ts ∧ 1 ∈ ens ts)) := fun q => q.elim hwr hb
  rw [if_neg nq] at hsm
  have eg : ∀ s ∈ ens ts, s = 0 ∨ s = 1 := fun s hs => ok _ (mem_ens hs)
  cases he : ens ts with
  | cons s rest =>
    rw [he] at hsm
    rw [hsm]
    have s01 := eg s (by rw [he]; exact List.mem_cons_self ..)
    have sm : s ∈ ens ts := by rw [he]; exact List.mem_cons_self ..
    refine s_sum_end w f hw2 hw hf1 hf (n + 3) hv (.str (wayN k)) (by omega) hwr' s rest he (fun q hq => ?_) s01
    have q01 := eg q hq
    rcases s01 with y | y <;> rcases q01 with x | x <;> rw [x, y]
    · exact absurd ⟨y ▸ sm, x ▸ hq⟩ hb
    · exact absurd ⟨x ▸ hq, y ▸ sm⟩ hb
  | nil =>
    rw [he] at hsm
    rw [hsm]
    have fk : ∀ t ∈ fins ts, (t.1 = 0 ∨ t.1 = 1) ∧ 0 ≤ t.2.1 ∧ intBits t.2.1 ≤ 1000 ∧ -(N : Int) ≤ t.2.2 ∧ t.2.2 ≤ 90000 := fun t ht => ok _ (mem_fins ht)
    have tms : Tms (fins ts) := ⟨fun t ht => (fk t ht).1, fun t ht => (fk t ht).2.1, fun t ht => ib_mono (fk t ht).2.2.1 (by decide), fun t ht => by have := (fk t ht).2.2.2; omega⟩
    have mem : ∀ t ∈ fins ts, lstP (fins ts) ≤ t.2.2 := fun t ht => lstP_le ht
    have hl : -(N : Int) ≤ lstP (fins ts) ∧ lstP (fins ts) ≤ 90000 := by
      cases hf : fins ts with
      | nil => exact ⟨by show -(N : Int) ≤ 0; omega, by decide⟩
      | cons u us =>
        have e : lstP (u :: us) = mnL u.2.2 (us.map (·.2.2)) := rfl
        rw [e]
        obtain ⟨a, _, _⟩ := mnL_ok (us.map (·.2.2)) u.2.2
        rcases a with a | a
        · rw [a]; exact (fk u (by rw [hf]; exact List.mem_cons_self ..)).2.2.2
        · obtain ⟨t, h1, h2⟩ := List.mem_map.mp a
          rw [← h2]; exact (fk t (by rw [hf]; exact List.mem_cons_of_mem _ h1)).2.2.2
    have hl0 : 0 ≤ lstP (fins ts) + (N : Int) := by omega
    have zz := exN_zero hl0 mem
    have zn := exN_neg hl0 mem
    by_cases z : exN N (fins ts) = 0
    · have sn := s_sum_nought w f hw2 hw hf1 hf n k hk hv (by omega) hwr' he tms (zz.mpr z)
      unfold rdP
      rw [if_pos z]
      exact sn
    · have fl := fins_len ts
      have Sb : intBits (exS3 (lstP (fins ts)) (fins ts)) ≤ 400000 := by
        have := exS3_bits (l := lstP (fins ts)) (B := 1000) (D := 180000) (ts := fins ts) fun t ht => ⟨(fk t ht).1, (fk t ht).2.2.1, by have := (fk t ht).2.2.2; omega⟩
        omega
      obtain ⟨c, r, F, er⟩ := s_sum_fin w f hw2 hw hf1 hf n k hk hv (by omega) hwr' he tms (fun q => z (zz.mp q)) Sb (by omega)
      have F2 := F.exn (N := N) hl0 hN mem
      have sg : (if exS3 (lstP (fins ts)) (fins ts) < 0 then (1 : Int) else 0) = (if exN N (fins ts) < 0 then 1 else 0) := by
        by_cases q : exN N (fins ts) < 0
        · rw [if_pos q, if_pos (zn.mpr q)]
        · rw [if_neg q, if_neg (fun y => q (zn.mp y))]
      rw [sg] at er
      unfold rdP
      rw [if_neg z, F2.of]
      exact er
end
theorem tOK_mono {M N : Nat} (h : M ≤ N) : ∀ {t : Tm3}, tOK M t → tOK N t
  | .wr, _ => trivial
  | .en _, q => q
  | .fin _, q => ⟨q.1, q.2.1, q.2.2.1, by have := q.2.2.2.1; omega, q.2.2.2.2⟩
theorem tmOf_ok {w f : Nat} (hw2 : 2 ≤ w) (hw : w ≤ 15) (hf : f ≤ 112) {a : Int} (a0 : 0 ≤ a) (a1 : a < 2 ^ (w + f + 1)) : tOK (stp0 w f) (tmOf w f a) := by
  have sa0 : 0 ≤ a / 2 ^ (w + f) := dn _ a0
  have sa1 : a / 2 ^ (w + f) < 2 ^ 1 := div_lt_pow (m := 1) (by rw [Nat.add_comm 1]; exact a1)
  have pa := pw15 hw2 hw hf a
  have w1 := wh_b w f a
  obtain ⟨_, p0⟩ := lv_codeP hw2 f a
  unfold tmOf
  split
  · show _ = _ ∨ _ = _; omega
  · exact ⟨by show _ = _ ∨ _ = _; dsimp only; omega, w1.1, ib_mono (wh15 hf a) (by decide), by dsimp only; omega, by dsimp only; omega⟩
theorem stp_b15 {w f : Nat} (hw : w ≤ 15) (hf : f ≤ 112) : stp0 w f ≤ 17000 := stp_s hw hf
theorem exN_sgl {w f : Nat} (hw2 : 2 ≤ w) (a : Int) (M : Nat) : (1 - 2 * (a / 2 ^ (w + f))) * (whOf w f a * 2 ^ (pwOf w f a + (stp0 w f + M : Nat)).toNat) = sgl w f a * 2 ^ M := by
  obtain ⟨la, p0⟩ := lv_codeP hw2 f a
  unfold sgl
  rw [← la]
  have e : (pwOf w f a + (stp0 w f + M : Nat)).toNat = (pwOf w f a + stp0 w f).toNat + M := by omega
  rw [e, show (2 : Int) ^ ((pwOf w f a + stp0 w f).toNat + M) = 2 ^ (pwOf w f a + stp0 w f).toNat * 2 ^ M from Int.pow_add .., Int.mul_assoc, Int.mul_assoc]
/-- the deeds' numbers as terms -/
noncomputable def addP (w f k : Nat) (a b : Int) : Int × Int := if noneB w f a = true ∨ noneB w f b = true then (noN w f, 0) else sumP w f k (stp0 w f) [tmOf w f a, tmOf w f b]
section
variable (w f : Nat) (hw2 : 2 ≤ w) (hw : w ≤ 15) (hf1 : 1 ≤ f) (hf : f ≤ 112) (k : Nat) (hk : k < 5) {a b : Int} (a0 : 0 ≤ a) (a1 : a < 2 ^ (w + f + 1)) (b0 : 0 ≤ b) (b1 : b < 2 ^ (w + f + 1))
include hw2 hw hf1 hf hk a0 a1 b0 b1
theorem k_two (n : Nat) (h : HP) : run p.T p.fs (n + 4) 29 [.tup [.int w, .int f], .str (wayN k), .lst [.int a, .int b]] h = .ok (.lst [.str (kindS w f a), .str (kindS w f b)]) h ∧ Rm.inV h (.str "none") (.lst [.str (kindS w f a), .str (kindS w f b)]) = some (noneB w f a || noneB w f b) := by
  have kk := s_kinds_of w f (by omega) (by omega) n h k hk [a, b] (by simp) (by
    intro x hx
    have : x = a ∨ x = b := by simpa using hx
    rcases this with y | y <;> rw [y]
    · exact ⟨a0, a1⟩
    · exact ⟨b0, b1⟩)
  have kn := inV_kinds (w := w) (by omega) f h [a, b]
  simp only [List.map_cons, List.map_nil, List.any_cons, List.any_nil, Bool.or_false] at kk kn
  exact ⟨kk, kn⟩
end
end Pg

namespace Pg
open PySem L2 Rm
open PySem.Builtin.Int (intBits)
theorem prT_ok {w f : Nat} (hw2 : 2 ≤ w) (hw : w ≤ 15) (hf : f ≤ 112) {a b : Int} (a0 : 0 ≤ a) (a1 : a < 2 ^ (w + f + 1)) (b0 : 0 ≤ b) (b1 : b < 2 ^ (w + f + 1)) : tOK (stp0 w f + stp0 w f) (prT (tmOf w f a) (tmOf w f b)) := by
  have sa0 : 0 ≤ a / 2 ^ (w + f) := dn _ a0
  have sa1 : a / 2 ^ (w + f) < 2 ^ 1 := div_lt_pow (m := 1) (by rw [Nat.add_comm 1]; exact a1)
  have sb0 : 0 ≤ b / 2 ^ (w + f) := dn _ b0
  have sb1 : b / 2 ^ (w + f) < 2 ^ 1 := div_lt_pow (m := 1) (by rw [Nat.add_comm 1]; exact b1)
  have sx := xor_01 (a := a / 2 ^ (w + f)) (b := b / 2 ^ (w + f)) (by omega) (by omega)
  have pa := pw15 hw2 hw hf a
  have pb := pw15 hw2 hw hf b
  have w1 := wh_b w f a
  have w2 := wh_b w f b
  obtain ⟨_, p0⟩ := lv_codeP hw2 f a
  obtain ⟨_, q0⟩ := lv_codeP hw2 f b
  unfold tmOf
  split <;> split <;> simp only [prT]
  · exact sx
  · split
    · trivial
    · exact sx
  · split
    · trivial
    · exact sx
  · exact ⟨sx, Int.mul_nonneg w1.1 w2.1, ib_mono (intBits_mul_le (wh15 hf a) (wh15 hf b)) (by decide), by dsimp only; omega, by dsimp only; omega⟩
end Pg

namespace Pg
open PySem L2 Rm
open PySem.Builtin.Int (intBits)
/-! equal lists of whole numbers -/
theorem toDs_ints (h : HP) : ∀ ns : List Int, toDs h (ns.map MV.int) = some (ns.map PyData.int)
  | [] => by simp [toDs]
  | t :: ts => by simp [toDs, toD, toDs_ints h ts]
theorem eqA_ints : ∀ ts : List Int, PyData.eqvAll (ts.map PyData.int) (ts.map PyData.int) = true
  | [] => by simp [PyData.eqvAll]
  | t :: ts => by simp [PyData.eqvAll, PyData.eqv, eqA_ints ts]
theorem clA_ints : ∀ ts : List Int, PyData.canLayAll0 (ts.map PyData.int) = true
  | [] => by simp [PyData.canLayAll0]
  | t :: ts => by simp [PyData.canLayAll0, PyData.canLay0, clA_ints ts]
theorem dpA_ints : ∀ ts : List Int, PyData.depthAll (ts.map PyData.int) = 0
  | [] => by simp [PyData.depthAll]
  | t :: ts => by simp [PyData.depthAll, PyData.depth, dpA_ints ts]
theorem flat_ints' {h : HP} {x : MV} {ts : List Int} (hx : getL h x = some (ts.map .int)) : flatD h x = some (.list (ts.map PyData.int)) := by
  cases x with
  | lst xs =>
    have e : xs = ts.map .int := by simpa [getL] using hx
    subst e
    simp [flatD, lstD, toD, toDs_ints]
  | ref i =>
    simp only [getL] at hx
    simp only [flatD]
    split at hx
    · rename_i ys q
      have e : ys = ts.map .int := by simpa using hx
      subst e
      simp [toDs_ints]
    · cases hx
  | _ => simp [getL] at hx
theorem eqM_ints {h : HP} {x y : MV} {ts : List Int} (hx : getL h x = some (ts.map .int)) (hy : getL h y = some (ts.map .int)) : eqM h x y = some true := by
  have sh : SeqAt.shaped (.list (ts.map PyData.int)) = true := by
    simp [SeqAt.shaped, PyData.canLay0, PyData.depth, clA_ints, dpA_ints]
  unfold eqM
  rw [flat_ints' hx, flat_ints' hy]
  simp only [Option.bind_some, sh, Bool.and_self, if_true, PyData.eqv, eqA_ints]
end Pg

namespace Pg
open PySem L2 Rm
open PySem.Builtin.Int (intBits)
/-! rows summed and gathered, as plain functions -/
noncomputable def smdP (w f k : Nat) (bs : List Int) : Int × Int := if bs.any (noneB w f) = true then (noN w f, 0) else sumP w f k (stp0 w f) (bs.map (tmOf w f))
noncomputable def gatP (w f k : Nat) (ps : List (Int × Int)) : Int × Int := if (ps.map (·.1) ++ ps.map (·.2)).any (noneB w f) = true then (noN w f, 0) else sumP w f k (stp0 w f + stp0 w f) (ps.map fun p => prT (tmOf w f p.1) (tmOf w f p.2))
theorem low_tmMV (b : Nat) (t : Tm3) : low b (tmMV t) = true := by cases t <;> simp [tmMV]
theorem none_all {w f : Nat} {bs : List Int} (h : ¬ bs.any (noneB w f) = true) : ∀ b ∈ bs, noneB w f b = false := by
  intro b hb
  cases q : noneB w f b
  · rfl
  · exact absurd (List.any_eq_true.mpr ⟨b, hb, q⟩) h
theorem zip_ps : ∀ ps : List (Int × Int), zipM ((ps.map (·.1)).map .int) ((ps.map (·.2)).map .int) = ps.map fun p => MV.tup [.int p.1, .int p.2]
  | [] => rfl
  | p :: ps => by
    have ih := zip_ps ps
    unfold zipM at ih ⊢
    simp only [List.map_cons, List.zipWith_cons_cons, ih]
section
variable (w f : Nat) (hw2 : 2 ≤ w) (hw : w ≤ 15) (hf1 : 1 ≤ f) (hf : f ≤ 112) (k : Nat) (hk : k < 5)
include hw2 hw hf1 hf hk
theorem s_smdP {bs : List Int} (hl : bs.length ≤ 100000) (hb : ∀ b ∈ bs, 0 ≤ b ∧ b < 2 ^ (w + f + 1)) (n : Nat) (h : HP) :
    run p.T p.fs (n + 8) 36 [.tup [.int w, .int f], .str (wayN k), .lst (bs.map .int)] h = .ok (.tup [.int (smdP w f k bs).1, .int (smdP w f k bs).2]) h := by
  have kk := s_kinds_of w f (by omega) (by omega) (n + 3) h k hk bs (by omega) hb
  have kn := inV_kinds (w := w) (by omega) f h bs
  have nn := s_nonum w f hw hw2 hf1 hf (n + 5) h
  obtain ⟨KS, hKS⟩ : ∃ KS, (bs.map fun b => MV.str (kindS w f b)) = KS := ⟨_, rfl⟩
  rw [hKS] at kk kn
  rw [run_eq (F := fn36) rfl rfl]
  unfold smdP
  by_cases hN : bs.any (noneB w f) = true
  · rw [hN] at kn
    rw [if_pos hN]
    unfold noN
    simp -implicitDefEqProofs [fn36, kk, kn, nn]
  · have hN' : bs.any (noneB w f) = false := by simpa using hN
    rw [hN'] at kn
    rw [if_neg hN]
    have nb := none_all hN
    have lc : lcL false (.one 3) (fun _ => some (bs.map .int)) (bs.map .int) (evE p.T (run p.T p.fs (n + 7)) (.call 32 (.cons (.var 0) (.cons (.var 3) .nil)))) [some (.tup [.int w, .int f]), some (.str (wayN k)), some (.lst (bs.map .int)), none] h (bs.map .int) [] = .ok (.lst ((bs.map (tmOf w f)).map tmMV)) h := by
      rw [List.map_map]
      exact lcL_map bs .int (tmMV ∘ tmOf w f) (fun acc => rfl) (by omega) fun b hm => ⟨[some (.tup [.int w, .int f]), some (.str (wayN k)), some (.lst (bs.map .int)), some (.int b)], rfl, fun H => by
        have := s_term_of w f (by omega) (by omega) (by omega) (n + 3) H (hb b hm).1 (hb b hm).2 (nb b hm)
        simp [this], low_tmMV _ _⟩
    have ss := stp_s hw hf
    have sm := s_sumP w f hw2 hw hf1 hf k hk (stp0 w f) (Nat.le_refl _) (by omega) (v := .lst ((bs.map (tmOf w f)).map tmMV)) (ts := bs.map (tmOf w f)) (by simpa using hl) (by
      intro t ht
      obtain ⟨b, hm, rfl⟩ := List.mem_map.mp ht
      exact tmOf_ok hw2 hw hf (hb b hm).1 (hb b hm).2) n (h := h) (fun g => rfl)
    obtain ⟨TM, hTM⟩ : ∃ TM, (bs.map (tmOf w f)).map tmMV = TM := ⟨_, rfl⟩
    rw [hTM] at lc sm
    simp -implicitDefEqProofs [fn36, kk, kn, lc, sm]
theorem s_gatP {ps : List (Int × Int)} (hl : ps.length ≤ 100000) (hb : ∀ q ∈ ps, (0 ≤ q.1 ∧ q.1 < 2 ^ (w + f + 1)) ∧ 0 ≤ q.2 ∧ q.2 < 2 ^ (w + f + 1)) (n : Nat) (h : HP) :
    run p.T p.fs (n + 8) 35 [.tup [.int w, .int f], .str (wayN k), .lst ((ps.map (·.1)).map .int), .lst ((ps.map (·.2)).map .int)] h = .ok (.tup [.int (gatP w f k ps).1, .int (gatP w f k ps).2]) h := by
  have hb' : ∀ b ∈ ps.map (·.1) ++ ps.map (·.2), 0 ≤ b ∧ b < 2 ^ (w + f + 1) := by
    intro b hm
    rcases List.mem_append.mp hm with z | z <;> obtain ⟨q, hq, rfl⟩ := List.mem_map.mp z
    · exact (hb q hq).1
    · exact (hb q hq).2
  have kk := s_kinds_of w f (by omega) (by omega) (n + 3) h k hk (ps.map (·.1) ++ ps.map (·.2)) (by rw [List.length_append, List.length_map, List.length_map]; omega) hb'
  have kn := inV_kinds (w := w) (by omega) f h (ps.map (·.1) ++ ps.map (·.2))
  have nn := s_nonum w f hw hw2 hf1 hf (n + 5) h
  have wo := s_way_of (n + 5) h k hk
  obtain ⟨KS, hKS⟩ : ∃ KS, ((ps.map (·.1) ++ ps.map (·.2)).map fun b => MV.str (kindS w f b)) = KS := ⟨_, rfl⟩
  rw [hKS] at kk kn
  rw [List.map_append] at kk
  have zz := zip_ps ps
  have lX : ((ps.map (·.1)).map MV.int).length = ps.length := by rw [List.length_map, List.length_map]
  have lY : ((ps.map (·.2)).map MV.int).length = ps.length := by rw [List.length_map, List.length_map]
  have lc (nb : ∀ b ∈ ps.map (·.1) ++ ps.map (·.2), noneB w f b = false) : lcL false (.tup [4, 5]) (zipS (.lst ((ps.map (·.1)).map .int)) (.lst ((ps.map (·.2)).map .int))) (ps.map fun p => MV.tup [.int p.1, .int p.2]) (evE p.T (run p.T p.fs (n + 7)) (.call 33 (.cons (.var 0) (.cons (.var 4) (.cons (.var 5) .nil))))) [some (.tup [.int w, .int f]), some (.str (wayN k)), some (.lst ((ps.map (·.1)).map .int)), some (.lst ((ps.map (·.2)).map .int)), none, none] h (ps.map fun p => MV.tup [.int p.1, .int p.2]) [] = .ok (.lst ((ps.map fun p => prT (tmOf w f p.1) (tmOf w f p.2)).map tmMV)) h := by
    have em : (ps.map fun p => prT (tmOf w f p.1) (tmOf w f p.2)).map tmMV = ps.map (tmMV ∘ fun p => prT (tmOf w f p.1) (tmOf w f p.2)) := List.map_map ..
    rw [em]
    refine lcL_map (tg := .tup [4, 5]) (src := zipS (.lst ((ps.map (·.1)).map .int)) (.lst ((ps.map (·.2)).map .int))) (e := [some (.tup [.int w, .int f]), some (.str (wayN k)), some (.lst ((ps.map (·.1)).map .int)), some (.lst ((ps.map (·.2)).map .int)), none, none]) ps (fun p => MV.tup [.int p.1, .int p.2]) (tmMV ∘ fun p => prT (tmOf w f p.1) (tmOf w f p.2)) (fun acc => by rw [zipS_lst, zz]) (by omega) fun q hm => ⟨[some (.tup [.int w, .int f]), some (.str (wayN k)), some (.lst ((ps.map (·.1)).map .int)), some (.lst ((ps.map (·.2)).map .int)), some (.int q.1), some (.int q.2)], rfl, fun H => ?_, low_tmMV _ _⟩
    have := s_product_term w f hw2 hw hf (n + 2) H (hb q hm).1.1 (hb q hm).1.2 (hb q hm).2.1 (hb q hm).2.2 (nb _ (List.mem_append.mpr (.inl (List.mem_map.mpr ⟨q, hm, rfl⟩)))) (nb _ (List.mem_append.mpr (.inr (List.mem_map.mpr ⟨q, hm, rfl⟩))))
    simp [this]
  obtain ⟨X, hX⟩ : ∃ X, (ps.map (·.1)).map MV.int = X := ⟨_, rfl⟩
  obtain ⟨Y, hY⟩ : ∃ Y, (ps.map (·.2)).map MV.int = Y := ⟨_, rfl⟩
  obtain ⟨Z, hZ⟩ : ∃ Z, (ps.map fun p => MV.tup [.int p.1, .int p.2]) = Z := ⟨_, rfl⟩
  rw [hX] at kk zz lX lc ⊢
  rw [hY] at kk zz lY lc ⊢
  rw [hZ] at zz lc
  have ll : X.length + Y.length ≤ 16777216 := by omega
  have ll' : ps.length + ps.length ≤ 16777216 := by omega
  rw [run_eq (F := fn35) rfl rfl]
  unfold gatP
  by_cases hN : (ps.map (·.1) ++ ps.map (·.2)).any (noneB w f) = true
  · rw [hN] at kn
    rw [if_pos hN]
    unfold noN
    simp -implicitDefEqProofs [fn35, wo, lX, lY, ll', kk, kn, nn]
  · have hN' : (ps.map (·.1) ++ ps.map (·.2)).any (noneB w f) = false := by
      cases q : (ps.map (·.1) ++ ps.map (·.2)).any (noneB w f)
      · rfl
      · exact absurd q hN
    rw [hN'] at kn
    rw [if_neg hN]
    have lc := lc (none_all hN)
    have ss := stp_s hw hf
    have sm := s_sumP w f hw2 hw hf1 hf k hk (stp0 w f + stp0 w f) (by omega) (by omega) (v := .lst ((ps.map fun p => prT (tmOf w f p.1) (tmOf w f p.2)).map tmMV)) (ts := ps.map fun p => prT (tmOf w f p.1) (tmOf w f p.2)) (by simpa using hl) (by
      intro t ht
      obtain ⟨q, hm, rfl⟩ := List.mem_map.mp ht
      exact prT_ok hw2 hw hf (hb q hm).1.1 (hb q hm).1.2 (hb q hm).2.1 (hb q hm).2.2) n (h := h) (fun g => rfl)
    obtain ⟨TM, hTM⟩ : ∃ TM, (ps.map fun p => prT (tmOf w f p.1) (tmOf w f p.2)).map tmMV = TM := ⟨_, rfl⟩
    rw [hTM] at lc sm
    simp -implicitDefEqProofs [fn35, wo, lX, lY, ll', kk, kn, zz, lc, sm]
end
end Pg

namespace Pg
open PySem L2 Rm
open PySem.Builtin.Int (intBits)
theorem cut_ints (ns : List Int) (a b : Option Int) : ∃ cs : List Int, cutM (ns.map MV.int) a b = cs.map .int ∧ (∀ c ∈ cs, c ∈ ns) ∧ cs.length ≤ ns.length := by
  refine ⟨(ns.drop (HT.sIx (ns.map MV.int).length 0 a)).take (HT.sIx (ns.map MV.int).length (ns.map MV.int).length b - HT.sIx (ns.map MV.int).length 0 a), ?_, fun c hc => List.mem_of_mem_drop (List.mem_of_mem_take hc), ?_⟩
  · unfold cutM
    rw [List.map_take, List.map_drop]
  · rw [List.length_take, List.length_drop]; omega
end Pg

namespace Pg
open PySem L2 Rm
open PySem.Builtin.Int (intBits)
/-! one new cell at a heap's end -/
section
variable (h : HP) (A : List MV) (x : MV)
theorem k0_at : (h ++ [MO.lst A])[h.length]? = some (.lst A) := by simp
theorem k0_cell : isCell (h ++ [.lst A]) (.ref h.length) = true := by simp [isCell]
theorem k0_set (ys : List MV) : (h ++ [MO.lst A]).set h.length (.lst ys) = h ++ [.lst ys] := by
  rw [List.set_append_right _ _ (Nat.le_refl _)]; simp
theorem k0_app (ha : A.length < 16777216) : appV (h ++ [.lst A]) (.ref h.length) x = some (h ++ [.lst (A ++ [x])]) := by
  simp only [appV, k0_at]
  rw [if_pos (show A.length < sz from ha), k0_set]
theorem k0_seq (g : HP) : seqOf (h ++ [.lst A] ++ g) (.ref h.length) = some A := by
  have : (h ++ [MO.lst A] ++ g)[h.length]? = some (.lst A) := by rw [List.getElem?_append_left (by simp)]; simp
  simp only [seqOf, getL, this]
theorem k0_seq0 : seqOf (h ++ [.lst A]) (.ref h.length) = some A := by
  simp only [seqOf, getL, k0_at]
theorem k0_idx (i : Int) : idxV (h ++ [.lst A]) (.ref h.length) (.int i) = atI A i := by
  simp only [idxV, getL, k0_at]; rfl
theorem k0_slc (a b : Option Int) : slcV (h ++ [.lst A]) (.ref h.length) a b = some (.lst (cutM A a b)) := by
  simp only [slcV, getL, k0_at]; rfl
end
theorem leave_int (h g : HP) (a : Int) : leave false h (.ret (.int a) (h ++ g)) = .ok (.int a) h := by
  simp [leave, fin]
theorem leave_bl (h g : HP) (a : Bool) : leave false h (.ret (.bl a) (h ++ g)) = .ok (.bl a) h := by
  simp [leave, fin]
end Pg

namespace Pg
open PySem L2 Rm
open PySem.Builtin.Int (intBits)
theorem forL_step {tg : Tg} {src : HP → Option (List MV)} {all xs : List MV} {f : EN → HP → Rm.O} {x : MV} {e e1 e2 : EN} {h h2 : HP} (hs : src h = some all) (hg : setG tg x e = some e1) (hf : f e1 h = .nx e2 h2) : forL tg src all f (x :: xs) e h = forL tg src all f xs e2 h2 := by
  rw [forL]; simp [hs, hg, hf]
theorem forL_done {tg : Tg} {src : HP → Option (List MV)} {all : List MV} {f : EN → HP → Rm.O} {e : EN} {h : HP} (hs : src h = some all) : forL tg src all f [] e h = .nx e h := by
  rw [forL]; simp [hs]
theorem forL_stepC {tg : Tg} {src : HP → Option (List MV)} {all xs : List MV} {f : EN → HP → Rm.O} {x : MV} {e e1 e2 : EN} {h h2 : HP} (hs : src h = some all) (hg : setG tg x e = some e1) (hf : f e1 h = .ct e2 h2) : forL tg src all f (x :: xs) e h = forL tg src all f xs e2 h2 := by
  rw [forL]; simp [hs, hg, hf]
end Pg

namespace Pg
open PySem L2 Rm
open PySem.Builtin.Int (intBits)
theorem stl_rng {w f k : Nat} (hw2 : 2 ≤ w) (hf1 : 1 ≤ f) {s c r : Int} (c0 : 0 ≤ c) (r0 : 0 ≤ r) : 0 ≤ (stl w f k s c r).1 ∧ (stl w f k s c r).1 ≤ 2 ^ (w + f) - 2 ^ f ∧ 0 ≤ (stl w f k s c r).2 ∧ (stl w f k s c r).2 ≤ 5 := by
  have E3 := end_3 (f := f) hw2
  have pf := p2 f
  unfold stl
  by_cases h1 : 2 ^ (w + f) - 2 ^ f ≤ c
  · rw [if_pos h1]
    refine ⟨?_, ?_, by dsimp only; omega, by dsimp only; omega⟩
    · dsimp only; split <;> omega
    · dsimp only; split <;> omega
  · rw [if_neg h1]
    by_cases h2 : r = 0
    · rw [if_pos h2]; exact ⟨c0, by dsimp only; omega, by dsimp only; omega, by dsimp only; omega⟩
    · rw [if_neg h2]
      refine ⟨?_, ?_, ?_, ?_⟩
      · dsimp only; split <;> omega
      · dsimp only; split <;> omega
      · dsimp only; split
        · omega
        · split <;> omega
      · dsimp only; split
        · omega
        · split <;> omega
end Pg

namespace Pg
open PySem L2 Rm
open PySem.Builtin.Int (intBits)
theorem rdP_rng {w f k : Nat} (hw2 : 2 ≤ w) (hf1 : 1 ≤ f) {X B s : Int} (hB : 0 < B) (s01 : s = 0 ∨ s = 1) : 0 ≤ (rdP w f k X B s).1 ∧ (rdP w f k X B s).1 < 2 ^ (w + f + 1) := by
  have E3 := end_3 (f := f) hw2
  have pf := p2 f
  have eT := pow_s (w + f)
  unfold rdP
  split
  · rcases s01 with y | y <;> rw [y] <;> dsimp only <;> omega
  · have F := frOf_ok (f := f) (V := (X.natAbs : Int)) (B := B) (by omega) hB
    have := stl_rng (w := w) (k := k) (s := if X < 0 then 1 else 0) hw2 hf1 F.c0 F.nn
    dsimp only
    by_cases n : X < 0
    · rw [if_pos n] at this ⊢; omega
    · rw [if_neg n] at this ⊢; omega
end Pg

namespace Pg
open PySem L2 Rm
open PySem.Builtin.Int (intBits)
theorem sH_rng {w f : Nat} (hw2 : 2 ≤ w) {s x : Int} (hs : s = 0 ∨ s = 1) (x0 : 0 ≤ x) (x1 : x ≤ 2 ^ (w + f) - 2 ^ f) : 0 ≤ s * 2 ^ (w + f) + x ∧ s * 2 ^ (w + f) + x < 2 ^ (w + f + 1) ∧ (s * 2 ^ (w + f) + x) % 2 ^ (w + f) = x ∧ (s * 2 ^ (w + f) + x) / 2 ^ (w + f) = s := by
  have El := end_lt (w := w) (f := f)
  have H0 := p2 (w + f)
  have eT := pow_s (w + f)
  have e1 : x % 2 ^ (w + f) = x := Int.emod_eq_of_lt x0 (by omega)
  have e2 : x / 2 ^ (w + f) = 0 := Int.ediv_eq_zero_of_lt x0 (by omega)
  rw [eT]
  rcases hs with y | y <;> rw [y]
  · rw [Int.zero_mul, Int.zero_add]; exact ⟨x0, by omega, e1, e2⟩
  · rw [Int.one_mul, Int.add_emod_left, Int.add_ediv_of_dvd_left (Int.dvd_refl _), e2, Int.ediv_self (Int.ne_of_gt H0)]
    exact ⟨by omega, by omega, e1, rfl⟩
theorem noN_rng {w f : Nat} (hw2 : 2 ≤ w) (hf1 : 1 ≤ f) : 0 ≤ noN w f ∧ noN w f < 2 ^ (w + f + 1) ∧ 2 ^ (w + f) - 2 ^ f ≤ noN w f % 2 ^ (w + f) := by
  have E3 := end_3 (f := f) hw2
  have pf := p2 f
  have pg := p2 (f - 1)
  have eF : (2 : Int) ^ f = 2 * 2 ^ (f - 1) := by rw [← pow_s, Nat.sub_add_cancel hf1]
  have eT := pow_s (w + f)
  have e : noN w f % 2 ^ (w + f) = noN w f := Int.emod_eq_of_lt (by unfold noN; omega) (by unfold noN; omega)
  rw [e]
  unfold noN
  omega
end Pg

namespace Pg
open PySem L2 Rm
open PySem.Builtin.Int (intBits)
/-! sums in another order, pairs turned: k37 (needs rowsp) -/
theorem hasWr_iff : ∀ ts : List Tm3, hasWr ts = true ↔ Tm3.wr ∈ ts
  | [] => by simp [hasWr]
  | .wr :: ts => by simp [hasWr]
  | .en _ :: ts => by simp [hasWr, hasWr_iff ts]
  | .fin _ :: ts => by simp [hasWr, hasWr_iff ts]
theorem ens_perm {ts us : List Tm3} (h : ts.Perm us) : (ens ts).Perm (ens us) := by
  induction h with
  | nil => exact .nil
  | cons x _ ih => cases x with
    | wr => exact ih
    | en s => exact ih.cons s
    | fin _ => exact ih
  | swap x y l => cases x <;> cases y <;> first | exact .refl _ | exact .swap ..
  | trans _ _ a b => exact a.trans b
theorem fins_perm {ts us : List Tm3} (h : ts.Perm us) : (fins ts).Perm (fins us) := by
  induction h with
  | nil => exact .nil
  | cons x _ ih => cases x with
    | wr => exact ih
    | fin s => exact ih.cons s
    | en _ => exact ih
  | swap x y l => cases x <;> cases y <;> first | exact .refl _ | exact .swap ..
  | trans _ _ a b => exact a.trans b
theorem exN_perm {N : Nat} {ts us : List T3} (h : ts.Perm us) : exN N ts = exN N us := by
  induction h with
  | nil => rfl
  | cons x _ ih =>
    unfold exN
    rw [ih]
  | swap x y l =>
    show _ + (_ + exN N l) = _ + (_ + exN N l)
    rw [Int.add_left_comm]
  | trans _ _ a b => exact a.trans b
theorem nought_val (k : Nat) {ss : List Int} (h : ∀ s ∈ ss, s = 0 ∨ s = 1) : noughtS k ss = if 0 ∈ ss ∧ 1 ∈ ss then (if k = 4 then 1 else 0) else if 1 ∈ ss then 1 else 0 := by
  cases ss with
  | nil => simp [noughtS]
  | cons s rest =>
    show (if 0 ∈ s :: rest ∧ 1 ∈ s :: rest then (if k = 4 then 1 else 0) else s) = _
    by_cases c : 0 ∈ s :: rest ∧ 1 ∈ s :: rest
    · rw [if_pos c, if_pos c]
    · rw [if_neg c, if_neg c]
      rcases h s (List.mem_cons_self ..) with rfl | rfl
      · rw [if_neg fun z => c ⟨List.mem_cons_self .., z⟩]
      · rw [if_pos (List.mem_cons_self ..)]
theorem nought_perm (k : Nat) {ss us : List Int} (h : ss.Perm us) (h1 : ∀ s ∈ ss, s = 0 ∨ s = 1) : noughtS k ss = noughtS k us := by
  rw [nought_val k h1, nought_val k fun s hs => h1 s (h.mem_iff.mpr hs)]
  simp only [h.mem_iff]
theorem sumP_val {w f k N : Nat} {ts : List Tm3} (ok : ∀ t ∈ ts, tOK N t) : sumP w f k N ts = if hasWr ts = true ∨ (0 ∈ ens ts ∧ 1 ∈ ens ts) then (noN w f, 16)
    else if 0 ∈ ens ts ∨ 1 ∈ ens ts then ((if 1 ∈ ens ts then 1 else 0) * 2 ^ (w + f) + (2 ^ (w + f) - 2 ^ f), 0)
    else rdP w f k (exN N (fins ts)) (2 ^ (N - stp0 w f)) (noughtS k ((fins ts).map (·.1))) := by
  have e01 : ∀ s ∈ ens ts, s = 0 ∨ s = 1 := fun s hs => ok _ (mem_ens hs)
  unfold sumP
  by_cases c : hasWr ts = true ∨ (0 ∈ ens ts ∧ 1 ∈ ens ts)
  · rw [if_pos c, if_pos c]
  · rw [if_neg c, if_neg c]
    cases he : ens ts with
    | nil => simp
    | cons s rest =>
      rw [he] at c e01
      have cn : ¬ (0 ∈ s :: rest ∧ 1 ∈ s :: rest) := fun z => c (.inr z)
      rcases e01 s (List.mem_cons_self ..) with rfl | rfl
      · have n1 : ¬ (1 : Int) ∈ (0 : Int) :: rest := fun z => cn ⟨List.mem_cons_self .., z⟩
        rw [if_pos (.inl (List.mem_cons_self ..)), if_neg n1]
      · rw [if_pos (.inr (List.mem_cons_self ..)), if_pos (List.mem_cons_self ..)]
theorem sumP_perm {w f k N : Nat} {ts us : List Tm3} (h : ts.Perm us) (ok : ∀ t ∈ ts, tOK N t) : sumP w f k N ts = sumP w f k N us := by
  rw [sumP_val ok, sumP_val fun t ht => ok t (h.mem_iff.mpr ht)]
  have e1 : hasWr ts = true ↔ hasWr us = true := by rw [hasWr_iff, hasWr_iff, h.mem_iff]
  have e2 := ens_perm h
  have e3 := fins_perm h
  have n1 : ∀ s ∈ (fins ts).map (·.1), s = 0 ∨ s = 1 := by
    intro s hs
    obtain ⟨t, ht, rfl⟩ := List.mem_map.1 hs
    exact (ok _ (mem_fins ht)).1
  rw [exN_perm e3, nought_perm k (e3.map (·.1)) n1]
  simp only [e1, e2.mem_iff]
/-! pairs -/
abbrev Pr2 := Int × Int
abbrev inP (w f : Nat) (q : Pr2) : Prop := (0 ≤ q.1 ∧ q.1 < 2 ^ (w + f + 1)) ∧ 0 ≤ q.2 ∧ q.2 < 2 ^ (w + f + 1)
noncomputable def pairT (w f : Nat) (q : Pr2) : Tm3 := prT (tmOf w f q.1) (tmOf w f q.2)
def nnQ (w f : Nat) (q : Pr2) : Bool := noneB w f q.1 || noneB w f q.2
theorem any_pair (w f : Nat) : ∀ ps : List Pr2, (ps.map (·.1) ++ ps.map (·.2)).any (noneB w f) = ps.any (nnQ w f)
  | [] => rfl
  | q :: ps => by
    have ih := any_pair w f ps
    rw [List.any_append] at ih ⊢
    simp only [List.map_cons, List.any_cons, ← ih, nnQ]
    cases noneB w f q.1 <;> cases noneB w f q.2 <;> simp
theorem gat_val (w f k : Nat) (ps : List Pr2) : gatP w f k ps = if ps.any (nnQ w f) = true then (noN w f, 0) else sumP w f k (stp0 w f + stp0 w f) (ps.map (pairT w f)) := by
  unfold gatP
  rw [any_pair]; rfl
theorem any_perm {α : Type} {p : α → Bool} {xs ys : List α} (h : xs.Perm ys) : xs.any p = ys.any p := by
  rw [Bool.eq_iff_iff, List.any_eq_true, List.any_eq_true]
  constructor
  · rintro ⟨x, hx, q⟩; exact ⟨x, h.mem_iff.mp hx, q⟩
  · rintro ⟨x, hx, q⟩; exact ⟨x, h.mem_iff.mpr hx, q⟩
/-- one sign turned -/
def tn (w f : Nat) (b : Int) : Int := (b + 2 ^ (w + f)) % (2 * 2 ^ (w + f))
theorem tn_val {w f : Nat} {b : Int} (h0 : 0 ≤ b) (h1 : b < 2 ^ (w + f + 1)) : tn w f b = if b < 2 ^ (w + f) then b + 2 ^ (w + f) else b - 2 ^ (w + f) := by
  have e := pow_s (w + f)
  have H0 := p2 (w + f)
  unfold tn
  split
  · exact Int.emod_eq_of_lt (by omega) (by omega)
  · rw [show b + 2 ^ (w + f) = (b - 2 ^ (w + f)) + 2 * 2 ^ (w + f) by omega, Int.add_emod_right]
    exact Int.emod_eq_of_lt (by omega) (by omega)
theorem tn_in {w f : Nat} {b : Int} (h0 : 0 ≤ b) (h1 : b < 2 ^ (w + f + 1)) : 0 ≤ tn w f b ∧ tn w f b < 2 ^ (w + f + 1) := by
  have e := pow_s (w + f)
  have H0 := p2 (w + f)
  rw [tn_val h0 h1]
  split <;> omega
theorem tn_cd {w f : Nat} (b : Int) : tn w f b % 2 ^ (w + f) = b % 2 ^ (w + f) := by
  unfold tn
  rw [Int.emod_emod_of_dvd _ (Int.dvd_mul_left _ _), Int.add_emod_right]
theorem tn_sg {w f : Nat} {b : Int} (h0 : 0 ≤ b) (h1 : b < 2 ^ (w + f + 1)) : tn w f b / 2 ^ (w + f) = 1 - b / 2 ^ (w + f) ∧ (b / 2 ^ (w + f) = 0 ∨ b / 2 ^ (w + f) = 1) := by
  have e := pow_s (w + f)
  have H0 := p2 (w + f)
  rw [tn_val h0 h1]
  by_cases c : b < 2 ^ (w + f)
  · rw [if_pos c, Int.ediv_eq_zero_of_lt h0 c]
    have : (b + 2 ^ (w + f)) / 2 ^ (w + f) = 1 := by
      rw [Int.add_ediv_of_dvd_right (Int.dvd_refl _), Int.ediv_eq_zero_of_lt h0 c, Int.ediv_self (by omega)]; rfl
    rw [this]
    exact ⟨rfl, .inl rfl⟩
  · rw [if_neg c]
    have e1 : (b - 2 ^ (w + f)) / 2 ^ (w + f) = 0 := Int.ediv_eq_zero_of_lt (by omega) (by omega)
    have e2 : b / 2 ^ (w + f) = 1 := by
      have : (b - 2 ^ (w + f) + 2 ^ (w + f)) / 2 ^ (w + f) = 1 := by
        rw [Int.add_ediv_of_dvd_right (Int.dvd_refl _), e1, Int.ediv_self (by omega)]; rfl
      rw [Int.sub_add_cancel] at this; exact this
    rw [e1, e2]
    exact ⟨rfl, .inr rfl⟩
theorem fd_cd (w f : Nat) (b : Int) : fdOf w f b = b % 2 ^ (w + f) / 2 ^ f := by
  have e : (2 : Int) ^ (w + f) = 2 ^ f * 2 ^ w := by rw [Int.pow_add, Int.mul_comm]
  have g := fg_b f b
  have h1 : b % 2 ^ (w + f) = 2 ^ f * fdOf w f b + fgOf f b := by rw [e, mod_split (p2 f) (p2 w)]; rfl
  rw [h1, Int.add_comm, Int.add_mul_ediv_left _ _ (Int.ne_of_gt (p2 f)), Int.ediv_eq_zero_of_lt g.1 g.2, Int.zero_add]
theorem tn_fd (w f : Nat) (b : Int) : fdOf w f (tn w f b) = fdOf w f b := by rw [fd_cd, fd_cd, tn_cd]
theorem tn_fg (w f : Nat) (b : Int) : fgOf f (tn w f b) = fgOf f b := by
  have h : ∀ x : Int, fgOf f x = x % 2 ^ (w + f) % 2 ^ f := fun x => by
    unfold fgOf
    rw [Int.emod_emod_of_dvd _ (by rw [Int.pow_add]; exact Int.dvd_mul_left _ _)]
  rw [h, h, tn_cd]
theorem tn_none (w f : Nat) (b : Int) : noneB w f (tn w f b) = noneB w f b := by unfold noneB; rw [tn_cd]
/-- a term with its sign turned -/
def tT : Tm3 → Tm3
  | .wr => .wr
  | .en s => .en (1 - s)
  | .fin t => .fin (1 - t.1, t.2)
theorem tm_tn {w f : Nat} {b : Int} (h0 : 0 ≤ b) (h1 : b < 2 ^ (w + f + 1)) : tmOf w f (tn w f b) = tT (tmOf w f b) := by
  unfold tmOf
  rw [tn_cd, (tn_sg h0 h1).1]
  have e1 : whOf w f (tn w f b) = whOf w f b := by unfold whOf; rw [tn_fd, tn_fg]
  have e2 : pwOf w f (tn w f b) = pwOf w f b := by unfold pwOf; rw [tn_fd]
  rw [e1, e2]
  split <;> rfl
theorem xor_tt {a b : Int} (ha : a = 0 ∨ a = 1) (hb : b = 0 ∨ b = 1) : Builtin.bitXor (1 - a) (1 - b) = Builtin.bitXor a b := by
  rcases ha with rfl | rfl <;> rcases hb with rfl | rfl <;> decide
theorem xor_sw {a b : Int} (ha : a = 0 ∨ a = 1) (hb : b = 0 ∨ b = 1) : Builtin.bitXor a b = Builtin.bitXor b a := by
  rcases ha with rfl | rfl <;> rcases hb with rfl | rfl <;> decide
def s01 : Tm3 → Prop
  | .wr => True
  | .en s => s = 0 ∨ s = 1
  | .fin t => t.1 = 0 ∨ t.1 = 1
theorem tm_s01 {w f : Nat} {b : Int} (h0 : 0 ≤ b) (h1 : b < 2 ^ (w + f + 1)) : s01 (tmOf w f b) := by
  have := (tn_sg h0 h1).2
  unfold tmOf
  split <;> exact this
theorem pr_sw {x y : Tm3} (hx : s01 x) (hy : s01 y) : prT x y = prT y x := by
  cases x with
  | wr => cases y <;> rfl
  | en s => cases y with
    | wr => rfl
    | en t => show Tm3.en _ = Tm3.en _; rw [xor_sw hx hy]
    | fin t => show (if t.2.1 = 0 then Tm3.wr else .en (Builtin.bitXor s t.1)) = (if t.2.1 = 0 then Tm3.wr else .en (Builtin.bitXor t.1 s)); rw [xor_sw hx hy]
  | fin a => cases y with
    | wr => rfl
    | en s => show (if a.2.1 = 0 then Tm3.wr else .en (Builtin.bitXor a.1 s)) = (if a.2.1 = 0 then Tm3.wr else .en (Builtin.bitXor s a.1)); rw [xor_sw hx hy]
    | fin b => show Tm3.fin (Builtin.bitXor a.1 b.1, a.2.1 * b.2.1, a.2.2 + b.2.2) = Tm3.fin (Builtin.bitXor b.1 a.1, b.2.1 * a.2.1, b.2.2 + a.2.2); rw [xor_sw hx hy, Int.mul_comm, Int.add_comm]
theorem pr_tt {x y : Tm3} (hx : s01 x) (hy : s01 y) : prT (tT x) (tT y) = prT x y := by
  cases x with
  | wr => cases y <;> rfl
  | en s => cases y with
    | wr => rfl
    | en t => show Tm3.en _ = Tm3.en _; rw [xor_tt hx hy]
    | fin t => show (if t.2.1 = 0 then Tm3.wr else .en (Builtin.bitXor (1 - s) (1 - t.1))) = (if t.2.1 = 0 then Tm3.wr else .en (Builtin.bitXor s t.1)); rw [xor_tt hx hy]
  | fin a => cases y with
    | wr => rfl
    | en s => show (if a.2.1 = 0 then Tm3.wr else .en (Builtin.bitXor (1 - a.1) (1 - s))) = (if a.2.1 = 0 then Tm3.wr else .en (Builtin.bitXor a.1 s)); rw [xor_tt hx hy]
    | fin b => show Tm3.fin (Builtin.bitXor (1 - a.1) (1 - b.1), a.2.1 * b.2.1, a.2.2 + b.2.2) = Tm3.fin (Builtin.bitXor a.1 b.1, a.2.1 * b.2.1, a.2.2 + b.2.2); rw [xor_tt hx hy]
/-- a pair as the law places it -/
def plQ (w f : Nat) (j : Int) (q : Pr2) : Pr2 :=
  let r : Pr2 := if 1 < j then (tn w f q.1, tn w f q.2) else q
  if j % 2 = 1 then (r.2, r.1) else r
theorem pl_ok {w f : Nat} {q : Pr2} (h : inP w f q) (j : Int) : inP w f (plQ w f j q) ∧ pairT w f (plQ w f j q) = pairT w f q ∧ nnQ w f (plQ w f j q) = nnQ w f q := by
  have a := tm_s01 h.1.1 h.1.2
  have b := tm_s01 h.2.1 h.2.2
  have T : inP w f (tn w f q.1, tn w f q.2) ∧ pairT w f (tn w f q.1, tn w f q.2) = pairT w f q ∧ nnQ w f (tn w f q.1, tn w f q.2) = nnQ w f q := by
    refine ⟨⟨tn_in h.1.1 h.1.2, tn_in h.2.1 h.2.2⟩, ?_, ?_⟩
    · unfold pairT
      rw [tm_tn h.1.1 h.1.2, tm_tn h.2.1 h.2.2, pr_tt a b]
    · unfold nnQ
      rw [tn_none, tn_none]
  have S : ∀ r : Pr2, inP w f r → inP w f (r.2, r.1) ∧ pairT w f (r.2, r.1) = pairT w f r ∧ nnQ w f (r.2, r.1) = nnQ w f r := fun r hr =>
    ⟨⟨hr.2, hr.1⟩, pr_sw (tm_s01 hr.2.1 hr.2.2) (tm_s01 hr.1.1 hr.1.2), Bool.or_comm ..⟩
  unfold plQ
  by_cases c : 1 < j
  · simp only [if_pos c]
    split
    · obtain ⟨s1, s2, s3⟩ := S _ T.1
      exact ⟨s1, s2.trans T.2.1, s3.trans T.2.2⟩
    · exact T
  · simp only [if_neg c]
    split
    · exact S q h
    · exact ⟨h, rfl, rfl⟩
/-! rows in another order -/
theorem map_get {α : Type} (d : α) (ps : List α) : (List.range ps.length).map (fun k => ps.getD k d) = ps := by
  apply List.ext_getElem
  · simp
  · intro i h1 h2
    simp at h1
    simp [List.getD_eq_getElem?_getD, h1]
theorem gat_order {w f k : Nat} (hw2 : 2 ≤ w) (hw : w ≤ 15) (hf : f ≤ 112) {ps : List Pr2} (ok : ∀ q ∈ ps, inP w f q) {order : List Nat} (ho : order.Perm (List.range ps.length)) (j : Nat → Int) : gatP w f k (order.map fun i => plQ w f (j i) (ps.getD i (0, 0))) = gatP w f k ps := by
  have okD : ∀ i ∈ order, inP w f (ps.getD i (0, 0)) := by
    intro i hi
    have hl := List.mem_range.1 (ho.mem_iff.1 hi)
    rw [List.getD_eq_getElem?_getD, List.getElem?_eq_getElem hl]
    exact ok _ (List.getElem_mem hl)
  have e1 : (order.map fun i => plQ w f (j i) (ps.getD i (0, 0))).map (pairT w f) = order.map fun i => pairT w f (ps.getD i (0, 0)) := by
    rw [List.map_map]
    exact List.map_congr_left fun i hi => (pl_ok (okD i hi) (j i)).2.1
  have e2 : (order.map fun i => plQ w f (j i) (ps.getD i (0, 0))).any (nnQ w f) = ps.any (nnQ w f) := by
    have h1 : (order.map fun i => plQ w f (j i) (ps.getD i (0, 0))).map (nnQ w f) = order.map fun i => nnQ w f (ps.getD i (0, 0)) := by
      rw [List.map_map]
      exact List.map_congr_left fun i hi => (pl_ok (okD i hi) (j i)).2.2
    have h2 : ps.map (nnQ w f) = (List.range ps.length).map fun i => nnQ w f (ps.getD i (0, 0)) := by
      conv => lhs; rw [← map_get (0, 0) ps, List.map_map]
      rfl
    have h3 : ∀ xs : List Pr2, xs.any (nnQ w f) = (xs.map (nnQ w f)).any id := fun xs => by rw [List.any_map]; rfl
    rw [h3, h3, h1, h2]
    exact any_perm (ho.map _)
  have e3 : (order.map fun i => pairT w f (ps.getD i (0, 0))).Perm (ps.map (pairT w f)) := by
    have h2 : ps.map (pairT w f) = (List.range ps.length).map fun i => pairT w f (ps.getD i (0, 0)) := by
      conv => lhs; rw [← map_get (0, 0) ps, List.map_map]
      rfl
    rw [h2]
    exact ho.map _
  rw [gat_val, gat_val, e1, e2]
  rw [sumP_perm e3 fun t ht => by
    obtain ⟨i, hi, rfl⟩ := List.mem_map.1 ht
    have h := okD i hi
    exact prT_ok hw2 hw hf h.1.1 h.1.2 h.2.1 h.2.2]
theorem smd_order {w f k : Nat} (hw2 : 2 ≤ w) (hw : w ≤ 15) (hf : f ≤ 112) {bs : List Int} (ok : ∀ b ∈ bs, 0 ≤ b ∧ b < 2 ^ (w + f + 1)) {order : List Nat} (ho : order.Perm (List.range bs.length)) : smdP w f k (order.map fun i => bs.getD i 0) = smdP w f k bs := by
  have P : (order.map fun i => bs.getD i 0).Perm bs := by
    have := ho.map fun i => bs.getD i 0
    rw [map_get] at this
    exact this
  unfold smdP
  rw [any_perm P, sumP_perm (P.map (tmOf w f)) fun t ht => by
    obtain ⟨b, hb, rfl⟩ := List.mem_map.1 ht
    have h := ok b (P.mem_iff.1 hb)
    exact tmOf_ok hw2 hw hf h.1 h.2]
end Pg

namespace Pg
open PySem L2 Rm
open PySem.Builtin.Int (intBits)
/-! cleaned numbers: k38, k37 -/
def clnP (H E pl b : Int) : Int := if 0 < pl ∧ E < b % H then b / H * H + E else if 1 < pl ∧ b % H = 0 then b + 1 else b
section
variable (w f : Nat) (hw2 : 2 ≤ w) (hw : w ≤ 15) (hf1 : 1 ≤ f) (hf : f ≤ 112)
include hw2 hw hf1 hf
theorem s_clean (n : Nat) (h : HP) {b : Int} (b0 : 0 ≤ b) (b1 : b < 2 ^ (w + f + 1)) (pl : Int) :
    run p.T p.fs (n + 1) 44 [.tup [.int w, .int f], .int b, .int pl] h = .ok (.int (clnP (2 ^ (w + f)) (2 ^ (w + f) - 2 ^ f) pl b)) h ∧ 0 ≤ clnP (2 ^ (w + f)) (2 ^ (w + f) - 2 ^ f) pl b ∧ clnP (2 ^ (w + f)) (2 ^ (w + f) - 2 ^ f) pl b < 2 ^ (w + f + 1) := by
  have s0 := shlB_one (b := (w : Int) + (f : Int)) (by omega) (by omega)
  have s1 := shlB_one (b := (f : Int)) (by omega) (by omega)
  have H0 := p2 (w + f)
  have E3 := end_3 (f := f) hw2
  have pf := p2 f
  have eT := pow_s (w + f)
  have d := dvB_pow (a := b) (n := w + f) (by omega)
  have q0 := dn (w + f) b0
  have q1 : b / 2 ^ (w + f) < 2 ^ 1 := div_lt_pow (m := 1) (by rw [Nat.add_comm 1]; exact b1)
  have ed := Int.mul_ediv_add_emod b (2 ^ (w + f))
  have mb := mn b (w + f)
  obtain ⟨Q, hQ⟩ : ∃ Q : Int, b / 2 ^ (w + f) = Q := ⟨_, rfl⟩
  rw [hQ] at ed q0 q1
  have Q01 : Q = 0 ∨ Q = 1 := by omega
  have ms : mulB Q (2 ^ (w + f)) = true := mulB_left (by rcases Q01 with z | z <;> rw [z] <;> decide)
  have hE0 : 2 ^ f ≤ (2 : Int) ^ (w + f) := two_le_pow (by omega)
  refine ⟨?_, ?_⟩
  · rw [run_eq (F := fn44) rfl rfl]
    unfold clnP
    rw [hQ]
    obtain ⟨E, hE⟩ : ∃ E : Int, 2 ^ (w + f) - 2 ^ f = E := ⟨_, rfl⟩
    rw [hE]
    by_cases c1 : 0 < pl ∧ E < b % 2 ^ (w + f)
    · rw [if_pos c1]; simp [fn44, s0, s1, hE, c1.1, c1.2, d, hQ, ms]
    rw [if_neg c1]
    by_cases c2 : 1 < pl ∧ b % 2 ^ (w + f) = 0
    · have c1' : ¬ (0 < pl ∧ E < 0) := by rw [c2.2] at c1; exact c1
      rw [if_pos c2]; simp [fn44, s0, s1, hE, c1', c2.1, c2.2]
    · rw [if_neg c2]; simp [fn44, s0, s1, hE, c1, c2]
  · unfold clnP
    rw [hQ]
    rcases Q01 with z | z <;> rw [z] at ed ⊢
    · rw [Int.mul_zero] at ed
      split
      · rw [Int.zero_mul]; omega
      · split <;> omega
    · rw [Int.mul_one] at ed
      split
      · rw [Int.one_mul]; omega
      · split <;> omega
end
end Pg

namespace Pg
open PySem L2 Rm
open PySem.Builtin.Int (intBits)
/-! gathered of two cells: k37 (needs rowsp) -/
section
variable (w f : Nat) (hw2 : 2 ≤ w) (hw : w ≤ 15) (hf1 : 1 ≤ f) (hf : f ≤ 112) (k : Nat) (hk : k < 5)
include hw2 hw hf1 hf hk
theorem s_gatR {ps : List (Int × Int)} (hl : ps.length ≤ 100000) (hb : ∀ q ∈ ps, (0 ≤ q.1 ∧ q.1 < 2 ^ (w + f + 1)) ∧ 0 ≤ q.2 ∧ q.2 < 2 ^ (w + f + 1)) (n : Nat) :
    run p.T p.fs (n + 8) 35 [.tup [.int w, .int f], .str (wayN k), (.ref 0), (.ref 1)] [.lst ((ps.map (·.1)).map .int), .lst ((ps.map (·.2)).map .int)] = .ok (.tup [.int (gatP w f k ps).1, .int (gatP w f k ps).2]) [.lst ((ps.map (·.1)).map .int), .lst ((ps.map (·.2)).map .int)] := by
  obtain ⟨K, hK⟩ : ∃ K : HP, [MO.lst ((ps.map (·.1)).map .int), .lst ((ps.map (·.2)).map .int)] = K := ⟨_, rfl⟩
  have lnX : seqOf K (.ref 0) = some ((ps.map (·.1)).map MV.int) := by rw [← hK]; rfl
  have lnY : seqOf K (.ref 1) = some ((ps.map (·.2)).map MV.int) := by rw [← hK]; rfl
  have zk : zipS (.ref 0) (.ref 1) K = some (ps.map fun p => MV.tup [.int p.1, .int p.2]) := by rw [← zip_ps ps, ← hK]; rfl
  have adk : binV K .add (.ref 0) (.ref 1) = some (.lst ((ps.map (·.1)).map .int ++ (ps.map (·.2)).map .int)) := by
    rw [← hK]
    show (if ((ps.map (·.1)).map MV.int).length + ((ps.map (·.2)).map MV.int).length ≤ sz then some (MV.lst ((ps.map (·.1)).map .int ++ (ps.map (·.2)).map .int)) else none) = _
    rw [if_pos (by simp only [List.length_map]; unfold sz; omega)]
  rw [hK]
  have hb' : ∀ b ∈ ps.map (·.1) ++ ps.map (·.2), 0 ≤ b ∧ b < 2 ^ (w + f + 1) := by
    intro b hm
    rcases List.mem_append.mp hm with z | z <;> obtain ⟨q, hq, rfl⟩ := List.mem_map.mp z
    · exact (hb q hq).1
    · exact (hb q hq).2
  have kk := s_kinds_of w f (by omega) (by omega) (n + 3) K k hk (ps.map (·.1) ++ ps.map (·.2)) (by rw [List.length_append, List.length_map, List.length_map]; omega) hb'
  have kn := inV_kinds (w := w) (by omega) f K (ps.map (·.1) ++ ps.map (·.2))
  have nn := s_nonum w f hw hw2 hf1 hf (n + 5) K
  have wo := s_way_of (n + 5) K k hk
  obtain ⟨KS, hKS⟩ : ∃ KS, ((ps.map (·.1) ++ ps.map (·.2)).map fun b => MV.str (kindS w f b)) = KS := ⟨_, rfl⟩
  rw [hKS] at kk kn
  rw [List.map_append] at kk
  have zz := zip_ps ps
  have lX : ((ps.map (·.1)).map MV.int).length = ps.length := by rw [List.length_map, List.length_map]
  have lY : ((ps.map (·.2)).map MV.int).length = ps.length := by rw [List.length_map, List.length_map]
  have lc (nb : ∀ b ∈ ps.map (·.1) ++ ps.map (·.2), noneB w f b = false) : lcL false (.tup [4, 5]) (zipS (.ref 0) (.ref 1)) (ps.map fun p => MV.tup [.int p.1, .int p.2]) (evE p.T (run p.T p.fs (n + 7)) (.call 33 (.cons (.var 0) (.cons (.var 4) (.cons (.var 5) .nil))))) [some (.tup [.int w, .int f]), some (.str (wayN k)), some (.ref 0), some (.ref 1), none, none] K (ps.map fun p => MV.tup [.int p.1, .int p.2]) [] = .ok (.lst ((ps.map fun p => prT (tmOf w f p.1) (tmOf w f p.2)).map tmMV)) K := by
    have em : (ps.map fun p => prT (tmOf w f p.1) (tmOf w f p.2)).map tmMV = ps.map (tmMV ∘ fun p => prT (tmOf w f p.1) (tmOf w f p.2)) := List.map_map ..
    rw [em]
    refine lcL_map (tg := .tup [4, 5]) (src := zipS (.ref 0) (.ref 1)) (e := [some (.tup [.int w, .int f]), some (.str (wayN k)), some (.ref 0), some (.ref 1), none, none]) ps (fun p => MV.tup [.int p.1, .int p.2]) (tmMV ∘ fun p => prT (tmOf w f p.1) (tmOf w f p.2)) (fun acc => by rw [← zz, ← hK]; rfl) (by omega) fun q hm => ⟨[some (.tup [.int w, .int f]), some (.str (wayN k)), some (.ref 0), some (.ref 1), some (.int q.1), some (.int q.2)], rfl, fun H => ?_, low_tmMV _ _⟩
    have := s_product_term w f hw2 hw hf (n + 2) H (hb q hm).1.1 (hb q hm).1.2 (hb q hm).2.1 (hb q hm).2.2 (nb _ (List.mem_append.mpr (.inl (List.mem_map.mpr ⟨q, hm, rfl⟩)))) (nb _ (List.mem_append.mpr (.inr (List.mem_map.mpr ⟨q, hm, rfl⟩))))
    simp [this]
  obtain ⟨X, hX⟩ : ∃ X, (ps.map (·.1)).map MV.int = X := ⟨_, rfl⟩
  obtain ⟨Y, hY⟩ : ∃ Y, (ps.map (·.2)).map MV.int = Y := ⟨_, rfl⟩
  obtain ⟨Z, hZ⟩ : ∃ Z, (ps.map fun p => MV.tup [.int p.1, .int p.2]) = Z := ⟨_, rfl⟩
  rw [hX] at kk lX lnX adk
  rw [hY] at kk lY lnY adk
  rw [hZ] at zk lc
  have ll : X.length + Y.length ≤ 16777216 := by omega
  have ll' : ps.length + ps.length ≤ 16777216 := by omega
  rw [run_eq (F := fn35) rfl rfl]
  unfold gatP
  by_cases hN : (ps.map (·.1) ++ ps.map (·.2)).any (noneB w f) = true
  · rw [hN] at kn
    rw [if_pos hN]
    unfold noN
    simp -implicitDefEqProofs [fn35, wo, lnX, lnY, adk, zk, lX, lY, ll', kk, kn, nn]
  · have hN' : (ps.map (·.1) ++ ps.map (·.2)).any (noneB w f) = false := by
      cases q : (ps.map (·.1) ++ ps.map (·.2)).any (noneB w f)
      · rfl
      · exact absurd q hN
    rw [hN'] at kn
    rw [if_neg hN]
    have lc := lc (none_all hN)
    have ss := stp_s hw hf
    have sm := s_sumP w f hw2 hw hf1 hf k hk (stp0 w f + stp0 w f) (by omega) (by omega) (v := .lst ((ps.map fun p => prT (tmOf w f p.1) (tmOf w f p.2)).map tmMV)) (ts := ps.map fun p => prT (tmOf w f p.1) (tmOf w f p.2)) (by simpa using hl) (by
      intro t ht
      obtain ⟨q, hm, rfl⟩ := List.mem_map.mp ht
      exact prT_ok hw2 hw hf (hb q hm).1.1 (hb q hm).1.2 (hb q hm).2.1 (hb q hm).2.2) n (h := K) (fun g => rfl)
    obtain ⟨TM, hTM⟩ : ∃ TM, (ps.map fun p => prT (tmOf w f p.1) (tmOf w f p.2)).map tmMV = TM := ⟨_, rfl⟩
    rw [hTM] at lc sm
    simp -implicitDefEqProofs [fn35, wo, lnX, lnY, adk, zk, lX, lY, ll', kk, kn, lc, sm]
end
end Pg

namespace Pg
open PySem L2 Rm
open PySem.Builtin.Int (intBits)
/-! the finite numbers of a law's row -/
def mxJ (a b : Int) : Int := if b > a then b else a
def mnJ (a b : Int) : Int := if b < a then b else a
theorem biV_mxJ (h : HP) (a b : Int) : biV h .max2 [.int a, .int b] = some (.int (mxJ a b)) := id rfl
theorem biV_mnJ (h : HP) (a b : Int) : biV h .min2 [.int a, .int b] = some (.int (mnJ a b)) := id rfl
theorem mxJ_b (a b : Int) : a ≤ mxJ a b ∧ b ≤ mxJ a b ∧ (mxJ a b = a ∨ mxJ a b = b) := by unfold mxJ; split <;> omega
theorem mnJ_b (a b : Int) : mnJ a b ≤ a ∧ mnJ a b ≤ b ∧ (mnJ a b = a ∨ mnJ a b = b) := by unfold mnJ; split <;> omega
theorem fin_c {H E S b : Int} (r : Int) (h : S = 0 ∨ S = H) (hb : b = S + r) (r0 : 0 ≤ r) (r1 : r < E) (EH : E < H) : 0 ≤ b ∧ b < 2 * H ∧ b % H < E := by
  rcases h with z | z
  · have : b % H = r := by rw [hb, z, Int.zero_add]; exact Int.emod_eq_of_lt r0 (by omega)
    omega
  · have : b % H = r := by rw [hb, z, Int.add_emod_left]; exact Int.emod_eq_of_lt r0 (by omega)
    omega
theorem s_finby (w f : Nat) (hw2 : 2 ≤ w) (hw : w ≤ 15) (hf1 : 1 ≤ f) (hf : f ≤ 112) {c : Int} (hc : intBits c ≤ 1048576) :
    ∃ b : Int, 0 ≤ b ∧ b < 2 ^ (w + f + 1) ∧ b % 2 ^ (w + f) < 2 ^ (w + f) - 2 ^ f ∧ ∀ (n : Nat) (h : HP), run p.T p.fs (n + 1) 42 [.tup [.int w, .int f], .int c] h = .ok (.int b) h := by
  have d1 := dvB_small (a := c) (b := 6) (by decide) (by decide)
  obtain ⟨q, hq⟩ : ∃ q : Int, c / 6 = q := ⟨_, rfl⟩
  obtain ⟨W, hW⟩ : ∃ q : Int, c % 6 = q := ⟨_, rfl⟩
  have qb : intBits q ≤ 1048576 := by rw [← hq]; exact intBits_le_of_natAbs (by omega) hc
  have d2 := dvB_small (a := q) (b := 2) (by decide) (by decide)
  have d8 := dvB_small (a := q / 2) (b := 8) (by decide) (by decide)
  have mb := mulB_of (a := q) (b := 73846150927364518273645509182736455091829) qb (show _ ≤ 200 by decide) (by omega)
  have mb8 := mulB_of (a := q / 2 / 8) (b := 73846150927364518273645509182736455091829) (intBits_le_of_natAbs (y := q) (by omega) qb) (show _ ≤ 200 by decide) (by omega)
  have hv := p2 (w - 1)
  have eW : (2 : Int) ^ w = 2 * 2 ^ (w - 1) := by rw [← pow_s, Nat.sub_add_cancel (by omega)]
  have hw' : 2 ≤ (2 : Int) ^ (w - 1) := by have := two_le_pow (show 1 ≤ w - 1 by omega); simpa using this
  have hwT := two_le_pow (show w - 1 ≤ 14 by omega)
  have e14 : (2 : Int) ^ 14 = 16384 := rfl
  have pf := p2 f
  have f2 : 2 ≤ (2 : Int) ^ f := by have := two_le_pow hf1; simpa using this
  have eH : (2 : Int) ^ (w + f) = 2 ^ w * 2 ^ f := Int.pow_add ..
  have eT : (2 : Int) ^ (w + f + 1) = 2 * 2 ^ (w + f) := pow_s _
  have s0 := shlB_one (b := (w : Int) + (f : Int)) (by omega) (by omega)
  have s1 := shlB_one (b := (w : Int)) (by omega) (by omega)
  have s2 := shlB_one (b := (f : Int)) (by omega) (by omega)
  have s4 := shlB_one (b := (w : Int) - 1) (by omega) (by omega)
  have s6 : shlB (2 ^ (w - 1) - 1) (f : Int) = true := shlB_of (m := 16) (ib_lt (by omega) (by have : (2 : Int) ^ 16 = 65536 := rfl; omega)) (by omega) (by omega)
  have E3 : 3 * (2 : Int) ^ f ≤ 2 ^ (w + f) - 2 ^ f := by
    rw [eH, eW]
    have : 4 * (2 : Int) ^ f ≤ 2 * 2 ^ (w - 1) * 2 ^ f := Int.mul_le_mul_of_nonneg_right (by omega) (by omega)
    omega
  have eM : (2 : Int) ^ (w - 1) * 2 ^ f * 2 = 2 ^ (w + f) := by rw [eH, eW, Int.mul_assoc, Int.mul_comm (2 ^ f) 2, ← Int.mul_assoc, Int.mul_comm (2 ^ (w - 1)) 2]
  have lo : 2 * (2 : Int) ^ f ≤ 2 ^ (w - 1) * 2 ^ f := Int.mul_le_mul_of_nonneg_right hw' (by omega)
  have x6 : (2 ^ (w - 1) - 1) * (2 : Int) ^ f = 2 ^ (w - 1) * 2 ^ f - 2 ^ f := by rw [Int.sub_mul, Int.one_mul]
  have ms : mulB (q % 2) (2 ^ (w + f)) = true := mulB_left (ib_mono (ib_lt (n := 1) (by omega) (by omega)) (by decide))
  have hs : q % 2 * 2 ^ (w + f) = 0 ∨ q % 2 * 2 ^ (w + f) = 2 ^ (w + f) := by
    rcases (show q % 2 = 0 ∨ q % 2 = 1 by omega) with z | z <;> rw [z]
    · exact .inl (Int.zero_mul _)
    · exact .inr (Int.one_mul _)
  obtain ⟨E, hE⟩ : ∃ E : Int, 2 ^ (w + f) - 2 ^ f = E := ⟨_, rfl⟩
  have EH : E < 2 ^ (w + f) := by omega
  rw [hE] at E3 ⊢
  rw [eT]
  rcases (show W < 2 ∨ W = 2 ∨ W = 3 ∨ W = 4 ∨ W = 5 by omega) with z | z | z | z | z
  · have E0 : 0 < 2 * E := by omega
    have E0' : 0 < E := by omega
    have m2E : mulB 2 E = true := mulB_left (by decide)
    have x0 := Int.emod_nonneg (q * 73846150927364518273645509182736455091829) (show 2 * E ≠ 0 by omega)
    have x1 := Int.emod_lt_of_pos (q * 73846150927364518273645509182736455091829) E0
    obtain ⟨m, hm⟩ : ∃ m : Int, q * 73846150927364518273645509182736455091829 % (2 * E) = m := ⟨_, rfl⟩
    rw [hm] at x0 x1
    have dE : dvB m E = true := dvB_bits E0' (ib_lt (n := w + f) (by omega) EH) (by omega)
    have g0 := Int.ediv_nonneg x0 (Int.le_of_lt E0')
    have g1 : m / E < 2 := (Int.ediv_lt_iff_lt_mul E0').mpr x1
    have r0 := Int.emod_nonneg m (show E ≠ 0 by omega)
    have r1 := Int.emod_lt_of_pos m E0'
    obtain ⟨g, hg⟩ : ∃ g, m / E = g := ⟨_, rfl⟩
    rw [hg] at g0 g1
    have g01 : g = 0 ∨ g = 1 := by omega
    have mg : mulB g (2 ^ (w + f)) = true := mulB_left (by rcases g01 with y | y <;> rw [y] <;> decide)
    have hg2 : g * 2 ^ (w + f) = 0 ∨ g * 2 ^ (w + f) = 2 ^ (w + f) := by
      rcases g01 with y | y <;> rw [y]
      · exact .inl (Int.zero_mul _)
      · exact .inr (Int.one_mul _)
    obtain ⟨b0, b1, b2⟩ := fin_c (m % E) hg2 rfl r0 r1 EH
    refine ⟨_, b0, b1, b2, fun n h => ?_⟩
    rw [run_eq (F := fn42) rfl rfl]
    simp -implicitDefEqProofs [fn42, s0, s2, hE, d1, hq, hW, z, mb, m2E, E0, hm, dE, hg, mg, E0']
  · obtain ⟨b0, b1, b2⟩ := fin_c (q / 2 % 6) hs rfl (by omega) (show _ < E by omega) EH
    refine ⟨_, b0, b1, b2, fun n h => ?_⟩
    rw [run_eq (F := fn42) rfl rfl]
    simp -implicitDefEqProofs [fn42, s0, s2, hE, d1, hq, hW, z, d2, ms]
  · obtain ⟨b0, b1, b2⟩ := fin_c (b := q % 2 * 2 ^ (w + f) + E - 1 - q / 2 % 4) (E - 1 - q / 2 % 4) hs (by omega) (by omega) (show _ < E by omega) EH
    refine ⟨_, b0, b1, b2, fun n h => ?_⟩
    rw [run_eq (F := fn42) rfl rfl]
    simp -implicitDefEqProofs [fn42, s0, s2, hE, d1, hq, hW, z, d2, ms]
  · obtain ⟨b0, b1, b2⟩ := fin_c (b := q % 2 * 2 ^ (w + f) + (2 ^ (w - 1) - 1) * 2 ^ f - 2 + q / 2 % 5) ((2 ^ (w - 1) - 1) * 2 ^ f - 2 + q / 2 % 5) hs (by omega) (by rw [x6]; omega) (show _ < E by rw [x6]; omega) EH
    refine ⟨_, b0, b1, b2, fun n h => ?_⟩
    rw [run_eq (F := fn42) rfl rfl]
    simp -implicitDefEqProofs [fn42, s0, s2, s4, s6, hE, d1, hq, hW, z, d2, ms]
  · obtain ⟨Fi, hFi⟩ : ∃ F : Int, mxJ 0 (mnJ (2 ^ w - 2) (2 ^ (w - 1) - 1 - 3 + q / 2 % 8)) = F := ⟨_, rfl⟩
    have b1 := mxJ_b 0 (mnJ (2 ^ w - 2) (2 ^ (w - 1) - 1 - 3 + q / 2 % 8))
    have b2 := mnJ_b (2 ^ w - 2) (2 ^ (w - 1) - 1 - 3 + q / 2 % 8)
    rw [hFi] at b1
    have F0 : 0 ≤ Fi := by omega
    have F1 : Fi ≤ 2 ^ w - 2 := by omega
    have fg := mn (q / 2 / 8 * 73846150927364518273645509182736455091829) f
    obtain ⟨g, hg⟩ : ∃ g : Int, q / 2 / 8 * 73846150927364518273645509182736455091829 % 2 ^ f = g := ⟨_, rfl⟩
    rw [hg] at fg
    have q1 : Fi * 2 ^ f ≤ (2 ^ w - 2) * 2 ^ f := Int.mul_le_mul_of_nonneg_right F1 (by omega)
    have q0 : 0 ≤ Fi * 2 ^ f := Int.mul_nonneg F0 (by omega)
    have q2 : (2 ^ w - 2) * (2 : Int) ^ f = 2 ^ (w + f) - 2 * 2 ^ f := by rw [Int.sub_mul, ← eH]
    have sF : shlB Fi (f : Int) = true := shlB_of (m := 20) (ib_lt F0 (by have : (2 : Int) ^ 20 = 1048576 := rfl; omega)) (by omega) (by omega)
    obtain ⟨b0, b1, b2⟩ := fin_c (b := q % 2 * 2 ^ (w + f) + Fi * 2 ^ f + g) (Fi * 2 ^ f + g) hs (by omega) (by omega) (show _ < E by omega) EH
    refine ⟨_, b0, b1, b2, fun n h => ?_⟩
    rw [run_eq (F := fn42) rfl rfl]
    simp -implicitDefEqProofs [fn42, -biV_max2, -biV_min2, biV_mxJ, biV_mnJ, s0, s1, s2, s4, hE, d1, hq, hW, z, d2, d8, ms, mb8, hFi, hg, sF]
end Pg

namespace Pg
open PySem L2 Rm
open PySem.Builtin.Int (intBits)
/-! the finite rows of k36, k37 -/
abbrev okF (w f : Nat) (b : Int) : Prop := 0 ≤ b ∧ b < 2 ^ (w + f + 1) ∧ b % 2 ^ (w + f) < 2 ^ (w + f) - 2 ^ f
theorem neg_ok {w f : Nat} {b : Int} (h : okF w f b) : okF w f ((b + 2 ^ (w + f)) % (2 * 2 ^ (w + f))) := by
  have H0 := p2 (w + f)
  have eT : (2 : Int) ^ (w + f + 1) = 2 * 2 ^ (w + f) := pow_s _
  obtain ⟨h0, h1, h2⟩ := h
  have m0 := Int.emod_nonneg (b + 2 ^ (w + f)) (show 2 * (2 : Int) ^ (w + f) ≠ 0 by omega)
  have m1 := Int.emod_lt_of_pos (b + 2 ^ (w + f)) (show 0 < 2 * (2 : Int) ^ (w + f) by omega)
  refine ⟨m0, by omega, ?_⟩
  have e : (b + 2 ^ (w + f)) % (2 * 2 ^ (w + f)) % 2 ^ (w + f) = b % 2 ^ (w + f) := by
    rw [Int.emod_emod_of_dvd _ (Int.dvd_mul_left _ _), Int.add_emod_right]
  rw [e]; exact h2
section
variable (w f : Nat) (hw2 : 2 ≤ w) (hw : w ≤ 15) (hf1 : 1 ≤ f) (hf : f ≤ 112)
include hw2 hw hf1 hf
theorem fin_fun : ∃ g : Int → Int, ∀ c, intBits c ≤ 1048576 → okF w f (g c) ∧ ∀ (n : Nat) (h : HP), run p.T p.fs (n + 1) 42 [.tup [.int w, .int f], .int c] h = .ok (.int (g c)) h := by
  have key : ∀ c : Int, ∃ b : Int, intBits c ≤ 1048576 → okF w f b ∧ ∀ (n : Nat) (h : HP), run p.T p.fs (n + 1) 42 [.tup [.int w, .int f], .int c] h = .ok (.int b) h := by
    intro c
    by_cases hc : intBits c ≤ 1048576
    · obtain ⟨b, b0, b1, b2, e⟩ := s_finby w f hw2 hw hf1 hf hc
      exact ⟨b, fun _ => ⟨⟨b0, b1, b2⟩, e⟩⟩
    · exact ⟨0, fun q => absurd q hc⟩
  obtain ⟨g, hg⟩ := Classical.axiomOfChoice key
  exact ⟨g, hg⟩
end
/-! the two rows -/
abbrev okQ (w f : Nat) (q : Int × Int) : Prop := okF w f q.1 ∧ okF w f q.2
theorem ap0 (A B : List MV) (x : MV) (hA : A.length < 16777216) : appV [.lst A, .lst B] (.ref 0) x = some [.lst (A ++ [x]), .lst B] := by
  show (if A.length < sz then some [MO.lst (A ++ [x]), .lst B] else none) = _
  exact if_pos (show A.length < sz from hA)
theorem ap1 (A B : List MV) (x : MV) (hB : B.length < 16777216) : appV [.lst A, .lst B] (.ref 1) x = some [.lst A, .lst (B ++ [x])] := by
  show (if B.length < sz then some [MO.lst A, .lst (B ++ [x])] else none) = _
  exact if_pos (show B.length < sz from hB)
def turnQ (w f : Nat) (q : Int × Int) : Int × Int := (q.2, (q.1 + 2 ^ (w + f)) % (2 * 2 ^ (w + f)))
theorem rows_loop (w f : Nat) (C : Nat → List MV → HP → R MV) {src : HP → Option (List MV)} {all : List MV} (hs : ∀ h, src h = some all) (v0 v1 v4 : Option MV) (pl sp : Int) (hsp : 1 ≤ sp) : ∀ (ks : List Nat) (ps : List (Int × Int)) (x8 : Option MV), (∀ k ∈ ks, k < ps.length) → (∀ q ∈ ps, okQ w f q) → ps.length + ks.length ≤ 200 →
    ∃ (ps' : List (Int × Int)) (y8 : Option MV), forL (.one 8) src all (exSs p.T C w43_0) (ks.map fun (i : Nat) => MV.int (0 + (i : Int))) [v0, v1, some (.int pl), some (.int (2 ^ (w + f))), v4, some (.ref 0), some (.ref 1), some (.int sp), x8] [.lst ((ps.map (·.1)).map .int), .lst ((ps.map (·.2)).map .int)] =
      .nx [v0, v1, some (.int pl), some (.int (2 ^ (w + f))), v4, some (.ref 0), some (.ref 1), some (.int sp), y8] [.lst ((ps'.map (·.1)).map .int), .lst ((ps'.map (·.2)).map .int)] ∧ (∀ q ∈ ps', okQ w f q) ∧ ps'.length ≤ 200 ∧ ps'.length ≤ ps.length + ks.length
  | [], ps, x8, _, ok, hl => ⟨ps, x8, by rw [List.map_nil, forL, if_pos (hs _)], ok, by simpa using hl, by simp⟩
  | k :: ks, ps, x8, hk, ok, hl => by
    rw [List.length_cons] at hl
    have kl := hk k (List.mem_cons_self ..)
    have sp0 : 0 < sp := by omega
    have sg : setG (.one 8) (.int (0 + (k : Int))) [v0, v1, some (.int pl), some (.int (2 ^ (w + f))), v4, some (.ref 0), some (.ref 1), some (.int sp), x8] = some [v0, v1, some (.int pl), some (.int (2 ^ (w + f))), v4, some (.ref 0), some (.ref 1), some (.int sp), some (.int (0 + (k : Int)))] := rfl
    rw [List.map_cons]
    by_cases c1 : 0 < pl % 3 ∧ (sp = 1 ∨ ¬ (k : Int) % sp = 0)
    · have oq := ok ps[k] (List.getElem_mem kl)
      have on := neg_ok oq.1
      have m2 : mulB 2 (2 ^ (w + f)) = true := mulB_left (by decide)
      have H2 : 0 < 2 * (2 : Int) ^ (w + f) := by have := p2 (w + f); omega
      obtain ⟨ps', y8, e, o', l'⟩ := rows_loop w f C hs v0 v1 v4 pl sp hsp ks (ps ++ [turnQ w f ps[k]]) (some (.int (0 + (k : Int)))) (fun u hu => by have := hk u (List.mem_cons_of_mem _ hu); rw [List.length_append]; omega) (fun q hq => by
        rcases List.mem_append.mp hq with z | z
        · exact ok q z
        · rw [List.mem_singleton.mp z]; exact ⟨oq.2, on⟩) (by rw [List.length_append, List.length_singleton]; omega)
      refine ⟨ps', y8, ?_, o', l'.1, by have := l'.2; rw [List.length_append, List.length_singleton] at this; rw [List.length_cons]; omega⟩
      have lx : ((ps.map (·.1)).map MV.int).length = ps.length := by rw [List.length_map, List.length_map]
      have ly : ((ps.map (·.2)).map MV.int).length = ps.length := by rw [List.length_map, List.length_map]
      have a1 : atI ((ps.map (·.2)).map MV.int) (k : Int) = some (.int ps[k].2) := by
        rw [atI_nat (k := k) rfl (by rw [ly]; exact kl), List.getElem_map, List.getElem_map]
      have a2 : atI ((ps.map (·.1)).map MV.int ++ [.int ps[k].2]) (k : Int) = some (.int ps[k].1) := by
        rw [atI_nat (k := k) rfl (by rw [List.length_append, lx]; omega), List.getElem_append_left (by rw [lx]; exact kl), List.getElem_map, List.getElem_map]
      have p1 := ap0 ((ps.map (·.1)).map MV.int) ((ps.map (·.2)).map MV.int) (.int ps[k].2) (by rw [lx]; omega)
      have p2' := ap1 ((ps.map (·.1)).map MV.int ++ [.int ps[k].2]) ((ps.map (·.2)).map MV.int) (.int ((ps[k].1 + 2 ^ (w + f)) % (2 * 2 ^ (w + f)))) (by rw [ly]; omega)
      have e1 : ((ps ++ [turnQ w f ps[k]]).map (·.1)).map MV.int = (ps.map (·.1)).map MV.int ++ [.int ps[k].2] := by rw [List.map_append, List.map_append]; rfl
      have e2 : ((ps ++ [turnQ w f ps[k]]).map (·.2)).map MV.int = (ps.map (·.2)).map MV.int ++ [.int ((ps[k].1 + 2 ^ (w + f)) % (2 * 2 ^ (w + f)))] := by rw [List.map_append, List.map_append]; rfl
      rw [e1, e2] at e
      obtain ⟨x, hx⟩ : ∃ x, ps[k].1 = x := ⟨_, rfl⟩
      obtain ⟨y, hy⟩ : ∃ x, ps[k].2 = x := ⟨_, rfl⟩
      rw [hx, hy] at e
      rw [hy] at a1 p1
      rw [hx, hy] at a2 p2'
      obtain ⟨X, hX⟩ : ∃ X, (ps.map (·.1)).map MV.int = X := ⟨_, rfl⟩
      obtain ⟨Y, hY⟩ : ∃ Y, (ps.map (·.2)).map MV.int = Y := ⟨_, rfl⟩
      rw [hX, hY] at e p1 p2' ⊢
      rw [hY] at a1
      rw [hX] at a2
      have ix1 : idxV [.lst X, .lst Y] (.ref 1) (.int (k : Int)) = some (.int y) := a1
      have ix2 : idxV [.lst (X ++ [.int y]), .lst Y] (.ref 0) (.int (k : Int)) = some (.int x) := a2
      have ic0 : isCell [.lst X, .lst Y] (.ref 0) = true := rfl
      have ic1 : isCell [.lst (X ++ [.int y]), .lst Y] (.ref 1) = true := rfl
      obtain ⟨K0, hK0⟩ : ∃ K, [MO.lst X, .lst Y] = K := ⟨_, rfl⟩
      obtain ⟨K1, hK1⟩ : ∃ K, [MO.lst (X ++ [.int y]), .lst Y] = K := ⟨_, rfl⟩
      obtain ⟨K2, hK2⟩ : ∃ K, [MO.lst (X ++ [.int y]), .lst (Y ++ [.int ((x + 2 ^ (w + f)) % (2 * 2 ^ (w + f)))])] = K := ⟨_, rfl⟩
      rw [hK0] at p1 ix1 ic0
      rw [hK1] at p1 p2' ix2 ic1
      rw [hK2] at p2' e
      rw [hK0]
      have body : exSs p.T C w43_0 [v0, v1, some (.int pl), some (.int (2 ^ (w + f))), v4, some (.ref 0), some (.ref 1), some (.int sp), some (.int (0 + (k : Int)))] K0 = .nx [v0, v1, some (.int pl), some (.int (2 ^ (w + f))), v4, some (.ref 0), some (.ref 1), some (.int sp), some (.int (0 + (k : Int)))] K2 := by
        rcases c1.2 with y | y
        · subst y
          simp -implicitDefEqProofs [c1.1, ix1, ix2, ic0, ic1, p1, p2', m2, H2]
        · simp -implicitDefEqProofs [c1.1, y, sp0, ix1, ix2, ic0, ic1, p1, p2', m2, H2]
      rw [forL_step (hs _) sg body]
      exact e
    · obtain ⟨ps', y8, e, o', l'⟩ := rows_loop w f C hs v0 v1 v4 pl sp hsp ks ps (some (.int (0 + (k : Int)))) (fun u hu => hk u (List.mem_cons_of_mem _ hu)) ok (by omega)
      refine ⟨ps', y8, ?_, o', l'.1, by have := l'.2; rw [List.length_cons]; omega⟩
      obtain ⟨K0, hK0⟩ : ∃ K, [MO.lst ((ps.map (·.1)).map MV.int), .lst ((ps.map (·.2)).map .int)] = K := ⟨_, rfl⟩
      rw [hK0] at e ⊢
      have body : exSs p.T C w43_0 [v0, v1, some (.int pl), some (.int (2 ^ (w + f))), v4, some (.ref 0), some (.ref 1), some (.int sp), some (.int (0 + (k : Int)))] K0 = .nx [v0, v1, some (.int pl), some (.int (2 ^ (w + f))), v4, some (.ref 0), some (.ref 1), some (.int sp), some (.int (0 + (k : Int)))] K0 := by
        by_cases y : 0 < pl % 3
        · have y2 : ¬ (sp = 1 ∨ ¬ (k : Int) % sp = 0) := fun q => c1 ⟨y, q⟩
          have y3 : ¬ sp = 1 := fun q => y2 (.inl q)
          have y4 : (k : Int) % sp = 0 := by
            rcases Int.decEq ((k : Int) % sp) 0 with q | q
            · exact absurd (.inr q) y2
            · exact q
          simp -implicitDefEqProofs [y, y3, y4, sp0]
        · simp -implicitDefEqProofs [y]
      rw [forL_step (hs _) sg body]
      exact e
theorem cut200 (L : List Int) : cutM (L.map MV.int) none (some 200) = (L.take 200).map MV.int := by
  unfold cutM
  rw [show (200 : Int) = ((200 : Nat) : Int) from rfl, HT.sIx_none, HT.sIx_nat, List.length_map, List.drop_zero, Nat.sub_zero, List.map_take, Nat.min_comm]
  rw [List.take_eq_take_iff, List.length_map]; omega
theorem s_rowsby (w f : Nat) (hw2 : 2 ≤ w) (hw : w ≤ 15) (hf1 : 1 ≤ f) (hf : f ≤ 112) (n : Nat) {cs : List Int} (hc : ∀ c ∈ cs, intBits c ≤ 1048576) (hl : cs.length ≤ 63) (pl : Int) :
    ∃ ps : List (Int × Int), (∀ q ∈ ps, okQ w f q) ∧ ps.length ≤ 200 ∧ (cs.length < 2 → ps.length = 0) ∧ run p.T p.fs (n + 2) 43 [.tup [.int w, .int f], .lst (cs.map .int), .int pl] [] = .ok (.tup [.lst ((ps.map (·.1)).map .int), .lst ((ps.map (·.2)).map .int)]) [] := by
  obtain ⟨g, hg⟩ := fin_fun w f hw2 hw hf1 hf
  obtain ⟨m, hm⟩ : ∃ m : Nat, cs.length / 2 = m := ⟨_, rfl⟩
  have s0 := shlB_one (b := (w : Int) + (f : Int)) (by omega) (by omega)
  have d3 := dvB_small (a := pl) (b := 3) (by decide) (by decide)
  have d15 := dvB_small (a := pl) (b := 15) (by decide) (by decide)
  have d30 := dvB_small (a := pl) (b := 30) (by decide) (by decide)
  have eM : (cs.length : Int) / 2 = (m : Int) := by omega
  have dl := dvB_small (a := (cs.length : Int)) (b := 2) (by decide) (by decide)
  have lr : ((List.range m).map fun (i : Nat) => MV.int (0 + (i : Int))).length = m := by simp
  have at0 : ∀ j : Nat, j < cs.length → atI (cs.map MV.int) (j : Int) = some (.int (cs.getD j 0)) := by
    intro j hj
    rw [atI_nat (k := j) rfl (by rw [List.length_map]; exact hj), List.getElem_map, List.getD_eq_getElem?_getD, List.getElem?_eq_getElem hj]; rfl
  have cm : ∀ j : Nat, j < cs.length → cs.getD j 0 ∈ cs := by
    intro j hj
    rw [List.getD_eq_getElem?_getD, List.getElem?_eq_getElem hj]; exact List.getElem_mem _
  obtain ⟨X0, hX0⟩ : ∃ X, (List.range m).map (fun i => g (cs.getD (2 * i) 0)) = X := ⟨_, rfl⟩
  obtain ⟨Y0, hY0⟩ : ∃ X, (List.range m).map (fun i => g (cs.getD (2 * i + 1) 0)) = X := ⟨_, rfl⟩
  have l1 : lcL true (.one 8) (fun _ => some ((List.range m).map fun (i : Nat) => MV.int (0 + (i : Int)))) ((List.range m).map fun (i : Nat) => MV.int (0 + (i : Int))) (evE p.T (run p.T p.fs (n + 1)) (.call 42 (.cons (.var 0) (.cons (.idx (.var 1) (.bin .mul (.cI 2) (.var 8))) .nil)))) [some (.tup [.int w, .int f]), some (.lst (cs.map .int)), some (.int pl), some (.int (2 ^ (w + f))), some (.int m), none, none, none, none] [] ((List.range m).map fun (i : Nat) => MV.int (0 + (i : Int))) [] = .ok (.ref 0) [.lst (X0.map .int)] := by
    have em : X0.map MV.int = (List.range m).map (MV.int ∘ fun i => g (cs.getD (2 * i) 0)) := by rw [← hX0, List.map_map]
    rw [em]
    exact (lcL_mapC true (List.range m) (fun (i : Nat) => MV.int (0 + (i : Int))) (MV.int ∘ fun i => g (cs.getD (2 * i) 0)) (fun acc => rfl) (by simp; omega) fun i hi => ⟨[some (.tup [.int w, .int f]), some (.lst (cs.map .int)), some (.int pl), some (.int (2 ^ (w + f))), some (.int m), none, none, none, some (.int (0 + (i : Int)))], rfl, fun H => by
      have hi := List.mem_range.1 hi
      have m2 : mulB 2 (i : Int) = true := mulB_left (by decide)
      have a := at0 (2 * i) (by omega)
      rw [show ((2 * i : Nat) : Int) = 2 * (i : Int) by omega] at a
      have e := (hg _ (hc _ (cm (2 * i) (by omega)))).2 n H
      obtain ⟨CS, hCS⟩ : ∃ CS, cs.map MV.int = CS := ⟨_, rfl⟩
      rw [hCS] at a ⊢
      obtain ⟨z, hz⟩ : ∃ z, cs.getD (2 * i) 0 = z := ⟨_, rfl⟩
      rw [hz] at a e
      simp -implicitDefEqProofs [m2, a, e]
      rw [← hz, List.getD_eq_getElem?_getD], by simp⟩).trans rfl
  have l2 : lcL true (.one 8) (fun _ => some ((List.range m).map fun (i : Nat) => MV.int (0 + (i : Int)))) ((List.range m).map fun (i : Nat) => MV.int (0 + (i : Int))) (evE p.T (run p.T p.fs (n + 1)) (.call 42 (.cons (.var 0) (.cons (.idx (.var 1) (.bin .add (.bin .mul (.cI 2) (.var 8)) (.cI 1))) .nil)))) [some (.tup [.int w, .int f]), some (.lst (cs.map .int)), some (.int pl), some (.int (2 ^ (w + f))), some (.int m), some (.ref 0), none, none, none] [.lst (X0.map .int)] ((List.range m).map fun (i : Nat) => MV.int (0 + (i : Int))) [] = .ok (.ref 1) [.lst (X0.map .int), .lst (Y0.map .int)] := by
    have em : Y0.map MV.int = (List.range m).map (MV.int ∘ fun i => g (cs.getD (2 * i + 1) 0)) := by rw [← hY0, List.map_map]
    rw [em]
    exact (lcL_mapC true (List.range m) (fun (i : Nat) => MV.int (0 + (i : Int))) (MV.int ∘ fun i => g (cs.getD (2 * i + 1) 0)) (fun acc => rfl) (by simp; omega) fun i hi => ⟨[some (.tup [.int w, .int f]), some (.lst (cs.map .int)), some (.int pl), some (.int (2 ^ (w + f))), some (.int m), some (.ref 0), none, none, some (.int (0 + (i : Int)))], rfl, fun H => by
      have hi := List.mem_range.1 hi
      have m2 : mulB 2 (i : Int) = true := mulB_left (by decide)
      have a := at0 (2 * i + 1) (by omega)
      rw [show ((2 * i + 1 : Nat) : Int) = 2 * (i : Int) + 1 by omega] at a
      have e := (hg _ (hc _ (cm (2 * i + 1) (by omega)))).2 n H
      obtain ⟨CS, hCS⟩ : ∃ CS, cs.map MV.int = CS := ⟨_, rfl⟩
      rw [hCS] at a ⊢
      obtain ⟨z, hz⟩ : ∃ z, cs.getD (2 * i + 1) 0 = z := ⟨_, rfl⟩
      rw [hz] at a e
      simp -implicitDefEqProofs [m2, a, e]
      rw [← hz, List.getD_eq_getElem?_getD], by simp⟩).trans rfl
  obtain ⟨sp, hsp⟩ : ∃ s : Int, 1 + pl / 3 % 5 = s := ⟨_, rfl⟩
  have rg := fun H : HP => rng1M_ok (j := (m : Int)) (by omega) (by omega) H
  have jn : ((m : Int)).toNat = m := by omega
  rw [jn] at rg
  obtain ⟨ps0, hps0⟩ : ∃ ps, (List.range m).map (fun i => (g (cs.getD (2 * i) 0), g (cs.getD (2 * i + 1) 0))) = ps := ⟨_, rfl⟩
  have f1 : ps0.map (·.1) = X0 := by rw [← hps0, ← hX0, List.map_map]; rfl
  have f2 : ps0.map (·.2) = Y0 := by rw [← hps0, ← hY0, List.map_map]; rfl
  have ok0 : ∀ q ∈ ps0, okQ w f q := by
    intro q hq
    rw [← hps0] at hq
    obtain ⟨i, hi, rfl⟩ := List.mem_map.1 hq
    have hi := List.mem_range.1 hi
    exact ⟨(hg _ (hc _ (cm (2 * i) (by omega)))).1, (hg _ (hc _ (cm (2 * i + 1) (by omega)))).1⟩
  have lp0 : ps0.length = m := by rw [← hps0]; simp
  obtain ⟨ps, y8, lp, ok, pll, pl0⟩ := rows_loop w f (run p.T p.fs (n + 1)) (src := fun _ => some ((List.range m).map fun (i : Nat) => MV.int (0 + (i : Int)))) (all := (List.range m).map fun (i : Nat) => MV.int (0 + (i : Int))) (fun _ => rfl) (some (.tup [.int w, .int f])) (some (.lst (cs.map .int))) (some (.int m)) pl sp (by omega) (List.range m) ps0 none (fun u hu => by rw [lp0]; exact List.mem_range.mp hu) ok0 (by rw [lp0, List.length_range]; omega)
  rw [f1, f2] at lp
  obtain ⟨t, ht⟩ : ∃ t : Nat, 1 + pl / 30 % 3 = t := ⟨(1 + pl / 30 % 3).toNat, by omega⟩
  have t3 : t ≤ 3 := by omega
  have tn : ((t : Int)).toNat = t := by omega
  have mul : ∀ (H : HP) (i : Nat) (L : List Int), getL H (.ref i) = some (L.map .int) → L.length ≤ 200 → binV H .mul (.ref i) (.int t) = some (.lst ((List.replicate t L).flatten.map .int)) := by
    intro H i L e hL
    have := binV_mulR (h := H) (L.map .int) i (t : Int) e (by omega) (by omega) (by
      rw [List.length_map, tn]
      have : L.length * t ≤ 200 * 3 := Nat.mul_le_mul hL t3
      omega)
    rw [tn] at this
    rw [this, List.map_flatten, List.map_replicate]
  have fin : ∀ (H : HP) (i j : Nat) (qs : List (Int × Int)), (∀ q ∈ qs, okQ w f q) → qs.length ≤ 200 → getL H (.ref i) = some ((qs.map (·.1)).map .int) → getL H (.ref j) = some ((qs.map (·.2)).map .int) →
      ∃ rs : List (Int × Int), (∀ q ∈ rs, okQ w f q) ∧ rs.length ≤ 200 ∧ (qs.length = 0 → rs.length = 0) ∧ binV H .mul (.ref i) (.int t) = some (.lst ((List.replicate t (qs.map (·.1))).flatten.map .int)) ∧ cutM ((List.replicate t (qs.map (·.1))).flatten.map MV.int) none (some 200) = (rs.map (·.1)).map .int ∧
        binV H .mul (.ref j) (.int t) = some (.lst ((List.replicate t (qs.map (·.2))).flatten.map .int)) ∧ cutM ((List.replicate t (qs.map (·.2))).flatten.map MV.int) none (some 200) = (rs.map (·.2)).map .int := by
    intro H i j qs oq lq e1 e2
    refine ⟨(List.replicate t qs).flatten.take 200, fun q hq => ?_, by rw [List.length_take]; omega, (fun z => by rw [List.length_eq_zero_iff] at z; subst z; simp), mul H i _ e1 (by rw [List.length_map]; exact lq), ?_, mul H j _ e2 (by rw [List.length_map]; exact lq), ?_⟩
    · obtain ⟨l, hl1, hl2⟩ := List.mem_flatten.mp (List.mem_of_mem_take hq)
      rw [List.eq_of_mem_replicate hl1] at hl2
      exact oq q hl2
    · rw [cut200, List.map_take (l := (List.replicate t qs).flatten), List.map_flatten, List.map_replicate]
    · rw [cut200, List.map_take (l := (List.replicate t qs).flatten), List.map_flatten, List.map_replicate]
  rw [run_eq (F := fn43) rfl rfl]
  have ipl : isN (E.cN) = true := rfl
  obtain ⟨RG, hRG⟩ : ∃ R, ((List.range m).map fun (i : Nat) => MV.int (0 + (i : Int))) = R := ⟨_, rfl⟩
  rw [hRG] at rg lp l1 l2
  have lc0 : (cs.map MV.int).length = cs.length := List.length_map ..
  obtain ⟨CS, hCS⟩ : ∃ CS, cs.map MV.int = CS := ⟨_, rfl⟩
  rw [hCS] at l1 l2 lp lc0 ⊢
  by_cases rv : pl / 15 % 2 = 1
  · obtain ⟨rs, o1, o2, oz, o3, o4, o5, o6⟩ := fin [.lst ((ps.map (·.1)).map .int), .lst ((ps.map (·.2)).map .int), .lst ((ps.map (·.1)).map .int).reverse, .lst ((ps.map (·.2)).map .int).reverse] 2 3 ps.reverse (fun q hq => ok q (List.mem_reverse.1 hq)) (by rw [List.length_reverse]; exact pll) (by show some _ = _; rw [← List.map_reverse, ← List.map_reverse]) (by show some _ = _; rw [← List.map_reverse, ← List.map_reverse])
    refine ⟨rs, o1, o2, fun z => oz (by rw [List.length_reverse]; rw [lp0, List.length_range] at pl0; omega), ?_⟩
    obtain ⟨A, hA⟩ : ∃ A, (ps.map (·.1)).map MV.int = A := ⟨_, rfl⟩
    obtain ⟨B, hB⟩ : ∃ A, (ps.map (·.2)).map MV.int = A := ⟨_, rfl⟩
    rw [hA, hB] at lp o3 o5
    obtain ⟨U, hU⟩ : ∃ A, (List.replicate t (ps.reverse.map (·.1))).flatten.map MV.int = A := ⟨_, rfl⟩
    obtain ⟨V, hV⟩ : ∃ A, (List.replicate t (ps.reverse.map (·.2))).flatten.map MV.int = A := ⟨_, rfl⟩
    rw [hU] at o3 o4
    rw [hV] at o5 o6
    obtain ⟨P1, hP1⟩ : ∃ A, (rs.map (·.1)).map MV.int = A := ⟨_, rfl⟩
    obtain ⟨P2, hP2⟩ : ∃ A, (rs.map (·.2)).map MV.int = A := ⟨_, rfl⟩
    have fz1 : ∀ (h : HP), frzs h 0 P1 = some P1 := by rw [← hP1]; intro h; exact frzs_ints h 0 _
    have fz2 : ∀ (h : HP), frzs h 0 P2 = some P2 := by rw [← hP2]; intro h; exact frzs_ints h 0 _
    rw [hP1] at o4 ⊢
    rw [hP2] at o6 ⊢
    have r0 : getL [.lst A, .lst B] (.ref 0) = some A := rfl
    have r1 : getL [.lst A, .lst B, .lst A.reverse] (.ref 1) = some B := rfl
    simp -implicitDefEqProofs [fn43, s0, lc0, dl, eM, rg, l1, l2, d3, hsp, lp, d15, rv, r0, r1, d30, ht, o3, o4, o5, o6, isN, leave, Rm.fin, frz, frzs, fz1, fz2]
  · obtain ⟨rs, o1, o2, oz, o3, o4, o5, o6⟩ := fin [.lst ((ps.map (·.1)).map .int), .lst ((ps.map (·.2)).map .int)] 0 1 ps ok pll rfl rfl
    refine ⟨rs, o1, o2, fun z => oz (by rw [lp0, List.length_range] at pl0; omega), ?_⟩
    obtain ⟨A, hA⟩ : ∃ A, (ps.map (·.1)).map MV.int = A := ⟨_, rfl⟩
    obtain ⟨B, hB⟩ : ∃ A, (ps.map (·.2)).map MV.int = A := ⟨_, rfl⟩
    rw [hA, hB] at lp o3 o5
    obtain ⟨U, hU⟩ : ∃ A, (List.replicate t (ps.map (·.1))).flatten.map MV.int = A := ⟨_, rfl⟩
    obtain ⟨V, hV⟩ : ∃ A, (List.replicate t (ps.map (·.2))).flatten.map MV.int = A := ⟨_, rfl⟩
    rw [hU] at o3 o4
    rw [hV] at o5 o6
    obtain ⟨P1, hP1⟩ : ∃ A, (rs.map (·.1)).map MV.int = A := ⟨_, rfl⟩
    obtain ⟨P2, hP2⟩ : ∃ A, (rs.map (·.2)).map MV.int = A := ⟨_, rfl⟩
    have fz1 : ∀ (h : HP), frzs h 0 P1 = some P1 := by rw [← hP1]; intro h; exact frzs_ints h 0 _
    have fz2 : ∀ (h : HP), frzs h 0 P2 = some P2 := by rw [← hP2]; intro h; exact frzs_ints h 0 _
    rw [hP1] at o4 ⊢
    rw [hP2] at o6 ⊢
    simp -implicitDefEqProofs [fn43, s0, lc0, dl, eM, rg, l1, l2, d3, hsp, lp, d15, rv, d30, ht, o3, o4, o5, o6, isN, leave, Rm.fin, frz, frzs, fz1, fz2]
end Pg

namespace Pg
open PySem L2 Rm
open PySem.Builtin.Int (intBits)
/-! the two rows built: k37 (needs rowsby37, clean38, perm37) -/
theorem lowsI37 (b : Nat) : ∀ is : List Int, lows b (is.map .int) = true
  | [] => by simp [lows]
  | i :: is => by rw [List.map_cons]; unfold lows; rw [lowsI37 b is, low_int]; rfl
section
variable (w f : Nat) (hw2 : 2 ≤ w) (hw : w ≤ 15) (hf1 : 1 ≤ f) (hf : f ≤ 112)
include hw2 hw hf1 hf
theorem built_loop (n : Nat) {src : HP → Option (List MV)} {all : List MV} (hs : ∀ h, src h = some all) {cs : List Int} (hc : ∀ c ∈ cs, intBits c ≤ 1048576) (pl : Int) : ∀ (ks : List Nat) (ps : List Pr2) (x6 x7 x8 : Option MV), (∀ k ∈ ks, 2 * k + 1 < cs.length) → (∀ q ∈ ps, inP w f q) → ps.length + ks.length ≤ 200 →
    ∃ (ps' : List Pr2) (y6 y7 y8 : Option MV), forL (.one 6) src all (exSs p.T (run p.T p.fs (n + 2)) w45_0) (ks.map fun (i : Nat) => MV.int (0 + (i : Int))) [some (.tup [.int w, .int f]), some (.lst (cs.map .int)), some (.int pl), some (.int (2 ^ (w + f))), some (.ref 0), some (.ref 1), x6, x7, x8] [.lst ((ps.map (·.1)).map .int), .lst ((ps.map (·.2)).map .int)] =
      .nx [some (.tup [.int w, .int f]), some (.lst (cs.map .int)), some (.int pl), some (.int (2 ^ (w + f))), some (.ref 0), some (.ref 1), y6, y7, y8] [.lst ((ps'.map (·.1)).map .int), .lst ((ps'.map (·.2)).map .int)] ∧ (∀ q ∈ ps', inP w f q) ∧ ps'.length = ps.length + ks.length
  | [], ps, x6, x7, x8, _, ok, hl => ⟨ps, x6, x7, x8, by rw [List.map_nil, forL, if_pos (hs _)], ok, by simp⟩
  | k :: ks, ps, x6, x7, x8, hk, ok, hl => by
    rw [List.length_cons] at hl
    have kl := hk k (List.mem_cons_self ..)
    obtain ⟨b, b0, b1, eb⟩ := s_bitsby w f hw2 hw hf1 hf (n + 1) [.lst ((ps.map (·.1)).map .int), .lst ((ps.map (·.2)).map .int)] cs[2 * k] (hc _ (List.getElem_mem _))
    obtain ⟨o, o0, o1, eo⟩ := s_bitsby w f hw2 hw hf1 hf (n + 1) [.lst ((ps.map (·.1)).map .int), .lst ((ps.map (·.2)).map .int)] cs[2 * k + 1] (hc _ (List.getElem_mem _))
    have a1 : atI (cs.map MV.int) (2 * (k : Int)) = some (.int cs[2 * k]) := by
      rw [atI_nat (k := 2 * k) (by omega) (by rw [List.length_map]; omega), List.getElem_map]
    have a2 : atI (cs.map MV.int) (2 * (k : Int) + 1) = some (.int cs[2 * k + 1]) := by
      rw [atI_nat (k := 2 * k + 1) (by omega) (by rw [List.length_map]; omega), List.getElem_map]
    have m2 : mulB 2 (k : Int) = true := mulB_left (by decide)
    have H0 := p2 (w + f)
    have eT := pow_s (w + f)
    have hal : ∀ x : Int, 0 ≤ x → x < 2 ^ (w + f + 1) → (mulB (x / 2 ^ (w + f)) (2 ^ (w + f)) = true ∧ 0 ≤ x / 2 ^ (w + f) * 2 ^ (w + f) ∧ x / 2 ^ (w + f) * 2 ^ (w + f) < 2 ^ (w + f + 1)) ∧ dvB x (2 ^ (w + f)) = true := by
      intro x x0 x1
      refine ⟨?_, dvB_pow (by omega)⟩
      rcases (tn_sg x0 x1).2 with z | z <;> rw [z]
      · exact ⟨mulB_left (by decide), by omega, by omega⟩
      · exact ⟨mulB_left (by decide), by omega, by omega⟩
    obtain ⟨⟨mb, hb0, hb1⟩, db⟩ := hal b b0 b1
    obtain ⟨⟨mo, ho0, ho1⟩, d_o⟩ := hal o o0 o1
    -- the two numbers cleaned
    obtain ⟨x, hx⟩ : ∃ x, (if pl % 4 = 3 then b / 2 ^ (w + f) * 2 ^ (w + f) else b) = x := ⟨_, rfl⟩
    obtain ⟨y, hy⟩ : ∃ y, (if pl % 4 = 3 then o / 2 ^ (w + f) * 2 ^ (w + f) else o) = y := ⟨_, rfl⟩
    have x01 : 0 ≤ x ∧ x < 2 ^ (w + f + 1) := by rw [← hx]; split <;> exact ⟨by assumption, by assumption⟩
    have y01 : 0 ≤ y ∧ y < 2 ^ (w + f + 1) := by rw [← hy]; split <;> exact ⟨by assumption, by assumption⟩
    have cx := s_clean w f hw2 hw hf1 hf (n + 1) [.lst ((ps.map (·.1)).map .int), .lst ((ps.map (·.2)).map .int)] x01.1 x01.2 (pl % 4 % 3)
    obtain ⟨X, hX⟩ : ∃ X, clnP (2 ^ (w + f)) (2 ^ (w + f) - 2 ^ f) (pl % 4 % 3) x = X := ⟨_, rfl⟩
    rw [hX] at cx
    have cy := s_clean w f hw2 hw hf1 hf (n + 1) [.lst ((ps.map (·.1)).map .int ++ [.int X]), .lst ((ps.map (·.2)).map .int)] y01.1 y01.2 (pl % 4 % 3)
    obtain ⟨Y, hY⟩ : ∃ X, clnP (2 ^ (w + f)) (2 ^ (w + f) - 2 ^ f) (pl % 4 % 3) y = X := ⟨_, rfl⟩
    rw [hY] at cy
    have ok2 : ∀ q ∈ ps ++ [(X, Y)], inP w f q := by
      intro u hu
      rcases List.mem_append.mp hu with z | z
      · exact ok u z
      · rw [List.mem_singleton.mp z]; exact ⟨cx.2, cy.2⟩
    obtain ⟨ps', y6, y7, y8, e, o', l'⟩ := built_loop n hs hc pl ks (ps ++ [(X, Y)]) (some (.int (0 + (k : Int)))) (some (.int x)) (some (.int y)) (fun u hu => hk u (List.mem_cons_of_mem _ hu)) ok2 (by rw [List.length_append, List.length_singleton]; omega)
    refine ⟨ps', y6, y7, y8, ?_, o', by rw [l', List.length_append, List.length_singleton, List.length_cons]; omega⟩
    have e1 : ((ps ++ [(X, Y)]).map (·.1)).map MV.int = (ps.map (·.1)).map MV.int ++ [.int X] := by rw [List.map_append, List.map_append]; rfl
    have e2 : ((ps ++ [(X, Y)]).map (·.2)).map MV.int = (ps.map (·.2)).map MV.int ++ [.int Y] := by rw [List.map_append, List.map_append]; rfl
    rw [e1, e2] at e
    have lx : ((ps.map (·.1)).map MV.int).length = ps.length := by rw [List.length_map, List.length_map]
    have ly : ((ps.map (·.2)).map MV.int).length = ps.length := by rw [List.length_map, List.length_map]
    have p1 := ap0 ((ps.map (·.1)).map MV.int) ((ps.map (·.2)).map MV.int) (.int X) (by rw [lx]; omega)
    have p2' := ap1 ((ps.map (·.1)).map MV.int ++ [.int X]) ((ps.map (·.2)).map MV.int) (.int Y) (by rw [ly]; omega)
    have ic0 : isCell [.lst ((ps.map (·.1)).map .int), .lst ((ps.map (·.2)).map .int)] (.ref 0) = true := rfl
    have ic1 : isCell [.lst ((ps.map (·.1)).map .int ++ [.int X]), .lst ((ps.map (·.2)).map .int)] (.ref 1) = true := rfl
    have cx := cx.1
    have cy := cy.1
    generalize [MO.lst ((ps.map (·.1)).map .int ++ [.int X]), .lst ((ps.map (·.2)).map .int ++ [.int Y])] = K2 at p2' e
    generalize [MO.lst ((ps.map (·.1)).map .int ++ [.int X]), .lst ((ps.map (·.2)).map .int)] = K1 at p1 p2' ic1 cy
    generalize [MO.lst ((ps.map (·.1)).map .int), .lst ((ps.map (·.2)).map .int)] = K0 at p1 ic0 eb eo cx ⊢
    generalize cs.map MV.int = CS at a1 a2 e ⊢
    have sg : setG (.one 6) (.int (0 + (k : Int))) [some (.tup [.int w, .int f]), some (.lst CS), some (.int pl), some (.int (2 ^ (w + f))), some (.ref 0), some (.ref 1), x6, x7, x8] = some [some (.tup [.int w, .int f]), some (.lst CS), some (.int pl), some (.int (2 ^ (w + f))), some (.ref 0), some (.ref 1), some (.int (0 + (k : Int))), x7, x8] := rfl
    have body : exSs p.T (run p.T p.fs (n + 2)) w45_0 [some (.tup [.int w, .int f]), some (.lst CS), some (.int pl), some (.int (2 ^ (w + f))), some (.ref 0), some (.ref 1), some (.int (0 + (k : Int))), x7, x8] K0 = .nx [some (.tup [.int w, .int f]), some (.lst CS), some (.int pl), some (.int (2 ^ (w + f))), some (.ref 0), some (.ref 1), some (.int (0 + (k : Int))), some (.int x), some (.int y)] K2 := by
      by_cases c : pl % 4 = 3
      · rw [if_pos c] at hx hy
        subst hx; subst hy
        rw [c, show (3 : Int) % 3 = 0 from rfl] at cx cy
        simp -implicitDefEqProofs [a1, a2, m2, eb, eo, c, db, d_o, mb, mo, H0, ic0, cx, p1, ic1, cy, p2']
      · rw [if_neg c] at hx hy
        subst hx; subst hy
        simp -implicitDefEqProofs [a1, a2, m2, eb, eo, c, ic0, cx, p1, ic1, cy, p2']
    rw [List.map_cons, forL_step (hs _) sg body]
    exact e
theorem s_built (n : Nat) {cs : List Int} (hc : ∀ c ∈ cs, intBits c ≤ 1048576) (hl : cs.length ≤ 63) (pl : Int) (hp : intBits pl ≤ 1048576) :
    ∃ ps : List Pr2, (∀ q ∈ ps, inP w f q) ∧ ps.length ≤ 200 ∧ (cs.length < 2 → ps.length = 0) ∧ run p.T p.fs (n + 3) 45 [.tup [.int w, .int f], .lst (cs.map .int), .int pl] [] = .ok (.tup [.lst ((ps.map (·.1)).map .int), .lst ((ps.map (·.2)).map .int)]) [] := by
  have s0 := shlB_one (b := (w : Int) + (f : Int)) (by omega) (by omega)
  have d4 := dvB_small (a := pl) (b := 4) (by decide) (by decide)
  by_cases c : pl % 4 = 2
  · obtain ⟨ps, ok, l, l0, r⟩ := s_rowsby w f hw2 hw hf1 hf n hc hl (pl / 4)
    refine ⟨ps, fun q hq => ⟨⟨(ok q hq).1.1, (ok q hq).1.2.1⟩, (ok q hq).2.1, (ok q hq).2.2.1⟩, l, l0, ?_⟩
    have fz : ∀ (h : HP) (L : List Int), frzs h 0 (L.map .int) = some (L.map .int) := fun h L => frzs_ints h 0 L
    have f1 := fun h => fz h (ps.map (·.1))
    have f2 := fun h => fz h (ps.map (·.2))
    have f3 := lowsI37 0 (ps.map (·.1))
    have f4 := lowsI37 0 (ps.map (·.2))
    rw [run_eq (F := fn45) rfl rfl]
    generalize (ps.map (·.1)).map MV.int = X at *
    generalize (ps.map (·.2)).map MV.int = Y at *
    generalize cs.map MV.int = CS at *
    simp -implicitDefEqProofs [fn45, s0, c, d4, r, leave, Rm.fin, frz, frzs, f1, f2, f3, f4]
  · obtain ⟨m, hm⟩ : ∃ m : Nat, (cs.length : Int) / 2 = m := ⟨((cs.length : Int) / 2).toNat, by omega⟩
    have dl := dvB_small (a := (cs.length : Int)) (b := 2) (by decide) (by decide)
    have rg := rng1M_ok (j := (m : Int)) (by omega) (by omega) [.lst [], .lst []]
    have jn : ((m : Int)).toNat = m := by omega
    rw [jn] at rg
    obtain ⟨ps, y6, y7, y8, lp, ok, l⟩ := built_loop w f hw2 hw hf1 hf n (src := fun _ => some ((List.range m).map fun (i : Nat) => MV.int (0 + (i : Int)))) (all := (List.range m).map fun (i : Nat) => MV.int (0 + (i : Int))) (fun _ => rfl) hc pl (List.range m) [] none none none (fun u hu => by have := List.mem_range.mp hu; omega) (fun q h => by cases h) (by rw [List.length_nil, List.length_range]; omega)
    rw [List.length_nil, List.length_range, Nat.zero_add] at l
    refine ⟨ps, ok, by omega, fun z => by omega, ?_⟩
    have fz : ∀ (h : HP) (L : List Int), frzs h 0 (L.map .int) = some (L.map .int) := fun h L => frzs_ints h 0 L
    have f1 := fun h => fz h (ps.map (·.1))
    have f2 := fun h => fz h (ps.map (·.2))
    have f3 := lowsI37 0 (ps.map (·.1))
    have f4 := lowsI37 0 (ps.map (·.2))
    have lc : (cs.map MV.int).length = cs.length := List.length_map ..
    rw [run_eq (F := fn45) rfl rfl]
    simp only [List.map_nil] at lp
    generalize (ps.map (·.1)).map MV.int = X at *
    generalize (ps.map (·.2)).map MV.int = Y at *
    generalize cs.map MV.int = CS at *
    generalize ((List.range m).map fun (i : Nat) => MV.int (0 + (i : Int))) = RG at *
    simp -implicitDefEqProofs [fn45, s0, c, lc, dl, hm, rg, lp, leave, Rm.fin, frz, frzs, f1, f2, f3, f4]
end
end Pg

namespace Pg
open PySem L2 Rm
open PySem.Builtin.Int (intBits)
@[simp] theorem eqM_t2 (h : HP) (a b c d : Int) : eqM h (.tup [.int a, .int b]) (.tup [.int c, .int d]) = some (decide (a = c) && decide (b = d)) := by
  have (x y : Int) : (x == y) = decide (x = y) := rfl
  simp [eqM, flatD, lstD, toD, toDs, SeqAt.shaped, PyData.eqv, PyData.eqvAll, PyData.canLay0, PyData.canLayAll0, PyData.depth, PyData.depthAll, this]
theorem perm_map {α : Type} {xs : List Nat} {f : Nat → α} {g : α → Nat} (hg : ∀ i, g (f i) = i) {l : List α} (h : l.Perm (xs.map f)) : ∃ ys : List Nat, ys.Perm xs ∧ l = ys.map f := by
  refine ⟨l.map g, ?_, ?_⟩
  · have := h.map g
    rw [List.map_map, show g ∘ f = id from funext hg, List.map_id] at this
    exact this
  · rw [List.map_map]
    conv => lhs; rw [← List.map_id l]
    refine List.map_congr_left fun x hx => ?_
    obtain ⟨i, _, rfl⟩ := List.mem_map.1 (h.mem_iff.1 hx)
    show f i = f (g (f i))
    rw [hg]
/-! ranges of the answers -/
theorem nought01 (k : Nat) {ss : List Int} (h : ∀ s ∈ ss, s = 0 ∨ s = 1) : noughtS k ss = 0 ∨ noughtS k ss = 1 := by
  rw [nought_val k h]
  repeat' split
  all_goals simp
theorem rs_nn (d g : Int) : 0 ≤ rs d g := by
  unfold rs
  repeat' split
  all_goals decide
theorem rdP_fl {w f k : Nat} (hw2 : 2 ≤ w) (hf1 : 1 ≤ f) {X B s : Int} (hB : 0 < B) : 0 ≤ (rdP w f k X B s).2 ∧ (rdP w f k X B s).2 < 32 := by
  unfold rdP
  split
  · exact ⟨Int.le_refl _, show (0 : Int) < 32 by decide⟩
  · have F := frOf_ok (f := f) (V := X.natAbs) (B := B) (by omega) hB
    have r0 : 0 ≤ (frOf f X.natAbs B).2 := by
      rw [F.rst]
      exact rs_nn _ _
    have := stl_rng (k := k) hw2 hf1 (s := if X < 0 then 1 else 0) F.c0 r0
    exact ⟨this.2.2.1, by have := this.2.2.2; show _ < (32 : Int); omega⟩
theorem sumP_good {w f k N : Nat} (hw2 : 2 ≤ w) (hf1 : 1 ≤ f) {ts : List Tm3} (ok : ∀ t ∈ ts, tOK N t) : (0 ≤ (sumP w f k N ts).1 ∧ (sumP w f k N ts).1 < 2 ^ (w + f + 1)) ∧ 0 ≤ (sumP w f k N ts).2 ∧ (sumP w f k N ts).2 < 32 := by
  have E3 := end_3 (f := f) hw2
  have pf := p2 f
  have nr := noN_rng (w := w) (f := f) hw2 hf1
  rw [sumP_val ok]
  split
  · exact ⟨⟨nr.1, nr.2.1⟩, show (0 : Int) ≤ 16 by decide, show (16 : Int) < 32 by decide⟩
  · split
    · have s1 : (if (1 : Int) ∈ ens ts then (1 : Int) else 0) = 0 ∨ (if (1 : Int) ∈ ens ts then (1 : Int) else 0) = 1 := by split <;> simp
      have z := sH_rng (w := w) (f := f) hw2 s1 (x := 2 ^ (w + f) - 2 ^ f) (by omega) (Int.le_refl _)
      exact ⟨⟨z.1, z.2.1⟩, show (0 : Int) ≤ 0 by decide, show (0 : Int) < 32 by decide⟩
    · have n1 := nought01 k (ss := (fins ts).map (·.1)) fun s hs => by
        obtain ⟨t, ht, rfl⟩ := List.mem_map.mp hs
        exact (ok _ (mem_fins ht)).1
      exact ⟨rdP_rng hw2 hf1 (p2 _) n1, rdP_fl hw2 hf1 (p2 _)⟩
theorem gat_good {w f k : Nat} (hw2 : 2 ≤ w) (hw : w ≤ 15) (hf1 : 1 ≤ f) (hf : f ≤ 112) {ps : List Pr2} (ok : ∀ q ∈ ps, inP w f q) : (0 ≤ (gatP w f k ps).1 ∧ (gatP w f k ps).1 < 2 ^ (w + f + 1)) ∧ 0 ≤ (gatP w f k ps).2 ∧ (gatP w f k ps).2 < 32 := by
  have nr := noN_rng (w := w) (f := f) hw2 hf1
  rw [gat_val]
  split
  · exact ⟨⟨nr.1, nr.2.1⟩, show (0 : Int) ≤ 0 by decide, show (0 : Int) < 32 by decide⟩
  · exact sumP_good hw2 hf1 fun t ht => by
      obtain ⟨q, hq, rfl⟩ := List.mem_map.1 ht
      have h := ok q hq
      exact prT_ok hw2 hw hf h.1.1 h.1.2 h.2.1 h.2.2
theorem smd_good {w f k : Nat} (hw2 : 2 ≤ w) (hw : w ≤ 15) (hf1 : 1 ≤ f) (hf : f ≤ 112) {bs : List Int} (ok : ∀ b ∈ bs, 0 ≤ b ∧ b < 2 ^ (w + f + 1)) : (0 ≤ (smdP w f k bs).1 ∧ (smdP w f k bs).1 < 2 ^ (w + f + 1)) ∧ 0 ≤ (smdP w f k bs).2 ∧ (smdP w f k bs).2 < 32 := by
  have nr := noN_rng (w := w) (f := f) hw2 hf1
  unfold smdP
  split
  · exact ⟨⟨nr.1, nr.2.1⟩, show (0 : Int) ≤ 0 by decide, show (0 : Int) < 32 by decide⟩
  · exact sumP_good hw2 hf1 fun t ht => by
      obtain ⟨b, hb, rfl⟩ := List.mem_map.1 ht
      exact tmOf_ok hw2 hw hf (ok b hb).1 (ok b hb).2
/-! the law's own functions -/
theorem s_good37 (w f : Nat) (hw : w ≤ 15) (hf : f ≤ 112) (n : Nat) (h : HP) {a b : Int} (a0 : 0 ≤ a) (a1 : a < 2 ^ (w + f + 1)) (b0 : 0 ≤ b) (b1 : b < 32) :
    run p.T p.fs (n + 2) 47 [.tup [.int w, .int f], .tup [.int a, .int b]] h = .ok (.bl true) h := by
  rw [run_eq (F := fn47) rfl rfl]
  have wa := s_whole n h a
  have wb := s_whole n h b
  have s2 : shlB 2 ((w : Int) + (f : Int)) = true := shlB_of (m := 2) (by decide) (by omega) (by omega)
  have e : (2 : Int) * 2 ^ ((w : Int) + (f : Int)).toNat = 2 ^ (w + f + 1) := by
    rw [show ((w : Int) + (f : Int)).toNat = w + f by omega, pow_s]
  have a2 : a < 2 * 2 ^ (w + f) := by rw [← pow_s]; exact a1
  simp [fn47, wa, wb, s2, a0, a2, b0, b1]
theorem s_placed (w f : Nat) (hw : w ≤ 15) (hf : f ≤ 112) (n : Nat) (h : HP) (q : Pr2) (j : Int) :
    run p.T p.fs (n + 1) 46 [.tup [.int w, .int f], .int q.1, .int q.2, .int j] h = .ok (.tup [.int (plQ w f j q).1, .int (plQ w f j q).2]) h := by
  rw [run_eq (F := fn46) rfl rfl]
  have s0 := shlB_one (b := (w : Int) + (f : Int)) (by omega) (by omega)
  have m2 : mulB 2 (2 ^ (w + f)) = true := mulB_left (by decide)
  have H2 : 0 < 2 * (2 : Int) ^ (w + f) := by have := p2 (w + f); omega
  unfold plQ tn
  by_cases c : 1 < j
  · by_cases d : j % 2 = 1
    · simp [fn46, s0, m2, H2, c, d]
    · simp [fn46, s0, m2, H2, c, d]
  · by_cases d : j % 2 = 1
    · simp [fn46, s0, c, d]
    · simp [fn46, s0, c, d]
/-- the law's loop over the order -/
theorem place_loop {w f : Nat} (hw : w ≤ 15) (hf : f ≤ 112) {cs : List Int} (hc0 : ∀ i : Nat, i < 200 → True) {ps : List Pr2} (v0 v2 v4 v8 v9 : Option MV) (hcs : ps.length ≠ 0 → 0 < cs.length) {src : HP → Option (List MV)} {all : List MV} (hs : ∀ h, src h = some all) :
    ∀ (O : List Nat) (qs : List Pr2) (x7 x12 x13 : Option MV), (∀ i ∈ O, i < ps.length) → qs.length + O.length ≤ 1000 →
    ∃ y7 y12 y13 : Option MV, forL (.one 7) src all (exSs p.T (run p.T p.fs 40) w48_0) (O.map fun (i : Nat) => MV.int (i : Int)) [v0, some (.tup [.int w, .int f]), v2, some (.lst (cs.map .int)), v4, some (.ref 0), some (.ref 1), x7, v8, v9, some (.lst ((ps.map (·.1)).map .int)), some (.lst ((ps.map (·.2)).map .int)), x12, x13] [.lst ((qs.map (·.1)).map .int), .lst ((qs.map (·.2)).map .int)] =
      .nx [v0, some (.tup [.int w, .int f]), v2, some (.lst (cs.map .int)), v4, some (.ref 0), some (.ref 1), y7, v8, v9, some (.lst ((ps.map (·.1)).map .int)), some (.lst ((ps.map (·.2)).map .int)), y12, y13]
        [.lst (((qs ++ O.map fun i => plQ w f (cs.getD (i % cs.length) 0 / 7 % 4) (ps.getD i (0, 0))).map (·.1)).map .int), .lst (((qs ++ O.map fun i => plQ w f (cs.getD (i % cs.length) 0 / 7 % 4) (ps.getD i (0, 0))).map (·.2)).map .int)]
  | [], qs, x7, x12, x13, _, _ => ⟨x7, x12, x13, by rw [List.map_nil, forL, if_pos (hs _), List.map_nil, List.append_nil]⟩
  | i :: O, qs, x7, x12, x13, hi, hl => by
    rw [List.length_cons] at hl
    have il := hi i (List.mem_cons_self ..)
    have cl := hcs (by omega)
    obtain ⟨q, hq⟩ : ∃ q, ps.getD i (0, 0) = q := ⟨_, rfl⟩
    obtain ⟨c, hc⟩ : ∃ c, cs.getD (i % cs.length) 0 = c := ⟨_, rfl⟩
    obtain ⟨y7, y12, y13, e⟩ := place_loop hw hf (cs := cs) hc0 (ps := ps) v0 v2 v4 v8 v9 hcs hs O (qs ++ [plQ w f (c / 7 % 4) q]) (some (.int i)) (some (.int (plQ w f (c / 7 % 4) q).1)) (some (.int (plQ w f (c / 7 % 4) q).2)) (fun u hu => hi u (List.mem_cons_of_mem _ hu)) (by rw [List.length_append, List.length_singleton]; omega)
    refine ⟨y7, y12, y13, ?_⟩
    rw [List.append_assoc, List.singleton_append] at e
    have eO : (i :: O).map (fun i => plQ w f (cs.getD (i % cs.length) 0 / 7 % 4) (ps.getD i (0, 0))) = plQ w f (c / 7 % 4) q :: O.map fun i => plQ w f (cs.getD (i % cs.length) 0 / 7 % 4) (ps.getD i (0, 0)) := by rw [List.map_cons, hq, hc]
    rw [eO]
    have a1 : atI ((ps.map (·.1)).map MV.int) (i : Int) = some (.int q.1) := by
      rw [atI_nat (k := i) rfl (by rw [List.length_map, List.length_map]; exact il), List.getElem_map, List.getElem_map, ← hq, List.getD_eq_getElem?_getD, List.getElem?_eq_getElem il]; rfl
    have a2 : atI ((ps.map (·.2)).map MV.int) (i : Int) = some (.int q.2) := by
      rw [atI_nat (k := i) rfl (by rw [List.length_map, List.length_map]; exact il), List.getElem_map, List.getElem_map, ← hq, List.getD_eq_getElem?_getD, List.getElem?_eq_getElem il]; rfl
    have ml : i % cs.length < cs.length := Nat.mod_lt _ cl
    have a3 : atI (cs.map MV.int) ((i : Int) % (cs.length : Int)) = some (.int c) := by
      rw [atI_nat (k := i % cs.length) (by omega) (by rw [List.length_map]; exact ml), List.getElem_map, ← hc, List.getD_eq_getElem?_getD, List.getElem?_eq_getElem ml]; rfl
    have lc : (cs.map MV.int).length = cs.length := List.length_map ..
    have cl' : 0 < (cs.length : Int) := by omega
    have d7 := dvB_small (a := c) (b := 7) (by decide) (by decide)
    have pl := s_placed w f hw hf 39 [.lst ((qs.map (·.1)).map .int), .lst ((qs.map (·.2)).map .int)] q (c / 7 % 4)
    have lx : ((qs.map (·.1)).map MV.int).length = qs.length := by rw [List.length_map, List.length_map]
    have ly : ((qs.map (·.2)).map MV.int).length = qs.length := by rw [List.length_map, List.length_map]
    have p1 := ap0 ((qs.map (·.1)).map MV.int) ((qs.map (·.2)).map MV.int) (.int (plQ w f (c / 7 % 4) q).1) (by rw [lx]; omega)
    have p2' := ap1 ((qs.map (·.1)).map MV.int ++ [.int (plQ w f (c / 7 % 4) q).1]) ((qs.map (·.2)).map MV.int) (.int (plQ w f (c / 7 % 4) q).2) (by rw [ly]; omega)
    have ic0 : isCell [.lst ((qs.map (·.1)).map .int), .lst ((qs.map (·.2)).map .int)] (.ref 0) = true := rfl
    have ic1 : isCell [.lst ((qs.map (·.1)).map .int ++ [.int (plQ w f (c / 7 % 4) q).1]), .lst ((qs.map (·.2)).map .int)] (.ref 1) = true := rfl
    have e1 : ((qs ++ [plQ w f (c / 7 % 4) q]).map (·.1)).map MV.int = (qs.map (·.1)).map MV.int ++ [.int (plQ w f (c / 7 % 4) q).1] := by rw [List.map_append, List.map_append]; rfl
    have e2 : ((qs ++ [plQ w f (c / 7 % 4) q]).map (·.2)).map MV.int = (qs.map (·.2)).map MV.int ++ [.int (plQ w f (c / 7 % 4) q).2] := by rw [List.map_append, List.map_append]; rfl
    rw [e1, e2] at e
    generalize (plQ w f (c / 7 % 4) q).1 = X at *
    generalize (plQ w f (c / 7 % 4) q).2 = Y at *
    generalize [MO.lst ((qs.map (·.1)).map .int ++ [.int X]), .lst ((qs.map (·.2)).map .int ++ [.int Y])] = K2 at p2' e
    generalize [MO.lst ((qs.map (·.1)).map .int ++ [.int X]), .lst ((qs.map (·.2)).map .int)] = K1 at p1 p2' ic1
    generalize [MO.lst ((qs.map (·.1)).map .int), .lst ((qs.map (·.2)).map .int)] = K0 at p1 ic0 pl ⊢
    generalize (ps.map (·.1)).map MV.int = PX at a1 e ⊢
    generalize (ps.map (·.2)).map MV.int = PY at a2 e ⊢
    obtain ⟨CS, hCS⟩ : ∃ X, cs.map MV.int = X := ⟨_, rfl⟩
    rw [hCS] at a3 lc e ⊢
    have sg : setG (.one 7) (.int (i : Int)) [v0, some (.tup [.int w, .int f]), v2, some (.lst CS), v4, some (.ref 0), some (.ref 1), x7, v8, v9, some (.lst PX), some (.lst PY), x12, x13] = some [v0, some (.tup [.int w, .int f]), v2, some (.lst CS), v4, some (.ref 0), some (.ref 1), some (.int i), v8, v9, some (.lst PX), some (.lst PY), x12, x13] := rfl
    have body : exSs p.T (run p.T p.fs 40) w48_0 [v0, some (.tup [.int w, .int f]), v2, some (.lst CS), v4, some (.ref 0), some (.ref 1), some (.int i), v8, v9, some (.lst PX), some (.lst PY), x12, x13] K0 = .nx [v0, some (.tup [.int w, .int f]), v2, some (.lst CS), v4, some (.ref 0), some (.ref 1), some (.int i), v8, v9, some (.lst PX), some (.lst PY), some (.int X), some (.int Y)] K2 := by
      simp -implicitDefEqProofs [a1, a2, a3, lc, cl, cl', d7, pl, ic0, p1, ic1, p2']
    rw [List.map_cons, forL_step (hs _) sg body]
    exact e
theorem rgA_pos {n : Int} (h0 : 0 ≤ n) (h1 : n < 1000000) : rgA (.int n) = some (((List.range n.toNat).map fun (i : Nat) => (i : Int)).map MV.int) := by
  show (if 0 ≤ n ∧ n < 1000000 then some (((List.range n.toNat).map fun (i : Nat) => (i : Int)).map MV.int) else none) = _
  exact if_pos ⟨h0, h1⟩
/-- the key of the law -/
def kap37 (cs : List Int) : MV → Int
  | .int i => cs.getD (i.toNat % cs.length) 0 * (48271 + 2 * i * i) % 2147483647
  | _ => 0
theorem law_true : ∀ ns : List Int, ns.length ≤ 63 → (∀ z ∈ ns, Builtin.Int.intBits z ≤ 1048576) → LawRun p lD 40 [.lst (ns.map .int)] := by
  intro ns hl hn
  have e0 := s_cellat (ns := ns) (i := 0) (k := 0) rfl 39 []
  have e1 := s_cellat (ns := ns) (i := 1) (k := 1) rfl 39 []
  have e2 := s_cellat (ns := ns) (i := 2) (k := 2) rfl 39 []
  obtain ⟨w, f, hw2, hw, hf1, hf, es⟩ := s_sizeby 39 [] (cellAt ns 0)
  obtain ⟨k, hk, ew⟩ := s_wayby 39 [] (cellAt ns 1)
  obtain ⟨cs, hcs, hcm, hcl⟩ := cut_ints ns (some 3) (some 203)
  obtain ⟨ps, ok, pl2, l0, er⟩ := s_built w f hw2 hw hf1 hf 37 (fun c hc => hn c (hcm c hc)) (by omega) (cellAt ns 2) (cellAt_bits hn 2)
  have cpos : ps.length ≠ 0 → 0 < cs.length := fun z => by
    rcases Nat.lt_or_ge cs.length 2 with q | q
    · exact absurd (l0 q) z
    · omega
  obtain ⟨L, hL⟩ : ∃ L, (((List.range ps.length).map fun (i : Nat) => (i : Int)).map MV.int) = L := ⟨_, rfl⟩
  have hLm : L = (List.range ps.length).map fun (i : Nat) => MV.int (i : Int) := by rw [← hL, List.map_map]; rfl
  obtain ⟨O, hO, eO⟩ := perm_map (xs := List.range ps.length) (f := fun (i : Nat) => MV.int (i : Int)) (g := fun x => match x with | .int i => i.toNat | _ => 0) (fun i => rfl) (l := srt (kap37 cs) L) (by
    have := srt_perm (kap37 cs) L
    rw [hLm] at this ⊢
    exact this)
  have Oi : ∀ i ∈ O, i < ps.length := fun i hi => List.mem_range.1 (hO.mem_iff.1 hi)
  have lO : O.length = ps.length := by rw [hO.length_eq, List.length_range]
  obtain ⟨qs, hqs⟩ : ∃ qs, (O.map fun i => plQ w f (cs.getD (i % cs.length) 0 / 7 % 4) (ps.getD i (0, 0))) = qs := ⟨_, rfl⟩
  have okq : ∀ q ∈ qs, inP w f q := by
    intro q hq
    rw [← hqs] at hq
    obtain ⟨i, hi, rfl⟩ := List.mem_map.1 hq
    have il := Oi i hi
    refine (pl_ok ?_ _).1
    rw [List.getD_eq_getElem?_getD, List.getElem?_eq_getElem il]
    exact ok _ (List.getElem_mem il)
  have lq : qs.length = ps.length := by rw [← hqs, List.length_map, lO]
  have gE : gatP w f k qs = gatP w f k ps := by rw [← hqs]; exact gat_order hw2 hw hf ok hO _
  have okx : ∀ b ∈ ps.map (·.1), 0 ≤ b ∧ b < 2 ^ (w + f + 1) := by
    intro b hb
    obtain ⟨q, hq, rfl⟩ := List.mem_map.1 hb
    exact (ok q hq).1
  have lx1 : (ps.map (·.1)).length = ps.length := List.length_map ..
  have sE : smdP w f k (O.map fun i => (ps.map (·.1)).getD i 0) = smdP w f k (ps.map (·.1)) := smd_order hw2 hw hf okx (by rw [lx1]; exact hO)
  have okb : ∀ b ∈ O.map fun i => (ps.map (·.1)).getD i 0, 0 ≤ b ∧ b < 2 ^ (w + f + 1) := by
    intro b hb
    obtain ⟨i, hi, rfl⟩ := List.mem_map.1 hb
    have il := Oi i hi
    rw [List.getD_eq_getElem?_getD, List.getElem?_eq_getElem (by rw [lx1]; exact il)]
    exact okx _ (List.getElem_mem _)
  obtain ⟨y7, y12, y13, lp⟩ := place_loop hw hf (cs := cs) (fun _ _ => trivial) (ps := ps) (some (.lst (ns.map .int))) (some (.str (wayN k))) (some (.lst (O.map fun (i : Nat) => MV.int (i : Int)))) none none cpos (src := fun _ => some (O.map fun (i : Nat) => MV.int (i : Int))) (all := O.map fun (i : Nat) => MV.int (i : Int)) (fun _ => rfl) O [] none none none Oi (by rw [List.length_nil, lO]; omega)
  rw [List.nil_append, hqs] at lp
  simp only [List.map_nil] at lp
  refine ⟨[some (.lst (ns.map .int)), some (.tup [.int w, .int f]), some (.str (wayN k)), some (.lst (cs.map .int)), none, none, none, none, none, none, some (.lst ((ps.map (·.1)).map .int)), some (.lst ((ps.map (·.2)).map .int)), none, none], [], .int ps.length, [], L, kap37 cs, [.lst ((qs.map (·.1)).map .int), .lst ((qs.map (·.2)).map .int)], ?_, ?_, ?_, ?_, ?_⟩
  · show exSs p.T (run p.T p.fs 40) preL (Rm.start fn48 [.lst (ns.map .int)]) [] = _
    generalize (ps.map (·.1)).map MV.int = PX at *
    generalize (ps.map (·.2)).map MV.int = PY at *
    generalize cs.map MV.int = CS at *
    generalize ns.map MV.int = NS at *
    simp -implicitDefEqProofs [preL, fn48, e0, es, e1, ew, isN, hcs, e2, er]
  · show evE p.T (run p.T p.fs 40) argL _ [] = _
    have lx : ((ps.map (·.1)).map MV.int).length = ps.length := by rw [List.length_map, List.length_map]
    generalize (ps.map (·.1)).map MV.int = PX at *
    simp -implicitDefEqProofs [argL, lx]
  · have hrg : lD.rg = true := rfl
    unfold srcA
    rw [hrg, if_pos rfl, rgA_pos (by omega) (by omega), Int.toNat_natCast, hL]
  · intro x hx
    rw [hLm] at hx
    obtain ⟨i, hi, rfl⟩ := List.mem_map.1 hx
    have hi := List.mem_range.1 hi
    show evE p.T (run p.T p.fs 40) lamL [some (.int (i : Int)), some (.lst (cs.map .int))] [] = .ok (.int (cs.getD (((i : Int)).toNat % cs.length) 0 * (48271 + 2 * (i : Int) * (i : Int)) % 2147483647)) []
    have cl := cpos (by omega)
    rw [Int.toNat_natCast]
    have ml : i % cs.length < cs.length := Nat.mod_lt _ cl
    obtain ⟨c, hc⟩ : ∃ c, cs.getD (i % cs.length) 0 = c := ⟨_, rfl⟩
    have a3 : atI (cs.map MV.int) ((i : Int) % (cs.length : Int)) = some (.int c) := by
      rw [atI_nat (k := i % cs.length) (by omega) (by rw [List.length_map]; exact ml), List.getElem_map, ← hc, List.getD_eq_getElem?_getD, List.getElem?_eq_getElem ml]; rfl
    have lc : (cs.map MV.int).length = cs.length := List.length_map ..
    have cl' : 0 < (cs.length : Int) := by omega
    have m1 : mulB 2 (i : Int) = true := mulB_left (by decide)
    have ii : i * i ≤ 200 * 200 := Nat.mul_le_mul (by omega) (by omega)
    have ib : intBits (2 * (i : Int)) ≤ 64 := ib_mono (ib_lt (n := 20) (by omega) (by omega)) (by decide)
    have m2 : mulB (2 * (i : Int)) (i : Int) = true := mulB_left ib
    have e2i : 2 * (i : Int) * (i : Int) = ((2 * (i * i) : Nat) : Int) := by rw [Int.mul_assoc]; simp
    have ib2 : intBits (48271 + 2 * (i : Int) * (i : Int)) ≤ 64 := by
      rw [e2i]
      exact ib_mono (ib_lt (n := 20) (by omega) (by omega)) (by decide)
    have m3 : mulB c (48271 + 2 * (i : Int) * (i : Int)) = true := mulB_right ib2
    rw [hc]
    generalize cs.map MV.int = CS at *
    simp -implicitDefEqProofs [lamL, a3, lc, cl, cl', m1, m2, m3]
  · rw [eO]
    show exSs p.T (run p.T p.fs 40) postL [some (.lst (ns.map .int)), some (.tup [.int w, .int f]), some (.str (wayN k)), some (.lst (cs.map .int)), some (.lst (O.map fun (i : Nat) => MV.int (i : Int))), none, none, none, none, none, some (.lst ((ps.map (·.1)).map .int)), some (.lst ((ps.map (·.2)).map .int)), none, none] [] = _
    have g1 := s_gatP w f hw2 hw hf1 hf k hk (ps := ps) (by omega) ok 32 [.lst ((qs.map (·.1)).map .int), .lst ((qs.map (·.2)).map .int)]
    have g2 := s_gatR w f hw2 hw hf1 hf k hk (ps := qs) (by omega) okq 32
    rw [gE] at g2
    have gg := gat_good (k := k) hw2 hw hf1 hf ok
    have s1 := s_smdP w f hw2 hw hf1 hf k hk (bs := ps.map (·.1)) (by rw [lx1]; omega) okx 32 [.lst ((qs.map (·.1)).map .int), .lst ((qs.map (·.2)).map .int)]
    have s2 := s_smdP w f hw2 hw hf1 hf k hk (bs := O.map fun i => (ps.map (·.1)).getD i 0) (by rw [List.length_map, lO]; omega) okb 32 [.lst ((qs.map (·.1)).map .int), .lst ((qs.map (·.2)).map .int)]
    rw [sE] at s2
    have sg := smd_good (k := k) hw2 hw hf1 hf okx
    have h1 := s_good37 w f hw hf 38 [.lst ((qs.map (·.1)).map .int), .lst ((qs.map (·.2)).map .int)] gg.1.1 gg.1.2 gg.2.1 gg.2.2
    have h2 := s_good37 w f hw hf 38 [.lst ((qs.map (·.1)).map .int), .lst ((qs.map (·.2)).map .int)] sg.1.1 sg.1.2 sg.2.1 sg.2.2
    generalize (gatP w f k ps).1 = G1 at g1 g2 h1
    generalize (gatP w f k ps).2 = G2 at g1 g2 h1
    generalize (smdP w f k (ps.map (·.1))).1 = S1 at s1 s2 h2
    generalize (smdP w f k (ps.map (·.1))).2 = S2 at s1 s2 h2
    have lcm : ∀ (v0 v1 v2 v3 v4 v5 v6 v8 v9 v11 v12 v13 : Option MV) (K : HP), lcL false (.one 7) (fun _ => some (O.map fun (i : Nat) => MV.int (i : Int))) (O.map fun (i : Nat) => MV.int (i : Int)) (evE p.T (run p.T p.fs 40) (.idx (.var 10) (.var 7))) [v0, v1, v2, v3, v4, v5, v6, none, v8, v9, some (.lst ((ps.map (·.1)).map .int)), v11, v12, v13] K (O.map fun (i : Nat) => MV.int (i : Int)) [] = .ok (.lst ((O.map fun i => (ps.map (·.1)).getD i 0).map .int)) K := by
      intro v0 v1 v2 v3 v4 v5 v6 v8 v9 v11 v12 v13 K
      have em : (O.map fun i => (ps.map (·.1)).getD i 0).map MV.int = O.map (MV.int ∘ fun i => (ps.map (·.1)).getD i 0) := List.map_map ..
      rw [em]
      refine lcL_map (tg := .one 7) (src := fun _ => some (O.map fun (i : Nat) => MV.int (i : Int))) (e := [v0, v1, v2, v3, v4, v5, v6, none, v8, v9, some (.lst ((ps.map (·.1)).map .int)), v11, v12, v13]) O (fun (i : Nat) => MV.int (i : Int)) (MV.int ∘ fun i => (ps.map (·.1)).getD i 0) (fun acc => rfl) (by omega) fun i hi => ⟨[v0, v1, v2, v3, v4, v5, v6, some (.int (i : Int)), v8, v9, some (.lst ((ps.map (·.1)).map .int)), v11, v12, v13], rfl, fun H => ?_, by simp⟩
      have il := Oi i hi
      have a1 : atI ((ps.map (·.1)).map MV.int) (i : Int) = some (.int ((ps.map (·.1)).getD i 0)) := by
        rw [atI_nat (k := i) rfl (by rw [List.length_map, lx1]; exact il), List.getElem_map, List.getD_eq_getElem?_getD, List.getElem?_eq_getElem (by rw [lx1]; exact il)]; rfl
      show evE _ _ _ _ _ = .ok (.int ((ps.map (·.1)).getD i 0)) H
      generalize (ps.map (·.1)).getD i 0 = z at a1 ⊢
      generalize (ps.map (·.1)).map MV.int = PX at a1 ⊢
      simp -implicitDefEqProofs [a1]
    generalize ((O.map fun i => (ps.map (·.1)).getD i 0).map MV.int) = SX at lcm s2
    generalize [MO.lst ((qs.map (·.1)).map .int), .lst ((qs.map (·.2)).map .int)] = K at *
    generalize (ps.map (·.1)).map MV.int = PX at lp g1 s1 lcm ⊢
    generalize (ps.map (·.2)).map MV.int = PY at lp g1 ⊢
    generalize (O.map fun (i : Nat) => MV.int (i : Int)) = OL at lp lcm ⊢
    generalize cs.map MV.int = CS at lp ⊢
    generalize ns.map MV.int = NS at lp ⊢
    simp -implicitDefEqProofs [postL, lp, g1, h1, g2, s1, h2, lcm, s2]
end Pg

open PySem PySem.W PySem.Calls PyProof.Rows
theorem PySem.Challenge.cw_roundmill_k37_gathered_in_any_order_holds : PySem.Challenge.rw_roundmill_k37_gathered_in_any_order.Holds := by
  w_on; o_law
  refine HandSHeadRun.head_any (r := OpenLaw.row PySem.Challenge.rw_roundmill_k37_gathered_in_any_order) (q := view (OpenLaw.row PySem.Challenge.rw_roundmill_k37_gathered_in_any_order).prog [63]) (H := Rm.hookL Pg.p Pg.lD) (ob := Pg.ob) (M := 11480) (loose := Pg.names) (d := HandSHeadRun.topDef (OpenLaw.row PySem.Challenge.rw_roundmill_k37_gathered_in_any_order).prog 63) (kwd := []) Pg.ob_eq
    (by kernel_rfl) (fun s => by kernel_rfl) Pg.runH (by kernel_rfl) (by kernel_rfl) (by kernel_rfl) (by rfl) (by first | assumption | decide +kernel) (by decide +kernel) ⟨rfl, rfl, rfl, rfl, rfl, by decide +kernel⟩ ?hw ?hc
  case hw => w_witness2
  case hc =>
    exact Rm.law_walkK (p := Pg.p) (L := Pg.lD) (n := 63) (k := 40) (x := "_law_script") rfl (by decide) (by kernel_rfl) ⟨rfl, by decide, by decide⟩ (by kernel_rfl) rfl Pg.tbs Pg.okp Pg.inc Pg.okL (by kernel_rfl) (by kernel_rfl) rfl Pg.law_true
