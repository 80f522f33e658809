import PyProof.Rows.All
import Wide.All
import OpenK.AllK
import Wide.FinOn
import HandS.ForMost
import HandS.Exc
import HandS.WordsExc
import HandS.Flow
import HandS.IsInst
import HandS.Evl
import HandS.SortInts
import HandS.TupAny
import HandS.FStr
import HandS.ExcInit
import HandS.ExcField
import HandS.ExcIs
import HandS.CallSlots
import HandS.TryOnly
import KE.KExcSuper
import HandS.HotCalls
import PyProof.FString
import HandS.Text
import KE.SortData
import HandS.SetFor
import PyProof.Rows.RowBridgeK
import KE.KTupSum
import KE.KSortedM
import KE.KRevSl
import HandS.Style
import PyProof.StrLawsTight
import KE.DataMinMax
import KE.GoesEnum
import KE.GoesMore
import PyProof.EnumMake
import HandS.Conv
import HandS.AnyAll
import HandS.Nested
import HandS.SortKw
import PyProof.GenCompT
import PyProof.ZipIter
import PyProof.Rows.ZipGen
import HandS.CallRecv
import HandS.ReplaceLit
import HandS.ReplaceList
import HandS.StrMore
import HandS.TupLe
import KE.KIsAll
import KE.KExcIs
import HandS.EndTab
import HandS.EndOwn
import KE.KNest
import HandS.Dict
import HandS.WordsDict
import PySem.Challenge.RW_edgelink_k13_counts_of_stuffings
set_option Elab.async false
set_option linter.all false
set_option maxRecDepth 100000
set_option maxHeartbeats 8000000
section
/-! Ev0: plain data, a small language, and what its texts compute. No program and no machine in sight. -/
namespace Pv

/-- plain data -/
inductive D where
  | non | bl (b : Bool) | int (i : Int) | str (s : List Nat) | tup (xs : List D) | lst (xs : List D)
  /-- the script: a list of ints that is only read -/
  | scr (ns : List Int)
  /-- a Counter with this limit -/
  | cnt (L : Int)
  deriving Inhabited

/-- what comes of a piece of text -/
inductive R (α : Type) where
  | ok (a : α) | exc (c : Nat) (xs : List D) | stuck

def R.bind {α β : Type} (r : R α) (f : α → R β) : R β := match r with
  | .ok a => f a
  | .exc c xs => .exc c xs
  | .stuck => .stuck
@[simp] theorem R.bind_ok {α β : Type} (a : α) (f : α → R β) : (R.ok a).bind f = f a := Eq.trans rfl rfl
@[simp] theorem R.bind_stuck {α β : Type} (f : α → R β) : (R.stuck : R α).bind f = .stuck := Eq.trans rfl rfl
@[simp] theorem R.bind_exc {α β : Type} (c : Nat) (xs : List D) (f : α → R β) : (R.exc c xs : R α).bind f = .exc c xs := Eq.trans rfl rfl
theorem R.bind_eq_ok {α β : Type} {r : R α} {f : α → R β} {b : β} (h : r.bind f = .ok b) : ∃ a, r = .ok a ∧ f a = .ok b := by
  cases r with
  | ok a => exact ⟨a, rfl, h⟩
  | exc c xs => cases h
  | stuck => cases h
def R.ofO {α : Type} : Option α → R α
  | some a => .ok a
  | none => .stuck
@[simp] theorem R.ofO_some {α : Type} (a : α) : R.ofO (some a) = .ok a := Eq.trans rfl rfl
theorem R.ofO_ok {α : Type} {o : Option α} {a : α} (h : R.ofO o = .ok a) : o = some a := by
  cases o with
  | none => cases h
  | some b => cases h; rfl
/-- only where c holds -/
def R.when {α : Type} (c : Prop) [Decidable c] (r : R α) : R α := if c then r else .stuck
theorem R.when_pos {α : Type} {c : Prop} [Decidable c] {r : R α} (h : c) : R.when c r = r := if_pos h
theorem R.when_ok {α : Type} {c : Prop} [Decidable c] {r : R α} {a : α} (h : R.when c r = .ok a) : c ∧ r = .ok a := by
  unfold R.when at h
  by_cases hc : c
  · rw [if_pos hc] at h; exact ⟨hc, h⟩
  · rw [if_neg hc] at h; cases h

/-- the longest list, the longest text -/
abbrev line : Nat := 16777216

/-! ### equality, depth -/
mutual
def D.eqv : D → D → Bool
  | .non, .non => true
  | .bl a, .bl b => a == b
  | .bl a, .int j => (if a then 1 else 0) == j
  | .int i, .bl b => i == (if b then 1 else 0)
  | .int i, .int j => i == j
  | .str x, .str y => x == y
  | .lst xs, .lst ys => D.eqvs xs ys
  | .tup xs, .tup ys => D.eqvs xs ys
  | .non, .bl _ | .non, .int _ | .non, .str _ | .non, .lst _ | .non, .tup _ => false
  | .bl _, .non | .bl _, .str _ | .bl _, .lst _ | .bl _, .tup _ => false
  | .int _, .non | .int _, .str _ | .int _, .lst _ | .int _, .tup _ => false
  | .str _, .non | .str _, .bl _ | .str _, .int _ | .str _, .lst _ | .str _, .tup _ => false
  | .lst _, .non | .lst _, .bl _ | .lst _, .int _ | .lst _, .str _ | .lst _, .tup _ => false
  | .tup _, .non | .tup _, .bl _ | .tup _, .int _ | .tup _, .str _ | .tup _, .lst _ => false
  | .scr _, _ => false
  | .cnt _, _ => false
  | .non, .scr _ | .bl _, .scr _ | .int _, .scr _ | .str _, .scr _ | .lst _, .scr _ | .tup _, .scr _ => false
  | .non, .cnt _ | .bl _, .cnt _ | .int _, .cnt _ | .str _, .cnt _ | .lst _, .cnt _ | .tup _, .cnt _ => false
def D.eqvs : List D → List D → Bool
  | [], [] => true
  | x :: xs, y :: ys => D.eqv x y && D.eqvs xs ys
  | [], _ :: _ => false
  | _ :: _, [] => false
end
mutual
/-- texts are of signs that there are, and the data is no deeper than n -/
def D.shp : Nat → D → Bool
  | _, .non => true
  | _, .bl _ => true
  | _, .int _ => true
  | _, .str s => s.all fun c => decide (c < 1114112)
  | 0, .tup _ => false
  | 0, .lst _ => false
  | _, .scr _ => false
  | _, .cnt _ => false
  | n + 1, .tup xs => D.shps n xs
  | n + 1, .lst xs => D.shps n xs
def D.shps : Nat → List D → Bool
  | _, [] => true
  | n, x :: xs => D.shp n x && D.shps n xs
end
mutual
/-- there is no list within -/
def D.nol : D → Bool
  | .lst _ => false
  | .scr _ => false
  | .cnt _ => true
  | .tup xs => D.nols xs
  | .non => true
  | .bl _ => true
  | .int _ => true
  | .str _ => true
def D.nols : List D → Bool
  | [] => true
  | x :: xs => D.nol x && D.nols xs
end
def D.flat : D → Bool
  | .non => true
  | .bl _ => true
  | .int _ => true
  | .str _ => true
  | .tup _ => false
  | .lst _ => false
  | .scr _ => false
  | .cnt _ => false
def D.isNon : D → Bool
  | .non => true
  | .bl _ => false
  | .int _ => false
  | .str _ => false
  | .tup _ => false
  | .lst _ => false
  | .scr _ => false
  | .cnt _ => false
/-- truth -/
def tst : D → R Bool
  | .non => .ok false
  | .bl b => .ok b
  | .int i => .ok (i != 0)
  | .str s => R.when (s.length ≤ line) (.ok (s.length != 0))
  | .tup xs => .ok (!xs.isEmpty)
  | .lst xs => .ok (!xs.isEmpty)
  | .scr xs => .ok (!xs.isEmpty)
  | .cnt _ => .stuck

/-! ### the order of data that are of one kind place by place -/
mutual
/-- a row of signs -/
def tkD : D → List (Int ⊕ List Nat)
  | .non => []
  | .bl b => [.inl (if b = true then 1 else 0)]
  | .int i => [.inl i]
  | .str s => [.inr s]
  | .lst xs => tkDs xs
  | .tup xs => tkDs xs
  | .scr _ => []
  | .cnt _ => []
def tkDs : List D → List (Int ⊕ List Nat)
  | [] => [.inl 0]
  | x :: xs => .inl 1 :: (tkD x ++ tkDs xs)
end
mutual
/-- of one kind, place by place -/
def likD : D → D → Bool
  | .non, .non => true
  | .bl _, .bl _ => true
  | .int _, .int _ => true
  | .str _, .str _ => true
  | .lst xs, .lst ys => likDs xs ys
  | .tup xs, .tup ys => likDs xs ys
  | _, _ => false
def likDs : List D → List D → Bool
  | x :: xs, y :: ys => likD x y && likDs xs ys
  | [], _ => true
  | _ :: _, [] => true
end
def tkLt : Int ⊕ List Nat → Int ⊕ List Nat → Bool
  | .inl a, .inl b => decide (a < b)
  | .inl _, .inr _ => true
  | .inr _, .inl _ => false
  | .inr a, .inr b => decide (a < b)
def lexT : List (Int ⊕ List Nat) → List (Int ⊕ List Nat) → Bool
  | [], [] => false
  | [], _ :: _ => true
  | _ :: _, [] => false
  | x :: r, y :: t => tkLt x y || (!tkLt y x && lexT r t)
def leD (x y : D) : Bool := !lexT (tkD y) (tkD x)
def isTupN : D → Bool
  | .tup (_ :: _) => true
  | _ => false
/-- tuples that can be sorted -/
def sortable (xs : List D) : Bool := xs.all isTupN && xs.all (fun x => xs.all (likD x)) && D.shps 60 xs
/-- < of two lists of ints -/
def lexI : List Int → List Int → Bool
  | [], [] => false
  | [], _ :: _ => true
  | _ :: _, [] => false
  | x :: xs, y :: ys => if x = y then lexI xs ys else decide (x < y)

/-! ### counts of the endings of payloads -/
def cntN (L : Int) : Nat → Int → Int → Int
  | 0, _, z => if z = 0 then 1 else 0
  | l + 1, r, z => if z < 0 then 0 else cntN L l 0 z + (if r + 1 = L then cntN L l 0 (z - 1) else cntN L l (r + 1) z)
/-- Counter(limit), where the limit is L0 -/
def newC (L0 : Int) : List D → R D
  | [.int L] => if L = L0 then .ok (.cnt L) else .stuck
  | _ => .stuck
/-- the run of ones behind a bit, and the zeros behind it -/
def behC : List D → R D
  | [.cnt L, .int r, .str b] => if b = [48] then .ok (.tup [.int 0, .int 0]) else if r + 1 = L then .ok (.tup [.int 0, .int 1]) else .ok (.tup [.int (r + 1), .int 0])
  | _ => .stuck
/-- what is counted where less than n bits are left -/
def cntC (n : Nat) : List D → R D
  | [.cnt L, .int l, .int r, .int z] => R.when ((0 ≤ l ∧ l < n) ∧ (0 ≤ r ∧ r + l ≤ 100) ∧ -1000 ≤ z ∧ z ≤ 100) (.ok (.int (if z < 0 then 0 else cntN L l.toNat r z)))
  | _ => .stuck

/-! ### operators -/
def intsOf : List D → Option (List Int)
  | [] => some []
  | .int i :: xs => (intsOf xs).map (i :: ·)
  | _ :: _ => none
inductive O2 where
  | add | sub | mul | div | mod | pow | eq | ne | lt | le | gt | ge | isin | notin | ix | is | isnt
  /-- <= of two texts -/
  | leS
  deriving DecidableEq

def ixN (n : Nat) (i : Int) : Option Nat := if 0 ≤ i then (if i < n then some i.toNat else none) else if -(n : Int) ≤ i then some (i + n).toNat else none
def atI {α : Type} (xs : List α) (i : Int) : Option α := (ixN xs.length i).bind fun j => xs[j]?
def sIx (n d : Nat) : Option Int → Nat
  | none => d
  | some v => if v < 0 then (v + (n : Int)).toNat else min v.toNat n
def cut {α : Type} (xs : List α) (lo hi : Option Int) : List α := (xs.drop (sIx xs.length 0 lo)).take (sIx xs.length xs.length hi - sIx xs.length 0 lo)
abbrev small (i : Int) : Prop := -18446744073709551616 < i ∧ i < 18446744073709551616
def inL (x : D) (xs : List D) : Bool := xs.any fun y => D.eqv y x

def addD : D → D → R D
  | .int i, .int j => .ok (.int (i + j))
  | .str x, .str y => R.when (x.length + y.length ≤ line) (.ok (.str (x ++ y)))
  | .lst x, .lst y => R.when (x.length + y.length ≤ line) (.ok (.lst (x ++ y)))
  | .tup x, .tup y => R.when (0 < x.length ∧ x.length + y.length ≤ line) (.ok (.tup (x ++ y)))
  | _, _ => .stuck
def subD : D → D → R D
  | .int i, .int j => .ok (.int (i - j))
  | _, _ => .stuck
def repL {α : Type} (xs : List α) (k : Nat) : List α := (List.replicate k xs).flatten
def mulD : D → D → R D
  | .int i, .int j => R.when (small i ∨ small j) (.ok (.int (i * j)))
  | .str x, .int k => R.when (-(2 ^ 62) < k ∧ k < 16777217 ∧ x.length * k.toNat ≤ line) (.ok (.str (repL x k.toNat)))
  | .lst x, .int k => R.when (-(2 ^ 62) < k ∧ k < 16777217 ∧ x.length * k.toNat ≤ line) (.ok (.lst (repL x k.toNat)))
  | _, _ => .stuck
def divD : D → D → R D
  | .int i, .int j => R.when (0 < j ∧ j < 1073741824) (.ok (.int (i / j)))
  | _, _ => .stuck
def modD : D → D → R D
  | .int i, .int j => R.when (0 < j) (.ok (.int (i % j)))
  | _, _ => .stuck
def powD : D → D → R D
  | .int i, .int j => R.when (0 ≤ j ∧ j ≤ 1000000 ∧ small i) (.ok (.int (i ^ j.toNat)))
  | _, _ => .stuck
def cmpD (f : Int → Int → Bool) : D → D → R D
  | .int i, .int j => .ok (.bl (f i j))
  | _, _ => .stuck
def gtD : D → D → R D
  | .int i, .int j => .ok (.bl (decide (j < i)))
  | .tup [.int a, .int b], .tup [.int c, .int d] => .ok (.bl (if a = c then decide (d < b) else decide (c < a)))
  | _, _ => .stuck
def eqD : D → D → R D
  | .int i, .int j => .ok (.bl (i == j))
  | .str x, .str y => .ok (.bl (x == y))
  | .bl x, .bl y => .ok (.bl (x == y))
  | x, y => R.when (D.shp 60 x = true ∧ D.shp 60 y = true) (.ok (.bl (D.eqv x y)))
def neD : D → D → R D
  | .int i, .int j => .ok (.bl (!(i == j)))
  | .str x, .str y => .ok (.bl (!(x == y)))
  | .bl x, .bl y => .ok (.bl (!(x == y)))
  | x, y => R.when (D.shp 60 x = true ∧ D.shp 60 y = true) (.ok (.bl (!D.eqv x y)))
def ltD : D → D → R D
  | .int i, .int j => .ok (.bl (decide (i < j)))
  | .lst xs, .lst ys => (R.ofO (intsOf xs)).bind fun ns => (R.ofO (intsOf ys)).bind fun ms => .ok (.bl (lexI ns ms))
  | _, _ => .stuck
def inD : D → D → R D
  | x, .lst xs => if D.flat x = true ∧ xs.all D.flat = true then .ok (.bl (inL x xs)) else R.when (D.shp 60 x = true ∧ D.shp 60 (.lst xs) = true) (.ok (.bl (inL x xs)))
  | x, .tup xs => R.when (D.flat x = true ∧ xs.all D.flat = true) (.ok (.bl (inL x xs)))
  | _, _ => .stuck
def ninD : D → D → R D
  | x, .lst xs => if D.flat x = true ∧ xs.all D.flat = true then .ok (.bl (!inL x xs)) else R.when (D.shp 60 x = true ∧ D.shp 60 (.lst xs) = true) (.ok (.bl (!inL x xs)))
  | x, .tup xs => R.when (D.flat x = true ∧ xs.all D.flat = true) (.ok (.bl (!inL x xs)))
  | .str [c], .str s => .ok (.bl (!s.contains c))
  | _, _ => .stuck
/-- <= of two texts -/
def leSD : D → D → R D
  | .str x, .str y => .ok (.bl (!decide (y < x)))
  | _, _ => .stuck
def ixD : D → D → R D
  | .lst xs, .int i => R.ofO (atI xs i)
  | .scr xs, .int i => (R.ofO (atI xs i)).bind fun n => .ok (.int n)
  | .tup xs, .int i => R.ofO (atI xs i)
  | .str s, .int i => R.when (s.length ≤ line) ((R.ofO (atI s i)).bind fun c => .ok (.str [c]))
  | _, _ => .stuck
/-- is, is not: of truths alone -/
def isD : D → D → R D
  | .bl a, .bl b => .ok (.bl (a == b))
  | _, _ => .stuck
def isntD : D → D → R D
  | .bl a, .bl b => .ok (.bl (!(a == b)))
  | _, _ => .stuck
def op2 : O2 → D → D → R D
  | .add => addD
  | .sub => subD
  | .mul => mulD
  | .div => divD
  | .mod => modD
  | .pow => powD
  | .eq => eqD
  | .ne => neD
  | .lt => ltD
  | .le => cmpD fun i j => decide (i ≤ j)
  | .gt => gtD
  | .ge => cmpD fun i j => decide (j ≤ i)
  | .isin => inD
  | .notin => ninD
  | .ix => ixD
  | .is => isD
  | .isnt => isntD
  | .leS => leSD
def negD : D → R D
  | .int i => .ok (.int (-i))
  | _ => .stuck
def sliceD : D → Option Int → Option Int → R D
  | .lst xs, lo, hi => .ok (.lst (cut xs lo hi))
  | .tup xs, lo, hi => .ok (.tup (cut xs lo hi))
  | .str s, lo, hi => R.when (s.length ≤ line) (.ok (.str (cut s lo hi)))
  | _, _, _ => .stuck
def revD : D → R D
  | .str s => R.when (s.length ≤ line) (.ok (.str s.reverse))
  | .lst xs => .ok (.lst xs.reverse)
  | _ => .stuck

/-! ### built-in functions -/
inductive Bl where
  | len | max | min | abs | int | str | sum | sorted | list | tuple | join | split | strip | index | count | any
  deriving DecidableEq
/-- a method -/
def isM : Bl → Bool
  | .join => true
  | .split => true
  | .strip => true
  | .index => true
  | .count => true
  | _ => false
inductive Ty where
  | int | bool | str | list | tuple
  deriving DecidableEq
def isTy : Ty → D → Bool
  | .int, .int _ => true
  | .int, .bl _ => true
  | .bool, .bl _ => true
  | .str, .str _ => true
  | .list, .lst _ => true
  | .list, .scr _ => true
  | .tuple, .tup _ => true
  | _, _ => false
def isTyR (t : Ty) : D → R D
  | .cnt _ => .stuck
  | x => .ok (.bl (isTy t x))
theorem isTyR_ok {t : Ty} {x d : D} (h : isTyR t x = .ok d) : (∀ L, x ≠ .cnt L) ∧ d = .bl (isTy t x) := by
  cases x with
  | cnt L => cases h
  | non => cases h; exact ⟨(fun _ q => nomatch q), rfl⟩
  | bl _ => cases h; exact ⟨(fun _ q => nomatch q), rfl⟩
  | int _ => cases h; exact ⟨(fun _ q => nomatch q), rfl⟩
  | str _ => cases h; exact ⟨(fun _ q => nomatch q), rfl⟩
  | tup _ => cases h; exact ⟨(fun _ q => nomatch q), rfl⟩
  | lst _ => cases h; exact ⟨(fun _ q => nomatch q), rfl⟩
  | scr _ => cases h; exact ⟨(fun _ q => nomatch q), rfl⟩
def blsOf : List D → Option (List Bool)
  | [] => some []
  | .bl i :: xs => (blsOf xs).map (i :: ·)
  | _ :: _ => none
def strsOf : List D → Option (List (List Nat))
  | [] => some []
  | .str i :: xs => (strsOf xs).map (i :: ·)
  | _ :: _ => none
/-- the decimal digits of an int, as codes -/
def showI (i : Int) : List Nat := (toString i).toList.map Char.toNat
def maxL : Int → List Int → Int
  | m, [] => m
  | m, x :: xs => maxL (if x > m then x else m) xs
def minL : Int → List Int → Int
  | m, [] => m
  | m, x :: xs => minL (if x < m then x else m) xs
def insI (x : Int) : List Int → List Int
  | [] => [x]
  | y :: ys => if x ≤ y then x :: y :: ys else y :: insI x ys
def sortI : List Int → List Int
  | [] => []
  | x :: xs => insI x (sortI xs)
def joinL (sep : List Nat) : List (List Nat) → List Nat
  | [] => []
  | [x] => x
  | x :: y :: xs => x ++ sep ++ joinL sep (y :: xs)
def iterD : D → R (List D)
  | .lst xs => .ok xs
  | .tup xs => .ok xs
  | .scr ns => .ok (ns.map D.int)
  | .str s => R.when (s.length ≤ line) (.ok (s.map fun c => .str [c]))
  | _ => .stuck
def totalLen (xs : List (List Nat)) : Nat := (xs.map fun x => x.length + 1).sum
/-- splitting at one sign -/
def splitL (c : Nat) : List Nat → List (List Nat)
  | [] => [[]]
  | x :: xs => if x = c then [] :: splitL c xs else match splitL c xs with
    | [] => [[x]]
    | y :: ys => (x :: y) :: ys
def lenB : List D → R D
  | [.lst xs] => .ok (.int xs.length)
  | [.tup xs] => .ok (.int xs.length)
  | [.scr xs] => .ok (.int xs.length)
  | [.str s] => R.when (s.length ≤ line) (.ok (.int s.length))
  | _ => .stuck
def most1 (f : Int → List Int → Int) : Option (List Int) → R D
  | some (m :: ns) => .ok (.int (f m ns))
  | _ => .stuck
def maxB : List D → R D
  | [.int i, .int j] => .ok (.int (if j > i then j else i))
  | [.int i, .int j, .int k] => .ok (.int (if j > i then (if k > j then k else j) else (if k > i then k else i)))
  | [.lst xs] => most1 maxL (intsOf xs)
  | [.tup xs] => most1 maxL (intsOf xs)
  | _ => .stuck
/-- three ints in a tuple; lists of them -/
def trip : D → Option (Int × Int × Int)
  | .tup [.int a, .int b, .int c] => some (a, b, c)
  | _ => none
def trips : List D → Option (List (Int × Int × Int))
  | [] => some []
  | x :: xs => match trip x, trips xs with
    | some t, some ts => some (t :: ts)
    | _, _ => none
def tD (t : Int × Int × Int) : D := .tup [.int t.1, .int t.2.1, .int t.2.2]
def tL (t : Int × Int × Int) : List Int := [t.1, t.2.1, t.2.2]
def minT : Int × Int × Int → List (Int × Int × Int) → Int × Int × Int
  | m, [] => m
  | m, t :: ts => minT (if tL t < tL m then t else m) ts
def minB : List D → R D
  | [.int i, .int j] => .ok (.int (if j < i then j else i))
  | [.lst xs] => match trips xs with
    | some (t :: ts) => .ok (tD (minT t ts))
    | _ => most1 minL (intsOf xs)
  | [.tup xs] => most1 minL (intsOf xs)
  | _ => .stuck
def sumB : List D → R D
  | [.lst xs] => (R.ofO (intsOf xs)).bind fun ns => .ok (.int ns.sum)
  | [.tup xs] => (R.ofO (intsOf xs)).bind fun ns => .ok (.int ns.sum)
  | _ => .stuck
def sortedB : List D → R D
  | [.lst xs] => match intsOf xs with
    | some ns => .ok (.lst ((sortI ns).map D.int))
    | none => R.when (sortable xs = true) (.ok (.lst (xs.mergeSort leD)))
  | _ => .stuck
def absB : List D → R D
  | [.int i] => .ok (.int (if i < 0 then -i else i))
  | _ => .stuck
def isDig (c : Nat) : Bool := decide (48 ≤ c) && decide (c ≤ 57)
/-- what decimal digits write -/
def dval (s : List Nat) : Nat := s.foldl (fun a c => 10 * a + (c - 48)) 0
def intB : List D → R D
  | [.int i] => .ok (.int i)
  | [.bl b] => .ok (.int (if b then 1 else 0))
  | [.str s] => if s = [48] then .ok (.int 0) else if s = [49] then .ok (.int 1) else R.when (s ≠ [] ∧ s.all isDig = true ∧ s.length ≤ 600) (.ok (.int (dval s)))
  | _ => .stuck
def strB : List D → R D
  | [.int i] => R.when (-10000000000 < i ∧ i < 10000000000) (.ok (.str (showI i)))
  | _ => .stuck
def listB : List D → R D
  | [.lst xs] => .ok (.lst xs)
  | [.tup xs] => .ok (.lst xs)
  | _ => .stuck
def tupleB : List D → R D
  | [.lst xs] => .ok (.tup xs)
  | [.tup xs] => .ok (.tup xs)
  | _ => .stuck
def joinB : List D → R D
  | [.str s, .lst xs] => (R.ofO (strsOf xs)).bind fun ys => R.when (s.length * ys.length + totalLen ys ≤ line) (.ok (.str (joinL s ys)))
  | _ => .stuck
def splitB : List D → R D
  | [.str s, .str [c]] => R.when (s.length + 2 ≤ line) (.ok (.lst ((splitL c s).map D.str)))
  | _ => .stuck
/-- one sign taken off at both ends -/
def stripL (c : Nat) (s : List Nat) : List Nat := ((s.dropWhile (· == c)).reverse.dropWhile (· == c)).reverse
def stripB : List D → R D
  | [.str s, .str [c]] => R.when (s.length ≤ line) (.ok (.str (stripL c s)))
  | _ => .stuck
def indexB : List D → R D
  | [.lst xs, .int k] => (R.ofO (intsOf xs)).bind fun ns => R.ofO ((ns.findIdx? (· == k)).map fun (j : Nat) => .int j)
  | _ => .stuck
def countB : List D → R D
  | [.lst xs, .int k] => (R.ofO (intsOf xs)).bind fun ns => .ok (.int (ns.count k))
  | [.lst xs, .bl k] => (R.ofO (blsOf xs)).bind fun ns => .ok (.int (ns.count k))
  | _ => .stuck
def anyB : List D → R D
  | [.lst xs] => (R.ofO (blsOf xs)).bind fun bs => .ok (.bl (bs.any id))
  | _ => .stuck
def blt : Bl → List D → R D
  | .len => lenB
  | .max => maxB
  | .min => minB
  | .sum => sumB
  | .sorted => sortedB
  | .abs => absB
  | .int => intB
  | .str => strB
  | .list => listB
  | .tuple => tupleB
  | .join => joinB
  | .split => splitB
  | .strip => stripB
  | .index => indexB
  | .count => countB
  | .any => anyB

/-! ### all(test for x in ..): the tests -/
inductive GT where
  | minGe | lt | dig
  deriving DecidableEq
def gt1 : GT → D → Option Bool
  | .minGe, .tup [.int i, .int j] => some (decide (0 ≤ i) && decide (0 ≤ j))
  | .lt, .tup [.int i, .int j] => some (decide (i < j))
  | .dig, .str [c] => some (decide (48 ≤ c) && decide (c ≤ 57))
  | _, _ => none
def gtAll (g : GT) : List D → R D
  | [] => .ok (.bl true)
  | x :: xs => (R.ofO (gt1 g x)).bind fun b => (gtAll g xs).bind fun c => match c with
    | .bl c => .ok (.bl (b && c))
    | _ => .stuck

/-! ### the texts -/
inductive Tg where
  | one (i : Nat) | many (is : List Nat) | pair (i : Nat) (js : List Nat) | two (is js : List Nat)
  deriving DecidableEq
/-- a constant of the module -/
inductive GC where
  | int (i : Int) | ints (is : List Int)
  deriving DecidableEq
/-- a constant that is written -/
inductive CV where
  | int (i : Int) | str (s : List Nat)
def CV.d : CV → D
  | .int i => .int i
  | .str s => .str s
/-- what a written dict holds at a key: the later one wins -/
def dfind : Option CV → List (List Nat × CV) → List Nat → Option CV
  | o, [], _ => o
  | o, (k, v) :: ps, s => dfind (if s = k then some v else o) ps s
def dselD (ps : List (List Nat × CV)) : D → R D
  | .str s => (R.ofO (dfind none ps s)).bind fun v => .ok v.d
  | _ => .stuck
mutual
inductive IE where
  | var (i : Nat) | glob (i : Int) | globT (is : List Int) | non | bl (b : Bool) | int (i : Int) | str (s : List Nat)
  | op2 (o : O2) (a b : IE) | neg (a : IE) | not (a : IE) | and (a b : IE) | or (a b : IE)
  | ite (c a b : IE) | chain (o p : O2) (a b c : IE) | chain3 (a b c d : IE) | chain3e (a b c d : IE) | isN (a : IE) | notN (a : IE)
  | slice (a lo hi : IE) | rev (a : IE) | tup (es : IEs) | lst (es : IEs)
  | call (f : Nat) (es : IEs) | blt (b : Bl) (es : IEs) | isinst (t : Ty) (a : IE) | rangeL (es : IEs)
  | comp (it : Itr) (tg : Tg) (elt : IE) (own : List Nat)
  | compIf (it : Itr) (tg : Tg) (c elt : IE) (own : List Nat)
  | comp2 (it : Itr) (i : Nat) (b : IE) (j : Nat) (elt : IE) (own : List Nat)
  | allMin (a : IE) | allLt (a b : IE) | allDig (a : IE)
  | allMod (i : Nat) (a : IE) | min0 (a : IE)
  /-- 's' * m + a.replace('c', 'r') -/
  | mulRep (s : List Nat) (m a : IE) (c : Nat) (r : List Nat)
  /-- 's' + a.replace('c', 'r') -/
  | addRep (s : List Nat) (a : IE) (c : Nat) (r : List Nat)
  /-- a written dict's value at a key -/
  | dsel (ps : List (List Nat × CV)) (e : IE)
  | ixo (i : Nat) (k : IE)
  | fmt (e : IE) | fstr (es : IEs)
inductive IEs where
  | nil | cons (e : IE) (es : IEs)
inductive Itr where
  | seq (e : IE) | rng (es : IEs) | enm (e : IE) | zip (a b : IE)
end
def IEs.of : List IE → IEs
  | [] => .nil
  | e :: es => .cons e (IEs.of es)

/-- what a name holds: nothing, data that nobody changes, or a list that this name alone holds -/
inductive Slot where
  | no | val (d : D) | own (ds : List D)
abbrev Env := List Slot

/-- an item of what a name holds: an own list stays its own -/
def ixoD (s : Option Slot) (kd : D) : R D := match s with
  | some (.own ds) => ixD (.lst ds) kd
  | some (.val d) => ixD d kd
  | _ => .stuck
def look (z : Nat → Bool) (ρ : Env) (i : Nat) : R D := match ρ[i]? with
  | some (.val d) => .ok d
  | some (.own ds) => if z i then .ok (.lst ds) else .stuck
  | _ => .stuck
def setAll : List Nat → List D → Env → Option Env
  | [], [], ρ => some ρ
  | i :: is, d :: ds, ρ => setAll is ds (ρ.set i (.val d))
  | _, _, _ => none
def bindTg : Tg → D → Env → Option Env
  | .one i, d, ρ => some (ρ.set i (.val d))
  | .many is, .tup ds, ρ => setAll is ds ρ
  | .pair i js, .tup [d, .tup ds], ρ => setAll js ds (ρ.set i (.val d))
  | .two is js, .tup [.tup ds, .tup es], ρ => (setAll is ds ρ).bind fun ρ1 => setAll js es ρ1
  | _, _, _ => none
def wipeE (ρ : Env) : List Nat → Env
  | [] => ρ
  | v :: vs => (wipeE ρ vs).set v .no
def compGo2 (f : D → R (List D)) : List D → R (List D)
  | [] => .ok []
  | x :: xs => (f x).bind fun ys => (compGo2 f xs).bind fun zs => .ok (ys ++ zs)
def asLst : D → R (List D)
  | .lst ys => R.when (ys.length ≤ line) (.ok ys)
  | _ => .stuck
def compGo (f : D → R (Option D)) : List D → R (List D)
  | [] => .ok []
  | x :: xs => (f x).bind fun o => (compGo f xs).bind fun ys => .ok (match o with
    | some y => y :: ys
    | none => ys)
/-- the ints from i on, n of them, by steps of c -/
def rangeD (i c : Int) : Nat → List D
  | 0 => []
  | n + 1 => .int i :: rangeD (i + c) c n
abbrev bnd (i : Int) : Prop := -4611686018427387904 ≤ i ∧ i < 4611686018427387904
def rng : List D → R (List D)
  | [.int n] => R.when (-4611686018427387904 ≤ n ∧ n ≤ 16777216) (.ok (rangeD 0 1 n.toNat))
  | [.int i, .int n] => R.when (bnd i ∧ bnd n ∧ n - i ≤ 16777216) (.ok (rangeD i 1 (n - i).toNat))
  | _ => .stuck
def rng3 : List D → R (List D)
  | [.int i, .int n, .int c] => if c = -1 then R.when (bnd i ∧ bnd n ∧ i - n ≤ 16777216) (.ok (rangeD i (-1) (i - n).toNat))
    else R.when (0 < c ∧ c < 1073741824 ∧ bnd i ∧ bnd n ∧ n - i ≤ 16777216) (.ok (rangeD i c (if i < n then (n - i - 1) / c + 1 else 0).toNat))
  | xs => rng xs
def enumD : Nat → List D → List D
  | _, [] => []
  | k, x :: xs => .tup [.int k, x] :: enumD (k + 1) xs
def zipD : List D → List D → List D
  | x :: xs, y :: ys => .tup [x, y] :: zipD xs ys
  | _, _ => []
def enumI : D → R (List D)
  | .lst xs => .ok xs
  | .tup xs => .ok xs
  | .scr ns => .ok (ns.map D.int)
  | .str s => R.when (s.length ≤ line) (.ok (s.map fun c => .str [c]))
  | _ => .stuck
def zipI : D → D → R (List D)
  | .lst xs, .lst ys => .ok (zipD xs ys)
  | _, _ => .stuck
def allMinD : D → R D
  | .lst ds => gtAll .minGe ds
  | _ => .stuck
def allLtD : D → D → R D
  | .lst ds, .lst es => gtAll .lt (zipD ds es)
  | _, _ => .stuck
def allDigD : D → R D
  | .str t => R.when (t.length ≤ line) (gtAll .dig (t.map fun c => .str [c]))
  | _ => .stuck
/-- all(x % n == 0 for x in ..), n a name of the def -/
def allModD (s : Option Slot) : D → R D
  | .lst ds => match s with
    | some (.val (.int n)) => (R.ofO (intsOf ds)).bind fun ns => R.when (0 < n) (.ok (.bl (ns.all fun x => x % n == 0)))
    | _ => .stuck
  | _ => .stuck
/-- x.replace(c, r), c one sign -/
def replL (c : Nat) (r s : List Nat) : List Nat := s.flatMap fun x => if x = c then r else [x]
def replD (c : Nat) (r : List Nat) : D → R D
  | .str s => R.when (s.length + (s.length + 1) * r.length ≤ 16777216 ∧ r ≠ [c]) (.ok (.str (replL c r s)))
  | _ => .stuck
/-- min(.., default=0) of ints -/
def min0D : D → R D
  | .lst ds => (R.ofO (intsOf ds)).bind fun ns => match ns with
    | [] => .ok (.int 0)
    | m :: ns => .ok (.int (minL m ns))
  | _ => .stuck
/-- {e} in an f-string, and the f-string -/
def fmtD : D → R D
  | .str s => R.when (s.length ≤ line) (.ok (.str s))
  | .int i => R.when (-10000000000 < i ∧ i < 10000000000) (.ok (.str (showI i)))
  | _ => .stuck
def fstrD (ds : List D) : R D := (R.ofO (strsOf ds)).bind fun ss => R.when (ss.flatten.length ≤ line) (.ok (.str ss.flatten))
def isNon : IE → Bool
  | .non => true
  | _ => false
def partO (n : Bool) : D → R (Option Int)
  | .non => if n = true then .ok none else .stuck
  | .int i => .ok (some i)
  | _ => .stuck

section
variable (F : List (List D → R D)) (z : Nat → Bool)
mutual
def evE (ρ : Env) : IE → R D
  | .var i => look z ρ i
  | .glob i => .ok (.int i)
  | .globT is => .ok (.tup (is.map D.int))
  | .non => .ok .non
  | .bl b => .ok (.bl b)
  | .int i => .ok (.int i)
  | .str s => .ok (.str s)
  | .op2 o a b => (evE ρ a).bind fun x => (evE ρ b).bind fun y => op2 o x y
  | .neg a => (evE ρ a).bind negD
  | .not a => ((evE ρ a).bind tst).bind fun t => .ok (.bl (!t))
  | .and a b => (evE ρ a).bind fun x => (tst x).bind fun t => if t = true then evE ρ b else .ok x
  | .or a b => (evE ρ a).bind fun x => (tst x).bind fun t => if t = true then .ok x else evE ρ b
  | .ite c a b => ((evE ρ c).bind tst).bind fun t => if t = true then evE ρ a else evE ρ b
  | .chain o p a b c => (evE ρ a).bind fun x => (evE ρ b).bind fun y => (op2 o x y).bind fun t => match t with
    | .bl true => (evE ρ c).bind fun w => op2 p y w
    | .bl false => .ok (.bl false)
    | _ => .stuck
  | .chain3 a b c d => (evE ρ a).bind fun x => (evE ρ b).bind fun y => (op2 .le x y).bind fun t => match t with
    | .bl true => (evE ρ c).bind fun w => (cmpD (fun i j => decide (i < j)) y w).bind fun t2 => match t2 with
      | .bl true => (evE ρ d).bind fun v => cmpD (fun i j => decide (i < j)) w v
      | .bl false => .ok (.bl false)
      | _ => .stuck
    | .bl false => .ok (.bl false)
    | _ => .stuck
  | .chain3e a b c d => (evE ρ a).bind fun x => (evE ρ b).bind fun y => (op2 .le x y).bind fun t => match t with
    | .bl true => (evE ρ c).bind fun w => (cmpD (fun i j => decide (i ≤ j)) y w).bind fun t2 => match t2 with
      | .bl true => (evE ρ d).bind fun v => cmpD (fun i j => decide (i ≤ j)) w v
      | .bl false => .ok (.bl false)
      | _ => .stuck
    | .bl false => .ok (.bl false)
    | _ => .stuck
  | .isN a => (evE ρ a).bind fun x => .ok (.bl x.isNon)
  | .notN a => (evE ρ a).bind fun x => .ok (.bl (!x.isNon))
  | .slice a lo hi => (evE ρ a).bind fun x => (evE ρ lo).bind fun l => (partO (isNon lo) l).bind fun l => (evE ρ hi).bind fun h => (partO (isNon hi) h).bind fun h => sliceD x l h
  | .rev a => (evE ρ a).bind revD
  | .tup es => (evEs ρ es).bind fun xs => R.when (xs.length ≤ line) (.ok (.tup xs))
  | .lst es => (evEs ρ es).bind fun xs => R.when (xs.length ≤ line) (.ok (.lst xs))
  | .call f es => (evEs ρ es).bind fun xs => match F[f]? with
    | some g => g xs
    | none => .stuck
  | .blt b es => (evEs ρ es).bind (blt b)
  | .isinst t a => (evE ρ a).bind (isTyR t)
  | .rangeL es => (evEs ρ es).bind fun xs => (rng xs).bind fun ys => .ok (.lst ys)
  | .comp it tg e own => (evI ρ it).bind fun xs => R.when (xs.length ≤ line) ((compGo (fun x => (R.ofO (bindTg tg x (wipeE ρ own))).bind fun ρ' => (evE ρ' e).bind fun y => .ok (some y)) xs).bind fun ys => .ok (.lst ys))
  | .compIf it tg c e own => (evI ρ it).bind fun xs => R.when (xs.length ≤ line) ((compGo (fun x => (R.ofO (bindTg tg x (wipeE ρ own))).bind fun ρ' => ((evE ρ' c).bind tst).bind fun t =>
      if t = true then (evE ρ' e).bind fun y => .ok (some y) else .ok none) xs).bind fun ys => .ok (.lst ys))
  | .comp2 it i b j e own => (evI ρ it).bind fun xs => R.when (xs.length ≤ line) ((compGo2 (fun x => ((evE ((wipeE ρ own).set i (.val x)) b).bind asLst).bind fun ys => compGo (fun y => (evE (((wipeE ρ own).set i (.val x)).set j (.val y)) e).bind fun u => .ok (some u)) ys) xs).bind fun zs => R.when (zs.length ≤ line) (.ok (.lst zs)))
  | .allMin a => (evE ρ a).bind allMinD
  | .allLt a b => (evE ρ a).bind fun x => (evE ρ b).bind fun y => allLtD x y
  | .allDig a => (evE ρ a).bind allDigD
  | .allMod i a => (evE ρ a).bind (allModD (ρ[i]?))
  | .min0 a => (evE ρ a).bind min0D
  | .mulRep s m a c r => (evE ρ m).bind fun k => (mulD (.str s) k).bind fun x => (evE ρ a).bind fun y => (replD c r y).bind fun w => addD x w
  | .addRep s a c r => (evE ρ a).bind fun y => (replD c r y).bind fun w => addD (.str s) w
  | .dsel ps e => (evE ρ e).bind (dselD ps)
  | .ixo i k => (evE ρ k).bind fun kd => ixoD (ρ[i]?) kd
  | .fmt e => (evE ρ e).bind fmtD
  | .fstr es => (evEs ρ es).bind fstrD
def evEs (ρ : Env) : IEs → R (List D)
  | .nil => .ok []
  | .cons e es => (evE ρ e).bind fun x => (evEs ρ es).bind fun xs => .ok (x :: xs)
def evI (ρ : Env) : Itr → R (List D)
  | .seq e => (evE ρ e).bind iterD
  | .rng es => (evEs ρ es).bind rng3
  | .enm e => (evE ρ e).bind fun x => (enumI x).bind fun xs => .ok (enumD 0 xs)
  | .zip a b => (evE ρ a).bind fun x => (evE ρ b).bind fun y => zipI x y
end
end

/-- a piece whose call may raise -/
inductive XE where
  | call (f : Nat) (es : IEs) | blt1 (b : Bl) (x : XE) | op2R (o : O2) (a : IE) (x : XE) | isN (x : XE) | notN (x : XE)
  | ixX (x : XE) (k : Int)
/-- the suite behind a try -/
inductive Hd where
  | what
  | same (w : Nat) (s : List Nat)
mutual
inductive IS where
  | asg (i : Nat) (e : IE) (fz : List Nat)
  | asgL (i : Nat) (e : IE) (fz : List Nat)
  | unp (is : List Nat) (e : IE) (fz : List Nat)
  | unpG (tg : Tg) (e : IE) (fz : List Nat)
  | unpL (is : List Nat) (e : IE) (fz : List Nat)
  | ext (i : Nat) (e : IE) (fz : List Nat)
  | par (i j : Nat) (a b : IE) (fz : List Nat)
  | app (i : Nat) (e : IE)
  | appL (i : Nat) (e : IE) (fz : List Nat)
  | popx (i : Nat)
  | setx (i : Nat) (k e : IE)
  | expr (e : IE)
  | ret (e : IE) (fz : List Nat)
  | retN
  | ite (c : IE) (a b : ISs)
  | forr (it : Itr) (tg : Tg) (body : ISs) (fz : List Nat)
  | whl (c : IE) (body : ISs) (fuel : Nat)
  | brk | cont | pass
  /-- raise: never reached -/
  | raisN
  | raisE (e : IE)
  /-- raise BadTrace(a, b) -/
  | raisB (a b : IE)
  | exprX (x : XE)
  | asgX (i : Nat) (x : XE) (fz : List Nat)
  | unpX (is : List Nat) (x : XE) (fz : List Nat)
  | unpXL (is : List Nat) (x : XE) (fz : List Nat)
  | appX (i : Nat) (x : XE)
  | retX (x : XE) (fz : List Nat)
  | iteX (x : XE) (a b : ISs)
  | tryE (body : ISs) (i : Nat) (h : Hd)
  /-- except BadTrace as i: not what is due by w, or just that -/
  | tryB (body : ISs) (i w : Nat)
inductive ISs where
  | nil | cons (s : IS) (ss : ISs)
end
def ISs.of : List IS → ISs
  | [] => .nil
  | e :: es => .cons e (ISs.of es)

inductive RS where
  | next (ρ : Env) | ret (d : D) | brk (ρ : Env) | cont (ρ : Env) | exc (ρ : Env) (c : Nat) (xs : List D) | stuck

def RS.of {α : Type} (r : R α) (f : α → RS) : RS := match r with
  | .ok a => f a
  | .exc _ _ => .stuck
  | .stuck => .stuck
/-- where what is raised goes on -/
def RS.ofX (ρ : Env) (r : R D) (f : D → RS) : RS := match r with
  | .ok a => f a
  | .exc c xs => .exc ρ c xs
  | .stuck => .stuck
@[simp] theorem RS.ofX_ok (ρ : Env) (a : D) (f : D → RS) : RS.ofX ρ (.ok a) f = f a := Eq.trans rfl rfl
@[simp] theorem RS.ofX_exc (ρ : Env) (c : Nat) (xs : List D) (f : D → RS) : RS.ofX ρ (.exc c xs) f = .exc ρ c xs := Eq.trans rfl rfl
/-- bind where nothing may be raised -/
def R.calm {α β : Type} (r : R α) (f : α → R β) : R β := match r with
  | .ok a => f a
  | .exc _ _ => .stuck
  | .stuck => .stuck
@[simp] theorem R.calm_ok {α β : Type} (a : α) (f : α → R β) : (R.ok a).calm f = f a := Eq.trans rfl rfl
theorem R.calm_eq_ok {α β : Type} {r : R α} {f : α → R β} {b : R β} (h : r.calm f = b) (hb : b ≠ .stuck) : ∃ a, r = .ok a ∧ f a = b := by
  cases r with
  | ok a => exact ⟨a, rfl, h⟩
  | exc c xs => exact absurd h.symm hb
  | stuck => exact absurd h.symm hb
@[simp] theorem RS.of_ok {α : Type} (a : α) (f : α → RS) : RS.of (.ok a) f = f a := Eq.trans rfl rfl
def RS.ofO {α : Type} (r : Option α) (f : α → RS) : RS := match r with
  | some a => f a
  | none => .stuck
@[simp] theorem RS.ofO_some {α : Type} (a : α) (f : α → RS) : RS.ofO (some a) f = f a := Eq.trans rfl rfl
/-- names that are named hold from now on what nobody changes -/
def frz (fz : List Nat) (ρ : Env) : Env := match fz with
  | [] => ρ
  | i :: fz => match (frz fz ρ)[i]? with
    | some (.own ds) => (frz fz ρ).set i (.val (.lst ds))
    | _ => frz fz ρ
/-- behind d is kept somewhere -/
def kept (fz : List Nat) (d : D) (ρ : Env) : Env := if d.nol = true then ρ else frz fz ρ
def zAll : Nat → Bool := fun _ => true
def zOf (fz : List Nat) : Nat → Bool := fun i => fz.contains i
def getOwn (ρ : Env) (i : Nat) : Option (List D) := match ρ[i]? with
  | some (.own ds) => some ds
  | _ => none
def forGo (step : D → Env → RS) : List D → Env → RS
  | [], ρ => .next ρ
  | x :: xs, ρ => match step x ρ with
    | .next ρ' => forGo step xs ρ'
    | .cont ρ' => forGo step xs ρ'
    | .brk ρ' => .next ρ'
    | .ret d => .ret d
    | .exc ρ c xs => .exc ρ c xs
    | .stuck => .stuck
def whlGo (cond : Env → R Bool) (step : Env → RS) : Nat → Env → RS
  | 0, _ => .stuck
  | n + 1, ρ => RS.of (cond ρ) fun t => if t = true then (match step ρ with
    | .next ρ' => whlGo cond step n ρ'
    | .cont ρ' => whlGo cond step n ρ'
    | .brk ρ' => .next ρ'
    | .ret d => .ret d
    | .exc ρ c xs => .exc ρ c xs
    | .stuck => .stuck) else .next ρ
def isRng : Itr → Bool
  | .rng _ => true
  | _ => false

def hdl (i : Nat) : Hd → Env → Nat → List D → RS
  | .what, ρ, 0, [.str s] => if i < ρ.length then .ret (.str s) else .stuck
  | .same w s, ρ, 0, [.str t] => if i < ρ.length ∧ w ≠ i then (match ρ[w]? with
    | some (.val (.bl b)) => .ret (.bl (b && (t == s)))
    | _ => .stuck) else .stuck
  | _, _, _, _ => .stuck
def hdlB (i w : Nat) : Env → Nat → List D → RS
  | ρ, 1, [.int n, .str t] => if i < ρ.length ∧ w ≠ i then (match ρ[w]? with
    | some (.val (.tup [.int m, .str u])) => .ret (.bl (n == m && t == u))
    | some (.val (.tup ds)) => if ds.length = 2 then .stuck else .ret (.bl false)
    | _ => .stuck) else .stuck
  | _, _, _ => .stuck
/-- what raise BadTrace(x, y) raises -/
def raisBR (ρ : Env) : D → D → RS
  | .int n, .str s => if 0 ≤ n ∧ n < 1000000 ∧ s.length ≤ 100 then .exc ρ 1 [.int n, .str s] else .stuck
  | _, _ => .stuck
def evX (F : List (List D → R D)) (z : Nat → Bool) (ρ : Env) : XE → R D
  | .call f es => (evEs F z ρ es).calm fun xs => match F[f]? with
    | some g => g xs
    | none => .stuck
  | .blt1 b x => (evX F z ρ x).bind fun d => (blt b [d]).calm fun y => .ok y
  | .op2R o a x => (evE F z ρ a).calm fun u => (evX F z ρ x).bind fun d => (op2 o u d).calm fun y => .ok y
  | .isN x => (evX F z ρ x).bind fun d => .ok (.bl d.isNon)
  | .notN x => (evX F z ρ x).bind fun d => .ok (.bl (!d.isNon))
  | .ixX x k => (evX F z ρ x).bind fun d => (ixD d (.int k)).calm fun y => .ok y
section
variable (F : List (List D → R D))
mutual
def evS : IS → Env → RS
  | .asg i e fz, ρ => RS.of (evE F (zOf fz) ρ e) fun d => .next ((kept fz d ρ).set i (.val d))
  | .asgL i e fz, ρ => RS.of (evE F (zOf fz) ρ e) fun d => match d with
    | .lst ds => .next ((if D.nols ds = true then ρ else frz fz ρ).set i (.own ds))
    | _ => .stuck
  | .unp is e fz, ρ => RS.of (evE F (zOf fz) ρ e) fun d => match d with
    | .tup ds => RS.ofO (setAll is ds (kept fz d ρ)) fun ρ' => .next ρ'
    | _ => .stuck
  | .unpG tg e fz, ρ => RS.of (evE F (zOf fz) ρ e) fun d => RS.ofO (bindTg tg d (kept fz d ρ)) fun ρ' => .next ρ'
  | .unpL is e fz, ρ => RS.of (evE F (zOf fz) ρ e) fun d => match d with
    | .lst ds => RS.ofO (setAll is ds (kept fz d ρ)) fun ρ' => .next ρ'
    | _ => .stuck
  | .ext i e fz, ρ => RS.of (evE F (zOf fz) ρ e) fun d => match d with
    | .lst es => RS.ofO (getOwn (frz fz ρ) i) fun ds => if ds.length + es.length ≤ line then .next ((frz fz ρ).set i (.own (ds ++ es))) else .stuck
    | _ => .stuck
  | .par i j a b fz, ρ => RS.of (evE F (zOf fz) ρ a) fun x => RS.of (evE F (zOf fz) ρ b) fun y => .next (((kept fz (.tup [x, y]) ρ).set i (.val x)).set j (.val y))
  | .app i e, ρ => RS.of (evE F zAll ρ e) fun d => RS.ofO (getOwn ρ i) fun ds => if ds.length < line ∧ d.nol = true then .next (ρ.set i (.own (ds ++ [d]))) else .stuck
  | .appL i e fz, ρ => RS.of (evE F (zOf fz) ρ e) fun d => RS.ofO (getOwn (frz fz ρ) i) fun ds => if ds.length < line then .next ((frz fz ρ).set i (.own (ds ++ [d]))) else .stuck
  | .popx i, ρ => RS.ofO (getOwn ρ i) fun ds => if 0 < ds.length then .next (ρ.set i (.own ds.dropLast)) else .stuck
  | .setx i k e, ρ => RS.of (evE F zAll ρ e) fun d => RS.of (evE F zAll ρ k) fun kd => RS.ofO (getOwn ρ i) fun ds => match kd with
    | .int n => RS.ofO (ixN ds.length n) fun j => if d.nol = true then .next (ρ.set i (.own (ds.set j d))) else .stuck
    | _ => .stuck
  | .expr e, ρ => RS.of (evE F zAll ρ e) fun _ => .next ρ
  | .ret e fz, ρ => RS.of (evE F (zOf fz) ρ e) fun d => .ret d
  | .retN, _ => .ret .non
  | .ite c a b, ρ => RS.of ((evE F zAll ρ c).bind tst) fun t => if t = true then evSs a ρ else evSs b ρ
  | .forr it tg body fz, ρ => RS.of (evI F (if isRng it then zAll else zOf fz) ρ it) fun xs =>
      forGo (fun x ρ' => RS.ofO (bindTg tg x ρ') fun ρ2 => evSs body ρ2) xs (if isRng it then ρ else frz fz ρ)
  | .whl c body fuel, ρ => whlGo (fun ρ' => (evE F zAll ρ' c).bind tst) (fun ρ' => evSs body ρ') fuel ρ
  | .brk, ρ => .brk ρ
  | .cont, ρ => .cont ρ
  | .pass, ρ => .next ρ
  | .raisN, _ => .stuck
  | .raisE e, ρ => RS.of (evE F zAll ρ e) fun d => match d with
    | .str s => .exc ρ 0 [.str s]
    | _ => .stuck
  | .raisB a b, ρ => RS.of (evE F zAll ρ a) fun x => RS.of (evE F zAll ρ b) fun y => raisBR ρ x y
  | .exprX x, ρ => RS.ofX ρ (evX F zAll ρ x) fun _ => .next ρ
  | .asgX i x fz, ρ => RS.ofX ρ (evX F (zOf fz) ρ x) fun d => .next ((kept fz d ρ).set i (.val d))
  | .unpX is x fz, ρ => RS.ofX ρ (evX F (zOf fz) ρ x) fun d => match d with
    | .tup ds => RS.ofO (setAll is ds (kept fz d ρ)) fun ρ' => .next ρ'
    | _ => .stuck
  | .unpXL is x fz, ρ => RS.ofX ρ (evX F (zOf fz) ρ x) fun d => match d with
    | .lst ds => RS.ofO (setAll is ds (kept fz d ρ)) fun ρ' => .next ρ'
    | _ => .stuck
  | .appX i x, ρ => RS.ofO (getOwn ρ i) fun ds => RS.ofX ρ (evX F zAll ρ x) fun d => if ds.length < line ∧ d.nol = true then .next (ρ.set i (.own (ds ++ [d]))) else .stuck
  | .retX x fz, ρ => RS.ofX ρ (evX F (zOf fz) ρ x) fun d => .ret d
  | .iteX x a b, ρ => RS.ofX ρ (evX F zAll ρ x) fun d => RS.of (tst d) fun t => if t = true then evSs a ρ else evSs b ρ
  | .tryE body i h, ρ => match evSs body ρ with
    | .next ρ' => .next ρ'
    | .brk ρ' => .brk ρ'
    | .cont ρ' => .cont ρ'
    | .ret d => .ret d
    | .exc ρ' c xs => hdl i h ρ' c xs
    | .stuck => .stuck
  | .tryB body i w, ρ => match evSs body ρ with
    | .next ρ' => .next ρ'
    | .brk ρ' => .brk ρ'
    | .cont ρ' => .cont ρ'
    | .ret d => .ret d
    | .exc ρ' c xs => hdlB i w ρ' c xs
    | .stuck => .stuck
def evSs : ISs → Env → RS
  | .nil, ρ => .next ρ
  | .cons s ss, ρ => match evS s ρ with
    | .next ρ' => evSs ss ρ'
    | .brk ρ' => .brk ρ'
    | .cont ρ' => .cont ρ'
    | .ret d => .ret d
    | .exc ρ c xs => .exc ρ c xs
    | .stuck => .stuck
end
end

/-- a def: how many names it has, its body -/
structure Fn where
  ar : Nat
  nn : Nat
  body : ISs
def begin_ (nn : Nat) (ds : List D) : Env := ds.map Slot.val ++ List.replicate (nn - ds.length) .no
/-- what a call gives -/
def evF (F : List (List D → R D)) (f : Fn) (ds : List D) : R D := if ds.length = f.ar then (match evSs F f.body (begin_ f.nn ds) with
  | .ret d => .ok d
  | .next _ => .ok .non
  | .exc _ c xs => .exc c xs
  | _ => .stuck) else .stuck
end Pv

end
section
/-! Ev1: what the small language computes is what the machine computes. -/
namespace Pv
open PySem PySem.Spec PyProof.Rows L2

/-! ### a heap that another one keeps; tables of code objects may have grown -/
def noT : HO → Bool
  | .tbl _ => false
  | .dT _ => false
  | _ => true
/-- the known counts of a Counter -/
def Mem (L : Int) (kvs : List (List Key × V)) : Prop := (kvs.map (·.1)).Nodup ∧ ∀ p ∈ kvs, ∃ l r z : Nat, p.1 = [.inl (l : Int), .inl (r : Int), .inl (z : Int)] ∧ l ≤ 100 ∧ r ≤ 100 ∧ z ≤ 100 ∧ p.2 = V.int (cntN L l r z)
/-- the tables of the law's defs that hold generator expressions: each with its code object -/
class Tabs where
  ts : List (Addr × Addr)
  /-- where the classes Refused, BadTrace and Counter stand -/
  rcs : Addr × Addr × Addr
  /-- the limit of all Counters -/
  lim : Int
variable [Tabs]
def Ex (H H' : Hp) : Prop := ∀ a o, H a = some o → H' a = some o ∨ (∃ ps ps' : Array Value, o = .tbl ps ∧ H' a = some (.tbl ps') ∧ (TriplesOk ps.toList → TriplesOk ps'.toList)) ∨ ∃ ks ks' : List (List Key × V), o = .dT ks ∧ H' a = some (.dT ks') ∧ (Mem Tabs.lim ks → Mem Tabs.lim ks')
section
variable {K : PySem.W.Frag} {H H' H1 H2 G : Hp} {a p : Addr} {o : HO} {xs : List V}
theorem Ex.of (h : ∀ a o, H a = some o → H' a = some o) : Ex H H' := fun a o e => .inl (h a o e)
theorem Ex.at (e : Ex H H') (h : H a = some o) (n : noT o = true) : H' a = some o := by
  rcases e a o h with q | ⟨ps, ps', rfl, _⟩ | ⟨ks, ks', rfl, _⟩
  · exact q
  · cases n
  · cases n
theorem Ex.any (e : Ex H H') (h : H a = some o) : ∃ o', H' a = some o' := by
  rcases e a o h with q | ⟨_, _, _, q, _⟩ | ⟨_, _, _, q, _⟩
  · exact ⟨_, q⟩
  · exact ⟨_, q⟩
  · exact ⟨_, q⟩
theorem Ex.refl (H : Hp) : Ex H H := .of fun _ _ h => h
theorem Ex.trans (a : Ex H H1) (b : Ex H1 H2) : Ex H H2 := fun x o h => by
  rcases a x o h with q | ⟨ps, ps', rfl, q, k⟩ | ⟨ps, ps', rfl, q, k⟩
  · exact b x o q
  · rcases b x _ q with q2 | ⟨qs, qs', e, q2, k2⟩ | ⟨qs, qs', e, q2, k2⟩
    · exact .inr (.inl ⟨ps, ps', rfl, q2, k⟩)
    · cases e; exact .inr (.inl ⟨ps, qs', rfl, q2, fun z => k2 (k z)⟩)
    · cases e
  · rcases b x _ q with q2 | ⟨qs, qs', e, q2, k2⟩ | ⟨qs, qs', e, q2, k2⟩
    · exact .inr (.inr ⟨ps, ps', rfl, q2, k⟩)
    · cases e
    · cases e; exact .inr (.inr ⟨ps, qs', rfl, q2, fun z => k2 (k z)⟩)
theorem Ex.new (h : H p = none) : Ex H (upd H p o) := .of fun a u e => by
  rw [upd_ne (ne_of_none e h)]
  exact e
theorem ex_l (e : Ex H H') (h : SqL K H a xs) : SqL K H' a xs := by
  rcases h with (h | ⟨o, h⟩) | h
  · exact .inl (.inl (e.at h rfl))
  · exact .inl (.inr ⟨o, e.at h rfl⟩)
  · exact .inr h
theorem ex_t (e : Ex H H') (h : SqT K H a xs) : SqT K H' a xs := by
  rcases h with (h | ⟨o, h⟩) | h
  · exact .inl (.inl (e.at h rfl))
  · exact .inl (.inr ⟨o, e.at h rfl⟩)
  · exact .inr h
theorem st_of (h : H a = some (.tup xs)) : SqT K H a xs := Or.inl (Or.inl h)
theorem fresh_back (e : Ex H H') (h : H' p = none) : H p = none := by
  cases h1 : H p with
  | none => rfl
  | some o =>
    obtain ⟨o', q⟩ := e.any h1
    rw [q] at h; cases h
/-- a table stands there, with nothing but triples in it -/
def TabAt (H : Hp) (P : Addr) : Prop := ∃ ps : Array Value, H P = some (.tbl ps) ∧ TriplesOk ps.toList
theorem TabAt.ex (e : Ex H H') (h : TabAt H p) : TabAt H' p := by
  obtain ⟨ps, h1, h2⟩ := h
  rcases e p _ h1 with q | ⟨qs, qs', z, q, k⟩ | ⟨qs, qs', z, q, k⟩
  · exact ⟨ps, q, h2⟩
  · cases z; exact ⟨qs', q, k h2⟩
  · cases z
end
abbrev Tabs.rc [Tabs] : Addr := Tabs.rcs.1
abbrev Tabs.bc [Tabs] : Addr := Tabs.rcs.2.1
abbrev Tabs.cc [Tabs] : Addr := Tabs.rcs.2.2
/-- the fields of a Counter -/
def cfs (L : Int) (d : Addr) : List (Str × V) := [(("limit" : Str), .int L), (("known" : Str), .ref d)]
/-- the fields of a BadTrace -/
def bfs (n : Int) (v : Str) : List (Str × V) := [(("line" : Str), .int n), (("what" : Str), .str v)]
def TabsIn (H : Hp) : Prop := ∀ p ∈ Tabs.ts, TabAt H p.2
theorem TabsIn.ex {H H' : Hp} (h : TabsIn H) (e : Ex H H') : TabsIn H' := fun p hp => (h p hp).ex e

/-! ### data that stands in a heap -/
abbrev st (s : List Nat) : Str := ⟨s.toArray⟩
mutual
def Rep (K : PySem.W.Frag) (H : Hp) : D → V → Prop
  | .non, v => v = .non
  | .bl b, v => v = .bl b
  | .int i, v => v = .int i
  | .str s, v => v = .str (st s)
  | .tup ds, v => ∃ a xs, v = .ref a ∧ SqT K H a xs ∧ Reps K H ds xs
  | .lst ds, v => ∃ a xs, v = .ref a ∧ H a = some (.lst xs) ∧ Reps K H ds xs
  | .scr ns, v => ∃ a, v = .ref a ∧ SqL K H a (ns.map V.int)
  | .cnt L, v => L = Tabs.lim ∧ ∃ p dx d ks, v = .ref p ∧ H p = some (.ins Tabs.cc dx (cfs L d)) ∧ H d = some (.dT ks) ∧ Mem L ks
def Reps (K : PySem.W.Frag) (H : Hp) : List D → List V → Prop
  | [], xs => xs = []
  | d :: ds, xs => ∃ y ys, xs = y :: ys ∧ Rep K H d y ∧ Reps K H ds ys
end
section
variable {K : PySem.W.Frag} {H H' G G' : Hp}
mutual
theorem Rep.ex (e : Ex H H') : ∀ {d : D} {v : V}, Rep K H d v → Rep K H' d v
  | .non, _, h => h
  | .bl _, _, h => h
  | .int _, _, h => h
  | .str _, _, h => h
  | .tup _, _, ⟨a, xs, e1, h, r⟩ => ⟨a, xs, e1, ex_t e h, Reps.ex e r⟩
  | .lst _, _, ⟨a, xs, e1, h, r⟩ => ⟨a, xs, e1, e.at h rfl, Reps.ex e r⟩
  | .scr _, _, ⟨a, e1, h⟩ => ⟨a, e1, ex_l e h⟩
  | .cnt L, _, ⟨eL, p, dx, d, ks, e1, h, hd, m⟩ => by
    refine ⟨eL, ?_⟩
    subst eL
    rcases e d _ hd with q | ⟨_, _, z, _⟩ | ⟨k1, k2, z, q, k⟩
    · exact ⟨p, dx, d, ks, e1, e.at h rfl, q, m⟩
    · cases z
    · cases z; exact ⟨p, dx, d, k2, e1, e.at h rfl, q, k m⟩
theorem Reps.ex (e : Ex H H') : ∀ {ds : List D} {vs : List V}, Reps K H ds vs → Reps K H' ds vs
  | [], _, h => h
  | _ :: _, _, ⟨y, ys, e1, h, r⟩ => ⟨y, ys, e1, Rep.ex e h, Reps.ex e r⟩
end
theorem Reps.len : ∀ {ds : List D} {vs : List V}, Reps K H ds vs → vs.length = ds.length
  | [], _, h => by cases h; rfl
  | _ :: _, _, ⟨y, ys, e1, h, r⟩ => by rw [e1, List.length_cons, List.length_cons, Reps.len r]
theorem Reps.get : ∀ {ds : List D} {vs : List V} {i : Nat} {d : D}, Reps K H ds vs → ds[i]? = some d → ∃ v, vs[i]? = some v ∧ Rep K H d v
  | [], _, _, _, _, e => by simp at e
  | d :: _, _, 0, d', ⟨y, ys, e1, h, r⟩, e => by
    simp at e; subst e; subst e1
    exact ⟨y, rfl, h⟩
  | _ :: ds, _, i + 1, d', ⟨y, ys, e1, h, r⟩, e => by
    subst e1
    obtain ⟨v, h1, h2⟩ := Reps.get (i := i) (d := d') r (by simpa using e)
    exact ⟨v, by simpa using h1, h2⟩
theorem Reps.app : ∀ {ds es : List D} {vs us : List V}, Reps K H ds vs → Reps K H es us → Reps K H (ds ++ es) (vs ++ us)
  | [], _, _, _, h, g => by cases h; exact g
  | _ :: _, _, _, _, ⟨y, ys, e1, h, r⟩, g => ⟨y, _, by rw [e1]; rfl, h, Reps.app r g⟩
theorem Reps.one {d : D} {v : V} (h : Rep K H d v) : Reps K H [d] [v] := ⟨v, [], rfl, h, rfl⟩
theorem Reps.drop : ∀ {ds : List D} {vs : List V} (n : Nat), Reps K H ds vs → Reps K H (ds.drop n) (vs.drop n)
  | _, _, 0, h => h
  | [], _, n + 1, h => by cases h; exact rfl
  | _ :: _, _, n + 1, ⟨y, ys, e1, h, r⟩ => by subst e1; exact Reps.drop n r
theorem Reps.take : ∀ {ds : List D} {vs : List V} (n : Nat), Reps K H ds vs → Reps K H (ds.take n) (vs.take n)
  | _, _, 0, h => rfl
  | [], _, n + 1, h => by cases h; exact rfl
  | _ :: _, _, n + 1, ⟨y, ys, e1, h, r⟩ => by subst e1; exact ⟨y, _, rfl, h, Reps.take n r⟩
theorem Reps.rev {ds : List D} {vs : List V} : Reps K H ds vs → Reps K H ds.reverse vs.reverse := by
  induction ds generalizing vs with
  | nil => intro h; cases h; exact rfl
  | cons d ds ih =>
    intro ⟨y, ys, e1, h, r⟩
    subst e1
    rw [List.reverse_cons, List.reverse_cons]
    exact Reps.app (ih r) (Reps.one h)
theorem Reps.set : ∀ {ds : List D} {vs : List V} {d : D} {v : V} (i : Nat), Reps K H ds vs → Rep K H d v → Reps K H (ds.set i d) (vs.set i v)
  | [], _, _, _, _, h, _ => by cases h; exact rfl
  | _ :: _, _, _, _, 0, ⟨y, ys, e1, h, r⟩, g => by subst e1; exact ⟨_, _, rfl, g, r⟩
  | _ :: _, _, _, _, i + 1, ⟨y, ys, e1, h, r⟩, g => by subst e1; exact ⟨_, _, rfl, h, Reps.set i r g⟩
theorem Reps.init {ds : List D} {vs : List V} (h : Reps K H ds vs) : Reps K H ds.dropLast vs.dropLast := by
  rw [List.dropLast_eq_take, List.dropLast_eq_take, h.len]
  exact h.take _
theorem Reps.int {ns : List Int} : Reps K H (ns.map D.int) (ns.map V.int) := by
  induction ns with
  | nil => exact rfl
  | cons n ns ih => exact ⟨_, _, rfl, rfl, ih⟩
theorem Reps.ints : ∀ {ds : List D} {vs : List V} {ns : List Int}, Reps K H ds vs → Pv.intsOf ds = some ns → vs = ns.map V.int
  | [], _, _, h, e => by cases h; cases e; rfl
  | .int i :: ds, _, ns, ⟨y, ys, e1, h, r⟩, e => by
    unfold Pv.intsOf at e
    cases q : Pv.intsOf ds with
    | none => rw [q] at e; cases e
    | some ms =>
      rw [q] at e; cases e
      have := Reps.ints r q
      subst this
      subst e1
      cases (show y = V.int i from h)
      rfl
  | .non :: _, _, _, _, e => by cases e
  | .bl _ :: _, _, _, _, e => by cases e
  | .str _ :: _, _, _, _, e => by cases e
  | .tup _ :: _, _, _, _, e => by cases e
  | .lst _ :: _, _, _, _, e => by cases e
  | .scr _ :: _, _, _, _, e => by cases e
  | .cnt _ :: _, _, _, _, e => by cases e
theorem Reps.strs : ∀ {ds : List D} {vs : List V} {ns : List (List Nat)}, Reps K H ds vs → Pv.strsOf ds = some ns → vs = (ns.map st).map V.str
  | [], _, _, h, e => by cases h; cases e; rfl
  | .str i :: ds, _, ns, ⟨y, ys, e1, h, r⟩, e => by
    unfold Pv.strsOf at e
    cases q : Pv.strsOf ds with
    | none => rw [q] at e; cases e
    | some ms =>
      rw [q] at e; cases e
      have := Reps.strs r q
      subst this
      subst e1
      cases (show y = V.str (st i) from h)
      rfl
  | .non :: _, _, _, _, e => by cases e
  | .bl _ :: _, _, _, _, e => by cases e
  | .int _ :: _, _, _, _, e => by cases e
  | .tup _ :: _, _, _, _, e => by cases e
  | .lst _ :: _, _, _, _, e => by cases e
  | .scr _ :: _, _, _, _, e => by cases e
  | .cnt _ :: _, _, _, _, e => by cases e
theorem Reps.str {ns : List (List Nat)} : Reps K H (ns.map D.str) ((ns.map st).map V.str) := by
  induction ns with
  | nil => exact rfl
  | cons n ns ih => exact ⟨_, _, rfl, rfl, ih⟩

/-- the heap without some addresses -/
def less (G : Hp) (P : Addr → Prop) [DecidablePred P] : Hp := fun a => if P a then none else G a
theorem less_ex {P : Addr → Prop} [DecidablePred P] : Ex (less G P) G := .of fun a o h => by
  unfold less at h
  split at h
  · cases h
  · exact h
theorem less_of {P : Addr → Prop} [DecidablePred P] {a : Addr} {o : HO} (h : G a = some o) (n : ¬ P a) : less G P a = some o := by
  unfold less
  rw [if_neg n]
  exact h
/-- every one of these addresses holds a list -/
def LstOn (G : Hp) (P : Addr → Prop) : Prop := ∀ a, P a → ∃ xs, G a = some (.lst xs)
mutual
theorem Rep.less {P : Addr → Prop} [DecidablePred P] (L : LstOn G P) : ∀ {d : D} {v : V}, Rep K G d v → d.nol = true → Rep K (less G P) d v
  | .non, _, h, _ => h
  | .bl _, _, h, _ => h
  | .int _, _, h, _ => h
  | .str _, _, h, _ => h
  | .tup ds, _, ⟨a, xs, e1, h, r⟩, n => by
    refine ⟨a, xs, e1, ?_, Reps.less L r (by rw [D.nol] at n; exact n)⟩
    rcases h with (h | ⟨o, h⟩) | h
    · exact .inl (.inl (less_of h fun p => by obtain ⟨ys, q⟩ := L a p; rw [h] at q; cases q))
    · exact .inl (.inr ⟨o, less_of h fun p => by obtain ⟨ys, q⟩ := L a p; rw [h] at q; cases q⟩)
    · exact .inr h
  | .lst _, _, _, n => by rw [D.nol] at n; cases n
  | .scr _, _, _, n => by rw [D.nol] at n; cases n
  | .cnt _, _, ⟨eL, p, dx, d, ks, e1, h, hd, m⟩, _ => ⟨eL, p, dx, d, ks, e1, less_of h (fun a => by obtain ⟨ys, q⟩ := L p a; rw [h] at q; cases q), less_of hd (fun a => by obtain ⟨ys, q⟩ := L d a; rw [hd] at q; cases q), m⟩
theorem Reps.less {P : Addr → Prop} [DecidablePred P] (L : LstOn G P) : ∀ {ds : List D} {vs : List V}, Reps K G ds vs → D.nols ds = true → Reps K (Pv.less G P) ds vs
  | [], _, h, _ => h
  | d :: ds, _, ⟨y, ys, e1, h, r⟩, n => by
    rw [D.nols, Bool.and_eq_true] at n
    exact ⟨y, ys, e1, Rep.less L h n.1, Reps.less L r n.2⟩
end

/-! ### the same as the library's data -/
mutual
def toPy : D → PyData
  | .non => .none
  | .bl b => .bool b
  | .int i => .int i
  | .str s => .str (st s)
  | .tup ds => .tuple (toPys ds)
  | .lst ds => .list (toPys ds)
  | .scr _ => .none
  | .cnt _ => .none
def toPys : List D → List PyData
  | [] => []
  | d :: ds => toPy d :: toPys ds
end
mutual
theorem Rep.dp : ∀ {n : Nat} {d : D} {v : V}, Rep K H d v → D.shp n d = true → Dp K H v (toPy d)
  | _, .non, _, h, _ => by cases (show _ = V.non from h); exact .non
  | _, .bl b, _, h, _ => by cases (show _ = V.bl b from h); exact .bl b
  | _, .int i, _, h, _ => by cases (show _ = V.int i from h); exact .int i
  | _, .str s, _, h, _ => by cases (show _ = V.str (st s) from h); exact .str _
  | n + 1, .tup ds, _, ⟨a, xs, e1, h, r⟩, e => by
    subst e1
    exact .tup h (Reps.dp (n := n) r (by rw [D.shp] at e; exact e))
  | n + 1, .lst ds, _, ⟨a, xs, e1, h, r⟩, e => by
    subst e1
    exact .lst (.of h) (Reps.dp (n := n) r (by rw [D.shp] at e; exact e))
  | 0, .tup ds, _, _, e => by rw [D.shp] at e; cases e
  | 0, .lst ds, _, _, e => by rw [D.shp] at e; cases e
  | _, .scr _, _, _, e => by rw [D.shp] at e; cases e
  | _, .cnt _, _, _, e => by rw [D.shp] at e; cases e
theorem Reps.dp : ∀ {n : Nat} {ds : List D} {vs : List V}, Reps K H ds vs → D.shps n ds = true → DpAll K H vs (toPys ds)
  | _, [], _, h, _ => by cases h; exact .nil
  | n, d :: ds, _, ⟨y, ys, e1, h, r⟩, e => by
    subst e1
    rw [D.shps, Bool.and_eq_true] at e
    exact .cons (Rep.dp h e.1) (Reps.dp r e.2)
end
mutual
theorem shp_can : ∀ {n : Nat} {d : D}, D.shp n d = true → (toPy d).canLay0 = true ∧ (toPy d).depth ≤ n
  | _, .non, _ => ⟨rfl, Nat.zero_le _⟩
  | _, .bl _, _ => ⟨rfl, Nat.zero_le _⟩
  | _, .int _, _ => ⟨rfl, Nat.zero_le _⟩
  | _, .str s, h => by
    refine ⟨?_, Nat.zero_le _⟩
    rw [D.shp] at h
    show (st s).cps.all (fun c => decide (c < 0x110000)) = true
    rw [← Array.all_toList]
    exact h
  | n + 1, .tup ds, h => by
    rw [D.shp] at h
    have q := shps_can h
    exact ⟨q.1, Nat.succ_le_succ q.2⟩
  | n + 1, .lst ds, h => by
    rw [D.shp] at h
    have q := shps_can h
    exact ⟨q.1, Nat.succ_le_succ q.2⟩
  | 0, .tup _, h => by rw [D.shp] at h; cases h
  | 0, .lst _, h => by rw [D.shp] at h; cases h
  | _, .scr _, h => by rw [D.shp] at h; cases h
  | _, .cnt _, h => by rw [D.shp] at h; cases h
theorem shps_can : ∀ {n : Nat} {ds : List D}, D.shps n ds = true → PyData.canLayAll0 (toPys ds) = true ∧ PyData.depthAll (toPys ds) ≤ n
  | _, [], _ => ⟨rfl, Nat.zero_le _⟩
  | n, d :: ds, h => by
    rw [D.shps, Bool.and_eq_true] at h
    have q1 := shp_can h.1
    have q2 := shps_can h.2
    refine ⟨?_, ?_⟩
    · show (PyData.canLay0 (toPy d) && PyData.canLayAll0 (toPys ds)) = true
      rw [q1.1, q2.1]; rfl
    · show max (PyData.depth (toPy d)) (PyData.depthAll (toPys ds)) ≤ n
      exact Nat.max_le.mpr ⟨q1.2, q2.2⟩
end
theorem shaped_of {d : D} (h : D.shp 60 d = true) : SeqAt.shaped (toPy d) = true := by
  have q := shp_can h
  unfold SeqAt.shaped
  rw [q.1, Bool.true_and]
  exact decide_eq_true (Nat.le_trans q.2 (by decide))
theorem st_inj {x y : List Nat} (h : st x = st y) : x = y := by
  have := congrArg (fun s : Str => s.cps.toList) h
  simpa using this
theorem st_beq (x y : List Nat) : (st x == st y) = (x == y) := by
  by_cases h : x = y
  · subst h; simp
  · rw [beq_eq_false_iff_ne.mpr h]
    exact beq_eq_false_iff_ne.mpr fun e => h (st_inj e)
mutual
theorem eqv_py : ∀ {n m : Nat} {x y : D}, D.shp n x = true → D.shp m y = true → PyData.eqv (toPy x) (toPy y) = D.eqv x y
  | _, _, .non, .non, _, _ => rfl
  | _, _, .non, .bl _, _, _ => rfl
  | _, _, .non, .int _, _, _ => rfl
  | _, _, .non, .str _, _, _ => rfl
  | _, _, .non, .tup _, _, _ => by rw [toPy, toPy, D.eqv, PyData.eqv]
  | _, _, .non, .lst _, _, _ => by rw [toPy, toPy, D.eqv, PyData.eqv]
  | _, _, .bl _, .non, _, _ => rfl
  | _, _, .bl _, .bl _, _, _ => rfl
  | _, _, .bl _, .int _, _, _ => rfl
  | _, _, .bl _, .str _, _, _ => rfl
  | _, _, .bl _, .tup _, _, _ => by rw [toPy, toPy, D.eqv, PyData.eqv]
  | _, _, .bl _, .lst _, _, _ => by rw [toPy, toPy, D.eqv, PyData.eqv]
  | _, _, .int _, .non, _, _ => rfl
  | _, _, .int _, .bl _, _, _ => rfl
  | _, _, .int _, .int _, _, _ => rfl
  | _, _, .int _, .str _, _, _ => rfl
  | _, _, .int _, .tup _, _, _ => by rw [toPy, toPy, D.eqv, PyData.eqv]
  | _, _, .int _, .lst _, _, _ => by rw [toPy, toPy, D.eqv, PyData.eqv]
  | _, _, .str _, .non, _, _ => rfl
  | _, _, .str _, .bl _, _, _ => rfl
  | _, _, .str _, .int _, _, _ => rfl
  | _, _, .str x, .str y, _, _ => by rw [toPy, toPy, D.eqv, PyData.eqv]; exact st_beq x y
  | _, _, .str _, .tup _, _, _ => by rw [toPy, toPy, D.eqv, PyData.eqv]
  | _, _, .str _, .lst _, _, _ => by rw [toPy, toPy, D.eqv, PyData.eqv]
  | _, _, .tup _, .non, _, _ => by rw [toPy, toPy, D.eqv, PyData.eqv]
  | _, _, .tup _, .bl _, _, _ => by rw [toPy, toPy, D.eqv, PyData.eqv]
  | _, _, .tup _, .int _, _, _ => by rw [toPy, toPy, D.eqv, PyData.eqv]
  | _, _, .tup _, .str _, _, _ => by rw [toPy, toPy, D.eqv, PyData.eqv]
  | n + 1, m + 1, .tup xs, .tup ys, h, g => by
    rw [toPy, toPy, D.eqv, PyData.eqv]
    rw [D.shp] at h g
    exact eqvs_py h g
  | _, _, .tup _, .lst _, _, _ => by rw [toPy, toPy, D.eqv, PyData.eqv]
  | _, _, .lst _, .non, _, _ => by rw [toPy, toPy, D.eqv, PyData.eqv]
  | _, _, .lst _, .bl _, _, _ => by rw [toPy, toPy, D.eqv, PyData.eqv]
  | _, _, .lst _, .int _, _, _ => by rw [toPy, toPy, D.eqv, PyData.eqv]
  | _, _, .lst _, .str _, _, _ => by rw [toPy, toPy, D.eqv, PyData.eqv]
  | _, _, .lst _, .tup _, _, _ => by rw [toPy, toPy, D.eqv, PyData.eqv]
  | n + 1, m + 1, .lst xs, .lst ys, h, g => by
    rw [toPy, toPy, D.eqv, PyData.eqv]
    rw [D.shp] at h g
    exact eqvs_py h g
  | 0, _, .tup _, .tup _, h, _ => by rw [D.shp] at h; cases h
  | _, 0, .tup _, .tup _, _, h => by rw [D.shp] at h; cases h
  | 0, _, .lst _, .lst _, h, _ => by rw [D.shp] at h; cases h
  | _, 0, .lst _, .lst _, _, h => by rw [D.shp] at h; cases h
  | _, _, .scr _, _, h, _ => by rw [D.shp] at h; cases h
  | _, _, _, .scr _, _, h => by rw [D.shp] at h; cases h
  | _, _, .cnt _, _, h, _ => by rw [D.shp] at h; cases h
  | _, _, _, .cnt _, _, h => by rw [D.shp] at h; cases h
theorem eqvs_py : ∀ {n m : Nat} {xs ys : List D}, D.shps n xs = true → D.shps m ys = true → PyData.eqvAll (toPys xs) (toPys ys) = D.eqvs xs ys
  | _, _, [], [], _, _ => by rw [toPys, D.eqvs, PyData.eqvAll]
  | _, _, [], _ :: _, _, _ => by rw [toPys, toPys, D.eqvs, PyData.eqvAll]
  | _, _, _ :: _, [], _, _ => by rw [toPys, toPys, D.eqvs, PyData.eqvAll]
  | _, _, x :: xs, y :: ys, h, g => by
    rw [toPys, toPys, D.eqvs, PyData.eqvAll]
    rw [D.shps, Bool.and_eq_true] at h g
    rw [eqv_py h.1 g.1, eqvs_py h.2 g.2]
end
end
end Pv

end
section
/-! EvQ: the program's own error Refused: made, raised, its what. -/
namespace L2
open PySem PySem.Spec PyProof.Rows
theorem passN {X : Cx} : Passes (L2N.CX X.prog X.w) X E0 := fun _ _ _ _ _ _ _ h => by
  obtain ⟨_, _, _, _, _, _, _, _, _, _, _, _, z⟩ := h
  exact z.elim
section
variable {P : Program} {w : World} {K : PySem.W.Frag} {mg : Str → Option Value} {base : Heap}
theorem Fun.okN {x qual : Str} {st : Stmt} {f : Addr} {fd : FuncData} {N ps : List Str} {k : Nat} {sp : Sp} (F : Fun K x qual st f fd) (S : FnScope N ps (defScope st)) (len : ∀ vs H Q E, sp vs H Q E → vs.length = ps.length)
    (hbody : ∀ (cdv : Value) (A : Around) (outer : List PySem.Env) (s : Shared) (H : Hp) (vs : List V) (Q : VK) (E : XK), Room k (A.deeper (envOfC qual (defScope st) s.heap.objs.size f cdv)) → sp vs H Q E →
      ∃ t, PSs (cxOf (L2N.CX P w) P w K mg base N qual (defScope st) f cdv A outer s H E) (defBody st) t ∧ t { nx := fun _ H' => Q .non H', rt := Q } (start N vs) H) : FnOk P w K mg base (L2N.CX P w) (k + 1) f fd ps sp := by
  obtain ⟨oc, od, kV, doc, pm, an, cdv, ct, osl, rfl, lk, hcd⟩ := F.ex
  exact fn_of lk hcd S len fun A outer s H vs Q E hr hsp => hbody cdv A outer s H vs Q E hr hsp
end
end L2
namespace Rfs
open PySem PySem.W PySem.Calls PyProof.Rows PySem.HandSPX
/-! the text of its __init__ -/
def rA (p1 p2 : Pos) : Arguments := { posonlyargs := [], args := [{ arg := "self", annotation := none, pos := p1 }, { arg := "what", annotation := none, pos := p2 }], vararg := none, kwonlyargs := [], kw_defaults := [], kwarg := none, defaults := [] }
def rB1 (a1 a2 a3 a4 a5 a6 : Pos) : Stmt := .Expr (.Call (.Attribute (.Call (.Name "super" a1) [] [] a2) "__init__" a3) [.Name "what" a4] [] a5) a6
def rB2 (q1 q2 q3 q4 : Pos) : Stmt := .Assign [.Attribute (.Name "self" q1) "what" q2] (.Name "what" q3) q4
def rS : Scope := { kind := .function, names := [(PySem.Str.ofString "self", .local), (PySem.Str.ofString "what", .local), (PySem.Str.ofString "__class__", .free), (PySem.Str.ofString "super", .globalImplicit)], isGenerator := false, isCoroutine := false, more := [] }
/-- what the written part says of the class at C, its __init__ at fI, the cell of __class__ at cc, the code at cda -/
structure Txt (P : Program) (K : Frag) (mg : Str → Option Value) (C fI : Addr) : Prop where
  gC : mg "Refused" = some (.ref C)
  cls : ∃ nm q N bs bm sn sub ab col dd k0 k1 k2 k3 k5, K.lookup C = some (excClassObj nm q C N bs bm true sn sub ab col dd k0 k1 k2 k3 k5 "ValueError.__new__") ∧ refsVE bm = true
  sa : findIn K (.ref C) "__setattr__" = some (some (.builtin "object.__setattr__"))
  noN : findIn K (.ref C) "what" = some none
  iC : findIn K (.ref C) "__init__" = some (some (.ref fI))
  tC : typeIn K (.ref fI) = some (.type "function")
  kC : keepIn K (.ref C) = true
  exC : subIn K (.ref C) (.type "BaseException") = some true
  tyC : typeIn K (.ref C) = some (.type "type")
  veC : subIn K (.ref C) (.type "ValueError") = some true
  meC : mroIn K C (.ref C) = some true
  sup : ks_superIn K C C "__init__" = some (some (.builtin "ValueError.__init__"))
  noS : nsIn K mainGlobals "super" = some none
  thr : nsIn K cStatics "thirdparty.any" = some none
  top : (P.main.scope.names.lookup ("super" : Str)).isSome = false
  fn : ∃ (oc : Value) (od : Option Addr) (doc pm : Value) (an : Option Addr) (cda cc : Addr) (ct : Value) (osl : Array (Option Value)) (p1 p2 a1 a2 a3 a4 a5 a6 q1 q2 q3 q4 : Pos) (cl ccl : Value) (cld cdd : Option Addr) (csl ccs : Array (Option Value)) (vs : Array Value) (file : Str) (tf : Tok),
    K.lookup fI = some ⟨oc, od, .func (fnX "__init__" "Refused.__init__" (rA p1 p2) [rB1 a1 a2 a3 a4 a5 a6, rB2 q1 q2 q3 q4] rS [("__class__", cc)] .none .none doc pm an (.ref cda) ct), osl⟩ ∧ codeIn K (.ref cda) "Refused.__init__" = true ∧
      K.lookup cc = some ⟨cl, cld, .cell (some (.ref C)), csl⟩ ∧ K.lookup cda = some ⟨ccl, cdd, .fields vs, ccs⟩ ∧ vs[2]? = some (.str file tf) ∧ ((P.main.file : Str) == file) = true ∧ (a3.endLine == a5.line) = true
/-- what __init__ leaves of a fresh exception at x -/
structure Left (h h' : Heap) (x C dx : Addr) (v : Value) : Prop where
  keep : ∀ b o, b ≠ x → h.get? b = some o → h'.get? b = some o
  obj : ∃ t1 : Addr, h'.get? x = some { cls := .ref C, dict := some dx, data := .fields #[.ref t1, .none, .none, .none, .bool false, .none] }
  dbig : h.objs.size ≤ dx
  dne : dx ≠ x
  ns : h'.Ns1 dx (fun y => if y = "what" then some v else none)
structure Made (h h' : Heap) (e C d : Addr) (v : Value) : Prop where
  keep : ∀ b o, h.get? b = some o → h'.get? b = some o
  new : h.objs.size ≤ e
  obj : ∃ oe vs, h'.get? e = some oe ∧ oe.cls = .ref C ∧ oe.dict = some d ∧ oe.data = .fields vs ∧ vs[1]? = some .none ∧ vs[2]? = some .none
  dbig : h.objs.size ≤ d
  dne : d ≠ e
  ns : h'.Ns1 d (fun y => if y = "what" then some v else none)
theorem one_le (v : Value) : [v].length ≤ sizeLine := by rw [sizeLine_eq]; exact (by decide : 1 ≤ 16777216)
section
variable {prog : Program} {w : World} {A : Around} {E : Value → Shared → Prop} {R : Result → Shared → Prop} {s : Shared} {K : Frag} {mg : Str → Option Value} {C fI : Addr}
/-- the built-in __init__ bound to the exception, called -/
theorem bound_call {h : Heap} {g : Array GenState} {d : Drawn} {t : Nat} {os : OsState} {nm q : Str} {N : Addr} {bs bm : List Value} {sn : List Str} {sub : List Value} {ab : Bool} {col : Option Bool} {dd : Option Addr} {k0 k1 k2 k3 k5 : Option Value} {u x t0 : Addr} {v : Value} {Q : Value → Shared → Prop}
    (hC : h.get? C = some (excClassObj nm q C N bs bm true sn sub ab col dd k0 k1 k2 k3 k5 "ValueError.__new__")) (hx : h.get? x = some (excO C t0)) (hu : h.get? u = some (kxs_mw "ValueError.__init__" x))
    (hq : ∀ h' t1, (∀ b o, b ≠ x → h.get? b = some o → h'.get? b = some o) → h'.get? x = some (excO C t1) → Q .none ⟨h', g, d, t, os⟩) :
    wpAny (model prog w) A (call (.ref u) [v]) Q E ⟨h, g, d, t, os⟩ := by
  refine wpAny_call (codeAny_of_tree ?_)
  show wpAny _ A.in1 (callAny (.ref u) ⟨[v], []⟩) _ _ _
  simp only [callAny]
  refine wpAny_bind (wpAny_load hu ?_)
  have e1 : (Value.type "method-wrapper" == Value.type "method" || Value.type "method-wrapper" == Value.type "builtin_function_or_method" || Value.type "method-wrapper" == Value.type "method-wrapper") = true := by decide
  simp only [kxs_mw, e1, if_true]
  refine KFB.if_so (by decide) (wpAny_bind (check_bound_init PySem.F.excBase_ValueError.toExcCallFacts hC hx rfl (wpAny_bind (wpAny_pure (wpAny_pure ⟨plainId_quiet PySem.F.excBase_ValueError.init.plain _, codeAny_builtin PySem.F.excBase_ValueError.initEntry ?_⟩)))))
  exact exc_init_tree (cls := .ref C) (t0 := t0) (dv := none) (c2 := .none) (c3 := .none) (b4 := .bool false) hx (one_le v) fun h' k e' _ => hq h' _ k e'
theorem ns_keep {h h' : Heap} {L x : Addr} {m : Str → Option Value} (hn : h.Ns L m) (k : ∀ b o, b ≠ x → h.get? b = some o → h'.get? b = some o) (hx : x ≠ L) : h'.Ns L m := by
  obtain ⟨oL, es, ep, hL, r⟩ := hn
  exact ⟨oL, es, ep, k _ _ (Ne.symm hx) hL, r⟩
theorem ld_loc {M : Model} {env : PySem.Env} {m : Str → Option Value} {x : Str} {pos : Pos} {v : Value} {Q : Value → Shared → Prop} {A : Around} {E : Value → Shared → Prop} (hn : s.heap.Ns env.locals m) (hv : m x = some v) (h : Q v s)
    (hk : env.scope.kind = .function := by rfl) (hl : env.kindOf x = some .local := by rfl) (hd : (x == ("__debug__" : Str)) = false := by decide) : wpAny M A (eval (.Name x pos) env) Q E s := wpAny_Name (wpAny_loadName_local hk hl hn hv h) hd
theorem sup_form {env : PySem.Env} {n : Str} {a1 a2 a3 a4 a5 : Pos} (hl : (a3.endLine == a5.line) = true) : eval (.Call (.Attribute (.Call (.Name "super" a1) [] [] a2) n a3) [.Name "what" a4] [] a5) env = (do
      let ov ← attributeBase (.Call (.Name "super" a1) [] [] a2) n env (eval (.Call (.Name "super" a1) [] [] a2) env)
      standAt a3.atName
      let (f, first) ← holding [ov] (getMethod ov n (do return (← importBound (.Call (.Name "super" a1) [] [] a2) env).getD true))
      callWith a5 f first (backTo a5 (starEach [.Name "what" a4] env)) []) := by
  have e1 : methodCallPos true (.Call (.Name "super" a1) [] [] a2) env a3 a5 = pure a5 := by unfold methodCallPos; simp [hl]
  show (attributeBase (.Call (.Name "super" a1) [] [] a2) n env (eval (.Call (.Name "super" a1) [] [] a2) env) >>= fun ov => standAt a3.atName >>= fun _ => methodCall (.Call (.Name "super" a1) [] [] a2) n a3 a5 env ov 1 (backTo a5 (starEach [.Name "what" a4] env)) []) = _
  have e2 : methodCallForm 1 (backTo a5 (starEach [.Name "what" a4] env)) ([] : List (Option Str × Sem Value)) = true := rfl
  unfold methodCall calleeOf
  rw [e2, e1]
  rfl
section
variable {prog : Program} {w : World} {A : Around} {s : Shared} {K : Frag} {mg : Str → Option Value} {C fI : Addr}
/-- super().__init__(what) -/
theorem run_sup {h : Heap} {g : Array GenState} {d : Drawn} {t : Nat} {os : OsState} {nm q : Str} {N : Addr} {bs bm : List Value} {sn : List Str} {sub : List Value} {ab : Bool} {col : Option Bool} {dd od : Option Addr} {k0 k1 k2 k3 k5 : Option Value} {oc doc pm ct cl ccl : Value} {an cld cdd : Option Addr} {osl csl ccs : Array (Option Value)} {x t0 cc cda L : Addr} {v : Value} {p1 p2 a1 a2 a3 a4 a5 : Pos} {body : List Stmt} {vs : Array Value} {file : Str} {tf : Tok} {m : Str → Option Value} {Q : Value → Shared → Prop} {E : Value → Shared → Prop}
    (T : Txt prog K mg C fI) (X : K.In h) (hG : h.Ns mainGlobals mg) (hB : ∃ mb, h.Ns builtinsNs mb ∧ ∀ y : Str, y ≠ "__name__" → mb y = bootBuiltins y)
    (hC : K.lookup C = some (excClassObj nm q C N bs bm true sn sub ab col dd k0 k1 k2 k3 k5 "ValueError.__new__"))
    (ho : K.lookup fI = some ⟨oc, od, .func (fnX "__init__" "Refused.__init__" (rA p1 p2) body rS [("__class__", cc)] .none .none doc pm an (.ref cda) ct), osl⟩)
    (hcell : K.lookup cc = some ⟨cl, cld, .cell (some (.ref C)), csl⟩) (hcode : K.lookup cda = some ⟨ccl, cdd, .fields vs, ccs⟩) (hvs : vs[2]? = some (.str file tf)) (hfile : ((prog.main.file : Str) == file) = true) (hl : (a3.endLine == a5.line) = true)
    (hx : h.get? x = some (excO C t0)) (hn : h.Ns L m) (hs : m "self" = some (.ref x)) (hw : m "what" = some v)
    (hq : ∀ h' t1 tk, (∀ b o, b ≠ x → h.get? b = some o → h'.get? b = some o) → h'.get? x = some (excO C t1) → Q .none ⟨h', g, d, tk, os⟩) :
    _root_.PySem.wpAt (model prog w) A (.func body (ksEnv "Refused.__init__" rS L fI (.ref cda) cc)) (eval (.Call (.Attribute (.Call (.Name "super" a1) [] [] a2) "__init__" a3) [.Name "what" a4] [] a5) (ksEnv "Refused.__init__" rS L fI (.ref cda) cc)) Q E ⟨h, g, d, t, os⟩ := by
  have hcl : clsIn K C = some { name := nm, bases := bs, mro := .ref C :: bm, ns := N, qualname := q, hasDict := true, slotNames := sn, subclasses := sub, abstract := ab, collection := col, hasDel := false } := by unfold clsIn; rw [hC] <;> rfl
  obtain ⟨mb, hB1, hB2⟩ := hB
  have hCh := X _ _ hC
  refine ks_wpAt_MethodCall ?_ (sup_form hl)
  refine ks_wpAt_super_base (env := ksEnv "Refused.__init__" rS L fI (.ref cda) cc) (by rfl) (by rfl) (by decide) rfl (X _ _ ho) rfl rfl rfl (X _ _ hcode) rfl hvs hfile T.top ?_
  refine ks_loadName_global (by rfl) (by rfl) (loadGlobal_builtin (env := ksEnv "Refused.__init__" rS L fI (.ref cda) cc) hG (mg_none_of X hG T.noS) hB1 ((hB2 _ (by decide +kernel)).trans PyProof.Rows.Boot.«super») ⟨rfl, ?_⟩)
  refine wpAny_loadName_free (by rfl) (by rfl) rfl ⟨_, X _ _ hcell, rfl⟩ ?_
  refine wpAny_loadName_local (by rfl) (by rfl) hn hs ?_
  refine ks_wpAny_isType_cls hCh rfl ⟨rfl, ?_⟩
  refine ks_wpAny_call_super hCh rfl hx rfl (fun c z => by cases z) (looks_mroIn X T.meC) (fun h2 hso k2 => ?_)
  have X2 : K.In h2 := X.keeps k2
  have hx2 := k2 _ _ hx
  have I2 : InstAt h2 x (excO C t0) C none := ⟨hx2, rfl, rfl, trivial⟩
  have hm := T.sup
  unfold ks_superIn at hm
  rw [hcl] at hm
  have lm : Looks (model prog w) h2 (mroOf (.ref C)) (Value.ref C :: bm) := fun A Q E s k q => wpAny_bind ((looks_clsIn X2 hcl) A _ E s k (wpAny_pure q))
  refine kxs_getMethod kxs_ValueError hso (looks_opaque X2 T.thr) lm rfl X2 hm (I2.type.andThen (looks_subIn X2 T.veC)) (ks_ne X2 I2 hcl) (by decide) ?_
  have kp : ∀ b o, h2.get? b = some o → (h2.push (kxs_mw "ValueError.__init__" x)).get? b = some o := fun b o e => Heap.get?_push_of_some _ e
  have kk : ∀ b o, h.get? b = some o → (h2.push (kxs_mw "ValueError.__init__" x)).get? b = some o := fun b o e => kp b o (k2 b o e)
  refine kxs_callWith (i := "ValueError.__init__") (x := x) (by rfl) (evalArgs_plain (Calls.spliced_cons ?_))
  refine ld_loc (hn.keeps kk) hw (Calls.spliced_nil ⟨Heap.get?_push_size _ rfl, ?_⟩)
  refine bound_call (v := v) (kk _ _ hCh) (kk _ _ hx) (Heap.get?_push_size _ rfl) fun h' t1 k e => hq h' t1 _ (fun b o hb z => k b o hb (kk b o z)) e
end
section
variable {prog : Program} {w : World} {A : Around} {R : Result → Shared → Prop} {s : Shared} {K : Frag} {mg : Str → Option Value} {C fI : Addr}
theorem run_init (T : Txt prog K mg C fI) {x t0 : Addr} {v : Value} (X : K.In s.heap) (hG : s.heap.Ns mainGlobals mg) (hB : ∃ mb, s.heap.Ns builtinsNs mb ∧ ∀ y : Str, y ≠ "__name__" → mb y = bootBuiltins y) (hlim : s.heap.NoLimit) (hx : s.heap.get? x = some (excO C t0)) (hnx : K.lookup x = none) (hroom : A.depth < recursionLimit)
    (hq : ∀ h' tk dx, Left s.heap h' x C dx v → R (.ok (.ret .none)) { s with heap := h', toks := tk }) :
    codeAny (model prog w) A (.call (.ref fI) ⟨[.ref x, v], []⟩) R s := by
  obtain ⟨oc, od, doc, pm, an, cda, cc, ct, osl, p1, p2, a1, a2, a3, a4, a5, a6, q1, q2, q3, q4, cl, ccl, cld, cdd, csl, ccs, vs, file, tf, ho, hcd, hcell, hcode, hvs, hfile, hl⟩ := T.fn
  obtain ⟨nm, q, N, bs, bm, sn, sub, ab, col, dd, k0, k1, k2, k3, k5, hC, hbm⟩ := T.cls
  have hcl : clsIn K C = some { name := nm, bases := bs, mro := .ref C :: bm, ns := N, qualname := q, hasDict := true, slotNames := sn, subclasses := sub, abstract := ab, collection := col, hasDel := false } := by unfold clsIn; rw [hC] <;> rfl
  refine ks_codeAny_call_defAt (fd := fnX "__init__" "Refused.__init__" (rA p1 p2) [rB1 a1 a2 a3 a4 a5 a6, rB2 q1 q2 q3 q4] rS [("__class__", cc)] .none .none doc pm an (.ref cda) ct) (body := [rB1 a1 a2 a3 a4 a5 a6, rB2 q1 q2 q3 q4]) (binds := [("self", .ref x), ("what", v)]) hroom (X _ _ ho) rfl hlim (codeRec_of X hcd) rfl (BindsTo.of_eq (by first | rfl | with_unfolding_all rfl))
    (show ∀ x ∈ rS.names, x.2 ≠ NameKind.cell by decide) (fun y hy => ?_) (fun h1 hn k => ?_)
  · rcases List.mem_cons.mp hy with e | hy
    · subst e; rfl
    · have e := List.mem_singleton.mp hy
      subst e; rfl
  have X1 : K.In h1 := X.keeps k
  have hx1 := k _ _ hx
  have hxL : x ≠ s.heap.objs.size := Nat.ne_of_lt (Heap.lt_size hx)
  obtain ⟨mb, hB1, hB2⟩ := hB
  have hmv : (fun y : Str => ([("self", Value.ref x), ("what", v)] : List (Str × Value)).reverse.lookup y) "what" = some v := by first | rfl | with_unfolding_all rfl | kernel_rfl
  have hmx : (fun y : Str => ([("self", Value.ref x), ("what", v)] : List (Str × Value)).reverse.lookup y) "self" = some (.ref x) := by first | rfl | with_unfolding_all rfl | kernel_rfl
  have main : _root_.PySem.wpAt (model prog w) (A.deeper (ksEnv "Refused.__init__" rS s.heap.objs.size fI (.ref cda) cc)) (.func [rB1 a1 a2 a3 a4 a5 a6, rB2 q1 q2 q3 q4] (ksEnv "Refused.__init__" rS s.heap.objs.size fI (.ref cda) cc)) (execs [rB1 a1 a2 a3 a4 a5 a6, rB2 q1 q2 q3 q4] (ksEnv "Refused.__init__" rS s.heap.objs.size fI (.ref cda) cc))
      (fun f s' => R (.ok (.ret (match f with | .ret v => v | _ => .none))) s') (fun e s' => wpAny (model prog w) (A.deeper (ksEnv "Refused.__init__" rS s.heap.objs.size fI (.ref cda) cc)) (leaving (ksEnv "Refused.__init__" rS s.heap.objs.size fI (.ref cda) cc) e) (fun _ s'' => R (.error e) s'') (fun e' s'' => R (.error e') s'') s') { s with heap := h1, toks := s.toks + 2 } := by
    refine ks_wpAt_execs_cons (ks_wpAt_Expr_any ?_)
    refine run_sup T X1 (hG.keeps k) ⟨mb, hB1.keeps k, hB2⟩ hC ho hcell hcode hvs hfile hl hx1 hn hmx hmv fun h2 t1 tk k2 e2 => ?_
    have kX : ∀ b o, K.lookup b = some o → b ≠ x := fun b o z e => by
      rw [e, hnx] at z
      cases z
    have X2 : K.In h2 := fun b o z => k2 b o (kX b o z) (X1 b o z)
    have hn2 := ns_keep hn k2 hxL
    show _root_.PySem.wpAt _ _ _ (execs [rB2 q1 q2 q3 q4] _) _ _ _
    refine wpAt_of_wpAny (wpAny_execs_cons (plainObj_wpAny_Assign_Attribute ?_))
    refine ld_loc hn2 hmv (ld_loc (v := .ref x) hn2 hmx ?_)
    refine set_plain X2 (ox := excO C t1) (od := none) ⟨e2, rfl, rfl, trivial⟩ T.sa ?_
    refine exc_osa X2 e2 hcl (show refsVE (.ref C :: bm) = true from hbm) rfl T.noN (fun h3 tk3 dx k3 dn dne hx3 hn3 => ?_)
    show wpAny _ _ (execs [] _) _ _ _
    have z : s.heap.objs.size < h2.objs.size := hn2.lt
    exact wpAny_execs_nil (hq h3 tk3 dx ⟨fun b o hb e => k3 b o hb (k2 b o hb (k b o e)), ⟨t1, hx3⟩, Nat.le_of_lt (Nat.lt_of_lt_of_le z dn), dne, hn3⟩)
  exact main
theorem run_made (T : Txt prog K mg C fI) {v : Value} (X : K.In s.heap) (hG : s.heap.Ns mainGlobals mg) (hB : ∃ mb, s.heap.Ns builtinsNs mb ∧ ∀ y : Str, y ≠ "__name__" → mb y = bootBuiltins y) (hlim : s.heap.NoLimit) (hroom : A.depth + 1 < recursionLimit)
    (hq : ∀ h' tk e d, Made s.heap h' e C d v → R (.ok (.ret (.ref e))) { s with heap := h', toks := tk }) : codeAny (model prog w) A (.call (.ref C) ⟨[v], []⟩) R s := by
  obtain ⟨nm, q, N, bs, bm, sn, sub, ab, col, dd, k0, k1, k2, k3, k5, hC, hbm⟩ := T.cls
  obtain ⟨mb, hB1, hB2⟩ := hB
  obtain ⟨hp, g, dr, tk, os⟩ := s
  have k : ∀ b o, hp.get? b = some o → ((hp.push (kdv_tup [v])).push (excO C hp.objs.size)).get? b = some o := fun b o e => Heap.get?_push_of_some _ (Heap.get?_push_of_some _ e)
  have hget : ((hp.push (kdv_tup [v])).push (excO C hp.objs.size)).get? (hp.objs.size + 1) = some (excO C hp.objs.size) := by heap_get
  have hnx : K.lookup (hp.objs.size + 1) = none := by
    cases e : K.lookup (hp.objs.size + 1) with
    | none => rfl
    | some o => exact absurd (Nat.lt_of_succ_lt (Heap.lt_size (show hp.get? (hp.objs.size + 1) = some o from X _ _ e))) (Nat.lt_irrefl _)
  refine call_own PySem.F.excBase_ValueError (fun X => refsVE_contains X bm hbm) (X _ _ hC) (looks_findIn X T.iC) (fun self => bind_fn X self T.tC) (one_le v) ?_
  refine run_init (s := ⟨(hp.push (kdv_tup [v])).push (excO C hp.objs.size), g, dr, tk, os⟩) T (X.keeps k) (hG.keeps k) ⟨mb, hB1.keeps k, hB2⟩ (hlim.keeps k) hget hnx (show A.depth + 1 < recursionLimit from hroom) fun h' tk' dx M => ?_
  obtain ⟨t1, hx⟩ := M.obj
  have old : ∀ b o, hp.get? b = some o → h'.get? b = some o := fun b o e => M.keep b o (Nat.ne_of_lt (Nat.lt_succ_of_lt (Heap.lt_size e))) (k b o e)
  have z : hp.objs.size + 1 + 1 ≤ dx := by
    have q := M.dbig
    first | exact q | (rw [Heap.size_push, Heap.size_push] at q; exact q)
  exact ⟨rfl, hq h' tk' (hp.objs.size + 1) dx ⟨old, Nat.le_succ _, ⟨_, _, hx, rfl, rfl, rfl, rfl, rfl⟩, Nat.le_trans (Nat.le_trans (Nat.le_succ _) (Nat.le_succ _)) z, M.dne, M.ns⟩⟩
end
end
end Rfs
namespace L2
open PySem PySem.Spec PyProof.Rows
theorem relO_what {v : V} {v' : Value} (r : RelV v v') (f : Str) : RelO (List.lookup f [(("what" : Str), v)]) (if f = "what" then some v' else none) := by
  by_cases hw : f = "what"
  · subst hw
    rw [if_pos rfl, show List.lookup ("what" : Str) [(("what" : Str), v)] = some v by simp [List.lookup]]
    exact r
  · have qw : (f == ("what" : Str)) = false := by simpa using hw
    rw [if_neg hw, show List.lookup f [(("what" : Str), v)] = none by simp [List.lookup, qw]]
    trivial
section
variable {X : Cx} {C fI : Addr}
/-- Refused(e) -/
def tMkRef (C : Addr) (ta : TA) : St → Hp → XK → Prop := fun σ H Q => ta σ H fun vs H1 => ∃ v, vs = [v] ∧ ∀ d, H1 d = none → Q (.ref C) (some d) (upd H1 d (.xd [(("what" : Str), v)]))
theorem pmk_ref {a : Expr} {ta : TA} {p pos : Pos} {k : Nat} (T : Rfs.Txt X.prog X.K X.mg C fI) (hr : Room k X.A) (ha : PA X [a] ta) (hg : Gl X "Refused")
    (he : starEach (a :: []) X.env = (false, eval a X.env) :: starEach [] X.env) (hpl : (backTo pos (starEach [] X.env)).any (·.1) = false := by rfl) : L2N.PMk X (.Call (.Name "Refused" p) [a] [] pos) (tMkRef C ta) := by
  intro pins s σ H Q I h
  refine wpAny_Call_Name_kw (ld_glob I hg T.gC ?_)
  refine PySem.W.callWith_K (h₀ := X.base) I.ok.mod.kin T.kC (thn (ha.run pos pins s σ H _ I h) fun us s1 hh => ?_) he hpl
  obtain ⟨vs, H1, I1, r1, v, ev, q1⟩ := hh
  subst ev
  refine ⟨I1.kIn, ?_⟩
  cases r1 with
  | cons rv rn =>
    rename_i v' us'
    cases rn
    show wpAny _ _ (call (.ref C) [v']) _ _ _
    have hlim := I1.nolimit
    obtain ⟨mb, hB1, hB2⟩ := I1.mod.blt
    have hG := I1.mod.glob.keeps I1.bk
    have hB1 := hB1.keeps I1.bk
    obtain ⟨hp, g, dr, tk, os⟩ := s1
    refine wpAny_call (Rfs.run_made T I1.kIn hG ⟨mb, hB1, hB2⟩ hlim (by have := hr.dp; omega) fun h' tk' e d M => ?_)
    show L2N.MkP X pins σ Q (.ref e) ⟨h', g, dr, tk', os⟩
    obtain ⟨oe, fv, hoe, hc, hd, hdat, h1, h2⟩ := M.obj
    have hns := M.ns
    obtain ⟨G', g1, g2⟩ := restrict h' fun b => decide (b ≠ e)
    have gk : ∀ b, b ≠ e → G'.get? b = h'.get? b := fun b hb => g1 b (decide_eq_true hb)
    have ge : G'.get? e = none := g2 e (by simp)
    have old : ∀ b o, hp.get? b = some o → G'.get? b = some o := fun b o q => (gk b (Nat.ne_of_lt (Nat.lt_of_lt_of_le (Heap.lt_size q) M.new))).trans (M.keep b o q)
    have ob : ObjOk X.prog X.w (upd H1 d (.xd [(("what" : Str), v)])) G' d (.xd [(("what" : Str), v)]) := ⟨_, hns.at (fun o q => (gk d M.dne).trans q), fun f => relO_what rv f⟩
    have J : Inv X pins σ (upd H1 d (.xd [(("what" : Str), v)])) ⟨G', g, dr, tk', os⟩ := I1.laid (t' := tk') old M.dbig ob
    refine ⟨e, oe, fv, ⟨G', g, dr, tk', os⟩, _, .ref C, some d, rfl, J, fun b o q => ?_, ge, hoe, ⟨hc, hd, fun vs2 e2 => by rw [hdat] at e2; cases e2; exact h2⟩, hdat, h1, ?_, rfl, I1.bare, raises_own T.exC T.tyC, q1 d (I1.hok.fresh M.dbig)⟩
    · by_cases hb : b = e
      · have q' : G'.get? b = some o := q
        rw [hb, ge] at q'; cases q'
      · exact (gk b hb).symm.trans q
    · rw [upd_ne (Ne.symm M.dne)]
      exact I1.hok.fresh M.new
end
end L2

end
section
/-! EvB: the program's own error BadTrace: made, its line and its what. -/
namespace Bts
open PySem PySem.W PySem.Calls PyProof.Rows PySem.HandSPX
open Rfs (bound_call ns_keep ld_loc)
/-! the text of its __init__ -/
def rA (p1 p2 p3 : Pos) : Arguments := { posonlyargs := [], args := [{ arg := "self", annotation := none, pos := p1 }, { arg := "line", annotation := none, pos := p2 }, { arg := "what", annotation := none, pos := p3 }], vararg := none, kwonlyargs := [], kw_defaults := [], kwarg := none, defaults := [] }
def rJ (b1 b2 b3 b4 b5 b6 b : Pos) : Expr := .JoinedStr [.Constant (.str "line ") 0 b1, .FormattedValue (.Name "line" b2) (-1) none b3, .Constant (.str ": ") 0 b4, .FormattedValue (.Name "what" b5) (-1) none b6] b
def rB1 (a1 a2 a3 : Pos) (b1 b2 b3 b4 b5 b6 b : Pos) (a5 a6 : Pos) : Stmt := .Expr (.Call (.Attribute (.Call (.Name "super" a1) [] [] a2) "__init__" a3) [rJ b1 b2 b3 b4 b5 b6 b] [] a5) a6
def rB2 (q1 q2 q3 q4 : Pos) : Stmt := .Assign [.Attribute (.Name "self" q1) "line" q2] (.Name "line" q3) q4
def rB3 (q1 q2 q3 q4 : Pos) : Stmt := .Assign [.Attribute (.Name "self" q1) "what" q2] (.Name "what" q3) q4
def rS : Scope := { kind := .function, names := [(PySem.Str.ofString "self", .local), (PySem.Str.ofString "line", .local), (PySem.Str.ofString "what", .local), (PySem.Str.ofString "__class__", .free), (PySem.Str.ofString "super", .globalImplicit)], isGenerator := false, isCoroutine := false, more := [] }
/-- what the written part says of the class at C, its __init__ at fI, the cell of __class__ at cc, the code at cda -/
structure Txt (P : Program) (K : Frag) (mg : Str → Option Value) (C fI : Addr) : Prop where
  gC : mg "BadTrace" = some (.ref C)
  cls : ∃ nm q N bs bm sn sub ab col dd k0 k1 k2 k3 k5, K.lookup C = some (excClassObj nm q C N bs bm true sn sub ab col dd k0 k1 k2 k3 k5 "ValueError.__new__") ∧ refsVE bm = true
  sa : findIn K (.ref C) "__setattr__" = some (some (.builtin "object.__setattr__"))
  noL : findIn K (.ref C) "line" = some none
  noN : findIn K (.ref C) "what" = some none
  iC : findIn K (.ref C) "__init__" = some (some (.ref fI))
  tC : typeIn K (.ref fI) = some (.type "function")
  kC : keepIn K (.ref C) = true
  exC : subIn K (.ref C) (.type "BaseException") = some true
  tyC : typeIn K (.ref C) = some (.type "type")
  veC : subIn K (.ref C) (.type "ValueError") = some true
  meC : mroIn K C (.ref C) = some true
  sup : ks_superIn K C C "__init__" = some (some (.builtin "ValueError.__init__"))
  noS : nsIn K mainGlobals "super" = some none
  thr : nsIn K cStatics "thirdparty.any" = some none
  top : (P.main.scope.names.lookup ("super" : Str)).isSome = false
  fn : ∃ (oc : Value) (od : Option Addr) (doc pm : Value) (an : Option Addr) (cda cc : Addr) (ct : Value) (osl : Array (Option Value)) (p1 p2 p3 a1 a2 a3 b1 b2 b3 b4 b5 b6 b a5 a6 q1 q2 q3 q4 u1 u2 u3 u4 : Pos) (cl ccl : Value) (cld cdd : Option Addr) (csl ccs : Array (Option Value)) (vs : Array Value) (file : Str) (tf : Tok),
    K.lookup fI = some ⟨oc, od, .func (fnX "__init__" "BadTrace.__init__" (rA p1 p2 p3) [rB1 a1 a2 a3 b1 b2 b3 b4 b5 b6 b a5 a6, rB2 q1 q2 q3 q4, rB3 u1 u2 u3 u4] rS [("__class__", cc)] .none .none doc pm an (.ref cda) ct), osl⟩ ∧ codeIn K (.ref cda) "BadTrace.__init__" = true ∧
      K.lookup cc = some ⟨cl, cld, .cell (some (.ref C)), csl⟩ ∧ K.lookup cda = some ⟨ccl, cdd, .fields vs, ccs⟩ ∧ vs[2]? = some (.str file tf) ∧ ((P.main.file : Str) == file) = true ∧ (a3.endLine == a5.line) = true
def fmap (ln v : Value) : Str → Option Value := fun y => if y = "what" then some v else if y = "line" then some ln else none
/-- what __init__ leaves of a fresh exception at x -/
structure Left (h h' : Heap) (x C dx : Addr) (ln v : Value) : Prop where
  keep : ∀ b o, b ≠ x → h.get? b = some o → h'.get? b = some o
  obj : ∃ t1 : Addr, h'.get? x = some { cls := .ref C, dict := some dx, data := .fields #[.ref t1, .none, .none, .none, .bool false, .none] }
  dbig : h.objs.size ≤ dx
  dne : dx ≠ x
  ns : h'.Ns1 dx (fmap ln v)
structure Made (h h' : Heap) (e C d : Addr) (ln v : Value) : Prop where
  keep : ∀ b o, h.get? b = some o → h'.get? b = some o
  new : h.objs.size ≤ e
  obj : ∃ oe vs, h'.get? e = some oe ∧ oe.cls = .ref C ∧ oe.dict = some d ∧ oe.data = .fields vs ∧ vs[1]? = some .none ∧ vs[2]? = some .none
  dbig : h.objs.size ≤ d
  dne : d ≠ e
  ns : h'.Ns1 d (fmap ln v)
theorem two_le (u v : Value) : [u, v].length ≤ sizeLine := by rw [sizeLine_eq]; exact (by decide : 2 ≤ 16777216)
theorem one_le (v : Value) : [v].length ≤ sizeLine := by rw [sizeLine_eq]; exact (by decide : 1 ≤ 16777216)
/-- small enough to be told in a text -/
structure Sml (i : Int) (y : Str) : Prop where
  hi : i.natAbs.log2 < 1920
  hy : y.length ≤ 1000
  hs : (PySem.Str.ofString (toString i)).length ≤ 1000
section
variable {prog : Program} {w : World} {A : Around} {s : Shared}
theorem fstr_loc {env : PySem.Env} {m : Str → Option Value} {b1 b2 b3 b4 b5 b6 b : Pos} {i : Int} {y : Str} {t1 t2 : Tok} {Q : Value → Shared → Prop} {E : Value → Shared → Prop} (hs : Sml i y) (hn : s.heap.Ns env.locals m) (hl : m "line" = some (.int i t1)) (hw : m "what" = some (.str y t2))
    (q : ∀ v tk, Q v { s with toks := tk }) (hk : env.scope.kind = .function := by rfl) (h1 : env.kindOf "line" = some .local := by rfl) (h2 : env.kindOf "what" = some .local := by rfl) : wpAny (model prog w) A (eval (rJ b1 b2 b3 b4 b5 b6 b) env) Q E s := by
  have big : sizeLine = 16777216 := sizeLine_eq
  have ty := hs.hy
  have ti : (Str.ofString (toString i)).length ≤ 1000 := by
    exact hs.hs
  have e1 : (PySem.Str.ofString "line ").length = 5 := by decide +kernel
  have e2 : (PySem.Str.ofString ": ").length = 2 := by decide +kernel
  have e0 : (Str.empty).length = 0 := by decide +kernel
  unfold rJ
  refine wpAny_JoinedStr ?_
  refine wpAny_Constant_str ⟨_, _, rfl, by rw [strLen_append, e0, big]; omega, ?_⟩
  refine wpAny_FormattedValue_plain (ld_loc hn hl (wpAny_formatField_int hs.hi ⟨_, _, rfl, by rw [strLen_append, strLen_append, e0, big]; omega, ?_⟩) hk h1)
  refine wpAny_Constant_str ⟨_, _, rfl, by rw [strLen_append, strLen_append, strLen_append, e0, big]; omega, ?_⟩
  have fin : ∀ z, z.length ≤ sizeLine → ∀ s1 : Shared, s1 = { s with toks := s1.toks } → z.length ≤ sizeLine ∧ Q (.str z s1.toks) { s1 with toks := s1.toks + 1 } := fun z hz s1 e => ⟨hz, by rw [e]; exact q _ _⟩
  have lz : (Str.empty ++ (PySem.Str.ofString "line ") ++ (Str.ofString (toString i)) ++ (PySem.Str.ofString ": ") ++ y).length ≤ sizeLine := by rw [strLen_append, strLen_append, strLen_append, strLen_append, e0, big]; omega
  refine wpAny_FormattedValue_plain (ld_loc hn hw (wpAny_formatField_str ⟨_, _, rfl, lz, fin _ lz _ rfl⟩ ⟨_, _, rfl, lz, fin _ lz _ rfl⟩ (by rw [big]; omega)) hk h2)
end
theorem sup_form {env : PySem.Env} {n : Str} {e : Expr} {a1 a2 a3 a5 : Pos} (hl : (a3.endLine == a5.line) = true) (hst : methodCallForm 1 (backTo a5 (starEach [e] env)) ([] : List (Option Str × Sem Value)) = true) : eval (.Call (.Attribute (.Call (.Name "super" a1) [] [] a2) n a3) [e] [] a5) env = (do
      let ov ← attributeBase (.Call (.Name "super" a1) [] [] a2) n env (eval (.Call (.Name "super" a1) [] [] a2) env)
      standAt a3.atName
      let (f, first) ← holding [ov] (getMethod ov n (do return (← importBound (.Call (.Name "super" a1) [] [] a2) env).getD true))
      callWith a5 f first (backTo a5 (starEach [e] env)) []) := by
  have e1 : methodCallPos true (.Call (.Name "super" a1) [] [] a2) env a3 a5 = pure a5 := by unfold methodCallPos; simp [hl]
  show (attributeBase (.Call (.Name "super" a1) [] [] a2) n env (eval (.Call (.Name "super" a1) [] [] a2) env) >>= fun ov => standAt a3.atName >>= fun _ => methodCall (.Call (.Name "super" a1) [] [] a2) n a3 a5 env ov 1 (backTo a5 (starEach [e] env)) []) = _
  unfold methodCall calleeOf
  rw [hst, e1]
  rfl
section
variable {prog : Program} {w : World} {A : Around} {s : Shared} {K : Frag} {mg : Str → Option Value} {C fI : Addr}
/-- super().__init__(f"line {line}: {what}") -/
theorem run_sup {h : Heap} {g : Array GenState} {d : Drawn} {t : Nat} {os : OsState} {nm q : Str} {N : Addr} {bs bm : List Value} {sn : List Str} {sub : List Value} {ab : Bool} {col : Option Bool} {dd od : Option Addr} {k0 k1 k2 k3 k5 : Option Value} {oc doc pm ct cl ccl : Value} {an cld cdd : Option Addr} {osl csl ccs : Array (Option Value)} {x t0 cc cda L : Addr} {i : Int} {y : Str} {ti ty : Tok} {p1 p2 p3 a1 a2 a3 a5 b1 b2 b3 b4 b5 b6 b : Pos} {body : List Stmt} {vs : Array Value} {file : Str} {tf : Tok} {m : Str → Option Value} {Q : Value → Shared → Prop} {E : Value → Shared → Prop}
    (T : Txt prog K mg C fI) (X : K.In h) (hG : h.Ns mainGlobals mg) (hB : ∃ mb, h.Ns builtinsNs mb ∧ ∀ y : Str, y ≠ "__name__" → mb y = bootBuiltins y) (hsm : Sml i y)
    (hC : K.lookup C = some (excClassObj nm q C N bs bm true sn sub ab col dd k0 k1 k2 k3 k5 "ValueError.__new__"))
    (ho : K.lookup fI = some ⟨oc, od, .func (fnX "__init__" "BadTrace.__init__" (rA p1 p2 p3) body rS [("__class__", cc)] .none .none doc pm an (.ref cda) ct), osl⟩)
    (hcell : K.lookup cc = some ⟨cl, cld, .cell (some (.ref C)), csl⟩) (hcode : K.lookup cda = some ⟨ccl, cdd, .fields vs, ccs⟩) (hvs : vs[2]? = some (.str file tf)) (hfile : ((prog.main.file : Str) == file) = true) (hl : (a3.endLine == a5.line) = true)
    (hx : h.get? x = some (excO C t0)) (hn : h.Ns L m) (hs : m "self" = some (.ref x)) (hli : m "line" = some (.int i ti)) (hw : m "what" = some (.str y ty))
    (hq : ∀ h' t1 tk, (∀ b o, b ≠ x → h.get? b = some o → h'.get? b = some o) → h'.get? x = some (excO C t1) → Q .none ⟨h', g, d, tk, os⟩) :
    _root_.PySem.wpAt (model prog w) A (.func body (ksEnv "BadTrace.__init__" rS L fI (.ref cda) cc)) (eval (.Call (.Attribute (.Call (.Name "super" a1) [] [] a2) "__init__" a3) [rJ b1 b2 b3 b4 b5 b6 b] [] a5) (ksEnv "BadTrace.__init__" rS L fI (.ref cda) cc)) Q E ⟨h, g, d, t, os⟩ := by
  have hcl : clsIn K C = some { name := nm, bases := bs, mro := .ref C :: bm, ns := N, qualname := q, hasDict := true, slotNames := sn, subclasses := sub, abstract := ab, collection := col, hasDel := false } := by unfold clsIn; rw [hC] <;> rfl
  obtain ⟨mb, hB1, hB2⟩ := hB
  have hCh := X _ _ hC
  refine ks_wpAt_MethodCall ?_ (sup_form hl rfl)
  refine ks_wpAt_super_base (env := ksEnv "BadTrace.__init__" rS L fI (.ref cda) cc) (by rfl) (by rfl) (by decide) rfl (X _ _ ho) rfl rfl rfl (X _ _ hcode) rfl hvs hfile T.top ?_
  refine ks_loadName_global (by rfl) (by rfl) (loadGlobal_builtin (env := ksEnv "BadTrace.__init__" rS L fI (.ref cda) cc) hG (mg_none_of X hG T.noS) hB1 ((hB2 _ (by decide +kernel)).trans PyProof.Rows.Boot.«super») ⟨rfl, ?_⟩)
  refine wpAny_loadName_free (by rfl) (by rfl) rfl ⟨_, X _ _ hcell, rfl⟩ ?_
  refine wpAny_loadName_local (by rfl) (by rfl) hn hs ?_
  refine ks_wpAny_isType_cls hCh rfl ⟨rfl, ?_⟩
  refine ks_wpAny_call_super hCh rfl hx rfl (fun c z => by cases z) (looks_mroIn X T.meC) (fun h2 hso k2 => ?_)
  have X2 : K.In h2 := X.keeps k2
  have hx2 := k2 _ _ hx
  have I2 : InstAt h2 x (excO C t0) C none := ⟨hx2, rfl, rfl, trivial⟩
  have hm := T.sup
  unfold ks_superIn at hm
  rw [hcl] at hm
  have lm : Looks (model prog w) h2 (mroOf (.ref C)) (Value.ref C :: bm) := fun A Q E s k q => wpAny_bind ((looks_clsIn X2 hcl) A _ E s k (wpAny_pure q))
  refine kxs_getMethod kxs_ValueError hso (looks_opaque X2 T.thr) lm rfl X2 hm (I2.type.andThen (looks_subIn X2 T.veC)) (ks_ne X2 I2 hcl) (by decide) ?_
  have kp : ∀ b o, h2.get? b = some o → (h2.push (kxs_mw "ValueError.__init__" x)).get? b = some o := fun b o e => Heap.get?_push_of_some _ e
  have kk : ∀ b o, h.get? b = some o → (h2.push (kxs_mw "ValueError.__init__" x)).get? b = some o := fun b o e => kp b o (k2 b o e)
  refine kxs_callWith (i := "ValueError.__init__") (x := x) (by rfl) (evalArgs_plain (Calls.spliced_cons ?_))
  show wpAny _ _ (eval (rJ b1 b2 b3 b4 b5 b6 b) _) _ _ _
  refine fstr_loc hsm (hn.keeps kk) hli hw fun v tk => Calls.spliced_nil ⟨Heap.get?_push_size _ rfl, ?_⟩
  refine bound_call (v := v) (kk _ _ hCh) (kk _ _ hx) (Heap.get?_push_size _ rfl) fun h' t1 k e => hq h' t1 _ (fun b o hb z => k b o hb (kk b o z)) e
end
section
variable {prog : Program} {w : World} {A : Around} {R : Result → Shared → Prop} {s : Shared} {K : Frag} {mg : Str → Option Value} {C fI : Addr}
theorem run_init (T : Txt prog K mg C fI) {x t0 : Addr} {i : Int} {y : Str} {ti ty : Tok} (X : K.In s.heap) (hG : s.heap.Ns mainGlobals mg) (hB : ∃ mb, s.heap.Ns builtinsNs mb ∧ ∀ y : Str, y ≠ "__name__" → mb y = bootBuiltins y) (hlim : s.heap.NoLimit) (hsm : Sml i y) (hx : s.heap.get? x = some (excO C t0)) (hnx : K.lookup x = none) (hroom : A.depth < recursionLimit)
    (hq : ∀ h' tk dx, Left s.heap h' x C dx (.int i ti) (.str y ty) → R (.ok (.ret .none)) { s with heap := h', toks := tk }) :
    codeAny (model prog w) A (.call (.ref fI) ⟨[.ref x, .int i ti, .str y ty], []⟩) R s := by
  obtain ⟨oc, od, doc, pm, an, cda, cc, ct, osl, p1, p2, p3, a1, a2, a3, b1, b2, b3, b4, b5, b6, b, a5, a6, q1, q2, q3, q4, u1, u2, u3, u4, cl, ccl, cld, cdd, csl, ccs, vs, file, tf, ho, hcd, hcell, hcode, hvs, hfile, hl⟩ := T.fn
  obtain ⟨nm, q, N, bs, bm, sn, sub, ab, col, dd, k0, k1, k2, k3, k5, hC, hbm⟩ := T.cls
  have hcl : clsIn K C = some { name := nm, bases := bs, mro := .ref C :: bm, ns := N, qualname := q, hasDict := true, slotNames := sn, subclasses := sub, abstract := ab, collection := col, hasDel := false } := by unfold clsIn; rw [hC] <;> rfl
  refine ks_codeAny_call_defAt (fd := fnX "__init__" "BadTrace.__init__" (rA p1 p2 p3) [rB1 a1 a2 a3 b1 b2 b3 b4 b5 b6 b a5 a6, rB2 q1 q2 q3 q4, rB3 u1 u2 u3 u4] rS [("__class__", cc)] .none .none doc pm an (.ref cda) ct) (body := [rB1 a1 a2 a3 b1 b2 b3 b4 b5 b6 b a5 a6, rB2 q1 q2 q3 q4, rB3 u1 u2 u3 u4]) (binds := [("self", .ref x), ("line", .int i ti), ("what", .str y ty)]) hroom (X _ _ ho) rfl hlim (codeRec_of X hcd) rfl (BindsTo.of_eq (by first | rfl | with_unfolding_all rfl))
    (show ∀ x ∈ rS.names, x.2 ≠ NameKind.cell by decide) (fun y hy => ?_) (fun h1 hn k => ?_)
  · rcases List.mem_cons.mp hy with e | hy
    · subst e; rfl
    · rcases List.mem_cons.mp hy with e | hy
      · subst e; rfl
      · have e := List.mem_singleton.mp hy
        subst e; rfl
  have X1 : K.In h1 := X.keeps k
  have hx1 := k _ _ hx
  have hxL : x ≠ s.heap.objs.size := Nat.ne_of_lt (Heap.lt_size hx)
  obtain ⟨mb, hB1, hB2⟩ := hB
  have hmv : (fun z : Str => ([("self", Value.ref x), ("line", .int i ti), ("what", .str y ty)] : List (Str × Value)).reverse.lookup z) "what" = some (.str y ty) := by first | rfl | with_unfolding_all rfl | kernel_rfl
  have hml : (fun z : Str => ([("self", Value.ref x), ("line", .int i ti), ("what", .str y ty)] : List (Str × Value)).reverse.lookup z) "line" = some (.int i ti) := by first | rfl | with_unfolding_all rfl | kernel_rfl
  have hmx : (fun z : Str => ([("self", Value.ref x), ("line", .int i ti), ("what", .str y ty)] : List (Str × Value)).reverse.lookup z) "self" = some (.ref x) := by first | rfl | with_unfolding_all rfl | kernel_rfl
  have main : _root_.PySem.wpAt (model prog w) (A.deeper (ksEnv "BadTrace.__init__" rS s.heap.objs.size fI (.ref cda) cc)) (.func [rB1 a1 a2 a3 b1 b2 b3 b4 b5 b6 b a5 a6, rB2 q1 q2 q3 q4, rB3 u1 u2 u3 u4] (ksEnv "BadTrace.__init__" rS s.heap.objs.size fI (.ref cda) cc)) (execs [rB1 a1 a2 a3 b1 b2 b3 b4 b5 b6 b a5 a6, rB2 q1 q2 q3 q4, rB3 u1 u2 u3 u4] (ksEnv "BadTrace.__init__" rS s.heap.objs.size fI (.ref cda) cc))
      (fun f s' => R (.ok (.ret (match f with | .ret v => v | _ => .none))) s') (fun e s' => wpAny (model prog w) (A.deeper (ksEnv "BadTrace.__init__" rS s.heap.objs.size fI (.ref cda) cc)) (leaving (ksEnv "BadTrace.__init__" rS s.heap.objs.size fI (.ref cda) cc) e) (fun _ s'' => R (.error e) s'') (fun e' s'' => R (.error e') s'') s') { s with heap := h1, toks := s.toks + 3 } := by
    refine ks_wpAt_execs_cons (ks_wpAt_Expr_any ?_)
    refine run_sup T X1 (hG.keeps k) ⟨mb, hB1.keeps k, hB2⟩ hsm hC ho hcell hcode hvs hfile hl hx1 hn hmx hml hmv fun h2 t1 tk k2 e2 => ?_
    have kX : ∀ b o, K.lookup b = some o → b ≠ x := fun b o z e => by
      rw [e, hnx] at z
      cases z
    have X2 : K.In h2 := fun b o z => k2 b o (kX b o z) (X1 b o z)
    have hn2 := ns_keep hn k2 hxL
    show _root_.PySem.wpAt _ _ _ (execs [rB2 q1 q2 q3 q4, rB3 u1 u2 u3 u4] _) _ _ _
    refine wpAt_of_wpAny (wpAny_execs_cons (plainObj_wpAny_Assign_Attribute ?_))
    refine ld_loc hn2 hml (ld_loc (v := .ref x) hn2 hmx ?_)
    refine set_plain X2 (ox := excO C t1) (od := none) ⟨e2, rfl, rfl, trivial⟩ T.sa ?_
    refine exc_osa X2 e2 hcl (show refsVE (.ref C :: bm) = true from hbm) rfl T.noL (fun h3 tk3 dx k3 dn dne hx3 hn3 => ?_)
    have X3 : K.In h3 := fun b o z => k3 b o (kX b o z) (X2 b o z)
    have hn4 := ns_keep hn2 k3 hxL
    have z : s.heap.objs.size < h2.objs.size := hn2.lt
    have hdL : s.heap.objs.size ≠ dx := fun e => by
      have := Nat.lt_of_lt_of_le z dn
      omega
    show wpAny _ _ (execs [rB3 u1 u2 u3 u4] _) _ _ _
    refine wpAny_execs_cons (plainObj_wpAny_Assign_Attribute ?_)
    refine ld_loc hn4 hmv (ld_loc (v := .ref x) hn4 hmx ?_)
    obtain ⟨oD, esD, epD, hoD, hdD, _⟩ := hn3.count (Within.cons "line" (.int i ti) Within.nil)
    refine set_plain X3 (ox := { cls := .ref C, dict := some dx, data := .fields #[.ref t1, .none, .none, .none, .bool false, .none] }) (od := some oD) ⟨hx3, rfl, rfl, hoD⟩ T.sa ?_
    refine OEX.osa_old X3 hx3 hn3 (Within.cons "line" (.int i ti) Within.nil) (by decide) hcl (show refsVE (.ref C :: bm) = true from hbm) rfl T.noN (fun h5 tk5 k5 hn5 => ?_)
    show wpAny _ _ (execs [] _) _ _ _
    refine wpAny_execs_nil (hq h5 tk5 dx ⟨fun b o hb e => ?_, ⟨t1, k5 _ _ dne.symm hx3⟩, Nat.le_of_lt (Nat.lt_of_lt_of_le z dn), dne, hn5⟩)
    have e3 := k3 b o hb (k2 b o hb (k b o e))
    have : b ≠ dx := Nat.ne_of_lt (Nat.lt_of_lt_of_le (Nat.lt_trans (Heap.lt_size e) z) dn)
    exact k5 b o this e3
  exact main
theorem run_made (T : Txt prog K mg C fI) {i : Int} {y : Str} {ti ty : Tok} (X : K.In s.heap) (hG : s.heap.Ns mainGlobals mg) (hB : ∃ mb, s.heap.Ns builtinsNs mb ∧ ∀ y : Str, y ≠ "__name__" → mb y = bootBuiltins y) (hlim : s.heap.NoLimit) (hsm : Sml i y) (hroom : A.depth + 1 < recursionLimit)
    (hq : ∀ h' tk e d, Made s.heap h' e C d (.int i ti) (.str y ty) → R (.ok (.ret (.ref e))) { s with heap := h', toks := tk }) : codeAny (model prog w) A (.call (.ref C) ⟨[.int i ti, .str y ty], []⟩) R s := by
  obtain ⟨nm, q, N, bs, bm, sn, sub, ab, col, dd, k0, k1, k2, k3, k5, hC, hbm⟩ := T.cls
  obtain ⟨mb, hB1, hB2⟩ := hB
  obtain ⟨hp, g, dr, tk, os⟩ := s
  have k : ∀ b o, hp.get? b = some o → ((hp.push (kdv_tup [.int i ti, .str y ty])).push (excO C hp.objs.size)).get? b = some o := fun b o e => Heap.get?_push_of_some _ (Heap.get?_push_of_some _ e)
  have hget : ((hp.push (kdv_tup [.int i ti, .str y ty])).push (excO C hp.objs.size)).get? (hp.objs.size + 1) = some (excO C hp.objs.size) := by heap_get
  have hnx : K.lookup (hp.objs.size + 1) = none := by
    cases e : K.lookup (hp.objs.size + 1) with
    | none => rfl
    | some o => exact absurd (Nat.lt_of_succ_lt (Heap.lt_size (show hp.get? (hp.objs.size + 1) = some o from X _ _ e))) (Nat.lt_irrefl _)
  refine call_own PySem.F.excBase_ValueError (fun X => refsVE_contains X bm hbm) (X _ _ hC) (looks_findIn X T.iC) (fun self => bind_fn X self T.tC) (two_le _ _) ?_
  refine run_init (s := ⟨(hp.push (kdv_tup [.int i ti, .str y ty])).push (excO C hp.objs.size), g, dr, tk, os⟩) T (X.keeps k) (hG.keeps k) ⟨mb, hB1.keeps k, hB2⟩ (hlim.keeps k) hsm hget hnx (show A.depth + 1 < recursionLimit from hroom) fun h' tk' dx M => ?_
  obtain ⟨t1, hx⟩ := M.obj
  have old : ∀ b o, hp.get? b = some o → h'.get? b = some o := fun b o e => M.keep b o (Nat.ne_of_lt (Nat.lt_succ_of_lt (Heap.lt_size e))) (k b o e)
  have z : hp.objs.size + 1 + 1 ≤ dx := by
    have q := M.dbig
    first | exact q | (rw [Heap.size_push, Heap.size_push] at q; exact q)
  exact ⟨rfl, hq h' tk' (hp.objs.size + 1) dx ⟨old, Nat.le_succ _, ⟨_, _, hx, rfl, rfl, rfl, rfl, rfl⟩, Nat.le_trans (Nat.le_trans (Nat.le_succ _) (Nat.le_succ _)) z, M.dne, M.ns⟩⟩
end
end Bts
namespace L2
open PySem PySem.Spec PyProof.Rows
open Pv (bfs)
theorem relO_bad {n : Int} {v : Str} {u u' : Value} (r1 : RelV (.int n) u) (r2 : RelV (.str v) u') (f : Str) : RelO (List.lookup f (bfs n v)) (Bts.fmap u u' f) := by
  unfold Bts.fmap bfs
  by_cases hw : f = "what"
  · subst hw
    have q : ((PySem.Str.ofString "what") == (PySem.Str.ofString "line")) = false := by decide +kernel
    have e : List.lookup ("what" : Str) [(("line" : Str), V.int n), (("what" : Str), V.str v)] = some (.str v) := by simp [List.lookup, q]
    rw [if_pos rfl, e]
    exact r2
  · rw [if_neg hw]
    have qw : (f == ("what" : Str)) = false := by simpa using hw
    by_cases hl : f = "line"
    · subst hl
      rw [if_pos rfl, show List.lookup ("line" : Str) [(("line" : Str), V.int n), (("what" : Str), .str v)] = some (.int n) by simp [List.lookup]]
      exact r1
    · have ql : (f == ("line" : Str)) = false := by simpa using hl
      rw [if_neg hl, show List.lookup f [(("line" : Str), V.int n), (("what" : Str), .str v)] = none by simp [List.lookup, qw, ql]]
      trivial
section
variable {X : Cx} {C fI : Addr}
/-- BadTrace(e, f) -/
def tMkBad (C : Addr) (ta : TA) : St → Hp → XK → Prop := fun σ H Q => ta σ H fun vs H1 => ∃ n v, vs = [.int n, .str v] ∧ Bts.Sml n v ∧ ∀ d, H1 d = none → Q (.ref C) (some d) (upd H1 d (.xd (bfs n v)))
theorem pmk_bad {a b : Expr} {ta : TA} {p pos : Pos} {k : Nat} (T : Bts.Txt X.prog X.K X.mg C fI) (hr : Room k X.A) (ha : PA X [a, b] ta) (hg : Gl X "BadTrace")
    (he : starEach (a :: [b]) X.env = (false, eval a X.env) :: starEach [b] X.env) (hpl : (backTo pos (starEach [b] X.env)).any (·.1) = false) : L2N.PMk X (.Call (.Name "BadTrace" p) [a, b] [] pos) (tMkBad C ta) := by
  intro pins s σ H Q I h
  refine wpAny_Call_Name_kw (ld_glob I hg T.gC ?_)
  refine PySem.W.callWith_K (h₀ := X.base) I.ok.mod.kin T.kC (thn (ha.run pos pins s σ H _ I h) fun us s1 hh => ?_) he hpl
  obtain ⟨vs, H1, I1, r1, n, v, ev, hsm, q1⟩ := hh
  subst ev
  refine ⟨I1.kIn, ?_⟩
  cases r1 with
  | cons rv rn =>
    rename_i v1 us'
    cases rn with
    | cons rw rn =>
    rename_i v2 us2
    cases rn
    obtain ⟨ti, rfl⟩ := rv
    obtain ⟨ty, rfl⟩ := rw
    show wpAny _ _ (call (.ref C) [.int n ti, .str v ty]) _ _ _
    have hlim := I1.nolimit
    obtain ⟨mb, hB1, hB2⟩ := I1.mod.blt
    have hG := I1.mod.glob.keeps I1.bk
    have hB1 := hB1.keeps I1.bk
    obtain ⟨hp, g, dr, tk, os⟩ := s1
    refine wpAny_call (Bts.run_made T I1.kIn hG ⟨mb, hB1, hB2⟩ hlim hsm (by have := hr.dp; omega) fun h' tk' e d M => ?_)
    show L2N.MkP X pins σ Q (.ref e) ⟨h', g, dr, tk', os⟩
    obtain ⟨oe, fv, hoe, hc, hd, hdat, h1, h2⟩ := M.obj
    have hns := M.ns
    obtain ⟨G', g1, g2⟩ := restrict h' fun b => decide (b ≠ e)
    have gk : ∀ b, b ≠ e → G'.get? b = h'.get? b := fun b hb => g1 b (decide_eq_true hb)
    have ge : G'.get? e = none := g2 e (by simp)
    have old : ∀ b o, hp.get? b = some o → G'.get? b = some o := fun b o q => (gk b (Nat.ne_of_lt (Nat.lt_of_lt_of_le (Heap.lt_size q) M.new))).trans (M.keep b o q)
    have ob : ObjOk X.prog X.w (upd H1 d (.xd (bfs n v))) G' d (.xd (bfs n v)) := ⟨_, hns.at (fun o q => (gk d M.dne).trans q), fun f => relO_bad ⟨ti, rfl⟩ ⟨ty, rfl⟩ f⟩
    have J : Inv X pins σ (upd H1 d (.xd (bfs n v))) ⟨G', g, dr, tk', os⟩ := I1.laid (t' := tk') old M.dbig ob
    refine ⟨e, oe, fv, ⟨G', g, dr, tk', os⟩, _, .ref C, some d, rfl, J, fun b o q => ?_, ge, hoe, ⟨hc, hd, fun vs2 e2 => by rw [hdat] at e2; cases e2; exact h2⟩, hdat, h1, ?_, rfl, I1.bare, raises_own T.exC T.tyC, q1 d (I1.hok.fresh M.dbig)⟩
    · by_cases hb : b = e
      · have q' : G'.get? b = some o := q
        rw [hb, ge] at q'; cases q'
      · exact (gk b hb).symm.trans q
    · rw [upd_ne (Ne.symm M.dne)]
      exact I1.hok.fresh M.new
end
end L2

end
section
/-! Ev2: readings over data: what evaluates to which data. -/
namespace Pv
open PySem PySem.Spec PyProof.Rows L2
variable [Tabs]

/-- G: what nobody changes; H: the heap. Both grow; what is new in G is new in H -/
structure Step (G H G' H' : Hp) : Prop where
  gg : Ex G G'
  gh : Ex G' H'
  hh : Ex H H'
  fr : ∀ a o, H a = some o → G a = none → G' a = none
section
variable {K : PySem.W.Frag} {G H G' H' G1 H1 G2 H2 : Hp}
theorem Step.refl (e : Ex G H) : Step G H G H := ⟨Ex.refl G, e, Ex.refl H, fun _ _ _ h => h⟩
theorem Step.trans (a : Step G H G1 H1) (b : Step G1 H1 G2 H2) : Step G H G2 H2 :=
  ⟨a.gg.trans b.gg, b.gh, a.hh.trans b.hh, fun x o h n => let ⟨_, q⟩ := a.hh.any h; b.fr x _ q (a.fr x o h n)⟩
theorem ex_none (e : Ex G H) {p : Addr} (h : H p = none) : G p = none := fresh_back e h
theorem Step.new (e : Ex G H) {p : Addr} {o : HO} (h : H p = none) : Step G H (upd G p o) (upd H p o) := by
  refine ⟨Ex.new (ex_none e h), fun a u q => ?_, Ex.new h, fun a u q n => ?_⟩
  · by_cases ha : a = p
    · subst ha; rw [upd_same] at q ⊢; exact .inl q
    · rw [upd_ne ha] at q ⊢; exact e a u q
  · have ha : a ≠ p := ne_of_none q h
    rw [upd_ne ha]; exact n
/-- something new that stays out of G -/
theorem Step.newH (e : Ex G H) {p : Addr} {o : HO} (h : H p = none) : Step G H G (upd H p o) :=
  ⟨Ex.refl G, e.trans (Ex.new h), Ex.new h, fun _ _ _ n => n⟩
theorem Step.into (s : Step G H G' H') {p : Addr} {o : HO} (h : H p = none) (hp : H' p = some o) (e : Ex G H) (hn : G' p = none) : Step G H (upd G' p o) H' := by
  refine ⟨s.gg.trans (Ex.new hn), fun a u q => ?_, s.hh, fun a u q n => ?_⟩
  · by_cases ha : a = p
    · subst ha; rw [upd_same] at q; rw [← q]; exact .inl hp
    · rw [upd_ne ha] at q; exact s.gh a u q
  · have ha : a ≠ p := ne_of_none q h
    rw [upd_ne ha]; exact s.fr a u q n

/-- what is wanted behind: d comes out -/
def Out (K : PySem.W.Frag) (G H : Hp) (d : D) (Q : VK) : Prop := ∀ v G' H', Step G H G' H' → Rep K G' d v → Q v H'
def OutA (K : PySem.W.Frag) (G H : Hp) (ds : List D) (Q : List V → Hp → Prop) : Prop := ∀ vs G' H', Step G H G' H' → Reps K G' ds vs → Q vs H'
def OutB (G H : Hp) (b : Bool) (Q : Bool → Hp → Prop) : Prop := ∀ G' H', Step G H G' H' → Q b H'
/-- a new list comes out, that nobody else holds -/
def OutN (K : PySem.W.Frag) (G H : Hp) (ds : List D) (Q : VK) : Prop := ∀ p xs G' H', H p = none → Step G H G' H' → G' p = none → H' p = some (.lst xs) → Reps K G' ds xs → Q (.ref p) H'
theorem Out.mono {d : D} {Q : VK} (q : Out K G H d Q) (s : Step G H G1 H1) : Out K G1 H1 d Q := fun v G' H' t r => q v G' H' (s.trans t) r
theorem OutN.mono {ds : List D} {Q : VK} (q : OutN K G H ds Q) (s : Step G H G1 H1) : OutN K G1 H1 ds Q := fun p xs G' H' hp t n e r => q p xs G' H' (ex_none s.hh hp) (s.trans t) n e r
theorem Out.toN {ds : List D} {Q : VK} (e : Ex G H) (q : Out K G H (.lst ds) Q) : OutN K G H ds Q := fun p xs G' H' hp t n h r =>
  q (.ref p) (upd G' p (.lst xs)) H' (t.into hp h e n) ⟨p, xs, rfl, upd_same, r.ex (Ex.new n)⟩
theorem Out.now {d : D} {Q : VK} (e : Ex G H) (q : Out K G H d Q) {v : V} (r : Rep K G d v) : Q v H := q v G H (Step.refl e) r

structure EnvR (K : PySem.W.Frag) (G H : Hp) (σ : L2.St) (z : Nat → Bool) (ρ : Env) : Prop where
  tabs : TabsIn G
  len : ρ.length = σ.length
  get : ∀ i d, look z ρ i = .ok d → ∃ v, σ[i]? = some (some v) ∧ Rep K G d v
  own : ∀ (i : Nat) (ds : List D), ρ[i]? = some (.own ds) → ∃ p vs, σ[i]? = some (some (.ref p)) ∧ H p = some (.lst vs) ∧ Reps K G ds vs
theorem EnvR.mono {σ : L2.St} {z : Nat → Bool} {ρ : Env} (r : EnvR K G H σ z ρ) (s : Step G H G' H') : EnvR K G' H' σ z ρ :=
  ⟨r.tabs.ex s.gg, r.len, fun i d h => let ⟨v, a, b⟩ := r.get i d h; ⟨v, a, b.ex s.gg⟩, fun i ds h => let ⟨p, vs, a, b, c⟩ := r.own i ds h; ⟨p, vs, a, s.hh.at b rfl, c.ex s.gg⟩⟩

def EvD (K : PySem.W.Frag) (te : TE) (z : Nat → Bool) (ρ : Env) (d : D) : Prop := ∀ G σ H, EnvR K G H σ z ρ → Ex G H → ∀ Q, Out K G H d Q → te σ H Q
def EvN (K : PySem.W.Frag) (te : TE) (z : Nat → Bool) (ρ : Env) (ds : List D) : Prop := ∀ G σ H, EnvR K G H σ z ρ → Ex G H → ∀ Q, OutN K G H ds Q → te σ H Q
def EvT (K : PySem.W.Frag) (tt : TT) (z : Nat → Bool) (ρ : Env) (b : Bool) : Prop := ∀ G σ H, EnvR K G H σ z ρ → Ex G H → ∀ Q, OutB G H b Q → tt σ H Q
def EvA (K : PySem.W.Frag) (ta : TA) (z : Nat → Bool) (ρ : Env) (ds : List D) : Prop := ∀ G σ H, EnvR K G H σ z ρ → Ex G H → ∀ Q, OutA K G H ds Q → ta σ H Q
def EvO (K : PySem.W.Frag) (to : TO) (z : Nat → Bool) (ρ : Env) (o : Option Int) : Prop := ∀ G σ H, EnvR K G H σ z ρ → Ex G H → ∀ Q : Option Int → Hp → Prop, (∀ G' H', Step G H G' H' → Q o H') → to σ H Q
def RD (K : PySem.W.Frag) (r : R2) (x y d : D) : Prop := ∀ G H u v, Rep K G x u → Rep K G y v → Ex G H → ∀ Q, Out K G H d Q → r u v H Q
def RU (K : PySem.W.Frag) (r : V → Hp → VK → Prop) (x d : D) : Prop := ∀ G H u, Rep K G x u → Ex G H → ∀ Q, Out K G H d Q → r u H Q
def RC (K : PySem.W.Frag) (r : List V → Hp → VK → Prop) (xs : List D) (d : D) : Prop := ∀ G H us, Reps K G xs us → Ex G H → ∀ Q, Out K G H d Q → r us H Q
def RCN (K : PySem.W.Frag) (r : List V → Hp → VK → Prop) (xs ds : List D) : Prop := ∀ G H us, Reps K G xs us → Ex G H → ∀ Q, OutN K G H ds Q → r us H Q

variable {z : Nat → Bool} {ρ : Env} {ta tb tc te : TE} {x y w d : D}
theorem EvN.toD {ds : List D} (h : EvN K te z ρ ds) : EvD K te z ρ (.lst ds) := fun G σ H r e Q q => h G σ H r e Q (q.toN e)
theorem ed_var {i : Nat} (h : look z ρ i = .ok d) : EvD K (tVar i) z ρ d := fun G σ H r e Q q => by
  obtain ⟨v, a, b⟩ := r.get i d h
  exact ⟨v, a, q.now e b⟩
theorem ed_c {v : V} (h : ∀ G, Rep K G d v) : EvD K (tC v) z ρ d := fun G σ H r e Q q => q.now e (h G)
theorem ed_op {r : R2} (ha : EvD K ta z ρ x) (hb : EvD K tb z ρ y) (hr : RD K r x y d) : EvD K (tOp r ta tb) z ρ d := fun G σ H R e Q q =>
  ha G σ H R e _ fun u G1 H1 s1 r1 => hb G1 σ H1 (R.mono s1) s1.gh _ fun v G2 H2 s2 r2 => hr G2 H2 u v (r1.ex s2.gg) r2 s2.gh Q (q.mono (s1.trans s2))
theorem ed_un {r : V → Hp → VK → Prop} (ha : EvD K ta z ρ x) (hr : RU K r x d) : EvD K (tUn r ta) z ρ d := fun G σ H R e Q q =>
  ha G σ H R e _ fun u G1 H1 s1 r1 => hr G1 H1 u r1 s1.gh Q (q.mono s1)
theorem ea_nil : EvA K tNil z ρ [] := fun G σ H r e Q q => q [] G H (Step.refl e) rfl
theorem ea_cons {tr : TA} {ds : List D} (h : EvD K ta z ρ x) (hr : EvA K tr z ρ ds) : EvA K (tCons ta tr) z ρ (x :: ds) := fun G σ H R e Q q =>
  h G σ H R e _ fun u G1 H1 s1 r1 => hr G1 σ H1 (R.mono s1) s1.gh _ fun vs G2 H2 s2 r2 => q (u :: vs) G2 H2 (s1.trans s2) ⟨u, vs, rfl, r1.ex s2.gg, r2⟩
theorem ed_tup {tr : TA} {ds : List D} (h : EvA K tr z ρ ds) (hl : ds.length ≤ line) : EvD K (tTup tr) z ρ (.tup ds) := fun G σ H R e Q q =>
  h G σ H R e _ fun vs G1 H1 s1 r1 => ⟨by rw [r1.len, sizeLine_eq]; exact hl, fun p hp => q (.ref p) (upd G1 p (.tup vs)) _ (s1.trans (Step.new s1.gh hp)) ⟨p, vs, rfl, st_of upd_same, r1.ex (Ex.new (ex_none s1.gh hp))⟩⟩
theorem en_lst {tr : TA} {ds : List D} (h : EvA K tr z ρ ds) (hl : ds.length ≤ line) : EvN K (tLst tr) z ρ ds := fun G σ H R e Q q =>
  h G σ H R e _ fun vs G1 H1 s1 r1 => ⟨by rw [r1.len, sizeLine_eq]; exact hl, fun p hp => q p vs G1 _ (ex_none s1.hh hp) (s1.trans (Step.newH s1.gh hp)) (ex_none s1.gh hp) upd_same r1⟩
theorem ed_cb {r : List V → Hp → VK → Prop} {tr : TA} {ds : List D} (h : EvA K tr z ρ ds) (hr : RC K r ds d) : EvD K (tCB r tr) z ρ d := fun G σ H R e Q q =>
  h G σ H R e _ fun vs G1 H1 s1 r1 => hr G1 H1 vs r1 s1.gh Q (q.mono s1)
theorem en_cb {r : List V → Hp → VK → Prop} {tr : TA} {ds es : List D} (h : EvA K tr z ρ ds) (hr : RCN K r ds es) : EvN K (tCB r tr) z ρ es := fun G σ H R e Q q =>
  h G σ H R e _ fun vs G1 H1 s1 r1 => hr G1 H1 vs r1 s1.gh Q (q.mono s1)
theorem eo_none : EvO K tNoPart z ρ none := fun G σ H r e Q q => q G H (Step.refl e)
theorem eo_some {i : Int} (h : EvD K te z ρ (.int i)) : EvO K (tPart te) z ρ (some i) := fun G σ H r e Q q =>
  h G σ H r e _ fun u G1 H1 s1 r1 => ⟨i, r1, q G1 H1 s1⟩
theorem ed_slice {r : V → Option Int → Option Int → Hp → VK → Prop} {tl th : TO} {lo hi : Option Int} (h : EvD K te z ρ x) (h1 : EvO K tl z ρ lo) (h2 : EvO K th z ρ hi)
    (hr : RU K (fun u H Q => r u lo hi H Q) x d) : EvD K (tSl r te tl th) z ρ d := fun G σ H R e Q q =>
  h G σ H R e _ fun u G1 H1 s1 r1 => h1 G1 σ H1 (R.mono s1) s1.gh _ fun G2 H2 s2 => h2 G2 σ H2 ((R.mono s1).mono s2) s2.gh _ fun G3 H3 s3 =>
    hr G3 H3 u ((r1.ex s2.gg).ex s3.gg) s3.gh Q (q.mono ((s1.trans s2).trans s3))
theorem en_slice {r : V → Option Int → Option Int → Hp → VK → Prop} {tl th : TO} {lo hi : Option Int} {ds : List D} (h : EvD K te z ρ x) (h1 : EvO K tl z ρ lo) (h2 : EvO K th z ρ hi)
    (hr : ∀ G H u, Rep K G x u → Ex G H → ∀ Q, OutN K G H ds Q → r u lo hi H Q) : EvN K (tSl r te tl th) z ρ ds := fun G σ H R e Q q =>
  h G σ H R e _ fun u G1 H1 s1 r1 => h1 G1 σ H1 (R.mono s1) s1.gh _ fun G2 H2 s2 => h2 G2 σ H2 ((R.mono s1).mono s2) s2.gh _ fun G3 H3 s3 =>
    hr G3 H3 u ((r1.ex s2.gg).ex s3.gg) s3.gh Q (q.mono ((s1.trans s2).trans s3))

/-! ### truth -/
theorem tru_v {v : V} {b : Bool} (h : tst x = .ok b) (r : Rep K G x v) (e : Ex G H) : TruV K v H b := by
  cases x with
  | non => cases (show v = V.non from r); cases h; rfl
  | bl c => cases (show v = V.bl c from r); cases h; rfl
  | int i => cases (show v = V.int i from r); cases h; rfl
  | str s =>
    cases (show v = V.str (st s) from r)
    obtain ⟨hl, h2⟩ := R.when_ok h
    cases h2
    refine ⟨?_, ?_⟩
    · rw [sizeLine_eq]; simpa [Str.length] using hl
    · show (s.length != 0) = (((st s).length : Int) != 0)
      rw [show (st s).length = s.length by simp [Str.length]]
      cases s <;> simp <;> omega
  | tup ds =>
    obtain ⟨a, xs, rfl, hs, hr⟩ := r
    cases h
    refine .inr (.inl ⟨xs, ex_t e hs, ?_⟩)
    have := hr.len
    cases xs <;> cases ds <;> first | rfl | simp at this
  | lst ds =>
    obtain ⟨a, xs, rfl, hs, hr⟩ := r
    cases h
    refine .inl ⟨xs, .of (e.at hs rfl), ?_⟩
    have := hr.len
    cases xs <;> cases ds <;> first | rfl | simp at this
  | scr ns =>
    obtain ⟨a, rfl, hs⟩ := r
    cases h
    refine .inl ⟨_, ex_l e hs, ?_⟩
    cases ns <;> rfl
  | cnt L => cases h
theorem et_tru {b : Bool} (h : EvD K te z ρ x) (ht : tst x = .ok b) : EvT K (fun σ H Q => te σ H fun x H' => ∃ k, TruV K x H' k ∧ Q k H') z ρ b := fun G σ H R e Q q =>
  h G σ H R e _ fun u G1 H1 s1 r1 => ⟨b, tru_v ht r1 s1.gh, q G1 H1 s1⟩
theorem et_test {b : Bool} (h : EvD K te z ρ (.bl b)) : EvT K (tTest te) z ρ b := fun G σ H R e Q q =>
  h G σ H R e _ fun u G1 H1 s1 r1 => ⟨b, r1, q G1 H1 s1⟩
variable {tt tu : TT}
theorem et_and {a b : Bool} (h1 : EvT K tt z ρ a) (h2 : a = true → EvT K tu z ρ b) : EvT K (tAnd tt tu) z ρ (a && b) := fun G σ H R e Q q =>
  h1 G σ H R e _ fun G1 H1 s1 => by
    cases a with
    | true =>
      show tu σ H1 Q
      exact h2 rfl G1 σ H1 (R.mono s1) s1.gh Q fun G2 H2 s2 => q G2 H2 (s1.trans s2)
    | false =>
      show Q false H1
      exact q G1 H1 s1
theorem et_or {a b : Bool} (h1 : EvT K tt z ρ a) (h2 : a = false → EvT K tu z ρ b) : EvT K (tOr tt tu) z ρ (a || b) := fun G σ H R e Q q =>
  h1 G σ H R e _ fun G1 H1 s1 => by
    cases a with
    | true =>
      show Q true H1
      exact q G1 H1 s1
    | false =>
      show tu σ H1 Q
      exact h2 rfl G1 σ H1 (R.mono s1) s1.gh Q fun G2 H2 s2 => q G2 H2 (s1.trans s2)
theorem et_not {a : Bool} (h1 : EvT K tt z ρ a) : EvT K (tNot tt) z ρ (!a) := fun G σ H R e Q q => h1 G σ H R e _ fun G1 H1 s1 => q G1 H1 s1
theorem ed_andT {a : Bool} (h1 : EvD K ta z ρ x) (hx : tst x = .ok a) (ht : a = true → EvD K tb z ρ d) (hf : a = false → d = x) : EvD K (L2.tAndT K ta tb) z ρ d := fun G σ H R e Q q =>
  h1 G σ H R e _ fun u G1 H1 s1 r1 => ⟨a, tru_v hx r1 s1.gh, by
    cases a with
    | true =>
      show tb σ H1 Q
      exact ht rfl G1 σ H1 (R.mono s1) s1.gh Q (q.mono s1)
    | false =>
      show Q u H1
      have hd := hf rfl
      subst hd
      exact q u G1 H1 s1 r1⟩
theorem ed_orT {a : Bool} (h1 : EvD K ta z ρ x) (hx : tst x = .ok a) (ht : a = true → d = x) (hf : a = false → EvD K tb z ρ d) : EvD K (L2.tOrT K ta tb) z ρ d := fun G σ H R e Q q =>
  h1 G σ H R e _ fun u G1 H1 s1 r1 => ⟨a, tru_v hx r1 s1.gh, by
    cases a with
    | true =>
      show Q u H1
      have hd := ht rfl
      subst hd
      exact q u G1 H1 s1 r1
    | false =>
      show tb σ H1 Q
      exact hf rfl G1 σ H1 (R.mono s1) s1.gh Q (q.mono s1)⟩
theorem ed_notT {a : Bool} (h1 : EvD K ta z ρ x) (hx : tst x = .ok a) : EvD K (L2.tNotT K ta) z ρ (.bl (!a)) := fun G σ H R e Q q =>
  h1 G σ H R e _ fun u G1 H1 s1 r1 => ⟨a, tru_v hx r1 s1.gh, q (.bl (!a)) G1 H1 s1 rfl⟩
theorem ed_if {b : Bool} (h : EvT K tt z ρ b) (h1 : b = true → EvD K ta z ρ d) (h2 : b = false → EvD K tb z ρ d) : EvD K (tIf tt ta tb) z ρ d := fun G σ H R e Q q =>
  h G σ H R e _ fun G1 H1 s1 => by
    cases b with
    | true =>
      show ta σ H1 Q
      exact h1 rfl G1 σ H1 (R.mono s1) s1.gh Q (q.mono s1)
    | false =>
      show tb σ H1 Q
      exact h2 rfl G1 σ H1 (R.mono s1) s1.gh Q (q.mono s1)
theorem ed_chain {r r' : R2} {b : Bool} (ha : EvD K ta z ρ x) (hb : EvD K tb z ρ y) (hr : RD K r x y (.bl b)) (h1 : b = true → ∃ w, EvD K tc z ρ w ∧ RD K r' y w d) (h2 : b = false → d = .bl false) :
    EvD K (tChain r r' ta tb tc) z ρ d := fun G σ H R e Q q =>
  ha G σ H R e _ fun u G1 H1 s1 r1 => hb G1 σ H1 (R.mono s1) s1.gh _ fun v G2 H2 s2 r2 => hr G2 H2 u v (r1.ex s2.gg) r2 s2.gh _ fun o G3 H3 s3 r3 => ⟨b, r3, by
    have R3 := ((R.mono s1).mono s2).mono s3
    have s := (s1.trans s2).trans s3
    cases b with
    | true =>
      obtain ⟨w, hc, hr'⟩ := h1 rfl
      show tc σ H3 fun w' H4 => r' v w' H4 Q
      exact hc G3 σ H3 R3 s3.gh _ fun o4 G4 H4 s4 r4 => hr' G4 H4 v o4 ((r2.ex s3.gg).ex s4.gg) r4 s4.gh Q (q.mono (s.trans s4))
    | false =>
      show Q (.bl false) H3
      have hd := h2 rfl
      subst hd
      exact q (.bl false) G3 H3 s rfl⟩
/-- a <= b < c < d, and its like -/
def tChain3 (r r' r'' : R2) (ta tb tc td : TE) : TE := fun σ H Q => ta σ H fun x H1 => tb σ H1 fun y H2 => r x y H2 fun z H3 => ∃ k, z = .bl k ∧
  (if k = true then tc σ H3 fun w H4 => r' y w H4 fun z2 H5 => ∃ k2, z2 = .bl k2 ∧ (if k2 = true then td σ H5 fun v H6 => r'' w v H6 Q else Q (.bl false) H5) else Q (.bl false) H3)
theorem ed_chain3 {r r' r'' : R2} {td : TE} {b : Bool} (ha : EvD K ta z ρ x) (hb : EvD K tb z ρ y) (hr : RD K r x y (.bl b)) (h1 : b = true → ∃ w b2, EvD K tc z ρ w ∧ RD K r' y w (.bl b2) ∧ (b2 = true → ∃ v, EvD K td z ρ v ∧ RD K r'' w v d) ∧ (b2 = false → d = .bl false)) (h2 : b = false → d = .bl false) :
    EvD K (tChain3 r r' r'' ta tb tc td) z ρ d := fun G σ H R e Q q =>
  ha G σ H R e _ fun u G1 H1 s1 r1 => hb G1 σ H1 (R.mono s1) s1.gh _ fun v G2 H2 s2 r2 => hr G2 H2 u v (r1.ex s2.gg) r2 s2.gh _ fun o G3 H3 s3 r3 => ⟨b, r3, by
    have R3 := ((R.mono s1).mono s2).mono s3
    have s := (s1.trans s2).trans s3
    cases b with
    | true =>
      obtain ⟨w, b2, hc, hr', h3, h4⟩ := h1 rfl
      refine hc G3 σ H3 R3 s3.gh _ fun o4 G4 H4 s4 r4 => hr' G4 H4 v o4 ((r2.ex s3.gg).ex s4.gg) r4 s4.gh _ fun o5 G5 H5 s5 r5 => ⟨b2, r5, ?_⟩
      have R5 := (R3.mono s4).mono s5
      have s' := (s.trans s4).trans s5
      cases b2 with
      | true =>
        obtain ⟨v', hd, hr''⟩ := h3 rfl
        exact hd G5 σ H5 R5 s5.gh _ fun o6 G6 H6 s6 r6 => hr'' G6 H6 o4 o6 ((r4.ex s5.gg).ex s6.gg) r6 s6.gh Q (q.mono (s'.trans s6))
      | false =>
        have hd := h4 rfl
        subst hd
        exact q (.bl false) G5 H5 s' rfl
    | false =>
      have hd := h2 rfl
      subst hd
      exact q (.bl false) G3 H3 s rfl⟩
end

/-! ### the best reading of a piece of text -/
section
variable {X : Cx}
def wE (X : Cx) (e : Expr) : TE := fun σ H Q => ∀ (pins : List (Addr × Obj)) (s : Shared), Inv X pins σ H s → wpAny (model X.prog X.w) X.A (eval e X.env) (EP X pins σ Q) X.xe s
def wT (X : Cx) (e : Expr) : TT := fun σ H Q => ∀ (pins : List (Addr × Obj)) (s : Shared), Inv X pins σ H s → wpAny (model X.prog X.w) X.A (isTrue e X.env (eval e X.env)) (TP X pins σ Q) X.xe s
def wW (X : Cx) (e : Expr) : TT := fun σ H Q => ∀ (whole : Sem Value) (pins : List (Addr × Obj)) (s : Shared), Inv X pins σ H s → wpAny (model X.prog X.w) X.A (isTrue e X.env whole) (TP X pins σ Q) X.xe s
def wA (X : Cx) (es : List Expr) : TA := fun σ H Q => ∀ (pos : Pos) (pins : List (Addr × Obj)) (s : Shared), Inv X pins σ H s → wpAny (model X.prog X.w) X.A (spliced (backTo pos (starEach es X.env))) (AP X pins σ Q) X.xe s
def wO (X : Cx) (e : Option Expr) : TO := fun σ H Q => ∀ t, PO X e t → True
def wS (X : Cx) (st : Stmt) : TS := fun D σ H => ∀ (pins : List (Addr × Obj)) (s : Shared), Inv X pins σ H s → wpAny (model X.prog X.w) X.A (exec st X.env) (SP X pins D) X.xe s
def wSs (X : Cx) (st : List Stmt) : TS := fun D σ H => ∀ (pins : List (Addr × Obj)) (s : Shared), Inv X pins σ H s → wpAny (model X.prog X.w) X.A (execs st X.env) (SP X pins D) X.xe s
theorem peW (e : Expr) : PE X e (wE X e) := ⟨fun pins s σ H Q I h => h pins s I⟩
theorem ptW (e : Expr) : PT X e (wT X e) := ⟨fun pins s σ H Q I h => h pins s I⟩
theorem pwW (e : Expr) : PW X e (wW X e) := ⟨fun whole pins s σ H Q I h => h whole pins s I⟩
theorem paW (es : List Expr) : PA X es (wA X es) := ⟨fun pos pins s σ H Q I h => h pos pins s I⟩
theorem psW (e : Stmt) : PS X e (wS X e) := ⟨fun pins s σ H D I h => h pins s I⟩
theorem pssW (e : List Stmt) : PSs X e (wSs X e) := ⟨fun pins s σ H D I h => h pins s I⟩
theorem EvD.of {e : Expr} {te : TE} {z : Nat → Bool} {ρ : Env} {d : D} (p : PE X e te) (h : EvD X.K te z ρ d) : EvD X.K (wE X e) z ρ d := fun G σ H R ex Q q pins s I => p.run pins s σ H Q I (h G σ H R ex Q q)
theorem EvN.of {e : Expr} {te : TE} {z : Nat → Bool} {ρ : Env} {ds : List D} (p : PE X e te) (h : EvN X.K te z ρ ds) : EvN X.K (wE X e) z ρ ds := fun G σ H R ex Q q pins s I => p.run pins s σ H Q I (h G σ H R ex Q q)
theorem EvT.of {e : Expr} {te : TT} {z : Nat → Bool} {ρ : Env} {b : Bool} (p : PT X e te) (h : EvT X.K te z ρ b) : EvT X.K (wT X e) z ρ b := fun G σ H R ex Q q pins s I => p.run pins s σ H Q I (h G σ H R ex Q q)
theorem EvT.ofW {e : Expr} {te : TT} {z : Nat → Bool} {ρ : Env} {b : Bool} (p : PW X e te) (h : EvT X.K te z ρ b) : EvT X.K (wW X e) z ρ b := fun G σ H R ex Q q whole pins s I => p.run whole pins s σ H Q I (h G σ H R ex Q q)
theorem EvA.of {es : List Expr} {ta : TA} {z : Nat → Bool} {ρ : Env} {ds : List D} (p : PA X es ta) (h : EvA X.K ta z ρ ds) : EvA X.K (wA X es) z ρ ds := fun G σ H R ex Q q pos pins s I => p.run pos pins s σ H Q I (h G σ H R ex Q q)
end

/-! ### operators over data -/
section
variable {X : Cx} {x y d : D}
theorem rd_of {K : PySem.W.Frag} {r : R2} (h : ∀ G H u v, Rep K G x u → Rep K G y v → Ex G H → ∀ Q, Out K G H d Q → r u v H Q) : RD K r x y d := h
theorem smallC {i j : Int} (h : small i ∨ small j) : CMul i j := h
theorem st_app (a b : List Nat) : st a ++ st b = st (a ++ b) := by
  show Str.append (st a) (st b) = st (a ++ b)
  unfold Str.append st
  simp
theorem st_len (a : List Nat) : (st a).length = a.length := by simp [Str.length]

theorem op_addD (h : addD x y = .ok d) : ∃ r, OpR X (binaryOp .Add) r ∧ RD X.K r x y d := by
  cases x with
  | int i =>
    cases y with
    | int j =>
      cases h
      refine ⟨_, op_add, fun G H u v r1 r2 e Q q => ?_⟩
      cases (show u = V.int i from r1)
      cases (show v = V.int j from r2)
      exact ⟨i, j, rfl, rfl, q.now e rfl⟩
    | _ => cases h
  | str a =>
    cases y with
    | str b =>
      obtain ⟨hl, h⟩ := R.when_ok h
      cases h
      refine ⟨_, op_add_str, fun G H u v r1 r2 e Q q => ?_⟩
      cases (show u = V.str (st a) from r1)
      cases (show v = V.str (st b) from r2)
      refine ⟨_, _, rfl, rfl, by rw [st_len, st_len, sizeLine_eq]; exact hl, ?_⟩
      rw [st_app]
      exact q.now e rfl
    | _ => cases h
  | lst a =>
    cases y with
    | lst b =>
      obtain ⟨hl, h⟩ := R.when_ok h
      cases h
      refine ⟨_, op_cat, fun G H u v r1 r2 e Q q => ?_⟩
      obtain ⟨a1, xs, rfl, h1, q1⟩ := r1
      obtain ⟨a2, ys, rfl, h2, q2⟩ := r2
      refine ⟨a1, a2, xs, ys, rfl, rfl, e.at h1 rfl, e.at h2 rfl, by rw [q1.len, q2.len, sizeLine_eq]; exact hl, fun p hp => ?_⟩
      have n := ex_none e hp
      exact q (.ref p) (upd G p (.lst (xs ++ ys))) _ (Step.new e hp) ⟨p, _, rfl, upd_same, (q1.app q2).ex (Ex.new n)⟩
    | _ => cases h
  | tup a =>
    cases y with
    | tup b =>
      obtain ⟨⟨h0, hl⟩, h⟩ := R.when_ok h
      cases h
      refine ⟨_, op_catT, fun G H u v r1 r2 e Q q => ?_⟩
      obtain ⟨a1, xs, rfl, h1, q1⟩ := r1
      obtain ⟨a2, ys, rfl, h2, q2⟩ := r2
      refine ⟨a1, a2, xs, ys, rfl, rfl, ex_t e h1, ex_t e h2, ?_, by rw [q1.len, q2.len, sizeLine_eq]; exact hl, fun hy => ?_, fun hy p hp => ?_⟩
      · intro hx
        have := q1.len
        rw [hx] at this
        rw [← this] at h0
        exact absurd h0 (by decide)
      · subst hy
        have : b = [] := List.eq_nil_of_length_eq_zero (by rw [← q2.len]; rfl)
        subst this
        rw [List.append_nil] at q
        exact q.now e ⟨a1, xs, rfl, h1, q1⟩
      · have n := ex_none e hp
        exact q (.ref p) (upd G p (.tup (xs ++ ys))) _ (Step.new e hp) ⟨p, _, rfl, st_of upd_same, (q1.app q2).ex (Ex.new n)⟩
    | _ => cases h
  | _ => cases h
theorem op_subD (h : subD x y = .ok d) : ∃ r, OpR X (binaryOp .Sub) r ∧ RD X.K r x y d := by
  cases x with
  | int i =>
    cases y with
    | int j =>
      cases h
      refine ⟨_, op_sub, fun G H u v r1 r2 e Q q => ?_⟩
      cases (show u = V.int i from r1)
      cases (show v = V.int j from r2)
      exact ⟨i, j, rfl, rfl, q.now e rfl⟩
    | _ => cases h
  | _ => cases h
theorem op_divD (h : divD x y = .ok d) : ∃ r, OpR X (binaryOp .FloorDiv) r ∧ RD X.K r x y d := by
  cases x with
  | int i =>
    cases y with
    | int j =>
      obtain ⟨hc, h⟩ := R.when_ok h
      cases h
      refine ⟨_, op_fdiv, fun G H u v r1 r2 e Q q => ?_⟩
      cases (show u = V.int i from r1)
      cases (show v = V.int j from r2)
      exact ⟨i, j, rfl, rfl, hc, q.now e rfl⟩
    | _ => cases h
  | _ => cases h
theorem op_modD (h : modD x y = .ok d) : ∃ r, OpR X (binaryOp .Mod) r ∧ RD X.K r x y d := by
  cases x with
  | int i =>
    cases y with
    | int j =>
      obtain ⟨hc, h⟩ := R.when_ok h
      cases h
      refine ⟨_, op_mod, fun G H u v r1 r2 e Q q => ?_⟩
      cases (show u = V.int i from r1)
      cases (show v = V.int j from r2)
      exact ⟨i, j, rfl, rfl, hc, q.now e rfl⟩
    | _ => cases h
  | _ => cases h
theorem op_powD (h : powD x y = .ok d) : ∃ r, OpR X (binaryOp .Pow) r ∧ RD X.K r x y d := by
  cases x with
  | int i =>
    cases y with
    | int j =>
      obtain ⟨hc, h⟩ := R.when_ok h
      cases h
      refine ⟨_, op_pow, fun G H u v r1 r2 e Q q => ?_⟩
      cases (show u = V.int i from r1)
      cases (show v = V.int j from r2)
      exact ⟨i, j, rfl, rfl, ⟨hc.1, hc.2.1, by have := hc.2.2; unfold small at this; omega⟩, q.now e rfl⟩
    | _ => cases h
  | _ => cases h

theorem repV {K : PySem.W.Frag} {H : Hp} {ds : List D} {vs : List V} (h : Reps K H ds vs) : ∀ k : Nat, Reps K H (repL ds k) (List.replicate k vs).flatten
  | 0 => rfl
  | k + 1 => by
    unfold repL
    rw [List.replicate_succ, List.replicate_succ, List.flatten_cons, List.flatten_cons]
    exact Reps.app h (repV h k)
theorem foldl_app (a : Array Nat) : ∀ (k : Nat) (acc : Array Nat), ((List.replicate k a).foldl (· ++ ·) acc).toList = acc.toList ++ repL a.toList k
  | 0, acc => by simp [repL]
  | k + 1, acc => by
    rw [List.replicate_succ, List.foldl_cons, foldl_app a k]
    unfold repL
    rw [List.replicate_succ, List.flatten_cons, Array.toList_append, List.append_assoc]
theorem mul_st (s : List Nat) (k : Int) : Txt.mul (st s) k = st (repL s k.toNat) := by
  unfold Txt.mul
  by_cases h1 : k < 1
  · rw [if_pos h1]
    have : k.toNat = 0 := by omega
    rw [this]
    rfl
  · rw [if_neg h1]
    by_cases h2 : (k == 1 || (st s).length == 0) = true
    · rw [if_pos h2]
      rw [Bool.or_eq_true] at h2
      rcases h2 with h2 | h2
      · have : k = 1 := by simpa using h2
        subst this
        show st s = st (repL s 1)
        simp [repL]
      · have : s = [] := by
          rw [st_len] at h2
          exact List.eq_nil_of_length_eq_zero (by simpa using h2)
        subst this
        have : ∀ n : Nat, repL ([] : List Nat) n = [] := fun n => by
          unfold repL
          induction n with
          | zero => rfl
          | succ n ih => rw [List.replicate_succ, List.flatten_cons, ih]; rfl
        rw [this]
    · rw [if_neg h2]
      apply Str.ext'
      apply Array.toList_inj.mp
      rw [foldl_app]
      simp
theorem small_of {i : Int} (h : small i) : -(2 ^ 64) < i ∧ i < 2 ^ 64 := ⟨by have := h.1; omega, by have := h.2; omega⟩
/-- text * int -/
def rMulS : R2 := fun x y H Q => ∃ (s : Str) (k : Int), x = .str s ∧ y = .int k ∧ (-(2 ^ 62) < k ∧ k < 16777217 ∧ s.length * k.toNat ≤ 16777216) ∧ Q (.str (Txt.mul s k)) H
theorem op_mulS : OpR X (binaryOp .Mult) rMulS := by
  intro pins s σ H x y v u Q I rx ry h
  obtain ⟨a, k, rfl, rfl, ⟨h1, h2, h3⟩, q⟩ := h
  obtain ⟨t, rfl⟩ := rx
  obtain ⟨t', rfl⟩ := ry
  refine SB.mul ⟨?_, fun hk _ hc => ?_, fun hk _ => ?_⟩ fun t'' k' => ⟨.str (Txt.mul a k), H, I.tok _, ⟨_, rfl⟩, q⟩
  · rw [Bool.or_eq_false_iff]
    exact ⟨decide_eq_false (by omega), decide_eq_false (by omega)⟩
  · have hk0 : 0 < k := by omega
    have e1 : ((a.length * k.toNat : Nat) : Int) ≤ 16777216 := Int.ofNat_le.mpr h3
    have e2 : ((a.length : Int)) * k ≤ 16777216 := by
      rw [Int.natCast_mul] at e1
      rwa [Int.toNat_of_nonneg (by omega)] at e1
    have e3 : (a.length : Int) ≤ (2 ^ 63 - 1) / k := by
      apply Int.le_ediv_of_mul_le hk0
      omega
    omega
  · unfold Builtin.Str.tooLong
    have : sizeLine = 16777216 := sizeLine_eq
    rw [this]
    exact decide_eq_false (by omega)
theorem op_mulD (h : mulD x y = .ok d) : ∃ r, OpR X (binaryOp .Mult) r ∧ RD X.K r x y d := by
  cases x with
  | int i =>
    cases y with
    | int j =>
      obtain ⟨hc, h⟩ := R.when_ok h
      cases h
      refine ⟨_, op_mul, fun G H u v r1 r2 e Q q => ?_⟩
      cases (show u = V.int i from r1)
      cases (show v = V.int j from r2)
      exact ⟨i, j, rfl, rfl, hc.imp small_of small_of, q.now e rfl⟩
    | _ => cases h
  | str a =>
    cases y with
    | int k =>
      obtain ⟨hc, h⟩ := R.when_ok h
      cases h
      refine ⟨_, op_mulS, fun G H u v r1 r2 e Q q => ?_⟩
      cases (show u = V.str (st a) from r1)
      cases (show v = V.int k from r2)
      refine ⟨_, _, rfl, rfl, ⟨hc.1, hc.2.1, by rw [st_len]; exact hc.2.2⟩, ?_⟩
      rw [mul_st]
      exact q.now e rfl
    | _ => cases h
  | lst a =>
    cases y with
    | int k =>
      obtain ⟨hc, h⟩ := R.when_ok h
      cases h
      refine ⟨_, op_rep, fun G H u v r1 r2 e Q q => ?_⟩
      obtain ⟨a1, xs, rfl, h1, q1⟩ := r1
      cases (show v = V.int k from r2)
      refine ⟨a1, k, xs, rfl, rfl, e.at h1 rfl, by have := hc.1; omega, by have := hc.2.1; omega, by rw [q1.len, sizeLine_eq]; exact hc.2.2, fun p hp => ?_⟩
      have n := ex_none e hp
      exact q (.ref p) (upd G p (.lst (List.replicate k.toNat xs).flatten)) _ (Step.new e hp) ⟨p, _, rfl, upd_same, (repV q1 _).ex (Ex.new n)⟩
    | _ => cases h
  | _ => cases h
theorem op_mulN {es : List D} (h : mulD x y = .ok (.lst es)) : ∃ r, OpR X (binaryOp .Mult) r ∧ ∀ G H u v, Rep X.K G x u → Rep X.K G y v → Ex G H → ∀ Q, OutN X.K G H es Q → r u v H Q := by
  cases x with
  | int i =>
    cases y with
    | int j => obtain ⟨hc, h⟩ := R.when_ok h; cases h
    | _ => cases h
  | str a =>
    cases y with
    | int k => obtain ⟨hc, h⟩ := R.when_ok h; cases h
    | _ => cases h
  | lst a =>
    cases y with
    | int k =>
      obtain ⟨hc, h⟩ := R.when_ok h
      cases h
      refine ⟨_, op_rep, fun G H u v r1 r2 e Q q => ?_⟩
      obtain ⟨a1, xs, rfl, h1, q1⟩ := r1
      cases (show v = V.int k from r2)
      exact ⟨a1, k, xs, rfl, rfl, e.at h1 rfl, by have := hc.1; omega, by have := hc.2.1; omega, by rw [q1.len, sizeLine_eq]; exact hc.2.2, fun p hp =>
        q p (List.replicate k.toNat xs).flatten G _ hp (Step.newH e hp) (ex_none e hp) upd_same (repV q1 _)⟩
    | _ => cases h
  | _ => cases h
theorem en_op {K : PySem.W.Frag} {ta tb : TE} {z : Nat → Bool} {ρ : Env} {r : R2} {es : List D} (ha : EvD K ta z ρ x) (hb : EvD K tb z ρ y) (hr : ∀ G H u v, Rep K G x u → Rep K G y v → Ex G H → ∀ Q, OutN K G H es Q → r u v H Q) : EvN K (tOp r ta tb) z ρ es := fun G σ H R e Q q =>
  ha G σ H R e _ fun u G1 H1 s1 r1 => hb G1 σ H1 (R.mono s1) s1.gh _ fun v G2 H2 s2 r2 => hr G2 H2 u v (r1.ex s2.gg) r2 s2.gh Q (q.mono (s1.trans s2))
theorem op_cmpD {op : CmpOp} {f : Int → Int → Bool} (ho : OpR X (compareOp op) (rI0 fun i j => .bl (f i j))) (h : cmpD f x y = .ok d) : ∃ r, OpR X (compareOp op) r ∧ RD X.K r x y d := by
  cases x with
  | int i =>
    cases y with
    | int j =>
      cases h
      refine ⟨_, ho, fun G H u v r1 r2 e Q q => ?_⟩
      cases (show u = V.int i from r1)
      cases (show v = V.int j from r2)
      exact ⟨i, j, rfl, rfl, q.now e rfl⟩
    | _ => cases h
  | _ => cases h
theorem dec_str (a b : List Nat) : decide (V.str (st a) = V.str (st b)) = (a == b) := by
  rw [L2.dec_str, st_beq]
theorem eqD_gen {x y d : D} (hu : X.A.units + 64 < cLine) (h : R.when (D.shp 60 x = true ∧ D.shp 60 y = true) (.ok (.bl (D.eqv x y))) = .ok d) : ∃ r, OpR X (compareOp .Eq) r ∧ RD X.K r x y d := by
  obtain ⟨⟨h1, h2⟩, h⟩ := R.when_ok h
  cases h
  refine ⟨_, op_eqD hu, fun G H u v r1 r2 e Q q => ?_⟩
  refine ⟨toPy x, toPy y, (r1.ex e).dp h1, (r2.ex e).dp h2, shaped_of h1, shaped_of h2, ?_⟩
  rw [eqv_py h1 h2]
  exact q.now e rfl
theorem neD_gen {x y d : D} (hu : X.A.units + 64 < cLine) (h : R.when (D.shp 60 x = true ∧ D.shp 60 y = true) (.ok (.bl (!D.eqv x y))) = .ok d) : ∃ r, OpR X (compareOp .NotEq) r ∧ RD X.K r x y d := by
  obtain ⟨⟨h1, h2⟩, h⟩ := R.when_ok h
  cases h
  refine ⟨_, op_neD hu, fun G H u v r1 r2 e Q q => ?_⟩
  refine ⟨toPy x, toPy y, (r1.ex e).dp h1, (r2.ex e).dp h2, shaped_of h1, shaped_of h2, ?_⟩
  rw [eqv_py h1 h2]
  exact q.now e rfl
theorem op_eqDD (hu : X.A.units + 64 < cLine) (h : eqD x y = .ok d) : ∃ r, OpR X (compareOp .Eq) r ∧ RD X.K r x y d := by
  cases x with
  | int i =>
    cases y with
    | int j =>
      cases h
      refine ⟨_, op_eq, fun G H u v r1 r2 e Q q => ?_⟩
      cases (show u = V.int i from r1)
      cases (show v = V.int j from r2)
      exact ⟨rfl, by rw [L2.dec_int]; exact q.now e rfl⟩
    | _ => exact eqD_gen hu h
  | bl i =>
    cases y with
    | bl j =>
      cases h
      refine ⟨_, op_eq, fun G H u v r1 r2 e Q q => ?_⟩
      cases (show u = V.bl i from r1)
      cases (show v = V.bl j from r2)
      exact ⟨rfl, by rw [L2.dec_bl]; exact q.now e rfl⟩
    | _ => exact eqD_gen hu h
  | str i =>
    cases y with
    | str j =>
      cases h
      refine ⟨_, op_eq, fun G H u v r1 r2 e Q q => ?_⟩
      cases (show u = V.str (st i) from r1)
      cases (show v = V.str (st j) from r2)
      exact ⟨rfl, by rw [dec_str]; exact q.now e rfl⟩
    | _ => exact eqD_gen hu h
  | _ => cases y <;> exact eqD_gen hu h
theorem op_neDD (hu : X.A.units + 64 < cLine) (h : neD x y = .ok d) : ∃ r, OpR X (compareOp .NotEq) r ∧ RD X.K r x y d := by
  cases x with
  | int i =>
    cases y with
    | int j =>
      cases h
      refine ⟨_, op_ne, fun G H u v r1 r2 e Q q => ?_⟩
      cases (show u = V.int i from r1)
      cases (show v = V.int j from r2)
      exact ⟨rfl, by rw [L2.dec_int]; exact q.now e rfl⟩
    | _ => exact neD_gen hu h
  | bl i =>
    cases y with
    | bl j =>
      cases h
      refine ⟨_, op_ne, fun G H u v r1 r2 e Q q => ?_⟩
      cases (show u = V.bl i from r1)
      cases (show v = V.bl j from r2)
      exact ⟨rfl, by rw [L2.dec_bl]; exact q.now e rfl⟩
    | _ => exact neD_gen hu h
  | str i =>
    cases y with
    | str j =>
      cases h
      refine ⟨_, op_ne, fun G H u v r1 r2 e Q q => ?_⟩
      cases (show u = V.str (st i) from r1)
      cases (show v = V.str (st j) from r2)
      exact ⟨rfl, by rw [dec_str]; exact q.now e rfl⟩
    | _ => exact neD_gen hu h
  | _ => cases y <;> exact neD_gen hu h

/-! ### in, not in -/
theorem flat_v {K : PySem.W.Frag} {G : Hp} {x : D} {v : V} (r : Rep K G x v) (f : D.flat x = true) : flatV v = true := by
  cases x with
  | non => cases (show v = V.non from r); rfl
  | bl b => cases (show v = V.bl b from r); rfl
  | int b => cases (show v = V.int b from r); rfl
  | str b => cases (show v = V.str (st b) from r); rfl
  | _ => cases f
theorem eqV_d {K : PySem.W.Frag} {G : Hp} {x y : D} {v u : V} (r : Rep K G x v) (r2 : Rep K G y u) (f : D.flat x = true) (f2 : D.flat y = true) : eqV v u = D.eqv x y := by
  cases x with
  | non =>
    cases (show v = V.non from r)
    cases y with
    | non => cases (show u = V.non from r2); rfl
    | bl b => cases (show u = V.bl b from r2); rfl
    | int b => cases (show u = V.int b from r2); rfl
    | str b => cases (show u = V.str (st b) from r2); rfl
    | _ => cases f2
  | bl b =>
    cases (show v = V.bl b from r)
    cases y with
    | non => cases (show u = V.non from r2); rfl
    | bl b => cases (show u = V.bl b from r2); rfl
    | int b => cases (show u = V.int b from r2); rfl
    | str b => cases (show u = V.str (st b) from r2); rfl
    | _ => cases f2
  | int b =>
    cases (show v = V.int b from r)
    cases y with
    | non => cases (show u = V.non from r2); rfl
    | bl b => cases (show u = V.bl b from r2); rfl
    | int b => cases (show u = V.int b from r2); rfl
    | str b => cases (show u = V.str (st b) from r2); rfl
    | _ => cases f2
  | str b =>
    cases (show v = V.str (st b) from r)
    cases y with
    | non => cases (show u = V.non from r2); rfl
    | bl b => cases (show u = V.bl b from r2); rfl
    | int b => cases (show u = V.int b from r2); rfl
    | str c =>
      cases (show u = V.str (st c) from r2)
      show (st b == st c) = (b == c)
      exact st_beq b c
    | _ => cases f2
  | _ => cases f
theorem flats_v {K : PySem.W.Frag} {G : Hp} : ∀ {xs : List D} {vs : List V}, Reps K G xs vs → xs.all D.flat = true → vs.all flatV = true
  | [], _, h, _ => by cases h; rfl
  | x :: xs, _, ⟨y, ys, e, h, r⟩, f => by
    subst e
    rw [List.all_cons, Bool.and_eq_true] at f
    rw [List.all_cons, flat_v h f.1, flats_v r f.2]
    rfl
theorem inV_d {K : PySem.W.Frag} {G : Hp} {x : D} {v : V} (rx : Rep K G x v) (fx : D.flat x = true) : ∀ {xs : List D} {vs : List V}, Reps K G xs vs → xs.all D.flat = true → inV v vs = inL x xs
  | [], _, h, _ => by cases h; rfl
  | y :: xs, _, ⟨u, ys, e, h, r⟩, f => by
    subst e
    rw [List.all_cons, Bool.and_eq_true] at f
    have ih := inV_d rx fx r f.2
    unfold inV inL at ih ⊢
    rw [List.any_cons, List.any_cons, eqV_d h rx f.1 fx, ih]
theorem any_py {n m : Nat} {x : D} (hx : D.shp n x = true) : ∀ {xs : List D}, D.shps m xs = true → ((toPys xs).any fun z => PyData.eqv z (toPy x)) = inL x xs
  | [], _ => rfl
  | y :: ys, h => by
    rw [D.shps, Bool.and_eq_true] at h
    rw [toPys, List.any_cons, any_py hx h.2, eqv_py h.1 hx]
    rfl
def rInP (K : PySem.W.Frag) : R2 := fun x y H Q => ∃ d ds, Dp K H x d ∧ Dp K H y (.list ds) ∧ d.canLay0 = true ∧ PyData.canLay0 (.list ds) = true ∧ d.depth ≤ 60 ∧ Q (.bl (ds.any fun z => PyData.eqv z d)) H
theorem op_inP (hu : X.A.units + 64 < cLine) : OpR X (compareOp .In) (rInP X.K) := by
  intro pins s σ H x y v u Q I rx ry h
  obtain ⟨d, ds, hd, he, sd, se, dd, q⟩ := h
  obtain ⟨as, r1⟩ := Dp.reads I d x v hd rx
  obtain ⟨bs, r2⟩ := Dp.reads I (.list ds) y u he ry
  exact SeqAt.in_list_reads r2 r1 se sd (by omega) ⟨.bl _, H, I, rfl, q⟩
def rNotInP (K : PySem.W.Frag) : R2 := fun x y H Q => ∃ d ds, Dp K H x d ∧ Dp K H y (.list ds) ∧ d.canLay0 = true ∧ PyData.canLay0 (.list ds) = true ∧ d.depth ≤ 60 ∧ Q (.bl (!ds.any fun z => PyData.eqv z d)) H
theorem op_notInP (hu : X.A.units + 64 < cLine) : OpR X (compareOp .NotIn) (rNotInP X.K) := by
  intro pins s σ H x y v u Q I rx ry h
  obtain ⟨d, ds, hd, he, sd, se, dd, q⟩ := h
  obtain ⟨as, r1⟩ := Dp.reads I d x v hd rx
  obtain ⟨bs, r2⟩ := Dp.reads I (.list ds) y u he ry
  exact SeqAt.notIn_list_reads r2 r1 se sd (by omega) ⟨.bl _, H, I, rfl, q⟩
theorem op_inD (hu : X.A.units + 64 < cLine) (h : inD x y = .ok d) : ∃ r, OpR X (compareOp .In) r ∧ RD X.K r x y d := by
  have key : ∀ (xs : List D) (G H : Hp) (u : V) (vs : List V), Rep X.K G x u → Reps X.K G xs vs → (D.flat x = true ∧ xs.all D.flat = true) → flatV u = true ∧ vs.all flatV = true ∧ inV u vs = inL x xs :=
    fun xs G H u vs r1 r2 f => ⟨flat_v r1 f.1, flats_v r2 f.2, inV_d r1 f.1 r2 f.2⟩
  cases y with
  | lst xs =>
    have h' : (if D.flat x = true ∧ xs.all D.flat = true then R.ok (.bl (inL x xs)) else R.when (D.shp 60 x = true ∧ D.shp 60 (.lst xs) = true) (.ok (.bl (inL x xs)))) = .ok d := by cases x <;> exact h
    by_cases f : D.flat x = true ∧ xs.all D.flat = true
    case neg =>
      rw [if_neg f] at h'
      obtain ⟨⟨s1, s2⟩, h⟩ := R.when_ok h'
      cases h
      refine ⟨_, op_inP hu, fun G H u v r1 r2 e Q q => ?_⟩
      have s3 := s2
      rw [D.shp] at s3
      have c2 := (shp_can s2).1
      refine ⟨toPy x, toPys xs, (r1.ex e).dp s1, (r2.ex e).dp s2, (shp_can s1).1, c2, (shp_can s1).2, ?_⟩
      rw [any_py s1 s3]
      exact q.now e rfl
    rw [if_pos f] at h'
    cases h'
    refine ⟨_, op_in_seq, fun G H u v r1 r2 e Q q => ?_⟩
    obtain ⟨a, vs, rfl, h1, q1⟩ := r2
    obtain ⟨k1, k2, k3⟩ := key xs G H u vs r1 q1 f
    exact ⟨a, vs, rfl, .inl (.of (e.at h1 rfl)), k1, k2, by show Q (.bl (inV u vs)) H; rw [k3]; exact q.now e rfl⟩
  | tup xs =>
    have h' : R.when (D.flat x = true ∧ xs.all D.flat = true) (.ok (.bl (inL x xs))) = .ok d := by cases x <;> exact h
    obtain ⟨f, h⟩ := R.when_ok h'
    cases h
    refine ⟨_, op_in_seq, fun G H u v r1 r2 e Q q => ?_⟩
    obtain ⟨a, vs, rfl, h1, q1⟩ := r2
    obtain ⟨k1, k2, k3⟩ := key xs G H u vs r1 q1 f
    exact ⟨a, vs, rfl, .inr (ex_t e h1), k1, k2, by show Q (.bl (inV u vs)) H; rw [k3]; exact q.now e rfl⟩
  | _ => cases x <;> cases h
theorem op_ninD (hu : X.A.units + 64 < cLine) (h : ninD x y = .ok d) : ∃ r, OpR X (compareOp .NotIn) r ∧ RD X.K r x y d := by
  have key : ∀ (xs : List D) (G H : Hp) (u : V) (vs : List V), Rep X.K G x u → Reps X.K G xs vs → (D.flat x = true ∧ xs.all D.flat = true) → flatV u = true ∧ vs.all flatV = true ∧ inV u vs = inL x xs :=
    fun xs G H u vs r1 r2 f => ⟨flat_v r1 f.1, flats_v r2 f.2, inV_d r1 f.1 r2 f.2⟩
  cases y with
  | lst xs =>
    have h' : (if D.flat x = true ∧ xs.all D.flat = true then R.ok (.bl (!inL x xs)) else R.when (D.shp 60 x = true ∧ D.shp 60 (.lst xs) = true) (.ok (.bl (!inL x xs)))) = .ok d := by cases x <;> exact h
    by_cases f : D.flat x = true ∧ xs.all D.flat = true
    case neg =>
      rw [if_neg f] at h'
      obtain ⟨⟨s1, s2⟩, h⟩ := R.when_ok h'
      cases h
      refine ⟨_, op_notInP hu, fun G H u v r1 r2 e Q q => ?_⟩
      have s3 := s2
      rw [D.shp] at s3
      have c2 := (shp_can s2).1
      refine ⟨toPy x, toPys xs, (r1.ex e).dp s1, (r2.ex e).dp s2, (shp_can s1).1, c2, (shp_can s1).2, ?_⟩
      rw [any_py s1 s3]
      exact q.now e rfl
    rw [if_pos f] at h'
    cases h'
    refine ⟨_, op_notIn_seq, fun G H u v r1 r2 e Q q => ?_⟩
    obtain ⟨a, vs, rfl, h1, q1⟩ := r2
    obtain ⟨k1, k2, k3⟩ := key xs G H u vs r1 q1 f
    exact ⟨a, vs, rfl, .inl (.of (e.at h1 rfl)), k1, k2, by show Q (.bl (!inV u vs)) H; rw [k3]; exact q.now e rfl⟩
  | tup xs =>
    have h' : R.when (D.flat x = true ∧ xs.all D.flat = true) (.ok (.bl (!inL x xs))) = .ok d := by cases x <;> exact h
    obtain ⟨f, h⟩ := R.when_ok h'
    cases h
    refine ⟨_, op_notIn_seq, fun G H u v r1 r2 e Q q => ?_⟩
    obtain ⟨a, vs, rfl, h1, q1⟩ := r2
    obtain ⟨k1, k2, k3⟩ := key xs G H u vs r1 q1 f
    exact ⟨a, vs, rfl, .inr (ex_t e h1), k1, k2, by show Q (.bl (!inV u vs)) H; rw [k3]; exact q.now e rfl⟩
  | str s =>
    cases x with
    | str w =>
      match w, h with
      | [c], h =>
        cases h
        refine ⟨_, op_notIn_sign, fun G H u v r1 r2 e Q q => ?_⟩
        cases (show u = V.str (st [c]) from r1)
        cases (show v = V.str (st s) from r2)
        refine ⟨c, st s, rfl, rfl, ?_⟩
        have : (!decide (c ∈ (st s).cps.toList)) = (!s.contains c) := by
          show (!decide (c ∈ s)) = _
          rw [List.contains_eq_mem]
        rw [this]
        exact q.now e rfl
      | [], h => cases h
      | _ :: _ :: _, h => cases h
    | _ => cases h
  | _ => cases x <;> cases h

/-! ### subscripts, slices -/
theorem atI_eq {α : Type} (xs : List α) (i : Int) : L2.atI xs i = Pv.atI xs i := rfl
theorem Reps.atI {K : PySem.W.Frag} {G : Hp} {ds : List D} {vs : List V} {i : Int} {d : D} (h : Reps K G ds vs) (e : Pv.atI ds i = some d) : ∃ v, L2.atI vs i = some v ∧ Rep K G d v := by
  unfold Pv.atI at e
  unfold L2.atI
  have hl := h.len
  cases q : Pv.ixN ds.length i with
  | none => rw [q] at e; cases e
  | some j =>
    rw [q] at e
    obtain ⟨v, h1, h2⟩ := h.get (i := j) (d := d) e
    refine ⟨v, ?_, h2⟩
    have q' : L2.ixN vs.length i = some j := by rw [hl]; exact q
    rw [q']
    exact h1
theorem ix_D (h : ixD x y = .ok d) : ∃ r, IxR X r ∧ RD X.K r x y d := by
  cases x with
  | lst xs =>
    cases y with
    | int i =>
      have h := R.ofO_ok h
      refine ⟨_, ix_list, fun G H u v r1 r2 e Q q => ?_⟩
      obtain ⟨a, vs, rfl, h1, q1⟩ := r1
      cases (show v = V.int i from r2)
      obtain ⟨w, h2, h3⟩ := q1.atI h
      exact ⟨a, vs, i, w, rfl, rfl, .of (e.at h1 rfl), h2, q.now e h3⟩
    | _ => cases h
  | scr ns =>
    cases y with
    | int i =>
      obtain ⟨n, h0, h⟩ := R.bind_eq_ok h
      cases h
      have h := R.ofO_ok h0
      refine ⟨_, ix_list, fun G H u v r1 r2 e Q q => ?_⟩
      obtain ⟨a, rfl, h1⟩ := r1
      cases (show v = V.int i from r2)
      have h' : Pv.atI (ns.map D.int) i = some (.int n) := by
        unfold Pv.atI at h ⊢
        rw [List.length_map]
        cases q : Pv.ixN ns.length i with
        | none => rw [q] at h; cases h
        | some j =>
          rw [q] at h
          show (ns.map D.int)[j]? = _
          rw [List.getElem?_map, show ns[j]? = some n from h]
          rfl
      obtain ⟨w, h2, h3⟩ := (Reps.int (K := X.K) (H := G) (ns := ns)).atI h'
      exact ⟨a, _, i, w, rfl, rfl, ex_l e h1, h2, q.now e h3⟩
    | _ => cases h
  | tup xs =>
    cases y with
    | int i =>
      have h := R.ofO_ok h
      refine ⟨_, ix_tup, fun G H u v r1 r2 e Q q => ?_⟩
      obtain ⟨a, vs, rfl, h1, q1⟩ := r1
      cases (show v = V.int i from r2)
      obtain ⟨w, h2, h3⟩ := q1.atI h
      exact ⟨a, vs, i, w, rfl, rfl, ex_t e h1, h2, q.now e h3⟩
    | _ => cases h
  | str s =>
    cases y with
    | int i =>
      obtain ⟨hl, h⟩ := R.when_ok h
      obtain ⟨c, h0, h⟩ := R.bind_eq_ok h
      cases h
      have h := R.ofO_ok h0
      refine ⟨_, ix_str, fun G H u v r1 r2 e Q q => ?_⟩
      cases (show u = V.str (st s) from r1)
      cases (show v = V.int i from r2)
      refine ⟨st s, i, c, rfl, rfl, by rw [st_len, sizeLine_eq]; exact hl, ?_, q.now e rfl⟩
      show L2.atI s i = some c
      exact h
    | _ => cases h
  | _ => cases y <;> cases h
theorem sIx_eq (n d : Nat) (o : Option Int) : HT.sIx n d o = Pv.sIx n d o := by
  cases o <;> rfl
theorem cutV_eq (xs : List V) (lo hi : Option Int) : cutV xs lo hi = Pv.cut xs lo hi := by
  unfold cutV Pv.cut
  rw [sIx_eq, sIx_eq]
theorem Reps.cut {K : PySem.W.Frag} {G : Hp} {ds : List D} {vs : List V} (h : Reps K G ds vs) (lo hi : Option Int) : Reps K G (Pv.cut ds lo hi) (cutV vs lo hi) := by
  rw [cutV_eq]
  unfold Pv.cut
  rw [h.len]
  exact (h.drop _).take _
theorem cutS_st (s : List Nat) (lo hi : Option Int) : L2.cutS (st s) lo hi = st (Pv.cut s lo hi) := by
  apply Str.ext'
  apply Array.toList_inj.mp
  show ((s.drop (HT.sIx (st s).length 0 lo)).take (HT.sIx (st s).length (st s).length hi - HT.sIx (st s).length 0 lo)) = Pv.cut s lo hi
  rw [sIx_eq, sIx_eq, st_len]
  rfl
theorem ed_sliceD {te : TE} {tl th : TO} {z : Nat → Bool} {ρ : Env} {lo hi : Option Int} {e : Expr} {l u : Option Expr} {p2 pos : Pos} (h : EvD X.K te z ρ x) (h1 : EvO X.K tl z ρ lo) (h2 : EvO X.K th z ρ hi) (hr : sliceD x lo hi = .ok d)
    (he : PE X e te) (hl : PO X l tl) (hu : PO X u th) : EvD X.K (wE X (.Subscript e (.Slice l u none p2) pos)) z ρ d := by
  cases x with
  | lst xs =>
    cases hr
    refine EvD.of (pe_slice sl_list he hl hu) (EvN.toD (en_slice h h1 h2 fun G H v r e Q q => ?_))
    obtain ⟨a, vs, rfl, g1, q1⟩ := r
    exact ⟨a, vs, rfl, .of (e.at g1 rfl), fun p hp => q p _ G _ hp (Step.newH e hp) (ex_none e hp) upd_same (q1.cut lo hi)⟩
  | tup xs =>
    cases hr
    refine EvD.of (pe_slice sl_tupA he hl hu) (ed_slice h h1 h2 fun G H v r e Q q => ?_)
    obtain ⟨a, vs, rfl, g1, q1⟩ := r
    refine ⟨a, vs, rfl, ex_t e g1, fun hw => ?_, fun _ p hp => ?_⟩
    · have c := q1.cut lo hi
      have e2 : cutV vs lo hi = vs := by unfold cutV; rw [hw.1, hw.2]; simp
      rw [e2] at c
      exact q.now e ⟨a, vs, rfl, g1, c⟩
    · have n := ex_none e hp
      exact q (.ref p) (upd G p (.tup (cutV vs lo hi))) _ (Step.new e hp) ⟨p, _, rfl, st_of upd_same, (q1.cut lo hi).ex (Ex.new n)⟩
  | str s =>
    obtain ⟨hz, hr⟩ := R.when_ok hr
    cases hr
    refine EvD.of (pe_slice sl_str he hl hu) (ed_slice h h1 h2 fun G H v r e Q q => ?_)
    cases (show v = V.str (st s) from r)
    refine ⟨st s, rfl, by rw [st_len, sizeLine_eq]; exact hz, ?_⟩
    rw [cutS_st]
    exact q.now e rfl
  | _ => cases hr
theorem un_negD (h : negD x = .ok d) : ∃ r, UnR X (unaryOp .USub) r ∧ RU X.K r x d := by
  cases x with
  | int i =>
    cases h
    refine ⟨_, un_neg, fun G H u r e Q q => ?_⟩
    cases (show u = V.int i from r)
    exact ⟨i, rfl, q.now e rfl⟩
  | _ => cases h
end
end Pv

end
section
/-! EvO: the order of data: sorted(..) of tuples, < of lists of ints. -/
namespace Pv
open PySem PySem.Spec PyProof.Rows L2

mutual
theorem tk_py : ∀ d : D, PySem.W.keyToks (toPy d) = tkD d
  | .non => by rw [toPy, tkD, PySem.W.keyToks]
  | .bl b => by rw [toPy, tkD, PySem.W.keyToks]
  | .int i => by rw [toPy, tkD, PySem.W.keyToks]
  | .str s => by
    rw [toPy, tkD, PySem.W.keyToks]
    first | done | (show [Sum.inr (st s).cps.toList] = _; simp)
  | .lst xs => by rw [toPy, tkD, PySem.W.keyToks]; exact tks_py xs
  | .tup xs => by rw [toPy, tkD, PySem.W.keyToks]; exact tks_py xs
  | .scr _ => by rw [toPy, tkD, PySem.W.keyToks]
  | .cnt _ => by rw [toPy, tkD, PySem.W.keyToks]
theorem tks_py : ∀ ds : List D, PySem.W.keyToksAll (toPys ds) = tkDs ds
  | [] => by rw [toPys, tkDs, PySem.W.keyToksAll]
  | d :: ds => by rw [toPys, tkDs, PySem.W.keyToksAll, tk_py d, tks_py ds]
end
theorem tkLt_eq : ∀ a b, tkLt a b = itemOrd.blt a b
  | .inl a, .inl b => rfl
  | .inl a, .inr b => rfl
  | .inr a, .inl b => rfl
  | .inr a, .inr b => rfl
theorem lexT_eq : ∀ a b, lexT a b = PyProof.Rows.lexLt itemOrd a b
  | [], [] => rfl
  | [], _ :: _ => rfl
  | _ :: _, [] => rfl
  | x :: r, y :: t => by
    rw [lexT, lex_cons, tkLt_eq, tkLt_eq, lexT_eq r t]
theorem leD_tot (a b : D) : (leD a b || leD b a) = true := by
  unfold leD
  rw [lexT_eq, lexT_eq]
  cases h : PyProof.Rows.lexLt itemOrd (tkD b) (tkD a) with
  | false => rfl
  | true =>
    cases h2 : PyProof.Rows.lexLt itemOrd (tkD a) (tkD b) with
    | false => rfl
    | true =>
      have q := (listOrd itemOrd).trans _ _ _ h h2
      have q2 := (listOrd itemOrd).irrefl (tkD b)
      rw [q] at q2
      cases q2
theorem leD_tr (a b c : D) (h1 : leD a b = true) (h2 : leD b c = true) : leD a c = true := by
  unfold leD at *
  rw [lexT_eq, Bool.not_eq_true'] at *
  cases h : PyProof.Rows.lexLt itemOrd (tkD c) (tkD a) with
  | false => rfl
  | true =>
    rcases (listOrd itemOrd).negTrans (tkD c) (tkD b) (tkD a) h with q | q
    · have q : PyProof.Rows.lexLt itemOrd (tkD c) (tkD b) = true := q
      rw [h2] at q; cases q
    · have q : PyProof.Rows.lexLt itemOrd (tkD b) (tkD a) = true := q
      rw [h1] at q; cases q
theorem leD_py (x y : D) : leD x y = !PySem.W.dataLt (toPy y) (toPy x) := by
  unfold leD PySem.W.dataLt
  rw [tk_py, tk_py, lexT_eq]
mutual
theorem lik_py : ∀ x y : D, likD x y = true → PySem.W.alike (toPy x) (toPy y) = true
  | .non, y, h => by cases y <;> first | (simp [likD] at h; done) | simp [toPy, PySem.W.alike]
  | .bl _, y, h => by cases y <;> first | (simp [likD] at h; done) | simp [toPy, PySem.W.alike]
  | .int _, y, h => by cases y <;> first | (simp [likD] at h; done) | simp [toPy, PySem.W.alike]
  | .str _, y, h => by cases y <;> first | (simp [likD] at h; done) | simp [toPy, PySem.W.alike]
  | .scr _, y, h => by cases y <;> (simp [likD] at h)
  | .cnt _, y, h => by cases y <;> (simp [likD] at h)
  | .lst xs, y, h => by
    cases y with
    | lst ys => rw [toPy, toPy, PySem.W.alike]; exact liks_py xs ys (by simpa [likD] using h)
    | _ => simp [likD] at h
  | .tup xs, y, h => by
    cases y with
    | tup ys => rw [toPy, toPy, PySem.W.alike]; exact liks_py xs ys (by simpa [likD] using h)
    | _ => simp [likD] at h
theorem liks_py : ∀ xs ys : List D, likDs xs ys = true → PySem.W.alikeAll (toPys xs) (toPys ys) = true
  | [], ys, _ => by rw [toPys]; cases ys <;> simp [PySem.W.alikeAll, toPys]
  | x :: xs, [], _ => by rw [toPys, toPys, PySem.W.alikeAll]
  | x :: xs, y :: ys, h => by
    rw [likDs, Bool.and_eq_true] at h
    rw [toPys, toPys, PySem.W.alikeAll, lik_py x y h.1, liks_py xs ys h.2]
    rfl
end
theorem toPys_map : ∀ ds : List D, toPys ds = ds.map toPy
  | [] => by rw [toPys]; rfl
  | d :: ds => by rw [toPys, toPys_map ds]; rfl
theorem shps_mem {n : Nat} : ∀ {ds : List D}, D.shps n ds = true → ∀ d ∈ ds, D.shp n d = true
  | [], _, _, h => by cases h
  | x :: xs, h, d, hd => by
    rw [D.shps, Bool.and_eq_true] at h
    rcases List.mem_cons.mp hd with rfl | hd
    · exact h.1
    · exact shps_mem h.2 d hd

variable [Tabs]
/-- what a sorted list is told as: each new value beside its data -/
def PairsOf (K : PySem.W.Frag) (G : Hp) (ps : List (V × D)) : Prop := ∀ p ∈ ps, Rep K G p.2 p.1
theorem reps_zip {K : PySem.W.Frag} {G : Hp} : ∀ {ds : List D} {xs : List V}, Reps K G ds xs → PairsOf K G (xs.zip ds) ∧ (xs.zip ds).map (·.2) = ds ∧ (xs.zip ds).map (·.1) = xs
  | [], _, h => by cases h; exact ⟨fun p hp => (by cases hp), rfl, rfl⟩
  | d :: ds, _, ⟨y, ys, e, h, r⟩ => by
    subst e
    obtain ⟨h1, h2, h3⟩ := reps_zip r
    refine ⟨fun p hp => ?_, by simp [h2], by simp [h3]⟩
    rcases List.mem_cons.mp hp with rfl | hp
    · exact h
    · exact h1 p hp
theorem zip_reps {K : PySem.W.Frag} {G : Hp} : ∀ {ps : List (V × D)}, PairsOf K G ps → Reps K G (ps.map (·.2)) (ps.map (·.1))
  | [], _ => rfl
  | p :: ps, h => ⟨p.1, ps.map (·.1), rfl, h p List.mem_cons_self, zip_reps fun q hq => h q (List.mem_cons_of_mem _ hq)⟩
theorem each_zip {its : List Value} : ∀ {ds : List D} {xs : List V} {us : List Value}, Vals xs us → xs.length = ds.length → PySem.W.EachIs (fun (v : Value) (b : V × D) => RelV b.1 v) us (xs.zip ds)
  | ds, _, _, .nil, h => by
    cases ds with
    | nil => exact .nil
    | cons _ _ => simp at h
  | ds, _, _, .cons r rs, h => by
    cases ds with
    | nil => simp at h
    | cons d ds => exact .cons r (each_zip (its := its) rs (by simpa using h))
theorem vals_each : ∀ {us : List Value} {ps : List (V × D)}, PySem.W.EachIs (fun (v : Value) (b : V × D) => RelV b.1 v) us ps → Vals (ps.map (·.1)) us
  | _, _, .nil => .nil
  | _, _, .cons r rs => .cons r (vals_each rs)
theorem each_and {α β : Type} {R S : α → β → Prop} : ∀ {as : List α} {bs : List β}, PySem.W.EachIs R as bs → PySem.W.EachIs S as bs → PySem.W.EachIs (fun a b => R a b ∧ S a b) as bs
  | _, _, .nil, .nil => .nil
  | _, _, .cons a as, .cons b bs => .cons ⟨a, b⟩ (each_and as bs)
theorem each_at {α β : Type} {R : α → β → Prop} (h : ∀ a b, R a b) : ∀ {as : List α} {bs : List β}, as.length = bs.length → PySem.W.EachIs R as bs
  | [], [], _ => .nil
  | [], _ :: _, e => by simp at e
  | _ :: _, [], e => by simp at e
  | a :: as, b :: bs, e => .cons (h a b) (each_at h (by simpa using e))

section
variable {X : Cx}
def rSortD (K : PySem.W.Frag) : List V → Hp → VK → Prop := fun vs H Q => ∃ (a : Addr) (xs : List V) (ds : List D), vs = [V.ref a] ∧ SqL K H a xs ∧ Reps K H ds xs ∧ sortable ds = true ∧
  ∀ (ps : List (V × D)) (p : Addr), (∀ q ∈ ps, q ∈ xs.zip ds) → ps.map (·.2) = ds.mergeSort leD → H p = none → Q (.ref p) (upd H p (.lst (ps.map (·.1))))
theorem each_reads {pins : List (Addr × Obj)} {σ : L2.St} {H : Hp} {s : Shared} {ds : List D} {xs : List V} {its : List Value} (I : Inv X pins σ H s) (hd : Reps X.K H ds xs) (h3 : D.shps 60 ds = true) (rv : Vals xs its) :
    PySem.W.EachIs (fun v (b : V × D) => ∃ as, Reads s.heap v (toPy b.2) as) its (xs.zip ds) := by
  obtain ⟨as, ra⟩ := Dp.readsAll I _ _ _ (Reps.dp hd h3) rv
  refine PySem.W.readsAll_each (fun b : V × D => toPy b.2) (as := as) ?_
  have e : ((xs.zip ds).map fun b : V × D => toPy b.2) = toPys ds := by
    rw [toPys_map, ← (reps_zip hd).2.1, List.map_map, (reps_zip hd).2.1]
    rfl
  rw [e]
  exact ra
theorem call_sortD (hu : X.A.units + 64 < cLine) : CallR X (.builtin "sorted") (rSortD X.K) := by
  intro pins s σ H vs us Q I r h
  obtain ⟨a, xs, ds, rfl, hs, hd, so, q⟩ := h
  obtain ⟨its, rv, hl, hz⟩ := I.list hs
  rw [Vals.ref1 r]
  unfold sortable at so
  rw [Bool.and_eq_true, Bool.and_eq_true, List.all_eq_true, List.all_eq_true] at so
  obtain ⟨⟨h1, h2⟩, h3⟩ := so
  obtain ⟨zp, z2, z1⟩ := reps_zip hd
  have zl : (xs.zip ds).length = xs.length := by
    have := congrArg List.length z1
    rwa [List.length_map] at this
  have zm : ∀ b ∈ xs.zip ds, b.2 ∈ ds := fun b hb => by rw [← z2]; exact List.mem_map.mpr ⟨b, hb, rfl⟩
  have er := each_reads I hd h3 rv
  have ez : PySem.W.EachIs (fun (v : Value) (b : V × D) => RelV b.1 v) its (xs.zip ds) := each_zip (its := []) rv hd.len
  refine PySem.W.sorted_data (enc := fun b : V × D => toPy b.2) (bs := xs.zip ds) (R := fun (v : Value) (b : V × D) => RelV b.1 v) hl.isList ez er ?_ (.inl ?_) (by rw [zl]; exact hz) ?_ fun out ho eo => ?_
  · intro d hd1 d' hd2
    obtain ⟨b, hb, rfl⟩ := List.mem_map.mp hd1
    obtain ⟨b', hb', rfl⟩ := List.mem_map.mp hd2
    exact lik_py _ _ (List.all_eq_true.mp (h2 _ (zm b hb)) _ (zm b' hb'))
  · intro d hd1
    obtain ⟨b, hb, rfl⟩ := List.mem_map.mp hd1
    have := h1 _ (zm b hb)
    cases e : b.2 with
    | tup ys =>
      cases ys with
      | nil => rw [e] at this; cases this
      | cons y ys => exact ⟨toPy y, toPys ys, by rw [toPy, toPys]⟩
    | _ => rw [e] at this; cases this
  · intro b hb
    have := (shp_can (shps_mem h3 _ (zm b hb))).2
    show X.A.units + 2 + (toPy b.2).depth < cLine
    omega
  · generalize hps : (xs.zip ds).mergeSort (PySem.W.dataLe false fun b : V × D => toPy b.2) = ps at eo
    obtain ⟨ep, he'⟩ := PyProof.Rows.sortedAll_at s.heap its out.toArray
    have hperm : ps.Perm (xs.zip ds) := by rw [← hps]; exact List.mergeSort_perm _ _
    have hlen : (ps.map (·.1)).length ≤ sizeLine := by
      rw [List.length_map, hperm.length_eq, zl]
      exact hz
    refine ⟨.ref _, upd H (s.heap.objs.size + 1) (.lst (ps.map (·.1))), I.laid (t' := s.toks) (fun _ _ => PyProof.Rows.sortedAll_old) (Nat.le_succ _) ⟨hlen, out, ep, vals_each eo, he'⟩, rfl, q ps _ (fun p hp => hperm.mem_iff.mp hp) ?_ (I.hok.fresh (Nat.le_succ _))⟩
    rw [← hps, List.map_mergeSort (s := leD) (fun a ha b hb => ?_), z2]
    rw [PySem.W.dataLe_eq]
    show (!PySem.W.dataLt (toPy b.2) (toPy a.2)) = leD a.2 b.2
    rw [leD_py]

/-! ### < of two lists of ints -/
theorem lexI_py : ∀ ns ms : List Int, PySem.W.rowLt (ns.map .int) (ms.map .int) = lexI ns ms
  | ns, ms => by
    rw [PySem.W.dataLt_ints]
    induction ns generalizing ms with
    | nil => cases ms <;> simp [lexI]
    | cons x xs ih =>
      cases ms with
      | nil => simp [lexI]
      | cons y ys =>
        rw [lexI]
        by_cases h : x = y
        · rw [if_pos h, ← ih ys]
          simp [h, List.cons_lt_cons_iff]
        · rw [if_neg h]
          simp [h, List.cons_lt_cons_iff]
theorem ints_dp {K : PySem.W.Frag} {H : Hp} : ∀ ns : List Int, DpAll K H (ns.map V.int) (ns.map PyData.int)
  | [] => .nil
  | n :: ns => .cons (.int n) (ints_dp ns)
def rLtL (K : PySem.W.Frag) : R2 := fun x y H Q => ∃ a b ns ms, x = .ref a ∧ y = .ref b ∧ SqL K H a (ns.map V.int) ∧ SqL K H b (ms.map V.int) ∧ Q (.bl (lexI ns ms)) H
theorem op_ltL (hu : X.A.units + 64 < cLine) : OpR X (compareOp .Lt) (rLtL X.K) := by
  intro pins s σ H x y v u Q I rx ry h
  obtain ⟨a, b, ns, ms, rfl, rfl, ha, hb, q⟩ := h
  obtain ⟨as, r1⟩ := Dp.reads I (.list (ns.map .int)) _ v (.lst ha (ints_dp ns)) rx
  obtain ⟨bs, r2⟩ := Dp.reads I (.list (ms.map .int)) _ u (.lst hb (ints_dp ms)) ry
  have d1 : ∀ l : List Int, PyData.depth (.list (l.map .int)) ≤ 1 := fun l => by
    show PyData.depthAll (l.map .int) + 1 ≤ 1
    rw [PySem.W.depth_ints]
    exact Nat.le_refl _
  have e1 := d1 ns
  have al : PySem.W.alike (.list (ns.map .int)) (.list (ms.map .int)) = true := by rw [PySem.W.alike]; exact PySem.W.alike_ints ns ms
  refine PySem.W.rcLt_alike (.list (ns.map .int)) (.list (ms.map .int)) X.A s v u as bs r1 r2 al (fun h => nomatch h) (by omega) X.prog X.w X.xe _ ?_
  rw [PySem.W.dataLt_list]
  show EP X pins σ Q (.bool (PySem.W.rowLt (ns.map .int) (ms.map .int))) s
  rw [lexI_py]
  exact ⟨.bl _, H, I, rfl, q⟩
theorem op_ltDD {x y d : D} (hu : X.A.units + 64 < cLine) (h : ltD x y = .ok d) : ∃ r, OpR X (compareOp .Lt) r ∧ RD X.K r x y d := by
  cases x with
  | int i =>
    cases y with
    | int j =>
      cases h
      exact op_cmpD (f := fun i j => decide (i < j)) op_lt rfl
    | _ => cases h
  | lst xs =>
    cases y with
    | lst ys =>
      obtain ⟨ns, h1, h⟩ := Pv.R.bind_eq_ok (show (R.ofO (Pv.intsOf xs)).bind (fun ns => (R.ofO (Pv.intsOf ys)).bind fun ms => .ok (.bl (lexI ns ms))) = .ok d from h)
      obtain ⟨ms, h2, h⟩ := Pv.R.bind_eq_ok h
      cases h
      refine ⟨_, op_ltL hu, fun G H u v r1 r2 e Q q => ?_⟩
      obtain ⟨a, vs, rfl, g1, q1⟩ := r1
      obtain ⟨b, ws, rfl, g2, q2⟩ := r2
      have e1 := q1.ints (Pv.R.ofO_ok h1)
      have e2 := q2.ints (Pv.R.ofO_ok h2)
      subst e1 e2
      exact ⟨a, b, ns, ms, rfl, rfl, .of (e.at g1 rfl), .of (e.at g2 rfl), q.now e rfl⟩
    | _ => cases h
  | _ => cases h

/-! ### count of truths -/
def rCntB (K : PySem.W.Frag) : V → List V → Hp → VK → Prop := fun x xs H Q => ∃ (p : Addr) (bs : List Bool) (k : Bool), x = .ref p ∧ xs = [.bl k] ∧ SqL K H p (bs.map V.bl) ∧ Q (.int (bs.count k : Nat)) H
def eqkB (k : Bool) : Value → Bool
  | .bool b => b == k
  | _ => false
theorem eqk_countB {k : Bool} : ∀ {bs : List Bool} {us : List Value}, Vals (bs.map V.bl) us → us.countP (eqkB k) = bs.count k ∧ ∀ y ∈ us, ∃ b, y = .bool b
  | [], _, .nil => ⟨rfl, fun y h => by cases h⟩
  | b :: bs, _, .cons r rs => by
    cases (show _ = Value.bool b from r)
    obtain ⟨h1, h2⟩ := eqk_countB (k := k) rs
    refine ⟨?_, fun y hy => ?_⟩
    · rw [List.countP_cons, List.count_cons, h1]
      rfl
    · rcases List.mem_cons.mp hy with rfl | hy
      · exact ⟨b, rfl⟩
      · exact h2 y hy
theorem mt_bcount : MtR X "list.count" (rCntB X.K) := by
  intro pins s σ H x xs v us Q I rx rxs h
  obtain ⟨p, bs, k, rfl, rfl, hs, q⟩ := h
  cases rx
  obtain ⟨u, rfl, ru⟩ := rxs.one
  cases (show u = Value.bool k from ru)
  obtain ⟨its, rv, ⟨⟨cls, dd, data, sl⟩, n, ho, hc, hdn, hd⟩, hlen⟩ := I.list hs
  simp only at hc hd
  subst hc hd
  obtain ⟨e1, e2⟩ := eqk_countB (k := k) rv
  refine call_meets PySem.F.slot_list_count ⟨_, ho, rfl⟩ PySem.F.entry_list_count (PySem.F.args_list_count_2 _ _)
    (SeqAt.list_countAt p its.toArray n dd sl (.bool k) (eqkB k)) ⟨ho, fun y hy => ?_, ?_⟩
  · obtain ⟨b, rfl⟩ := e2 y (by simpa using hy)
    exact SeqAt.EqAt.bool_bool b k
  refine ⟨.int (bs.count k : Nat), H, I.tok _, ⟨s.toks, ?_⟩, q⟩
  show Value.int ((its.toArray.toList.countP (eqkB k) : Nat) : Int) s.toks = Value.int ((bs.count k : Nat) : Int) s.toks
  rw [show its.toArray.toList = its from rfl, e1]
end
end Pv

end
section
/-! Ev3: built-in functions over data. -/
namespace Pv
open PySem PySem.Spec PyProof.Rows L2
variable [Tabs]

/-! ### max, min of a tuple of ints -/
section
variable {prog : Program} {w : World} {A : Around} {E : Value → Shared → Prop} {s : Shared} {l : Addr} {xs : Array (Int × Tok)}
theorem iter_ofTup {its : Array Value} {Q : Value → Shared → Prop} (hl : s.heap.IsTuple l its)
    (h : ∀ s₂ : Shared, s₂ = { s with heap := s.heap.push { cls := .type "tuple_iterator", data := .fields #[.ref l, .int 0 0] } } →
      (s₂.heap.IsTupleIter s.heap.objs.size l 0 ∧ s₂.heap.IsTuple l its) → (∀ b ∈ [s.heap.objs.size, l], b < s₂.heap.objs.size) → l ≠ s.heap.objs.size → Q (.ref s.heap.objs.size) s₂) :
    wpAny (model prog w) A (pyIter (.ref l)) Q E s := by
  have hlt : l < s.heap.objs.size := by obtain ⟨_, e, _⟩ := hl; exact Heap.lt_size e
  refine wpAny_pyIter_tuple hl (h _ rfl ⟨⟨_, Heap.get?_push_size _ rfl, rfl, rfl⟩, hl.push _⟩ (fun b hb => ?_) (Nat.ne_of_lt hlt))
  show b < (s.heap.push _).objs.size
  rw [Heap.size_push]
  rcases List.mem_cons.mp hb with rfl | hb
  · exact Nat.lt_succ_self _
  · rcases List.mem_cons.mp hb with rfl | hb
    · exact Nat.lt_succ_of_lt hlt
    · cases hb
theorem old_tup {h' : Heap} (hk : ∀ b o, b ∉ [s.heap.objs.size] → (s.heap.push { cls := .type "tuple_iterator", data := .fields #[.ref l, .int 0 0] }).get? b = some o → h'.get? b = some o) :
    ∀ b o, s.heap.get? b = some o → h'.get? b = some o := fun b o e => by
  refine hk b o (fun hm => ?_) (Heap.get?_push_of_some _ e)
  rcases List.mem_cons.mp hm with e1 | hm
  · exact absurd (e1 ▸ Heap.lt_size e) (Nat.lt_irrefl _)
  · cases hm
theorem max_tup {Q : Value → Shared → Prop} (hh : A.handled = none) (hl : s.heap.IsTuple l (intItems xs)) (hne : 0 < xs.size)
    (h : ∀ v h' tk, (intItems xs)[argBest (fun i j => decide (numAt xs i > numAt xs j)) (xs.size - 1)]? = some v → (∀ b o, s.heap.get? b = some o → h'.get? b = some o) → Q v { s with heap := h', toks := tk }) :
    wpAny (model prog w) A (call (.builtin "max") [.ref l]) Q E s := by
  refine call_max_walk (iter_ofTup hl fun s₂ e st hfp hlI => ?_)
  subst e
  refine ⟨_, _, _, _, _, _, _, rfl, Walks.tuple (A := A.in1) hh _ l hlI (intItems xs), st, hfp, by simpa [intItems] using hne, CmpOf.ints_gt (numAt xs) (fun _ _ => intItems_at), fun v h' tk hP hk => ?_⟩
  exact h v h' tk (by simpa [intItems] using hP) (old_tup hk)
theorem min_tup {Q : Value → Shared → Prop} (hh : A.handled = none) (hl : s.heap.IsTuple l (intItems xs)) (hne : 0 < xs.size)
    (h : ∀ v h' tk, (intItems xs)[argBest (fun i j => decide (numAt xs i < numAt xs j)) (xs.size - 1)]? = some v → (∀ b o, s.heap.get? b = some o → h'.get? b = some o) → Q v { s with heap := h', toks := tk }) :
    wpAny (model prog w) A (call (.builtin "min") [.ref l]) Q E s := by
  refine call_min_walk (iter_ofTup hl fun s₂ e st hfp hlI => ?_)
  subst e
  refine ⟨_, _, _, _, _, _, _, rfl, Walks.tuple (A := A.in1) hh _ l hlI (intItems xs), st, hfp, by simpa [intItems] using hne, CmpOf.ints_lt (numAt xs) (fun _ _ => intItems_at), fun v h' tk hP hk => ?_⟩
  exact h v h' tk (by simpa [intItems] using hP) (old_tup hk)
theorem max_rawT {its : List Value} {ns : List Int} {Q : Value → Shared → Prop} (hh : A.handled = none) (hl : s.heap.IsTuple l its.toArray) (hi : IntsAre its ns) (hne : 0 < ns.length)
    (h : ∀ h' tk M t', (∀ b o, s.heap.get? b = some o → h'.get? b = some o) → M ∈ ns → (∀ a, a ∈ ns → a ≤ M) → Q (.int M t') { s with heap := h', toks := tk }) : wpAny (model prog w) A (call (.builtin "max") [.ref l]) Q E s := by
  obtain ⟨xs, e⟩ := hi.allInts.items
  have hn : numsOf (intItems xs).toList = ns := by rw [← e]; exact hi.numsOf
  rw [nums_intItems] at hn
  subst hn
  rw [e] at hl
  have hsz : 0 < xs.size := by simpa using hne
  refine max_tup hh hl hsz fun v h' tk hv hk => ?_
  obtain ⟨t, rfl⟩ := intItems_at hv
  obtain ⟨h1, h2⟩ := argBest_gt (numAt xs) (xs.size - 1)
  refine h h' tk _ t hk ?_ fun a ha => ?_
  · rw [numAt_eq]; exact PySem.getD_mem (by rw [List.length_map, Array.length_toList]; omega)
  · obtain ⟨j, hj, rfl⟩ := mem_getD ha
    rw [List.length_map, Array.length_toList] at hj
    rw [← numAt_eq]; exact h2 j (by omega)
theorem min_rawT {its : List Value} {ns : List Int} {Q : Value → Shared → Prop} (hh : A.handled = none) (hl : s.heap.IsTuple l its.toArray) (hi : IntsAre its ns) (hne : 0 < ns.length)
    (h : ∀ h' tk M t', (∀ b o, s.heap.get? b = some o → h'.get? b = some o) → M ∈ ns → (∀ a, a ∈ ns → M ≤ a) → Q (.int M t') { s with heap := h', toks := tk }) : wpAny (model prog w) A (call (.builtin "min") [.ref l]) Q E s := by
  obtain ⟨xs, e⟩ := hi.allInts.items
  have hn : numsOf (intItems xs).toList = ns := by rw [← e]; exact hi.numsOf
  rw [nums_intItems] at hn
  subst hn
  rw [e] at hl
  have hsz : 0 < xs.size := by simpa using hne
  refine min_tup hh hl hsz fun v h' tk hv hk => ?_
  obtain ⟨t, rfl⟩ := intItems_at hv
  obtain ⟨h1, h2⟩ := argBest_lt (numAt xs) (xs.size - 1)
  refine h h' tk _ t hk ?_ fun a ha => ?_
  · rw [numAt_eq]; exact PySem.getD_mem (by rw [List.length_map, Array.length_toList]; omega)
  · obtain ⟨j, hj, rfl⟩ := mem_getD ha
    rw [List.length_map, Array.length_toList] at hj
    rw [← numAt_eq]; exact h2 j (by omega)
end
section
variable {X : Cx}
def rMaxT (K : PySem.W.Frag) : List V → Hp → VK → Prop := fun vs H Q => ∃ (a : Addr) (ns : List Int), vs = [V.ref a] ∧ SqT K H a (ns.map V.int) ∧ 0 < ns.length ∧ ∀ m, m ∈ ns → (∀ y, y ∈ ns → y ≤ m) → Q (.int m) H
def rMinT (K : PySem.W.Frag) : List V → Hp → VK → Prop := fun vs H Q => ∃ (a : Addr) (ns : List Int), vs = [V.ref a] ∧ SqT K H a (ns.map V.int) ∧ 0 < ns.length ∧ ∀ m, m ∈ ns → (∀ y, y ∈ ns → m ≤ y) → Q (.int m) H
theorem vals3 {x y z : V} {us : List Value} (r : Vals [x, y, z] us) : ∃ u v w, us = [u, v, w] ∧ RelV x u ∧ RelV y v ∧ RelV z w := by
  cases r with
  | cons r1 r2 =>
    obtain ⟨v, w, rfl, r3, r4⟩ := vals2 r2
    exact ⟨_, v, w, rfl, r1, r3, r4⟩
theorem call_max3 (hc : X.calm = true) : CallR X (.builtin "max") (fun xs H Q => ∃ i j k, xs = [.int i, .int j, .int k] ∧ Q (.int (if j > i then (if k > j then k else j) else (if k > i then k else i))) H) := by
  intro pins s σ H xs us Q I r h
  obtain ⟨i, j, k, rfl, q⟩ := h
  obtain ⟨u, v, w, rfl, ⟨t, rfl⟩, ⟨t', rfl⟩, ⟨t'', rfl⟩⟩ := vals3 r
  refine max_three_ints (I.ok.hd hc) fun h' tk kk => ⟨_, H, I.kept kk, ?_, q⟩
  split
  · split <;> exact ⟨_, rfl⟩
  · split <;> exact ⟨_, rfl⟩
theorem trip_eq {d : D} {t : Int × Int × Int} (h : trip d = some t) : d = tD t := by
  unfold trip at h
  split at h
  · cases h; rfl
  · cases h
theorem trips_eq : ∀ {ds : List D} {ts : List (Int × Int × Int)}, trips ds = some ts → ds = ts.map tD
  | [], ts, h => by cases h; rfl
  | d :: ds, ts, h => by
    rw [trips] at h
    split at h
    · rename_i t ts' h1 h2
      cases h
      rw [trip_eq h1, trips_eq h2]; rfl
    · cases h
theorem tD_shps : ∀ ts : List (Int × Int × Int), D.shps 5 (ts.map tD) = true
  | [] => by rw [List.map_nil, D.shps]
  | t :: ts => by
    rw [List.map_cons, D.shps, tD_shps ts]
    simp [tD, D.shp, D.shps]
def tP (t : Int × Int × Int) : PyData := .tuple ((tL t).map .int)
theorem toPy_tD (t : Int × Int × Int) : toPy (tD t) = tP t := by
  unfold tD tP tL
  simp [toPy, toPys]
theorem toPys_tD : ∀ ts : List (Int × Int × Int), toPys (ts.map tD) = ts.map tP
  | [] => by rw [List.map_nil, toPys]; rfl
  | t :: ts => by rw [List.map_cons, toPys, toPy_tD, toPys_tD ts]; rfl
theorem lt_tP (a b : Int × Int × Int) : PySem.W.dataLt (tP a) (tP b) = decide (tL a < tL b) := by
  unfold tP
  rw [PySem.W.dataLt_tuple]
  exact PySem.W.dataLt_ints (tL a) (tL b)
theorem minD_tP : ∀ (ts : List (Int × Int × Int)) (t : Int × Int × Int), PySem.W.minD (tP t) (ts.map tP) = tP (minT t ts)
  | [], t => rfl
  | x :: ts, t => by
    have ih := minD_tP ts (if tL x < tL t then x else t)
    rw [minT, ← ih]
    show List.foldl _ (if PySem.W.dataLt (tP x) (tP t) then tP x else tP t) (ts.map tP) = _
    rw [lt_tP]
    by_cases c : tL x < tL t
    · simp [c]; rfl
    · simp [c]; rfl
theorem tP_inj {a b : Int × Int × Int} (h : tP a = tP b) : a = b := by
  unfold tP tL at h
  simp at h
  obtain ⟨h1, h2, h3⟩ := h
  exact Prod.ext h1 (Prod.ext h2 h3)
theorem alike_tP (a b : Int × Int × Int) : PySem.W.alike (tP a) (tP b) = true := by
  simp [tP, tL, PySem.W.alike, PySem.W.alikeAll]
theorem vals_at : ∀ {xs : List V} {us : List Value} {i : Nat} {u : Value}, Vals xs us → us[i]? = some u → ∃ x, xs[i]? = some x ∧ RelV x u
  | [], us, i, u, r, h => by cases r; simp at h
  | x :: xs, us, i, u, r, h => by
    cases r with
    | cons r1 r2 =>
      cases i with
      | zero => simp at h; subst h; exact ⟨x, rfl, r1⟩
      | succ i => exact vals_at (xs := xs) r2 (by simpa using h)
theorem call_minT (hc : X.calm = true) (hu : X.A.units + 64 < cLine) : CallR X (.builtin "min") (fun vs H Q => ∃ (a : Addr) (xs : List V) (t : Int × Int × Int) (ts : List (Int × Int × Int)), vs = [V.ref a] ∧ SqL X.K H a xs ∧ DpAll X.K H xs ((t :: ts).map tP) ∧
    ∀ (i : Nat) (x : V), xs[i]? = some x → (t :: ts)[i]? = some (minT t ts) → Q x H) := by
  intro pins s σ H vs us Q I r h
  obtain ⟨a, xs, t, ts, rfl, hs, dp, q⟩ := h
  obtain ⟨its, rv, hl, _⟩ := I.list hs
  rw [Vals.ref1 r]
  obtain ⟨as, ra⟩ := Dp.readsAll I _ _ _ dp rv
  have al : PySem.W.AlikeAll (tP t :: ts.map tP) := by
    refine ⟨fun x hx y hy => ?_, fun x hx => ?_⟩
    · have hx : x ∈ (t :: ts).map tP := hx
      have hy : y ∈ (t :: ts).map tP := hy
      rw [List.mem_map] at hx hy
      obtain ⟨x', _, rfl⟩ := hx
      obtain ⟨y', _, rfl⟩ := hy
      exact alike_tP _ _
    · have hx : x ∈ (t :: ts).map tP := hx
      rw [List.mem_map] at hx
      obtain ⟨x', _, rfl⟩ := hx
      intro h; cases h
  have dd : PyData.depthAll (tP t :: ts.map tP) ≤ 5 := by
    have := (shps_can (tD_shps (t :: ts))).2
    rw [toPys_tD] at this
    exact this
  refine PySem.W.min_list_data (x := tP t) (xs := ts.map tP) (as := as) (I.ok.hd hc) hl.isList (by simpa using ra) al (by omega) fun i v h' tk bs hv rd hk => ?_
  have hv' : its[i]? = some v := by simpa using hv
  obtain ⟨x, hx, rx⟩ := vals_at rv hv'
  obtain ⟨bs2, r0, hi, _, _⟩ := PySem.W.readsAll_at ra i v hv'
  have e := (reads_det (fun b o hb _ => hk b o hb) r0 rd).1
  rw [minD_tP] at e
  refine ⟨x, H, I.kept hk, rx, q i x hx ?_⟩
  have hi2 : i < (t :: ts).length := by simpa using hi
  have e2 : ((t :: ts).map tP).getD i .none = tP ((t :: ts)[i]) := by
    rw [List.getD_eq_getElem?_getD, List.getElem?_map, List.getElem?_eq_getElem hi2]
    rfl
  have e3 : tP (minT t ts) = tP ((t :: ts)[i]) := by rw [← e2]; exact e
  rw [List.getElem?_eq_getElem hi2, tP_inj e3]
theorem cr_maxT (hc : X.calm = true) : CallR X (.builtin "max") (rMaxT X.K) := by
  intro pins s σ H vs us Q I r h
  obtain ⟨a, ns, rfl, hs, hne, q⟩ := h
  obtain ⟨its, rv, hl, _⟩ := I.tuple hs
  rw [Vals.ref1 r]
  exact max_rawT (I.ok.hd hc) hl rv.ints hne fun h' tk m t' hk h1 h2 => ⟨.int _, H, I.kept hk, ⟨_, rfl⟩, q m h1 h2⟩
theorem cr_minT (hc : X.calm = true) : CallR X (.builtin "min") (rMinT X.K) := by
  intro pins s σ H vs us Q I r h
  obtain ⟨a, ns, rfl, hs, hne, q⟩ := h
  obtain ⟨its, rv, hl, _⟩ := I.tuple hs
  rw [Vals.ref1 r]
  exact min_rawT (I.ok.hd hc) hl rv.ints hne fun h' tk m t' hk h1 h2 => ⟨.int _, H, I.kept hk, ⟨_, rfl⟩, q m h1 h2⟩
end
/-! ### the greatest, the least, sorted -/
theorem maxL_mem : ∀ (ns : List Int) (m : Int), maxL m ns ∈ m :: ns ∧ ∀ y ∈ m :: ns, y ≤ maxL m ns
  | [], m => ⟨List.mem_cons_self, fun y h => by simp at h; subst h; exact Int.le_refl _⟩
  | x :: xs, m => by
    have ih := maxL_mem xs (if x > m then x else m)
    show maxL (if x > m then x else m) xs ∈ m :: x :: xs ∧ ∀ y ∈ m :: x :: xs, y ≤ maxL (if x > m then x else m) xs
    have hle := ih.2 _ List.mem_cons_self
    constructor
    · rcases List.mem_cons.mp ih.1 with h | h
      · rw [h]
        split
        · exact List.mem_cons_of_mem _ List.mem_cons_self
        · exact List.mem_cons_self
      · exact List.mem_cons_of_mem _ (List.mem_cons_of_mem _ h)
    · intro y hy
      rcases List.mem_cons.mp hy with h | h
      · subst h
        refine Int.le_trans ?_ hle
        split <;> omega
      · rcases List.mem_cons.mp h with h | h
        · subst h
          refine Int.le_trans ?_ hle
          split <;> omega
        · exact ih.2 y (List.mem_cons_of_mem _ h)
theorem minL_mem : ∀ (ns : List Int) (m : Int), minL m ns ∈ m :: ns ∧ ∀ y ∈ m :: ns, minL m ns ≤ y
  | [], m => ⟨List.mem_cons_self, fun y h => by simp at h; subst h; exact Int.le_refl _⟩
  | x :: xs, m => by
    have ih := minL_mem xs (if x < m then x else m)
    show minL (if x < m then x else m) xs ∈ m :: x :: xs ∧ ∀ y ∈ m :: x :: xs, minL (if x < m then x else m) xs ≤ y
    have hle := ih.2 _ List.mem_cons_self
    constructor
    · rcases List.mem_cons.mp ih.1 with h | h
      · rw [h]
        split
        · exact List.mem_cons_of_mem _ List.mem_cons_self
        · exact List.mem_cons_self
      · exact List.mem_cons_of_mem _ (List.mem_cons_of_mem _ h)
    · intro y hy
      rcases List.mem_cons.mp hy with h | h
      · subst h
        refine Int.le_trans hle ?_
        split <;> omega
      · rcases List.mem_cons.mp h with h | h
        · subst h
          refine Int.le_trans hle ?_
          split <;> omega
        · exact ih.2 y (List.mem_cons_of_mem _ h)
theorem insI_perm (x : Int) : ∀ ys : List Int, (insI x ys).Perm (x :: ys)
  | [] => List.Perm.refl _
  | y :: ys => by
    unfold insI
    split
    · exact List.Perm.refl _
    · exact ((insI_perm x ys).cons y).trans (List.Perm.swap x y ys)
theorem sortI_perm : ∀ ys : List Int, (sortI ys).Perm ys
  | [] => List.Perm.refl _
  | y :: ys => (insI_perm y (sortI ys)).trans ((sortI_perm ys).cons y)
theorem insI_sorted (x : Int) : ∀ ys : List Int, ys.Pairwise (· ≤ ·) → (insI x ys).Pairwise (· ≤ ·)
  | [], _ => List.pairwise_singleton _ _
  | y :: ys, h => by
    unfold insI
    rw [List.pairwise_cons] at h
    split
    · rename_i hx
      rw [List.pairwise_cons]
      refine ⟨fun z hz => ?_, List.pairwise_cons.mpr h⟩
      rcases List.mem_cons.mp hz with e | e
      · rw [e]; exact hx
      · exact Int.le_trans hx (h.1 z e)
    · rename_i hx
      rw [List.pairwise_cons]
      refine ⟨fun z hz => ?_, insI_sorted x ys h.2⟩
      rcases List.mem_cons.mp ((insI_perm x ys).mem_iff.mp hz) with e | e
      · rw [e]; omega
      · exact h.1 z e
theorem sortI_sorted : ∀ ys : List Int, (sortI ys).Pairwise (· ≤ ·)
  | [] => List.Pairwise.nil
  | y :: ys => insI_sorted y _ (sortI_sorted ys)

/-! ### numbers as texts -/
theorem st_show (i : Int) : (Str.ofString (toString i)) = st (showI i) := by
  rw [Str.ofString_eq_toList]
  rfl
theorem joinL_eq (sep : List Nat) : ∀ ys : List (List Nat), TL.joinL sep ys = Pv.joinL sep ys
  | [] => rfl
  | [_] => rfl
  | x :: y :: r => by
    show x ++ (sep ++ TL.joinL sep (y :: r)) = x ++ sep ++ Pv.joinL sep (y :: r)
    rw [joinL_eq sep (y :: r), List.append_assoc]
theorem join_st (sep : List Nat) (ys : List (List Nat)) : Txt.join (st sep) (ys.map st) = st (Pv.joinL sep ys) := by
  rw [TL.join_eq]
  apply TL.ext_tl
  rw [TL.tl_join, List.map_map]
  have : (TL.tl ∘ st) = id := rfl
  rw [this, List.map_id, joinL_eq]
theorem total_len : ∀ ys : List (List Nat), ((ys.map st).map (·.length)).sum ≤ totalLen ys
  | [] => Nat.le_refl _
  | y :: ys => by
    have ih := total_len ys
    unfold totalLen at ih ⊢
    rw [List.map_cons, List.map_cons, List.map_cons, List.sum_cons, List.sum_cons, st_len]
    omega

/-! ### built-in functions by name -/
def bltV : Bl → Value
  | .len => .builtin "len"
  | .max => .builtin "max"
  | .min => .builtin "min"
  | .abs => .builtin "abs"
  | .sum => .builtin "sum"
  | .sorted => .builtin "sorted"
  | .int => .type "int"
  | .str => .type "str"
  | .list => .type "list"
  | .tuple => .type "tuple"
  | .join => .none
  | .split => .none
  | .strip => .none
  | .index => .none
  | .count => .none
  | .any => .builtin "any"
section
variable {X : Cx} {d : D} {ds : List D}
theorem reps1 {K : PySem.W.Frag} {H : Hp} {x : D} {vs : List V} (h : Reps K H [x] vs) : ∃ v, vs = [v] ∧ Rep K H x v := by
  obtain ⟨y, ys, e, h1, h2⟩ := h
  cases (show ys = [] from h2)
  exact ⟨y, e, h1⟩
theorem reps2 {K : PySem.W.Frag} {H : Hp} {x y : D} {vs : List V} (h : Reps K H [x, y] vs) : ∃ v u, vs = [v, u] ∧ Rep K H x v ∧ Rep K H y u := by
  obtain ⟨v, ys, e, h1, h2⟩ := h
  obtain ⟨u, rfl, h3⟩ := reps1 h2
  exact ⟨v, u, e, h1, h3⟩
theorem reps3 {K : PySem.W.Frag} {H : Hp} {x y z : D} {vs : List V} (h : Reps K H [x, y, z] vs) : ∃ v u w, vs = [v, u, w] ∧ Rep K H x v ∧ Rep K H y u ∧ Rep K H z w := by
  obtain ⟨v, ys, e, h1, h2⟩ := h
  obtain ⟨u, w, rfl, h3, h4⟩ := reps2 h2
  exact ⟨v, u, w, e, h1, h3, h4⟩
theorem reps_at {K : PySem.W.Frag} {H : Hp} : ∀ {ds : List D} {vs : List V} {i : Nat} {d : D}, Reps K H ds vs → ds[i]? = some d → ∃ v, vs[i]? = some v ∧ Rep K H d v
  | [], vs, i, d, _, h => by simp at h
  | x :: xs, vs, i, d, r, h => by
    obtain ⟨v, ys, rfl, h1, h2⟩ := r
    cases i with
    | zero => simp at h; subst h; exact ⟨v, rfl, h1⟩
    | succ i => exact reps_at (ds := xs) (i := i) h2 (by simpa using h)
theorem reps_bls {K : PySem.W.Frag} {H : Hp} : ∀ {ds : List D} {vs : List V} {bs : List Bool}, blsOf ds = some bs → Reps K H ds vs → vs = bs.map V.bl
  | [], _, _, h, r => by cases h; exact r
  | d :: ds, _, bs, h, ⟨y, ys, e, h1, r⟩ => by
    subst e
    cases d with
    | bl b =>
      cases hi : blsOf ds with
      | none => rw [blsOf, hi] at h; cases h
      | some cs =>
        rw [blsOf, hi] at h
        cases h
        cases (show y = V.bl b from h1)
        rw [reps_bls hi r]
        rfl
    | _ => cases h
/-- a new list of a call -/
theorem blt_new {b : Bl} (hu : X.A.units + 64 < cLine) (hb : b = .list ∨ b = .sorted) (h : blt b ds = .ok (.lst es)) : ∃ r, CallR X (bltV b) r ∧ RCN X.K r ds es := by
  rcases hb with rfl | rfl
  · match ds, h with
    | [.lst xs], h =>
      cases h
      refine ⟨_, call_list_of, fun G H us rr e Q q => ?_⟩
      obtain ⟨v, rfl, r⟩ := reps1 rr
      obtain ⟨a, vs, rfl, h1, q1⟩ := r
      exact ⟨a, vs, rfl, .inl (.of (e.at h1 rfl)), fun p hp => q p vs G _ hp (Step.newH e hp) (ex_none e hp) upd_same q1⟩
    | [.tup xs], h =>
      cases h
      refine ⟨_, call_list_of, fun G H us rr e Q q => ?_⟩
      obtain ⟨v, rfl, r⟩ := reps1 rr
      obtain ⟨a, vs, rfl, h1, q1⟩ := r
      exact ⟨a, vs, rfl, .inr (ex_t e h1), fun p hp => q p vs G _ hp (Step.newH e hp) (ex_none e hp) upd_same q1⟩
  · match ds, h with
    | [.lst xs], h =>
      have h : (match Pv.intsOf xs with
        | some ns => .ok (D.lst ((sortI ns).map D.int))
        | none => R.when (sortable xs = true) (.ok (.lst (xs.mergeSort leD)))) = R.ok (D.lst es) := h
      cases hi : Pv.intsOf xs with
      | none =>
        rw [hi] at h
        obtain ⟨so, h⟩ := R.when_ok h
        cases h
        refine ⟨_, call_sortD hu, fun G H us rr e Q q => ?_⟩
        obtain ⟨v, rfl, r⟩ := reps1 rr
        obtain ⟨a, vs, rfl, h1, q1⟩ := r
        refine ⟨a, vs, xs, rfl, .of (e.at h1 rfl), q1.ex e, so, fun ps p hm hs hn => ?_⟩
        have zr := zip_reps (ps := ps) fun q hq => (reps_zip q1).1 q (hm q hq)
        rw [hs] at zr
        exact q p _ G _ hn (Step.newH e hn) (ex_none e hn) upd_same zr
      | some ns =>
        rw [hi] at h
        cases h
        refine ⟨_, cr_sortedI, fun G H us rr e Q q => ?_⟩
        obtain ⟨v, rfl, r⟩ := reps1 rr
        obtain ⟨a, vs, rfl, h1, q1⟩ := r
        have := q1.ints hi
        subst this
        refine ⟨a, ns, rfl, .of (e.at h1 rfl), fun ns' p hp hs hn => ?_⟩
        have := PySem.W.ksm_same (hp.trans (sortI_perm ns).symm) hs (sortI_sorted ns)
        subst this
        exact q p _ G _ hn (Step.newH e hn) (ex_none e hn) upd_same Reps.int
theorem RCN.toD {K : PySem.W.Frag} {r : List V → Hp → VK → Prop} {xs ds : List D} (h : RCN K r xs ds) : RC K r xs (.lst ds) := fun G H us rs e Q q => h G H us rs e Q (q.toN e)
/-- sum(t) of a tuple of ints -/
def rSumT (K : PySem.W.Frag) : List V → Hp → VK → Prop := fun vs H Q => ∃ (a : Addr) (ns : List Int), vs = [V.ref a] ∧ SqT K H a (ns.map V.int) ∧ Q (.int ns.sum) H
theorem cr_sumT {X : Cx} (hc : X.calm = true) : CallR X (.builtin "sum") (rSumT X.K) := by
  intro pins s σ H vs us Q I r ⟨a, ns, e0, hs, q⟩
  subst e0
  obtain ⟨its, rv, p, _⟩ := I.tuple hs
  have ht : s.heap.IsTuple a its.toArray := p
  rw [Vals.ref1 r]
  have hi := rv.ints
  obtain ⟨xs, ex⟩ := hi.allInts.items
  have hq : numsOf (intItems xs).toList = ns := by rw [← ex]; exact hi.numsOf
  rw [nums_intItems] at hq
  rw [ex] at ht
  have e : preSum (numAt xs) xs.size = ns.sum := by rw [preSum_eq, List.take_of_length_le (by simp), hq]
  refine PySem.W.ktm_sumG (I.ok.hd hc) ht fun h' tk t' hk => ?_
  rw [e]
  exact ⟨.int ns.sum, H, I.kept hk, ⟨_, rfl⟩, q⟩
theorem dval_eq (s : List Nat) : PySem.NumText.digitsVal s = dval s := by
  unfold PySem.NumText.digitsVal dval
  congr 1
  funext a c
  omega
theorem dig_val {s : List Nat} (h : s.all isDig = true) (hne : s ≠ []) (hl : s.length ≤ 4300) : PySem.intText? (st s) = some ((dval s : Nat) : Int) := by
  rw [← dval_eq]
  exact PySem.intText_digits (x := st s) (fun c hc => by
    have z : (decide (48 ≤ c) && decide (c ≤ 57)) = true := List.all_eq_true.mp h c hc
    simpa using z) hne (by rw [st_len]; exact hl)
theorem blt_ok {b : Bl} (hc : X.calm = true) (hu : X.A.units + 64 < cLine) (hj : isM b = false) (hs : isM b = false) (h : blt b ds = .ok d) : ∃ r, CallR X (bltV b) r ∧ RC X.K r ds d := by
  cases b with
  | join => cases hj
  | split => cases hj
  | strip => cases hj
  | index => cases hj
  | count => cases hj
  | any =>
    match ds, h with
    | [.lst xs], h =>
      have h : ((R.ofO (blsOf xs)).bind fun bs => .ok (D.bl (bs.any id))) = R.ok d := h
      cases hi : blsOf xs with
      | none => rw [hi] at h; cases h
      | some bs =>
        rw [hi] at h
        cases h
        refine ⟨_, cr_any hc, fun G H us rr e Q q => ?_⟩
        obtain ⟨v, rfl, r⟩ := reps1 rr
        obtain ⟨a, vs, rfl, h1, q1⟩ := r
        have := reps_bls hi q1
        subst this
        exact ⟨a, bs, rfl, .of (e.at h1 rfl), q.now e rfl⟩
  | len =>
    match ds, h with
    | [.lst xs], h =>
      cases h
      refine ⟨_, call_len_seq, fun G H us rr e Q q => ?_⟩
      obtain ⟨v, rfl, r⟩ := reps1 rr
      obtain ⟨a, vs, rfl, h1, q1⟩ := r
      exact ⟨a, vs, rfl, .inl (.of (e.at h1 rfl)), by rw [q1.len]; exact q.now e rfl⟩
    | [.tup xs], h =>
      cases h
      refine ⟨_, call_len_seq, fun G H us rr e Q q => ?_⟩
      obtain ⟨v, rfl, r⟩ := reps1 rr
      obtain ⟨a, vs, rfl, h1, q1⟩ := r
      exact ⟨a, vs, rfl, .inr (ex_t e h1), by rw [q1.len]; exact q.now e rfl⟩
    | [.scr xs], h =>
      cases h
      refine ⟨_, call_len_seq, fun G H us rr e Q q => ?_⟩
      obtain ⟨v, rfl, r⟩ := reps1 rr
      obtain ⟨a, rfl, h1⟩ := r
      exact ⟨a, _, rfl, .inl (ex_l e h1), by rw [List.length_map]; exact q.now e rfl⟩
    | [.str s], h =>
      obtain ⟨hl, h⟩ := R.when_ok h
      cases h
      refine ⟨_, call_len_str, fun G H us rr e Q q => ?_⟩
      obtain ⟨v, rfl, r⟩ := reps1 rr
      cases (show v = V.str (st s) from r)
      exact ⟨st s, rfl, by rw [st_len, sizeLine_eq]; exact hl, by rw [st_len]; exact q.now e rfl⟩
  | max =>
    match ds, h with
    | [.int i, .int j], h =>
      cases h
      refine ⟨_, call_max2 hc, fun G H us rr e Q q => ?_⟩
      obtain ⟨v, u, rfl, r1, r2⟩ := reps2 rr
      cases (show v = V.int i from r1)
      cases (show u = V.int j from r2)
      exact ⟨i, j, rfl, q.now e rfl⟩
    | [.int i, .int j, .int k], h =>
      cases h
      refine ⟨_, call_max3 hc, fun G H us rr e Q q => ?_⟩
      obtain ⟨v, u, w, rfl, r1, r2, r3⟩ := reps3 rr
      cases (show v = V.int i from r1)
      cases (show u = V.int j from r2)
      cases (show w = V.int k from r3)
      exact ⟨i, j, k, rfl, q.now e rfl⟩
    | [.tup xs], h =>
      have h : most1 maxL (Pv.intsOf xs) = .ok d := h
      cases hi : Pv.intsOf xs with
      | none => rw [hi] at h; cases h
      | some ns =>
        rw [hi] at h
        cases ns with
        | nil => cases h
        | cons n ns =>
          cases h
          refine ⟨_, cr_maxT hc, fun G H us rr e Q q => ?_⟩
          obtain ⟨v, rfl, r⟩ := reps1 rr
          obtain ⟨a, vs, rfl, h1, q1⟩ := r
          have := q1.ints hi
          subst this
          refine ⟨a, n :: ns, rfl, ex_t e h1, Nat.succ_pos _, fun m hm hle => ?_⟩
          have hq := maxL_mem ns n
          have : m = maxL n ns := Int.le_antisymm (hq.2 m hm) (hle _ hq.1)
          subst this
          exact q.now e rfl
    | [.lst xs], h =>
      have h : most1 maxL (Pv.intsOf xs) = .ok d := h
      cases hi : Pv.intsOf xs with
      | none => rw [hi] at h; cases h
      | some ns =>
        rw [hi] at h
        cases ns with
        | nil => cases h
        | cons n ns =>
          cases h
          refine ⟨_, cr_max hc, fun G H us rr e Q q => ?_⟩
          obtain ⟨v, rfl, r⟩ := reps1 rr
          obtain ⟨a, vs, rfl, h1, q1⟩ := r
          have := q1.ints hi
          subst this
          refine ⟨a, n :: ns, rfl, .of (e.at h1 rfl), Nat.succ_pos _, fun m hm hle => ?_⟩
          have hq := maxL_mem ns n
          have : m = maxL n ns := Int.le_antisymm (hq.2 m hm) (hle _ hq.1)
          subst this
          exact q.now e rfl
  | min =>
    match ds, h with
    | [.int i, .int j], h =>
      cases h
      refine ⟨_, call_min2 hc, fun G H us rr e Q q => ?_⟩
      obtain ⟨v, u, rfl, r1, r2⟩ := reps2 rr
      cases (show v = V.int i from r1)
      cases (show u = V.int j from r2)
      exact ⟨i, j, rfl, q.now e rfl⟩
    | [.tup xs], h =>
      have h : most1 minL (Pv.intsOf xs) = .ok d := h
      cases hi : Pv.intsOf xs with
      | none => rw [hi] at h; cases h
      | some ns =>
        rw [hi] at h
        cases ns with
        | nil => cases h
        | cons n ns =>
          cases h
          refine ⟨_, cr_minT hc, fun G H us rr e Q q => ?_⟩
          obtain ⟨v, rfl, r⟩ := reps1 rr
          obtain ⟨a, vs, rfl, h1, q1⟩ := r
          have := q1.ints hi
          subst this
          refine ⟨a, n :: ns, rfl, ex_t e h1, Nat.succ_pos _, fun m hm hle => ?_⟩
          have hq := minL_mem ns n
          have : m = minL n ns := Int.le_antisymm (hle _ hq.1) (hq.2 m hm)
          subst this
          exact q.now e rfl
    | [.lst xs], h =>
      have h : (match trips xs with
        | some (t :: ts) => Pv.R.ok (tD (minT t ts))
        | _ => most1 minL (Pv.intsOf xs)) = .ok d := h
      split at h
      · rename_i t ts ht
        cases h
        have hx := trips_eq ht
        subst hx
        refine ⟨_, call_minT hc hu, fun G H us rr e Q q => ?_⟩
        obtain ⟨v, rfl, r⟩ := reps1 rr
        obtain ⟨a, vs, rfl, h1, q1⟩ := r
        refine ⟨a, vs, t, ts, rfl, .of (e.at h1 rfl), ?_, fun i x hxi hti => ?_⟩
        · have := Reps.dp (n := 5) (Reps.ex e q1) (tD_shps (t :: ts))
          rw [toPys_tD] at this
          exact this
        · obtain ⟨w, hw, rw_⟩ := reps_at q1 (i := i) (d := tD (minT t ts)) (by rw [List.getElem?_map, hti]; rfl)
          rw [hxi] at hw
          cases hw
          exact q.now e rw_
      have h : most1 minL (Pv.intsOf xs) = .ok d := h
      cases hi : Pv.intsOf xs with
      | none => rw [hi] at h; cases h
      | some ns =>
        rw [hi] at h
        cases ns with
        | nil => cases h
        | cons n ns =>
          cases h
          refine ⟨_, cr_min hc, fun G H us rr e Q q => ?_⟩
          obtain ⟨v, rfl, r⟩ := reps1 rr
          obtain ⟨a, vs, rfl, h1, q1⟩ := r
          have := q1.ints hi
          subst this
          refine ⟨a, n :: ns, rfl, .of (e.at h1 rfl), Nat.succ_pos _, fun m hm hle => ?_⟩
          have hq := minL_mem ns n
          have : m = minL n ns := Int.le_antisymm (hle _ hq.1) (hq.2 m hm)
          subst this
          exact q.now e rfl
  | abs =>
    match ds, h with
    | [.int i], h =>
      cases h
      refine ⟨_, call_abs, fun G H us rr e Q q => ?_⟩
      obtain ⟨v, rfl, r⟩ := reps1 rr
      cases (show v = V.int i from r)
      exact ⟨i, rfl, q.now e rfl⟩
  | sum =>
    match ds, h with
    | [.lst xs], h =>
      have h : ((R.ofO (Pv.intsOf xs)).bind fun ns => .ok (D.int ns.sum)) = R.ok d := h
      cases hi : Pv.intsOf xs with
      | none => rw [hi] at h; cases h
      | some ns =>
        rw [hi] at h
        cases h
        refine ⟨_, cr_sum hc, fun G H us rr e Q q => ?_⟩
        obtain ⟨v, rfl, r⟩ := reps1 rr
        obtain ⟨a, vs, rfl, h1, q1⟩ := r
        have := q1.ints hi
        subst this
        exact ⟨a, ns, rfl, .of (e.at h1 rfl), q.now e rfl⟩
    | [.tup xs], h =>
      have h : ((R.ofO (Pv.intsOf xs)).bind fun ns => .ok (D.int ns.sum)) = R.ok d := h
      cases hi : Pv.intsOf xs with
      | none => rw [hi] at h; cases h
      | some ns =>
        rw [hi] at h
        cases h
        refine ⟨_, cr_sumT hc, fun G H us rr e Q q => ?_⟩
        obtain ⟨v, rfl, r⟩ := reps1 rr
        obtain ⟨a, vs, rfl, h1, q1⟩ := r
        have := q1.ints hi
        subst this
        exact ⟨a, ns, rfl, ex_t e h1, q.now e rfl⟩
  | sorted =>
    match ds, h with
    | [.lst xs], h =>
      have h' := h
      have h : (match Pv.intsOf xs with
        | some ns => .ok (D.lst ((sortI ns).map D.int))
        | none => R.when (sortable xs = true) (.ok (.lst (xs.mergeSort leD)))) = R.ok d := h
      cases hi : Pv.intsOf xs with
      | none =>
        rw [hi] at h
        obtain ⟨so, h⟩ := R.when_ok h
        cases h
        obtain ⟨r, h1, h2⟩ := blt_new (X := X) hu (.inr rfl) h'
        exact ⟨r, h1, h2.toD⟩
      | some ns =>
        rw [hi] at h
        cases h
        obtain ⟨r, h1, h2⟩ := blt_new (X := X) hu (.inr rfl) h'
        exact ⟨r, h1, h2.toD⟩
  | int =>
    match ds, h with
    | [.int i], h =>
      cases h
      refine ⟨_, call_int1, fun G H us rr e Q q => ?_⟩
      obtain ⟨v, rfl, r⟩ := reps1 rr
      cases (show v = V.int i from r)
      exact .inl ⟨i, rfl, q.now e rfl⟩
    | [.bl i], h =>
      cases h
      refine ⟨_, call_int1, fun G H us rr e Q q => ?_⟩
      obtain ⟨v, rfl, r⟩ := reps1 rr
      cases (show v = V.bl i from r)
      exact .inr ⟨i, rfl, q.now e rfl⟩
    | [.str s], h =>
      have h : (if s = [48] then .ok (.int 0) else if s = [49] then .ok (.int 1) else R.when (s ≠ [] ∧ s.all isDig = true ∧ s.length ≤ 600) (.ok (.int (dval s)))) = R.ok d := h
      split at h
      · rename_i hs
        subst hs
        cases h
        refine ⟨_, call_int_str, fun G H us rr e Q q => ?_⟩
        obtain ⟨v, rfl, r⟩ := reps1 rr
        cases (show v = V.str (st [48]) from r)
        exact ⟨_, 0, rfl, by decide +kernel, by decide +kernel, q.now e rfl⟩
      · split at h
        · rename_i hs
          subst hs
          cases h
          refine ⟨_, call_int_str, fun G H us rr e Q q => ?_⟩
          obtain ⟨v, rfl, r⟩ := reps1 rr
          cases (show v = V.str (st [49]) from r)
          exact ⟨_, 1, rfl, by decide +kernel, by decide +kernel, q.now e rfl⟩
        · obtain ⟨⟨h1, h2, h3⟩, h⟩ := R.when_ok h
          cases h
          refine ⟨_, call_int_str, fun G H us rr e Q q => ?_⟩
          obtain ⟨v, rfl, r⟩ := reps1 rr
          cases (show v = V.str (st s) from r)
          refine ⟨_, _, rfl, dig_val h2 h1 (by omega), by rw [st_len]; omega, q.now e rfl⟩
  | str =>
    match ds, h with
    | [.int i], h =>
      obtain ⟨hc, h⟩ := R.when_ok h
      cases h
      refine ⟨_, call_str_int, fun G H us rr e Q q => ?_⟩
      obtain ⟨v, rfl, r⟩ := reps1 rr
      cases (show v = V.int i from r)
      refine ⟨i, rfl, ?_, by rw [st_show]; exact q.now e rfl⟩
      refine Nat.lt_of_le_of_lt (m := 34) ?_ (by decide)
      by_cases h0 : i.natAbs = 0
      · rw [h0]; decide
      · exact Nat.le_of_lt_succ ((Nat.log2_lt h0).mpr (by have := hc.1; have := hc.2; omega))
  | list =>
    match ds, h with
    | [.lst xs], h =>
      have h' := h
      cases h
      obtain ⟨r, h1, h2⟩ := blt_new (X := X) hu (.inl rfl) h'
      exact ⟨r, h1, h2.toD⟩
    | [.tup xs], h =>
      have h' := h
      cases h
      obtain ⟨r, h1, h2⟩ := blt_new (X := X) hu (.inl rfl) h'
      exact ⟨r, h1, h2.toD⟩
  | tuple =>
    match ds, h with
    | [.lst xs], h =>
      cases h
      refine ⟨_, call_tuple_of, fun G H us rr e Q q => ?_⟩
      obtain ⟨v, rfl, r⟩ := reps1 rr
      obtain ⟨a, vs, rfl, h1, q1⟩ := r
      exact ⟨a, vs, rfl, .inl ⟨.of (e.at h1 rfl), fun p hp => q (.ref p) (upd G p (.tup vs)) _ (Step.new e hp) ⟨p, vs, rfl, st_of upd_same, q1.ex (Ex.new (ex_none e hp))⟩⟩⟩
    | [.tup xs], h =>
      cases h
      refine ⟨_, call_tuple_of, fun G H us rr e Q q => ?_⟩
      obtain ⟨v, rfl, r⟩ := reps1 rr
      obtain ⟨a, vs, rfl, h1, q1⟩ := r
      exact ⟨a, vs, rfl, .inr ⟨ex_t e h1, q.now e ⟨a, vs, rfl, h1, q1⟩⟩⟩

/-! ### the type of data -/
def tyOf : D → String
  | .non => "NoneType"
  | .bl _ => "bool"
  | .int _ => "int"
  | .str _ => "str"
  | .tup _ => "tuple"
  | .lst _ => "list"
  | .scr _ => "list"
  | .cnt _ => "list"
def tyN : Ty → String
  | .int => "int"
  | .bool => "bool"
  | .str => "str"
  | .list => "list"
  | .tuple => "tuple"
theorem kit_tys (t : Ty) (x : D) (hx : ∀ ns, x ≠ .scr ns) (hc : ∀ L, x ≠ .cnt L) : kitB (tyOf x) (tyN t) = some (isTy t x) := by
  cases x with
  | scr ns => exact absurd rfl (hx ns)
  | cnt L => exact absurd rfl (hc L)
  | non =>
    cases t
    · exact (by decide +kernel : kitB "NoneType" "int" = some false)
    · exact (by decide +kernel : kitB "NoneType" "bool" = some false)
    · exact (by decide +kernel : kitB "NoneType" "str" = some false)
    · exact (by decide +kernel : kitB "NoneType" "list" = some false)
    · exact (by decide +kernel : kitB "NoneType" "tuple" = some false)
  | bl _ =>
    cases t
    · exact (by decide +kernel : kitB "bool" "int" = some true)
    · exact (by decide +kernel : kitB "bool" "bool" = some true)
    · exact (by decide +kernel : kitB "bool" "str" = some false)
    · exact (by decide +kernel : kitB "bool" "list" = some false)
    · exact (by decide +kernel : kitB "bool" "tuple" = some false)
  | int _ =>
    cases t
    · exact (by decide +kernel : kitB "int" "int" = some true)
    · exact (by decide +kernel : kitB "int" "bool" = some false)
    · exact (by decide +kernel : kitB "int" "str" = some false)
    · exact (by decide +kernel : kitB "int" "list" = some false)
    · exact (by decide +kernel : kitB "int" "tuple" = some false)
  | str _ =>
    cases t
    · exact (by decide +kernel : kitB "str" "int" = some false)
    · exact (by decide +kernel : kitB "str" "bool" = some false)
    · exact (by decide +kernel : kitB "str" "str" = some true)
    · exact (by decide +kernel : kitB "str" "list" = some false)
    · exact (by decide +kernel : kitB "str" "tuple" = some false)
  | tup _ =>
    cases t
    · exact (by decide +kernel : kitB "tuple" "int" = some false)
    · exact (by decide +kernel : kitB "tuple" "bool" = some false)
    · exact (by decide +kernel : kitB "tuple" "str" = some false)
    · exact (by decide +kernel : kitB "tuple" "list" = some false)
    · exact (by decide +kernel : kitB "tuple" "tuple" = some true)
  | lst _ =>
    cases t
    · exact (by decide +kernel : kitB "list" "int" = some false)
    · exact (by decide +kernel : kitB "list" "bool" = some false)
    · exact (by decide +kernel : kitB "list" "str" = some false)
    · exact (by decide +kernel : kitB "list" "list" = some true)
    · exact (by decide +kernel : kitB "list" "tuple" = some false)
theorem tyX {K : PySem.W.Frag} {G H : Hp} {x : D} {v : V} (r : Rep K G x v) (e : Ex G H) (hx : ∀ ns, x ≠ .scr ns) (hc : ∀ L, x ≠ .cnt L) : TyX K H v (.type (tyOf x)) ∨ ∃ a xs, v = .ref a ∧ SqT K H a xs := by
  cases x with
  | non => cases (show v = V.non from r); exact .inl (.base .non)
  | bl b => cases (show v = V.bl b from r); exact .inl (.base (.bl b))
  | int b => cases (show v = V.int b from r); exact .inl (.base (.int b))
  | str b => cases (show v = V.str (st b) from r); exact .inl (.base (.str _))
  | tup ds =>
    obtain ⟨a, xs, rfl, h, _⟩ := r
    exact .inr ⟨a, xs, rfl, ex_t e h⟩
  | lst ds =>
    obtain ⟨a, xs, rfl, h, _⟩ := r
    exact .inl (.base (.lst (e.at h rfl)))
  | scr ns => exact absurd rfl (hx ns)
  | cnt L => exact absurd rfl (hc L)
end
/-! ### splitting at a sign -/
theorem splitL_none {c : Nat} : ∀ {p : List Nat}, c ∉ p → splitL c p = [p]
  | [], _ => rfl
  | x :: p, h => by
    simp at h
    have ih := splitL_none (c := c) (p := p) h.2
    unfold splitL
    rw [if_neg (fun e => h.1 e.symm), ih]
theorem splitL_app {c : Nat} {t : List Nat} : ∀ {p : List Nat}, c ∉ p → splitL c (p ++ c :: t) = p :: splitL c t
  | [], _ => by
    show splitL c (c :: t) = _
    rw [splitL, if_pos rfl]
  | x :: p, h => by
    simp at h
    have ih := splitL_app (c := c) (t := t) (p := p) h.2
    rw [List.cons_append, splitL, if_neg (fun e => h.1 e.symm), ih]
theorem splitL_join {c : Nat} : ∀ {ps : List (List Nat)}, ps ≠ [] → (∀ p ∈ ps, c ∉ p) → splitL c (joinL [c] ps) = ps
  | [], h, _ => absurd rfl h
  | [p], _, h => splitL_none (h p (by simp))
  | p :: q :: r, _, h => by
    have ih := splitL_join (c := c) (ps := q :: r) (by simp) fun x hx => h x (by simp at hx ⊢; right; exact hx)
    show splitL c (p ++ [c] ++ joinL [c] (q :: r)) = _
    rw [List.append_assoc, List.singleton_append, splitL_app (h p (by simp)), ih]
theorem split_st (s : List Nat) (c : Nat) : Txt.split (st s) (st [c]) = (splitL c s).map st := by
  have hj := StrLaws.join_split (st s) (st [c])
  have hf := StrLaws.split_free (st s) c
  have hp := PyProof.Rows.split_pos (st s) (st [c])
  obtain ⟨ps, hps⟩ : ∃ ps : List (List Nat), Txt.split (st s) (st [c]) = ps.map st := ⟨(Txt.split (st s) (st [c])).map fun x => x.cps.toList, by
    rw [List.map_map]
    conv => lhs; rw [← List.map_id (Txt.split (st s) (st [c]))]
    apply List.map_congr_left
    intro x _
    apply Str.ext'
    simp [st]⟩
  rw [hps] at hj hp ⊢
  have hj2 : Txt.join (st [c]) (ps.map st) = st s := by
    rw [← hj]
    exact StrLaws.glued_eq_join _ _
  rw [join_st] at hj2
  have e : Pv.joinL [c] ps = s := by
    have := congrArg (fun x : Str => x.cps.toList) hj2
    simpa [st] using this
  have ne : ps ≠ [] := fun h => by rw [h] at hp; simp at hp
  have cl : ∀ p ∈ ps, c ∉ p := fun p hp' => by
    have hst : (st [c] : Str) = ⟨#[c]⟩ := rfl
    rw [hst] at hps
    have := hf (st p) (by rw [hps]; exact List.mem_map.mpr ⟨p, hp', rfl⟩)
    simpa [st] using this
  congr 1
  rw [← e]
  exact (splitL_join ne cl).symm
end Pv

end
section
/-! Ev4: enumerate over a text; a text turned round. -/
namespace Pv
open PySem PySem.Spec PyProof.Rows L2 PySem.W
variable [Tabs]

set_option maxHeartbeats 4000000 in
theorem meets_enumerate_new1 {v : Value} {o : Obj} {H : Heap → Prop} (B : Begins v o H) :
    Meets (Builtin.«enumerate.__new__» ⟨[.type "enumerate", v], []⟩) (fun _ R s => H s.heap ∧
      R (.ok (.ret (.ref (s.heap.push o).objs.size))) { s with heap := (s.heap.push o).push { cls := .type "enumerate", data := .fields #[.none, .bool false, .ref s.heap.objs.size, rawInt 0, .none, .none] } }) :=
  .of_wp fun prog w A R s h => by
    obtain ⟨hp, g, d, tk, os⟩ := s; obtain ⟨h1, h⟩ := h
    have hsub := PySem.sub_enumerate
    have q1 : ∀ {A' : Around} {E : Value → Shared → Prop} {Q : Value → Shared → Prop}, Q (.ref hp.objs.size) ⟨hp.push o, g, d, tk, os⟩ → wpAny (model prog w) A' (pyIter v) Q E ⟨hp, g, d, tk, os⟩ :=
      fun q => B.iter prog w _ _ ⟨hp, g, d, tk, os⟩ _ h1 q
    wp_walk using q1
    refine wpAny_stack_any fun st => wpAny_pure ?_
    split
    · rename_i c _ _ _ _ _
      cases (c == Value.type "enumerate")
      · wp_walk using q1
        exact ⟨_, rfl, h⟩
      · wp_walk using q1
        exact ⟨_, rfl, h⟩
    · wp_walk using q1
      exact ⟨_, rfl, h⟩
theorem enum_begins1 {prog : Program} {w : World} {A : Around} {E : Value → Shared → Prop} {s : Shared} {v : Value} {o : Obj} {H : Heap → Prop} {Q : Value → Shared → Prop} (B : Begins v o H) (h1 : H s.heap)
    (h : ∀ h', IsEnum h' (s.heap.objs.size + 1) s.heap.objs.size 0 .none → h'.get? s.heap.objs.size = some o → h'.objs.size = s.heap.objs.size + 2 →
      (∀ b o, s.heap.get? b = some o → h'.get? b = some o) → Q (.ref (s.heap.objs.size + 1)) { s with heap := h' }) :
    wpAny (model prog w) A (call (.type "enumerate") [v]) Q E s := by
  refine callType_new F.called_enumerate (by decide) (F.typeCall_enumerate_1 _) (F.newCall_enumerate_1 _) (fun obj => F.args_object_init_2 obj _) F.entry_enumerate_new
    (meets_enumerate_new1 B) ⟨h1, ?_⟩
  have hz : (s.heap.push o).objs.size = s.heap.objs.size + 1 := Heap.size_push ..
  show _ ∧ _
  rw [hz]
  have he : IsEnum ((s.heap.push o).push { cls := .type "enumerate", data := .fields #[.none, .bool false, .ref s.heap.objs.size, rawInt 0, .none, .none] }) (s.heap.objs.size + 1) s.heap.objs.size 0 .none := by
    have := Heap.get?_push_size (s.heap.push o) (o := { cls := .type "enumerate", data := .fields #[.none, .bool false, .ref s.heap.objs.size, rawInt 0, .none, .none] }) rfl
    rw [hz] at this; exact this
  refine ⟨⟨_, he, rfl⟩, h _ he (Heap.get?_push_of_some _ (Heap.get?_push_size _ B.free)) (by rw [Heap.size_push, hz]) fun b o x => Heap.get?_push_of_some _ (Heap.get?_push_of_some _ x)⟩

/-- a text's signs, each in a new pair -/
def Ites (x : Str) : It :=
  ⟨fun i _ => i < x.cps.size, fun i H v H' => ∃ T c, v = .ref T ∧ H T = none ∧ H' = upd H T (.tup [.int (i : Nat), .str ⟨#[c]⟩]) ∧ x.cps[i]? = some c, fun i _ => x.cps.size ≤ i⟩
theorem draws_str {prog : Program} {w : World} {A : Around} (hh : A.handled = none) (it : Addr) (x : Str) (t : Tok) (ty : String) (hty : ty = "str_ascii_iterator" ∨ ty = "str_iterator") :
    Draws prog w A it [it] x.cps.size (fun i v => ∃ c u, x.cps[i]? = some c ∧ v = .str ⟨#[c]⟩ u) (fun i h => h.IsStrIter it ty x t i) := by
  rcases hty with e | e
  · rw [e]; exact Draws.strAscii hh it x t
  · rw [e]; exact Draws.strWide hh it x t
theorem str_end {prog : Program} {w : World} {A : Around} (hh : A.handled = none) {E : Value → Shared → Prop} {s : Shared} {e it : Addr} {x : Str} {t : Tok} {ty : String} {i : Nat} {old : Value} {Q : Option Value → Shared → Prop} (hty : ty = "str_ascii_iterator" ∨ ty = "str_iterator")
    (he : IsEnum s.heap e it (i : Int) old) (hst : s.heap.IsStrIter it ty x t i) (hi : i = x.cps.size)
    (hQ : ∀ h', Heap.ExtBut it s.heap h' → Q none { s with heap := h' }) : wpAny (model prog w) A (pyNext (.ref e)) Q E s := by
  subst hi
  exact wpAny_pyNext_enum_endD (draws_str (A := A.in1) hh it x t ty hty) he hst hQ
theorem turn_enumS {P : Program} {w : World} {K : PySem.W.Frag} {elts : List Expr} {kk : Nat} {tpos : Pos} (e it : Addr) (x : Str) (t : Tok) (ty : String) (hty : ty = "str_ascii_iterator" ∨ ty = "str_iterator") :
    Turn P w K (.Tuple elts kk tpos) (Ites x) [e, it] e (fun i h => (∃ old, IsEnum h e it ((i : Nat) : Int) old) ∧ h.IsStrIter it ty x t i ∧ e ≠ it ∧ i ≤ x.cps.size) where
  mem := by simp
  obj := fun i h st b hb => by
    obtain ⟨⟨old, he⟩, ⟨o, ho, hc, hd⟩, _⟩ := st
    have e' : b = e ∨ b = it := by simpa using hb
    rcases e' with z | z
    · rw [z]; exact ⟨_, he, fun v q => nomatch q⟩
    · rw [z]; exact ⟨o, ho, fun v q => by rw [hd] at q; cases q⟩
  keep := fun i h h' st k => let ⟨⟨old, he⟩, ⟨o, ho, r⟩, hne, hi⟩ := st; ⟨⟨old, k e (by simp) _ he⟩, ⟨o, k it (by simp) o ho, r⟩, hne, hi⟩
  item := by
    intro X hP hw hK hc i pins s σ H E I hf st hg
    subst hP hw hK
    obtain ⟨⟨old, he⟩, hit, hne, _⟩ := st
    have hel : e < s.heap.objs.size := Heap.lt_size he
    have hil : it < s.heap.objs.size := by obtain ⟨_, q, _⟩ := hit; exact Heap.lt_size q
    refine wpAny_pyNext_enum_itemD (draws_str (A := X.A.in1) (I.ok.hd hc) it x t ty hty) he hit hg hne (by simpa using hne) fun u h' tk hP ho hit' hT hsz hk => ?_
    obtain ⟨c, tu, hcx, rfl⟩ := hP
    refine ⟨_, rfl, wpAny_letOwnedTupleGo_enum (s := { s with heap := h', toks := tk + 1 }) ho fun h'' he' sb => ?_⟩
    have hT2 : h''.get? s.heap.objs.size = some { cls := .type "tuple", data := .seq #[.int i tk, .str ⟨#[c]⟩ tu] } := (sb.2 _ (Nat.ne_of_gt hel)).trans hT
    have new : ObjOk X.prog X.w (upd H s.heap.objs.size (.tup [.int (i : Nat), .str ⟨#[c]⟩])) h'' s.heap.objs.size (.tup [.int (i : Nat), .str ⟨#[c]⟩]) :=
      ⟨by show 2 ≤ sizeLine; decide, [.int i tk, .str ⟨#[c]⟩ tu], .cons ⟨_, rfl⟩ (.cons ⟨_, rfl⟩ .nil), ⟨_, hT2, rfl, _, rfl⟩⟩
    have I1 : Inv X pins σ (upd H s.heap.objs.size (.tup [.int (i : Nat), .str ⟨#[c]⟩])) { s with heap := h'', toks := tk + 1 } :=
      I.turnedNew (ch := [e, it]) (fun b ob hb q => (sb.2 b (fun z => hb (by simp [z]))).trans (hk b ob (fun z => hb (by simp [z])) (fun z => hb (by simp [z])) q)) hf (Nat.le_refl _) new
    obtain ⟨oi, hoi, hci, hdi⟩ := hit'
    refine ⟨.ref s.heap.objs.size, _, I1, rfl, ⟨_, c, rfl, I.hok.fresh (Nat.le_refl _), rfl, hcx⟩, ⟨⟨.str ⟨#[c]⟩ tu, ?_⟩, ⟨oi, (sb.2 it (Ne.symm hne)).trans hoi, hci, hdi⟩, hne, hg⟩, fun b hb => ?_⟩
    · have e1 : ((i + 1 : Nat) : Int) = (i : Int) + 1 := by omega
      rw [e1]; exact he'
    · have hb' : b < s.heap.objs.size := by
        have e' : b = e ∨ b = it := by simpa using hb
        rcases e' with z | z
        · rw [z]; exact hel
        · rw [z]; exact hil
      rw [upd_ne (Nat.ne_of_lt hb')]
      exact (hf b hb).1
  done := by
    intro X hP hw hK hc i pins s σ H E I hf st hg
    subst hP hw hK
    obtain ⟨⟨old, he⟩, hit, hne, hi⟩ := st
    obtain ⟨f0, f1, f2, f3, f4, f5⟩ := hf it (by simp)
    exact str_end (I.ok.hd hc) hty he hit (Nat.le_antisymm hi hg) fun h' eb => ⟨rfl, I.turned (t' := s.toks) (fun b o hb q => eb b o hb q) f0 f1 f3 f4 f5⟩
  self := fun A i s Q E st h => let ⟨⟨_, he⟩, _⟩ := st; wpAny_pyIter_enum he h
def iEnumS (ta : TA) : TI := fun σ H R => ta σ H fun vs H1 => ∃ x, vs = [.str x] ∧ R (Ites x) H1
theorem strIterType_or (x : Str) : strIterType x = "str_ascii_iterator" ∨ strIterType x = "str_iterator" := by
  unfold strIterType
  split
  · exact .inl rfl
  · exact .inr rfl
theorem pi_enumS {X : Cx} {e : Expr} {ta : TA} {p pos tpos : Pos} {elts : List Expr} {kk : Nat} (hg : Gl X "enumerate") (hm : X.mg "enumerate" = none) (ha : PA X [e] ta) (hs : starEach [e] X.env = [(false, eval e X.env)] := by rfl) :
    PI X (.Tuple elts kk tpos) (.Call (.Name "enumerate" p) [e] [] pos) (iEnumS ta) := by
  refine ⟨fun pins s σ H R I h => ?_⟩
  refine Call_ (ld_blt I hg hm boot_enumerate (PyProof.Rows.callWith_type1 (thn (ha.run pos pins s σ H _ I h) fun us s1 ⟨vs, H1, I1, r1, q1⟩ => ?_) hs rfl))
  obtain ⟨x, ex, q⟩ := q1
  subst ex
  cases r1 with
  | cons r rr =>
    cases rr
    obtain ⟨t, rfl⟩ := r
    refine enum_begins1 (PySem.begins_text x t) True.intro fun h' he hit hsz hk => wpAny_pyIter_enum he ?_
    have I2 : Inv X pins σ H1 { s1 with heap := h' } := I1.kept (t' := s1.toks) hk
    refine ⟨s1.heap.objs.size + 1, [s1.heap.objs.size + 1, s1.heap.objs.size], _, _, H1, rfl, I2, turn_enumS (s1.heap.objs.size + 1) s1.heap.objs.size x t (strIterType x) (strIterType_or x), ⟨⟨.none, he⟩, ⟨_, hit, rfl, rfl⟩, Nat.succ_ne_self _, Nat.zero_le _⟩, fun b hb => ?_, q⟩
    have e' : b = s1.heap.objs.size + 1 ∨ b = s1.heap.objs.size := by simpa using hb
    have hle : s1.heap.objs.size ≤ b := by
      rcases e' with z | z
      · rw [z]; exact Nat.le_add_right _ _
      · rw [z]; exact Nat.le_refl _
    exact I1.fpOk hle (I1.hok.fresh hle)

theorem tup_end {prog : Program} {w : World} {A : Around} (hh : A.handled = none) {E : Value → Shared → Prop} {s : Shared} {e it a : Addr} {items : Array Value} {i : Nat} {old : Value} {Q : Option Value → Shared → Prop}
    (he : IsEnum s.heap e it (i : Int) old) (hst : s.heap.IsTupleIter it a i) (ht : s.heap.IsTuple a items) (hi : items.size ≤ i)
    (hQ : ∀ h', Heap.ExtBut it s.heap h' → Q none { s with heap := h' }) : wpAny (model prog w) A (pyNext (.ref e)) Q E s :=
  wpAny_pyNext_enum_endD (n := i) (fp := [it, a]) (P := fun _ _ => False) (St := fun j h => j = i ∧ h.IsTupleIter it a i ∧ h.IsTuple a items)
    { live := fun _ _ st => let ⟨o, ho, _⟩ := st.2.1; ⟨o, ho⟩
      frame := fun _ _ _ st hk => ⟨st.1, st.2.1.at fun o q => hk it (by simp) o q, st.2.2.at fun o q => hk a (by simp) o q⟩
      item := fun j s Q E hj st _ => absurd st.1 (Nat.ne_of_lt hj)
      done := fun s Q E st hE => wpAny_nextOf_tuple_end (show A.in1.handled = none from hh) st.2.1 st.2.2 (by simp; omega) hE }
    he ⟨rfl, hst, ht⟩ hQ
/-- a tuple's items, each in a new pair -/
def Itet (K : PySem.W.Frag) (a : Addr) : It :=
  ⟨fun i H => ∃ (xs : List V) (x : V), SqT K H a xs ∧ xs[i]? = some x, fun i H v H' => ∃ T x, v = .ref T ∧ H T = none ∧ H' = upd H T (.tup [.int (i : Nat), x]) ∧ ∀ xs, SqT K H a xs → xs[i]? = some x, fun i H => ∃ xs : List V, SqT K H a xs ∧ xs.length ≤ i⟩
theorem turn_enumT {P : Program} {w : World} {K : PySem.W.Frag} {elts : List Expr} {kk : Nat} {tpos : Pos} (a e it : Addr) :
    Turn P w K (.Tuple elts kk tpos) (Itet K a) [e, it] e (fun i h => (∃ old, IsEnum h e it ((i : Nat) : Int) old) ∧ h.IsTupleIter it a i ∧ e ≠ it ∧ e ≠ a ∧ it ≠ a) where
  mem := by simp
  obj := fun i h st b hb => by
    obtain ⟨⟨old, he⟩, ⟨o, ho, hc, hd⟩, _⟩ := st
    have e' : b = e ∨ b = it := by simpa using hb
    rcases e' with z | z
    · rw [z]; exact ⟨_, he, fun v q => nomatch q⟩
    · rw [z]; exact ⟨o, ho, fun v q => by rw [hd] at q; cases q⟩
  keep := fun i h h' st k => let ⟨⟨old, he⟩, hi, hne⟩ := st; ⟨⟨old, k e (by simp) _ he⟩, hi.at fun o q => k it (by simp) o q, hne⟩
  item := by
    intro X hP hw hK hc i pins s σ H E I hf st hg
    subst hP hw hK
    obtain ⟨⟨old, he⟩, hit, hne, hea, hia⟩ := st
    obtain ⟨xs, x, hq, hx⟩ := hg
    obtain ⟨its, rv, p, hz⟩ := I.tuple hq
    obtain ⟨u, hu, ru⟩ := rv.get hx
    have hel : e < s.heap.objs.size := Heap.lt_size he
    have hil : it < s.heap.objs.size := by obtain ⟨_, q, _⟩ := hit; exact Heap.lt_size q
    have hlt : i < its.toArray.size := by
      have := List.getElem?_eq_some_iff.mp hu
      obtain ⟨q, _⟩ := this
      simpa using q
    refine wpAny_pyNext_enum_itemD (PySem.Draws.tuple (A := X.A.in1) (I.ok.hd hc) it a (Ne.symm hia) its.toArray) he ⟨hit, show s.heap.IsTuple a its.toArray from p⟩ hlt hne (by simp [hne, hea]) fun u' h' tk hP ho hit' hT hsz hk => ?_
    have hu' : its.toArray[i]? = some u := by simpa using hu
    cases Option.some.inj (hP.symm.trans hu')
    refine ⟨_, rfl, wpAny_letOwnedTupleGo_enum (s := { s with heap := h', toks := tk + 1 }) ho fun h'' he' sb => ?_⟩
    have hT2 : h''.get? s.heap.objs.size = some { cls := .type "tuple", data := .seq #[.int i tk, u] } := (sb.2 _ (Nat.ne_of_gt hel)).trans hT
    have new : ObjOk X.prog X.w (upd H s.heap.objs.size (.tup [.int (i : Nat), x])) h'' s.heap.objs.size (.tup [.int (i : Nat), x]) :=
      ⟨by show 2 ≤ sizeLine; decide, [.int i tk, u], .cons ⟨_, rfl⟩ (.cons ru .nil), ⟨_, hT2, rfl, _, rfl⟩⟩
    have I1 : Inv X pins σ (upd H s.heap.objs.size (.tup [.int (i : Nat), x])) { s with heap := h'', toks := tk + 1 } :=
      I.turnedNew (ch := [e, it]) (fun b ob hb q => (sb.2 b (fun z => hb (by simp [z]))).trans (hk b ob (fun z => hb (by simp [z])) (fun z => hb (by simp [z])) q)) hf (Nat.le_refl _) new
    refine ⟨.ref s.heap.objs.size, _, I1, rfl, ⟨_, x, rfl, I.hok.fresh (Nat.le_refl _), rfl, fun ys hy => by rw [I.tuple_inj hy hq]; exact hx⟩, ⟨⟨u, ?_⟩, hit'.1.at fun o q => (sb.2 it (Ne.symm hne)).trans q, hne, hea, hia⟩, fun b hb => ?_⟩
    · have e1 : ((i + 1 : Nat) : Int) = (i : Int) + 1 := by omega
      rw [e1]; exact he'
    · have hb' : b < s.heap.objs.size := by
        have e' : b = e ∨ b = it := by simpa using hb
        rcases e' with z | z
        · rw [z]; exact hel
        · rw [z]; exact hil
      rw [upd_ne (Nat.ne_of_lt hb')]
      exact (hf b hb).1
  done := by
    intro X hP hw hK hc i pins s σ H E I hf st hg
    subst hP hw hK
    obtain ⟨⟨old, he⟩, hit, hne, hea, hia⟩ := st
    obtain ⟨xs, hq, hx⟩ := hg
    obtain ⟨its, rv, p, hz⟩ := I.tuple hq
    obtain ⟨f0, f1, f2, f3, f4, f5⟩ := hf it (by simp)
    have hl := rv.length
    exact tup_end (I.ok.hd hc) he hit (show s.heap.IsTuple a its.toArray from p) (by simp; omega) fun h' eb => ⟨rfl, I.turned (t' := s.toks) (fun b o hb q => eb b o hb q) f0 f1 f3 f4 f5⟩
  self := fun A i s Q E st h => let ⟨⟨_, he⟩, _⟩ := st; wpAny_pyIter_enum he h
def iEnumT (K : PySem.W.Frag) (ta : TA) : TI := fun σ H R => ta σ H fun vs H1 => ∃ a xs, vs = [.ref a] ∧ SqT K H1 a xs ∧ R (Itet K a) H1
theorem pi_enumT {X : Cx} {e : Expr} {ta : TA} {p pos tpos : Pos} {elts : List Expr} {kk : Nat} (hg : Gl X "enumerate") (hm : X.mg "enumerate" = none) (ha : PA X [e] ta) (hs : starEach [e] X.env = [(false, eval e X.env)] := by rfl) :
    PI X (.Tuple elts kk tpos) (.Call (.Name "enumerate" p) [e] [] pos) (iEnumT X.K ta) := by
  refine ⟨fun pins s σ H R I h => ?_⟩
  refine Call_ (ld_blt I hg hm boot_enumerate (PyProof.Rows.callWith_type1 (thn (ha.run pos pins s σ H _ I h) fun us s1 ⟨vs, H1, I1, r1, q1⟩ => ?_) hs rfl))
  obtain ⟨a, xs, ex, hq, q⟩ := q1
  subst ex
  cases r1 with
  | cons r rr =>
    cases rr
    cases r
    obtain ⟨its, rv, p', hz⟩ := I1.tuple hq
    have hal : a < s1.heap.objs.size := by obtain ⟨_, q, _⟩ := p'; exact Heap.lt_size q
    refine enum_begins1 (PySem.begins_tuple a its.toArray) (show s1.heap.IsTuple a its.toArray from p') fun h' he hit hsz hk => wpAny_pyIter_enum he ?_
    have I2 : Inv X pins σ H1 { s1 with heap := h' } := I1.kept (t' := s1.toks) hk
    refine ⟨s1.heap.objs.size + 1, [s1.heap.objs.size + 1, s1.heap.objs.size], _, _, H1, rfl, I2, turn_enumT a (s1.heap.objs.size + 1) s1.heap.objs.size, ⟨⟨.none, he⟩, ⟨_, hit, rfl, rfl⟩, Nat.succ_ne_self _, Nat.ne_of_gt (Nat.lt_succ_of_lt hal), Nat.ne_of_gt hal⟩, fun b hb => ?_, q⟩
    have e' : b = s1.heap.objs.size + 1 ∨ b = s1.heap.objs.size := by simpa using hb
    have hle : s1.heap.objs.size ≤ b := by
      rcases e' with z | z
      · rw [z]; exact Nat.le_add_right _ _
      · rw [z]; exact Nat.le_refl _
    exact I1.fpOk hle (I1.hok.fresh hle)

/-! ### s[::-1] -/
def tRevS (te : TE) : TE := fun σ H Q => te σ H fun x H1 => ∃ s : List Nat, x = .str (st s) ∧ s.length ≤ 16777216 ∧ Q (.str (st s.reverse)) H1
theorem picked_rev (s : List Nat) (t : Tok) : (PySem.slicePicked (st s) none none (some (-1, t))).filterMap ((st s).cps[·]?) = s.reverse := by
  have e : PySem.slicePicked (st s) none none (some (-1, t)) = sliceRange (((st s).length : Int) - 1) (-1) (-1) := rfl
  rw [e, krv_sliceRange, krv_range, List.filterMap_reverse]
  have := krv_all (st s).cps
  rw [show (st s).length = (st s).cps.size from rfl, this]
theorem pe_revS {X : Cx} {e : Expr} {te : TE} {k : Nat} {p1 p2 p3 pos : Pos} (he : PE X e te) : PE X (.Subscript e (.Slice none none (some (.UnaryOp .USub (.Constant (.int 1) k p1) p2)) p3) pos) (tRevS te) := by
  refine ⟨fun pins s σ H Q I h => ?_⟩
  refine Subscript_ (thn (he.run pins s σ H _ I h) fun v s1 ⟨x, H1, I1, r1, q1⟩ => ?_)
  obtain ⟨w, ex, hz, q⟩ := q1
  subst ex
  obtain ⟨tk, rfl⟩ := r1
  have hst : PO X (some (.UnaryOp .USub (.Constant (.int 1) k p1) p2)) (tPart (tUn (rU fun i => .int (-i)) (tC (.int 1)))) := po_some (pe_un un_neg pe_int)
  refine wpAny_Slice (thn (po_none.run pins s1 σ H1 (fun o H2 => o = none ∧ H2 = H1) I1 ⟨rfl, rfl⟩) fun vl s2 ⟨l, H2, I2, pl, el, e2⟩ => ?_)
  subst el e2
  refine thn (po_none.run pins s2 σ H2 (fun o H3 => o = none ∧ H3 = H2) I2 ⟨rfl, rfl⟩) fun vu s3 ⟨u, H3, I3, pu, eu, e3⟩ => ?_
  subst eu e3
  refine thn (hst.run pins s3 σ H3 (fun o H4 => o = some (-1) ∧ H4 = H3) I3 ⟨1, rfl, -1, rfl, rfl, rfl⟩) fun vs s4 ⟨o, H4, I4, ps, eo, e4⟩ => ?_
  subst eo e4
  obtain ⟨l1, rfl, hl1⟩ := IsPart.raw pl
  obtain ⟨u1, rfl, hu1⟩ := IsPart.raw pu
  obtain ⟨s1', rfl, hs1⟩ := IsPart.raw ps
  cases l1 with
  | some _ => cases hl1
  | none =>
  cases u1 with
  | some _ => cases hu1
  | none =>
  cases s1' with
  | none => cases hs1
  | some a =>
  obtain ⟨a1, a2⟩ := a
  have ha : a1 = -1 := by simpa using hs1
  subst ha
  have I5 : Inv X pins σ H4 { s4 with heap := s4.heap.push { cls := .type "slice", data := .fields #[PySem.partValue none, PySem.partValue none, PySem.partValue (some (-1, a2))] } } := I4.kept (t' := s4.toks) fun b ob q => Heap.get?_push_of_some _ q
  show wpAny (model X.prog X.w) X.A (subscriptTail e (.Slice none none (some (.UnaryOp .USub (.Constant (.int 1) k p1) p2)) p3) (.str (st w) tk) (.ref s4.heap.objs.size)) (EP X pins σ Q) X.xe _
  refine tail_any (ops := [.str (st w) tk, .ref s4.heap.objs.size]) (typeIs_str _ _ _) (F.slot_str_getitem.lookup) ?_ (by with_unfolding_all rfl)
  refine wpAny_getItem_str_slice (l := none) (u := none) (st := some (-1, a2)) ⟨_, Heap.get?_push_size _ rfl, rfl, rfl⟩ rfl ?_
  unfold PySem.sliceMade
  rw [if_neg (by simp), picked_rev]
  refine ⟨?_, .str _, H4, I5.tok _, ⟨_, rfl⟩, q⟩
  show (st w.reverse).length ≤ sizeLine
  rw [st_len, List.length_reverse, sizeLine_eq]
  exact hz
theorem ed_rev {X : Cx} {e : Expr} {te : TE} {z : Nat → Bool} {ρ : Env} {x d : D} {k : Nat} {p1 p2 p3 pos : Pos} (he : PE X e te) (h : EvD X.K te z ρ x) (hr : revD x = .ok d) :
    EvD X.K (wE X (.Subscript e (.Slice none none (some (.UnaryOp .USub (.Constant (.int 1) k p1) p2)) p3) pos)) z ρ d := by
  cases x with
  | str s =>
    obtain ⟨hz, hr⟩ := R.when_ok hr
    cases hr
    exact EvD.of (pe_revS he) fun G σ H R ex Q q => h G σ H R ex _ fun u G1 H1 s1 r1 => ⟨s, r1, hz, q _ G1 H1 s1 rfl⟩
  | lst xs =>
    cases hr
    refine EvD.of (pe_revL he) fun G σ H R ex Q q => h G σ H R ex _ fun u G1 H1 s1 r1 => ?_
    obtain ⟨a, vs, rfl, h1, q1⟩ := r1
    refine ⟨a, vs, rfl, .of (s1.gh.at h1 rfl), fun p hp => ?_⟩
    have n := ex_none s1.gh hp
    exact q (.ref p) (upd G1 p (.lst vs.reverse)) _ (s1.trans (Step.new s1.gh hp)) ⟨p, _, rfl, upd_same, (q1.rev).ex (Ex.new n)⟩
  | _ => cases hr
end Pv

end
section
/-! Ev5: what is walked, comprehensions. -/
namespace Pv
open PySem PySem.Spec PyProof.Rows L2
variable [Tabs]

section
variable {K : PySem.W.Frag} {G H G' H' G1 H1 G2 H2 : Hp}
theorem Step.upd (s : Step G H G' H') {p : Addr} {o : HO} (h : H p = none) (n : G' p = none) : Step G H G' (upd H' p o) := by
  refine ⟨s.gg, fun a u q => ?_, fun a u q => ?_, s.fr⟩
  · rw [upd_ne (ne_of_none q n)]; exact s.gh a u q
  · rw [upd_ne (ne_of_none q h)]; exact s.hh a u q

/-! ### places -/
theorem rangeD_get (c : Int) : ∀ (n k : Nat) (i : Int), (rangeD i c n)[k]? = if k < n then some (D.int (i + (k : Nat) * c)) else none
  | 0, k, i => by rw [rangeD, if_neg (by omega)]; rfl
  | n + 1, 0, i => by rw [rangeD, if_pos (by omega)]; simp
  | n + 1, k + 1, i => by
    rw [rangeD, List.getElem?_cons_succ, rangeD_get c n k (i + c)]
    by_cases h : k < n
    · rw [if_pos h, if_pos (by omega)]
      congr 2
      rw [Int.natCast_succ, Int.add_mul, Int.one_mul]; omega
    · rw [if_neg h, if_neg (by omega)]
theorem rangeD_len (c : Int) : ∀ (n : Nat) (i : Int), (rangeD i c n).length = n
  | 0, i => rfl
  | n + 1, i => by rw [rangeD, List.length_cons, rangeD_len c n]
theorem enumD_get : ∀ (xs : List D) (k i : Nat), (enumD k xs)[i]? = xs[i]?.map fun x => D.tup [.int (k + i : Nat), x]
  | [], k, i => by rw [enumD]; rfl
  | x :: xs, k, 0 => by rw [enumD]; rfl
  | x :: xs, k, i + 1 => by
    rw [enumD, List.getElem?_cons_succ, List.getElem?_cons_succ, enumD_get xs (k + 1) i]
    rw [show k + 1 + i = k + (i + 1) by omega]
theorem enumD_len : ∀ (xs : List D) (k : Nat), (enumD k xs).length = xs.length
  | [], k => rfl
  | x :: xs, k => by rw [enumD, List.length_cons, List.length_cons, enumD_len xs]
theorem zipD_get : ∀ (xs ys : List D) (i : Nat) (d : D), (zipD xs ys)[i]? = some d → ∃ x y, xs[i]? = some x ∧ ys[i]? = some y ∧ d = .tup [x, y]
  | [], ys, i, d, h => by
    rw [show zipD [] ys = [] by cases ys <;> rfl] at h
    simp at h
  | x :: xs, [], i, d, h => by
    rw [show zipD (x :: xs) [] = [] from rfl] at h
    simp at h
  | x :: xs, y :: ys, 0, d, h => by rw [zipD] at h; cases h; exact ⟨x, y, rfl, rfl, rfl⟩
  | x :: xs, y :: ys, i + 1, d, h => by
    rw [zipD] at h
    exact zipD_get xs ys i d (by simpa using h)
theorem zipD_end : ∀ (xs ys : List D) (i : Nat), (zipD xs ys).length ≤ i → xs.length ≤ i ∨ ys.length ≤ i
  | [], _, i, _ => .inl (Nat.zero_le _)
  | _ :: _, [], i, _ => .inr (Nat.zero_le _)
  | x :: xs, y :: ys, i, h => by
    rw [zipD, List.length_cons] at h
    cases i with
    | zero => omega
    | succ i =>
      rcases zipD_end xs ys i (by omega) with q | q
      · exact .inl (by rw [List.length_cons]; omega)
      · exact .inr (by rw [List.length_cons]; omega)

/-! ### what an iterator gives -/
def Walks (K : PySem.W.Frag) (G0 : Hp) (J : It) (xs : List D) : Prop := ∀ i G H, Ex G0 G → Ex G H →
  (∀ d, xs[i]? = some d → J.go i H ∧ ∀ v H', J.yld i H v H' → ∃ G', Step G H G' H' ∧ Rep K G' d v) ∧ (xs.length ≤ i → J.stop i H)
theorem Walks.mono {J : It} {xs : List D} (w : Walks K G J xs) (e : Ex G G') : Walks K G' J xs := fun i G2 H2 e1 e2 => w i G2 H2 (e.trans e1) e2
theorem sqL_one {xs ys : List V} {a : Addr} (h : H a = some (.lst xs)) (h2 : ∀ zs, SqL K H a zs → zs[0]? = ys[0]?) : True := trivial
theorem walks_list {a : Addr} {vs : List V} {ds : List D} (h : SqL K G a vs) (r : Reps K G ds vs) : Walks K G (Itl K a) ds := fun i G2 H2 e1 e2 => by
  have hS : SqL K H2 a vs := ex_l (e1.trans e2) h
  refine ⟨fun d hd => ?_, fun hl => ⟨vs, hS, by rw [r.len]; exact hl⟩⟩
  obtain ⟨v, hv, rv⟩ := r.get hd
  refine ⟨⟨vs, v, hS, hv⟩, fun u H' y => ?_⟩
  obtain ⟨rfl, q⟩ := y
  have := Option.some.inj ((q vs hS).symm.trans hv)
  subst this
  exact ⟨G2, Step.refl e2, rv.ex e1⟩
theorem walks_tup {a : Addr} {vs : List V} {ds : List D} (h : SqT K G a vs) (r : Reps K G ds vs) : Walks K G (Itt K a) ds := fun i G2 H2 e1 e2 => by
  have hS : SqT K H2 a vs := ex_t (e1.trans e2) h
  refine ⟨fun d hd => ?_, fun hl => ⟨vs, hS, by rw [r.len]; exact hl⟩⟩
  obtain ⟨v, hv, rv⟩ := r.get hd
  refine ⟨⟨vs, v, hS, hv⟩, fun u H' y => ?_⟩
  obtain ⟨rfl, q⟩ := y
  have := Option.some.inj ((q vs hS).symm.trans hv)
  subst this
  exact ⟨G2, Step.refl e2, rv.ex e1⟩
theorem walks_str {s : List Nat} : Walks K G (Its (st s)) (s.map fun c => .str [c]) := fun i G2 H2 e1 e2 => by
  have hsz : (st s).cps.size = s.length := by simp
  refine ⟨fun d hd => ?_, fun hl => ?_⟩
  · rw [List.getElem?_map] at hd
    cases hc : s[i]? with
    | none => rw [hc] at hd; cases hd
    | some c =>
      rw [hc] at hd
      cases hd
      have hi : i < s.length := (List.getElem?_eq_some_iff.mp hc).1
      refine ⟨by show i < (st s).cps.size; rw [hsz]; exact hi, fun v H' y => ?_⟩
      obtain ⟨rfl, c', hc', rfl⟩ := y
      have : (st s).cps[i]? = s[i]? := by simp
      rw [this, hc] at hc'
      cases hc'
      exact ⟨G2, Step.refl e2, rfl⟩
  · show (st s).cps.size ≤ i
    rw [hsz]; rw [List.length_map] at hl; exact hl
theorem walks_rng {lo : Int} {n : Nat} : Walks K G (L2.Itr lo n) (rangeD lo 1 n) := fun i G2 H2 e1 e2 => by
  refine ⟨fun d hd => ?_, fun hl => by rw [rangeD_len] at hl; exact hl⟩
  rw [rangeD_get] at hd
  by_cases h : i < n
  · rw [if_pos h] at hd
    cases hd
    refine ⟨h, fun v H' y => ?_⟩
    obtain ⟨rfl, rfl⟩ := y
    exact ⟨G2, Step.refl e2, by rw [Int.mul_one]; rfl⟩
  · rw [if_neg h] at hd; cases hd
theorem walks_rngC {lo c : Int} {n : Nat} : Walks K G (Itc lo c n) (rangeD lo c n) := fun i G2 H2 e1 e2 => by
  refine ⟨fun d hd => ?_, fun hl => by rw [rangeD_len] at hl; exact hl⟩
  rw [rangeD_get] at hd
  by_cases h : i < n
  · rw [if_pos h] at hd
    cases hd
    refine ⟨h, fun v H' y => ?_⟩
    obtain ⟨rfl, rfl⟩ := y
    exact ⟨G2, Step.refl e2, rfl⟩
  · rw [if_neg h] at hd; cases hd
theorem Step.tup (e : Ex G H) {p : Addr} {d1 d2 : D} {u v : V} (h : H p = none) (r1 : Rep K G d1 u) (r2 : Rep K G d2 v) : Rep K (L2.upd G p (.tup [u, v])) (.tup [d1, d2]) (.ref p) :=
  ⟨p, _, rfl, st_of upd_same, u, [v], rfl, r1.ex (Ex.new (ex_none e h)), v, [], rfl, r2.ex (Ex.new (ex_none e h)), rfl⟩
theorem walks_enum {a : Addr} {vs : List V} {ds : List D} (h : SqL K G a vs) (r : Reps K G ds vs) : Walks K G (Ite K a) (enumD 0 ds) := fun i G2 H2 e1 e2 => by
  have hS : SqL K H2 a vs := ex_l (e1.trans e2) h
  refine ⟨fun d hd => ?_, fun hl => ⟨vs, hS, by rw [r.len]; rw [enumD_len] at hl; exact hl⟩⟩
  rw [enumD_get] at hd
  cases hx : ds[i]? with
  | none => rw [hx] at hd; cases hd
  | some x =>
    rw [hx] at hd
    cases hd
    obtain ⟨v, hv, rv⟩ := r.get hx
    refine ⟨⟨vs, v, hS, hv⟩, fun u H' y => ?_⟩
    obtain ⟨T, w, rfl, nT, rfl, q⟩ := y
    have := Option.some.inj ((q vs hS).symm.trans hv)
    subst this
    refine ⟨L2.upd G2 T _, Step.new e2 nT, ?_⟩
    rw [Nat.zero_add]
    exact Step.tup e2 nT rfl (rv.ex e1)
theorem walks_enumT {a : Addr} {vs : List V} {ds : List D} (h : SqT K G a vs) (r : Reps K G ds vs) : Walks K G (Itet K a) (enumD 0 ds) := fun i G2 H2 e1 e2 => by
  have hS : SqT K H2 a vs := ex_t (e1.trans e2) h
  refine ⟨fun d hd => ?_, fun hl => ⟨vs, hS, by rw [r.len]; rw [enumD_len] at hl; exact hl⟩⟩
  rw [enumD_get] at hd
  cases hx : ds[i]? with
  | none => rw [hx] at hd; cases hd
  | some x =>
    rw [hx] at hd
    cases hd
    obtain ⟨v, hv, rv⟩ := r.get hx
    refine ⟨⟨vs, v, hS, hv⟩, fun u H' y => ?_⟩
    obtain ⟨T, w, rfl, nT, rfl, q⟩ := y
    have := Option.some.inj ((q vs hS).symm.trans hv)
    subst this
    refine ⟨L2.upd G2 T _, Step.new e2 nT, ?_⟩
    rw [Nat.zero_add]
    exact Step.tup e2 nT rfl (rv.ex e1)
theorem walks_enumS {s : List Nat} : Walks K G (Ites (st s)) (enumD 0 (s.map fun c => .str [c])) := fun i G2 H2 e1 e2 => by
  have hsz : (st s).cps.size = s.length := by simp
  refine ⟨fun d hd => ?_, fun hl => ?_⟩
  · rw [enumD_get, List.getElem?_map] at hd
    cases hc : s[i]? with
    | none => rw [hc] at hd; cases hd
    | some c =>
      rw [hc] at hd
      cases hd
      have hi : i < s.length := (List.getElem?_eq_some_iff.mp hc).1
      refine ⟨by show i < (st s).cps.size; rw [hsz]; exact hi, fun v H' y => ?_⟩
      obtain ⟨T, c', rfl, nT, rfl, hc'⟩ := y
      have : (st s).cps[i]? = s[i]? := by simp
      rw [this, hc] at hc'
      cases hc'
      refine ⟨L2.upd G2 T _, Step.new e2 nT, ?_⟩
      rw [Nat.zero_add]
      exact Step.tup e2 nT rfl rfl
  · show (st s).cps.size ≤ i
    rw [hsz]; rw [enumD_len, List.length_map] at hl; exact hl
theorem walks_zip {a b : Addr} {vs us : List V} {ds es : List D} (h : SqL K G a vs) (r : Reps K G ds vs) (h2 : SqL K G b us) (r2 : Reps K G es us) : Walks K G (Itz K a b) (zipD ds es) := fun i G2 H2 e1 e2 => by
  have hS : SqL K H2 a vs := ex_l (e1.trans e2) h
  have hS2 : SqL K H2 b us := ex_l (e1.trans e2) h2
  refine ⟨fun d hd => ?_, fun hl => ⟨vs, us, hS, hS2, by rw [r.len, r2.len]; exact zipD_end _ _ _ hl⟩⟩
  obtain ⟨x, y, hx, hy, rfl⟩ := zipD_get _ _ _ _ hd
  obtain ⟨v, hv, rv⟩ := r.get hx
  obtain ⟨u, hu, ru⟩ := r2.get hy
  refine ⟨⟨vs, us, v, u, hS, hS2, hv, hu⟩, fun w H' yy => ?_⟩
  obtain ⟨T, v', u', rfl, nT, rfl, q1, q2⟩ := yy
  have := Option.some.inj ((q1 vs hS).symm.trans hv)
  subst this
  have := Option.some.inj ((q2 us hS2).symm.trans hu)
  subst this
  exact ⟨L2.upd G2 T _, Step.new e2 nT, Step.tup e2 nT (rv.ex e1) (ru.ex e1)⟩

/-- what the items lean on: nothing (a range), or what stands -/
def wBase (b : Bool) (G : Hp) : Hp := if b = true then (fun _ => none) else G
theorem wBase_ex {b : Bool} : Ex (wBase b G) G := .of fun a o h => by
  unfold wBase at h
  split at h
  · cases h
  · exact h
def EvI (K : PySem.W.Frag) (b : Bool) (wi : TI) (z : Nat → Bool) (ρ : Env) (xs : List D) : Prop := ∀ G σ H, EnvR K G H σ z ρ → Ex G H → ∀ R : It → Hp → Prop, (∀ J G' H', Step G H G' H' → Walks K (wBase b G') J xs → R J H') → wi σ H R
variable {z : Nat → Bool} {ρ : Env} {ta : TA} {te : TE}
theorem ei_list {ds : List D} (h : EvD K te z ρ (.lst ds)) : EvI K false (iList K te) z ρ ds := fun G σ H R e Q q =>
  h G σ H R e _ fun u G1 H1 s1 r1 => by
    obtain ⟨a, vs, rfl, h1, q1⟩ := r1
    exact ⟨a, rfl, ⟨vs, .of (s1.gh.at h1 rfl)⟩, q _ G1 H1 s1 (walks_list (.of h1) q1)⟩
theorem ei_scr {ns : List Int} (h : EvD K te z ρ (.scr ns)) : EvI K false (iList K te) z ρ (ns.map D.int) := fun G σ H R e Q q =>
  h G σ H R e _ fun u G1 H1 s1 r1 => by
    obtain ⟨a, rfl, h1⟩ := r1
    exact ⟨a, rfl, ⟨_, ex_l s1.gh h1⟩, q _ G1 H1 s1 (walks_list h1 Reps.int)⟩
theorem ei_tup {ds : List D} (h : EvD K te z ρ (.tup ds)) : EvI K false (iTup K te) z ρ ds := fun G σ H R e Q q =>
  h G σ H R e _ fun u G1 H1 s1 r1 => by
    obtain ⟨a, vs, rfl, h1, q1⟩ := r1
    exact ⟨a, rfl, ⟨vs, ex_t s1.gh h1⟩, q _ G1 H1 s1 (walks_tup h1 q1)⟩
theorem ei_str {s : List Nat} (h : EvD K te z ρ (.str s)) : EvI K false (iStr te) z ρ (s.map fun c => .str [c]) := fun G σ H R e Q q =>
  h G σ H R e _ fun u G1 H1 s1 r1 => ⟨st s, r1, q _ G1 H1 s1 walks_str⟩
theorem ei_rng1 {n : Int} (h : EvA K ta z ρ [.int n]) (hn : -4611686018427387904 ≤ n ∧ n ≤ 16777216) : EvI K true (iRng1 ta) z ρ (rangeD 0 1 n.toNat) := fun G σ H R e Q q =>
  h G σ H R e _ fun us G1 H1 s1 r1 => by
    obtain ⟨v, rfl, r⟩ := reps1 r1
    cases (show v = V.int n from r)
    exact ⟨n, rfl, by omega, by omega, q _ G1 H1 s1 walks_rng⟩
theorem ei_rng2 {i n : Int} (h : EvA K ta z ρ [.int i, .int n]) (hi : bnd i) (hn : bnd n) : EvI K true (iRng2 ta) z ρ (rangeD i 1 (n - i).toNat) := fun G σ H R e Q q =>
  h G σ H R e _ fun us G1 H1 s1 r1 => by
    obtain ⟨v, u, rfl, r, r'⟩ := reps2 r1
    cases (show v = V.int i from r)
    cases (show u = V.int n from r')
    have := hi.1; have := hi.2; have := hn.1; have := hn.2
    exact ⟨i, n, rfl, ⟨by omega, by omega, by omega, by omega⟩, q _ G1 H1 s1 walks_rng⟩
theorem ei_rng3 {i j c : Int} {n : Nat} (h : EvA K ta z ρ [.int i, .int j, .int c]) (hc : RgC i j c n) : EvI K true (iRng3 ta) z ρ (rangeD i c n) := fun G σ H R e Q q =>
  h G σ H R e _ fun us G1 H1 s1 r1 => by
    obtain ⟨v, ys, rfl, r, r2⟩ := r1
    obtain ⟨v2, v3, rfl, r3, r4⟩ := reps2 r2
    cases (show v = V.int i from r)
    cases (show v2 = V.int j from r3)
    cases (show v3 = V.int c from r4)
    exact ⟨i, j, c, n, rfl, hc, q _ G1 H1 s1 walks_rngC⟩
theorem ei_enum {ds : List D} (h : EvA K ta z ρ [.lst ds]) : EvI K false (iEnum K ta) z ρ (enumD 0 ds) := fun G σ H R e Q q =>
  h G σ H R e _ fun us G1 H1 s1 r1 => by
    obtain ⟨v, rfl, r⟩ := reps1 r1
    obtain ⟨a, vs, rfl, h1, q1⟩ := r
    exact ⟨a, vs, rfl, .of (s1.gh.at h1 rfl), q _ G1 H1 s1 (walks_enum (.of h1) q1)⟩
theorem ei_enumT {ds : List D} (h : EvA K ta z ρ [.tup ds]) : EvI K false (iEnumT K ta) z ρ (enumD 0 ds) := fun G σ H R e Q q =>
  h G σ H R e _ fun us G1 H1 s1 r1 => by
    obtain ⟨v, rfl, r⟩ := reps1 r1
    obtain ⟨a, vs, rfl, h1, q1⟩ := r
    exact ⟨a, vs, rfl, ex_t s1.gh h1, q _ G1 H1 s1 (walks_enumT h1 q1)⟩
theorem ei_enumS {s : List Nat} (h : EvA K ta z ρ [.str s]) : EvI K false (iEnumS ta) z ρ (enumD 0 (s.map fun c => .str [c])) := fun G σ H R e Q q =>
  h G σ H R e _ fun us G1 H1 s1 r1 => by
    obtain ⟨v, rfl, r⟩ := reps1 r1
    cases (show v = V.str (st s) from r)
    exact ⟨st s, rfl, q _ G1 H1 s1 walks_enumS⟩
theorem ei_zip {ds es : List D} (h : EvA K ta z ρ [.lst ds, .lst es]) : EvI K false (iZip K ta) z ρ (zipD ds es) := fun G σ H R e Q q =>
  h G σ H R e _ fun us G1 H1 s1 r1 => by
    obtain ⟨v, u, rfl, r, r'⟩ := reps2 r1
    obtain ⟨a, vs, rfl, h1, q1⟩ := r
    obtain ⟨b, us, rfl, h2, q2⟩ := r'
    exact ⟨a, b, vs, us, rfl, .of (s1.gh.at h1 rfl), .of (s1.gh.at h2 rfl), q _ G1 H1 s1 (walks_zip (.of h1) q1 (.of h2) q2)⟩

/-! ### comprehensions -/
/-- one turn: the target bound, the test, the element -/
def TurnOk (K : PySem.W.Frag) (g : TG) (tt : TT) (te : TE) (vs : List Nat) (z : Nat → Bool) (ρ : Env) (x : D) (o : Option D) : Prop :=
  ∀ G σ H v, EnvR K G H σ z ρ → Ex G H → Rep K G x v → ∀ (Y : V → Hp → Prop) (Nn : Hp → Prop),
    (∀ d, o = some d → ∀ y G' H', Step G H G' H' → Rep K G' d y → Y y H') → (o = none → ∀ G' H', Step G H G' H' → Nn H') →
    g v (wipe σ vs) H fun σ2 H2 => wipe σ2 vs = wipe σ vs ∧ tt σ2 H2 fun b H3 => if b = true then te σ2 H3 Y else Nn H3
theorem en_comp {wi : TI} {g : TG} {tt : TT} {vs : List Nat} {xs ys : List D} {f : D → R (Option D)} {b0 : Bool} (hi : EvI K b0 wi z ρ xs) (hl : xs.length ≤ line)
    (hf : compGo f xs = .ok ys) (ht : ∀ x o, x ∈ xs → f x = .ok o → TurnOk K g tt te vs z ρ x o) : EvN K (tLc wi g tt te vs) z ρ ys := fun G σ H R e Q q =>
  hi G σ H R e _ fun J G1 H1 s1 W Dl hD => by
    refine ⟨fun i m H2 => ∃ rest ysd ysr G2 acc, xs.drop i = rest ∧ compGo f rest = .ok ysr ∧ ysd ++ ysr = ys ∧ m = rest.length ∧ i ≤ xs.length ∧ ysd.length ≤ i ∧
      Step G1 H1 G2 H2 ∧ G2 Dl = none ∧ H2 Dl = some (.lst acc) ∧ Reps K G2 ysd acc,
      ⟨xs.length, xs, [], ys, G1, [], rfl, hf, rfl, rfl, Nat.zero_le _, Nat.le_refl _, Step.newH s1.gh hD, ex_none s1.gh hD, upd_same, rfl⟩, ?_⟩
    rintro i m H2 ⟨rest, ysd, ysr, G2, acc, hr, hc, he, hm, hi', hy, s2, n2, hacc, racc⟩
    have wk := W i G2 H2 (wBase_ex.trans s2.gg) s2.gh
    cases rest with
    | nil =>
      have hxi : xs.length ≤ i := by
        have := congrArg List.length hr
        rw [List.length_drop, List.length_nil] at this
        omega
      rw [compGo] at hc
      cases hc
      rw [List.append_nil] at he
      subst he
      exact .inl ⟨wk.2 hxi, q Dl acc G2 H2 (ex_none s1.hh hD) (s1.trans s2) n2 hacc racc⟩
    | cons x rest =>
      have hxi : xs[i]? = some x := by
        have : (xs.drop i)[0]? = some x := by rw [hr]; rfl
        rw [List.getElem?_drop, Nat.add_zero] at this
        exact this
      have hlt : i < xs.length := (List.getElem?_eq_some_iff.mp hxi).1
      have hr' : xs.drop (i + 1) = rest := by
        have := congrArg (List.drop 1) hr
        rw [List.drop_drop] at this
        rw [this]; rfl
      rw [compGo] at hc
      obtain ⟨o, ho, hc⟩ := Pv.R.bind_eq_ok hc
      obtain ⟨zs, hz, hc⟩ := Pv.R.bind_eq_ok hc
      cases hc
      obtain ⟨hgo, hyld⟩ := wk.1 x hxi
      refine .inr ⟨hgo, fun H3 => ∃ rest' ysd ysr G2 acc, xs.drop (i + 1) = rest' ∧ compGo f rest' = .ok ysr ∧ ysd ++ ysr = ys ∧ rest.length = rest'.length ∧ i + 1 ≤ xs.length ∧ ysd.length ≤ i + 1 ∧
        Step G1 H1 G2 H3 ∧ G2 Dl = none ∧ H3 Dl = some (.lst acc) ∧ Reps K G2 ysd acc, fun H3 hN => ?_, fun v H3 hv => ?_⟩
      · obtain ⟨rest', a, b, c, d, h1, h2, h3, h4, h5⟩ := hN
        exact ⟨rest.length, by rw [hm, List.length_cons]; omega, rest', a, b, c, d, h1, h2, h3, h4, h5⟩
      · obtain ⟨G3, s3, rx⟩ := hyld v H3 hv
        have s13 := s2.trans s3
        have hD3 : H3 Dl = some (.lst acc) := s3.hh.at hacc rfl
        have n3 : G3 Dl = none := s3.fr _ _ hacc n2
        refine ht x o (List.mem_of_getElem? hxi) ho G3 σ H3 v ((R.mono s1).mono s13) s13.gh rx _ _ (fun d hd y G4 H4 s4 ry => ?_) (fun hn G4 H4 s4 => ?_)
        · subst hd
          have n4 := s4.fr _ _ hD3 n3
          have hD4 := s4.hh.at hD3 rfl
          refine ⟨acc, hD4, by rw [racc.len, sizeLine_eq]; have : line = 16777216 := rfl; omega, rest, ysd ++ [d], zs, G4, acc ++ [y], hr', hz, ?_, rfl, hlt, ?_, (s13.trans s4).upd hD n4, n4, upd_same, ?_⟩
          · rw [← he, List.append_assoc]; rfl
          · rw [List.length_append, List.length_singleton]; omega
          · exact (racc.ex (s3.gg.trans s4.gg)).app (Reps.one ry)
        · subst hn
          exact ⟨rest, ysd, zs, G4, acc, hr', hz, he, rfl, hlt, by omega, s13.trans s4, s4.fr _ _ hD3 n3, s4.hh.at hD3 rfl, racc.ex (s3.gg.trans s4.gg)⟩

/-! ### slots forgotten and set -/
theorem wipe_set_mem {σ : L2.St} {i : Nat} {x : Option V} : ∀ {vs : List Nat}, i ∈ vs → wipe (σ.set i x) vs = wipe σ vs
  | v :: vs, h => by
    unfold wipe
    by_cases hv : i ∈ vs
    · rw [wipe_set_mem hv]
    · have e : i = v := by
        rcases List.mem_cons.mp h with h | h
        · exact h
        · exact absurd h hv
      subst e
      clear h
      -- the set at i goes through the wipe, and is overwritten
      have key : ∀ ws : List Nat, i ∉ ws → wipe (σ.set i x) ws = (wipe σ ws).set i x := by
        intro ws
        induction ws with
        | nil => intro _; rfl
        | cons w ws ih =>
          intro hw
          have h1 : i ≠ w := fun e => hw (by rw [e]; exact List.mem_cons_self)
          have h2 : i ∉ ws := fun e => hw (List.mem_cons_of_mem _ e)
          unfold wipe
          rw [ih h2, List.set_comm _ _ h1]
      rw [key vs hv, List.set_set]
theorem wipe_wipe {σ : L2.St} : ∀ vs : List Nat, wipe (wipe σ vs) vs = wipe σ vs := by
  have key : ∀ (ws vs : List Nat), (∀ w ∈ ws, w ∈ vs) → wipe (wipe σ ws) vs = wipe σ vs := by
    intro ws
    induction ws with
    | nil => intro vs _; rfl
    | cons w ws ih =>
      intro vs h
      have : wipe σ (w :: ws) = (wipe σ ws).set w none := rfl
      rw [this, wipe_set_mem (h w List.mem_cons_self), ih vs fun u hu => h u (List.mem_cons_of_mem _ hu)]
  exact fun vs => key vs vs fun w h => h
theorem look_set {z : Nat → Bool} {ρ : Env} {i j : Nat} {x d : D} (h : look z (ρ.set i (.val x)) j = .ok d) : (j = i ∧ d = x ∧ i < ρ.length) ∨ (j ≠ i ∧ look z ρ j = .ok d) := by
  unfold look at h
  by_cases hj : j = i
  · subst hj
    by_cases hl : j < ρ.length
    · rw [List.getElem?_set_self hl] at h
      cases h
      exact .inl ⟨rfl, rfl, hl⟩
    · rw [List.getElem?_eq_none (by rw [List.length_set]; omega)] at h
      cases h
  · rw [List.getElem?_set_ne (Ne.symm hj)] at h
    exact .inr ⟨hj, h⟩
theorem EnvR.set {σ : L2.St} {z : Nat → Bool} {ρ : Env} (R : EnvR K G H σ z ρ) {i : Nat} {x : D} {v : V} (r : Rep K G x v) : EnvR K G H (σ.set i (some v)) z (ρ.set i (.val x)) := by
  refine ⟨R.tabs, by rw [List.length_set, List.length_set, R.len], fun j d h => ?_, fun j ds h => by
    by_cases hj : j = i
    · subst hj
      by_cases hl : j < ρ.length
      · rw [List.getElem?_set_self hl] at h; cases h
      · rw [List.getElem?_eq_none (by rw [List.length_set]; omega)] at h; cases h
    · rw [List.getElem?_set_ne (Ne.symm hj)] at h
      obtain ⟨p, vs, a, b, c⟩ := R.own j ds h
      exact ⟨p, vs, by rw [List.getElem?_set_ne (Ne.symm hj)]; exact a, b, c⟩⟩
  rcases look_set h with ⟨rfl, rfl, hl⟩ | ⟨hj, h⟩
  · exact ⟨v, List.getElem?_set_self (by rw [← R.len]; exact hl), r⟩
  · obtain ⟨u, h1, h2⟩ := R.get j d h
    exact ⟨u, by rw [List.getElem?_set_ne (Ne.symm hj)]; exact h1, h2⟩
theorem EnvR.no {σ : L2.St} {z : Nat → Bool} {ρ : Env} (R : EnvR K G H σ z ρ) (i : Nat) : EnvR K G H (σ.set i none) z (ρ.set i .no) := by
  refine ⟨R.tabs, by rw [List.length_set, List.length_set, R.len], fun j d h => ?_, fun j ds h => by
    by_cases hj : j = i
    · subst hj
      by_cases hl : j < ρ.length
      · rw [List.getElem?_set_self hl] at h; cases h
      · rw [List.getElem?_eq_none (by rw [List.length_set]; omega)] at h; cases h
    · rw [List.getElem?_set_ne (Ne.symm hj)] at h
      obtain ⟨p, vs, a, b, c⟩ := R.own j ds h
      exact ⟨p, vs, by rw [List.getElem?_set_ne (Ne.symm hj)]; exact a, b, c⟩⟩
  unfold look at h
  by_cases hj : j = i
  · subst hj
    by_cases hl : j < ρ.length
    · rw [List.getElem?_set_self hl] at h; cases h
    · rw [List.getElem?_eq_none (by rw [List.length_set]; omega)] at h; cases h
  · rw [List.getElem?_set_ne (Ne.symm hj)] at h
    obtain ⟨u, h1, h2⟩ := R.get j d h
    exact ⟨u, by rw [List.getElem?_set_ne (Ne.symm hj)]; exact h1, h2⟩
theorem EnvR.wipe {σ : L2.St} {z : Nat → Bool} {ρ : Env} (R : EnvR K G H σ z ρ) : ∀ vs : List Nat, EnvR K G H (wipe σ vs) z (wipeE ρ vs)
  | [] => R
  | v :: vs => (R.wipe vs).no v

/-! ### targets -/
/-- the reading of a target by its slots -/
def gMany : List Nat → TGs
  | [] => gNil
  | i :: is => gCons (gName i) (gMany is)
def gTg (K : PySem.W.Frag) : Tg → TG
  | .one i => gName i
  | .many is => gTup K is.length (gMany is)
  | .pair i js => gTup K 2 (gCons (gName i) (gCons (gTup K js.length (gMany js)) gNil))
  | .two is js => gTup K 2 (gCons (gTup K is.length (gMany is)) (gCons (gTup K js.length (gMany js)) gNil))
def tgSlots : Tg → List Nat
  | .one i => [i]
  | .many is => is
  | .pair i js => i :: js
  | .two is js => is ++ js
theorem ex_gMany {vs : List Nat} {σ0 : L2.St} : ∀ {is : List Nat} {ds : List D} {us : List V} {σ : L2.St} {ρ ρ' : Env} {G H : Hp}, Reps K G ds us → setAll is ds ρ = some ρ' → EnvR K G H σ z ρ → (∀ i ∈ is, i ∈ vs) → wipe σ vs = wipe σ0 vs →
    ∀ Q : L2.St → Hp → Prop, (∀ σ', EnvR K G H σ' z ρ' → wipe σ' vs = wipe σ0 vs → Q σ' H) → gMany is us σ H Q
  | [], [], us, σ, ρ, ρ', G, H, r, h, R, hv, hw, Q, q => by
    cases h
    exact ⟨r, q σ R hw⟩
  | i :: is, d :: ds, us, σ, ρ, ρ', G, H, ⟨y, ys, e1, r1, r2⟩, h, R, hv, hw, Q, q => by
    subst e1
    exact ⟨y, ys, rfl, ex_gMany r2 h (R.set r1) (fun j hj => hv j (List.mem_cons_of_mem _ hj)) (by rw [wipe_set_mem (hv i List.mem_cons_self)]; exact hw) Q q⟩
  | [], _ :: _, _, _, _, _, _, _, _, h, _, _, _, _, _ => by cases h
  | _ :: _, [], _, _, _, _, _, _, _, h, _, _, _, _, _ => by cases h
theorem setAll_len : ∀ {is : List Nat} {ds : List D} {ρ ρ' : Env}, setAll is ds ρ = some ρ' → is.length = ds.length
  | [], [], _, _, _ => rfl
  | _ :: is, _ :: ds, _, _, h => by rw [List.length_cons, List.length_cons, setAll_len (is := is) (ds := ds) h]
  | [], _ :: _, _, _, h => by cases h
  | _ :: _, [], _, _, h => by cases h
theorem ex_gTg {vs : List Nat} {tg : Tg} {d : D} {v : V} {σ : L2.St} {ρ ρ' : Env} {G H : Hp} (r : Rep K G d v) (e : Ex G H) (h : bindTg tg d ρ = some ρ') (R : EnvR K G H σ z ρ) (hv : ∀ i ∈ tgSlots tg, i ∈ vs)
    (Q : L2.St → Hp → Prop) (q : ∀ σ', EnvR K G H σ' z ρ' → wipe σ' vs = wipe σ vs → Q σ' H) : gTg K tg v σ H Q := by
  cases tg with
  | one i =>
    cases h
    exact q _ (R.set r) (wipe_set_mem (hv i (List.mem_singleton.mpr rfl)))
  | many is =>
    cases d with
    | tup ds =>
      obtain ⟨a, xs, rfl, hs, hr⟩ := r
      refine ⟨a, xs, rfl, ex_t e hs, ?_, ex_gMany hr h R hv rfl Q q⟩
      rw [hr.len, setAll_len h]
    | _ => cases h
  | pair i js =>
    match d, h with
    | .tup [d1, .tup ds], h =>
      obtain ⟨a, xs, rfl, hs, hr⟩ := r
      obtain ⟨v1, v2, rfl, r1, r2⟩ := reps2 hr
      obtain ⟨b, ys, rfl, hs2, hr2⟩ := r2
      refine ⟨a, _, rfl, ex_t e hs, rfl, v1, _, rfl, ?_⟩
      refine ⟨.ref b, [], rfl, ?_⟩
      have hi : i ∈ vs := hv i List.mem_cons_self
      refine ⟨b, ys, rfl, ex_t e hs2, ?_, ex_gMany (σ0 := σ) hr2 h (R.set r1) (fun j hj => hv j (List.mem_cons_of_mem _ hj)) (wipe_set_mem hi) _ fun σ' R' hw => ⟨rfl, q σ' R' hw⟩⟩
      rw [hr2.len, setAll_len h]
  | two is js =>
    match d, h with
    | .tup [.tup ds, .tup es], h =>
      have h : (setAll is ds ρ).bind (fun ρ1 => setAll js es ρ1) = some ρ' := h
      obtain ⟨ρ1, h1, h2⟩ := Option.bind_eq_some_iff.mp h
      obtain ⟨a, xs, rfl, hs, hr⟩ := r
      obtain ⟨v1, v2, rfl, r1, r2⟩ := reps2 hr
      obtain ⟨b1, ys1, rfl, hs1, hr1⟩ := r1
      obtain ⟨b2, ys2, rfl, hs2, hr2⟩ := r2
      refine ⟨a, _, rfl, ex_t e hs, rfl, .ref b1, _, rfl, ?_⟩
      refine ⟨b1, ys1, rfl, ex_t e hs1, by rw [hr1.len, setAll_len h1], ex_gMany (σ0 := σ) hr1 h1 R (fun j hj => hv j (List.mem_append_left _ hj)) rfl _ fun σ1 R1 w1 => ?_⟩
      refine ⟨.ref b2, [], rfl, ?_⟩
      exact ⟨b2, ys2, rfl, ex_t e hs2, by rw [hr2.len, setAll_len h2], ex_gMany (σ0 := σ) hr2 h2 R1 (fun j hj => hv j (List.mem_append_right _ hj)) w1 _ fun σ' R' hw => ⟨rfl, q σ' R' hw⟩⟩
end
/-! ### comprehensions of two clauses -/
section
variable {K : PySem.W.Frag} {G H G' H' G1 H1 G2 H2 : Hp} {p : Addr} {z : Nat → Bool} {ρ : Env}
/-- all but what stands at p -/
def but (H : Hp) (p : Addr) : Hp := fun a => if a = p then none else H a
theorem but_at : but H p p = none := if_pos rfl
theorem but_ne {a : Addr} (h : a ≠ p) : but H p a = H a := if_neg h
theorem but_some {a : Addr} {o : HO} (h : but H p a = some o) : a ≠ p ∧ H a = some o := by
  unfold but at h
  split at h
  · cases h
  · exact ⟨by assumption, h⟩
theorem but_none (h : H p = none) : but H p = H := by
  funext a
  by_cases c : a = p
  · subst c; rw [but_at, h]
  · exact but_ne c
theorem but_upd {o : HO} : but (L2.upd H p o) p = but H p := by
  funext a
  by_cases c : a = p
  · subst c; rw [but_at, but_at]
  · rw [but_ne c, but_ne c, upd_ne c]
theorem upd_but {o : HO} (h : H p = some o) : L2.upd (but H p) p o = H := by
  funext a
  by_cases c : a = p
  · subst c; rw [upd_same, h]
  · rw [upd_ne c, but_ne c]
theorem Ex.rem (e : Ex G H) (n : G p = none) : Ex G (but H p) := fun a o h => by rw [but_ne (ne_of_none h n)]; exact e a o h
theorem Ex.remB : Ex (but H p) H := .of fun a o h => (but_some h).2
theorem Step.rem (s : Step G H G' H') (n : G' p = none) : Step G (but H p) G' (but H' p) :=
  ⟨s.gg, s.gh.rem n, fun a o h => by
    obtain ⟨h1, h2⟩ := but_some h
    rw [but_ne h1]
    exact s.hh a o h2, fun a o h q => s.fr a o (but_some h).2 q⟩
theorem EnvR.remB {σ : L2.St} (R : EnvR K G (but H p) σ z ρ) : EnvR K G H σ z ρ := ⟨R.tabs, R.len, R.get, fun i ds h => by
  obtain ⟨a, vs, h1, h2, h3⟩ := R.own i ds h
  exact ⟨a, vs, h1, (but_some h2).2, h3⟩⟩
theorem ifYes {A B : Prop} (h : A) : if true = true then A else B := by rw [if_pos rfl]; exact h
/-- one turn of the first clause: the second clause's loop from the list acc at Dl on -/
def Turn2 (K : PySem.W.Frag) (g : TG) (wi1 : TI) (g1 : TG) (te : TE) (vs vs1 : List Nat) (z : Nat → Bool) (ρ : Env) (x : D) (ys : List D) : Prop :=
  ∀ (Dl : Addr) (G : Hp) (σ : L2.St) (H : Hp) (v : V) (acc : List V), G Dl = none → H Dl = some (.lst acc) → acc.length + ys.length ≤ line → EnvR K G (but H Dl) σ z ρ → Ex G H → Rep K G x v → ∀ Nx : Hp → Prop,
    (∀ G' H' us, Step G (but H Dl) G' (but H' Dl) → G' Dl = none → H' Dl = some (.lst (acc ++ us)) → Reps K G' ys us → Nx H') →
    g v (wipe σ vs) H fun σ2 H2 => wipe σ2 vs = wipe σ vs ∧ tYes σ2 H2 fun b H3 => if b = true then wi1 σ2 H3 fun J1 H4 => ∃ W1 : Nat → Nat → Hp → Prop, (∃ m, W1 0 m H4) ∧ ∀ j k H, W1 j k H →
      (J1.stop j H ∧ Nx H) ∨ (J1.go j H ∧ ∃ Nx1 : Hp → Prop, (∀ H', Nx1 H' → ∃ k', k' < k ∧ W1 (j + 1) k' H') ∧ ∀ x H', J1.yld j H x H' → g1 x (wipe σ2 vs1) H' fun σ3 H5 => wipe σ3 vs1 = wipe σ2 vs1 ∧ tYes σ3 H5 fun b H6 =>
        if b = true then te σ3 H6 fun y H7 => ∃ acc, H7 Dl = some (.lst acc) ∧ acc.length < sizeLine ∧ Nx1 (L2.upd H7 Dl (.lst (acc ++ [y]))) else Nx1 H6) else Nx H3
theorem turn2_ok {i j : Nat} {b1 : Bool} {wi1 : TI} {te : TE} {vs : List Nat} {x : D} {ys0 ys : List D} {f1 : D → R (Option D)} (hi : i ∈ vs) (hI : EvI K b1 wi1 z ((wipeE ρ vs).set i (.val x)) ys0) (hf : compGo f1 ys0 = .ok ys)
    (ht : ∀ y o, y ∈ ys0 → f1 y = .ok o → TurnOk K (gName j) tYes te [j] z ((wipeE ρ vs).set i (.val x)) y o) : Turn2 K (gName i) wi1 (gName j) te vs [j] z ρ x ys := by
  intro Dl G σ H v acc nG hD hz R ex rv Nx hN
  have R2 : EnvR K G (but H Dl) ((wipe σ vs).set i (some v)) z ((wipeE ρ vs).set i (.val x)) := (R.wipe vs).set rv
  refine ⟨by rw [wipe_set_mem hi, wipe_wipe], ?_⟩
  refine ifYes (B := Nx H) ?_
  refine hI G _ H R2.remB ex _ fun J1 G4 H4 s4 W => ?_
  have n4 : G4 Dl = none := s4.fr _ _ hD nG
  have hD4 : H4 Dl = some (.lst acc) := s4.hh.at hD rfl
  refine ⟨fun k m H2 => ∃ rest ysd ysr G2 us, ys0.drop k = rest ∧ compGo f1 rest = .ok ysr ∧ ysd ++ ysr = ys ∧ m = rest.length ∧ k ≤ ys0.length ∧ Step G4 (but H4 Dl) G2 (but H2 Dl) ∧ G2 Dl = none ∧ H2 Dl = some (.lst (acc ++ us)) ∧ Reps K G2 ysd us,
    ⟨ys0.length, ys0, [], ys, G4, [], rfl, hf, rfl, rfl, Nat.zero_le _, Step.refl (s4.gh.rem n4), n4, by rw [List.append_nil]; exact hD4, rfl⟩, ?_⟩
  rintro k m H2 ⟨rest, ysd, ysr, G2, us, hr, hc, he, hm, hk, s2, n2, hacc, rus⟩
  have e2 : Ex G2 H2 := s2.gh.trans Ex.remB
  have wk := W k G2 H2 (wBase_ex.trans s2.gg) e2
  cases rest with
  | nil =>
    have hxk : ys0.length ≤ k := by
      have := congrArg List.length hr
      rw [List.length_drop, List.length_nil] at this
      omega
    rw [compGo] at hc
    cases hc
    rw [List.append_nil] at he
    subst he
    exact .inl ⟨wk.2 hxk, hN G2 H2 us ((s4.rem n4).trans s2) n2 hacc rus⟩
  | cons y rest =>
    have hxk : ys0[k]? = some y := by
      have : (ys0.drop k)[0]? = some y := by rw [hr]; rfl
      rw [List.getElem?_drop, Nat.add_zero] at this
      exact this
    have hlt : k < ys0.length := (List.getElem?_eq_some_iff.mp hxk).1
    have hr' : ys0.drop (k + 1) = rest := by
      have := congrArg (List.drop 1) hr
      rw [List.drop_drop] at this
      rw [this]; rfl
    rw [compGo] at hc
    obtain ⟨o, ho, hc⟩ := Pv.R.bind_eq_ok hc
    obtain ⟨zs, hzs, hc⟩ := Pv.R.bind_eq_ok hc
    cases hc
    obtain ⟨hgo, hyld⟩ := wk.1 y hxk
    refine .inr ⟨hgo, fun H3 => ∃ rest' ysd ysr G2 us, ys0.drop (k + 1) = rest' ∧ compGo f1 rest' = .ok ysr ∧ ysd ++ ysr = ys ∧ rest.length = rest'.length ∧ k + 1 ≤ ys0.length ∧ Step G4 (but H4 Dl) G2 (but H3 Dl) ∧ G2 Dl = none ∧ H3 Dl = some (.lst (acc ++ us)) ∧ Reps K G2 ysd us, fun H3 hN => ?_, fun u H3 hu => ?_⟩
    · obtain ⟨rest', a, b, c, d, h1, h2, h3, h4, h5⟩ := hN
      exact ⟨rest.length, by rw [hm, List.length_cons]; omega, rest', a, b, c, d, h1, h2, h3, h4, h5⟩
    · obtain ⟨G3, s3, ry⟩ := hyld u H3 hu
      have n3 : G3 Dl = none := s3.fr _ _ hacc n2
      have hD3 : H3 Dl = some (.lst (acc ++ us)) := s3.hh.at hacc rfl
      have s13 := s2.trans (s3.rem n3)
      have R3 := (R2.mono ((s4.rem n4).trans s13)).remB
      refine ht y o (List.mem_of_getElem? hxk) ho G3 _ H3 u R3 s3.gh ry _ _ (fun d hd w G5 H5 s5 rw5 => ?_) (fun hn G5 H5 s5 => ?_)
      · subst hd
        have n5 := s5.fr _ _ hD3 n3
        have hD5 := s5.hh.at hD3 rfl
        have lus : us.length = ysd.length := rus.len
        have lys : ysd.length < ys.length := by
          rw [← he]
          simp
        refine ⟨acc ++ us, hD5, by rw [sizeLine_eq, List.length_append, lus]; have : line = 16777216 := rfl; omega, rest, ysd ++ [d], zs, G5, us ++ [w], hr', hzs, ?_, rfl, hlt, ?_, n5, by rw [upd_same, List.append_assoc], ?_⟩
        · rw [← he, List.append_assoc]; rfl
        · rw [but_upd]
          exact s13.trans (s5.rem n5)
        · exact (rus.ex (s3.gg.trans s5.gg)).app (Reps.one rw5)
      · subst hn
        have n5 := s5.fr _ _ hD3 n3
        exact ⟨rest, ysd, zs, G5, us, hr', hzs, he, rfl, hlt, s13.trans (s5.rem n5), n5, s5.hh.at hD3 rfl, rus.ex (s3.gg.trans s5.gg)⟩
theorem en_comp2 {wi wi1 : TI} {g g1 : TG} {te : TE} {vs vs1 : List Nat} {xs zs : List D} {f : D → R (List D)} {b0 : Bool} (hi : EvI K b0 wi z ρ xs) (hf : compGo2 f xs = .ok zs) (hz : zs.length ≤ line)
    (ht : ∀ x ys, x ∈ xs → f x = .ok ys → Turn2 K g wi1 g1 te vs vs1 z ρ x ys) : EvN K (tLc2 wi g tYes wi1 g1 tYes te vs vs1) z ρ zs := fun G σ H R e Q q =>
  hi G σ H R e _ fun J G1 H1 s1 W Dl hD => by
    refine ⟨fun i m H2 => ∃ rest zsd zsr G2 acc, xs.drop i = rest ∧ compGo2 f rest = .ok zsr ∧ zsd ++ zsr = zs ∧ m = rest.length ∧ i ≤ xs.length ∧ Step G1 H1 G2 (but H2 Dl) ∧ G2 Dl = none ∧ H2 Dl = some (.lst acc) ∧ Reps K G2 zsd acc,
      ⟨xs.length, xs, [], zs, G1, [], rfl, hf, rfl, rfl, Nat.zero_le _, by rw [but_upd, but_none hD]; exact Step.refl s1.gh, ex_none s1.gh hD, upd_same, rfl⟩, ?_⟩
    rintro i m H2 ⟨rest, zsd, zsr, G2, acc, hr, hc, he, hm, hi', s2, n2, hacc, racc⟩
    have e2 : Ex G2 H2 := s2.gh.trans Ex.remB
    have wk := W i G2 H2 (wBase_ex.trans s2.gg) e2
    cases rest with
    | nil =>
      have hxi : xs.length ≤ i := by
        have := congrArg List.length hr
        rw [List.length_drop, List.length_nil] at this
        omega
      rw [compGo2] at hc
      cases hc
      rw [List.append_nil] at he
      subst he
      have s2' := s2.upd (o := .lst acc) hD n2
      rw [upd_but hacc] at s2'
      exact .inl ⟨wk.2 hxi, q Dl acc G2 H2 (ex_none s1.hh hD) (s1.trans s2') n2 hacc racc⟩
    | cons x rest =>
      have hxi : xs[i]? = some x := by
        have : (xs.drop i)[0]? = some x := by rw [hr]; rfl
        rw [List.getElem?_drop, Nat.add_zero] at this
        exact this
      have hlt : i < xs.length := (List.getElem?_eq_some_iff.mp hxi).1
      have hr' : xs.drop (i + 1) = rest := by
        have := congrArg (List.drop 1) hr
        rw [List.drop_drop] at this
        rw [this]; rfl
      rw [compGo2] at hc
      obtain ⟨ys, ho, hc⟩ := Pv.R.bind_eq_ok hc
      obtain ⟨ws, hw, hc⟩ := Pv.R.bind_eq_ok hc
      cases hc
      obtain ⟨hgo, hyld⟩ := wk.1 x hxi
      refine .inr ⟨hgo, fun H3 => ∃ rest' zsd zsr G2 acc, xs.drop (i + 1) = rest' ∧ compGo2 f rest' = .ok zsr ∧ zsd ++ zsr = zs ∧ rest.length = rest'.length ∧ i + 1 ≤ xs.length ∧ Step G1 H1 G2 (but H3 Dl) ∧ G2 Dl = none ∧ H3 Dl = some (.lst acc) ∧ Reps K G2 zsd acc, fun H3 hN => ?_, fun v H3 hv => ?_⟩
      · obtain ⟨rest', a, b, c, d, h1, h2, h3, h4, h5⟩ := hN
        exact ⟨rest.length, by rw [hm, List.length_cons]; omega, rest', a, b, c, d, h1, h2, h3, h4, h5⟩
      · obtain ⟨G3, s3, rx⟩ := hyld v H3 hv
        have n3 : G3 Dl = none := s3.fr _ _ hacc n2
        have hD3 : H3 Dl = some (.lst acc) := s3.hh.at hacc rfl
        have s13 := s2.trans (s3.rem n3)
        have la : acc.length + ys.length ≤ line := by
          have l1 : acc.length = zsd.length := racc.len
          have := congrArg List.length he
          simp only [List.length_append] at this
          omega
        refine ht x ys (List.mem_of_getElem? hxi) ho Dl G3 σ H3 v acc n3 hD3 la ((R.mono s1).mono s13) s3.gh rx _ fun G5 H5 us s5 n5 h5 r5 => ?_
        exact ⟨rest, zsd ++ ys, ws, G5, acc ++ us, hr', hw, by rw [← he, List.append_assoc], rfl, hlt, s13.trans s5, n5, h5, (racc.ex (s3.gg.trans s5.gg)).app r5⟩
end
end Pv

end
section
/-! EvG: all(test for x in ..): lists, pairs of two lists. -/
namespace Pv
open PySem PySem.Spec PyProof.Rows L2
variable [Tabs]
open GxR (TabB TabG Tabbed GenS keeps_refl keeps_tok trF trF_some)

theorem no_lt {a b : Nat} (h : b < a) (e : ∃ n, b = a + n) : False := by obtain ⟨n, rfl⟩ := e; omega
section
variable {X : Cx} {pins : List (Addr × Obj)} {σ : L2.St} {H : Hp} {s : Shared}
/-- what the test of an item runs in -/
structure TestIn (X : Cx) (P C : Addr) (base : Heap) (s₂ : Shared) : Prop where
  keep : ∀ b o, b ≠ P → base.get? b = some o → s₂.heap.get? b = some o
  glob : s₂.heap.Ns mainGlobals X.mg
  blt : ∃ mb, s₂.heap.Ns builtinsNs mb ∧ ∀ x : Str, x ≠ "__name__" → mb x = bootBuiltins x
/-- the test of an item -/
def EltV (X : Cx) (P : Addr) (scope : Scope) (x : Str) (elt : Expr) (its : List Value) (base : Heap) (pb : Nat → Bool) : Prop :=
  ∀ (C : Addr) (code : Value) (A' : Around) (E' : Value → Shared → Prop) (i : Nat) (v : Value) (s₂ : Shared) (m₂ : Str → Option Value),
    A'.handled = none → its[i]? = some v → s₂.heap.Ns C m₂ → m₂ x = some v → TestIn X P C base s₂ →
    wpAny (model X.prog X.w) A' (eval elt (genEnv scope (cloFrom X.env.cells scope.names []) C code builtinsNs X.env)) (fun y s₃ => y = .bool (pb i) ∧ Keeps s₂ s₃) E' s₂
def EltW (X : Cx) (P : Addr) (scope : Scope) (xa xb : Str) (elt : Expr) (its1 its2 : List Value) (base : Heap) (pb : Nat → Bool) : Prop :=
  ∀ (C : Addr) (code : Value) (cl : List (Str × Addr)) (A' : Around) (E' : Value → Shared → Prop) (i : Nat) (va vb : Value) (s₂ : Shared) (m₂ : Str → Option Value),
    A'.handled = none → its1[i]? = some va → its2[i]? = some vb → s₂.heap.Ns C m₂ → m₂ xa = some va → m₂ xb = some vb → TestIn X P C base s₂ →
    wpAny (model X.prog X.w) A' (eval elt (genEnv scope cl C code builtinsNs X.env)) (fun y s₃ => y = .bool (pb i) ∧ Keeps s₂ s₃) E' s₂
/-- the generator g, ready to be walked, in the state s5; n tests pb -/
def ReadyV (X : Cx) (pins : List (Addr × Obj)) (σ : L2.St) (H1 : Hp) (P : Addr) (n : Nat) (pb : Nat → Bool) (g : Addr) (s5 : Shared) : Prop :=
  ∃ (fp wr : List Addr) (G : Array GenState → Array GenState → Prop) (F : Nat → Value → Prop) (St : Nat → Shared → Prop),
    WalksS X.prog X.w X.A.in1 g fp wr G n F St ∧ St 0 s5 ∧ TruthOf X.prog X.w X.A.in1 F pb ∧
    ∀ s', Moved wr G s5 s' → ∃ H2, Tabbed P H1 H2 ∧ Inv X pins σ H2 s'

theorem testIn_of {P c C : Addr} {s1 : Shared} {H1 : Hp} {ps : Array Value} {s₂ : Shared} (I1 : Inv X pins σ H1 s1) (TB : TabB X.base X.mg c P) (hPs : s1.heap.get? P = some { cls := .none, data := .fields ps })
    (k : ∀ b o, b ≠ P → s1.heap.get? b = some o → s₂.heap.get? b = some o) : TestIn X P C s1.heap s₂ := by
  have ns : ∀ {b : Addr} {m : Str → Option Value}, s1.heap.Ns b m → s₂.heap.Ns b m := fun {b m} h => by
    obtain ⟨o, es, ep, e, hd, r⟩ := h
    refine ⟨o, es, ep, k b o (fun z => ?_) e, hd, r⟩
    rw [z, hPs] at e
    cases e
    cases hd
  obtain ⟨mb, h1, h2⟩ := I1.mod.blt
  exact ⟨k, ns (I1.mod.glob.keeps I1.bk), mb, ns (h1.keeps I1.bk), h2⟩

theorem gen_lstV {c P : Addr} {elt iter : Expr} {x : Str} {px gpos : Pos} {scope : Scope} {te : TE} {k : Nat} {Q' : Value → Shared → Prop} {R : List V → (Nat → Bool) → Hp → Prop}
    (hr : Room k X.A) (TB : TabB X.base X.mg c P) (hcode : X.env.code = .ref c) (S : GenS X.env scope x) (hi : PE X iter te)
    (hs : ∀ v, genFold iter X.env v = pure v) (I : Inv X pins σ H s) (h : te σ H fun v H1 => ∃ (yl : Addr) (ws : List V) (pb : Nat → Bool), v = .ref yl ∧ SqL X.K H1 yl ws ∧ TabG H1 P ∧ R ws pb H1 ∧
      ∀ (s1 : Shared) (its : List Value), Inv X pins σ H1 s1 → Vals ws its → EltV X P scope x elt its s1.heap pb)
    (hQ : ∀ ws pb H1 g s5, R ws pb H1 → ReadyV X pins σ H1 P ws.length pb g s5 → Q' (.ref g) s5) :
    wpAny (model X.prog X.w) X.A (eval (.GeneratorExp elt [⟨.Name x px, iter, [], 0⟩] scope gpos) X.env) Q' X.xe s := by
  refine wpAny_GeneratorExp_walksQ hr.hd S.co (closure_ok S.free) S.cell S.dot S.loc S.kind (by have := hr.dp; omega) ?_ hs
  refine thn (hi.run pins s σ H _ I h) fun xv s1 ⟨v, H1, I1, r1, q1⟩ => ?_
  obtain ⟨yl, ws, pb, rfl, hyl, ⟨ps, hP, ht⟩, q1, hel⟩ := q1
  obtain rfl : xv = Value.ref yl := r1
  obtain ⟨its, rv, hl, hz⟩ := I1.list hyl
  have hIL := hl.isList
  have hlen : its.length = ws.length := by rw [← rv.length]
  have hel := hel s1 its I1 rv
  refine wpAny_pyIter_list hIL ?_
  generalize ho : ({ cls := .type "list_iterator", data := .fields #[.ref yl, .int 0 0] } : Obj) = o
  have hitr : (s1.heap.push o).IsListIter s1.heap.objs.size yl 0 := by
    subst ho
    exact ⟨_, Heap.get?_push_size _ rfl, rfl, rfl⟩
  have hylt : yl < s1.heap.objs.size := by
    obtain ⟨_, e, _⟩ := _root_.id hIL
    exact Heap.lt_size e
  have hPs : s1.heap.get? P = some { cls := .none, data := .fields ps } := I1.hok P _ hP
  have hPlt : P < s1.heap.objs.size := Heap.lt_size hPs
  have hP2 : (s1.heap.push o).get? P = some { cls := .none, data := .fields ps } := Heap.get?_push_of_some _ hPs
  have cd : PySem.W.CodeHd (s1.heap.push o) c P := TB.code.keeps fun b u e => Heap.get?_push_of_some _ (I1.bk b u e)
  have lim2 : (s1.heap.push o).NoLimit := I1.nolimit.push o
  have cont : ∀ (code : Value) (h3 : Heap) (tk : Nat) (ps' : Array Value), Heap.ExtBut P (s1.heap.push o) h3 → (s1.heap.push o).objs.size ≤ h3.objs.size → h3.get? P = some { cls := .none, data := .fields ps' } → (∃ more, ps' = ps ++ more) → TriplesOk ps'.toList →
      wpAny (model X.prog X.w) X.A (builtinsFor X.env.globals X.env.builtins) (fun bi s₄ =>
        ∃ Ia fp wr n₀ Pf St₀ pz F, Value.ref s1.heap.objs.size = .ref Ia ∧ (∀ A' : Around, A'.handled = none → PySem.Walks X.prog X.w A' Ia fp wr n₀ Pf St₀) ∧ St₀ 0 s₄.heap ∧ (∀ b ∈ fp, b < s₄.heap.objs.size) ∧ s₄.heap.NoLimit ∧ cStatics ∉ wr ∧
          (∀ href : Heap, (∀ b o, s₄.heap.get? b = some o → href.get? b = some o) →
            QuietGen X.prog X.w (genEnv scope (cloFrom X.env.cells scope.names []) s₄.heap.objs.size code bi X.env) x [] elt (List.range s₄.heap.objs.size) wr Pf pz F href) ∧
          (∀ a h₅ tk gs, gs.bare = true → s₄.heap.objs.size < a → h₅.objs.size = a + 1 → (∀ b o, s₄.heap.get? b = some o → h₅.get? b = some o) →
            WalksS X.prog X.w X.A.in4 a (a :: s₄.heap.objs.size :: List.range s₄.heap.objs.size) (s₄.heap.objs.size :: wr) (GenOnlyQ s₄.gens.size) (passing pz n₀ 0).length
              (fun j y => ∃ i, (passing pz n₀ 0)[j]? = some i ∧ F i y) (GenAt X.prog X.w X.A.in4 a s₄.gens.size s₄.heap.objs.size (List.range s₄.heap.objs.size) wr pz n₀ F) →
            GenAt X.prog X.w X.A.in4 a s₄.gens.size s₄.heap.objs.size (List.range s₄.heap.objs.size) wr pz n₀ F 0 { s₄ with gens := s₄.gens.push gs, toks := tk, heap := h₅ } →
            Q' (.ref a) { s₄ with gens := s₄.gens.push gs, toks := tk, heap := h₅ })) X.xe { s1 with heap := h3, toks := tk } := by
    intro code h3 tk ps' hx hsz hP3 hmore ht3
    obtain ⟨bm, ob, e1, e2, e3, e4, e5, e6, e7, e8⟩ := TB.bm
    have hcP : cStatics ≠ P := fun e => by
      obtain ⟨_, hns, _⟩ := I1.nolimit
      obtain ⟨o', es, ep, ho, hd, _⟩ := hns
      rw [e, hPs] at ho
      cases ho
      cases hd
    have hcl : cStatics < s1.heap.objs.size := let ⟨_, hns, _⟩ := I1.nolimit; hns.lt
    have sz2 : (s1.heap.push o).objs.size = s1.heap.objs.size + 1 := Heap.size_push ..
    have keep3 : ∀ b u, b ≠ P → s1.heap.get? b = some u → h3.get? b = some u := fun b u hb e => hx b u hb (Heap.get?_push_of_some _ e)
    refine wpAny_builtinsFor (m := X.mg) (by rw [I1.ok.glob]; exact ((I1.mod.glob.keeps I1.bk).push o).extBut hx TB.gP) e1 e2 (keep3 _ _ e4 (I1.bk _ _ e5)) e6 e7 e8 ?_
    have hylP : yl ≠ P := fun z => by
      obtain ⟨_, e, hc1, _, hd1⟩ := _root_.id hIL
      rw [z, hPs] at e
      cases e
      cases hd1
    have hIL3 : h3.IsList yl its.toArray := by
      obtain ⟨ob, e, r⟩ := _root_.id hIL
      exact ⟨ob, keep3 _ _ hylP e, r⟩
    have hItr3 : h3.IsListIter s1.heap.objs.size yl 0 := hitr.at fun u e => hx _ u (Nat.ne_of_gt hPlt) e
    refine ⟨s1.heap.objs.size, [s1.heap.objs.size, yl], [s1.heap.objs.size], its.toArray.size, (fun i v => its.toArray[i]? = some v), (fun i h => h.IsListIter s1.heap.objs.size yl i ∧ h.IsList yl its.toArray), (fun _ => true),
      (fun i y => y = .bool (pb i)), rfl, (fun A' hA => PySem.Walks.list hA _ _ (Nat.ne_of_lt hylt) _), ⟨hItr3, hIL3⟩, ?_, lim2.extBut hx hcP, ?_, ?_, ?_⟩
    · intro b hb
      rcases List.mem_cons.mp hb with z | z
      · rw [z]
        show s1.heap.objs.size < h3.objs.size
        omega
      · rcases List.mem_cons.mp z with z | z
        · rw [z]
          have e9 : s1.heap.objs.size ≤ h3.objs.size := by omega
          exact Nat.lt_of_lt_of_le hylt e9
        · cases z
    · intro z
      rcases List.mem_cons.mp z with z | z
      · exact Nat.ne_of_lt hcl z
      · cases z
    · intro href hhref
      refine ⟨fun A' E' i v s₂ m₂ hA hPv hn hm hk => ?_, fun A' E' i v s₂ m₂ hA hPv hp hn hm hk => ?_⟩
      · simp only [List.forIn_nil]
        exact wpAny_pure ⟨rfl, keeps_refl _⟩
      · have hv2 : its[i]? = some v := by simpa using hPv
        refine hel h3.objs.size code A' E' i v s₂ m₂ hA hv2 hn hm (testIn_of I1 TB hPs fun b u hb e => ?_)
        have hlb := Heap.lt_size e
        refine hk b (List.mem_range.mpr (Nat.lt_of_lt_of_le hlb (by show s1.heap.objs.size ≤ h3.objs.size; omega))) (fun z => ?_) u (hhref b u (keep3 b u hb e))
        rcases List.mem_cons.mp z with z | z
        · rw [z] at hlb; exact Nat.lt_irrefl _ hlb
        · cases z
    · intro g h5 tk5 gs hgb hag hsz5 hk5 W5 hgat
      simp only [GxR.passing_true, List.length_range] at W5
      have hn5 : its.toArray.size = ws.length := by rw [List.size_toArray, hlen]
      rw [hn5] at W5 hgat
      refine hQ ws pb H1 g _ q1 ⟨_, _, _, _, _, W5.in4_1, hgat, ?_, fun s' hm => ?_⟩
      · intro j y sj Qj Ej hy hQj
        obtain ⟨i, hij, rfl⟩ := hy
        obtain ⟨hj, ej⟩ := List.getElem?_eq_some_iff.mp hij
        rw [List.getElem_range] at ej
        subst ej
        exact wpAny_truthy_bool hQj
      · obtain ⟨more, em⟩ := hmore
        have nwr : ∀ b u, s1.heap.get? b = some u → b ∉ h3.objs.size :: [s1.heap.objs.size] := fun b u e hb => by
          have hl := Heap.lt_size e
          rcases List.mem_cons.mp hb with z | z
          · rw [z] at hl
            have h9 : (h3.objs.size : Nat) < s1.heap.objs.size := hl
            omega
          · rcases List.mem_cons.mp z with z | z
            · rw [z] at hl
              exact Nat.lt_irrefl _ hl
            · cases z
        have J := GxR.inv_tab (more := more) (h' := s'.heap) (g' := s'.gens) (d' := s'.drawn) (t' := s'.toks) I1 hP (fun b u hb e => hm.heap b u (nwr b u e) (hk5 b u (keep3 b u hb e)))
          (by rw [← em]; exact hm.heap P _ (nwr P _ hPs) (hk5 P _ hP3)) (AllBare.movedS (I1.bare.push hgb) hm)
        rw [GxR.sh_eta s1 s' hm.os] at J
        refine ⟨upd H1 P (.tbl (ps ++ more)), ⟨⟨ps ++ more, upd_same, by rw [← em]; exact ht3⟩, fun b hb => upd_ne hb⟩, J⟩
  refine ⟨lim2, ?_⟩
  cases hf : codeAmong gpos ps.toList with
  | none =>
    refine wpAny_genexprCodeX hcode (cd.code hP2 ht) (cd.tab hP2) hf fun c' h' tk hx hge hlt hco' _ htab' _ => ?_
    obtain ⟨o1, vs, f1, tf, fl, tg, inF, tx, tt, op, _, _, _, _, _, _, _, _, _, htr, _⟩ := hco'
    exact cont _ h' tk _ hx (Nat.le_trans hge (Nat.le_of_lt hlt)) htab'.2 ⟨_, rfl⟩ htr
  | some cv =>
    refine wpAny_genexprCode_hit hcode (cd.code hP2 ht) hf ?_
    exact cont cv (s1.heap.push o) s1.toks ps (Heap.ExtBut.refl _ _) (Nat.le_refl _) hP2 ⟨#[], by simp⟩ ht
/-- the generator expression's own scope: two names -/
structure GenS2 (env : PySem.Env) (scope : Scope) (xa xb : Str) : Prop where
  kind : scope.kind = .function
  co : scope.isCoroutine = false
  cell : ∀ y ∈ scope.names, y.2 ≠ .cell
  dot : scope.names.lookup (".0" : Str) = some NameKind.local
  loca : scope.names.lookup xa = some .local
  locb : scope.names.lookup xb = some .local
  ne : xa ≠ xb
  free : ∀ y ∈ scope.names, y.2 = .free → ∃ c, env.cells.lookup y.1 = some c
theorem gen_zipV {c P : Addr} {elt e1 e2 : Expr} {xa xb : Str} {pa pb' pt zp zpos gpos : Pos} {kt : Nat} {scope : Scope} {te : TA} {k : Nat} {Q' : Value → Shared → Prop} {R : List V → List V → (Nat → Bool) → Hp → Prop}
    (hr : Room k X.A) (TB : TabB X.base X.mg c P) (hcode : X.env.code = .ref c) (S : GenS2 X.env scope xa xb) (hgz : Gl X "zip") (hmz : X.mg "zip" = none) (hi : PA X [e1, e2] te)
    (hs : ∀ v, genFold (.Call (.Name "zip" zp) [e1, e2] [] zpos) X.env v = pure v) (hs1 : starEach [e1, e2] X.env = (false, eval e1 X.env) :: starEach [e2] X.env) (hs2 : (backTo zpos (starEach [e2] X.env)).any (·.1) = false)
    (I : Inv X pins σ H s) (h : te σ H fun vs H1 => ∃ (y1 y2 : Addr) (ws us : List V) (pb : Nat → Bool), vs = [.ref y1, .ref y2] ∧ SqL X.K H1 y1 ws ∧ SqL X.K H1 y2 us ∧ TabG H1 P ∧ R ws us pb H1 ∧
      ∀ (s1 : Shared) (its its' : List Value), Inv X pins σ H1 s1 → Vals ws its → Vals us its' → EltW X P scope xa xb elt its its' s1.heap pb)
    (hQ : ∀ ws us pb H1 g s5, R ws us pb H1 → ReadyV X pins σ H1 P (min ws.length us.length) pb g s5 → Q' (.ref g) s5) :
    wpAny (model X.prog X.w) X.A (eval (.GeneratorExp elt [⟨.Tuple [.Name xa pa, .Name xb pb'] kt pt, .Call (.Name "zip" zp) [e1, e2] [] zpos, [], 0⟩] scope gpos) X.env) Q' X.xe s := by
  refine wpAny_GeneratorExp_walksQT hr.hd S.co (closure_ok S.free) S.cell S.dot S.loca S.locb S.ne S.kind (by have := hr.dp; omega) ?_ hs
  refine Call_ (ld_blt I hgz hmz PyProof.Rows.boot_zip (PyProof.Rows.callWith_type1 (thn (hi.run zpos pins s σ H _ I h) fun uvs s1 ⟨vs, H1, I1, r1, q1⟩ => ?_) hs1 hs2))
  obtain ⟨y1, y2, ws, us, pb, ex, hy1, hy2, ⟨ps, hP, ht⟩, q1, hel⟩ := q1
  subst ex
  obtain ⟨v1, v2, rfl, r1, r2⟩ : ∃ v1 v2, uvs = [v1, v2] ∧ RelV (.ref y1) v1 ∧ RelV (.ref y2) v2 := by
    cases r1 with
    | cons a rr =>
      cases rr with
      | cons b rr =>
        cases rr
        exact ⟨_, _, rfl, a, b⟩
  obtain rfl : v1 = Value.ref y1 := r1
  obtain rfl : v2 = Value.ref y2 := r2
  obtain ⟨its, rv, hl, hz⟩ := I1.list hy1
  obtain ⟨its', rv', hl', hz'⟩ := I1.list hy2
  have hIL := hl.isList
  have hIL' := hl'.isList
  have hlen : its.length = ws.length := by rw [← rv.length]
  have hlen' : its'.length = us.length := by rw [← rv'.length]
  have hel := hel s1 its its' I1 rv rv'
  have l1t : y1 < s1.heap.objs.size := by
    obtain ⟨_, e, _⟩ := _root_.id hIL
    exact Heap.lt_size e
  have l2t : y2 < s1.heap.objs.size := by
    obtain ⟨_, e, _⟩ := _root_.id hIL'
    exact Heap.lt_size e
  refine call_zip_2 hIL hIL' fun hz2 hzz hTI hTO hi1 hi2 hzsz hzk => wpAny_pyIter_zip hzz ?_
  have D := PyProof.Rows.zipApart_new (n := s1.heap.objs.size) l1t l2t
  have hL1 : hz2.IsList y1 its.toArray := Heap.IsList.at hIL (fun o e => hzk _ o e)
  have hL2 : hz2.IsList y2 its'.toArray := Heap.IsList.at hIL' (fun o e => hzk _ o e)
  have hPs : s1.heap.get? P = some { cls := .none, data := .fields ps } := I1.hok P _ hP
  have hPlt : P < s1.heap.objs.size := Heap.lt_size hPs
  have hP2 : hz2.get? P = some { cls := .none, data := .fields ps } := hzk _ _ hPs
  have cd : PySem.W.CodeHd hz2 c P := TB.code.keeps fun b u e => hzk _ _ (I1.bk b u e)
  have lim2 : hz2.NoLimit := I1.nolimit.keeps hzk
  have cont : ∀ (code : Value) (h3 : Heap) (tk : Nat) (ps' : Array Value), Heap.ExtBut P hz2 h3 → hz2.objs.size ≤ h3.objs.size → h3.get? P = some { cls := .none, data := .fields ps' } → (∃ more, ps' = ps ++ more) → TriplesOk ps'.toList →
      wpAny (model X.prog X.w) X.A (builtinsFor X.env.globals X.env.builtins) (fun bi s₄ =>
        ∃ Ia fp wr n₀ Pt St₀ Mid pz F, Value.ref (s1.heap.objs.size + 4) = .ref Ia ∧ (∀ A' : Around, A'.handled = none → WalksU X.prog X.w A' Ia fp wr n₀ Pt St₀ Mid) ∧ (∀ i vals, Pt i vals → ∃ va vb, vals = #[va, vb]) ∧ St₀ 0 s₄.heap ∧ (∀ b ∈ fp, b < s₄.heap.objs.size) ∧ s₄.heap.NoLimit ∧ cStatics ∉ wr ∧
          (∀ href : Heap, (∀ b o, s₄.heap.get? b = some o → href.get? b = some o) →
            QuietGenT X.prog X.w (genEnv scope (cloFrom X.env.cells scope.names []) s₄.heap.objs.size code bi X.env) xa xb [] elt (List.range s₄.heap.objs.size) wr Pt pz F href) ∧
          (∀ a h₅ tk gs, gs.bare = true → s₄.heap.objs.size < a → h₅.objs.size = a + 1 → (∀ b o, s₄.heap.get? b = some o → h₅.get? b = some o) →
            WalksS X.prog X.w X.A.in4 a (a :: s₄.heap.objs.size :: List.range s₄.heap.objs.size) (s₄.heap.objs.size :: wr) (GenOnlyQ s₄.gens.size) (passing pz n₀ 0).length
              (fun j y => ∃ i, (passing pz n₀ 0)[j]? = some i ∧ F i y) (GenAt X.prog X.w X.A.in4 a s₄.gens.size s₄.heap.objs.size (List.range s₄.heap.objs.size) wr pz n₀ F) →
            GenAt X.prog X.w X.A.in4 a s₄.gens.size s₄.heap.objs.size (List.range s₄.heap.objs.size) wr pz n₀ F 0 { s₄ with gens := s₄.gens.push gs, toks := tk, heap := h₅ } →
            Q' (.ref a) { s₄ with gens := s₄.gens.push gs, toks := tk, heap := h₅ })) X.xe { s1 with heap := h3, toks := tk } := by
    intro code h3 tk ps' hx hsz hP3 hmore ht3
    obtain ⟨bm, ob, e1, e2, e3, e4, e5, e6, e7, e8⟩ := TB.bm
    have hcP : cStatics ≠ P := fun e => by
      obtain ⟨_, hns, _⟩ := I1.nolimit
      obtain ⟨o', es, ep, ho, hd, _⟩ := hns
      rw [e, hPs] at ho
      cases ho
      cases hd
    have hcl : cStatics < s1.heap.objs.size := let ⟨_, hns, _⟩ := I1.nolimit; hns.lt
    have sz2 : hz2.objs.size = s1.heap.objs.size + 5 := hzsz
    have keep3 : ∀ b u, b ≠ P → s1.heap.get? b = some u → h3.get? b = some u := fun b u hb e => hx b u hb (hzk _ _ e)
    refine wpAny_builtinsFor (m := X.mg) (by rw [I1.ok.glob]; exact ((I1.mod.glob.keeps I1.bk).keeps hzk).extBut hx TB.gP) e1 e2 (keep3 _ _ e4 (I1.bk _ _ e5)) e6 e7 e8 ?_
    have neP : ∀ n, s1.heap.objs.size ≤ n → n ≠ P := fun n hn => Nat.ne_of_gt (Nat.lt_of_lt_of_le hPlt hn)
    have k3 : ∀ b u, b ≠ P → hz2.get? b = some u → h3.get? b = some u := fun b u hb e => hx b u hb e
    have lP : ∀ (y : Addr) (vs : Array Value), hz2.IsList y vs → y ≠ P := fun y vs h z => by
      obtain ⟨_, e, hc1, _, hd1⟩ := h
      rw [z, hP2] at e
      cases e
      cases hd1
    have st0 : IsZip h3 (s1.heap.objs.size + 4) (s1.heap.objs.size + 2) (s1.heap.objs.size + 3) .none ∧ IsPair h3 (s1.heap.objs.size + 2) (.ref s1.heap.objs.size) (.ref (s1.heap.objs.size + 1)) ∧ (∃ a b, IsPair h3 (s1.heap.objs.size + 3) a b) ∧
        h3.IsListIter s1.heap.objs.size y1 0 ∧ h3.IsListIter (s1.heap.objs.size + 1) y2 0 ∧ h3.IsList y1 its.toArray ∧ h3.IsList y2 its'.toArray :=
      ⟨k3 _ _ (neP _ (Nat.le_add_right _ 4)) hzz, k3 _ _ (neP _ (Nat.le_add_right _ 2)) hTI, ⟨_, _, k3 _ _ (neP _ (Nat.le_add_right _ 3)) hTO⟩, hi1.at fun u e => k3 _ u (neP _ (Nat.le_refl _)) e, hi2.at fun u e => k3 _ u (neP _ (Nat.le_add_right _ 1)) e,
        Heap.IsList.at hL1 fun u e => k3 _ u (lP _ _ hL1) e, Heap.IsList.at hL2 fun u e => k3 _ u (lP _ _ hL2) e⟩
    refine ⟨s1.heap.objs.size + 4, _, _, _, _, _, _, (fun _ => true), (fun i y => y = .bool (pb i)), rfl, (fun A' hA => (WalksT.zip2 (prog := X.prog) (w := X.w) hA (s1.heap.objs.size + 4) (s1.heap.objs.size + 2) (s1.heap.objs.size + 3) s1.heap.objs.size (s1.heap.objs.size + 1) y1 y2 D its.toArray its'.toArray).toU),
      (fun i vals hv => by obtain ⟨x, y, _, _, e⟩ := hv; exact ⟨x, y, e⟩), st0, ?_, lim2.extBut hx hcP, ?_, ?_, ?_⟩
    · intro b hb
      show b < h3.objs.size
      simp only [List.mem_cons, List.not_mem_nil, or_false] at hb
      have e9 : s1.heap.objs.size + 5 ≤ h3.objs.size := by omega
      rcases hb with rfl | rfl | rfl | rfl | rfl | rfl | rfl
      · exact Nat.lt_of_lt_of_le (Nat.add_lt_add_left (by decide) _) e9
      · exact Nat.lt_of_lt_of_le (Nat.add_lt_add_left (by decide) _) e9
      · exact Nat.lt_of_lt_of_le (Nat.add_lt_add_left (by decide) _) e9
      · exact Nat.lt_of_lt_of_le (Nat.lt_add_of_pos_right (by decide)) e9
      · exact Nat.lt_of_lt_of_le (Nat.add_lt_add_left (by decide) _) e9
      · exact Nat.lt_of_lt_of_le (Nat.lt_of_lt_of_le l1t (Nat.le_add_right _ 5)) e9
      · exact Nat.lt_of_lt_of_le (Nat.lt_of_lt_of_le l2t (Nat.le_add_right _ 5)) e9
    · intro hb
      simp only [List.mem_cons, List.not_mem_nil, or_false] at hb
      rcases hb with z | z | z | z <;> (rw [z] at hcl; first | exact no_lt hcl ⟨_, rfl⟩ | exact Nat.lt_irrefl _ hcl)
    · intro href hhref
      refine ⟨fun A' E' i va vb s₂ m₂ hA hPv hn hm hm2 hk => ?_, fun A' E' i va vb s₂ m₂ hA hPv hp hn hm hm2 hk => ?_⟩
      · simp only [List.forIn_nil]
        exact wpAny_pure ⟨rfl, keeps_refl _⟩
      · obtain ⟨x, y, hx1, hx2, exy⟩ := hPv
        obtain ⟨rfl, rfl⟩ : va = x ∧ vb = y := by simpa using congrArg Array.toList exy
        refine hel h3.objs.size code (cloFrom X.env.cells scope.names []) A' E' i va vb s₂ m₂ hA (by simpa using hx1) (by simpa using hx2) hn hm hm2 (testIn_of I1 TB hPs fun b u hb e => ?_)
        have hlb := Heap.lt_size e
        refine hk b (List.mem_range.mpr (Nat.lt_of_lt_of_le hlb (by show s1.heap.objs.size ≤ h3.objs.size; omega))) (fun z => ?_) u (hhref b u (keep3 b u hb e))
        simp only [List.mem_cons, List.not_mem_nil, or_false] at z
        rcases z with z | z | z | z <;> (rw [z] at hlb; first | exact no_lt hlb ⟨_, rfl⟩ | exact Nat.lt_irrefl _ hlb)
    · intro g h5 tk5 gs hgb hag hsz5 hk5 W5 hgat
      simp only [GxR.passing_true, List.length_range] at W5
      have hn5 : min its.toArray.size its'.toArray.size = min ws.length us.length := by rw [List.size_toArray, List.size_toArray, hlen, hlen']
      rw [hn5] at W5 hgat
      refine hQ ws us pb H1 g _ q1 ⟨_, _, _, _, _, W5.in4_1, hgat, ?_, fun s' hm => ?_⟩
      · intro j y sj Qj Ej hy hQj
        obtain ⟨i, hij, rfl⟩ := hy
        obtain ⟨hj, ej⟩ := List.getElem?_eq_some_iff.mp hij
        rw [List.getElem_range] at ej
        subst ej
        exact wpAny_truthy_bool hQj
      · obtain ⟨more, em⟩ := hmore
        have nwr : ∀ b u, s1.heap.get? b = some u → b ∉ h3.objs.size :: [s1.heap.objs.size + 4, s1.heap.objs.size + 3, s1.heap.objs.size, s1.heap.objs.size + 1] := fun b u e hb => by
          have hl := Heap.lt_size e
          simp only [List.mem_cons, List.not_mem_nil, or_false] at hb
          rcases hb with z | z | z | z | z
          · rw [z] at hl
            have h9 : (h3.objs.size : Nat) < s1.heap.objs.size := hl
            omega
          all_goals (rw [z] at hl; first | exact no_lt hl ⟨_, rfl⟩ | exact Nat.lt_irrefl _ hl)
        have J := GxR.inv_tab (more := more) (h' := s'.heap) (g' := s'.gens) (d' := s'.drawn) (t' := s'.toks) I1 hP (fun b u hb e => hm.heap b u (nwr b u e) (hk5 b u (keep3 b u hb e)))
          (by rw [← em]; exact hm.heap P _ (nwr P _ hPs) (hk5 P _ hP3)) (AllBare.movedS (I1.bare.push hgb) hm)
        rw [GxR.sh_eta s1 s' hm.os] at J
        refine ⟨upd H1 P (.tbl (ps ++ more)), ⟨⟨ps ++ more, upd_same, by rw [← em]; exact ht3⟩, fun b hb => upd_ne hb⟩, J⟩
  refine ⟨lim2, ?_⟩
  cases hf : codeAmong gpos ps.toList with
  | none =>
    refine wpAny_genexprCodeX hcode (cd.code hP2 ht) (cd.tab hP2) hf fun c' h' tk hx hge hlt hco' _ htab' _ => ?_
    obtain ⟨o1, vs, f1, tf, fl, tg, inF, tx, tt, op, _, _, _, _, _, _, _, _, _, htr, _⟩ := hco'
    exact cont _ h' tk _ hx (Nat.le_trans hge (Nat.le_of_lt hlt)) htab'.2 ⟨_, rfl⟩ htr
  | some cv =>
    refine wpAny_genexprCode_hit hcode (cd.code hP2 ht) hf ?_
    exact cont cv hz2 s1.toks ps (Heap.ExtBut.refl _ _) (Nat.le_refl _) hP2 ⟨#[], by simp⟩ ht

/-! ### the test of an item -/
theorem elt_min {P : Addr} {scope : Scope} {x : Str} {its : List Value} {base : Heap} {pb : Nat → Bool} {p1 p2 p3 p4 p5 : Pos} {j : Nat} (hk : scope.kind = .function) (hl : scope.names.lookup x = some .local) (hm : scope.names.lookup ("min" : Str) = some .globalImplicit) (hge : X.env.globals = mainGlobals)
    (hmm : X.mg "min" = none) (hd : (x == ("__debug__" : Str)) = false)
    (hv : ∀ i v, its[i]? = some v → ∃ (T : Addr) (ts : List Value) (a b : Int), v = .ref T ∧ T ≠ P ∧ base.IsTuple T ts.toArray ∧ IntsAre ts [a, b] ∧ pb i = (decide (0 ≤ a) && decide (0 ≤ b))) :
    EltV X P scope x (.Compare (.Call (.Name "min" p1) [.Name x p2] [] p3) [.GtE] [.Constant (.int 0) j p4] p5) its base pb := by
  intro C code A' E' i v s₂ m₂ hA hi hn hmx TI
  obtain ⟨T, ts, a, b, rfl, nP, hT, hI, hp⟩ := hv i v hi
  obtain ⟨mb, hb1, hb2⟩ := TI.blt
  refine wpAny_Compare1 (Call_ (Calls.Name_function_global hk hm (Calls.loadGlobal_builtin (by show s₂.heap.Ns X.env.globals _; rw [hge]; exact TI.glob) hmm hb1 ((hb2 _ (by decide)).trans boot_min) ?_)))
  refine PyProof.Rows.callWith_builtin1 (args_cons (wpAny_Name (wpAny_loadName_local hk hl hn hmx ?_) hd))
  refine args_nil ?_
  have hT2 : s₂.heap.IsTuple T ts.toArray := by
    obtain ⟨o, e, r⟩ := hT
    exact ⟨o, TI.keep T o nP e, r⟩
  refine min_rawT hA hT2 hI (by show 0 < 2; decide) fun h' tk M t' hk1 h1 h2 => ?_
  refine wpAny_Constant_int ?_
  refine PyProof.Rows.ge_int ?_
  refine ⟨?_, h', _, rfl, hk1⟩
  rw [hp]
  congr 1
  have ha := h2 a (by simp)
  have hb := h2 b (by simp)
  by_cases c : 0 ≤ M
  · have c1 : 0 ≤ a := by omega
    have c2 : 0 ≤ b := by omega
    simp [c, c1, c2]
  · simp only [List.mem_cons, List.not_mem_nil, or_false] at h1
    rcases h1 with h1 | h1
    · rw [← h1]; simp [c]
    · rw [← h1]; simp [c]
theorem elt_lt {P : Addr} {scope : Scope} {xa xb : Str} {its its' : List Value} {base : Heap} {pb : Nat → Bool} {p1 p2 p3 : Pos} (hk : scope.kind = .function) (hl : scope.names.lookup xa = some .local) (hl' : scope.names.lookup xb = some .local)
    (hd : (xa == ("__debug__" : Str)) = false) (hd' : (xb == ("__debug__" : Str)) = false)
    (hv : ∀ i v v', its[i]? = some v → its'[i]? = some v' → ∃ (a b : Int) (t t' : Tok), v = .int a t ∧ v' = .int b t' ∧ pb i = decide (a < b)) :
    EltW X P scope xa xb (.Compare (.Name xa p1) [.Lt] [.Name xb p2] p3) its its' base pb := by
  intro C code cl A' E' i va vb s₂ m₂ hA hi hi' hn hma hmb TI
  obtain ⟨a, b, t, t', rfl, rfl, hp⟩ := hv i va vb hi hi'
  refine wpAny_Compare1 (wpAny_Name (wpAny_loadName_local hk hl hn hma ?_) hd)
  refine wpAny_Name (wpAny_loadName_local hk hl' hn hmb ?_) hd'
  refine PyProof.Rows.lt_int ⟨?_, keeps_refl _⟩
  rw [hp]
/-- x % n == 0, n a name of the def -/
theorem elt_mod {P : Addr} {scope : Scope} {x n : Str} {its : List Value} {base : Heap} {pb : Nat → Bool} {p1 p2 p3 p4 p5 : Pos} {j : Nat} {c : Addr} {k : Int} {kt : Tok} (hk : scope.kind = .function) (hl : scope.names.lookup x = some .local) (hf : scope.names.lookup n = some .free)
    (hd : (x == ("__debug__" : Str)) = false) (hdn : (n == ("__debug__" : Str)) = false) (hcd : (n == ("__classdict__" : Str)) = false) (hc : (cloFrom X.env.cells scope.names []).lookup n = some c) (hcell : base.IsCell c (some (.int k kt))) (hcP : c ≠ P) (hk0 : 0 < k)
    (hv : ∀ i v, its[i]? = some v → ∃ (a : Int) (t : Tok), v = .int a t ∧ pb i = (a % k == 0)) :
    EltV X P scope x (.Compare (.BinOp (.Name x p1) .Mod (.Name n p2) p3) [.Eq] [.Constant (.int 0) j p4] p5) its base pb := by
  intro C code A' E' i v s₂ m₂ hA hi hn hmx TI
  obtain ⟨a, t, rfl, hp⟩ := hv i v hi
  have hcell2 : s₂.heap.IsCell c (some (.int k kt)) := by
    obtain ⟨o, e, r⟩ := hcell
    exact ⟨o, TI.keep c o hcP e, r⟩
  refine wpAny_Compare1 (wpAny_BinOp (wpAny_Name (wpAny_loadName_local hk hl hn hmx ?_) hd))
  refine wpAny_Name (wpAny_loadName_free hk (show scope.names.lookup n = some .free from hf) hc hcell2 ?_ hcd) hdn
  refine PyProof.Rows.mod_int (by omega) ?_
  refine wpAny_Constant_int ?_
  refine PyProof.Rows.eq_int ⟨?_, keeps_tok _ _⟩
  rw [hp, Int.fmod_eq_emod_of_nonneg _ (by omega)]
/-- '0' <= x <= '9' -/
theorem elt_dig {scope : Scope} {x : Str} {j j' : Nat} {p1 p2 p3 p4 : Pos} (hk : scope.kind = .function) (hl : scope.names.lookup x = some .local) (hd : (x == ("__debug__" : Str)) = false) :
    GxR.EltP X.prog X.w scope x (.Compare (.Constant (.str "0") j p1) [.LtE, .LtE] [.Name x p2, .Constant (.str "9") j' p3] p4) (fun c => decide (48 ≤ c) && decide (c ≤ 57)) := by
  intro cenv A' E' c t s₂ m₂ hs hn hm
  refine Compare_chain (Calls.Constant_str (chain_link (wpAny_Name (wpAny_loadName_local (by rw [hs]; exact hk) (show cenv.scope.names.lookup x = some .local by rw [hs]; exact hl) hn hm ?_) hd)))
  refine PySem.P.le_str ?_
  refine wpAny_truthy_bool ?_
  have e0 : (Str.ofString "0").cps.toList = [48] := by decide +kernel
  have e9 : (Str.ofString "9").cps.toList = [57] := by decide +kernel
  have k1 : (!decide ((⟨#[c]⟩ : Str).cps.toList < (Str.ofString "0").cps.toList)) = decide (48 ≤ c) := by
    rw [e0]
    show (!decide ([c] < [48])) = _
    by_cases h : c < 48
    · have : ¬ 48 ≤ c := by omega
      simp [this, List.cons_lt_cons_iff, h]
    · have : 48 ≤ c := by omega
      simp [this, List.cons_lt_cons_iff, h]
  have k2 : (!decide ((Str.ofString "9").cps.toList < (⟨#[c]⟩ : Str).cps.toList)) = decide (c ≤ 57) := by
    rw [e9]
    show (!decide ([57] < [c])) = _
    by_cases h : 57 < c
    · have : ¬ c ≤ 57 := by omega
      simp [this, List.cons_lt_cons_iff, h]
    · have : c ≤ 57 := by omega
      simp [this, List.cons_lt_cons_iff, h]
  rw [k1]
  cases q : decide (48 ≤ c) with
  | false => exact ⟨by show Value.bool false = Value.bool (decide (48 ≤ c) && decide (c ≤ 57)); rw [q]; rfl, keeps_tok _ _⟩
  | true =>
    refine chain_last (Calls.Constant_str (PySem.P.le_str ⟨?_, keeps_tok _ _⟩))
    show Value.bool _ = Value.bool (decide (48 ≤ c) && decide (c ≤ 57))
    rw [k2, q]; rfl
end

/-! ### all(..) over data -/
theorem Ex.tabbed {H1 H2 : Hp} {P : Addr} (h : TabG H1 P) (t : Tabbed P H1 H2) : Ex H1 H2 := fun a o e => by
  by_cases ha : a = P
  · subst ha
    obtain ⟨ps, h1, h2⟩ := h
    obtain ⟨⟨qs, h3, h4⟩, _⟩ := t
    rw [h1] at e
    cases e
    exact .inr (.inl ⟨ps, qs, rfl, h3, fun _ => h4⟩)
  · exact .inl ((t.2 a ha).trans e)
def pbD (g : GT) (ds : List D) (i : Nat) : Bool := match ds[i]? with
  | some x => (gt1 g x).getD false
  | none => false
theorem gtAll_ok {g : GT} : ∀ {ds : List D} {d : D}, gtAll g ds = .ok d → d = .bl ((List.range ds.length).all (pbD g ds)) ∧ ∀ (i : Nat) (x : D), ds[i]? = some x → gt1 g x = some (pbD g ds i)
  | [], d, h => by cases h; exact ⟨rfl, fun i x e => by simp at e⟩
  | x :: xs, d, h => by
    rw [gtAll] at h
    obtain ⟨b, h1, h⟩ := Pv.R.bind_eq_ok h
    obtain ⟨c, h2, h⟩ := Pv.R.bind_eq_ok h
    obtain ⟨h3, h4⟩ := gtAll_ok h2
    subst h3
    cases h
    have e1 := Pv.R.ofO_ok h1
    have p0 : pbD g (x :: xs) 0 = b := by
      show (gt1 g x).getD false = b
      rw [e1]; rfl
    have ps : ∀ i, pbD g (x :: xs) (i + 1) = pbD g xs i := fun i => rfl
    refine ⟨?_, fun i y e => ?_⟩
    · rw [List.length_cons, List.range_succ_eq_map, List.all_cons, p0, List.all_map]
      congr 2
    · cases i with
      | zero =>
        have : x = y := by simpa using e
        subst this
        rw [p0]; exact e1
      | succ i =>
        rw [ps]
        exact h4 i y (by simpa using e)

section
variable {X : Cx} {z : Nat → Bool} {ρ : Env}
theorem ints2 {K : PySem.W.Frag} {H : Hp} {x : D} {v : V} {a b : Int} (r : Rep K H (.tup [.int a, .int b]) v) : ∃ T, v = .ref T ∧ SqT K H T [.int a, .int b] := by
  obtain ⟨T, xs, e, h, r⟩ := r
  obtain ⟨v1, v2, rfl, r1, r2⟩ := reps2 r
  cases (show v1 = V.int a from r1)
  cases (show v2 = V.int b from r2)
  exact ⟨T, e, h⟩
theorem gt1_min {x : D} {b : Bool} (h : gt1 .minGe x = some b) : ∃ i j, x = .tup [.int i, .int j] ∧ b = (decide (0 ≤ i) && decide (0 ≤ j)) :=
  match x, h with
  | .tup [.int i, .int j], h => by cases h; exact ⟨i, j, rfl, rfl⟩
theorem gt1_lt {x : D} {b : Bool} (h : gt1 .lt x = some b) : ∃ i j, x = .tup [.int i, .int j] ∧ b = decide (i < j) :=
  match x, h with
  | .tup [.int i, .int j], h => by cases h; exact ⟨i, j, rfl, rfl⟩
theorem gt1_dig {x : D} {b : Bool} (h : gt1 .dig x = some b) : ∃ c, x = .str [c] ∧ b = (decide (48 ≤ c) && decide (c ≤ 57)) :=
  match x, h with
  | .str [c], h => by cases h; exact ⟨c, rfl, rfl⟩
/-- the running def holds a generator expression: its code object and its table are told -/
def HasTab (X : Cx) (c P : Addr) : Prop := X.env.code = .ref c ∧ (c, P) ∈ Tabs.ts ∧ TabB X.base X.mg c P
theorem ed_allMin {e : Expr} {scope : Scope} {x : Str} {px p pos gpos p1 p2 p3 p4 p5 : Pos} {j k : Nat} {c P : Addr} {ds : List D} {d : D}
    (hr : Room k X.A) (hg : Gl X "all") (hm : X.mg "all" = none) (T : HasTab X c P) (S : GenS X.env scope x) (hmi : scope.names.lookup ("min" : Str) = some .globalImplicit) (hmm : X.mg "min" = none) (hd : (x == ("__debug__" : Str)) = false)
    (hs : ∀ v, genFold e X.env v = pure v) (hv : EvD X.K (wE X e) z ρ (.lst ds)) (hgt : gtAll .minGe ds = .ok d) :
    EvD X.K (wE X (.Call (.Name "all" p) [.GeneratorExp (.Compare (.Call (.Name "min" p1) [.Name x p2] [] p3) [.GtE] [.Constant (.int 0) j p4] p5) [⟨.Name x px, e, [], 0⟩] scope gpos] [] pos)) z ρ d := by
  obtain ⟨rfl, hpb⟩ := gtAll_ok hgt
  intro G σ H R ex Q q pins s I
  refine wpAny_Call_Name_kw (ld_blt I hg hm boot_all ?_)
  have he : starEach [.GeneratorExp (.Compare (.Call (.Name "min" p1) [.Name x p2] [] p3) [.GtE] [.Constant (.int 0) j p4] p5) [⟨.Name x px, e, [], 0⟩] scope gpos] X.env = (false, eval (.GeneratorExp (.Compare (.Call (.Name "min" p1) [.Name x p2] [] p3) [.GtE] [.Constant (.int 0) j p4] p5) [⟨.Name x px, e, [], 0⟩] scope gpos) X.env) :: starEach [] X.env := by rfl
  refine PyProof.Rows.callWith_builtin1 ?_ he (by rfl)
  rw [he]
  refine Calls.spliced_cons (gen_lstV (te := wE X e) (R := fun ws pb H1 => ws.length = ds.length ∧ pb = pbD .minGe ds ∧ TabG H1 P ∧ ∃ G1, Step G H G1 H1) hr T.2.2 T.1 S (peW e) hs I (hv G σ H R ex _ fun u G1 H1 s1 r1 => ?_) fun ws pb H1 g s5 hR hG => ?_)
  · obtain ⟨a, xs, rfl, h1, q1⟩ := r1
    have tb : TabG H1 P := ((R.tabs.ex s1.gg).ex s1.gh) _ T.2.1
    refine ⟨a, xs, pbD .minGe ds, rfl, .of (s1.gh.at h1 rfl), tb, ⟨q1.len, rfl, tb, G1, s1⟩, fun sX its IX rv => ?_⟩
    refine elt_min S.kind S.loc hmi IX.ok.glob hmm hd fun i v hi => ?_
    have hi2 : i < xs.length := by
      have := (List.getElem?_eq_some_iff.mp hi).1
      rw [← rv.length] at this
      exact this
    obtain ⟨d, hdi⟩ : ∃ d, ds[i]? = some d := ⟨ds[i]'(by rw [← q1.len]; exact hi2), List.getElem?_eq_getElem _⟩
    obtain ⟨w, hw, rw_⟩ := q1.get hdi
    obtain ⟨u, hu, ru⟩ := rv.get hw
    rw [hi] at hu
    cases hu
    obtain ⟨a', b', rfl, hb⟩ := gt1_min (hpb i d hdi)
    obtain ⟨Tt, rfl, hT⟩ := ints2 (x := .non) rw_
    obtain ⟨ts, rt, ht, _⟩ := IX.tuple (ex_t s1.gh hT)
    obtain rfl : v = Value.ref Tt := ru
    refine ⟨Tt, ts, a', b', rfl, fun zz => ?_, ht, rt.ints (ns := [a', b']), hb⟩
    obtain ⟨ps, hps, _⟩ := tb
    have hP := IX.hok P _ hps
    obtain ⟨o, eo, _, _, hd3⟩ := ht
    rw [zz, hP] at eo
    cases eo
    cases hd3
  · obtain ⟨hlen, rfl, tb, G1, s1⟩ := hR
    obtain ⟨fp, wr, G', F, St, W, hst, htr, hI⟩ := hG
    refine Calls.spliced_nil ?_
    refine call_all_walkS (W.self 0 _ _ _ hst ⟨g, fp, wr, G', _, F, St, _, rfl, W, hst, htr, fun s' hmv => ?_⟩)
    obtain ⟨H2, hT, J⟩ := hI s' hmv
    have e12 := Ex.tabbed tb hT
    refine ⟨.bl _, H2, J, rfl, ?_⟩
    rw [hlen]
    exact q _ G1 H2 ⟨s1.gg, s1.gh.trans e12, s1.hh.trans e12, s1.fr⟩ rfl
theorem ed_allMod {e : Expr} {scope : Scope} {x n : Str} {px p pos gpos p1 p2 p3 p4 p5 : Pos} {j k i : Nat} {c P : Addr} {ds : List D} {ns : List Int} {m : Int}
    (hr : Room k X.A) (hg : Gl X "all") (hm : X.mg "all" = none) (T : HasTab X c P) (S0 : X.Ok → GenS X.env scope x) (hd : (x == ("__debug__" : Str)) = false) (hN : X.N[i]? = some n) (hvis : X.env.scope.names.lookup n = some .cell) (hf : scope.names.lookup n = some .free) (hfm : (n, NameKind.free) ∈ scope.names)
    (hdn : (n == ("__debug__" : Str)) = false) (hcd : (n == ("__classdict__" : Str)) = false)
    (hs : ∀ v, genFold e X.env v = pure v) (hv : EvD X.K (wE X e) z ρ (.lst ds)) (hi : Pv.intsOf ds = some ns) (h0 : 0 < m) (hρ : ρ[i]? = some (.val (.int m))) :
    EvD X.K (wE X (.Call (.Name "all" p) [.GeneratorExp (.Compare (.BinOp (.Name x p1) .Mod (.Name n p2) p3) [.Eq] [.Constant (.int 0) j p4] p5) [⟨.Name x px, e, [], 0⟩] scope gpos] [] pos)) z ρ (.bl (ns.all fun a => a % m == 0)) := by
  intro G σ H R ex Q q pins s I
  refine wpAny_Call_Name_kw (ld_blt I hg hm boot_all ?_)
  have he : starEach [.GeneratorExp (.Compare (.BinOp (.Name x p1) .Mod (.Name n p2) p3) [.Eq] [.Constant (.int 0) j p4] p5) [⟨.Name x px, e, [], 0⟩] scope gpos] X.env = (false, eval (.GeneratorExp (.Compare (.BinOp (.Name x p1) .Mod (.Name n p2) p3) [.Eq] [.Constant (.int 0) j p4] p5) [⟨.Name x px, e, [], 0⟩] scope gpos) X.env) :: starEach [] X.env := by rfl
  refine PyProof.Rows.callWith_builtin1 ?_ he (by rfl)
  rw [he]
  have look : look z ρ i = .ok (.int m) := by unfold look; rw [hρ]
  have S := S0 I.ok
  refine Calls.spliced_cons (gen_lstV (te := wE X e) (R := fun ws pb H1 => ws.length = ns.length ∧ (∀ i a, ns[i]? = some a → pb i = (a % m == 0)) ∧ TabG H1 P ∧ ∃ G1, Step G H G1 H1) hr T.2.2 T.1 S (peW e) hs I (hv G σ H R ex _ fun u G1 H1 s1 r1 => ?_) fun ws pb H1 g s5 hR hG => ?_)
  · obtain ⟨a, xs, rfl, h1, q1⟩ := r1
    have tb : TabG H1 P := ((R.tabs.ex s1.gg).ex s1.gh) _ T.2.1
    have hx := q1.ints hi
    subst hx
    refine ⟨a, ns.map V.int, fun i => (ns.map fun a => a % m == 0).getD i false, rfl, .of (s1.gh.at h1 rfl), tb, ⟨by simp, fun i a e => by
      show ((ns.map fun a => a % m == 0).getD i false) = _
      rw [List.getD_eq_getElem?_getD, List.getElem?_map, e]; rfl, tb, G1, s1⟩, fun sX its IX rv => ?_⟩
    obtain ⟨v, hσ, rm⟩ := R.get i _ look
    cases (show v = V.int m from rm)
    obtain ⟨mm, hmm, hloc⟩ := IX.loc
    obtain ⟨u, ru, hlook⟩ := hloc i n _ hN hσ (.inr (.inl hvis))
    obtain ⟨t, rfl⟩ := ru
    have hkc : X.env.kindOf n = some .cell := hvis
    rcases hlook with ⟨w1, _⟩ | ⟨_, c1, hc1, hcell⟩
    · rw [hkc] at w1; cases w1
    have hcP : c1 ≠ P := fun zz => by
      obtain ⟨ps, hps, _⟩ := tb
      have hP := IX.hok P _ hps
      obtain ⟨o, eo, hd3⟩ := hcell
      rw [zz, hP] at eo
      cases eo
      cases hd3
    refine elt_mod S.kind S.loc hf hd hdn hcd (NdefX.clo_has S.free hfm hc1) hcell hcP h0 fun i v hi => ?_
    have hi2 : i < ns.length := by
      have := (List.getElem?_eq_some_iff.mp hi).1
      rw [← rv.length, List.length_map] at this
      exact this
    obtain ⟨u, hu, ru⟩ := rv.get (show (ns.map V.int)[i]? = some (V.int ns[i]) by rw [List.getElem?_map, List.getElem?_eq_getElem hi2]; rfl)
    rw [hi] at hu
    cases hu
    obtain ⟨t2, rfl⟩ := ru
    refine ⟨ns[i], t2, rfl, ?_⟩
    show ((ns.map fun a => a % m == 0).getD i false) = _
    rw [List.getD_eq_getElem?_getD, List.getElem?_map, List.getElem?_eq_getElem hi2]; rfl
  · obtain ⟨hlen, hpb, tb, G1, s1⟩ := hR
    obtain ⟨fp, wr, G', F, St, W, hst, htr, hI⟩ := hG
    refine Calls.spliced_nil ?_
    refine call_all_walkS (W.self 0 _ _ _ hst ⟨g, fp, wr, G', _, F, St, _, rfl, W, hst, htr, fun s' hmv => ?_⟩)
    obtain ⟨H2, hT, J⟩ := hI s' hmv
    have e12 := Ex.tabbed tb hT
    refine ⟨.bl _, H2, J, rfl, ?_⟩
    have ea : (List.range ws.length).all pb = ns.all fun a => a % m == 0 := by
      rw [hlen, Bool.eq_iff_iff, List.all_eq_true, List.all_eq_true]
      constructor
      · intro w a ha
        obtain ⟨k, hk, e⟩ := List.getElem_of_mem ha
        have := w k (List.mem_range.mpr hk)
        rw [hpb k a (by rw [List.getElem?_eq_getElem hk, e])] at this
        exact this
      · intro w k hk
        have hk := List.mem_range.mp hk
        rw [hpb k ns[k] (List.getElem?_eq_getElem hk)]
        exact w _ (List.getElem_mem hk)
    rw [ea]
    exact q _ G1 H2 ⟨s1.gg, s1.gh.trans e12, s1.hh.trans e12, s1.fr⟩ rfl
/-! min(.., default=0) of ints -/
def least0 : List Int → Int
  | [] => 0
  | m :: r => minL m r
def rMinD (K : PySem.W.Frag) : List V → List V → Hp → VK → Prop := fun vs zs H Q => ∃ (a : Addr) (ns : List Int), vs = [V.ref a] ∧ zs = [V.int 0] ∧ SqL K H a (ns.map V.int) ∧ Q (.int (least0 ns)) H
theorem minD_nums : ∀ (r : List Int) (m : Int), PySem.W.minD (.int m) (r.map PyData.int) = .int (minL m r)
  | [], m => rfl
  | x :: r, m => by
    have ih := minD_nums r (if x < m then x else m)
    rw [minL, ← ih]
    show List.foldl _ (if PySem.W.dataLt (.int x) (.int m) then PyData.int x else PyData.int m) (r.map PyData.int) = _
    rw [PySem.W.dataLt_int]
    by_cases c : x < m
    · simp [c]; rfl
    · simp [c]; rfl
theorem cr_minD (hc : X.calm = true) (hu : X.A.units + 64 < cLine) : CallRK X (.builtin "min") [Str.ofString "default"] (rMinD X.K) := by
  intro pins s σ H vs zs us ws Q I r rz h
  obtain ⟨a, ns, rfl, rfl, hs, q⟩ := h
  obtain ⟨its, rv, hl, _⟩ := I.list hs
  rw [Vals.ref1 r]
  obtain ⟨w1, rfl, e1⟩ := vals1 rz
  obtain ⟨t0, rfl⟩ := e1
  obtain ⟨as, ra⟩ := Dp.readsAll I _ _ _ (ints_dp ns) rv
  have al : PySem.W.AlikeAll (ns.map PyData.int) := by
    refine ⟨fun x hx y hy => ?_, fun x hx => ?_⟩
    · obtain ⟨x', _, rfl⟩ := List.mem_map.mp hx
      obtain ⟨y', _, rfl⟩ := List.mem_map.mp hy
      simp [PySem.W.alike]
    · obtain ⟨x', _, rfl⟩ := List.mem_map.mp hx
      intro h; cases h
  have dd := PySem.W.depth_ints ns
  refine PySem.W.min_list_default (xs := ns.map .int) (as := as) (I.ok.hd hc) hl.isList (by simpa using ra) al (by omega) (fun h0 h' tk hk => ?_) fun y ys i v h' tk bs e hv rd hk => ?_
  · cases ns with
    | nil => exact ⟨.int 0, H, I.kept hk, ⟨_, rfl⟩, q⟩
    | cons m r => cases h0
  · cases ns with
    | nil => cases e
    | cons m r =>
      rw [List.map_cons] at e
      injection e with e1 e2
      subst e1 e2
      rw [minD_nums] at rd
      cases rd
      exact ⟨.int (minL m r), H, I.kept hk, ⟨_, rfl⟩, q⟩
theorem ed_min0 {e : Expr} {p pos kp p2 : Pos} {j : Nat} {ds : List D} {ns : List Int} (hc : X.calm = true) (hu : X.A.units + 64 < cLine) (hg : Gl X "min") (hm : X.mg "min" = none) (hst : starEach [e] X.env = (false, eval e X.env) :: starEach [] X.env)
    (hv : EvD X.K (wE X e) z ρ (.lst ds)) (hi : Pv.intsOf ds = some ns) :
    EvD X.K (wE X (.Call (.Name "min" p) [e] [⟨some "default", .Constant (.int 0) j p2, kp⟩] pos)) z ρ (.int (least0 ns)) := by
  refine EvD.of (pe_callBK (cr_minD hc hu) hg hm boot_min (pa_cons (peW e) pa_nil hst) (pk_cons pe_int pk_nil) (by decide +kernel) (by decide +kernel) (by rw [hst]; rfl) (by rw [hst]; rfl)) fun G σ H R ex Q q => ?_
  refine hv G σ H R ex _ fun u G1 H1 s1 r1 => ?_
  obtain ⟨a, xs, rfl, h1, q1⟩ := r1
  have hx := q1.ints hi
  subst hx
  exact ⟨a, ns, rfl, rfl, .of (s1.gh.at h1 rfl), q _ G1 H1 s1 rfl⟩
theorem ed_allLt {e1 e2 : Expr} {scope : Scope} {xa xb : Str} {pa pb' pt zp zpos p pos gpos p1 p2 p3 : Pos} {kt k : Nat} {c P : Addr} {ds es : List D} {d : D}
    (hr : Room k X.A) (hg : Gl X "all") (hm : X.mg "all" = none) (hgz : Gl X "zip") (hmz : X.mg "zip" = none) (T : HasTab X c P) (S : GenS2 X.env scope xa xb) (hd : (xa == ("__debug__" : Str)) = false) (hd' : (xb == ("__debug__" : Str)) = false)
    (hs : ∀ v, genFold (.Call (.Name "zip" zp) [e1, e2] [] zpos) X.env v = pure v) (hs1 : starEach [e1, e2] X.env = (false, eval e1 X.env) :: starEach [e2] X.env) (hs2 : (backTo zpos (starEach [e2] X.env)).any (·.1) = false)
    (hv : EvA X.K (wA X [e1, e2]) z ρ [.lst ds, .lst es]) (hgt : gtAll .lt (zipD ds es) = .ok d) :
    EvD X.K (wE X (.Call (.Name "all" p) [.GeneratorExp (.Compare (.Name xa p1) [.Lt] [.Name xb p2] p3) [⟨.Tuple [.Name xa pa, .Name xb pb'] kt pt, .Call (.Name "zip" zp) [e1, e2] [] zpos, [], 0⟩] scope gpos] [] pos)) z ρ d := by
  obtain ⟨rfl, hpb⟩ := gtAll_ok hgt
  intro G σ H R ex Q q pins s I
  refine wpAny_Call_Name_kw (ld_blt I hg hm boot_all ?_)
  have he : starEach [.GeneratorExp (.Compare (.Name xa p1) [.Lt] [.Name xb p2] p3) [⟨.Tuple [.Name xa pa, .Name xb pb'] kt pt, .Call (.Name "zip" zp) [e1, e2] [] zpos, [], 0⟩] scope gpos] X.env = (false, eval (.GeneratorExp (.Compare (.Name xa p1) [.Lt] [.Name xb p2] p3) [⟨.Tuple [.Name xa pa, .Name xb pb'] kt pt, .Call (.Name "zip" zp) [e1, e2] [] zpos, [], 0⟩] scope gpos) X.env) :: starEach [] X.env := by rfl
  refine PyProof.Rows.callWith_builtin1 ?_ he (by rfl)
  rw [he]
  refine Calls.spliced_cons (gen_zipV (te := wA X [e1, e2]) (R := fun ws us pb H1 => min ws.length us.length = (zipD ds es).length ∧ pb = pbD .lt (zipD ds es) ∧ TabG H1 P ∧ ∃ G1, Step G H G1 H1) hr T.2.2 T.1 S hgz hmz (paW _) hs hs1 hs2 I (hv G σ H R ex _ fun us' G1 H1 s1 r1 => ?_) fun ws us pb H1 g s5 hR hG => ?_)
  · obtain ⟨v, u, rfl, r, r'⟩ := reps2 r1
    obtain ⟨a, xs, rfl, h1, q1⟩ := r
    obtain ⟨b, ys, rfl, h2, q2⟩ := r'
    have tb : TabG H1 P := ((R.tabs.ex s1.gg).ex s1.gh) _ T.2.1
    have hzl : ∀ (l m : List D), (zipD l m).length = min l.length m.length := by
      intro l
      induction l with
      | nil => intro m; cases m <;> simp [zipD]
      | cons x l ih => intro m; cases m with
        | nil => simp [zipD]
        | cons y m => rw [zipD, List.length_cons, ih, List.length_cons, List.length_cons]; omega
    refine ⟨a, b, xs, ys, pbD .lt (zipD ds es), rfl, .of (s1.gh.at h1 rfl), .of (s1.gh.at h2 rfl), tb, ⟨by rw [hzl, q1.len, q2.len], rfl, tb, G1, s1⟩, fun sX its its' IX rv rv' => ?_⟩
    refine elt_lt S.kind S.loca S.locb hd hd' fun i v v' hi hi' => ?_
    have hi2 : i < xs.length := by
      have := (List.getElem?_eq_some_iff.mp hi).1
      rw [← rv.length] at this
      exact this
    have hi3 : i < ys.length := by
      have := (List.getElem?_eq_some_iff.mp hi').1
      rw [← rv'.length] at this
      exact this
    have hlt : i < (zipD ds es).length := by rw [hzl, ← q1.len, ← q2.len]; omega
    obtain ⟨d, hdi⟩ : ∃ d, (zipD ds es)[i]? = some d := ⟨_, List.getElem?_eq_getElem hlt⟩
    obtain ⟨x, y, hx, hy, rfl⟩ := zipD_get _ _ _ _ hdi
    obtain ⟨w, hw, rw_⟩ := q1.get hx
    obtain ⟨w', hw', rw_'⟩ := q2.get hy
    obtain ⟨u, hu, ru⟩ := rv.get hw
    obtain ⟨u', hu', ru'⟩ := rv'.get hw'
    rw [hi] at hu
    cases hu
    rw [hi'] at hu'
    cases hu'
    obtain ⟨a', b', e, hb⟩ := gt1_lt (hpb i _ hdi)
    injection e with e
    injection e with e1 e
    injection e with e2 e
    subst e1 e2
    cases (show w = V.int a' from rw_)
    cases (show w' = V.int b' from rw_')
    obtain ⟨t, rfl⟩ := ru
    obtain ⟨t', rfl⟩ := ru'
    exact ⟨a', b', t, t', rfl, rfl, hb⟩
  · obtain ⟨hlen, rfl, tb, G1, s1⟩ := hR
    obtain ⟨fp, wr, G', F, St, W, hst, htr, hI⟩ := hG
    refine Calls.spliced_nil ?_
    refine call_all_walkS (W.self 0 _ _ _ hst ⟨g, fp, wr, G', _, F, St, _, rfl, W, hst, htr, fun s' hmv => ?_⟩)
    obtain ⟨H2, hT, J⟩ := hI s' hmv
    have e12 := Ex.tabbed tb hT
    refine ⟨.bl _, H2, J, rfl, ?_⟩
    rw [hlen]
    exact q _ G1 H2 ⟨s1.gg, s1.gh.trans e12, s1.hh.trans e12, s1.fr⟩ rfl
theorem ed_allDig {e : Expr} {scope : Scope} {x : Str} {px p pos gpos p1 p2 p3 p4 : Pos} {j j' k : Nat} {c P : Addr} {t : List Nat} {d : D}
    (hr : Room k X.A) (hg : Gl X "all") (hm : X.mg "all" = none) (T : HasTab X c P) (S : GenS X.env scope x) (hd : (x == ("__debug__" : Str)) = false)
    (hs : ∀ v, genFold e X.env v = pure v) (hv : EvD X.K (wE X e) z ρ (.str t)) (hgt : gtAll .dig (t.map fun c => .str [c]) = .ok d) :
    EvD X.K (wE X (.Call (.Name "all" p) [.GeneratorExp (.Compare (.Constant (.str "0") j p1) [.LtE, .LtE] [.Name x p2, .Constant (.str "9") j' p3] p4) [⟨.Name x px, e, [], 0⟩] scope gpos] [] pos)) z ρ d := by
  have key : ∀ (t : List Nat) (d : D), gtAll .dig (t.map fun c => .str [c]) = .ok d → d = .bl (t.all fun c => decide (48 ≤ c) && decide (c ≤ 57)) := by
    intro t
    induction t with
    | nil => intro d h; cases h; rfl
    | cons c t ih =>
      intro d h
      rw [List.map_cons, gtAll] at h
      obtain ⟨b, h1, h⟩ := Pv.R.bind_eq_ok h
      obtain ⟨f, h2, h⟩ := Pv.R.bind_eq_ok h
      have := ih f h2
      subst this
      cases h1
      cases h
      rfl
  have := key t d hgt
  subst this
  refine EvD.of (GxR.pe_allS hr hg hm boot_all T.2.2 T.1 S (peW e) (elt_dig S.kind S.loc hd) hs) fun G σ H R ex Q q => hv G σ H R ex _ fun u G1 H1 s1 r1 => ?_
  cases (show u = V.str (st t) from r1)
  have tb : TabG H1 P := ((R.tabs.ex s1.gg).ex s1.gh) _ T.2.1
  refine ⟨st t, rfl, tb, fun H2 hT => ?_⟩
  have e12 := Ex.tabbed tb hT
  have : (st t).cps.toList = t := by simp
  rw [this]
  exact q _ G1 H2 ⟨s1.gg, s1.gh.trans e12, s1.hh.trans e12, s1.fr⟩ rfl
end
end Pv

end
section
/-! Ev6: the texts of the small language beside the program's own; expressions. -/
namespace Pv
open PySem PySem.Spec PyProof.Rows L2
variable [Tabs]

/-! ### the look: a text of the small language is that piece of the program -/
def isStar : Expr → Bool
  | .Starred _ _ => true
  | _ => false
def nmOk (x : Str) : Bool := !(x == ("__debug__" : Str)) && !(x == ("__classdict__" : Str)) && !(x == ("__name__" : Str))
def visB (sc : Scope) (x : Str) : Bool := match sc.names.lookup x with
  | some .local => true
  | some .cell => true
  | some .free => true
  | _ => false
def glB (sc : Scope) (x : Str) : Bool := match sc.names.lookup x with
  | some .globalImplicit => true
  | _ => false
def locB (sc : Scope) (x : Str) : Bool := match sc.names.lookup x with
  | some .local => true
  | some .cell => true
  | _ => false
def bltNm : Bl → Str
  | .len => "len"
  | .max => "max"
  | .min => "min"
  | .abs => "abs"
  | .sum => "sum"
  | .sorted => "sorted"
  | .int => "int"
  | .str => "str"
  | .list => "list"
  | .tuple => "tuple"
  | .join => "join"
  | .split => "split"
  | .strip => "strip"
  | .index => "index"
  | .count => "count"
  | .any => "any"
def tyNm : Ty → Str
  | .int => "int"
  | .bool => "bool"
  | .str => "str"
  | .list => "list"
  | .tuple => "tuple"
def bltNames : List Str := ["len", "max", "min", "abs", "sum", "sorted", "int", "str", "list", "tuple", "bool", "range", "enumerate", "zip", "isinstance", "all", "any"]
def binOk : O2 → Operator → Bool
  | .add, .Add => true
  | .sub, .Sub => true
  | .mul, .Mult => true
  | .div, .FloorDiv => true
  | .mod, .Mod => true
  | .pow, .Pow => true
  | _, _ => false
def cmpOk : O2 → CmpOp → Bool
  | .eq, .Eq => true
  | .ne, .NotEq => true
  | .lt, .Lt => true
  | .le, .LtE => true
  | .gt, .Gt => true
  | .ge, .GtE => true
  | .isin, .In => true
  | .notin, .NotIn => true
  | .is, .Is => true
  | .isnt, .IsNot => true
  | .leS, .LtE => true
  | _, _ => false
def chkNm (N : List Str) (sc : Scope) (i : Nat) : Expr → Bool
  | .Name x _ => decide (N[i]? = some x) && locB sc x
  | _ => false
def chkTgs (N : List Str) (sc : Scope) : List Nat → List Expr → Bool
  | [], [] => true
  | i :: is, e :: es => chkNm N sc i e && chkTgs N sc is es
  | _, _ => false
def chkTg (N : List Str) (sc : Scope) (tg : Tg) (e : Expr) : Bool := match tg with
  | .one i => chkNm N sc i e
  | .many is => match e with
    | .Tuple es _ _ => chkTgs N sc is es
    | _ => false
  | .pair i js => match e with
    | .Tuple [x, .Tuple es _ _] _ _ => chkNm N sc i x && chkTgs N sc js es
    | _ => false
  | .two is js => match e with
    | .Tuple [.Tuple xs _ _, .Tuple es _ _] _ _ => chkTgs N sc is xs && chkTgs N sc js es
    | _ => false
/-- the test of all(test for x in ..) -/
def genOk (sc : Scope) : Bool := decide (sc.kind = .function) && !sc.isCoroutine && sc.names.all (fun y => decide (y.2 ≠ .cell) && decide (y.2 ≠ .free)) && decide (sc.names.lookup (".0" : Str) = some NameKind.local)
/-- the same, one name captured -/
def genOkF (sc : Scope) (n : Str) : Bool := decide (sc.kind = .function) && !sc.isCoroutine && sc.names.all (fun y => decide (y.2 ≠ .cell) && (decide (y.2 ≠ .free) || decide (y.1 = n))) && decide (sc.names.lookup (".0" : Str) = some NameKind.local)
def chkG (g : GT) (elt t : Expr) (sc : Scope) : Bool := genOk sc && (match g, t, elt with
  | .minGe, .Name x _, .Compare (.Call (.Name m _) [.Name y _] [] _) [.GtE] [.Constant (.int 0) _ _] _ => decide (m = ("min" : Str)) && decide (y = x) && decide (sc.names.lookup x = some .local) && decide (sc.names.lookup ("min" : Str) = some .globalImplicit) && nmOk x
  | .lt, .Tuple [.Name x _, .Name y _] _ _, .Compare (.Name x2 _) [.Lt] [.Name y2 _] _ => decide (x2 = x) && decide (y2 = y) && decide (x ≠ y) && decide (sc.names.lookup x = some .local) && decide (sc.names.lookup y = some .local) && nmOk x && nmOk y
  | .dig, .Name x _, .Compare (.Constant (.str a) _ _) [.LtE, .LtE] [.Name y _, .Constant (.str b) _ _] _ => decide (a = ("0" : Str)) && decide (b = ("9" : Str)) && decide (y = x) && decide (sc.names.lookup x = some .local) && nmOk x
  | _, _, _ => false)
def isLst : Expr → Bool
  | .List _ _ => true
  | _ => false
def isTupE : Expr → Bool
  | .Tuple _ _ _ => true
  | _ => false
def recvOk : Expr → Bool
  | .Constant _ _ _ => true
  | .Name _ _ => true
  | .Call (.Name _ _) (_ :: _) _ _ => true
  | .Subscript (.Name _ _) (.Name _ _) _ => true
  | _ => false
def methOk : Bl → Str → Bool
  | .join, m => decide (m = ("join" : Str))
  | .split, m => decide (m = ("split" : Str))
  | .index, m => decide (m = ("index" : Str))
  | .count, m => decide (m = ("count" : Str))
  | .strip, m => decide (m = ("strip" : Str))
  | _, _ => false
/-- the names that stand for Counter's methods -/
def mOf (x : Str) : Option Str := if x = (".count" : Str) then some "count" else if x = (".behind" : Str) then some "behind" else none
def ownOf (N : List Str) (own : List Nat) : List (Str × Nat) := own.map fun i => (N.getD i "", i)
def tOk : IE → Bool
  | .ite _ _ _ => false
  | .not a => tOk a
  | .and a b => tOk a && tOk b
  | .or a b => tOk a && tOk b
  | _ => true
def chkCV : CV → Expr → Bool
  | .int b, .Constant (.int c) _ _ => b == c
  | .str b, .Constant (.str c) _ _ => decide (st b = c)
  | _, _ => false
/-- a written dict -/
def chkPs : List (List Nat × CV) → List (Option Expr) → List Expr → Bool
  | [], [], [] => true
  | (k, v) :: ps, some (.Constant (.str w) _ _) :: ks, e :: es => decide (st k = w) && chkCV v e && chkPs ps ks es
  | _, _, _ => false
section
variable (N Cs : List Str) (gl : List (Str × GC))
mutual
def chkE (sc : Scope) : IE → Expr → Bool
  | .var i, e => match e with
    | .Name x _ => decide (N[i]? = some x) && visB sc x && nmOk x
    | _ => false
  | .glob n, e => match e with
    | .Name x _ => decide ((x, GC.int n) ∈ gl) && glB sc x && nmOk x
    | _ => false
  | .globT n, e => match e with
    | .Name x _ => decide ((x, GC.ints n) ∈ gl) && glB sc x && nmOk x
    | _ => false
  | .non, e => match e with
    | .Constant .none _ _ => true
    | _ => false
  | .bl b, e => match e with
    | .Constant (.bool c) _ _ => b == c
    | _ => false
  | .int b, e => match e with
    | .Constant (.int c) _ _ => b == c
    | _ => false
  | .str b, e => match e with
    | .Constant (.str c) _ _ => decide (st b = c)
    | _ => false
  | .op2 o a b, e => match e with
    | .BinOp l op r _ => binOk o op && chkE sc a l && chkE sc b r
    | .Compare l [op] [r] _ => cmpOk o op && chkE sc a l && chkE sc b r
    | .Subscript l r _ => decide (o = .ix) && chkE sc a l && chkE sc b r
    | _ => false
  | .neg a, e => match e with
    | .UnaryOp .USub x _ => chkE sc a x
    | _ => false
  | .not a, e => match e with
    | .UnaryOp .Not x _ => chkE sc a x
    | _ => false
  | .and a b, e => match e with
    | .BoolOp .And (x :: y :: r) pos => chkE sc a x && (match r with
      | [] => chkE sc b y
      | _ => chkE sc b (.BoolOp .And (y :: r) pos))
    | _ => false
  | .or a b, e => match e with
    | .BoolOp .Or (x :: y :: r) pos => chkE sc a x && (match r with
      | [] => chkE sc b y
      | _ => chkE sc b (.BoolOp .Or (y :: r) pos))
    | _ => false
  | .ite c a b, e => match e with
    | .IfExp x y w _ => chkE sc c x && tOk c && chkE sc a y && chkE sc b w
    | _ => false
  | .chain o p a b c, e => match e with
    | .Compare l [op, op'] [m, r] _ => cmpOk o op && cmpOk p op' && chkE sc a l && chkE sc b m && chkE sc c r
    | _ => false
  | .chain3 a b c d, e => match e with
    | .Compare l [.LtE, .Lt, .Lt] [m, r, q] _ => chkE sc a l && chkE sc b m && chkE sc c r && chkE sc d q
    | _ => false
  | .chain3e a b c d, e => match e with
    | .Compare l [.LtE, .LtE, .LtE] [m, r, q] _ => chkE sc a l && chkE sc b m && chkE sc c r && chkE sc d q
    | _ => false
  | .isN a, e => match e with
    | .Compare l [.Is] [.Constant .none _ _] _ => chkE sc a l
    | _ => false
  | .notN a, e => match e with
    | .Compare l [.IsNot] [.Constant .none _ _] _ => chkE sc a l
    | _ => false
  | .slice a lo hi, e => match e with
    | .Subscript l (.Slice l1 h1 none _) _ => chkE sc a l && (match l1 with
      | none => isNon lo
      | some x => !isNon lo && chkE sc lo x) && (match h1 with
      | none => isNon hi
      | some x => !isNon hi && chkE sc hi x)
    | _ => false
  | .rev a, e => match e with
    | .Subscript l (.Slice none none (some (.UnaryOp .USub (.Constant (.int 1) _ _) _)) _) _ => chkE sc a l
    | _ => false
  | .tup es, e => match e with
    | .Tuple xs _ _ => chkEs sc es xs
    | _ => false
  | .lst es, e => match e with
    | .List xs _ => chkEs sc es xs
    | _ => false
  | .call f es, e => match e with
    | .Call (.Name x _) xs [] _ => decide (Cs[f]? = some x) && glB sc x && nmOk x && (mOf x).isNone && chkEs sc es xs
    | .Call (.Attribute o m ap) (x :: xs) [] pos => (match Cs[f]? with
      | some y => decide (mOf y = some m)
      | none => false) && recvOk o && (ap.endLine == pos.line) && decide (xs.length < 20) && chkEs sc es (o :: x :: xs)
    | _ => false
  | .blt b es, e => match e with
    | .Call (.Name x _) xs [] _ => decide (x = bltNm b) && decide (isM b = false) && decide (isM b = false) && glB sc x && chkEs sc es xs
    | .Call (.Attribute o m ap) [x] [] pos => methOk b m && recvOk o && (ap.endLine == pos.line) && chkEs sc es [o, x]
    | _ => false
  | .isinst t a, e => match e with
    | .Call (.Name x _) [y, .Name w _] [] _ => decide (x = ("isinstance" : Str)) && glB sc x && decide (w = tyNm t) && glB sc w && chkE sc a y
    | _ => false
  | .rangeL es, e => match e with
    | .Call (.Name x _) [.Call (.Name y _) xs [] _] [] _ => decide (x = ("list" : Str)) && glB sc x && decide (y = ("range" : Str)) && glB sc y && chkEs sc es xs
    | _ => false
  | .comp it tg el own, e => match e with
    | .ListComp elt [⟨t, i, [], 0⟩] scope _ => chkI sc it t i && chkTg N scope tg t && (tgSlots tg).all (own.contains ·) && blkC N sc scope (ownOf N own) && chkE (relS scope sc) el elt
    | _ => false
  | .compIf it tg c el own, e => match e with
    | .ListComp elt [⟨t, i, [cx], 0⟩] scope _ => chkI sc it t i && chkTg N scope tg t && (tgSlots tg).all (own.contains ·) && blkC N sc scope (ownOf N own) && chkE (relS scope sc) c cx && tOk c && chkE (relS scope sc) el elt
    | _ => false
  | .comp2 it i b j el own, e => match e with
    | .ListComp elt [⟨t, ie, [], 0⟩, ⟨t1, ie1, [], 0⟩] scope _ => chkI sc it t ie && chkTg N scope (.one i) t && chkTg N scope (.one j) t1 && own.contains i && own.contains j && blkC N sc scope (ownOf N own) && chkE (relS scope sc) b ie1 && chkE (relS scope sc) el elt
    | _ => false
  | .allMin a, e => match e with
    | .Call (.Name x _) [.GeneratorExp elt [⟨t, i, [], 0⟩] scope _] [] _ => decide (x = ("all" : Str)) && glB sc x && Cs.contains ("<genexpr>" : Str) && chkG .minGe elt t scope && !isLst i && chkE sc a i
    | _ => false
  | .allLt a b, e => match e with
    | .Call (.Name x _) [.GeneratorExp elt [⟨t, .Call (.Name w _) [y, v] [] _, [], 0⟩] scope _] [] _ => decide (x = ("all" : Str)) && glB sc x && Cs.contains ("<genexpr>" : Str) && chkG .lt elt t scope && decide (w = ("zip" : Str)) && glB sc w && chkE sc a y && chkE sc b v
    | _ => false
  | .allMod i a, e => match e with
    | .Call (.Name x _) [.GeneratorExp (.Compare (.BinOp (.Name y _) .Mod (.Name n _) _) [.Eq] [.Constant (.int 0) _ _] _) [⟨.Name y2 _, it, [], 0⟩] scope _] [] _ => decide (x = ("all" : Str)) && glB sc x && Cs.contains ("<genexpr>" : Str) && genOkF scope n && decide (y2 = y) && decide (scope.names.lookup y = some .local) && decide (scope.names.lookup n = some .free) && decide ((n, NameKind.free) ∈ scope.names) && nmOk y && nmOk n && decide (N[i]? = some n) && decide (sc.names.lookup n = some .cell) && !isLst it && chkE sc a it
    | _ => false
  | .mulRep s m a c r, e => match e with
    | .BinOp (.BinOp (.Constant (.str w) _ _) .Mult x _) .Add (.Call (.Attribute o nm ap) [.Constant (.str y) _ _, .Constant (.str z) _ _] [] pos) _ => decide (st s = w) && decide (nm = ("replace" : Str)) && decide (st [c] = y) && decide (st r = z) && recvOk o && (ap.endLine == pos.line) && chkE sc m x && chkE sc a o
    | _ => false
  | .addRep s a c r, e => match e with
    | .BinOp (.Constant (.str w) _ _) .Add (.Call (.Attribute o nm ap) [.Constant (.str y) _ _, .Constant (.str z) _ _] [] pos) _ => decide (st s = w) && decide (nm = ("replace" : Str)) && decide (st [c] = y) && decide (st r = z) && recvOk o && (ap.endLine == pos.line) && chkE sc a o
    | _ => false
  | .dsel ps a, e => match e with
    | .Subscript (.Dict ks vs _) y _ => chkPs ps ks vs && decide (ks.length ≤ 15) && decide (0 < ks.length) && chkE sc a y
    | _ => false
  | .min0 a, e => match e with
    | .Call (.Name x _) [y] [⟨some w, .Constant (.int 0) _ _, _⟩] _ => decide (x = ("min" : Str)) && glB sc x && decide (w = ("default" : Str)) && chkE sc a y
    | _ => false
  | .ixo i k, e => match e with
    | .Subscript (.Name x _) r _ => decide (N[i]? = some x) && visB sc x && nmOk x && chkE sc k r
    | _ => false
  | .fmt a, e => match e with
    | .FormattedValue x c none _ => decide (c = -1) && chkE sc a x
    | _ => false
  | .fstr es, e => match e with
    | .JoinedStr (v1 :: v2 :: r) _ => chkEs sc es (v1 :: v2 :: r)
    | _ => false
  | .allDig a, e => match e with
    | .Call (.Name x _) [.GeneratorExp elt [⟨t, i, [], 0⟩] scope _] [] _ => decide (x = ("all" : Str)) && glB sc x && Cs.contains ("<genexpr>" : Str) && chkG .dig elt t scope && !isLst i && chkE sc a i
    | _ => false
def chkEs (sc : Scope) : IEs → List Expr → Bool
  | .nil, es => es.isEmpty
  | .cons a as, es => match es with
    | x :: xs => chkE sc a x && chkEs sc as xs
    | [] => false
def chkI (sc : Scope) : Itr → Expr → Expr → Bool
  | .seq a, _, e => chkE sc a e
  | .rng es, _, e => match e with
    | .Call (.Name x _) xs [] _ => decide (x = ("range" : Str)) && glB sc x && chkEs sc es xs
    | _ => false
  | .enm a, t, e => match e with
    | .Call (.Name x _) [y] [] _ => decide (x = ("enumerate" : Str)) && glB sc x && isTupE t && chkE sc a y
    | _ => false
  | .zip a b, t, e => match e with
    | .Call (.Name x _) [y, w] [] _ => decide (x = ("zip" : Str)) && glB sc x && isTupE t && chkE sc a y && chkE sc b w
    | _ => false
end
end

/-! ### what the text of an accepted piece is not -/
section
variable {N Cs : List Str} {gl : List (Str × GC)} {sc : Scope}
theorem chk_star {ie : IE} {e : Expr} (h : chkE N Cs gl sc ie e = true) : isStar e = false := by
  cases e <;> first | rfl | (cases ie <;> simp [chkE] at h)
theorem star1 {e : Expr} {es : List Expr} {env : PySem.Env} (h : isStar e = false) : starEach (e :: es) env = (false, eval e env) :: starEach es env := by
  cases e <;> first | rfl | cases h
theorem chk_noset {ie : IE} {e : Expr} (h : chkE N Cs gl sc ie e = true) (op : CmpOp) : behindInMarks op e = false := by
  cases e <;> first | rfl | (cases ie <;> simp [chkE] at h)
theorem chk_ix {ie : IE} {e : Expr} (h : chkE N Cs gl sc ie e = true) : PlainIx e := by
  cases e <;> first | (exact fun _ _ => rfl) | (cases ie <;> simp [chkE] at h)
theorem chk_folded {ie : IE} {e : Expr} (h : chkE N Cs gl sc ie e = true) (env : PySem.Env) (x : Value) : foldedSetIterable e env x = pure x := by
  cases e <;> first | rfl | (cases ie <;> simp [chkE] at h)
theorem chks_star : ∀ {ies : IEs} {es : List Expr} {env : PySem.Env}, chkEs N Cs gl sc ies es = true → ∀ pos, (backTo pos (starEach es env)).any (·.1) = false
  | .nil, [], _, _, _ => rfl
  | .cons a as, x :: xs, env, h, pos => by
    rw [chkEs, Bool.and_eq_true] at h
    rw [star1 (chk_star h.1)]
    show (false || (backTo pos (starEach xs env)).any (·.1)) = false
    rw [chks_star h.2 pos]; rfl
  | .nil, _ :: _, _, h, _ => by simp [chkEs] at h
  | .cons _ _, [], _, h, _ => by simp [chkEs] at h
end

/-! ### the place where a piece stands -/
/-- a def's promise, by what its text computes -/
def XIs (H : Hp) (c : Nat) (xs : List D) (cls : Value) (dd : Addr) : Prop := (c = 0 ∧ cls = .ref Tabs.rc ∧ ∃ s, xs = [.str s] ∧ H dd = some (.xd [(("what" : Str), V.str (st s))])) ∨ (c = 1 ∧ cls = .ref Tabs.bc ∧ ∃ n s, xs = [.int n, .str s] ∧ H dd = some (.xd (bfs n (st s))))
def OutX (G H : Hp) (c : Nat) (xs : List D) (E : XK) : Prop := ∀ cls dd G' H', Step G H G' H' → XIs H' c xs cls dd → E cls (some dd) H'
def spD (K : PySem.W.Frag) (g : List D → R D) : Sp := fun vs H Q E => ∃ G ds, Reps K G ds vs ∧ Ex G H ∧ TabsIn G ∧ ((∃ d, g ds = .ok d ∧ Out K G H d Q) ∨ ∃ c xs, g ds = .exc c xs ∧ OutX G H c xs E)
theorem spD.plain {K : PySem.W.Frag} {g : List D → R D} {vs : List V} {H : Hp} {Q : VK} {E : XK} (h : spD K g vs H Q E) (n : ∀ ds c xs, g ds ≠ .exc c xs) : ∃ G ds d, Reps K G ds vs ∧ Ex G H ∧ TabsIn G ∧ g ds = .ok d ∧ Out K G H d Q := by
  obtain ⟨G, ds, r, e, tb, ⟨d, h1, q⟩ | ⟨c, xs, h1, _⟩⟩ := h
  · exact ⟨G, ds, d, r, e, tb, h1, q⟩
  · exact absurd h1 (n ds c xs)
def GlbIs (K : PySem.W.Frag) (mg : Str → Option Value) (p : Str × GC) : Prop := match p.2 with
  | .int n => ∃ t, mg p.1 = some (.int n t)
  | .ints ns => ∃ a, mg p.1 = some (.ref a) ∧ ∀ H, SqT K H a (ns.map V.int)
/-- Counter's __init__ -/
def spCI : Sp := fun vs H Q _ => ∃ (p dx : Addr) (L : Int), vs = [.ref p, .int L] ∧ H p = some (.ins Tabs.cc dx []) ∧ ∀ (d : Addr) (H' : Hp), H d = none → d ≠ p → H' p = some (.ins Tabs.cc dx (cfs L d)) → H' d = some (.dT []) → (∀ b o, H b = some o → b ≠ p → H' b = some o) → Q .non H'
/-- what can be called under the name x: a def, the class Counter, one of its methods -/
def CallK (P : Program) (w : World) (K : PySem.W.Frag) (mg : Str → Option Value) (base : Heap) (k : Nat) (x : Str) (g : List D → R D) : Prop := match mOf x with
  | some m => Cls K Tabs.cc ∧ (∀ ds d, g ds = .ok d → ∃ L ds', ds = D.cnt L :: ds') ∧ ∃ f fd ps, Meth K Tabs.cc m f ∧ Binds K fd ps [] ∧ FnOk P w K mg base (L2N.CX P w) k f fd ps (spD K g)
  | none => (mg x = some (.ref Tabs.cc) ∧ g = newC Tabs.lim ∧ ∃ f fd ps j, j < k ∧ Mk K Tabs.cc f ∧ Binds K fd ps [] ∧ FnOk P w K mg base (L2N.CX P w) j f fd ps spCI) ∨
    ∃ f fd ps, mg x = some (.ref f) ∧ PySem.W.keepIn K (.ref f) = true ∧ Binds K fd ps [] ∧ FnOk P w K mg base (L2N.CX P w) k f fd ps (spD K g)
structure Cxt (N Cs : List Str) (gl : List (Str × GC)) (F : List (List D → R D)) (sc : Scope) (X : Cx) : Prop where
  hN : X.N = N
  nd : N.Nodup
  calm : X.calm = true
  hsc : X.env.scope = sc
  blt : ∀ x ∈ bltNames, X.mg x = none
  glob : ∀ p ∈ gl, GlbIs X.K X.mg p
  tab : ("<genexpr>" : Str) ∈ Cs → ∃ c P, HasTab X c P
  fns : ∃ k, Room k X.A ∧ ∀ (j : Nat) (g : List D → R D), F[j]? = some g → ∃ x, Cs[j]? = some x ∧ CallK X.prog X.w X.K X.mg X.base k x g
section
variable {N Cs : List Str} {gl : List (Str × GC)} {F : List (List D → R D)} {sc : Scope} {X : Cx}
theorem Cxt.blk (C : Cxt N Cs gl F sc X) (s : Shared) (H : Hp) (scope : Scope) (cl : List (Str × Addr)) (c : Addr) (fp : List Addr) : Cxt N Cs gl F (relS scope sc) (X.blk s H scope (compEnvC scope cl c X.env) fp) := by
  refine ⟨C.hN, C.nd, C.calm, ?_, C.blt, C.glob, C.tab, C.fns⟩
  rw [← C.hsc]
  rfl
theorem Cxt.units (C : Cxt N Cs gl F sc X) : X.A.units + 64 < cLine := let ⟨_, r, _⟩ := C.fns; r.units
theorem nm1 {x : Str} (h : nmOk x = true) : (x == ("__debug__" : Str)) = false := by
  unfold nmOk at h
  simp only [Bool.and_eq_true, Bool.not_eq_true'] at h
  exact h.1.1
theorem nm2 {x : Str} (h : nmOk x = true) : (x == ("__classdict__" : Str)) = false := by
  unfold nmOk at h
  simp only [Bool.and_eq_true, Bool.not_eq_true'] at h
  exact h.1.2
theorem nm3 {x : Str} (h : nmOk x = true) : x ≠ "__name__" := by
  unfold nmOk at h
  simp only [Bool.and_eq_true, Bool.not_eq_true'] at h
  exact fun e => by rw [e] at h; simp at h
theorem Cxt.vis (C : Cxt N Cs gl F sc X) {x : Str} (h : visB sc x = true) : Vis X.env.scope x := by
  rw [C.hsc]
  unfold visB at h
  unfold Vis
  split at h
  · exact .inl (by assumption)
  · exact .inr (.inl (by assumption))
  · exact .inr (.inr (by assumption))
  · cases h
theorem Cxt.glN (C : Cxt N Cs gl F sc X) {x : Str} (h : glB sc x = true) : Gl X x := by
  show X.env.scope.names.lookup x = some .globalImplicit
  rw [C.hsc]
  unfold glB at h
  split at h
  · assumption
  · cases h
theorem loc_or {scope : Scope} {x : Str} (h : locB scope x = true) : scope.names.lookup x = some .local ∨ scope.names.lookup x = some .cell := by
  unfold locB at h
  split at h
  · exact .inl (by assumption)
  · exact .inr (by assumption)
  · cases h
/-- a block's own name -/
theorem Cxt.blkName (C : Cxt N Cs gl F sc X) {scope : Scope} {x : Str} (h : locB scope x = true) (s : Shared) (H : Hp) (cl : List (Str × Addr)) (c : Addr) (fp : List Addr) :
    Loc (X.blk s H scope (compEnvC scope cl c X.env) fp).env.scope x ∧ ((X.blk s H scope (compEnvC scope cl c X.env) fp).fn x = true ∨ (X.blk s H scope (compEnvC scope cl c X.env) fp).env.scope.names.lookup x = some .local) := by
  have key : (X.blk s H scope (compEnvC scope cl c X.env) fp).env.scope = relS scope X.env.scope := rfl
  rw [key]
  rcases loc_or h with h | h
  · have q := lookup_relS_keep (sc := X.env.scope) (names := scope.names) (x := x) (k := .local) (by decide) h
    exact ⟨.inl q, .inr q⟩
  · have q := lookup_relS_keep (sc := X.env.scope) (names := scope.names) (x := x) (k := .cell) (by decide) h
    refine ⟨.inr q, .inl ?_⟩
    show (scope.names.lookup x == some .cell) = true
    rw [h]; rfl
theorem nm_of {Y : Cx} {scope : Scope} {i : Nat} {e : Expr} (hN : Y.N = N) (nd : N.Nodup) (ok : ∀ x, locB scope x = true → Loc Y.env.scope x ∧ (Y.fn x = true ∨ Y.env.scope.names.lookup x = some .local)) (h : chkNm N scope i e = true) : PG Y e (gName i) := by
  cases e with
  | Name x p =>
    simp only [chkNm, Bool.and_eq_true, decide_eq_true_eq] at h
    obtain ⟨q1, q2⟩ := ok x h.2
    exact pg_name (by rw [hN]; exact nd) (by rw [hN]; exact h.1) q1 q2
  | _ => simp [chkNm] at h
theorem pgs_of {Y : Cx} {scope : Scope} (hN : Y.N = N) (nd : N.Nodup) (ok : ∀ x, locB scope x = true → Loc Y.env.scope x ∧ (Y.fn x = true ∨ Y.env.scope.names.lookup x = some .local)) : ∀ {is : List Nat} {es : List Expr}, chkTgs N scope is es = true → PGs Y es (gMany is)
  | [], [], _ => pgs_nil
  | i :: is, e :: es, h => by
    rw [chkTgs, Bool.and_eq_true] at h
    exact pgs_cons (nm_of hN nd ok h.1) (pgs_of hN nd ok h.2) (by obtain ⟨h1, _⟩ := h; cases e <;> first | rfl | simp [chkNm] at h1)
  | [], _ :: _, h => by simp [chkTgs] at h
  | _ :: _, [], h => by simp [chkTgs] at h
theorem tgs_each {Y : Cx} {scope : Scope} : ∀ {is : List Nat} {es : List Expr}, chkTgs N scope is es = true → (assignEach es Y.env).length = is.length ∧ (assignEach es Y.env).findIdx? (·.1) = none
  | [], [], _ => ⟨rfl, rfl⟩
  | i :: is, e :: es, h => by
    rw [chkTgs, Bool.and_eq_true] at h
    obtain ⟨q1, q2⟩ := tgs_each (Y := Y) h.2
    obtain ⟨h1, _⟩ := h
    cases e with
    | Name x p =>
      refine ⟨?_, ?_⟩
      · show (assignEach es Y.env).length + 1 = is.length + 1
        rw [q1]
      · show ((false, _) :: assignEach es Y.env).findIdx? (·.1) = none
        rw [List.findIdx?_cons, q2]
        rfl
    | _ => simp [chkNm] at h1
  | [], _ :: _, h => by simp [chkTgs] at h
  | _ :: _, [], h => by simp [chkTgs] at h
theorem pg_of {Y : Cx} {scope : Scope} {tg : Tg} {e : Expr} (hN : Y.N = N) (nd : N.Nodup) (hc : Y.calm = true) (ok : ∀ x, locB scope x = true → Loc Y.env.scope x ∧ (Y.fn x = true ∨ Y.env.scope.names.lookup x = some .local)) (h : chkTg N scope tg e = true) : PG Y e (gTg Y.K tg) := by
  cases tg with
  | one i => exact nm_of hN nd ok h
  | many is =>
    cases e with
    | Tuple es k p =>
      simp only [chkTg] at h
      obtain ⟨q1, q2⟩ := tgs_each (Y := Y) h
      exact pg_tup (k := k) (pos := p) hc (pgs_of hN nd ok h) q1 q2
    | _ => simp [chkTg] at h
  | pair i js =>
    revert h
    simp only [chkTg]
    split
    · rename_i x es k2 p2 k p
      intro h
      rw [Bool.and_eq_true] at h
      obtain ⟨q1, q2⟩ := tgs_each (Y := Y) h.2
      have hx : isStar x = false := by obtain ⟨h1, _⟩ := h; cases x <;> first | rfl | simp [chkNm] at h1
      refine pg_tup hc (pgs_cons (nm_of hN nd ok h.1) (pgs_cons (pg_tup (k := k2) (pos := p2) hc (pgs_of hN nd ok h.2) q1 q2) pgs_nil rfl) (by cases x <;> first | rfl | cases hx)) (by cases x <;> first | rfl | cases hx) (by cases x <;> first | rfl | cases hx)
    · intro h; cases h
  | two is js =>
    revert h
    simp only [chkTg]
    split
    · rename_i xs k1 p1 es k2 p2 k p
      intro h
      rw [Bool.and_eq_true] at h
      obtain ⟨a1, a2⟩ := tgs_each (Y := Y) h.1
      obtain ⟨q1, q2⟩ := tgs_each (Y := Y) h.2
      exact pg_tup hc (pgs_cons (pg_tup (k := k1) (pos := p1) hc (pgs_of hN nd ok h.1) a1 a2) (pgs_cons (pg_tup (k := k2) (pos := p2) hc (pgs_of hN nd ok h.2) q1 q2) pgs_nil rfl) rfl) rfl rfl
    · intro h; cases h
theorem pe_callV {x : Str} {p pos : Pos} {e : Expr} {es : List Expr} {t : TA} {r : List V → Hp → VK → Prop} {b : Bl} (hj : isM b = false) (hs : isM b = false) (hx : x = bltNm b) (hc : CallR X (bltV b) r) (hg : Gl X x) (hm : X.mg x = none) (ha : PA X (e :: es) t)
    (he : starEach (e :: es) X.env = (false, eval e X.env) :: starEach es X.env) (hpl : (backTo pos (starEach es X.env)).any (·.1) = false) : PE X (.Call (.Name x p) (e :: es) [] pos) (tCB r t) := by
  subst hx
  cases b with
  | join => cases hj
  | split => cases hj
  | strip => cases hj
  | index => cases hj
  | count => cases hj
  | len => exact pe_callB hc hg hm PySem.boot_len ha (by decide +kernel) (by decide +kernel) he hpl
  | max => exact pe_callB hc hg hm boot_max ha (by decide +kernel) (by decide +kernel) he hpl
  | min => exact pe_callB hc hg hm boot_min ha (by decide +kernel) (by decide +kernel) he hpl
  | abs => exact pe_callB hc hg hm boot_abs ha (by decide +kernel) (by decide +kernel) he hpl
  | sum => exact pe_callB hc hg hm boot_sum ha (by decide +kernel) (by decide +kernel) he hpl
  | any => exact pe_callB hc hg hm boot_any ha (by decide +kernel) (by decide +kernel) he hpl
  | sorted => exact pe_callB hc hg hm boot_sorted ha (by decide +kernel) (by decide +kernel) he hpl
  | int => exact pe_callTy hc hg hm boot_int ha (by decide +kernel) (by decide +kernel) he hpl
  | str => exact pe_callTy hc hg hm boot_str ha (by decide +kernel) (by decide +kernel) he hpl
  | list => exact pe_callTy hc hg hm boot_list ha (by decide +kernel) (by decide +kernel) he hpl
  | tuple => exact pe_callTy hc hg hm boot_tuple ha (by decide +kernel) (by decide +kernel) he hpl
theorem blt_in (b : Bl) (hj : isM b = false) (hs : isM b = false) : bltNm b ∈ bltNames := by
  cases b with
  | join => cases hj
  | split => cases hj
  | strip => cases hj
  | index => cases hj
  | count => cases hj
  | _ => decide +kernel
/-- a test that is plainly a value's truth -/
def plainT : Expr → Bool
  | .UnaryOp .Not _ _ => false
  | .BoolOp _ _ _ => false
  | .IfExp _ _ _ _ => false
  | .Compare _ _ _ _ => false
  | _ => true
theorem et_plain {z : Nat → Bool} {ρ : Env} {e : Expr} {d : D} {b : Bool} (hp : plainT e = true) (h : EvD X.K (wE X e) z ρ d) (ht : tst d = .ok b) : EvT X.K (wT X e) z ρ b := by
  refine EvT.of (pt_truth (peW e) ?_) (et_tru h ht)
  intro whole
  cases e with
  | UnaryOp op _ _ => cases op <;> first | rfl | cases hp
  | BoolOp _ _ _ => cases hp
  | IfExp _ _ _ _ => cases hp
  | Compare _ _ _ _ => cases hp
  | _ => rfl
theorem pw_bool {op : BoolOp} {vs : List Expr} {pos : Pos} : PW X (.BoolOp op vs pos) (wT X (.BoolOp op vs pos)) := ⟨fun whole pins s σ H Q I h => h pins s I⟩
end
end Pv

end
section
/-! Ev7: what a piece of text computes is what the machine computes: expressions. -/
namespace Pv
open PySem PySem.Spec PyProof.Rows L2
variable [Tabs]

section
variable {X : Cx} {x y d : D} {o : O2}
theorem bin_ok {op : Operator} (h : binOk o op = true) (e : op2 o x y = .ok d) : ∃ r, OpR X (binaryOp op) r ∧ RD X.K r x y d := by
  cases o <;> cases op <;> first | cases h | skip
  · exact op_addD e
  · exact op_subD e
  · exact op_mulD e
  · exact op_divD e
  · exact op_modD e
  · exact op_powD e
theorem eq_bl (e : eqD x y = .ok d) : ∃ b, d = .bl b := by
  unfold eqD at e
  split at e <;> first | exact ⟨_, (R.ok.inj e).symm⟩ | exact ⟨_, (R.ok.inj (R.when_ok e).2).symm⟩
theorem ne_bl (e : neD x y = .ok d) : ∃ b, d = .bl b := by
  unfold neD at e
  split at e <;> first | exact ⟨_, (R.ok.inj e).symm⟩ | exact ⟨_, (R.ok.inj (R.when_ok e).2).symm⟩
def rGtT (K : PySem.W.Frag) : R2 := fun x y H Q => ∃ (a b : Addr) (ns ms : List Int), x = .ref a ∧ y = .ref b ∧ SqT K H a (ns.map V.int) ∧ SqT K H b (ms.map V.int) ∧
  Q (.bl (Ob.lexAt (fun j => decide (ns.getD j 0 = ms.getD j 0)) (fun j => decide (ms.getD j 0 < ns.getD j 0)) (decide (ns.length > ms.length)) 0 (min ns.length ms.length))) H
theorem op_gtT {X : Cx} (hu : X.A.units < cLine) : OpR X (compareOp .Gt) (rGtT X.K) := by
  intro pins s σ H x y v u Q I rx ry ⟨a, b, ns, ms, ea, eb, ha, hb, q⟩
  subst ea eb
  cases rx
  cases ry
  obtain ⟨its, r1, p1, _⟩ := I.tuple ha
  obtain ⟨its2, r2, p2, _⟩ := I.tuple hb
  have i1 : IntsAre its ns := Vals.ints r1
  have i2 : IntsAre its2 ms := Vals.ints r2
  have z1 : its.toArray.size = ns.length := List.size_toArray.trans i1.length
  have z2 : its2.toArray.size = ms.length := List.size_toArray.trans i2.length
  have g1 : ∀ j (h1 : j < its.toArray.size), ∃ t, its.toArray[j] = .int (ns.getD j 0) t := fun j h1 => PyProof.Rows.IntsAre.int_at i1 _ _ (by simp at h1; simp [h1])
  have g2 : ∀ j (h1 : j < its2.toArray.size), ∃ t, its2.toArray[j] = .int (ms.getD j 0) t := fun j h1 => PyProof.Rows.IntsAre.int_at i2 _ _ (by simp at h1; simp [h1])
  have RR := Ob.RcOp.tuples_gt (A := X.A) (s := s) (e := fun j => decide (ns.getD j 0 = ms.getD j 0)) (r := fun j => decide (ms.getD j 0 < ns.getD j 0)) p1 p2 hu (fun j h1 h2 => by
    obtain ⟨t, et⟩ := g1 j h1
    obtain ⟨t', et'⟩ := g2 j h2
    rw [et, et', show decide (ns.getD j 0 = ms.getD j 0) = (ns.getD j 0 == ms.getD j 0) by
      by_cases k : ns.getD j 0 = ms.getD j 0
      · rw [decide_eq_true k]; exact (beq_iff_eq.mpr k).symm
      · rw [decide_eq_false k]; exact (beq_eq_false_iff_ne.mpr k).symm]
    exact SeqAt.EqAt.int_int _ _ _ _) (fun j h1 h2 _ => by
    obtain ⟨t, et⟩ := g1 j h1
    obtain ⟨t', et'⟩ := g2 j h2
    rw [et, et']
    exact Ob.RcOp.gt_int _ _ _ _)
  rw [z1, z2] at RR
  exact RR X.prog X.w X.xe (EP X pins σ Q) ⟨.bl _, H, I, rfl, q⟩
theorem op_gtD (hu : X.A.units + 64 < cLine) (e : gtD x y = .ok d) : (∃ r, OpR X (compareOp .Gt) r ∧ RD X.K r x y d) ∧ ∃ b, d = .bl b := by
  unfold gtD at e
  split at e
  · rename_i i j
    cases e
    refine ⟨op_cmpD (f := fun i j => decide (j < i)) op_gt rfl, _, rfl⟩
  · rename_i a b c d'
    cases e
    refine ⟨⟨_, op_gtT (by omega), fun G H u v r1 r2 ex Q q => ?_⟩, _, rfl⟩
    obtain ⟨p1, vs, rfl, h1, q1⟩ := r1
    obtain ⟨p2, ws, rfl, h2, q2⟩ := r2
    have e1 := q1.ints (ns := [a, b]) rfl
    have e2 := q2.ints (ns := [c, d']) rfl
    subst e1 e2
    refine ⟨p1, p2, [a, b], [c, d'], rfl, rfl, ex_t ex h1, ex_t ex h2, ?_⟩
    have lx : Ob.lexAt (fun j => decide (([a, b] : List Int).getD j 0 = ([c, d'] : List Int).getD j 0)) (fun j => decide (([c, d'] : List Int).getD j 0 < ([a, b] : List Int).getD j 0)) (decide (([a, b] : List Int).length > ([c, d'] : List Int).length)) 0 (min ([a, b] : List Int).length ([c, d'] : List Int).length) = if a = c then decide (d' < b) else decide (c < a) := by
      show (if decide (a = c) = true then (if decide (b = d') = true then decide (2 > 2) else decide (d' < b)) else decide (c < a)) = _
      by_cases k : a = c
      · by_cases k2 : b = d'
        · simp [k, k2]
        · simp [k, k2]
      · simp [k]
    rw [lx]
    exact q.now ex rfl
  · cases e
theorem in_bl {x y d : D} (e : inD x y = .ok d) : ∃ b, d = .bl b := by
  cases y with
  | lst xs =>
    have h' : (if D.flat x = true ∧ xs.all D.flat = true then R.ok (.bl (inL x xs)) else R.when (D.shp 60 x = true ∧ D.shp 60 (.lst xs) = true) (.ok (.bl (inL x xs)))) = .ok d := by cases x <;> exact e
    split at h'
    · exact ⟨_, (R.ok.inj h').symm⟩
    · obtain ⟨_, q⟩ := R.when_ok h'
      exact ⟨_, (R.ok.inj q).symm⟩
  | tup xs => cases x <;> (obtain ⟨_, q⟩ := R.when_ok e; exact ⟨_, (R.ok.inj q).symm⟩)
  | _ => cases x <;> cases e
theorem nin_bl {x y d : D} (e : ninD x y = .ok d) : ∃ b, d = .bl b := by
  cases y with
  | lst xs =>
    have h' : (if D.flat x = true ∧ xs.all D.flat = true then R.ok (.bl (!inL x xs)) else R.when (D.shp 60 x = true ∧ D.shp 60 (.lst xs) = true) (.ok (.bl (!inL x xs)))) = .ok d := by cases x <;> exact e
    split at h'
    · exact ⟨_, (R.ok.inj h').symm⟩
    · obtain ⟨_, q⟩ := R.when_ok h'
      exact ⟨_, (R.ok.inj q).symm⟩
  | tup xs => cases x <;> (obtain ⟨_, q⟩ := R.when_ok e; exact ⟨_, (R.ok.inj q).symm⟩)
  | str s =>
    cases x with
    | str w =>
      match w, e with
      | [c], e => exact ⟨_, (R.ok.inj e).symm⟩
      | [], e => cases e
      | _ :: _ :: _, e => cases e
    | _ => cases e
  | _ => cases x <;> cases e
theorem cmp_ok {op : CmpOp} (hu : X.A.units + 64 < cLine) (h : cmpOk o op = true) (e : op2 o x y = .ok d) : (∃ r, OpR X (compareOp op) r ∧ RD X.K r x y d) ∧ ∃ b, d = .bl b := by
  cases o <;> cases op <;> first | cases h | skip
  · exact ⟨op_eqDD hu e, eq_bl e⟩
  · exact ⟨op_neDD hu e, ne_bl e⟩
  · refine ⟨op_ltDD hu e, ?_⟩
    cases x <;> cases y <;> first | exact ⟨_, (R.ok.inj e).symm⟩ | cases e | skip
    obtain ⟨ns, h1, h⟩ := Pv.R.bind_eq_ok (show (R.ofO _).bind (fun ns => (R.ofO _).bind fun ms => .ok (.bl (lexI ns ms))) = .ok d from e)
    obtain ⟨ms, h2, h⟩ := Pv.R.bind_eq_ok h
    exact ⟨_, (R.ok.inj h).symm⟩
  · refine ⟨op_cmpD op_le e, ?_⟩
    cases x <;> cases y <;> first | exact ⟨_, (R.ok.inj e).symm⟩ | cases e
  · exact op_gtD hu e
  · refine ⟨op_cmpD op_ge e, ?_⟩
    cases x <;> cases y <;> first | exact ⟨_, (R.ok.inj e).symm⟩ | cases e
  · refine ⟨op_inD hu e, in_bl e⟩
  · exact ⟨op_ninD hu e, nin_bl e⟩
  · refine ⟨⟨_, op_isBl, ?_⟩, ?_⟩
    · cases x <;> first | cases e | skip
      cases y <;> first | cases e | skip
      rename_i a b
      intro G H u v r1 r2 ex Q q
      cases (show u = V.bl a from r1)
      cases (show v = V.bl b from r2)
      refine ⟨a, b, rfl, rfl, ?_⟩
      have : decide (a = b) = (a == b) := by cases a <;> cases b <;> rfl
      rw [this]
      exact q.now ex rfl
    · cases x <;> cases y <;> first | exact ⟨_, (R.ok.inj e).symm⟩ | cases e
  · refine ⟨⟨_, op_notBl, ?_⟩, ?_⟩
    · cases x <;> first | cases e | skip
      cases y <;> first | cases e | skip
      rename_i a b
      intro G H u v r1 r2 ex Q q
      cases (show u = V.bl a from r1)
      cases (show v = V.bl b from r2)
      refine ⟨a, b, rfl, rfl, ?_⟩
      have : (!decide (a = b)) = (!(a == b)) := by cases a <;> cases b <;> rfl
      rw [this]
      exact q.now ex rfl
    · cases x <;> cases y <;> first | exact ⟨_, (R.ok.inj e).symm⟩ | cases e
  · cases x <;> first | cases e | skip
    cases y <;> first | cases e | skip
    rename_i a b
    refine ⟨⟨_, op_le_str, fun G H u v r1 r2 ex Q q => ?_⟩, _, rfl⟩
    cases (show u = V.str (st a) from r1)
    cases (show v = V.str (st b) from r2)
    exact ⟨st a, st b, rfl, rfl, q.now ex rfl⟩
end
theorem strs_rep {K : PySem.W.Frag} {G : Hp} : ∀ ys : List (List Nat), Reps K G (ys.map D.str) ((ys.map st).map V.str)
  | [] => rfl
  | y :: ys => ⟨V.str (st y), _, rfl, rfl, strs_rep ys⟩
theorem rsmall {i j c : Int} (hc : 0 < c) (hc2 : c < 1073741824) (hi : bnd i) (hj : bnd j) : RgC i j c ((if i < j then (j - i - 1) / c + 1 else 0).toNat) := by
  have h0 := hi.1; have h1 := hi.2; have h2 := hj.1; have h3 := hj.2
  have hc' : c > 0 := hc
  have e : Builtin.Range.rangeSize i j c = if i < j then (j - i - 1) / c + 1 else 0 := by
    unfold Builtin.Range.rangeSize
    rw [if_pos hc']
  have hq : i < j → 0 ≤ (j - i - 1) / c ∧ (j - i - 1) / c ≤ j - i - 1 ∧ c * ((j - i - 1) / c) ≤ j - i - 1 := fun h => by
    have hp : 0 ≤ j - i - 1 := by omega
    exact ⟨Int.ediv_nonneg hp (by omega), Int.ediv_le_self _ hp, Int.mul_ediv_self_le (by omega)⟩
  refine ⟨by omega, by omega, ?_, ?_⟩
  · unfold Builtin.Range.small
    rw [e]
    simp only [Builtin.Range.rangeFitsLong, Bool.and_eq_true, Bool.or_eq_true, decide_eq_true_eq, beq_iff_eq, hc', if_true]
    by_cases h : i < j
    · have := hq h
      rw [if_pos h]
      refine ⟨⟨⟨⟨⟨?_, ?_⟩, ⟨?_, ?_⟩⟩, ⟨?_, ?_⟩⟩, ⟨?_, ?_⟩⟩, ?_⟩ <;> omega
    · rw [if_neg h]
      refine ⟨⟨⟨⟨⟨?_, ?_⟩, ⟨?_, ?_⟩⟩, ⟨?_, ?_⟩⟩, ⟨?_, ?_⟩⟩, ?_⟩ <;> omega
  · rw [e]
    by_cases h : i < j
    · have := hq h
      rw [if_pos h]; omega
    · rw [if_neg h]; omega

section
variable {N Cs : List Str} {gl : List (Str × GC)} {F : List (List D → R D)} {z : Nat → Bool}
/-- where a new list comes out, of its own -/
def Both (X : Cx) (z : Nat → Bool) (ρ : Env) (ie : IE) (e : Expr) (r : R D) : Prop := (∀ d, r = .ok d → EvD X.K (wE X e) z ρ d) ∧ (tOk ie = true → ∀ b, r.bind tst = .ok b → EvT X.K (wT X e) z ρ b)
theorem Both.plain {X : Cx} {ρ : Env} {ie : IE} {e : Expr} {r : R D} (hp : plainT e = true) (h : ∀ d, r = .ok d → EvD X.K (wE X e) z ρ d) : Both X z ρ ie e r :=
  ⟨h, fun _ b hb => let ⟨d, h1, h2⟩ := Pv.R.bind_eq_ok hb; et_plain hp (h d h1) h2⟩
theorem ed_cmpR {X : Cx} {ρ : Env} {a b : Expr} {op : CmpOp} {pos : Pos} {x y d : D} {r : R2} (ha : EvD X.K (wE X a) z ρ x) (hb : EvD X.K (wE X b) z ρ y) (ho : OpR X (compareOp op) r) (hr : RD X.K r x y d) (hm : behindInMarks op b = false) :
    EvD X.K (wE X (.Compare a [op] [b] pos)) z ρ d := EvD.of (pe_cmpR ho (peW a) (peW b) hm) (ed_op ha hb hr)
theorem et_cmpR {X : Cx} {ρ : Env} {a b : Expr} {op : CmpOp} {pos : Pos} {x y : D} {c : Bool} {r : R2} (ha : EvD X.K (wE X a) z ρ x) (hb : EvD X.K (wE X b) z ρ y) (ho : OpR X (compareOp op) r) (hr : RD X.K r x y (.bl c)) (hm : behindInMarks op b = false) :
    EvT X.K (wT X (.Compare a [op] [b] pos)) z ρ c := EvT.of (pt_cmpR ho (peW a) (peW b) hm) (et_test (ed_op ha hb hr))
theorem rd_isN {X : Cx} {x : D} : RD X.K (fun x y H Q => y = V.non ∧ Q (.bl (decide (x = .non))) H) x .non (.bl x.isNon) := fun G H u v r1 r2 e Q q => by
  cases (show v = V.non from r2)
  refine ⟨rfl, ?_⟩
  have : decide (u = V.non) = x.isNon := by
    cases x with
    | non => cases (show u = V.non from r1); rfl
    | bl b => cases (show u = V.bl b from r1); rfl
    | int b => cases (show u = V.int b from r1); rfl
    | str b => cases (show u = V.str (st b) from r1); rfl
    | tup ds => obtain ⟨a, xs, rfl, _⟩ := r1; rfl
    | lst ds => obtain ⟨a, xs, rfl, _⟩ := r1; rfl
    | scr ds => obtain ⟨a, rfl, _⟩ := r1; rfl
    | cnt L => obtain ⟨_, a, _, _, _, rfl, _⟩ := r1; rfl
  rw [this]
  exact q.now e rfl
theorem rd_notN {X : Cx} {x : D} : RD X.K (fun x y H Q => y = V.non ∧ Q (.bl (!decide (x = .non))) H) x .non (.bl (!x.isNon)) := fun G H u v r1 r2 e Q q => by
  cases (show v = V.non from r2)
  refine ⟨rfl, ?_⟩
  have : (!decide (u = V.non)) = (!x.isNon) := by
    cases x with
    | non => cases (show u = V.non from r1); rfl
    | bl b => cases (show u = V.bl b from r1); rfl
    | int b => cases (show u = V.int b from r1); rfl
    | str b => cases (show u = V.str (st b) from r1); rfl
    | tup ds => obtain ⟨a, xs, rfl, _⟩ := r1; rfl
    | lst ds => obtain ⟨a, xs, rfl, _⟩ := r1; rfl
    | scr ds => obtain ⟨a, rfl, _⟩ := r1; rfl
    | cnt L => obtain ⟨_, a, _, _, _, rfl, _⟩ := r1; rfl
  rw [this]
  exact q.now e rfl
theorem ed_isinst {X : Cx} {ρ : Env} {t : Ty} {a : Expr} {x : D} {p1 p2 pos : Pos} (C : ∀ y ∈ bltNames, X.mg y = none) (hg : Gl X "isinstance") (hg2 : Gl X (tyNm t)) (hns : isStar a = false) (h : EvD X.K (wE X a) z ρ x) (hcn : ∀ L, x ≠ .cnt L) :
    EvD X.K (wE X (.Call (.Name "isinstance" p1) [a, .Name (tyNm t) p2] [] pos)) z ρ (.bl (isTy t x)) := by
  have hm : X.mg "isinstance" = none := C _ (by decide +kernel)
  have hm2 : X.mg (tyNm t) = none := C _ (by cases t <;> decide +kernel)
  have hv : bootBuiltins (tyNm t) = some (.type (tyN t)) := by
    cases t
    · exact boot_int
    · exact boot_bool
    · exact boot_str
    · exact boot_list
    · exact boot_tuple
  have pe2 : PE X (.Name (tyNm t) p2) (tC (.ty (tyN t))) := pe_bltn (v := .ty (tyN t)) hg2 hm2 hv rfl (by cases t <;> decide +kernel) (by cases t <;> decide +kernel)
  refine EvD.of (pe_callB call_isi hg hm boot_isinstance (pa_cons (peW a) (pa_cons pe2 pa_nil rfl) (star1 hns)) (by decide +kernel) (by decide +kernel) (star1 hns) rfl) ?_
  intro G σ H R e Q q
  refine h G σ H R e _ fun u G1 H1 s1 r1 => ?_
  show rIsi X.K [u, .ty (tyN t)] H1 Q
  have fin := q (.bl (isTy t x)) G1 H1 s1 rfl
  cases x with
  | cnt L => exact absurd rfl (hcn L)
  | scr ns =>
    obtain ⟨ad, rfl, hs⟩ := r1
    have hs := ex_l s1.gh hs
    have k : kitB "list" (tyN t) = some (isTy t (.scr ns)) := by
      cases t
      · exact (by decide +kernel : kitB "list" "int" = some false)
      · exact (by decide +kernel : kitB "list" "bool" = some false)
      · exact (by decide +kernel : kitB "list" "str" = some false)
      · exact (by decide +kernel : kitB "list" "list" = some true)
      · exact (by decide +kernel : kitB "list" "tuple" = some false)
    have ty : TyX X.K H1 (.ref ad) (.type "list") := by
      rcases hs with (hs | ⟨o, hs⟩) | ⟨o, its, n, l, c, _⟩
      · exact .base (.lst hs)
      · exact .base (.frz hs)
      · exact .kList l c
    exact ⟨_, _, _, _, _, rfl, .ty _, ty, kit_ty k, fin⟩
  | tup ds =>
    obtain ⟨ad, xs, rfl, hs, _⟩ := r1
    have hs := ex_t s1.gh hs
    have ty : TyX X.K H1 (.ref ad) (.type "tuple") := by
      rcases hs with (hs | ⟨o, hs⟩) | ⟨o, its, n, l, c, _⟩
      · exact .base (.tup hs)
      · exact .fTuple hs
      · exact .kTuple l c
    exact ⟨_, _, _, _, _, rfl, .ty _, ty, kit_ty (kit_tys t (.tup ds) (fun _ q => nomatch q) (fun _ q => nomatch q)), fin⟩
  | non => exact ⟨_, _, _, _, _, rfl, .ty _, (tyX r1 s1.gh (fun _ q => nomatch q) (fun _ q => nomatch q)).elim id (fun ⟨_, _, q, _⟩ => by cases (show u = V.non from r1); cases q), kit_ty (kit_tys t .non (fun _ q => nomatch q) (fun _ q => nomatch q)), fin⟩
  | bl b => exact ⟨_, _, _, _, _, rfl, .ty _, (tyX r1 s1.gh (fun _ q => nomatch q) (fun _ q => nomatch q)).elim id (fun ⟨_, _, q, _⟩ => by cases (show u = V.bl b from r1); cases q), kit_ty (kit_tys t (.bl b) (fun _ q => nomatch q) (fun _ q => nomatch q)), fin⟩
  | int b => exact ⟨_, _, _, _, _, rfl, .ty _, (tyX r1 s1.gh (fun _ q => nomatch q) (fun _ q => nomatch q)).elim id (fun ⟨_, _, q, _⟩ => by cases (show u = V.int b from r1); cases q), kit_ty (kit_tys t (.int b) (fun _ q => nomatch q) (fun _ q => nomatch q)), fin⟩
  | str b => exact ⟨_, _, _, _, _, rfl, .ty _, (tyX r1 s1.gh (fun _ q => nomatch q) (fun _ q => nomatch q)).elim id (fun ⟨_, _, q, _⟩ => by cases (show u = V.str (st b) from r1); cases q), kit_ty (kit_tys t (.str b) (fun _ q => nomatch q) (fun _ q => nomatch q)), fin⟩
  | lst ds =>
    obtain ⟨ad, xs, rfl, hs, _⟩ := r1
    exact ⟨_, _, _, _, _, rfl, .ty _, .base (.lst (s1.gh.at hs rfl)), kit_ty (kit_tys t (.lst ds) (fun _ q => nomatch q) (fun _ q => nomatch q)), fin⟩
theorem ht_of {o : Expr} {m : Str} {apos pos : Pos} {es : List Expr} {env : PySem.Env} (hb : attributeBase o m env (eval o env) = eval o env) (hl : (apos.endLine == pos.line) = true)
    (hs : (backTo pos (starEach es env)).any (·.1) = false) (hn : es.length < 30) :
    eval (.Call (.Attribute o m apos) es [] pos) env = (do
      let ov ← eval o env
      standAt apos.atName
      let (f, first) ← holding [ov] (getMethod ov m (do return (← importBound o env).getD true))
      callWith pos f first (backTo pos (starEach es env)) (backToKw pos (keywordEach [] env))) := by
  refine mcall_of hb fun ov => ?_
  have few : methodCallForm (es.length + ([] : List Keyword).length) (backTo pos (starEach es env)) (backToKw pos (keywordEach [] env)) = true := by
    unfold methodCallForm
    have h1 : (backTo pos (starEach es env)).all (!·.1) = true := by
      rw [List.all_eq_true]
      intro x hx
      rw [List.any_eq_false] at hs
      simpa using hs x hx
    rw [h1]
    show (true && List.all [] _ && decide (es.length + 0 + 0 < 30)) = true
    rw [List.all_nil]
    simpa using hn
  unfold methodCall methodCallPos calleeOf
  rw [few]
  simp only [Bool.not_true, Bool.false_or, hl, if_true, pure_bind]
theorem Rep.cnt_lookup {L : Int} {d : Addr} {m : Str} (h : m = ("count" : Str) ∨ m = ("behind" : Str)) : (cfs L d).lookup m = none := by
  have e : cfs L d = putF "known" (.ref d) (putF "limit" (.int L) []) := by
    have p1 : putF "limit" (.int L) [] = [(("limit" : Str), V.int L)] := rfl
    rw [p1]
    show _ = (if ("limit" : Str) = "known" then _ else (("limit" : Str), V.int L) :: [(("known" : Str), V.ref d)])
    rw [if_neg (by decide +kernel)]
    rfl
  rcases h with rfl | rfl
  · rw [e, lookup_putF, if_neg (by decide +kernel), lookup_putF, if_neg (by decide +kernel)]; rfl
  · rw [e, lookup_putF, if_neg (by decide +kernel), lookup_putF, if_neg (by decide +kernel)]; rfl
theorem mOf_some {x m : Str} (h : mOf x = some m) : m = ("count" : Str) ∨ m = ("behind" : Str) := by
  unfold mOf at h
  split at h
  · cases h; exact .inl rfl
  · split at h
    · cases h; exact .inr rfl
    · cases h
/-- a call under a name -/
theorem ed_call {X : Cx} {ρ : Env} {sc : Scope} (C : Cxt N Cs gl F sc X) {f : Nat} {es : List Expr} {ies : IEs} {ds : List D} {d : D} {g : List D → R D} {nm : Str} {p pos : Pos} (hf : Cs[f]? = some nm) (hg : glB sc nm = true) (hn : nmOk nm = true) (hmo : (mOf nm).isNone = true) (hF : F[f]? = some g) (hk : chkEs N Cs gl sc ies es = true)
    (h : EvA X.K (wA X es) z ρ ds) (hl : ds.length = es.length) (hd : g ds = .ok d) : EvD X.K (wE X (.Call (.Name nm p) es [] pos)) z ρ d := by
  obtain ⟨k, hr, hfn⟩ := C.fns
  obtain ⟨x, e1, hcall⟩ := hfn f g hF
  rw [hf] at e1
  cases e1
  have hmo : mOf nm = none := by simpa using hmo
  unfold CallK at hcall
  rw [hmo] at hcall
  rcases hcall with ⟨hm, hgn, fa, fd, ps, j, hj, M, hb, G⟩ | ⟨fa, fd, ps, hm, hkp, hb, G⟩
  · subst hgn
    cases es with
    | nil =>
      have hds : ds = [] := List.eq_nil_of_length_eq_zero hl
      subst hds
      cases hd
    | cons e es =>
      cases ies with
      | nil => simp [chkEs] at hk
      | cons a as =>
        rw [chkEs, Bool.and_eq_true] at hk
        refine EvD.of (pe_make M G (hr.mono (by omega)) (C.glN hg) hm hb .nil passN (paW (e :: es)) (nm1 hn) (star1 (chk_star hk.1)) (chks_star hk.2 pos)) fun G0 σ H R e0 Q q => ?_
        refine h G0 σ H R e0 _ fun vs G1 H1 s1 r1 => ?_
        intro p0 dx hp hdx hne
        have : ∃ L, ds = [.int L] ∧ d = .cnt L ∧ L = Tabs.lim := by
          unfold newC at hd
          split at hd
          · split at hd
            · rename_i hL
              cases hd; exact ⟨_, rfl, rfl, hL⟩
            · cases hd
          · cases hd
        obtain ⟨L, rfl, rfl, eL⟩ := this
        obtain ⟨v, vs', rfl, rv, rfl⟩ := r1
        cases (show v = V.int L from rv)
        have z1 : dx ≠ p0 := hne
        refine ⟨p0, dx, L, rfl, upd_same, fun dd H' hdd ndp h1 h2 h3 => ⟨rfl, ?_⟩⟩
        have n1 : H1 dd = none := by
          by_cases c : dd = dx
          · rw [c]; exact hdx
          · rw [upd_ne ndp, upd_ne c] at hdd; exact hdd
        have s2 : Step G1 H1 (upd (upd G1 p0 (.ins Tabs.cc dx (cfs L dd))) dd (.dT [])) H' := by
          have g0 := ex_none s1.gh hp
          have g1 := ex_none s1.gh n1
          have old : ∀ a o, H1 a = some o → H' a = some o := fun a o ha => h3 a o (by rw [upd_ne (ne_of_none ha hp), upd_ne (ne_of_none ha hdx)]; exact ha) (ne_of_none ha hp)
          refine ⟨(Ex.new g0).trans (Ex.new (by rw [upd_ne ndp]; exact g1)), fun a o ha => ?_, .of old, fun a o ha n => ?_⟩
          · by_cases c1 : a = dd
            · subst c1; rw [upd_same] at ha; rw [← ha]; exact .inl h2
            · rw [upd_ne c1] at ha
              by_cases c2 : a = p0
              · subst c2; rw [upd_same] at ha; rw [← ha]; exact .inl h1
              · rw [upd_ne c2] at ha
                rcases s1.gh a o ha with q1 | ⟨ps, ps', e2, q1, k1⟩ | ⟨ps, ps', e2, q1, k1⟩
                · exact .inl (old a o q1)
                · exact .inr (.inl ⟨ps, ps', e2, old a _ q1, k1⟩)
                · exact .inr (.inr ⟨ps, ps', e2, old a _ q1, k1⟩)
          · rw [upd_ne (ne_of_none ha n1), upd_ne (ne_of_none ha hp)]; exact n
        refine q (.ref p0) _ H' (s1.trans s2) ⟨eL, p0, dx, dd, [], rfl, by rw [upd_ne ndp.symm]; exact upd_same, upd_same, List.nodup_nil, fun _ hp => by cases hp⟩
  · have fin : EvD X.K (tCall (spD X.K g) [] E0 (wA X es)) z ρ d := fun G0 σ H R e Q q => h G0 σ H R e _ fun vs G1 H1 s1 r1 => ⟨G1, ds, by rw [List.append_nil]; exact r1, s1.gh, R.tabs.ex s1.gg, .inl ⟨d, hd, q.mono s1⟩⟩
    cases es with
    | nil =>
      have hds : ds = [] := List.eq_nil_of_length_eq_zero hl
      subst hds
      exact EvD.of (pe_call0 G hr (C.glN hg) hm hkp hb .nil passN (nm1 hn)) fun G0 σ H R e Q q => ⟨G0, [], rfl, e, R.tabs, .inl ⟨d, hd, q⟩⟩
    | cons e es =>
      cases ies with
      | nil => simp [chkEs] at hk
      | cons a as =>
        rw [chkEs, Bool.and_eq_true] at hk
        exact EvD.of (pe_call G hr (C.glN hg) hm hkp hb .nil passN (paW (e :: es)) (nm1 hn) (star1 (chk_star hk.1)) (chks_star hk.2 pos)) fin
/-- a call of a Counter's method -/
theorem ed_meth {X : Cx} {ρ : Env} {sc : Scope} (C : Cxt N Cs gl F sc X) {f : Nat} {o e : Expr} {es : List Expr} {a b : IE} {as : IEs} {ds : List D} {d : D} {g : List D → R D} {nm m : Str} {ap pos : Pos} (hf : Cs[f]? = some nm) (hmo : mOf nm = some m) (hF : F[f]? = some g)
    (hb : attributeBase o m X.env (eval o X.env) = eval o X.env) (hl : (ap.endLine == pos.line) = true) (hn : es.length < 20) (hs1 : isStar e = false) (hk : chkEs N Cs gl sc as es = true)
    (h1 : ∀ x ds', ds = x :: ds' → EvD X.K (wE X o) z ρ x) (h : ∀ x ds', ds = x :: ds' → EvA X.K (wA X (e :: es)) z ρ ds') (hd : g ds = .ok d) : EvD X.K (wE X (.Call (.Attribute o m ap) (e :: es) [] pos)) z ρ d := by
  obtain ⟨k, hr, hfn⟩ := C.fns
  obtain ⟨x, e1, hcall⟩ := hfn f g hF
  rw [hf] at e1
  cases e1
  unfold CallK at hcall
  rw [hmo] at hcall
  obtain ⟨cl, hgc, fa, fd, ps, hm, hbd, G⟩ := hcall
  obtain ⟨L, ds', rfl⟩ := hgc ds d hd
  refine EvD.of (pe_meth (peW o) cl hm G hr hbd .nil passN (paW (e :: es)) (star1 hs1) (chks_star hk pos) (ht_of hb hl (by
    have hst := star1 (es := es) (env := X.env) hs1
    rw [hst]
    show (false || (backTo pos (starEach es X.env)).any (·.1)) = false
    rw [chks_star hk pos]; rfl) (by rw [List.length_cons]; omega))) fun G0 σ H R e0 Q q => ?_
  refine h1 _ _ rfl G0 σ H R e0 _ fun u G1 H1 s1 r1 => ?_
  obtain ⟨eL, p, dx, dd, ks, rfl, hp, hdd, hM⟩ := id r1
  refine ⟨p, dx, _, rfl, s1.gh.at hp rfl, Rep.cnt_lookup (mOf_some hmo), ?_⟩
  refine h _ _ rfl G1 σ H1 (R.mono s1) s1.gh _ fun vs G2 H2 s2 r2 => ?_
  exact ⟨G2, .cnt L :: ds', by rw [List.append_nil]; exact ⟨_, _, rfl, r1.ex s2.gg, r2⟩, s2.gh, (R.tabs.ex s1.gg).ex s2.gg, .inl ⟨d, hd, q.mono (s1.trans s2)⟩⟩
end
section
open PySem.Builtin.Str
theorem dropW {p : Nat → Bool} : ∀ s : List Nat, s.dropWhile p = s.drop (s.takeWhile p).length
  | [] => rfl
  | c :: s => by
    rw [List.dropWhile_cons, List.takeWhile_cons]
    by_cases h : p c = true
    · rw [if_pos h, if_pos h, List.length_cons, List.drop_succ_cons]
      exact dropW s
    · rw [if_neg h, if_neg h]; rfl
theorem strip_st (c : Nat) (s : List Nat) : Txt.stripChars (st s) (st [c]) = st (stripL c s) := by
  unfold Txt.stripChars
  rw [stripBy_eq]
  have p : (st [c]).cps.contains = fun x => (x == c) := by
    funext x
    simp [st]
    by_cases h : x = c <;> simp [h]
  rw [p]
  apply TL.ext_tl
  unfold stripL stripLo stripHi strSub
  rw [if_pos rfl, if_pos rfl]
  have e1 : (st s).cps.toList = s := rfl
  have e2 : (st s).length = s.length := st_len s
  rw [e1, e2]
  show ((st s).cps.extract _ _).toList = ((s.dropWhile fun x => x == c).reverse.dropWhile fun x => x == c).reverse
  rw [Array.toList_extract, List.extract_eq_take_drop]
  rw [e1, dropW s, dropW (s.drop _).reverse]
  generalize (s.takeWhile fun x => x == c).length = lo
  generalize hk : ((s.drop lo).reverse.takeWhile fun x => x == c).length = k
  rw [List.drop_reverse, List.reverse_reverse, List.length_drop]
  congr 1
  omega
end
theorem repl_one (c : Nat) (r : List Nat) : ∀ s : List Nat, StrLaws.replL [c] r s = Pv.replL c r s
  | [] => by rw [StrLaws.replL_nil]; rfl
  | x :: s => by
    have ih := repl_one c r s
    have e : Pv.replL c r (x :: s) = (if x = c then r else [x]) ++ Pv.replL c r s := by unfold Pv.replL; rw [List.flatMap_cons]
    by_cases h : x = c
    · subst h
      rw [StrLaws.replL_hit (by simp) (by simp), e, if_pos rfl, ← ih]
      simp
    · rw [StrLaws.replL_miss (by simpa using h), e, if_neg h, ih]
      rfl
theorem repl_st (c : Nat) (r s : List Nat) : Txt.replace (st s) (st [c]) (st r) = st (Pv.replL c r s) := by
  apply TL.ext_tl
  have := StrLaws.replace_list (x := st s) (y := st [c]) (z := st r) (by rw [st_len]; exact Nat.le_refl 1)
  rw [← repl_one]
  exact this
section
variable {X : Cx}
theorem pe_mulRep {m o : Expr} {tm to : TE} {w y z : Str} {j0 j k : Nat} {c0 c1 c2 p1 p2 ap pos : Pos} {ra rm : R2} (hadd : OpR X (binaryOp .Add) ra) (hmul : OpR X (binaryOp .Mult) rm) (hm : PE X m tm) (ho : PE X o to) (hyz : (y == z) = false)
    (hbase : attributeBase o "replace" X.env (eval o X.env) = eval o X.env) (hline : (ap.endLine == pos.line) = true) :
    PE X (.BinOp (.BinOp (.Constant (.str w) j0 c0) .Mult m p1) .Add (.Call (.Attribute o "replace" ap) [.Constant (.str y) j c1, .Constant (.str z) k c2] [] pos) p2) (tOp ra (tOp rm (tC (.str w)) tm) (CwR.tReplC to y z)) := by
  refine ⟨fun pins s σ H Q I h => ?_⟩
  refine wpAny_BinOp (wpAny_BinOp (Calls.Constant_str ?_))
  have hI : Inv X pins σ H { s with toks := s.toks + 1 } := I.tok _
  refine wpAny_mono (wpAny_toks_of (n := 1) (by show 1 ≤ s.toks + 1; omega) (hm.run pins _ σ H _ hI h)) (fun u s2 q => ?_) fun _ _ z => z.2
  obtain ⟨hk, b, H2, I2, rb, q2⟩ := q
  refine wpAny_mono (wpAny_toks_of (n := 1) hk (hmul pins s2 σ H2 (.str w) b _ u _ I2 ⟨_, rfl⟩ rb q2)) (fun v s3 q => ?_) fun _ _ z => z.2
  obtain ⟨hk3, x, H3, I3, rx, q3⟩ := q
  exact thn (CwR.pet_replC ho hyz (by rfl) hbase hline pins s3 σ H3 _ hk3 I3 q3) fun u4 s4 ⟨y4, H4, I4, r4, q4⟩ => hadd pins s4 σ H4 x y4 v u4 Q I4 rx r4 q4
end
theorem pe_addRep {X : Cx} {o : Expr} {to : TE} {w y z : Str} {j0 j k : Nat} {c0 c1 c2 ap pos p2 : Pos} {ra : R2} (hadd : OpR X (binaryOp .Add) ra) (ho : PE X o to) (hyz : (y == z) = false)
    (hbase : attributeBase o "replace" X.env (eval o X.env) = eval o X.env) (hline : (ap.endLine == pos.line) = true) :
    PE X (.BinOp (.Constant (.str w) j0 c0) .Add (.Call (.Attribute o "replace" ap) [.Constant (.str y) j c1, .Constant (.str z) k c2] [] pos) p2) (tOp ra (tC (.str w)) (CwR.tReplC to y z)) := by
  refine ⟨fun pins s σ H Q I h => ?_⟩
  refine wpAny_BinOp (Calls.Constant_str ?_)
  have hI : Inv X pins σ H { s with toks := s.toks + 1 } := I.tok _
  have h : CwR.tReplC to y z σ H (fun y4 H4 => ra (.str w) y4 H4 Q) := h
  exact thn (CwR.pet_replC ho hyz (by rfl) hbase hline pins _ σ H _ (by show 1 ≤ s.toks + 1; omega) hI h) fun u4 s4 ⟨y4, H4, I4, r4, q4⟩ => hadd pins s4 σ H4 (.str w) y4 _ u4 Q I4 ⟨_, rfl⟩ r4 q4
/-! a written dict's value at a key -/
def cvV : CV → V
  | .int i => .int i
  | .str s => .str (st s)
theorem cv_rep {K : PySem.W.Frag} {G : Hp} : ∀ v : CV, Rep K G v.d (cvV v)
  | .int _ => rfl
  | .str _ => rfl
theorem pe_cv {X : Cx} {v : CV} {e : Expr} (h : chkCV v e = true) : PE X e (tC (cvV v)) := by
  cases e with
  | Constant c k p =>
    cases c with
    | int c =>
      cases v with
      | int b =>
        have : b = c := by simpa [chkCV] using h
        subst this
        exact pe_int
      | str b => simp [chkCV] at h
    | str c =>
      cases v with
      | int b => simp [chkCV] at h
      | str b =>
        have : st b = c := by simpa [chkCV] using h
        subst this
        exact pe_str
    | _ => cases v <;> simp [chkCV] at h
  | _ => cases v <;> simp [chkCV] at h
abbrev dTrs (ps : List (List Nat × CV)) : List (TE × TE) := ps.map fun p => (tC (.str (st p.1)), tC (cvV p.2))
theorem pps_of {X : Cx} {pos : Pos} : ∀ {ps : List (List Nat × CV)} {ks : List (Option Expr)} {vs : List Expr}, chkPs ps ks vs = true → PPs X pos ks vs (dTrs ps) ∧ ks.all (·.isSome) = true ∧ ks.length = vs.length ∧ ks.length = ps.length
  | [], [], [], _ => ⟨pps_nil, rfl, rfl, rfl⟩
  | (k, v) :: ps, ko :: ks, e :: es, h => by
    cases ko with
    | none => simp [chkPs] at h
    | some ke =>
      cases ke with
      | Constant c j p =>
        cases c with
        | str w =>
          simp only [chkPs, Bool.and_eq_true, decide_eq_true_eq] at h
          obtain ⟨⟨rfl, h2⟩, h3⟩ := h
          obtain ⟨a, b, c, d⟩ := pps_of (X := X) (pos := pos) h3
          refine ⟨pps_cons pe_str (pe_cv h2) a, ?_, ?_, ?_⟩
          · rw [List.all_cons, b]; rfl
          · rw [List.length_cons, List.length_cons, c]
          · rw [List.length_cons, List.length_cons, d]
        | _ => simp [chkPs] at h
      | _ => simp [chkPs] at h
  | [], _ :: _, _, h => by simp [chkPs] at h
  | [], [], _ :: _, h => by simp [chkPs] at h
  | _ :: _, [], _, h => by simp [chkPs] at h
  | _ :: _, _ :: _, [], h => by rename_i a b c; cases b with | none => simp [chkPs] at h | some ke => cases ke <;> first | simp [chkPs] at h | (rename_i c _ _; cases c <;> simp [chkPs] at h)
abbrev dKv (ps : List (List Nat × CV)) : List (Key × V) := ps.map fun p => (Sum.inr (st p.1), cvV p.2)
theorem pairs_c {σ : L2.St} {H : Hp} : ∀ {ps : List (List Nat × CV)} {Q : List (V × V) → Hp → Prop}, Q ((dKv ps).map fun kv => (kV kv.1, kv.2)) H → tPairs (dTrs ps) σ H Q
  | [], Q, h => h
  | p :: ps, Q, h => by
    show tPairs (dTrs ps) σ H fun qs H3 => Q ((V.str (st p.1), cvV p.2) :: qs) H3
    exact pairs_c h
theorem find_merge (s : List Nat) : ∀ (ps : List (List Nat × CV)) (acc : List (Key × V)) (o : Option CV), valV acc (Sum.inr (st s)) = o.map cvV → valV (mergeK acc (dKv ps)) (Sum.inr (st s)) = (dfind o ps s).map cvV
  | [], acc, o, h => h
  | (k, v) :: ps, acc, o, h => by
    show valV (mergeK (putK acc (Sum.inr (st k)) (cvV v)) (dKv ps)) (Sum.inr (st s)) = (dfind (if s = k then some v else o) ps s).map cvV
    refine find_merge s ps _ _ ?_
    rw [valV_put]
    by_cases e : s = k
    · subst e; simp
    · rw [if_neg e, if_neg (fun q => e (st_inj (Sum.inr.inj q)))]
      exact h
theorem ed_dsel {X : Cx} {ps : List (List Nat × CV)} {ks : List (Option Expr)} {vs : List Expr} {i : Expr} {p pos : Pos} {x d : D} {z : Nat → Bool} {ρ : Env} (hu : X.A.units + 64 < cLine) (hk : chkPs ps ks vs = true) (h15 : ks.length ≤ 15) (h0 : 0 < ks.length)
    (hs : NoSl i) (h : EvD X.K (wE X i) z ρ x) (hd : dselD ps x = .ok d) : EvD X.K (wE X (.Subscript (.Dict ks vs p) i pos)) z ρ d := by
  cases x with
  | str s =>
    obtain ⟨v, h1, hd⟩ := Pv.R.bind_eq_ok (show (R.ofO (dfind none ps s)).bind (fun v => R.ok v.d) = .ok d from hd)
    cases hd
    have h1 := R.ofO_ok h1
    obtain ⟨a1, a2, a3, a4⟩ := pps_of (X := X) (pos := p) hk
    refine EvD.of (pe_dget (by omega) (pe_disp a1 a2 a3 (fun e => by rw [e] at h0; cases h0) h15) (peW i) hs) fun G σ H R e Q q => ?_
    intro q0 hq0
    refine pairs_c ⟨upd_same, dKv ps, rfl, by rw [List.length_map, ← a4]; exact h15, ?_⟩
    rw [upd_upd]
    have s0 := Step.newH (o := .dK (mergeK [] (dKv ps))) e hq0
    refine h G σ _ (R.mono s0) s0.gh _ fun u G1 H1 s1 r1 => ?_
    cases (show u = V.str (st s) from r1)
    refine ⟨q0, cvV v, rfl, ?_, q (cvV v) G1 H1 (s0.trans s1) (cv_rep v)⟩
    have := DGet.k (k := Sum.inr (st s)) (s1.hh.at (o := .dK (mergeK [] (dKv ps))) upd_same rfl)
    rw [find_merge s ps [] none rfl, h1] at this
    exact this
  | _ => cases hd
theorem recv_ok {o : Expr} {n : Str} {env : PySem.Env} (h : recvOk o = true) : attributeBase o n env (eval o env) = eval o env := by
  unfold recvOk at h
  split at h
  · rfl
  · rfl
  · rfl
  · rfl
  · cases h
end Pv

end
section
/-! Ev8: expressions, all of them. -/
namespace Pv
open PySem PySem.Spec PyProof.Rows L2
variable [Tabs]
section
variable {N Cs : List Str} {gl : List (Str × GC)} {F : List (List D → R D)} {z : Nat → Bool}
/-- where new lists come out -/
def isLstE : IE → Bool
  | .lst _ => true
  | _ => false
def freshE : IE → Bool
  | .op2 o a _ => decide (o = .mul) && isLstE a
  | .lst _ => true
  | .comp _ _ _ _ => true
  | .compIf _ _ _ _ _ => true
  | .comp2 _ _ _ _ _ _ => true
  | .rangeL _ => true
  | .blt b _ => decide (b = .list) || decide (b = .sorted)
  | .slice _ _ _ => true
  | _ => false
theorem chkI_folded {it : Itr} {t e : Expr} {sc : Scope} (h : chkI N Cs gl sc it t e = true) (env : PySem.Env) (x : Value) : foldedSetIterable e env x = pure x := by
  cases it with
  | seq a => rw [chkI] at h; exact chk_folded h env x
  | _ => cases e <;> first | rfl | simp [chkI] at h
theorem strs_map : ∀ {ds : List D} {ss : List (List Nat)}, strsOf ds = some ss → ds = ss.map D.str
  | [], ss, h => by cases h; rfl
  | .str i :: ds, ss, h => by
    unfold Pv.strsOf at h
    cases q : Pv.strsOf ds with
    | none => rw [q] at h; cases h
    | some ws =>
      rw [q] at h
      cases h
      rw [List.map_cons, ← strs_map q]
  | .non :: _, _, h => by cases h
  | .bl _ :: _, _, h => by cases h
  | .int _ :: _, _, h => by cases h
  | .tup _ :: _, _, h => by cases h
  | .lst _ :: _, _, h => by cases h
  | .scr _ :: _, _, h => by cases h
  | .cnt _ :: _, _, h => by cases h
theorem cmp_inv {f : Int → Int → Bool} {x y t : D} (h : cmpD f x y = .ok t) : ∃ i j, x = .int i ∧ y = .int j ∧ t = .bl (f i j) := by
  cases x with
  | int i =>
    cases y with
    | int j => cases h; exact ⟨i, j, rfl, rfl, rfl⟩
    | _ => cases h
  | _ => cases h
theorem rd_cmp {K : PySem.W.Frag} {f : Int → Int → Bool} {i j : Int} : RD K (rI0 fun i j => V.bl (f i j)) (.int i) (.int j) (.bl (f i j)) := fun G H u v r1 r2 e Q q => by
  cases (show u = V.int i from r1)
  cases (show v = V.int j from r2)
  exact ⟨i, j, rfl, rfl, q.now e rfl⟩
section
variable {X : Cx} {a b c e : Expr} {ta tb tc td : TE} {pos : Pos}
theorem pe_chain3 {op op' op'' : CmpOp} {r r' r'' : R2} (ho : OpR X (compareOp op) r) (ho' : OpR X (compareOp op') r') (ho'' : OpR X (compareOp op'') r'') (ha : PE X a ta) (hb : PE X b tb) (hc : PE X c tc) (hd : PE X e td)
    (hm : lastMarks [op, op', op''] [b, c, e] = false) : PE X (.Compare a [op, op', op''] [b, c, e] pos) (tChain3 r r' r'' ta tb tc td) := by
  refine ⟨fun pins s σ H Q I h => ?_⟩
  refine Compare_chain (thn (ha.run pins s σ H _ I h) fun v s1 ⟨x, H1, I1, r1, q1⟩ => chain_link (thn (hb.run pins s1 σ H1 _ I1 q1) fun u s2 ⟨y, H2, I2, r2, q2⟩ =>
    thn (ho pins s2 σ H2 x y v u _ I2 r1 r2 q2) fun d1 s3 ⟨z, H3, I3, r3, k, e1, q3⟩ => ?_)) hm
  subst e1
  cases r3
  refine wpAny_truthy_bool ?_
  cases k with
  | false => exact ite_ff ⟨.bl false, H3, I3, rfl, q3⟩
  | true =>
    refine ite_tt (chain_link (thn (hc.run pins s3 σ H3 _ I3 q3) fun w s4 ⟨z4, H4, I4, r4, q4⟩ => thn (ho' pins s4 σ H4 y z4 u w _ I4 r2 r4 q4) fun d2 s5 ⟨z5, H5, I5, r5, k2, e2, q5⟩ => ?_))
    subst e2
    cases r5
    refine wpAny_truthy_bool ?_
    cases k2 with
    | false => exact ite_ff ⟨.bl false, H5, I5, rfl, q5⟩
    | true => exact ite_tt (chain_last (thn (hd.run pins s5 σ H5 _ I5 q5) fun w6 s6 ⟨z6, H6, I6, r6, q6⟩ => ho'' pins s6 σ H6 z4 z6 w w6 Q I6 r4 r6 q6))
theorem pt_chain3 {op op' op'' : CmpOp} {r r' r'' : R2} (ho : OpR X (compareOp op) r) (ho' : OpR X (compareOp op') r') (ho'' : OpR X (compareOp op'') r'') (ha : PE X a ta) (hb : PE X b tb) (hc : PE X c tc) (hd : PE X e td)
    (hm : lastMarks [op, op', op''] [b, c, e] = false) : PT X (.Compare a [op, op', op''] [b, c, e] pos) (tTest (tChain3 r r' r'' ta tb tc td)) := by
  refine ⟨fun pins s σ H Q I h => ?_⟩
  refine isTrue_chain (thn (ha.run pins s σ H _ I h) fun v s1 ⟨x, H1, I1, r1, q1⟩ => test_link (thn (hb.run pins s1 σ H1 _ I1 q1) fun u s2 ⟨y, H2, I2, r2, q2⟩ =>
    thn (ho pins s2 σ H2 x y v u _ I2 r1 r2 q2) fun d1 s3 ⟨z, H3, I3, r3, k, e1, q3⟩ => ?_)) hm
  subst e1
  cases r3
  refine wpAny_truthy_bool ?_
  cases k with
  | false =>
    obtain ⟨k', e', q'⟩ := q3
    cases e'
    exact ite_ff ⟨H3, I3, q'⟩
  | true =>
    refine ite_tt (test_link (thn (hc.run pins s3 σ H3 _ I3 q3) fun w s4 ⟨z4, H4, I4, r4, q4⟩ => thn (ho' pins s4 σ H4 y z4 u w _ I4 r2 r4 q4) fun d2 s5 ⟨z5, H5, I5, r5, k2, e2, q5⟩ => ?_))
    subst e2
    cases r5
    refine wpAny_truthy_bool ?_
    cases k2 with
    | false =>
      obtain ⟨k', e', q'⟩ := q5
      cases e'
      exact ite_ff ⟨H5, I5, q'⟩
    | true =>
      refine ite_tt (test_last (thn (hd.run pins s5 σ H5 _ I5 q5) fun w6 s6 ⟨z6, H6, I6, r6, q6⟩ => thn (ho'' pins s6 σ H6 z4 z6 w w6 _ I6 r4 r6 q6) fun d7 s7 ⟨z7, H7, I7, r7, k3, e3, q7⟩ => ?_))
      subst e3
      cases r7
      exact wpAny_truthy_bool ⟨H7, I7, q7⟩
end
mutual
theorem okE : ∀ (ie : IE) {X : Cx} {sc : Scope} (C : Cxt N Cs gl F sc X) {e : Expr} {ρ : Env}, chkE N Cs gl sc ie e = true →
    Both X z ρ ie e (evE F z ρ ie) ∧ (freshE ie = true → ∀ ds, evE F z ρ ie = .ok (.lst ds) → EvN X.K (wE X e) z ρ ds)
  | .var i, X, sc, C, e, ρ, h => by
    cases e with
    | Name x p =>
      simp only [chkE, Bool.and_eq_true, decide_eq_true_eq] at h
      refine ⟨.plain rfl fun d hd => ?_, fun q => nomatch q⟩
      exact EvD.of (pe_var (i := i) (by rw [C.hN]; exact h.1.1) (C.vis h.1.2) (nm1 h.2) (nm2 h.2)) (ed_var hd)
    | _ => simp [chkE] at h
  | .glob n, X, sc, C, e, ρ, h => by
    cases e with
    | Name x p =>
      simp only [chkE, Bool.and_eq_true, decide_eq_true_eq] at h
      refine ⟨.plain rfl fun d hd => ?_, fun q => nomatch q⟩
      cases hd
      obtain ⟨t, ht⟩ := C.glob _ h.1.1
      exact EvD.of (pe_glob (v := .int n) (C.glN h.1.2) ht ⟨t, rfl⟩ (nm1 h.2)) (ed_c fun G => rfl)
    | _ => simp [chkE] at h
  | .globT n, X, sc, C, e, ρ, h => by
    cases e with
    | Name x p =>
      simp only [chkE, Bool.and_eq_true, decide_eq_true_eq] at h
      refine ⟨.plain rfl fun d hd => ?_, fun q => nomatch q⟩
      cases hd
      obtain ⟨a, ht, hS⟩ := C.glob _ h.1.1
      exact EvD.of (pe_glob (v := .ref a) (C.glN h.1.2) ht rfl (nm1 h.2)) (ed_c fun G => ⟨a, _, rfl, hS G, Reps.int⟩)
    | _ => simp [chkE] at h
  | .non, X, sc, C, e, ρ, h => by
    cases e with
    | Constant c k p =>
      cases c with
      | none =>
        refine ⟨.plain rfl fun d hd => ?_, fun q => nomatch q⟩
        cases hd
        exact EvD.of pe_non (ed_c fun G => rfl)
      | _ => simp [chkE] at h
    | _ => simp [chkE] at h
  | .bl b, X, sc, C, e, ρ, h => by
    cases e with
    | Constant c k p =>
      cases c with
      | bool c =>
        simp only [chkE, beq_iff_eq] at h
        subst h
        refine ⟨.plain rfl fun d hd => ?_, fun q => nomatch q⟩
        cases hd
        exact EvD.of pe_bl (ed_c fun G => rfl)
      | _ => simp [chkE] at h
    | _ => simp [chkE] at h
  | .int b, X, sc, C, e, ρ, h => by
    cases e with
    | Constant c k p =>
      cases c with
      | int c =>
        simp only [chkE, beq_iff_eq] at h
        subst h
        refine ⟨.plain rfl fun d hd => ?_, fun q => nomatch q⟩
        cases hd
        exact EvD.of pe_int (ed_c fun G => rfl)
      | _ => simp [chkE] at h
    | _ => simp [chkE] at h
  | .str b, X, sc, C, e, ρ, h => by
    cases e with
    | Constant c k p =>
      cases c with
      | str c =>
        simp only [chkE, decide_eq_true_eq] at h
        subst h
        refine ⟨.plain rfl fun d hd => ?_, fun q => nomatch q⟩
        cases hd
        exact EvD.of pe_str (ed_c fun G => rfl)
      | _ => simp [chkE] at h
    | _ => simp [chkE] at h
  | .op2 o a b, X, sc, C, e, ρ, h => by
    refine ⟨?_, fun q => ?_⟩
    case refine_2 =>
      intro ds hd
      simp only [freshE, Bool.and_eq_true, decide_eq_true_eq] at q
      obtain ⟨rfl, _⟩ := q
      rw [evE] at hd
      obtain ⟨x, h1, hd⟩ := Pv.R.bind_eq_ok hd
      obtain ⟨y, h2, hd⟩ := Pv.R.bind_eq_ok hd
      cases e with
      | BinOp l op r p =>
        simp only [chkE, Bool.and_eq_true] at h
        obtain ⟨⟨h0, ha⟩, hb⟩ := h
        cases op <;> first | cases h0 | skip
        obtain ⟨q, ho, hr⟩ := op_mulN (X := X) hd
        exact EvN.of (pe_op ho (peW l) (peW r)) (en_op ((okE a C ha).1.1 x h1) ((okE b C hb).1.1 y h2) hr)
      | Subscript l r p =>
        simp only [chkE, Bool.and_eq_true, decide_eq_true_eq] at h
        cases h.1.1
      | Compare l ops rs p =>
        match ops, rs, h with
        | [op], [r], h =>
          simp only [chkE, Bool.and_eq_true] at h
          have h0 := h.1.1
          cases op <;> cases h0
        | [], _, h => simp [chkE] at h
        | _ :: _ :: _, _, h => simp [chkE] at h
        | [_], [], h => simp [chkE] at h
        | [_], _ :: _ :: _, h => simp [chkE] at h
      | _ => simp [chkE] at h
    have key : ∀ d, evE F z ρ (.op2 o a b) = .ok d → ∃ x y, evE F z ρ a = .ok x ∧ evE F z ρ b = .ok y ∧ Pv.op2 o x y = .ok d := fun d hd => by
      rw [evE] at hd
      obtain ⟨x, h1, hd⟩ := Pv.R.bind_eq_ok hd
      obtain ⟨y, h2, hd⟩ := Pv.R.bind_eq_ok hd
      exact ⟨x, y, h1, h2, hd⟩
    cases e with
    | BinOp l op r p =>
      simp only [chkE, Bool.and_eq_true] at h
      refine .plain rfl fun d hd => ?_
      obtain ⟨x, y, h1, h2, h3⟩ := key d hd
      obtain ⟨q, ho, hr⟩ := bin_ok (X := X) h.1.1 h3
      exact EvD.of (pe_op ho (peW l) (peW r)) (ed_op ((okE a C h.1.2).1.1 x h1) ((okE b C h.2).1.1 y h2) hr)
    | Subscript l r p =>
      simp only [chkE, Bool.and_eq_true, decide_eq_true_eq] at h
      obtain ⟨⟨rfl, ha⟩, hb⟩ := h
      refine .plain rfl fun d hd => ?_
      obtain ⟨x, y, h1, h2, h3⟩ := key d hd
      obtain ⟨q, ho, hr⟩ := ix_D (X := X) h3
      exact EvD.of (pe_ix ho (peW l) (peW r) (chk_ix hb)) (ed_op ((okE a C ha).1.1 x h1) ((okE b C hb).1.1 y h2) hr)
    | Compare l ops rs p =>
      match ops, rs, h with
      | [op], [r], h =>
        simp only [chkE, Bool.and_eq_true] at h
        refine ⟨fun d hd => ?_, fun _ c hc => ?_⟩
        · obtain ⟨x, y, h1, h2, h3⟩ := key d hd
          obtain ⟨⟨q, ho, hr⟩, _⟩ := cmp_ok (X := X) C.units h.1.1 h3
          exact ed_cmpR ((okE a C h.1.2).1.1 x h1) ((okE b C h.2).1.1 y h2) ho hr (chk_noset h.2 op)
        · obtain ⟨d, hd, hc⟩ := Pv.R.bind_eq_ok hc
          obtain ⟨x, y, h1, h2, h3⟩ := key d hd
          obtain ⟨⟨q, ho, hr⟩, b', rfl⟩ := cmp_ok (X := X) C.units h.1.1 h3
          cases hc
          exact et_cmpR ((okE a C h.1.2).1.1 x h1) ((okE b C h.2).1.1 y h2) ho hr (chk_noset h.2 op)
      | [], _, h => simp [chkE] at h
      | _ :: _ :: _, _, h => simp [chkE] at h
      | [_], [], h => simp [chkE] at h
      | [_], _ :: _ :: _, h => simp [chkE] at h
    | _ => simp [chkE] at h
  | .neg a, X, sc, C, e, ρ, h => by
    cases e with
    | UnaryOp op x p =>
      cases op with
      | USub =>
        simp only [chkE] at h
        refine ⟨.plain rfl fun d hd => ?_, fun q => nomatch q⟩
        rw [evE] at hd
        obtain ⟨y, h1, h2⟩ := Pv.R.bind_eq_ok hd
        obtain ⟨r, ho, hr⟩ := un_negD (X := X) h2
        exact EvD.of (pe_un ho (peW x)) (ed_un ((okE a C h).1.1 y h1) hr)
      | _ => simp [chkE] at h
    | _ => simp [chkE] at h
  | .not a, X, sc, C, e, ρ, h => by
    cases e with
    | UnaryOp op x p =>
      cases op with
      | Not =>
        simp only [chkE] at h
        refine ⟨⟨fun d hd => ?_, fun ht c hc => ?_⟩, fun q => nomatch q⟩
        · rw [evE] at hd
          obtain ⟨t, h1, h2⟩ := Pv.R.bind_eq_ok hd
          cases h2
          obtain ⟨y, h3, h4⟩ := Pv.R.bind_eq_ok h1
          exact EvD.of (pe_notT (peW x)) (ed_notT ((okE a C h).1.1 y h3) h4)
        · rw [evE] at hc
          obtain ⟨d, h0, hc⟩ := Pv.R.bind_eq_ok hc
          obtain ⟨t, h1, h2⟩ := Pv.R.bind_eq_ok h0
          cases h2
          cases hc
          rw [tOk] at ht
          exact EvT.of (pt_not (ptW x)) (et_not ((okE a C h).1.2 ht t h1))
      | _ => simp [chkE] at h
    | _ => simp [chkE] at h
  | .and a b, X, sc, C, e, ρ, h => by
    cases e with
    | BoolOp op vs p =>
      cases op with
      | Or => simp [chkE] at h
      | And =>
        match vs, h with
        | [], h => simp [chkE] at h
        | [_], h => simp [chkE] at h
        | x :: y :: r, h =>
          simp only [chkE, Bool.and_eq_true] at h
          refine ⟨⟨fun d hd => ?_, fun ht c hc => ?_⟩, fun q => nomatch q⟩
          · rw [evE] at hd
            obtain ⟨v, h1, hd⟩ := Pv.R.bind_eq_ok hd
            obtain ⟨t, h2, hd⟩ := Pv.R.bind_eq_ok hd
            have pb : ∃ tb, PE X (.BoolOp .And (y :: r) p) tb ∧ (t = true → EvD X.K tb z ρ d) := by
              cases r with
              | nil => exact ⟨_, pe_one (peW y), fun ht => by subst ht; exact (okE b C h.2).1.1 d hd⟩
              | cons y2 r2 => exact ⟨_, peW _, fun ht => by subst ht; exact (okE b C h.2).1.1 d hd⟩
            obtain ⟨tb, p1, p2⟩ := pb
            exact EvD.of (pe_andT (peW x) p1) (ed_andT ((okE a C h.1).1.1 v h1) h2 p2 fun hf => by subst hf; cases hd; rfl)
          · rw [evE] at hc
            obtain ⟨d, h0, hc⟩ := Pv.R.bind_eq_ok hc
            obtain ⟨v, h1, h0⟩ := Pv.R.bind_eq_ok h0
            obtain ⟨t, h2, h0⟩ := Pv.R.bind_eq_ok h0
            rw [tOk, Bool.and_eq_true] at ht
            have ta := (okE a C h.1).1.2 ht.1 t (by rw [h1]; exact h2)
            have pb : ∃ tb, PW X (.BoolOp .And (y :: r) p) tb ∧ (t = true → EvT X.K tb z ρ c) := by
              cases r with
              | nil => exact ⟨_, pw_and1 (ptW y), fun ht' => by subst ht'; exact (okE b C h.2).1.2 ht.2 c (by rw [show evE F z ρ b = R.ok d from h0]; exact hc)⟩
              | cons y2 r2 => exact ⟨_, pw_bool, fun ht' => by subst ht'; exact (okE b C h.2).1.2 ht.2 c (by rw [show evE F z ρ b = R.ok d from h0]; exact hc)⟩
            obtain ⟨tb, p1, p2⟩ := pb
            have e1 : c = (t && c) := by
              cases t with
              | true => rfl
              | false => cases h0; rw [h2] at hc; cases hc; rfl
            rw [e1]
            exact EvT.of (pw_and (ptW x) p1).pt (et_and ta p2)
    | _ => simp [chkE] at h
  | .or a b, X, sc, C, e, ρ, h => by
    cases e with
    | BoolOp op vs p =>
      cases op with
      | And => simp [chkE] at h
      | Or =>
        match vs, h with
        | [], h => simp [chkE] at h
        | [_], h => simp [chkE] at h
        | x :: y :: r, h =>
          simp only [chkE, Bool.and_eq_true] at h
          refine ⟨⟨fun d hd => ?_, fun ht c hc => ?_⟩, fun q => nomatch q⟩
          · rw [evE] at hd
            obtain ⟨v, h1, hd⟩ := Pv.R.bind_eq_ok hd
            obtain ⟨t, h2, hd⟩ := Pv.R.bind_eq_ok hd
            have pb : ∃ tb, PE X (.BoolOp .Or (y :: r) p) tb ∧ (t = false → EvD X.K tb z ρ d) := by
              cases r with
              | nil => exact ⟨_, pe_one (peW y), fun ht => by subst ht; exact (okE b C h.2).1.1 d hd⟩
              | cons y2 r2 => exact ⟨_, peW _, fun ht => by subst ht; exact (okE b C h.2).1.1 d hd⟩
            obtain ⟨tb, p1, p2⟩ := pb
            exact EvD.of (pe_orT (peW x) p1) (ed_orT ((okE a C h.1).1.1 v h1) h2 (fun hf => by subst hf; cases hd; rfl) p2)
          · rw [evE] at hc
            obtain ⟨d, h0, hc⟩ := Pv.R.bind_eq_ok hc
            obtain ⟨v, h1, h0⟩ := Pv.R.bind_eq_ok h0
            obtain ⟨t, h2, h0⟩ := Pv.R.bind_eq_ok h0
            rw [tOk, Bool.and_eq_true] at ht
            have ta := (okE a C h.1).1.2 ht.1 t (by rw [h1]; exact h2)
            have pb : ∃ tb, PW X (.BoolOp .Or (y :: r) p) tb ∧ (t = false → EvT X.K tb z ρ c) := by
              cases r with
              | nil => exact ⟨_, pw_or1 (ptW y), fun ht' => by subst ht'; exact (okE b C h.2).1.2 ht.2 c (by rw [show evE F z ρ b = R.ok d from h0]; exact hc)⟩
              | cons y2 r2 => exact ⟨_, pw_bool, fun ht' => by subst ht'; exact (okE b C h.2).1.2 ht.2 c (by rw [show evE F z ρ b = R.ok d from h0]; exact hc)⟩
            obtain ⟨tb, p1, p2⟩ := pb
            have e1 : c = (t || c) := by
              cases t with
              | false => rfl
              | true => cases h0; rw [h2] at hc; cases hc; rfl
            rw [e1]
            exact EvT.of (pw_or (ptW x) p1).pt (et_or ta p2)
    | _ => simp [chkE] at h
  | .ite c a b, X, sc, C, e, ρ, h => by
    cases e with
    | IfExp x y w p =>
      simp only [chkE, Bool.and_eq_true] at h
      refine ⟨⟨fun d hd => ?_, fun q => by simp [tOk] at q⟩, fun q => nomatch q⟩
      rw [evE] at hd
      obtain ⟨t, h1, hd⟩ := Pv.R.bind_eq_ok hd
      refine EvD.of (pe_ifExp (ptW x) (peW y) (peW w)) (ed_if ((okE c C h.1.1.1).1.2 h.1.1.2 t h1) (fun ht => ?_) (fun ht => ?_))
      · subst ht; exact (okE a C h.1.2).1.1 d hd
      · subst ht; exact (okE b C h.2).1.1 d hd
    | _ => simp [chkE] at h
  | .chain o p a b c, X, sc, C, e, ρ, h => by
    cases e with
    | Compare l ops rs pos =>
      match ops, rs, h with
      | [op, op'], [m, r], h =>
        simp only [chkE, Bool.and_eq_true] at h
        obtain ⟨⟨⟨⟨k1, k2⟩, ka⟩, kb⟩, kc⟩ := h
        have hm : lastMarks [op, op'] [m, r] = false := chk_noset kc op'
        have main : ∀ d, evE F z ρ (.chain o p a b c) = .ok d → (∃ q q', OpR X (compareOp op) q ∧ OpR X (compareOp op') q' ∧ EvD X.K (tChain q q' (wE X l) (wE X m) (wE X r)) z ρ d) ∧ ∃ b', d = .bl b' := fun d hd => by
          rw [evE] at hd
          obtain ⟨x, h1, hd⟩ := Pv.R.bind_eq_ok hd
          obtain ⟨y, h2, hd⟩ := Pv.R.bind_eq_ok hd
          obtain ⟨t, h3, hd⟩ := Pv.R.bind_eq_ok hd
          obtain ⟨⟨q, ho, hr⟩, t', rfl⟩ := cmp_ok (X := X) C.units k1 h3
          cases t' with
          | false =>
            cases hd
            have ho' : ∃ q', OpR X (compareOp op') q' := by
              -- any rule of the second comparison
              cases p <;> cases op' <;> first | cases k2 | skip
              · exact ⟨_, op_eq⟩
              · exact ⟨_, op_ne⟩
              · exact ⟨_, op_lt⟩
              · exact ⟨_, op_le⟩
              · exact ⟨_, op_gt⟩
              · exact ⟨_, op_ge⟩
              · exact ⟨_, op_in_seq⟩
              · exact ⟨_, op_notIn_seq⟩
              · exact ⟨_, op_isBl⟩
              · exact ⟨_, op_notBl⟩
              · exact ⟨_, op_le⟩
            obtain ⟨q', ho'⟩ := ho'
            exact ⟨⟨q, q', ho, ho', ed_chain ((okE a C ka).1.1 x h1) ((okE b C kb).1.1 y h2) hr (fun q => nomatch q) fun _ => rfl⟩, _, rfl⟩
          | true =>
            obtain ⟨w, h4, hd⟩ := Pv.R.bind_eq_ok hd
            obtain ⟨⟨q', ho', hr'⟩, b', rfl⟩ := cmp_ok (X := X) C.units k2 hd
            exact ⟨⟨q, q', ho, ho', ed_chain ((okE a C ka).1.1 x h1) ((okE b C kb).1.1 y h2) hr (fun _ => ⟨w, (okE c C kc).1.1 w h4, hr'⟩) fun q => nomatch q⟩, _, rfl⟩
        refine ⟨⟨fun d hd => ?_, fun _ c' hc' => ?_⟩, fun q => nomatch q⟩
        · obtain ⟨⟨q, q', ho, ho', hv⟩, _⟩ := main d hd
          exact EvD.of (pe_chain ho ho' (peW l) (peW m) (peW r) hm) hv
        · obtain ⟨d, hd, hc'⟩ := Pv.R.bind_eq_ok hc'
          obtain ⟨⟨q, q', ho, ho', hv⟩, b', rfl⟩ := main d hd
          cases hc'
          exact EvT.of (pt_chain ho ho' (peW l) (peW m) (peW r) hm) (et_test hv)
      | [], _, h => simp [chkE] at h
      | [_], _, h => simp [chkE] at h
      | _ :: _ :: _ :: _, _, h => simp [chkE] at h
      | [_, _], [], h => simp [chkE] at h
      | [_, _], [_], h => simp [chkE] at h
      | [_, _], _ :: _ :: _ :: _, h => simp [chkE] at h
    | _ => simp [chkE] at h
  | .chain3 a b c d3, X, sc, C, e, ρ, h => by
      revert h
      simp only [chkE]
      split
      · rename_i l m r q pos
        intro h
        simp only [Bool.and_eq_true] at h
        obtain ⟨⟨⟨ka, kb⟩, kc⟩, kd⟩ := h
        have hm : lastMarks [CmpOp.LtE, .Lt, .Lt] [m, r, q] = false := chk_noset kd _
        have main : ∀ d, evE F z ρ (.chain3 a b c d3) = .ok d → EvD X.K (tChain3 (rI0 fun i j => V.bl (decide (i ≤ j))) (rI0 fun i j => V.bl (decide (i < j))) (rI0 fun i j => V.bl (decide (i < j))) (wE X l) (wE X m) (wE X r) (wE X q)) z ρ d ∧ ∃ b', d = .bl b' := fun d hd => by
          rw [evE] at hd
          obtain ⟨x, h1, hd⟩ := Pv.R.bind_eq_ok hd
          obtain ⟨y, h2, hd⟩ := Pv.R.bind_eq_ok hd
          obtain ⟨t, h3, hd⟩ := Pv.R.bind_eq_ok hd
          obtain ⟨i, j, rfl, rfl, rfl⟩ := cmp_inv h3
          have A := (okE a C ka).1.1 _ h1
          have B := (okE b C kb).1.1 _ h2
          by_cases ij : i ≤ j
          · have e1 : decide (i ≤ j) = true := decide_eq_true ij
            simp only [e1] at hd
            obtain ⟨w, h4, hd⟩ := Pv.R.bind_eq_ok hd
            obtain ⟨t2, h5, hd⟩ := Pv.R.bind_eq_ok hd
            obtain ⟨j', k, ej, rfl, rfl⟩ := cmp_inv h5
            cases ej
            have Cc := (okE c C kc).1.1 _ h4
            by_cases jk : j < k
            · have e2 : decide (j < k) = true := decide_eq_true jk
              simp only [e2] at hd
              obtain ⟨v, h6, hd⟩ := Pv.R.bind_eq_ok hd
              obtain ⟨k', l, ek, rfl, rfl⟩ := cmp_inv hd
              cases ek
              have Dd := (okE d3 C kd).1.1 _ h6
              exact ⟨ed_chain3 (b := true) A B (by rw [← e1]; exact rd_cmp) (fun _ => ⟨.int k, true, Cc, by rw [← e2]; exact rd_cmp, fun _ => ⟨.int l, Dd, rd_cmp⟩, fun q => nomatch q⟩) (fun q => nomatch q), _, rfl⟩
            · have e2 : decide (j < k) = false := decide_eq_false jk
              simp only [e2] at hd
              cases hd
              exact ⟨ed_chain3 (b := true) A B (by rw [← e1]; exact rd_cmp) (fun _ => ⟨.int k, false, Cc, by rw [← e2]; exact rd_cmp, (fun q => nomatch q), fun _ => rfl⟩) (fun q => nomatch q), _, rfl⟩
          · have e1 : decide (i ≤ j) = false := decide_eq_false ij
            simp only [e1] at hd
            cases hd
            exact ⟨ed_chain3 (b := false) A B (by rw [← e1]; exact rd_cmp) (fun q => nomatch q) (fun _ => rfl), _, rfl⟩
        refine ⟨⟨fun d hd => ?_, fun _ c' hc' => ?_⟩, fun q => nomatch q⟩
        · exact EvD.of (pe_chain3 op_le op_lt op_lt (peW l) (peW m) (peW r) (peW q) hm) (main d hd).1
        · obtain ⟨d, hd, hc'⟩ := Pv.R.bind_eq_ok hc'
          obtain ⟨hv, b', rfl⟩ := main d hd
          cases hc'
          exact EvT.of (pt_chain3 op_le op_lt op_lt (peW l) (peW m) (peW r) (peW q) hm) (et_test hv)
      · intro h; cases h
  | .chain3e a b c d3, X, sc, C, e, ρ, h => by
      revert h
      simp only [chkE]
      split
      · rename_i l m r q pos
        intro h
        simp only [Bool.and_eq_true] at h
        obtain ⟨⟨⟨ka, kb⟩, kc⟩, kd⟩ := h
        have hm : lastMarks [CmpOp.LtE, .LtE, .LtE] [m, r, q] = false := chk_noset kd _
        have main : ∀ d, evE F z ρ (.chain3e a b c d3) = .ok d → EvD X.K (tChain3 (rI0 fun i j => V.bl (decide (i ≤ j))) (rI0 fun i j => V.bl (decide (i ≤ j))) (rI0 fun i j => V.bl (decide (i ≤ j))) (wE X l) (wE X m) (wE X r) (wE X q)) z ρ d ∧ ∃ b', d = .bl b' := fun d hd => by
          rw [evE] at hd
          obtain ⟨x, h1, hd⟩ := Pv.R.bind_eq_ok hd
          obtain ⟨y, h2, hd⟩ := Pv.R.bind_eq_ok hd
          obtain ⟨t, h3, hd⟩ := Pv.R.bind_eq_ok hd
          obtain ⟨i, j, rfl, rfl, rfl⟩ := cmp_inv h3
          have A := (okE a C ka).1.1 _ h1
          have B := (okE b C kb).1.1 _ h2
          by_cases ij : i ≤ j
          · have e1 : decide (i ≤ j) = true := decide_eq_true ij
            simp only [e1] at hd
            obtain ⟨w, h4, hd⟩ := Pv.R.bind_eq_ok hd
            obtain ⟨t2, h5, hd⟩ := Pv.R.bind_eq_ok hd
            obtain ⟨j', k, ej, rfl, rfl⟩ := cmp_inv h5
            cases ej
            have Cc := (okE c C kc).1.1 _ h4
            by_cases jk : j ≤ k
            · have e2 : decide (j ≤ k) = true := decide_eq_true jk
              simp only [e2] at hd
              obtain ⟨v, h6, hd⟩ := Pv.R.bind_eq_ok hd
              obtain ⟨k', l, ek, rfl, rfl⟩ := cmp_inv hd
              cases ek
              have Dd := (okE d3 C kd).1.1 _ h6
              exact ⟨ed_chain3 (b := true) A B (by rw [← e1]; exact rd_cmp) (fun _ => ⟨.int k, true, Cc, by rw [← e2]; exact rd_cmp, fun _ => ⟨.int l, Dd, rd_cmp⟩, fun q => nomatch q⟩) (fun q => nomatch q), _, rfl⟩
            · have e2 : decide (j ≤ k) = false := decide_eq_false jk
              simp only [e2] at hd
              cases hd
              exact ⟨ed_chain3 (b := true) A B (by rw [← e1]; exact rd_cmp) (fun _ => ⟨.int k, false, Cc, by rw [← e2]; exact rd_cmp, (fun q => nomatch q), fun _ => rfl⟩) (fun q => nomatch q), _, rfl⟩
          · have e1 : decide (i ≤ j) = false := decide_eq_false ij
            simp only [e1] at hd
            cases hd
            exact ⟨ed_chain3 (b := false) A B (by rw [← e1]; exact rd_cmp) (fun q => nomatch q) (fun _ => rfl), _, rfl⟩
        refine ⟨⟨fun d hd => ?_, fun _ c' hc' => ?_⟩, fun q => nomatch q⟩
        · exact EvD.of (pe_chain3 op_le op_le op_le (peW l) (peW m) (peW r) (peW q) hm) (main d hd).1
        · obtain ⟨d, hd, hc'⟩ := Pv.R.bind_eq_ok hc'
          obtain ⟨hv, b', rfl⟩ := main d hd
          cases hc'
          exact EvT.of (pt_chain3 op_le op_le op_le (peW l) (peW m) (peW r) (peW q) hm) (et_test hv)
      · intro h; cases h
  | .isN a, X, sc, C, e, ρ, h => by
    revert h
    simp only [chkE]
    split
    · intro h
      refine ⟨⟨fun d hd => ?_, fun _ c' hc' => ?_⟩, fun q => nomatch q⟩
      · rw [evE] at hd
        obtain ⟨x, h1, hd⟩ := Pv.R.bind_eq_ok hd
        cases hd
        exact ed_cmpR (y := .non) ((okE a C h).1.1 x h1) (EvD.of pe_non (ed_c fun G => rfl)) op_isN rd_isN rfl
      · rw [evE] at hc'
        obtain ⟨d, hd, hc'⟩ := Pv.R.bind_eq_ok hc'
        obtain ⟨x, h1, hd⟩ := Pv.R.bind_eq_ok hd
        cases hd
        cases hc'
        exact et_cmpR (y := .non) ((okE a C h).1.1 x h1) (EvD.of pe_non (ed_c fun G => rfl)) op_isN rd_isN rfl
    · intro h; cases h
  | .notN a, X, sc, C, e, ρ, h => by
    revert h
    simp only [chkE]
    split
    · intro h
      refine ⟨⟨fun d hd => ?_, fun _ c' hc' => ?_⟩, fun q => nomatch q⟩
      · rw [evE] at hd
        obtain ⟨x, h1, hd⟩ := Pv.R.bind_eq_ok hd
        cases hd
        exact ed_cmpR (y := .non) ((okE a C h).1.1 x h1) (EvD.of pe_non (ed_c fun G => rfl)) op_notN rd_notN rfl
      · rw [evE] at hc'
        obtain ⟨d, hd, hc'⟩ := Pv.R.bind_eq_ok hc'
        obtain ⟨x, h1, hd⟩ := Pv.R.bind_eq_ok hd
        cases hd
        cases hc'
        exact et_cmpR (y := .non) ((okE a C h).1.1 x h1) (EvD.of pe_non (ed_c fun G => rfl)) op_notN rd_notN rfl
    · intro h; cases h
  | .slice a lo hi, X, sc, C, e, ρ, h => by
    revert h
    simp only [chkE]
    split
    · rename_i l l1 h1 p2 pos
      intro h
      simp only [Bool.and_eq_true] at h
      obtain ⟨⟨ha, hl⟩, hh⟩ := h
      have key : ∀ d, evE F z ρ (.slice a lo hi) = .ok d → ∃ x lo' hi', evE F z ρ a = .ok x ∧ sliceD x lo' hi' = .ok d ∧
          (∃ tl, PO X l1 tl ∧ EvO X.K tl z ρ lo') ∧ ∃ th, PO X h1 th ∧ EvO X.K th z ρ hi' := fun d hd => by
        rw [evE] at hd
        obtain ⟨x, q1, hd⟩ := Pv.R.bind_eq_ok hd
        obtain ⟨l', q2, hd⟩ := Pv.R.bind_eq_ok hd
        obtain ⟨lo', q3, hd⟩ := Pv.R.bind_eq_ok hd
        obtain ⟨h', q4, hd⟩ := Pv.R.bind_eq_ok hd
        obtain ⟨hi', q5, hd⟩ := Pv.R.bind_eq_ok hd
        refine ⟨x, lo', hi', q1, hd, ?_, ?_⟩
        · cases l1 with
          | none =>
            have : lo = .non := by cases lo <;> first | rfl | simp [isNon] at hl
            subst this
            cases q2
            cases q3
            exact ⟨_, po_none, eo_none⟩
          | some x1 =>
            simp only [Bool.and_eq_true] at hl
            have hv := (okE lo C hl.2).1.1 l' q2
            cases l' with
            | int i => cases q3; exact ⟨_, po_some (peW x1), eo_some hv⟩
            | non =>
              have h0 : isNon lo = false := by simpa using hl.1
              rw [h0] at q3
              cases q3
            | _ => cases q3
        · cases h1 with
          | none =>
            have : hi = .non := by cases hi <;> first | rfl | simp [isNon] at hh
            subst this
            cases q4
            cases q5
            exact ⟨_, po_none, eo_none⟩
          | some x1 =>
            simp only [Bool.and_eq_true] at hh
            have hv := (okE hi C hh.2).1.1 h' q4
            cases h' with
            | int i => cases q5; exact ⟨_, po_some (peW x1), eo_some hv⟩
            | non =>
              have h0 : isNon hi = false := by simpa using hh.1
              rw [h0] at q5
              cases q5
            | _ => cases q5
      refine ⟨.plain rfl fun d hd => ?_, fun _ ds hd => ?_⟩
      · obtain ⟨x, lo', hi', q1, q2, ⟨tl, p1, v1⟩, th, p2, v2⟩ := key d hd
        exact ed_sliceD ((okE a C ha).1.1 x q1) v1 v2 q2 (peW l) p1 p2
      · obtain ⟨x, lo', hi', q1, q2, ⟨tl, p1, v1⟩, th, p2, v2⟩ := key _ hd
        cases x with
        | lst xs =>
          cases q2
          refine EvN.of (pe_slice sl_list (peW l) p1 p2) (en_slice ((okE a C ha).1.1 _ q1) v1 v2 fun G H v r e Q q => ?_)
          obtain ⟨ad, vs, rfl, g1, r1⟩ := r
          exact ⟨ad, vs, rfl, .of (e.at g1 rfl), fun p hp => q p _ G _ hp (Step.newH e hp) (ex_none e hp) upd_same (r1.cut lo' hi')⟩
        | str s => obtain ⟨_, q2⟩ := R.when_ok q2; cases q2
        | _ => cases q2
    · intro h; cases h
  | .rev a, X, sc, C, e, ρ, h => by
    revert h
    simp only [chkE]
    split
    · intro h
      refine ⟨.plain rfl fun d hd => ?_, fun q => nomatch q⟩
      rw [evE] at hd
      obtain ⟨x, h1, hd⟩ := Pv.R.bind_eq_ok hd
      exact ed_rev (peW _) ((okE a C h).1.1 x h1) hd
    · intro h; cases h
  | .tup es, X, sc, C, e, ρ, h => by
    cases e with
    | Tuple xs k p =>
      simp only [chkE] at h
      refine ⟨.plain rfl fun d hd => ?_, fun q => nomatch q⟩
      rw [evE] at hd
      obtain ⟨ds, h1, hd⟩ := Pv.R.bind_eq_ok hd
      obtain ⟨hl, hd⟩ := R.when_ok hd
      cases hd
      exact EvD.of (pe_tup (paW xs)) (ed_tup ((okEs es C h).2 ds h1).1 hl)
    | _ => simp [chkE] at h
  | .lst es, X, sc, C, e, ρ, h => by
    cases e with
    | List xs p =>
      simp only [chkE] at h
      have main : ∀ ds, evE F z ρ (.lst es) = .ok (.lst ds) → EvN X.K (wE X (.List xs p)) z ρ ds := fun ds' hd => by
        rw [evE] at hd
        obtain ⟨ds, h1, hd⟩ := Pv.R.bind_eq_ok hd
        obtain ⟨hl, hd⟩ := R.when_ok hd
        have e1 : ds = ds' := D.lst.inj (R.ok.inj hd)
        subst e1
        exact EvN.of (pe_lst (paW xs)) (en_lst ((okEs es C h).2 ds h1).1 hl)
      refine ⟨.plain rfl fun d hd => ?_, fun _ ds hd => main ds hd⟩
      have hd' := hd
      rw [evE] at hd
      obtain ⟨ds, h1, hd⟩ := Pv.R.bind_eq_ok hd
      obtain ⟨hl, hd⟩ := R.when_ok hd
      cases hd
      exact (main _ hd').toD
    | _ => simp [chkE] at h
  | .call f es, X, sc, C, e, ρ, h => by
    revert h
    simp only [chkE]
    split
    · intro h
      simp only [Bool.and_eq_true, decide_eq_true_eq] at h
      refine ⟨.plain rfl fun d hd => ?_, fun q => nomatch q⟩
      rw [evE] at hd
      obtain ⟨ds, h1, hd⟩ := Pv.R.bind_eq_ok hd
      cases hF : F[f]? with
      | none => rw [hF] at hd; cases hd
      | some g =>
        rw [hF] at hd
        obtain ⟨q1, q2⟩ := (okEs es C h.2).2 ds h1
        exact ed_call C h.1.1.1.1 h.1.1.1.2 h.1.1.2 h.1.2 hF h.2 q1 q2 hd
    · rename_i o m ap x xs pos
      intro h
      simp only [Bool.and_eq_true, decide_eq_true_eq] at h
      obtain ⟨⟨⟨⟨hm, hro⟩, hl⟩, hn⟩, hk⟩ := h
      refine ⟨.plain rfl fun d hd => ?_, fun q => nomatch q⟩
      rw [evE] at hd
      obtain ⟨ds, h1, hg⟩ := Pv.R.bind_eq_ok hd
      clear hd
      cases hF : F[f]? with
      | none => rw [hF] at hg; cases hg
      | some g =>
        rw [hF] at hg
        have hg : g ds = .ok d := hg
        cases hC : Cs[f]? with
        | none => rw [hC] at hm; cases hm
        | some y =>
          rw [hC] at hm
          have hm : mOf y = some m := by simpa using hm
          cases es with
          | nil => simp [chkEs] at hk
          | cons a r =>
            rw [chkEs, Bool.and_eq_true] at hk
            rw [evEs] at h1
            obtain ⟨d0, h2, h1⟩ := Pv.R.bind_eq_ok h1
            obtain ⟨ds', h3, h1⟩ := Pv.R.bind_eq_ok h1
            cases h1
            cases r with
            | nil => simp [chkEs] at hk
            | cons b r =>
              have hk2 := hk.2
              rw [chkEs, Bool.and_eq_true] at hk2
              exact ed_meth (a := a) (b := b) C hC hm hF (recv_ok hro) hl hn (chk_star hk2.1) hk2.2 (fun x' ds'' e2 => by cases e2; exact (okE a C hk.1).1.1 d0 h2) (fun x' ds'' e2 => by cases e2; exact ((okEs (.cons b r) C hk.2).2 ds' h3).1) hg
    · intro h; cases h
  | .blt b es, X, sc, C, e, ρ, h => by
    revert h
    simp only [chkE]
    split
    · rename_i x p xs pos
      intro h
      simp only [Bool.and_eq_true, decide_eq_true_eq] at h
      obtain ⟨⟨⟨⟨hx, hj⟩, hs⟩, hg⟩, hk⟩ := h
      have hm : X.mg x = none := by rw [hx]; exact C.blt _ (blt_in b hj hs)
      have ne : ∀ d, evE F z ρ (.blt b es) = .ok d → ∃ ds, evEs F z ρ es = .ok ds ∧ Pv.blt b ds = .ok d ∧ EvA X.K (wA X xs) z ρ ds ∧ ∃ y ys, xs = y :: ys := fun d hd => by
        rw [evE] at hd
        obtain ⟨ds, h1, hd⟩ := Pv.R.bind_eq_ok hd
        obtain ⟨q1, q2⟩ := (okEs es C hk).2 ds h1
        refine ⟨ds, h1, hd, q1, ?_⟩
        cases xs with
        | cons y ys => exact ⟨y, ys, rfl⟩
        | nil =>
          have : ds = [] := List.eq_nil_of_length_eq_zero q2
          subst this
          cases b <;> cases hd
      have hst : ∀ y ys, xs = y :: ys → starEach (y :: ys) X.env = (false, eval y X.env) :: starEach ys X.env ∧ (backTo pos (starEach ys X.env)).any (·.1) = false := fun y ys e1 => by
        subst e1
        cases es with
        | nil => simp [chkEs] at hk
        | cons a as =>
          rw [chkEs, Bool.and_eq_true] at hk
          exact ⟨star1 (chk_star hk.1), chks_star hk.2 pos⟩
      refine ⟨.plain rfl fun d hd => ?_, fun hf ds' hd => ?_⟩
      · obtain ⟨ds, h1, h2, h3, y, ys, rfl⟩ := ne d hd
        obtain ⟨r, hc, hr⟩ := blt_ok (X := X) C.calm C.units hj hs h2
        exact EvD.of (pe_callV hj hs hx hc (C.glN hg) hm (paW _) (hst y ys rfl).1 (hst y ys rfl).2) (ed_cb h3 hr)
      · obtain ⟨ds, h1, h2, h3, y, ys, rfl⟩ := ne _ hd
        have hb : b = .list ∨ b = .sorted := by
          simp only [freshE, Bool.or_eq_true, decide_eq_true_eq] at hf
          exact hf
        obtain ⟨r, hc, hr⟩ := blt_new (X := X) C.units hb h2
        exact EvN.of (pe_callV hj hs hx hc (C.glN hg) hm (paW _) (hst y ys rfl).1 (hst y ys rfl).2) (en_cb h3 hr)
    · rename_i o m ap x pos
      intro h
      simp only [Bool.and_eq_true, decide_eq_true_eq] at h
      obtain ⟨⟨⟨hm, hr⟩, hl⟩, hk⟩ := h
      refine ⟨.plain rfl fun d hd => ?_, fun hf => by cases b <;> first | cases hm | simp [freshE] at hf⟩
      rw [evE] at hd
      obtain ⟨ds, h1, hd⟩ := Pv.R.bind_eq_ok hd
      cases es with
      | nil => simp [chkEs] at hk
      | cons a as =>
        cases as with
        | nil => simp [chkEs] at hk
        | cons b' bs =>
          simp only [chkEs, Bool.and_eq_true] at hk
          obtain ⟨k1, k2, k3⟩ := hk
          rw [evEs] at h1
          obtain ⟨d1, g1, h1⟩ := Pv.R.bind_eq_ok h1
          obtain ⟨ds1, g2, h1⟩ := Pv.R.bind_eq_ok h1
          cases h1
          rw [evEs] at g2
          obtain ⟨d2, g3, g2⟩ := Pv.R.bind_eq_ok g2
          obtain ⟨ds2, g4, g2⟩ := Pv.R.bind_eq_ok g2
          cases g2
          have hv1 := (okE a C k1).1.1 d1 g1
          have hv2 := (okE b' C k2).1.1 d2 g3
          have hds2 : ds2 = [] := by
            cases bs with
            | nil => rw [evEs] at g4; cases g4; rfl
            | cons _ _ => simp [chkEs] at k3
          subst hds2
          cases b <;> first | cases hm | skip
          · have hm := of_decide_eq_true hm
            subst hm
            cases d1 with
            | str s =>
              cases d2 with
              | lst ys =>
                have hd : ((R.ofO (strsOf ys)).bind fun ys => R.when (s.length * ys.length + totalLen ys ≤ line) (.ok (.str (Pv.joinL s ys)))) = R.ok d := hd
                cases hi : strsOf ys with
                | none => rw [hi] at hd; cases hd
                | some ws =>
                  rw [hi] at hd
                  obtain ⟨hz, hd⟩ := R.when_ok hd
                  cases hd
                  refine EvD.of (pe_join (peW o) (peW x) (star1 (chk_star k2)) (recv_ok hr) hl) fun G σ H R e Q q => ?_
                  refine hv1 G σ H R e _ fun u G1 H1 s1 r1 => ?_
                  cases (show u = V.str (st s) from r1)
                  refine ⟨⟨_, rfl⟩, ?_⟩
                  refine hv2 G1 σ H1 (R.mono s1) s1.gh _ fun u2 G2 H2 s2 r2 => ?_
                  obtain ⟨ad, vs, rfl, h1, q1⟩ := r2
                  have := q1.strs hi
                  subst this
                  refine ⟨st s, ad, ws.map st, rfl, rfl, .inl (.of (s2.gh.at h1 rfl)), ?_, ?_⟩
                  · have h3 := total_len ws
                    rw [List.length_map, st_len, Nat.mul_comm]
                    have : line = 16777216 := rfl
                    omega
                  · rw [join_st]
                    exact q _ G2 H2 (s1.trans s2) rfl
              | _ => cases hd
            | _ => cases hd
          · have hm := of_decide_eq_true hm
            subst hm
            cases d1 with
            | str s =>
              cases d2 with
              | str cs =>
                have hd : splitB [.str s, .str cs] = R.ok d := hd
                match cs, hd, hv2 with
                | [c], hd, hv2 =>
                  obtain ⟨hz, hd⟩ := R.when_ok (show R.when (s.length + 2 ≤ line) (R.ok (D.lst ((splitL c s).map D.str))) = R.ok d from hd)
                  cases hd
                  refine EvD.of (pe_bm PySem.F.plainAttrs_str PySem.F.slot_str_split PySem.F.type_str_split mt_split (peW o) (pa_cons (peW x) pa_nil (star1 (chk_star k2))) (recv_ok hr)
                    (by rw [star1 (chk_star k2)]; rfl) hl (star1 (chk_star k2)) rfl) fun G σ H R e Q q => ?_
                  refine hv1 G σ H R e _ fun u G1 H1 s1 r1 => ?_
                  cases (show u = V.str (st s) from r1)
                  refine ⟨rfl, ?_⟩
                  refine hv2 G1 σ H1 (R.mono s1) s1.gh _ fun u2 G2 H2 s2 r2 => ?_
                  cases (show u2 = V.str (st [c]) from r2)
                  refine ⟨st s, st [c], rfl, rfl, rfl, by rw [st_len, sizeLine_eq]; exact hz, fun p hp => ?_⟩
                  rw [split_st]
                  have n := ex_none s2.gh hp
                  refine q (.ref p) (upd G2 p (.lst (((splitL c s).map st).map V.str))) _ ((s1.trans s2).trans (Step.new s2.gh hp)) ⟨p, _, rfl, upd_same, ?_⟩
                  exact strs_rep (splitL c s)
                | [], hd, _ => cases hd
                | _ :: _ :: _, hd, _ => cases hd
              | _ => cases hd
            | _ => cases hd
          · have hm := of_decide_eq_true hm
            subst hm
            cases d1 with
            | str s =>
              cases d2 with
              | str cs =>
                have hd : stripB [.str s, .str cs] = R.ok d := hd
                match cs, hd, hv2 with
                | [c], hd, hv2 =>
                  obtain ⟨hz, hd⟩ := R.when_ok (show R.when (s.length ≤ line) (R.ok (D.str (stripL c s))) = R.ok d from hd)
                  cases hd
                  refine EvD.of (pe_bm PySem.F.plainAttrs_str PySem.F.slot_str_strip PySem.F.type_str_strip mt_stripChars (peW o) (pa_cons (peW x) pa_nil (star1 (chk_star k2))) (recv_ok hr)
                    (by rw [star1 (chk_star k2)]; rfl) hl (star1 (chk_star k2)) rfl) fun G σ H R e Q q => ?_
                  refine hv1 G σ H R e _ fun u G1 H1 s1 r1 => ?_
                  cases (show u = V.str (st s) from r1)
                  refine ⟨rfl, ?_⟩
                  refine hv2 G1 σ H1 (R.mono s1) s1.gh _ fun u2 G2 H2 s2 r2 => ?_
                  cases (show u2 = V.str (st [c]) from r2)
                  refine ⟨st s, st [c], rfl, rfl, by rw [st_len, sizeLine_eq]; exact hz, ?_⟩
                  rw [strip_st]
                  exact q _ G2 H2 (s1.trans s2) rfl
                | [], hd, _ => cases hd
                | _ :: _ :: _, hd, _ => cases hd
              | _ => cases hd
            | _ => cases hd
          · have hm := of_decide_eq_true hm
            subst hm
            cases d1 with
            | lst ys =>
              cases d2 with
              | int k =>
                have hd : ((R.ofO (intsOf ys)).bind fun ns => R.ofO ((ns.findIdx? (· == k)).map fun (j : Nat) => D.int j)) = R.ok d := hd
                cases hi : intsOf ys with
                | none => rw [hi] at hd; cases hd
                | some ns =>
                  rw [hi] at hd
                  have hd : R.ofO ((ns.findIdx? (· == k)).map fun (j : Nat) => D.int j) = R.ok d := hd
                  cases hj : ns.findIdx? (· == k) with
                  | none => rw [hj] at hd; cases hd
                  | some j =>
                    rw [hj] at hd
                    cases hd
                    obtain ⟨jl, je, jn⟩ := List.findIdx?_eq_some_iff_getElem.mp hj
                    refine EvD.of (pe_bm PySem.F.plainAttrs_list PySem.F.slot_list_index PySem.F.type_list_index mt_index (peW o) (pa_cons (peW x) pa_nil (star1 (chk_star k2))) (recv_ok hr)
                      (by rw [star1 (chk_star k2)]; rfl) hl (star1 (chk_star k2)) rfl) fun G σ H R e Q q => ?_
                    refine hv1 G σ H R e _ fun u G1 H1 s1 r1 => ?_
                    obtain ⟨ad, vs, rfl, g1, q1⟩ := r1
                    refine ⟨.inl ⟨rfl, vs, .of (s1.gh.at g1 rfl)⟩, ?_⟩
                    refine hv2 G1 σ H1 (R.mono s1) s1.gh _ fun u2 G2 H2 s2 r2 => ?_
                    cases (show u2 = V.int k from r2)
                    have ei := q1.ints hi
                    subst ei
                    refine ⟨ad, ns.map V.int, .int k, j, .int ns[j], rfl, rfl, .of (s2.hh.at (s1.gh.at g1 rfl) rfl), rfl, ?_, ?_, ?_, fun m z' hm hz => ?_, q _ G2 H2 (s1.trans s2) rfl⟩
                    · rw [List.all_eq_true]
                      intro v hv
                      obtain ⟨n, _, rfl⟩ := List.mem_map.mp hv
                      rfl
                    · rw [List.getElem?_map, List.getElem?_eq_getElem jl]; rfl
                    · exact je
                    · rw [List.getElem?_map, List.getElem?_eq_getElem (Nat.lt_trans hm jl)] at hz
                      cases hz
                      have := jn m hm
                      show (ns[m] == k) = false
                      simpa using this
              | _ => cases hd
            | _ => cases hd
          · have hm := of_decide_eq_true hm
            subst hm
            cases d1 with
            | lst ys =>
              cases d2 with
              | int k =>
                have hd : ((R.ofO (intsOf ys)).bind fun ns => .ok (D.int (ns.count k))) = R.ok d := hd
                cases hi : intsOf ys with
                | none => rw [hi] at hd; cases hd
                | some ns =>
                  rw [hi] at hd
                  cases hd
                  refine EvD.of (pe_bm PySem.F.plainAttrs_list PySem.F.slot_list_count PySem.F.type_list_count mt_lcount (peW o) (pa_cons (peW x) pa_nil (star1 (chk_star k2))) (recv_ok hr)
                    (by rw [star1 (chk_star k2)]; rfl) hl (star1 (chk_star k2)) rfl) fun G σ H R e Q q => ?_
                  refine hv1 G σ H R e _ fun u G1 H1 s1 r1 => ?_
                  obtain ⟨ad, vs, rfl, g1, q1⟩ := r1
                  refine ⟨.inl ⟨rfl, vs, .of (s1.gh.at g1 rfl)⟩, ?_⟩
                  refine hv2 G1 σ H1 (R.mono s1) s1.gh _ fun u2 G2 H2 s2 r2 => ?_
                  cases (show u2 = V.int k from r2)
                  have ei := q1.ints hi
                  subst ei
                  exact ⟨ad, ns, k, rfl, rfl, .of (s2.hh.at (s1.gh.at g1 rfl) rfl), q _ G2 H2 (s1.trans s2) rfl⟩
              | bl k =>
                have hd : ((R.ofO (blsOf ys)).bind fun ns => .ok (D.int (ns.count k))) = R.ok d := hd
                cases hi : blsOf ys with
                | none => rw [hi] at hd; cases hd
                | some ns =>
                  rw [hi] at hd
                  cases hd
                  refine EvD.of (pe_bm PySem.F.plainAttrs_list PySem.F.slot_list_count PySem.F.type_list_count mt_bcount (peW o) (pa_cons (peW x) pa_nil (star1 (chk_star k2))) (recv_ok hr)
                    (by rw [star1 (chk_star k2)]; rfl) hl (star1 (chk_star k2)) rfl) fun G σ H R e Q q => ?_
                  refine hv1 G σ H R e _ fun u G1 H1 s1 r1 => ?_
                  obtain ⟨ad, vs, rfl, g1, q1⟩ := r1
                  refine ⟨.inl ⟨rfl, vs, .of (s1.gh.at g1 rfl)⟩, ?_⟩
                  refine hv2 G1 σ H1 (R.mono s1) s1.gh _ fun u2 G2 H2 s2 r2 => ?_
                  cases (show u2 = V.bl k from r2)
                  have ei := reps_bls hi q1
                  subst ei
                  exact ⟨ad, ns, k, rfl, rfl, .of (s2.hh.at (s1.gh.at g1 rfl) rfl), q _ G2 H2 (s1.trans s2) rfl⟩
              | _ => cases hd
            | _ => cases hd
    · intro h; cases h
  | .fmt a, X, sc, C, e, ρ, h => by
    revert h
    simp only [chkE]
    split
    · rename_i x c p
      intro h
      simp only [Bool.and_eq_true, decide_eq_true_eq] at h
      obtain ⟨rfl, ha⟩ := h
      refine ⟨.plain rfl fun d hd => ?_, fun q => nomatch q⟩
      rw [evE] at hd
      obtain ⟨v, h1, hd⟩ := Pv.R.bind_eq_ok hd
      refine EvD.of (pe_fmt (peW x)) fun G σ H R e Q q => ?_
      refine (okE a C ha).1.1 v h1 G σ H R e _ fun u G1 H1 s1 r1 => ?_
      cases v with
      | str s =>
        obtain ⟨hl, hd⟩ := Pv.R.when_ok hd
        cases hd
        cases (show u = V.str (st s) from r1)
        exact .inl ⟨st s, rfl, by rw [st_len, sizeLine_eq]; exact hl, q _ G1 H1 s1 rfl⟩
      | int i =>
        obtain ⟨hl, hd⟩ := Pv.R.when_ok hd
        cases hd
        cases (show u = V.int i from r1)
        refine .inr ⟨i, rfl, ?_, ?_⟩
        · have : i.natAbs < 2 ^ 40 := by omega
          have h2 : i.natAbs.log2 < 40 ∨ i.natAbs = 0 := by
            by_cases z : i.natAbs = 0
            · exact .inr z
            · exact .inl ((Nat.log2_lt z).mpr this)
          rcases h2 with h2 | h2
          · omega
          · rw [h2]; decide
        · have := st_show i
          exact q _ G1 H1 s1 (show _ = V.str (st (showI i)) by rw [← st_show])
      | _ => cases hd
    · intro h; cases h
  | .fstr es, X, sc, C, e, ρ, h => by
    revert h
    simp only [chkE]
    split
    · rename_i v1 v2 r p
      intro h
      refine ⟨.plain rfl fun d hd => ?_, fun q => nomatch q⟩
      rw [evE] at hd
      obtain ⟨ds, h1, hd⟩ := Pv.R.bind_eq_ok hd
      have hd : ((R.ofO (strsOf ds)).bind fun ss => R.when (ss.flatten.length ≤ line) (R.ok (D.str ss.flatten))) = .ok d := hd
      cases hi : strsOf ds with
      | none => rw [hi] at hd; cases hd
      | some ss =>
        rw [hi] at hd
        obtain ⟨hl, hd⟩ := R.when_ok hd
        cases hd
        have es1 := strs_map hi
        subst es1
        have pj : ∀ l : List Expr, PJ X l (l.map (wE X)) := fun l => by
          induction l with
          | nil => exact .nil
          | cons x l ih => exact .cons (peW x) ih
        refine EvD.of (pe_joined (pj _)) fun G σ H R e Q q => ?_
        have := okJ es C h ss h1 G σ H R e [] (fun out H1 => Q (.str out) H1) (by simpa using hl) fun G' H' s => q _ G' H' s rfl
        exact this
    · intro h; cases h
  | .isinst t a, X, sc, C, e, ρ, h => by
    revert h
    simp only [chkE]
    split
    · intro h
      simp only [Bool.and_eq_true, decide_eq_true_eq] at h
      obtain ⟨⟨⟨⟨rfl, g1⟩, rfl⟩, g2⟩, ha⟩ := h
      refine ⟨.plain rfl fun d hd => ?_, fun q => nomatch q⟩
      rw [evE] at hd
      obtain ⟨x, h1, hd⟩ := Pv.R.bind_eq_ok hd
      obtain ⟨hcn, rfl⟩ := isTyR_ok hd
      exact ed_isinst C.blt (C.glN g1) (C.glN g2) (chk_star ha) ((okE a C ha).1.1 x h1) hcn
    · intro h; cases h
  | .rangeL es, X, sc, C, e, ρ, h => by
    revert h
    simp only [chkE]
    split
    · rename_i x p y p2 xs pos1 pos
      intro h
      simp only [Bool.and_eq_true, decide_eq_true_eq] at h
      obtain ⟨⟨⟨⟨rfl, g1⟩, rfl⟩, g2⟩, hk⟩ := h
      have m1 : X.mg "list" = none := C.blt _ (by decide +kernel)
      have m2 : X.mg "range" = none := C.blt _ (by decide +kernel)
      have rgv : ∀ (i n : Int) (G : Hp), Reps X.K G (rangeD i 1 (n - i).toNat) (rgV i n) := fun i n G => by
        have key : ∀ (m : Nat) (j : Int), Reps X.K G (rangeD j 1 m) ((List.range m).map fun (k : Nat) => V.int (j + (k : Nat))) := by
          intro m
          induction m with
          | zero => intro j; exact rfl
          | succ m ih =>
            intro j
            rw [rangeD, List.range_succ_eq_map, List.map_cons, List.map_map]
            refine ⟨_, _, rfl, by simp [Rep], ?_⟩
            have := ih (j + 1)
            rw [show ((fun (k : Nat) => V.int (j + (k : Nat))) ∘ Nat.succ) = (fun (k : Nat) => V.int (j + 1 + (k : Nat))) from funext fun k => by simp; omega]
            exact this
        exact key _ i
      have main : ∀ ds, evE F z ρ (.rangeL es) = .ok (.lst ds) → EvN X.K (wE X (.Call (.Name "list" p) [.Call (.Name "range" p2) xs [] pos1] [] pos)) z ρ ds := fun ds' hd => by
        rw [evE] at hd
        obtain ⟨ds, h1, hd⟩ := Pv.R.bind_eq_ok hd
        obtain ⟨ys, h2, hd⟩ := Pv.R.bind_eq_ok hd
        have e1 : ys = ds' := D.lst.inj (R.ok.inj hd)
        subst e1
        obtain ⟨q1, q2⟩ := (okEs es C hk).2 ds h1
        match xs, ds, hk, q1, q2, h2 with
        | [e1], [d1], hk, q1, q2, h2 =>
          cases d1 with
          | int n =>
            obtain ⟨hb, h2⟩ := R.when_ok h2
            cases h2
            cases es with
            | nil => simp [chkEs] at hk
            | cons a as =>
              rw [chkEs, Bool.and_eq_true] at hk
              rw [evEs] at h1
              obtain ⟨d2, g1', h1⟩ := Pv.R.bind_eq_ok h1
              obtain ⟨ds2, g2', h1⟩ := Pv.R.bind_eq_ok h1
              cases h1
              have hv := (okE a C hk.1).1.1 _ g1'
              refine EvN.of (pe_listRg C.calm (C.glN g1) m1 (prg_1 (C.glN g2) m2 (peW e1) (star1 (chk_star hk.1))) rfl) fun G σ H R e Q q => ?_
              refine hv G σ H R e _ fun u G1 H1 s1 r1 => ?_
              cases (show u = V.int n from r1)
              refine ⟨n, rfl, ⟨by decide, by decide, by omega, by omega, by omega⟩, fun p hp => ?_⟩
              refine q p _ G1 _ (ex_none s1.hh hp) (s1.trans (Step.newH s1.gh hp)) (ex_none s1.gh hp) upd_same ?_
              have := rgv 0 n G1
              rw [Int.sub_zero] at this
              exact this
          | _ => cases h2
        | [e1, e2], [d1, d2], hk, q1, q2, h2 =>
          cases d1 with
          | int i =>
            cases d2 with
            | int n =>
              obtain ⟨⟨b1, b2, b3⟩, h2⟩ := R.when_ok h2
              cases h2
              cases es with
              | nil => simp [chkEs] at hk
              | cons a as =>
                cases as with
                | nil => simp [chkEs] at hk
                | cons a2 as =>
                  simp only [chkEs, Bool.and_eq_true] at hk
                  obtain ⟨k1, k2, k3⟩ := hk
                  rw [evEs] at h1
                  obtain ⟨d2, g1', h1⟩ := Pv.R.bind_eq_ok h1
                  obtain ⟨ds2, g2', h1⟩ := Pv.R.bind_eq_ok h1
                  cases h1
                  rw [evEs] at g2'
                  obtain ⟨d3, g3', g2'⟩ := Pv.R.bind_eq_ok g2'
                  obtain ⟨ds3, g4', g2'⟩ := Pv.R.bind_eq_ok g2'
                  cases g2'
                  have hv := (okE a C k1).1.1 _ g1'
                  have hv2 := (okE a2 C k2).1.1 _ g3'
                  refine EvN.of (pe_listRg C.calm (C.glN g1) m1 (prg_2 (C.glN g2) m2 (peW e1) (peW e2) (star1 (chk_star k1)) (star1 (chk_star k2)) (by rw [star1 (chk_star k2)]; rfl)) rfl) fun G σ H R e Q q => ?_
                  refine hv G σ H R e _ fun u G1 H1 s1 r1 => ?_
                  cases (show u = V.int i from r1)
                  refine hv2 G1 σ H1 (R.mono s1) s1.gh _ fun u2 G2 H2 s2 r2 => ?_
                  cases (show u2 = V.int n from r2)
                  have c1 := b1.1; have c2 := b1.2; have c3 := b2.1; have c4 := b2.2
                  refine ⟨i, n, rfl, rfl, ⟨by omega, by omega, by omega, by omega, by omega⟩, fun p hp => ?_⟩
                  exact q p _ G2 _ (ex_none (s1.hh.trans s2.hh) hp) ((s1.trans s2).trans (Step.newH s2.gh hp)) (ex_none s2.gh hp) upd_same (rgv i n G2)
            | _ => cases h2
          | _ => cases h2
        | _, [], _, _, _, h2 => cases h2
        | [], _ :: _, _, _, q2, _ => cases q2
        | [_], _ :: _ :: _, _, _, q2, _ => simp at q2
        | [_, _], [_], _, _, q2, _ => simp at q2
        | [_, _], _ :: _ :: _ :: _, _, _, q2, _ => simp at q2
        | _ :: _ :: _ :: _, [_], _, _, q2, _ => simp at q2
        | _ :: _ :: _ :: _, [_, _], _, _, q2, _ => simp at q2
        | _ :: _ :: _ :: _, _ :: _ :: _ :: _, hk, _, q2, h2 =>
          unfold rng at h2
          split at h2 <;> first | cases h2 | (rename_i heq; simp at heq)
      refine ⟨.plain rfl fun d hd => ?_, fun _ ds hd => main ds hd⟩
      have hd' := hd
      rw [evE] at hd
      obtain ⟨ds, h1, hd⟩ := Pv.R.bind_eq_ok hd
      obtain ⟨ys, h2, hd⟩ := Pv.R.bind_eq_ok hd
      cases hd
      exact (main _ hd').toD
    · intro h; cases h
  | .allMin a, X, sc, C, e, ρ, h => by
    revert h
    simp only [chkE]
    split
    · rename_i x p elt t i scope gpos pos
      intro h
      simp only [Bool.and_eq_true, decide_eq_true_eq, Bool.not_eq_true', List.contains_iff_mem] at h
      obtain ⟨⟨⟨⟨⟨rfl, g1⟩, hcs⟩, hG⟩, hl⟩, hi⟩ := h
      have m1 : X.mg "all" = none := C.blt _ (by decide +kernel)
      obtain ⟨c, P, T⟩ := C.tab hcs
      obtain ⟨k, hr, _⟩ := C.fns
      unfold chkG at hG
      rw [Bool.and_eq_true] at hG
      obtain ⟨hS, hG⟩ := hG
      unfold genOk at hS
      simp only [Bool.and_eq_true, decide_eq_true_eq, Bool.not_eq_true', List.all_eq_true] at hS
      obtain ⟨⟨⟨s1, s2⟩, s3⟩, s4⟩ := hS
      have sc1 : ∀ y ∈ scope.names, y.2 ≠ .cell := fun y hy => (s3 y hy).1
      have sc2 : ∀ (cells : List (Str × Addr)), ∀ y ∈ scope.names, y.2 = .free → ∃ c, cells.lookup y.1 = some c := fun cells y hy e => absurd e (s3 y hy).2
      refine ⟨.plain rfl fun d hd => ?_, fun q => nomatch q⟩
      rw [evE] at hd
      obtain ⟨v, h2, hd⟩ := Pv.R.bind_eq_ok hd
      have fold : ∀ v, genFold i X.env v = pure v := fun v => by
        have := chk_folded hi X.env v
        unfold genFold
        split
        · cases hl
        · exact this
      cases v with
      | lst ds =>
        revert hG
        split
        · intro hG
          simp only [Bool.and_eq_true, decide_eq_true_eq] at hG
          obtain ⟨⟨⟨⟨rfl, rfl⟩, l1⟩, l2⟩, hn⟩ := hG
          exact ed_allMin hr (C.glN g1) m1 T ⟨s1, s2, sc1, s4, l1, sc2 _⟩ l2 (C.blt _ (by decide +kernel)) (nm1 hn) fold ((okE a C hi).1.1 _ h2) hd
        · rename_i q; cases q
        · rename_i q; cases q
        · intro hG; cases hG
      | _ => cases hd
    · intro h; cases h
  | .allMod i a, X, sc, C, e, ρ, h => by
    revert h
    simp only [chkE]
    split
    · rename_i x p y p1 n p2 p3 j p4 p5 y2 px it scope gpos pos
      intro h
      simp only [Bool.and_eq_true, decide_eq_true_eq, Bool.not_eq_true', List.contains_iff_mem] at h
      obtain ⟨⟨⟨⟨⟨⟨⟨⟨⟨⟨⟨⟨⟨rfl, g1⟩, hcs⟩, hS⟩, rfl⟩, l1⟩, l2⟩, l3⟩, n1⟩, n2⟩, hN⟩, hcell⟩, hl⟩, hi⟩ := h
      have m1 : X.mg "all" = none := C.blt _ (by decide +kernel)
      obtain ⟨c, P, T⟩ := C.tab hcs
      obtain ⟨k, hr, _⟩ := C.fns
      unfold genOkF at hS
      simp only [Bool.and_eq_true, decide_eq_true_eq, Bool.not_eq_true', List.all_eq_true, Bool.or_eq_true] at hS
      obtain ⟨⟨⟨s1, s2⟩, s3⟩, s4⟩ := hS
      refine ⟨.plain rfl fun d hd => ?_, fun q => nomatch q⟩
      rw [evE] at hd
      obtain ⟨v, h2, hd⟩ := Pv.R.bind_eq_ok hd
      have fold : ∀ v, genFold it X.env v = pure v := fun v => by
        have := chk_folded hi X.env v
        unfold genFold
        split
        · cases hl
        · exact this
      cases v with
      | lst ds =>
        have hvis : X.env.scope.names.lookup n = some .cell := by rw [C.hsc]; exact hcell
        cases hρ : ρ[i]? with
        | none => rw [hρ] at hd; cases hd
        | some sl =>
          rw [hρ] at hd
          cases sl with
          | val dv =>
            cases dv with
            | int m =>
              obtain ⟨ns, h3, hd⟩ := Pv.R.bind_eq_ok (show (R.ofO (Pv.intsOf ds)).bind (fun ns => R.when (0 < m) (.ok (.bl (ns.all fun x => x % m == 0)))) = .ok d from hd)
              obtain ⟨h0, hd⟩ := R.when_ok hd
              cases hd
              refine ed_allMod hr (C.glN g1) m1 T (fun ok => ⟨s1, s2, fun y hy => (s3 y hy).1, s4, l1, fun y hy e => ?_⟩) (nm1 n1) (by rw [C.hN]; exact hN) hvis l2 l3 (nm1 n2) (nm2 n2) fold ((okE a C hi).1.1 _ h2) (R.ofO_ok h3) h0 hρ
              rcases (s3 y hy).2 with w | w
              · exact absurd e w
              · rw [w]; exact ok.has n (.inl hvis)
            | _ => cases hd
          | _ => cases hd
      | _ => cases hd
    · intro h; cases h
  | .mulRep w m a c r, X, sc, C, e, ρ, h => by
    revert h
    simp only [chkE]
    split
    · rename_i w' j0 c0 x p1 o nm ap y j c1 z' k c2 pos p2
      intro h
      simp only [Bool.and_eq_true, decide_eq_true_eq] at h
      obtain ⟨⟨⟨⟨⟨⟨⟨rfl, rfl⟩, rfl⟩, rfl⟩, hr⟩, hl⟩, hm⟩, ha⟩ := h
      refine ⟨.plain rfl fun d hd => ?_, fun q => nomatch q⟩
      rw [evE] at hd
      obtain ⟨kd, h1, hd⟩ := Pv.R.bind_eq_ok hd
      obtain ⟨xd, h2, hd⟩ := Pv.R.bind_eq_ok hd
      obtain ⟨yd, h3, hd⟩ := Pv.R.bind_eq_ok hd
      obtain ⟨wd, h4, hd⟩ := Pv.R.bind_eq_ok hd
      obtain ⟨rm, hmul, hrm⟩ := op_mulD (X := X) h2
      obtain ⟨ra, hadd, hra⟩ := bin_ok (X := X) (o := .add) (op := .Add) rfl hd
      cases yd with
      | str s =>
        obtain ⟨⟨z1, z2⟩, h4⟩ := R.when_ok (show R.when (s.length + (s.length + 1) * r.length ≤ 16777216 ∧ r ≠ [c]) (R.ok (D.str (Pv.replL c r s))) = R.ok wd from h4)
        cases h4
        have hyz : (st [c] == st r) = false := by
          rw [st_beq]
          exact beq_eq_false_iff_ne.mpr fun e => z2 e.symm
        refine EvD.of (pe_mulRep hadd hmul (peW x) (peW o) hyz (recv_ok hr) hl) fun G σ H R e Q q => ?_
        refine (okE m C hm).1.1 kd h1 G σ H R e _ fun u1 G1 H1 s1 r1 => ?_
        refine hrm G1 H1 (.str (st w)) u1 rfl r1 s1.gh _ fun u2 G2 H2 s2 r2 => ?_
        have s12 := s1.trans s2
        refine (okE a C ha).1.1 _ h3 G2 σ H2 (R.mono s12) s12.gh _ fun u3 G3 H3 s3 r3 => ?_
        cases (show u3 = V.str (st s) from r3)
        refine ⟨st s, rfl, by rw [st_len, st_len]; exact z1, ?_⟩
        rw [repl_st]
        exact hra G3 H3 u2 (.str (st (Pv.replL c r s))) (r2.ex s3.gg) rfl s3.gh Q (q.mono (s12.trans s3))
      | _ => cases h4
    · intro h; cases h
  | .addRep w a c r, X, sc, C, e, ρ, h => by
    revert h
    simp only [chkE]
    split
    · rename_i w' j0 c0 o nm ap y j c1 z' k c2 pos p2
      intro h
      simp only [Bool.and_eq_true, decide_eq_true_eq] at h
      obtain ⟨⟨⟨⟨⟨⟨rfl, rfl⟩, rfl⟩, rfl⟩, hr⟩, hl⟩, ha⟩ := h
      refine ⟨.plain rfl fun d hd => ?_, fun q => nomatch q⟩
      rw [evE] at hd
      obtain ⟨yd, h3, hd⟩ := Pv.R.bind_eq_ok hd
      obtain ⟨wd, h4, hd⟩ := Pv.R.bind_eq_ok hd
      obtain ⟨ra, hadd, hra⟩ := bin_ok (X := X) (o := .add) (op := .Add) rfl hd
      cases yd with
      | str s =>
        obtain ⟨⟨z1, z2⟩, h4⟩ := R.when_ok (show R.when (s.length + (s.length + 1) * r.length ≤ 16777216 ∧ r ≠ [c]) (R.ok (D.str (Pv.replL c r s))) = R.ok wd from h4)
        cases h4
        have hyz : (st [c] == st r) = false := by
          rw [st_beq]
          exact beq_eq_false_iff_ne.mpr fun e => z2 e.symm
        refine EvD.of (pe_addRep hadd (peW o) hyz (recv_ok hr) hl) fun G σ H R e Q q => ?_
        refine (okE a C ha).1.1 _ h3 G σ H R e _ fun u3 G3 H3 s3 r3 => ?_
        cases (show u3 = V.str (st s) from r3)
        refine ⟨st s, rfl, by rw [st_len, st_len]; exact z1, ?_⟩
        rw [repl_st]
        exact hra G3 H3 (.str (st w)) (.str (st (Pv.replL c r s))) rfl rfl s3.gh Q (q.mono s3)
      | _ => cases h4
    · intro h; cases h
  | .dsel ps a, X, sc, C, e, ρ, h => by
    revert h
    simp only [chkE]
    split
    · rename_i ks vs p y pos
      intro h
      simp only [Bool.and_eq_true, decide_eq_true_eq] at h
      obtain ⟨⟨⟨h1, h2⟩, h3⟩, h4⟩ := h
      refine ⟨.plain rfl fun d hd => ?_, fun q => nomatch q⟩
      rw [evE] at hd
      obtain ⟨x, e1, hd⟩ := Pv.R.bind_eq_ok hd
      exact ed_dsel C.units h1 h2 h3 (chk_ix h4) ((okE a C h4).1.1 _ e1) hd
    · intro h; cases h
  | .min0 a, X, sc, C, e, ρ, h => by
    revert h
    simp only [chkE]
    split
    · rename_i x p y w j p2 kp pos
      intro h
      simp only [Bool.and_eq_true, decide_eq_true_eq] at h
      obtain ⟨⟨⟨rfl, g1⟩, rfl⟩, hi⟩ := h
      have m1 : X.mg "min" = none := C.blt _ (by decide +kernel)
      refine ⟨.plain rfl fun d hd => ?_, fun q => nomatch q⟩
      rw [evE] at hd
      obtain ⟨v, h2, hd⟩ := Pv.R.bind_eq_ok hd
      cases v with
      | lst ds =>
        obtain ⟨ns, h3, hd⟩ := Pv.R.bind_eq_ok (show (R.ofO (Pv.intsOf ds)).bind (fun ns => match ns with
          | [] => .ok (.int 0)
          | m :: ns => .ok (.int (minL m ns))) = .ok d from hd)
        have ed := ed_min0 (p := p) (pos := pos) (kp := kp) (p2 := p2) (j := j) C.calm C.units (C.glN g1) m1 (star1 (chk_star hi)) ((okE a C hi).1.1 _ h2) (R.ofO_ok h3)
        cases ns with
        | nil => cases hd; exact ed
        | cons m r => cases hd; exact ed
      | _ => cases hd
    · intro h; cases h
  | .allLt a b, X, sc, C, e, ρ, h => by
    revert h
    simp only [chkE]
    split
    · rename_i x p elt t w wp y v zpos scope gpos pos
      intro h
      simp only [Bool.and_eq_true, decide_eq_true_eq, Bool.not_eq_true', List.contains_iff_mem] at h
      obtain ⟨⟨⟨⟨⟨⟨⟨rfl, g1⟩, hcs⟩, hG⟩, rfl⟩, g2⟩, ha⟩, hb⟩ := h
      have m1 : X.mg "all" = none := C.blt _ (by decide +kernel)
      obtain ⟨c, P, T⟩ := C.tab hcs
      obtain ⟨k, hr, _⟩ := C.fns
      unfold chkG at hG
      rw [Bool.and_eq_true] at hG
      obtain ⟨hS, hG⟩ := hG
      unfold genOk at hS
      simp only [Bool.and_eq_true, decide_eq_true_eq, Bool.not_eq_true', List.all_eq_true] at hS
      obtain ⟨⟨⟨s1, s2⟩, s3⟩, s4⟩ := hS
      have sc1 : ∀ y ∈ scope.names, y.2 ≠ .cell := fun y hy => (s3 y hy).1
      have sc2 : ∀ (cells : List (Str × Addr)), ∀ y ∈ scope.names, y.2 = .free → ∃ c, cells.lookup y.1 = some c := fun cells y hy e => absurd e (s3 y hy).2
      refine ⟨.plain rfl fun d hd => ?_, fun q => nomatch q⟩
      rw [evE] at hd
      obtain ⟨d1, h1, hd⟩ := Pv.R.bind_eq_ok hd
      obtain ⟨d2, h2, hd⟩ := Pv.R.bind_eq_ok hd
      cases d1 with
      | lst ds =>
        cases d2 with
        | lst es =>
          revert hG
          split
          · rename_i q; cases q
          · intro hG
            simp only [Bool.and_eq_true, decide_eq_true_eq] at hG
            obtain ⟨⟨⟨⟨⟨⟨rfl, rfl⟩, ne⟩, l1⟩, l2⟩, n1⟩, n2⟩ := hG
            exact ed_allLt hr (C.glN g1) m1 (C.glN g2) (C.blt _ (by decide +kernel)) T ⟨s1, s2, sc1, s4, l1, l2, ne, sc2 _⟩ (nm1 n1) (nm1 n2) (fun v => rfl) (star1 (chk_star ha)) (by rw [star1 (chk_star hb)]; rfl)
              (EvA.of (pa_cons (peW y) (pa_cons (peW v) pa_nil (star1 (chk_star hb))) (star1 (chk_star ha))) (ea_cons ((okE a C ha).1.1 _ h1) (ea_cons ((okE b C hb).1.1 _ h2) ea_nil))) hd
          · rename_i q; cases q
          · intro hG; cases hG
        | _ => cases hd
      | _ => cases hd
    · intro h; cases h
  | .ixo i k, X, sc, C, e, ρ, h => by
    cases e with
    | Subscript l r p =>
      cases l with
      | Name x p0 =>
        simp only [chkE, Bool.and_eq_true, decide_eq_true_eq] at h
        refine ⟨.plain rfl fun d hd => ?_, fun q => nomatch q⟩
        rw [evE] at hd
        obtain ⟨kd, h1, hd⟩ := Pv.R.bind_eq_ok hd
        have hk := (okE k C h.2).1.1 kd h1
        have hv : PE X (.Name x p0) (tVar i) := pe_var (i := i) (by rw [C.hN]; exact h.1.1.1) (C.vis h.1.1.2) (nm1 h.1.2) (nm2 h.1.2)
        cases hs : ρ[i]? with
        | none => rw [hs] at hd; cases hd
        | some s =>
          rw [hs] at hd
          cases s with
          | no => cases hd
          | val d' =>
            obtain ⟨q, ho, hr⟩ := ix_D (X := X) hd
            exact EvD.of (pe_ix ho hv (peW r) (chk_ix h.2)) (ed_op (ed_var (by unfold look; rw [hs])) hk hr)
          | own ds =>
            cases kd with
            | int n =>
              have hd := Pv.R.ofO_ok hd
              refine EvD.of (pe_ix ix_list hv (peW r) (chk_ix h.2)) (fun G σ H R ee Q qq => ?_)
              obtain ⟨p', vs, e1, e2, e3⟩ := R.own i ds hs
              refine ⟨.ref p', e1, hk G σ H R ee _ fun v G1 H1 s1 r1 => ?_⟩
              cases (show v = V.int n from r1)
              obtain ⟨w, g2, g3⟩ := (Reps.ex s1.gg e3).atI hd
              exact ⟨p', vs, n, w, rfl, rfl, .of (s1.hh.at e2 rfl), g2, (qq.mono s1).now s1.gh g3⟩
            | _ => cases hd
      | _ => simp [chkE] at h
    | _ => simp [chkE] at h
  | .allDig a, X, sc, C, e, ρ, h => by
    revert h
    simp only [chkE]
    split
    · rename_i x p elt t i scope gpos pos
      intro h
      simp only [Bool.and_eq_true, decide_eq_true_eq, Bool.not_eq_true', List.contains_iff_mem] at h
      obtain ⟨⟨⟨⟨⟨rfl, g1⟩, hcs⟩, hG⟩, hl⟩, hi⟩ := h
      have m1 : X.mg "all" = none := C.blt _ (by decide +kernel)
      obtain ⟨c, P, T⟩ := C.tab hcs
      obtain ⟨k, hr, _⟩ := C.fns
      unfold chkG at hG
      rw [Bool.and_eq_true] at hG
      obtain ⟨hS, hG⟩ := hG
      unfold genOk at hS
      simp only [Bool.and_eq_true, decide_eq_true_eq, Bool.not_eq_true', List.all_eq_true] at hS
      obtain ⟨⟨⟨s1, s2⟩, s3⟩, s4⟩ := hS
      have sc1 : ∀ y ∈ scope.names, y.2 ≠ .cell := fun y hy => (s3 y hy).1
      have sc2 : ∀ (cells : List (Str × Addr)), ∀ y ∈ scope.names, y.2 = .free → ∃ c, cells.lookup y.1 = some c := fun cells y hy e => absurd e (s3 y hy).2
      refine ⟨.plain rfl fun d hd => ?_, fun q => nomatch q⟩
      rw [evE] at hd
      obtain ⟨v, h2, hd⟩ := Pv.R.bind_eq_ok hd
      have fold : ∀ v, genFold i X.env v = pure v := fun v => by
        have := chk_folded hi X.env v
        unfold genFold
        split
        · cases hl
        · exact this
      cases v with
      | str ds =>
        obtain ⟨_, hd⟩ := R.when_ok hd
        revert hG
        split
        · rename_i q; cases q
        · rename_i q; cases q
        · intro hG
          simp only [Bool.and_eq_true, decide_eq_true_eq] at hG
          obtain ⟨⟨⟨⟨rfl, rfl⟩, rfl⟩, l1⟩, hn⟩ := hG
          exact ed_allDig hr (C.glN g1) m1 T ⟨s1, s2, sc1, s4, l1, sc2 _⟩ (nm1 hn) fold ((okE a C hi).1.1 _ h2) hd
        · intro hG; cases hG
      | _ => cases hd
    · intro h; cases h
  | .comp it tg el own, X, sc, C, e, ρ, h => by
    revert h
    simp only [chkE]
    split
    · rename_i elt t i scope pos
      intro h
      simp only [Bool.and_eq_true, List.all_eq_true, List.contains_iff_mem] at h
      obtain ⟨⟨⟨⟨hi, ht⟩, hown⟩, hb⟩, hel⟩ := h
      have main : ∀ ds, evE F z ρ (.comp it tg el own) = .ok (.lst ds) → EvN X.K (wE X (.ListComp elt [⟨t, i, [], 0⟩] scope pos)) z ρ ds := fun ds' hd => by
        rw [evE] at hd
        obtain ⟨xs, h1, hd⟩ := Pv.R.bind_eq_ok hd
        obtain ⟨hl, hd⟩ := R.when_ok hd
        obtain ⟨ys, h2, hd⟩ := Pv.R.bind_eq_ok hd
        have e1 : ys = ds' := D.lst.inj (R.ok.inj hd)
        subst e1
        obtain ⟨wi, p1, v1⟩ := okI it C hi xs h1
        have hvs : (ownOf N own).map (·.2) = own := by unfold ownOf; rw [List.map_map]; exact List.map_id _
        have hfold : ∀ x, foldedSetIterable i X.env x = pure x := fun x => chkI_folded hi _ x
        have P := pe_lc (X := X) (pos := pos) (g := gTg X.K tg) (tt := tYes) (te := fun σ H Q => ∀ (s : Shared) (H0 : Hp) (Cc : Addr) (cl : List (Str × Addr)) (fp : List Addr), wE (X.blk s H0 scope (compEnvC scope cl Cc X.env) fp) elt σ H Q) C.calm (by rw [C.hN]; exact C.nd) p1 (own := ownOf N own) (by rw [C.hN, C.hsc]; exact blkOk_by hb)
          (fun s H c cl fp => pg_of (Y := X.blk s H scope (compEnvC scope cl c X.env) fp) C.hN C.nd C.calm (fun x hx => C.blkName hx s H cl c fp) ht)
          (fun s H c cl fp => pts_nil) (fun s H c cl fp => ⟨fun pins s2 σ H2 Q I hq => hq s H c cl fp pins s2 I⟩) hfold
        rw [hvs] at P
        refine EvN.of P (en_comp v1 hl h2 fun x o hx ho => ?_)
        obtain ⟨ρ', g1, ho⟩ := Pv.R.bind_eq_ok ho
        obtain ⟨y, g2, ho⟩ := Pv.R.bind_eq_ok ho
        cases ho
        intro G σ H v R ex rv Y Nn hY hN
        refine ex_gTg rv ex (Pv.R.ofO_ok g1) (R.wipe own) hown _ fun σ' R' hw => ⟨by rw [hw, wipe_wipe], ?_⟩
        show (fun σ H Q => ∀ (s : Shared) (H0 : Hp) (Cc : Addr) (cl : List (Str × Addr)) (fp : List Addr), wE (X.blk s H0 scope (compEnvC scope cl Cc X.env) fp) elt σ H Q) σ' H Y
        intro s H0 Cc cl fp
        exact ((okE el (C.blk s H0 scope cl Cc fp) hel).1.1 y g2) G σ' H R' ex Y fun v' G' H' s' r' => hY y rfl v' G' H' s' r'
      refine ⟨.plain rfl fun d hd => ?_, fun _ ds hd => main ds hd⟩
      have hd' := hd
      rw [evE] at hd
      obtain ⟨xs, h1, hd⟩ := Pv.R.bind_eq_ok hd
      obtain ⟨hl, hd⟩ := R.when_ok hd
      obtain ⟨ys, h2, hd⟩ := Pv.R.bind_eq_ok hd
      cases hd
      exact (main _ hd').toD
    · intro h; cases h
  | .comp2 it i b j el own, X, sc, C, e, ρ, h => by
    revert h
    simp only [chkE]
    split
    · rename_i elt t ie t1 ie1 scope pos
      intro h
      simp only [Bool.and_eq_true, List.contains_iff_mem] at h
      obtain ⟨⟨⟨⟨⟨⟨⟨hi, ht⟩, ht1⟩, hoi⟩, hoj⟩, hb⟩, hbe⟩, hel⟩ := h
      have main : ∀ ds, evE F z ρ (.comp2 it i b j el own) = .ok (.lst ds) → EvN X.K (wE X (.ListComp elt [⟨t, ie, [], 0⟩, ⟨t1, ie1, [], 0⟩] scope pos)) z ρ ds := fun ds' hd => by
        rw [evE] at hd
        obtain ⟨xs, h1, hd⟩ := Pv.R.bind_eq_ok hd
        obtain ⟨hl, hd⟩ := R.when_ok hd
        obtain ⟨zs, h2, hd⟩ := Pv.R.bind_eq_ok hd
        obtain ⟨hz, hd⟩ := R.when_ok hd
        have e1 : zs = ds' := D.lst.inj (R.ok.inj hd)
        subst e1
        obtain ⟨wi, p1, v1⟩ := okI it C hi xs h1
        have hvs : (ownOf N own).map (·.2) = own := by unfold ownOf; rw [List.map_map]; exact List.map_id _
        have P := pe_lc2 (X := X) (pos := pos) (g := gName i) (g1 := gName j) (tt := tYes) (tt1 := tYes) (vs1 := [j]) (wi1 := iList X.K (fun σ H Q => ∀ (s : Shared) (H0 : Hp) (Cc : Addr) (cl : List (Str × Addr)) (fp : List Addr), wE (X.blk s H0 scope (compEnvC scope cl Cc X.env) fp) ie1 σ H Q)) (te := fun σ H Q => ∀ (s : Shared) (H0 : Hp) (Cc : Addr) (cl : List (Str × Addr)) (fp : List Addr), wE (X.blk s H0 scope (compEnvC scope cl Cc X.env) fp) elt σ H Q) C.calm (by rw [C.hN]; exact C.nd) p1 (own := ownOf N own) (by rw [C.hN, C.hsc]; exact blkOk_by hb) (fun k hk => by rw [hvs]; rw [List.mem_singleton.mp hk]; exact hoj)
          (fun s H c cl fp => pg_of (tg := .one i) (Y := X.blk s H scope (compEnvC scope cl c X.env) fp) C.hN C.nd C.calm (fun x hx => C.blkName hx s H cl c fp) ht)
          (fun s H c cl fp => pts_nil) (fun s H c cl fp => pi_list ⟨fun pins s2 σ H2 Q I hq => hq s H c cl fp pins s2 I⟩)
          (fun s H c cl fp => pg_of (tg := .one j) (Y := X.blk s H scope (compEnvC scope cl c X.env) fp) C.hN C.nd C.calm (fun x hx => C.blkName hx s H cl c fp) ht1)
          (fun s H c cl fp => pts_nil) (fun s H c cl fp => ⟨fun pins s2 σ H2 Q I hq => hq s H c cl fp pins s2 I⟩) (fun x => chkI_folded hi _ x) (fun env x => chk_folded hbe env x)
        rw [hvs] at P
        refine EvN.of P (en_comp2 v1 h2 hz fun x ys hx ho => ?_)
        obtain ⟨ys0, g1, ho⟩ := Pv.R.bind_eq_ok ho
        obtain ⟨d, g0, g1⟩ := Pv.R.bind_eq_ok g1
        cases d with
        | lst ws =>
          obtain ⟨_, g1⟩ := R.when_ok g1
          cases g1
          refine turn2_ok hoi (ei_list ?_) ho ?_
          · exact fun G σ H R ex Q q s H0 Cc cl fp => ((okE b (C.blk s H0 scope cl Cc fp) hbe).1.1 _ g0) G σ H R ex Q q
          · intro y o hy ho
            obtain ⟨u, g2, ho⟩ := Pv.R.bind_eq_ok ho
            cases ho
            intro G σ H v R ex rv Y Nn hY hN
            have R' := (R.wipe [j]).set rv (i := j)
            have ee : (wipeE ((wipeE ρ own).set i (.val x)) [j]).set j (.val y) = ((wipeE ρ own).set i (.val x)).set j (.val y) := by
              show ((((wipeE ρ own).set i (.val x)).set j .no).set j (.val y)) = _
              rw [List.set_set]
            rw [ee] at R'
            refine ⟨by rw [wipe_set_mem (List.mem_singleton.mpr rfl), wipe_wipe], ?_⟩
            refine ifYes (B := Nn H) ?_
            intro s H0 Cc cl fp
            exact ((okE el (C.blk s H0 scope cl Cc fp) hel).1.1 u g2) G _ H R' ex Y fun v' G' H' s' r' => hY u rfl v' G' H' s' r'
        | _ => cases g1
      refine ⟨.plain rfl fun d hd => ?_, fun _ ds hd => main ds hd⟩
      have hd' := hd
      rw [evE] at hd
      obtain ⟨xs, h1, hd⟩ := Pv.R.bind_eq_ok hd
      obtain ⟨hl, hd⟩ := R.when_ok hd
      obtain ⟨ys, h2, hd⟩ := Pv.R.bind_eq_ok hd
      obtain ⟨hz, hd⟩ := R.when_ok hd
      cases hd
      exact (main _ hd').toD
    · intro h; cases h
  | .compIf it tg c el own, X, sc, C, e, ρ, h => by
    revert h
    simp only [chkE]
    split
    · rename_i elt t i cx scope pos
      intro h
      simp only [Bool.and_eq_true, List.all_eq_true, List.contains_iff_mem] at h
      obtain ⟨⟨⟨⟨⟨⟨hi, ht⟩, hown⟩, hb⟩, hcx⟩, htk⟩, hel⟩ := h
      have main : ∀ ds, evE F z ρ (.compIf it tg c el own) = .ok (.lst ds) → EvN X.K (wE X (.ListComp elt [⟨t, i, [cx], 0⟩] scope pos)) z ρ ds := fun ds' hd => by
        rw [evE] at hd
        obtain ⟨xs, h1, hd⟩ := Pv.R.bind_eq_ok hd
        obtain ⟨hl, hd⟩ := R.when_ok hd
        obtain ⟨ys, h2, hd⟩ := Pv.R.bind_eq_ok hd
        have e1 : ys = ds' := D.lst.inj (R.ok.inj hd)
        subst e1
        obtain ⟨wi, p1, v1⟩ := okI it C hi xs h1
        have hvs : (ownOf N own).map (·.2) = own := by unfold ownOf; rw [List.map_map]; exact List.map_id _
        have hfold : ∀ x, foldedSetIterable i X.env x = pure x := fun x => chkI_folded hi _ x
        have P := pe_lc (X := X) (pos := pos) (g := gTg X.K tg) (tt := fun σ H Q => ∀ (s : Shared) (H0 : Hp) (Cc : Addr) (cl : List (Str × Addr)) (fp : List Addr), wT (X.blk s H0 scope (compEnvC scope cl Cc X.env) fp) cx σ H Q)
          (te := fun σ H Q => ∀ (s : Shared) (H0 : Hp) (Cc : Addr) (cl : List (Str × Addr)) (fp : List Addr), wE (X.blk s H0 scope (compEnvC scope cl Cc X.env) fp) elt σ H Q) C.calm (by rw [C.hN]; exact C.nd) p1 (own := ownOf N own) (by rw [C.hN, C.hsc]; exact blkOk_by hb)
          (fun s H c cl fp => pg_of (Y := X.blk s H scope (compEnvC scope cl c X.env) fp) C.hN C.nd C.calm (fun x hx => C.blkName hx s H cl c fp) ht)
          (fun s H c cl fp => pts_one ⟨fun pins s2 σ H2 Q I hq => hq s H c cl fp pins s2 I⟩) (fun s H c cl fp => ⟨fun pins s2 σ H2 Q I hq => hq s H c cl fp pins s2 I⟩) hfold
        rw [hvs] at P
        refine EvN.of P (en_comp v1 hl h2 fun x o hx ho => ?_)
        obtain ⟨ρ', g1, ho⟩ := Pv.R.bind_eq_ok ho
        obtain ⟨b, g2, ho⟩ := Pv.R.bind_eq_ok ho
        intro G σ H v R ex rv Y Nn hY hN
        refine ex_gTg rv ex (Pv.R.ofO_ok g1) (R.wipe own) hown _ fun σ' R' hw => ⟨by rw [hw, wipe_wipe], ?_⟩
        intro s H0 Cc cl fp
        refine ((okE c (C.blk s H0 scope cl Cc fp) hcx).1.2 htk b g2) G σ' H R' ex _ fun G2 H2 s2 => ?_
        cases b with
        | true =>
          obtain ⟨y, g3, ho⟩ := Pv.R.bind_eq_ok ho
          cases ho
          show (fun σ H Q => ∀ (s : Shared) (H0 : Hp) (Cc : Addr) (cl : List (Str × Addr)) (fp : List Addr), wE (X.blk s H0 scope (compEnvC scope cl Cc X.env) fp) elt σ H Q) σ' H2 Y
          intro s' H0' Cc' cl' fp'
          exact ((okE el (C.blk s' H0' scope cl' Cc' fp') hel).1.1 y g3) G2 σ' H2 (R'.mono s2) s2.gh Y fun v' G' H' s'' r' => hY y rfl v' G' H' (s2.trans s'') r'
        | false =>
          cases ho
          exact hN rfl G2 H2 s2
      refine ⟨.plain rfl fun d hd => ?_, fun _ ds hd => main ds hd⟩
      have hd' := hd
      rw [evE] at hd
      obtain ⟨xs, h1, hd⟩ := Pv.R.bind_eq_ok hd
      obtain ⟨hl, hd⟩ := R.when_ok hd
      obtain ⟨ys, h2, hd⟩ := Pv.R.bind_eq_ok hd
      cases hd
      exact (main _ hd').toD
    · intro h; cases h
theorem okEs : ∀ (ies : IEs) {X : Cx} {sc : Scope} (C : Cxt N Cs gl F sc X) {es : List Expr} {ρ : Env}, chkEs N Cs gl sc ies es = true →
    True ∧ ∀ ds, evEs F z ρ ies = .ok ds → EvA X.K (wA X es) z ρ ds ∧ ds.length = es.length
  | .nil, X, sc, C, es, ρ, h => by
    cases es with
    | nil =>
      refine ⟨trivial, fun ds hd => ?_⟩
      rw [evEs] at hd
      cases hd
      exact ⟨EvA.of pa_nil ea_nil, rfl⟩
    | cons _ _ => simp [chkEs] at h
  | .cons a as, X, sc, C, es, ρ, h => by
    cases es with
    | nil => simp [chkEs] at h
    | cons x xs =>
      rw [chkEs, Bool.and_eq_true] at h
      refine ⟨trivial, fun ds hd => ?_⟩
      rw [evEs] at hd
      obtain ⟨d, h1, hd⟩ := Pv.R.bind_eq_ok hd
      obtain ⟨ds', h2, hd⟩ := Pv.R.bind_eq_ok hd
      cases hd
      obtain ⟨q1, q2⟩ := (okEs as C h.2).2 ds' h2
      exact ⟨EvA.of (pa_cons (peW x) (paW xs) (star1 (chk_star h.1))) (ea_cons ((okE a C h.1).1.1 d h1) q1), by rw [List.length_cons, List.length_cons, q2]⟩
theorem okJ : ∀ (ies : IEs) {X : Cx} {sc : Scope} (C : Cxt N Cs gl F sc X) {es : List Expr} {ρ : Env}, chkEs N Cs gl sc ies es = true → ∀ ss : List (List Nat), evEs F z ρ ies = .ok (ss.map D.str) →
    ∀ G σ H, EnvR X.K G H σ z ρ → Ex G H → ∀ (acc : List Nat) (Q : Str → Hp → Prop), acc.length + ss.flatten.length ≤ line → (∀ G' H', Step G H G' H' → Q (st (acc ++ ss.flatten)) H') → tJs (es.map (wE X)) (st acc) σ H Q
  | .nil, X, sc, C, es, ρ, h, ss, hd, G, σ, H, R, e, acc, Q, hl, q => by
    cases es with
    | nil =>
      rw [evEs] at hd
      have e1 : ss = [] := by
        cases ss with
        | nil => rfl
        | cons _ _ => cases hd
      subst e1
      have := q G H (Step.refl e)
      rw [List.flatten_nil, List.append_nil] at this
      exact this
    | cons _ _ => simp [chkEs] at h
  | .cons a as, X, sc, C, es, ρ, h, ss, hd, G, σ, H, R, e, acc, Q, hl, q => by
    cases es with
    | nil => simp [chkEs] at h
    | cons x xs =>
      rw [chkEs, Bool.and_eq_true] at h
      rw [evEs] at hd
      obtain ⟨d, h1, hd⟩ := Pv.R.bind_eq_ok hd
      obtain ⟨ds', h2, hd⟩ := Pv.R.bind_eq_ok hd
      cases ss with
      | nil => cases hd
      | cons s ss =>
        rw [List.map_cons] at hd
        injection hd with hd
        injection hd with e1 e2
        subst e1 e2
        rw [List.flatten_cons, List.length_append] at hl
        refine (okE a C h.1).1.1 _ h1 G σ H R e _ fun u G1 H1 s1 r1 => ?_
        cases (show u = V.str (st s) from r1)
        refine ⟨st s, rfl, ?_, ?_⟩
        · rw [st_app, st_len, List.length_append, sizeLine_eq]
          have : line = 16777216 := rfl
          omega
        · rw [st_app]
          refine okJ as C h.2 ss h2 G1 σ H1 (R.mono s1) s1.gh (acc ++ s) Q (by rw [List.length_append]; omega) fun G' H' s' => ?_
          have := q G' H' (s1.trans s')
          rw [List.flatten_cons, ← List.append_assoc] at this
          exact this
theorem okI : ∀ (it : Itr) {X : Cx} {sc : Scope} (C : Cxt N Cs gl F sc X) {t e : Expr} {ρ : Env}, chkI N Cs gl sc it t e = true →
    ∀ xs, evI F z ρ it = .ok xs → ∃ wi, PI X t e wi ∧ EvI X.K (isRng it) wi z ρ xs
  | .seq a, X, sc, C, t, e, ρ, h => fun xs hx => by
    rw [chkI] at h
    rw [evI] at hx
    obtain ⟨d, h1, hx⟩ := Pv.R.bind_eq_ok hx
    have hv := (okE a C h).1.1 d h1
    cases d with
    | lst ds => cases hx; exact ⟨_, pi_list (peW e), ei_list hv⟩
    | tup ds => cases hx; exact ⟨_, pi_tup (peW e), ei_tup hv⟩
    | scr ns => cases hx; exact ⟨_, pi_list (peW e), ei_scr hv⟩
    | str s =>
      obtain ⟨_, hx⟩ := R.when_ok hx
      cases hx
      exact ⟨_, pi_str (peW e), ei_str hv⟩
    | _ => cases hx
  | .rng es, X, sc, C, t, e, ρ, h => fun xs hx => by
    revert h
    simp only [chkI]
    split
    · rename_i x p as pos
      intro h
      simp only [Bool.and_eq_true, decide_eq_true_eq] at h
      obtain ⟨⟨rfl, g1⟩, hk⟩ := h
      have m2 : X.mg "range" = none := C.blt _ (by decide +kernel)
      rw [evI] at hx
      obtain ⟨ds, h1, hx⟩ := Pv.R.bind_eq_ok hx
      obtain ⟨q1, q2⟩ := (okEs es C hk).2 ds h1
      have hst : ∀ y ys, as = y :: ys → starEach (y :: ys) X.env = (false, eval y X.env) :: starEach ys X.env ∧ (backTo pos (starEach ys X.env)).any (·.1) = false ∧ (∀ w ws, ys = w :: ws → starEach (w :: ws) X.env = (false, eval w X.env) :: starEach ws X.env) := fun y ys e1 => by
        subst e1
        cases es with
        | nil => simp [chkEs] at hk
        | cons a es' =>
          rw [chkEs, Bool.and_eq_true] at hk
          refine ⟨star1 (chk_star hk.1), chks_star hk.2 pos, fun w ws e2 => ?_⟩
          subst e2
          cases es' with
          | nil => simp [chkEs] at hk
          | cons a' es2 =>
            rw [chkEs, Bool.and_eq_true] at hk
            exact star1 (chk_star hk.2.1)
      unfold rng3 at hx
      split at hx
      · rename_i i n c
        match as, q2, q1, hst with
        | [a1, a2, a3], _, q1, hst =>
          obtain ⟨s1, s2, _⟩ := hst a1 [a2, a3] rfl
          split at hx
          · rename_i hc
            subst hc
            obtain ⟨⟨b1, b2, b3⟩, hx⟩ := R.when_ok hx
            cases hx
            have c1 := b1.1; have c2 := b1.2; have c3 := b2.1; have c4 := b2.2
            exact ⟨_, pi_range3 (C.glN g1) m2 (paW _) s1 s2, ei_rng3 q1 (RgC.neg (by omega) (by omega) (by omega) (by omega))⟩
          · obtain ⟨⟨b1, b2, b3, b4, b5⟩, hx⟩ := R.when_ok hx
            cases hx
            exact ⟨_, pi_range3 (C.glN g1) m2 (paW _) s1 s2, ei_rng3 q1 (rsmall b1 b2 b3 b4)⟩
      · unfold rng at hx
        split at hx
        · rename_i n
          obtain ⟨hb, hx⟩ := R.when_ok hx
          cases hx
          match as, q2, q1, hst with
          | [a1], _, q1, hst =>
            exact ⟨_, pi_range1 (C.glN g1) m2 (paW _) (hst a1 [] rfl).1, ei_rng1 q1 hb⟩
        · rename_i i n
          obtain ⟨⟨b1, b2, b3⟩, hx⟩ := R.when_ok hx
          cases hx
          match as, q2, q1, hst with
          | [a1, a2], _, q1, hst =>
            obtain ⟨s1, s2, s3⟩ := hst a1 [a2] rfl
            have s3' := s3 a2 [] rfl
            exact ⟨_, pi_range2 (C.glN g1) m2 (paW _) (by rw [s1, s3']; rfl) s3', ei_rng2 q1 b1 b2⟩
        · cases hx
    · intro h; cases h
  | .enm a, X, sc, C, t, e, ρ, h => fun xs hx => by
    revert h
    simp only [chkI]
    split
    · rename_i x p y pos
      intro h
      simp only [Bool.and_eq_true, decide_eq_true_eq] at h
      obtain ⟨⟨⟨rfl, g1⟩, ht⟩, hk⟩ := h
      have m2 : X.mg "enumerate" = none := C.blt _ (by decide +kernel)
      rw [evI] at hx
      obtain ⟨d, h1, hx⟩ := Pv.R.bind_eq_ok hx
      obtain ⟨ys, h2, hx⟩ := Pv.R.bind_eq_ok hx
      cases hx
      have hv := (okE a C hk).1.1 d h1
      have va : EvA X.K (tCons (wE X y) tNil) z ρ [d] := ea_cons hv ea_nil
      have hs := star1 (es := []) (env := X.env) (chk_star hk)
      cases t with
      | Tuple els kk tp =>
        cases d with
        | lst ds => cases h2; exact ⟨_, pi_enum (C.glN g1) m2 (pa_cons (peW y) pa_nil hs) hs, ei_enum va⟩
        | tup ds => cases h2; exact ⟨_, pi_enumT (C.glN g1) m2 (pa_cons (peW y) pa_nil hs) hs, ei_enumT va⟩
        | str s =>
          obtain ⟨_, h2⟩ := R.when_ok h2
          cases h2
          exact ⟨_, pi_enumS (C.glN g1) m2 (pa_cons (peW y) pa_nil hs) hs, ei_enumS va⟩
        | scr ns =>
          cases h2
          refine ⟨_, pi_enum (C.glN g1) m2 (pa_cons (peW y) pa_nil hs) hs, fun G σ H R e Q q => va G σ H R e _ fun us G1 H1 s1 r1 => ?_⟩
          obtain ⟨v, rfl, r⟩ := reps1 r1
          obtain ⟨ad, rfl, hq⟩ := r
          exact ⟨ad, _, rfl, ex_l s1.gh hq, q _ G1 H1 s1 (walks_enum hq Reps.int)⟩
        | _ => cases h2
      | _ => simp [isTupE] at ht
    · intro h; cases h
  | .zip a b, X, sc, C, t, e, ρ, h => fun xs hx => by
    revert h
    simp only [chkI]
    split
    · rename_i x p y w pos
      intro h
      simp only [Bool.and_eq_true, decide_eq_true_eq] at h
      obtain ⟨⟨⟨⟨rfl, g1⟩, ht⟩, hk⟩, hk2⟩ := h
      have m2 : X.mg "zip" = none := C.blt _ (by decide +kernel)
      rw [evI] at hx
      obtain ⟨d, h1, hx⟩ := Pv.R.bind_eq_ok hx
      obtain ⟨d2, h2, hx⟩ := Pv.R.bind_eq_ok hx
      have hv := (okE a C hk).1.1 d h1
      have hv2 := (okE b C hk2).1.1 d2 h2
      have va : EvA X.K (tCons (wE X y) (tCons (wE X w) tNil)) z ρ [d, d2] := ea_cons hv (ea_cons hv2 ea_nil)
      have hs2 := star1 (es := []) (env := X.env) (chk_star hk2)
      have hs := star1 (es := [w]) (env := X.env) (chk_star hk)
      cases t with
      | Tuple els kk tp =>
        cases d with
        | lst ds =>
          cases d2 with
          | lst es =>
            cases hx
            exact ⟨_, pi_zip (C.glN g1) m2 (pa_cons (peW y) (pa_cons (peW w) pa_nil hs2) hs) hs (by rw [hs2]; rfl), ei_zip va⟩
          | _ => cases hx
        | _ => cases hx
      | _ => simp [isTupE] at ht
    · intro h; cases h
end
end
end Pv

end
section
/-! Ev9: what the names of a running def hold. -/
namespace Pv
open PySem PySem.Spec PyProof.Rows L2
variable [Tabs]
section
variable {K : PySem.W.Frag} {G0 H0 G H G' H' G1 H1 : Hp} {ρ ρ' : Env} {σ σ' : L2.St}
/-- G0, H0: how it stood at the entry; G: what nobody changes now -/
structure SlotR (K : PySem.W.Frag) (H0 G H : Hp) (σ : L2.St) (ρ : Env) : Prop where
  tabs : TabsIn G
  len : ρ.length = σ.length
  val : ∀ (i : Nat) (d : D), ρ[i]? = some (.val d) → ∃ v, σ[i]? = some (some v) ∧ Rep K G d v
  own : ∀ (i : Nat) (ds : List D), ρ[i]? = some (.own ds) → ∃ p vs, σ[i]? = some (some (.ref p)) ∧ H0 p = none ∧ G p = none ∧ H p = some (.lst vs) ∧ Reps K G ds vs
  apart : ∀ (i j : Nat) (p : Addr) (ds es : List D), i ≠ j → ρ[i]? = some (.own ds) → ρ[j]? = some (.own es) → σ[i]? = some (some (.ref p)) → σ[j]? = some (some (.ref p)) → False
def W (K : PySem.W.Frag) (G0 H0 : Hp) (ρ : Env) (σ : L2.St) (H : Hp) : Prop := ∃ G, Step G0 H0 G H ∧ SlotR K H0 G H σ ρ
def OwnAt (ρ : Env) (σ : L2.St) (z : Nat → Bool) (a : Addr) : Prop := ∃ (i : Nat) (ds : List D), z i = true ∧ ρ[i]? = some (.own ds) ∧ σ[i]? = some (some (.ref a))
open Classical in
noncomputable def opened (ρ : Env) (σ : L2.St) (z : Nat → Bool) (G H : Hp) : Hp := fun a => if OwnAt ρ σ z a then H a else G a
theorem opened_yes {z : Nat → Bool} {a : Addr} (h : OwnAt ρ σ z a) : opened ρ σ z G H a = H a := by
  unfold opened
  rw [if_pos h]
theorem opened_no {z : Nat → Bool} {a : Addr} (h : ¬ OwnAt ρ σ z a) : opened ρ σ z G H a = G a := by
  unfold opened
  rw [if_neg h]
theorem SlotR.ownG (S : SlotR K H0 G H σ ρ) {z : Nat → Bool} {a : Addr} (h : OwnAt ρ σ z a) : H0 a = none ∧ G a = none ∧ ∃ vs, H a = some (.lst vs) := by
  obtain ⟨i, ds, _, h1, h2⟩ := h
  obtain ⟨p, vs, e, n0, n, hp, _⟩ := S.own i ds h1
  rw [h2] at e
  cases e
  exact ⟨n0, n, vs, hp⟩
theorem SlotR.openG (S : SlotR K H0 G H σ ρ) (z : Nat → Bool) : Ex G (opened ρ σ z G H) := .of fun a o h => by
  have hn : ¬ OwnAt ρ σ z a := fun q => by
    have := (S.ownG q).2.1
    rw [h] at this
    cases this
  rw [opened_no hn]
  exact h
theorem SlotR.openStep (S : SlotR K H0 G H σ ρ) (s : Step G0 H0 G H) (z : Nat → Bool) : Step G0 H0 (opened ρ σ z G H) H := by
  refine ⟨s.gg.trans (S.openG z), fun a o h => ?_, s.hh, fun a o h n => ?_⟩
  · by_cases q : OwnAt ρ σ z a
    · rw [opened_yes q] at h; exact .inl h
    · rw [opened_no q] at h; exact s.gh a o h
  · have hn : ¬ OwnAt ρ σ z a := fun q => by
      have := (S.ownG q).1
      rw [h] at this
      cases this
    rw [opened_no hn]
    exact s.fr a o h n
theorem SlotR.env (S : SlotR K H0 G H σ ρ) (z : Nat → Bool) : EnvR K (opened ρ σ z G H) H σ z ρ := by
  refine ⟨S.tabs.ex (S.openG z), S.len, fun i d h => ?_, fun i ds h => by
    obtain ⟨p, vs, e, n0, n, hp, r⟩ := S.own i ds h
    exact ⟨p, vs, e, hp, r.ex (S.openG z)⟩⟩
  unfold look at h
  cases q : ρ[i]? with
  | none => rw [q] at h; cases h
  | some s =>
    rw [q] at h
    cases s with
    | no => cases h
    | val d' =>
      cases h
      obtain ⟨v, h1, h2⟩ := S.val i d q
      exact ⟨v, h1, h2.ex (S.openG z)⟩
    | own ds =>
      cases hz : z i with
      | false => rw [hz] at h; cases h
      | true =>
        rw [hz] at h
        cases h
        obtain ⟨p, vs, e, n0, n, hp, r⟩ := S.own i ds q
        exact ⟨.ref p, e, p, vs, rfl, by rw [opened_yes ⟨i, ds, hz, q, e⟩]; exact hp, r.ex (S.openG z)⟩
/-- nothing of the owned lists is kept -/
theorem SlotR.closeN (S : SlotR K H0 G H σ ρ) (s : Step G0 H0 G H) {z : Nat → Bool} (t : Step (opened ρ σ z G H) H G1 H1) :
    ∃ G', Step G0 H0 G' H1 ∧ SlotR K H0 G' H1 σ ρ ∧ (∀ d v, d.nol = true → Rep K G1 d v → Rep K G' d v) ∧ (∀ ds vs, D.nols ds = true → Reps K G1 ds vs → Reps K G' ds vs) ∧ (∀ p, G1 p = none → G' p = none) ∧ Ex G' G1 ∧ Ex G G' := by
  classical
  have L : LstOn G1 (OwnAt ρ σ z) := fun a q => by
    obtain ⟨_, _, vs, hp⟩ := S.ownG q
    exact ⟨vs, t.gg.at (o := .lst vs) (by rw [opened_yes q]; exact hp) rfl⟩
  have exG : Ex G (less G1 (OwnAt ρ σ z)) := fun a o h => by
    have hn : ¬ OwnAt ρ σ z a := fun q => by
      have := (S.ownG q).2.1
      rw [h] at this; cases this
    rcases t.gg a o (by rw [opened_no hn]; exact h) with q | ⟨ps, ps', e, q, k⟩ | ⟨ps, ps', e, q, k⟩
    · exact .inl (less_of q hn)
    · exact .inr (.inl ⟨ps, ps', e, less_of q hn, k⟩)
    · exact .inr (.inr ⟨ps, ps', e, less_of q hn, k⟩)
  refine ⟨less G1 (OwnAt ρ σ z), ⟨s.gg.trans exG, less_ex.trans t.gh, s.hh.trans t.hh, fun a o h n => ?_⟩, ⟨S.tabs.ex exG, S.len, fun i d h => ?_, fun i ds h => ?_, S.apart⟩, fun d v n r => r.less L n, fun ds vs n r => r.less L n, fun p h => ?_, less_ex, exG⟩
  · have q := (S.openStep s z).fr a o h n
    obtain ⟨_, qh⟩ := s.hh.any h
    have q2 := t.fr a _ qh q
    unfold less
    split
    · rfl
    · exact q2
  · obtain ⟨v, h1, h2⟩ := S.val i d h
    exact ⟨v, h1, h2.ex exG⟩
  · obtain ⟨p, vs, e, n0, n, hp, r⟩ := S.own i ds h
    refine ⟨p, vs, e, n0, ?_, t.hh.at hp rfl, r.ex exG⟩
    unfold less
    split
    · rfl
    · rename_i q
      exact t.fr p _ hp (by rw [opened_no q]; exact n)
  · unfold less
    split
    · rfl
    · exact h
theorem frz_len (fz : List Nat) : (frz fz ρ).length = ρ.length := by
  induction fz with
  | nil => rfl
  | cons i fz ih =>
    unfold frz
    split
    · rw [List.length_set, ih]
    · exact ih
theorem frz_get (fz : List Nat) : ∀ j : Nat, (frz fz ρ)[j]? = (match ρ[j]? with
    | some (.own ds) => if fz.contains j = true then some (.val (.lst ds)) else some (.own ds)
    | o => o) := by
  induction fz with
  | nil => intro j; show ρ[j]? = _; split <;> simp_all
  | cons i fz ih =>
    intro j
    have ihi := ih i
    have ihj := ih j
    unfold frz
    by_cases hij : i = j
    · subst hij
      cases q : ρ[i]? with
      | none =>
        rw [q] at ihi
        simp only at ihi
        rw [ihi]
        simp only
        exact ihi
      | some s =>
        rw [q] at ihi
        cases s with
        | no => simp only at ihi; rw [ihi]; simp only; exact ihi
        | val d => simp only at ihi; rw [ihi]; simp only; exact ihi
        | own ds =>
          simp only at ihi
          have hc : (i :: fz).contains i = true := by simp
          simp only [hc, if_true]
          by_cases hf : fz.contains i = true
          · rw [if_pos hf] at ihi
            rw [ihi]
            simp only
            exact ihi
          · rw [if_neg hf] at ihi
            rw [ihi]
            simp only
            refine List.getElem?_set_self ?_
            have := (List.getElem?_eq_some_iff.mp ihi).1
            exact this
    · have key : ∀ s : Slot, ((frz fz ρ).set i s)[j]? = (frz fz ρ)[j]? := fun s => List.getElem?_set_ne hij
      have hc : (i :: fz).contains j = fz.contains j := by
        rw [List.contains_cons]
        have : (j == i) = false := by rw [beq_eq_false_iff_ne]; exact fun e => hij e.symm
        rw [this, Bool.false_or]
      rw [hc]
      split
      · rw [key]; exact ihj
      · exact ihj
/-- the lists of these names are from now on what nobody changes -/
theorem SlotR.closeF (S : SlotR K H0 G H σ ρ) (s : Step G0 H0 G H) (fz : List Nat) (t : Step (opened ρ σ (zOf fz) G H) H G1 H1) :
    Step G0 H0 G1 H1 ∧ SlotR K H0 G1 H1 σ (frz fz ρ) := by
  have exG : Ex G G1 := (S.openG _).trans t.gg
  refine ⟨(S.openStep s _).trans t, ⟨S.tabs.ex exG, by rw [frz_len]; exact S.len, fun i d h => ?_, fun i ds h => ?_, fun i j p ds es hij hi hj h1 h2 => ?_⟩⟩
  · rw [frz_get] at h
    cases q : ρ[i]? with
    | none => rw [q] at h; cases h
    | some sl =>
      rw [q] at h
      cases sl with
      | no => cases h
      | val d' =>
        cases h
        obtain ⟨v, h1, h2⟩ := S.val i d q
        exact ⟨v, h1, h2.ex exG⟩
      | own ds =>
        simp only at h
        by_cases hc : fz.contains i = true
        · rw [if_pos hc] at h
          cases h
          obtain ⟨p, vs, e, n0, n, hp, r⟩ := S.own i ds q
          exact ⟨.ref p, e, p, vs, rfl, t.gg.at (o := .lst vs) (by rw [opened_yes (show OwnAt ρ σ (zOf fz) p from ⟨i, ds, hc, q, e⟩)]; exact hp) rfl, r.ex exG⟩
        · rw [if_neg hc] at h; cases h
  · rw [frz_get] at h
    cases q : ρ[i]? with
    | none => rw [q] at h; cases h
    | some sl =>
      rw [q] at h
      cases sl with
      | no => cases h
      | val d' => cases h
      | own es =>
        simp only at h
        by_cases hc : fz.contains i = true
        · rw [if_pos hc] at h; cases h
        · rw [if_neg hc] at h
          cases h
          obtain ⟨p, vs, e, n0, n, hp, r⟩ := S.own i ds q
          refine ⟨p, vs, e, n0, ?_, t.hh.at hp rfl, r.ex exG⟩
          refine t.fr p _ hp ?_
          have hn : ¬ OwnAt ρ σ (zOf fz) p := fun ⟨j, ds', hz, h1, h2⟩ => by
            have hij : i ≠ j := fun e' => by subst e'; exact hc hz
            exact S.apart i j p ds ds' hij q h1 e h2
          rw [opened_no hn]
          exact n
  · have low : ∀ (k : Nat) (ds' : List D), (frz fz ρ)[k]? = some (.own ds') → ρ[k]? = some (.own ds') := fun k ds' h => by
      rw [frz_get] at h
      cases q : ρ[k]? with
      | none => rw [q] at h; cases h
      | some sl =>
        rw [q] at h
        cases sl with
        | no => cases h
        | val d' => cases h
        | own es' =>
          simp only at h
          by_cases hc : fz.contains k = true
          · rw [if_pos hc] at h; cases h
          · rw [if_neg hc] at h; exact h
    exact S.apart i j p ds es hij (low i ds hi) (low j es hj) h1 h2

theorem SlotR.setVal (S : SlotR K H0 G H σ ρ) {i : Nat} {d : D} {v : V} (r : Rep K G d v) : SlotR K H0 G H (σ.set i (some v)) (ρ.set i (.val d)) := by
  have get : ∀ j : Nat, j ≠ i → (ρ.set i (.val d))[j]? = ρ[j]? ∧ (σ.set i (some v))[j]? = σ[j]? := fun j hj => ⟨List.getElem?_set_ne (Ne.symm hj), List.getElem?_set_ne (Ne.symm hj)⟩
  have noown : ∀ ds : List D, (ρ.set i (.val d))[i]? ≠ some (.own ds) := fun ds h => by
    by_cases hl : i < ρ.length
    · rw [List.getElem?_set_self hl] at h; cases h
    · rw [List.getElem?_eq_none (by rw [List.length_set]; omega)] at h; cases h
  refine ⟨S.tabs, by rw [List.length_set, List.length_set, S.len], fun j e h => ?_, fun j ds h => ?_, fun j k p ds es hjk hj hk h1 h2 => ?_⟩
  · by_cases hj : j = i
    · subst hj
      by_cases hl : j < ρ.length
      · rw [List.getElem?_set_self hl] at h
        cases h
        exact ⟨v, List.getElem?_set_self (by rw [← S.len]; exact hl), r⟩
      · rw [List.getElem?_eq_none (by rw [List.length_set]; omega)] at h; cases h
    · rw [(get j hj).1] at h
      rw [(get j hj).2]
      exact S.val j e h
  · by_cases hj : j = i
    · subst hj; exact absurd h (noown ds)
    · rw [(get j hj).1] at h
      rw [(get j hj).2]
      exact S.own j ds h
  · by_cases hj' : j = i
    · subst hj'; exact absurd hj (noown ds)
    · by_cases hk' : k = i
      · subst hk'; exact absurd hk (noown es)
      · rw [(get j hj').1] at hj
        rw [(get k hk').1] at hk
        rw [(get j hj').2] at h1
        rw [(get k hk').2] at h2
        exact S.apart j k p ds es hjk hj hk h1 h2
theorem SlotR.setOwn (S : SlotR K H0 G H σ ρ) {i : Nat} {ds : List D} {p : Addr} {vs : List V} (n0 : H0 p = none) (n : G p = none) (hp : H p = some (.lst vs)) (r : Reps K G ds vs)
    (new : ∀ (j : Nat) (es : List D), j ≠ i → ρ[j]? = some (.own es) → σ[j]? ≠ some (some (.ref p))) : SlotR K H0 G H (σ.set i (some (.ref p))) (ρ.set i (.own ds)) := by
  have get : ∀ j : Nat, j ≠ i → (ρ.set i (.own ds))[j]? = ρ[j]? ∧ (σ.set i (some (.ref p)))[j]? = σ[j]? := fun j hj => ⟨List.getElem?_set_ne (Ne.symm hj), List.getElem?_set_ne (Ne.symm hj)⟩
  have at_ : ∀ s : Slot, (ρ.set i (.own ds))[i]? = some s → s = .own ds ∧ (σ.set i (some (.ref p)))[i]? = some (some (.ref p)) := fun s h => by
    by_cases hl : i < ρ.length
    · rw [List.getElem?_set_self hl] at h
      cases h
      exact ⟨rfl, List.getElem?_set_self (by rw [← S.len]; exact hl)⟩
    · rw [List.getElem?_eq_none (by rw [List.length_set]; omega)] at h; cases h
  refine ⟨S.tabs, by rw [List.length_set, List.length_set, S.len], fun j e h => ?_, fun j es h => ?_, fun j k q es fs hjk hj hk h1 h2 => ?_⟩
  · by_cases hj : j = i
    · subst hj
      cases (at_ _ h).1
    · rw [(get j hj).1] at h
      rw [(get j hj).2]
      exact S.val j e h
  · by_cases hj : j = i
    · subst hj
      obtain ⟨e1, e2⟩ := at_ _ h
      cases e1
      exact ⟨p, vs, e2, n0, n, hp, r⟩
    · rw [(get j hj).1] at h
      rw [(get j hj).2]
      exact S.own j es h
  · by_cases hj' : j = i
    · subst hj'
      rw [(at_ _ hj).2] at h1
      cases h1
      have hk' : k ≠ j := fun e => hjk e.symm
      rw [(get k hk').1] at hk
      rw [(get k hk').2] at h2
      exact new k fs hk' hk h2
    · by_cases hk' : k = i
      · subst hk'
        rw [(at_ _ hk).2] at h2
        cases h2
        rw [(get j hj').1] at hj
        rw [(get j hj').2] at h1
        exact new j es hj' hj h1
      · rw [(get j hj').1] at hj
        rw [(get k hk').1] at hk
        rw [(get j hj').2] at h1
        rw [(get k hk').2] at h2
        exact S.apart j k q es fs hjk hj hk h1 h2
/-- an owned list is changed where it stands -/
theorem SlotR.mutate (S : SlotR K H0 G H σ ρ) (s : Step G0 H0 G H) {i : Nat} {ds es : List D} {p : Addr} {vs us : List V} (hi : ρ[i]? = some (.own ds)) (hs : σ[i]? = some (some (.ref p))) (hp : H p = some (.lst vs)) (r : Reps K G es us) :
    Step G0 H0 G (upd H p (.lst us)) ∧ SlotR K H0 G (upd H p (.lst us)) σ (ρ.set i (.own es)) := by
  obtain ⟨q, ws, e, n0, n, hq, rq⟩ := S.own i ds hi
  rw [hs] at e
  cases e
  have hl : i < ρ.length := (List.getElem?_eq_some_iff.mp hi).1
  have get : ∀ j : Nat, j ≠ i → (ρ.set i (.own es))[j]? = ρ[j]? := fun j hj => List.getElem?_set_ne (Ne.symm hj)
  have back : ∀ (j : Nat) (fs : List D), (ρ.set i (.own es))[j]? = some (.own fs) → ∃ fs', ρ[j]? = some (.own fs') := fun j fs h => by
    by_cases hj : j = i
    · subst hj; exact ⟨ds, hi⟩
    · rw [get j hj] at h; exact ⟨fs, h⟩
  refine ⟨s.upd n0 n, ⟨S.tabs, by rw [List.length_set]; exact S.len, fun j d h => ?_, fun j fs h => ?_, fun j k a fs gs hjk hj hk h1 h2 => ?_⟩⟩
  · by_cases hj : j = i
    · subst hj
      rw [List.getElem?_set_self hl] at h; cases h
    · rw [get j hj] at h
      exact S.val j d h
  · by_cases hj : j = i
    · subst hj
      rw [List.getElem?_set_self hl] at h
      cases h
      exact ⟨p, us, hs, n0, n, upd_same, r⟩
    · rw [get j hj] at h
      obtain ⟨a, ws', e', m0, m, ha, ra⟩ := S.own j fs h
      refine ⟨a, ws', e', m0, m, ?_, ra⟩
      have : a ≠ p := fun e2 => by
        subst e2
        exact S.apart j i a fs ds hj h hi e' hs
      rw [upd_ne this]
      exact ha
  · obtain ⟨fs', hj'⟩ := back j fs hj
    obtain ⟨gs', hk'⟩ := back k gs hk
    exact S.apart j k a fs' gs' hjk hj' hk' h1 h2

/-! ### a piece of text, read where the names stand so -/
variable {te : TE} {z : Nat → Bool} {d : D}
/-- a value that holds no list -/
theorem W.nol (w : W K G0 H0 ρ σ H) (h : EvD K te z ρ d) (n : d.nol = true) {Q : VK} (q : ∀ v G' H', Step G0 H0 G' H' → SlotR K H0 G' H' σ ρ → Rep K G' d v → Q v H') : te σ H Q := by
  obtain ⟨G, s, S⟩ := w
  refine h _ σ H (S.env z) (S.openStep s z).gh Q fun v G1 H1 t r => ?_
  obtain ⟨G', s', S', k, _⟩ := S.closeN s t
  exact q v G' H1 s' S' (k d v n r)
/-- any value: the lists named are kept from now on -/
theorem W.any (w : W K G0 H0 ρ σ H) {fz : List Nat} (h : EvD K te (zOf fz) ρ d) {Q : VK} (q : ∀ v G' H', Step G0 H0 G' H' → SlotR K H0 G' H' σ (frz fz ρ) → Rep K G' d v → Q v H') : te σ H Q := by
  obtain ⟨G, s, S⟩ := w
  refine h _ σ H (S.env _) (S.openStep s _).gh Q fun v G1 H1 t r => ?_
  obtain ⟨s', S'⟩ := S.closeF s fz t
  exact q v G1 H1 s' S' r
theorem W.kept (w : W K G0 H0 ρ σ H) {fz : List Nat} (h : EvD K te (zOf fz) ρ d) {Q : VK} (q : ∀ v G' H', Step G0 H0 G' H' → SlotR K H0 G' H' σ (Pv.kept fz d ρ) → Rep K G' d v → Q v H') : te σ H Q := by
  unfold Pv.kept at q
  by_cases n : d.nol = true
  · rw [if_pos n] at q
    exact w.nol h n q
  · rw [if_neg n] at q
    exact w.any h q
theorem W.args {ta : TA} {ds : List D} (w : W K G0 H0 ρ σ H) {fz : List Nat} (h : EvA K ta (zOf fz) ρ ds) {Q : List V → Hp → Prop} (q : ∀ vs G' H', Step G0 H0 G' H' → SlotR K H0 G' H' σ (Pv.kept fz (.tup ds) ρ) → Reps K G' ds vs → Q vs H') : ta σ H Q := by
  obtain ⟨G, s, S⟩ := w
  refine h _ σ H (S.env _) (S.openStep s _).gh Q fun vs G1 H1 t r => ?_
  unfold Pv.kept at q
  by_cases n : D.nol (.tup ds) = true
  · rw [if_pos n] at q
    obtain ⟨G', s', S', _, k, _⟩ := S.closeN s t
    exact q vs G' H1 s' S' (k ds vs n r)
  · rw [if_neg n] at q
    obtain ⟨s', S'⟩ := S.closeF s fz t
    exact q vs G1 H1 s' S' r
theorem W.nolA {ta : TA} {ds : List D} (w : W K G0 H0 ρ σ H) (h : EvA K ta zAll ρ ds) (n : D.nol (.tup ds) = true) {Q : List V → Hp → Prop} (q : ∀ vs G' H', Step G0 H0 G' H' → SlotR K H0 G' H' σ ρ → Reps K G' ds vs → Q vs H') : ta σ H Q := by
  obtain ⟨G, s, S⟩ := w
  refine h _ σ H (S.env _) (S.openStep s _).gh Q fun vs G1 H1 t r => ?_
  obtain ⟨G', s', S', _, k, _⟩ := S.closeN s t
  exact q vs G' H1 s' S' (k ds vs n r)
/-- the value is dropped -/
theorem W.drop (w : W K G0 H0 ρ σ H) (h : EvD K te z ρ d) {Q : VK} (q : ∀ v H', W K G0 H0 ρ σ H' → Q v H') : te σ H Q := by
  obtain ⟨G, s, S⟩ := w
  refine h _ σ H (S.env z) (S.openStep s z).gh Q fun v G1 H1 t r => ?_
  obtain ⟨G', s', S', _⟩ := S.closeN s t
  exact q v H1 ⟨G', s', S'⟩
theorem W.test (w : W K G0 H0 ρ σ H) {tt : TT} {b : Bool} (h : EvT K tt z ρ b) {Q : Bool → Hp → Prop} (q : ∀ H', W K G0 H0 ρ σ H' → Q b H') : tt σ H Q := by
  obtain ⟨G, s, S⟩ := w
  refine h _ σ H (S.env z) (S.openStep s z).gh Q fun G1 H1 t => ?_
  obtain ⟨G', s', S', _⟩ := S.closeN s t
  exact q H1 ⟨G', s', S'⟩
/-- a new list -/
theorem W.new (w : W K G0 H0 ρ σ H) {fz : List Nat} {ds : List D} (h : EvN K te (zOf fz) ρ ds) {Q : VK} (i : Nat)
    (q : ∀ p H', W K G0 H0 ((if D.nols ds = true then ρ else frz fz ρ).set i (.own ds)) (σ.set i (some (.ref p))) H' → Q (.ref p) H') : te σ H Q := by
  obtain ⟨G, s, S⟩ := w
  refine h _ σ H (S.env _) (S.openStep s _).gh Q fun p xs G1 H1 np t n1 hp r => ?_
  have n0 : H0 p = none := ex_none s.hh np
  have key : ∀ (ρ2 : Env), (∀ (j : Nat) (es : List D), ρ2[j]? = some (.own es) → ρ[j]? = some (.own es)) → ∀ (j : Nat) (es : List D), j ≠ i → ρ2[j]? = some (.own es) → σ[j]? ≠ some (some (.ref p)) := fun ρ2 low j es _ h1 h2 => by
    obtain ⟨a, vs, e, _, _, ha, _⟩ := S.own j es (low j es h1)
    rw [h2] at e
    cases e
    rw [np] at ha
    cases ha
  by_cases n : D.nols ds = true
  · obtain ⟨G', s', S', _, k, kn, _⟩ := S.closeN s t
    refine q p H1 ⟨G', s', ?_⟩
    rw [if_pos n]
    exact S'.setOwn n0 (kn p n1) hp (k ds xs n r) (key ρ fun _ _ h => h)
  · obtain ⟨s', S'⟩ := S.closeF s fz t
    refine q p H1 ⟨G1, s', ?_⟩
    rw [if_neg n]
    refine S'.setOwn n0 n1 hp r (key _ fun j es h => ?_)
    rw [frz_get] at h
    cases qq : ρ[j]? with
    | none => rw [qq] at h; cases h
    | some sl =>
      rw [qq] at h
      cases sl with
      | no => cases h
      | val d' => cases h
      | own es' =>
        simp only at h
        by_cases hc : fz.contains j = true
        · rw [if_pos hc] at h; cases h
        · rw [if_neg hc] at h; exact h
theorem SlotR.mono (S : SlotR K H0 G H σ ρ) (t : Step G H G' H') : SlotR K H0 G' H' σ ρ := by
  refine ⟨S.tabs.ex t.gg, S.len, fun i d h => ?_, fun i ds h => ?_, S.apart⟩
  · obtain ⟨v, h1, h2⟩ := S.val i d h
    exact ⟨v, h1, h2.ex t.gg⟩
  · obtain ⟨p, vs, e, n0, n, hp, r⟩ := S.own i ds h
    exact ⟨p, vs, e, n0, t.fr p _ hp n, t.hh.at hp rfl, r.ex t.gg⟩
/-- targets of a for, of an unpacking -/
theorem W.setAll : ∀ {is : List Nat} {ds : List D} {us : List V} {σ : L2.St} {ρ ρ' : Env} {G H : Hp}, Reps K G ds us → Pv.setAll is ds ρ = some ρ' → SlotR K H0 G H σ ρ →
    ∀ Q : L2.St → Hp → Prop, (∀ σ', SlotR K H0 G H σ' ρ' → Q σ' H) → gMany is us σ H Q
  | [], [], us, σ, ρ, ρ', G, H, r, h, S, Q, q => by
    cases h
    exact ⟨r, q σ S⟩
  | i :: is, d :: ds, us, σ, ρ, ρ', G, H, ⟨y, ys, e1, r1, r2⟩, h, S, Q, q => by
    subst e1
    exact ⟨y, ys, rfl, W.setAll r2 h (S.setVal r1) Q q⟩
  | [], _ :: _, _, _, _, _, _, _, _, h, _, _, _ => by cases h
  | _ :: _, [], _, _, _, _, _, _, _, h, _, _, _ => by cases h
theorem SlotR.bind (S : SlotR K H0 G H σ ρ) (s : Step G0 H0 G H) {tg : Tg} {v : V} (r : Rep K G d v) (h : bindTg tg d ρ = some ρ') (Q : L2.St → Hp → Prop) (q : ∀ σ', W K G0 H0 ρ' σ' H → Q σ' H) : gTg K tg v σ H Q := by
  cases tg with
  | one i =>
    cases h
    exact q _ ⟨G, s, S.setVal r⟩
  | many is =>
    cases d with
    | tup ds =>
      obtain ⟨a, xs, rfl, hs, hr⟩ := r
      refine ⟨a, xs, rfl, ex_t s.gh hs, ?_, W.setAll hr h S Q fun σ' S' => q σ' ⟨G, s, S'⟩⟩
      rw [hr.len, setAll_len h]
    | _ => cases h
  | pair i js =>
    match d, h with
    | .tup [d1, .tup ds], h =>
      obtain ⟨a, xs, rfl, hs, hr⟩ := r
      obtain ⟨v1, v2, rfl, r1, r2⟩ := reps2 hr
      obtain ⟨b, ys, rfl, hs2, hr2⟩ := r2
      refine ⟨a, _, rfl, ex_t s.gh hs, rfl, v1, _, rfl, ?_⟩
      refine ⟨.ref b, [], rfl, ?_⟩
      refine ⟨b, ys, rfl, ex_t s.gh hs2, ?_, W.setAll hr2 h (S.setVal r1) _ fun σ' S' => ⟨rfl, q σ' ⟨G, s, S'⟩⟩⟩
      rw [hr2.len, setAll_len h]
  | two is js =>
    match d, h with
    | .tup [.tup ds, .tup es], h =>
      have h : (setAll is ds ρ).bind (fun ρ1 => setAll js es ρ1) = some ρ' := h
      obtain ⟨ρ1, h1, h2⟩ := Option.bind_eq_some_iff.mp h
      obtain ⟨a, xs, rfl, hs, hr⟩ := r
      obtain ⟨v1, v2, rfl, r1, r2⟩ := reps2 hr
      obtain ⟨b1, ys1, rfl, hs1, hr1⟩ := r1
      obtain ⟨b2, ys2, rfl, hs2, hr2⟩ := r2
      refine ⟨a, _, rfl, ex_t s.gh hs, rfl, .ref b1, _, rfl, ?_⟩
      refine ⟨b1, ys1, rfl, ex_t s.gh hs1, by rw [hr1.len, setAll_len h1], W.setAll hr1 h1 S _ fun σ1 S1 => ?_⟩
      refine ⟨.ref b2, [], rfl, ?_⟩
      exact ⟨b2, ys2, rfl, ex_t s.gh hs2, by rw [hr2.len, setAll_len h2], W.setAll hr2 h2 S1 _ fun σ' S' => ⟨rfl, q σ' ⟨G, s, S'⟩⟩⟩
end
end Pv

end
section
/-! EvY: pieces whose call may raise. -/
namespace Pv
open PySem PySem.Spec PyProof.Rows L2
variable [Tabs]
/-- what is wanted where it raises -/
def EvE (K : PySem.W.Frag) (Wx : WX) (te : TE) (z : Nat → Bool) (ρ : Env) (c : Nat) (xs : List D) : Prop := ∀ G σ H, EnvR K G H σ z ρ → Ex G H → (∀ cls dd G' H', Step G H G' H' → XIs H' c xs cls dd → Wx cls (some dd) σ H') → ∀ Q, te σ H Q
def EvTE (K : PySem.W.Frag) (Wx : WX) (tt : TT) (z : Nat → Bool) (ρ : Env) (c : Nat) (xs : List D) : Prop := ∀ G σ H, EnvR K G H σ z ρ → Ex G H → (∀ cls dd G' H', Step G H G' H' → XIs H' c xs cls dd → Wx cls (some dd) σ H') → ∀ Q, tt σ H Q
theorem EvE.of {X : Cx} {Wx : WX} {e : Expr} {te : TE} {z : Nat → Bool} {ρ : Env} {c : Nat} {xs : List D} (p : PE X e te) (h : EvE X.K Wx te z ρ c xs) : EvE X.K Wx (wE X e) z ρ c xs := fun G σ H R ex q Q pins s I => p.run pins s σ H Q I (h G σ H R ex q Q)
theorem EvTE.of {X : Cx} {Wx : WX} {e : Expr} {te : TT} {z : Nat → Bool} {ρ : Env} {c : Nat} {xs : List D} (p : PT X e te) (h : EvTE X.K Wx te z ρ c xs) : EvTE X.K Wx (wT X e) z ρ c xs := fun G σ H R ex q Q pins s I => p.run pins s σ H Q I (h G σ H R ex q Q)
section
variable {K : PySem.W.Frag} {Wx : WX} {G0 H0 G H : Hp} {ρ : Env} {σ : L2.St} {te : TE} {tt : TT} {z : Nat → Bool} {c : Nat} {xs : List D}
theorem W.exc (w : W K G0 H0 ρ σ H) (h : EvE K Wx te z ρ c xs) {Q : VK} (q : ∀ cls dd H', W K G0 H0 ρ σ H' → XIs H' c xs cls dd → Wx cls (some dd) σ H') : te σ H Q := by
  obtain ⟨G, s, S⟩ := w
  refine h _ σ H (S.env z) (S.openStep s z).gh (fun cls dd G1 H1 t x => ?_) Q
  obtain ⟨G', s', S', _⟩ := S.closeN s t
  exact q cls dd H1 ⟨G', s', S'⟩ x
theorem W.excT (w : W K G0 H0 ρ σ H) (h : EvTE K Wx tt z ρ c xs) {Q : Bool → Hp → Prop} (q : ∀ cls dd H', W K G0 H0 ρ σ H' → XIs H' c xs cls dd → Wx cls (some dd) σ H') : tt σ H Q := by
  obtain ⟨G, s, S⟩ := w
  refine h _ σ H (S.env z) (S.openStep s z).gh (fun cls dd G1 H1 t x => ?_) Q
  obtain ⟨G', s', S', _⟩ := S.closeN s t
  exact q cls dd H1 ⟨G', s', S'⟩ x
end
/-- the class Refused, as the code names it -/
structure RefC (X : Cx) : Prop where
  txt : ∃ fI, Rfs.Txt X.prog X.K X.mg Tabs.rc fI
  fld : XfC X.K Tabs.rc
  me : PySem.W.exmOne X.K (.ref Tabs.rc) (.ref Tabs.rc) = some true
/-- the class BadTrace -/
structure BadC (X : Cx) : Prop where
  txt : ∃ fI, Bts.Txt X.prog X.K X.mg Tabs.bc fI
  fld : XfC X.K Tabs.bc
  me : PySem.W.exmOne X.K (.ref Tabs.bc) (.ref Tabs.bc) = some true
def tX : XE → Bool
  | .op2R _ _ _ => true
  | .isN _ => true
  | .notN _ => true
  | _ => false
section
variable (N Cs : List Str) (gl : List (Str × GC))
def chkX (sc : Scope) : XE → Expr → Bool
  | .call f es, e => match e with
    | .Call (.Name x _) (y :: ys) [] _ => decide (Cs[f]? = some x) && glB sc x && nmOk x && (mOf x).isNone && chkEs N Cs gl sc es (y :: ys)
    | _ => false
  | .blt1 b x, e => match e with
    | .Call (.Name n _) [y] [] _ => decide (n = bltNm b) && decide (isM b = false) && glB sc n && !isStar y && chkX sc x y
    | _ => false
  | .op2R o a x, e => match e with
    | .Compare l [op] [r] _ => cmpOk o op && !behindInMarks op r && chkE N Cs gl sc a l && chkX sc x r
    | _ => false
  | .isN x, e => match e with
    | .Compare l [.Is] [.Constant .none _ _] _ => chkX sc x l
    | _ => false
  | .notN x, e => match e with
    | .Compare l [.IsNot] [.Constant .none _ _] _ => chkX sc x l
    | _ => false
  | .ixX x k, e => match e with
    | .Subscript l (.Constant (.int j) _ _) _ => decide (j = k) && chkX sc x l
    | _ => false
end
section
variable {N Cs : List Str} {gl : List (Str × GC)} {F : List (List D → R D)} {z : Nat → Bool}
def BothX (X : Cx) (Wx : WX) (z : Nat → Bool) (ρ : Env) (x : XE) (e : Expr) (r : R D) : Prop :=
  (∀ d, r = .ok d → EvD X.K (wE X e) z ρ d) ∧ (∀ c xs, r = .exc c xs → EvE X.K Wx (wE X e) z ρ c xs) ∧
    (tX x = true → (∀ d, r = .ok d → ∀ b, tst d = .ok b → EvT X.K (wT X e) z ρ b) ∧ ∀ c xs, r = .exc c xs → EvTE X.K Wx (wT X e) z ρ c xs)
theorem calm_ok {α β : Type} {r : R α} {f : α → R β} {b : β} (h : r.calm f = .ok b) : ∃ a, r = .ok a ∧ f a = .ok b := by
  cases r with
  | ok a => exact ⟨a, rfl, h⟩
  | exc c xs => cases h
  | stuck => cases h
theorem calm_exc {α β : Type} {r : R α} {f : α → R β} {c : Nat} {xs : List D} (h : r.calm f = .exc c xs) : ∃ a, r = .ok a ∧ f a = .exc c xs := by
  cases r with
  | ok a => exact ⟨a, rfl, h⟩
  | exc c xs => cases h
  | stuck => cases h
theorem calm_no {α : Type} {r : R α} {c : Nat} {xs : List D} (h : r.calm (fun y => .ok y) = .exc c xs) : False := by
  cases r <;> cases h
theorem bind_exc {α β : Type} {r : R α} {f : α → R β} {c : Nat} {xs : List D} (h : r.bind f = .exc c xs) : r = .exc c xs ∨ ∃ a, r = .ok a ∧ f a = .exc c xs := by
  cases r with
  | ok a => exact .inr ⟨a, rfl, h⟩
  | exc c' xs' => cases h; exact .inl rfl
  | stuck => cases h
theorem okX {Wx : WX} : ∀ (x : XE) {X : Cx} {sc : Scope} (C : Cxt N Cs gl F sc X) (tk : L2N.Takes X Wx) {e : Expr} {ρ : Env}, chkX N Cs gl sc x e = true → BothX X Wx z ρ x e (evX F z ρ x)
  | .call f es, X, sc, C, tk, e, ρ, h => by
    revert h
    simp only [chkX]
    split
    · rename_i nm p y ys pos
      intro h
      simp only [Bool.and_eq_true, decide_eq_true_eq] at h
      obtain ⟨⟨⟨⟨h1, h2⟩, h3⟩, hmo⟩, h4⟩ := h
      refine ⟨fun d hd => ?_, fun c xs hx => ?_, fun q => by cases q⟩
      · rw [evX] at hd
        obtain ⟨ds, e1, hd⟩ := calm_ok hd
        cases hF : F[f]? with
        | none => rw [hF] at hd; cases hd
        | some g =>
          rw [hF] at hd
          obtain ⟨q1, q2⟩ := (okEs es C h4).2 ds e1
          exact ed_call C h1 h2 h3 hmo hF h4 q1 q2 hd
      · rw [evX] at hx
        obtain ⟨ds, e1, hx2⟩ := calm_exc hx
        clear hx
        cases hF : F[f]? with
        | none => rw [hF] at hx2; cases hx2
        | some g =>
          rw [hF] at hx2
          have hg : g ds = .exc c xs := hx2
          obtain ⟨q1, q2⟩ := (okEs es C h4).2 ds e1
          obtain ⟨k, hr, hfn⟩ := C.fns
          obtain ⟨x, e2, hcall⟩ := hfn f g hF
          rw [h1] at e2
          cases e2
          have hmo : mOf nm = none := by simpa using hmo
          unfold CallK at hcall
          rw [hmo] at hcall
          rcases hcall with ⟨_, hgn, _⟩ | ⟨fa, fd, ps, hm, hkp, hb, G⟩
          · subst hgn
            unfold newC at hg
            split at hg
            · split at hg <;> cases hg
            · cases hg
          cases es with
          | nil => simp [chkEs] at h4
          | cons a as =>
            have h4' := h4
            rw [chkEs, Bool.and_eq_true] at h4
            refine EvE.of (pe_callS G hr (C.glN h2) hm hkp hb (fun σ => L2N.passAt tk σ) (paW (y :: ys)) (nm1 h3) (star1 (chk_star h4.1)) (chks_star h4.2 pos)) fun G0 σ H R e0 q Q => ?_
            exact q1 G0 σ H R e0 _ fun vs G1 H1 s1 r1 => ⟨G1, ds, by first | exact r1 | (rw [List.append_nil]; exact r1), s1.gh, R.tabs.ex s1.gg, .inr ⟨c, xs, hg, fun cls dd G' H' s' x' => q cls dd G' H' (s1.trans s') x'⟩⟩
    · intro h; cases h
  | .blt1 b x, X, sc, C, tk, e, ρ, h => by
    revert h
    simp only [chkX]
    split
    · rename_i nm p y pos
      intro h
      simp only [Bool.and_eq_true, decide_eq_true_eq, Bool.not_eq_true'] at h
      obtain ⟨⟨⟨⟨hx, hj⟩, hg⟩, hs⟩, hy⟩ := h
      have hm : X.mg nm = none := by rw [hx]; exact C.blt _ (blt_in b hj hj)
      obtain ⟨i1, i2, _⟩ := okX x C tk (ρ := ρ) hy
      refine ⟨fun d hd => ?_, fun c xs hd => ?_, fun q => by cases q⟩
      · rw [evX] at hd
        obtain ⟨v, g1, hd⟩ := Pv.R.bind_eq_ok hd
        obtain ⟨u, g2, hd⟩ := calm_ok hd
        cases hd
        obtain ⟨r, hc, hr⟩ := blt_ok (X := X) C.calm C.units hj hj g2
        exact EvD.of (pe_callV hj hj hx hc (C.glN hg) hm (pa_cons (peW y) pa_nil (star1 hs)) (star1 hs) rfl) (ed_cb (ea_cons (i1 v g1) ea_nil) hr)
      · rw [evX] at hd
        rcases bind_exc hd with hd | ⟨v, _, hd⟩
        · refine EvE.of (pe_callV hj hj hx (r := fun _ _ _ => False) (fun _ _ _ _ _ _ _ _ _ z => z.elim) (C.glN hg) hm (pa_cons (peW y) pa_nil (star1 hs)) (star1 hs) rfl) fun G σ H R e q Q => ?_
          exact i2 c xs hd G σ H R e q _
        · exact (calm_no hd).elim
    · intro h; cases h
  | .op2R o a x, X, sc, C, tk, e, ρ, h => by
    revert h
    simp only [chkX]
    split
    · rename_i l op r pos
      intro h
      simp only [Bool.and_eq_true, Bool.not_eq_true'] at h
      obtain ⟨⟨⟨k1, k2⟩, k3⟩, k4⟩ := h
      obtain ⟨i1, i2, _⟩ := okX x C tk (ρ := ρ) k4
      have key : ∀ d, evX F z ρ (.op2R o a x) = .ok d → ∃ u v, evE F z ρ a = .ok u ∧ evX F z ρ x = .ok v ∧ Pv.op2 o u v = .ok d := fun d hd => by
        rw [evX] at hd
        obtain ⟨u, g1, hd⟩ := calm_ok hd
        obtain ⟨v, g2, hd⟩ := Pv.R.bind_eq_ok hd
        obtain ⟨w, g3, hd⟩ := calm_ok hd
        cases hd
        exact ⟨u, v, g1, g2, g3⟩
      have keyX : ∀ c xs, evX F z ρ (.op2R o a x) = .exc c xs → ∃ u, evE F z ρ a = .ok u ∧ evX F z ρ x = .exc c xs := fun c xs hd => by
        rw [evX] at hd
        obtain ⟨u, g1, hd⟩ := calm_exc hd
        rcases bind_exc hd with hd | ⟨v, _, hd⟩
        · exact ⟨u, g1, hd⟩
        · exact (calm_no hd).elim
      have ev : ∀ c xs, evX F z ρ (.op2R o a x) = .exc c xs → EvE X.K Wx (tOp (fun _ _ _ _ => False) (wE X l) (wE X r)) z ρ c xs := fun c xs hx G σ H R e q Q => by
        obtain ⟨u, g1, g2⟩ := keyX c xs hx
        refine (okE a C k3).1.1 u g1 G σ H R e _ fun v G1 H1 s1 r1 => ?_
        exact i2 c xs g2 G1 σ H1 (R.mono s1) s1.gh (fun cls dd G' H' s' x' => q cls dd G' H' (s1.trans s') x') _
      refine ⟨fun d hd => ?_, fun c xs hx => ?_, fun _ => ⟨fun d hd b hb => ?_, fun c xs hx => ?_⟩⟩
      · obtain ⟨u, v, h1, h2, h3⟩ := key d hd
        obtain ⟨⟨q, ho, hr⟩, _⟩ := cmp_ok (X := X) C.units k1 h3
        exact ed_cmpR ((okE a C k3).1.1 u h1) (i1 v h2) ho hr k2
      · exact EvE.of (pe_cmpR (r := fun _ _ _ _ => False) (fun _ _ _ _ _ _ _ _ _ _ _ _ z => z.elim) (peW l) (peW r) k2) (ev c xs hx)
      · obtain ⟨u, v, h1, h2, h3⟩ := key d hd
        obtain ⟨⟨q, ho, hr⟩, b', rfl⟩ := cmp_ok (X := X) C.units k1 h3
        cases hb
        exact et_cmpR ((okE a C k3).1.1 u h1) (i1 v h2) ho hr k2
      · refine EvTE.of (pt_cmpR (r := fun _ _ _ _ => False) (fun _ _ _ _ _ _ _ _ _ _ _ _ z => z.elim) (peW l) (peW r) k2) fun G σ H R e q Q => ?_
        exact ev c xs hx G σ H R e q _
    · intro h; cases h
  | .isN x, X, sc, C, tk, e, ρ, h => by
    revert h
    simp only [chkX]
    split
    · rename_i l kc p pos
      intro h
      obtain ⟨i1, i2, _⟩ := okX x C tk (ρ := ρ) h
      have ev : ∀ c xs, evX F z ρ (.isN x) = .exc c xs → EvE X.K Wx (wE X l) z ρ c xs := fun c xs hd => by
        rw [evX] at hd
        rcases bind_exc hd with hd | ⟨v, _, hd⟩
        · exact i2 c xs hd
        · cases hd
      refine ⟨fun d hd => ?_, fun c xs hx => ?_, fun _ => ⟨fun d hd b hb => ?_, fun c xs hx => ?_⟩⟩
      · rw [evX] at hd
        obtain ⟨v, h1, hd⟩ := Pv.R.bind_eq_ok hd
        cases hd
        exact ed_cmpR (y := .non) (i1 v h1) (EvD.of pe_non (ed_c fun G => rfl)) op_isN rd_isN rfl
      · exact EvE.of (pe_cmpR op_isN (peW l) pe_non rfl) fun G σ H R e q Q => ev c xs hx G σ H R e q _
      · rw [evX] at hd
        obtain ⟨v, h1, hd⟩ := Pv.R.bind_eq_ok hd
        cases hd
        cases hb
        exact et_cmpR (y := .non) (i1 v h1) (EvD.of pe_non (ed_c fun G => rfl)) op_isN rd_isN rfl
      · exact EvTE.of (pt_cmpR op_isN (peW l) pe_non rfl) fun G σ H R e q Q => ev c xs hx G σ H R e q _
    · intro h; cases h
  | .notN x, X, sc, C, tk, e, ρ, h => by
    revert h
    simp only [chkX]
    split
    · rename_i l kc p pos
      intro h
      obtain ⟨i1, i2, _⟩ := okX x C tk (ρ := ρ) h
      have ev : ∀ c xs, evX F z ρ (.notN x) = .exc c xs → EvE X.K Wx (wE X l) z ρ c xs := fun c xs hd => by
        rw [evX] at hd
        rcases bind_exc hd with hd | ⟨v, _, hd⟩
        · exact i2 c xs hd
        · cases hd
      refine ⟨fun d hd => ?_, fun c xs hx => ?_, fun _ => ⟨fun d hd b hb => ?_, fun c xs hx => ?_⟩⟩
      · rw [evX] at hd
        obtain ⟨v, h1, hd⟩ := Pv.R.bind_eq_ok hd
        cases hd
        exact ed_cmpR (y := .non) (i1 v h1) (EvD.of pe_non (ed_c fun G => rfl)) op_notN rd_notN rfl
      · exact EvE.of (pe_cmpR op_notN (peW l) pe_non rfl) fun G σ H R e q Q => ev c xs hx G σ H R e q _
      · rw [evX] at hd
        obtain ⟨v, h1, hd⟩ := Pv.R.bind_eq_ok hd
        cases hd
        cases hb
        exact et_cmpR (y := .non) (i1 v h1) (EvD.of pe_non (ed_c fun G => rfl)) op_notN rd_notN rfl
      · exact EvTE.of (pt_cmpR op_notN (peW l) pe_non rfl) fun G σ H R e q Q => ev c xs hx G σ H R e q _
    · intro h; cases h
  | .ixX x k, X, sc, C, tk, e, ρ, h => by
    revert h
    simp only [chkX]
    split
    · rename_i l j p1 p2 pos
      intro h
      simp only [Bool.and_eq_true, decide_eq_true_eq] at h
      obtain ⟨rfl, h⟩ := h
      obtain ⟨i1, i2, _⟩ := okX x C tk (ρ := ρ) h
      refine ⟨fun d hd => ?_, fun c xs hx => ?_, fun q => by cases q⟩
      · rw [evX] at hd
        obtain ⟨v, h1, hd⟩ := Pv.R.bind_eq_ok hd
        obtain ⟨u, g2, hd⟩ := calm_ok hd
        cases hd
        obtain ⟨q, ho, hr⟩ := ix_D (X := X) g2
        exact EvD.of (pe_ix ho (peW l) pe_int (fun _ _ => rfl)) (ed_op (y := .int j) (i1 v h1) (ed_c fun G => rfl) hr)
      · rw [evX] at hx
        rcases bind_exc hx with hx | ⟨v, _, hx⟩
        · refine EvE.of (pe_ix (r := fun _ _ _ _ => False) (fun _ _ _ _ _ _ _ _ _ _ _ _ _ _ z => z.elim) (peW l) pe_int (fun _ _ => rfl)) fun G σ H R e q Q => i2 c xs hx G σ H R e q _
        · exact (calm_no hx).elim
    · intro h; cases h
end
end Pv

end
section
/-! EvT: isinstance of a caught error that has fields, of a class above its own. -/
namespace Pv
open PySem PySem.Spec PyProof.Rows L2
variable [Tabs]
theorem sub_yes {K : PySem.W.Frag} {v t : Value} {hs : Heap → Prop} {c : Value} (ty : ∀ (M : Model) (h : Heap), hs h → PySem.W.Looks M h (typeOf v) t) (ne : (t == c) = false) (e : PySem.W.kitCls K t c = some true) : Answers (fun s => K.In s.heap ∧ hs s.heap) v c true := by
  intro dep tk prog w A R s0 h0
  obtain ⟨hp, gs, dr, tn, os⟩ := s0
  obtain ⟨⟨kx, hh⟩, fin⟩ := h0
  have lt := ty (model prog w) hp hh
  obtain ⟨k1, k2, k3⟩ := PySem.W.kit_cls (M := model prog w) kx e
  have li : PySem.W.Looks (model prog w) hp (isInstance v c) true := lt.andThen k3
  unfold Builtin.«isinstance.nested»; refine wpAny_bind (lt.at ?_)
  rw [if_neg (by rw [ne]; decide)]
  refine wpAny_bind (k1.at ?_)
  rw [if_pos (by decide)]; k_delta "plainIsInstance"
  refine wpAny_bind (wpAny_bind (k2.at ?_))
  simp only [if_false, Bool.not_true, Bool.false_eq_true]; refine wpAny_bind (li.at ?_)
  first
    | exact wpAny_pure (wpAny_pure (fin tn))
    | (simp only [if_true]; first | exact wpAny_pure (wpAny_pure (fin tn)) | exact wpAny_pure (fin tn))
/-- isinstance(e, c): e the caught error at a, of the class at D, which is below c -/
def rSub (K : PySem.W.Frag) (D a : Addr) : List V → Hp → VK → Prop := fun xs H Q => ∃ (c : V) (cv : Value), xs = [.ref a, c] ∧ (∀ u, RelV c u → u = cv) ∧ (Value.ref D == cv) = false ∧ PySem.W.kitCls K (.ref D) cv = some true ∧ Q (.bl true) H
theorem call_sub {X : Cx} {a D : Addr} {d : Option Addr} {oe : Obj} {pn : List (Addr × Obj)} (hz : Zc (.ref D) d oe) : CallR (X.suite a ((a, oe) :: pn)) (.builtin "isinstance") (rSub X.K D a) := by
  intro pins s σ H xs us Q I r hq
  obtain ⟨c, cv, rfl, hc, ne, e, q⟩ := hq
  obtain ⟨u1, u2, rfl, r1, r2⟩ := vals2 r
  cases (show u1 = Value.ref a from r1)
  have ec := hc u2 r2
  subst ec
  obtain ⟨ha, _⟩ := I.pin (a, oe) (List.mem_append.mpr (.inl List.mem_cons_self))
  have ty : ∀ (M : Model) (h : Heap), h.get? a = some oe → PySem.W.Looks M h (typeOf (.ref a)) (.ref D) := fun M h g => by
    have l := (PySem.W.Looks.ld (M := M) (part := none) g).andThen (f := fun o => pure o.cls) (b := .ref D) (by rw [hz.1]; exact .now)
    exact l
  exact call_isinstance (S := fun _ R s => (X.K.In s.heap ∧ s.heap.get? a = some oe) ∧ ∀ tk, R (.ok (.ret (.bool true))) { s with toks := tk })
    (fun prog w A R s hs => isinstance_outer (sub_yes ty ne e 0 _ prog w A R s hs) (fun z => nomatch z)) ⟨⟨I.kIn, ha⟩, fun tk => ⟨.bl true, H, I.tok tk, rfl, q⟩⟩
/-- what the written part says of LinkError and ValueError, beside Refused -/
structure Lnk (K : PySem.W.Frag) (mg : Str → Option Value) : Prop where
  ex : ∃ CL : Addr, mg "LinkError" = some (.ref CL) ∧ (Value.ref Tabs.rc == Value.ref CL) = false ∧ PySem.W.kitCls K (.ref Tabs.rc) (.ref CL) = some true
  ve : PySem.W.kitCls K (.ref Tabs.rc) (.type "ValueError") = some true
  nv : mg "ValueError" = none
end Pv

end
section
/-! EvH: a law's comparing def, called while an exception is handled. -/
namespace Pv
open PySem PySem.Spec PyProof.Rows L2
variable [Tabs]
theorem isi_ok {K : PySem.W.Frag} {G1 H1 : Hp} {t : Ty} {x : D} {u : V} {Q : VK} (r1 : Rep K G1 x u) (gh : Ex G1 H1) (fin : Q (.bl (isTy t x)) H1) (nb : ∀ ds, x ≠ .scr ds) (nc : ∀ L, x ≠ .cnt L) : rIsi K [u, .ty (tyN t)] H1 Q := by
  cases x with
  | scr ns => exact absurd rfl (nb ns)
  | cnt L => exact absurd rfl (nc L)
  | tup ds =>
    obtain ⟨ad, xs, rfl, hs, _⟩ := r1
    have hs := ex_t gh hs
    have ty : TyX K H1 (.ref ad) (.type "tuple") := by
      rcases hs with (hs | ⟨o, hs⟩) | ⟨o, its, n, l, c, _⟩
      · exact .base (.tup hs)
      · exact .fTuple hs
      · exact .kTuple l c
    exact ⟨_, _, _, _, _, rfl, .ty _, ty, kit_ty (kit_tys t (.tup ds) (fun _ q => nomatch q) (fun _ q => nomatch q)), fin⟩
  | non => exact ⟨_, _, _, _, _, rfl, .ty _, (tyX r1 gh (fun _ q => nomatch q) (fun _ q => nomatch q)).elim id (fun ⟨_, _, q, _⟩ => by cases (show u = V.non from r1); cases q), kit_ty (kit_tys t .non (fun _ q => nomatch q) (fun _ q => nomatch q)), fin⟩
  | bl b => exact ⟨_, _, _, _, _, rfl, .ty _, (tyX r1 gh (fun _ q => nomatch q) (fun _ q => nomatch q)).elim id (fun ⟨_, _, q, _⟩ => by cases (show u = V.bl b from r1); cases q), kit_ty (kit_tys t (.bl b) (fun _ q => nomatch q) (fun _ q => nomatch q)), fin⟩
  | int b => exact ⟨_, _, _, _, _, rfl, .ty _, (tyX r1 gh (fun _ q => nomatch q) (fun _ q => nomatch q)).elim id (fun ⟨_, _, q, _⟩ => by cases (show u = V.int b from r1); cases q), kit_ty (kit_tys t (.int b) (fun _ q => nomatch q) (fun _ q => nomatch q)), fin⟩
  | str b => exact ⟨_, _, _, _, _, rfl, .ty _, (tyX r1 gh (fun _ q => nomatch q) (fun _ q => nomatch q)).elim id (fun ⟨_, _, q, _⟩ => by cases (show u = V.str (st b) from r1); cases q), kit_ty (kit_tys t (.str b) (fun _ q => nomatch q) (fun _ q => nomatch q)), fin⟩
  | lst ds =>
    obtain ⟨ad, xs, rfl, hs, _⟩ := r1
    exact ⟨_, _, _, _, _, rfl, .ty _, .base (.lst (gh.at hs rfl)), kit_ty (kit_tys t (.lst ds) (fun _ q => nomatch q) (fun _ q => nomatch q)), fin⟩
/-! what is compared -/
def leafD : D → D → Option Bool
  | .int n, .int m => some (n == m)
  | .str s, .str t => some (s == t)
  | _, _ => none
def pairD : D → D → Option Bool
  | .tup [a, b], .tup [c, d] => (leafD a c).bind fun x => if x = true then leafD b d else (leafD b d).map fun _ => false
  | _, _ => none
def spH (K : PySem.W.Frag) (g : D → D → Option Bool) : Sp := fun vs H Q _ => ∃ G x y b, Reps K G [x, y] vs ∧ Ex G H ∧ g x y = some b ∧ Q (.bl b) H
/-- a call of the def, whatever stands around -/
structure HotL (X : Cx) : Prop where
  ex : ∃ f fd ps, X.mg "_law_same" = some (.ref f) ∧ PySem.W.keepIn X.K (.ref f) = true ∧ Binds X.K fd ps [] ∧ L2H.FnH X.prog X.w X.K X.mg X.base (L2N.CX X.prog X.w) 2 f fd ps (spH X.K pairD)
/-- what the written part says of BadTrace beside LinkError and Refused -/
structure LnkB (K : PySem.W.Frag) (mg : Str → Option Value) : Prop where
  cl : (PySem.W.clsIn K Tabs.bc).isSome = true
  ca : PySem.W.findIn K (.ref Tabs.bc) "__class__" = some (some (.builtin "object.__class__"))
  cn : PySem.W.specialIn K (.builtin "object.__class__") "__get__" = some (some (.builtin "getset_descriptor.__get__"))
  ct : PySem.W.takesIn K (.builtin "object.__class__") = some true
  cm : PySem.W.mroIn K Tabs.bc (.type "object") = some true
  l : ∃ CL : Addr, mg "LinkError" = some (.ref CL) ∧ PySem.W.kitOne K (.ref Tabs.bc) (.ref CL) = some true
  r : ∃ CR : Addr, mg "Refused" = some (.ref CR) ∧ PySem.W.kitOne K (.ref Tabs.bc) (.ref CR) = some false
/-- isinstance(e, c): e the caught BadTrace at a -/
def rIsX (K : PySem.W.Frag) (d : Option Addr) (a : Addr) : List V → Hp → VK → Prop := fun xs H Q => ∃ (c : V) (cv : Value) (b : Bool) (dd : Addr) (fs : List (Str × V)), xs = [.ref a, c] ∧ (∀ u, RelV c u → u = cv) ∧ d = some dd ∧ H dd = some (.xd fs) ∧ PySem.W.kitOne K (.ref Tabs.bc) cv = some b ∧ Q (.bl b) H
theorem call_isx {X : Cx} {a : Addr} {d : Option Addr} {oe : Obj} {pn : List (Addr × Obj)} (L : LnkB X.K X.mg) (T : XfC X.K Tabs.bc) (hz : Zc (.ref Tabs.bc) d oe) (hf : ∃ vs, oe.data = .fields vs) : CallR (X.suite a ((a, oe) :: pn)) (.builtin "isinstance") (rIsX X.K d a) := by
  intro pins s σ H xs us Q I r hq
  obtain ⟨c, cv, b, dd, fs, rfl, hc, rfl, ea, ek, q⟩ := hq
  obtain ⟨u1, u2, rfl, r1, r2⟩ := vals2 r
  cases (show u1 = Value.ref a from r1)
  have ec := hc u2 r2
  subst ec
  obtain ⟨ha, _⟩ := I.pin (a, oe) (List.mem_append_left _ List.mem_cons_self)
  obtain ⟨vs, hd⟩ := hf
  have hx : ObjOk X.prog X.w H s.heap dd (.xd fs) := I.hok dd _ ea
  obtain ⟨mA, hns, hr⟩ := hx
  obtain ⟨od, ho, hl⟩ := lookIn_ns hns
  have J : PySem.W.InstAt s.heap a oe Tabs.bc (some od) := ⟨ha, hz.1, by unfold PySem.W.notCls; rw [hd] <;> rfl, by rw [hz.2]; exact ho⟩
  exact PySem.W.kia_one (PySem.W.kitx_exc L.cl T.ga T.gg T.exC L.ca L.cn L.ct L.cm) I.kIn J ek (fun z => nomatch z) fun tk => ⟨.bl b, H, I.tok tk, rfl, q⟩
/-! the readings -/
def tIs (K : PySem.W.Frag) (i : Nat) (n : String) : TE := tCB (rIsi K) (tCons (tVar i) (tCons (tC (.ty n)) tNil))
def tLenH (K : PySem.W.Frag) (i : Nat) : TE := tCB (fun xs H Q => ∃ p ys, xs = [.ref p] ∧ (SqL K H p ys ∨ SqT K H p ys) ∧ Q (.int ys.length) H) (tCons (tVar i) tNil)
def rIsNo : R2 := fun x y H Q => y = .non ∧ Q (.bl (decide (x = .non))) H
def tHot (K : PySem.W.Frag) (sp : Sp) : TS :=
  tSeq (tIfS (tB (tIs K 1 "tuple"))
      (tSeq (tIfS (tOr (tNot (tB (tIs K 0 "tuple"))) (tTest (tOp rNe (tLenH K 0) (tLenH K 1)))) (tRet (tC (.bl false))) tNext)
        (tSeq (tFor (iRng1 (tCons (tLenH K 1) tNil)) (gName 2) (tIfS (tNot (tB (L2.tCallS sp (fun _ => E0) (tCons (tOp (rIxT K) (tVar 0) (tVar 2)) (tCons (tOp (rIxT K) (tVar 1) (tVar 2)) tNil))))) (tRet (tC (.bl false))) tNext))
          (tRet (tC (.bl true))))) tNext)
  (tSeq (tIfS (tTest (tOp rIsNo (tVar 1) (tC .non))) (tRet (tOp rIsNo (tVar 0) (tC .non))) tNext)
  (tSeq (tIfS (tB (tIs K 1 "bool")) (tRet (tAndV (tIs K 0 "bool") (tOp rEq (tVar 0) (tVar 1)))) tNext)
  (tSeq (tIfS (tB (tIs K 1 "str")) (tRet (tAndV (tIs K 0 "str") (tOp rEq (tVar 0) (tVar 1)))) tNext)
  (tRet (tAndV (tIs K 0 "int") (tAndV (tNotV (tIs K 0 "bool")) (tOp rEq (tVar 0) (tVar 1))))))))
section
variable {K : PySem.W.Frag} {G H : Hp} {D : Ends} {σ : L2.St}
theorem is_at {i : Nat} {t : Ty} {x : Pv.D} {u : V} {Q : VK} (h : σ[i]? = some (some u)) (r : Rep K G x u) (e : Ex G H) (nb : ∀ ds, x ≠ .scr ds) (nc : ∀ L, x ≠ .cnt L) (q : Q (.bl (isTy t x)) H) : tIs K i (tyN t) σ H Q := ⟨u, h, isi_ok r e q nb nc⟩
theorem ifF {c : Bool} {p q : Prop} (h : c = false) (hq : q) : if c = true then p else q := by rw [h]; exact hq
theorem ifT {c : Bool} {p q : Prop} (h : c = true) (hp : p) : if c = true then p else q := by rw [h]; exact hp
theorem hot_leaf {sp : Sp} {vs : List V} {Q : VK} {E : XK} (h : spH K leafD vs H Q E) : tHot K sp { nx := fun _ H' => Q .non H', rt := Q } (L2.start ["_law_actual", "_law_expected", "_law_k"] vs) H := by
  obtain ⟨G, x, y, b, r, e, hg, q⟩ := h
  obtain ⟨u, v, rfl, r1, r2⟩ := reps2 r
  cases x with
  | int n =>
    cases y with
    | int m =>
      cases hg
      cases (show u = V.int n from r1)
      cases (show v = V.int m from r2)
      refine is_at (t := .tuple) rfl r2 e (fun _ => nofun) (fun _ => nofun) ⟨_, rfl, ifF rfl ?_⟩
      refine ⟨_, rfl, rfl, false, rfl, ifF rfl ?_⟩
      refine is_at (t := .bool) rfl r2 e (fun _ => nofun) (fun _ => nofun) ⟨_, rfl, ifF rfl ?_⟩
      refine is_at (t := .str) rfl r2 e (fun _ => nofun) (fun _ => nofun) ⟨_, rfl, ifF rfl ?_⟩
      refine is_at (t := .int) rfl r1 e (fun _ => nofun) (fun _ => nofun) ⟨_, rfl, ifT rfl ?_⟩
      refine is_at (t := .bool) rfl r1 e (fun _ => nofun) (fun _ => nofun) ⟨_, rfl, _, rfl, ifT rfl ?_⟩
      refine ⟨_, rfl, _, rfl, rfl, ?_⟩
      rw [L2.dec_int]; exact q
    | _ => cases hg
  | str s =>
    cases y with
    | str t =>
      cases hg
      cases (show u = V.str (st s) from r1)
      cases (show v = V.str (st t) from r2)
      refine is_at (t := .tuple) rfl r2 e (fun _ => nofun) (fun _ => nofun) ⟨_, rfl, ifF rfl ?_⟩
      refine ⟨_, rfl, rfl, false, rfl, ifF rfl ?_⟩
      refine is_at (t := .bool) rfl r2 e (fun _ => nofun) (fun _ => nofun) ⟨_, rfl, ifF rfl ?_⟩
      refine is_at (t := .str) rfl r2 e (fun _ => nofun) (fun _ => nofun) ⟨_, rfl, ifT rfl ?_⟩
      refine is_at (t := .str) rfl r1 e (fun _ => nofun) (fun _ => nofun) ⟨_, rfl, ifT rfl ?_⟩
      refine ⟨_, rfl, _, rfl, rfl, ?_⟩
      rw [dec_str]; exact q
    | _ => cases hg
  | _ => cases hg
theorem hot_pair {vs : List V} {Q : VK} {E : XK} (h : spH K pairD vs H Q E) : tHot K (spH K leafD) { nx := fun _ H' => Q .non H', rt := Q } (L2.start ["_law_actual", "_law_expected", "_law_k"] vs) H := by
  obtain ⟨G, x, y, b, r, e, hg, q⟩ := h
  obtain ⟨u, v, rfl, r1, r2⟩ := reps2 r
  match x, y, hg with
  | .tup [a, b'], .tup [c, d], hg =>
    obtain ⟨e1, h1, hg⟩ := Option.bind_eq_some_iff.mp (show (leafD a c).bind (fun x => if x = true then leafD b' d else (leafD b' d).map fun _ => false) = some b from hg)
    have t1 := r1
    have t2 := r2
    obtain ⟨a1, xs, rfl, s1, q1⟩ := t1
    obtain ⟨a2, ys, rfl, s2, q2⟩ := t2
    obtain ⟨x1, x2, rfl, rx1, rx2⟩ := reps2 q1
    obtain ⟨y1, y2, rfl, ry1, ry2⟩ := reps2 q2
    have s1' := ex_t e s1
    have s2' := ex_t e s2
    refine is_at (t := .tuple) rfl r2 e (fun _ => nofun) (fun _ => nofun) ⟨_, rfl, ifT rfl ?_⟩
    refine is_at (t := .tuple) rfl r1 e (fun _ => nofun) (fun _ => nofun) ⟨_, rfl, ifF rfl ?_⟩
    refine ⟨_, rfl, a1, _, rfl, .inr s1', _, rfl, a2, _, rfl, .inr s2', rfl, _, rfl, ifF rfl ?_⟩
    refine ⟨_, rfl, a2, _, rfl, .inr s2', 2, rfl, by decide, by decide, ?_⟩
    refine for_range (lo := 0) (n := 2) (fun i σ' H' => H' = H ∧ (∃ s, σ' = [some (.ref a1), some (.ref a2), s]) ∧ (1 ≤ i → e1 = true) ∧ (2 ≤ i → leafD b' d = some true)) ⟨rfl, ⟨_, rfl⟩, fun z => absurd z (by decide), fun z => absurd z (by decide)⟩ (fun i σ' H' hi p => ?_) (fun σ' H' p => ?_)
    · obtain ⟨rfl, ⟨s, rfl⟩, p1, p2⟩ := p
      match i, hi, p1, p2 with
      | 0, _, _, _ =>
        refine ⟨_, rfl, _, rfl, a1, [x1, x2], 0, x1, rfl, rfl, s1', rfl, ?_⟩
        refine ⟨_, rfl, _, rfl, a2, [y1, y2], 0, y1, rfl, rfl, s2', rfl, ?_⟩
        refine ⟨G, a, c, e1, ⟨_, _, rfl, rx1, _, _, rfl, ry1, rfl⟩, e, h1, _, rfl, ?_⟩
        cases e1 with
        | true => exact ⟨rfl, ⟨_, rfl⟩, fun _ => rfl, fun z => absurd z (by decide)⟩
        | false =>
          cases h2 : leafD b' d with
          | none => rw [h2] at hg; cases hg
          | some _ =>
            rw [h2] at hg
            cases hg
            exact q
      | 1, _, p1, _ =>
        have e1t := p1 (Nat.le_refl _)
        subst e1t
        have h2 : leafD b' d = some b := hg
        refine ⟨_, rfl, _, rfl, a1, [x1, x2], 1, x2, rfl, rfl, s1', rfl, ?_⟩
        refine ⟨_, rfl, _, rfl, a2, [y1, y2], 1, y2, rfl, rfl, s2', rfl, ?_⟩
        refine ⟨G, b', d, b, ⟨_, _, rfl, rx2, _, _, rfl, ry2, rfl⟩, e, h2, _, rfl, ?_⟩
        cases b with
        | true => exact ⟨rfl, ⟨_, rfl⟩, fun _ => rfl, fun _ => h2⟩
        | false => exact q
    · obtain ⟨rfl, ⟨s, rfl⟩, p1, p2⟩ := p
      have e1t := p1 (by decide)
      subst e1t
      have h2 : leafD b' d = some b := hg
      rw [p2 (Nat.le_refl _)] at h2
      cases h2
      exact q
end
end Pv

end
section
/-! Ev10: statements. -/
namespace Pv
open PySem PySem.Spec PyProof.Rows L2
variable [Tabs]
def isLC : Expr → Bool
  | .ListComp _ _ _ _ => true
  | _ => false
def chkH (N Cs : List Str) (sc : Scope) (n : Str) : Hd → Stmt → Bool
  | .what, s => match s with
    | .Return (some (.Attribute (.Name y _) f _)) _ => decide (y = n) && decide (f = ("what" : Str))
    | _ => false
  | .same w t, s => match s with
    | .Return (some (.BoolOp .And [.Name x _, .Compare (.Attribute (.Name y _) f _) [.Eq] [.Constant (.str k) _ _] _, .Call (.Name g1 _) [.Name y1 _, .Name c1 _] [] _, .Call (.Name g2 _) [.Name y2 _, .Name c2 _] [] _] _)) _ =>
      decide (N[w]? = some x) && visB sc x && nmOk x && decide (y = n) && decide (f = ("what" : Str)) && decide (k = st t) && decide (g1 = ("isinstance" : Str)) && decide (g2 = ("isinstance" : Str)) && decide (y1 = n) && decide (y2 = n) && decide (c1 = ("LinkError" : Str)) && decide (c2 = ("ValueError" : Str)) &&
        glB sc ("isinstance" : Str) && glB sc ("LinkError" : Str) && glB sc ("ValueError" : Str) && Cs.contains ("<same>" : Str)
    | _ => false
/-- the suite of «except BadTrace as n» in a law -/
def chkHB (N : List Str) (sc : Scope) (n : Str) (w : Nat) : Stmt → Stmt → Bool
  | .If (.BoolOp .Or [.UnaryOp .Not (.Call (.Name g1 _) [.Name y1 _, .Name c1 _] [] _) _, .Call (.Name g2 _) [.Name y2 _, .Name c2 _] [] _, .Compare (.Call (.Name g3 _) [.Name y3 _] [] _) [.NotEq] [.Constant (.int 2) _ _] _] _) [.Return (some (.Constant (.bool false) _ _)) _] [] _,
    .Return (some (.Call (.Name g4 _) [.Tuple [.Attribute (.Name y4 _) f1 _, .Attribute (.Name y5 _) f2 _] _ _, .Name y6 _] [] _)) _ =>
      decide (g1 = ("isinstance" : Str)) && decide (g2 = ("isinstance" : Str)) && decide (g3 = ("len" : Str)) && decide (g4 = ("_law_same" : Str)) && decide (y1 = n) && decide (y2 = n) && decide (y4 = n) && decide (y5 = n) && decide (c1 = ("LinkError" : Str)) && decide (c2 = ("Refused" : Str)) && decide (f1 = ("line" : Str)) && decide (f2 = ("what" : Str)) &&
        decide (N[w]? = some y3) && decide (y6 = y3) && visB sc y3 && nmOk y3 && glB sc ("isinstance" : Str) && glB sc ("len" : Str) && glB sc ("_law_same" : Str) && glB sc ("LinkError" : Str) && glB sc ("Refused" : Str)
  | _, _ => false
section
variable (N Cs : List Str) (gl : List (Str × GC)) (sc : Scope)
def chkPar (i j : Nat) (a b : IE) (s : Stmt) : Bool := match s with
  | .Assign [.Tuple [.Name x px, .Name y py] _ _] (.Tuple [u, w] _ _) _ => decide (N[i]? = some x) && decide (N[j]? = some y) && decide (i ≠ j) && decide (x ≠ y) && decide (sc.names.lookup x = some .local) && decide (sc.names.lookup y = some .local) &&
      (px.line == py.line) && !(foldedForSure 8 u && foldedForSure 8 w) && !(constantsAlone 8 u && constantsAlone 8 w) && chkE N Cs gl sc a u && chkE N Cs gl sc b w
  | _ => false
mutual
def chkS : IS → Stmt → Bool
  | .asg i e _, s => match s with
    | .Assign [.Name x py] v _ => chkNm N sc i (.Name x py) && !isLC v && chkE N Cs gl sc e v
    | _ => false
  | .asgL i e _, s => match s with
    | .Assign [.Name x py] v _ => chkNm N sc i (.Name x py) && freshE e && chkE N Cs gl sc e v
    | _ => false
  | .unp is e _, s => match s with
    | .Assign [.Tuple ts _ _] v _ => chkTgs N sc is ts && !isLC v && !isTupE v && chkE N Cs gl sc e v
    | _ => false
  | .unpL is e _, s => match s with
    | .Assign [.Tuple ts _ _] v _ => chkTgs N sc is ts && !isTupE v && chkE N Cs gl sc e v
    | _ => false
  | .ext i e _, s => match s with
    | .Expr (.Call (.Attribute (.Name x _) m ap) [v] [] pos) _ => decide (m = ("extend" : Str)) && decide (N[i]? = some x) && visB sc x && nmOk x && (ap.endLine == pos.line) && chkE N Cs gl sc e v
    | _ => false
  | .unpG tg e _, s => match s with
    | .Assign [.Tuple ts k p] v _ => chkTg N sc tg (.Tuple ts k p) && !isLC v && !isTupE v && chkE N Cs gl sc e v
    | _ => false
  | .par i j a b _, s => chkPar N Cs gl sc i j a b s
  | .app i e, s => match s with
    | .Expr (.Call (.Attribute (.Name x _) m ap) [v] [] pos) _ => decide (m = ("append" : Str)) && decide (N[i]? = some x) && visB sc x && nmOk x && (ap.endLine == pos.line) && chkE N Cs gl sc e v
    | _ => false
  | .appL i e _, s => match s with
    | .Expr (.Call (.Attribute (.Name x _) m ap) [v] [] pos) _ => decide (m = ("append" : Str)) && decide (N[i]? = some x) && visB sc x && nmOk x && (ap.endLine == pos.line) && chkE N Cs gl sc e v
    | _ => false
  | .popx i, s => match s with
    | .Expr (.Call (.Attribute (.Name x _) m ap) [] [] pos) _ => decide (m = ("pop" : Str)) && decide (N[i]? = some x) && visB sc x && nmOk x && (ap.endLine == pos.line)
    | _ => false
  | .setx i k e, s => match s with
    | .Assign [.Subscript (.Name x _) kx _] v _ => decide (N[i]? = some x) && visB sc x && nmOk x && !isLC v && chkE N Cs gl sc k kx && chkE N Cs gl sc e v
    | _ => false
  | .expr e, s => match s with
    | .Expr v _ => !isLC v && chkE N Cs gl sc e v
    | _ => false
  | .ret e _, s => match s with
    | .Return (some v) _ => chkE N Cs gl sc e v
    | _ => false
  | .retN, s => match s with
    | .Return none _ => true
    | _ => false
  | .ite c a b, s => match s with
    | .If c' a' b' _ => chkE N Cs gl sc c c' && tOk c && chkSs a a' && chkSs b b'
    | _ => false
  | .forr it tg body _, s => match s with
    | .For t i b [] _ => chkI N Cs gl sc it t i && chkTg N sc tg t && chkSs body b
    | _ => false
  | .whl c body _, s => match s with
    | .While c' b [] _ => chkE N Cs gl sc c c' && tOk c && chkSs body b
    | _ => false
  | .brk, s => match s with
    | .Break _ => true
    | _ => false
  | .cont, s => match s with
    | .Continue _ => true
    | _ => false
  | .pass, s => match s with
    | .Pass _ => true
    | _ => false
  | .raisN, s => match s with
    | .Raise _ _ _ => true
    | _ => false
  | .raisE e, s => match s with
    | .Raise (some (.Call (.Name x _) [v] [] _)) none _ => decide (x = ("Refused" : Str)) && glB sc x && Cs.contains ("<refused>" : Str) && chkE N Cs gl sc e v
    | _ => false
  | .raisB a b, s => match s with
    | .Raise (some (.Call (.Name x _) [v, u] [] _)) none _ => decide (x = ("BadTrace" : Str)) && glB sc x && Cs.contains ("<bad>" : Str) && chkE N Cs gl sc a v && chkE N Cs gl sc b u
    | _ => false
  | .exprX x, s => match s with
    | .Expr v _ => chkX N Cs gl sc x v
    | _ => false
  | .asgX i x _, s => match s with
    | .Assign [.Name y py] v _ => chkNm N sc i (.Name y py) && chkX N Cs gl sc x v
    | _ => false
  | .unpX is x _, s => match s with
    | .Assign [.Tuple ts _ _] v _ => chkTgs N sc is ts && chkX N Cs gl sc x v
    | _ => false
  | .unpXL is x _, s => match s with
    | .Assign [.Tuple ts _ _] v _ => chkTgs N sc is ts && chkX N Cs gl sc x v
    | _ => false
  | .appX i x, s => match s with
    | .Expr (.Call (.Attribute (.Name y _) m ap) [v] [] pos) _ => decide (m = ("append" : Str)) && decide (N[i]? = some y) && visB sc y && nmOk y && (ap.endLine == pos.line) && chkX N Cs gl sc x v
    | _ => false
  | .retX x _, s => match s with
    | .Return (some v) _ => chkX N Cs gl sc x v
    | _ => false
  | .iteX x a b, s => match s with
    | .If c' a' b' _ => chkX N Cs gl sc x c' && tX x && chkSs a a' && chkSs b b'
    | _ => false
  | .tryE body i h, s => match s with
    | .Try b [.ExceptHandler (some (.Name x _)) (some n) [s0] _] [] [] _ => decide (x = ("Refused" : Str)) && glB sc x && Cs.contains ("<refused>" : Str) && decide (N[i]? = some n) && decide (sc.names.lookup n = some .local) && nmOk n && chkSs body b && chkH N Cs sc n h s0
    | _ => false
  | .tryB body i w, s => match s with
    | .Try b [.ExceptHandler (some (.Name x _)) (some n) [s0, s1] _] [] [] _ => decide (x = ("BadTrace" : Str)) && glB sc x && Cs.contains ("<bad>" : Str) && Cs.contains ("<hot>" : Str) && decide (N[i]? = some n) && decide (sc.names.lookup n = some .local) && nmOk n && chkSs body b && chkHB N sc n w s0 s1
    | _ => false
def chkSs : ISs → List Stmt → Bool
  | .nil, ss => ss.isEmpty
  | .cons a as, ss => match ss with
    | x :: xs => chkS a x && chkSs as xs
    | [] => false
end
end
section
variable {N Cs : List Str} {gl : List (Str × GC)} {F : List (List D → R D)} {sc : Scope}
structure CxS (N Cs : List Str) (gl : List (Str × GC)) (F : List (List D → R D)) (sc : Scope) (X : Cx) : Prop where
  c : Cxt N Cs gl F sc X
  fn : ∀ x, X.fn x = true
  pass : PassesOwn (model X.prog X.w) X.A X.env X.xe
  kind : sc.kind = .function
  stk : X.stack = X.env :: X.outer
  frm : X.env.frame = some X.env.locals
  ref : ("<refused>" : Str) ∈ Cs → RefC X
  lnk : ("<same>" : Str) ∈ Cs → Lnk X.K X.mg
  bad : ("<bad>" : Str) ∈ Cs → BadC X
  hot : ("<hot>" : Str) ∈ Cs → HotL X ∧ (∃ k, 2 ≤ k ∧ Room k X.A) ∧ LnkB X.K X.mg
def Beh (K : PySem.W.Frag) (Wx : WX) (G0 H0 : Hp) (D : Ends) : RS → Prop
  | .next ρ => ∀ σ H, W K G0 H0 ρ σ H → D.nx σ H
  | .ret d => ∀ v H, (∃ G, Step G0 H0 G H ∧ Rep K G d v) → D.rt v H
  | .brk ρ => ∀ σ H, W K G0 H0 ρ σ H → D.bk σ H
  | .cont ρ => ∀ σ H, W K G0 H0 ρ σ H → D.ct σ H
  | .exc ρ c xs => ∀ σ H cls dd, W K G0 H0 ρ σ H → XIs H c xs cls dd → Wx cls (some dd) σ H
  | .stuck => False
theorem Beh.of {α : Type} {K : PySem.W.Frag} {Wx : WX} {G0 H0 : Hp} {D : Ends} {r : R α} {f : α → RS} (h : Beh K Wx G0 H0 D (RS.of r f)) : ∃ a, r = .ok a ∧ Beh K Wx G0 H0 D (f a) := by
  cases r with
  | ok a => exact ⟨a, rfl, h⟩
  | exc c xs => exact h.elim
  | stuck => exact h.elim
theorem Beh.ofO {α : Type} {K : PySem.W.Frag} {Wx : WX} {G0 H0 : Hp} {D : Ends} {r : Option α} {f : α → RS} (h : Beh K Wx G0 H0 D (RS.ofO r f)) : ∃ a, r = some a ∧ Beh K Wx G0 H0 D (f a) := by
  cases r with
  | some a => exact ⟨a, rfl, h⟩
  | none => exact h.elim

theorem Beh.ofX {K : PySem.W.Frag} {Wx : WX} {G0 H0 : Hp} {D : Ends} {ρ : Env} {r : R Pv.D} {f : Pv.D → RS} (h : Beh K Wx G0 H0 D (RS.ofX ρ r f)) : (∃ a, r = .ok a ∧ Beh K Wx G0 H0 D (f a)) ∨ ∃ c xs, r = .exc c xs ∧ Beh K Wx G0 H0 D (.exc ρ c xs) := by
  cases r with
  | ok a => exact .inl ⟨a, rfl, h⟩
  | exc c xs => exact .inr ⟨c, xs, rfl, h⟩
  | stuck => exact h.elim
theorem Step.base {G0 H0 Gb Hb G H : Hp} (a : Step G0 H0 Gb Hb) (b : Step Gb H0 G H) : Step G0 H0 G H := ⟨a.gg.trans b.gg, b.gh, b.hh, fun x o h n => b.fr x o h (a.fr x o h n)⟩
theorem W.rebase {K : PySem.W.Frag} {G0 H0 Gb Hb : Hp} {ρ : Env} {σ : L2.St} {H : Hp} (a : Step G0 H0 Gb Hb) (w : W K Gb H0 ρ σ H) : W K G0 H0 ρ σ H := let ⟨G, s, S⟩ := w; ⟨G, a.base s, S⟩

theorem chk_swap {ie : IE} {e : Expr} (h : chkE N Cs gl sc ie e = true) (hl : isLC e = false) (tg : Option Expr) (l : Nat) (env : PySem.Env) : swapsWith e tg l env = pure false := by
  cases e <;> first | rfl | (simp [isLC] at hl; done) | (cases ie <;> simp [chkE] at h)
theorem chk_stores {ie : IE} {e : Expr} {ts : List Expr} {k : Nat} {p : Pos} (h : chkE N Cs gl sc ie e = true) (hl : isTupE e = false) (env : PySem.Env) : swappedStores [.Tuple ts k p] e env = pure none := by
  cases e <;> first | rfl | cases hl
theorem sw_lc {elt : Expr} {gs : List Comprehension} {scope : Scope} {pos py : Pos} {y : Str} {l : Nat} {env : PySem.Env} (hk : env.scope.kind = .function) :
    swapsWith (.ListComp elt gs scope pos) (some (.Name y py)) l env = pure true ∧ env.scope.names.lookup y = some .local ∨ swapsWith (.ListComp elt gs scope pos) (some (.Name y py)) l env = pure false := by
  have hb : env.blockKind = .function := by unfold Env.blockKind; rw [hk]; rfl
  have e : swapsWith (.ListComp elt gs scope pos) (some (.Name y py)) l env = pure (env.blockKind == .function && env.kindOf y == some .local && py.line == pos.line && !(scope.names.any fun (n, k) => n == y && (k == .local || k == .cell))) := rfl
  by_cases hy : env.scope.names.lookup y = some .local
  · rw [e]
    cases q : (env.blockKind == .function && env.kindOf y == some .local && py.line == pos.line && !(scope.names.any fun (n, k) => n == y && (k == .local || k == .cell))) with
    | true => exact .inl ⟨rfl, hy⟩
    | false => exact .inr rfl
  · refine .inr ?_
    rw [e]
    have : (env.kindOf y == some .local) = false := beq_eq_false_iff_ne.mpr hy
    rw [this]
    simp

/-- the parts of a comprehension -/
theorem comp_parts1 {X : Cx} {z : Nat → Bool} {ρ : Env} (C : Cxt N Cs gl F sc X) {ie : IE} {elt : Expr} {gs : List Comprehension} {scope : Scope} {pos : Pos} {ds : List D} (h : chkE N Cs gl sc ie (.ListComp elt gs scope pos) = true) (hd : evE F z ρ ie = .ok (.lst ds)) (hn : ∀ it i b j el own, ie ≠ .comp2 it i b j el own) :
    ∃ t i ifs own wi g tt te, gs = [⟨t, i, ifs, 0⟩] ∧ PI X t i wi ∧ BlkOk X.N X.env.scope scope own ∧
      (∀ (s : Shared) (H : Hp) (C : Addr) (cl : List (Str × Addr)) (fp : List Addr), PG (X.blk s H scope (compEnvC scope cl C X.env) fp) t g) ∧
      (∀ (s : Shared) (H : Hp) (C : Addr) (cl : List (Str × Addr)) (fp : List Addr), PTs (X.blk s H scope (compEnvC scope cl C X.env) fp) ifs tt) ∧
      (∀ (s : Shared) (H : Hp) (C : Addr) (cl : List (Str × Addr)) (fp : List Addr), PE (X.blk s H scope (compEnvC scope cl C X.env) fp) elt te) ∧
      (∀ x, foldedSetIterable i X.env x = pure x) ∧ EvN X.K (tLc wi g tt te (own.map (·.2))) z ρ ds := by
  cases ie with
  | comp it tg el own =>
    revert h
    simp only [chkE]
    split
    · rename_i heq
      injection heq with e1 e2 e3 e4
      subst e1 e2 e3 e4
      rename_i t i
      intro h
      simp only [Bool.and_eq_true, List.all_eq_true, List.contains_iff_mem] at h
      obtain ⟨⟨⟨⟨hi, ht⟩, hown⟩, hb⟩, hel⟩ := h
      rw [evE] at hd
      obtain ⟨xs, h1, hd⟩ := Pv.R.bind_eq_ok hd
      obtain ⟨hl, hd⟩ := R.when_ok hd
      obtain ⟨ys, h2, hd⟩ := Pv.R.bind_eq_ok hd
      have e1 : ys = ds := D.lst.inj (R.ok.inj hd)
      subst e1
      obtain ⟨wi, p1, v1⟩ := okI it C hi xs h1
      have hvs : (ownOf N own).map (·.2) = own := by unfold ownOf; rw [List.map_map]; exact List.map_id _
      refine ⟨t, i, [], ownOf N own, wi, gTg X.K tg, tYes, fun σ H Q => ∀ (s : Shared) (H0 : Hp) (Cc : Addr) (cl : List (Str × Addr)) (fp : List Addr), wE (X.blk s H0 scope (compEnvC scope cl Cc X.env) fp) elt σ H Q, rfl, p1, by rw [C.hN, C.hsc]; exact blkOk_by hb,
        fun s H c cl fp => pg_of (Y := X.blk s H scope (compEnvC scope cl c X.env) fp) C.hN C.nd C.calm (fun x hx => C.blkName hx s H cl c fp) ht,
        fun s H c cl fp => pts_nil, fun s H c cl fp => ⟨fun pins s2 σ H2 Q I hq => hq s H c cl fp pins s2 I⟩, fun x => chkI_folded hi _ x, ?_⟩
      rw [hvs]
      refine en_comp v1 hl h2 fun x o hx ho => ?_
      obtain ⟨ρ', g1, ho⟩ := Pv.R.bind_eq_ok ho
      obtain ⟨y, g2, ho⟩ := Pv.R.bind_eq_ok ho
      cases ho
      intro G σ H v R ex rv Y Nn hY hN
      refine ex_gTg rv ex (Pv.R.ofO_ok g1) (R.wipe own) hown _ fun σ' R' hw => ⟨by rw [hw, wipe_wipe], ?_⟩
      show (fun σ H Q => ∀ (s : Shared) (H0 : Hp) (Cc : Addr) (cl : List (Str × Addr)) (fp : List Addr), wE (X.blk s H0 scope (compEnvC scope cl Cc X.env) fp) elt σ H Q) σ' H Y
      intro s H0 Cc cl fp
      exact ((okE el (C.blk s H0 scope cl Cc fp) hel).1.1 y g2) G σ' H R' ex Y fun v' G' H' s' r' => hY y rfl v' G' H' s' r'
    · intro h; cases h
  | compIf it tg c el own =>
    revert h
    simp only [chkE]
    split
    · rename_i heq
      injection heq with e1 e2 e3 e4
      subst e1 e2 e3 e4
      rename_i t i cx
      intro h
      simp only [Bool.and_eq_true, List.all_eq_true, List.contains_iff_mem] at h
      obtain ⟨⟨⟨⟨⟨⟨hi, ht⟩, hown⟩, hb⟩, hcx⟩, htk⟩, hel⟩ := h
      rw [evE] at hd
      obtain ⟨xs, h1, hd⟩ := Pv.R.bind_eq_ok hd
      obtain ⟨hl, hd⟩ := R.when_ok hd
      obtain ⟨ys, h2, hd⟩ := Pv.R.bind_eq_ok hd
      have e1 : ys = ds := D.lst.inj (R.ok.inj hd)
      subst e1
      obtain ⟨wi, p1, v1⟩ := okI it C hi xs h1
      have hvs : (ownOf N own).map (·.2) = own := by unfold ownOf; rw [List.map_map]; exact List.map_id _
      refine ⟨t, i, [cx], ownOf N own, wi, gTg X.K tg, fun σ H Q => ∀ (s : Shared) (H0 : Hp) (Cc : Addr) (cl : List (Str × Addr)) (fp : List Addr), wT (X.blk s H0 scope (compEnvC scope cl Cc X.env) fp) cx σ H Q,
        fun σ H Q => ∀ (s : Shared) (H0 : Hp) (Cc : Addr) (cl : List (Str × Addr)) (fp : List Addr), wE (X.blk s H0 scope (compEnvC scope cl Cc X.env) fp) elt σ H Q, rfl, p1, by rw [C.hN, C.hsc]; exact blkOk_by hb,
        fun s H c cl fp => pg_of (Y := X.blk s H scope (compEnvC scope cl c X.env) fp) C.hN C.nd C.calm (fun x hx => C.blkName hx s H cl c fp) ht,
        fun s H c cl fp => pts_one ⟨fun pins s2 σ H2 Q I hq => hq s H c cl fp pins s2 I⟩, fun s H c cl fp => ⟨fun pins s2 σ H2 Q I hq => hq s H c cl fp pins s2 I⟩, fun x => chkI_folded hi _ x, ?_⟩
      rw [hvs]
      refine en_comp v1 hl h2 fun x o hx ho => ?_
      obtain ⟨ρ', g1, ho⟩ := Pv.R.bind_eq_ok ho
      obtain ⟨b, g2, ho⟩ := Pv.R.bind_eq_ok ho
      intro G σ H v R ex rv Y Nn hY hN
      refine ex_gTg rv ex (Pv.R.ofO_ok g1) (R.wipe own) hown _ fun σ' R' hw => ⟨by rw [hw, wipe_wipe], ?_⟩
      intro s H0 Cc cl fp
      refine ((okE c (C.blk s H0 scope cl Cc fp) hcx).1.2 htk b g2) G σ' H R' ex _ fun G2 H2 s2 => ?_
      cases b with
      | true =>
        obtain ⟨y, g3, ho⟩ := Pv.R.bind_eq_ok ho
        cases ho
        show (fun σ H Q => ∀ (s : Shared) (H0 : Hp) (Cc : Addr) (cl : List (Str × Addr)) (fp : List Addr), wE (X.blk s H0 scope (compEnvC scope cl Cc X.env) fp) elt σ H Q) σ' H2 Y
        intro s' H0' Cc' cl' fp'
        exact ((okE el (C.blk s' H0' scope cl' Cc' fp') hel).1.1 y g3) G2 σ' H2 (R'.mono s2) s2.gh Y fun v' G' H' s'' r' => hY y rfl v' G' H' (s2.trans s'') r'
      | false =>
        cases ho
        exact hN rfl G2 H2 s2
    · intro h; cases h
  | comp2 it i b j el own => exact absurd rfl (hn it i b j el own)
  | _ => simp [chkE] at h
theorem comp_ps {X : Cx} {z : Nat → Bool} {ρ : Env} (C : Cxt N Cs gl F sc X) {ie : IE} {elt : Expr} {gs : List Comprehension} {scope : Scope} {pos : Pos} {ds : List D} (h : chkE N Cs gl sc ie (.ListComp elt gs scope pos) = true) (hd : evE F z ρ ie = .ok (.lst ds)) :
    ∃ te : TE, (∀ {i : Nat} {y : Str} {py spos : Pos}, X.N[i]? = some y → X.env.scope.names.lookup y = some .local → swapsWith (.ListComp elt gs scope pos) (some (.Name y py)) spos.line X.env = pure true → PS X (.Assign [.Name y py] (.ListComp elt gs scope pos) spos) (tAsg te (gName i))) ∧ EvN X.K te z ρ ds := by
  have hN : X.N.Nodup := by rw [C.hN]; exact C.nd
  by_cases hc : ∃ it i b j el own, ie = .comp2 it i b j el own
  · obtain ⟨it, i, b, j, el, own, rfl⟩ := hc
    revert h
    simp only [chkE]
    split
    · rename_i heq
      injection heq with e1 e2 e3 e4
      subst e1 e2 e3 e4
      rename_i t ie t1 ie1
      intro h
      simp only [Bool.and_eq_true, List.contains_iff_mem] at h
      obtain ⟨⟨⟨⟨⟨⟨⟨hi, ht⟩, ht1⟩, hoi⟩, hoj⟩, hb⟩, hbe⟩, hel⟩ := h
      rw [evE] at hd
      obtain ⟨xs, h1, hd⟩ := Pv.R.bind_eq_ok hd
      obtain ⟨hl, hd⟩ := R.when_ok hd
      obtain ⟨zs, h2, hd⟩ := Pv.R.bind_eq_ok hd
      obtain ⟨hz, hd⟩ := R.when_ok hd
      have e1 : zs = ds := D.lst.inj (R.ok.inj hd)
      subst e1
      obtain ⟨wi, p1, v1⟩ := okI it C hi xs h1
      have hvs : (ownOf N own).map (·.2) = own := by unfold ownOf; rw [List.map_map]; exact List.map_id _
      refine ⟨tLc2 wi (gName i) tYes (iList X.K (fun σ H Q => ∀ (s : Shared) (H0 : Hp) (Cc : Addr) (cl : List (Str × Addr)) (fp : List Addr), wE (X.blk s H0 scope (compEnvC scope cl Cc X.env) fp) ie1 σ H Q)) (gName j) tYes (fun σ H Q => ∀ (s : Shared) (H0 : Hp) (Cc : Addr) (cl : List (Str × Addr)) (fp : List Addr), wE (X.blk s H0 scope (compEnvC scope cl Cc X.env) fp) elt σ H Q) ((ownOf N own).map (·.2)) [j], fun hy hyl hsw => ps_setLc2 (g := gName i) (g1 := gName j) (tt := tYes) (tt1 := tYes) (vs1 := [j]) (own := ownOf N own) (wi1 := iList X.K (fun σ H Q => ∀ (s : Shared) (H0 : Hp) (Cc : Addr) (cl : List (Str × Addr)) (fp : List Addr), wE (X.blk s H0 scope (compEnvC scope cl Cc X.env) fp) ie1 σ H Q)) (te := fun σ H Q => ∀ (s : Shared) (H0 : Hp) (Cc : Addr) (cl : List (Str × Addr)) (fp : List Addr), wE (X.blk s H0 scope (compEnvC scope cl Cc X.env) fp) elt σ H Q) C.calm hN hy hyl hsw p1 (by rw [C.hN, C.hsc]; exact blkOk_by hb) (fun k hk => by rw [hvs]; rw [List.mem_singleton.mp hk]; exact hoj)
          (fun s H c cl fp => pg_of (tg := .one i) (Y := X.blk s H scope (compEnvC scope cl c X.env) fp) C.hN C.nd C.calm (fun x hx => C.blkName hx s H cl c fp) ht)
          (fun s H c cl fp => pts_nil) (fun s H c cl fp => pi_list ⟨fun pins s2 σ H2 Q I hq => hq s H c cl fp pins s2 I⟩)
          (fun s H c cl fp => pg_of (tg := .one j) (Y := X.blk s H scope (compEnvC scope cl c X.env) fp) C.hN C.nd C.calm (fun x hx => C.blkName hx s H cl c fp) ht1)
          (fun s H c cl fp => pts_nil) (fun s H c cl fp => ⟨fun pins s2 σ H2 Q I hq => hq s H c cl fp pins s2 I⟩) (fun x => chkI_folded hi _ x) (fun env x => chk_folded hbe env x), ?_⟩
      rw [hvs]
      refine en_comp2 v1 h2 hz fun x ys hx ho => ?_
      obtain ⟨ys0, g1, ho⟩ := Pv.R.bind_eq_ok ho
      obtain ⟨d, g0, g1⟩ := Pv.R.bind_eq_ok g1
      cases d with
      | lst ws =>
        obtain ⟨_, g1⟩ := R.when_ok g1
        cases g1
        refine turn2_ok hoi (ei_list ?_) ho ?_
        · exact fun G σ H R ex Q q s H0 Cc cl fp => ((okE b (C.blk s H0 scope cl Cc fp) hbe).1.1 _ g0) G σ H R ex Q q
        · intro y o hy ho
          obtain ⟨u, g2, ho⟩ := Pv.R.bind_eq_ok ho
          cases ho
          intro G σ H v R ex rv Y Nn hY hN
          have R' := (R.wipe [j]).set rv (i := j)
          have ee : (wipeE ((wipeE ρ own).set i (.val x)) [j]).set j (.val y) = ((wipeE ρ own).set i (.val x)).set j (.val y) := by
            show ((((wipeE ρ own).set i (.val x)).set j .no).set j (.val y)) = _
            rw [List.set_set]
          rw [ee] at R'
          refine ⟨by rw [wipe_set_mem (List.mem_singleton.mpr rfl), wipe_wipe], ?_⟩
          refine ifYes (B := Nn H) ?_
          intro s H0 Cc cl fp
          exact ((okE el (C.blk s H0 scope cl Cc fp) hel).1.1 u g2) G _ H R' ex Y fun v' G' H' s' r' => hY u rfl v' G' H' s' r'
      | _ => cases g1
    · intro h; cases h
  · obtain ⟨t, it, ifs, own, wi, g, tt, te, rfl, p1, ok, q1, q2, q3, q4, q5⟩ := comp_parts1 C h hd fun it i b j el own e => hc ⟨it, i, b, j, el, own, e⟩
    exact ⟨_, fun hy hyl hsw => ps_setLc C.calm hN hy hyl hsw p1 ok q1 q2 q3 q4, q5⟩

/-! ### loops -/
theorem s_for {K : PySem.W.Frag} {Wx : WX} {G0 H0 : Hp} {D : Ends} {wi : TI} {tg : Tg} {tb : TS} {z : Nat → Bool} {b : Bool} {fz : List Nat} {ρ : Env} {xs : List Pv.D} {σ : L2.St} {H : Hp} {step : Pv.D → Env → RS}
    (hz : z = if b = true then zAll else zOf fz) (hi : EvI K b wi z ρ xs)
    (hbody : ∀ (x : Pv.D) (ρ' : Env) (Gb : Hp) (D' : Ends), Beh K Wx Gb H0 D' (step x ρ') → ∃ ρ2, bindTg tg x ρ' = some ρ2 ∧ ∀ σ2 H2, W K Gb H0 ρ2 σ2 H2 → tb D' σ2 H2)
    (w : W K G0 H0 ρ σ H) (hB : Beh K Wx G0 H0 D (forGo step xs (if b = true then ρ else frz fz ρ))) : tFor wi (gTg K tg) tb D σ H := by
  obtain ⟨G, s, S⟩ := w
  have main : ∀ (J : It) (Gb Hb : Hp) (ρ1 : Env) (Gw : Hp), Step G0 H0 Gb Hb → SlotR K H0 Gb Hb σ ρ1 → Walks K Gw J xs → Ex Gw Gb → Beh K Wx G0 H0 D (forGo step xs ρ1) →
      ∃ Wl : Nat → Nat → L2.St → Hp → Prop, (∃ m, Wl 0 m σ Hb) ∧ ∀ i m σ H, Wl i m σ H → (J.stop i H ∧ D.nx σ H) ∨ (J.go i H ∧ ∃ N : L2.St → Hp → Prop, (∀ σ' H', N σ' H' → ∃ m', m' < m ∧ Wl (i + 1) m' σ' H') ∧
        ∀ x H', J.yld i H x H' → gTg K tg x σ H' fun σ2 H2 => tb { D with nx := N, ct := N, bk := D.nx } σ2 H2) := by
    intro J Gb Hb ρ1 Gw sb Sb wk exw hB1
    refine ⟨fun i m σ H => ∃ rest ρ', xs.drop i = rest ∧ m = rest.length ∧ i ≤ xs.length ∧ W K Gb H0 ρ' σ H ∧ Beh K Wx G0 H0 D (forGo step rest ρ'), ⟨xs.length, xs, ρ1, rfl, rfl, Nat.zero_le _, ⟨Gb, ⟨Ex.refl _, sb.gh, sb.hh, fun a o h n => n⟩, Sb⟩, hB1⟩, ?_⟩
    rintro i m σ2 H2 ⟨rest, ρ', hr, hm, hil, ⟨G2, s2, S2⟩, hB2⟩
    have wki := wk i G2 H2 (exw.trans s2.gg) s2.gh
    cases rest with
    | nil =>
      have hxi : xs.length ≤ i := by
        have := congrArg List.length hr
        rw [List.length_drop, List.length_nil] at this
        omega
      exact .inl ⟨wki.2 hxi, hB2 σ2 H2 (W.rebase sb ⟨G2, s2, S2⟩)⟩
    | cons x rest =>
      have hxi : xs[i]? = some x := by
        have : (xs.drop i)[0]? = some x := by rw [hr]; rfl
        rw [List.getElem?_drop, Nat.add_zero] at this
        exact this
      have hlt : i < xs.length := (List.getElem?_eq_some_iff.mp hxi).1
      have hr' : xs.drop (i + 1) = rest := by
        have := congrArg (List.drop 1) hr
        rw [List.drop_drop] at this
        rw [this]; rfl
      obtain ⟨hgo, hyld⟩ := wki.1 x hxi
      refine .inr ⟨hgo, fun σ3 H3 => ∃ ρ3, W K Gb H0 ρ3 σ3 H3 ∧ Beh K Wx G0 H0 D (forGo step rest ρ3), fun σ3 H3 hN => ?_, fun v H3 hv => ?_⟩
      · obtain ⟨ρ3, w3, b3⟩ := hN
        exact ⟨rest.length, by rw [hm, List.length_cons]; omega, rest, ρ3, hr', rfl, hlt, w3, b3⟩
      · obtain ⟨G3, s3, rx⟩ := hyld v H3 hv
        have hbeh : Beh K Wx Gb H0 { D with nx := fun σ3 H3 => ∃ ρ3, W K Gb H0 ρ3 σ3 H3 ∧ Beh K Wx G0 H0 D (forGo step rest ρ3), ct := fun σ3 H3 => ∃ ρ3, W K Gb H0 ρ3 σ3 H3 ∧ Beh K Wx G0 H0 D (forGo step rest ρ3), bk := D.nx } (step x ρ') := by
          rw [forGo] at hB2
          cases q : step x ρ' with
          | next ρ3 => rw [q] at hB2; exact fun σ H w => ⟨ρ3, w, hB2⟩
          | cont ρ3 => rw [q] at hB2; exact fun σ H w => ⟨ρ3, w, hB2⟩
          | brk ρ3 => rw [q] at hB2; exact fun σ H w => hB2 σ H (W.rebase sb w)
          | ret d => rw [q] at hB2; exact fun v H ⟨G, s, r⟩ => hB2 v H ⟨G, sb.base s, r⟩
          | exc ρ3 c ys => rw [q] at hB2; exact fun σ H cls dd w x => hB2 σ H cls dd (W.rebase sb w) x
          | stuck => rw [q] at hB2; exact hB2.elim
        obtain ⟨ρ2, hb, ht⟩ := hbody x ρ' Gb _ hbeh
        exact (S2.mono s3).bind (s2.trans s3) rx hb _ fun σ3 w3 => ht σ3 H3 w3
  subst hz
  cases b with
  | true =>
    refine hi _ σ H (S.env zAll) (S.openStep s zAll).gh _ fun J G1 H1 t wk => ?_
    obtain ⟨G', s', S', _⟩ := S.closeN s t
    exact main J G' H1 ρ (wBase true G1) s' S' wk (.of fun a o h => by unfold wBase at h; rw [if_pos rfl] at h; cases h) hB
  | false =>
    refine hi _ σ H (S.env (zOf fz)) (S.openStep s (zOf fz)).gh _ fun J G1 H1 t wk => ?_
    obtain ⟨s', S'⟩ := S.closeF s fz t
    exact main J G1 H1 (frz fz ρ) (wBase false G1) s' S' wk wBase_ex hB
theorem s_while {K : PySem.W.Frag} {Wx : WX} {G0 H0 : Hp} {D : Ends} {tc : TT} {tb : TS} {cond : Env → R Bool} {step : Env → RS}
    (hc : ∀ ρ t, cond ρ = .ok t → EvT K tc zAll ρ t) (hbody : ∀ (ρ' : Env) (D' : Ends), Beh K Wx G0 H0 D' (step ρ') → ∀ σ2 H2, W K G0 H0 ρ' σ2 H2 → tb D' σ2 H2) {n : Nat} {ρ : Env} {σ : L2.St} {H : Hp}
    (w : W K G0 H0 ρ σ H) (hB : Beh K Wx G0 H0 D (whlGo cond step n ρ)) : tWhile tc tb D σ H := by
  refine ⟨fun m σ H => ∃ ρ, W K G0 H0 ρ σ H ∧ Beh K Wx G0 H0 D (whlGo cond step m ρ), ⟨n, ρ, w, hB⟩, ?_⟩
  rintro m σ2 H2 ⟨ρ2, w2, hB2⟩
  cases m with
  | zero => exact hB2.elim
  | succ m =>
    rw [whlGo] at hB2
    obtain ⟨t, h1, hB2⟩ := hB2.of
    refine w2.test (hc ρ2 t h1) fun H3 w3 => ?_
    cases t with
    | false => exact hB2 σ2 H3 w3
    | true =>
      refine ⟨fun σ' H' => ∃ ρ', W K G0 H0 ρ' σ' H' ∧ Beh K Wx G0 H0 D (whlGo cond step m ρ'), fun σ' H' ⟨ρ', a, b⟩ => ⟨m, Nat.lt_succ_self _, ρ', a, b⟩, hbody ρ2 _ ?_ σ2 H3 w3⟩
      simp only [if_true] at hB2
      cases q : step ρ2 with
      | next ρ3 => rw [q] at hB2; exact fun σ H w => ⟨ρ3, w, hB2⟩
      | cont ρ3 => rw [q] at hB2; exact fun σ H w => ⟨ρ3, w, hB2⟩
      | brk ρ3 => rw [q] at hB2; exact fun σ H w => hB2 σ H w
      | ret d => rw [q] at hB2; exact fun v H h => hB2 v H h
      | exc ρ3 c ys => rw [q] at hB2; exact fun σ H cls dd w x => hB2 σ H cls dd w x
      | stuck => rw [q] at hB2; exact hB2.elim

theorem CxS.nmLoc {X : Cx} (C : CxS N Cs gl F sc X) : ∀ x, locB sc x = true → Loc X.env.scope x ∧ (X.fn x = true ∨ X.env.scope.names.lookup x = some .local) := fun x h => by
  rw [C.c.hsc]
  exact ⟨loc_or h, .inl (C.fn x)⟩
theorem getOwn_some {ρ : Env} {i : Nat} {ds : List D} (h : getOwn ρ i = some ds) : ρ[i]? = some (.own ds) := by
  unfold getOwn at h
  split at h
  · rename_i q; cases h; exact q
  · cases h

/-! ### single statements -/
section
variable {K : PySem.W.Frag} {G0 H0 : Hp} {E : Ends} {te tk : TE} {z : Nat → Bool} {ρ : Env} {σ : L2.St} {H : Hp} {d : D} {ds : List D} {i : Nat} {fz : List Nat}
theorem W.isOwn (w : W K G0 H0 ρ σ H) (ho : ρ[i]? = some (.own ds)) : ∃ p vs, σ[i]? = some (some (.ref p)) ∧ H p = some (.lst vs) := by
  obtain ⟨G, s, S⟩ := w
  obtain ⟨p, vs, e, _, _, hp, _⟩ := S.own i ds ho
  exact ⟨p, vs, e, hp⟩
theorem tyLst {p : Addr} {vs : List V} (hp : H p = some (.lst vs)) : tyV K "list" (.ref p) H := .inl ⟨rfl, vs, .of hp⟩
theorem s_app (w : W K G0 H0 ρ σ H) (ho : ρ[i]? = some (.own ds)) (h : EvD K te zAll ρ d) (hd : d.nol = true) (hl : ds.length < line) (q : ∀ H', W K G0 H0 (ρ.set i (.own (ds ++ [d]))) σ H' → E.nx σ H') :
    tDrop (tBM K "list" rAppend (tVar i) (tCons te tNil)) E σ H := by
  obtain ⟨p, vs, e, hp⟩ := w.isOwn ho
  refine ⟨.ref p, e, tyLst hp, ?_⟩
  refine w.nol h hd fun v G' H' s' S' r => ?_
  obtain ⟨p', vs', e', n0, n, hp', r'⟩ := S'.own i ds ho
  rw [e] at e'
  cases e'
  obtain ⟨s2, S2⟩ := S'.mutate s' ho e hp' (r'.app (Reps.one r))
  exact ⟨p, vs', v, rfl, rfl, hp', by rw [r'.len, sizeLine_eq]; exact hl, q _ ⟨G', s2, S2⟩⟩
theorem s_appL (w : W K G0 H0 ρ σ H) (ho : (frz fz ρ)[i]? = some (.own ds)) (h : EvD K te (zOf fz) ρ d) (hl : ds.length < line) (q : ∀ H', W K G0 H0 ((frz fz ρ).set i (.own (ds ++ [d]))) σ H' → E.nx σ H') :
    tDrop (tBM K "list" rAppend (tVar i) (tCons te tNil)) E σ H := by
  have ho1 : ∃ es, ρ[i]? = some (.own es) := by
    rw [frz_get] at ho
    cases q : ρ[i]? with
    | none => rw [q] at ho; cases ho
    | some sl =>
      rw [q] at ho
      cases sl with
      | no => cases ho
      | val d' => cases ho
      | own es => exact ⟨es, rfl⟩
  obtain ⟨es, ho1⟩ := ho1
  obtain ⟨p, vs, e, hp⟩ := w.isOwn ho1
  refine ⟨.ref p, e, tyLst hp, ?_⟩
  refine w.any h fun v G' H' s' S' r => ?_
  obtain ⟨p', vs', e', n0, n, hp', r'⟩ := S'.own i ds ho
  rw [e] at e'
  cases e'
  obtain ⟨s2, S2⟩ := S'.mutate s' ho e hp' (r'.app (Reps.one r))
  exact ⟨p, vs', v, rfl, rfl, hp', by rw [r'.len, sizeLine_eq]; exact hl, q _ ⟨G', s2, S2⟩⟩
theorem s_ext {es : List D} (w : W K G0 H0 ρ σ H) (ho : (frz fz ρ)[i]? = some (.own ds)) (h : EvD K te (zOf fz) ρ (.lst es)) (hl : ds.length + es.length ≤ line) (q : ∀ H', W K G0 H0 ((frz fz ρ).set i (.own (ds ++ es))) σ H' → E.nx σ H') :
    tDrop (tBM K "list" rExtend (tVar i) (tCons te tNil)) E σ H := by
  have ho1 : ∃ es, ρ[i]? = some (.own es) := by
    rw [frz_get] at ho
    cases q : ρ[i]? with
    | none => rw [q] at ho; cases ho
    | some sl =>
      rw [q] at ho
      cases sl with
      | no => cases ho
      | val d' => cases ho
      | own es => exact ⟨es, rfl⟩
  obtain ⟨_, ho1⟩ := ho1
  obtain ⟨p, vs, e, hp⟩ := w.isOwn ho1
  refine ⟨.ref p, e, tyLst hp, ?_⟩
  refine w.any h fun v G' H' s' S' r => ?_
  obtain ⟨b, ys, rfl, hb, rb⟩ := r
  obtain ⟨p', vs', e', n0, n, hp', r'⟩ := S'.own i ds ho
  rw [e] at e'
  cases e'
  obtain ⟨s2, S2⟩ := S'.mutate s' ho e hp' (r'.app rb)
  exact ⟨p, b, vs', ys, rfl, rfl, hp', s'.gh.at hb rfl, by rw [r'.len, rb.len, sizeLine_eq]; exact hl, q _ ⟨G', s2, S2⟩⟩
theorem dropLast_eq {α : Type} (l : List α) : l.dropLast = l.take (l.length - 1) := by
  rw [List.dropLast_eq_take]
theorem s_pop (w : W K G0 H0 ρ σ H) (ho : ρ[i]? = some (.own ds)) (hl : 0 < ds.length) (q : ∀ H', W K G0 H0 (ρ.set i (.own ds.dropLast)) σ H' → E.nx σ H') :
    tDrop (tBM0 K "list" rPop (tVar i)) E σ H := by
  obtain ⟨G, s, S⟩ := w
  obtain ⟨p, vs, e, n0, n, hp, r⟩ := S.own i ds ho
  refine ⟨.ref p, e, tyLst hp, ?_⟩
  have hlen : vs.length - 1 < vs.length := by rw [r.len]; omega
  have hr : Reps K G ds.dropLast vs.dropLast := by
    rw [dropLast_eq, dropLast_eq, r.len]
    exact r.take _
  obtain ⟨s2, S2⟩ := S.mutate s ho e hp hr
  exact ⟨p, vs, vs[vs.length - 1], rfl, rfl, hp, List.getElem?_eq_getElem hlen, q _ ⟨G, s2, S2⟩⟩
theorem Reps.setAt {K : PySem.W.Frag} {G : Hp} : ∀ {ds : List D} {vs : List V} (j : Nat) {d : D} {v : V}, Reps K G ds vs → Rep K G d v → Reps K G (ds.set j d) (vs.set j v)
  | [], _, _, _, _, h, _ => by cases h; rfl
  | _ :: _, _, 0, _, v, ⟨y, ys, e, h, r⟩, hv => by subst e; exact ⟨v, ys, rfl, hv, r⟩
  | _ :: _, _, j + 1, _, v, ⟨y, ys, e, h, r⟩, hv => by subst e; exact ⟨y, _, rfl, h, Reps.setAt j r hv⟩
theorem s_setx {n : Int} {j : Nat} (w : W K G0 H0 ρ σ H) (ho : ρ[i]? = some (.own ds)) (h : EvD K te zAll ρ d) (hk : EvD K tk zAll ρ (.int n)) (hj : Pv.ixN ds.length n = some j) (hd : d.nol = true) (q : ∀ H', W K G0 H0 (ρ.set i (.own (ds.set j d))) σ H' → E.nx σ H') :
    tAsg te (gSub (tVar i) tk rSetL) E σ H := by
  obtain ⟨G, s, S⟩ := w
  refine h _ σ H (S.env zAll) (S.openStep s zAll).gh _ fun v G1 H1 t r => ?_
  obtain ⟨G', s', S', kn, _, _, _, _⟩ := S.closeN s t
  have rv := kn d v hd r
  obtain ⟨p, vs, e, n0, nn, hp, rr⟩ := S'.own i ds ho
  refine ⟨.ref p, e, ?_⟩
  refine hk _ σ H1 (S'.env zAll) (S'.openStep s' zAll).gh _ fun u G2 H2 t2 r2 => ?_
  obtain ⟨G3, s3, S3, _, _, _, _, ex3⟩ := S'.closeN s' t2
  cases (show u = V.int n from r2)
  obtain ⟨p', vs', e', n0', nn', hp', rr'⟩ := S3.own i ds ho
  rw [e] at e'
  cases e'
  obtain ⟨s4, S4⟩ := S3.mutate s3 ho e hp' (rr'.setAt j (rv.ex ex3))
  exact ⟨p, vs', n, j, rfl, rfl, hp', by rw [rr'.len]; exact hj, q _ ⟨G3, s4, S4⟩⟩
end
end
end Pv

end
section
/-! Ev11: all statements. -/
namespace Pv
open PySem PySem.Spec PyProof.Rows L2
variable [Tabs]
section
variable {N Cs : List Str} {gl : List (Str × GC)} {F : List (List D → R D)} {sc : Scope}
theorem CxS.loc (C : CxS N Cs gl F sc X) {x : Str} (h : locB sc x = true) : Loc X.env.scope x := (C.nmLoc x h).1
theorem chk_asub {ie : IE} {o e : Expr} {pos : Pos} {env : PySem.Env} (h : chkE N Cs gl sc ie e = true) : ∀ v, assign (.Subscript o e pos) env v = (do
      let ov ← holding [v] (eval o env)
      let iv ← holding [v, ov] (eval e env)
      standAt pos
      holding [v, ov, iv] (setItem ov iv v)
      release [v, ov, iv] []) := by
  cases e <;> first | (intro _; rfl) | (cases ie <;> simp [chkE] at h)
theorem chk_swapS {ie : IE} {e : Expr} (h : chkE N Cs gl sc ie e = true) (hl : isLC e = false) (tg : Expr) (l : Nat) (env : PySem.Env) : swapsWithSole [tg] e l env = pure false := by
  cases e <;> first | rfl | (simp [isLC] at hl; done) | (cases ie <;> simp [chkE] at h)
theorem wS_of {X : Cx} {st : Stmt} {t : TS} {E : Ends} {σ : L2.St} {H : Hp} (p : PS X st t) (h : t E σ H) : wS X st E σ H := fun pins s I => p.run pins s σ H E I h
theorem wSs_of {X : Cx} {st : List Stmt} {t : TS} {E : Ends} {σ : L2.St} {H : Hp} (p : PSs X st t) (h : t E σ H) : wSs X st E σ H := fun pins s I => p.run pins s σ H E I h
theorem par_sw {X : Cx} {x y : Str} {px py pt pt2 : Pos} {kt k2 : Nat} {u w : Expr} (hk : X.env.scope.kind = .function) (h1 : X.env.scope.names.lookup x = some .local) (h2 : X.env.scope.names.lookup y = some .local) (hxy : x ≠ y) (hl : px.line = py.line)
    (n1 : (foldedForSure 8 u && foldedForSure 8 w) = false) (n2 : (constantsAlone 8 u && constantsAlone 8 w) = false) (s1 : isStar u = false) (s2 : isStar w = false) :
    swappedStores [.Tuple [.Name x px, .Name y py] kt pt] (.Tuple [u, w] k2 pt2) X.env = pure (some [x, y]) := by
  have hb : X.env.blockKind = .function := by unfold Env.blockKind; rw [hk]; rfl
  have k1 : X.env.kindOf x = some .local := h1
  have k2 : X.env.kindOf y = some .local := h2
  have f1 : ([u, w].all (foldedForSure 8)) = false := by
    rw [← n1]; simp
  have f2 : ([u, w].all (constantsAlone 8)) = false := by
    rw [← n2]; simp
  have f3 : ([u, w].any fun | .Starred .. => true | _ => false) = false := by
    show ([u, w].any isStar) = false
    simp [s1, s2]
  have e1 : (px.line == px.line) = true := by simp
  have e2 : (py.line == px.line) = true := by rw [hl]; simp
  have hd : [x, y].eraseDups.length = 2 := by
    have : (y == x) = false := by
      rw [beq_eq_false_iff_ne]; exact fun e => hxy e.symm
    simp [List.eraseDups_cons, List.filter_cons, this]
  unfold swappedStores
  simp only [Expr.pos, List.head?, Option.map, Option.getD, List.filterMap_cons, List.filterMap_nil, k1, k2, e1, e2, f1, f2, hb]
  simp
  rw [if_neg (by
    rintro (h | h)
    · cases u <;> first | (cases s1; done) | (cases h; done)
    · cases w <;> first | (cases s2; done) | (cases h; done)), if_pos hd]
theorem chkX_swap {x : XE} {e : Expr} (h : chkX N Cs gl sc x e = true) (tg : Option Expr) (l : Nat) (env : PySem.Env) : swapsWith e tg l env = pure false := by
  cases e <;> first | rfl | (cases x <;> simp [chkX] at h)
theorem chkX_swapS {x : XE} {e : Expr} (h : chkX N Cs gl sc x e = true) (tg : Expr) (l : Nat) (env : PySem.Env) : swapsWithSole [tg] e l env = pure false := by
  cases e <;> first | rfl | (cases x <;> simp [chkX] at h)
theorem chkX_star {x : XE} {e : Expr} (h : chkX N Cs gl sc x e = true) : isStar e = false := by
  cases e <;> first | rfl | (cases x <;> simp [chkX] at h)
theorem chkX_stores {x : XE} {e : Expr} {ts : List Expr} {k : Nat} {p : Pos} (h : chkX N Cs gl sc x e = true) (env : PySem.Env) : swappedStores [.Tuple ts k p] e env = pure none := by
  cases e <;> first | rfl | (cases x <;> simp [chkX] at h)
mutual
theorem okS : ∀ (st : IS) {X : Cx} {Wx : WX} (tk : L2N.Takes X Wx) (C : CxS N Cs gl F sc X) {s : Stmt}, chkS N Cs gl sc st s = true → ∀ (G0 H0 : Hp) (E : Ends) (ρ : Env), Beh X.K Wx G0 H0 E (evS F st ρ) → ∀ σ H, W X.K G0 H0 ρ σ H → wS X s E σ H
  | .asg i e fz, X, Wx, tk, C, s, h, G0, H0, E, ρ, hB, σ, H, w => by
    revert h
    simp only [chkS]
    split
    · rename_i x py v pos
      intro h
      simp only [Bool.and_eq_true, Bool.not_eq_true', chkNm, decide_eq_true_eq] at h
      obtain ⟨⟨⟨hi, hl⟩, hlc⟩, hc⟩ := h
      rw [evS] at hB
      obtain ⟨d, h1, hB⟩ := hB.of
      refine wS_of (ps_set (i := i) (by rw [C.c.hN]; exact C.c.nd) (by rw [C.c.hN]; exact hi) (C.loc hl) (peW v) (chk_swap hc hlc _ _ _) (.inl (C.fn x))) ?_
      exact w.kept ((okE e C.c hc).1.1 d h1) fun u G' H' s' S' r => hB _ H' ⟨G', s', S'.setVal r⟩
    · intro h; cases h
  | .asgL i e fz, X, Wx, tk, C, s, h, G0, H0, E, ρ, hB, σ, H, w => by
    revert h
    simp only [chkS]
    split
    · rename_i x py v pos
      intro h
      simp only [Bool.and_eq_true, Bool.not_eq_true', chkNm, decide_eq_true_eq] at h
      obtain ⟨⟨⟨hi, hl⟩, hf⟩, hc⟩ := h
      rw [evS] at hB
      obtain ⟨d, h1, hB⟩ := hB.of
      cases d with
      | lst ds =>
        have en := (okE e C.c hc).2 hf ds h1
        have hN : X.N.Nodup := by rw [C.c.hN]; exact C.c.nd
        have hi' : X.N[i]? = some x := by rw [C.c.hN]; exact hi
        by_cases hlc : isLC v = true
        · cases v with
          | ListComp elt gs scope p2 =>
            have hk : X.env.scope.kind = .function := by rw [C.c.hsc]; exact C.kind
            rcases sw_lc (elt := elt) (gs := gs) (scope := scope) (pos := p2) (py := py) (y := x) (l := pos.line) (env := X.env) hk with ⟨hsw, hy⟩ | hsw
            · obtain ⟨te, ps, q5⟩ := comp_ps C.c hc h1
              refine wS_of (ps hi' hy hsw) ?_
              exact w.new q5 i fun p H' w' => hB _ H' w'
            · refine wS_of (ps_set (i := i) hN hi' (C.loc hl) (peW _) hsw (.inl (C.fn x))) ?_
              exact w.new en i fun p H' w' => hB _ H' w'
          | _ => cases hlc
        · refine wS_of (ps_set (i := i) hN hi' (C.loc hl) (peW v) (chk_swap hc (by simpa using hlc) _ _ _) (.inl (C.fn x))) ?_
          exact w.new en i fun p H' w' => hB _ H' w'
      | _ => exact hB.elim
    · intro h; cases h
  | .unp is e fz, X, Wx, tk, C, s, h, G0, H0, E, ρ, hB, σ, H, w => by
    revert h
    simp only [chkS]
    split
    · rename_i ts k p v pos
      intro h
      simp only [Bool.and_eq_true, Bool.not_eq_true'] at h
      obtain ⟨⟨⟨ht, hlc⟩, hnt⟩, hc⟩ := h
      rw [evS] at hB
      obtain ⟨d, h1, hB⟩ := hB.of
      cases d with
      | tup ds =>
        obtain ⟨ρ', h2, hB⟩ := hB.ofO
        obtain ⟨q1, q2⟩ := tgs_each (Y := X) ht
        refine wS_of (ps_asg (peW v) (pg_tup (k := k) (pos := p) C.c.calm (pgs_of C.c.hN C.c.nd C.nmLoc ht) q1 q2) (chk_swapS hc hlc _ _ _) (chk_stores hc hnt _) rfl) ?_
        refine w.kept ((okE e C.c hc).1.1 _ h1) fun u G' H' s' S' r => ?_
        exact S'.bind s' (tg := .many is) r h2 _ fun σ' w' => hB σ' H' w'
      | _ => exact hB.elim
    · intro h; cases h
  | .unpL is e fz, X, Wx, tk, C, s, h, G0, H0, E, ρ, hB, σ, H, w => by
    revert h
    simp only [chkS]
    split
    · rename_i ts k p v pos
      intro h
      simp only [Bool.and_eq_true, Bool.not_eq_true'] at h
      obtain ⟨⟨ht, hnt⟩, hc⟩ := h
      rw [evS] at hB
      obtain ⟨d, h1, hB⟩ := hB.of
      cases d with
      | lst ds =>
        obtain ⟨ρ', h2, hB⟩ := hB.ofO
        obtain ⟨q1, q2⟩ := tgs_each (Y := X) ht
        refine wS_of (ps_asg (peW v) (pg_lst (k := k) (pos := p) C.c.calm (pgs_of C.c.hN C.c.nd C.nmLoc ht) q1 q2) (by cases v <;> rfl) (chk_stores hc hnt _) rfl) ?_
        refine w.kept ((okE e C.c hc).1.1 _ h1) fun u G' H' s' S' r => ?_
        obtain ⟨a, xs, rfl, hs, hr⟩ := r
        refine ⟨a, xs, rfl, .of (s'.gh.at hs rfl), ?_, W.setAll hr h2 S' _ fun σ' S2 => hB σ' H' ⟨G', s', S2⟩⟩
        rw [hr.len, setAll_len h2]
      | _ => exact hB.elim
    · intro h; cases h
  | .ext i e fz, X, Wx, tk, C, s, h, G0, H0, E, ρ, hB, σ, H, w => by
    revert h
    simp only [chkS]
    split
    · rename_i x px m ap v pos p2
      intro h
      simp only [Bool.and_eq_true, decide_eq_true_eq] at h
      obtain ⟨⟨⟨⟨⟨rfl, hi⟩, hv⟩, hn⟩, hl⟩, hc⟩ := h
      rw [evS] at hB
      obtain ⟨d, h1, hB⟩ := hB.of
      cases d with
      | lst es =>
        obtain ⟨ds, h2, hB⟩ := hB.ofO
        by_cases hh : ds.length + es.length ≤ line
        · rw [if_pos hh] at hB
          refine wS_of (ps_expr (pe_bm PySem.F.plainAttrs_list PySem.F.slot_list_extend PySem.F.type_list_extend mt_extend (pe_var (i := i) (by rw [C.c.hN]; exact hi) (C.c.vis hv) (nm1 hn) (nm2 hn)) (pa_cons (peW v) pa_nil (star1 (chk_star hc))) rfl
            (by rw [star1 (chk_star hc)]; rfl) hl (star1 (chk_star hc)) rfl) rfl) ?_
          exact s_ext w (getOwn_some h2) ((okE e C.c hc).1.1 _ h1) hh fun H' w' => hB _ H' w'
        · rw [if_neg hh] at hB
          exact hB.elim
      | _ => exact hB.elim
    · intro h; cases h
  | .unpG tg e fz, X, Wx, tk, C, s, h, G0, H0, E, ρ, hB, σ, H, w => by
    revert h
    simp only [chkS]
    split
    · rename_i ts k p v pos
      intro h
      simp only [Bool.and_eq_true, Bool.not_eq_true'] at h
      obtain ⟨⟨⟨ht, hlc⟩, hnt⟩, hc⟩ := h
      rw [evS] at hB
      obtain ⟨d, h1, hB⟩ := hB.of
      obtain ⟨ρ', h2, hB⟩ := hB.ofO
      refine wS_of (ps_asg (peW v) (pg_of C.c.hN C.c.nd C.c.calm C.nmLoc ht) (chk_swapS hc hlc _ _ _) (chk_stores hc hnt _) rfl) ?_
      refine w.kept ((okE e C.c hc).1.1 _ h1) fun u G' H' s' S' r => ?_
      exact S'.bind s' (tg := tg) r h2 _ fun σ' w' => hB σ' H' w'
    · intro h; cases h
  | .par i j a b fz, X, Wx, tk, C, s, h, G0, H0, E, ρ, hB, σ, H, w => by
    revert h
    simp only [chkS, chkPar]
    split
    · rename_i x px y py kt pt u v k2 pt2 pos
      intro h
      simp only [Bool.and_eq_true, Bool.not_eq_true', decide_eq_true_eq, beq_iff_eq] at h
      obtain ⟨⟨⟨⟨⟨⟨⟨⟨⟨⟨hi, hj⟩, hij⟩, hxy⟩, hx⟩, hy⟩, hl⟩, n1⟩, n2⟩, ha⟩, hb⟩ := h
      rw [evS] at hB
      obtain ⟨x1, h1, hB⟩ := hB.of
      obtain ⟨x2, h2, hB⟩ := hB.of
      have hN : X.N.Nodup := by rw [C.c.hN]; exact C.c.nd
      have hsx : X.env.scope.names.lookup x = some .local := by rw [C.c.hsc]; exact hx
      have hsy : X.env.scope.names.lookup y = some .local := by rw [C.c.hsc]; exact hy
      refine wS_of (ps_par C.c.calm hN (by rw [C.c.hN]; exact hi) (by rw [C.c.hN]; exact hj) hij hsx hsy
        (pa_cons (peW u) (pa_cons (peW v) pa_nil (star1 (chk_star hb))) (star1 (chk_star ha)))
        (par_sw (by rw [C.c.hsc]; exact C.kind) hsx hsy hxy hl n1 n2 (chk_star ha) (chk_star hb))) ?_
      refine w.args (ea_cons ((okE a C.c ha).1.1 x1 h1) (ea_cons ((okE b C.c hb).1.1 x2 h2) ea_nil)) fun vs G' H' s' S' r => ?_
      obtain ⟨v1, v2, rfl, r1, r2⟩ := reps2 r
      exact ⟨v1, v2, rfl, hB _ H' ⟨G', s', (S'.setVal r1).setVal r2⟩⟩
    · intro h; cases h
  | .app i e, X, Wx, tk, C, s, h, G0, H0, E, ρ, hB, σ, H, w => by
    revert h
    simp only [chkS]
    split
    · rename_i x px m ap v pos p2
      intro h
      simp only [Bool.and_eq_true, decide_eq_true_eq] at h
      obtain ⟨⟨⟨⟨⟨rfl, hi⟩, hv⟩, hn⟩, hl⟩, hc⟩ := h
      rw [evS] at hB
      obtain ⟨d, h1, hB⟩ := hB.of
      obtain ⟨ds, h2, hB⟩ := hB.ofO
      by_cases hh : ds.length < line ∧ d.nol = true
      · rw [if_pos hh] at hB
        refine wS_of (ps_expr (pe_bm PySem.F.plainAttrs_list PySem.F.slot_list_append PySem.F.type_list_append mt_append (pe_var (i := i) (by rw [C.c.hN]; exact hi) (C.c.vis hv) (nm1 hn) (nm2 hn)) (pa_cons (peW v) pa_nil (star1 (chk_star hc))) rfl
          (by rw [star1 (chk_star hc)]; rfl) hl (star1 (chk_star hc)) rfl) rfl) ?_
        exact s_app w (getOwn_some h2) ((okE e C.c hc).1.1 d h1) hh.2 hh.1 fun H' w' => hB _ H' w'
      · rw [if_neg hh] at hB
        exact hB.elim
    · intro h; cases h
  | .appL i e fz, X, Wx, tk, C, s, h, G0, H0, E, ρ, hB, σ, H, w => by
    revert h
    simp only [chkS]
    split
    · rename_i x px m ap v pos p2
      intro h
      simp only [Bool.and_eq_true, decide_eq_true_eq] at h
      obtain ⟨⟨⟨⟨⟨rfl, hi⟩, hv⟩, hn⟩, hl⟩, hc⟩ := h
      rw [evS] at hB
      obtain ⟨d, h1, hB⟩ := hB.of
      obtain ⟨ds, h2, hB⟩ := hB.ofO
      by_cases hh : ds.length < line
      · rw [if_pos hh] at hB
        refine wS_of (ps_expr (pe_bm PySem.F.plainAttrs_list PySem.F.slot_list_append PySem.F.type_list_append mt_append (pe_var (i := i) (by rw [C.c.hN]; exact hi) (C.c.vis hv) (nm1 hn) (nm2 hn)) (pa_cons (peW v) pa_nil (star1 (chk_star hc))) rfl
          (by rw [star1 (chk_star hc)]; rfl) hl (star1 (chk_star hc)) rfl) rfl) ?_
        exact s_appL w (getOwn_some h2) ((okE e C.c hc).1.1 d h1) hh fun H' w' => hB _ H' w'
      · rw [if_neg hh] at hB
        exact hB.elim
    · intro h; cases h
  | .popx i, X, Wx, tk, C, s, h, G0, H0, E, ρ, hB, σ, H, w => by
    revert h
    simp only [chkS]
    split
    · rename_i x px m ap pos p2
      intro h
      simp only [Bool.and_eq_true, decide_eq_true_eq] at h
      obtain ⟨⟨⟨⟨rfl, hi⟩, hv⟩, hn⟩, hl⟩ := h
      rw [evS] at hB
      obtain ⟨ds, h2, hB⟩ := hB.ofO
      by_cases hh : 0 < ds.length
      · rw [if_pos hh] at hB
        refine wS_of (ps_expr (pe_bm0 PySem.F.plainAttrs_list PySem.F.slot_list_pop PySem.F.type_list_pop mt_pop (pe_var (i := i) (by rw [C.c.hN]; exact hi) (C.c.vis hv) (nm1 hn) (nm2 hn)) rfl hl) rfl) ?_
        exact s_pop w (getOwn_some h2) hh fun H' w' => hB _ H' w'
      · rw [if_neg hh] at hB
        exact hB.elim
    · intro h; cases h
  | .setx i k e, X, Wx, tk, C, s, h, G0, H0, E, ρ, hB, σ, H, w => by
    revert h
    simp only [chkS]
    split
    · rename_i x px kx p2 v pos
      intro h
      simp only [Bool.and_eq_true, decide_eq_true_eq, Bool.not_eq_true'] at h
      obtain ⟨⟨⟨⟨⟨hi, hv⟩, hn⟩, hlc⟩, hk⟩, hc⟩ := h
      rw [evS] at hB
      obtain ⟨d, h1, hB⟩ := hB.of
      obtain ⟨kd, h3, hB⟩ := hB.of
      obtain ⟨ds, h2, hB⟩ := hB.ofO
      cases kd with
      | int n =>
        obtain ⟨j, h4, hB⟩ := hB.ofO
        by_cases hh : d.nol = true
        · rw [if_pos hh] at hB
          refine wS_of (ps_asg (peW v) (pg_sub (pe_var (i := i) (by rw [C.c.hN]; exact hi) (C.c.vis hv) (nm1 hn) (nm2 hn)) (peW kx) set_list (chk_asub hk)) (chk_swapS hc hlc _ _ _) rfl rfl) ?_
          exact s_setx w (getOwn_some h2) ((okE e C.c hc).1.1 d h1) ((okE k C.c hk).1.1 _ h3) h4 hh fun H' w' => hB _ H' w'
        · rw [if_neg hh] at hB
          exact hB.elim
      | _ => exact hB.elim
    · intro h; cases h
  | .expr e, X, Wx, tk, C, s, h, G0, H0, E, ρ, hB, σ, H, w => by
    revert h
    simp only [chkS]
    split
    · rename_i v pos
      intro h
      simp only [Bool.and_eq_true, Bool.not_eq_true'] at h
      obtain ⟨hlc, hc⟩ := h
      rw [evS] at hB
      obtain ⟨d, h1, hB⟩ := hB.of
      refine wS_of (ps_expr (peW v) (chk_swap hc hlc _ _ _)) ?_
      exact w.drop ((okE e C.c hc).1.1 d h1) fun u H' w' => hB σ H' w'
    · intro h; cases h
  | .ret e fz, X, Wx, tk, C, s, h, G0, H0, E, ρ, hB, σ, H, w => by
    revert h
    simp only [chkS]
    split
    · rename_i v pos
      intro hc
      rw [evS] at hB
      obtain ⟨d, h1, hB⟩ := hB.of
      refine wS_of (ps_ret (peW v)) ?_
      exact w.any ((okE e C.c hc).1.1 d h1) fun u G' H' s' S' r => hB u H' ⟨G', s', r⟩
    · intro h; cases h
  | .retN, X, Wx, tk, C, s, h, G0, H0, E, ρ, hB, σ, H, w => by
    revert h
    simp only [chkS]
    split
    · intro _
      rw [evS] at hB
      obtain ⟨G, s', S'⟩ := w
      exact wS_of ps_retN (hB _ H ⟨G, s', rfl⟩)
    · intro h; cases h
  | .ite c a b, X, Wx, tk, C, s, h, G0, H0, E, ρ, hB, σ, H, w => by
    revert h
    simp only [chkS]
    split
    · rename_i c' a' b' pos
      intro h
      simp only [Bool.and_eq_true] at h
      obtain ⟨⟨⟨hc, ht⟩, ha⟩, hb⟩ := h
      rw [evS] at hB
      obtain ⟨t, h1, hB⟩ := hB.of
      refine wS_of (ps_if (ptW c') (pssW a') (pssW b')) ?_
      refine w.test ((okE c C.c hc).1.2 ht t h1) fun H' w' => ?_
      cases t with
      | true => exact okSs a tk C ha G0 H0 E ρ hB σ H' w'
      | false => exact okSs b tk C hb G0 H0 E ρ hB σ H' w'
    · intro h; cases h
  | .forr it tg body fz, X, Wx, tk, C, s, h, G0, H0, E, ρ, hB, σ, H, w => by
    revert h
    simp only [chkS]
    split
    · rename_i t i b pos
      intro h
      simp only [Bool.and_eq_true] at h
      obtain ⟨⟨hi, ht⟩, hb⟩ := h
      rw [evS] at hB
      obtain ⟨xs, h1, hB⟩ := hB.of
      obtain ⟨wi, p1, v1⟩ := okI it C.c hi xs h1
      refine wS_of (ps_for C.pass C.c.calm p1 (pg_of C.c.hN C.c.nd C.c.calm C.nmLoc ht) (pssW b) fun x => chkI_folded hi _ x) ?_
      refine s_for (b := isRng it) (fz := fz) rfl v1 (fun x ρ' Gb D' hx => ?_) w hB
      obtain ⟨ρ2, g1, hx⟩ := hx.ofO
      exact ⟨ρ2, g1, fun σ2 H2 w2 => okSs body tk C hb Gb H0 D' ρ2 hx σ2 H2 w2⟩
    · intro h; cases h
  | .whl c body n, X, Wx, tk, C, s, h, G0, H0, E, ρ, hB, σ, H, w => by
    revert h
    simp only [chkS]
    split
    · rename_i c' b pos
      intro h
      simp only [Bool.and_eq_true] at h
      obtain ⟨⟨hc, ht⟩, hb⟩ := h
      rw [evS] at hB
      refine wS_of (ps_while C.pass (ptW c') (pssW b)) ?_
      exact s_while (cond := fun ρ' => (evE F zAll ρ' c).bind tst) (step := fun ρ' => evSs F body ρ') (fun ρ' t h1 => (okE c C.c hc).1.2 ht t h1) (fun ρ' D' hx σ2 H2 w2 => okSs body tk C hb G0 H0 D' ρ' hx σ2 H2 w2) w hB
    · intro h; cases h
  | .brk, X, Wx, tk, C, s, h, G0, H0, E, ρ, hB, σ, H, w => by
    revert h
    simp only [chkS]
    split
    · intro _
      rw [evS] at hB
      exact wS_of ps_break (hB σ H w)
    · intro h; cases h
  | .cont, X, Wx, tk, C, s, h, G0, H0, E, ρ, hB, σ, H, w => by
    revert h
    simp only [chkS]
    split
    · intro _
      rw [evS] at hB
      exact wS_of ps_continue (hB σ H w)
    · intro h; cases h
  | .pass, X, Wx, tk, C, s, h, G0, H0, E, ρ, hB, σ, H, w => by
    revert h
    simp only [chkS]
    split
    · intro _
      rw [evS] at hB
      exact wS_of ps_pass (hB σ H w)
    · intro h; cases h
  | .raisN, X, Wx, tk, C, s, h, G0, H0, E, ρ, hB, σ, H, w => by
    rw [evS] at hB
    exact hB.elim
  | .raisE e, X, Wx, tk, C, s, h, G0, H0, E, ρ, hB, σ, H, w => by
    revert h
    simp only [chkS]
    split
    · rename_i x px v p2 p3
      intro h
      simp only [Bool.and_eq_true, decide_eq_true_eq, List.contains_iff_mem] at h
      obtain ⟨⟨⟨rfl, hg⟩, hm⟩, hc⟩ := h
      obtain ⟨⟨fI, T⟩, _, _⟩ := C.ref hm
      obtain ⟨k, hr, _⟩ := C.c.fns
      rw [evS] at hB
      obtain ⟨d, h1, hB⟩ := hB.of
      cases d with
      | str t =>
        refine wS_of (L2N.ps_raise C.c.calm tk (pmk_ref T hr (pa_cons (peW v) pa_nil (star1 (chk_star hc))) (C.c.glN hg) (star1 (chk_star hc)) rfl)) ?_
        refine w.nol ((okE e C.c hc).1.1 _ h1) (by rw [D.nol]) fun u G' H' s' S' r => ?_
        cases (show u = V.str (st t) from r)
        refine ⟨.str (st t), rfl, fun dd hdd => ?_⟩
        have q := Step.newH (o := .xd [(("what" : Str), V.str (st t))]) s'.gh hdd
        exact hB σ _ _ dd ⟨G', s'.trans q, S'.mono q⟩ (.inl ⟨rfl, rfl, t, rfl, upd_same⟩)
      | _ => exact hB.elim
    · intro h; cases h
  | .raisB a b, X, Wx, tk, C, s, h, G0, H0, E, ρ, hB, σ, H, w => by
    revert h
    simp only [chkS]
    split
    · rename_i x px v u p2 p3
      intro h
      simp only [Bool.and_eq_true, decide_eq_true_eq, List.contains_iff_mem] at h
      obtain ⟨⟨⟨⟨rfl, hg⟩, hm⟩, hc⟩, hc2⟩ := h
      obtain ⟨⟨fI, T⟩, _, _⟩ := C.bad hm
      obtain ⟨k, hr, _⟩ := C.c.fns
      rw [evS] at hB
      obtain ⟨d, h1, hB⟩ := hB.of
      obtain ⟨e, h2, hB⟩ := hB.of
      have key : ∃ n t, d = .int n ∧ e = .str t ∧ (0 ≤ n ∧ n < 1000000 ∧ t.length ≤ 100) ∧ Beh X.K Wx G0 H0 E (.exc ρ 1 [.int n, .str t]) := by
        cases d with
        | int n =>
          cases e with
          | str t =>
            have hB : Beh X.K Wx G0 H0 E (if 0 ≤ n ∧ n < 1000000 ∧ t.length ≤ 100 then .exc ρ 1 [.int n, .str t] else .stuck) := hB
            by_cases hh : 0 ≤ n ∧ n < 1000000 ∧ t.length ≤ 100
            · rw [if_pos hh] at hB
              exact ⟨n, t, rfl, rfl, hh, hB⟩
            · rw [if_neg hh] at hB
              exact hB.elim
          | _ => exact hB.elim
        | _ => exact hB.elim
      obtain ⟨n, t, rfl, rfl, hh, hB⟩ := key
      have hsm : Bts.Sml n (st t) := by
        have nb : n.natAbs < 10 ^ 6 := by omega
        refine ⟨?_, by rw [st_len]; omega, ?_⟩
        · have : n.natAbs < 2 ^ 40 := by omega
          have h2 : n.natAbs.log2 < 40 ∨ n.natAbs = 0 := by
            by_cases z : n.natAbs = 0
            · exact .inr z
            · exact .inl ((Nat.log2_lt z).mpr this)
          rcases h2 with h2 | h2
          · omega
          · rw [h2]; decide
        · have := int_text_length_le10 (a := n) (k := 6) (by decide) nb
          rw [st_show, st_len]
          show (showI n).length ≤ 1000
          unfold showI
          rw [List.length_map]
          have e : (toString n).toList.length = (toString n).length := by first | rfl | exact String.length_toList | simp [String.length]
          omega
      refine wS_of (L2N.ps_raise C.c.calm tk (pmk_bad T hr (pa_cons (peW v) (pa_cons (peW u) pa_nil (star1 (chk_star hc2))) (star1 (chk_star hc))) (C.c.glN hg) (star1 (chk_star hc)) (by rw [star1 (chk_star hc2)]; rfl))) ?_
      refine w.nolA (ea_cons ((okE a C.c hc).1.1 _ h1) (ea_cons ((okE b C.c hc2).1.1 _ h2) ea_nil)) (by simp [D.nol, D.nols]) fun vs G2 H2 s2 S2 r2 => ?_
      obtain ⟨y1, vs', rfl, r1, y2, vs2, rfl, r3, rfl⟩ := r2
      cases (show y1 = V.int n from r1)
      cases (show y2 = V.str (st t) from r3)
      refine ⟨n, st t, rfl, hsm, fun dd hdd => ?_⟩
      have q := Step.newH (o := .xd (bfs n (st t))) s2.gh hdd
      exact hB σ _ _ dd ⟨G2, s2.trans q, S2.mono q⟩ (.inr ⟨rfl, rfl, n, t, rfl, upd_same⟩)
    · intro h; cases h
  | .exprX x, X, Wx, tk, C, s, h, G0, H0, E, ρ, hB, σ, H, w => by
    revert h
    simp only [chkS]
    split
    · rename_i v pos
      intro hc
      rw [evS] at hB
      obtain ⟨i1, i2, _⟩ := okX (z := zAll) x C.c tk (ρ := ρ) hc
      refine wS_of (ps_expr (peW v) (chkX_swap hc _ _ _)) ?_
      rcases hB.ofX with ⟨d, h1, hB⟩ | ⟨c, xs, h1, hB⟩
      · exact w.drop (i1 d h1) fun u H' w' => hB σ H' w'
      · exact w.exc (i2 c xs h1) fun cls dd H' w' x' => hB σ H' cls dd w' x'
    · intro h; cases h
  | .asgX i x fz, X, Wx, tk, C, s, h, G0, H0, E, ρ, hB, σ, H, w => by
    revert h
    simp only [chkS]
    split
    · rename_i y py v pos
      intro h
      simp only [Bool.and_eq_true, chkNm, decide_eq_true_eq] at h
      obtain ⟨⟨hi, hl⟩, hc⟩ := h
      rw [evS] at hB
      obtain ⟨i1, i2, _⟩ := okX (z := zOf fz) x C.c tk (ρ := ρ) hc
      refine wS_of (ps_set (i := i) (by rw [C.c.hN]; exact C.c.nd) (by rw [C.c.hN]; exact hi) (C.loc hl) (peW v) (chkX_swap hc _ _ _) (.inl (C.fn y))) ?_
      rcases hB.ofX with ⟨d, h1, hB⟩ | ⟨c, xs, h1, hB⟩
      · exact w.kept (i1 d h1) fun u G' H' s' S' r => hB _ H' ⟨G', s', S'.setVal r⟩
      · exact w.exc (i2 c xs h1) fun cls dd H' w' x' => hB σ H' cls dd w' x'
    · intro h; cases h
  | .unpX is x fz, X, Wx, tk, C, s, h, G0, H0, E, ρ, hB, σ, H, w => by
    revert h
    simp only [chkS]
    split
    · rename_i ts k p v pos
      intro h
      simp only [Bool.and_eq_true] at h
      obtain ⟨ht, hc⟩ := h
      rw [evS] at hB
      obtain ⟨i1, i2, _⟩ := okX (z := zOf fz) x C.c tk (ρ := ρ) hc
      obtain ⟨q1, q2⟩ := tgs_each (Y := X) ht
      refine wS_of (ps_asg (peW v) (pg_tup (k := k) (pos := p) C.c.calm (pgs_of C.c.hN C.c.nd C.nmLoc ht) q1 q2) (chkX_swapS hc _ _ _) (chkX_stores hc _) rfl) ?_
      rcases hB.ofX with ⟨d, h1, hB⟩ | ⟨c, xs, h1, hB⟩
      · cases d with
        | tup ds =>
          obtain ⟨ρ', h2, hB⟩ := hB.ofO
          refine w.kept (i1 _ h1) fun u G' H' s' S' r => ?_
          exact S'.bind s' (tg := .many is) r h2 _ fun σ' w' => hB σ' H' w'
        | _ => exact hB.elim
      · exact w.exc (i2 c xs h1) fun cls dd H' w' x' => hB σ H' cls dd w' x'
    · intro h; cases h
  | .unpXL is x fz, X, Wx, tk, C, s, h, G0, H0, E, ρ, hB, σ, H, w => by
    revert h
    simp only [chkS]
    split
    · rename_i ts k p v pos
      intro h
      simp only [Bool.and_eq_true] at h
      obtain ⟨ht, hc⟩ := h
      rw [evS] at hB
      obtain ⟨i1, i2, _⟩ := okX (z := zOf fz) x C.c tk (ρ := ρ) hc
      obtain ⟨q1, q2⟩ := tgs_each (Y := X) ht
      refine wS_of (ps_asg (peW v) (pg_lst (k := k) (pos := p) C.c.calm (pgs_of C.c.hN C.c.nd C.nmLoc ht) q1 q2) (chkX_swapS hc _ _ _) (chkX_stores hc _) rfl) ?_
      rcases hB.ofX with ⟨d, h1, hB⟩ | ⟨c, xs, h1, hB⟩
      · cases d with
        | lst ds =>
          obtain ⟨ρ', h2, hB⟩ := hB.ofO
          refine w.kept (i1 _ h1) fun u G' H' s' S' r => ?_
          obtain ⟨a, xs, rfl, hs, hr⟩ := r
          refine ⟨a, xs, rfl, .of (s'.gh.at hs rfl), ?_, W.setAll hr h2 S' _ fun σ' S2 => hB σ' H' ⟨G', s', S2⟩⟩
          rw [hr.len, setAll_len h2]
        | _ => exact hB.elim
      · exact w.exc (i2 c xs h1) fun cls dd H' w' x' => hB σ H' cls dd w' x'
    · intro h; cases h
  | .appX i x, X, Wx, tk, C, s, h, G0, H0, E, ρ, hB, σ, H, w => by
    revert h
    simp only [chkS]
    split
    · rename_i y py m ap v pos p2
      intro h
      simp only [Bool.and_eq_true, decide_eq_true_eq] at h
      obtain ⟨⟨⟨⟨⟨rfl, hi⟩, hv⟩, hn⟩, hl⟩, hc⟩ := h
      rw [evS] at hB
      obtain ⟨ds, h2, hB⟩ := hB.ofO
      obtain ⟨i1, i2, _⟩ := okX (z := zAll) x C.c tk (ρ := ρ) hc
      refine wS_of (ps_expr (pe_bm PySem.F.plainAttrs_list PySem.F.slot_list_append PySem.F.type_list_append mt_append (pe_var (i := i) (by rw [C.c.hN]; exact hi) (C.c.vis hv) (nm1 hn) (nm2 hn)) (pa_cons (peW v) pa_nil (star1 (chkX_star hc))) rfl
          (by rw [star1 (chkX_star hc)]; rfl) hl (star1 (chkX_star hc)) rfl) rfl) ?_
      rcases hB.ofX with ⟨d, h1, hB⟩ | ⟨c, xs, h1, hB⟩
      · by_cases hh : ds.length < line ∧ d.nol = true
        · rw [if_pos hh] at hB
          exact s_app w (getOwn_some h2) (i1 d h1) hh.2 hh.1 fun H' w' => hB _ H' w'
        · rw [if_neg hh] at hB
          exact hB.elim
      · obtain ⟨p, vs, e, hp⟩ := w.isOwn (getOwn_some h2)
        refine ⟨.ref p, e, tyLst hp, ?_⟩
        exact w.exc (i2 c xs h1) fun cls dd H' w' x' => hB σ H' cls dd w' x'
    · intro h; cases h
  | .retX x fz, X, Wx, tk, C, s, h, G0, H0, E, ρ, hB, σ, H, w => by
    revert h
    simp only [chkS]
    split
    · rename_i v pos
      intro hc
      rw [evS] at hB
      obtain ⟨i1, i2, _⟩ := okX (z := zOf fz) x C.c tk (ρ := ρ) hc
      refine wS_of (ps_ret (peW v)) ?_
      rcases hB.ofX with ⟨d, h1, hB⟩ | ⟨c, xs, h1, hB⟩
      · exact w.any (i1 d h1) fun u G' H' s' S' r => hB u H' ⟨G', s', r⟩
      · exact w.exc (i2 c xs h1) fun cls dd H' w' x' => hB σ H' cls dd w' x'
    · intro h; cases h
  | .iteX x a b, X, Wx, tk, C, s, h, G0, H0, E, ρ, hB, σ, H, w => by
    revert h
    simp only [chkS]
    split
    · rename_i c' a' b' pos
      intro h
      simp only [Bool.and_eq_true] at h
      obtain ⟨⟨⟨hc, ht⟩, ha⟩, hb⟩ := h
      rw [evS] at hB
      obtain ⟨_, _, i3⟩ := okX (z := zAll) x C.c tk (ρ := ρ) hc
      obtain ⟨i1, i2⟩ := i3 ht
      refine wS_of (ps_if (ptW c') (pssW a') (pssW b')) ?_
      rcases hB.ofX with ⟨d, h1, hB⟩ | ⟨c, xs, h1, hB⟩
      · obtain ⟨t, h2, hB⟩ := hB.of
        refine w.test (i1 d h1 t h2) fun H' w' => ?_
        cases t with
        | true => exact okSs a tk C ha G0 H0 E ρ hB σ H' w'
        | false => exact okSs b tk C hb G0 H0 E ρ hB σ H' w'
      · exact w.excT (i2 c xs h1) fun cls dd H' w' x' => hB σ H' cls dd w' x'
    · intro h; cases h
  | .tryE body i hd, X, Wx, tk, C, s, h, G0, H0, E, ρ, hB, σ, H, w => by
    revert h
    simp only [chkS]
    split
    · rename_i b x px n s0 p1 p2
      intro h
      simp only [Bool.and_eq_true, decide_eq_true_eq, List.contains_iff_mem] at h
      obtain ⟨⟨⟨⟨⟨⟨⟨rfl, hg⟩, hm⟩, hi⟩, hl⟩, hn⟩, hb⟩, hh⟩ := h
      obtain ⟨⟨fI, T⟩, fld, me⟩ := C.ref hm
      have hN : X.N.Nodup := by rw [C.c.hN]; exact C.c.nd
      have hi' : X.N[i]? = some n := by rw [C.c.hN]; exact hi
      have hl' : X.env.scope.names.lookup n = some .local := by rw [C.c.hsc]; exact hl
      rw [evS] at hB
      cases hd with
      | what =>
        revert hh
        simp only [chkH]
        split
        · rename_i y py f pf pr
          intro hh
          simp only [Bool.and_eq_true, decide_eq_true_eq] at hh
          obtain ⟨rfl, rfl⟩ := hh
          refine wS_of (L2N.ps_try_as (i := i) (Wout := Wx) (tb := fun Wy => fun D σ H => ∀ pn xe, L2N.Takes (X.tr pn xe) Wy → PassesOwn (model X.prog X.w) X.A X.env xe → wSs (X.tr pn xe) b D σ H) (ts := fun a cls d => tRet (tXf a cls d Tabs.rc "what" (tVar i)))
            C.stk C.frm hN hi' hl' ⟨C.c.glN hg, by decide, .inl T.gC⟩ tk (fun Wy pn xe t2 po => ⟨fun pins s σ H D I hh => hh pn xe t2 po pins s I⟩)
            (fun a oe cls d pn hz hf => pss_one (ps_ret (pe_xf fld T.noN hz.zc hf (pe_var hi' (.inl hl') (nm1 hn) (nm2 hn)))))) ?_
          intro pn xe t2 po
          refine okSs body (X := X.tr pn xe) t2 ⟨⟨C.c.hN, C.c.nd, C.c.calm, C.c.hsc, C.c.blt, C.c.glob, C.c.tab, C.c.fns⟩, C.fn, po, C.kind, C.stk, C.frm, fun hm => ⟨(C.ref hm).txt, (C.ref hm).fld, (C.ref hm).me⟩, C.lnk, fun hm => ⟨(C.bad hm).txt, (C.bad hm).fld, (C.bad hm).me⟩, fun hm => ⟨⟨(C.hot hm).1.ex⟩, (C.hot hm).2.1, (C.hot hm).2.2⟩⟩ hb G0 H0 E ρ ?_ σ H w
          cases q : evSs F body ρ with
          | next ρ' => rw [q] at hB; exact hB
          | brk ρ' => rw [q] at hB; exact hB
          | cont ρ' => rw [q] at hB; exact hB
          | ret d => rw [q] at hB; exact hB
          | stuck => rw [q] at hB; exact hB.elim
          | exc ρ' c ys =>
            rw [q] at hB
            intro σ' H' cls dd w' x'
            rcases x' with ⟨rfl, rfl, t, rfl, hx⟩ | ⟨rfl, rfl, n, t, rfl, hx⟩
            case' inr => exact (show False from hB).elim
            refine ⟨true, me, fun _ a ha => ?_, fun z => nomatch z⟩
            by_cases hil : i < ρ'.length
            · have hB : Beh X.K Wx G0 H0 E (if i < ρ'.length then RS.ret (.str t) else .stuck) := hB
              rw [if_pos hil] at hB
              obtain ⟨G', s', S'⟩ := w'
              have hs : i < σ'.length := by rw [← S'.len]; exact hil
              exact ⟨.ref a, by rw [List.getElem?_set_self hs], rfl, rfl, dd, _, _, rfl, hx, rfl, hB _ H' ⟨G', s', rfl⟩⟩
            · have hB : Beh X.K Wx G0 H0 E (if i < ρ'.length then RS.ret (.str t) else .stuck) := hB
              rw [if_neg hil] at hB
              exact hB.elim
        · intro hh; cases hh
      | same ww tt =>
        revert hh
        simp only [chkH]
        split
        · rename_i y0 py0 y py f pf k jk pk pc g1 pg1 y1 py1 c1 pc1 q1 g2 pg2 y2 py2 c2 pc2 q2 pb pr
          intro hh
          simp only [Bool.and_eq_true, decide_eq_true_eq, List.contains_iff_mem] at hh
          obtain ⟨⟨⟨⟨⟨⟨⟨⟨⟨⟨⟨⟨⟨⟨⟨hw, hv⟩, hnx⟩, rfl⟩, rfl⟩, rfl⟩, rfl⟩, rfl⟩, rfl⟩, rfl⟩, rfl⟩, rfl⟩, gi⟩, gL⟩, gV⟩, hsm⟩ := hh
          obtain ⟨⟨CL, mL, neL, subL⟩, subV, mV⟩ := C.lnk hsm
          have hw' : X.N[ww]? = some y0 := by rw [C.c.hN]; exact hw
          have hvis : Vis X.env.scope y0 := C.c.vis hv
          refine wS_of (L2N.ps_try_as (i := i) (Wout := Wx) (tb := fun Wy => fun D σ H => ∀ pn xe, L2N.Takes (X.tr pn xe) Wy → PassesOwn (model X.prog X.w) X.A X.env xe → wSs (X.tr pn xe) b D σ H)
            (ts := fun a cls d => fun D σ H => ∀ (oe : Obj) (pn : List (Addr × Obj)), L2N.Zn cls d oe → (∃ vs, oe.data = .fields vs) → wSs (X.suite a ((a, oe) :: pn)) [_] D σ H)
            C.stk C.frm hN hi' hl' ⟨C.c.glN hg, by decide, .inl T.gC⟩ tk (fun Wy pn xe t2 po => ⟨fun pins s σ H D I hh => hh pn xe t2 po pins s I⟩)
            (fun a oe cls d pn hz hf => ⟨fun pins s σ H D I hh => hh oe pn hz hf pins s I⟩)) ?_
          intro pn xe t2 po
          refine okSs body (X := X.tr pn xe) t2 ⟨⟨C.c.hN, C.c.nd, C.c.calm, C.c.hsc, C.c.blt, C.c.glob, C.c.tab, C.c.fns⟩, C.fn, po, C.kind, C.stk, C.frm, fun hm => ⟨(C.ref hm).txt, (C.ref hm).fld, (C.ref hm).me⟩, C.lnk, fun hm => ⟨(C.bad hm).txt, (C.bad hm).fld, (C.bad hm).me⟩, fun hm => ⟨⟨(C.hot hm).1.ex⟩, (C.hot hm).2.1, (C.hot hm).2.2⟩⟩ hb G0 H0 E ρ ?_ σ H w
          cases q : evSs F body ρ with
          | next ρ' => rw [q] at hB; exact hB
          | brk ρ' => rw [q] at hB; exact hB
          | cont ρ' => rw [q] at hB; exact hB
          | ret d => rw [q] at hB; exact hB
          | stuck => rw [q] at hB; exact hB.elim
          | exc ρ' c ys =>
            rw [q] at hB
            intro σ' H' cls dd w' x'
            rcases x' with ⟨rfl, rfl, t, rfl, hx⟩ | ⟨rfl, rfl, n, t, rfl, hx⟩
            case' inr => exact (show False from hB).elim
            refine ⟨true, me, fun _ a ha => ?_, fun z => nomatch z⟩
            have hB : Beh X.K Wx G0 H0 E (if i < ρ'.length ∧ ww ≠ i then (match ρ'[ww]? with
              | some (.val (.bl b)) => RS.ret (.bl (b && (t == tt)))
              | _ => .stuck) else .stuck) := hB
            by_cases hil : i < ρ'.length ∧ ww ≠ i
            · rw [if_pos hil] at hB
              obtain ⟨G', s', S'⟩ := w'
              have hs : i < σ'.length := by rw [← S'.len]; exact hil.1
              cases hr : ρ'[ww]? with
              | none => rw [hr] at hB; exact hB.elim
              | some sl =>
                rw [hr] at hB
                match sl, hr, hB with
                | .val (.bl bb), hr, hB =>
                  obtain ⟨v, hv1, hv2⟩ := (S'.env zAll).get ww (.bl bb) (by unfold look; rw [hr])
                  cases (show v = V.bl bb from hv2)
                  intro oe pn2 hz hf
                  have hzn := hz
                  have hz := hz.zc
                  have fin : ∀ (c : Bool) G1 H1, c = (bb && (t == tt)) → Step G' H' G1 H1 → E.rt (.bl c) H1 := fun c G1 H1 ec s1 => hB _ H1 ⟨G1, s'.trans s1, by rw [ec]; rfl⟩
                  obtain ⟨r, ho, hr2⟩ := op_eqDD (X := X.suite a ((a, oe) :: pn2)) C.c.units (x := .str t) (y := .str tt) (d := .bl ((t == tt))) rfl
                  have p1 : PE (X.suite a ((a, oe) :: pn2)) (.Name y0 py0) (tVar ww) := pe_var hw' hvis (nm1 hnx) (nm2 hnx)
                  have pv : PE (X.suite a ((a, oe) :: pn2)) (.Name _ py) (tVar i) := pe_var hi' (.inl hl') (nm1 hn) (nm2 hn)
                  have pv1 : PE (X.suite a ((a, oe) :: pn2)) (.Name _ py1) (tVar i) := pe_var hi' (.inl hl') (nm1 hn) (nm2 hn)
                  have pv2 : PE (X.suite a ((a, oe) :: pn2)) (.Name _ py2) (tVar i) := pe_var hi' (.inl hl') (nm1 hn) (nm2 hn)
                  have pq := pe_cmpR (pos := pc) ho (pe_xf (pos := pf) fld T.noN hz hf pv) (pe_str (X := X.suite a ((a, oe) :: pn2)) (x := st tt) (j := jk) (pos := pk)) rfl
                  have pL : PE (X.suite a ((a, oe) :: pn2)) (.Name ("LinkError" : Str) pc1) (tC (.ref CL)) := pe_glob (C.c.glN gL) mL rfl
                  have pV : PE (X.suite a ((a, oe) :: pn2)) (.Name ("ValueError" : Str) pc2) (tC (.ty "ValueError")) := pe_bltn (v := .ty "ValueError") (C.c.glN gV) mV (by decide +kernel) rfl
                  have mi : X.mg "isinstance" = none := C.c.blt _ (by decide +kernel)
                  have i1 := pe_callB (pos := q1) (p := pg1) (call_sub (pn := pn2) hz) (C.c.glN gi) mi boot_isinstance (pa_cons pv1 (pa_cons pL pa_nil rfl) rfl) (by decide +kernel) (by decide +kernel) rfl rfl
                  have i2 := pe_callB (pos := q2) (p := pg2) (call_sub (pn := pn2) hz) (C.c.glN gi) mi boot_isinstance (pa_cons pv2 (pa_cons pV pa_nil rfl) rfl) (by decide +kernel) (by decide +kernel) rfl rfl
                  refine wSs_of (pss_one (ps_ret (pe_and p1 (pe_and pq (pe_and i1 (pe_one i2)))))) ?_
                  have get_i : (σ'.set i (some (V.ref a)))[i]? = some (some (V.ref a)) := List.getElem?_set_self hs
                  refine ⟨V.bl bb, by rw [List.getElem?_set_ne (Ne.symm hil.2)]; exact hv1, bb, rfl, ?_⟩
                  cases bb with
                  | false => exact fin false G' H' rfl (Step.refl s'.gh)
                  | true =>
                    refine ⟨V.ref a, get_i, rfl, rfl, dd, _, _, rfl, hx, rfl, ?_⟩
                    refine hr2 G' H' _ _ rfl rfl s'.gh _ fun u G1 H1 s1 ru => ?_
                    cases (show u = V.bl ((t == tt)) from ru)
                    refine ⟨_, rfl, ?_⟩
                    by_cases ct : (t == tt) = true
                    · rw [if_pos ct]
                      refine ⟨V.ref a, get_i, V.ref CL, .ref CL, rfl, fun z hz => hz, neL, subL, true, rfl, ?_⟩
                      refine ⟨V.ref a, get_i, .ty "ValueError", .type "ValueError", rfl, fun z hz => hz, rfl, subV, fin true G1 H1 (by rw [ct]; rfl) s1⟩
                    · have cf : (t == tt) = false := by simpa using ct
                      rw [if_neg ct]
                      exact fin false G1 H1 (by rw [cf]; rfl) s1
                | .val .non, hr, hB => exact hB.elim
                | .val (.int _), hr, hB => exact hB.elim
                | .val (.str _), hr, hB => exact hB.elim
                | .val (.tup _), hr, hB => exact hB.elim
                | .val (.lst _), hr, hB => exact hB.elim
                | .val (.scr _), hr, hB => exact hB.elim
                | .val (.cnt _), hr, hB => exact hB.elim
                | .own _, hr, hB => exact hB.elim
                | .no, hr, hB => exact hB.elim
            · rw [if_neg hil] at hB
              exact hB.elim
        · intro hh; cases hh
    · intro h; cases h
  | .tryB body i ww, X, Wx, tk, C, s, h, G0, H0, E, ρ, hB, σ, H, w => by
    revert h
    simp only [chkS]
    split
    · rename_i b x px n s0 s1 p1 p2
      intro h
      simp only [Bool.and_eq_true, decide_eq_true_eq, List.contains_iff_mem] at h
      obtain ⟨⟨⟨⟨⟨⟨⟨⟨rfl, hg⟩, hm⟩, hhot⟩, hi⟩, hl⟩, hn⟩, hb⟩, hh⟩ := h
      obtain ⟨⟨fI, T⟩, fld, me⟩ := C.bad hm
      obtain ⟨⟨fL, fdL, psL, mL, kL, bL, FL⟩, ⟨kr, hk2, hrm⟩, lk⟩ := C.hot hhot
      obtain ⟨CL, mgL, ekL⟩ := lk.l
      obtain ⟨CR, mgR, ekR⟩ := lk.r
      have hN : X.N.Nodup := by rw [C.c.hN]; exact C.c.nd
      have hi' : X.N[i]? = some n := by rw [C.c.hN]; exact hi
      have hl' : X.env.scope.names.lookup n = some .local := by rw [C.c.hsc]; exact hl
      rw [evS] at hB
      revert hh
      unfold chkHB
      split
      · rename_i g1 pg1 y1 py1 c1 pc1 q1 pn1 g2 pg2 y2 py2 c2 pc2 q2 g3 pg3 y3 py3 q3 j2 pj2 pcm pbo jf pjf prf pif g4 pg4 y4 py4 f1 pf1 y5 py5 f2 pf2 kt ptu y6 py6 q4 prt
        intro hh
        simp only [Bool.and_eq_true, decide_eq_true_eq] at hh
        obtain ⟨⟨⟨⟨⟨⟨⟨⟨⟨⟨⟨⟨⟨⟨⟨⟨⟨⟨⟨⟨rfl, rfl⟩, rfl⟩, rfl⟩, rfl⟩, rfl⟩, rfl⟩, rfl⟩, rfl⟩, rfl⟩, rfl⟩, rfl⟩, hw⟩, e63⟩, hv⟩, hnx⟩, gi⟩, gl3⟩, gs⟩, gL⟩, gR⟩ := hh
        subst e63
        have hw' : X.N[ww]? = some y6 := by rw [C.c.hN]; exact hw
        have hvis : Vis X.env.scope y6 := C.c.vis hv
        refine wS_of (L2N.ps_try_as (i := i) (Wout := Wx) (tb := fun Wy => fun D σ H => ∀ pn xe, L2N.Takes (X.tr pn xe) Wy → PassesOwn (model X.prog X.w) X.A X.env xe → wSs (X.tr pn xe) b D σ H)
          (ts := fun a cls d => fun D σ H => ∀ (oe : Obj) (pn : List (Addr × Obj)), L2N.Zn cls d oe → (∃ vs, oe.data = .fields vs) → wSs (X.suite a ((a, oe) :: pn)) [_, _] D σ H)
          C.stk C.frm hN hi' hl' ⟨C.c.glN hg, by decide, .inl T.gC⟩ tk (fun Wy pn xe t2 po => ⟨fun pins s σ H D I hh => hh pn xe t2 po pins s I⟩)
          (fun a oe cls d pn hz hf => ⟨fun pins s σ H D I hh => hh oe pn hz hf pins s I⟩)) ?_
        intro pn xe t2 po
        refine okSs body (X := X.tr pn xe) t2 ⟨⟨C.c.hN, C.c.nd, C.c.calm, C.c.hsc, C.c.blt, C.c.glob, C.c.tab, C.c.fns⟩, C.fn, po, C.kind, C.stk, C.frm, fun hm => ⟨(C.ref hm).txt, (C.ref hm).fld, (C.ref hm).me⟩, C.lnk, fun hm => ⟨(C.bad hm).txt, (C.bad hm).fld, (C.bad hm).me⟩, fun hm => ⟨⟨(C.hot hm).1.ex⟩, (C.hot hm).2.1, (C.hot hm).2.2⟩⟩ hb G0 H0 E ρ ?_ σ H w
        cases q : evSs F body ρ with
        | next ρ' => rw [q] at hB; exact hB
        | brk ρ' => rw [q] at hB; exact hB
        | cont ρ' => rw [q] at hB; exact hB
        | ret d => rw [q] at hB; exact hB
        | stuck => rw [q] at hB; exact hB.elim
        | exc ρ' c ys =>
          rw [q] at hB
          intro σ' H' cls dd w' x'
          rcases x' with ⟨rfl, rfl, t, rfl, hx⟩ | ⟨rfl, rfl, nn, t, rfl, hx⟩
          case inl => exact (show False from hB).elim
          refine ⟨true, me, fun _ a ha => ?_, fun z => nomatch z⟩
          have hB : Beh X.K Wx G0 H0 E (if i < ρ'.length ∧ ww ≠ i then (match ρ'[ww]? with
            | some (.val (.tup [.int m, .str u])) => RS.ret (.bl (nn == m && t == u))
            | some (.val (.tup ds)) => if ds.length = 2 then .stuck else .ret (.bl false)
            | _ => .stuck) else .stuck) := hB
          by_cases hil : i < ρ'.length ∧ ww ≠ i
          case neg => rw [if_neg hil] at hB; exact hB.elim
          rw [if_pos hil] at hB
          obtain ⟨G', s', S'⟩ := w'
          have hs : i < σ'.length := by rw [← S'.len]; exact hil.1
          obtain ⟨ds, hr, hB⟩ : ∃ ds, ρ'[ww]? = some (.val (.tup ds)) ∧ Beh X.K Wx G0 H0 E (match ds with
            | [.int m, .str u] => RS.ret (.bl (nn == m && t == u))
            | ds => if ds.length = 2 then .stuck else .ret (.bl false)) := by
            cases hr : ρ'[ww]? with
            | none => rw [hr] at hB; exact hB.elim
            | some sl =>
              rw [hr] at hB
              match sl, hB with
              | .val (.tup ds), hB =>
                refine ⟨ds, rfl, ?_⟩
                revert hB
                split <;> rename_i heq <;> intro hB
                · cases heq; exact hB
                · rename_i h1
                  cases heq
                  split
                  · exact absurd rfl (h1 _ _)
                  · exact hB
                · rename_i h1 h2
                  exact hB.elim
              | .val .non, hB => exact hB.elim
              | .val (.bl _), hB => exact hB.elim
              | .val (.int _), hB => exact hB.elim
              | .val (.str _), hB => exact hB.elim
              | .val (.lst _), hB => exact hB.elim
              | .val (.scr _), hB => exact hB.elim
              | .val (.cnt _), hB => exact hB.elim
              | .own _, hB => exact hB.elim
              | .no, hB => exact hB.elim
          obtain ⟨v, hv1, hv2⟩ := S'.val ww (.tup ds) hr
          have hv2' := hv2
          obtain ⟨a2, xs, rfl, sq, rs⟩ := hv2
          have sq' := ex_t s'.gh sq
          intro oe pn2 hzn hf
          have hz := hzn.zc
          have pv1 : PE (X.suite a ((a, oe) :: pn2)) (.Name _ py1) (tVar i) := pe_var hi' (.inl hl') (nm1 hn) (nm2 hn)
          have pv2 : PE (X.suite a ((a, oe) :: pn2)) (.Name _ py2) (tVar i) := pe_var hi' (.inl hl') (nm1 hn) (nm2 hn)
          have pv4 : PE (X.suite a ((a, oe) :: pn2)) (.Name _ py4) (tVar i) := pe_var hi' (.inl hl') (nm1 hn) (nm2 hn)
          have pv5 : PE (X.suite a ((a, oe) :: pn2)) (.Name _ py5) (tVar i) := pe_var hi' (.inl hl') (nm1 hn) (nm2 hn)
          have pd3 : PE (X.suite a ((a, oe) :: pn2)) (.Name y6 py3) (tVar ww) := pe_var hw' hvis (nm1 hnx) (nm2 hnx)
          have pd6 : PE (X.suite a ((a, oe) :: pn2)) (.Name y6 py6) (tVar ww) := pe_var hw' hvis (nm1 hnx) (nm2 hnx)
          have pL : PE (X.suite a ((a, oe) :: pn2)) (.Name ("LinkError" : Str) pc1) (tC (.ref CL)) := pe_glob (C.c.glN gL) mgL rfl
          have pR : PE (X.suite a ((a, oe) :: pn2)) (.Name ("Refused" : Str) pc2) (tC (.ref CR)) := pe_glob (C.c.glN gR) mgR rfl
          have mi : X.mg "isinstance" = none := C.c.blt _ (by decide +kernel)
          have ml : X.mg "len" = none := C.c.blt _ (by decide +kernel)
          have i1 := pe_callB (pos := q1) (p := pg1) (call_isx (pn := pn2) lk fld hz hf) (C.c.glN gi) mi boot_isinstance (pa_cons pv1 (pa_cons pL pa_nil rfl) rfl) (by decide +kernel) (by decide +kernel) rfl rfl
          have i2 := pe_callB (pos := q2) (p := pg2) (call_isx (pn := pn2) lk fld hz hf) (C.c.glN gi) mi boot_isinstance (pa_cons pv2 (pa_cons pR pa_nil rfl) rfl) (by decide +kernel) (by decide +kernel) rfl rfl
          have i3 := pe_callB (X := X.suite a ((a, oe) :: pn2)) (pos := q3) (p := pg3) call_len_seq (C.c.glN gl3) ml PySem.boot_len (pa_cons pd3 pa_nil rfl) (by decide +kernel) (by decide +kernel) rfl rfl
          have hot : L2H.HotC (X.suite a ((a, oe) :: pn2)) := by
            obtain ⟨fv, hfv⟩ := hf
            exact ⟨(a, oe), ⟨rfl, fv, hfv, hzn.2.2 fv hfv⟩, List.mem_cons_self⟩
          have rmH : L2H.RoomH 2 (X.suite a ((a, oe) :: pn2)).A := ⟨by have := hrm.dp; show X.A.depth + _ + _ < _; omega, by have := hrm.un; show X.A.units + _ + _ < _; omega⟩
          have pcall := L2H.pe_callH (X := X.suite a ((a, oe) :: pn2)) (q := pg4) (pos := q4) FL rmH hot (C.c.glN gs) mL kL bL (fun σ pins H s e s' I c => passN pins σ H s e s' I c)
            (pa_cons (pe_tup (x1 := kt) (pos := ptu) (pa_cons (pe_xf (pos := pf1) fld T.noL hz hf pv4) (pa_cons (pe_xf (pos := pf2) fld T.noN hz hf pv5) pa_nil rfl) rfl)) (pa_cons pd6 pa_nil rfl) rfl) (by decide +kernel) rfl rfl
          refine wSs_of (pss_cons (ps_if (PW.pt (pw_or (pt_not (pt_val i1)) (pw_or (pt_val i2) (pw_or1 (pt_cmpR op_ne i3 pe_int rfl))))) (pss_one (ps_ret pe_bl)) pss_nil) (pss_one (ps_ret pcall))) ?_
          have get_i : (σ'.set i (some (V.ref a)))[i]? = some (some (V.ref a)) := List.getElem?_set_self hs
          have get_w : (σ'.set i (some (V.ref a)))[ww]? = some (some (.ref a2)) := by rw [List.getElem?_set_ne (Ne.symm hil.2)]; exact hv1
          refine ⟨V.ref a, get_i, .ref CL, .ref CL, true, dd, _, rfl, fun z hz => hz, rfl, hx, ekL, true, rfl, ifF rfl ?_⟩
          refine ⟨V.ref a, get_i, .ref CR, .ref CR, false, dd, _, rfl, fun z hz => hz, rfl, hx, ekR, false, rfl, ifF rfl ?_⟩
          refine ⟨_, get_w, a2, xs, rfl, .inr sq', rfl, _, rfl, ?_⟩
          have hlen := rs.len
          rw [L2.dec_int, hlen]
          by_cases h2 : ds.length = 2
          · refine ifF (by rw [h2]; rfl) ?_
            obtain ⟨m, u, rfl⟩ : ∃ m u, ds = [.int m, .str u] := by
              revert hB
              split
              · intro _; exact ⟨_, _, rfl⟩
              · rw [if_pos h2]; intro hB; exact hB.elim
            have hB : E.rt = E.rt ∧ ∀ v H, (∃ G, Step G0 H0 G H ∧ Rep X.K G (.bl (nn == m && t == u)) v) → E.rt v H := ⟨rfl, hB⟩
            have lkl : List.lookup ("line" : Str) (bfs nn (st t)) = some (.int nn) := by simp [bfs, List.lookup]
            have lkw : List.lookup ("what" : Str) (bfs nn (st t)) = some (.str (st t)) := by
              have q : ((PySem.Str.ofString "what") == (PySem.Str.ofString "line")) = false := by decide +kernel
              simp [bfs, List.lookup, q]
            refine ⟨V.ref a, get_i, rfl, rfl, dd, _, _, rfl, hx, lkl, ?_⟩
            refine ⟨V.ref a, get_i, rfl, rfl, dd, _, _, rfl, hx, lkw, ?_⟩
            refine ⟨by rw [sizeLine_eq]; exact (by decide : 2 ≤ 16777216), fun p hp => ?_⟩
            have hpG := ex_none s'.gh hp
            have s1 := Step.new (o := .tup [V.int nn, V.str (st t)]) s'.gh hp
            refine ⟨_, get_w, L2.upd G' p (.tup [V.int nn, V.str (st t)]), .tup [.int nn, .str t], .tup [.int m, .str u], (nn == m && t == u), ⟨_, _, rfl, ⟨p, _, rfl, st_of upd_same, _, _, rfl, rfl, _, _, rfl, rfl, rfl⟩, _, _, rfl, hv2'.ex s1.gg, rfl⟩, s1.gh, ?_, hB.2 _ _ ⟨_, s'.trans s1, rfl⟩⟩
            show ((some (nn == m)).bind fun x => if x = true then some (t == u) else (some (t == u)).map fun _ => false) = _
            cases hnm : (nn == m) <;> simp
          · have hne : (((ds.length : Nat) : Int) == (2 : Int)) = false := by rw [beq_eq_false_iff_ne]; omega
            refine ifT (by rw [hne]; rfl) ?_
            have hB : Beh X.K Wx G0 H0 E (RS.ret (.bl false)) := by
              revert hB
              split
              · exact absurd rfl h2
              · rw [if_neg h2]; exact id
            exact hB _ H' ⟨G', s', rfl⟩
      · intro hh; cases hh
    · intro h; cases h
theorem okSs : ∀ (st : ISs) {X : Cx} {Wx : WX} (tk : L2N.Takes X Wx) (C : CxS N Cs gl F sc X) {s : List Stmt}, chkSs N Cs gl sc st s = true → ∀ (G0 H0 : Hp) (E : Ends) (ρ : Env), Beh X.K Wx G0 H0 E (evSs F st ρ) → ∀ σ H, W X.K G0 H0 ρ σ H → wSs X s E σ H
  | .nil, X, Wx, tk, C, s, h, G0, H0, E, ρ, hB, σ, H, w => by
    cases s with
    | nil =>
      rw [evSs] at hB
      exact wSs_of pss_nil (hB σ H w)
    | cons _ _ => simp [chkSs] at h
  | .cons a as, X, Wx, tk, C, s, h, G0, H0, E, ρ, hB, σ, H, w => by
    cases s with
    | nil => simp [chkSs] at h
    | cons x xs =>
      simp only [chkSs, Bool.and_eq_true] at h
      obtain ⟨ha, hb⟩ := h
      refine wSs_of (pss_cons (psW x) (pssW xs)) ?_
      refine okS a tk C ha G0 H0 _ ρ ?_ σ H w
      rw [evSs] at hB
      cases q : evS F a ρ with
      | next ρ' => rw [q] at hB; exact fun σ' H' w' => okSs as tk C hb G0 H0 E ρ' hB σ' H' w'
      | brk ρ' => rw [q] at hB; exact hB
      | cont ρ' => rw [q] at hB; exact hB
      | ret d => rw [q] at hB; exact hB
      | exc ρ' c ys => rw [q] at hB; exact hB
      | stuck => rw [q] at hB; exact hB.elim
end
end
end Pv

end
section
/-! Ev12: defs, and the law's end. -/
namespace Pv
open PySem PySem.Spec PyProof.Rows L2
variable [Tabs]
theorem begin_get {nn : Nat} {ds : List D} {i : Nat} {s : Slot} (h : (begin_ nn ds)[i]? = some s) : (∃ d, ds[i]? = some d ∧ s = .val d) ∨ s = .no := by
  unfold begin_ at h
  by_cases hi : i < ds.length
  · rw [List.getElem?_append_left (by rw [List.length_map]; exact hi), List.getElem?_map] at h
    cases q : ds[i]? with
    | none => rw [q] at h; cases h
    | some d => rw [q] at h; cases h; exact .inl ⟨d, rfl, rfl⟩
  · rw [List.getElem?_append_right (by rw [List.length_map]; omega)] at h
    have := List.mem_of_getElem? h
    exact .inr (List.eq_of_mem_replicate this)
theorem W.start {K : PySem.W.Frag} {G H : Hp} {N : List Str} {ds : List D} {vs : List V} (e : Ex G H) (tb : TabsIn G) (r : Reps K G ds vs) : W K G H (begin_ N.length ds) (L2.start N vs) H := by
  refine ⟨G, Step.refl e, ⟨tb, ?_, fun i d h => ?_, fun i es h => ?_, fun i j p es fs _ h => ?_⟩⟩
  · unfold begin_ L2.start
    rw [List.length_append, List.length_append, List.length_map, List.length_map, List.length_replicate, List.length_replicate, r.len]
  · rcases begin_get h with ⟨d', h1, h2⟩ | h
    · cases h2
      obtain ⟨v, h3, h4⟩ := r.get h1
      refine ⟨v, ?_, h4⟩
      unfold L2.start
      rw [List.getElem?_append_left (by rw [List.length_map]; exact (List.getElem?_eq_some_iff.mp h3).1), List.getElem?_map, h3]
      rfl
    · cases h
  · rcases begin_get h with ⟨d', h1, h2⟩ | h
    · cases h2
    · cases h
  · rcases begin_get h with ⟨d', h1, h2⟩ | h
    · cases h2
    · cases h
section
variable {P : Program} {w : World} {K : PySem.W.Frag} {mg : Str → Option Value} {base : Heap}
/-- a def that can be called under its name: g is what it computes -/
def Callee (P : Program) (w : World) (K : PySem.W.Frag) (mg : Str → Option Value) (base : Heap) (k : Nat) (x : Str) (g : List D → R D) : Prop :=
  ∃ f fd ps, mg x = some (.ref f) ∧ PySem.W.keepIn K (.ref f) = true ∧ Binds K fd ps [] ∧ FnOk P w K mg base (L2N.CX P w) k f fd ps (spD K g)
theorem Callee.mono {k k' : Nat} {x : Str} {g : List D → R D} (h : Callee P w K mg base k x g) (hk : k ≤ k') : Callee P w K mg base k' x g :=
  let ⟨f, fd, ps, a, b, c, d⟩ := h; ⟨f, fd, ps, a, b, c, d.mono hk⟩
theorem CallK.mono {k k' : Nat} {x : Str} {g : List D → R D} (h : CallK P w K mg base k x g) (hk : k ≤ k') : CallK P w K mg base k' x g := by
  unfold CallK at h ⊢
  split at h
  · obtain ⟨cl, hg, f, fd, ps, a, b, c⟩ := h
    exact ⟨cl, hg, f, fd, ps, a, b, c.mono hk⟩
  · rcases h with ⟨a, b, f, fd, ps, j, hj, c, d, e⟩ | ⟨f, fd, ps, a, b, c, d⟩
    · exact .inl ⟨a, b, f, fd, ps, j, by omega, c, d, e⟩
    · exact .inr ⟨f, fd, ps, a, b, c, d.mono hk⟩
theorem Callee.callK {k : Nat} {x : Str} {g : List D → R D} (h : Callee P w K mg base k x g) (n : mOf x = none := by decide +kernel) : CallK P w K mg base k x g := by
  unfold CallK
  rw [n]
  exact .inr h
def Fns (P : Program) (w : World) (K : PySem.W.Frag) (mg : Str → Option Value) (base : Heap) (k : Nat) (Cs : List Str) (F : List (List D → R D)) : Prop :=
  ∀ (j : Nat) (g : List D → R D), F[j]? = some g → ∃ x, Cs[j]? = some x ∧ CallK P w K mg base k x g
theorem Fns.nil {k : Nat} {Cs : List Str} : Fns P w K mg base k Cs [] := fun j g h => by simp at h
theorem Fns.cons {k j : Nat} {x : Str} {Cs : List Str} {g : List D → R D} {F : List (List D → R D)} (h : Callee P w K mg base j x g) (hk : j ≤ k) (r : Fns P w K mg base k Cs F) (n : mOf x = none := by decide +kernel) : Fns P w K mg base k (x :: Cs) (g :: F) := fun i g' h' => by
  cases i with
  | zero => cases h'; exact ⟨x, rfl, (h.mono hk).callK n⟩
  | succ i => exact r i g' h'
theorem Fns.consK {k j : Nat} {x : Str} {Cs : List Str} {g : List D → R D} {F : List (List D → R D)} (h : CallK P w K mg base j x g) (hk : j ≤ k) (r : Fns P w K mg base k Cs F) : Fns P w K mg base k (x :: Cs) (g :: F) := fun i g' h' => by
  cases i with
  | zero => cases h'; exact ⟨x, rfl, h.mono hk⟩
  | succ i => exact r i g' h'
def Glb (K : PySem.W.Frag) (mg : Str → Option Value) (gl : List (Str × GC)) : Prop := ∀ p ∈ gl, GlbIs K mg p
theorem Glb.nil : Glb K mg [] := fun p h => by cases h
theorem Glb.cons {x : Str} {n : Int} {t : Nat} {gl : List (Str × GC)} (h : mg x = some (.int n t)) (r : Glb K mg gl) : Glb K mg ((x, .int n) :: gl) := fun p hp => by
  rcases List.mem_cons.mp hp with e | e
  · subst e; exact ⟨t, h⟩
  · exact r p e
theorem Glb.consT {x : Str} {ns : List Int} {a : Addr} {gl : List (Str × GC)} (h : mg x = some (.ref a)) (hS : ∀ H, SqT K H a (ns.map V.int)) (r : Glb K mg gl) : Glb K mg ((x, .ints ns) :: gl) := fun p hp => by
  rcases List.mem_cons.mp hp with e | e
  · subst e; exact ⟨a, h, hS⟩
  · exact r p e
/-- as Fun.okN, with the code object told -/
theorem okXC {x qual : Str} {st : Stmt} {f : Addr} {fd : FuncData} {N ps : List Str} {k : Nat} {sp : Sp} (F : Fun K x qual st f fd) (S : FnScope N ps (defScope st)) (len : ∀ vs H Q E, sp vs H Q E → vs.length = ps.length)
    (hbody : ∀ (cdv : Value) (A : Around) (outer : List PySem.Env) (s : Shared) (H : Hp) (vs : List V) (Q : VK) (E : XK), fd.code = cdv → Room k (A.deeper (envOfC qual (defScope st) s.heap.objs.size f cdv)) → sp vs H Q E →
      ∃ t, PSs (cxOf (L2N.CX P w) P w K mg base N qual (defScope st) f cdv A outer s H E) (defBody st) t ∧ t { nx := fun _ H' => Q .non H', rt := Q } (start N vs) H) : FnOk P w K mg base (L2N.CX P w) (k + 1) f fd ps sp := by
  obtain ⟨oc, od, kV, doc, pm, an, cdv, ct, osl, rfl, lk, hcd⟩ := F.ex
  exact fn_of lk hcd S len fun A outer s H vs Q E hr hsp => hbody cdv A outer s H vs Q E rfl hr hsp
/-- what the written part says of Refused -/
structure RefF (P : Program) (K : PySem.W.Frag) (mg : Str → Option Value) : Prop where
  txt : ∃ fI, Rfs.Txt P K mg Tabs.rc fI
  fld : XfC K Tabs.rc
  me : PySem.W.exmOne K (.ref Tabs.rc) (.ref Tabs.rc) = some true
/-- what the written part says of BadTrace -/
structure BadF (P : Program) (K : PySem.W.Frag) (mg : Str → Option Value) : Prop where
  txt : ∃ fI, Bts.Txt P K mg Tabs.bc fI
  fld : XfC K Tabs.bc
  me : PySem.W.exmOne K (.ref Tabs.bc) (.ref Tabs.bc) = some true
/-- the same, and what a law says of the classes above -/
structure RefG (P : Program) (w : World) (K : PySem.W.Frag) (mg : Str → Option Value) (base : Heap) (k : Nat) (Cs : List Str) : Prop where
  core : ("<refused>" : Str) ∈ Cs → RefF P K mg
  lnk : ("<same>" : Str) ∈ Cs → Lnk K mg
  bad : ("<bad>" : Str) ∈ Cs → BadF P K mg
  hot : ("<hot>" : Str) ∈ Cs → 2 ≤ k ∧ LnkB K mg ∧ ∃ f fd ps, mg "_law_same" = some (.ref f) ∧ PySem.W.keepIn K (.ref f) = true ∧ Binds K fd ps [] ∧ L2H.FnH P w K mg base (L2N.CX P w) 2 f fd ps (spH K pairD)
theorem ok_def {N ps Cs : List Str} {gl : List (Str × GC)} {F : List (List D → R D)} {fn : Fn} {st : Stmt} {x : Str} {f : Addr} {fd : FuncData} {k : Nat} (FF : Fun K x x st f fd) (S : FnScope N ps (defScope st))
    (hn : fn.nn = N.length) (ha : fn.ar = ps.length) (hc : chkSs N Cs gl (defScope st) fn.body (defBody st) = true) (hb : ∀ y ∈ bltNames, mg y = none) (hg : Glb K mg gl) (ht : ("<genexpr>" : Str) ∈ Cs → ∃ c P, fd.code = .ref c ∧ (c, P) ∈ Tabs.ts ∧ GxR.TabB base mg c P) (hrf : RefG P w K mg base k Cs) (hf : Fns P w K mg base k Cs F) :
    FnOk P w K mg base (L2N.CX P w) (k + 1) f fd ps (spD K (evF F fn)) := by
  refine okXC FF S (fun vs H Q E h => ?_) (fun cdv A outer s H vs Q E hcode hr h => ?_)
  · obtain ⟨G, ds, r, e, tb, h1⟩ := h
    have hl : ds.length = fn.ar := by
      by_cases hl : ds.length = fn.ar
      · exact hl
      · unfold evF at h1
        rw [if_neg hl] at h1
        rcases h1 with ⟨_, h1, _⟩ | ⟨_, _, h1, _⟩ <;> cases h1
    rw [r.len, hl, ha]
  · obtain ⟨G, ds, r, e, tb, h1⟩ := h
    refine ⟨wSs (cxOf (L2N.CX P w) P w K mg base N x (defScope st) f cdv A outer s H E) (defBody st), pssW _, ?_⟩
    have C : CxS N Cs gl F (defScope st) (cxOf (L2N.CX P w) P w K mg base N x (defScope st) f cdv A outer s H E) := by
      refine ⟨⟨rfl, S.nd, rfl, rfl, hb, hg, fun hm => ?_, ⟨k, hr, fun j g hj => ?_⟩⟩, fun _ => rfl, passes_of (K := fun e s'' => L2N.CX P w outer H s E e s'') (E₁ := fun e' s'' => L2N.CX P w outer H s E e' s'') rfl, S.kind, rfl, rfl, fun hm => ⟨(hrf.core hm).txt, (hrf.core hm).fld, (hrf.core hm).me⟩, hrf.lnk, fun hm => ⟨(hrf.bad hm).txt, (hrf.bad hm).fld, (hrf.bad hm).me⟩, fun hm => ⟨⟨(hrf.hot hm).2.2⟩, ⟨k, (hrf.hot hm).1, hr⟩, (hrf.hot hm).2.1⟩⟩
      · obtain ⟨c, P', h1, h2, h3⟩ := ht hm
        exact ⟨c, P', hcode.symm.trans h1, h2, h3⟩
      exact hf j g hj
    have tk : L2N.Takes (cxOf (L2N.CX P w) P w K mg base N x (defScope st) f cdv A outer s H E) (fun cls d _ H => E cls d H) := L2N.takes_of rfl rfl rfl (E₁ := fun e' s'' => L2N.CX P w outer H s E e' s'') rfl
    unfold evF at h1
    by_cases hl : ds.length = fn.ar
    · rw [if_pos hl] at h1
      refine okSs fn.body tk C hc G H _ (begin_ fn.nn ds) ?_ _ H (by rw [hn]; exact W.start e tb r)
      cases q' : evSs F fn.body (begin_ fn.nn ds) with
      | next ρ =>
        rw [q'] at h1
        rcases h1 with ⟨_, h1, q⟩ | ⟨_, _, h1, _⟩
        · cases h1
          exact fun σ' H' ⟨G', s', _⟩ => q .non G' H' s' rfl
        · cases h1
      | ret d' =>
        rw [q'] at h1
        rcases h1 with ⟨_, h1, q⟩ | ⟨_, _, h1, _⟩
        · cases h1
          exact fun v H' ⟨G', s', r'⟩ => q v G' H' s' r'
        · cases h1
      | exc ρ c xs =>
        rw [q'] at h1
        rcases h1 with ⟨_, h1, q⟩ | ⟨_, _, h1, q⟩
        · cases h1
        · cases h1
          exact fun σ' H' cls dd ⟨G', s', _⟩ x' => q cls dd G' H' s' x'
      | brk ρ => rw [q'] at h1; rcases h1 with ⟨_, h1, _⟩ | ⟨_, _, h1, _⟩ <;> cases h1
      | cont ρ => rw [q'] at h1; rcases h1 with ⟨_, h1, _⟩ | ⟨_, _, h1, _⟩ <;> cases h1
      | stuck => rw [q'] at h1; rcases h1 with ⟨_, h1, _⟩ | ⟨_, _, h1, _⟩ <;> cases h1
    · rw [if_neg hl] at h1
      rcases h1 with ⟨_, h1, _⟩ | ⟨_, _, h1, _⟩ <;> cases h1
theorem callee_of {N ps Cs : List Str} {gl : List (Str × GC)} {F : List (List D → R D)} {fn : Fn} {st : Stmt} {x : Str} {f : Addr} {fd : FuncData} {k : Nat} (FF : Fun K x x st f fd) (hm : mg x = some (.ref f)) (hbd : Binds K fd ps []) (S : FnScope N ps (defScope st))
    (hn : fn.nn = N.length) (ha : fn.ar = ps.length) (hc : chkSs N Cs gl (defScope st) fn.body (defBody st) = true) (hb : ∀ y ∈ bltNames, mg y = none) (hg : Glb K mg gl) (ht : ("<genexpr>" : Str) ∈ Cs → ∃ c P, fd.code = .ref c ∧ (c, P) ∈ Tabs.ts ∧ GxR.TabB base mg c P) (hrf : RefG P w K mg base k Cs) (hf : Fns P w K mg base k Cs F) :
    Callee P w K mg base (k + 1) x (evF F fn) := ⟨f, fd, ps, hm, FF.kp, hbd, ok_def FF S hn ha hc hb hg ht hrf hf⟩
def spLaw (K : PySem.W.Frag) : Sp := fun vs H Q _ => ∃ (a : Addr) (ns : List Int), vs = [.ref a] ∧ SqL K H a (ns.map V.int) ∧ TabsIn H ∧ ns.length ≤ 63 ∧ ∀ H', Q (.bl true) H'
theorem law_of {g : List D → R D} {k : Nat} {f : Addr} {fd : FuncData} {ps : List Str} (h : FnOk P w K mg base (L2N.CX P w) k f fd ps (spD K g)) (hl : ∀ ns : List Int, ns.length ≤ 63 → g [.scr ns] = .ok (.bl true)) :
    FnOk P w K mg base (L2N.CX P w) k f fd ps (spLaw K) := h.imp fun vs H Q E ⟨a, ns, e, hs, tb, hn, q⟩ =>
  ⟨H, [.scr ns], by subst e; exact ⟨.ref a, [], rfl, ⟨a, rfl, hs⟩, rfl⟩, Ex.refl H, tb, .inl ⟨.bl true, hl ns hn, fun v G' H' s r => by cases (show v = V.bl true from r); exact q H'⟩⟩
omit [Tabs] in
/-- the same, where the limit of the Counters is only known with the script -/
theorem law_ofL {cs : List (Addr × Addr)} {rc : Addr × Addr × Addr} {g : Int → List D → R D} {k : Nat} {f : Addr} {fd : FuncData} {ps : List Str} (h : ∀ L : Int, FnOk P w K mg base (L2N.CX P w) k f fd ps (@spD ⟨cs, rc, L⟩ K (g L))) (hl : ∀ ns : List Int, ns.length ≤ 63 → ∃ L, g L [.scr ns] = .ok (.bl true)) :
    FnOk P w K mg base (L2N.CX P w) k f fd ps (@spLaw ⟨cs, rc, 0⟩ K) := by
  have key : ∀ vs H Q E, @spLaw ⟨cs, rc, 0⟩ K vs H Q E → ∃ L, @spD ⟨cs, rc, L⟩ K (g L) vs H Q E := fun vs H Q E ⟨a, ns, e, hs, tb, hn, q⟩ => by
    obtain ⟨L, hL⟩ := hl ns hn
    letI : Tabs := ⟨cs, rc, L⟩
    exact ⟨L, H, [.scr ns], by subst e; exact ⟨.ref a, [], rfl, ⟨a, rfl, hs⟩, rfl⟩, Ex.refl H, tb, .inl ⟨.bl true, hL, fun v G' H' s r => by cases (show v = V.bl true from r); exact q H'⟩⟩
  refine ⟨fun vs H Q E hs => ?_, fun A outer s H args us vs Q E h1 h2 h3 h4 hs => ?_⟩
  · obtain ⟨L, hs⟩ := key vs H Q E hs
    exact (h L).1 vs H Q E hs
  · obtain ⟨L, hs⟩ := key vs H Q E hs
    exact (h L).2 A outer s H args us vs Q E h1 h2 h3 h4 hs
theorem bltN (X : K.In h) (G : h.Ns mainGlobals mg) (z : (bltNames.all fun x => decide (PySem.W.nsIn K mainGlobals x = some none)) = true) : ∀ y ∈ bltNames, mg y = none := fun y hy => by
  have := List.all_eq_true.mp z y hy
  exact PySem.W.mg_none_of X G (of_decide_eq_true this)
theorem fns_none {f : Addr} {fd : FuncData} {ps : List Str} : FnOk P w K mg base (L2N.CX P w) 0 f fd ps (spD K fun _ => .stuck) := by
  refine ⟨fun vs H Q E h => ?_, fun A outer s H args us vs Q E _ _ _ _ h => ?_⟩ <;>
  · obtain ⟨_, _, _, _, _, h⟩ := h
    rcases h with ⟨_, h, _⟩ | ⟨_, _, h, _⟩ <;> cases h
/-- an error of the class at S is what «except S» names -/
theorem exm_me {K : PySem.W.Frag} {S : Addr} (h1 : PySem.W.subIn K (.ref S) (.type "BaseException") = some true) (h2 : PySem.W.isClsIn K S = true) (h3 : PySem.W.typeIn K (.ref S) = some (.type "type")) (h4 : PySem.W.subIn K (.ref S) (.ref S) = some true) :
    PySem.W.exmOne K (.ref S) (.ref S) = some true := by
  have e1 : (PySem.W.subIn K (.ref S) (.type "BaseException") == some true) = true := by rw [h1] <;> rfl
  have h2' : (PySem.W.clsIn K S).isSome = true := h2
  have e2 : ((PySem.W.clsIn K S).isSome && PySem.W.typeIn K (.ref S) == some (.type "type")) = true := by rw [h2', h3] <;> rfl
  show (if (PySem.W.subIn K (.ref S) (.type "BaseException") == some true) = true then (if ((PySem.W.clsIn K S).isSome && PySem.W.typeIn K (.ref S) == some (.type "type")) = true then PySem.W.subIn K (.ref S) (.ref S) else none) else none) = some true
  rw [if_pos e1, if_pos e2]
  exact h4
end
theorem cx_end {P : Program} (w : World) (H : Hp) (s : Shared) (e : Value) (s' : Shared) (h : L2N.CX P w [] H s (fun _ _ _ => False) e s') : False := by
  obtain ⟨_, _, _, _, _, _, _, _, _, _, _, _, z⟩ := h
  exact z

omit [Tabs] in
theorem tabIn_of {K : PySem.W.Frag} {x : Str} {f c P : Addr} {oc oc2 : Value} {od od2 : Option Addr} {fd : FuncData} {sl sl2 : Array (Option Value)} {vs : Array Value} (a : PySem.W.nsIn K mainGlobals x = some (some (.ref f))) (l : K.lookup f = some ⟨oc, od, .func fd, sl⟩)
    (hc : fd.code = .ref c) (u : K.lookup c = some ⟨oc2, od2, .fields vs, sl2⟩) (v : vs[11]? = some (.ref P)) : PySem.W.tabIn K x = some (c, P) := by
  unfold PySem.W.tabIn
  rw [a]
  simp only [l, hc, u, v]
omit [Tabs] in
theorem tab_code {K : PySem.W.Frag} {x : Str} {f c P : Addr} {oc : Value} {od : Option Addr} {fd : FuncData} {sl : Array (Option Value)} (a : PySem.W.nsIn K mainGlobals x = some (some (.ref f))) (l : K.lookup f = some ⟨oc, od, .func fd, sl⟩) (t : PySem.W.tabIn K x = some (c, P)) : fd.code = .ref c := by
  unfold PySem.W.tabIn at t
  rw [a] at t
  simp only [l] at t
  split at t
  · rename_i c2 hc
    split at t
    · split at t
      · cases t; exact hc
      · cases t
    · cases t
  · cases t
/-- a tuple of ints that the module's top made -/
def tupIs (K : PySem.W.Frag) (a : Addr) (ns : List Int) : Bool := match K.lookup a with
  | some ⟨.type "tuple", _, .seq its _, _⟩ => decide (its.toList.map (fun v => match v with | .int i _ => some i | _ => none) = ns.map some) && decide (its.size ≤ 1000)
  | _ => false
theorem vals_of : ∀ {its : List Value} {ns : List Int}, its.map (fun v => match v with | .int i _ => some i | _ => none) = ns.map some → Vals (ns.map V.int) its
  | [], [], _ => .nil
  | [], _ :: _, h => by cases h
  | _ :: _, [], h => by cases h
  | v :: its, n :: ns, h => by
    rw [List.map_cons, List.map_cons] at h
    injection h with h1 h2
    refine .cons ?_ (vals_of h2)
    split at h1
    · cases h1; exact ⟨_, rfl⟩
    · cases h1
theorem sqT_of {K : PySem.W.Frag} {a : Addr} {ns : List Int} (h : tupIs K a ns = true) (H : Hp) : SqT K H a (ns.map V.int) := by
  unfold tupIs at h
  split at h
  · rename_i q
    rw [Bool.and_eq_true, decide_eq_true_eq, decide_eq_true_eq] at h
    exact .inr ⟨_, _, _, q, rfl, rfl, Nat.le_trans h.2 (by decide), vals_of h.1⟩
  · cases h
omit [Tabs] in
/-- the law's end; cs: the code objects and tables of the defs named -/
theorem walk_tabs {l : PySem.W.OpenLaw} {k : Nat} {q : Program} {loose names : List Str} {XP : (Str → Option Value) → Heap → Prop} {YP : World → Heap → Prop} {d : DefRec} {K : Params → PySem.W.Frag} {x : Str}
    (hn : l.most = some 63) (hdf : d.params.defaults = []) (hr : Room k callerA) (hrec : (names.all fun x => (recsOf q).any fun e => e.name == x) = true) (hY : ∀ (w : World) (h : Heap), YP w h → (K w.params).In h)
    (F : ∀ (w : World) (mg : Str → Option Value) (fa : Addr) (h : Heap), (K w.params).In h → h.Ns mainGlobals mg → mg d.name = some (.ref fa) →
      ∃ (cs : List (Addr × Addr)) (rc : Addr × Addr × Addr) (fd : FuncData), (∀ p ∈ cs, ∃ y ∈ names, PySem.W.tabIn (K w.params) y = some p) ∧ (∀ p ∈ cs, (K w.params).lookup p.2 = none) ∧ (∀ (s : Shared) (u : Value), BindsTo s fd ⟨[u], []⟩ [(x, u)]) ∧
        ∀ base : Heap, (K w.params).In base → base.Ns mainGlobals mg → (∀ p ∈ cs, GxR.TabB base mg p.1 p.2) → FnOk l.prog w (K w.params) mg base (L2N.CX l.prog w) k fa fd [x] (@spLaw ⟨cs, rc, 0⟩ (K w.params))) :
    PySem.W.WalkO q loose XP YP l.row.toRowW d [] (fun f vs => PySem.call f vs) := by
  refine Att.attach_callB hn hdf fun w s₀ s₁ mg mb fa o pm cd doc a vs ns G Y ho hd hcd hmg hobj hints hlen hbits hg => ?_
  have KX := hY w _ Y
  obtain ⟨cs, rc, fd, hc, nT, hb, hF⟩ := F w mg fa _ KX G.T.g hmg
  have tab : ∀ p ∈ cs, PySem.W.CodeHd s₁.heap p.1 p.2 ∧ s₁.heap.get? p.2 = some (PySem.W.tabObj #[]) := fun p hp => by
    obtain ⟨y, hy, ht⟩ := hc p hp
    obtain ⟨d', hm, hn1⟩ := List.any_eq_true.mp (List.all_eq_true.mp hrec y hy)
    have : ((recsOf q).find? fun e => e.name == y).isSome = true := by rw [List.find?_isSome]; exact ⟨d', hm, hn1⟩
    obtain ⟨d2, hd2⟩ := Option.isSome_iff_exists.mp this
    exact PySem.W.tab_of (c := p.1) (P := p.2) G.T KX hd2 ht
  exact LamX.law_callTs KX G.T.g G.T.b G.T.builtins G.T.nolimit hg (fun p hp => (tab p hp).2) nT (fun p hp => (tab p hp).1) G.T.bmain hobj hints (Nat.le_trans hlen (by decide)) hr (fun base h1 h2 h3 => hF base h1 h2 fun p hp => ⟨(h3 p hp).1, (h3 p hp).2, (h3 p hp).3⟩) hb
    (fun H hH hS => ⟨a, ns, rfl, hS, fun p hp => ⟨#[], hH p hp, trivial⟩, hlen, fun _ => rfl⟩) fun H e s' => @cx_end ⟨cs, rc, 0⟩ _ w H s₁ e s'
end Pv

end
section
/-! Sim: how a text is run in a proof. -/
namespace Pv
/-- loops and comprehensions, kept closed -/
def forB (F : List (List D → R D)) (tg : Tg) (body : ISs) (xs : List D) (ρ : Env) : RS := forGo (fun x ρ' => RS.ofO (bindTg tg x ρ') fun ρ2 => evSs F body ρ2) xs ρ
def whlB (F : List (List D → R D)) (c : IE) (body : ISs) (n : Nat) (ρ : Env) : RS := whlGo (fun ρ' => (evE F zAll ρ' c).bind tst) (fun ρ' => evSs F body ρ') n ρ
def cmpB (F : List (List D → R D)) (z : Nat → Bool) (tg : Tg) (e : IE) (ρ : Env) (xs : List D) : R (List D) := compGo (fun x => (R.ofO (bindTg tg x ρ)).bind fun ρ' => (evE F z ρ' e).bind fun y => .ok (some y)) xs
def cmpIfB (F : List (List D → R D)) (z : Nat → Bool) (tg : Tg) (c e : IE) (ρ : Env) (xs : List D) : R (List D) := compGo (fun x => (R.ofO (bindTg tg x ρ)).bind fun ρ' => ((evE F z ρ' c).bind tst).bind fun t =>
      if t = true then (evE F z ρ' e).bind fun y => .ok (some y) else .ok none) xs
section
variable {F : List (List D → R D)} {z : Nat → Bool} {ρ : Env}
@[simp] theorem forB_nil {tg : Tg} {body : ISs} : forB F tg body [] ρ = .next ρ := Eq.trans rfl rfl
def forK (F : List (List D → R D)) (tg : Tg) (body : ISs) (xs : List D) (r : RS) : RS := match r with
  | .next ρ' => forB F tg body xs ρ'
  | .cont ρ' => forB F tg body xs ρ'
  | .brk ρ' => .next ρ'
  | .ret d => .ret d
  | .exc ρ c xs => .exc ρ c xs
  | .stuck => .stuck
theorem forB_cons {tg : Tg} {body : ISs} {x : D} {xs : List D} : forB F tg body (x :: xs) ρ = forK F tg body xs (RS.ofO (bindTg tg x ρ) fun ρ2 => evSs F body ρ2) := rfl
@[simp] theorem forK_next {tg : Tg} {body : ISs} {xs : List D} : forK F tg body xs (.next ρ) = forB F tg body xs ρ := Eq.trans rfl rfl
@[simp] theorem forK_cont {tg : Tg} {body : ISs} {xs : List D} : forK F tg body xs (.cont ρ) = forB F tg body xs ρ := Eq.trans rfl rfl
@[simp] theorem forK_brk {tg : Tg} {body : ISs} {xs : List D} : forK F tg body xs (.brk ρ) = .next ρ := Eq.trans rfl rfl
@[simp] theorem forK_ret {tg : Tg} {body : ISs} {xs : List D} {d : D} : forK F tg body xs (.ret d) = .ret d := Eq.trans rfl rfl
@[simp] theorem forK_ite {tg : Tg} {body : ISs} {xs : List D} (c : Prop) [Decidable c] (a b : RS) : forK F tg body xs (if c then a else b) = if c then forK F tg body xs a else forK F tg body xs b := by split <;> rfl
def whlK (F : List (List D → R D)) (c : IE) (body : ISs) (n : Nat) (r : RS) : RS := match r with
  | .next ρ' => whlB F c body n ρ'
  | .cont ρ' => whlB F c body n ρ'
  | .brk ρ' => .next ρ'
  | .ret d => .ret d
  | .exc ρ c xs => .exc ρ c xs
  | .stuck => .stuck
@[simp] theorem whlK_next {c : IE} {body : ISs} {n : Nat} : whlK F c body n (.next ρ) = whlB F c body n ρ := Eq.trans rfl rfl
@[simp] theorem whlK_cont {c : IE} {body : ISs} {n : Nat} : whlK F c body n (.cont ρ) = whlB F c body n ρ := Eq.trans rfl rfl
@[simp] theorem whlK_brk {c : IE} {body : ISs} {n : Nat} : whlK F c body n (.brk ρ) = .next ρ := Eq.trans rfl rfl
@[simp] theorem whlK_ret {c : IE} {body : ISs} {n : Nat} {d : D} : whlK F c body n (.ret d) = .ret d := Eq.trans rfl rfl
@[simp] theorem whlK_ite {e : IE} {body : ISs} {n : Nat} (c : Prop) [Decidable c] (a b : RS) : whlK F e body n (if c then a else b) = if c then whlK F e body n a else whlK F e body n b := by split <;> rfl
theorem whlB_succ {c : IE} {body : ISs} {n : Nat} : whlB F c body (n + 1) ρ = RS.of ((evE F zAll ρ c).bind tst) fun t => if t = true then whlK F c body n (evSs F body ρ) else .next ρ := rfl
@[simp] theorem cmpB_nil {tg : Tg} {e : IE} : cmpB F z tg e ρ [] = .ok [] := Eq.trans rfl rfl
theorem cmpB_cons {tg : Tg} {e : IE} {x : D} {xs : List D} : cmpB F z tg e ρ (x :: xs) = (R.ofO (bindTg tg x ρ)).bind fun ρ' => (evE F z ρ' e).bind fun y => (cmpB F z tg e ρ xs).bind fun ys => .ok (y :: ys) := by
  show (((R.ofO (bindTg tg x ρ)).bind fun ρ' => (evE F z ρ' e).bind fun y => R.ok (some y)).bind fun o => (cmpB F z tg e ρ xs).bind fun ys => .ok (match o with | some y => y :: ys | none => ys)) = _
  cases bindTg tg x ρ with
  | none => rfl
  | some ρ' =>
    show (((evE F z ρ' e).bind fun y => R.ok (some y)).bind fun o => (cmpB F z tg e ρ xs).bind fun ys => .ok (match o with | some y => y :: ys | none => ys)) = _
    show _ = (evE F z ρ' e).bind fun y => (cmpB F z tg e ρ xs).bind fun ys => .ok (y :: ys)
    cases evE F z ρ' e <;> rfl
@[simp] theorem cmpIfB_nil {tg : Tg} {c e : IE} : cmpIfB F z tg c e ρ [] = .ok [] := Eq.trans rfl rfl
theorem cmpIfB_cons {tg : Tg} {c e : IE} {x : D} {xs : List D} : cmpIfB F z tg c e ρ (x :: xs) = (R.ofO (bindTg tg x ρ)).bind fun ρ' => ((evE F z ρ' c).bind tst).bind fun t => if t = true then (evE F z ρ' e).bind fun y => (cmpIfB F z tg c e ρ xs).bind fun ys => .ok (y :: ys) else cmpIfB F z tg c e ρ xs := by
  show (((R.ofO (bindTg tg x ρ)).bind fun ρ' => ((evE F z ρ' c).bind tst).bind fun t => if t = true then (evE F z ρ' e).bind fun y => R.ok (some y) else .ok none).bind fun o => (cmpIfB F z tg c e ρ xs).bind fun ys => .ok (match o with | some y => y :: ys | none => ys)) = _
  cases bindTg tg x ρ with
  | none => rfl
  | some ρ' =>
    show ((((evE F z ρ' c).bind tst).bind fun t => if t = true then (evE F z ρ' e).bind fun y => R.ok (some y) else .ok none).bind fun o => (cmpIfB F z tg c e ρ xs).bind fun ys => .ok (match o with | some y => y :: ys | none => ys)) = _
    show _ = ((evE F z ρ' c).bind tst).bind fun t => if t = true then (evE F z ρ' e).bind fun y => (cmpIfB F z tg c e ρ xs).bind fun ys => .ok (y :: ys) else cmpIfB F z tg c e ρ xs
    cases (evE F z ρ' c).bind tst with
    | ok t =>
      cases t with
      | true =>
        show (((evE F z ρ' e).bind fun y => R.ok (some y)).bind fun o => (cmpIfB F z tg c e ρ xs).bind fun ys => .ok (match o with | some y => y :: ys | none => ys)) = (evE F z ρ' e).bind fun y => (cmpIfB F z tg c e ρ xs).bind fun ys => .ok (y :: ys)
        cases evE F z ρ' e <;> rfl
      | false =>
        show ((cmpIfB F z tg c e ρ xs).bind fun ys => .ok ys) = cmpIfB F z tg c e ρ xs
        cases cmpIfB F z tg c e ρ xs <;> rfl
    | exc c xs => rfl
    | stuck => rfl
@[simp] theorem evS_for {it : Itr} {tg : Tg} {body : ISs} {fz : List Nat} : evS F (.forr it tg body fz) ρ = RS.of (evI F (if isRng it then zAll else zOf fz) ρ it) fun xs => forB F tg body xs (if isRng it then ρ else frz fz ρ) := by rw [evS]; first | done | rfl
@[simp] theorem evS_whl {c : IE} {body : ISs} {n : Nat} : evS F (.whl c body n) ρ = whlB F c body n ρ := by rw [evS]; first | done | rfl
@[simp] theorem evE_comp {it : Itr} {tg : Tg} {e : IE} {own : List Nat} : evE F z ρ (.comp it tg e own) = (evI F z ρ it).bind fun xs => R.when (xs.length ≤ line) ((cmpB F z tg e (wipeE ρ own) xs).bind fun ys => .ok (.lst ys)) := by rw [evE]; rfl
@[simp] theorem evE_compIf {it : Itr} {tg : Tg} {c e : IE} {own : List Nat} : evE F z ρ (.compIf it tg c e own) = (evI F z ρ it).bind fun xs => R.when (xs.length ≤ line) ((cmpIfB F z tg c e (wipeE ρ own) xs).bind fun ys => .ok (.lst ys)) := by rw [evE]; rfl
def cmp2B (F : List (List D → R D)) (z : Nat → Bool) (i : Nat) (b : IE) (j : Nat) (e : IE) (ρ : Env) (xs : List D) : R (List D) := compGo2 (fun x => ((evE F z (ρ.set i (.val x)) b).bind asLst).bind fun ys => cmpB F z (.one j) e (ρ.set i (.val x)) ys) xs
@[simp] theorem evE_comp2 {it : Itr} {i j : Nat} {b e : IE} {own : List Nat} : evE F z ρ (.comp2 it i b j e own) = (evI F z ρ it).bind fun xs => R.when (xs.length ≤ line) ((cmp2B F z i b j e (wipeE ρ own) xs).bind fun zs => R.when (zs.length ≤ line) (.ok (.lst zs))) := by rw [evE]; rfl
@[simp] theorem cmp2B_nil {i j : Nat} {b e : IE} : cmp2B F z i b j e ρ [] = .ok [] := Eq.trans rfl rfl
theorem cmp2B_cons {i j : Nat} {b e : IE} {x : D} {xs : List D} : cmp2B F z i b j e ρ (x :: xs) = ((evE F z (ρ.set i (.val x)) b).bind asLst).bind fun ys => (cmpB F z (.one j) e (ρ.set i (.val x)) ys).bind fun us => (cmp2B F z i b j e ρ xs).bind fun zs => .ok (us ++ zs) := by
  show ((((evE F z (ρ.set i (.val x)) b).bind asLst).bind fun ys => cmpB F z (.one j) e (ρ.set i (.val x)) ys).bind fun us => (cmp2B F z i b j e ρ xs).bind fun zs => .ok (us ++ zs)) = _
  cases ((evE F z (ρ.set i (.val x)) b).bind asLst) <;> rfl
@[simp] theorem asLst_lst (ys : List D) : asLst (.lst ys) = R.when (ys.length ≤ line) (.ok ys) := Eq.trans rfl rfl
def chnR (k : R D) (d : D) : R D := match d with
  | .bl true => k
  | .bl false => .ok (.bl false)
  | _ => .stuck
@[simp] theorem chnR_bl (k : R D) (b : Bool) : chnR k (.bl b) = if b = true then k else .ok (.bl false) := by cases b <;> rfl
def callO (o : Option (List D → R D)) (xs : List D) : R D := match o with
  | some g => g xs
  | none => .stuck
@[simp] theorem callO_some (g : List D → R D) (xs : List D) : callO (some g) xs = g xs := Eq.trans rfl rfl
@[simp] theorem evE_var (i : Nat) : evE F z ρ (.var i) = look z ρ i := by rw [evE]
@[simp] theorem evE_glob (i : Int) : evE F z ρ (.glob i) = .ok (.int i) := by rw [evE]
@[simp] theorem evE_globT (is : List Int) : evE F z ρ (.globT is) = .ok (.tup (is.map D.int)) := by rw [evE]
@[simp] theorem evE_allMin (a : IE) : evE F z ρ (.allMin a) = (evE F z ρ a).bind allMinD := by rw [evE]
@[simp] theorem evE_allLt (a b : IE) : evE F z ρ (.allLt a b) = (evE F z ρ a).bind fun x => (evE F z ρ b).bind fun y => allLtD x y := by rw [evE]
@[simp] theorem evE_ixo (i : Nat) (k : IE) : evE F z ρ (.ixo i k) = (evE F z ρ k).bind fun kd => ixoD (ρ[i]?) kd := by rw [evE]
@[simp] theorem ixoD_own (ds : List D) (k : D) : ixoD (some (.own ds)) k = ixD (.lst ds) k := Eq.trans rfl rfl
@[simp] theorem ixoD_val (d k : D) : ixoD (some (.val d)) k = ixD d k := Eq.trans rfl rfl
@[simp] theorem evE_allMod (i : Nat) (a : IE) : evE F z ρ (.allMod i a) = (evE F z ρ a).bind (allModD (ρ[i]?)) := by rw [evE]
@[simp] theorem evE_mulRep (s : List Nat) (m a : IE) (c : Nat) (r : List Nat) : evE F z ρ (.mulRep s m a c r) = (evE F z ρ m).bind fun k => (mulD (.str s) k).bind fun x => (evE F z ρ a).bind fun y => (replD c r y).bind fun w => addD x w := by rw [evE]
@[simp] theorem evE_addRep (s : List Nat) (a : IE) (c : Nat) (r : List Nat) : evE F z ρ (.addRep s a c r) = (evE F z ρ a).bind fun y => (replD c r y).bind fun w => addD (.str s) w := by rw [evE]
@[simp] theorem evE_dsel (ps : List (List Nat × CV)) (e : IE) : evE F z ρ (.dsel ps e) = (evE F z ρ e).bind (dselD ps) := by rw [evE]
@[simp] theorem dselD_str (ps : List (List Nat × CV)) (s : List Nat) : dselD ps (.str s) = (R.ofO (dfind none ps s)).bind fun v => .ok v.d := Eq.trans rfl rfl
@[simp] theorem evE_min0 (a : IE) : evE F z ρ (.min0 a) = (evE F z ρ a).bind min0D := by rw [evE]
@[simp] theorem evE_allDig (a : IE) : evE F z ρ (.allDig a) = (evE F z ρ a).bind allDigD := by rw [evE]
@[simp] theorem evE_non  : evE F z ρ (.non) = .ok .non := by rw [evE]
@[simp] theorem evE_bl (b : Bool) : evE F z ρ (.bl b) = .ok (.bl b) := by rw [evE]
@[simp] theorem evE_int (i : Int) : evE F z ρ (.int i) = .ok (.int i) := by rw [evE]
@[simp] theorem evE_str (s : List Nat) : evE F z ρ (.str s) = .ok (.str s) := by rw [evE]
@[simp] theorem evE_op2 (o : O2) (a b : IE) : evE F z ρ (.op2 o a b) = (evE F z ρ a).bind fun x => (evE F z ρ b).bind fun y => op2 o x y := by rw [evE]
@[simp] theorem evE_neg (a : IE) : evE F z ρ (.neg a) = (evE F z ρ a).bind negD := by rw [evE]
@[simp] theorem evE_not (a : IE) : evE F z ρ (.not a) = ((evE F z ρ a).bind tst).bind fun t => .ok (.bl (!t)) := by rw [evE]
@[simp] theorem evE_and (a b : IE) : evE F z ρ (.and a b) = (evE F z ρ a).bind fun x => (tst x).bind fun t => if t = true then evE F z ρ b else .ok x := by rw [evE]
@[simp] theorem evE_or (a b : IE) : evE F z ρ (.or a b) = (evE F z ρ a).bind fun x => (tst x).bind fun t => if t = true then .ok x else evE F z ρ b := by rw [evE]
@[simp] theorem evE_ite (c a b : IE) : evE F z ρ (.ite c a b) = ((evE F z ρ c).bind tst).bind fun t => if t = true then evE F z ρ a else evE F z ρ b := by rw [evE]
@[simp] theorem evE_chain (o p : O2) (a b c : IE) : evE F z ρ (.chain o p a b c) = (evE F z ρ a).bind fun x => (evE F z ρ b).bind fun y => (op2 o x y).bind (chnR ((evE F z ρ c).bind fun w => op2 p y w)) := by rw [evE]; rfl
@[simp] theorem evE_chain3 (a b c d : IE) : evE F z ρ (.chain3 a b c d) = (evE F z ρ a).bind fun x => (evE F z ρ b).bind fun y => (op2 .le x y).bind (chnR ((evE F z ρ c).bind fun w => (cmpD (fun i j => decide (i < j)) y w).bind (chnR ((evE F z ρ d).bind fun v => cmpD (fun i j => decide (i < j)) w v)))) := by rw [evE]; first | done | rfl
@[simp] theorem evE_chain3e (a b c d : IE) : evE F z ρ (.chain3e a b c d) = (evE F z ρ a).bind fun x => (evE F z ρ b).bind fun y => (op2 .le x y).bind (chnR ((evE F z ρ c).bind fun w => (cmpD (fun i j => decide (i ≤ j)) y w).bind (chnR ((evE F z ρ d).bind fun v => cmpD (fun i j => decide (i ≤ j)) w v)))) := by rw [evE]; first | done | rfl
@[simp] theorem evE_isN (a : IE) : evE F z ρ (.isN a) = (evE F z ρ a).bind fun x => .ok (.bl x.isNon) := by rw [evE]
@[simp] theorem evE_notN (a : IE) : evE F z ρ (.notN a) = (evE F z ρ a).bind fun x => .ok (.bl (!x.isNon)) := by rw [evE]
@[simp] theorem evE_slice (a lo hi : IE) : evE F z ρ (.slice a lo hi) = (evE F z ρ a).bind fun x => (evE F z ρ lo).bind fun l => (partO (isNon lo) l).bind fun l => (evE F z ρ hi).bind fun h => (partO (isNon hi) h).bind fun h => sliceD x l h := by rw [evE]
@[simp] theorem evE_rev (a : IE) : evE F z ρ (.rev a) = (evE F z ρ a).bind revD := by rw [evE]
@[simp] theorem evE_tup (es : IEs) : evE F z ρ (.tup es) = (evEs F z ρ es).bind fun xs => R.when (xs.length ≤ line) (.ok (.tup xs)) := by rw [evE]
@[simp] theorem evE_lst (es : IEs) : evE F z ρ (.lst es) = (evEs F z ρ es).bind fun xs => R.when (xs.length ≤ line) (.ok (.lst xs)) := by rw [evE]
@[simp] theorem evE_call (f : Nat) (es : IEs) : evE F z ρ (.call f es) = (evEs F z ρ es).bind (callO F[f]?) := by rw [evE]; rfl
@[simp] theorem evE_blt (b : Bl) (es : IEs) : evE F z ρ (.blt b es) = (evEs F z ρ es).bind (blt b) := by rw [evE]
@[simp] theorem evE_isinst (t : Ty) (a : IE) : evE F z ρ (.isinst t a) = (evE F z ρ a).bind (isTyR t) := by rw [evE]
@[simp] theorem isTyR_non (t : Ty) : isTyR t .non = .ok (.bl (isTy t .non)) := Eq.trans rfl rfl
@[simp] theorem isTyR_bl (t : Ty) (b : Bool) : isTyR t (.bl b) = .ok (.bl (isTy t (.bl b))) := Eq.trans rfl rfl
@[simp] theorem isTyR_int (t : Ty) (b : Int) : isTyR t (.int b) = .ok (.bl (isTy t (.int b))) := Eq.trans rfl rfl
@[simp] theorem isTyR_str (t : Ty) (b : List Nat) : isTyR t (.str b) = .ok (.bl (isTy t (.str b))) := Eq.trans rfl rfl
@[simp] theorem isTyR_tup (t : Ty) (b : List D) : isTyR t (.tup b) = .ok (.bl (isTy t (.tup b))) := Eq.trans rfl rfl
@[simp] theorem isTyR_lst (t : Ty) (b : List D) : isTyR t (.lst b) = .ok (.bl (isTy t (.lst b))) := Eq.trans rfl rfl
@[simp] theorem isTyR_scr (t : Ty) (b : List Int) : isTyR t (.scr b) = .ok (.bl (isTy t (.scr b))) := Eq.trans rfl rfl
@[simp] theorem evE_rangeL (es : IEs) : evE F z ρ (.rangeL es) = (evEs F z ρ es).bind fun xs => (rng xs).bind fun ys => .ok (.lst ys) := by rw [evE]
def _root_.Pv.RS.when (c : Prop) [Decidable c] (r : RS) : RS := if c then r else .stuck
@[simp] theorem rs_when {c : Prop} [Decidable c] {r : RS} (h : c) : RS.when c r = r := if_pos h
@[simp] theorem evS_asg (i : Nat) (e : IE) (fz : List Nat) : evS F (.asg i e fz) ρ = RS.of (evE F (zOf fz) ρ e) fun d => .next ((kept fz d ρ).set i (.val d)) := by rw [evS]; try rfl
@[simp] theorem evS_asgL (i : Nat) (e : IE) (fz : List Nat) : evS F (.asgL i e fz) ρ = RS.of (evE F (zOf fz) ρ e) fun d => match d with | .lst ds => .next ((if D.nols ds = true then ρ else frz fz ρ).set i (.own ds)) | _ => .stuck := by rw [evS]; try rfl
@[simp] theorem evS_unp (is : List Nat) (e : IE) (fz : List Nat) : evS F (.unp is e fz) ρ = RS.of (evE F (zOf fz) ρ e) fun d => match d with | .tup ds => RS.ofO (setAll is ds (kept fz d ρ)) fun ρ' => .next ρ' | _ => .stuck := by rw [evS]; try rfl
@[simp] theorem evS_par (i j : Nat) (a b : IE) (fz : List Nat) : evS F (.par i j a b fz) ρ = RS.of (evE F (zOf fz) ρ a) fun x => RS.of (evE F (zOf fz) ρ b) fun y => .next (((kept fz (.tup [x, y]) ρ).set i (.val x)).set j (.val y)) := by rw [evS]; try rfl
@[simp] theorem evS_app (i : Nat) (e : IE) : evS F (.app i e) ρ = RS.of (evE F zAll ρ e) fun d => RS.ofO (getOwn ρ i) fun ds => RS.when (ds.length < line ∧ d.nol = true) (.next (ρ.set i (.own (ds ++ [d])))) := by rw [evS]; try rfl
@[simp] theorem evS_appL (i : Nat) (e : IE) (fz : List Nat) : evS F (.appL i e fz) ρ = RS.of (evE F (zOf fz) ρ e) fun d => RS.ofO (getOwn (frz fz ρ) i) fun ds => RS.when (ds.length < line) (.next ((frz fz ρ).set i (.own (ds ++ [d])))) := by rw [evS]; try rfl
@[simp] theorem evS_popx (i : Nat) : evS F (.popx i) ρ = RS.ofO (getOwn ρ i) fun ds => RS.when (0 < ds.length) (.next (ρ.set i (.own ds.dropLast))) := by rw [evS]; try rfl
@[simp] theorem evS_setx (i : Nat) (k e : IE) : evS F (.setx i k e) ρ = RS.of (evE F zAll ρ e) fun d => RS.of (evE F zAll ρ k) fun kd => RS.ofO (getOwn ρ i) fun ds => match kd with | .int n => RS.ofO (ixN ds.length n) fun j => RS.when (d.nol = true) (.next (ρ.set i (.own (ds.set j d)))) | _ => .stuck := by rw [evS]; try rfl
@[simp] theorem evS_expr (e : IE) : evS F (.expr e) ρ = RS.of (evE F zAll ρ e) fun _ => .next ρ := by rw [evS]; try rfl
@[simp] theorem evS_ret (e : IE) (fz : List Nat) : evS F (.ret e fz) ρ = RS.of (evE F (zOf fz) ρ e) fun d => .ret d := by rw [evS]; try rfl
@[simp] theorem evS_retN  : evS F (.retN) ρ = .ret .non := by rw [evS]; try rfl
@[simp] theorem evS_ite (c : IE) (a b : ISs) : evS F (.ite c a b) ρ = RS.of ((evE F zAll ρ c).bind tst) fun t => if t = true then evSs F a ρ else evSs F b ρ := by rw [evS]; try rfl
@[simp] theorem evS_brk  : evS F (.brk) ρ = .brk ρ := by rw [evS]; try rfl
@[simp] theorem evS_cont  : evS F (.cont) ρ = .cont ρ := by rw [evS]; try rfl
@[simp] theorem evS_pass  : evS F (.pass) ρ = .next ρ := by rw [evS]; try rfl
@[simp] theorem evSs_nil : evSs F .nil ρ = .next ρ := by rw [evSs]
def seqR (F : List (List D → R D)) (ss : ISs) : RS → RS
  | .next ρ' => evSs F ss ρ'
  | .brk ρ' => .brk ρ'
  | .cont ρ' => .cont ρ'
  | .ret d => .ret d
  | .exc ρ c xs => .exc ρ c xs
  | .stuck => .stuck
@[simp] theorem evSs_cons (s : IS) (ss : ISs) : evSs F (.cons s ss) ρ = seqR F ss (evS F s ρ) := by rw [evSs]; cases evS F s ρ <;> rfl
@[simp] theorem seqR_next (ss : ISs) : seqR F ss (.next ρ) = evSs F ss ρ := Eq.trans rfl rfl
@[simp] theorem seqR_brk (ss : ISs) : seqR F ss (.brk ρ) = .brk ρ := Eq.trans rfl rfl
@[simp] theorem seqR_cont (ss : ISs) : seqR F ss (.cont ρ) = .cont ρ := Eq.trans rfl rfl
@[simp] theorem seqR_ret (ss : ISs) (d : D) : seqR F ss (.ret d) = .ret d := Eq.trans rfl rfl
@[simp] theorem seqR_ite (ss : ISs) (c : Prop) [Decidable c] (a b : RS) : seqR F ss (if c then a else b) = if c then seqR F ss a else seqR F ss b := by split <;> rfl
@[simp] theorem evEs_nil : evEs F z ρ .nil = .ok [] := by rw [evEs]
@[simp] theorem evEs_cons (e : IE) (es : IEs) : evEs F z ρ (.cons e es) = (evE F z ρ e).bind fun x => (evEs F z ρ es).bind fun xs => .ok (x :: xs) := by rw [evEs]
@[simp] theorem evI_seq (e : IE) : evI F z ρ (.seq e) = (evE F z ρ e).bind iterD := by rw [evI]
@[simp] theorem evI_rng (es : IEs) : evI F z ρ (.rng es) = (evEs F z ρ es).bind rng3 := by rw [evI]
@[simp] theorem evI_enm (e : IE) : evI F z ρ (.enm e) = (evE F z ρ e).bind fun x => (enumI x).bind fun xs => .ok (enumD 0 xs) := by rw [evI]
@[simp] theorem evI_zip (a b : IE) : evI F z ρ (.zip a b) = (evE F z ρ a).bind fun x => (evE F z ρ b).bind fun y => zipI x y := by rw [evI]
end
@[simp] theorem forK_exc {F : List (List D → R D)} {ρ : Env} {tg : Tg} {body : ISs} {xs : List D} {c : Nat} {ys : List D} : forK F tg body xs (.exc ρ c ys) = .exc ρ c ys := Eq.trans rfl rfl
@[simp] theorem whlK_exc {F : List (List D → R D)} {ρ : Env} {e : IE} {body : ISs} {n : Nat} {c : Nat} {ys : List D} : whlK F e body n (.exc ρ c ys) = .exc ρ c ys := Eq.trans rfl rfl
@[simp] theorem seqR_exc {F : List (List D → R D)} {ρ : Env} (ss : ISs) {c : Nat} {ys : List D} : seqR F ss (.exc ρ c ys) = .exc ρ c ys := Eq.trans rfl rfl
section
variable {F : List (List D → R D)} {z : Nat → Bool} {ρ : Env}
@[simp] theorem evE_fmt (e : IE) : evE F z ρ (.fmt e) = (evE F z ρ e).bind fmtD := by rw [evE]
@[simp] theorem evE_fstr (es : IEs) : evE F z ρ (.fstr es) = (evEs F z ρ es).bind fstrD := by rw [evE]
@[simp] theorem fmtD_int (i : Int) : fmtD (.int i) = R.when (-10000000000 < i ∧ i < 10000000000) (.ok (.str (showI i))) := Eq.trans rfl rfl
@[simp] theorem fmtD_str (s : List Nat) : fmtD (.str s) = R.when (s.length ≤ line) (.ok (.str s)) := Eq.trans rfl rfl
@[simp] theorem evX_call (f : Nat) (es : IEs) : evX F z ρ (.call f es) = (evEs F z ρ es).calm (callO F[f]?) := by rw [evX]; first | done | rfl
@[simp] theorem evX_blt1 (b : Bl) (x : XE) : evX F z ρ (.blt1 b x) = (evX F z ρ x).bind fun d => (blt b [d]).calm fun y => .ok y := by rw [evX]
@[simp] theorem evX_op2R (o : O2) (a : IE) (x : XE) : evX F z ρ (.op2R o a x) = (evE F z ρ a).calm fun u => (evX F z ρ x).bind fun d => (op2 o u d).calm fun y => .ok y := by rw [evX]
@[simp] theorem evX_isN (x : XE) : evX F z ρ (.isN x) = (evX F z ρ x).bind fun d => .ok (.bl d.isNon) := by rw [evX]
@[simp] theorem evX_ixX (x : XE) (k : Int) : evX F z ρ (.ixX x k) = (evX F z ρ x).bind fun d => (ixD d (.int k)).calm fun y => .ok y := by rw [evX]
@[simp] theorem evX_notN (x : XE) : evX F z ρ (.notN x) = (evX F z ρ x).bind fun d => .ok (.bl (!d.isNon)) := by rw [evX]
def raisR (ρ : Env) : D → RS
  | .str s => .exc ρ 0 [.str s]
  | _ => .stuck
@[simp] theorem raisR_str (s : List Nat) : raisR ρ (.str s) = .exc ρ 0 [.str s] := Eq.trans rfl rfl
@[simp] theorem evS_raisE (e : IE) : evS F (.raisE e) ρ = RS.of (evE F zAll ρ e) (raisR ρ) := by rw [evS]; first | done | rfl
@[simp] theorem raisBR_ok (n : Int) (s : List Nat) : raisBR ρ (.int n) (.str s) = RS.when (0 ≤ n ∧ n < 1000000 ∧ s.length ≤ 100) (.exc ρ 1 [.int n, .str s]) := Eq.trans rfl rfl
@[simp] theorem evS_raisB (a b : IE) : evS F (.raisB a b) ρ = RS.of (evE F zAll ρ a) fun x => RS.of (evE F zAll ρ b) fun y => raisBR ρ x y := by rw [evS]
def unpLR (is : List Nat) (fz : List Nat) (ρ : Env) : D → RS
  | .lst ds => RS.ofO (setAll is ds (kept fz (.lst ds) ρ)) fun ρ' => .next ρ'
  | _ => .stuck
@[simp] theorem unpLR_lst (is : List Nat) (fz : List Nat) (ds : List D) : unpLR is fz ρ (.lst ds) = RS.ofO (setAll is ds (kept fz (.lst ds) ρ)) fun ρ' => .next ρ' := Eq.trans rfl rfl
@[simp] theorem evS_unpXL (is : List Nat) (x : XE) (fz : List Nat) : evS F (.unpXL is x fz) ρ = RS.ofX ρ (evX F (zOf fz) ρ x) (unpLR is fz ρ) := by
  rw [evS]; congr 1; funext d; cases d <;> rfl
@[simp] theorem evS_appX (i : Nat) (x : XE) : evS F (.appX i x) ρ = RS.ofO (getOwn ρ i) fun ds => RS.ofX ρ (evX F zAll ρ x) fun d => RS.when (ds.length < line ∧ d.nol = true) (.next (ρ.set i (.own (ds ++ [d])))) := by rw [evS]; first | done | rfl
@[simp] theorem evS_exprX (x : XE) : evS F (.exprX x) ρ = RS.ofX ρ (evX F zAll ρ x) fun _ => .next ρ := by rw [evS]
@[simp] theorem evS_asgX (i : Nat) (x : XE) (fz : List Nat) : evS F (.asgX i x fz) ρ = RS.ofX ρ (evX F (zOf fz) ρ x) fun d => .next ((kept fz d ρ).set i (.val d)) := by rw [evS]
@[simp] theorem evS_unpL (is : List Nat) (e : IE) (fz : List Nat) : evS F (.unpL is e fz) ρ = RS.of (evE F (zOf fz) ρ e) fun d => match d with | .lst ds => RS.ofO (setAll is ds (kept fz d ρ)) fun ρ' => .next ρ' | _ => .stuck := by rw [evS]; first | done | rfl
def extR (fz : List Nat) (i : Nat) (ρ : Env) : D → RS
  | .lst es => RS.ofO (getOwn (frz fz ρ) i) fun ds => RS.when (ds.length + es.length ≤ line) (.next ((frz fz ρ).set i (.own (ds ++ es))))
  | _ => .stuck
@[simp] theorem evS_ext (i : Nat) (e : IE) (fz : List Nat) : evS F (.ext i e fz) ρ = RS.of (evE F (zOf fz) ρ e) (extR fz i ρ) := by rw [evS]; first | done | rfl
@[simp] theorem extR_lst (fz : List Nat) (i : Nat) (ρ : Env) (es : List D) : extR fz i ρ (.lst es) = RS.ofO (getOwn (frz fz ρ) i) fun ds => RS.when (ds.length + es.length ≤ line) (.next ((frz fz ρ).set i (.own (ds ++ es)))) := Eq.trans rfl rfl
@[simp] theorem evS_unpG (tg : Tg) (e : IE) (fz : List Nat) : evS F (.unpG tg e fz) ρ = RS.of (evE F (zOf fz) ρ e) fun d => RS.ofO (bindTg tg d (kept fz d ρ)) fun ρ' => .next ρ' := by rw [evS]
@[simp] theorem evS_unpX (is : List Nat) (x : XE) (fz : List Nat) : evS F (.unpX is x fz) ρ = RS.ofX ρ (evX F (zOf fz) ρ x) fun d => match d with | .tup ds => RS.ofO (setAll is ds (kept fz d ρ)) fun ρ' => .next ρ' | _ => .stuck := by rw [evS]; first | done | rfl
@[simp] theorem evS_retX (x : XE) (fz : List Nat) : evS F (.retX x fz) ρ = RS.ofX ρ (evX F (zOf fz) ρ x) fun d => .ret d := by rw [evS]
@[simp] theorem evS_iteX (x : XE) (a b : ISs) : evS F (.iteX x a b) ρ = RS.ofX ρ (evX F zAll ρ x) fun d => RS.of (tst d) fun t => if t = true then evSs F a ρ else evSs F b ρ := by rw [evS]
def tryR (i : Nat) (h : Hd) : RS → RS
  | .next ρ' => .next ρ'
  | .brk ρ' => .brk ρ'
  | .cont ρ' => .cont ρ'
  | .ret d => .ret d
  | .exc ρ' c xs => hdl i h ρ' c xs
  | .stuck => .stuck
@[simp] theorem evS_tryE (body : ISs) (i : Nat) (h : Hd) : evS F (.tryE body i h) ρ = tryR i h (evSs F body ρ) := by rw [evS]; cases evSs F body ρ <;> rfl
def tryBR (i w : Nat) : RS → RS
  | .next ρ' => .next ρ'
  | .brk ρ' => .brk ρ'
  | .cont ρ' => .cont ρ'
  | .ret d => .ret d
  | .exc ρ' c xs => hdlB i w ρ' c xs
  | .stuck => .stuck
@[simp] theorem evS_tryB (body : ISs) (i w : Nat) : evS F (.tryB body i w) ρ = tryBR i w (evSs F body ρ) := by rw [evS]; cases evSs F body ρ <;> rfl
@[simp] theorem tryBR_next (i w : Nat) : tryBR i w (.next ρ) = .next ρ := Eq.trans rfl rfl
@[simp] theorem tryBR_ret (i w : Nat) (d : D) : tryBR i w (.ret d) = .ret d := Eq.trans rfl rfl
@[simp] theorem tryBR_exc (i w : Nat) (c : Nat) (xs : List D) : tryBR i w (.exc ρ c xs) = hdlB i w ρ c xs := Eq.trans rfl rfl
@[simp] theorem tryR_next (i : Nat) (h : Hd) : tryR i h (.next ρ) = .next ρ := Eq.trans rfl rfl
@[simp] theorem tryR_ret (i : Nat) (h : Hd) (d : D) : tryR i h (.ret d) = .ret d := Eq.trans rfl rfl
@[simp] theorem tryR_what {i : Nat} {s : List Nat} (h : i < ρ.length) : tryR i .what (.exc ρ 0 [.str s]) = .ret (.str s) := if_pos h
@[simp] theorem blt_strip : blt .strip = stripB := Eq.trans rfl rfl
@[simp] theorem blt_index : blt .index = indexB := Eq.trans rfl rfl
@[simp] theorem blt_count : blt .count = countB := Eq.trans rfl rfl
@[simp] theorem blt_any : blt .any = anyB := Eq.trans rfl rfl
theorem blsOf_map : ∀ bs : List Bool, blsOf (bs.map D.bl) = some bs
  | [] => rfl
  | b :: bs => by rw [List.map_cons, blsOf, blsOf_map bs]; rfl
@[simp] theorem anyB_bls (bs : List Bool) : anyB [.lst (bs.map D.bl)] = .ok (.bl (bs.any id)) := by
  show (R.ofO (blsOf (bs.map D.bl))).bind _ = _
  rw [blsOf_map]; rfl
@[simp] theorem countB_bls (bs : List Bool) (b : Bool) : countB [.lst (bs.map D.bl), .bl b] = .ok (.int (bs.count b)) := by
  show (R.ofO (blsOf (bs.map D.bl))).bind _ = _
  rw [blsOf_map]; rfl
end
/-! the parts -/
@[simp] theorem get_0 {α : Type} (a : α) (l : List α) : (a :: l)[0]? = some a := Eq.trans rfl rfl
@[simp] theorem get_s {α : Type} (a : α) (l : List α) (n : Nat) : (a :: l)[n + 1]? = l[n]? := Eq.trans rfl rfl
def lookS (z : Nat → Bool) (i : Nat) : Option Slot → R D
  | some (.val d) => .ok d
  | some (.own ds) => if z i then .ok (.lst ds) else .stuck
  | _ => .stuck
@[simp] theorem look_eq (z : Nat → Bool) (ρ : Env) (i : Nat) : look z ρ i = lookS z i ρ[i]? := by
  unfold look lookS
  rfl
@[simp] theorem lookS_val (z : Nat → Bool) (i : Nat) (d : D) : lookS z i (some (.val d)) = .ok d := Eq.trans rfl rfl
@[simp] theorem lookS_own (z : Nat → Bool) (i : Nat) (ds : List D) : lookS z i (some (.own ds)) = if z i = true then .ok (.lst ds) else .stuck := Eq.trans rfl rfl
def ownS : Option Slot → Option (List D)
  | some (.own ds) => some ds
  | _ => none
@[simp] theorem getOwn_eq (ρ : Env) (i : Nat) : getOwn ρ i = ownS ρ[i]? := by
  unfold getOwn ownS
  rfl
@[simp] theorem ownS_own (ds : List D) : ownS (some (.own ds)) = some ds := Eq.trans rfl rfl
@[simp] theorem zAll_eq (i : Nat) : zAll i = true := Eq.trans rfl rfl
@[simp] theorem zOf_eq (fz : List Nat) (i : Nat) : zOf fz i = fz.contains i := Eq.trans rfl rfl
@[simp] theorem kept_nil (d : D) (ρ : Env) : kept [] d ρ = ρ := by unfold kept; split <;> rfl
@[simp] theorem kept_cons (i : Nat) (fz : List Nat) (d : D) (ρ : Env) : kept (i :: fz) d ρ = if d.nol = true then ρ else frz (i :: fz) ρ := Eq.trans rfl rfl
@[simp] theorem frz_nil (ρ : Env) : frz [] ρ = ρ := Eq.trans rfl rfl
def frz1 (i : Nat) (ρ : Env) : Option Slot → Env
  | some (.own ds) => ρ.set i (.val (.lst ds))
  | _ => ρ
@[simp] theorem frz_cons (i : Nat) (fz : List Nat) (ρ : Env) : frz (i :: fz) ρ = frz1 i (frz fz ρ) (frz fz ρ)[i]? := by
  show (match (frz fz ρ)[i]? with | some (.own ds) => (frz fz ρ).set i (.val (.lst ds)) | _ => frz fz ρ) = _
  unfold frz1
  rfl
@[simp] theorem frz1_own (i : Nat) (ρ : Env) (ds : List D) : frz1 i ρ (some (.own ds)) = ρ.set i (.val (.lst ds)) := Eq.trans rfl rfl
@[simp] theorem frz1_val (i : Nat) (ρ : Env) (d : D) : frz1 i ρ (some (.val d)) = ρ := Eq.trans rfl rfl
@[simp] theorem frz1_no (i : Nat) (ρ : Env) : frz1 i ρ (some .no) = ρ := Eq.trans rfl rfl
@[simp] theorem nol_lst (xs : List D) : D.nol (.lst xs) = false := by rw [D.nol]
@[simp] theorem nol_scr (xs : List Int) : D.nol (.scr xs) = false := by rw [D.nol]
@[simp] theorem nol_tup (xs : List D) : D.nol (.tup xs) = D.nols xs := by rw [D.nol]
@[simp] theorem nol_non : D.nol .non = true := by rw [D.nol]
@[simp] theorem nol_bl (b : Bool) : D.nol (.bl b) = true := by rw [D.nol]
@[simp] theorem nol_int (i : Int) : D.nol (.int i) = true := by rw [D.nol]
@[simp] theorem nol_str (s : List Nat) : D.nol (.str s) = true := by rw [D.nol]
@[simp] theorem nols_nil : D.nols [] = true := by rw [D.nols]
@[simp] theorem nols_cons (x : D) (xs : List D) : D.nols (x :: xs) = (D.nol x && D.nols xs) := by rw [D.nols]
@[simp] theorem isNon_lst (xs : List D) : D.isNon (.lst xs) = false := Eq.trans rfl rfl
@[simp] theorem isNon_tup (xs : List D) : D.isNon (.tup xs) = false := Eq.trans rfl rfl
@[simp] theorem isNon_non : D.isNon .non = true := Eq.trans rfl rfl
@[simp] theorem isNon_bl (b : Bool) : D.isNon (.bl b) = false := Eq.trans rfl rfl
@[simp] theorem isNon_int (i : Int) : D.isNon (.int i) = false := Eq.trans rfl rfl
@[simp] theorem isNon_str (s : List Nat) : D.isNon (.str s) = false := Eq.trans rfl rfl
@[simp] theorem op2_add : op2 .add = addD := Eq.trans rfl rfl
@[simp] theorem op2_sub : op2 .sub = subD := Eq.trans rfl rfl
@[simp] theorem op2_mul : op2 .mul = mulD := Eq.trans rfl rfl
@[simp] theorem op2_div : op2 .div = divD := Eq.trans rfl rfl
@[simp] theorem op2_mod : op2 .mod = modD := Eq.trans rfl rfl
@[simp] theorem op2_pow : op2 .pow = powD := Eq.trans rfl rfl
@[simp] theorem op2_eq : op2 .eq = eqD := Eq.trans rfl rfl
@[simp] theorem op2_ne : op2 .ne = neD := Eq.trans rfl rfl
@[simp] theorem op2_lt : op2 .lt = ltD := Eq.trans rfl rfl
@[simp] theorem ltD_int (i j : Int) : ltD (.int i) (.int j) = .ok (.bl (decide (i < j))) := Eq.trans rfl rfl
@[simp] theorem ltD_lst (xs ys : List D) : ltD (.lst xs) (.lst ys) = (R.ofO (intsOf xs)).bind fun ns => (R.ofO (intsOf ys)).bind fun ms => .ok (.bl (lexI ns ms)) := Eq.trans rfl rfl
@[simp] theorem op2_le : op2 .le = cmpD fun i j => decide (i ≤ j) := Eq.trans rfl rfl
@[simp] theorem op2_gt : op2 .gt = gtD := Eq.trans rfl rfl
@[simp] theorem op2_ge : op2 .ge = cmpD fun i j => decide (j ≤ i) := Eq.trans rfl rfl
@[simp] theorem op2_isin : op2 .isin = inD := Eq.trans rfl rfl
@[simp] theorem op2_notin : op2 .notin = ninD := Eq.trans rfl rfl
@[simp] theorem op2_leS : op2 .leS = leSD := Eq.trans rfl rfl
@[simp] theorem leSD_str (x y : List Nat) : leSD (.str x) (.str y) = .ok (.bl (!decide (y < x))) := Eq.trans rfl rfl
@[simp] theorem ninD_sign (c : Nat) (s : List Nat) : ninD (.str [c]) (.str s) = .ok (.bl (!s.contains c)) := Eq.trans rfl rfl
@[simp] theorem op2_is : op2 .is = isD := Eq.trans rfl rfl
@[simp] theorem op2_isnt : op2 .isnt = isntD := Eq.trans rfl rfl
@[simp] theorem isD_bl (a b : Bool) : isD (.bl a) (.bl b) = .ok (.bl (a == b)) := Eq.trans rfl rfl
@[simp] theorem isntD_bl (a b : Bool) : isntD (.bl a) (.bl b) = .ok (.bl (!(a == b))) := Eq.trans rfl rfl
@[simp] theorem op2_ix : op2 .ix = ixD := Eq.trans rfl rfl
@[simp] theorem addD_int (i j : Int) : addD (.int i) (.int j) = .ok (.int (i + j)) := Eq.trans rfl rfl
@[simp] theorem addD_str (x y : List Nat) : addD (.str x) (.str y) = R.when (x.length + y.length ≤ line) (.ok (.str (x ++ y))) := Eq.trans rfl rfl
@[simp] theorem addD_lst (x y : List D) : addD (.lst x) (.lst y) = R.when (x.length + y.length ≤ line) (.ok (.lst (x ++ y))) := Eq.trans rfl rfl
@[simp] theorem addD_tup (x y : List D) : addD (.tup x) (.tup y) = R.when (0 < x.length ∧ x.length + y.length ≤ line) (.ok (.tup (x ++ y))) := Eq.trans rfl rfl
@[simp] theorem subD_int (i j : Int) : subD (.int i) (.int j) = .ok (.int (i - j)) := Eq.trans rfl rfl
@[simp] theorem mulD_int (i j : Int) : mulD (.int i) (.int j) = R.when (small i ∨ small j) (.ok (.int (i * j))) := Eq.trans rfl rfl
@[simp] theorem mulD_str (x : List Nat) (k : Int) : mulD (.str x) (.int k) = R.when (-4611686018427387904 < k ∧ k < 16777217 ∧ x.length * k.toNat ≤ 16777216) (.ok (.str (repL x k.toNat))) := by
  show R.when (-(2 ^ 62) < k ∧ k < 16777217 ∧ x.length * k.toNat ≤ line) _ = _
  rw [show (-(2 ^ 62) : Int) = -4611686018427387904 by decide]
@[simp] theorem mulD_lst (x : List D) (k : Int) : mulD (.lst x) (.int k) = R.when (-4611686018427387904 < k ∧ k < 16777217 ∧ x.length * k.toNat ≤ 16777216) (.ok (.lst (repL x k.toNat))) := by
  show R.when (-(2 ^ 62) < k ∧ k < 16777217 ∧ x.length * k.toNat ≤ line) _ = _
  rw [show (-(2 ^ 62) : Int) = -4611686018427387904 by decide]
@[simp] theorem divD_int (i j : Int) : divD (.int i) (.int j) = R.when (0 < j ∧ j < 1073741824) (.ok (.int (i / j))) := Eq.trans rfl rfl
@[simp] theorem modD_int (i j : Int) : modD (.int i) (.int j) = R.when (0 < j) (.ok (.int (i % j))) := Eq.trans rfl rfl
@[simp] theorem powD_int (i j : Int) : powD (.int i) (.int j) = R.when (0 ≤ j ∧ j ≤ 1000000 ∧ small i) (.ok (.int (i ^ j.toNat))) := Eq.trans rfl rfl
@[simp] theorem gtD_int (i j : Int) : gtD (.int i) (.int j) = .ok (.bl (decide (j < i))) := Eq.trans rfl rfl
@[simp] theorem gtD_tup (a b c d : Int) : gtD (.tup [.int a, .int b]) (.tup [.int c, .int d]) = .ok (.bl (if a = c then decide (d < b) else decide (c < a))) := Eq.trans rfl rfl
@[simp] theorem cmpD_int (f : Int → Int → Bool) (i j : Int) : cmpD f (.int i) (.int j) = .ok (.bl (f i j)) := Eq.trans rfl rfl
@[simp] theorem eqD_int (i j : Int) : eqD (.int i) (.int j) = .ok (.bl (i == j)) := Eq.trans rfl rfl
@[simp] theorem eqD_str (i j : List Nat) : eqD (.str i) (.str j) = .ok (.bl (i == j)) := Eq.trans rfl rfl
@[simp] theorem eqD_bl (i j : Bool) : eqD (.bl i) (.bl j) = .ok (.bl (i == j)) := Eq.trans rfl rfl
@[simp] theorem eqD_lst (x y : List D) : eqD (.lst x) (.lst y) = R.when (D.shp 60 (.lst x) = true ∧ D.shp 60 (.lst y) = true) (.ok (.bl (D.eqvs x y))) := by
  show R.when _ (R.ok (D.bl (D.eqv (.lst x) (.lst y)))) = _
  rw [D.eqv]
@[simp] theorem eqD_tup (x y : List D) : eqD (.tup x) (.tup y) = R.when (D.shp 60 (.tup x) = true ∧ D.shp 60 (.tup y) = true) (.ok (.bl (D.eqvs x y))) := by
  show R.when _ (R.ok (D.bl (D.eqv (.tup x) (.tup y)))) = _
  rw [D.eqv]
@[simp] theorem neD_int (i j : Int) : neD (.int i) (.int j) = .ok (.bl (!(i == j))) := Eq.trans rfl rfl
@[simp] theorem neD_str (i j : List Nat) : neD (.str i) (.str j) = .ok (.bl (!(i == j))) := Eq.trans rfl rfl
@[simp] theorem neD_bl (i j : Bool) : neD (.bl i) (.bl j) = .ok (.bl (!(i == j))) := Eq.trans rfl rfl
@[simp] theorem neD_lst (x y : List D) : neD (.lst x) (.lst y) = R.when (D.shp 60 (.lst x) = true ∧ D.shp 60 (.lst y) = true) (.ok (.bl (!D.eqvs x y))) := by
  show R.when _ (R.ok (D.bl (!D.eqv (.lst x) (.lst y)))) = _
  rw [D.eqv]
@[simp] theorem neD_tup (x y : List D) : neD (.tup x) (.tup y) = R.when (D.shp 60 (.tup x) = true ∧ D.shp 60 (.tup y) = true) (.ok (.bl (!D.eqvs x y))) := by
  show R.when _ (R.ok (D.bl (!D.eqv (.tup x) (.tup y)))) = _
  rw [D.eqv]
@[simp] theorem negD_int (i : Int) : negD (.int i) = .ok (.int (-i)) := Eq.trans rfl rfl
@[simp] theorem tst_bl (b : Bool) : tst (.bl b) = .ok b := Eq.trans rfl rfl
@[simp] theorem tst_int (i : Int) : tst (.int i) = .ok (i != 0) := Eq.trans rfl rfl
@[simp] theorem tst_non : tst .non = .ok false := Eq.trans rfl rfl
@[simp] theorem tst_lst (xs : List D) : tst (.lst xs) = .ok (!xs.isEmpty) := Eq.trans rfl rfl
@[simp] theorem tst_tup (xs : List D) : tst (.tup xs) = .ok (!xs.isEmpty) := Eq.trans rfl rfl
@[simp] theorem tst_str (s : List Nat) : tst (.str s) = R.when (s.length ≤ line) (.ok (s.length != 0)) := Eq.trans rfl rfl
@[simp] theorem ixD_lst (xs : List D) (i : Int) : ixD (.lst xs) (.int i) = R.ofO (atI xs i) := Eq.trans rfl rfl
@[simp] theorem ixD_tup (xs : List D) (i : Int) : ixD (.tup xs) (.int i) = R.ofO (atI xs i) := Eq.trans rfl rfl
@[simp] theorem ixD_scr (xs : List Int) (i : Int) : ixD (.scr xs) (.int i) = (R.ofO (atI xs i)).bind fun n => .ok (.int n) := Eq.trans rfl rfl
@[simp] theorem ixD_str (s : List Nat) (i : Int) : ixD (.str s) (.int i) = R.when (s.length ≤ line) ((R.ofO (atI s i)).bind fun c => .ok (.str [c])) := Eq.trans rfl rfl
@[simp] theorem sliceD_lst (xs : List D) (lo hi : Option Int) : sliceD (.lst xs) lo hi = .ok (.lst (cut xs lo hi)) := Eq.trans rfl rfl
@[simp] theorem sliceD_tup (xs : List D) (lo hi : Option Int) : sliceD (.tup xs) lo hi = .ok (.tup (cut xs lo hi)) := Eq.trans rfl rfl
@[simp] theorem sliceD_str (s : List Nat) (lo hi : Option Int) : sliceD (.str s) lo hi = R.when (s.length ≤ line) (.ok (.str (cut s lo hi))) := Eq.trans rfl rfl
@[simp] theorem revD_str (s : List Nat) : revD (.str s) = R.when (s.length ≤ line) (.ok (.str s.reverse)) := Eq.trans rfl rfl
@[simp] theorem revD_lst (xs : List D) : revD (.lst xs) = .ok (.lst xs.reverse) := Eq.trans rfl rfl
@[simp] theorem partO_int (n : Bool) (i : Int) : partO n (.int i) = .ok (some i) := Eq.trans rfl rfl
@[simp] theorem partO_non : partO true .non = .ok none := Eq.trans rfl rfl
@[simp] theorem isN_non  : isNon (.non) = true := Eq.trans rfl rfl
@[simp] theorem isN_var (i : Nat) : isNon (.var i) = false := Eq.trans rfl rfl
@[simp] theorem isN_int (i : Int) : isNon (.int i) = false := Eq.trans rfl rfl
@[simp] theorem isN_op2 (o : O2) (a b : IE) : isNon (.op2 o a b) = false := Eq.trans rfl rfl
@[simp] theorem isN_neg (a : IE) : isNon (.neg a) = false := Eq.trans rfl rfl
@[simp] theorem isN_blt (b : Bl) (es : IEs) : isNon (.blt b es) = false := Eq.trans rfl rfl
@[simp] theorem isN_call (f : Nat) (es : IEs) : isNon (.call f es) = false := Eq.trans rfl rfl
@[simp] theorem isN_glob (i : Int) : isNon (.glob i) = false := Eq.trans rfl rfl
@[simp] theorem blt_len : blt .len = lenB := Eq.trans rfl rfl
@[simp] theorem blt_max : blt .max = maxB := Eq.trans rfl rfl
@[simp] theorem blt_min : blt .min = minB := Eq.trans rfl rfl
@[simp] theorem blt_abs : blt .abs = absB := Eq.trans rfl rfl
@[simp] theorem blt_int : blt .int = intB := Eq.trans rfl rfl
@[simp] theorem blt_str : blt .str = strB := Eq.trans rfl rfl
@[simp] theorem blt_sum : blt .sum = sumB := Eq.trans rfl rfl
@[simp] theorem blt_sorted : blt .sorted = sortedB := Eq.trans rfl rfl
@[simp] theorem blt_list : blt .list = listB := Eq.trans rfl rfl
@[simp] theorem blt_tuple : blt .tuple = tupleB := Eq.trans rfl rfl
@[simp] theorem blt_join : blt .join = joinB := Eq.trans rfl rfl
@[simp] theorem blt_split : blt .split = splitB := Eq.trans rfl rfl
@[simp] theorem lenB_lst (xs : List D) : lenB [.lst xs] = .ok (.int xs.length) := Eq.trans rfl rfl
@[simp] theorem lenB_tup (xs : List D) : lenB [.tup xs] = .ok (.int xs.length) := Eq.trans rfl rfl
@[simp] theorem lenB_scr (xs : List Int) : lenB [.scr xs] = .ok (.int xs.length) := Eq.trans rfl rfl
@[simp] theorem lenB_str (s : List Nat) : lenB [.str s] = R.when (s.length ≤ line) (.ok (.int s.length)) := Eq.trans rfl rfl
@[simp] theorem maxB_two (i j : Int) : maxB [.int i, .int j] = .ok (.int (if j > i then j else i)) := Eq.trans rfl rfl
@[simp] theorem maxB_three (i j k : Int) : maxB [.int i, .int j, .int k] = .ok (.int (if j > i then (if k > j then k else j) else (if k > i then k else i))) := Eq.trans rfl rfl
@[simp] theorem minB_two (i j : Int) : minB [.int i, .int j] = .ok (.int (if j < i then j else i)) := Eq.trans rfl rfl
@[simp] theorem absB_int (i : Int) : absB [.int i] = .ok (.int (if i < 0 then -i else i)) := Eq.trans rfl rfl
@[simp] theorem listB_lst (xs : List D) : listB [.lst xs] = .ok (.lst xs) := Eq.trans rfl rfl
@[simp] theorem listB_tup (xs : List D) : listB [.tup xs] = .ok (.lst xs) := Eq.trans rfl rfl
@[simp] theorem tupleB_lst (xs : List D) : tupleB [.lst xs] = .ok (.tup xs) := Eq.trans rfl rfl
@[simp] theorem tupleB_tup (xs : List D) : tupleB [.tup xs] = .ok (.tup xs) := Eq.trans rfl rfl
@[simp] theorem iterD_lst (xs : List D) : iterD (.lst xs) = .ok xs := Eq.trans rfl rfl
@[simp] theorem iterD_tup (xs : List D) : iterD (.tup xs) = .ok xs := Eq.trans rfl rfl
@[simp] theorem iterD_scr (xs : List Int) : iterD (.scr xs) = .ok (xs.map D.int) := Eq.trans rfl rfl
@[simp] theorem iterD_str (s : List Nat) : iterD (.str s) = R.when (s.length ≤ line) (.ok (s.map fun c => .str [c])) := Eq.trans rfl rfl
@[simp] theorem enumI_tup (xs : List D) : enumI (.tup xs) = .ok xs := Eq.trans rfl rfl
@[simp] theorem enumI_lst (xs : List D) : enumI (.lst xs) = .ok xs := Eq.trans rfl rfl
@[simp] theorem enumI_str (s : List Nat) : enumI (.str s) = R.when (s.length ≤ line) (.ok (s.map fun c => .str [c])) := Eq.trans rfl rfl
@[simp] theorem zipI_lst (xs ys : List D) : zipI (.lst xs) (.lst ys) = .ok (zipD xs ys) := Eq.trans rfl rfl
@[simp] theorem isTy_int_int (i : Int) : isTy .int (.int i) = true := Eq.trans rfl rfl
@[simp] theorem isTy_bool_int (i : Int) : isTy .bool (.int i) = false := Eq.trans rfl rfl
@[simp] theorem isTy_bool_bl (b : Bool) : isTy .bool (.bl b) = true := Eq.trans rfl rfl
@[simp] theorem isTy_list_lst (xs : List D) : isTy .list (.lst xs) = true := Eq.trans rfl rfl
@[simp] theorem isTy_tuple_tup (xs : List D) : isTy .tuple (.tup xs) = true := Eq.trans rfl rfl
@[simp] theorem isTy_str_str (xs : List Nat) : isTy .str (.str xs) = true := Eq.trans rfl rfl
@[simp] theorem rng_one (n : Int) : rng [.int n] = R.when (-4611686018427387904 ≤ n ∧ n ≤ 16777216) (.ok (rangeD 0 1 n.toNat)) := Eq.trans rfl rfl
@[simp] theorem rng_two (i n : Int) : rng [.int i, .int n] = R.when (bnd i ∧ bnd n ∧ n - i ≤ 16777216) (.ok (rangeD i 1 (n - i).toNat)) := Eq.trans rfl rfl
@[simp] theorem rng3_one (n : Int) : rng3 [.int n] = R.when (-4611686018427387904 ≤ n ∧ n ≤ 16777216) (.ok (rangeD 0 1 n.toNat)) := Eq.trans rfl rfl
@[simp] theorem rng3_two (i n : Int) : rng3 [.int i, .int n] = R.when (bnd i ∧ bnd n ∧ n - i ≤ 16777216) (.ok (rangeD i 1 (n - i).toNat)) := Eq.trans rfl rfl
@[simp] theorem isRng_rng (es : IEs) : isRng (.rng es) = true := Eq.trans rfl rfl
@[simp] theorem isRng_seq (e : IE) : isRng (.seq e) = false := Eq.trans rfl rfl
@[simp] theorem isRng_enm (e : IE) : isRng (.enm e) = false := Eq.trans rfl rfl
@[simp] theorem isRng_zip (a b : IE) : isRng (.zip a b) = false := Eq.trans rfl rfl
@[simp] theorem bindTg_one (i : Nat) (d : D) (ρ : Env) : bindTg (.one i) d ρ = some (ρ.set i (.val d)) := Eq.trans rfl rfl
@[simp] theorem bindTg_many (is : List Nat) (ds : List D) (ρ : Env) : bindTg (.many is) (.tup ds) ρ = setAll is ds ρ := Eq.trans rfl rfl
@[simp] theorem bindTg_two (is js : List Nat) (ds es : List D) (ρ : Env) : bindTg (.two is js) (.tup [.tup ds, .tup es]) ρ = (setAll is ds ρ).bind fun ρ1 => setAll js es ρ1 := Eq.trans rfl rfl
@[simp] theorem bindTg_pair (i : Nat) (js : List Nat) (d : D) (ds : List D) (ρ : Env) : bindTg (.pair i js) (.tup [d, .tup ds]) ρ = setAll js ds (ρ.set i (.val d)) := Eq.trans rfl rfl
@[simp] theorem allMinD_lst (xs : List D) : allMinD (.lst xs) = gtAll .minGe xs := Eq.trans rfl rfl
@[simp] theorem allLtD_lst (xs ys : List D) : allLtD (.lst xs) (.lst ys) = gtAll .lt (zipD xs ys) := Eq.trans rfl rfl
@[simp] theorem allDigD_str (t : List Nat) : allDigD (.str t) = R.when (t.length ≤ line) (gtAll .dig (t.map fun c => .str [c])) := Eq.trans rfl rfl
@[simp] theorem gtAll_nil (g : GT) : gtAll g [] = .ok (.bl true) := Eq.trans rfl rfl
@[simp] theorem setAll_nil (ρ : Env) : setAll [] [] ρ = some ρ := Eq.trans rfl rfl
@[simp] theorem setAll_cons (i : Nat) (is : List Nat) (d : D) (ds : List D) (ρ : Env) : setAll (i :: is) (d :: ds) ρ = setAll is ds (ρ.set i (.val d)) := Eq.trans rfl rfl
@[simp] theorem wipeE_nil (ρ : Env) : wipeE ρ [] = ρ := Eq.trans rfl rfl
@[simp] theorem wipeE_cons (ρ : Env) (v : Nat) (vs : List Nat) : wipeE ρ (v :: vs) = (wipeE ρ vs).set v .no := Eq.trans rfl rfl
@[simp] theorem begin_def (nn : Nat) (ds : List D) : begin_ nn ds = ds.map Slot.val ++ List.replicate (nn - ds.length) .no := Eq.trans rfl rfl
@[simp] theorem rangeD_nil (i c : Int) : rangeD i c 0 = [] := Eq.trans rfl rfl
theorem rangeD_cons (i c : Int) (n : Nat) : rangeD i c (n + 1) = .int i :: rangeD (i + c) c n := Eq.trans rfl rfl
@[simp] theorem enumD_nil (k : Nat) : enumD k [] = [] := Eq.trans rfl rfl
@[simp] theorem enumD_cons (k : Nat) (x : D) (xs : List D) : enumD k (x :: xs) = .tup [.int k, x] :: enumD (k + 1) xs := Eq.trans rfl rfl
@[simp] theorem zipD_cons (x y : D) (xs ys : List D) : zipD (x :: xs) (y :: ys) = .tup [x, y] :: zipD xs ys := Eq.trans rfl rfl
@[simp] theorem zipD_nil (ys : List D) : zipD [] ys = [] := by unfold zipD; rfl
@[simp] theorem zipD_nil2 (xs : List D) : zipD xs [] = [] := by cases xs <;> rfl
@[simp] theorem RS_of_ite {α : Type} (c : Prop) [Decidable c] (a b : R α) (f : α → RS) : RS.of (if c then a else b) f = if c then RS.of a f else RS.of b f := by split <;> rfl
@[simp] theorem bind_ite {α β : Type} (c : Prop) [Decidable c] (a b : R α) (f : α → R β) : (if c then a else b).bind f = if c then a.bind f else b.bind f := by split <;> rfl
theorem evF_ret {F : List (List D → R D)} {f : Fn} {ds : List D} {d : D} (h1 : ds.length = f.ar) (h : evSs F f.body (begin_ f.nn ds) = .ret d) : evF F f ds = .ok d := by
  unfold evF
  rw [if_pos h1, h]
theorem evF_next {F : List (List D → R D)} {f : Fn} {ds : List D} {ρ : Env} (h1 : ds.length = f.ar) (h : evSs F f.body (begin_ f.nn ds) = .next ρ) : evF F f ds = .ok .non := by
  unfold evF
  rw [if_pos h1, h]
theorem evF_exc {F : List (List D → R D)} {f : Fn} {ds : List D} {ρ : Env} {c : Nat} {xs : List D} (h1 : ds.length = f.ar) (h : evSs F f.body (begin_ f.nn ds) = .exc ρ c xs) : evF F f ds = .exc c xs := by
  unfold evF
  rw [if_pos h1, h]
@[simp] theorem when_posS {α : Type} {c : Prop} [Decidable c] {r : R α} (h : c) : R.when c r = r := if_pos h
@[simp] theorem small_def (i : Int) : small i ↔ -18446744073709551616 < i ∧ i < 18446744073709551616 := ⟨id, id⟩
@[simp] theorem bnd_def (i : Int) : bnd i ↔ -4611686018427387904 ≤ i ∧ i < 4611686018427387904 := ⟨id, id⟩
@[simp] theorem line_def : line = 16777216 := Eq.trans rfl rfl
theorem atI_nat {α : Type} {xs : List α} {i : Int} (h : 0 ≤ i) : atI xs i = xs[i.toNat]? := by
  unfold atI ixN
  rw [if_pos h]
  by_cases q : i < xs.length
  · rw [if_pos q]; rfl
  · rw [if_neg q]
    rw [List.getElem?_eq_none (by omega)]; rfl
end Pv

end
section
/-! ExtD: what the defs compute that our small language cannot say (a class, a dict). -/
namespace Ext
open Pv
/-- a Reader: its bits, its is_closed, its payloads -/
structure Rd where
  bits : Option (List Nat)
  closed : Bool
  pays : List (List Nat)
def rdStep (L : Int) (s : Rd) (g : Int) : Rd :=
  if g = L + 2 then ⟨some [], decide (1 ≤ g) && decide (g ≤ L), match s.bits with
    | some b => if s.closed = true then s.pays ++ [b.dropLast] else s.pays
    | none => s.pays⟩
  else if 1 ≤ g ∧ g ≤ L + 1 then ⟨match s.bits with
    | some b => some (b ++ List.replicate (g - 1).toNat 49 ++ (if g ≤ L then [48] else []))
    | none => none, decide (1 ≤ g) && decide (g ≤ L), s.pays⟩
  else ⟨none, decide (1 ≤ g) && decide (g ≤ L), s.pays⟩
def rdAll (L : Int) (s : Rd) (gs : List Int) : Rd := gs.foldl (rdStep L) s
def rd0 : Rd := ⟨none, false, []⟩
def readGaps (L : Int) (gs : List Int) : List (List Nat) := (rdAll L rd0 gs).pays
def g_read_gaps : List D → R D
  | [.int L, .lst xs] => (R.ofO (intsOf xs)).bind fun gs => R.when (0 ≤ L ∧ L ≤ 1000 ∧ gs.length ≤ 10000) (.ok (.lst ((readGaps L gs).map D.str)))
  | _ => .stuck
/-- the number of the first poll at a time or later -/
def pollK (po ph t : Int) : Int := if t ≤ ph then 0 else (t - ph + po - 1) / po
/-- each once -/
def dd : List Int → List Int
  | [] => []
  | k :: ks => if k ∈ ks then dd ks else k :: dd ks
theorem mem_dd {x : Int} : ∀ {ks : List Int}, x ∈ dd ks ↔ x ∈ ks
  | [] => Iff.rfl
  | k :: ks => by
    unfold dd
    split
    · rename_i h
      rw [mem_dd (ks := ks)]
      constructor
      · exact fun q => List.mem_cons_of_mem _ q
      · intro q
        rcases List.mem_cons.mp q with e | q
        · rw [e]; exact h
        · exact q
    · rw [List.mem_cons, List.mem_cons, mem_dd (ks := ks)]
theorem nodup_dd : ∀ ks : List Int, (dd ks).Nodup
  | [] => List.nodup_nil
  | k :: ks => by
    unfold dd
    split
    · exact nodup_dd ks
    · rename_i h
      rw [List.nodup_cons]
      exact ⟨fun q => h (mem_dd.mp q), nodup_dd ks⟩
/-- what is there an odd number of times, ascending -/
def oddsOf (ks : List Int) : List Int := sortI ((dd ks).filter fun k => decide (ks.count k % 2 = 1))
def g__law_detected : List D → R D
  | [.int po, .int ph, .lst xs] => (R.ofO (intsOf xs)).bind fun ts => R.when (0 < po ∧ po < 1000000 ∧ ts.length ≤ 900) (.ok (.lst ((oddsOf (ts.map (pollK po ph))).map D.int)))
  | _ => .stuck
@[simp] theorem intsOf_map (ns : List Int) : intsOf (ns.map D.int) = some ns := by
  induction ns with
  | nil => rfl
  | cons n ns ih => show (intsOf (ns.map D.int)).map (n :: ·) = _; rw [ih]; rfl
theorem read_gaps_eq (L : Int) (gs : List Int) (h : 0 ≤ L ∧ L ≤ 1000) (hl : gs.length ≤ 10000) : g_read_gaps [.int L, .lst (gs.map D.int)] = .ok (.lst ((readGaps L gs).map D.str)) := by
  show (R.ofO (intsOf (gs.map D.int))).bind _ = _
  rw [intsOf_map]
  exact R.when_pos ⟨h.1, h.2, hl⟩
theorem detected_eq (po ph : Int) (ts : List Int) (h : 0 < po ∧ po < 1000000) (hl : ts.length ≤ 900) : g__law_detected [.int po, .int ph, .lst (ts.map D.int)] = .ok (.lst ((oddsOf (ts.map (pollK po ph))).map D.int)) := by
  show (R.ofO (intsOf (ts.map D.int))).bind _ = _
  rw [intsOf_map]
  exact R.when_pos ⟨h.1, h.2, hl⟩
end Ext

end
section
/-! EvX: what the hand proofs of Reader and of a dict of counts lean on. -/
namespace Ext
open PySem PySem.Spec PyProof.Rows L2 Pv
theorem n1 : ¬ (("limit" : Str) = "bits") := by decide +kernel
theorem n2 : ¬ (("limit" : Str) = "is_closed") := by decide +kernel
theorem n3 : ¬ (("limit" : Str) = "payloads") := by decide +kernel
theorem n4 : ¬ (("bits" : Str) = "is_closed") := by decide +kernel
theorem n5 : ¬ (("bits" : Str) = "payloads") := by decide +kernel
theorem n6 : ¬ (("is_closed" : Str) = "payloads") := by decide +kernel
def bitV : Option (List Nat) → V
  | some b => .str (st b)
  | none => .non
def flds (L : Int) (b : V) (c : Bool) (d : Addr) : List (Str × V) := [("limit", .int L), ("bits", b), ("is_closed", .bl c), ("payloads", .ref d)]
section
variable {L : Int} {b b' : V} {c c' : Bool} {d : Addr}
theorem putB : putF "bits" b' (flds L b c d) = flds L b' c d := by
  show (if ("limit" : Str) = "bits" then _ else (("limit" : Str), V.int L) :: (if ("bits" : Str) = "bits" then _ else _)) = _
  rw [if_neg n1, if_pos rfl]; rfl
theorem putC : putF "is_closed" (.bl c') (flds L b c d) = flds L b c' d := by
  show (if ("limit" : Str) = "is_closed" then _ else (("limit" : Str), V.int L) :: (if ("bits" : Str) = "is_closed" then _ else (("bits" : Str), b) :: (if ("is_closed" : Str) = "is_closed" then _ else _))) = _
  rw [if_neg n2, if_neg n4, if_pos rfl]; rfl
theorem put0 : putF "payloads" (.ref d) (putF "is_closed" (.bl c) (putF "bits" b (putF "limit" (.int L) []))) = flds L b c d := by
  show putF "payloads" _ (putF "is_closed" _ (if ("limit" : Str) = "bits" then _ else (("limit" : Str), V.int L) :: [(("bits" : Str), b)])) = _
  rw [if_neg n1]
  show putF "payloads" _ (if ("limit" : Str) = "is_closed" then _ else (("limit" : Str), V.int L) :: (if ("bits" : Str) = "is_closed" then _ else (("bits" : Str), b) :: [(("is_closed" : Str), V.bl c)])) = _
  rw [if_neg n2, if_neg n4]
  show (if ("limit" : Str) = "payloads" then _ else (("limit" : Str), V.int L) :: (if ("bits" : Str) = "payloads" then _ else (("bits" : Str), b) :: (if ("is_closed" : Str) = "payloads" then _ else (("is_closed" : Str), V.bl c) :: [(("payloads" : Str), V.ref d)]))) = _
  rw [if_neg n3, if_neg n5, if_neg n6]; rfl
theorem getL_ : (flds L b c d).lookup ("limit" : Str) = some (.int L) := by
  have := lookup_putF
  unfold flds
  simp [List.lookup]
theorem getB_ : (flds L b c d).lookup ("bits" : Str) = some b := by
  rw [← putB (b := b), lookup_putF, if_pos rfl]
theorem getC_ : (flds L b c d).lookup ("is_closed" : Str) = some (.bl c) := by
  rw [← putC (c := c), lookup_putF, if_pos rfl]
theorem getP_ : (flds L b c d).lookup ("payloads" : Str) = some (.ref d) := by
  rw [← put0, lookup_putF, if_pos rfl]
theorem getM_ (h : ("read" : Str) = "read") : (flds L b c d).lookup ("read" : Str) = none := by
  rw [← put0, lookup_putF, if_neg (by decide +kernel), lookup_putF, if_neg (by decide +kernel), lookup_putF, if_neg (by decide +kernel), lookup_putF, if_neg (by decide +kernel)]; rfl
end
/-- a Reader stands at p, its payloads at d -/
structure RdAt (C : Addr) (H : Hp) (p d : Addr) (L : Int) (s : Rd) : Prop where
  ob : ∃ dx, H p = some (.ins C dx (flds L (bitV s.bits) s.closed d))
  ls : H d = some (.lst ((s.pays.map st).map V.str))
def Small (L : Int) (s : Rd) (n : Nat) : Prop := s.pays.length ≤ n ∧ ∀ b, s.bits = some b → b.length ≤ n * (L + 1).toNat
theorem small_step {L : Int} {s : Rd} {n : Nat} {g : Int} (h : Small L s n) (hL : 0 ≤ L) : Small L (rdStep L s g) (n + 1) := by
  obtain ⟨h1, h2⟩ := h
  unfold rdStep
  split
  · refine ⟨?_, fun b e => by cases e; exact Nat.zero_le _⟩
    show (match s.bits with | some b => if s.closed = true then s.pays ++ [b.dropLast] else s.pays | none => s.pays).length ≤ n + 1
    split
    · split
      · rw [List.length_append]; simp; omega
      · omega
    · omega
  · split
    · rename_i hg
      refine ⟨by show s.pays.length ≤ n + 1; omega, fun b e => ?_⟩
      cases q : s.bits with
      | none => rw [q] at e; cases e
      | some b0 =>
        rw [q] at e
        cases e
        have hb := h2 b0 q
        rw [List.length_append, List.length_append, List.length_replicate, Nat.add_mul, Nat.one_mul]
        split
        · show _ + 1 ≤ _
          omega
        · show _ + 0 ≤ _
          omega
    · exact ⟨by show s.pays.length ≤ n + 1; omega, fun b e => by cases e⟩
/-- what the walk asks of the class -/
structure Txt (K : PySem.W.Frag) (mg : Str → Option Value) (C : Addr) : Prop where
  cl : Cls K C
  nL : NoAttr K C "limit"
  nB : NoAttr K C "bits"
  nC : NoAttr K C "is_closed"
  nP : NoAttr K C "payloads"
  mgC : mg "Reader" = some (.ref C)
def spInit (C : Addr) : Sp := fun vs H Q _ => ∃ (p dx : Addr) (L : Int), vs = [.ref p, .int L] ∧ H p = some (.ins C dx []) ∧ ∀ (d : Addr) (H' : Hp), H d = none → RdAt C H' p d L rd0 → (∀ b o, H b = some o → b ≠ p → H' b = some o) → Q .non H'
def spRead (C : Addr) : Sp := fun vs H Q _ => ∃ (p d : Addr) (L g : Int) (s : Rd) (n : Nat), vs = [.ref p, .int g] ∧ RdAt C H p d L s ∧ 0 ≤ L ∧ L ≤ 1000 ∧ n < 10000 ∧ Small L s n ∧
  ∀ H' : Hp, RdAt C H' p d L (rdStep L s g) → (∀ b o, H b = some o → b ≠ p → b ≠ d → H' b = some o) → Q .non H'

/-! ### the readings -/
def tRInit (K : PySem.W.Frag) : TS := tSeq (sFld K (tVar 0) (tVar 1) "limit") (tSeq (sFld K (tVar 0) (tC .non) "bits") (tSeq (sFld K (tVar 0) (tC (.bl false)) "is_closed") (sFld K (tVar 0) (tLst tNil) "payloads")))
def rNotN : R2 := fun x y H Q => y = V.non ∧ Q (V.bl !decide (x = V.non)) H
def rAddS : R2 := fun x y H Q => ∃ i j, x = V.str i ∧ y = V.str j ∧ i.length + j.length ≤ sizeLine ∧ Q (V.str (i ++ j)) H
def tBits (K : PySem.W.Frag) : TE := tFld K (tVar 0) "bits"
def tLim (K : PySem.W.Frag) : TE := tFld K (tVar 0) "limit"
def tLe (a b : TE) : TE := tOp (rI0 fun i j => V.bl (decide (i ≤ j))) a b
def tAdd (a b : TE) : TE := tOp (rI0 fun i j => V.int (i + j)) a b
def tBtw (a b c : TE) : TE := tChain (rI0 fun i j => V.bl (decide (i ≤ j))) (rI0 fun i j => V.bl (decide (i ≤ j))) a b c
def tTail1 (K : PySem.W.Frag) : TS := tSeq (tIfS (tAnd (tTest (tOp rNotN (tBits K) (tC .non))) (tB (tVar 2)))
      (tDrop (tBM K "list" rAppend (tFld K (tVar 0) "payloads") (tCons (tSl rSlS (tBits K) tNoPart (tPart (tUn (rU fun i => V.int (-i)) (tC (.int 1))))) tNil))) tNext)
    (sFld K (tVar 0) (tC (.str "")) "bits")
def tTail3 (K : PySem.W.Frag) : TS := tIfS (tTest (tOp rNotN (tBits K) (tC .non)))
  (sFld K (tVar 0) (tOp rAddS (tOp rAddS (tBits K) (tOp rMulS (tC (.str "1")) (tOp (rI0 fun i j => V.int (i - j)) (tVar 1) (tC (.int 1))))) (tIf (tTest (tLe (tVar 1) (tLim K))) (tC (.str "0")) (tC (.str "")))) "bits") tNext
def tTail (K : PySem.W.Frag) : TS := tIfS (tTest (tOp rEq (tVar 1) (tAdd (tLim K) (tC (.int 2))))) (tTail1 K)
  (tIfS (tNot (tTest (tBtw (tC (.int 1)) (tVar 1) (tAdd (tLim K) (tC (.int 1)))))) (sFld K (tVar 0) (tC .non) "bits") (tTail3 K))
def tRRead (K : PySem.W.Frag) : TS := tSeq (tAsg (tFld K (tVar 0) "is_closed") (gName 2)) (tSeq (sFld K (tVar 0) (tBtw (tC (.int 1)) (tVar 1) (tLim K)) "is_closed") (tTail K))
section
variable [Tabs] {K : PySem.W.Frag} {mg : Str → Option Value} {C : Addr} (T : Txt K mg C) {D : Ends} {H : Hp} {p d : Addr} {L g : Int} {s : Rd} {n : Nat} {vs : List V} {Q : VK}
include T
theorem fld_lim {σ : L2.St} {dx : Addr} {b : V} {c : Bool} (h : σ[0]? = some (some (.ref p))) (hp : H p = some (.ins C dx (flds L b c d))) {Q : VK} (q : Q (.int L) H) : tLim K σ H Q := ⟨_, h, p, C, dx, _, _, rfl, hp, T.cl, T.nL, getL_, q⟩
theorem fld_bits {σ : L2.St} {dx : Addr} {b : V} {c : Bool} (h : σ[0]? = some (some (.ref p))) (hp : H p = some (.ins C dx (flds L b c d))) {Q : VK} (q : Q b H) : tBits K σ H Q := ⟨_, h, p, C, dx, _, _, rfl, hp, T.cl, T.nB, getB_, q⟩
theorem add_lim {σ : L2.St} {dx : Addr} {b : V} {c : Bool} {i : Int} (h : σ[0]? = some (some (.ref p))) (hp : H p = some (.ins C dx (flds L b c d))) {Q : VK} (q : Q (.int (L + i)) H) : tAdd (tLim K) (tC (.int i)) σ H Q := by
  unfold tAdd tOp
  exact fld_lim T h hp ⟨_, _, rfl, rfl, q⟩
theorem le_lim {σ : L2.St} {dx : Addr} {b : V} {c : Bool} (h : σ[0]? = some (some (.ref p))) (hg : σ[1]? = some (some (.int g))) (hp : H p = some (.ins C dx (flds L b c d))) {Q : VK} (q : Q (.bl (decide (g ≤ L))) H) : tLe (tVar 1) (tLim K) σ H Q := by
  unfold tLe tOp
  exact ⟨_, hg, fld_lim T h hp ⟨_, _, rfl, rfl, q⟩⟩
theorem nn_bits {σ : L2.St} {dx : Addr} {b : V} {c : Bool} (h : σ[0]? = some (some (.ref p))) (hp : H p = some (.ins C dx (flds L b c d))) {Q : Bool → Hp → Prop} (q : Q (!decide (b = .non)) H) : tTest (tOp rNotN (tBits K) (tC .non)) σ H Q := by
  unfold tTest tOp
  exact fld_bits T h hp ⟨rfl, _, rfl, q⟩
theorem set_bits {σ : L2.St} {dx : Addr} {b b' : V} {c : Bool} (h : σ[0]? = some (some (.ref p))) (hp : H p = some (.ins C dx (flds L b c d))) (q : D.nx σ (upd H p (.ins C dx (flds L b' c d)))) : (fun (y : V) (H1 : Hp) => tVar 0 σ H1 fun x H2 => ∃ a C dx fs, x = .ref a ∧ H2 a = some (.ins C dx fs) ∧ Cls K C ∧ NoAttr K C "bits" ∧ fs.length < 1000 ∧
    D.nx σ (upd H2 a (.ins C dx (putF "bits" y fs)))) b' H := ⟨_, h, p, C, dx, _, rfl, hp, T.cl, T.nB, (by show 4 < 1000; decide), by rw [putB]; exact q⟩
theorem init_ok (h : spInit C vs H Q E) (hq : ∀ σ H', Q .non H' → D.nx σ H') : tRInit K D (L2.start ["self", "limit"] vs) H := by
  obtain ⟨p, dx, L, rfl, hp, k⟩ := h
  refine ⟨_, rfl, _, rfl, p, C, dx, [], rfl, hp, T.cl, T.nL, (by show 0 < 1000; decide), ?_⟩
  refine ⟨_, rfl, p, C, dx, _, rfl, upd_same, T.cl, T.nB, (by show 1 < 1000; decide), ?_⟩
  refine ⟨_, rfl, p, C, dx, _, rfl, upd_same, T.cl, T.nC, (by show 2 < 1000; decide), ?_⟩
  refine ⟨(by show 0 ≤ sizeLine; decide), fun d hd => ?_⟩
  have npd : p ≠ d := fun z => by rw [z, upd_same] at hd; cases hd
  have hd0 : H d = none := by rw [upd_ne npd.symm, upd_ne npd.symm, upd_ne npd.symm] at hd; exact hd
  refine ⟨_, rfl, p, C, dx, _, rfl, (by rw [upd_ne npd]; exact upd_same), T.cl, T.nP, (by show 3 < 1000; decide), ?_⟩
  refine hq _ _ (k d _ hd0 ⟨⟨dx, Eq.trans upd_same (congrArg (fun l => some (HO.ins C dx l)) put0)⟩, by rw [upd_ne npd.symm]; exact upd_same⟩ fun b o e hb => ?_)
  rw [upd_ne hb, upd_ne (ne_of_none e hd0), upd_ne hb, upd_ne hb, upd_ne hb]
  exact e
theorem st_cut (b : List Nat) : cutS (st b) none (some (-1)) = st b.dropLast := by
  rw [cutS_st]
  congr 1
  unfold Pv.cut
  show (b.drop 0).take ((if (-1 : Int) < 0 then (-1 + (b.length : Int)).toNat else min (-1 : Int).toNat b.length) - 0) = _
  rw [if_pos (by decide), List.drop_zero, Nat.sub_zero, List.dropLast_eq_take]
  congr 1
  omega
theorem tail_ok {c : Bool} {dx : Addr} {o : Bool} (h0 : 0 ≤ L) (h1 : L ≤ 1000) (hn : n < 10000) (hs : Small L s n) (hc : c = (decide (1 ≤ g) && decide (g ≤ L))) (npd : p ≠ d) (hp : H p = some (.ins C dx (flds L (bitV s.bits) c d))) (hd : H d = some (.lst ((s.pays.map st).map V.str)))
    (k : ∀ H', RdAt C H' p d L (rdStep L s g) → (∀ b o, H b = some o → b ≠ p → b ≠ d → H' b = some o) → ∀ σ, D.nx σ H') : tTail K D [some (.ref p), some (.int g), some (.bl s.closed)] H := by
  refine ⟨_, rfl, add_lim T rfl hp ⟨rfl, _, rfl, ?_⟩⟩
  rw [L2.dec_int]
  have small : sizeLine = 16777216 := sizeLine_eq
  by_cases c2 : g = L + 2
  · rw [beq_iff_eq.mpr c2]
    refine iteT ?_
    -- the end of a frame
    have fin : ∀ (H1 : Hp) (pl : List (List Nat)), H1 p = some (.ins C dx (flds L (bitV s.bits) c d)) → H1 d = some (.lst ((pl.map st).map V.str)) → (∀ b o, H b = some o → b ≠ p → b ≠ d → H1 b = some o) → rdStep L s g = ⟨some [], c, pl⟩ →
        ∀ σ : L2.St, σ[0]? = some (some (.ref p)) → sFld K (tVar 0) (tC (.str "")) "bits" D σ H1 := by
      intro H1 pl q1 q2 q3 e σ hσ
      refine set_bits T hσ q1 (k _ ⟨⟨dx, by rw [e]; exact upd_same⟩, by rw [e, upd_ne npd.symm]; exact q2⟩ (fun b o e2 nb nd => by rw [upd_ne nb]; exact q3 b o e2 nb nd) σ)
    unfold tTail1 tSeq tIfS tAnd
    refine nn_bits T rfl hp ?_
    cases hb : s.bits with
    | none =>
      refine fin H s.pays (by rw [hp]) hd (fun b o e _ _ => e) ?_ _ rfl
      unfold rdStep
      rw [if_pos c2, hb, hc]
    | some b0 =>
      show (if (!decide (V.str (st b0) = V.non)) = true then _ else _)
      rw [if_pos (by simp)]
      refine ⟨_, rfl, _, rfl, ?_⟩
      cases hcl : s.closed with
      | false =>
        refine fin H s.pays (by rw [hp]) hd (fun b o e _ _ => e) ?_ _ rfl
        unfold rdStep
        rw [if_pos c2, hb, hc]
        simp [hcl]
      | true =>
        have hbl := hs.2 b0 hb
        have hmul : n * (L + 1).toNat ≤ 10000 * 1001 := Nat.mul_le_mul (by omega) (by omega)
        refine ⟨_, rfl, p, C, dx, _, _, rfl, hp, T.cl, T.nP, getP_, .inl ⟨rfl, _, .of hd⟩, ?_⟩
        rw [hb] at hp
        unfold tCons tSl
        refine fld_bits T rfl hp ⟨_, rfl, _, rfl, st b0, rfl, by rw [st_len, small]; omega, ?_⟩
        rw [st_cut T]
        refine ⟨d, _, _, rfl, rfl, hd, by rw [List.length_map, List.length_map, small]; have := hs.1; omega, ?_⟩
        refine fin _ (s.pays ++ [b0.dropLast]) (by rw [upd_ne npd, hp, hb]) (by rw [upd_same, List.map_append, List.map_append]; rfl) (fun b o e nb nd => by rw [upd_ne nd]; exact e) ?_ _ rfl
        unfold rdStep
        rw [if_pos c2, hb, hc]
        simp [hcl]
  · have : (g == L + 2) = false := by rw [beq_eq_false_iff_ne]; exact c2
    rw [this]
    refine iteF ?_
    have gon : ∀ b, rdStep L s g = ⟨b, c, s.pays⟩ → ∀ σ : L2.St, D.nx σ (upd H p (.ins C dx (flds L (bitV b) c d))) := fun b e σ =>
      k _ ⟨⟨dx, by rw [e]; exact upd_same⟩, by rw [e, upd_ne npd.symm]; exact hd⟩ (fun b o e2 nb nd => by rw [upd_ne nb]; exact e2) σ
    refine ⟨_, rfl, _, _, rfl, rfl, _, rfl, ?_⟩
    have bad : ¬ (1 ≤ g ∧ g ≤ L + 1) → sFld K (tVar 0) (tC .non) "bits" D [some (.ref p), some (.int g), some (.bl s.closed)] H := fun hg => by
      refine set_bits T rfl hp ?_
      refine gon none ?_ _
      unfold rdStep
      rw [if_neg c2, if_neg hg, hc]
    by_cases c1 : 1 ≤ g
    · rw [if_pos (decide_eq_true c1)]
      refine add_lim T rfl hp ⟨_, _, rfl, rfl, _, rfl, ?_⟩
      by_cases c3 : g ≤ L + 1
      · rw [show (decide (g ≤ L + 1)) = true from decide_eq_true c3]
        refine iteF ?_
        unfold tTail3 tIfS
        refine nn_bits T rfl hp ?_
        cases hb : s.bits with
        | none =>
          show D.nx _ H
          refine k H ⟨⟨dx, ?_⟩, ?_⟩ (fun b o e _ _ => e) _
          · unfold rdStep
            rw [if_neg c2, if_pos ⟨c1, c3⟩, hp, hb, hc]
          · unfold rdStep
            rw [if_neg c2, if_pos ⟨c1, c3⟩, hd]
        | some b0 =>
          show (if (!decide (V.str (st b0) = V.non)) = true then _ else _)
          rw [if_pos (by simp)]
          have hbl := hs.2 b0 hb
          have hmul : n * (L + 1).toNat ≤ 10000 * 1001 := Nat.mul_le_mul (by omega) (by omega)
          rw [hb] at hp
          unfold sFld tOp
          refine fld_bits T rfl hp ⟨_, rfl, _, _, rfl, rfl, ?_⟩
          refine ⟨_, _, rfl, rfl, ⟨by omega, by omega, ?_⟩, ?_⟩
          · have : (Str.ofString "1").length = 1 := by decide +kernel
            rw [this]; omega
          have e1 : Txt.mul (Str.ofString "1") (g - 1) = st (List.replicate (g - 1).toNat 49) := by
            rw [show (Str.ofString "1") = st [49] by decide +kernel, mul_st]
            congr 1
            unfold repL
            induction (g - 1).toNat with
            | zero => rfl
            | succ m ih => rw [List.replicate_succ, List.flatten_cons, ih, List.replicate_succ]; rfl
          rw [e1]
          refine ⟨_, _, rfl, rfl, by rw [st_len, st_len, List.length_replicate, small]; omega, ?_⟩
          rw [st_app]
          refine le_lim T rfl rfl hp ⟨_, rfl, ?_⟩
          by_cases c4 : g ≤ L
          · rw [decide_eq_true c4]
            refine iteT ?_
            refine ⟨_, _, rfl, rfl, ?_, ?_⟩
            · have : (Str.ofString "0").length = 1 := by decide +kernel
              rw [this, st_len, List.length_append, List.length_replicate, small]; omega
            rw [show (Str.ofString "0") = st [48] by decide +kernel, st_app]
            refine set_bits T rfl hp ?_
            refine gon (some _) ?_ _
            unfold rdStep
            rw [if_neg c2, if_pos ⟨c1, c3⟩, hb, hc, if_pos c4]
          · rw [decide_eq_false c4]
            refine iteF ?_
            refine ⟨_, _, rfl, rfl, ?_, ?_⟩
            · have : (Str.ofString "").length = 0 := by decide +kernel
              rw [this, st_len, List.length_append, List.length_replicate, small]; omega
            rw [show (Str.ofString "") = st [] by decide +kernel, st_app]
            refine set_bits T rfl hp ?_
            refine gon (some _) ?_ _
            unfold rdStep
            rw [if_neg c2, if_pos ⟨c1, c3⟩, hb, hc, if_neg c4]
      · rw [show (decide (g ≤ L + 1)) = false from decide_eq_false c3]
        refine iteT ?_
        exact bad fun z => c3 z.2
    · rw [if_neg (by simpa using c1)]
      exact ⟨_, rfl, iteT (bad fun z => c1 z.1)⟩
theorem read_ok (h : spRead C vs H Q E) (hq : ∀ σ H', Q .non H' → D.nx σ H') : tRRead K D (L2.start ["self", "gap", "is_end"] vs) H := by
  obtain ⟨p, d, L, g, s, n, rfl, ⟨⟨dx, hp⟩, hd⟩, h0, h1, hn, hs, k⟩ := h
  have npd : p ≠ d := ne_of hp hd (by intro z; cases z)
  refine ⟨_, rfl, p, C, dx, _, _, rfl, hp, T.cl, T.nC, getC_, ?_⟩
  refine ⟨_, rfl, _, _, rfl, rfl, _, rfl, ?_⟩
  have go : ∀ c : Bool, c = (decide (1 ≤ g) && decide (g ≤ L)) → ∀ H1, H1 = upd H p (.ins C dx (flds L (bitV s.bits) c d)) → tTail K D [some (.ref p), some (.int g), some (.bl s.closed)] H1 := fun c hc H1 e =>
    tail_ok T (dx := dx) (o := c) h0 h1 hn hs hc npd (by rw [e]; exact upd_same) (by rw [e, upd_ne npd.symm]; exact hd) fun H' r q σ => hq σ H' (k H' r fun b o eb nb nd => q b o (by rw [e, upd_ne nb]; exact eb) nb nd)
  by_cases c1 : 1 ≤ g
  · rw [if_pos (decide_eq_true c1)]
    refine fld_lim T rfl hp ⟨_, _, rfl, rfl, ?_⟩
    refine ⟨_, rfl, p, C, dx, _, rfl, hp, T.cl, T.nC, (by show 4 < 1000; decide), ?_⟩
    exact go _ (by rw [decide_eq_true c1, Bool.true_and]) _ (by rw [putC])
  · rw [if_neg (by simpa using c1)]
    refine ⟨_, rfl, p, C, dx, _, rfl, hp, T.cl, T.nC, (by show 4 < 1000; decide), ?_⟩
    exact go _ (by rw [decide_eq_false c1, Bool.false_and]) _ (by rw [putC])
end

/-- the promise of the hand: a list of texts, new -/
theorem g_rg {ds : List D} {d : D} (h : g_read_gaps ds = .ok d) : ∃ (L : Int) (xs : List D) (gs : List Int), ds = [.int L, .lst xs] ∧ intsOf xs = some gs ∧ 0 ≤ L ∧ L ≤ 1000 ∧ gs.length ≤ 10000 ∧ d = .lst ((readGaps L gs).map D.str) :=
  match ds, h with
  | [.int L, .lst xs], h => by
    obtain ⟨gs, h1, h⟩ := Pv.R.bind_eq_ok (show ((R.ofO (intsOf xs)).bind fun gs => R.when (0 ≤ L ∧ L ≤ 1000 ∧ gs.length ≤ 10000) (R.ok (.lst ((readGaps L gs).map D.str)))) = .ok d from h)
    obtain ⟨⟨c1, c2, c3⟩, h⟩ := Pv.R.when_ok h
    cases h
    exact ⟨L, xs, gs, rfl, Pv.R.ofO_ok h1, c1, c2, c3, rfl⟩
def tRG (K : PySem.W.Frag) (C : Addr) : TS := tSeq (tAsg (tMake C (spInit C) [] E0 (tCons (tVar 0) tNil)) (gName 2)) (tSeq (tFor (iList K (tVar 1)) (gName 3) (tDrop (tMeth C "read" (spRead C) [] E0 (tVar 2) (tCons (tVar 3) tNil)))) (tRet (tFld K (tVar 2) "payloads")))
theorem new_out [Tabs] {K : PySem.W.Frag} {G H H2 : Hp} {p : Addr} {ds : List D} {vs : List V} {Q : VK} (e : Ex G H) (hp : H p = none) (h2 : H2 p = some (.lst vs)) (k : ∀ b o, H b = some o → H2 b = some o) (r : ∀ G', Reps K G' ds vs) (q : Out K G H (.lst ds) Q) : Q (.ref p) H2 := by
  have hG : G p = none := fresh_back e hp
  refine q (.ref p) (upd G p (.lst vs)) H2 ⟨Ex.new hG, fun a o z => ?_, .of k, fun a o z n => ?_⟩ ⟨p, vs, rfl, upd_same, r _⟩
  · by_cases ha : a = p
    · subst ha; rw [upd_same] at z; cases z; exact .inl h2
    · rw [upd_ne ha] at z
      exact (e.trans (.of k)) a o z
  · rw [upd_ne (ne_of_none z hp)]; exact n
theorem when_nox {α : Type} {c : Prop} [Decidable c] {a : α} {k : Nat} {xs : List D} : R.when c (.ok a) ≠ .exc k xs := by
  unfold R.when
  split <;> exact fun z => by cases z
theorem rg_nox (ds : List D) (c : Nat) (xs : List D) : g_read_gaps ds ≠ .exc c xs := by
  unfold g_read_gaps
  split
  · rename_i L ys
    cases intsOf ys with
    | none => exact fun z => by cases z
    | some gs => exact when_nox
  · exact fun z => by cases z
theorem det_nox (ds : List D) (c : Nat) (xs : List D) : g__law_detected ds ≠ .exc c xs := by
  unfold g__law_detected
  split
  · rename_i p h ys
    cases intsOf ys with
    | none => exact fun z => by cases z
    | some gs => exact when_nox
  · exact fun z => by cases z
theorem rg_ok [Tabs] {K : PySem.W.Frag} {mg : Str → Option Value} {C : Addr} (T : Txt K mg C) {H : Hp} {vs : List V} {Q : VK} {E : XK} (h : spD K g_read_gaps vs H Q E) : tRG K C { nx := fun _ H' => Q .non H', rt := Q } (L2.start ["limit", "gaps", "reader", "gap"] vs) H := by
  obtain ⟨G, ds, d, r, e, tb, h1, q⟩ := h.plain rg_nox
  obtain ⟨L, xs, gs, rfl, hi, c1, c2, c3, rfl⟩ := g_rg h1
  obtain ⟨v, u, rfl, r1, r2⟩ := reps2 r
  cases (show v = V.int L from r1)
  obtain ⟨a, ys, rfl, ha, hys⟩ := r2
  have := hys.ints hi
  subst this
  refine ⟨_, rfl, fun x dx nx ndx ne => ⟨x, dx, L, rfl, upd_same, fun d H1 fd0 R kp => ⟨rfl, ?_⟩⟩⟩
  have s0 : ∀ b o, H b = some o → (upd (upd H dx (.own x)) x (.ins C dx [])) b = some o := fun b o e => by
    rw [upd_ne (ne_of_none e nx), upd_ne (ne_of_none e ndx)]
    exact e
  have s1 : ∀ b o, H b = some o → H1 b = some o := fun b o e => kp b o (s0 b o e) (ne_of_none e nx)
  have nd0 : H d = none := by
    cases z : H d with
    | none => rfl
    | some o => rw [s0 d o z] at fd0; cases fd0
  have haH : H a = some (.lst (gs.map V.int)) := e.at ha rfl
  refine ⟨_, rfl, a, rfl, ⟨_, .of (s1 _ _ haH)⟩, for_list (K := K) (a := a) (xs := gs.map V.int) (fun i σ H2 => ∃ v3 : Option V, σ = [some (.int L), some (.ref a), some (.ref x), v3] ∧ RdAt C H2 x d L (rdAll L rd0 (gs.take i)) ∧ (∀ b o, H b = some o → H2 b = some o) ∧ Small L (rdAll L rd0 (gs.take i)) i)
    ⟨none, rfl, R, s1, ⟨Nat.le_refl _, fun b z => by cases z⟩⟩ (fun i σ H2 _ ⟨_, _, _, k, _⟩ => .of (k _ _ haH)) ?_ ?_⟩
  · rintro i y σ H2 hy ⟨v3, rfl, R2, k2, sm⟩
    have hil : i < gs.length := by
      have := (List.getElem?_eq_some_iff.mp hy).1
      rwa [List.length_map] at this
    have hg : y = V.int gs[i] := by
      rw [List.getElem?_map, List.getElem?_eq_getElem hil] at hy
      exact (Option.some.inj hy).symm
    subst hg
    obtain ⟨⟨dy, hx2⟩, hl2⟩ := id R2
    have et : gs.take (i + 1) = gs.take i ++ [gs[i]] := by rw [List.take_succ, List.getElem?_eq_getElem hil]; rfl
    have es : rdAll L rd0 (gs.take (i + 1)) = rdStep L (rdAll L rd0 (gs.take i)) gs[i] := by
      rw [et]
      unfold rdAll
      rw [List.foldl_append]; rfl
    refine ⟨_, rfl, x, dy, _, rfl, hx2, getM_ rfl, _, rfl, x, d, L, gs[i], _, i, rfl, R2, c1, c2, by omega, sm, fun H3 R3 k3 => ?_⟩
    refine ⟨_, rfl, by rw [es]; exact R3, fun b o eb => k3 b o (k2 b o eb) (ne_of_none eb nx) (ne_of_none eb nd0), by rw [es]; exact small_step sm c1⟩
  · rintro σ H2 ⟨v3, rfl, R2, k2, _⟩
    rw [List.length_map, List.take_length] at R2
    obtain ⟨⟨dy, hx2⟩, hl2⟩ := id R2
    refine ⟨_, rfl, x, C, dy, _, _, rfl, hx2, T.cl, T.nP, getP_, ?_⟩
    exact new_out e nd0 hl2 k2 (fun G' => strs_rep _) q

/-! ### a dict of counts -/

def tDet (K : PySem.W.Frag) : TS := tSeq (tAsg tDNewK (gName 3)) (tSeq (tFor (iList K (tVar 2)) (gName 4)
    (tSeq (tAsg (tIf (tTest (tLe (tVar 4) (tVar 1))) (tC (V.int 0)) (tOp (rI CDiv fun i j => V.int (i / j)) (tOp (rI0 fun i j => V.int (i - j)) (tOp (rI0 fun i j => V.int (i + j)) (tOp (rI0 fun i j => V.int (i - j)) (tVar 4) (tVar 1)) (tVar 0)) (tC (V.int 1))) (tVar 0))) (gName 5))
      (sDPut (tVar 3) (tVar 5) (tOp (rI0 fun i j => V.int (i + j)) (tDGet2 (tVar 3) (tVar 5) (tC (V.int 0))) (tC (V.int 1))))))
  (tRet (tCB (rSortedI K) (tCons (tLockE (tLc (iKeys (tVar 3)) (gName 5) (tTest (tOp rEq (tOp (rI (fun x j => 0 < j) fun i j => V.int (i % j)) (tDGet (tVar 3) (tVar 5)) (tC (V.int 2))) (tC (V.int 1)))) (tVar 5) [5])) tNil))))
/-- the dict tells how often each is there -/
structure Cnt (kvs : List (Key × V)) (ks : List Int) : Prop where
  at_ : ∀ k : Int, valV kvs (.inl k : Key) = if k ∈ ks then some (.int (ks.count k : Int)) else none
  mem : ∀ p ∈ kvs, ∃ k : Int, p.1 = .inl k
  nd : (kvs.map (·.1)).Nodup
  len : kvs.length ≤ ks.length
theorem Cnt.nil : Cnt [] [] := ⟨fun k => by simp [valV_nil], (fun p h => by cases h), List.nodup_nil, Nat.le_refl _⟩
theorem mem_put {kvs : List (Key × V)} {k : Key} {v : V} {p : Key × V} (h : p ∈ putK kvs k v) : p.1 = k ∨ ∃ q ∈ kvs, q.1 = p.1 := by
  unfold putK at h
  split at h
  · obtain ⟨q, hq, e⟩ := List.mem_map.mp h
    split at e
    · exact .inr ⟨q, hq, by rw [← e]⟩
    · exact .inr ⟨q, hq, by rw [e]⟩
  · rcases List.mem_append.mp h with h | h
    · exact .inr ⟨p, h, rfl⟩
    · simp at h; exact .inl (by rw [h])
theorem keys_old (kvs : List (Key × V)) (k : Key) (v : V) : (kvs.map fun kv => if kv.1 = k then (kv.1, v) else kv).map (·.1) = kvs.map (·.1) := by
  rw [List.map_map]
  apply List.map_congr_left
  intro p _
  show (if p.1 = k then (p.1, v) else p).1 = p.1
  split <;> rfl
theorem Cnt.put {kvs : List (Key × V)} {ks : List Int} {k : Int} (c : Cnt kvs ks) : Cnt (putK kvs (.inl k) (.int ((ks.count k : Int) + 1))) (ks ++ [k]) := by
  refine ⟨fun j => ?_, fun p hp => ?_, ?_, ?_⟩
  · rw [valV_put]
    by_cases e : j = k
    · subst e
      rw [if_pos rfl, if_pos (by simp), List.count_append]
      simp
    · have e2 : ¬ (Sum.inl j : Key) = .inl k := fun z => e (Sum.inl.inj z)
      rw [if_neg e2, c.at_ j, List.count_append]
      have e3 : ¬ k = j := fun z => e z.symm
      simp [e, e3, List.count_cons]
  · rcases mem_put hp with h | ⟨q, hq, h⟩
    · exact ⟨k, h⟩
    · obtain ⟨j, hj⟩ := c.mem q hq
      exact ⟨j, by rw [← h, hj]⟩
  · by_cases h : valV kvs (.inl k : Key) = none
    · exact nd_putK _ c.nd h
    · unfold putK
      have : (kvs.any fun kv => decide (kv.1 = (.inl k : Key))) = true := by
        rw [valV_any]
        cases q : valV kvs (.inl k : Key) with
        | none => exact absurd q h
        | some v => rfl
      rw [if_pos this, keys_old]
      exact c.nd
  · have := length_putK kvs (.inl k : Key) (.int ((ks.count k : Int) + 1))
    have := c.len
    rw [List.length_append]
    simp
    omega
theorem g_det {ds : List D} {d : D} (h : g__law_detected ds = .ok d) : ∃ (po ph : Int) (xs : List D) (ts : List Int), ds = [.int po, .int ph, .lst xs] ∧ intsOf xs = some ts ∧ 0 < po ∧ po < 1000000 ∧ ts.length ≤ 900 ∧ d = .lst ((oddsOf (ts.map (pollK po ph))).map D.int) :=
  match ds, h with
  | [.int po, .int ph, .lst xs], h => by
    obtain ⟨ts, h1, h⟩ := Pv.R.bind_eq_ok (show ((R.ofO (intsOf xs)).bind fun ts => R.when (0 < po ∧ po < 1000000 ∧ ts.length ≤ 900) (R.ok (.lst ((oddsOf (ts.map (pollK po ph))).map D.int)))) = .ok d from h)
    obtain ⟨⟨c1, c2, c3⟩, h⟩ := Pv.R.when_ok h
    cases h
    exact ⟨po, ph, xs, ts, rfl, Pv.R.ofO_ok h1, c1, c2, c3, rfl⟩
/-- the keys that are there an odd number of times, in the dict's order -/
def oddF (ks : List Int) (p : Key × V) : Option Int := match p.1 with
  | .inl k => if ks.count k % 2 = 1 then some k else none
  | .inr _ => none
theorem oddF_inl {ks : List Int} {p : Key × V} {k : Int} (h : p.1 = .inl k) : oddF ks p = if ks.count k % 2 = 1 then some k else none := by
  unfold oddF
  rw [h]
def oddK (ks : List Int) (kvs : List (Key × V)) : List Int := kvs.filterMap (oddF ks)
theorem oddK_cons {ks : List Int} {p : Key × V} {k : Int} (h : p.1 = .inl k) (l : List (Key × V)) : oddK ks (p :: l) = (if ks.count k % 2 = 1 then [k] else []) ++ oddK ks l := by
  have := oddF_inl (ks := ks) h
  unfold oddK
  by_cases c : ks.count k % 2 = 1
  · rw [if_pos c] at this
    rw [if_pos c, List.filterMap_cons_some this]; rfl
  · rw [if_neg c] at this
    rw [if_neg c, List.filterMap_cons_none this]; rfl
theorem odd_perm {kvs : List (Key × V)} {ks : List Int} (c : Cnt kvs ks) : (oddK ks kvs).Perm ((dd ks).filter fun k => decide (ks.count k % 2 = 1)) := by
  have key : ∀ l : List (Key × V), (∀ p ∈ l, ∃ k : Int, p.1 = .inl k) → (l.map (·.1)).Nodup → (oddK ks l).Nodup ∧ ∀ x, x ∈ oddK ks l ↔ (.inl x : Key) ∈ l.map (·.1) ∧ ks.count x % 2 = 1 := by
    intro l
    induction l with
    | nil => intro _ _; exact ⟨List.nodup_nil, fun x => by simp [oddK]⟩
    | cons p l ih =>
      intro hm hn
      obtain ⟨k, hk⟩ := hm p List.mem_cons_self
      rw [List.map_cons, List.nodup_cons] at hn
      obtain ⟨i1, i2⟩ := ih (fun q hq => hm q (List.mem_cons_of_mem _ hq)) hn.2
      have e := oddK_cons (ks := ks) hk l
      rw [e]
      split
      · rename_i ho
        refine ⟨?_, fun x => ?_⟩
        · rw [List.singleton_append, List.nodup_cons]
          refine ⟨fun z => ?_, i1⟩
          have := ((i2 k).mp z).1
          rw [← hk] at this
          exact hn.1 this
        · rw [List.singleton_append, List.mem_cons, i2 x, List.map_cons, List.mem_cons, hk]
          constructor
          · rintro (e | ⟨a, b⟩)
            · subst e; exact ⟨.inl rfl, ho⟩
            · exact ⟨.inr a, b⟩
          · rintro ⟨a | a, b⟩
            · exact .inl (Sum.inl.inj a)
            · exact .inr ⟨a, b⟩
      · rename_i ho
        refine ⟨i1, fun x => ?_⟩
        rw [List.nil_append, i2 x, List.map_cons, List.mem_cons, hk]
        constructor
        · rintro ⟨a, b⟩; exact ⟨.inr a, b⟩
        · rintro ⟨a | a, b⟩
          · rw [Sum.inl.inj a] at b; exact absurd b ho
          · exact ⟨a, b⟩
  obtain ⟨k1, k2⟩ := key kvs c.mem c.nd
  refine (List.perm_ext_iff_of_nodup k1 ((nodup_dd ks).filter _)).mpr fun x => ?_
  rw [k2 x, List.mem_filter, mem_dd, decide_eq_true_eq]
  have : (.inl x : Key) ∈ kvs.map (·.1) ↔ x ∈ ks := by
    have h := c.at_ x
    by_cases hx : x ∈ ks
    · rw [if_pos hx] at h
      refine ⟨fun _ => hx, fun _ => ?_⟩
      unfold valV at h
      cases q : kvs.find? fun kv => decide (kv.1 = (.inl x : Key)) with
      | none => rw [q] at h; cases h
      | some p =>
        have h1 := List.find?_some q
        have h2 := List.mem_of_find?_eq_some q
        exact List.mem_map.mpr ⟨p, h2, by simpa using h1⟩
    · rw [if_neg hx] at h
      refine ⟨fun z => ?_, fun z => absurd z hx⟩
      obtain ⟨p, hp, e⟩ := List.mem_map.mp z
      unfold valV at h
      have : kvs.find? (fun kv => decide (kv.1 = (.inl x : Key))) = none := by
        cases q : kvs.find? fun kv => decide (kv.1 = (.inl x : Key)) with
        | none => rfl
        | some p => rw [q] at h; cases h
      have := List.find?_eq_none.mp this p hp
      simp [e] at this
  rw [this]
theorem det_ok [Tabs] {K : PySem.W.Frag} {H : Hp} {vs : List V} {Q : VK} {E : XK} (h : spD K g__law_detected vs H Q E) :
    tDet K { nx := fun _ H' => Q .non H', rt := Q } (L2.start ["_law_poll", "_law_phase", "_law_signal_here", "_law_counts", "_law_time", "_law_k"] vs) H := by
  obtain ⟨G, ds, d, r, e, tb, h1, q⟩ := h.plain det_nox
  obtain ⟨po, ph, xs, ts, rfl, hi, c1, c2, c3, rfl⟩ := g_det h1
  obtain ⟨v0, vs', rfl, r0, r1⟩ := r
  obtain ⟨v1, v2, rfl, r1, r2⟩ := reps2 r1
  cases (show v0 = V.int po from r0)
  cases (show v1 = V.int ph from r1)
  obtain ⟨a, ys, rfl, ha, hys⟩ := r2
  have := hys.ints hi
  subst this
  intro d hd
  have haH : H a = some (.lst (ts.map V.int)) := e.at ha rfl
  have nad : a ≠ d := ne_of_none haH hd
  have small : sizeLine = 16777216 := sizeLine_eq
  refine ⟨_, rfl, a, rfl, ⟨_, .of (by rw [upd_ne nad]; exact haH)⟩, for_list (K := K) (a := a) (xs := ts.map V.int) (fun i σ H2 => ∃ (kvs : List (Key × V)) (v4 v5 : Option V), σ = [some (.int po), some (.int ph), some (.ref a), some (.ref d), v4, v5] ∧ Cnt kvs ((ts.take i).map (pollK po ph)) ∧
      H2 d = some (.dK kvs) ∧ (∀ b o, H b = some o → H2 b = some o))
    ⟨[], none, none, rfl, Cnt.nil, upd_same, fun b o eb => by rw [upd_ne (ne_of_none eb hd)]; exact eb⟩ (fun i σ H2 _ ⟨_, _, _, _, _, _, k⟩ => .of (k _ _ haH)) ?_ ?_⟩
  · rintro i y σ H2 hy ⟨kvs, v4, v5, rfl, cn, hd2, k2⟩
    have hil : i < ts.length := by
      have := (List.getElem?_eq_some_iff.mp hy).1
      rwa [List.length_map] at this
    have hg : y = V.int ts[i] := by
      rw [List.getElem?_map, List.getElem?_eq_getElem hil] at hy
      exact (Option.some.inj hy).symm
    subst hg
    have et : (ts.take (i + 1)).map (pollK po ph) = (ts.take i).map (pollK po ph) ++ [pollK po ph ts[i]] := by rw [List.take_succ, List.getElem?_eq_getElem hil, List.map_append]; rfl
    have body : ∀ pk : Int, pk = pollK po ph ts[i] → sDPut (tVar 3) (tVar 5) (tOp (rI0 fun i j => V.int (i + j)) (tDGet2 (tVar 3) (tVar 5) (tC (V.int 0))) (tC (V.int 1)))
        { nx := fun σ H2 => ∃ (kvs : List (Key × V)) (v4 v5 : Option V), σ = [some (.int po), some (.int ph), some (.ref a), some (.ref d), v4, v5] ∧ Cnt kvs ((ts.take (i + 1)).map (pollK po ph)) ∧ H2 d = some (.dK kvs) ∧ (∀ b o, H b = some o → H2 b = some o), rt := Q }
        [some (.int po), some (.int ph), some (.ref a), some (.ref d), some (.int ts[i]), some (.int pk)] H2 := by
      intro pk hpk
      subst hpk
      refine ⟨_, rfl, d, rfl, .inl ⟨kvs, .inl hd2⟩, _, rfl, _, DGet.k (k := Sum.inl (pollK po ph ts[i])) hd2, ?_⟩
      have hv : ((valV kvs (Sum.inl (pollK po ph ts[i]) : Key)).getD (V.int 0)) = V.int (((ts.take i).map (pollK po ph)).count (pollK po ph ts[i]) : Nat) := by
        rw [cn.at_]
        split
        · rfl
        · rename_i hn
          rw [List.count_eq_zero_of_not_mem hn]; rfl
      rw [hv]
      refine ⟨_, _, rfl, rfl, _, rfl, _, rfl, d, _, rfl, DPut.k (k := Sum.inl (pollK po ph ts[i])) hd2 ?_, ?_⟩
      · have := cn.len
        rw [List.length_map, List.length_take] at this
        rw [small]; omega
      · refine ⟨_, _, _, rfl, ?_, upd_same, fun b o eb => by rw [upd_ne (ne_of_none eb hd)]; exact k2 b o eb⟩
        rw [et]
        exact cn.put
    refine ⟨_, rfl, _, rfl, _, _, rfl, rfl, _, rfl, ?_⟩
    by_cases hc : ts[i] ≤ ph
    · rw [decide_eq_true hc]
      refine iteT ?_
      exact body 0 (by unfold pollK; rw [if_pos hc])
    · rw [decide_eq_false hc]
      refine iteF ?_
      refine ⟨_, rfl, _, rfl, _, _, rfl, rfl, _, rfl, _, _, rfl, rfl, _, _, rfl, rfl, _, rfl, _, _, rfl, rfl, ⟨c1, by omega⟩, ?_⟩
      exact body _ (by unfold pollK; rw [if_neg hc])
  · rintro σ H2 ⟨kvs, v4, v5, rfl, cn, hd2, k2⟩
    rw [List.length_map, List.take_length] at cn
    obtain ⟨ks, hks⟩ : ∃ ks, ks = ts.map (pollK po ph) := ⟨_, rfl⟩
    rw [← hks] at cn q
    refine ⟨d, _, hd2, trivial, fun od => ?_⟩
    refine ⟨_, rfl, d, od, rfl, .inl ⟨kvs, upd_same, fun Dl hD => ?_⟩⟩
    have nDd : Dl ≠ d := fun z => by rw [z, upd_same] at hD; cases hD
    refine ⟨fun i m H3 => m = kvs.length - i ∧ i ≤ kvs.length ∧ H3 d = some (.frz od (.dK kvs)) ∧ H3 Dl = some (.lst ((oddK ks (kvs.take i)).map V.int)) ∧ (oddK ks (kvs.take i)).length ≤ i ∧ ∀ b o, H2 b = some o → b ≠ d → H3 b = some o,
      ⟨kvs.length, rfl, Nat.zero_le _, by rw [upd_ne nDd.symm]; exact upd_same, upd_same, Nat.le_refl _, fun b o eb nb => by
        have nbD : b ≠ Dl := fun z => by rw [← z, upd_ne nb, eb] at hD; cases hD
        rw [upd_ne nbD, upd_ne nb]; exact eb⟩, ?_⟩
    rintro i m H3 ⟨rfl, hil, hd3, hl3, hle, k3⟩
    by_cases hlt : i < kvs.length
    · refine .inr ⟨⟨hd3, hlt⟩, fun H4 => i + 1 ≤ kvs.length ∧ H4 d = some (.frz od (.dK kvs)) ∧ H4 Dl = some (.lst ((oddK ks (kvs.take (i + 1))).map V.int)) ∧ (oddK ks (kvs.take (i + 1))).length ≤ i + 1 ∧ ∀ b o, H2 b = some o → b ≠ d → H4 b = some o,
        fun H4 hN => ⟨kvs.length - (i + 1), by omega, rfl, hN⟩, ?_⟩
      rintro x H4 ⟨rfl, k, v, hk, rfl⟩
      obtain ⟨n, hn⟩ := cn.mem (k, v) (List.mem_of_getElem? hk)
      cases hn
      have hv := cn.at_ n
      have hin : n ∈ ks := by
        by_cases z : n ∈ ks
        · exact z
        · rw [if_neg z] at hv
          unfold valV at hv
          have : kvs.find? (fun kv => decide (kv.1 = (.inl n : Key))) = none := by
            cases q : kvs.find? fun kv => decide (kv.1 = (.inl n : Key)) with
            | none => rfl
            | some p => rw [q] at hv; cases hv
          have := List.find?_eq_none.mp this _ (List.mem_of_getElem? hk)
          simp at this
      rw [if_pos hin] at hv
      have et : oddK ks (kvs.take (i + 1)) = oddK ks (kvs.take i) ++ (if ks.count n % 2 = 1 then [n] else []) := by
        rw [List.take_succ, hk]
        have e1 : oddK ks (kvs.take i ++ (some (Sum.inl n, v) : Option (Key × V)).toList) = oddK ks (kvs.take i) ++ oddK ks [(Sum.inl n, v)] := by
          unfold oddK
          rw [List.filterMap_append]; rfl
        rw [e1, oddK_cons (p := (Sum.inl n, v)) rfl]
        show _ ++ (_ ++ []) = _
        rw [List.append_nil]
      refine ⟨rfl, _, rfl, _, rfl, d, _, rfl, .inl ⟨kvs, .inl n, .inr ⟨od, hd3⟩, rfl, hv.symm⟩, _, _, rfl, rfl, (by show (0 : Int) < 2; decide), rfl, _, rfl, ?_⟩
      rw [L2.dec_int]
      by_cases ho : ks.count n % 2 = 1
      · have : (((ks.count n : Nat) : Int) % 2 == 1) = true := by rw [beq_iff_eq]; omega
        rw [this]
        refine iteT ⟨_, rfl, _, hl3, (by rw [List.length_map, small]; have h7 := cn.len; have e9 : ks.length = ts.length := (by rw [hks, List.length_map]); omega), hlt, ?_⟩
        rw [et, if_pos ho]
        refine ⟨by rw [upd_ne nDd.symm]; exact hd3, by rw [upd_same, List.map_append]; rfl, by rw [List.length_append]; simp; exact hle, fun b o eb nb => ?_⟩
        have nbD : b ≠ Dl := fun z => by rw [← z, upd_ne nb, eb] at hD; cases hD
        rw [upd_ne nbD]; exact k3 b o eb nb
      · have : (((ks.count n : Nat) : Int) % 2 == 1) = false := by rw [beq_eq_false_iff_ne]; omega
        rw [this]
        refine iteF ⟨hlt, ?_⟩
        rw [et, if_neg ho, List.append_nil]
        exact ⟨hd3, hl3, Nat.le_succ_of_le hle, k3⟩
    · have : i = kvs.length := by omega
      subst this
      rw [List.take_length] at hl3
      refine .inl ⟨⟨hd3, Nat.le_refl _⟩, hd3, Dl, _, rfl, .of (by rw [upd_ne nDd]; exact hl3), fun ns' p hp hs hn => ?_⟩
      have e1 := PySem.W.ksm_same (hp.trans ((odd_perm cn).trans (sortI_perm _).symm)) hs (sortI_sorted _)
      have kk : ∀ b o, H b = some o → (upd H3 d (.dK kvs)) b = some o := fun b o eb => by
        rw [upd_ne (ne_of_none eb hd)]
        exact k3 b o (k2 b o eb) (ne_of_none eb hd)
      have hp0 : H p = none := by
        cases z : H p with
        | none => rfl
        | some o => rw [kk p o z] at hn; cases hn
      refine new_out (ds := (oddsOf ks).map D.int) e hp0 upd_same (fun b o eb => by rw [upd_ne (ne_of_none eb hp0)]; exact kk b o eb) (fun G' => ?_) q
      rw [e1]
      exact Reps.int
end Ext

end
section
/-! P: the defs that several laws share -/
namespace P
open Pv
-- byte_bits: 0 number, 1 found, 2 place
def B0_byte_bits : ISs := (.cons (.asg 1 (.op2 .add (.var 1) (.blt .str (.cons (.op2 .mod (.var 0) (.int 2)) .nil))) []) (.cons (.asg 0 (.op2 .div (.var 0) (.int 2)) []) .nil))
@[simp] theorem u_B0_byte_bits {F : List (List D → R D)} {ρ : Env} : evSs F B0_byte_bits ρ = evSs F (.cons (.asg 1 (.op2 .add (.var 1) (.blt .str (.cons (.op2 .mod (.var 0) (.int 2)) .nil))) []) (.cons (.asg 0 (.op2 .div (.var 0) (.int 2)) []) .nil)) ρ := Eq.trans rfl rfl
def t_byte_bits : Fn := ⟨1, 3, (.cons (.asg 1 (.str []) []) (.cons (.forr (.rng (.cons (.glob 8) .nil)) (.one 2) B0_byte_bits []) (.cons (.ret (.var 1) []) .nil)))⟩
def g_byte_bits : List D → R D := evF [] t_byte_bits
-- bits_of: 0 numbers, 1 number
def E0_bits_of : IE := (.call 0 (.cons (.var 1) .nil))
@[simp] theorem u_E0_bits_of {F : List (List D → R D)} {z : Nat → Bool} {ρ : Env} : evE F z ρ E0_bits_of = evE F z ρ (.call 0 (.cons (.var 1) .nil)) := Eq.trans rfl rfl
def t_bits_of : Fn := ⟨1, 2, (.cons (.ret (.blt .join (.cons (.str []) (.cons (.comp (.seq (.var 0)) (.one 1) E0_bits_of [1]) .nil))) []) .nil)⟩
def g_bits_of : List D → R D := evF [P.g_byte_bits] t_bits_of
-- byte_of: 0 bits, 1 number, 2 bit
def B0_byte_of : ISs := (.cons (.asg 1 (.op2 .add (.op2 .mul (.int 2) (.var 1)) (.blt .int (.cons (.var 2) .nil))) []) .nil)
@[simp] theorem u_B0_byte_of {F : List (List D → R D)} {ρ : Env} : evSs F B0_byte_of ρ = evSs F (.cons (.asg 1 (.op2 .add (.op2 .mul (.int 2) (.var 1)) (.blt .int (.cons (.var 2) .nil))) []) .nil) ρ := Eq.trans rfl rfl
def t_byte_of : Fn := ⟨1, 3, (.cons (.asg 1 (.int 0) []) (.cons (.forr (.seq (.rev (.var 0))) (.one 2) B0_byte_of []) (.cons (.ret (.var 1) []) .nil)))⟩
def g_byte_of : List D → R D := evF [] t_byte_of
-- bytes_of: 0 bits, 1 at
def E0_bytes_of : IE := (.call 0 (.cons (.slice (.var 0) (.var 1) (.op2 .add (.var 1) (.glob 8))) .nil))
@[simp] theorem u_E0_bytes_of {F : List (List D → R D)} {z : Nat → Bool} {ρ : Env} : evE F z ρ E0_bytes_of = evE F z ρ (.call 0 (.cons (.slice (.var 0) (.var 1) (.op2 .add (.var 1) (.glob 8))) .nil)) := Eq.trans rfl rfl
def t_bytes_of : Fn := ⟨1, 2, (.cons (.ite (.op2 .ne (.op2 .mod (.blt .len (.cons (.var 0) .nil)) (.glob 8)) (.int 0)) (.cons (.ret .non []) .nil) .nil) (.cons (.ret (.comp (.rng (.cons (.int 0) (.cons (.blt .len (.cons (.var 0) .nil)) (.cons (.glob 8) .nil)))) (.one 1) E0_bytes_of [1]) []) .nil))⟩
def g_bytes_of : List D → R D := evF [P.g_byte_of] t_bytes_of
-- _law_cell: 0 _law_script, 1 _law_k
def t__law_cell : Fn := ⟨2, 2, (.cons (.ite (.op2 .lt (.var 1) (.blt .len (.cons (.var 0) .nil))) (.cons (.ret (.op2 .ix (.var 0) (.var 1)) []) .nil) .nil) (.cons (.ret (.int 0) []) .nil))⟩
def g__law_cell : List D → R D := evF [] t__law_cell
-- _law_draws: 0 _law_cell_here, 1 _law_count, 2 _law_found, 3 _law_is_wide, 4 _law_k, 5 _law_mixed
def B0__law_draws : ISs := (.cons (.ite (.var 3) (.cons (.app 2 (.op2 .mod (.blt .int (.cons (.var 0) .nil)) (.int 1009))) (.cons (.asg 0 (.op2 .div (.var 0) (.int 1009)) []) .nil)) (.cons (.asg 5 (.op2 .mod (.blt .int (.cons (.op2 .add (.op2 .mul (.var 0) (.int 48271)) (.op2 .mul (.var 4) (.int 69621))) .nil)) (.int 2147483647)) []) (.cons (.app 2 (.op2 .mod (.blt .int (.cons (.op2 .add (.op2 .add (.op2 .mul (.var 5) (.var 5)) (.op2 .mul (.var 0) (.int 31))) (.var 4)) .nil)) (.int 1000003))) .nil))) .nil)
@[simp] theorem u_B0__law_draws {F : List (List D → R D)} {ρ : Env} : evSs F B0__law_draws ρ = evSs F (.cons (.ite (.var 3) (.cons (.app 2 (.op2 .mod (.blt .int (.cons (.var 0) .nil)) (.int 1009))) (.cons (.asg 0 (.op2 .div (.var 0) (.int 1009)) []) .nil)) (.cons (.asg 5 (.op2 .mod (.blt .int (.cons (.op2 .add (.op2 .mul (.var 0) (.int 48271)) (.op2 .mul (.var 4) (.int 69621))) .nil)) (.int 2147483647)) []) (.cons (.app 2 (.op2 .mod (.blt .int (.cons (.op2 .add (.op2 .add (.op2 .mul (.var 5) (.var 5)) (.op2 .mul (.var 0) (.int 31))) (.var 4)) .nil)) (.int 1000003))) .nil))) .nil) ρ := Eq.trans rfl rfl
def t__law_draws : Fn := ⟨2, 6, (.cons (.asgL 2 (.lst .nil) []) (.cons (.asg 3 (.op2 .ge (.var 0) (.op2 .pow (.int 10) (.int 18))) []) (.cons (.forr (.rng (.cons (.var 1) .nil)) (.one 4) B0__law_draws []) (.cons (.ret (.var 2) [2]) .nil))))⟩
def g__law_draws : List D → R D := evF [] t__law_draws
-- _law_same: 0 _law_actual, 1 _law_expected, 2 _law_k
def B0__law_same : ISs := (.cons (.ite (.not (.call 0 (.cons (.op2 .ix (.var 0) (.var 2)) (.cons (.op2 .ix (.var 1) (.var 2)) .nil)))) (.cons (.ret (.bl false) []) .nil) .nil) .nil)
@[simp] theorem u_B0__law_same {F : List (List D → R D)} {ρ : Env} : evSs F B0__law_same ρ = evSs F (.cons (.ite (.not (.call 0 (.cons (.op2 .ix (.var 0) (.var 2)) (.cons (.op2 .ix (.var 1) (.var 2)) .nil)))) (.cons (.ret (.bl false) []) .nil) .nil) .nil) ρ := Eq.trans rfl rfl
def t__law_same : Fn := ⟨2, 3, (.cons (.ite (.isinst .tuple (.var 1)) (.cons (.ite (.or (.not (.isinst .tuple (.var 0))) (.op2 .ne (.blt .len (.cons (.var 0) .nil)) (.blt .len (.cons (.var 1) .nil)))) (.cons (.ret (.bl false) []) .nil) .nil) (.cons (.forr (.rng (.cons (.blt .len (.cons (.var 1) .nil)) .nil)) (.one 2) B0__law_same []) (.cons (.ret (.bl true) []) .nil))) .nil) (.cons (.ite (.isN (.var 1)) (.cons (.ret (.isN (.var 0)) []) .nil) .nil) (.cons (.ite (.isinst .bool (.var 1)) (.cons (.ret (.and (.isinst .bool (.var 0)) (.op2 .eq (.var 0) (.var 1))) []) .nil) .nil) (.cons (.ite (.isinst .str (.var 1)) (.cons (.ret (.and (.isinst .str (.var 0)) (.op2 .eq (.var 0) (.var 1))) []) .nil) .nil) (.cons (.ret (.and (.isinst .int (.var 0)) (.and (.not (.isinst .bool (.var 0))) (.op2 .eq (.var 0) (.var 1)))) []) .nil)))))⟩
def h__law_same : Nat → List D → R D
  | 0 => fun _ => .stuck
  | n + 1 => evF [(h__law_same n)] t__law_same
def g__law_same : List D → R D := h__law_same 6
-- _law_bits: 0 _law_cell_here, 1 _law_most, 2 _law_draws_here, 3 _law_heavy, 4 _law_k
def E0__law_bits : IE := (.blt .str (.cons (.blt .int (.cons (.op2 .lt (.op2 .mod (.blt .int (.cons (.op2 .ix (.var 2) (.var 4)) .nil)) (.int 5)) (.var 3)) .nil)) .nil))
@[simp] theorem u_E0__law_bits {F : List (List D → R D)} {z : Nat → Bool} {ρ : Env} : evE F z ρ E0__law_bits = evE F z ρ (.blt .str (.cons (.blt .int (.cons (.op2 .lt (.op2 .mod (.blt .int (.cons (.op2 .ix (.var 2) (.var 4)) .nil)) (.int 5)) (.var 3)) .nil)) .nil)) := Eq.trans rfl rfl
def t__law_bits : Fn := ⟨2, 5, (.cons (.asg 2 (.call 0 (.cons (.var 0) (.cons (.op2 .add (.var 1) (.int 2)) .nil))) []) (.cons (.asg 3 (.op2 .add (.int 1) (.op2 .mod (.blt .int (.cons (.op2 .ix (.var 2) (.op2 .add (.var 1) (.int 1))) .nil)) (.int 4))) []) (.cons (.ret (.blt .join (.cons (.str []) (.cons (.comp (.rng (.cons (.op2 .mod (.blt .int (.cons (.op2 .ix (.var 2) (.var 1)) .nil)) (.op2 .add (.var 1) (.int 1))) .nil)) (.one 4) E0__law_bits [4]) .nil))) []) .nil)))⟩
def g__law_bits : List D → R D := evF [P.g__law_draws] t__law_bits
-- _law_generator: 0 _law_cell_here, 1 _law_known, 2 _law_draws_here, 3 _law_k
def E0__law_generator : IE := (.blt .str (.cons (.op2 .mod (.blt .int (.cons (.op2 .ix (.var 2) (.op2 .add (.int 2) (.var 3))) .nil)) (.int 2)) .nil))
@[simp] theorem u_E0__law_generator {F : List (List D → R D)} {z : Nat → Bool} {ρ : Env} : evE F z ρ E0__law_generator = evE F z ρ (.blt .str (.cons (.op2 .mod (.blt .int (.cons (.op2 .ix (.var 2) (.op2 .add (.int 2) (.var 3))) .nil)) (.int 2)) .nil)) := Eq.trans rfl rfl
def t__law_generator : Fn := ⟨1, 4, (.cons (.asg 1 (.lst (.cons (.str [49, 49]) (.cons (.str [49, 48, 49]) (.cons (.str [49, 49, 49]) (.cons (.str [49, 48, 49, 49]) (.cons (.str [49, 48, 48, 49, 49]) (.cons (.str [49, 49, 48, 48, 49]) (.cons (.str [49, 48, 48, 49, 48, 49]) (.cons (.str [49, 48, 48, 48, 48, 48, 49, 49, 49]) (.cons (.str [49, 49, 49, 48, 49, 48, 49, 48, 49]) (.cons (.str [49, 48, 48, 48, 48, 49, 49]) .nil))))))))))) []) (.cons (.asg 2 (.call 0 (.cons (.var 0) (.cons (.int 9) .nil))) []) (.cons (.ite (.op2 .gt (.op2 .mod (.blt .int (.cons (.op2 .ix (.var 2) (.int 0)) .nil)) (.int 3)) (.int 0)) (.cons (.ret (.op2 .ix (.var 1) (.op2 .mod (.blt .int (.cons (.op2 .ix (.var 2) (.int 1)) .nil)) (.int 10))) []) .nil) .nil) (.cons (.ret (.op2 .add (.op2 .add (.str [49]) (.blt .join (.cons (.str []) (.cons (.comp (.rng (.cons (.op2 .mod (.blt .int (.cons (.op2 .ix (.var 2) (.int 1)) .nil)) (.int 7)) .nil)) (.one 3) E0__law_generator [3]) .nil)))) (.str [49])) []) .nil))))⟩
def g__law_generator : List D → R D := evF [P.g__law_draws] t__law_generator
-- added: 0 one, 1 two, 2 at, 3 bit
def E0_added : IE := (.ite (.op2 .eq (.var 3) (.op2 .ix (.var 1) (.var 2))) (.str [48]) (.str [49]))
@[simp] theorem u_E0_added {F : List (List D → R D)} {z : Nat → Bool} {ρ : Env} : evE F z ρ E0_added = evE F z ρ (.ite (.op2 .eq (.var 3) (.op2 .ix (.var 1) (.var 2))) (.str [48]) (.str [49])) := Eq.trans rfl rfl
def t_added : Fn := ⟨2, 4, (.cons (.ret (.blt .join (.cons (.str []) (.cons (.comp (.enm (.var 0)) (.many [2, 3]) E0_added [2, 3]) .nil))) []) .nil)⟩
def g_added : List D → R D := evF [] t_added
-- remainder: 0 generator, 1 bits, 2 size, 3 rest, 4 at
def B0_remainder : ISs := (.cons (.ite (.op2 .eq (.op2 .ix (.var 3) (.var 4)) (.str [49])) (.cons (.asg 3 (.op2 .add (.op2 .add (.slice (.var 3) .non (.var 4)) (.call 0 (.cons (.slice (.var 3) (.var 4) (.op2 .add (.var 4) (.var 2))) (.cons (.var 0) .nil)))) (.slice (.var 3) (.op2 .add (.var 4) (.var 2)) .non)) []) .nil) .nil) .nil)
@[simp] theorem u_B0_remainder {F : List (List D → R D)} {ρ : Env} : evSs F B0_remainder ρ = evSs F (.cons (.ite (.op2 .eq (.op2 .ix (.var 3) (.var 4)) (.str [49])) (.cons (.asg 3 (.op2 .add (.op2 .add (.slice (.var 3) .non (.var 4)) (.call 0 (.cons (.slice (.var 3) (.var 4) (.op2 .add (.var 4) (.var 2))) (.cons (.var 0) .nil)))) (.slice (.var 3) (.op2 .add (.var 4) (.var 2)) .non)) []) .nil) .nil) .nil) ρ := Eq.trans rfl rfl
def t_remainder : Fn := ⟨2, 5, (.cons (.asg 2 (.blt .len (.cons (.var 0) .nil)) []) (.cons (.asg 3 (.var 1) []) (.cons (.forr (.rng (.cons (.op2 .add (.op2 .sub (.blt .len (.cons (.var 1) .nil)) (.var 2)) (.int 1)) .nil)) (.one 4) B0_remainder []) (.cons (.ret (.slice (.var 3) (.op2 .add (.op2 .sub (.blt .len (.cons (.var 3) .nil)) (.var 2)) (.int 1)) .non) []) .nil))))⟩
def g_remainder : List D → R D := evF [P.g_added] t_remainder
-- check_bits: 0 generator, 1 bits
def t_check_bits : Fn := ⟨2, 2, (.cons (.ret (.call 0 (.cons (.var 0) (.cons (.op2 .add (.var 1) (.op2 .mul (.str [48]) (.op2 .sub (.blt .len (.cons (.var 0) .nil)) (.int 1)))) .nil))) []) .nil)⟩
def g_check_bits : List D → R D := evF [P.g_remainder] t_check_bits
-- is_intact: 0 generator, 1 bits, 2 degree, 3 at
def t_is_intact : Fn := ⟨2, 4, (.cons (.asg 2 (.op2 .sub (.blt .len (.cons (.var 0) .nil)) (.int 1)) []) (.cons (.ite (.op2 .lt (.blt .len (.cons (.var 1) .nil)) (.var 2)) (.cons (.ret (.bl false) []) .nil) .nil) (.cons (.asg 3 (.op2 .sub (.blt .len (.cons (.var 1) .nil)) (.var 2)) []) (.cons (.ret (.op2 .eq (.call 0 (.cons (.var 0) (.cons (.slice (.var 1) .non (.var 3)) .nil))) (.slice (.var 1) (.var 3) .non)) []) .nil))))⟩
def g_is_intact : List D → R D := evF [P.g_check_bits] t_is_intact
-- pack: 0 generator, 1 numbers, 2 bits
def t_pack : Fn := ⟨2, 3, (.cons (.asg 2 (.call 0 (.cons (.var 1) .nil)) []) (.cons (.ret (.op2 .add (.var 2) (.call 1 (.cons (.var 0) (.cons (.var 2) .nil)))) []) .nil))⟩
def g_pack : List D → R D := evF [P.g_bits_of, P.g_check_bits] t_pack
-- unpack: 0 generator, 1 bits
def t_unpack : Fn := ⟨2, 2, (.cons (.ite (.not (.call 0 (.cons (.var 0) (.cons (.var 1) .nil)))) (.cons (.ret .non []) .nil) .nil) (.cons (.ret (.call 1 (.cons (.slice (.var 1) .non (.op2 .add (.op2 .sub (.blt .len (.cons (.var 1) .nil)) (.blt .len (.cons (.var 0) .nil))) (.int 1))) .nil)) []) .nil))⟩
def g_unpack : List D → R D := evF [P.g_is_intact, P.g_bytes_of] t_unpack
-- stuff: 0 limit, 1 bits, 2 found, 3 ones, 4 bit
def B0_stuff : ISs := (.cons (.asg 2 (.op2 .add (.var 2) (.var 4)) []) (.cons (.asg 3 (.ite (.op2 .eq (.var 4) (.str [49])) (.op2 .add (.var 3) (.int 1)) (.int 0)) []) (.cons (.ite (.op2 .eq (.var 3) (.var 0)) (.cons (.asg 2 (.op2 .add (.var 2) (.str [48])) []) (.cons (.asg 3 (.int 0) []) .nil)) .nil) .nil)))
@[simp] theorem u_B0_stuff {F : List (List D → R D)} {ρ : Env} : evSs F B0_stuff ρ = evSs F (.cons (.asg 2 (.op2 .add (.var 2) (.var 4)) []) (.cons (.asg 3 (.ite (.op2 .eq (.var 4) (.str [49])) (.op2 .add (.var 3) (.int 1)) (.int 0)) []) (.cons (.ite (.op2 .eq (.var 3) (.var 0)) (.cons (.asg 2 (.op2 .add (.var 2) (.str [48])) []) (.cons (.asg 3 (.int 0) []) .nil)) .nil) .nil))) ρ := Eq.trans rfl rfl
def t_stuff : Fn := ⟨2, 5, (.cons (.asg 2 (.str []) []) (.cons (.asg 3 (.int 0) []) (.cons (.forr (.seq (.var 1)) (.one 4) B0_stuff []) (.cons (.ret (.var 2) []) .nil))))⟩
def g_stuff : List D → R D := evF [] t_stuff
-- unstuff: 0 limit, 1 bits, 2 found, 3 ones, 4 bit
def B0_unstuff : ISs := (.cons (.ite (.op2 .eq (.var 3) (.var 0)) (.cons (.ite (.op2 .eq (.var 4) (.str [49])) (.cons (.ret .non []) .nil) .nil) (.cons (.asg 3 (.int 0) []) .nil)) (.cons (.asg 2 (.op2 .add (.var 2) (.var 4)) []) (.cons (.asg 3 (.ite (.op2 .eq (.var 4) (.str [49])) (.op2 .add (.var 3) (.int 1)) (.int 0)) []) .nil))) .nil)
@[simp] theorem u_B0_unstuff {F : List (List D → R D)} {ρ : Env} : evSs F B0_unstuff ρ = evSs F (.cons (.ite (.op2 .eq (.var 3) (.var 0)) (.cons (.ite (.op2 .eq (.var 4) (.str [49])) (.cons (.ret .non []) .nil) .nil) (.cons (.asg 3 (.int 0) []) .nil)) (.cons (.asg 2 (.op2 .add (.var 2) (.var 4)) []) (.cons (.asg 3 (.ite (.op2 .eq (.var 4) (.str [49])) (.op2 .add (.var 3) (.int 1)) (.int 0)) []) .nil))) .nil) ρ := Eq.trans rfl rfl
def t_unstuff : Fn := ⟨2, 5, (.cons (.asg 2 (.str []) []) (.cons (.asg 3 (.int 0) []) (.cons (.forr (.seq (.var 1)) (.one 4) B0_unstuff []) (.cons (.ret (.ite (.op2 .eq (.var 3) (.var 0)) .non (.var 2)) []) .nil))))⟩
def g_unstuff : List D → R D := evF [] t_unstuff
-- greatest_stuffing: 0 limit, 1 count
def t_greatest_stuffing : Fn := ⟨2, 2, (.cons (.ret (.op2 .div (.var 1) (.var 0)) []) .nil)⟩
def g_greatest_stuffing : List D → R D := evF [] t_greatest_stuffing
-- flag_of: 0 limit
def t_flag_of : Fn := ⟨1, 1, (.cons (.ret (.op2 .add (.op2 .add (.str [48]) (.op2 .mul (.str [49]) (.op2 .add (.var 0) (.int 1)))) (.str [48])) []) .nil)⟩
def g_flag_of : List D → R D := evF [] t_flag_of
-- frame_bits: 0 limit, 1 payload
def t_frame_bits : Fn := ⟨2, 2, (.cons (.ret (.op2 .add (.op2 .add (.call 0 (.cons (.var 0) .nil)) (.call 1 (.cons (.var 0) (.cons (.var 1) .nil)))) (.call 0 (.cons (.var 0) .nil))) []) .nil)⟩
def g_frame_bits : List D → R D := evF [P.g_flag_of, P.g_stuff] t_frame_bits
-- zeros_of: 0 bits, 1 at, 2 bit
def E0_zeros_of : IE := (.var 1)
@[simp] theorem u_E0_zeros_of {F : List (List D → R D)} {z : Nat → Bool} {ρ : Env} : evE F z ρ E0_zeros_of = evE F z ρ (.var 1) := Eq.trans rfl rfl
def C1_zeros_of : IE := (.op2 .eq (.var 2) (.str [48]))
@[simp] theorem u_C1_zeros_of {F : List (List D → R D)} {z : Nat → Bool} {ρ : Env} : evE F z ρ C1_zeros_of = evE F z ρ (.op2 .eq (.var 2) (.str [48])) := Eq.trans rfl rfl
def t_zeros_of : Fn := ⟨1, 3, (.cons (.ret (.compIf (.enm (.var 0)) (.many [1, 2]) C1_zeros_of E0_zeros_of [1, 2]) []) .nil)⟩
def g_zeros_of : List D → R D := evF [] t_zeros_of
-- gaps_of: 0 bits, 1 places, 2 at, 3 place
def E0_gaps_of : IE := (.op2 .sub (.op2 .ix (.var 1) (.op2 .add (.var 2) (.int 1))) (.var 3))
@[simp] theorem u_E0_gaps_of {F : List (List D → R D)} {z : Nat → Bool} {ρ : Env} : evE F z ρ E0_gaps_of = evE F z ρ (.op2 .sub (.op2 .ix (.var 1) (.op2 .add (.var 2) (.int 1))) (.var 3)) := Eq.trans rfl rfl
def t_gaps_of : Fn := ⟨1, 4, (.cons (.asg 1 (.call 0 (.cons (.var 0) .nil)) []) (.cons (.ret (.comp (.enm (.slice (.var 1) .non (.neg (.int 1)))) (.many [2, 3]) E0_gaps_of [2, 3]) []) .nil))⟩
def g_gaps_of : List D → R D := evF [P.g_zeros_of] t_gaps_of
-- frame_gaps: 0 limit, 1 payload
def t_frame_gaps : Fn := ⟨2, 2, (.cons (.ret (.call 0 (.cons (.call 1 (.cons (.var 0) (.cons (.var 1) .nil))) .nil)) []) .nil)⟩
def g_frame_gaps : List D → R D := evF [P.g_gaps_of, P.g_frame_bits] t_frame_gaps
-- shift_at: 0 shifts, 1 at
def t_shift_at : Fn := ⟨2, 2, (.cons (.ret (.ite (.op2 .lt (.var 1) (.blt .len (.cons (.var 0) .nil))) (.op2 .ix (.var 0) (.var 1)) (.int 0)) []) .nil)⟩
def g_shift_at : List D → R D := evF [] t_shift_at
-- check_edges: 0 edges, 1 before, 2 edge
def B0_check_edges : ISs := (.cons (.ite (.op2 .le (.var 2) (.var 1)) (.cons (.raisE (.str [101, 100, 103, 101, 115, 32, 111, 117, 116, 32, 111, 102, 32, 111, 114, 100, 101, 114])) .nil) .nil) (.cons (.asg 1 (.var 2) []) .nil))
@[simp] theorem u_B0_check_edges {F : List (List D → R D)} {ρ : Env} : evSs F B0_check_edges ρ = evSs F (.cons (.ite (.op2 .le (.var 2) (.var 1)) (.cons (.raisE (.str [101, 100, 103, 101, 115, 32, 111, 117, 116, 32, 111, 102, 32, 111, 114, 100, 101, 114])) .nil) .nil) (.cons (.asg 1 (.var 2) []) .nil)) ρ := Eq.trans rfl rfl
def t_check_edges : Fn := ⟨1, 3, (.cons (.asg 1 (.neg (.int 1)) []) (.cons (.forr (.seq (.var 0)) (.one 2) B0_check_edges []) .nil))⟩
def g_check_edges : List D → R D := evF [] t_check_edges
-- signal_of: 0 bits, 1 start, 2 bit_time, 3 shifts, 4 edges, 5 at, 6 place
def B0_signal_of : ISs := (.cons (.app 4 (.op2 .add (.op2 .add (.var 1) (.op2 .mul (.var 6) (.var 2))) (.call 1 (.cons (.var 3) (.cons (.var 5) .nil))))) .nil)
@[simp] theorem u_B0_signal_of {F : List (List D → R D)} {ρ : Env} : evSs F B0_signal_of ρ = evSs F (.cons (.app 4 (.op2 .add (.op2 .add (.var 1) (.op2 .mul (.var 6) (.var 2))) (.call 1 (.cons (.var 3) (.cons (.var 5) .nil))))) .nil) ρ := Eq.trans rfl rfl
def t_signal_of : Fn := ⟨4, 7, (.cons (.asgL 4 (.lst .nil) []) (.cons (.forr (.enm (.call 0 (.cons (.var 0) .nil))) (.many [5, 6]) B0_signal_of []) (.cons (.exprX (.call 2 (.cons (.var 4) .nil))) (.cons (.ret (.var 4) [4]) .nil))))⟩
def g_signal_of : List D → R D := evF [P.g_zeros_of, P.g_shift_at, P.g_check_edges] t_signal_of
-- _law_signal: 0 _law_cell_here, 1 _law_many, 2 _law_size, 3 _law_draws_here, 4 _law_edges, 5 _law_k
def B0__law_signal : ISs := (.cons (.app 4 (.op2 .add (.ite (.op2 .gt (.blt .len (.cons (.var 4) .nil)) (.int 0)) (.op2 .add (.op2 .ix (.var 4) (.neg (.int 1))) (.int 1)) (.int 0)) (.op2 .mod (.blt .int (.cons (.op2 .ix (.var 3) (.var 5)) .nil)) (.var 2)))) .nil)
@[simp] theorem u_B0__law_signal {F : List (List D → R D)} {ρ : Env} : evSs F B0__law_signal ρ = evSs F (.cons (.app 4 (.op2 .add (.ite (.op2 .gt (.blt .len (.cons (.var 4) .nil)) (.int 0)) (.op2 .add (.op2 .ix (.var 4) (.neg (.int 1))) (.int 1)) (.int 0)) (.op2 .mod (.blt .int (.cons (.op2 .ix (.var 3) (.var 5)) .nil)) (.var 2)))) .nil) ρ := Eq.trans rfl rfl
def t__law_signal : Fn := ⟨3, 6, (.cons (.asg 3 (.call 0 (.cons (.var 0) (.cons (.op2 .add (.var 1) (.int 1)) .nil))) []) (.cons (.asgL 4 (.lst .nil) []) (.cons (.forr (.rng (.cons (.op2 .mod (.blt .int (.cons (.op2 .ix (.var 3) (.var 1)) .nil)) (.op2 .add (.var 1) (.int 1))) .nil)) (.one 5) B0__law_signal []) (.cons (.ret (.var 4) [4]) .nil))))⟩
def g__law_signal : List D → R D := evF [P.g__law_draws] t__law_signal
-- number_of: 0 text, 1 most, 2 number, 3 sign
def t_number_of : Fn := ⟨2, 4, (.cons (.ite (.or (.not (.chain .le .le (.int 1) (.blt .len (.cons (.var 0) .nil)) (.int 7))) (.not (.allDig (.var 0)))) (.cons (.ret .non []) .nil) .nil) (.cons (.asg 2 (.blt .int (.cons (.var 0) .nil)) []) (.cons (.ret (.ite (.or (.and (.op2 .eq (.op2 .ix (.var 0) (.int 0)) (.str [48])) (.op2 .ne (.var 0) (.str [48]))) (.op2 .gt (.var 2) (.var 1))) .non (.var 2)) []) .nil)))⟩
def g_number_of : List D → R D := evF [] t_number_of
-- words_of: 0 line, 1 word
def E0_words_of : IE := (.var 1)
@[simp] theorem u_E0_words_of {F : List (List D → R D)} {z : Nat → Bool} {ρ : Env} : evE F z ρ E0_words_of = evE F z ρ (.var 1) := Eq.trans rfl rfl
def C1_words_of : IE := (.op2 .ne (.var 1) (.str []))
@[simp] theorem u_C1_words_of {F : List (List D → R D)} {z : Nat → Bool} {ρ : Env} : evE F z ρ C1_words_of = evE F z ρ (.op2 .ne (.var 1) (.str [])) := Eq.trans rfl rfl
def t_words_of : Fn := ⟨1, 2, (.cons (.ret (.compIf (.seq (.blt .split (.cons (.var 0) (.cons (.str [32]) .nil)))) (.one 1) C1_words_of E0_words_of [1]) []) .nil)⟩
def g_words_of : List D → R D := evF [] t_words_of
-- head_of: 0 number, 1 line, 2 words, 3 limit, 4 poll, 5 polls_per_bit, 6 phase, 7 word
def E0_head_of : IE := (.call 1 (.cons (.var 7) (.cons (.int 50) .nil)))
@[simp] theorem u_E0_head_of {F : List (List D → R D)} {z : Nat → Bool} {ρ : Env} : evE F z ρ E0_head_of = evE F z ρ (.call 1 (.cons (.var 7) (.cons (.int 50) .nil))) := Eq.trans rfl rfl
def t_head_of : Fn := ⟨2, 8, (.cons (.asg 2 (.call 0 (.cons (.var 1) .nil)) []) (.cons (.ite (.or (.op2 .ne (.blt .len (.cons (.var 2) .nil)) (.int 5)) (.op2 .ne (.op2 .ix (.var 2) (.int 0)) (.str [116, 114, 97, 99, 101]))) (.cons (.raisB (.var 0) (.str [104, 101, 97, 100, 32, 105, 115, 32, 101, 120, 112, 101, 99, 116, 101, 100])) .nil) .nil) (.cons (.unpL [3, 4, 5, 6] (.comp (.seq (.slice (.var 2) (.int 1) .non)) (.one 7) E0_head_of [7]) []) (.cons (.ite (.or (.isN (.var 3)) (.or (.isN (.var 4)) (.or (.isN (.var 5)) (.isN (.var 6))))) (.cons (.raisB (.var 0) (.str [110, 117, 109, 98, 101, 114, 32, 105, 115, 32, 119, 114, 111, 110, 103])) .nil) .nil) (.cons (.ite (.not (.and (.chain .le .le (.int 2) (.var 3) (.int 7)) (.and (.op2 .le (.int 1) (.var 4)) (.and (.chain .le .le (.int 3) (.var 5) (.int 32)) (.op2 .lt (.var 6) (.var 4)))))) (.cons (.raisB (.var 0) (.str [110, 117, 109, 98, 101, 114, 32, 105, 115, 32, 119, 114, 111, 110, 103])) .nil) .nil) (.cons (.ret (.tup (.cons (.var 3) (.cons (.tup (.cons (.var 4) (.cons (.var 5) .nil))) (.cons (.var 6) .nil)))) []) .nil))))))⟩
def g_head_of : List D → R D := evF [P.g_words_of, P.g_number_of] t_head_of
-- edge_of: 0 number, 1 words, 2 before, 3 time
def t_edge_of : Fn := ⟨3, 4, (.cons (.ite (.or (.op2 .ne (.blt .len (.cons (.var 1) .nil)) (.int 2)) (.op2 .ne (.op2 .ix (.var 1) (.int 0)) (.str [101, 100, 103, 101]))) (.cons (.raisB (.var 0) (.str [108, 105, 110, 101, 32, 105, 115, 32, 110, 111, 116, 32, 107, 110, 111, 119, 110])) .nil) .nil) (.cons (.asg 3 (.call 0 (.cons (.op2 .ix (.var 1) (.int 1)) (.cons (.glob 1000000) .nil))) []) (.cons (.ite (.isN (.var 3)) (.cons (.raisB (.var 0) (.str [110, 117, 109, 98, 101, 114, 32, 105, 115, 32, 119, 114, 111, 110, 103])) .nil) .nil) (.cons (.ite (.op2 .le (.var 3) (.var 2)) (.cons (.raisB (.var 0) (.str [101, 100, 103, 101, 32, 105, 115, 32, 110, 111, 116, 32, 108, 97, 116, 101, 114])) .nil) .nil) (.cons (.ret (.var 3) []) .nil)))))⟩
def g_edge_of : List D → R D := evF [P.g_number_of] t_edge_of
-- read_trace: 0 text, 1 head, 2 signal, 3 lines, 4 at, 5 line, 6 words
def B0_read_trace : ISs := (.cons (.asg 6 (.call 0 (.cons (.var 5) .nil)) []) (.cons (.ite (.not (.var 6)) (.cons .cont .nil) .nil) (.cons (.ite (.isN (.var 1)) (.cons (.asgX 1 (.call 1 (.cons (.op2 .add (.var 4) (.int 1)) (.cons (.var 5) .nil))) []) .nil) (.cons (.appX 2 (.call 2 (.cons (.op2 .add (.var 4) (.int 1)) (.cons (.var 6) (.cons (.ite (.var 2) (.op2 .ix (.var 2) (.neg (.int 1))) (.neg (.int 1))) .nil))))) (.cons (.ite (.op2 .gt (.blt .len (.cons (.var 2) .nil)) (.glob 256)) (.cons (.raisB (.op2 .add (.var 4) (.int 1)) (.str [116, 111, 111, 32, 109, 97, 110, 121, 32, 101, 100, 103, 101, 115])) .nil) .nil) .nil))) .nil)))
@[simp] theorem u_B0_read_trace {F : List (List D → R D)} {ρ : Env} : evSs F B0_read_trace ρ = evSs F (.cons (.asg 6 (.call 0 (.cons (.var 5) .nil)) []) (.cons (.ite (.not (.var 6)) (.cons .cont .nil) .nil) (.cons (.ite (.isN (.var 1)) (.cons (.asgX 1 (.call 1 (.cons (.op2 .add (.var 4) (.int 1)) (.cons (.var 5) .nil))) []) .nil) (.cons (.appX 2 (.call 2 (.cons (.op2 .add (.var 4) (.int 1)) (.cons (.var 6) (.cons (.ite (.var 2) (.op2 .ix (.var 2) (.neg (.int 1))) (.neg (.int 1))) .nil))))) (.cons (.ite (.op2 .gt (.blt .len (.cons (.var 2) .nil)) (.glob 256)) (.cons (.raisB (.op2 .add (.var 4) (.int 1)) (.str [116, 111, 111, 32, 109, 97, 110, 121, 32, 101, 100, 103, 101, 115])) .nil) .nil) .nil))) .nil))) ρ := Eq.trans rfl rfl
def t_read_trace : Fn := ⟨1, 7, (.cons (.asg 1 .non []) (.cons (.asgL 2 (.lst .nil) []) (.cons (.asg 3 (.blt .split (.cons (.var 0) (.cons (.str [10]) .nil))) []) (.cons (.forr (.enm (.var 3)) (.many [4, 5]) B0_read_trace []) (.cons (.ite (.isN (.var 1)) (.cons (.raisB (.blt .len (.cons (.var 3) .nil)) (.str [104, 101, 97, 100, 32, 105, 115, 32, 101, 120, 112, 101, 99, 116, 101, 100])) .nil) .nil) (.cons (.ret (.tup (.cons (.op2 .ix (.var 1) (.int 0)) (.cons (.op2 .ix (.var 1) (.int 1)) (.cons (.op2 .ix (.var 1) (.int 2)) (.cons (.var 2) .nil))))) [2]) .nil))))))⟩
def g_read_trace : List D → R D := evF [P.g_words_of, P.g_head_of, P.g_edge_of] t_read_trace
-- zeros_in: 0 limit, 1 payload
def t_zeros_in : Fn := ⟨2, 2, (.cons (.ret (.op2 .sub (.blt .len (.cons (.call 0 (.cons (.var 0) (.cons (.var 1) .nil))) .nil)) (.blt .len (.cons (.var 1) .nil))) []) .nil)⟩
def g_zeros_in : List D → R D := evF [P.g_stuff] t_zeros_in
-- framed: 0 limit, 1 gaps, 2 found, 3 begin, 4 at, 5 gap, 6 place
def E0_framed : IE := (.bl false)
@[simp] theorem u_E0_framed {F : List (List D → R D)} {z : Nat → Bool} {ρ : Env} : evE F z ρ E0_framed = evE F z ρ (.bl false) := Eq.trans rfl rfl
def B1_framed : ISs := (.cons (.setx 2 (.var 6) (.bl true)) .nil)
@[simp] theorem u_B1_framed {F : List (List D → R D)} {ρ : Env} : evSs F B1_framed ρ = evSs F (.cons (.setx 2 (.var 6) (.bl true)) .nil) ρ := Eq.trans rfl rfl
def B2_framed : ISs := (.cons (.ite (.op2 .eq (.var 5) (.op2 .add (.var 0) (.int 2))) (.cons (.ite (.and (.notN (.var 3)) (.and (.op2 .gt (.var 4) (.op2 .add (.var 3) (.int 1))) (.op2 .le (.op2 .ix (.var 1) (.op2 .sub (.var 4) (.int 1))) (.var 0)))) (.cons (.forr (.rng (.cons (.var 3) (.cons (.op2 .add (.var 4) (.int 1)) .nil))) (.one 6) B1_framed []) .nil) .nil) (.cons (.asg 3 (.var 4) []) .nil)) (.cons (.ite (.not (.chain .le .le (.int 1) (.var 5) (.op2 .add (.var 0) (.int 1)))) (.cons (.asg 3 .non []) .nil) .nil) .nil)) .nil)
@[simp] theorem u_B2_framed {F : List (List D → R D)} {ρ : Env} : evSs F B2_framed ρ = evSs F (.cons (.ite (.op2 .eq (.var 5) (.op2 .add (.var 0) (.int 2))) (.cons (.ite (.and (.notN (.var 3)) (.and (.op2 .gt (.var 4) (.op2 .add (.var 3) (.int 1))) (.op2 .le (.op2 .ix (.var 1) (.op2 .sub (.var 4) (.int 1))) (.var 0)))) (.cons (.forr (.rng (.cons (.var 3) (.cons (.op2 .add (.var 4) (.int 1)) .nil))) (.one 6) B1_framed []) .nil) .nil) (.cons (.asg 3 (.var 4) []) .nil)) (.cons (.ite (.not (.chain .le .le (.int 1) (.var 5) (.op2 .add (.var 0) (.int 1)))) (.cons (.asg 3 .non []) .nil) .nil) .nil)) .nil) ρ := Eq.trans rfl rfl
def t_framed : Fn := ⟨2, 7, (.cons (.asgL 2 (.comp (.seq (.var 1)) (.one 5) E0_framed [5]) []) (.cons (.asg 3 .non []) (.cons (.forr (.enm (.var 1)) (.many [4, 5]) B2_framed []) (.cons (.ret (.var 2) [2]) .nil))))⟩
def g_framed : List D → R D := evF [] t_framed
-- strangers: 0 limit, 1 gaps, 2 is_framed
def E0_strangers : IE := (.var 2)
@[simp] theorem u_E0_strangers {F : List (List D → R D)} {z : Nat → Bool} {ρ : Env} : evE F z ρ E0_strangers = evE F z ρ (.var 2) := Eq.trans rfl rfl
def C1_strangers : IE := (.not (.var 2))
@[simp] theorem u_C1_strangers {F : List (List D → R D)} {z : Nat → Bool} {ρ : Env} : evE F z ρ C1_strangers = evE F z ρ (.not (.var 2)) := Eq.trans rfl rfl
def t_strangers : Fn := ⟨2, 3, (.cons (.ret (.blt .len (.cons (.compIf (.seq (.call 0 (.cons (.var 0) (.cons (.var 1) .nil)))) (.one 2) C1_strangers E0_strangers [2]) .nil)) []) .nil)⟩
def g_strangers : List D → R D := evF [P.g_framed] t_strangers
-- distances: 0 signal, 1 at, 2 edge
def E0_distances : IE := (.op2 .sub (.op2 .ix (.var 0) (.op2 .add (.var 1) (.int 1))) (.var 2))
@[simp] theorem u_E0_distances {F : List (List D → R D)} {z : Nat → Bool} {ρ : Env} : evE F z ρ E0_distances = evE F z ρ (.op2 .sub (.op2 .ix (.var 0) (.op2 .add (.var 1) (.int 1))) (.var 2)) := Eq.trans rfl rfl
def t_distances : Fn := ⟨1, 3, (.cons (.ret (.comp (.enm (.slice (.var 0) .non (.neg (.int 1)))) (.many [1, 2]) E0_distances [1, 2]) []) .nil)⟩
def g_distances : List D → R D := evF [] t_distances
-- poll_of: 0 receiver, 1 phase, 2 time
def t_poll_of : Fn := ⟨3, 3, (.cons (.ret (.blt .max (.cons (.int 0) (.cons (.neg (.op2 .div (.op2 .sub (.var 1) (.var 2)) (.op2 .ix (.var 0) (.int 0)))) .nil))) []) .nil)⟩
def g_poll_of : List D → R D := evF [] t_poll_of
-- detection_polls: 0 receiver, 1 phase, 2 signal, 3 found, 4 time, 5 number
def B0_detection_polls : ISs := (.cons (.asg 5 (.call 0 (.cons (.var 0) (.cons (.var 1) (.cons (.var 4) .nil)))) []) (.cons (.ite (.and (.var 3) (.op2 .eq (.op2 .ix (.var 3) (.neg (.int 1))) (.var 5))) (.cons (.popx 3) .nil) (.cons (.app 3 (.var 5)) .nil)) .nil))
@[simp] theorem u_B0_detection_polls {F : List (List D → R D)} {ρ : Env} : evSs F B0_detection_polls ρ = evSs F (.cons (.asg 5 (.call 0 (.cons (.var 0) (.cons (.var 1) (.cons (.var 4) .nil)))) []) (.cons (.ite (.and (.var 3) (.op2 .eq (.op2 .ix (.var 3) (.neg (.int 1))) (.var 5))) (.cons (.popx 3) .nil) (.cons (.app 3 (.var 5)) .nil)) .nil)) ρ := Eq.trans rfl rfl
def t_detection_polls : Fn := ⟨3, 6, (.cons (.asgL 3 (.lst .nil) []) (.cons (.forr (.seq (.var 2)) (.one 4) B0_detection_polls []) (.cons (.ret (.var 3) [3]) .nil)))⟩
def g_detection_polls : List D → R D := evF [P.g_poll_of] t_detection_polls
-- detection_time: 0 receiver, 1 phase, 2 number
def t_detection_time : Fn := ⟨3, 3, (.cons (.ret (.op2 .add (.var 1) (.op2 .mul (.var 2) (.op2 .ix (.var 0) (.int 0)))) []) .nil)⟩
def g_detection_time : List D → R D := evF [] t_detection_time
-- _law_draws: 0 _law_cell_here, 1 _law_count, 2 _law_found, 3 _law_is_wide, 4 _law_k, 5 _law_mixed
def B0__law_draws_1 : ISs := (.cons (.ite (.var 3) (.cons (.app 2 (.op2 .mod (.var 0) (.int 1009))) (.cons (.asg 0 (.op2 .div (.var 0) (.int 1009)) []) .nil)) (.cons (.asg 5 (.op2 .mod (.op2 .add (.op2 .mul (.var 0) (.int 48271)) (.op2 .mul (.var 4) (.int 69621))) (.int 2147483647)) []) (.cons (.app 2 (.op2 .mod (.op2 .add (.op2 .add (.op2 .mul (.var 5) (.var 5)) (.op2 .mul (.var 0) (.int 31))) (.var 4)) (.int 1000003))) .nil))) .nil)
@[simp] theorem u_B0__law_draws_1 {F : List (List D → R D)} {ρ : Env} : evSs F B0__law_draws_1 ρ = evSs F (.cons (.ite (.var 3) (.cons (.app 2 (.op2 .mod (.var 0) (.int 1009))) (.cons (.asg 0 (.op2 .div (.var 0) (.int 1009)) []) .nil)) (.cons (.asg 5 (.op2 .mod (.op2 .add (.op2 .mul (.var 0) (.int 48271)) (.op2 .mul (.var 4) (.int 69621))) (.int 2147483647)) []) (.cons (.app 2 (.op2 .mod (.op2 .add (.op2 .add (.op2 .mul (.var 5) (.var 5)) (.op2 .mul (.var 0) (.int 31))) (.var 4)) (.int 1000003))) .nil))) .nil) ρ := Eq.trans rfl rfl
def t__law_draws_1 : Fn := ⟨2, 6, (.cons (.asgL 2 (.lst .nil) []) (.cons (.asg 3 (.op2 .ge (.var 0) (.op2 .pow (.int 10) (.int 18))) []) (.cons (.forr (.rng (.cons (.var 1) .nil)) (.one 4) B0__law_draws_1 []) (.cons (.ret (.var 2) [2]) .nil))))⟩
def g__law_draws_1 : List D → R D := evF [] t__law_draws_1
-- gap_bits: 0 receiver, 1 polls, 2 per_bit
def t_gap_bits : Fn := ⟨2, 3, (.cons (.asg 2 (.op2 .ix (.var 0) (.int 1)) []) (.cons (.ret (.blt .max (.cons (.int 0) (.cons (.neg (.op2 .div (.op2 .sub (.var 2) (.op2 .mul (.int 2) (.var 1))) (.op2 .mul (.int 2) (.var 2)))) .nil))) []) .nil))⟩
def g_gap_bits : List D → R D := evF [] t_gap_bits
-- _law_is_integer: 0 _law_actual
def t__law_is_integer : Fn := ⟨1, 1, (.cons (.ret (.and (.isinst .int (.var 0)) (.not (.isinst .bool (.var 0)))) []) .nil)⟩
def g__law_is_integer : List D → R D := evF [] t__law_is_integer
-- received_gaps: 0 receiver, 1 phase, 2 signal, 3 polls, 4 number, 5 later
def E0_received_gaps : IE := (.call 1 (.cons (.var 0) (.cons (.op2 .sub (.var 5) (.var 4)) .nil)))
@[simp] theorem u_E0_received_gaps {F : List (List D → R D)} {z : Nat → Bool} {ρ : Env} : evE F z ρ E0_received_gaps = evE F z ρ (.call 1 (.cons (.var 0) (.cons (.op2 .sub (.var 5) (.var 4)) .nil))) := Eq.trans rfl rfl
def t_received_gaps : Fn := ⟨3, 6, (.cons (.asg 3 (.call 0 (.cons (.var 0) (.cons (.var 1) (.cons (.var 2) .nil)))) []) (.cons (.ret (.comp (.zip (.var 3) (.slice (.var 3) (.int 1) .non)) (.many [4, 5]) E0_received_gaps [4, 5]) []) .nil))⟩
def g_received_gaps : List D → R D := evF [P.g_detection_polls, P.g_gap_bits] t_received_gaps
-- receive: 0 limit, 1 receiver, 2 phase, 3 signal
def t_receive : Fn := ⟨4, 4, (.cons (.ret (.call 0 (.cons (.var 0) (.cons (.call 1 (.cons (.var 1) (.cons (.var 2) (.cons (.var 3) .nil)))) .nil))) []) .nil)⟩
def g_receive : List D → R D := evF [Ext.g_read_gaps, P.g_received_gaps] t_receive
-- _law_near: 0 _law_draws_here, 1 _law_at, 2 _law_end, 3 _law_below, 4 _law_above
def t__law_near : Fn := ⟨5, 5, (.cons (.ret (.op2 .add (.op2 .sub (.var 2) (.var 3)) (.op2 .mod (.op2 .ix (.var 0) (.var 1)) (.op2 .add (.op2 .add (.var 3) (.var 4)) (.int 1)))) []) .nil)⟩
def g__law_near : List D → R D := evF [] t__law_near
-- _law_ends: 0 _law_limit, 1 _law_poll, 2 _law_per_bit, 3 _law_jitter, 4 _law_low, 5 _law_high, 6 _law_gap, 7 _law_early
def B0__law_ends : ISs := (.cons (.asg 7 (.op2 .add (.op2 .add (.op2 .mul (.int 2) (.var 3)) (.var 1)) (.op2 .mul (.op2 .div (.op2 .mul (.op2 .sub (.op2 .mul (.int 2) (.var 6)) (.int 1)) (.var 2)) (.int 2)) (.var 1))) []) (.cons (.asg 4 (.blt .max (.cons (.var 4) (.cons (.op2 .div (.op2 .sub (.op2 .add (.var 7) (.var 6)) (.int 1)) (.var 6)) .nil))) []) (.cons (.asg 5 (.blt .min (.cons (.var 5) (.cons (.op2 .div (.op2 .sub (.op2 .mul (.op2 .div (.op2 .mul (.op2 .add (.op2 .mul (.int 2) (.var 6)) (.int 1)) (.var 2)) (.int 2)) (.var 1)) (.op2 .mul (.int 2) (.var 3))) (.var 6)) .nil))) []) .nil)))
@[simp] theorem u_B0__law_ends {F : List (List D → R D)} {ρ : Env} : evSs F B0__law_ends ρ = evSs F (.cons (.asg 7 (.op2 .add (.op2 .add (.op2 .mul (.int 2) (.var 3)) (.var 1)) (.op2 .mul (.op2 .div (.op2 .mul (.op2 .sub (.op2 .mul (.int 2) (.var 6)) (.int 1)) (.var 2)) (.int 2)) (.var 1))) []) (.cons (.asg 4 (.blt .max (.cons (.var 4) (.cons (.op2 .div (.op2 .sub (.op2 .add (.var 7) (.var 6)) (.int 1)) (.var 6)) .nil))) []) (.cons (.asg 5 (.blt .min (.cons (.var 5) (.cons (.op2 .div (.op2 .sub (.op2 .mul (.op2 .div (.op2 .mul (.op2 .add (.op2 .mul (.int 2) (.var 6)) (.int 1)) (.var 2)) (.int 2)) (.var 1)) (.op2 .mul (.int 2) (.var 3))) (.var 6)) .nil))) []) .nil))) ρ := Eq.trans rfl rfl
def t__law_ends : Fn := ⟨4, 8, (.cons (.asg 4 (.int 1) []) (.cons (.asg 5 (.int 5000) []) (.cons (.forr (.rng (.cons (.int 1) (.cons (.op2 .add (.var 0) (.int 3)) .nil))) (.one 6) B0__law_ends []) (.cons (.ret (.tup (.cons (.var 4) (.cons (.var 5) .nil))) []) .nil))))⟩
def g__law_ends : List D → R D := evF [] t__law_ends
-- _law_hop: 0 _law_cell_here, 1 _law_limit, 2 _law_draws_here, 3 _law_per_bit, 4 _law_poll, 5 _law_jitter, 6 _law_low, 7 _law_high, 8 _law_middle, 9 _law_least, 10 _law_greatest
def t__law_hop : Fn := ⟨2, 11, (.cons (.asg 2 (.call 0 (.cons (.var 0) (.cons (.int 10) .nil))) []) (.cons (.asg 3 (.op2 .add (.int 3) (.op2 .mod (.op2 .ix (.var 2) (.int 0)) (.int 30))) []) (.cons (.asg 4 (.blt .max (.cons (.op2 .add (.int 1) (.op2 .mod (.op2 .ix (.var 2) (.int 1)) (.int 50))) (.cons (.op2 .add (.op2 .div (.int 60) (.var 3)) (.int 1)) .nil))) []) (.cons (.asg 5 (.op2 .ix (.lst (.cons (.int 0) (.cons (.op2 .mod (.op2 .ix (.var 2) (.int 2)) (.int 9)) (.cons (.op2 .mod (.op2 .ix (.var 2) (.int 2)) (.int 70)) .nil)))) (.op2 .mod (.op2 .ix (.var 2) (.int 3)) (.int 3))) []) (.cons (.unp [6, 7] (.call 1 (.cons (.var 1) (.cons (.var 4) (.cons (.var 3) (.cons (.var 5) .nil))))) []) (.cons (.ite (.and (.op2 .gt (.var 6) (.var 7)) (.op2 .gt (.op2 .mod (.op2 .ix (.var 2) (.int 4)) (.int 4)) (.int 0))) (.cons (.asg 5 (.int 0) []) (.cons (.unp [6, 7] (.call 1 (.cons (.var 1) (.cons (.var 4) (.cons (.var 3) (.cons (.int 0) .nil))))) []) .nil)) .nil) (.cons (.asg 8 (.op2 .div (.op2 .add (.var 6) (.var 7)) (.int 2)) []) (.cons (.asg 9 (.op2 .ix (.lst (.cons (.op2 .add (.var 6) (.op2 .mod (.op2 .ix (.var 2) (.int 5)) (.int 2))) (.cons (.var 8) (.cons (.call 2 (.cons (.var 2) (.cons (.int 5) (.cons (.var 6) (.cons (.int 2) (.cons (.int 2) .nil)))))) (.cons (.var 6) .nil))))) (.op2 .mod (.op2 .ix (.var 2) (.int 6)) (.int 4))) []) (.cons (.asg 10 (.op2 .ix (.lst (.cons (.op2 .sub (.var 7) (.op2 .mod (.op2 .ix (.var 2) (.int 7)) (.int 2))) (.cons (.var 8) (.cons (.call 2 (.cons (.var 2) (.cons (.int 7) (.cons (.var 7) (.cons (.int 2) (.cons (.int 2) .nil)))))) (.cons (.var 7) .nil))))) (.op2 .mod (.op2 .ix (.var 2) (.int 8)) (.int 4))) []) (.cons (.asg 9 (.blt .min (.cons (.int 2000) (.cons (.blt .max (.cons (.int 50) (.cons (.var 9) .nil))) .nil))) []) (.cons (.asg 10 (.blt .min (.cons (.int 2000) (.cons (.blt .max (.cons (.var 9) (.cons (.var 10) .nil))) .nil))) []) (.cons (.ret (.tup (.cons (.var 9) (.cons (.var 10) (.cons (.blt .min (.cons (.var 5) (.cons (.op2 .div (.op2 .sub (.var 9) (.int 1)) (.int 2)) .nil))) (.cons (.var 4) (.cons (.var 3) .nil)))))) []) .nil))))))))))))⟩
def g__law_hop : List D → R D := evF [P.g__law_draws_1, P.g__law_ends, P.g__law_near] t__law_hop
-- _law_play: 0 _law_cell_here, 1 _law_hop_here, 2 _law_draws_here, 3 _law_least, 4 _law_greatest, 5 _law_jitter, 6 _law_poll, 7 _law_per_bit, 8 _law_bit_time, 9 _law_shifts, 10 _law_k, 11 _law_ways
def B0__law_play : ISs := (.cons (.asg 11 (.lst (.cons (.neg (.var 5)) (.cons (.var 5) (.cons (.op2 .sub (.op2 .mod (.op2 .ix (.var 2) (.op2 .add (.int 4) (.var 10))) (.op2 .add (.op2 .mul (.int 2) (.var 5)) (.int 1))) (.var 5)) .nil)))) []) (.cons (.app 9 (.op2 .ix (.var 11) (.op2 .mod (.op2 .add (.op2 .div (.op2 .ix (.var 2) (.op2 .add (.int 4) (.var 10))) (.int 7)) (.op2 .ix (.var 2) (.int 3))) (.int 3)))) .nil))
@[simp] theorem u_B0__law_play {F : List (List D → R D)} {ρ : Env} : evSs F B0__law_play ρ = evSs F (.cons (.asg 11 (.lst (.cons (.neg (.var 5)) (.cons (.var 5) (.cons (.op2 .sub (.op2 .mod (.op2 .ix (.var 2) (.op2 .add (.int 4) (.var 10))) (.op2 .add (.op2 .mul (.int 2) (.var 5)) (.int 1))) (.var 5)) .nil)))) []) (.cons (.app 9 (.op2 .ix (.var 11) (.op2 .mod (.op2 .add (.op2 .div (.op2 .ix (.var 2) (.op2 .add (.int 4) (.var 10))) (.int 7)) (.op2 .ix (.var 2) (.int 3))) (.int 3)))) .nil)) ρ := Eq.trans rfl rfl
def t__law_play : Fn := ⟨2, 12, (.cons (.asg 2 (.call 0 (.cons (.var 0) (.cons (.int 60) .nil))) []) (.cons (.unp [3, 4, 5, 6, 7] (.var 1) []) (.cons (.asg 8 (.op2 .ix (.lst (.cons (.var 3) (.cons (.var 4) (.cons (.op2 .add (.var 3) (.op2 .mod (.op2 .ix (.var 2) (.int 0)) (.op2 .add (.op2 .sub (.var 4) (.var 3)) (.int 1)))) .nil)))) (.op2 .mod (.op2 .ix (.var 2) (.int 1)) (.int 3))) []) (.cons (.asgL 9 (.lst .nil) []) (.cons (.forr (.rng (.cons (.op2 .mod (.op2 .ix (.var 2) (.int 2)) (.int 48)) .nil)) (.one 10) B0__law_play []) (.cons (.ret (.tup (.cons (.var 8) (.cons (.blt .tuple (.cons (.var 9) .nil)) (.cons (.op2 .ix (.lst (.cons (.int 0) (.cons (.op2 .sub (.var 6) (.int 1)) (.cons (.op2 .mod (.op2 .ix (.var 2) (.int 52)) (.var 6)) .nil)))) (.op2 .mod (.op2 .ix (.var 2) (.int 53)) (.int 3))) .nil)))) [9]) .nil))))))⟩
def g__law_play : List D → R D := evF [P.g__law_draws_1] t__law_play
-- _law_payload: 0 _law_cell_here, 1 _law_most, 2 _law_draws_here, 3 _law_size, 4 _law_ways, 5 _law_k
def E0__law_payload : IE := (.op2 .ix (.op2 .ix (.var 4) (.op2 .mod (.op2 .ix (.var 2) (.int 2)) (.int 5))) (.op2 .mod (.ite (.op2 .eq (.op2 .mod (.op2 .ix (.var 2) (.int 3)) (.int 2)) (.int 0)) (.op2 .ix (.var 2) (.op2 .add (.int 4) (.var 5))) (.var 5)) (.int 7)))
@[simp] theorem u_E0__law_payload {F : List (List D → R D)} {z : Nat → Bool} {ρ : Env} : evE F z ρ E0__law_payload = evE F z ρ (.op2 .ix (.op2 .ix (.var 4) (.op2 .mod (.op2 .ix (.var 2) (.int 2)) (.int 5))) (.op2 .mod (.ite (.op2 .eq (.op2 .mod (.op2 .ix (.var 2) (.int 3)) (.int 2)) (.int 0)) (.op2 .ix (.var 2) (.op2 .add (.int 4) (.var 5))) (.var 5)) (.int 7))) := Eq.trans rfl rfl
def t__law_payload : Fn := ⟨2, 6, (.cons (.asg 2 (.call 0 (.cons (.var 0) (.cons (.int 28) .nil))) []) (.cons (.asg 3 (.op2 .ix (.lst (.cons (.var 1) (.cons (.int 0) (.cons (.op2 .mod (.op2 .ix (.var 2) (.int 0)) (.op2 .add (.var 1) (.int 1))) .nil)))) (.op2 .mod (.op2 .ix (.var 2) (.int 1)) (.int 3))) []) (.cons (.asg 4 (.lst (.cons (.str [49, 49, 49, 49, 49, 49, 49]) (.cons (.str [48, 48, 48, 48, 48, 48, 48]) (.cons (.str [49, 49, 48, 49, 49, 49, 48]) (.cons (.str [48, 49, 48, 49, 49, 48, 49]) (.cons (.str [49, 49, 49, 49, 49, 49, 48]) .nil)))))) []) (.cons (.ret (.blt .join (.cons (.str []) (.cons (.comp (.rng (.cons (.var 3) .nil)) (.one 5) E0__law_payload [5]) .nil))) []) .nil))))⟩
def g__law_payload : List D → R D := evF [P.g__law_draws_1] t__law_payload
-- _law_frame: 0 _law_limit, 1 _law_payload_here, 2 _law_flag, 3 _law_inner, 4 _law_ones, 5 _law_bit
def B0__law_frame : ISs := (.cons (.asg 3 (.op2 .add (.var 3) (.var 5)) []) (.cons (.asg 4 (.ite (.op2 .eq (.var 5) (.str [49])) (.op2 .add (.var 4) (.int 1)) (.int 0)) []) (.cons (.ite (.op2 .eq (.var 4) (.var 0)) (.cons (.asg 3 (.op2 .add (.var 3) (.str [48])) []) (.cons (.asg 4 (.int 0) []) .nil)) .nil) .nil)))
@[simp] theorem u_B0__law_frame {F : List (List D → R D)} {ρ : Env} : evSs F B0__law_frame ρ = evSs F (.cons (.asg 3 (.op2 .add (.var 3) (.var 5)) []) (.cons (.asg 4 (.ite (.op2 .eq (.var 5) (.str [49])) (.op2 .add (.var 4) (.int 1)) (.int 0)) []) (.cons (.ite (.op2 .eq (.var 4) (.var 0)) (.cons (.asg 3 (.op2 .add (.var 3) (.str [48])) []) (.cons (.asg 4 (.int 0) []) .nil)) .nil) .nil))) ρ := Eq.trans rfl rfl
def t__law_frame : Fn := ⟨2, 6, (.cons (.asg 2 (.op2 .add (.op2 .add (.str [48]) (.op2 .mul (.str [49]) (.op2 .add (.var 0) (.int 1)))) (.str [48])) []) (.cons (.asg 3 (.str []) []) (.cons (.asg 4 (.int 0) []) (.cons (.forr (.seq (.var 1)) (.one 5) B0__law_frame []) (.cons (.ret (.op2 .add (.op2 .add (.var 2) (.var 3)) (.var 2)) []) .nil)))))⟩
def g__law_frame : List D → R D := evF [] t__law_frame
-- _law_zeros: 0 _law_bits, 1 _law_k
def E0__law_zeros : IE := (.var 1)
@[simp] theorem u_E0__law_zeros {F : List (List D → R D)} {z : Nat → Bool} {ρ : Env} : evE F z ρ E0__law_zeros = evE F z ρ (.var 1) := Eq.trans rfl rfl
def C1__law_zeros : IE := (.op2 .eq (.op2 .ix (.var 0) (.var 1)) (.str [48]))
@[simp] theorem u_C1__law_zeros {F : List (List D → R D)} {z : Nat → Bool} {ρ : Env} : evE F z ρ C1__law_zeros = evE F z ρ (.op2 .eq (.op2 .ix (.var 0) (.var 1)) (.str [48])) := Eq.trans rfl rfl
def t__law_zeros : Fn := ⟨1, 2, (.cons (.ret (.compIf (.rng (.cons (.blt .len (.cons (.var 0) .nil)) .nil)) (.one 1) C1__law_zeros E0__law_zeros [1]) []) .nil)⟩
def g__law_zeros : List D → R D := evF [] t__law_zeros
-- _law_shift: 0 _law_shifts, 1 _law_k
def t__law_shift : Fn := ⟨2, 2, (.cons (.ret (.ite (.op2 .lt (.var 1) (.blt .len (.cons (.var 0) .nil))) (.op2 .ix (.var 0) (.var 1)) (.int 0)) []) .nil)⟩
def g__law_shift : List D → R D := evF [] t__law_shift
-- _law_signal: 0 _law_bits, 1 _law_start, 2 _law_bit_time, 3 _law_shifts, 4 _law_places, 5 _law_k
def E0__law_signal_1 : IE := (.op2 .add (.op2 .add (.var 1) (.op2 .mul (.op2 .ix (.var 4) (.var 5)) (.var 2))) (.call 1 (.cons (.var 3) (.cons (.var 5) .nil))))
@[simp] theorem u_E0__law_signal_1 {F : List (List D → R D)} {z : Nat → Bool} {ρ : Env} : evE F z ρ E0__law_signal_1 = evE F z ρ (.op2 .add (.op2 .add (.var 1) (.op2 .mul (.op2 .ix (.var 4) (.var 5)) (.var 2))) (.call 1 (.cons (.var 3) (.cons (.var 5) .nil)))) := Eq.trans rfl rfl
def t__law_signal_1 : Fn := ⟨4, 6, (.cons (.asg 4 (.call 0 (.cons (.var 0) .nil)) []) (.cons (.ret (.comp (.rng (.cons (.blt .len (.cons (.var 4) .nil)) .nil)) (.one 5) E0__law_signal_1 [5]) []) .nil))⟩
def g__law_signal_1 : List D → R D := evF [P.g__law_zeros, P.g__law_shift] t__law_signal_1
-- _law_read: 0 _law_per_bit, 1 _law_polls
def t__law_read : Fn := ⟨2, 2, (.cons (.ret (.op2 .div (.op2 .sub (.op2 .add (.op2 .mul (.int 2) (.var 1)) (.var 0)) (.int 1)) (.op2 .mul (.int 2) (.var 0))) []) .nil)⟩
def g__law_read : List D → R D := evF [] t__law_read
-- _law_read_gaps: 0 _law_hop_here, 1 _law_phase, 2 _law_signal_here, 3 _law_polls, 4 _law_k
def E0__law_read_gaps : IE := (.call 1 (.cons (.op2 .ix (.var 0) (.int 4)) (.cons (.op2 .sub (.op2 .ix (.var 3) (.op2 .add (.var 4) (.int 1))) (.op2 .ix (.var 3) (.var 4))) .nil)))
@[simp] theorem u_E0__law_read_gaps {F : List (List D → R D)} {z : Nat → Bool} {ρ : Env} : evE F z ρ E0__law_read_gaps = evE F z ρ (.call 1 (.cons (.op2 .ix (.var 0) (.int 4)) (.cons (.op2 .sub (.op2 .ix (.var 3) (.op2 .add (.var 4) (.int 1))) (.op2 .ix (.var 3) (.var 4))) .nil))) := Eq.trans rfl rfl
def t__law_read_gaps : Fn := ⟨3, 5, (.cons (.asg 3 (.call 0 (.cons (.op2 .ix (.var 0) (.int 3)) (.cons (.var 1) (.cons (.var 2) .nil)))) []) (.cons (.ret (.comp (.rng (.cons (.op2 .sub (.blt .len (.cons (.var 3) .nil)) (.int 1)) .nil)) (.one 4) E0__law_read_gaps [4]) []) .nil))⟩
def g__law_read_gaps : List D → R D := evF [Ext.g__law_detected, P.g__law_read] t__law_read_gaps
-- most_polls: 0 receiver, 1 bits
def t_most_polls : Fn := ⟨2, 2, (.cons (.ret (.op2 .div (.op2 .mul (.op2 .add (.op2 .mul (.int 2) (.var 1)) (.int 1)) (.op2 .ix (.var 0) (.int 1))) (.int 2)) []) .nil)⟩
def g_most_polls : List D → R D := evF [] t_most_polls
-- receiver_of: 0 hop
def t_receiver_of : Fn := ⟨1, 1, (.cons (.ret (.tup (.cons (.op2 .ix (.var 0) (.int 3)) (.cons (.op2 .ix (.var 0) (.int 4)) .nil))) []) .nil)⟩
def g_receiver_of : List D → R D := evF [] t_receiver_of
-- margin: 0 hop, 1 gap, 2 least, 3 greatest, 4 jitter, 5 poll, 6 per_bit, 7 receiver, 8 early
def t_margin : Fn := ⟨2, 9, (.cons (.unp [2, 3, 4, 5, 6] (.var 0) []) (.cons (.asg 7 (.call 0 (.cons (.var 0) .nil)) []) (.cons (.asg 8 (.op2 .sub (.op2 .sub (.op2 .sub (.op2 .mul (.var 1) (.var 2)) (.op2 .mul (.int 2) (.var 4))) (.var 5)) (.op2 .mul (.call 1 (.cons (.var 7) (.cons (.op2 .sub (.var 1) (.int 1)) .nil))) (.var 5))) []) (.cons (.ret (.tup (.cons (.var 8) (.cons (.op2 .sub (.op2 .sub (.op2 .mul (.call 1 (.cons (.var 7) (.cons (.var 1) .nil))) (.var 5)) (.op2 .mul (.var 1) (.var 3))) (.op2 .mul (.int 2) (.var 4))) .nil))) []) .nil))))⟩
def g_margin : List D → R D := evF [P.g_receiver_of, P.g_most_polls] t_margin
-- margins: 0 limit, 1 hop, 2 gap
def E0_margins : IE := (.call 0 (.cons (.var 1) (.cons (.var 2) .nil)))
@[simp] theorem u_E0_margins {F : List (List D → R D)} {z : Nat → Bool} {ρ : Env} : evE F z ρ E0_margins = evE F z ρ (.call 0 (.cons (.var 1) (.cons (.var 2) .nil))) := Eq.trans rfl rfl
def t_margins : Fn := ⟨2, 3, (.cons (.ret (.comp (.rng (.cons (.int 1) (.cons (.op2 .add (.var 0) (.int 3)) .nil))) (.one 2) E0_margins [2]) []) .nil)⟩
def g_margins : List D → R D := evF [P.g_margin] t_margins
-- _law_margin: 0 _law_hop_here, 1 _law_gap, 2 _law_least, 3 _law_greatest, 4 _law_jitter, 5 _law_poll, 6 _law_per_bit, 7 _law_fewest, 8 _law_most
def t__law_margin : Fn := ⟨2, 9, (.cons (.unp [2, 3, 4, 5, 6] (.var 0) []) (.cons (.asg 7 (.op2 .div (.op2 .mul (.op2 .sub (.op2 .mul (.int 2) (.var 1)) (.int 1)) (.var 6)) (.int 2)) []) (.cons (.asg 8 (.op2 .div (.op2 .mul (.op2 .add (.op2 .mul (.int 2) (.var 1)) (.int 1)) (.var 6)) (.int 2)) []) (.cons (.ret (.tup (.cons (.op2 .sub (.op2 .sub (.op2 .sub (.op2 .mul (.var 1) (.var 2)) (.op2 .mul (.int 2) (.var 4))) (.var 5)) (.op2 .mul (.var 7) (.var 5))) (.cons (.op2 .sub (.op2 .sub (.op2 .mul (.var 8) (.var 5)) (.op2 .mul (.var 1) (.var 3))) (.op2 .mul (.int 2) (.var 4))) .nil))) []) .nil))))⟩
def g__law_margin : List D → R D := evF [] t__law_margin
-- is_safe: 0 limit, 1 hop, 2 pair
def t_is_safe : Fn := ⟨2, 3, (.cons (.ret (.allMin (.call 0 (.cons (.var 0) (.cons (.var 1) .nil)))) []) .nil)⟩
def g_is_safe : List D → R D := evF [P.g_margins] t_is_safe
-- _law_is_safe: 0 _law_limit, 1 _law_hop_here, 2 _law_gap
def B0__law_is_safe : ISs := (.cons (.ite (.op2 .lt (.blt .min (.cons (.call 0 (.cons (.var 1) (.cons (.var 2) .nil))) .nil)) (.int 0)) (.cons (.ret (.bl false) []) .nil) .nil) .nil)
@[simp] theorem u_B0__law_is_safe {F : List (List D → R D)} {ρ : Env} : evSs F B0__law_is_safe ρ = evSs F (.cons (.ite (.op2 .lt (.blt .min (.cons (.call 0 (.cons (.var 1) (.cons (.var 2) .nil))) .nil)) (.int 0)) (.cons (.ret (.bl false) []) .nil) .nil) .nil) ρ := Eq.trans rfl rfl
def t__law_is_safe : Fn := ⟨2, 3, (.cons (.forr (.rng (.cons (.int 1) (.cons (.op2 .add (.var 0) (.int 3)) .nil))) (.one 2) B0__law_is_safe []) (.cons (.ret (.bl true) []) .nil))⟩
def g__law_is_safe : List D → R D := evF [P.g__law_margin] t__law_is_safe
-- _law_gaps: 0 _law_bits, 1 _law_places, 2 _law_k
def E0__law_gaps : IE := (.op2 .sub (.op2 .ix (.var 1) (.op2 .add (.var 2) (.int 1))) (.op2 .ix (.var 1) (.var 2)))
@[simp] theorem u_E0__law_gaps {F : List (List D → R D)} {z : Nat → Bool} {ρ : Env} : evE F z ρ E0__law_gaps = evE F z ρ (.op2 .sub (.op2 .ix (.var 1) (.op2 .add (.var 2) (.int 1))) (.op2 .ix (.var 1) (.var 2))) := Eq.trans rfl rfl
def t__law_gaps : Fn := ⟨1, 3, (.cons (.asg 1 (.call 0 (.cons (.var 0) .nil)) []) (.cons (.ret (.comp (.rng (.cons (.op2 .sub (.blt .len (.cons (.var 1) .nil)) (.int 1)) .nil)) (.one 2) E0__law_gaps [2]) []) .nil))⟩
def g__law_gaps : List D → R D := evF [P.g__law_zeros] t__law_gaps
-- shifted: 0 limit, 1 gap, 2 first, 3 second, 4 shifts, 5 at
def t_shifted : Fn := ⟨4, 6, (.cons (.asgL 4 (.lst (.cons (.int 0) (.cons (.int 0) (.cons (.int 0) (.cons (.int 0) .nil))))) []) (.cons (.asg 5 (.ite (.op2 .eq (.var 1) (.int 1)) (.int 1) (.int 0)) []) (.cons (.setx 4 (.var 5) (.var 2)) (.cons (.setx 4 (.op2 .add (.var 5) (.int 1)) (.var 3)) (.cons (.ret (.blt .tuple (.cons (.var 4) .nil)) [4]) .nil)))))⟩
def g_shifted : List D → R D := evF [] t_shifted
-- edge_before: 0 gap
def t_edge_before : Fn := ⟨1, 1, (.cons (.ret (.ite (.op2 .eq (.var 0) (.int 1)) (.int 1) (.int 0)) []) .nil)⟩
def g_edge_before : List D → R D := evF [] t_edge_before
-- bad_gap: 0 limit, 1 hop
def t_bad_gap : Fn := ⟨2, 2, (.cons (.ret (.ite (.op2 .lt (.blt .min (.cons (.call 0 (.cons (.var 1) (.cons (.int 1) .nil))) .nil)) (.int 0)) (.int 1) (.op2 .add (.var 0) (.int 2))) []) .nil)⟩
def g_bad_gap : List D → R D := evF [P.g_margin] t_bad_gap
-- bad_play: 0 limit, 1 hop, 2 gap
def t_bad_play : Fn := ⟨2, 3, (.cons (.asg 2 (.call 0 (.cons (.var 0) (.cons (.var 1) .nil))) []) (.cons (.ite (.op2 .lt (.op2 .ix (.call 1 (.cons (.var 1) (.cons (.var 2) .nil))) (.int 0)) (.int 0)) (.cons (.ret (.tup (.cons (.var 2) (.cons (.op2 .ix (.var 1) (.int 0)) (.cons (.call 2 (.cons (.var 0) (.cons (.var 2) (.cons (.op2 .ix (.var 1) (.int 2)) (.cons (.neg (.op2 .ix (.var 1) (.int 2))) .nil))))) (.cons (.bl true) .nil))))) []) .nil) .nil) (.cons (.ret (.tup (.cons (.var 2) (.cons (.op2 .ix (.var 1) (.int 1)) (.cons (.call 2 (.cons (.var 0) (.cons (.var 2) (.cons (.neg (.op2 .ix (.var 1) (.int 2))) (.cons (.op2 .ix (.var 1) (.int 2)) .nil))))) (.cons (.bl false) .nil))))) []) .nil)))⟩
def g_bad_play : List D → R D := evF [P.g_bad_gap, P.g_margin, P.g_shifted] t_bad_play
-- bad_phase: 0 hop, 1 is_early, 2 time
def t_bad_phase : Fn := ⟨3, 3, (.cons (.ret (.ite (.var 1) (.op2 .mod (.op2 .sub (.op2 .add (.var 2) (.op2 .ix (.var 0) (.int 3))) (.int 1)) (.op2 .ix (.var 0) (.int 3))) (.op2 .mod (.var 2) (.op2 .ix (.var 0) (.int 3)))) []) .nil)⟩
def g_bad_phase : List D → R D := evF [] t_bad_phase
-- places_of: 0 receiver, 1 polls, 2 places, 3 number, 4 later
def B0_places_of : ISs := (.cons (.app 2 (.op2 .add (.op2 .ix (.var 2) (.neg (.int 1))) (.call 0 (.cons (.var 0) (.cons (.op2 .sub (.var 4) (.var 3)) .nil))))) .nil)
@[simp] theorem u_B0_places_of {F : List (List D → R D)} {ρ : Env} : evSs F B0_places_of ρ = evSs F (.cons (.app 2 (.op2 .add (.op2 .ix (.var 2) (.neg (.int 1))) (.call 0 (.cons (.var 0) (.cons (.op2 .sub (.var 4) (.var 3)) .nil))))) .nil) ρ := Eq.trans rfl rfl
def t_places_of : Fn := ⟨2, 5, (.cons (.asgL 2 (.lst (.cons (.int 0) .nil)) []) (.cons (.forr (.zip (.var 1) (.slice (.var 1) (.int 1) .non)) (.many [3, 4]) B0_places_of []) (.cons (.ret (.var 2) [2]) .nil)))⟩
def g_places_of : List D → R D := evF [P.g_gap_bits] t_places_of
-- is_ordered: 0 signal, 1 time, 2 later
def t_is_ordered : Fn := ⟨1, 3, (.cons (.ite (.and (.var 0) (.op2 .lt (.op2 .ix (.var 0) (.int 0)) (.int 0))) (.cons (.ret (.bl false) []) .nil) .nil) (.cons (.ret (.allLt (.var 0) (.slice (.var 0) (.int 1) .non)) []) .nil))⟩
def g_is_ordered : List D → R D := evF [] t_is_ordered
-- is_late: 0 receiver, 1 phase, 2 polls, 3 places, 4 start, 5 bit_time, 6 number, 7 place
def B0_is_late : ISs := (.cons (.ite (.op2 .gt (.call 0 (.cons (.var 0) (.cons (.var 1) (.cons (.var 6) .nil)))) (.op2 .add (.var 4) (.op2 .mul (.op2 .add (.var 7) (.int 1)) (.var 5)))) (.cons (.ret (.bl true) []) .nil) .nil) .nil)
@[simp] theorem u_B0_is_late {F : List (List D → R D)} {ρ : Env} : evSs F B0_is_late ρ = evSs F (.cons (.ite (.op2 .gt (.call 0 (.cons (.var 0) (.cons (.var 1) (.cons (.var 6) .nil)))) (.op2 .add (.var 4) (.op2 .mul (.op2 .add (.var 7) (.int 1)) (.var 5)))) (.cons (.ret (.bl true) []) .nil) .nil) .nil) ρ := Eq.trans rfl rfl
def t_is_late : Fn := ⟨6, 8, (.cons (.forr (.zip (.slice (.var 2) (.int 1) .non) (.var 3)) (.many [6, 7]) B0_is_late []) (.cons (.ret (.bl false) []) .nil))⟩
def g_is_late : List D → R D := evF [P.g_detection_time] t_is_late
-- relay_signal: 0 receiver, 1 phase, 2 delay, 3 bit_time, 4 shifts, 5 signal, 6 polls, 7 places, 8 start, 9 sent, 10 number, 11 place
def E0_relay_signal : IE := (.op2 .add (.op2 .add (.var 8) (.op2 .mul (.var 11) (.var 3))) (.call 3 (.cons (.var 4) (.cons (.var 10) .nil))))
@[simp] theorem u_E0_relay_signal {F : List (List D → R D)} {z : Nat → Bool} {ρ : Env} : evE F z ρ E0_relay_signal = evE F z ρ (.op2 .add (.op2 .add (.var 8) (.op2 .mul (.var 11) (.var 3))) (.call 3 (.cons (.var 4) (.cons (.var 10) .nil)))) := Eq.trans rfl rfl
def t_relay_signal : Fn := ⟨6, 12, (.cons (.asg 6 (.call 0 (.cons (.var 0) (.cons (.var 1) (.cons (.var 5) .nil)))) []) (.cons (.ite (.not (.var 6)) (.cons (.ret (.lst .nil) []) .nil) .nil) (.cons (.asg 7 (.call 1 (.cons (.var 0) (.cons (.var 6) .nil))) []) (.cons (.asg 8 (.op2 .add (.call 2 (.cons (.var 0) (.cons (.var 1) (.cons (.op2 .ix (.var 6) (.int 0)) .nil)))) (.var 2)) []) (.cons (.asgL 9 (.comp (.enm (.var 7)) (.many [10, 11]) E0_relay_signal [10, 11]) []) (.cons (.ite (.or (.call 4 (.cons (.var 0) (.cons (.var 1) (.cons (.var 6) (.cons (.var 7) (.cons (.var 8) (.cons (.var 3) .nil))))))) (.not (.call 5 (.cons (.var 9) .nil)))) (.cons (.ret .non []) .nil) .nil) (.cons (.ret (.var 9) [9]) .nil)))))))⟩
def g_relay_signal : List D → R D := evF [P.g_detection_polls, P.g_places_of, P.g_detection_time, P.g_shift_at, P.g_is_late, P.g_is_ordered] t_relay_signal
-- _law_relayed: 0 _law_hop_here, 1 _law_phase, 2 _law_delay, 3 _law_bit_time, 4 _law_shifts, 5 _law_signal_here, 6 _law_polls, 7 _law_begin, 8 _law_sent, 9 _law_place, 10 _law_k
def B0__law_relayed : ISs := (.cons (.ite (.op2 .gt (.op2 .add (.var 1) (.op2 .mul (.op2 .ix (.var 6) (.var 10)) (.op2 .ix (.var 0) (.int 3)))) (.op2 .add (.var 7) (.op2 .mul (.op2 .add (.var 9) (.int 1)) (.var 3)))) (.cons (.ret .non []) .nil) .nil) (.cons (.asg 9 (.op2 .add (.var 9) (.call 2 (.cons (.op2 .ix (.var 0) (.int 4)) (.cons (.op2 .sub (.op2 .ix (.var 6) (.var 10)) (.op2 .ix (.var 6) (.op2 .sub (.var 10) (.int 1)))) .nil)))) []) (.cons (.app 8 (.op2 .add (.op2 .add (.var 7) (.op2 .mul (.var 9) (.var 3))) (.call 1 (.cons (.var 4) (.cons (.var 10) .nil))))) .nil)))
@[simp] theorem u_B0__law_relayed {F : List (List D → R D)} {ρ : Env} : evSs F B0__law_relayed ρ = evSs F (.cons (.ite (.op2 .gt (.op2 .add (.var 1) (.op2 .mul (.op2 .ix (.var 6) (.var 10)) (.op2 .ix (.var 0) (.int 3)))) (.op2 .add (.var 7) (.op2 .mul (.op2 .add (.var 9) (.int 1)) (.var 3)))) (.cons (.ret .non []) .nil) .nil) (.cons (.asg 9 (.op2 .add (.var 9) (.call 2 (.cons (.op2 .ix (.var 0) (.int 4)) (.cons (.op2 .sub (.op2 .ix (.var 6) (.var 10)) (.op2 .ix (.var 6) (.op2 .sub (.var 10) (.int 1)))) .nil)))) []) (.cons (.app 8 (.op2 .add (.op2 .add (.var 7) (.op2 .mul (.var 9) (.var 3))) (.call 1 (.cons (.var 4) (.cons (.var 10) .nil))))) .nil))) ρ := Eq.trans rfl rfl
def B1__law_relayed : ISs := (.cons (.ite (.or (.op2 .lt (.op2 .ix (.var 8) (.var 10)) (.int 0)) (.and (.op2 .gt (.var 10) (.int 0)) (.op2 .le (.op2 .ix (.var 8) (.var 10)) (.op2 .ix (.var 8) (.op2 .sub (.var 10) (.int 1)))))) (.cons (.ret .non []) .nil) .nil) .nil)
@[simp] theorem u_B1__law_relayed {F : List (List D → R D)} {ρ : Env} : evSs F B1__law_relayed ρ = evSs F (.cons (.ite (.or (.op2 .lt (.op2 .ix (.var 8) (.var 10)) (.int 0)) (.and (.op2 .gt (.var 10) (.int 0)) (.op2 .le (.op2 .ix (.var 8) (.var 10)) (.op2 .ix (.var 8) (.op2 .sub (.var 10) (.int 1)))))) (.cons (.ret .non []) .nil) .nil) .nil) ρ := Eq.trans rfl rfl
def t__law_relayed : Fn := ⟨6, 11, (.cons (.asg 6 (.call 0 (.cons (.op2 .ix (.var 0) (.int 3)) (.cons (.var 1) (.cons (.var 5) .nil)))) []) (.cons (.ite (.not (.var 6)) (.cons (.ret (.lst .nil) []) .nil) .nil) (.cons (.asg 7 (.op2 .add (.op2 .add (.var 1) (.op2 .mul (.op2 .ix (.var 6) (.int 0)) (.op2 .ix (.var 0) (.int 3)))) (.var 2)) []) (.cons (.asgL 8 (.lst (.cons (.op2 .add (.var 7) (.call 1 (.cons (.var 4) (.cons (.int 0) .nil)))) .nil)) []) (.cons (.asg 9 (.int 0) []) (.cons (.forr (.rng (.cons (.int 1) (.cons (.blt .len (.cons (.var 6) .nil)) .nil))) (.one 10) B0__law_relayed []) (.cons (.forr (.rng (.cons (.blt .len (.cons (.var 8) .nil)) .nil)) (.one 10) B1__law_relayed [8]) (.cons (.ret (.var 8) [8]) .nil))))))))⟩
def g__law_relayed : List D → R D := evF [Ext.g__law_detected, P.g__law_shift, P.g__law_read] t__law_relayed
-- stuffed_most: 0 limit, 1 payload_most
def t_stuffed_most : Fn := ⟨2, 2, (.cons (.ret (.op2 .add (.var 1) (.op2 .div (.var 1) (.var 0))) []) .nil)⟩
def g_stuffed_most : List D → R D := evF [] t_stuffed_most
-- flag_ends: 0 limit, 1 payload_most, 2 first
def t_flag_ends : Fn := ⟨2, 3, (.cons (.asg 2 (.op2 .add (.op2 .mul (.int 2) (.var 0)) (.int 5)) []) (.cons (.ret (.op2 .add (.lst (.cons (.op2 .add (.var 0) (.int 2)) .nil)) (.rangeL (.cons (.var 2) (.cons (.op2 .add (.op2 .add (.var 2) (.call 0 (.cons (.var 0) (.cons (.var 1) .nil)))) (.int 1)) .nil)))) []) .nil))⟩
def g_flag_ends : List D → R D := evF [P.g_stuffed_most] t_flag_ends
-- delay_for: 0 limit, 1 hop, 2 later, 3 place, 4 latest
def t_delay_for : Fn := ⟨4, 5, (.cons (.asg 4 (.op2 .mul (.neg (.op2 .div (.neg (.op2 .add (.op2 .mul (.var 3) (.op2 .ix (.var 1) (.int 1))) (.op2 .mul (.int 2) (.op2 .ix (.var 1) (.int 2))))) (.op2 .ix (.var 1) (.int 3)))) (.op2 .ix (.var 1) (.int 3))) []) (.cons (.ret (.op2 .sub (.var 4) (.op2 .mul (.op2 .sub (.op2 .sub (.var 3) (.var 0)) (.int 1)) (.op2 .ix (.var 2) (.int 0)))) []) .nil))⟩
def g_delay_for : List D → R D := evF [] t_delay_for
-- check_safe: 0 limit, 1 hop
def t_check_safe : Fn := ⟨2, 2, (.cons (.ite (.not (.call 0 (.cons (.var 0) (.cons (.var 1) .nil)))) (.cons (.raisE (.str [104, 111, 112, 32, 105, 115, 32, 110, 111, 116, 32, 115, 97, 102, 101])) .nil) .nil) .nil)⟩
def g_check_safe : List D → R D := evF [P.g_is_safe] t_check_safe
-- least_delay: 0 limit, 1 payload_most, 2 hop, 3 later, 4 place
def E0_least_delay : IE := (.call 2 (.cons (.var 0) (.cons (.var 2) (.cons (.var 3) (.cons (.var 4) .nil)))))
@[simp] theorem u_E0_least_delay {F : List (List D → R D)} {z : Nat → Bool} {ρ : Env} : evE F z ρ E0_least_delay = evE F z ρ (.call 2 (.cons (.var 0) (.cons (.var 2) (.cons (.var 3) (.cons (.var 4) .nil))))) := Eq.trans rfl rfl
def t_least_delay : Fn := ⟨4, 5, (.cons (.exprX (.call 0 (.cons (.var 0) (.cons (.var 2) .nil)))) (.cons (.ret (.blt .max (.cons (.op2 .add (.lst (.cons (.int 0) .nil)) (.comp (.seq (.call 1 (.cons (.var 0) (.cons (.var 1) .nil)))) (.one 4) E0_least_delay [4])) .nil)) []) .nil))⟩
def g_least_delay : List D → R D := evF [P.g_check_safe, P.g_flag_ends, P.g_delay_for] t_least_delay
-- _law_ends_of_flags: 0 _law_limit, 1 _law_most, 2 _law_first, 3 _law_k
def E0__law_ends_of_flags : IE := (.op2 .add (.var 2) (.var 3))
@[simp] theorem u_E0__law_ends_of_flags {F : List (List D → R D)} {z : Nat → Bool} {ρ : Env} : evE F z ρ E0__law_ends_of_flags = evE F z ρ (.op2 .add (.var 2) (.var 3)) := Eq.trans rfl rfl
def t__law_ends_of_flags : Fn := ⟨2, 4, (.cons (.asg 2 (.op2 .add (.op2 .mul (.int 2) (.var 0)) (.int 5)) []) (.cons (.ret (.op2 .add (.lst (.cons (.op2 .add (.var 0) (.int 2)) .nil)) (.comp (.rng (.cons (.op2 .add (.op2 .add (.var 1) (.op2 .div (.var 1) (.var 0))) (.int 1)) .nil)) (.one 3) E0__law_ends_of_flags [3])) []) .nil))⟩
def g__law_ends_of_flags : List D → R D := evF [] t__law_ends_of_flags
-- _law_least_delay: 0 _law_limit, 1 _law_most, 2 _law_hop_here, 3 _law_later, 4 _law_found, 5 _law_place, 6 _law_polls
def B0__law_least_delay : ISs := (.cons (.asg 6 (.op2 .div (.op2 .sub (.op2 .add (.op2 .add (.op2 .mul (.var 5) (.op2 .ix (.var 2) (.int 1))) (.op2 .mul (.int 2) (.op2 .ix (.var 2) (.int 2)))) (.op2 .ix (.var 2) (.int 3))) (.int 1)) (.op2 .ix (.var 2) (.int 3))) []) (.cons (.asg 4 (.blt .max (.cons (.var 4) (.cons (.op2 .sub (.op2 .mul (.var 6) (.op2 .ix (.var 2) (.int 3))) (.op2 .mul (.op2 .sub (.op2 .sub (.var 5) (.var 0)) (.int 1)) (.op2 .ix (.var 3) (.int 0)))) .nil))) []) .nil))
@[simp] theorem u_B0__law_least_delay {F : List (List D → R D)} {ρ : Env} : evSs F B0__law_least_delay ρ = evSs F (.cons (.asg 6 (.op2 .div (.op2 .sub (.op2 .add (.op2 .add (.op2 .mul (.var 5) (.op2 .ix (.var 2) (.int 1))) (.op2 .mul (.int 2) (.op2 .ix (.var 2) (.int 2)))) (.op2 .ix (.var 2) (.int 3))) (.int 1)) (.op2 .ix (.var 2) (.int 3))) []) (.cons (.asg 4 (.blt .max (.cons (.var 4) (.cons (.op2 .sub (.op2 .mul (.var 6) (.op2 .ix (.var 2) (.int 3))) (.op2 .mul (.op2 .sub (.op2 .sub (.var 5) (.var 0)) (.int 1)) (.op2 .ix (.var 3) (.int 0)))) .nil))) []) .nil)) ρ := Eq.trans rfl rfl
def t__law_least_delay : Fn := ⟨4, 7, (.cons (.asg 4 (.int 0) []) (.cons (.forr (.seq (.call 0 (.cons (.var 0) (.cons (.var 1) .nil)))) (.one 5) B0__law_least_delay []) (.cons (.ret (.var 4) []) .nil)))⟩
def g__law_least_delay : List D → R D := evF [P.g__law_ends_of_flags] t__law_least_delay
-- backlogs: 0 receiver, 1 phase, 2 delay, 3 bit_time, 4 signal, 5 polls, 6 places, 7 found, 8 number, 9 place, 10 time
def B0_backlogs : ISs := (.cons (.asg 10 (.op2 .mul (.op2 .sub (.var 8) (.op2 .ix (.var 5) (.int 0))) (.op2 .ix (.var 0) (.int 0))) []) (.cons (.app 7 (.op2 .sub (.op2 .add (.var 9) (.int 1)) (.ite (.op2 .lt (.var 10) (.var 2)) (.int 0) (.op2 .add (.op2 .div (.op2 .sub (.var 10) (.var 2)) (.var 3)) (.int 1))))) .nil))
@[simp] theorem u_B0_backlogs {F : List (List D → R D)} {ρ : Env} : evSs F B0_backlogs ρ = evSs F (.cons (.asg 10 (.op2 .mul (.op2 .sub (.var 8) (.op2 .ix (.var 5) (.int 0))) (.op2 .ix (.var 0) (.int 0))) []) (.cons (.app 7 (.op2 .sub (.op2 .add (.var 9) (.int 1)) (.ite (.op2 .lt (.var 10) (.var 2)) (.int 0) (.op2 .add (.op2 .div (.op2 .sub (.var 10) (.var 2)) (.var 3)) (.int 1))))) .nil)) ρ := Eq.trans rfl rfl
def t_backlogs : Fn := ⟨5, 11, (.cons (.asg 5 (.call 0 (.cons (.var 0) (.cons (.var 1) (.cons (.var 4) .nil)))) []) (.cons (.asg 6 (.ite (.var 5) (.call 1 (.cons (.var 0) (.cons (.var 5) .nil))) (.lst .nil)) []) (.cons (.asgL 7 (.lst .nil) []) (.cons (.forr (.zip (.var 5) (.var 6)) (.many [8, 9]) B0_backlogs []) (.cons (.ret (.var 7) [7]) .nil)))))⟩
def g_backlogs : List D → R D := evF [P.g_detection_polls, P.g_places_of] t_backlogs
-- zero_places: 0 limit, 1 payload_most, 2 inner
def t_zero_places : Fn := ⟨2, 3, (.cons (.asg 2 (.rangeL (.cons (.op2 .add (.var 0) (.int 2)) (.cons (.op2 .add (.op2 .add (.var 0) (.int 4)) (.call 0 (.cons (.var 0) (.cons (.var 1) .nil)))) .nil))) []) (.cons (.ret (.op2 .add (.op2 .add (.lst (.cons (.int 0) .nil)) (.var 2)) (.slice (.call 1 (.cons (.var 0) (.cons (.var 1) .nil))) (.int 1) .non)) []) .nil))⟩
def g_zero_places : List D → R D := evF [P.g_stuffed_most, P.g_flag_ends] t_zero_places
-- sent_by: 0 time, 1 delay, 2 later
def t_sent_by : Fn := ⟨3, 3, (.cons (.ret (.ite (.op2 .lt (.var 0) (.var 1)) (.int 0) (.op2 .add (.op2 .div (.op2 .sub (.var 0) (.var 1)) (.op2 .ix (.var 2) (.int 1))) (.int 1))) []) .nil)⟩
def g_sent_by : List D → R D := evF [] t_sent_by
-- backlog_at: 0 hop, 1 later, 2 delay, 3 place, 4 early
def t_backlog_at : Fn := ⟨4, 5, (.cons (.asg 4 (.ite (.op2 .eq (.var 3) (.int 0)) (.int 0) (.op2 .mul (.op2 .div (.op2 .sub (.op2 .mul (.var 3) (.op2 .ix (.var 0) (.int 0))) (.op2 .mul (.int 2) (.op2 .ix (.var 0) (.int 2)))) (.op2 .ix (.var 0) (.int 3))) (.op2 .ix (.var 0) (.int 3)))) []) (.cons (.ret (.op2 .sub (.op2 .add (.var 3) (.int 1)) (.call 0 (.cons (.var 4) (.cons (.var 2) (.cons (.var 1) .nil))))) []) .nil))⟩
def g_backlog_at : List D → R D := evF [P.g_sent_by] t_backlog_at
-- buffer_depth: 0 limit, 1 payload_most, 2 hop, 3 later, 4 delay, 5 place
def E0_buffer_depth : IE := (.call 2 (.cons (.var 2) (.cons (.var 3) (.cons (.var 4) (.cons (.var 5) .nil)))))
@[simp] theorem u_E0_buffer_depth {F : List (List D → R D)} {z : Nat → Bool} {ρ : Env} : evE F z ρ E0_buffer_depth = evE F z ρ (.call 2 (.cons (.var 2) (.cons (.var 3) (.cons (.var 4) (.cons (.var 5) .nil))))) := Eq.trans rfl rfl
def t_buffer_depth : Fn := ⟨5, 6, (.cons (.iteX (.op2R .lt (.var 4) (.call 0 (.cons (.var 0) (.cons (.var 1) (.cons (.var 2) (.cons (.var 3) .nil)))))) (.cons (.raisE (.str [100, 101, 108, 97, 121, 32, 105, 115, 32, 116, 111, 111, 32, 115, 104, 111, 114, 116])) .nil) .nil) (.cons (.ret (.blt .max (.cons (.comp (.seq (.call 1 (.cons (.var 0) (.cons (.var 1) .nil)))) (.one 5) E0_buffer_depth [5]) .nil)) []) .nil))⟩
def g_buffer_depth : List D → R D := evF [P.g_least_delay, P.g_zero_places, P.g_backlog_at] t_buffer_depth
-- passed_on: 0 chain, 1 plays, 2 index, 3 signal, 4 bit_time, 5 shifts, 6 phase, 7 receiver
def t_passed_on : Fn := ⟨4, 8, (.cons (.unp [4, 5, 6] (.op2 .ix (.var 1) (.op2 .add (.var 2) (.int 1))) []) (.cons (.asg 7 (.call 0 (.cons (.op2 .ix (.op2 .ix (.var 0) (.int 2)) (.var 2)) .nil)) []) (.cons (.ret (.call 1 (.cons (.var 7) (.cons (.op2 .ix (.op2 .ix (.var 1) (.var 2)) (.int 2)) (.cons (.op2 .ix (.op2 .ix (.var 0) (.int 3)) (.var 2)) (.cons (.var 4) (.cons (.var 5) (.cons (.var 3) .nil))))))) []) .nil)))⟩
def g_passed_on : List D → R D := evF [P.g_receiver_of, P.g_relay_signal] t_passed_on
-- signals_of: 0 chain, 1 payload, 2 plays, 3 bit_time, 4 shifts, 5 phase, 6 signals, 7 index, 8 signal
def B0_signals_of : ISs := (.cons (.asg 8 (.call 2 (.cons (.var 0) (.cons (.var 2) (.cons (.var 7) (.cons (.ixo 6 (.neg (.int 1))) .nil))))) []) (.cons (.ite (.isN (.var 8)) (.cons (.ret (.var 6) [6]) .nil) .nil) (.cons (.appL 6 (.var 8) []) .nil)))
@[simp] theorem u_B0_signals_of {F : List (List D → R D)} {ρ : Env} : evSs F B0_signals_of ρ = evSs F (.cons (.asg 8 (.call 2 (.cons (.var 0) (.cons (.var 2) (.cons (.var 7) (.cons (.ixo 6 (.neg (.int 1))) .nil))))) []) (.cons (.ite (.isN (.var 8)) (.cons (.ret (.var 6) [6]) .nil) .nil) (.cons (.appL 6 (.var 8) []) .nil))) ρ := Eq.trans rfl rfl
def t_signals_of : Fn := ⟨3, 9, (.cons (.unp [3, 4, 5] (.op2 .ix (.var 2) (.int 0)) []) (.cons (.asgL 6 (.lst (.cons (.call 0 (.cons (.call 1 (.cons (.op2 .ix (.var 0) (.int 0)) (.cons (.var 1) .nil))) (.cons (.glob 2000) (.cons (.var 3) (.cons (.var 4) .nil))))) .nil)) []) (.cons (.forr (.rng (.cons (.blt .len (.cons (.op2 .ix (.var 0) (.int 3)) .nil)) .nil)) (.one 7) B0_signals_of []) (.cons (.ret (.var 6) [6]) .nil))))⟩
def g_signals_of : List D → R D := evF [P.g_signal_of, P.g_frame_bits, P.g_passed_on] t_signals_of
-- gaps_at: 0 chain, 1 plays, 2 signals, 3 index
def t_gaps_at : Fn := ⟨4, 4, (.cons (.ret (.call 0 (.cons (.call 1 (.cons (.op2 .ix (.op2 .ix (.var 0) (.int 2)) (.var 3)) .nil)) (.cons (.op2 .ix (.op2 .ix (.var 1) (.var 3)) (.int 2)) (.cons (.op2 .ix (.var 2) (.var 3)) .nil)))) []) .nil)⟩
def g_gaps_at : List D → R D := evF [P.g_received_gaps, P.g_receiver_of] t_gaps_at
-- transmit: 0 chain, 1 payload, 2 plays, 3 signals, 4 wanted, 5 is_whole, 6 fault, 7 index, 8 received
def B0_transmit : ISs := (.cons (.ite (.op2 .ne (.call 3 (.cons (.var 0) (.cons (.var 2) (.cons (.var 3) (.cons (.var 7) .nil))))) (.var 4)) (.cons (.asg 6 (.tup (.cons (.str [104, 111, 112]) (.cons (.var 7) .nil))) []) .nil) .nil) .nil)
@[simp] theorem u_B0_transmit {F : List (List D → R D)} {ρ : Env} : evSs F B0_transmit ρ = evSs F (.cons (.ite (.op2 .ne (.call 3 (.cons (.var 0) (.cons (.var 2) (.cons (.var 3) (.cons (.var 7) .nil))))) (.var 4)) (.cons (.asg 6 (.tup (.cons (.str [104, 111, 112]) (.cons (.var 7) .nil))) []) .nil) .nil) .nil) ρ := Eq.trans rfl rfl
def t_transmit : Fn := ⟨3, 9, (.cons (.asgX 3 (.call 0 (.cons (.var 0) (.cons (.var 1) (.cons (.var 2) .nil)))) []) (.cons (.asg 4 (.call 1 (.cons (.call 2 (.cons (.op2 .ix (.var 0) (.int 0)) (.cons (.var 1) .nil))) .nil)) []) (.cons (.asg 5 (.op2 .eq (.blt .len (.cons (.var 3) .nil)) (.blt .len (.cons (.op2 .ix (.var 0) (.int 2)) .nil))) []) (.cons (.asg 6 (.ite (.var 5) .non (.tup (.cons (.str [114, 101, 108, 97, 121]) (.cons (.op2 .sub (.blt .len (.cons (.var 3) .nil)) (.int 1)) .nil)))) []) (.cons (.forr (.rng (.cons (.op2 .sub (.blt .len (.cons (.var 3) .nil)) (.int 1)) (.cons (.neg (.int 1)) (.cons (.neg (.int 1)) .nil)))) (.one 7) B0_transmit []) (.cons (.asg 8 (.ite (.var 5) (.call 4 (.cons (.op2 .ix (.var 0) (.int 0)) (.cons (.call 3 (.cons (.var 0) (.cons (.var 2) (.cons (.var 3) (.cons (.op2 .sub (.blt .len (.cons (.var 3) .nil)) (.int 1)) .nil))))) .nil))) .non) []) (.cons (.ret (.tup (.cons (.var 3) (.cons (.var 6) (.cons (.var 8) .nil)))) []) .nil)))))))⟩
def g_transmit : List D → R D := evF [P.g_signals_of, P.g_gaps_of, P.g_frame_bits, P.g_gaps_at, Ext.g_read_gaps] t_transmit
-- _law_run: 0 _law_chain_here, 1 _law_payload_here, 2 _law_plays_here, 3 _law_limit, 4 _law_payload_most, 5 _law_hops, 6 _law_delays, 7 _law_bits, 8 _law_signals, 9 _law_fault, 10 _law_k, 11 _law_sent
def B0__law_run : ISs := (.cons (.ite (.and (.isN (.var 9)) (.op2 .ne (.call 2 (.cons (.op2 .ix (.var 5) (.var 10)) (.cons (.op2 .ix (.op2 .ix (.var 2) (.var 10)) (.int 2)) (.cons (.ixo 8 (.var 10)) .nil)))) (.call 3 (.cons (.var 7) .nil)))) (.cons (.asg 9 (.tup (.cons (.str [104, 111, 112]) (.cons (.var 10) .nil))) []) .nil) .nil) (.cons (.ite (.op2 .lt (.var 10) (.blt .len (.cons (.var 6) .nil))) (.cons (.asg 11 (.call 4 (.cons (.op2 .ix (.var 5) (.var 10)) (.cons (.op2 .ix (.op2 .ix (.var 2) (.var 10)) (.int 2)) (.cons (.op2 .ix (.var 6) (.var 10)) (.cons (.op2 .ix (.op2 .ix (.var 2) (.op2 .add (.var 10) (.int 1))) (.int 0)) (.cons (.op2 .ix (.op2 .ix (.var 2) (.op2 .add (.var 10) (.int 1))) (.int 1)) (.cons (.ixo 8 (.var 10)) .nil))))))) []) (.cons (.ite (.isN (.var 11)) (.cons (.ret (.tup (.cons (.var 8) (.cons (.ite (.isN (.var 9)) (.tup (.cons (.str [114, 101, 108, 97, 121]) (.cons (.var 10) .nil))) (.var 9)) (.cons (.bl false) .nil)))) [8]) .nil) .nil) (.cons (.appL 8 (.var 11) []) .nil))) .nil) .nil))
@[simp] theorem u_B0__law_run {F : List (List D → R D)} {ρ : Env} : evSs F B0__law_run ρ = evSs F (.cons (.ite (.and (.isN (.var 9)) (.op2 .ne (.call 2 (.cons (.op2 .ix (.var 5) (.var 10)) (.cons (.op2 .ix (.op2 .ix (.var 2) (.var 10)) (.int 2)) (.cons (.ixo 8 (.var 10)) .nil)))) (.call 3 (.cons (.var 7) .nil)))) (.cons (.asg 9 (.tup (.cons (.str [104, 111, 112]) (.cons (.var 10) .nil))) []) .nil) .nil) (.cons (.ite (.op2 .lt (.var 10) (.blt .len (.cons (.var 6) .nil))) (.cons (.asg 11 (.call 4 (.cons (.op2 .ix (.var 5) (.var 10)) (.cons (.op2 .ix (.op2 .ix (.var 2) (.var 10)) (.int 2)) (.cons (.op2 .ix (.var 6) (.var 10)) (.cons (.op2 .ix (.op2 .ix (.var 2) (.op2 .add (.var 10) (.int 1))) (.int 0)) (.cons (.op2 .ix (.op2 .ix (.var 2) (.op2 .add (.var 10) (.int 1))) (.int 1)) (.cons (.ixo 8 (.var 10)) .nil))))))) []) (.cons (.ite (.isN (.var 11)) (.cons (.ret (.tup (.cons (.var 8) (.cons (.ite (.isN (.var 9)) (.tup (.cons (.str [114, 101, 108, 97, 121]) (.cons (.var 10) .nil))) (.var 9)) (.cons (.bl false) .nil)))) [8]) .nil) .nil) (.cons (.appL 8 (.var 11) []) .nil))) .nil) .nil)) ρ := Eq.trans rfl rfl
def t__law_run : Fn := ⟨3, 12, (.cons (.unp [3, 4, 5, 6] (.var 0) []) (.cons (.asg 7 (.call 0 (.cons (.var 3) (.cons (.var 1) .nil))) []) (.cons (.asgL 8 (.lst (.cons (.call 1 (.cons (.var 7) (.cons (.int 2000) (.cons (.op2 .ix (.op2 .ix (.var 2) (.int 0)) (.int 0)) (.cons (.op2 .ix (.op2 .ix (.var 2) (.int 0)) (.int 1)) .nil))))) .nil)) []) (.cons (.asg 9 .non []) (.cons (.forr (.rng (.cons (.blt .len (.cons (.var 5) .nil)) .nil)) (.one 10) B0__law_run []) (.cons (.ret (.tup (.cons (.var 8) (.cons (.var 9) (.cons (.bl true) .nil)))) [8]) .nil))))))⟩
def g__law_run : List D → R D := evF [P.g__law_frame, P.g__law_signal_1, P.g__law_read_gaps, P.g__law_gaps, P.g__law_relayed] t__law_run
-- _law_chain: 0 _law_script, 1 _law_at, 2 _law_many, 3 _law_draws_here, 4 _law_limit, 5 _law_most, 6 _law_hops, 7 _law_delays, 8 _law_k, 9 _law_least
def E0__law_chain : IE := (.call 2 (.cons (.call 1 (.cons (.var 0) (.cons (.op2 .add (.op2 .add (.var 1) (.int 1)) (.var 8)) .nil))) (.cons (.var 4) .nil)))
@[simp] theorem u_E0__law_chain {F : List (List D → R D)} {z : Nat → Bool} {ρ : Env} : evE F z ρ E0__law_chain = evE F z ρ (.call 2 (.cons (.call 1 (.cons (.var 0) (.cons (.op2 .add (.op2 .add (.var 1) (.int 1)) (.var 8)) .nil))) (.cons (.var 4) .nil))) := Eq.trans rfl rfl
def B1__law_chain : ISs := (.cons (.asg 9 (.call 3 (.cons (.var 4) (.cons (.var 5) (.cons (.op2 .ix (.var 6) (.var 8)) (.cons (.op2 .ix (.var 6) (.op2 .add (.var 8) (.int 1))) .nil))))) []) (.cons (.app 7 (.blt .min (.cons (.int 100000) (.cons (.blt .max (.cons (.int 0) (.cons (.op2 .add (.var 9) (.op2 .ix (.lst (.cons (.int 0) (.cons (.int 0) (.cons (.int 1) (.cons (.neg (.int 1)) (.cons (.op2 .mod (.op2 .ix (.var 3) (.op2 .add (.int 4) (.var 8))) (.int 300)) .nil)))))) (.op2 .mod (.op2 .ix (.var 3) (.op2 .add (.int 8) (.var 8))) (.int 5)))) .nil))) .nil)))) .nil))
@[simp] theorem u_B1__law_chain {F : List (List D → R D)} {ρ : Env} : evSs F B1__law_chain ρ = evSs F (.cons (.asg 9 (.call 3 (.cons (.var 4) (.cons (.var 5) (.cons (.op2 .ix (.var 6) (.var 8)) (.cons (.op2 .ix (.var 6) (.op2 .add (.var 8) (.int 1))) .nil))))) []) (.cons (.app 7 (.blt .min (.cons (.int 100000) (.cons (.blt .max (.cons (.int 0) (.cons (.op2 .add (.var 9) (.op2 .ix (.lst (.cons (.int 0) (.cons (.int 0) (.cons (.int 1) (.cons (.neg (.int 1)) (.cons (.op2 .mod (.op2 .ix (.var 3) (.op2 .add (.int 4) (.var 8))) (.int 300)) .nil)))))) (.op2 .mod (.op2 .ix (.var 3) (.op2 .add (.int 8) (.var 8))) (.int 5)))) .nil))) .nil)))) .nil)) ρ := Eq.trans rfl rfl
def t__law_chain : Fn := ⟨3, 10, (.cons (.asg 3 (.call 0 (.cons (.call 1 (.cons (.var 0) (.cons (.var 1) .nil))) (.cons (.int 12) .nil))) []) (.cons (.asg 4 (.op2 .add (.int 2) (.op2 .mod (.op2 .ix (.var 3) (.int 0)) (.int 6))) []) (.cons (.asg 5 (.op2 .add (.var 4) (.op2 .ix (.lst (.cons (.op2 .mod (.op2 .ix (.var 3) (.int 1)) (.int 4)) (.cons (.op2 .mod (.op2 .ix (.var 3) (.int 1)) (.op2 .sub (.int 25) (.var 4))) (.cons (.op2 .sub (.int 24) (.var 4)) .nil)))) (.op2 .mod (.op2 .ix (.var 3) (.int 2)) (.int 3)))) []) (.cons (.asg 6 (.blt .tuple (.cons (.comp (.rng (.cons (.op2 .add (.int 1) (.op2 .mod (.op2 .ix (.var 3) (.int 3)) (.var 2))) .nil)) (.one 8) E0__law_chain [8]) .nil)) []) (.cons (.asgL 7 (.lst .nil) []) (.cons (.forr (.rng (.cons (.op2 .sub (.blt .len (.cons (.var 6) .nil)) (.int 1)) .nil)) (.one 8) B1__law_chain []) (.cons (.ret (.tup (.cons (.var 4) (.cons (.var 5) (.cons (.var 6) (.cons (.blt .tuple (.cons (.var 7) .nil)) .nil))))) [7]) .nil)))))))⟩
def g__law_chain : List D → R D := evF [P.g__law_draws_1, P.g__law_cell, P.g__law_hop, P.g__law_least_delay] t__law_chain
-- _law_plays: 0 _law_script, 1 _law_at, 2 _law_chain_here, 3 _law_k
def E0__law_plays : IE := (.call 0 (.cons (.call 1 (.cons (.var 0) (.cons (.op2 .add (.var 1) (.var 3)) .nil))) (.cons (.op2 .ix (.op2 .ix (.var 2) (.int 2)) (.var 3)) .nil)))
@[simp] theorem u_E0__law_plays {F : List (List D → R D)} {z : Nat → Bool} {ρ : Env} : evE F z ρ E0__law_plays = evE F z ρ (.call 0 (.cons (.call 1 (.cons (.var 0) (.cons (.op2 .add (.var 1) (.var 3)) .nil))) (.cons (.op2 .ix (.op2 .ix (.var 2) (.int 2)) (.var 3)) .nil))) := Eq.trans rfl rfl
def t__law_plays : Fn := ⟨3, 4, (.cons (.ret (.comp (.rng (.cons (.blt .len (.cons (.op2 .ix (.var 2) (.int 2)) .nil)) .nil)) (.one 3) E0__law_plays [3]) []) .nil)⟩
def g__law_plays : List D → R D := evF [P.g__law_play, P.g__law_cell] t__law_plays
-- least_delays: 0 limit, 1 payload_most, 2 hops, 3 index, 4 hop, 5 later
def B0_least_delays : ISs := (.cons (.ite (.not (.call 0 (.cons (.var 0) (.cons (.var 4) .nil)))) (.cons (.raisE (.fstr (.cons (.str [104, 111, 112, 32]) (.cons (.fmt (.var 3)) (.cons (.str [32, 105, 115, 32, 110, 111, 116, 32, 115, 97, 102, 101]) .nil))))) .nil) .nil) .nil)
@[simp] theorem u_B0_least_delays {F : List (List D → R D)} {ρ : Env} : evSs F B0_least_delays ρ = evSs F (.cons (.ite (.not (.call 0 (.cons (.var 0) (.cons (.var 4) .nil)))) (.cons (.raisE (.fstr (.cons (.str [104, 111, 112, 32]) (.cons (.fmt (.var 3)) (.cons (.str [32, 105, 115, 32, 110, 111, 116, 32, 115, 97, 102, 101]) .nil))))) .nil) .nil) .nil) ρ := Eq.trans rfl rfl
def E1_least_delays : IE := (.call 1 (.cons (.var 0) (.cons (.var 1) (.cons (.var 4) (.cons (.var 5) .nil)))))
@[simp] theorem u_E1_least_delays {F : List (List D → R D)} {z : Nat → Bool} {ρ : Env} : evE F z ρ E1_least_delays = evE F z ρ (.call 1 (.cons (.var 0) (.cons (.var 1) (.cons (.var 4) (.cons (.var 5) .nil))))) := Eq.trans rfl rfl
def t_least_delays : Fn := ⟨3, 6, (.cons (.forr (.enm (.var 2)) (.many [3, 4]) B0_least_delays []) (.cons (.ret (.comp (.zip (.var 2) (.slice (.var 2) (.int 1) .non)) (.many [4, 5]) E1_least_delays [4, 5]) []) .nil))⟩
def g_least_delays : List D → R D := evF [P.g_is_safe, P.g_least_delay] t_least_delays
-- chain_fault: 0 chain, 1 limit, 2 payload_most, 3 hops, 4 delays, 5 index, 6 hop
def B0_chain_fault : ISs := (.cons (.ite (.not (.call 0 (.cons (.var 1) (.cons (.var 6) .nil)))) (.cons (.ret (.tup (.cons (.str [104, 111, 112]) (.cons (.var 5) .nil))) []) .nil) .nil) (.cons (.ite (.and (.op2 .lt (.var 5) (.blt .len (.cons (.var 4) .nil))) (.op2 .lt (.op2 .ix (.var 4) (.var 5)) (.call 1 (.cons (.var 1) (.cons (.var 2) (.cons (.var 6) (.cons (.op2 .ix (.var 3) (.op2 .add (.var 5) (.int 1))) .nil))))))) (.cons (.ret (.tup (.cons (.str [114, 101, 108, 97, 121]) (.cons (.var 5) .nil))) []) .nil) .nil) .nil))
@[simp] theorem u_B0_chain_fault {F : List (List D → R D)} {ρ : Env} : evSs F B0_chain_fault ρ = evSs F (.cons (.ite (.not (.call 0 (.cons (.var 1) (.cons (.var 6) .nil)))) (.cons (.ret (.tup (.cons (.str [104, 111, 112]) (.cons (.var 5) .nil))) []) .nil) .nil) (.cons (.ite (.and (.op2 .lt (.var 5) (.blt .len (.cons (.var 4) .nil))) (.op2 .lt (.op2 .ix (.var 4) (.var 5)) (.call 1 (.cons (.var 1) (.cons (.var 2) (.cons (.var 6) (.cons (.op2 .ix (.var 3) (.op2 .add (.var 5) (.int 1))) .nil))))))) (.cons (.ret (.tup (.cons (.str [114, 101, 108, 97, 121]) (.cons (.var 5) .nil))) []) .nil) .nil) .nil)) ρ := Eq.trans rfl rfl
def t_chain_fault : Fn := ⟨1, 7, (.cons (.unp [1, 2, 3, 4] (.var 0) []) (.cons (.forr (.enm (.var 3)) (.many [5, 6]) B0_chain_fault []) (.cons (.ret .non []) .nil)))⟩
def g_chain_fault : List D → R D := evF [P.g_is_safe, P.g_least_delay] t_chain_fault
-- total_delay: 0 limit, 1 payload_most, 2 hops
def t_total_delay : Fn := ⟨3, 3, (.cons (.retX (.blt1 .sum (.call 0 (.cons (.var 0) (.cons (.var 1) (.cons (.var 2) .nil))))) []) .nil)⟩
def g_total_delay : List D → R D := evF [P.g_least_delays] t_total_delay
-- _law_first_fault: 0 _law_chain_here, 1 _law_limit, 2 _law_most, 3 _law_hops, 4 _law_delays, 5 _law_k
def B0__law_first_fault : ISs := (.cons (.ite (.not (.call 0 (.cons (.var 1) (.cons (.op2 .ix (.var 3) (.var 5)) .nil)))) (.cons (.ret (.tup (.cons (.str [104, 111, 112]) (.cons (.var 5) .nil))) []) .nil) .nil) (.cons (.ite (.and (.op2 .lt (.var 5) (.blt .len (.cons (.var 4) .nil))) (.op2 .lt (.op2 .ix (.var 4) (.var 5)) (.call 1 (.cons (.var 1) (.cons (.var 2) (.cons (.op2 .ix (.var 3) (.var 5)) (.cons (.op2 .ix (.var 3) (.op2 .add (.var 5) (.int 1))) .nil))))))) (.cons (.ret (.tup (.cons (.str [114, 101, 108, 97, 121]) (.cons (.var 5) .nil))) []) .nil) .nil) .nil))
@[simp] theorem u_B0__law_first_fault {F : List (List D → R D)} {ρ : Env} : evSs F B0__law_first_fault ρ = evSs F (.cons (.ite (.not (.call 0 (.cons (.var 1) (.cons (.op2 .ix (.var 3) (.var 5)) .nil)))) (.cons (.ret (.tup (.cons (.str [104, 111, 112]) (.cons (.var 5) .nil))) []) .nil) .nil) (.cons (.ite (.and (.op2 .lt (.var 5) (.blt .len (.cons (.var 4) .nil))) (.op2 .lt (.op2 .ix (.var 4) (.var 5)) (.call 1 (.cons (.var 1) (.cons (.var 2) (.cons (.op2 .ix (.var 3) (.var 5)) (.cons (.op2 .ix (.var 3) (.op2 .add (.var 5) (.int 1))) .nil))))))) (.cons (.ret (.tup (.cons (.str [114, 101, 108, 97, 121]) (.cons (.var 5) .nil))) []) .nil) .nil) .nil)) ρ := Eq.trans rfl rfl
def t__law_first_fault : Fn := ⟨1, 6, (.cons (.unp [1, 2, 3, 4] (.var 0) []) (.cons (.forr (.rng (.cons (.blt .len (.cons (.var 3) .nil)) .nil)) (.one 5) B0__law_first_fault []) (.cons (.ret .non []) .nil)))⟩
def g__law_first_fault : List D → R D := evF [P.g__law_is_safe, P.g__law_least_delay] t__law_first_fault
-- receivers_for: 0 limit, 1 least, 2 greatest, 3 jitter, 4 found, 5 poll, 6 per_bit
def B0_receivers_for : ISs := (.cons (.ite (.call 0 (.cons (.var 0) (.cons (.tup (.cons (.var 1) (.cons (.var 2) (.cons (.var 3) (.cons (.var 5) (.cons (.var 6) .nil)))))) .nil))) (.cons (.app 4 (.tup (.cons (.var 5) (.cons (.var 6) .nil)))) .nil) .nil) .nil)
@[simp] theorem u_B0_receivers_for {F : List (List D → R D)} {ρ : Env} : evSs F B0_receivers_for ρ = evSs F (.cons (.ite (.call 0 (.cons (.var 0) (.cons (.tup (.cons (.var 1) (.cons (.var 2) (.cons (.var 3) (.cons (.var 5) (.cons (.var 6) .nil)))))) .nil))) (.cons (.app 4 (.tup (.cons (.var 5) (.cons (.var 6) .nil)))) .nil) .nil) .nil) ρ := Eq.trans rfl rfl
def B1_receivers_for : ISs := (.cons (.forr (.rng (.cons (.glob 3) (.cons (.op2 .add (.glob 32) (.int 1)) .nil))) (.one 6) B0_receivers_for []) .nil)
@[simp] theorem u_B1_receivers_for {F : List (List D → R D)} {ρ : Env} : evSs F B1_receivers_for ρ = evSs F (.cons (.forr (.rng (.cons (.glob 3) (.cons (.op2 .add (.glob 32) (.int 1)) .nil))) (.one 6) B0_receivers_for []) .nil) ρ := Eq.trans rfl rfl
def t_receivers_for : Fn := ⟨4, 7, (.cons (.asgL 4 (.lst .nil) []) (.cons (.forr (.rng (.cons (.int 1) (.cons (.op2 .add (.glob 50) (.int 1)) .nil))) (.one 5) B1_receivers_for []) (.cons (.ret (.var 4) [4]) .nil)))⟩
def g_receivers_for : List D → R D := evF [P.g_is_safe] t_receivers_for
-- slowest_receiver: 0 limit, 1 least, 2 greatest, 3 jitter, 4 found, 5 poll, 6 receiver
def E0_slowest_receiver : IE := (.var 6)
@[simp] theorem u_E0_slowest_receiver {F : List (List D → R D)} {z : Nat → Bool} {ρ : Env} : evE F z ρ E0_slowest_receiver = evE F z ρ (.var 6) := Eq.trans rfl rfl
def C1_slowest_receiver : IE := (.op2 .eq (.op2 .ix (.var 6) (.int 0)) (.var 5))
@[simp] theorem u_C1_slowest_receiver {F : List (List D → R D)} {z : Nat → Bool} {ρ : Env} : evE F z ρ C1_slowest_receiver = evE F z ρ (.op2 .eq (.op2 .ix (.var 6) (.int 0)) (.var 5)) := Eq.trans rfl rfl
def t_slowest_receiver : Fn := ⟨4, 7, (.cons (.asg 4 (.call 0 (.cons (.var 0) (.cons (.var 1) (.cons (.var 2) (.cons (.var 3) .nil))))) []) (.cons (.ite (.not (.var 4)) (.cons (.ret .non []) .nil) .nil) (.cons (.asg 5 (.op2 .ix (.op2 .ix (.var 4) (.neg (.int 1))) (.int 0)) []) (.cons (.ret (.op2 .ix (.compIf (.seq (.var 4)) (.one 6) C1_slowest_receiver E0_slowest_receiver [6]) (.int 0)) []) .nil))))⟩
def g_slowest_receiver : List D → R D := evF [P.g_receivers_for] t_slowest_receiver
-- greatest_limit: 0 hop, 1 found, 2 limit
def B0_greatest_limit : ISs := (.cons (.ite (.call 0 (.cons (.var 2) (.cons (.var 0) .nil))) (.cons (.asg 1 (.var 2) []) .nil) .nil) .nil)
@[simp] theorem u_B0_greatest_limit {F : List (List D → R D)} {ρ : Env} : evSs F B0_greatest_limit ρ = evSs F (.cons (.ite (.call 0 (.cons (.var 2) (.cons (.var 0) .nil))) (.cons (.asg 1 (.var 2) []) .nil) .nil) .nil) ρ := Eq.trans rfl rfl
def t_greatest_limit : Fn := ⟨1, 3, (.cons (.asg 1 .non []) (.cons (.forr (.rng (.cons (.glob 2) (.cons (.op2 .add (.glob 7) (.int 1)) .nil))) (.one 2) B0_greatest_limit []) (.cons (.ret (.var 1) []) .nil)))⟩
def g_greatest_limit : List D → R D := evF [P.g_is_safe] t_greatest_limit
-- weakest: 0 limit, 1 hop, 2 keyed, 3 at, 4 early, 5 late, 6 least, 7 key
def B0_weakest : ISs := (.cons (.app 2 (.tup (.cons (.var 4) (.cons (.op2 .add (.var 3) (.int 1)) (.cons (.str [101, 97, 114, 108, 121]) .nil))))) (.cons (.app 2 (.tup (.cons (.var 5) (.cons (.op2 .add (.var 3) (.int 1)) (.cons (.str [108, 97, 116, 101]) .nil))))) .nil))
@[simp] theorem u_B0_weakest {F : List (List D → R D)} {ρ : Env} : evSs F B0_weakest ρ = evSs F (.cons (.app 2 (.tup (.cons (.var 4) (.cons (.op2 .add (.var 3) (.int 1)) (.cons (.str [101, 97, 114, 108, 121]) .nil))))) (.cons (.app 2 (.tup (.cons (.var 5) (.cons (.op2 .add (.var 3) (.int 1)) (.cons (.str [108, 97, 116, 101]) .nil))))) .nil)) ρ := Eq.trans rfl rfl
def E1_weakest : IE := (.op2 .ix (.var 7) (.int 0))
@[simp] theorem u_E1_weakest {F : List (List D → R D)} {z : Nat → Bool} {ρ : Env} : evE F z ρ E1_weakest = evE F z ρ (.op2 .ix (.var 7) (.int 0)) := Eq.trans rfl rfl
def E2_weakest : IE := (.var 7)
@[simp] theorem u_E2_weakest {F : List (List D → R D)} {z : Nat → Bool} {ρ : Env} : evE F z ρ E2_weakest = evE F z ρ (.var 7) := Eq.trans rfl rfl
def C3_weakest : IE := (.op2 .eq (.op2 .ix (.var 7) (.int 0)) (.var 6))
@[simp] theorem u_C3_weakest {F : List (List D → R D)} {z : Nat → Bool} {ρ : Env} : evE F z ρ C3_weakest = evE F z ρ (.op2 .eq (.op2 .ix (.var 7) (.int 0)) (.var 6)) := Eq.trans rfl rfl
def t_weakest : Fn := ⟨2, 8, (.cons (.asgL 2 (.lst .nil) []) (.cons (.forr (.enm (.call 0 (.cons (.var 0) (.cons (.var 1) .nil)))) (.pair 3 [4, 5]) B0_weakest []) (.cons (.asg 6 (.blt .min (.cons (.comp (.seq (.var 2)) (.one 7) E1_weakest [7]) .nil)) [2]) (.cons (.ret (.op2 .ix (.compIf (.seq (.var 2)) (.one 7) C3_weakest E2_weakest [7]) (.int 0)) [2]) .nil))))⟩
def g_weakest : List D → R D := evF [P.g_margins] t_weakest
-- arrival: 0 chain, 1 payload, 2 hops, 3 bits, 4 early, 5 late, 6 least, 7 greatest, 8 jitter, 9 poll, 10 per_bit
def B0_arrival : ISs := (.cons (.asg 4 (.op2 .sub (.var 4) (.var 8)) []) (.cons (.asg 5 (.op2 .sub (.op2 .add (.op2 .add (.var 5) (.var 8)) (.var 9)) (.int 1)) []) .nil))
@[simp] theorem u_B0_arrival {F : List (List D → R D)} {ρ : Env} : evSs F B0_arrival ρ = evSs F (.cons (.asg 4 (.op2 .sub (.var 4) (.var 8)) []) (.cons (.asg 5 (.op2 .sub (.op2 .add (.op2 .add (.var 5) (.var 8)) (.var 9)) (.int 1)) []) .nil)) ρ := Eq.trans rfl rfl
def t_arrival : Fn := ⟨2, 11, (.cons (.iteX (.notN (.call 0 (.cons (.var 0) .nil))) (.cons (.raisE (.str [99, 104, 97, 105, 110, 32, 104, 97, 115, 32, 97, 32, 102, 97, 117, 108, 116])) .nil) .nil) (.cons (.asg 2 (.op2 .ix (.var 0) (.int 2)) []) (.cons (.asg 3 (.op2 .sub (.blt .len (.cons (.call 1 (.cons (.op2 .ix (.var 0) (.int 0)) (.cons (.var 1) .nil))) .nil)) (.int 1)) []) (.cons (.asg 4 (.op2 .add (.op2 .add (.glob 2000) (.op2 .mul (.var 3) (.op2 .ix (.op2 .ix (.var 2) (.neg (.int 1))) (.int 0)))) (.blt .sum (.cons (.op2 .ix (.var 0) (.int 3)) .nil))) []) (.cons (.asg 5 (.op2 .add (.op2 .add (.glob 2000) (.op2 .mul (.var 3) (.op2 .ix (.op2 .ix (.var 2) (.neg (.int 1))) (.int 1)))) (.blt .sum (.cons (.op2 .ix (.var 0) (.int 3)) .nil))) []) (.cons (.forr (.seq (.var 2)) (.many [6, 7, 8, 9, 10]) B0_arrival []) (.cons (.ret (.tup (.cons (.var 4) (.cons (.var 5) .nil))) []) .nil)))))))⟩
def g_arrival : List D → R D := evF [P.g_chain_fault, P.g_frame_bits] t_arrival
-- _law_made_safe: 0 _law_hop_here, 1 _law_limit, 2 _law_k, 3 _law_least, 4 _law_greatest, 5 _law_jitter, 6 _law_poll, 7 _law_per_bit, 8 _law_low, 9 _law_high, 10 _law_middle
def B0__law_made_safe : ISs := (.cons (.ite (.not (.call 0 (.cons (.var 1) (.cons (.var 0) .nil)))) (.cons (.unp [3, 4, 5, 6, 7] (.var 0) []) (.cons (.unp [8, 9] (.call 1 (.cons (.var 1) (.cons (.var 6) (.cons (.var 7) (.cons (.op2 .ix (.lst (.cons (.var 5) (.cons (.int 0) (.cons (.int 0) .nil)))) (.var 2)) .nil))))) []) (.cons (.asg 10 (.blt .max (.cons (.int 50) (.cons (.blt .min (.cons (.int 2000) (.cons (.op2 .div (.op2 .add (.var 8) (.var 9)) (.int 2)) .nil))) .nil))) []) (.cons (.asg 0 (.tup (.cons (.var 10) (.cons (.var 10) (.cons (.op2 .ix (.lst (.cons (.var 5) (.cons (.int 0) (.cons (.int 0) .nil)))) (.var 2)) (.cons (.var 6) (.cons (.var 7) .nil)))))) []) .nil)))) .nil) .nil)
@[simp] theorem u_B0__law_made_safe {F : List (List D → R D)} {ρ : Env} : evSs F B0__law_made_safe ρ = evSs F (.cons (.ite (.not (.call 0 (.cons (.var 1) (.cons (.var 0) .nil)))) (.cons (.unp [3, 4, 5, 6, 7] (.var 0) []) (.cons (.unp [8, 9] (.call 1 (.cons (.var 1) (.cons (.var 6) (.cons (.var 7) (.cons (.op2 .ix (.lst (.cons (.var 5) (.cons (.int 0) (.cons (.int 0) .nil)))) (.var 2)) .nil))))) []) (.cons (.asg 10 (.blt .max (.cons (.int 50) (.cons (.blt .min (.cons (.int 2000) (.cons (.op2 .div (.op2 .add (.var 8) (.var 9)) (.int 2)) .nil))) .nil))) []) (.cons (.asg 0 (.tup (.cons (.var 10) (.cons (.var 10) (.cons (.op2 .ix (.lst (.cons (.var 5) (.cons (.int 0) (.cons (.int 0) .nil)))) (.var 2)) (.cons (.var 6) (.cons (.var 7) .nil)))))) []) .nil)))) .nil) .nil) ρ := Eq.trans rfl rfl
def t__law_made_safe : Fn := ⟨2, 11, (.cons (.forr (.rng (.cons (.int 3) .nil)) (.one 2) B0__law_made_safe []) (.cons (.ret (.var 0) []) .nil))⟩
def g__law_made_safe : List D → R D := evF [P.g__law_is_safe, P.g__law_ends] t__law_made_safe
-- _wall: 0 k
def C0__wall : IE := (.bl true)
@[simp] theorem u_C0__wall {F : List (List D → R D)} {z : Nat → Bool} {ρ : Env} : evE F z ρ C0__wall = evE F z ρ (.bl true) := Eq.trans rfl rfl
def B1__wall : ISs := (.cons .pass .nil)
@[simp] theorem u_B1__wall {F : List (List D → R D)} {ρ : Env} : evSs F B1__wall ρ = evSs F (.cons .pass .nil) ρ := Eq.trans rfl rfl
def t__wall : Fn := ⟨1, 1, (.cons (.whl C0__wall B1__wall 1000000) .nil)⟩
def g__wall : List D → R D := evF [] t__wall
-- modulus_of: 0 window
def t_modulus_of : Fn := ⟨1, 1, (.cons (.ret (.op2 .add (.var 0) (.int 1)) []) .nil)⟩
def g_modulus_of : List D → R D := evF [] t_modulus_of
-- slipped: 0 gaps, 1 at, 2 way
def t_slipped : Fn := ⟨3, 3, (.cons (.ret (.op2 .add (.op2 .add (.slice (.var 0) .non (.var 1)) (.lst (.cons (.op2 .add (.op2 .ix (.var 0) (.var 1)) (.var 2)) .nil))) (.slice (.var 0) (.op2 .add (.var 1) (.int 1)) .non)) []) .nil)⟩
def g_slipped : List D → R D := evF [] t_slipped
-- slips: 0 limit, 1 payload, 2 gaps, 3 found, 4 at, 5 way
def B0_slips : ISs := (.cons (.appL 3 (.tup (.cons (.var 4) (.cons (.var 5) (.cons (.call 1 (.cons (.var 0) (.cons (.call 2 (.cons (.var 2) (.cons (.var 4) (.cons (.var 5) .nil)))) .nil))) .nil)))) []) .nil)
@[simp] theorem u_B0_slips {F : List (List D → R D)} {ρ : Env} : evSs F B0_slips ρ = evSs F (.cons (.appL 3 (.tup (.cons (.var 4) (.cons (.var 5) (.cons (.call 1 (.cons (.var 0) (.cons (.call 2 (.cons (.var 2) (.cons (.var 4) (.cons (.var 5) .nil)))) .nil))) .nil)))) []) .nil) ρ := Eq.trans rfl rfl
def B1_slips : ISs := (.cons (.forr (.seq (.globT [(-1), 1])) (.one 5) B0_slips []) .nil)
@[simp] theorem u_B1_slips {F : List (List D → R D)} {ρ : Env} : evSs F B1_slips ρ = evSs F (.cons (.forr (.seq (.globT [(-1), 1])) (.one 5) B0_slips []) .nil) ρ := Eq.trans rfl rfl
def t_slips : Fn := ⟨2, 6, (.cons (.asg 2 (.call 0 (.cons (.var 0) (.cons (.var 1) .nil))) []) (.cons (.asgL 3 (.lst .nil) []) (.cons (.forr (.rng (.cons (.blt .len (.cons (.var 2) .nil)) .nil)) (.one 4) B1_slips []) (.cons (.ret (.var 3) [3]) .nil))))⟩
def g_slips : List D → R D := evF [P.g_frame_gaps, Ext.g_read_gaps, P.g_slipped] t_slips
-- _law_letter: 0 _law_cell_here, 1 _law_most, 2 _law_draws_here, 3 _law_k
def E0__law_letter : IE := (.op2 .mod (.blt .int (.cons (.op2 .ix (.var 2) (.var 3)) .nil)) (.int 256))
@[simp] theorem u_E0__law_letter {F : List (List D → R D)} {z : Nat → Bool} {ρ : Env} : evE F z ρ E0__law_letter = evE F z ρ (.op2 .mod (.blt .int (.cons (.op2 .ix (.var 2) (.var 3)) .nil)) (.int 256)) := Eq.trans rfl rfl
def t__law_letter : Fn := ⟨2, 4, (.cons (.asg 2 (.call 0 (.cons (.var 0) (.cons (.op2 .add (.var 1) (.int 1)) .nil))) []) (.cons (.ret (.blt .tuple (.cons (.comp (.rng (.cons (.op2 .mod (.blt .int (.cons (.op2 .ix (.var 2) (.var 1)) .nil)) (.op2 .add (.var 1) (.int 1))) .nil)) (.one 3) E0__law_letter [3]) .nil)) []) .nil))⟩
def g__law_letter : List D → R D := evF [P.g__law_draws] t__law_letter
-- _law_put: 0 _law_line, 1 _law_payload
def t__law_put : Fn := ⟨2, 2, (.cons (.ret (.ite (.op2 .lt (.blt .len (.cons (.var 0) .nil)) (.int 40)) (.op2 .add (.var 0) (.lst (.cons (.var 1) .nil))) (.var 0)) []) .nil)⟩
def g__law_put : List D → R D := evF [] t__law_put
-- pairs_from: 0 edge, 1 count, 2 turn
def E0_pairs_from : IE := (.tup (.cons (.op2 .add (.var 0) (.op2 .mul (.int 2) (.var 2))) (.cons (.op2 .add (.op2 .add (.var 0) (.op2 .mul (.int 2) (.var 2))) (.int 1)) .nil)))
@[simp] theorem u_E0_pairs_from {F : List (List D → R D)} {z : Nat → Bool} {ρ : Env} : evE F z ρ E0_pairs_from = evE F z ρ (.tup (.cons (.op2 .add (.var 0) (.op2 .mul (.int 2) (.var 2))) (.cons (.op2 .add (.op2 .add (.var 0) (.op2 .mul (.int 2) (.var 2))) (.int 1)) .nil))) := Eq.trans rfl rfl
def t_pairs_from : Fn := ⟨2, 3, (.cons (.ret (.blt .tuple (.cons (.comp (.rng (.cons (.var 1) .nil)) (.one 2) E0_pairs_from [2]) .nil)) []) .nil)⟩
def g_pairs_from : List D → R D := evF [] t_pairs_from
-- joined: 0 one, 1 two
def t_joined : Fn := ⟨2, 2, (.cons (.ite (.isN (.var 1)) (.cons (.ret .non []) .nil) .nil) (.cons (.ret (.tup (.cons (.op2 .add (.op2 .ix (.var 0) (.int 0)) (.op2 .ix (.var 1) (.int 0))) (.cons (.op2 .add (.op2 .ix (.var 0) (.int 1)) (.op2 .ix (.var 1) (.int 1))) (.cons (.op2 .add (.op2 .ix (.var 0) (.int 2)) (.op2 .ix (.var 1) (.int 2))) .nil)))) []) .nil))⟩
def g_joined : List D → R D := evF [] t_joined
-- are_pairs: 0 lost, 1 edges, 2 before, 3 first, 4 second
def B0_are_pairs : ISs := (.cons (.ite (.or (.op2 .le (.var 3) (.var 2)) (.or (.op2 .ne (.var 4) (.op2 .add (.var 3) (.int 1))) (.op2 .ge (.var 4) (.var 1)))) (.cons (.ret (.bl false) []) .nil) .nil) (.cons (.asg 2 (.var 4) []) .nil))
@[simp] theorem u_B0_are_pairs {F : List (List D → R D)} {ρ : Env} : evSs F B0_are_pairs ρ = evSs F (.cons (.ite (.or (.op2 .le (.var 3) (.var 2)) (.or (.op2 .ne (.var 4) (.op2 .add (.var 3) (.int 1))) (.op2 .ge (.var 4) (.var 1)))) (.cons (.ret (.bl false) []) .nil) .nil) (.cons (.asg 2 (.var 4) []) .nil)) ρ := Eq.trans rfl rfl
def t_are_pairs : Fn := ⟨2, 5, (.cons (.asg 2 (.neg (.int 1)) []) (.cons (.forr (.seq (.var 0)) (.many [3, 4]) B0_are_pairs []) (.cons (.ret (.bl true) []) .nil)))⟩
def g_are_pairs : List D → R D := evF [] t_are_pairs
-- are_slips: 0 slips, 1 count, 2 before, 3 at, 4 way
def B0_are_slips : ISs := (.cons (.ite (.or (.not (.chain .lt .lt (.var 2) (.var 3) (.var 1))) (.op2 .eq (.var 4) (.int 0))) (.cons (.ret (.bl false) []) .nil) .nil) (.cons (.asg 2 (.var 3) []) .nil))
@[simp] theorem u_B0_are_slips {F : List (List D → R D)} {ρ : Env} : evSs F B0_are_slips ρ = evSs F (.cons (.ite (.or (.not (.chain .lt .lt (.var 2) (.var 3) (.var 1))) (.op2 .eq (.var 4) (.int 0))) (.cons (.ret (.bl false) []) .nil) .nil) (.cons (.asg 2 (.var 3) []) .nil)) ρ := Eq.trans rfl rfl
def t_are_slips : Fn := ⟨2, 5, (.cons (.asg 2 (.neg (.int 1)) []) (.cons (.forr (.seq (.var 0)) (.many [3, 4]) B0_are_slips []) (.cons (.ret (.bl true) []) .nil)))⟩
def g_are_slips : List D → R D := evF [] t_are_slips
-- _law_losses: 0 _law_edges, 1 _law_rows, 2 _law_edge, 3 _law_row
def E0__law_losses : IE := (.op2 .add (.var 3) (.tup (.cons (.tup (.cons (.var 2) (.cons (.op2 .add (.var 2) (.int 1)) .nil))) .nil)))
@[simp] theorem u_E0__law_losses {F : List (List D → R D)} {z : Nat → Bool} {ρ : Env} : evE F z ρ E0__law_losses = evE F z ρ (.op2 .add (.var 3) (.tup (.cons (.tup (.cons (.var 2) (.cons (.op2 .add (.var 2) (.int 1)) .nil))) .nil))) := Eq.trans rfl rfl
def C1__law_losses : IE := (.or (.op2 .eq (.var 3) (.tup .nil)) (.op2 .lt (.op2 .ix (.op2 .ix (.var 3) (.neg (.int 1))) (.int 1)) (.var 2)))
@[simp] theorem u_C1__law_losses {F : List (List D → R D)} {z : Nat → Bool} {ρ : Env} : evE F z ρ C1__law_losses = evE F z ρ (.or (.op2 .eq (.var 3) (.tup .nil)) (.op2 .lt (.op2 .ix (.op2 .ix (.var 3) (.neg (.int 1))) (.int 1)) (.var 2))) := Eq.trans rfl rfl
def B2__law_losses : ISs := (.cons (.asg 1 (.op2 .add (.var 1) (.compIf (.seq (.var 1)) (.one 3) C1__law_losses E0__law_losses [3])) []) .nil)
@[simp] theorem u_B2__law_losses {F : List (List D → R D)} {ρ : Env} : evSs F B2__law_losses ρ = evSs F (.cons (.asg 1 (.op2 .add (.var 1) (.compIf (.seq (.var 1)) (.one 3) C1__law_losses E0__law_losses [3])) []) .nil) ρ := Eq.trans rfl rfl
def t__law_losses : Fn := ⟨1, 4, (.cons (.asg 1 (.lst (.cons (.tup .nil) .nil)) []) (.cons (.forr (.rng (.cons (.op2 .sub (.var 0) (.int 1)) .nil)) (.one 2) B2__law_losses []) (.cons (.ret (.var 1) []) .nil)))⟩
def g__law_losses : List D → R D := evF [] t__law_losses
-- _law_flat: 0 _law_lost, 1 _law_found, 2 _law_pair
def B0__law_flat : ISs := (.cons (.asg 1 (.op2 .add (.var 1) (.blt .list (.cons (.var 2) .nil))) []) .nil)
@[simp] theorem u_B0__law_flat {F : List (List D → R D)} {ρ : Env} : evSs F B0__law_flat ρ = evSs F (.cons (.asg 1 (.op2 .add (.var 1) (.blt .list (.cons (.var 2) .nil))) []) .nil) ρ := Eq.trans rfl rfl
def t__law_flat : Fn := ⟨1, 3, (.cons (.asg 1 (.lst .nil) []) (.cons (.forr (.seq (.var 0)) (.one 2) B0__law_flat []) (.cons (.ret (.var 1) []) .nil)))⟩
def g__law_flat : List D → R D := evF [] t__law_flat
-- _law_kept: 0 _law_edges, 1 _law_lost, 2 _law_gone, 3 _law_edge
def E0__law_kept : IE := (.var 3)
@[simp] theorem u_E0__law_kept {F : List (List D → R D)} {z : Nat → Bool} {ρ : Env} : evE F z ρ E0__law_kept = evE F z ρ (.var 3) := Eq.trans rfl rfl
def C1__law_kept : IE := (.op2 .notin (.var 3) (.var 2))
@[simp] theorem u_C1__law_kept {F : List (List D → R D)} {z : Nat → Bool} {ρ : Env} : evE F z ρ C1__law_kept = evE F z ρ (.op2 .notin (.var 3) (.var 2)) := Eq.trans rfl rfl
def t__law_kept : Fn := ⟨2, 4, (.cons (.asg 2 (.call 0 (.cons (.var 1) .nil)) []) (.cons (.ret (.compIf (.rng (.cons (.var 0) .nil)) (.one 3) C1__law_kept E0__law_kept [3]) []) .nil))⟩
def g__law_kept : List D → R D := evF [P.g__law_flat] t__law_kept
-- byte_bits: 0 number, 1 found, 2 place
def B0_byte_bits_1 : ISs := (.cons (.asg 1 (.op2 .add (.var 1) (.blt .str (.cons (.op2 .mod (.var 0) (.int 2)) .nil))) []) (.cons (.asg 0 (.op2 .div (.var 0) (.int 2)) []) .nil))
@[simp] theorem u_B0_byte_bits_1 {F : List (List D → R D)} {ρ : Env} : evSs F B0_byte_bits_1 ρ = evSs F (.cons (.asg 1 (.op2 .add (.var 1) (.blt .str (.cons (.op2 .mod (.var 0) (.int 2)) .nil))) []) (.cons (.asg 0 (.op2 .div (.var 0) (.int 2)) []) .nil)) ρ := Eq.trans rfl rfl
def t_byte_bits_1 : Fn := ⟨1, 3, (.cons (.asg 1 (.str []) []) (.cons (.forr (.rng (.cons (.glob 8) .nil)) (.one 2) B0_byte_bits_1 []) (.cons (.ret (.var 1) []) .nil)))⟩
def g_byte_bits_1 : List D → R D := evF [] t_byte_bits_1
-- bytes_of: 0 bits, 1 at
def E0_bytes_of_1 : IE := (.call 0 (.cons (.slice (.var 0) (.var 1) (.op2 .add (.var 1) (.glob 8))) .nil))
@[simp] theorem u_E0_bytes_of_1 {F : List (List D → R D)} {z : Nat → Bool} {ρ : Env} : evE F z ρ E0_bytes_of_1 = evE F z ρ (.call 0 (.cons (.slice (.var 0) (.var 1) (.op2 .add (.var 1) (.glob 8))) .nil)) := Eq.trans rfl rfl
def t_bytes_of_1 : Fn := ⟨1, 2, (.cons (.ite (.op2 .ne (.op2 .mod (.blt .len (.cons (.var 0) .nil)) (.glob 8)) (.int 0)) (.cons (.ret .non []) .nil) .nil) (.cons (.ret (.comp (.rng (.cons (.int 0) (.cons (.blt .len (.cons (.var 0) .nil)) (.cons (.glob 8) .nil)))) (.one 1) E0_bytes_of_1 [1]) []) .nil))⟩
def g_bytes_of_1 : List D → R D := evF [P.g_byte_of] t_bytes_of_1
-- _law_hop: 0 _law_draws_here, 1 _law_at, 2 _law_limit, 3 _law_per_bit, 4 _law_poll, 5 _law_middle, 6 _law_least, 7 _law_greatest, 8 _law_jitter
def t__law_hop_1 : Fn := ⟨3, 9, (.cons (.asg 3 (.op2 .add (.int 3) (.op2 .mod (.blt .int (.cons (.op2 .ix (.var 0) (.var 1)) .nil)) (.int 12))) []) (.cons (.asg 4 (.op2 .add (.int 2) (.op2 .mod (.blt .int (.cons (.op2 .ix (.var 0) (.op2 .add (.var 1) (.int 1))) .nil)) (.int 30))) []) (.cons (.asg 5 (.blt .max (.cons (.int 50) (.cons (.op2 .sub (.op2 .mul (.var 4) (.var 3)) (.op2 .mod (.blt .int (.cons (.op2 .ix (.var 0) (.op2 .add (.var 1) (.int 2))) .nil)) (.op2 .add (.op2 .div (.var 4) (.int 2)) (.int 1)))) .nil))) []) (.cons (.asg 6 (.blt .min (.cons (.int 2000) (.cons (.var 5) .nil))) []) (.cons (.asg 7 (.blt .min (.cons (.int 2000) (.cons (.op2 .add (.var 6) (.op2 .mod (.blt .int (.cons (.op2 .ix (.var 0) (.op2 .add (.var 1) (.int 3))) .nil)) (.int 3))) .nil))) []) (.cons (.asg 8 (.op2 .div (.op2 .mul (.op2 .mod (.blt .int (.cons (.op2 .ix (.var 0) (.op2 .add (.var 1) (.int 4))) .nil)) (.int 4)) (.op2 .mod (.blt .int (.cons (.op2 .ix (.var 0) (.op2 .add (.var 1) (.int 5))) .nil)) (.int 3))) (.int 2)) []) (.cons (.ret (.tup (.cons (.var 6) (.cons (.var 7) (.cons (.var 8) (.cons (.var 4) (.cons (.var 3) .nil)))))) []) .nil)))))))⟩
def g__law_hop_1 : List D → R D := evF [] t__law_hop_1
-- _law_chain: 0 _law_cell_here, 1 _law_most, 2 _law_draws_here, 3 _law_limit, 4 _law_payload_most, 5 _law_hops, 6 _law_delays, 7 _law_k
def E0__law_chain_1 : IE := (.call 1 (.cons (.var 2) (.cons (.op2 .add (.int 3) (.op2 .mul (.int 6) (.var 7))) (.cons (.var 3) .nil))))
@[simp] theorem u_E0__law_chain_1 {F : List (List D → R D)} {z : Nat → Bool} {ρ : Env} : evE F z ρ E0__law_chain_1 = evE F z ρ (.call 1 (.cons (.var 2) (.cons (.op2 .add (.int 3) (.op2 .mul (.int 6) (.var 7))) (.cons (.var 3) .nil)))) := Eq.trans rfl rfl
def E1__law_chain_1 : IE := (.op2 .add (.op2 .ix (.lst (.cons (.int 3000) (.cons (.int 9000) (.cons (.int 20000) .nil)))) (.op2 .mod (.blt .int (.cons (.op2 .ix (.var 2) (.op2 .add (.int 30) (.var 7))) .nil)) (.int 3))) (.op2 .mul (.int 30) (.op2 .ix (.op2 .ix (.var 5) (.var 7)) (.int 0))))
@[simp] theorem u_E1__law_chain_1 {F : List (List D → R D)} {z : Nat → Bool} {ρ : Env} : evE F z ρ E1__law_chain_1 = evE F z ρ (.op2 .add (.op2 .ix (.lst (.cons (.int 3000) (.cons (.int 9000) (.cons (.int 20000) .nil)))) (.op2 .mod (.blt .int (.cons (.op2 .ix (.var 2) (.op2 .add (.int 30) (.var 7))) .nil)) (.int 3))) (.op2 .mul (.int 30) (.op2 .ix (.op2 .ix (.var 5) (.var 7)) (.int 0)))) := Eq.trans rfl rfl
def t__law_chain_1 : Fn := ⟨2, 8, (.cons (.asg 2 (.call 0 (.cons (.var 0) (.cons (.int 40) .nil))) []) (.cons (.asg 3 (.op2 .add (.int 2) (.op2 .mod (.blt .int (.cons (.op2 .ix (.var 2) (.int 0)) .nil)) (.int 3))) []) (.cons (.asg 4 (.var 1) []) (.cons (.asg 5 (.blt .tuple (.cons (.comp (.rng (.cons (.op2 .add (.int 1) (.op2 .mod (.blt .int (.cons (.op2 .ix (.var 2) (.int 1)) .nil)) (.int 3))) .nil)) (.one 7) E0__law_chain_1 [7]) .nil)) []) (.cons (.asg 6 (.blt .tuple (.cons (.comp (.rng (.cons (.op2 .sub (.blt .len (.cons (.var 5) .nil)) (.int 1)) .nil)) (.one 7) E1__law_chain_1 [7]) .nil)) []) (.cons (.ret (.tup (.cons (.var 3) (.cons (.var 4) (.cons (.var 5) (.cons (.var 6) .nil))))) []) .nil))))))⟩
def g__law_chain_1 : List D → R D := evF [P.g__law_draws, P.g__law_hop_1] t__law_chain_1
-- _law_plays: 0 _law_cell_here, 1 _law_hops, 2 _law_draws_here, 3 _law_plays_here, 4 _law_k, 5 _law_least, 6 _law_greatest, 7 _law_jitter, 8 _law_poll, 9 _law_per_bit, 10 _law_shifts, 11 _law_bit_time, 12 _law_j
def E0__law_plays_1 : IE := (.op2 .sub (.op2 .mod (.blt .int (.cons (.op2 .ix (.var 2) (.op2 .add (.op2 .mul (.int 12) (.var 4)) (.var 12))) .nil)) (.op2 .add (.op2 .mul (.int 2) (.var 7)) (.int 1))) (.var 7))
@[simp] theorem u_E0__law_plays_1 {F : List (List D → R D)} {z : Nat → Bool} {ρ : Env} : evE F z ρ E0__law_plays_1 = evE F z ρ (.op2 .sub (.op2 .mod (.blt .int (.cons (.op2 .ix (.var 2) (.op2 .add (.op2 .mul (.int 12) (.var 4)) (.var 12))) .nil)) (.op2 .add (.op2 .mul (.int 2) (.var 7)) (.int 1))) (.var 7)) := Eq.trans rfl rfl
def B1__law_plays_1 : ISs := (.cons (.unp [5, 6, 7, 8, 9] (.op2 .ix (.var 1) (.var 4)) []) (.cons (.asg 10 (.blt .tuple (.cons (.comp (.rng (.cons (.int 10) .nil)) (.one 12) E0__law_plays_1 [12]) .nil)) []) (.cons (.asg 11 (.op2 .add (.var 5) (.op2 .mod (.blt .int (.cons (.op2 .ix (.var 2) (.op2 .add (.op2 .mul (.int 12) (.var 4)) (.int 10))) .nil)) (.op2 .add (.op2 .sub (.var 6) (.var 5)) (.int 1)))) []) (.cons (.app 3 (.tup (.cons (.var 11) (.cons (.var 10) (.cons (.op2 .mod (.blt .int (.cons (.op2 .ix (.var 2) (.op2 .add (.op2 .mul (.int 12) (.var 4)) (.int 11))) .nil)) (.var 8)) .nil))))) .nil))))
@[simp] theorem u_B1__law_plays_1 {F : List (List D → R D)} {ρ : Env} : evSs F B1__law_plays_1 ρ = evSs F (.cons (.unp [5, 6, 7, 8, 9] (.op2 .ix (.var 1) (.var 4)) []) (.cons (.asg 10 (.blt .tuple (.cons (.comp (.rng (.cons (.int 10) .nil)) (.one 12) E0__law_plays_1 [12]) .nil)) []) (.cons (.asg 11 (.op2 .add (.var 5) (.op2 .mod (.blt .int (.cons (.op2 .ix (.var 2) (.op2 .add (.op2 .mul (.int 12) (.var 4)) (.int 10))) .nil)) (.op2 .add (.op2 .sub (.var 6) (.var 5)) (.int 1)))) []) (.cons (.app 3 (.tup (.cons (.var 11) (.cons (.var 10) (.cons (.op2 .mod (.blt .int (.cons (.op2 .ix (.var 2) (.op2 .add (.op2 .mul (.int 12) (.var 4)) (.int 11))) .nil)) (.var 8)) .nil))))) .nil)))) ρ := Eq.trans rfl rfl
def t__law_plays_1 : Fn := ⟨2, 13, (.cons (.asg 2 (.call 0 (.cons (.var 0) (.cons (.int 60) .nil))) []) (.cons (.asgL 3 (.lst .nil) []) (.cons (.forr (.rng (.cons (.blt .len (.cons (.var 1) .nil)) .nil)) (.one 4) B1__law_plays_1 []) (.cons (.ret (.var 3) [3]) .nil))))⟩
def g__law_plays_1 : List D → R D := evF [P.g__law_draws] t__law_plays_1
-- numbers_of: 0 number, 1 words, 2 found, 3 word
def E0_numbers_of : IE := (.call 0 (.cons (.var 3) (.cons (.glob 100000) .nil)))
@[simp] theorem u_E0_numbers_of {F : List (List D → R D)} {z : Nat → Bool} {ρ : Env} : evE F z ρ E0_numbers_of = evE F z ρ (.call 0 (.cons (.var 3) (.cons (.glob 100000) .nil))) := Eq.trans rfl rfl
def t_numbers_of : Fn := ⟨2, 4, (.cons (.asgL 2 (.comp (.seq (.var 1)) (.one 3) E0_numbers_of [3]) []) (.cons (.ite (.op2 .isin .non (.var 2)) (.cons (.raisB (.var 0) (.str [110, 117, 109, 98, 101, 114, 32, 105, 115, 32, 119, 114, 111, 110, 103])) .nil) .nil) (.cons (.ret (.var 2) [2]) .nil)))⟩
def g_numbers_of : List D → R D := evF [P.g_number_of] t_numbers_of
-- check: 0 number, 1 is_right
def t_check : Fn := ⟨2, 2, (.cons (.ite (.not (.var 1)) (.cons (.raisB (.var 0) (.str [110, 117, 109, 98, 101, 114, 32, 105, 115, 32, 119, 114, 111, 110, 103])) .nil) .nil) .nil)⟩
def g_check : List D → R D := evF [] t_check
-- head_of: 0 number, 1 words, 2 limit, 3 payload_most
def t_head_of_1 : Fn := ⟨2, 4, (.cons (.ite (.or (.op2 .ne (.blt .len (.cons (.var 1) .nil)) (.int 3)) (.op2 .ne (.op2 .ix (.var 1) (.int 0)) (.str [99, 104, 97, 105, 110]))) (.cons (.raisB (.var 0) (.str [104, 101, 97, 100, 32, 105, 115, 32, 101, 120, 112, 101, 99, 116, 101, 100])) .nil) .nil) (.cons (.unpXL [2, 3] (.call 0 (.cons (.var 0) (.cons (.slice (.var 1) (.int 1) .non) .nil))) []) (.cons (.exprX (.call 1 (.cons (.var 0) (.cons (.and (.chain .le .le (.int 2) (.var 2) (.int 7)) (.chain .le .le (.var 2) (.var 3) (.int 24))) .nil)))) (.cons (.ret (.tup (.cons (.var 2) (.cons (.var 3) .nil))) []) .nil))))⟩
def g_head_of_1 : List D → R D := evF [P.g_numbers_of, P.g_check] t_head_of_1
-- hop_of: 0 number, 1 words, 2 least, 3 greatest, 4 jitter, 5 poll, 6 polls_per_bit
def t_hop_of : Fn := ⟨2, 7, (.cons (.ite (.or (.op2 .ne (.blt .len (.cons (.var 1) .nil)) (.int 6)) (.op2 .ne (.op2 .ix (.var 1) (.int 0)) (.str [104, 111, 112]))) (.cons (.raisB (.var 0) (.str [104, 111, 112, 32, 105, 115, 32, 101, 120, 112, 101, 99, 116, 101, 100])) .nil) .nil) (.cons (.unpXL [2, 3, 4, 5, 6] (.call 0 (.cons (.var 0) (.cons (.slice (.var 1) (.int 1) .non) .nil))) []) (.cons (.exprX (.call 1 (.cons (.var 0) (.cons (.and (.chain3e (.int 50) (.var 2) (.var 3) (.int 2000)) (.and (.op2 .le (.var 4) (.int 500)) (.op2 .lt (.op2 .mul (.int 2) (.var 4)) (.var 2)))) .nil)))) (.cons (.exprX (.call 1 (.cons (.var 0) (.cons (.and (.chain .le .le (.int 1) (.var 5) (.int 50)) (.chain .le .le (.int 3) (.var 6) (.int 32))) .nil)))) (.cons (.ret (.tup (.cons (.var 2) (.cons (.var 3) (.cons (.var 4) (.cons (.var 5) (.cons (.var 6) .nil)))))) []) .nil)))))⟩
def g_hop_of : List D → R D := evF [P.g_numbers_of, P.g_check] t_hop_of
-- delay_of: 0 number, 1 words
def t_delay_of : Fn := ⟨2, 2, (.cons (.ite (.or (.op2 .ne (.blt .len (.cons (.var 1) .nil)) (.int 2)) (.op2 .ne (.op2 .ix (.var 1) (.int 0)) (.str [114, 101, 108, 97, 121]))) (.cons (.raisB (.var 0) (.str [114, 101, 108, 97, 121, 32, 105, 115, 32, 101, 120, 112, 101, 99, 116, 101, 100])) .nil) .nil) (.cons (.retX (.ixX (.call 0 (.cons (.var 0) (.cons (.slice (.var 1) (.int 1) .non) .nil))) 0) []) .nil))⟩
def g_delay_of : List D → R D := evF [P.g_numbers_of] t_delay_of
-- places_for: 0 bits, 1 places, 2 count
def B0_places_for : ISs := (.cons (.app 1 (.op2 .add (.op2 .ix (.var 1) (.neg (.int 1))) (.var 2))) .nil)
@[simp] theorem u_B0_places_for {F : List (List D → R D)} {ρ : Env} : evSs F B0_places_for ρ = evSs F (.cons (.app 1 (.op2 .add (.op2 .ix (.var 1) (.neg (.int 1))) (.var 2))) .nil) ρ := Eq.trans rfl rfl
def t_places_for : Fn := ⟨1, 3, (.cons (.asgL 1 (.lst (.cons (.int 0) .nil)) []) (.cons (.forr (.seq (.var 0)) (.one 2) B0_places_for []) (.cons (.ret (.var 1) [1]) .nil)))⟩
def g_places_for : List D → R D := evF [] t_places_for
-- windows: 0 receiver, 1 phase, 2 polls, 3 jitter, 4 found, 5 number, 6 time
def B0_windows : ISs := (.cons (.asg 6 (.op2 .add (.var 1) (.op2 .mul (.var 5) (.op2 .ix (.var 0) (.int 0)))) []) (.cons (.app 4 (.tup (.cons (.op2 .sub (.op2 .add (.op2 .sub (.var 6) (.op2 .ix (.var 0) (.int 0))) (.int 1)) (.var 3)) (.cons (.op2 .add (.var 6) (.var 3)) .nil)))) .nil))
@[simp] theorem u_B0_windows {F : List (List D → R D)} {ρ : Env} : evSs F B0_windows ρ = evSs F (.cons (.asg 6 (.op2 .add (.var 1) (.op2 .mul (.var 5) (.op2 .ix (.var 0) (.int 0)))) []) (.cons (.app 4 (.tup (.cons (.op2 .sub (.op2 .add (.op2 .sub (.var 6) (.op2 .ix (.var 0) (.int 0))) (.int 1)) (.var 3)) (.cons (.op2 .add (.var 6) (.var 3)) .nil)))) .nil)) ρ := Eq.trans rfl rfl
def t_windows : Fn := ⟨4, 7, (.cons (.asgL 4 (.lst .nil) []) (.cons (.forr (.seq (.var 2)) (.one 5) B0_windows []) (.cons (.ret (.var 4) [4]) .nil)))⟩
def g_windows : List D → R D := evF [] t_windows
-- check_polls: 0 polls, 1 bits, 2 before, 3 number
def B0_check_polls : ISs := (.cons (.ite (.op2 .le (.var 3) (.var 2)) (.cons (.raisE (.str [112, 111, 108, 108, 115, 32, 111, 117, 116, 32, 111, 102, 32, 111, 114, 100, 101, 114])) .nil) .nil) (.cons (.asg 2 (.var 3) []) .nil))
@[simp] theorem u_B0_check_polls {F : List (List D → R D)} {ρ : Env} : evSs F B0_check_polls ρ = evSs F (.cons (.ite (.op2 .le (.var 3) (.var 2)) (.cons (.raisE (.str [112, 111, 108, 108, 115, 32, 111, 117, 116, 32, 111, 102, 32, 111, 114, 100, 101, 114])) .nil) .nil) (.cons (.asg 2 (.var 3) []) .nil)) ρ := Eq.trans rfl rfl
def t_check_polls : Fn := ⟨2, 4, (.cons (.asg 2 (.int 0) []) (.cons (.forr (.seq (.var 0)) (.one 3) B0_check_polls []) (.cons (.ite (.or (.op2 .ne (.blt .len (.cons (.var 1) .nil)) (.op2 .sub (.blt .len (.cons (.var 0) .nil)) (.int 1))) (.and (.var 1) (.op2 .lt (.blt .min (.cons (.var 1) .nil)) (.int 1)))) (.cons (.raisE (.str [98, 105, 116, 115, 32, 100, 111, 32, 110, 111, 116, 32, 102, 105, 116])) .nil) .nil) .nil)))⟩
def g_check_polls : List D → R D := evF [] t_check_polls
-- bounds_of: 0 places, 1 spans, 2 least, 3 most, 4 second, 5 first, 6 bits
def B0_bounds_of : ISs := (.cons (.asg 6 (.op2 .sub (.op2 .ix (.var 0) (.var 4)) (.op2 .ix (.var 0) (.var 5))) []) (.cons (.app 2 (.tup (.cons (.neg (.op2 .div (.op2 .sub (.op2 .ix (.op2 .ix (.var 1) (.var 5)) (.int 1)) (.op2 .ix (.op2 .ix (.var 1) (.var 4)) (.int 0))) (.var 6))) (.cons (.var 5) (.cons (.var 4) .nil))))) (.cons (.app 3 (.tup (.cons (.op2 .div (.op2 .sub (.op2 .ix (.op2 .ix (.var 1) (.var 4)) (.int 1)) (.op2 .ix (.op2 .ix (.var 1) (.var 5)) (.int 0))) (.var 6)) (.cons (.var 5) (.cons (.var 4) .nil))))) .nil)))
@[simp] theorem u_B0_bounds_of {F : List (List D → R D)} {ρ : Env} : evSs F B0_bounds_of ρ = evSs F (.cons (.asg 6 (.op2 .sub (.op2 .ix (.var 0) (.var 4)) (.op2 .ix (.var 0) (.var 5))) []) (.cons (.app 2 (.tup (.cons (.neg (.op2 .div (.op2 .sub (.op2 .ix (.op2 .ix (.var 1) (.var 5)) (.int 1)) (.op2 .ix (.op2 .ix (.var 1) (.var 4)) (.int 0))) (.var 6))) (.cons (.var 5) (.cons (.var 4) .nil))))) (.cons (.app 3 (.tup (.cons (.op2 .div (.op2 .sub (.op2 .ix (.op2 .ix (.var 1) (.var 4)) (.int 1)) (.op2 .ix (.op2 .ix (.var 1) (.var 5)) (.int 0))) (.var 6)) (.cons (.var 5) (.cons (.var 4) .nil))))) .nil))) ρ := Eq.trans rfl rfl
def B1_bounds_of : ISs := (.cons (.forr (.rng (.cons (.var 4) .nil)) (.one 5) B0_bounds_of []) .nil)
@[simp] theorem u_B1_bounds_of {F : List (List D → R D)} {ρ : Env} : evSs F B1_bounds_of ρ = evSs F (.cons (.forr (.rng (.cons (.var 4) .nil)) (.one 5) B0_bounds_of []) .nil) ρ := Eq.trans rfl rfl
def t_bounds_of : Fn := ⟨2, 7, (.cons (.asgL 2 (.lst .nil) []) (.cons (.asgL 3 (.lst .nil) []) (.cons (.forr (.rng (.cons (.blt .len (.cons (.var 0) .nil)) .nil)) (.one 4) B1_bounds_of []) (.cons (.ret (.tup (.cons (.var 2) (.cons (.var 3) .nil))) [2, 3]) .nil))))⟩
def g_bounds_of : List D → R D := evF [] t_bounds_of
-- greatest_bound: 0 least, 1 best, 2 bound
def B0_greatest_bound : ISs := (.cons (.ite (.op2 .gt (.op2 .ix (.var 2) (.int 0)) (.op2 .ix (.var 1) (.int 0))) (.cons (.asg 1 (.var 2) []) .nil) .nil) .nil)
@[simp] theorem u_B0_greatest_bound {F : List (List D → R D)} {ρ : Env} : evSs F B0_greatest_bound ρ = evSs F (.cons (.ite (.op2 .gt (.op2 .ix (.var 2) (.int 0)) (.op2 .ix (.var 1) (.int 0))) (.cons (.asg 1 (.var 2) []) .nil) .nil) .nil) ρ := Eq.trans rfl rfl
def t_greatest_bound : Fn := ⟨1, 3, (.cons (.asg 1 (.op2 .ix (.var 0) (.int 0)) []) (.cons (.forr (.seq (.var 0)) (.one 2) B0_greatest_bound []) (.cons (.ret (.var 1) []) .nil)))⟩
def g_greatest_bound : List D → R D := evF [] t_greatest_bound
-- least_bound: 0 most, 1 best, 2 bound
def B0_least_bound : ISs := (.cons (.ite (.op2 .lt (.op2 .ix (.var 2) (.int 0)) (.op2 .ix (.var 1) (.int 0))) (.cons (.asg 1 (.var 2) []) .nil) .nil) .nil)
@[simp] theorem u_B0_least_bound {F : List (List D → R D)} {ρ : Env} : evSs F B0_least_bound ρ = evSs F (.cons (.ite (.op2 .lt (.op2 .ix (.var 2) (.int 0)) (.op2 .ix (.var 1) (.int 0))) (.cons (.asg 1 (.var 2) []) .nil) .nil) .nil) ρ := Eq.trans rfl rfl
def t_least_bound : Fn := ⟨1, 3, (.cons (.asg 1 (.op2 .ix (.var 0) (.int 0)) []) (.cons (.forr (.seq (.var 0)) (.one 2) B0_least_bound []) (.cons (.ret (.var 1) []) .nil)))⟩
def g_least_bound : List D → R D := evF [] t_least_bound
-- tightest: 0 receiver, 1 phase, 2 polls, 3 bits, 4 jitter, 5 least, 6 most
def t_tightest : Fn := ⟨5, 7, (.cons (.exprX (.call 0 (.cons (.var 2) (.cons (.var 3) .nil)))) (.cons (.ite (.op2 .lt (.blt .len (.cons (.var 2) .nil)) (.int 2)) (.cons (.raisE (.str [116, 111, 111, 32, 102, 101, 119, 32, 112, 111, 108, 108, 115])) .nil) .nil) (.cons (.unp [5, 6] (.call 1 (.cons (.call 2 (.cons (.var 3) .nil)) (.cons (.call 3 (.cons (.var 0) (.cons (.var 1) (.cons (.var 2) (.cons (.var 4) .nil))))) .nil))) []) (.cons (.ret (.tup (.cons (.call 4 (.cons (.var 5) .nil)) (.cons (.call 5 (.cons (.var 6) .nil)) .nil))) []) .nil))))⟩
def g_tightest : List D → R D := evF [P.g_check_polls, P.g_bounds_of, P.g_places_for, P.g_windows, P.g_greatest_bound, P.g_least_bound] t_tightest
-- measured: 0 receiver, 1 phase, 2 polls, 3 bits, 4 jitter, 5 least, 6 most, 7 low
def t_measured : Fn := ⟨5, 8, (.cons (.unpX [5, 6] (.call 0 (.cons (.var 0) (.cons (.var 1) (.cons (.var 2) (.cons (.var 3) (.cons (.var 4) .nil)))))) []) (.cons (.asg 7 (.blt .max (.cons (.int 1) (.cons (.op2 .ix (.var 5) (.int 0)) .nil))) []) (.cons (.ret (.ite (.op2 .le (.var 7) (.op2 .ix (.var 6) (.int 0))) (.tup (.cons (.var 7) (.cons (.op2 .ix (.var 6) (.int 0)) .nil))) .non) []) .nil)))⟩
def g_measured : List D → R D := evF [P.g_tightest] t_measured
-- _law_spans: 0 _law_receiver, 1 _law_phase, 2 _law_polls, 3 _law_jitter, 4 _law_poll, 5 _law_number
def E0__law_spans : IE := (.tup (.cons (.op2 .sub (.op2 .add (.op2 .add (.var 1) (.op2 .mul (.op2 .sub (.var 5) (.int 1)) (.var 4))) (.int 1)) (.var 3)) (.cons (.op2 .add (.op2 .add (.var 1) (.op2 .mul (.var 5) (.var 4))) (.var 3)) .nil)))
@[simp] theorem u_E0__law_spans {F : List (List D → R D)} {z : Nat → Bool} {ρ : Env} : evE F z ρ E0__law_spans = evE F z ρ (.tup (.cons (.op2 .sub (.op2 .add (.op2 .add (.var 1) (.op2 .mul (.op2 .sub (.var 5) (.int 1)) (.var 4))) (.int 1)) (.var 3)) (.cons (.op2 .add (.op2 .add (.var 1) (.op2 .mul (.var 5) (.var 4))) (.var 3)) .nil))) := Eq.trans rfl rfl
def t__law_spans : Fn := ⟨4, 6, (.cons (.asg 4 (.op2 .ix (.var 0) (.int 0)) []) (.cons (.ret (.comp (.seq (.var 2)) (.one 5) E0__law_spans [5]) []) .nil))⟩
def g__law_spans : List D → R D := evF [] t__law_spans
-- _law_places: 0 _law_bits, 1 _law_k
def E0__law_places : IE := (.blt .sum (.cons (.slice (.var 0) .non (.var 1)) .nil))
@[simp] theorem u_E0__law_places {F : List (List D → R D)} {z : Nat → Bool} {ρ : Env} : evE F z ρ E0__law_places = evE F z ρ (.blt .sum (.cons (.slice (.var 0) .non (.var 1)) .nil)) := Eq.trans rfl rfl
def t__law_places : Fn := ⟨1, 2, (.cons (.ret (.comp (.rng (.cons (.op2 .add (.blt .len (.cons (.var 0) .nil)) (.int 1)) .nil)) (.one 1) E0__law_places [1]) []) .nil)⟩
def g__law_places : List D → R D := evF [] t__law_places
-- _law_seen: 0 _law_script, 1 _law_at, 2 _law_draws_here, 3 _law_receiver, 4 _law_phase, 5 _law_jitter, 6 _law_bits, 7 _law_bit_time, 8 _law_polls, 9 _law_k, 10 _law_time, 11 _law_number
def E0__law_seen : IE := (.op2 .add (.int 1) (.op2 .mod (.op2 .ix (.var 2) (.op2 .add (.int 10) (.var 9))) (.int 4)))
@[simp] theorem u_E0__law_seen {F : List (List D → R D)} {z : Nat → Bool} {ρ : Env} : evE F z ρ E0__law_seen = evE F z ρ (.op2 .add (.int 1) (.op2 .mod (.op2 .ix (.var 2) (.op2 .add (.int 10) (.var 9))) (.int 4))) := Eq.trans rfl rfl
def B1__law_seen : ISs := (.cons (.asg 10 (.op2 .add (.op2 .add (.int 60) (.op2 .mod (.op2 .ix (.var 2) (.int 7)) (.int 50))) (.op2 .mul (.blt .sum (.cons (.slice (.var 6) .non (.var 9)) .nil)) (.var 7))) [6]) (.cons (.asg 10 (.op2 .add (.op2 .sub (.op2 .add (.var 10) (.op2 .mod (.op2 .ix (.var 2) (.op2 .add (.int 20) (.var 9))) (.op2 .add (.op2 .mul (.int 2) (.var 5)) (.int 1)))) (.var 5)) (.op2 .ix (.lst (.cons (.int 0) (.cons (.int 0) (.cons (.int 0) (.cons (.op2 .mod (.op2 .ix (.var 2) (.op2 .add (.int 30) (.var 9))) (.int 7)) .nil))))) (.op2 .mod (.op2 .ix (.var 2) (.int 8)) (.int 4)))) []) (.cons (.asg 11 (.op2 .div (.op2 .sub (.op2 .add (.op2 .sub (.var 10) (.var 4)) (.op2 .ix (.var 3) (.int 0))) (.int 1)) (.op2 .ix (.var 3) (.int 0))) []) (.cons (.app 8 (.blt .max (.cons (.var 11) (.cons (.ite (.var 8) (.op2 .add (.op2 .ix (.var 8) (.neg (.int 1))) (.int 1)) (.int 1)) .nil)))) .nil))))
@[simp] theorem u_B1__law_seen {F : List (List D → R D)} {ρ : Env} : evSs F B1__law_seen ρ = evSs F (.cons (.asg 10 (.op2 .add (.op2 .add (.int 60) (.op2 .mod (.op2 .ix (.var 2) (.int 7)) (.int 50))) (.op2 .mul (.blt .sum (.cons (.slice (.var 6) .non (.var 9)) .nil)) (.var 7))) [6]) (.cons (.asg 10 (.op2 .add (.op2 .sub (.op2 .add (.var 10) (.op2 .mod (.op2 .ix (.var 2) (.op2 .add (.int 20) (.var 9))) (.op2 .add (.op2 .mul (.int 2) (.var 5)) (.int 1)))) (.var 5)) (.op2 .ix (.lst (.cons (.int 0) (.cons (.int 0) (.cons (.int 0) (.cons (.op2 .mod (.op2 .ix (.var 2) (.op2 .add (.int 30) (.var 9))) (.int 7)) .nil))))) (.op2 .mod (.op2 .ix (.var 2) (.int 8)) (.int 4)))) []) (.cons (.asg 11 (.op2 .div (.op2 .sub (.op2 .add (.op2 .sub (.var 10) (.var 4)) (.op2 .ix (.var 3) (.int 0))) (.int 1)) (.op2 .ix (.var 3) (.int 0))) []) (.cons (.app 8 (.blt .max (.cons (.var 11) (.cons (.ite (.var 8) (.op2 .add (.op2 .ix (.var 8) (.neg (.int 1))) (.int 1)) (.int 1)) .nil)))) .nil)))) ρ := Eq.trans rfl rfl
def t__law_seen : Fn := ⟨2, 12, (.cons (.asg 2 (.call 0 (.cons (.call 1 (.cons (.var 0) (.cons (.var 1) .nil))) (.cons (.int 50) .nil))) []) (.cons (.asg 3 (.tup (.cons (.op2 .add (.int 1) (.op2 .mod (.op2 .ix (.var 2) (.int 0)) (.int 10))) (.cons (.op2 .add (.int 3) (.op2 .mod (.op2 .ix (.var 2) (.int 1)) (.int 30))) .nil))) []) (.cons (.asg 4 (.op2 .mod (.op2 .ix (.var 2) (.int 2)) (.op2 .ix (.var 3) (.int 0))) []) (.cons (.asg 5 (.op2 .ix (.lst (.cons (.int 0) (.cons (.op2 .mod (.op2 .ix (.var 2) (.int 3)) (.int 6)) (.cons (.op2 .mod (.op2 .ix (.var 2) (.int 3)) (.int 40)) .nil)))) (.op2 .mod (.op2 .ix (.var 2) (.int 4)) (.int 3))) []) (.cons (.asgL 6 (.comp (.rng (.cons (.op2 .add (.int 1) (.op2 .mod (.op2 .ix (.var 2) (.int 5)) (.int 6))) .nil)) (.one 9) E0__law_seen [9]) []) (.cons (.asg 7 (.op2 .add (.int 12) (.op2 .mod (.op2 .ix (.var 2) (.int 6)) (.int 90))) []) (.cons (.asgL 8 (.lst .nil) []) (.cons (.forr (.rng (.cons (.op2 .add (.blt .len (.cons (.var 6) .nil)) (.int 1)) .nil)) (.one 9) B1__law_seen [6]) (.cons (.ret (.tup (.cons (.var 3) (.cons (.var 4) (.cons (.var 8) (.cons (.var 6) (.cons (.var 5) .nil)))))) [8, 6]) .nil)))))))))⟩
def g__law_seen : List D → R D := evF [P.g__law_draws_1, P.g__law_cell] t__law_seen
-- stream_bits: 0 limit, 1 payloads, 2 idles, 3 found, 4 index, 5 payload
def B0_stream_bits : ISs := (.cons (.asg 3 (.op2 .add (.var 3) (.call 0 (.cons (.var 0) (.cons (.var 5) .nil)))) []) (.cons (.ite (.op2 .lt (.var 4) (.op2 .sub (.blt .len (.cons (.var 1) .nil)) (.int 1))) (.cons (.asg 3 (.op2 .add (.var 3) (.op2 .mul (.str [49]) (.op2 .ix (.var 2) (.var 4)))) []) .nil) .nil) .nil))
@[simp] theorem u_B0_stream_bits {F : List (List D → R D)} {ρ : Env} : evSs F B0_stream_bits ρ = evSs F (.cons (.asg 3 (.op2 .add (.var 3) (.call 0 (.cons (.var 0) (.cons (.var 5) .nil)))) []) (.cons (.ite (.op2 .lt (.var 4) (.op2 .sub (.blt .len (.cons (.var 1) .nil)) (.int 1))) (.cons (.asg 3 (.op2 .add (.var 3) (.op2 .mul (.str [49]) (.op2 .ix (.var 2) (.var 4)))) []) .nil) .nil) .nil)) ρ := Eq.trans rfl rfl
def t_stream_bits : Fn := ⟨3, 6, (.cons (.asg 3 (.str []) []) (.cons (.forr (.enm (.var 1)) (.many [4, 5]) B0_stream_bits []) (.cons (.ret (.var 3) []) .nil)))⟩
def g_stream_bits : List D → R D := evF [P.g_frame_bits] t_stream_bits
-- frame_places: 0 limit, 1 payloads, 2 idles, 3 found, 4 place, 5 index, 6 payload
def B0_frame_places : ISs := (.cons (.app 3 (.var 4)) (.cons (.asg 4 (.op2 .add (.op2 .add (.var 4) (.blt .len (.cons (.call 0 (.cons (.var 0) (.cons (.var 6) .nil))) .nil))) (.ite (.op2 .lt (.var 5) (.blt .len (.cons (.var 2) .nil))) (.op2 .ix (.var 2) (.var 5)) (.int 0))) []) .nil))
@[simp] theorem u_B0_frame_places {F : List (List D → R D)} {ρ : Env} : evSs F B0_frame_places ρ = evSs F (.cons (.app 3 (.var 4)) (.cons (.asg 4 (.op2 .add (.op2 .add (.var 4) (.blt .len (.cons (.call 0 (.cons (.var 0) (.cons (.var 6) .nil))) .nil))) (.ite (.op2 .lt (.var 5) (.blt .len (.cons (.var 2) .nil))) (.op2 .ix (.var 2) (.var 5)) (.int 0))) []) .nil)) ρ := Eq.trans rfl rfl
def t_frame_places : Fn := ⟨3, 7, (.cons (.asgL 3 (.lst .nil) []) (.cons (.asg 4 (.int 0) []) (.cons (.forr (.enm (.var 1)) (.many [5, 6]) B0_frame_places []) (.cons (.ret (.var 3) [3]) .nil))))⟩
def g_frame_places : List D → R D := evF [P.g_frame_bits] t_frame_places
-- _law_payloads: 0 _law_script, 1 _law_at, 2 _law_many, 3 _law_draws_here, 4 _law_k
def E0__law_payloads : IE := (.call 2 (.cons (.call 1 (.cons (.var 0) (.cons (.op2 .add (.op2 .add (.var 1) (.int 1)) (.var 4)) .nil))) (.cons (.int 12) .nil)))
@[simp] theorem u_E0__law_payloads {F : List (List D → R D)} {z : Nat → Bool} {ρ : Env} : evE F z ρ E0__law_payloads = evE F z ρ (.call 2 (.cons (.call 1 (.cons (.var 0) (.cons (.op2 .add (.op2 .add (.var 1) (.int 1)) (.var 4)) .nil))) (.cons (.int 12) .nil))) := Eq.trans rfl rfl
def t__law_payloads : Fn := ⟨3, 5, (.cons (.asg 3 (.call 0 (.cons (.call 1 (.cons (.var 0) (.cons (.var 1) .nil))) (.cons (.int 8) .nil))) []) (.cons (.ret (.comp (.rng (.cons (.op2 .add (.int 1) (.op2 .mod (.op2 .ix (.var 3) (.int 0)) (.var 2))) .nil)) (.one 4) E0__law_payloads [4]) []) .nil))⟩
def g__law_payloads : List D → R D := evF [P.g__law_draws_1, P.g__law_cell, P.g__law_payload] t__law_payloads
-- _law_stream: 0 _law_limit, 1 _law_payloads_here, 2 _law_idles, 3 _law_bits, 4 _law_k
def B0__law_stream : ISs := (.cons (.asg 3 (.op2 .add (.op2 .add (.var 3) (.call 0 (.cons (.var 0) (.cons (.op2 .ix (.var 1) (.var 4)) .nil)))) (.ite (.op2 .lt (.var 4) (.blt .len (.cons (.var 2) .nil))) (.op2 .mul (.str [49]) (.op2 .ix (.var 2) (.var 4))) (.str []))) []) .nil)
@[simp] theorem u_B0__law_stream {F : List (List D → R D)} {ρ : Env} : evSs F B0__law_stream ρ = evSs F (.cons (.asg 3 (.op2 .add (.op2 .add (.var 3) (.call 0 (.cons (.var 0) (.cons (.op2 .ix (.var 1) (.var 4)) .nil)))) (.ite (.op2 .lt (.var 4) (.blt .len (.cons (.var 2) .nil))) (.op2 .mul (.str [49]) (.op2 .ix (.var 2) (.var 4))) (.str []))) []) .nil) ρ := Eq.trans rfl rfl
def t__law_stream : Fn := ⟨3, 5, (.cons (.asg 3 (.str []) []) (.cons (.forr (.rng (.cons (.blt .len (.cons (.var 1) .nil)) .nil)) (.one 4) B0__law_stream []) (.cons (.ret (.var 3) []) .nil)))⟩
def g__law_stream : List D → R D := evF [P.g__law_frame] t__law_stream
-- hop_of: 0 line, 1 entry
def t_hop_of_1 : Fn := ⟨2, 2, (.cons (.ret (.tup (.cons (.op2 .ix (.var 0) (.int 0)) (.cons (.op2 .ix (.var 0) (.int 1)) (.cons (.op2 .ix (.var 0) (.int 2)) (.cons (.op2 .ix (.var 1) (.int 0)) (.cons (.op2 .ix (.var 1) (.int 1)) .nil)))))) []) .nil)⟩
def g_hop_of_1 : List D → R D := evF [] t_hop_of_1
-- fitting: 0 limit, 1 line, 2 catalogue, 3 index, 4 entry
def E0_fitting : IE := (.var 3)
@[simp] theorem u_E0_fitting {F : List (List D → R D)} {z : Nat → Bool} {ρ : Env} : evE F z ρ E0_fitting = evE F z ρ (.var 3) := Eq.trans rfl rfl
def C1_fitting : IE := (.call 0 (.cons (.var 0) (.cons (.call 1 (.cons (.var 1) (.cons (.var 4) .nil))) .nil)))
@[simp] theorem u_C1_fitting {F : List (List D → R D)} {z : Nat → Bool} {ρ : Env} : evE F z ρ C1_fitting = evE F z ρ (.call 0 (.cons (.var 0) (.cons (.call 1 (.cons (.var 1) (.cons (.var 4) .nil))) .nil))) := Eq.trans rfl rfl
def t_fitting : Fn := ⟨3, 5, (.cons (.ret (.compIf (.enm (.var 2)) (.many [3, 4]) C1_fitting E0_fitting [3, 4]) []) .nil)⟩
def g_fitting : List D → R D := evF [P.g_is_safe, P.g_hop_of_1] t_fitting
-- delay_of: 0 limit, 1 payload_most, 2 lines, 3 at, 4 entry, 5 later
def t_delay_of_1 : Fn := ⟨5, 6, (.cons (.ite (.op2 .eq (.var 3) (.op2 .sub (.blt .len (.cons (.var 2) .nil)) (.int 1))) (.cons (.ret (.int 0) []) .nil) .nil) (.cons (.asg 5 (.call 0 (.cons (.op2 .ix (.var 2) (.op2 .add (.var 3) (.int 1))) (.cons (.var 4) .nil))) []) (.cons (.retX (.call 1 (.cons (.var 0) (.cons (.var 1) (.cons (.call 0 (.cons (.op2 .ix (.var 2) (.var 3)) (.cons (.var 4) .nil))) (.cons (.var 5) .nil))))) []) .nil)))⟩
def g_delay_of_1 : List D → R D := evF [P.g_hop_of_1, P.g_least_delay] t_delay_of_1
-- best_entry: 0 limit, 1 payload_most, 2 lines, 3 at, 4 catalogue, 5 price, 6 best, 7 index, 8 delay, 9 cost
def B0_best_entry : ISs := (.cons (.asgX 8 (.call 1 (.cons (.var 0) (.cons (.var 1) (.cons (.var 2) (.cons (.var 3) (.cons (.op2 .ix (.var 4) (.var 7)) .nil)))))) []) (.cons (.asg 9 (.op2 .add (.op2 .ix (.op2 .ix (.var 4) (.var 7)) (.int 2)) (.op2 .mul (.var 5) (.var 8))) []) (.cons (.ite (.or (.isN (.var 6)) (.op2 .lt (.var 9) (.op2 .ix (.var 6) (.int 0)))) (.cons (.asg 6 (.tup (.cons (.var 9) (.cons (.var 7) (.cons (.var 8) .nil)))) []) .nil) .nil) .nil)))
@[simp] theorem u_B0_best_entry {F : List (List D → R D)} {ρ : Env} : evSs F B0_best_entry ρ = evSs F (.cons (.asgX 8 (.call 1 (.cons (.var 0) (.cons (.var 1) (.cons (.var 2) (.cons (.var 3) (.cons (.op2 .ix (.var 4) (.var 7)) .nil)))))) []) (.cons (.asg 9 (.op2 .add (.op2 .ix (.op2 .ix (.var 4) (.var 7)) (.int 2)) (.op2 .mul (.var 5) (.var 8))) []) (.cons (.ite (.or (.isN (.var 6)) (.op2 .lt (.var 9) (.op2 .ix (.var 6) (.int 0)))) (.cons (.asg 6 (.tup (.cons (.var 9) (.cons (.var 7) (.cons (.var 8) .nil)))) []) .nil) .nil) .nil))) ρ := Eq.trans rfl rfl
def t_best_entry : Fn := ⟨6, 10, (.cons (.asg 6 .non []) (.cons (.forr (.seq (.call 0 (.cons (.var 0) (.cons (.op2 .ix (.var 2) (.var 3)) (.cons (.var 4) .nil))))) (.one 7) B0_best_entry []) (.cons (.ret (.var 6) []) .nil)))⟩
def g_best_entry : List D → R D := evF [P.g_fitting, P.g_delay_of_1] t_best_entry
-- cheapest: 0 limit, 1 payload_most, 2 lines, 3 catalogue, 4 price, 5 found, 6 at, 7 best, 8 cost
def B0_cheapest : ISs := (.cons (.asgX 7 (.call 0 (.cons (.var 0) (.cons (.var 1) (.cons (.var 2) (.cons (.var 6) (.cons (.var 3) (.cons (.var 4) .nil))))))) []) (.cons (.ite (.isN (.var 7)) (.cons (.ret .non []) .nil) .nil) (.cons (.app 5 (.var 7)) .nil)))
@[simp] theorem u_B0_cheapest {F : List (List D → R D)} {ρ : Env} : evSs F B0_cheapest ρ = evSs F (.cons (.asgX 7 (.call 0 (.cons (.var 0) (.cons (.var 1) (.cons (.var 2) (.cons (.var 6) (.cons (.var 3) (.cons (.var 4) .nil))))))) []) (.cons (.ite (.isN (.var 7)) (.cons (.ret .non []) .nil) .nil) (.cons (.app 5 (.var 7)) .nil))) ρ := Eq.trans rfl rfl
def E1_cheapest : IE := (.op2 .ix (.var 7) (.int 0))
@[simp] theorem u_E1_cheapest {F : List (List D → R D)} {z : Nat → Bool} {ρ : Env} : evE F z ρ E1_cheapest = evE F z ρ (.op2 .ix (.var 7) (.int 0)) := Eq.trans rfl rfl
def E2_cheapest : IE := (.op2 .ix (.var 7) (.int 1))
@[simp] theorem u_E2_cheapest {F : List (List D → R D)} {z : Nat → Bool} {ρ : Env} : evE F z ρ E2_cheapest = evE F z ρ (.op2 .ix (.var 7) (.int 1)) := Eq.trans rfl rfl
def E3_cheapest : IE := (.op2 .ix (.var 7) (.int 2))
@[simp] theorem u_E3_cheapest {F : List (List D → R D)} {z : Nat → Bool} {ρ : Env} : evE F z ρ E3_cheapest = evE F z ρ (.op2 .ix (.var 7) (.int 2)) := Eq.trans rfl rfl
def t_cheapest : Fn := ⟨5, 9, (.cons (.asgL 5 (.lst .nil) []) (.cons (.forr (.rng (.cons (.blt .len (.cons (.var 2) .nil)) .nil)) (.one 6) B0_cheapest []) (.cons (.asg 8 (.blt .sum (.cons (.comp (.seq (.var 5)) (.one 7) E1_cheapest [7]) .nil)) [5]) (.cons (.ret (.tup (.cons (.var 8) (.cons (.comp (.seq (.var 5)) (.one 7) E2_cheapest [7]) (.cons (.comp (.seq (.slice (.var 5) .non (.neg (.int 1)))) (.one 7) E3_cheapest [7]) .nil)))) [5]) .nil))))⟩
def g_cheapest : List D → R D := evF [P.g_best_entry] t_cheapest
-- chain_of: 0 limit, 1 payload_most, 2 lines, 3 catalogue, 4 numbers, 5 hops, 6 delays, 7 at, 8 number
def B0_chain_of : ISs := (.cons (.ite (.op2 .notin (.var 8) (.call 0 (.cons (.var 0) (.cons (.op2 .ix (.var 2) (.var 7)) (.cons (.var 3) .nil))))) (.cons (.raisE (.fstr (.cons (.str [104, 111, 112, 32]) (.cons (.fmt (.var 7)) (.cons (.str [32, 105, 115, 32, 110, 111, 116, 32, 115, 97, 102, 101]) .nil))))) .nil) .nil) (.cons (.app 5 (.call 1 (.cons (.op2 .ix (.var 2) (.var 7)) (.cons (.op2 .ix (.var 3) (.var 8)) .nil)))) (.cons (.appX 6 (.call 2 (.cons (.var 0) (.cons (.var 1) (.cons (.var 2) (.cons (.var 7) (.cons (.op2 .ix (.var 3) (.var 8)) .nil))))))) .nil)))
@[simp] theorem u_B0_chain_of {F : List (List D → R D)} {ρ : Env} : evSs F B0_chain_of ρ = evSs F (.cons (.ite (.op2 .notin (.var 8) (.call 0 (.cons (.var 0) (.cons (.op2 .ix (.var 2) (.var 7)) (.cons (.var 3) .nil))))) (.cons (.raisE (.fstr (.cons (.str [104, 111, 112, 32]) (.cons (.fmt (.var 7)) (.cons (.str [32, 105, 115, 32, 110, 111, 116, 32, 115, 97, 102, 101]) .nil))))) .nil) .nil) (.cons (.app 5 (.call 1 (.cons (.op2 .ix (.var 2) (.var 7)) (.cons (.op2 .ix (.var 3) (.var 8)) .nil)))) (.cons (.appX 6 (.call 2 (.cons (.var 0) (.cons (.var 1) (.cons (.var 2) (.cons (.var 7) (.cons (.op2 .ix (.var 3) (.var 8)) .nil))))))) .nil))) ρ := Eq.trans rfl rfl
def t_chain_of : Fn := ⟨5, 9, (.cons (.asgL 5 (.lst .nil) []) (.cons (.asgL 6 (.lst .nil) []) (.cons (.forr (.enm (.var 4)) (.many [7, 8]) B0_chain_of []) (.cons (.ret (.tup (.cons (.var 0) (.cons (.var 1) (.cons (.blt .tuple (.cons (.var 5) .nil)) (.cons (.blt .tuple (.cons (.slice (.var 6) .non (.neg (.int 1))) .nil)) .nil))))) [5, 6]) .nil))))⟩
def g_chain_of : List D → R D := evF [P.g_fitting, P.g_hop_of_1, P.g_delay_of_1] t_chain_of
-- choices: 0 limit, 1 lines, 2 catalogue, 3 found, 4 line, 5 numbers, 6 chosen, 7 number
def C0_choices : IE := (.var 5)
@[simp] theorem u_C0_choices {F : List (List D → R D)} {z : Nat → Bool} {ρ : Env} : evE F z ρ C0_choices = evE F z ρ (.var 5) := Eq.trans rfl rfl
def E1_choices : IE := (.op2 .add (.var 6) (.lst (.cons (.var 7) .nil)))
@[simp] theorem u_E1_choices {F : List (List D → R D)} {z : Nat → Bool} {ρ : Env} : evE F z ρ E1_choices = evE F z ρ (.op2 .add (.var 6) (.lst (.cons (.var 7) .nil))) := Eq.trans rfl rfl
def B2_choices : ISs := (.cons (.asg 5 (.call 0 (.cons (.var 0) (.cons (.var 4) (.cons (.var 2) .nil)))) []) (.cons (.asgL 3 (.comp2 (.seq (.var 3)) 6 C0_choices 7 E1_choices [6, 7]) [3]) .nil))
@[simp] theorem u_B2_choices {F : List (List D → R D)} {ρ : Env} : evSs F B2_choices ρ = evSs F (.cons (.asg 5 (.call 0 (.cons (.var 0) (.cons (.var 4) (.cons (.var 2) .nil)))) []) (.cons (.asgL 3 (.comp2 (.seq (.var 3)) 6 C0_choices 7 E1_choices [6, 7]) [3]) .nil)) ρ := Eq.trans rfl rfl
def t_choices : Fn := ⟨3, 8, (.cons (.asg 3 (.lst (.cons (.lst .nil) .nil)) []) (.cons (.forr (.seq (.var 1)) (.one 4) B2_choices []) (.cons (.ret (.var 3) [3]) .nil)))⟩
def g_choices : List D → R D := evF [P.g_fitting] t_choices
-- _law_lines: 0 _law_script, 1 _law_at, 2 _law_most_lines, 3 _law_most_entries, 4 _law_draws_here, 5 _law_limit, 6 _law_lines_here, 7 _law_k, 8 _law_entries, 9 _law_other, 10 _law_poll
def B0__law_lines : ISs := (.cons (.app 6 (.slice (.call 2 (.cons (.call 1 (.cons (.var 0) (.cons (.op2 .add (.op2 .add (.var 1) (.int 1)) (.var 7)) .nil))) (.cons (.var 5) .nil))) .non (.int 3))) .nil)
@[simp] theorem u_B0__law_lines {F : List (List D → R D)} {ρ : Env} : evSs F B0__law_lines ρ = evSs F (.cons (.app 6 (.slice (.call 2 (.cons (.call 1 (.cons (.var 0) (.cons (.op2 .add (.op2 .add (.var 1) (.int 1)) (.var 7)) .nil))) (.cons (.var 5) .nil))) .non (.int 3))) .nil) ρ := Eq.trans rfl rfl
def B1__law_lines : ISs := (.cons (.asg 9 (.call 2 (.cons (.call 1 (.cons (.var 0) (.cons (.op2 .add (.op2 .add (.var 1) (.int 1)) (.op2 .mod (.var 7) (.blt .len (.cons (.var 6) .nil)))) .nil))) (.cons (.var 5) .nil))) [6]) (.cons (.asg 10 (.blt .max (.cons (.int 1) (.cons (.blt .min (.cons (.int 50) (.cons (.op2 .add (.op2 .ix (.var 9) (.int 3)) (.op2 .ix (.lst (.cons (.int 0) (.cons (.int 0) (.cons (.int 1) (.cons (.neg (.int 1)) .nil))))) (.op2 .mod (.op2 .ix (.var 4) (.op2 .add (.int 4) (.var 7))) (.int 4)))) .nil))) .nil))) []) (.cons (.app 8 (.tup (.cons (.var 10) (.cons (.op2 .ix (.var 9) (.int 4)) (.cons (.op2 .ix (.lst (.cons (.int 0) (.cons (.int 1) (.cons (.int 7) (.cons (.op2 .mod (.op2 .ix (.var 4) (.op2 .add (.int 12) (.var 7))) (.int 1001)) .nil))))) (.op2 .mod (.op2 .ix (.var 4) (.op2 .add (.int 20) (.var 7))) (.int 4))) .nil))))) .nil)))
@[simp] theorem u_B1__law_lines {F : List (List D → R D)} {ρ : Env} : evSs F B1__law_lines ρ = evSs F (.cons (.asg 9 (.call 2 (.cons (.call 1 (.cons (.var 0) (.cons (.op2 .add (.op2 .add (.var 1) (.int 1)) (.op2 .mod (.var 7) (.blt .len (.cons (.var 6) .nil)))) .nil))) (.cons (.var 5) .nil))) [6]) (.cons (.asg 10 (.blt .max (.cons (.int 1) (.cons (.blt .min (.cons (.int 50) (.cons (.op2 .add (.op2 .ix (.var 9) (.int 3)) (.op2 .ix (.lst (.cons (.int 0) (.cons (.int 0) (.cons (.int 1) (.cons (.neg (.int 1)) .nil))))) (.op2 .mod (.op2 .ix (.var 4) (.op2 .add (.int 4) (.var 7))) (.int 4)))) .nil))) .nil))) []) (.cons (.app 8 (.tup (.cons (.var 10) (.cons (.op2 .ix (.var 9) (.int 4)) (.cons (.op2 .ix (.lst (.cons (.int 0) (.cons (.int 1) (.cons (.int 7) (.cons (.op2 .mod (.op2 .ix (.var 4) (.op2 .add (.int 12) (.var 7))) (.int 1001)) .nil))))) (.op2 .mod (.op2 .ix (.var 4) (.op2 .add (.int 20) (.var 7))) (.int 4))) .nil))))) .nil))) ρ := Eq.trans rfl rfl
def t__law_lines : Fn := ⟨4, 11, (.cons (.asg 4 (.call 0 (.cons (.call 1 (.cons (.var 0) (.cons (.var 1) .nil))) (.cons (.int 30) .nil))) []) (.cons (.asg 5 (.op2 .add (.int 2) (.op2 .mod (.op2 .ix (.var 4) (.int 0)) (.int 6))) []) (.cons (.asgL 6 (.lst .nil) []) (.cons (.forr (.rng (.cons (.op2 .add (.int 1) (.op2 .mod (.op2 .ix (.var 4) (.int 1)) (.var 2))) .nil)) (.one 7) B0__law_lines []) (.cons (.asgL 8 (.lst .nil) []) (.cons (.forr (.rng (.cons (.op2 .add (.int 1) (.op2 .mod (.op2 .ix (.var 4) (.int 2)) (.var 3))) .nil)) (.one 7) B1__law_lines []) (.cons (.ret (.tup (.cons (.var 5) (.cons (.blt .tuple (.cons (.var 6) .nil)) (.cons (.blt .tuple (.cons (.var 8) .nil)) .nil)))) [6, 8]) .nil)))))))⟩
def g__law_lines : List D → R D := evF [P.g__law_draws_1, P.g__law_cell, P.g__law_hop] t__law_lines
-- _law_all_choices: 0 _law_limit, 1 _law_lines_here, 2 _law_entries, 3 _law_found, 4 _law_line, 5 _law_fit, 6 _law_longer, 7 _law_chosen, 8 _law_k
def E0__law_all_choices : IE := (.var 8)
@[simp] theorem u_E0__law_all_choices {F : List (List D → R D)} {z : Nat → Bool} {ρ : Env} : evE F z ρ E0__law_all_choices = evE F z ρ (.var 8) := Eq.trans rfl rfl
def C1__law_all_choices : IE := (.call 0 (.cons (.var 0) (.cons (.op2 .add (.var 4) (.slice (.op2 .ix (.var 2) (.var 8)) .non (.int 2))) .nil)))
@[simp] theorem u_C1__law_all_choices {F : List (List D → R D)} {z : Nat → Bool} {ρ : Env} : evE F z ρ C1__law_all_choices = evE F z ρ (.call 0 (.cons (.var 0) (.cons (.op2 .add (.var 4) (.slice (.op2 .ix (.var 2) (.var 8)) .non (.int 2))) .nil))) := Eq.trans rfl rfl
def E2__law_all_choices : IE := (.op2 .add (.var 7) (.lst (.cons (.var 8) .nil)))
@[simp] theorem u_E2__law_all_choices {F : List (List D → R D)} {z : Nat → Bool} {ρ : Env} : evE F z ρ E2__law_all_choices = evE F z ρ (.op2 .add (.var 7) (.lst (.cons (.var 8) .nil))) := Eq.trans rfl rfl
def B3__law_all_choices : ISs := (.cons (.asg 6 (.op2 .add (.var 6) (.comp (.seq (.var 5)) (.one 8) E2__law_all_choices [8])) [5]) .nil)
@[simp] theorem u_B3__law_all_choices {F : List (List D → R D)} {ρ : Env} : evSs F B3__law_all_choices ρ = evSs F (.cons (.asg 6 (.op2 .add (.var 6) (.comp (.seq (.var 5)) (.one 8) E2__law_all_choices [8])) [5]) .nil) ρ := Eq.trans rfl rfl
def B4__law_all_choices : ISs := (.cons (.asgL 5 (.compIf (.rng (.cons (.blt .len (.cons (.var 2) .nil)) .nil)) (.one 8) C1__law_all_choices E0__law_all_choices [8]) []) (.cons (.asg 6 (.lst .nil) []) (.cons (.forr (.seq (.var 3)) (.one 7) B3__law_all_choices []) (.cons (.asg 3 (.var 6) []) .nil))))
@[simp] theorem u_B4__law_all_choices {F : List (List D → R D)} {ρ : Env} : evSs F B4__law_all_choices ρ = evSs F (.cons (.asgL 5 (.compIf (.rng (.cons (.blt .len (.cons (.var 2) .nil)) .nil)) (.one 8) C1__law_all_choices E0__law_all_choices [8]) []) (.cons (.asg 6 (.lst .nil) []) (.cons (.forr (.seq (.var 3)) (.one 7) B3__law_all_choices []) (.cons (.asg 3 (.var 6) []) .nil)))) ρ := Eq.trans rfl rfl
def t__law_all_choices : Fn := ⟨3, 9, (.cons (.asg 3 (.lst (.cons (.lst .nil) .nil)) []) (.cons (.forr (.seq (.var 1)) (.one 4) B4__law_all_choices []) (.cons (.ret (.var 3) []) .nil)))⟩
def g__law_all_choices : List D → R D := evF [P.g__law_is_safe] t__law_all_choices
-- _law_hops: 0 _law_lines_here, 1 _law_entries, 2 _law_chosen, 3 _law_k
def E0__law_hops : IE := (.op2 .add (.op2 .ix (.var 0) (.var 3)) (.slice (.op2 .ix (.var 1) (.op2 .ix (.var 2) (.var 3))) .non (.int 2)))
@[simp] theorem u_E0__law_hops {F : List (List D → R D)} {z : Nat → Bool} {ρ : Env} : evE F z ρ E0__law_hops = evE F z ρ (.op2 .add (.op2 .ix (.var 0) (.var 3)) (.slice (.op2 .ix (.var 1) (.op2 .ix (.var 2) (.var 3))) .non (.int 2))) := Eq.trans rfl rfl
def t__law_hops : Fn := ⟨3, 4, (.cons (.ret (.comp (.rng (.cons (.blt .len (.cons (.var 0) .nil)) .nil)) (.one 3) E0__law_hops [3]) []) .nil)⟩
def g__law_hops : List D → R D := evF [] t__law_hops
-- _law_delays: 0 _law_limit, 1 _law_most, 2 _law_hops_here, 3 _law_k
def E0__law_delays : IE := (.call 0 (.cons (.var 0) (.cons (.var 1) (.cons (.op2 .ix (.var 2) (.var 3)) (.cons (.op2 .ix (.var 2) (.op2 .add (.var 3) (.int 1))) .nil)))))
@[simp] theorem u_E0__law_delays {F : List (List D → R D)} {z : Nat → Bool} {ρ : Env} : evE F z ρ E0__law_delays = evE F z ρ (.call 0 (.cons (.var 0) (.cons (.var 1) (.cons (.op2 .ix (.var 2) (.var 3)) (.cons (.op2 .ix (.var 2) (.op2 .add (.var 3) (.int 1))) .nil))))) := Eq.trans rfl rfl
def t__law_delays : Fn := ⟨3, 4, (.cons (.ret (.comp (.rng (.cons (.op2 .sub (.blt .len (.cons (.var 2) .nil)) (.int 1)) .nil)) (.one 3) E0__law_delays [3]) []) .nil)⟩
def g__law_delays : List D → R D := evF [P.g__law_least_delay] t__law_delays
end P

end
section
/-! EvM: the hand proof of Counter. -/
namespace ExM
open PySem PySem.Spec PyProof.Rows L2 Pv
variable [Tabs]
/-- what the walk asks of the class -/
structure CTxt (K : PySem.W.Frag) : Prop where
  cl : Cls K Tabs.cc
  nL : NoAttr K Tabs.cc "limit"
  nK : NoAttr K Tabs.cc "known"
omit [Tabs] in
theorem nLK : ¬ (("limit" : Str) = "known") := by decide +kernel
section
variable {L : Int} {d : Addr}
omit [Tabs] in
theorem cput1 : putF "limit" (.int L) [] = [(("limit" : Str), V.int L)] := rfl
omit [Tabs] in
theorem cput2 : putF "known" (.ref d) [(("limit" : Str), V.int L)] = cfs L d := by
  show (if ("limit" : Str) = "known" then _ else (("limit" : Str), V.int L) :: [(("known" : Str), V.ref d)]) = _
  rw [if_neg nLK]; rfl
omit [Tabs] in
theorem cget1 : (cfs L d).lookup ("limit" : Str) = some (.int L) := by
  rw [← cput2, ← cput1, lookup_putF, if_neg (by decide +kernel), lookup_putF, if_pos rfl]
omit [Tabs] in
theorem cget2 : (cfs L d).lookup ("known" : Str) = some (.ref d) := by
  rw [← cput2, lookup_putF, if_pos rfl]
end
/-! ### what is known -/
abbrev kk (l r z : Nat) : List Key := [.inl (l : Int), .inl (r : Int), .inl (z : Int)]
omit [Tabs] in
theorem kk_inj {l r z l' r' z' : Nat} (h : kk l r z = kk l' r' z') : l = l' ∧ r = r' ∧ z = z' := by
  unfold kk at h
  simp only [List.cons.injEq, Sum.inl.injEq, and_true] at h
  omega
omit [Tabs] in
theorem Mem.get {L : Int} {ks : List (List Key × V)} (m : Mem L ks) {l r z : Nat} {v : V} (h : valV ks (kk l r z) = some v) : v = .int (cntN L l r z) := by
  unfold valV at h
  cases q : ks.find? fun kv => decide (kv.1 = kk l r z) with
  | none => rw [q] at h; cases h
  | some p =>
    rw [q] at h
    cases h
    have e : p.1 = kk l r z := by simpa using List.find?_some q
    obtain ⟨l', r', z', e1, _, _, _, e2⟩ := m.2 p (List.mem_of_find?_eq_some q)
    obtain ⟨rfl, rfl, rfl⟩ := kk_inj (e.symm.trans e1)
    exact e2
omit [Tabs] in
theorem Mem.put {L : Int} {ks : List (List Key × V)} (m : Mem L ks) {l r z : Nat} (hl : l ≤ 100) (hr : r ≤ 100) (hz : z ≤ 100) : Mem L (putK ks (kk l r z) (.int (cntN L l r z))) := by
  cases h : valV ks (kk l r z) with
  | none =>
    refine ⟨nd_putK _ m.1 h, fun p hp => ?_⟩
    rw [putK_new _ h] at hp
    rcases List.mem_append.mp hp with hp | hp
    · exact m.2 p hp
    · rw [List.mem_singleton.mp hp]
      exact ⟨l, r, z, rfl, hl, hr, hz, rfl⟩
  | some v =>
    have e : putK ks (kk l r z) (.int (cntN L l r z)) = ks := by
      unfold putK
      rw [if_pos (by rw [valV_any, h]; rfl)]
      refine (List.map_congr_left fun p hp => ?_).trans (List.map_id ks)
      split
      · rename_i q
        obtain ⟨l', r', z', e1, _, _, _, e2⟩ := m.2 p hp
        obtain ⟨rfl, rfl, rfl⟩ := kk_inj (q.symm.trans e1)
        exact Prod.ext rfl e2.symm
      · rfl
    rw [e]; exact m
omit [Tabs] in
theorem nd_lt : ∀ (N : Nat) (l : List Nat), l.Nodup → (∀ x ∈ l, x < N) → l.length ≤ N
  | 0, l, _, h => by
    cases l with
    | nil => simp
    | cons x l => exact absurd (h x (by simp)) (by omega)
  | N + 1, l, nd, h => by
    by_cases c : N ∈ l
    · have e := List.length_erase_of_mem c
      have ih := nd_lt N (l.erase N) (nd.erase N) fun x hx => by
        have h1 := (nd.mem_erase_iff).mp hx
        have := h x h1.2
        omega
      have p : 0 < l.length := List.length_pos_of_mem c
      omega
    · have ih := nd_lt N l nd fun x hx => by
        have := h x hx
        have : x ≠ N := fun e => c (e ▸ hx)
        omega
      omega
def code : List Key → Nat
  | [.inl l, .inl r, .inl z] => (l.toNat * 101 + r.toNat) * 101 + z.toNat
  | _ => 0
omit [Tabs] in
theorem Mem.len {L : Int} {ks : List (List Key × V)} (m : Mem L ks) : ks.length < 16777216 := by
  have c : ∀ l r z : Nat, code (kk l r z) = (l * 101 + r) * 101 + z := fun l r z => by
    show ((l : Int).toNat * 101 + (r : Int).toNat) * 101 + (z : Int).toNat = _
    simp
  have key : ∀ ks : List (List Key × V), Mem L ks → ((ks.map (·.1)).map code).Nodup ∧ ∀ x ∈ (ks.map (·.1)).map code, x < 1030301 := by
    intro ks
    induction ks with
    | nil => intro _; exact ⟨List.nodup_nil, fun x hx => by cases hx⟩
    | cons p ks ih =>
      intro m
      obtain ⟨nd, mm⟩ := m
      rw [List.map_cons, List.nodup_cons] at nd
      obtain ⟨i1, i2⟩ := ih ⟨nd.2, fun q hq => mm q (by simp [hq])⟩
      obtain ⟨l, r, z, e1, b1, b2, b3, _⟩ := mm p (by simp)
      rw [List.map_cons, List.map_cons]
      refine ⟨List.nodup_cons.mpr ⟨fun hx => ?_, i1⟩, fun x hx => ?_⟩
      · obtain ⟨k, hk, ek⟩ := List.mem_map.mp hx
        obtain ⟨q, hq, eq⟩ := List.mem_map.mp hk
        obtain ⟨l', r', z', f1, c1, c2, c3, _⟩ := mm q (by simp [hq])
        rw [← eq, f1, e1] at ek
        have ek : code (kk l' r' z') = code (kk l r z) := ek
        rw [c, c] at ek
        have : l' = l ∧ r' = r ∧ z' = z := by omega
        obtain ⟨rfl, rfl, rfl⟩ := this
        refine nd.1 ?_
        rw [e1, ← f1, ← eq] at *
        exact List.mem_map.mpr ⟨q, hq, eq⟩
      · rcases List.mem_cons.mp hx with rfl | hx
        · rw [e1]
          show code (kk l r z) < _
          rw [c]; omega
        · exact i2 x hx
  obtain ⟨k1, k2⟩ := key ks m
  have := nd_lt 1030301 _ k1 k2
  simp at this
  omega
omit [Tabs] in
theorem cntN_neg {L : Int} : ∀ (l : Nat) {r z : Int}, z < 0 → cntN L l r z = 0
  | 0, r, z, h => by rw [cntN, if_neg (by omega)]
  | l + 1, r, z, h => by rw [cntN, if_pos h]
section
variable {K : PySem.W.Frag} {G H G' H' G0 H0 : Hp}
/-- one more count is known -/
theorem memo_step (e : Ex G H) {d : Addr} {ks ks' : List (List Key × V)} (h : H d = some (.dT ks)) (hM : Mem Tabs.lim ks → Mem Tabs.lim ks') : Step G H G (upd H d (.dT ks')) := by
  have hh : Ex H (upd H d (.dT ks')) := fun a o ha => by
    by_cases c : a = d
    · subst c; rw [h] at ha; cases ha; exact .inr (.inr ⟨ks, ks', rfl, upd_same, hM⟩)
    · exact .inl (by rw [upd_ne c]; exact ha)
  exact ⟨Ex.refl G, e.trans hh, hh, fun _ _ _ n => n⟩
/-! ### __init__ -/
def tCI (K : PySem.W.Frag) : TS := tSeq (sFld K (tVar 0) (tVar 1) "limit") (sFld K (tVar 0) tDNewT "known")
theorem init_ok (T : CTxt K) {vs : List V} {Q : VK} {E : XK} {D : Ends} (h : spCI vs H Q E) (hq : ∀ σ H', Q .non H' → D.nx σ H') : tCI K D (L2.start ["self", "limit"] vs) H := by
  obtain ⟨p, dx, L, rfl, hp, k⟩ := h
  refine ⟨_, rfl, _, rfl, p, Tabs.cc, dx, [], rfl, hp, T.cl, T.nL, (by show 0 < 1000; decide), ?_⟩
  intro d hd
  have e1 : p ≠ d := fun z => by rw [z, upd_same] at hd; cases hd
  have hd' : H d = none := by rw [upd_ne e1.symm] at hd; exact hd
  refine ⟨_, rfl, p, Tabs.cc, dx, _, rfl, (by rw [upd_ne e1]; exact upd_same), T.cl, T.nK, (by show 1 < 1000; decide), ?_⟩
  refine hq _ _ (k d _ hd' e1.symm ?_ ?_ fun b o eb nb => ?_)
  · exact Eq.trans upd_same (congrArg (fun l => some (HO.ins Tabs.cc dx l)) (by rw [cput1, cput2]))
  · rw [upd_ne e1.symm]; exact upd_same
  · rw [upd_ne nb, upd_ne (ne_of_none eb hd'), upd_ne nb]; exact eb
/-! ### behind -/
def tBeh (K : PySem.W.Frag) : TS := tSeq (tIfS (tTest (tOp rEq (tVar 2) (tC (.str "0")))) (tRet (tTup (tCons (tC (.int 0)) (tCons (tC (.int 0)) tNil)))) tNext)
  (tRet (tIf (tTest (tOp rEq (tOp (rI0 fun i j => .int (i + j)) (tVar 1) (tC (.int 1))) (tFld K (tVar 0) "limit"))) (tTup (tCons (tC (.int 0)) (tCons (tC (.int 1)) tNil))) (tTup (tCons (tOp (rI0 fun i j => .int (i + j)) (tVar 1) (tC (.int 1))) (tCons (tC (.int 0)) tNil)))))
theorem beh_ok (T : CTxt K) {vs : List V} {Q : VK} {E : XK} {D : Ends} (h : spD K behC vs H Q E) (hq : ∀ v H', Q v H' → D.rt v H') : tBeh K D (L2.start ["self", "run", "bit"] vs) H := by
  obtain ⟨G, ds, r, e, tb, h⟩ := h
  have big : sizeLine = 16777216 := sizeLine_eq
  have key : ∃ L n b d, ds = [.cnt L, .int n, .str b] ∧ behC [.cnt L, .int n, .str b] = .ok d ∧ Out K G H d Q := by
    rcases h with ⟨d, hd, q⟩ | ⟨c, xs, hd, _⟩
    · have h2 := hd
      unfold behC at h2
      split at h2
      · exact ⟨_, _, _, d, rfl, hd, q⟩
      · cases h2
    · unfold behC at hd
      split at hd
      · split at hd
        · cases hd
        · split at hd <;> cases hd
      · cases hd
  obtain ⟨L, n, b, d, rfl, hd, q⟩ := key
  obtain ⟨v0, vs1, rfl, r0, v1, vs2, rfl, r1, v2, vs3, rfl, r2, rfl⟩ := r
  cases (show v1 = V.int n from r1)
  cases (show v2 = V.str (st b) from r2)
  obtain ⟨eL, p, dx, dd, ks, rfl, hp, hdd, hM⟩ := id r0
  have two : ∀ (a b : Int), d = .tup [.int a, .int b] → ∀ H2 : Hp, Step G H G H2 → ∀ p2, H2 p2 = none → D.rt (.ref p2) (upd H2 p2 (.tup [.int a, .int b])) := fun a b hab H2 s2 p2 hp2 =>
    hq _ _ (q (.ref p2) (upd G p2 (.tup [.int a, .int b])) _ (s2.trans (Step.new s2.gh hp2)) (by subst hab; exact ⟨p2, _, rfl, st_of upd_same, _, _, rfl, rfl, _, _, rfl, rfl, rfl⟩))
  have e0 : (st [48] : Str) = "0" := by decide +kernel
  have hd : (if b = [48] then (R.ok (.tup [.int 0, .int 0]) : R Pv.D) else if n + 1 = L then .ok (.tup [.int 0, .int 1]) else .ok (.tup [.int (n + 1), .int 0])) = .ok d := hd
  show (tTest (tOp rEq (tVar 2) (tC (.str "0")))) _ H _
  refine ⟨_, rfl, rfl, _, rfl, ?_⟩
  by_cases cb : b = [48]
  · rw [if_pos cb] at hd
    cases hd
    have : decide (V.str (st b) = V.str "0") = true := by rw [cb, e0]; exact decide_eq_true rfl
    rw [this]
    show (tRet (tTup _)) D _ H
    exact ⟨by rw [big]; show 2 ≤ 16777216; decide, fun p2 hp2 => two 0 0 rfl H (Step.refl e) p2 hp2⟩
  · rw [if_neg cb] at hd
    have : decide (V.str (st b) = V.str "0") = false := decide_eq_false fun z => cb (by
      rw [← e0] at z
      injection z with z
      exact st_inj z)
    rw [this]
    show (tTest (tOp rEq (tOp (rI0 fun i j => .int (i + j)) (tVar 1) (tC (.int 1))) (tFld K (tVar 0) "limit"))) _ H _
    refine ⟨_, rfl, _, _, rfl, rfl, _, rfl, p, Tabs.cc, dx, _, _, rfl, e.at hp rfl, T.cl, T.nL, cget1, rfl, _, rfl, ?_⟩
    rw [L2.dec_int]
    by_cases cl : n + 1 = L
    · rw [if_pos cl] at hd
      cases hd
      have : ((n + 1 : Int) == L) = true := by rw [beq_iff_eq]; exact cl
      rw [this]
      exact ⟨by rw [big]; show 2 ≤ 16777216; decide, fun p2 hp2 => two 0 1 rfl H (Step.refl e) p2 hp2⟩
    · rw [if_neg cl] at hd
      cases hd
      have : ((n + 1 : Int) == L) = false := by rw [beq_eq_false_iff_ne]; exact cl
      rw [this]
      exact ⟨_, rfl, _, _, rfl, rfl, by rw [big]; show 2 ≤ 16777216; decide, fun p2 hp2 => two (n + 1) 0 rfl H (Step.refl e) p2 hp2⟩
end
/-! ### count: its plain parts -/
def I1 : IS := .ite (.op2 .lt (.var 3) (.int 0)) (.cons (.ret (.int 0) []) .nil) .nil
def I2 : IS := .ite (.op2 .eq (.var 1) (.int 0)) (.cons (.ret (.ite (.op2 .eq (.var 3) (.int 0)) (.int 1) (.int 0)) []) .nil) .nil
def J1 : IS := .asg 4 (.int 0) []
def JB : ISs := .cons (.unp [6, 7] (.call 0 (.cons (.var 0) (.cons (.var 2) (.cons (.var 5) .nil)))) []) (.cons (.asg 4 (.op2 .add (.var 4) (.call 1 (.cons (.var 0) (.cons (.op2 .sub (.var 1) (.int 1)) (.cons (.var 6) (.cons (.op2 .sub (.var 3) (.var 7)) .nil)))))) []) .nil)
def J2 : IS := .forr (.seq (.str [48, 49])) (.one 5) JB []
abbrev FC (n : Nat) : List (List Pv.D → R Pv.D) := [behC, cntC n]
abbrev ρc (L l r z : Int) (s4 s5 s6 s7 : Slot) : Pv.Env := [.val (.cnt L), .val (.int l), .val (.int r), .val (.int z), s4, s5, s6, s7]
section
omit [Tabs]
variable {F : List (List Pv.D → R Pv.D)} {L l r z : Int}
theorem ev_I1 : evS F I1 (ρc L l r z .no .no .no .no) = if z < 0 then .ret (.int 0) else .next (ρc L l r z .no .no .no .no) := by
  by_cases c : z < 0 <;> simp [I1, c]
theorem ev_I2 : evS F I2 (ρc L l r z .no .no .no .no) = if l = 0 then .ret (.int (if z = 0 then 1 else 0)) else .next (ρc L l r z .no .no .no .no) := by
  by_cases c : l = 0
  · by_cases q : z = 0 <;> simp [I2, c, q]
  · simp [I2, c]
theorem ev_J1 : evS F J1 (ρc L l r z .no .no .no .no) = .next (ρc L l r z (.val (.int 0)) .no .no .no) := by
  simp [J1]
theorem ev_call (n : Nat) (m : Nat) {r z : Int} (hm : m < n) (hr : 0 ≤ r ∧ r + m ≤ 100) (hz : -1000 ≤ z ∧ z ≤ 100) : cntC n [.cnt L, .int m, .int r, .int z] = .ok (.int (cntN L m r z)) := by
  show R.when _ _ = _
  rw [R.when_pos ⟨⟨by omega, by omega⟩, ⟨by omega, by omega⟩, by omega, by omega⟩]
  by_cases c : z < 0
  · rw [if_pos c, cntN_neg m c]
  · rw [if_neg c]; rfl
theorem beh0 (r : Int) : behC [.cnt L, .int r, .str [48]] = .ok (.tup [.int 0, .int 0]) := rfl
theorem beh1 (r : Int) : behC [.cnt L, .int r, .str [49]] = .ok (.tup [.int (if r + 1 = L then 0 else r + 1), .int (if r + 1 = L then 1 else 0)]) := by
  show (if [49] = [48] then (R.ok (.tup [.int 0, .int 0]) : R Pv.D) else if r + 1 = L then .ok (.tup [.int 0, .int 1]) else .ok (.tup [.int (r + 1), .int 0])) = _
  rw [if_neg (by decide)]
  by_cases c : r + 1 = L <;> simp [c]
theorem ev_J2 (n m : Nat) {r z : Int} (hm : m < n) (hr : 0 ≤ r ∧ r + (m + 1) ≤ 100) (hz : 0 ≤ z ∧ z ≤ 100) : ∃ r5 r6 r7, evS (FC n) J2 (ρc L ((m : Int) + 1) r z (.val (.int 0)) .no .no .no) = .next (ρc L ((m : Int) + 1) r z (.val (.int (cntN L (m + 1) r z))) r5 r6 r7) := by
  have f0 : (FC n)[0]? = some behC := rfl
  have f1 : (FC n)[1]? = some (cntC n) := rfl
  have b0 := beh0 (L := L) r
  have b1 := beh1 (L := L) r
  have c0 := ev_call (L := L) n m (r := 0) (z := z) hm (by omega) (by omega)
  have it : iterD (.str [48, 49]) = .ok [.str [48], .str [49]] := rfl
  have e1 : (m : Int) + 1 - 1 = m := by omega
  have sum : cntN L (m + 1) r z = cntN L m 0 z + (if r + 1 = L then cntN L m 0 (z - 1) else cntN L m (r + 1) z) := by
    rw [cntN, if_neg (by omega)]
  rw [sum]
  by_cases c : r + 1 = L
  · rw [if_pos c]
    rw [if_pos c, if_pos c] at b1
    have c1 := ev_call (L := L) n m (r := 0) (z := z - 1) hm (by omega) (by omega)
    generalize cntN L m 0 z = a at *
    generalize cntN L m 0 (z - 1) = b at *
    generalize FC n = F at *
    refine ⟨.val (.str [49]), .val (.int 0), .val (.int 1), ?_⟩
    simp (disch := first | omega | (simp; done) | (simp; omega)) [J2, JB, it, forB_cons, f0, f1, b0, b1, c0, c1, e1]
  · rw [if_neg c]
    rw [if_neg c, if_neg c] at b1
    have c1 := ev_call (L := L) n m (r := r + 1) (z := z) hm (by omega) (by omega)
    generalize cntN L m 0 z = a at *
    generalize cntN L m (r + 1) z = b at *
    generalize FC n = F at *
    refine ⟨.val (.str [49]), .val (.int (r + 1)), .val (.int 0), ?_⟩
    simp (disch := first | omega | (simp; done) | (simp; omega)) [J2, JB, it, forB_cons, f0, f1, b0, b1, c0, c1, e1]
end
/-! ### count, walked -/
def tKey : TE := tTup (tCons (tVar 1) (tCons (tVar 2) (tCons (tVar 3) tNil)))
def tKn (K : PySem.W.Frag) : TE := tFld K (tVar 0) "known"
def tCnt (X : Cx) (s1 s2 b1 b2 : Stmt) : TS := tSeq (wS X s1) (tSeq (wS X s2) (tSeq (tIfS (tB (tDNotIn tKey (tKn X.K))) (tSeq (wS X b1) (tSeq (wS X b2) (sDPut (tKn X.K) tKey (tVar 4)))) tNext) (tRet (tDGet (tKn X.K) tKey))))
section
variable {K : PySem.W.Frag} {G H : Hp} {σ : L2.St}
theorem key_at {l r z : Int} (h1 : σ[1]? = some (some (.int l))) (h2 : σ[2]? = some (some (.int r))) (h3 : σ[3]? = some (some (.int z))) {Q : VK} (q : ∀ b, H b = none → Q (.ref b) (upd H b (.tup [.int l, .int r, .int z]))) : tKey σ H Q :=
  ⟨_, h1, _, h2, _, h3, by rw [sizeLine_eq]; show 3 ≤ 16777216; decide, fun b hb => q b hb⟩
theorem kn_at (T : CTxt K) {p dx d : Addr} {L : Int} (h : σ[0]? = some (some (.ref p))) (hp : H p = some (.ins Tabs.cc dx (cfs L d))) {Q : VK} (q : Q (.ref d) H) : tKn K σ H Q :=
  ⟨_, h, p, Tabs.cc, dx, _, _, rfl, hp, T.cl, T.nK, cget2, q⟩
end
section
variable {N Cs : List Str} {gl : List (Str × GC)} {sc : Scope}
/-- how it stands while count runs -/
theorem at_state {K : PySem.W.Frag} {G0 H0 H : Hp} {σ : L2.St} {L l r z : Int} {s4 s5 s6 s7 : Slot} (w : W K G0 H0 (ρc L l r z s4 s5 s6 s7) σ H) :
    ∃ G p dx d ks, Step G0 H0 G H ∧ SlotR K H0 G H σ (ρc L l r z s4 s5 s6 s7) ∧ L = Tabs.lim ∧ σ[0]? = some (some (.ref p)) ∧ σ[1]? = some (some (.int l)) ∧ σ[2]? = some (some (.int r)) ∧ σ[3]? = some (some (.int z)) ∧
      H p = some (.ins Tabs.cc dx (cfs L d)) ∧ H d = some (.dT ks) ∧ Mem L ks := by
  obtain ⟨G, t, S⟩ := w
  obtain ⟨v0, a0, r0⟩ := S.val 0 (.cnt L) rfl
  obtain ⟨v1, a1, r1⟩ := S.val 1 (.int l) rfl
  obtain ⟨v2, a2, r2⟩ := S.val 2 (.int r) rfl
  obtain ⟨v3, a3, r3⟩ := S.val 3 (.int z) rfl
  cases (show v1 = V.int l from r1)
  cases (show v2 = V.int r from r2)
  cases (show v3 = V.int z from r3)
  obtain ⟨eL, p, dx, d, ks, rfl, hp, hd, hM⟩ := r0
  subst eL
  rcases t.gh d _ hd with q | ⟨_, _, e, _⟩ | ⟨k1, k2, e, q, m⟩
  · exact ⟨G, p, dx, d, ks, t, S, rfl, a0, a1, a2, a3, t.gh.at hp rfl, q, hM⟩
  · cases e
  · cases e
    exact ⟨G, p, dx, d, k2, t, S, rfl, a0, a1, a2, a3, t.gh.at hp rfl, q, m hM⟩
theorem cnt_ok {X : Cx} {Wx : WX} (n : Nat) (tk : L2N.Takes X Wx) (C : CxS N Cs gl (FC n) sc X) (T : CTxt X.K) {s1 s2 b1 b2 : Stmt} (h1 : chkS N Cs gl sc I1 s1 = true) (h2 : chkS N Cs gl sc I2 s2 = true) (g1 : chkS N Cs gl sc J1 b1 = true) (g2 : chkS N Cs gl sc J2 b2 = true)
    {vs : List V} {H : Hp} {Q : VK} {E : XK} {D : Ends} {M : List Str} (hM8 : M.length = 8) (h : spD X.K (cntC (n + 1)) vs H Q E) (hq : ∀ v H', Q v H' → D.rt v H') : tCnt X s1 s2 b1 b2 D (L2.start M vs) H := by
  obtain ⟨G, ds, rr, e, tb, h⟩ := h
  have key : ∃ L l r z, ds = [.cnt L, .int l, .int r, .int z] ∧ ((0 ≤ l ∧ l < (n + 1 : Nat)) ∧ (0 ≤ r ∧ r + l ≤ 100) ∧ -1000 ≤ z ∧ z ≤ 100) ∧ Out X.K G H (.int (if z < 0 then 0 else cntN L l.toNat r z)) Q := by
    rcases h with ⟨d, hd, q⟩ | ⟨c, xs, hd, _⟩
    · unfold cntC at hd
      split at hd
      · obtain ⟨k, hd⟩ := Pv.R.when_ok hd
        cases hd
        exact ⟨_, _, _, _, rfl, k, q⟩
      · cases hd
    · unfold cntC at hd
      split at hd
      · unfold R.when at hd
        split at hd <;> cases hd
      · cases hd
  obtain ⟨L, l, r, z, rfl, ⟨⟨l0, ln⟩, ⟨r0, rl⟩, z1, z2⟩, q⟩ := key
  have w0 := W.start (N := M) e tb rr
  rw [hM8] at w0
  have w0 : W X.K G H (ρc L l r z .no .no .no .no) (L2.start M vs) H := w0
  refine okS I1 tk C h1 G H _ _ ?_ _ H w0
  rw [ev_I1]
  by_cases c1 : z < 0
  · rw [if_pos c1]
    rw [if_pos c1] at q
    exact fun v H' ⟨G', s', r'⟩ => hq v H' (q v G' H' s' r')
  rw [if_neg c1]
  rw [if_neg c1] at q
  intro σ1 H1 w1
  refine okS I2 tk C h2 G H _ _ ?_ _ H1 w1
  rw [ev_I2]
  by_cases c2 : l = 0
  · rw [if_pos c2]
    have : cntN L l.toNat r z = if z = 0 then 1 else 0 := by subst c2; rfl
    rw [this] at q
    exact fun v H' ⟨G', s', r'⟩ => hq v H' (q v G' H' s' r')
  rw [if_neg c2]
  intro σ2 H2 w2
  -- as naturals
  obtain ⟨m, rfl⟩ : ∃ m : Nat, l = (m : Int) + 1 := ⟨(l - 1).toNat, by omega⟩
  obtain ⟨rn, rfl⟩ : ∃ k : Nat, r = (k : Int) := ⟨r.toNat, by omega⟩
  obtain ⟨zn, rfl⟩ : ∃ k : Nat, z = (k : Int) := ⟨z.toNat, by omega⟩
  have et : ((m : Int) + 1).toNat = m + 1 := by omega
  rw [et] at q
  have ek : (kk (m + 1) rn zn).map kV = [V.int ((m : Int) + 1), V.int rn, V.int zn] := rfl
  obtain ⟨G2, p, dx, d, ks, t2, S2, eL, a0, a1, a2, a3, hp, hd, hM⟩ := at_state w2
  -- the end, once the count is known
  have fin : ∀ (σ : L2.St) (G3 H3 : Hp) (p3 dx3 d3 : Addr) (ks3 : List (List Key × V)), Step G H G3 H3 → σ[0]? = some (some (.ref p3)) → σ[1]? = some (some (.int ((m : Int) + 1))) → σ[2]? = some (some (.int rn)) → σ[3]? = some (some (.int zn)) →
      H3 p3 = some (.ins Tabs.cc dx3 (cfs L d3)) → H3 d3 = some (.dT ks3) → valV ks3 (kk (m + 1) rn zn) = some (.int (cntN L (m + 1) rn zn)) → (tRet (tDGet (tKn X.K) tKey)) D σ H3 := by
    intro σ G3 H3 p3 dx3 d3 ks3 t3 b0 b1 b2 b3 hp3 hd3 hv
    unfold tRet tDGet
    refine kn_at T b0 hp3 ?_
    refine key_at b1 b2 b3 fun b hb => ?_
    have S4 := Step.newH (o := .tup [.int ((m : Int) + 1), .int rn, .int zn]) t3.gh hb
    refine ⟨d3, _, rfl, ?_, hq _ _ (q _ G3 _ (t3.trans S4) rfl)⟩
    rw [← hv]
    exact DGet.t (by rw [upd_ne (ne_of_none hd3 hb)]; exact hd3) (by rw [upd_same, ek])
  change (tSeq (tIfS (tB (tDNotIn tKey (tKn X.K))) (tSeq (wS X b1) (tSeq (wS X b2) (sDPut (tKn X.K) tKey (tVar 4)))) tNext) (tRet (tDGet (tKn X.K) tKey))) D σ2 H2
  unfold tSeq tIfS tB tDNotIn
  refine key_at a1 a2 a3 fun b hb => ?_
  have S3 := Step.newH (o := .tup [.int ((m : Int) + 1), .int rn, .int zn]) t2.gh hb
  have hp3 : upd H2 b (.tup [.int ((m : Int) + 1), .int rn, .int zn]) p = some (.ins Tabs.cc dx (cfs L d)) := by rw [upd_ne (ne_of_none hp hb)]; exact hp
  have hd3 : upd H2 b (.tup [.int ((m : Int) + 1), .int rn, .int zn]) d = some (.dT ks) := by rw [upd_ne (ne_of_none hd hb)]; exact hd
  refine kn_at T a0 hp3 ⟨d, valV ks (kk (m + 1) rn zn), rfl, DGet.t hd3 (by rw [upd_same, ek]), _, rfl, ?_⟩
  cases hv : valV ks (kk (m + 1) rn zn) with
  | some v =>
    have ev := Mem.get hM hv
    subst ev
    exact fin σ2 G2 _ p dx d ks (t2.trans S3) a0 a1 a2 a3 hp3 hd3 hv
  | none =>
    have w3 : W X.K G H (ρc L ((m : Int) + 1) rn zn .no .no .no .no) σ2 (upd H2 b (.tup [.int ((m : Int) + 1), .int rn, .int zn])) := ⟨G2, t2.trans S3, S2.mono S3⟩
    show (tSeq (wS X b1) (tSeq (wS X b2) (sDPut (tKn X.K) tKey (tVar 4)))) _ σ2 _
    refine okS J1 tk C g1 G H _ _ ?_ _ _ w3
    rw [ev_J1]
    intro σ4 H4 w4
    refine okS J2 tk C g2 G H _ _ ?_ _ _ w4
    obtain ⟨r5, r6, r7, ej⟩ := ev_J2 (L := L) n m (r := rn) (z := zn) (by omega) (by omega) (by omega)
    rw [ej]
    intro σ5 H5 w5
    obtain ⟨G5, p5, dx5, d5, ks5, t5, S5, _, f0, f1, f2, f3, hp5, hd5, hM5⟩ := at_state w5
    obtain ⟨v4, f4, r4⟩ := S5.val 4 (.int (cntN L (m + 1) rn zn)) rfl
    cases (show v4 = V.int _ from r4)
    refine ⟨_, f4, ?_⟩
    refine kn_at T f0 hp5 ?_
    refine key_at f1 f2 f3 fun b5 hb5 => ?_
    have S6 := Step.newH (o := .tup [.int ((m : Int) + 1), .int rn, .int zn]) t5.gh hb5
    have hp6 : upd H5 b5 (.tup [.int ((m : Int) + 1), .int rn, .int zn]) p5 = some (.ins Tabs.cc dx5 (cfs L d5)) := by rw [upd_ne (ne_of_none hp5 hb5)]; exact hp5
    have hd6 : upd H5 b5 (.tup [.int ((m : Int) + 1), .int rn, .int zn]) d5 = some (.dT ks5) := by rw [upd_ne (ne_of_none hd5 hb5)]; exact hd5
    have M6 := Mem.put hM5 (l := m + 1) (r := rn) (z := zn) (by omega) (by omega) (by omega)
    refine ⟨d5, _, rfl, DPut.t (k := kk (m + 1) rn zn) hd6 (by rw [upd_same, ek]) (by rw [sizeLine_eq]; exact Mem.len hM5), ?_⟩
    have S7 := memo_step (t5.trans S6).gh hd6 (ks' := putK ks5 (kk (m + 1) rn zn) (.int (cntN L (m + 1) rn zn))) (fun _ => eL ▸ M6)
    exact fin σ5 G5 _ p5 dx5 d5 _ ((t5.trans S6).trans S7) f0 f1 f2 f3 (by rw [upd_ne (ne_of hp6 hd6 (by intro z; cases z))]; exact hp6) upd_same (by rw [valV_put, if_pos rfl])
end
/-! ### the defs -/
def nth (l : List Stmt) (i : Nat) : Stmt := l.getD i (.Pass ⟨0, 0, 0, 0⟩)
def thenOf : Stmt → List Stmt
  | .If _ a _ _ => a
  | _ => []
section
variable {P : Program} {w : World} {K : PySem.W.Frag} {mg : Str → Option Value} {base : Heap}
theorem cnt_base {f : Addr} {fd : FuncData} {ps : List Str} : FnOk P w K mg base (L2N.CX P w) 0 f fd ps (spD K (cntC 0)) := fns_none.imp fun vs H Q E h => by
  obtain ⟨G, ds, r, e, tb, h⟩ := h
  have st : cntC 0 ds = .stuck := by
    unfold cntC
    split
    · unfold R.when
      rw [if_neg (fun z => by have := z.1; omega)]
    · rfl
  rw [st] at h
  rcases h with ⟨_, h, _⟩ | ⟨_, _, h, _⟩ <;> cases h
theorem cnt_len {n : Nat} {vs : List V} {H : Hp} {Q : VK} {E : XK} (h : spD K (cntC n) vs H Q E) : vs.length = 4 := by
  obtain ⟨G, ds, r, e, tb, h⟩ := h
  rw [r.len]
  rcases h with ⟨_, h, _⟩ | ⟨_, _, h, _⟩ <;>
  · unfold cntC at h
    split at h
    · rfl
    · cases h
theorem beh_len {vs : List V} {H : Hp} {Q : VK} {E : XK} (h : spD K behC vs H Q E) : vs.length = 3 := by
  obtain ⟨G, ds, r, e, tb, h⟩ := h
  rw [r.len]
  rcases h with ⟨_, h, _⟩ | ⟨_, _, h, _⟩ <;>
  · unfold behC at h
    split at h
    · rfl
    · cases h
theorem beh_cnt : ∀ ds d, behC ds = .ok d → ∃ L ds', ds = Pv.D.cnt L :: ds' := fun ds d h => by
  unfold behC at h
  split at h
  · exact ⟨_, _, rfl⟩
  · cases h
theorem cnt_cnt (n : Nat) : ∀ ds d, cntC n ds = .ok d → ∃ L ds', ds = Pv.D.cnt L :: ds' := fun ds d h => by
  unfold cntC at h
  split at h
  · exact ⟨_, _, rfl⟩
  · cases h
theorem ok_cnt_step {N ps : List Str} {st : Stmt} {f : Addr} {fd : FuncData} {k n : Nat} (FF : Fun K "count" "Counter.count" st f fd) (S : FnScope N ps (defScope st)) (T : CTxt K) (hb : ∀ y ∈ bltNames, mg y = none) (hN : N.length = 8) (hps : ps.length = 4) {s1 s2 b1 b2 : Stmt}
    (h1 : chkS N [".behind", ".count"] [] (defScope st) I1 s1 = true) (h2 : chkS N [".behind", ".count"] [] (defScope st) I2 s2 = true) (g1 : chkS N [".behind", ".count"] [] (defScope st) J1 b1 = true) (g2 : chkS N [".behind", ".count"] [] (defScope st) J2 b2 = true)
    (hP : ∀ (cdv : Value) (A : Around) (outer : List PySem.Env) (s : Shared) (H : Hp) (E : XK), (cxOf (L2N.CX P w) P w K mg base N "Counter.count" (defScope st) f cdv A outer s H E).A.units + 1 < cLine → PSs (cxOf (L2N.CX P w) P w K mg base N "Counter.count" (defScope st) f cdv A outer s H E) (defBody st) (tCnt (cxOf (L2N.CX P w) P w K mg base N "Counter.count" (defScope st) f cdv A outer s H E) s1 s2 b1 b2))
    (hf : Fns P w K mg base k [".behind", ".count"] (FC n)) : FnOk P w K mg base (L2N.CX P w) (k + 1) f fd ps (spD K (cntC (n + 1))) := by
  refine okXC FF S (fun vs H Q E h => (cnt_len h).trans hps.symm) (fun cdv A outer s H vs Q E hcode hr h => ?_)
  have C : CxS N [".behind", ".count"] [] (FC n) (defScope st) (cxOf (L2N.CX P w) P w K mg base N "Counter.count" (defScope st) f cdv A outer s H E) := by
    refine ⟨⟨rfl, S.nd, rfl, rfl, hb, Glb.nil, fun hm => absurd hm (by decide +kernel), ⟨k, hr, hf⟩⟩, fun _ => rfl, passes_of (K := fun e s'' => L2N.CX P w outer H s E e s'') (E₁ := fun e' s'' => L2N.CX P w outer H s E e' s'') rfl, S.kind, rfl, rfl, fun hm => absurd hm (by decide +kernel), fun hm => absurd hm (by decide +kernel), fun hm => absurd hm (by decide +kernel), fun hm => absurd hm (by decide +kernel)⟩
  have tk : L2N.Takes (cxOf (L2N.CX P w) P w K mg base N "Counter.count" (defScope st) f cdv A outer s H E) (fun cls d _ H => E cls d H) := L2N.takes_of rfl rfl rfl (E₁ := fun e' s'' => L2N.CX P w outer H s E e' s'') rfl
  have hu := C.c.units
  exact ⟨_, hP cdv A outer s H E (by omega), cnt_ok n tk C T h1 h2 g1 g2 hN h fun _ _ q => q⟩
theorem callK_meth {k : Nat} {x m : Str} {g : List Pv.D → R Pv.D} {f : Addr} {fd : FuncData} {ps : List Str} (h : mOf x = some m) (T : CTxt K) (hg : ∀ ds d, g ds = .ok d → ∃ L ds', ds = Pv.D.cnt L :: ds') (M : Meth K Tabs.cc m f) (b : Binds K fd ps []) (F : FnOk P w K mg base (L2N.CX P w) k f fd ps (spD K g)) : CallK P w K mg base k x g := by
  unfold CallK
  rw [h]
  exact ⟨T.cl, hg, f, fd, ps, M, b, F⟩
theorem callK_cls {j k : Nat} {f : Addr} {fd : FuncData} {ps : List Str} (hm : mg "Counter" = some (.ref Tabs.cc)) (M : Mk K Tabs.cc f) (b : Binds K fd ps []) (F : FnOk P w K mg base (L2N.CX P w) j f fd ps spCI) (hj : j < k) : CallK P w K mg base k "Counter" (newC Tabs.lim) := by
  unfold CallK
  rw [show mOf ("Counter" : Str) = none by decide +kernel]
  exact .inl ⟨hm, rfl, f, fd, ps, j, hj, M, b, F⟩
theorem count_all {N ps : List Str} {st : Stmt} {f : Addr} {fd : FuncData} (FF : Fun K "count" "Counter.count" st f fd) (S : FnScope N ps (defScope st)) (T : CTxt K) (hb : ∀ y ∈ bltNames, mg y = none) (hN : N.length = 8) (hps : ps.length = 4) {s1 s2 b1 b2 : Stmt}
    (h1 : chkS N [".behind", ".count"] [] (defScope st) I1 s1 = true) (h2 : chkS N [".behind", ".count"] [] (defScope st) I2 s2 = true) (g1 : chkS N [".behind", ".count"] [] (defScope st) J1 b1 = true) (g2 : chkS N [".behind", ".count"] [] (defScope st) J2 b2 = true)
    (hP : ∀ (cdv : Value) (A : Around) (outer : List PySem.Env) (s : Shared) (H : Hp) (E : XK), (cxOf (L2N.CX P w) P w K mg base N "Counter.count" (defScope st) f cdv A outer s H E).A.units + 1 < cLine → PSs (cxOf (L2N.CX P w) P w K mg base N "Counter.count" (defScope st) f cdv A outer s H E) (defBody st) (tCnt (cxOf (L2N.CX P w) P w K mg base N "Counter.count" (defScope st) f cdv A outer s H E) s1 s2 b1 b2))
    (M : Meth K Tabs.cc "count" f) (b : Binds K fd ps []) (CB : CallK P w K mg base 1 ".behind" behC) : ∀ n, CallK P w K mg base (1 + n) ".count" (cntC n)
  | 0 => callK_meth (by decide +kernel) T (cnt_cnt 0) M b (cnt_base.mono (by omega))
  | n + 1 => callK_meth (by decide +kernel) T (cnt_cnt (n + 1)) M b (ok_cnt_step (k := 1 + n) FF S T hb hN hps h1 h2 g1 g2 hP (Fns.consK CB (by omega) (Fns.consK (count_all FF S T hb hN hps h1 h2 g1 g2 hP M b CB n) (Nat.le_refl _) Fns.nil)))
end
end ExM

end
section
/-! Com: what many laws share. -/
namespace Com
open Pv P
theorem draws_loop : ∀ (k : Nat) (i c n : Int) (w : Bool) (acc : List Int) (s4 s5 : Slot), acc.length + k ≤ 16777216 → (∀ x ∈ acc, 0 ≤ x ∧ x < 1000003) →
    ∃ (xs : List Int) (c' : Int) (r4 r5 : Slot), forB [] (.one 4) B0__law_draws_1 (rangeD i 1 k) [.val (.int c), .val (.int n), .own (acc.map D.int), .val (.bl w), s4, s5] = .next [.val (.int c'), .val (.int n), .own (xs.map D.int), .val (.bl w), r4, r5] ∧
      xs.length = acc.length + k ∧ ∀ x ∈ xs, 0 ≤ x ∧ x < 1000003
  | 0, i, c, n, w, acc, s4, s5, _, h => ⟨acc, c, s4, s5, rfl, rfl, h⟩
  | k + 1, i, c, n, w, acc, s4, s5, hl, h => by
    cases w with
    | true =>
      obtain ⟨xs, c', r4, r5, e, l, hx⟩ := draws_loop k (i + 1) (c / 1009) n true (acc ++ [c % 1009]) (.val (.int i)) s5 (by simp; omega) (by
        intro x hx
        simp at hx
        rcases hx with hx | hx
        · exact h x hx
        · subst hx; omega)
      refine ⟨xs, c', r4, r5, ?_, by simp at l; omega, hx⟩
      rw [rangeD, forB_cons]
      have : acc.length < 16777216 := by omega
      simp [this]
      simpa using e
    | false =>
      obtain ⟨xs, c', r4, r5, e, l, hx⟩ := draws_loop k (i + 1) c n false (acc ++ [((c * 48271 + i * 69621) % 2147483647 * ((c * 48271 + i * 69621) % 2147483647) + c * 31 + i) % 1000003]) (.val (.int i)) (.val (.int ((c * 48271 + i * 69621) % 2147483647))) (by simp; omega) (by
        intro x hx
        simp at hx
        rcases hx with hx | hx
        · exact h x hx
        · subst hx; omega)
      refine ⟨xs, c', r4, r5, ?_, by simp at l; omega, hx⟩
      rw [rangeD, forB_cons]
      have : acc.length < 16777216 := by omega
      have h5 : -18446744073709551616 < ((c * 48271 + i * 69621) % 2147483647) ∧ ((c * 48271 + i * 69621) % 2147483647) < 18446744073709551616 := ⟨by omega, by omega⟩
      simp [this, h5.1, h5.2]
      simpa using e
/-- what is drawn of a number -/
theorem draws_ok (c n : Int) (hn : 0 ≤ n ∧ n ≤ 100000) : ∃ xs : List Int, g__law_draws_1 [.int c, .int n] = .ok (.lst (xs.map D.int)) ∧ (xs.length : Int) = n ∧ ∀ x ∈ xs, 0 ≤ x ∧ x < 1000003 := by
  obtain ⟨xs, c', r4, r5, e, l, hx⟩ := draws_loop n.toNat 0 c n (decide (10 ^ 18 ≤ c)) [] .no .no (by simp; omega) (by simp)
  refine ⟨xs, evF_ret rfl ?_, by simp at l; omega, hx⟩
  have h1 : -4611686018427387904 ≤ n ∧ n ≤ 16777216 := ⟨by omega, by omega⟩
  simp [t__law_draws_1, h1]
  simp at e
  rw [e]
  simp
end Com
namespace Com
open Pv P
theorem cell_ok (ns : List Int) (k : Int) (hk : 0 ≤ k) : ∃ c, g__law_cell [.scr ns, .int k] = .ok (.int c) := by
  by_cases h : k < ns.length
  · have hl : k.toNat < ns.length := by omega
    refine ⟨ns[k.toNat], evF_ret rfl ?_⟩
    simp [t__law_cell, h, atI_nat hk, hl]
  · refine ⟨0, evF_ret rfl ?_⟩
    simp [t__law_cell, h]
def dr (xs : List Int) (i : Nat) : Int := xs.getD i 0
theorem atI_map {xs : List Int} {i : Int} (h : 0 ≤ i) (h2 : i < xs.length) : atI (xs.map D.int) i = some (.int (dr xs i.toNat)) := by
  rw [atI_nat h, List.getElem?_map]
  have : i.toNat < xs.length := by omega
  simp [this, dr]
theorem dr_in {xs : List Int} {p : Int → Prop} (h : ∀ x ∈ xs, p x) {i : Nat} (hi : i < xs.length) : p (dr xs i) := by
  have : dr xs i = xs[i] := by simp [hi, dr]
  rw [this]
  exact h _ (List.getElem_mem hi)
theorem mem_range {d : D} : ∀ (n : Nat) (i c : Int), d ∈ rangeD i c n → ∃ p, d = .int p
  | 0, _, _, h => by simp at h
  | n + 1, i, c, h => by
    simp [rangeD_cons] at h
    rcases h with h | h
    · exact ⟨i, h⟩
    · exact mem_range n _ _ h
theorem range_len : ∀ (n : Nat) (i c : Int), (rangeD i c n).length = n
  | 0, _, _ => rfl
  | n + 1, i, c => by simp [rangeD_cons, range_len n]
@[simp] theorem atI_app {α : Type} (xs : List α) (z : α) : atI (xs ++ [z]) (-1) = some z := by
  unfold atI ixN
  rw [if_neg (by omega), if_pos (by simp; omega)]
  have : (-1 + ((xs ++ [z]).length : Int)).toNat = xs.length := by simp; omega
  show (xs ++ [z])[(-1 + ((xs ++ [z]).length : Int)).toNat]? = _
  rw [this]
  simp
theorem concat_or {α : Type} (xs : List α) : xs = [] ∨ ∃ ys z, xs = ys ++ [z] := by
  rcases List.eq_nil_or_concat xs with h | ⟨ys, z, h⟩
  · exact .inl h
  · exact .inr ⟨ys, z, by rw [h, List.concat_eq_append]⟩
@[simp] theorem shps_ints (n : Nat) (xs : List Int) : D.shps n (xs.map D.int) = true := by
  induction xs with
  | nil => simp [D.shps]
  | cons x xs ih =>
    rw [List.map_cons, D.shps, ih]
    cases n <;> simp [D.shp]
@[simp] theorem shp_lst (n : Nat) (xs : List D) : D.shp (n + 1) (.lst xs) = D.shps n xs := by rw [D.shp]
@[simp] theorem shp_tup (n : Nat) (xs : List D) : D.shp (n + 1) (.tup xs) = D.shps n xs := by rw [D.shp]
@[simp] theorem shp_int (n : Nat) (i : Int) : D.shp n (.int i) = true := by cases n <;> rw [D.shp]
@[simp] theorem shp_bl (n : Nat) (i : Bool) : D.shp n (.bl i) = true := by cases n <;> rw [D.shp]
@[simp] theorem shp_non (n : Nat) : D.shp n .non = true := by cases n <;> rw [D.shp]
@[simp] theorem shps_nil (n : Nat) : D.shps n [] = true := by rw [D.shps]
@[simp] theorem shps_cons (n : Nat) (x : D) (xs : List D) : D.shps n (x :: xs) = (D.shp n x && D.shps n xs) := by rw [D.shps]
@[simp] theorem shps_app (n : Nat) (xs ys : List D) : D.shps n (xs ++ ys) = (D.shps n xs && D.shps n ys) := by
  induction xs with
  | nil => simp
  | cons x xs ih => simp [ih, Bool.and_assoc]
@[simp] theorem eqv_int (i j : Int) : D.eqv (.int i) (.int j) = (i == j) := by rw [D.eqv]
@[simp] theorem eqv_lst (x y : List D) : D.eqv (.lst x) (.lst y) = D.eqvs x y := by rw [D.eqv]
@[simp] theorem eqv_tup (x y : List D) : D.eqv (.tup x) (.tup y) = D.eqvs x y := by rw [D.eqv]
@[simp] theorem eqv_str (x y : List Nat) : D.eqv (.str x) (.str y) = (x == y) := by rw [D.eqv]
@[simp] theorem eqvs_nil : D.eqvs [] [] = true := by rw [D.eqvs]
@[simp] theorem eqvs_cons (x y : D) (xs ys : List D) : D.eqvs (x :: xs) (y :: ys) = (D.eqv x y && D.eqvs xs ys) := by rw [D.eqvs]
@[simp] theorem eqvs_ints (xs ys : List Int) : D.eqvs (xs.map D.int) (ys.map D.int) = (xs == ys) := by
  induction xs generalizing ys with
  | nil => cases ys <;> simp [D.eqvs]
  | cons x xs ih =>
    cases ys with
    | nil => simp [D.eqvs]
    | cons y ys => simp [ih]
@[simp] theorem nols_ints (xs : List Int) : D.nols (xs.map D.int) = true := by
  induction xs with
  | nil => simp
  | cons x xs ih => simp [ih]
@[simp] theorem nols_strs (xs : List (List Nat)) : D.nols (xs.map D.str) = true := by
  induction xs with
  | nil => simp
  | cons x xs ih => simp [ih]
@[simp] theorem nols_app (xs ys : List D) : D.nols (xs ++ ys) = (D.nols xs && D.nols ys) := by
  induction xs with
  | nil => simp
  | cons x xs ih => simp [ih, Bool.and_assoc]
theorem sIx_pos (n d : Nat) {v : Int} (h : 0 ≤ v) : sIx n d (some v) = min v.toNat n := by
  show (if v < 0 then (v + (n : Int)).toNat else min v.toNat n) = _
  rw [if_neg (by omega)]
theorem take_min {α : Type} (xs : List α) (a : Nat) : xs.take (min a xs.length) = xs.take a := by
  rcases Nat.le_total a xs.length with h | h
  · rw [Nat.min_eq_left h]
  · rw [Nat.min_eq_right h, List.take_length, List.take_of_length_le h]
theorem drop_min {α : Type} (xs : List α) (a : Nat) : xs.drop (min a xs.length) = xs.drop a := by
  rcases Nat.le_total a xs.length with h | h
  · rw [Nat.min_eq_left h]
  · rw [Nat.min_eq_right h, List.drop_length, List.drop_of_length_le h]
theorem cut_lo {α : Type} (xs : List α) {j : Int} (h : 0 ≤ j) : cut xs none (some j) = xs.take j.toNat := by
  unfold cut
  rw [sIx_pos _ _ h]
  show (xs.drop 0).take (min j.toNat xs.length - 0) = _
  rw [List.drop_zero, Nat.sub_zero, take_min]
theorem cut_hi {α : Type} (xs : List α) {i : Int} (h : 0 ≤ i) : cut xs (some i) none = xs.drop i.toNat := by
  unfold cut
  rw [sIx_pos _ _ h]
  show (xs.drop (min i.toNat xs.length)).take (xs.length - min i.toNat xs.length) = _
  rw [drop_min]
  apply List.take_of_length_le
  rw [List.length_drop]
  omega
theorem cut_pos {α : Type} (xs : List α) {i j : Int} (h : 0 ≤ i) (h2 : 0 ≤ j) : cut xs (some i) (some j) = (xs.drop i.toNat).take (j.toNat - i.toNat) := by
  unfold cut
  rw [sIx_pos _ _ h, sIx_pos _ _ h2, drop_min]
  rcases Nat.le_total i.toNat xs.length with h3 | h3
  · rw [Nat.min_eq_left h3]
    rcases Nat.le_total j.toNat xs.length with h4 | h4
    · rw [Nat.min_eq_left h4]
    · rw [Nat.min_eq_right h4, List.take_of_length_le (by rw [List.length_drop]; omega), List.take_of_length_le (by rw [List.length_drop]; omega)]
  · rw [List.drop_of_length_le h3]; simp
@[simp] theorem eqv_nn : D.eqv .non .non = true := by rw [D.eqv]
@[simp] theorem eqv_ns (s : List Nat) : D.eqv .non (.str s) = false := by rw [D.eqv]
@[simp] theorem eqv_sn (s : List Nat) : D.eqv (.str s) .non = false := by rw [D.eqv]
@[simp] theorem neD_nn : neD .non .non = .ok (.bl false) := by
  show R.when _ _ = _
  rw [R.when_pos (by simp)]; simp
@[simp] theorem eqD_nn : eqD .non .non = .ok (.bl true) := by
  show R.when _ _ = _
  rw [R.when_pos (by simp)]; simp
/-! how many are at most j -/
def cl (P : List Int) (j : Int) : Nat := (P.filter fun x => decide (x ≤ j)).length
theorem cl_step (P : List Int) (j : Int) : cl P j = cl P (j - 1) + P.count j := by
  unfold cl
  induction P with
  | nil => rfl
  | cons x P ih =>
    rw [List.filter_cons, List.filter_cons, List.count_cons]
    by_cases h1 : x ≤ j - 1
    · have h2 : x ≤ j := by omega
      have h3 : ¬ x = j := by omega
      simp [h1, h2, h3, ih]
      omega
    · by_cases h3 : x = j
      · subst h3
        have : ¬ x ≤ x - 1 := by omega
        simp [this, ih]
        omega
      · have h2 : ¬ x ≤ j := by omega
        simp [h1, h2, h3, ih]
theorem cl_neg (P : List Int) (h : ∀ x ∈ P, 0 ≤ x) : cl P (-1) = 0 := by
  unfold cl
  rw [List.length_eq_zero_iff, List.filter_eq_nil_iff]
  intro x hx
  have := h x hx
  simp
  omega
theorem cl_all (P : List Int) (j : Int) (h : ∀ x ∈ P, x ≤ j) : cl P j = P.length := by
  unfold cl
  rw [List.filter_eq_self.mpr]
  intro x hx
  simp [h x hx]
theorem count_mem {P : List Int} (h : P.Pairwise (· < ·)) (x : Int) : P.count x = if x ∈ P then 1 else 0 := by
  induction P with
  | nil => simp
  | cons y P ih =>
    rw [List.pairwise_cons] at h
    rw [List.count_cons, ih h.2]
    by_cases e : y = x
    · subst e
      have : y ∉ P := fun hm => by have := h.1 y hm; omega
      simp [this]
    · have e2 : ¬ x = y := fun h => e h.symm
      simp [e, e2]
/-- two ascending lists of the same things -/
theorem sorted_ext : ∀ {l m : List Int}, l.Pairwise (· < ·) → m.Pairwise (· < ·) → (∀ x, x ∈ l ↔ x ∈ m) → l = m
  | [], [], _, _, _ => rfl
  | [], y :: m, _, _, h => by have := (h y).mpr (by simp); simp at this
  | x :: l, [], _, _, h => by have := (h x).mp (by simp); simp at this
  | x :: l, y :: m, h1, h2, h => by
    rw [List.pairwise_cons] at h1 h2
    have e : x = y := by
      have a := (h x).mp (by simp)
      have b := (h y).mpr (by simp)
      simp at a b
      rcases a with a | a
      · exact a
      · rcases b with b | b
        · exact b.symm
        · have := h1.1 y b
          have := h2.1 x a
          omega
    subst e
    congr 1
    refine sorted_ext h1.2 h2.2 fun z => ?_
    have hz := h z
    simp at hz
    constructor
    · intro q
      have := h1.1 z q
      rcases hz.mp (.inr q) with e | e
      · omega
      · exact e
    · intro q
      have := h2.1 z q
      rcases hz.mpr (.inr q) with e | e
      · omega
      · exact e
theorem mem_insI {x z : Int} : ∀ {l : List Int}, z ∈ insI x l ↔ z = x ∨ z ∈ l
  | [] => by simp [insI]
  | y :: l => by
    unfold insI
    split
    · simp
    · simp [mem_insI (l := l)]
      constructor
      · rintro (h | h | h) <;> simp [h]
      · rintro (h | h | h) <;> simp [h]
theorem mem_sortI {z : Int} : ∀ {l : List Int}, z ∈ sortI l ↔ z ∈ l
  | [] => by simp [sortI]
  | y :: l => by rw [sortI, mem_insI, mem_sortI, List.mem_cons]
theorem insI_lt {x : Int} : ∀ {l : List Int}, l.Pairwise (· < ·) → x ∉ l → (insI x l).Pairwise (· < ·)
  | [], _, _ => by simp [insI]
  | y :: l, h, hx => by
    unfold insI
    simp at hx
    rw [List.pairwise_cons] at h
    split
    · rw [List.pairwise_cons, List.pairwise_cons]
      refine ⟨fun z hz => ?_, h⟩
      simp at hz
      rcases hz with rfl | hz
      · omega
      · have := h.1 z hz; omega
    · rw [List.pairwise_cons]
      refine ⟨fun z hz => ?_, insI_lt h.2 hx.2⟩
      rw [mem_insI] at hz
      rcases hz with rfl | hz
      · omega
      · exact h.1 z hz
theorem sortI_lt : ∀ {l : List Int}, l.Nodup → (sortI l).Pairwise (· < ·)
  | [], _ => by simp [sortI]
  | y :: l, h => by
    rw [List.nodup_cons] at h
    rw [sortI]
    exact insI_lt (sortI_lt h.2) (by rw [mem_sortI]; exact h.1)
end Com

end
section
/-! ComA: the other drawing, and bits. -/
namespace ComA
open Pv P Com
@[simp] theorem intB_int (i : Int) : intB [.int i] = .ok (.int i) := Eq.trans rfl rfl
@[simp] theorem intB_bl (b : Bool) : intB [.bl b] = .ok (.int (if b then 1 else 0)) := Eq.trans rfl rfl
@[simp] theorem showI_0 : showI 0 = [48] := by decide
@[simp] theorem showI_1 : showI 1 = [49] := by decide
theorem strB_bit {b : Bool} : strB [.int (if b then 1 else 0)] = .ok (.str [if b then 49 else 48]) := by cases b <;> rfl
theorem strsOf_map (xs : List (List Nat)) : strsOf (xs.map D.str) = some xs := by
  induction xs with
  | nil => rfl
  | cons x xs ih =>
    show (strsOf (xs.map D.str)).map (x :: ·) = _
    rw [ih]; rfl
theorem joinL_nil : ∀ xs : List (List Nat), joinL [] xs = xs.flatten
  | [] => rfl
  | [x] => by simp [joinL]
  | x :: y :: xs => by
    show x ++ [] ++ joinL [] (y :: xs) = _
    rw [joinL_nil (y :: xs)]
    simp
theorem total_flat (xs : List (List Nat)) : totalLen xs = xs.flatten.length + xs.length := by
  unfold totalLen
  induction xs with
  | nil => rfl
  | cons x xs ih =>
    simp only [List.map_cons, List.sum_cons, List.flatten_cons, List.length_append, List.length_cons]
    omega
theorem join_ok (xs : List (List Nat)) (h : xs.flatten.length + xs.length ≤ 16777216) : joinB [.str [], .lst (xs.map D.str)] = .ok (.str xs.flatten) := by
  show ((R.ofO (strsOf (xs.map D.str))).bind fun ys => R.when (([] : List Nat).length * ys.length + totalLen ys ≤ line) (R.ok (D.str (joinL [] ys)))) = _
  rw [strsOf_map]
  show R.when (([] : List Nat).length * xs.length + totalLen xs ≤ line) (R.ok (D.str (joinL [] xs))) = _
  rw [R.when_pos, joinL_nil]
  rw [total_flat, List.length_nil]
  have : line = 16777216 := rfl
  omega
/-- bits: signs 0 and 1 -/
def isBits (s : List Nat) : Prop := ∀ x ∈ s, x = 48 ∨ x = 49
theorem draws_loop : ∀ (k : Nat) (i c n : Int) (w : Bool) (acc : List Int) (s4 s5 : Slot), acc.length + k ≤ 16777216 → (∀ x ∈ acc, 0 ≤ x ∧ x < 1000003) →
    ∃ (xs : List Int) (c' : Int) (r4 r5 : Slot), forB [] (.one 4) B0__law_draws (rangeD i 1 k) [.val (.int c), .val (.int n), .own (acc.map D.int), .val (.bl w), s4, s5] = .next [.val (.int c'), .val (.int n), .own (xs.map D.int), .val (.bl w), r4, r5] ∧
      xs.length = acc.length + k ∧ ∀ x ∈ xs, 0 ≤ x ∧ x < 1000003
  | 0, i, c, n, w, acc, s4, s5, _, h => ⟨acc, c, s4, s5, rfl, rfl, h⟩
  | k + 1, i, c, n, w, acc, s4, s5, hl, h => by
    cases w with
    | true =>
      obtain ⟨xs, c', r4, r5, e, l, hx⟩ := draws_loop k (i + 1) (c / 1009) n true (acc ++ [c % 1009]) (.val (.int i)) s5 (by simp; omega) (by
        intro x hx
        simp at hx
        rcases hx with hx | hx
        · exact h x hx
        · subst hx; omega)
      refine ⟨xs, c', r4, r5, ?_, by simp at l; omega, hx⟩
      rw [rangeD, forB_cons]
      have : acc.length < 16777216 := by omega
      simp [this]
      simpa using e
    | false =>
      obtain ⟨xs, c', r4, r5, e, l, hx⟩ := draws_loop k (i + 1) c n false (acc ++ [((c * 48271 + i * 69621) % 2147483647 * ((c * 48271 + i * 69621) % 2147483647) + c * 31 + i) % 1000003]) (.val (.int i)) (.val (.int ((c * 48271 + i * 69621) % 2147483647))) (by simp; omega) (by
        intro x hx
        simp at hx
        rcases hx with hx | hx
        · exact h x hx
        · subst hx; omega)
      refine ⟨xs, c', r4, r5, ?_, by simp at l; omega, hx⟩
      rw [rangeD, forB_cons]
      have : acc.length < 16777216 := by omega
      have h5 : -18446744073709551616 < ((c * 48271 + i * 69621) % 2147483647) ∧ ((c * 48271 + i * 69621) % 2147483647) < 18446744073709551616 := ⟨by omega, by omega⟩
      simp [this, h5.1, h5.2]
      simpa using e
/-- what is drawn of a number -/
theorem draws_ok (c n : Int) (hn : 0 ≤ n ∧ n ≤ 100000) : ∃ xs : List Int, g__law_draws [.int c, .int n] = .ok (.lst (xs.map D.int)) ∧ (xs.length : Int) = n ∧ ∀ x ∈ xs, 0 ≤ x ∧ x < 1000003 := by
  obtain ⟨xs, c', r4, r5, e, l, hx⟩ := draws_loop n.toNat 0 c n (decide (10 ^ 18 ≤ c)) [] .no .no (by simp; omega) (by simp)
  refine ⟨xs, evF_ret rfl ?_, by simp at l; omega, hx⟩
  have h1 : -4611686018427387904 ≤ n ∧ n ≤ 16777216 := ⟨by omega, by omega⟩
  simp [t__law_draws, h1]
  simp at e
  rw [e]
  simp
theorem bits_comp (F : List (List D → R D)) (z : Nat → Bool) (s0 s1 : Slot) (xs : List Int) (w : Int) : ∀ (n : Nat) (i : Int) (s4 : Slot), 0 ≤ i → i + n ≤ xs.length → ∃ ss : List (List Nat), cmpB F z (.one 4) E0__law_bits [s0, s1, .val (.lst (xs.map D.int)), .val (.int w), s4] (rangeD i 1 n) = .ok (ss.map D.str) ∧ ss.length = n ∧ ∀ s ∈ ss, s = [48] ∨ s = [49]
  | 0, i, s4, _, _ => ⟨[], by simp, rfl, by simp⟩
  | n + 1, i, s4, h0, h1 => by
    obtain ⟨ss, e, l, hs⟩ := bits_comp F z s0 s1 xs w n (i + 1) s4 (by omega) (by omega)
    refine ⟨[if decide (dr xs i.toNat % 5 < w) then 49 else 48] :: ss, ?_, by simp [l], ?_⟩
    · rw [rangeD_cons, cmpB_cons]
      simp (disch := first | omega | simp) [e, atI_map, strB_bit]
      have := strB_bit (b := decide (dr xs i.toNat % 5 < w))
      simp at this
      simp [this]
    · intro s hs'
      simp at hs'
      rcases hs' with h | h
      · subst h; split <;> simp
      · exact hs s h
theorem bits_ok (c n : Int) (hn : 0 ≤ n ∧ n ≤ 10000) : ∃ s : List Nat, g__law_bits [.int c, .int n] = .ok (.str s) ∧ (s.length : Int) ≤ n ∧ isBits s := by
  obtain ⟨xs, h, hl, hx⟩ := draws_ok c (n + 2) (by omega)
  have h1 := dr_in hx (i := n.toNat) (by omega)
  have h2 := dr_in hx (i := (n + 1).toNat) (by omega)
  have a1 := Int.emod_nonneg (dr xs n.toNat) (show n + 1 ≠ 0 by omega)
  have a2 := Int.emod_lt_of_pos (dr xs n.toNat) (show 0 < n + 1 by omega)
  obtain ⟨ss, e, l, hs⟩ := bits_comp [g__law_draws] (zOf []) (.val (.int c)) (.val (.int n)) xs (1 + dr xs (n + 1).toNat % 4) (dr xs n.toNat % (n + 1)).toNat 0 .no (by omega) (by omega)
  have hfl : ss.flatten.length = ss.length := by
    clear e l
    induction ss with
    | nil => rfl
    | cons s ss ih =>
      rw [List.flatten_cons, List.length_append, ih fun x hx => hs x (by simp [hx])]
      rcases hs s (by simp) with h | h <;> simp [h] <;> omega
  refine ⟨ss.flatten, evF_ret rfl ?_, by rw [hfl, l]; omega, ?_⟩
  · simp (disch := first | omega | simp) [t__law_bits, h, atI_map, range_len, e, join_ok, hfl]
  · intro x hx
    rw [List.mem_flatten] at hx
    obtain ⟨s, h1, h2⟩ := hx
    rcases hs s h1 with h | h
    · subst h; simp at h2; exact .inl h2
    · subst h; simp at h2; exact .inr h2
end ComA

end
section
/-! ComB: stuffing, frames, zeros, gaps. -/
namespace ComB
open Pv P Com ComA
theorem bstr {s : List Nat} : (List.map (fun c => D.str [c]) s) = s.map fun c => D.str [c] := rfl
def stf (l : Nat) : Nat → List Nat → List Nat
  | _, [] => []
  | o, b :: bs => if b = 49 then (if o + 1 = l then 49 :: 48 :: stf l 0 bs else 49 :: stf l (o + 1) bs) else (if 0 = l then b :: 48 :: stf l 0 bs else b :: stf l 0 bs)
theorem stf_len (l : Nat) : ∀ (s : List Nat) (o : Nat), (stf l o s).length ≤ 2 * s.length
  | [], _ => by simp [stf]
  | b :: bs, o => by
    have h1 := stf_len l bs 0
    have h2 := stf_len l bs (o + 1)
    unfold stf
    split <;> split <;> simp <;> omega
theorem stf_bits (l : Nat) : ∀ (s : List Nat) (o : Nat), isBits s → isBits (stf l o s)
  | [], _, _ => by simp [stf, isBits]
  | b :: bs, o, h => by
    have hb : b = 48 ∨ b = 49 := h b (by simp)
    have hs : isBits bs := fun x hx => h x (by simp [hx])
    have h1 := stf_bits l bs 0 hs
    have h2 := stf_bits l bs (o + 1) hs
    unfold stf
    intro x hx
    split at hx <;> split at hx <;> simp at hx
    · rcases hx with hx | hx | hx
      · exact .inr hx
      · exact .inl hx
      · exact h1 x hx
    · rcases hx with hx | hx
      · exact .inr hx
      · exact h2 x hx
    · rcases hx with hx | hx | hx
      · rw [hx]; exact hb
      · exact .inl hx
      · exact h1 x hx
    · rcases hx with hx | hx
      · rw [hx]; exact hb
      · exact h1 x hx
theorem stuff_loop (l : Nat) (s1 : Slot) : ∀ (s f : List Nat) (o : Nat) (s4 : Slot), f.length + 2 * s.length ≤ 16777216 → ∃ r3 r4 : Slot,
    forB [] (.one 4) B0_stuff (s.map fun c => .str [c]) [.val (.int l), s1, .val (.str f), .val (.int o), s4] = .next [.val (.int l), s1, .val (.str (f ++ stf l o s)), r3, r4]
  | [], f, o, s4, _ => ⟨_, s4, by simp [stf]; rfl⟩
  | b :: bs, f, o, s4, h => by
    simp at h
    rw [List.map_cons, forB_cons]
    unfold stf
    by_cases hb : b = 49
    · subst hb
      by_cases ho : o + 1 = l
      · obtain ⟨r3, r4, e⟩ := stuff_loop l s1 bs (f ++ [49, 48]) 0 (.val (.str [49])) (by simp; omega)
        refine ⟨r3, r4, ?_⟩
        have ho' : (o : Int) + 1 = (l : Int) := by omega
        simp (disch := first | omega | (simp; done) | (simp; omega)) [ho, ho']
        simp at e
        simp [e]
      · obtain ⟨r3, r4, e⟩ := stuff_loop l s1 bs (f ++ [49]) (o + 1) (.val (.str [49])) (by simp; omega)
        refine ⟨r3, r4, ?_⟩
        have ho' : ¬ (o : Int) + 1 = (l : Int) := by omega
        simp (disch := first | omega | (simp; done) | (simp; omega)) [ho, ho']
        simp at e
        simp [e]
    · by_cases ho : 0 = l
      · obtain ⟨r3, r4, e⟩ := stuff_loop l s1 bs (f ++ [b, 48]) 0 (.val (.str [b])) (by simp; omega)
        refine ⟨r3, r4, ?_⟩
        subst ho
        simp at e
        simp (disch := first | omega | (simp; done) | (simp; omega)) [hb, e]
      · obtain ⟨r3, r4, e⟩ := stuff_loop l s1 bs (f ++ [b]) 0 (.val (.str [b])) (by simp; omega)
        refine ⟨r3, r4, ?_⟩
        have ho' : ¬ (0 : Int) = (l : Int) := by omega
        simp (disch := first | omega | (simp; done) | (simp; omega)) [hb, ho, ho']
        simp at e
        simp [e]
theorem stuff_ok (l : Nat) (s : List Nat) (h : s.length ≤ 8000000) : g_stuff [.int l, .str s] = .ok (.str (stf l 0 s)) := by
  obtain ⟨r3, r4, e⟩ := stuff_loop l (.val (.str s)) s [] 0 .no (by simp; omega)
  refine evF_ret rfl ?_
  simp at e
  simp (disch := first | omega | simp) [t_stuff, e]
def flg (l : Nat) : List Nat := 48 :: (List.replicate (l + 1) 49 ++ [48])
theorem repL_one (c k : Nat) : repL [c] k = List.replicate k c := by
  unfold repL
  induction k with
  | zero => rfl
  | succ k ih => rw [List.replicate_succ, List.flatten_cons, ih, List.replicate_succ]; rfl
theorem flag_ok (l : Nat) (h : l ≤ 1000000) : g_flag_of [.int l] = .ok (.str (flg l)) := by
  refine evF_ret rfl ?_
  have e : ((l : Int) + 1).toNat = l + 1 := by omega
  simp (disch := first | omega | (simp; done) | (simp; omega)) [t_flag_of, repL_one, e, flg]
def frm (l : Nat) (s : List Nat) : List Nat := flg l ++ stf l 0 s ++ flg l
theorem flg_len (l : Nat) : (flg l).length = l + 3 := by simp [flg]
theorem frame_ok (l : Nat) (s : List Nat) (h : l ≤ 1000000) (hs : s.length ≤ 1000000) : g_frame_bits [.int l, .str s] = .ok (.str (frm l s)) := by
  refine evF_ret rfl ?_
  have := stf_len l s 0
  have := flg_len l
  simp (disch := first | omega | (simp; done) | (simp; omega)) [t_frame_bits, flag_ok l h, stuff_ok l s (by omega), frm]
/-! zeros, gaps -/
def zer : Nat → List Nat → List Int
  | _, [] => []
  | k, c :: cs => if c = 48 then (k : Int) :: zer (k + 1) cs else zer (k + 1) cs
def dif : List Int → List Int
  | x :: y :: r => (y - x) :: dif (y :: r)
  | _ => []
theorem zer_len : ∀ (s : List Nat) (k : Nat), (zer k s).length ≤ s.length
  | [], _ => by simp [zer]
  | c :: cs, k => by
    have := zer_len cs (k + 1)
    unfold zer
    split <;> simp <;> omega
theorem enumD_lenB : ∀ (xs : List D) (k : Nat), (enumD k xs).length = xs.length
  | [], _ => rfl
  | x :: xs, k => by simp [enumD_lenB xs]
theorem zeros_comp (F : List (List D → R D)) (z : Nat → Bool) (s0 : Slot) : ∀ (s : List Nat) (k : Nat) (s1 s2 : Slot),
    cmpIfB F z (.many [1, 2]) C1_zeros_of E0_zeros_of [s0, s1, s2] (enumD k (s.map fun c => .str [c])) = .ok ((zer k s).map D.int)
  | [], k, s1, s2 => by simp [zer]
  | c :: cs, k, s1, s2 => by
    rw [List.map_cons, enumD_cons, cmpIfB_cons]
    unfold zer
    by_cases h : c = 48
    · simp [zeros_comp F z s0 cs (k + 1), h]
    · simp [zeros_comp F z s0 cs (k + 1), h]
theorem zeros_ok (s : List Nat) (h : s.length ≤ 16777216) : g_zeros_of [.str s] = .ok (.lst ((zer 0 s).map D.int)) := by
  refine evF_ret rfl ?_
  simp (disch := first | omega | (simp; done) | (simp; omega)) [t_zeros_of, h, enumD_lenB, zeros_comp]
theorem cut_init {α : Type} (xs : List α) : cut xs none (some (-1)) = xs.dropLast := by
  unfold cut sIx
  simp only [List.drop_zero]
  rw [if_pos (by decide), List.dropLast_eq_take]
  congr 1
  omega
theorem gaps_comp (F : List (List D → R D)) (z : Nat → Bool) (s0 : Slot) : ∀ (rest pre : List Int) (s2 s3 : Slot),
    cmpB F z (.many [2, 3]) E0_gaps_of [s0, .val (.lst ((pre ++ rest).map D.int)), s2, s3] (enumD pre.length (rest.dropLast.map D.int)) = .ok ((dif rest).map D.int)
  | [], pre, s2, s3 => by simp [dif]
  | [x], pre, s2, s3 => by simp [dif]
  | x :: y :: r, pre, s2, s3 => by
    have ih := gaps_comp F z s0 (y :: r) (pre ++ [x]) s2 s3
    rw [List.append_assoc, List.length_append, List.length_singleton] at ih
    rw [List.dropLast_cons_of_ne_nil (by simp), List.map_cons, enumD_cons, cmpB_cons]
    have g : atI ((pre ++ x :: y :: r).map D.int) ((pre.length : Int) + 1) = some (.int y) := by
      rw [atI_nat (by omega)]
      have : ((pre.length : Int) + 1).toNat = pre.length + 1 := by omega
      rw [this]
      simp
    have ih' : cmpB F z (.many [2, 3]) E0_gaps_of [s0, .val (.lst ((pre ++ x :: y :: r).map D.int)), s2, s3] (enumD (pre.length + 1) ((y :: r).dropLast.map D.int)) = .ok ((dif (y :: r)).map D.int) := ih
    generalize hL : (pre ++ x :: y :: r).map D.int = L at *
    generalize hM : (y :: r).dropLast.map D.int = M at *
    simp [ih', g, dif]
theorem gaps_ok (s : List Nat) (h : s.length ≤ 16777216) : g_gaps_of [.str s] = .ok (.lst ((dif (zer 0 s)).map D.int)) := by
  refine evF_ret rfl ?_
  have hz := zer_len s 0
  have g := gaps_comp [g_zeros_of] (zOf []) (.val (.str s)) (zer 0 s) [] .no .no
  simp at g
  have hd : (cut ((zer 0 s).map D.int) none (some (-1))) = (zer 0 s).dropLast.map D.int := by rw [cut_init, List.map_dropLast]
  simp (disch := first | omega | (simp; done) | (simp; omega)) [t_gaps_of, zeros_ok s h, hd, enumD_lenB, g]
/-- distances of zeros, of a text behind a zero and d other signs -/
def gp : Nat → List Nat → List Int
  | _, [] => []
  | d, c :: cs => if c = 48 then ((d : Int) + 1) :: gp 0 cs else gp (d + 1) cs
theorem dif_zer : ∀ (s : List Nat) (k z : Nat), z < k → dif ((z : Int) :: zer k s) = gp (k - z - 1) s
  | [], k, z, _ => by simp [zer, gp, dif]
  | c :: cs, k, z, h => by
    unfold zer gp
    by_cases hc : c = 48
    · have e := dif_zer cs (k + 1) k (by omega)
      have e2 : k + 1 - k - 1 = 0 := by omega
      rw [e2] at e
      simp only [if_pos hc, dif, e]
      congr 1
      omega
    · have e := dif_zer cs (k + 1) z (by omega)
      have e2 : k + 1 - z - 1 = k - z - 1 + 1 := by omega
      rw [e2] at e
      simp only [if_neg hc, e]
theorem gaps_of_zero (s : List Nat) : dif (zer 0 (48 :: s)) = gp 0 s := by
  have := dif_zer s 1 0 (by omega)
  simpa [zer] using this
theorem gp_ones (m : Nat) (t : List Nat) : ∀ d, gp d (List.replicate m 49 ++ 48 :: t) = ((d + m : Nat) + 1 : Int) :: gp 0 t := by
  induction m with
  | zero => intro d; simp [gp]
  | succ m ih =>
    intro d
    rw [List.replicate_succ, List.cons_append]
    rw [gp, if_neg (by decide), ih (d + 1)]
    congr 1
    omega
theorem gp_app (t : List Nat) : ∀ (s : List Nat) (d : Nat), gp d (s ++ 48 :: t) = gp d (s ++ [48]) ++ gp 0 t
  | [], d => by simp [gp]
  | c :: cs, d => by
    rw [List.cons_append, List.cons_append, gp, gp]
    by_cases h : c = 48
    · simp [h, gp_app t cs 0]
    · simp [h, gp_app t cs (d + 1)]
theorem gp_sum : ∀ (s : List Nat) (d : Nat), (gp d (s ++ [48])).sum = d + s.length + 1
  | [], d => by simp [gp]
  | c :: cs, d => by
    rw [List.cons_append]
    unfold gp
    by_cases h : c = 48
    · simp [h, gp_sum cs 0]; omega
    · simp [h, gp_sum cs (d + 1)]; omega
theorem gp_stf (l : Nat) (hl : 0 < l) : ∀ (s : List Nat) (o : Nat), isBits s → o < l → ∀ x ∈ gp o (stf l o s ++ [48]), 1 ≤ x ∧ x ≤ (l : Int) + 1
  | [], o, _, ho => by simp [stf, gp]; omega
  | b :: bs, o, h, ho => by
    have hb : b = 48 ∨ b = 49 := h b (by simp)
    have hs : isBits bs := fun x hx => h x (by simp [hx])
    unfold stf
    rcases hb with rfl | rfl
    · have : ¬ 0 = l := by omega
      simp [this, gp]
      exact ⟨by omega, fun x hx => gp_stf l hl bs 0 hs hl x hx⟩
    · by_cases hz : o + 1 = l
      · simp [hz, gp]
        exact ⟨by omega, fun x hx => gp_stf l hl bs 0 hs hl x hx⟩
      · simp [hz, gp]
        exact fun x hx => gp_stf l hl bs (o + 1) hs (by omega) x hx
theorem gp_ne (s : List Nat) (d : Nat) : gp d (s ++ [48]) ≠ [] := by
  intro h
  have := gp_sum s d
  rw [h] at this
  simp at this
  omega
theorem gaps_frm (l : Nat) (s : List Nat) : dif (zer 0 (frm l s)) = ((l : Int) + 2) :: (gp 0 (stf l 0 s ++ [48]) ++ [(l : Int) + 2]) := by
  have e : frm l s = 48 :: (List.replicate (l + 1) 49 ++ 48 :: (stf l 0 s ++ 48 :: (List.replicate (l + 1) 49 ++ [48]))) := by
    simp [frm, flg]
  rw [e, gaps_of_zero, gp_ones, gp_app, gp_ones]
  simp [gp]
  omega
@[simp] theorem atI_last2 {α : Type} (x z : α) (l : List α) : atI (x :: (l ++ [z])) (-1) = some z := by
  rw [← List.cons_append]
  exact atI_app _ _
theorem intsOf_map (xs : List Int) : intsOf (xs.map D.int) = some xs := by
  induction xs with
  | nil => rfl
  | cons x xs ih =>
    show (intsOf (xs.map D.int)).map (x :: ·) = _
    rw [ih]; rfl
theorem sumB_tup (xs : List Int) : sumB [.tup (xs.map D.int)] = .ok (.int xs.sum) := by
  show (R.ofO (intsOf _)).bind _ = _
  rw [intsOf_map]; rfl
theorem sumB_ints (xs : List Int) : sumB [.lst (xs.map D.int)] = .ok (.int xs.sum) := by
  show ((R.ofO (intsOf (xs.map D.int))).bind fun ns => R.ok (D.int ns.sum)) = _
  rw [intsOf_map]; rfl
theorem maxB_ints (x : Int) (xs : List Int) : maxB [.lst ((x :: xs).map D.int)] = .ok (.int (maxL x xs)) := by
  show most1 maxL (intsOf ((x :: xs).map D.int)) = _
  rw [intsOf_map]; rfl
theorem minB_ints (x : Int) (xs : List Int) : minB [.lst ((x :: xs).map D.int)] = .ok (.int (minL x xs)) := by
  show most1 minL (intsOf ((x :: xs).map D.int)) = _
  rw [intsOf_map]; rfl
theorem maxB_tup (x : Int) (xs : List Int) : maxB [.tup ((x :: xs).map D.int)] = .ok (.int (maxL x xs)) := by
  show most1 maxL (intsOf ((x :: xs).map D.int)) = _
  rw [intsOf_map]; rfl
theorem minB_tup (x : Int) (xs : List Int) : minB [.tup ((x :: xs).map D.int)] = .ok (.int (minL x xs)) := by
  show most1 minL (intsOf ((x :: xs).map D.int)) = _
  rw [intsOf_map]; rfl
theorem maxL_le {b : Int} : ∀ (xs : List Int) (m : Int), m ≤ b → (∀ x ∈ xs, x ≤ b) → maxL m xs ≤ b
  | [], m, h, _ => h
  | x :: xs, m, h, h2 => by
    rw [maxL]
    refine maxL_le xs _ ?_ fun y hy => h2 y (by simp [hy])
    have := h2 x (by simp)
    split <;> omega
theorem le_minL {b : Int} : ∀ (xs : List Int) (m : Int), b ≤ m → (∀ x ∈ xs, b ≤ x) → b ≤ minL m xs
  | [], m, h, _ => h
  | x :: xs, m, h, h2 => by
    rw [minL]
    refine le_minL xs _ ?_ fun y hy => h2 y (by simp [hy])
    have := h2 x (by simp)
    split <;> omega
theorem le_maxL : ∀ (xs : List Int) (m : Int), m ≤ maxL m xs ∧ ∀ x ∈ xs, x ≤ maxL m xs
  | [], m => by simp [maxL]
  | x :: xs, m => by
    rw [maxL]
    have h3 : m ≤ (if x > m then x else m) ∧ x ≤ (if x > m then x else m) := by split <;> omega
    obtain ⟨h1, h2⟩ := le_maxL xs (if x > m then x else m)
    generalize (if x > m then x else m) = t at *
    refine ⟨by omega, fun y hy => ?_⟩
    simp at hy
    rcases hy with rfl | hy
    · omega
    · exact h2 y hy
theorem minL_le : ∀ (xs : List Int) (m : Int), minL m xs ≤ m ∧ ∀ x ∈ xs, minL m xs ≤ x
  | [], m => by simp [minL]
  | x :: xs, m => by
    rw [minL]
    have h3 : (if x < m then x else m) ≤ m ∧ (if x < m then x else m) ≤ x := by split <;> omega
    obtain ⟨h1, h2⟩ := minL_le xs (if x < m then x else m)
    generalize (if x < m then x else m) = t at *
    refine ⟨by omega, fun y hy => ?_⟩
    simp at hy
    rcases hy with rfl | hy
    · omega
    · exact h2 y hy
theorem maxL_memB : ∀ (xs : List Int) (m : Int), maxL m xs = m ∨ maxL m xs ∈ xs
  | [], m => .inl rfl
  | x :: xs, m => by
    rw [maxL]
    rcases maxL_memB xs (if x > m then x else m) with h | h
    · rw [h]; split <;> simp
    · exact .inr (by simp [h])
theorem minL_memB : ∀ (xs : List Int) (m : Int), minL m xs = m ∨ minL m xs ∈ xs
  | [], m => .inl rfl
  | x :: xs, m => by
    rw [minL]
    rcases minL_memB xs (if x < m then x else m) with h | h
    · rw [h]; split <;> simp
    · exact .inr (by simp [h])
theorem cut_mid {α : Type} (a b : α) (m : List α) : cut (a :: (m ++ [b])) (some 1) (some (-1)) = m := by
  unfold cut sIx
  simp
  have : (-1 + ((m.length : Int) + 1 + 1)).toNat - 1 = m.length := by omega
  rw [this]
  simp
/-! what was stuffed -/
def ust (l : Nat) : Nat → List Nat → Option (List Nat)
  | o, [] => if o = l then none else some []
  | o, b :: bs => if o = l then (if b = 49 then none else ust l 0 bs) else (ust l (if b = 49 then o + 1 else 0) bs).map (b :: ·)
def oStr : Option (List Nat) → D
  | none => .non
  | some t => .str t
theorem ust_stf (l : Nat) (hl : 0 < l) : ∀ (s : List Nat) (o : Nat) (t : List Nat), isBits s → o ≤ l → ust l o s = some t → (if o = l then 48 :: stf l 0 t else stf l o t) = s
  | [], o, t, _, ho, h => by
    unfold ust at h
    split at h
    · cases h
    · rename_i q
      cases h
      rw [if_neg q, stf]
  | b :: bs, o, t, hb, ho, h => by
    have hbs : isBits bs := fun x hx => hb x (by simp [hx])
    have hb0 : b = 48 ∨ b = 49 := hb b (by simp)
    unfold ust at h
    by_cases q : o = l
    · rw [if_pos q] at h ⊢
      rcases hb0 with rfl | rfl
      · rw [if_neg (by decide)] at h
        have ih := ust_stf l hl bs 0 t hbs (by omega) h
        rw [if_neg (by omega)] at ih
        rw [ih]
      · simp at h
    · rw [if_neg q] at h ⊢
      cases h2 : ust l (if b = 49 then o + 1 else 0) bs with
      | none => rw [h2] at h; cases h
      | some u =>
        rw [h2] at h
        cases h
        have ih := ust_stf l hl bs _ u hbs (by split <;> omega) h2
        unfold stf
        rcases hb0 with rfl | rfl
        · have e0 : ¬ 0 = l := by omega
          simp [e0] at ih ⊢
          exact ih
        · simp at ih ⊢
          split <;> simp_all
theorem unstuff_loop (l : Nat) (s1 : Slot) : ∀ (s f : List Nat) (o : Nat) (s4 : Slot), f.length + s.length ≤ 16777216 →
    seqR [] (.cons (.ret (.ite (.op2 .eq (.var 3) (.var 0)) .non (.var 2)) []) .nil) (forB [] (.one 4) B0_unstuff (s.map fun c => .str [c]) [.val (.int l), s1, .val (.str f), .val (.int o), s4]) = .ret (oStr ((ust l o s).map (f ++ ·)))
  | [], f, o, s4, _ => by
    unfold ust
    by_cases h : o = l
    · simp [h, oStr]
    · have h2 : ¬ (o : Int) = (l : Int) := by omega
      simp [h, h2, oStr]
  | b :: bs, f, o, s4, h => by
    simp at h
    rw [List.map_cons, forB_cons]
    unfold ust
    by_cases hq : o = l
    · subst hq
      by_cases hb : b = 49
      · subst hb
        simp [oStr]
      · have ih := unstuff_loop o s1 bs f 0 (.val (.str [b])) (by omega)
        simp at ih
        simp [hb, ih]
    · have hq2 : ¬ (o : Int) = (l : Int) := by omega
      by_cases hb : b = 49
      · subst hb
        have ih := unstuff_loop l s1 bs (f ++ [49]) (o + 1) (.val (.str [49])) (by simp; omega)
        simp at ih
        simp (disch := first | omega | (simp; done) | (simp; omega)) [hq, hq2, ih]
        cases ust l (o + 1) bs <;> rfl
      · have ih := unstuff_loop l s1 bs (f ++ [b]) 0 (.val (.str [b])) (by simp; omega)
        simp at ih
        simp (disch := first | omega | (simp; done) | (simp; omega)) [hq, hq2, hb, ih]
        cases ust l 0 bs <;> rfl
theorem unstuff_ok (l : Nat) (s : List Nat) (h : s.length ≤ 16777216) : g_unstuff [.int l, .str s] = .ok (oStr (ust l 0 s)) := by
  refine evF_ret rfl ?_
  have e := unstuff_loop l (.val (.str s)) s [] 0 .no (by simpa using h)
  simp only [List.nil_append] at e
  have i : (ust l 0 s).map (fun x => x) = ust l 0 s := by cases ust l 0 s <;> rfl
  rw [i] at e
  have h' : s.length ≤ 16777216 := h
  have e' : ((0 : Nat) : Int) = 0 := rfl
  rw [e'] at e
  simp [t_unstuff, h', e]
end ComB

end
/-! K13: the texts -/
namespace K13
open Pv
-- _law_longer: 0 _law_rows, 1 _law_made, 2 _law_bits
def B0__law_longer : ISs := (.cons (.app 1 (.op2 .add (.var 2) (.str [48]))) (.cons (.app 1 (.op2 .add (.var 2) (.str [49]))) .nil))
@[simp] theorem u_B0__law_longer {F : List (List D → R D)} {ρ : Env} : evSs F B0__law_longer ρ = evSs F (.cons (.app 1 (.op2 .add (.var 2) (.str [48]))) (.cons (.app 1 (.op2 .add (.var 2) (.str [49]))) .nil)) ρ := Eq.trans rfl rfl
def t__law_longer : Fn := ⟨1, 3, (.cons (.asgL 1 (.lst .nil) []) (.cons (.forr (.seq (.var 0)) (.one 2) B0__law_longer []) (.cons (.ret (.var 1) [1]) .nil)))⟩
def g__law_longer : List D → R D := evF [] t__law_longer
-- _law_all: 0 _law_size, 1 _law_found, 2 _law_turn
def B0__law_all : ISs := (.cons (.asg 1 (.call 0 (.cons (.var 1) .nil)) []) .nil)
@[simp] theorem u_B0__law_all {F : List (List D → R D)} {ρ : Env} : evSs F B0__law_all ρ = evSs F (.cons (.asg 1 (.call 0 (.cons (.var 1) .nil)) []) .nil) ρ := Eq.trans rfl rfl
def t__law_all : Fn := ⟨1, 3, (.cons (.asg 1 (.lst (.cons (.str []) .nil)) []) (.cons (.forr (.rng (.cons (.var 0) .nil)) (.one 2) B0__law_all []) (.cons (.ret (.var 1) []) .nil)))⟩
def g__law_all : List D → R D := evF [g__law_longer] t__law_all
-- counts: 0 limit, 1 size, 2 counter, 3 zeros
def E0_counts : IE := (.call 2 (.cons (.var 2) (.cons (.var 1) (.cons (.int 0) (.cons (.var 3) .nil)))))
@[simp] theorem u_E0_counts {F : List (List D → R D)} {z : Nat → Bool} {ρ : Env} : evE F z ρ E0_counts = evE F z ρ (.call 2 (.cons (.var 2) (.cons (.var 1) (.cons (.int 0) (.cons (.var 3) .nil))))) := Eq.trans rfl rfl
def t_counts : Fn := ⟨2, 4, (.cons (.asg 2 (.call 0 (.cons (.var 0) .nil)) []) (.cons (.ret (.comp (.rng (.cons (.op2 .add (.call 1 (.cons (.var 0) (.cons (.var 1) .nil))) (.int 1)) .nil)) (.one 3) E0_counts [3]) []) .nil))⟩
def g_counts (L0 : Int) : List D → R D := evF [(newC L0), P.g_greatest_stuffing, (cntC 25)] t_counts
-- shared_divisor: 0 one, 1 two
def C0_shared_divisor : IE := (.op2 .gt (.var 1) (.int 0))
@[simp] theorem u_C0_shared_divisor {F : List (List D → R D)} {z : Nat → Bool} {ρ : Env} : evE F z ρ C0_shared_divisor = evE F z ρ (.op2 .gt (.var 1) (.int 0)) := Eq.trans rfl rfl
def B1_shared_divisor : ISs := (.cons (.par 0 1 (.var 1) (.op2 .mod (.var 0) (.var 1)) []) .nil)
@[simp] theorem u_B1_shared_divisor {F : List (List D → R D)} {ρ : Env} : evSs F B1_shared_divisor ρ = evSs F (.cons (.par 0 1 (.var 1) (.op2 .mod (.var 0) (.var 1)) []) .nil) ρ := Eq.trans rfl rfl
def t_shared_divisor : Fn := ⟨2, 2, (.cons (.whl C0_shared_divisor B1_shared_divisor 1000000) (.cons (.ret (.var 0) []) .nil))⟩
def g_shared_divisor : List D → R D := evF [] t_shared_divisor
-- mean_stuffing: 0 limit, 1 size, 2 rows, 3 total, 4 divisor, 5 zeros, 6 count
def E0_mean_stuffing : IE := (.op2 .mul (.var 5) (.var 6))
@[simp] theorem u_E0_mean_stuffing {F : List (List D → R D)} {z : Nat → Bool} {ρ : Env} : evE F z ρ E0_mean_stuffing = evE F z ρ (.op2 .mul (.var 5) (.var 6)) := Eq.trans rfl rfl
def t_mean_stuffing : Fn := ⟨2, 7, (.cons (.asg 2 (.call 0 (.cons (.var 0) (.cons (.var 1) .nil))) []) (.cons (.asg 3 (.blt .sum (.cons (.comp (.enm (.var 2)) (.many [5, 6]) E0_mean_stuffing [5, 6]) .nil)) []) (.cons (.asg 4 (.call 1 (.cons (.blt .sum (.cons (.var 2) .nil)) (.cons (.var 3) .nil))) []) (.cons (.ret (.tup (.cons (.op2 .div (.var 3) (.var 4)) (.cons (.op2 .div (.blt .sum (.cons (.var 2) .nil)) (.var 4)) .nil))) []) .nil))))⟩
def g_mean_stuffing (L0 : Int) : List D → R D := evF [(g_counts L0), g_shared_divisor] t_mean_stuffing
-- length_bounds: 0 limit, 1 size, 2 flags
def t_length_bounds : Fn := ⟨2, 3, (.cons (.asg 2 (.op2 .mul (.int 2) (.op2 .add (.var 0) (.int 3))) []) (.cons (.ret (.tup (.cons (.op2 .add (.var 2) (.var 1)) (.cons (.op2 .add (.op2 .add (.var 2) (.var 1)) (.call 0 (.cons (.var 0) (.cons (.var 1) .nil)))) .nil))) []) .nil))⟩
def g_length_bounds : List D → R D := evF [P.g_greatest_stuffing] t_length_bounds
-- payloads_by_length: 0 limit, 1 size, 2 length, 3 zeros
def t_payloads_by_length : Fn := ⟨3, 4, (.cons (.asg 3 (.op2 .sub (.var 2) (.op2 .ix (.call 0 (.cons (.var 0) (.cons (.var 1) .nil))) (.int 0))) []) (.cons (.ret (.call 1 (.cons (.call 2 (.cons (.var 0) .nil)) (.cons (.var 1) (.cons (.int 0) (.cons (.var 3) .nil))))) []) .nil))⟩
def g_payloads_by_length (L0 : Int) : List D → R D := evF [g_length_bounds, (cntC 25), (newC L0)] t_payloads_by_length
-- law: 0 _law_script, 1 _law_limit, 2 _law_size, 3 _law_payloads, 4 _law_zeros, 5 _law_told, 6 _law_due, 7 _law_top, 8 _law_bottom, 9 _law_k, 10 _law_lengths, 11 _law_low, 12 _law_high, 13 _law_length, 14 _law_bits
def E0_law : IE := (.op2 .sub (.blt .len (.cons (.call 2 (.cons (.var 1) (.cons (.var 14) .nil))) .nil)) (.blt .len (.cons (.var 14) .nil)))
@[simp] theorem u_E0_law {F : List (List D → R D)} {z : Nat → Bool} {ρ : Env} : evE F z ρ E0_law = evE F z ρ (.op2 .sub (.blt .len (.cons (.call 2 (.cons (.var 1) (.cons (.var 14) .nil))) .nil)) (.blt .len (.cons (.var 14) .nil))) := Eq.trans rfl rfl
def E1_law : IE := (.blt .count (.cons (.var 4) (.cons (.var 9) .nil)))
@[simp] theorem u_E1_law {F : List (List D → R D)} {z : Nat → Bool} {ρ : Env} : evE F z ρ E1_law = evE F z ρ (.blt .count (.cons (.var 4) (.cons (.var 9) .nil))) := Eq.trans rfl rfl
def B2_law : ISs := (.cons (.ite (.and (.op2 .eq (.op2 .mod (.var 7) (.var 9)) (.int 0)) (.op2 .eq (.op2 .mod (.var 8) (.var 9)) (.int 0))) (.cons (.ret (.bl false) []) .nil) .nil) .nil)
@[simp] theorem u_B2_law {F : List (List D → R D)} {ρ : Env} : evSs F B2_law ρ = evSs F (.cons (.ite (.and (.op2 .eq (.op2 .mod (.var 7) (.var 9)) (.int 0)) (.op2 .eq (.op2 .mod (.var 8) (.var 9)) (.int 0))) (.cons (.ret (.bl false) []) .nil) .nil) .nil) ρ := Eq.trans rfl rfl
def E3_law : IE := (.blt .len (.cons (.call 5 (.cons (.var 1) (.cons (.var 14) .nil))) .nil))
@[simp] theorem u_E3_law {F : List (List D → R D)} {z : Nat → Bool} {ρ : Env} : evE F z ρ E3_law = evE F z ρ (.blt .len (.cons (.call 5 (.cons (.var 1) (.cons (.var 14) .nil))) .nil)) := Eq.trans rfl rfl
def B4_law : ISs := (.cons (.ite (.op2 .ne (.call 7 (.cons (.var 1) (.cons (.var 2) (.cons (.var 13) .nil)))) (.blt .count (.cons (.var 10) (.cons (.var 13) .nil)))) (.cons (.ret (.bl false) []) .nil) .nil) .nil)
@[simp] theorem u_B4_law {F : List (List D → R D)} {ρ : Env} : evSs F B4_law ρ = evSs F (.cons (.ite (.op2 .ne (.call 7 (.cons (.var 1) (.cons (.var 2) (.cons (.var 13) .nil)))) (.blt .count (.cons (.var 10) (.cons (.var 13) .nil)))) (.cons (.ret (.bl false) []) .nil) .nil) .nil) ρ := Eq.trans rfl rfl
def t_law : Fn := ⟨1, 15, (.cons (.asg 1 (.op2 .add (.int 2) (.op2 .mod (.call 0 (.cons (.var 0) (.cons (.int 0) .nil))) (.int 6))) []) (.cons (.asg 2 (.op2 .mod (.call 0 (.cons (.var 0) (.cons (.int 1) .nil))) (.int 11)) []) (.cons (.asg 3 (.call 1 (.cons (.var 2) .nil)) []) (.cons (.asgL 4 (.comp (.seq (.var 3)) (.one 14) E0_law [14]) []) (.cons (.asg 5 (.call 3 (.cons (.var 1) (.cons (.var 2) .nil))) []) (.cons (.asgL 6 (.comp (.rng (.cons (.op2 .add (.op2 .div (.var 2) (.var 1)) (.int 1)) .nil)) (.one 9) E1_law [9]) [4]) (.cons (.ite (.or (.not (.isinst .list (.var 5))) (.or (.op2 .ne (.var 5) (.var 6)) (.op2 .ne (.blt .sum (.cons (.var 5) .nil)) (.blt .len (.cons (.var 3) .nil))))) (.cons (.ret (.bl false) []) .nil) .nil) (.cons (.unp [7, 8] (.call 4 (.cons (.var 1) (.cons (.var 2) .nil))) []) (.cons (.ite (.or (.op2 .ne (.op2 .mul (.var 7) (.blt .len (.cons (.var 3) .nil))) (.op2 .mul (.blt .sum (.cons (.var 4) .nil)) (.var 8))) (.or (.op2 .lt (.var 8) (.int 1)) (.and (.op2 .eq (.var 7) (.int 0)) (.op2 .ne (.var 8) (.int 1))))) (.cons (.ret (.bl false) []) .nil) .nil) (.cons (.forr (.rng (.cons (.int 2) (.cons (.op2 .add (.var 8) (.int 1)) .nil))) (.one 9) B2_law []) (.cons (.asgL 10 (.comp (.seq (.var 3)) (.one 14) E3_law [14]) []) (.cons (.unp [11, 12] (.call 6 (.cons (.var 1) (.cons (.var 2) .nil))) []) (.cons (.ite (.or (.op2 .ne (.var 11) (.blt .min (.cons (.var 10) .nil))) (.op2 .ne (.var 12) (.blt .max (.cons (.var 10) .nil)))) (.cons (.ret (.bl false) []) .nil) .nil) (.cons (.forr (.rng (.cons (.op2 .sub (.var 11) (.int 2)) (.cons (.op2 .add (.var 12) (.int 3)) .nil))) (.one 13) B4_law []) (.cons (.ret (.op2 .eq (.call 8 (.cons (.var 1) (.cons (.op2 .ix (.var 3) (.neg (.int 1))) .nil))) (.op2 .ix (.var 4) (.neg (.int 1)))) [4]) .nil)))))))))))))))⟩
def g_law (L0 : Int) : List D → R D := evF [P.g__law_cell, g__law_all, P.g_stuff, (g_counts L0), (g_mean_stuffing L0), P.g_frame_bits, g_length_bounds, (g_payloads_by_length L0), P.g_zeros_in] t_law
end K13

-- needs: ComA ComB
namespace K13
open Pv P Com ComA ComB
/-! zeros, counts, ranks -/
def zr (L : Nat) : Nat → List Nat → Nat
  | _, [] => 0
  | o, b :: bs => if b = 49 then (if o + 1 = L then 1 + zr L 0 bs else zr L (o + 1) bs) else zr L 0 bs
theorem stf_zr (L : Nat) (hL : 1 ≤ L) : ∀ (s : List Nat) (o : Nat), (stf L o s).length = s.length + zr L o s
  | [], _ => rfl
  | b :: bs, o => by
    have h1 := stf_zr L hL bs 0
    have h2 := stf_zr L hL bs (o + 1)
    unfold stf zr
    by_cases c : b = 49
    · rw [if_pos c, if_pos c]
      by_cases q : o + 1 = L
      · rw [if_pos q, if_pos q]; simp [h1]; omega
      · rw [if_neg q, if_neg q]; simp [h2]; omega
    · rw [if_neg c, if_neg c, if_neg (by omega)]; simp [h1]; omega
def ct (L : Nat) (l r : Nat) (z : Int) : Int := cntN L l r z
theorem ct_0 (L r : Nat) (z : Int) : ct L 0 r z = if z = 0 then 1 else 0 := rfl
theorem ct_neg (L : Nat) : ∀ (l r : Nat) {z : Int}, z < 0 → ct L l r z = 0
  | 0, r, z, h => by rw [ct_0, if_neg (by omega)]
  | l + 1, r, z, h => by
    show cntN L (l + 1) r z = 0
    rw [cntN, if_pos h]
theorem ct_s (L l r : Nat) {z : Int} (h : 0 ≤ z) : ct L (l + 1) r z = ct L l 0 z + (if r + 1 = L then ct L l 0 (z - 1) else ct L l (r + 1) z) := by
  show cntN L (l + 1) r z = _
  rw [cntN, if_neg (by omega)]
  by_cases c : r + 1 = L
  · rw [if_pos (by omega), if_pos c]; rfl
  · rw [if_neg (by omega), if_neg c]; rfl
theorem ct_nn (L : Nat) : ∀ (l r : Nat) (z : Int), 0 ≤ ct L l r z
  | 0, r, z => by rw [ct_0]; split <;> omega
  | l + 1, r, z => by
    by_cases h : z < 0
    · rw [ct_neg L _ _ h]; omega
    · rw [ct_s L l r (by omega)]
      have h1 := ct_nn L l 0 z
      have h2 := ct_nn L l 0 (z - 1)
      have h3 := ct_nn L l (r + 1) z
      split <;> omega
theorem zr_le (L : Nat) : ∀ (s : List Nat) (o : Nat), zr L o s ≤ s.length
  | [], _ => by simp [zr]
  | b :: bs, o => by
    have h1 := zr_le L bs 0
    have h2 := zr_le L bs (o + 1)
    unfold zr
    rw [List.length_cons]
    split
    · split <;> omega
    · omega
/-! the defs -/
theorem cc_ok (L l r : Nat) {z : Int} (hl : l < 25) (hr : r + l ≤ 100) (hz : -1000 ≤ z ∧ z ≤ 100) : cntC 25 [.cnt L, .int l, .int r, .int z] = .ok (.int (ct L l r z)) := by
  show R.when _ _ = _
  rw [R.when_pos ⟨⟨by omega, by omega⟩, ⟨by omega, by omega⟩, by omega, by omega⟩]
  by_cases c : z < 0
  · rw [if_pos c, ct_neg L l r c]
  · rw [if_neg c]; rfl
theorem nc_ok (L : Nat) : newC L [.int L] = .ok (.cnt L) := if_pos rfl
def rowsD (L sz : Nat) : List D := (List.range' 0 (sz / L + 1)).map fun z => D.int (ct L sz 0 (z : Nat))
theorem row_cmp (F : List (List D → R D)) (f2 : F[2]? = some (cntC 25)) (zz : Nat → Bool) (L sz : Nat) (hs : sz ≤ 24) (s0 : Slot) : ∀ (n i : Nat) (s3 : Slot), i + n ≤ 100 → cmpB F zz (.one 3) E0_counts [s0, .val (.int sz), .val (.cnt L), s3] (rangeD (i : Nat) 1 n) = .ok ((List.range' i n).map fun z => D.int (ct L sz 0 (z : Nat)))
  | 0, i, s3, _ => by simp
  | n + 1, i, s3, h => by
    have ih := fun s3 => row_cmp F f2 zz L sz hs s0 n (i + 1) s3 (by omega)
    have e1 : ((i + 1 : Nat) : Int) = (i : Int) + 1 := by omega
    rw [e1] at ih
    have c := cc_ok L sz 0 (z := (i : Nat)) (by omega) (by omega) (by omega)
    have c0 : ((0 : Nat) : Int) = 0 := rfl
    rw [c0] at c
    rw [rangeD_cons, cmpB_cons, List.range'_succ, List.map_cons]
    generalize (List.range' (i + 1) n).map (fun z => D.int (ct L sz 0 (z : Nat))) = TT at *
    simp (disch := first | omega | (simp; done) | (simp; omega)) [ih, f2, c]
theorem counts_ok (L sz : Nat) (hL : 2 ≤ L ∧ L ≤ 7) (hs : sz ≤ 24) : g_counts L [.int L, .int sz] = .ok (.lst (rowsD L sz)) := by
  have dv : sz / L ≤ 24 := Nat.le_trans (Nat.div_le_self _ _) hs
  have f0 : [newC L, P.g_greatest_stuffing, cntC 25][0]? = some (newC L) := rfl
  have f1 : [newC L, P.g_greatest_stuffing, cntC 25][1]? = some P.g_greatest_stuffing := rfl
  have f2 : [newC L, P.g_greatest_stuffing, cntC 25][2]? = some (cntC 25) := rfl
  have gs : P.g_greatest_stuffing [.int L, .int sz] = .ok (.int ((sz / L : Nat) : Int)) := by
    refine evF_ret rfl ?_
    have c : ¬ (L : Int) = 0 := by omega
    simp [t_greatest_stuffing, c]
    first
      | done
      | (rw [R.when_pos ⟨by omega, by omega⟩]; simp)
  have nc := nc_ok L
  have rc := fun F f2 zz s0 s3 => row_cmp F f2 zz L sz hs s0 (sz / L + 1) 0 s3 (by omega)
  have rc2 := fun zz s0 s3 => rc [newC L, P.g_greatest_stuffing, cntC 25] f2 zz s0 s3
  have c0 : ((0 : Nat) : Int) = 0 := rfl
  rw [c0] at rc2
  have tn : (((sz / L : Nat) : Int) + 1).toNat = sz / L + 1 := by
    generalize sz / L = q
    omega
  have rl : (rangeD 0 1 (sz / L + 1)).length ≤ 16777216 := by rw [range_len]; omega
  clear rc
  refine evF_ret rfl ?_
  show evSs [newC L, P.g_greatest_stuffing, cntC 25] t_counts.body _ = .ret (.lst ((List.range' 0 (sz / L + 1)).map fun z => D.int (ct L sz 0 (z : Nat))))
  generalize (List.range' 0 (sz / L + 1)).map (fun z => D.int (ct L sz 0 (z : Nat))) = TT at *
  generalize [newC L, P.g_greatest_stuffing, cntC 25] = F at *
  generalize sz / L = q at *
  simp (disch := first | omega | (simp; done) | (simp; omega)) [t_counts, f0, f1, f2, gs, nc, rc2, tn]
  first
    | done
    | (rw [R.when_pos rl]; done)
    | (rw [R.when_pos rl]; simp)
/-! all payloads of a size -/
def allF : Nat → List (List Nat)
  | 0 => [[]]
  | n + 1 => (allF n).map (48 :: ·) ++ (allF n).map (49 :: ·)
def lonG (xs : List (List Nat)) : List (List Nat) := xs.flatMap fun b => [b ++ [48], b ++ [49]]
theorem lon_map (c : Nat) (xs : List (List Nat)) : lonG (xs.map (c :: ·)) = (lonG xs).map (c :: ·) := by
  induction xs with
  | nil => rfl
  | cons x xs ih =>
    unfold lonG at ih ⊢
    rw [List.map_cons, List.flatMap_cons, List.flatMap_cons, ih, List.map_append]
    rfl
theorem lon_app (xs ys : List (List Nat)) : lonG (xs ++ ys) = lonG xs ++ lonG ys := by unfold lonG; rw [List.flatMap_append]
theorem all_lon : ∀ n : Nat, lonG (allF n) = allF (n + 1)
  | 0 => rfl
  | n + 1 => by
    have ih := all_lon n
    show lonG ((allF n).map (48 :: ·) ++ (allF n).map (49 :: ·)) = (allF (n + 1)).map (48 :: ·) ++ (allF (n + 1)).map (49 :: ·)
    rw [lon_app, lon_map, lon_map, ih]
theorem all_len : ∀ n : Nat, (allF n).length = 2 ^ n
  | 0 => rfl
  | n + 1 => by
    have ih := all_len n
    show ((allF n).map (48 :: ·) ++ (allF n).map (49 :: ·)).length = _
    rw [List.length_append, List.length_map, List.length_map, ih, Nat.pow_succ]
    omega
theorem all_mem : ∀ (n : Nat), ∀ s ∈ allF n, s.length = n ∧ isBits s
  | 0, s, h => by
    cases List.mem_singleton.mp h
    exact ⟨rfl, fun x hx => by cases hx⟩
  | n + 1, s, h => by
    have ih := all_mem n
    rcases List.mem_append.mp h with h | h
    · obtain ⟨t, ht, rfl⟩ := List.mem_map.mp h
      have q := ih t ht
      exact ⟨by simp [q.1], fun x hx => (List.mem_cons.mp hx).elim (fun e => .inl e) (q.2 x)⟩
    · obtain ⟨t, ht, rfl⟩ := List.mem_map.mp h
      have q := ih t ht
      exact ⟨by simp [q.1], fun x hx => (List.mem_cons.mp hx).elim (fun e => .inr e) (q.2 x)⟩
def zs (L r n : Nat) : List Int := (allF n).map fun s => (zr L r s : Int)
theorem zs_s (L r n : Nat) : zs L r (n + 1) = zs L 0 n ++ (if r + 1 = L then (zs L 0 n).map (1 + ·) else zs L (r + 1) n) := by
  unfold zs
  show ((allF n).map (48 :: ·) ++ (allF n).map (49 :: ·)).map _ = _
  rw [List.map_append, List.map_map, List.map_map]
  congr 1
  by_cases c : r + 1 = L
  · rw [if_pos c, List.map_map]
    refine List.map_congr_left fun s _ => ?_
    show ((zr L r (49 :: s) : Nat) : Int) = 1 + (zr L 0 s : Int)
    rw [zr, if_pos rfl, if_pos c]
    omega
  · rw [if_neg c]
    refine List.map_congr_left fun s _ => ?_
    show ((zr L r (49 :: s) : Nat) : Int) = (zr L (r + 1) s : Int)
    rw [zr, if_pos rfl, if_neg c]
theorem count_shift (z : Int) : ∀ xs : List Int, (xs.map (1 + ·)).count z = xs.count (z - 1)
  | [] => rfl
  | x :: xs => by
    have ih := count_shift z xs
    rw [List.map_cons, List.count_cons, List.count_cons, ih]
    congr 1
    by_cases c : x = z - 1
    · subst c
      have : 1 + (z - 1) = z := by omega
      simp [this]
    · have : ¬ 1 + x = z := by omega
      simp [c, this]
theorem zs_count (L : Nat) : ∀ (n r : Nat) (z : Int), ((zs L r n).count z : Int) = ct L n r z
  | 0, r, z => by
    rw [ct_0]
    show (([((0 : Nat) : Int)] : List Int).count z : Int) = _
    by_cases c : z = 0
    · subst c; rfl
    · rw [if_neg c, List.count_eq_zero.mpr (by simp; omega)]; rfl
  | n + 1, r, z => by
    have h1 := zs_count L n 0 z
    have h2 := zs_count L n 0 (z - 1)
    have h3 := zs_count L n (r + 1) z
    rw [zs_s, List.count_append]
    by_cases hz : z < 0
    · rw [ct_neg L _ _ hz] at h1 h3 ⊢
      rw [ct_neg L _ _ (by omega)] at h2
      split
      · rw [count_shift]; omega
      · omega
    · rw [ct_s L n r (by omega)]
      split
      · rw [count_shift]; omega
      · omega
theorem zr_bd (L : Nat) (hL : 1 ≤ L) : ∀ (s : List Nat) (r : Nat), r < L → L * zr L r s ≤ s.length + r
  | [], r, _ => by simp [zr]
  | b :: bs, r, h => by
    have h1 := zr_bd L hL bs 0 (by omega)
    unfold zr
    rw [List.length_cons]
    split
    · split
      · rename_i c
        have e : L * (1 + zr L 0 bs) = L + L * zr L 0 bs := by rw [Nat.mul_add, Nat.mul_one]
        omega
      · rename_i c
        have h2 := zr_bd L hL bs (r + 1) (by omega)
        omega
    · omega
theorem zs_in (L n : Nat) (hL : 1 ≤ L) : ∀ z ∈ zs L 0 n, 0 ≤ z ∧ z < ((n / L + 1 : Nat) : Int) := fun z hz => by
  obtain ⟨s, hs, rfl⟩ := List.mem_map.mp hz
  have b := zr_bd L hL s 0 (by omega)
  rw [(all_mem n s hs).1] at b
  have : zr L 0 s ≤ n / L := (Nat.le_div_iff_mul_le (by omega)).mpr (by rw [Nat.mul_comm]; omega)
  exact ⟨by omega, by generalize n / L = q at *; omega⟩
/-- counting a list by its values -/
theorem sum_counts : ∀ (m : Nat) (xs : List Int), (∀ x ∈ xs, 0 ≤ x ∧ x < (m : Int)) → ((List.range' 0 m).map fun (k : Nat) => ((xs.count (k : Int) : Nat) : Int)).sum = (xs.length : Int) := by
  intro m xs h
  induction xs with
  | nil =>
    have : ∀ (n i : Nat), ((List.range' i n).map fun (k : Nat) => ((([] : List Int).count (k : Int) : Nat) : Int)).sum = 0 := by
      intro n
      induction n with
      | zero => intro i; rfl
      | succ n ih => intro i; rw [List.range'_succ, List.map_cons, List.sum_cons, ih]; rfl
    exact this m 0
  | cons x xs ih =>
    have ih := ih fun y hy => h y (by simp [hy])
    obtain ⟨x0, x1⟩ := h x (by simp)
    have key : ∀ (n i : Nat), (i : Int) ≤ x → x < ((i + n : Nat) : Int) → ((List.range' i n).map fun (k : Nat) => (((x :: xs).count (k : Int) : Nat) : Int)).sum = ((List.range' i n).map fun (k : Nat) => ((xs.count (k : Int) : Nat) : Int)).sum + 1 := by
      have no : ∀ (n i : Nat), (x < (i : Int)) → ((List.range' i n).map fun (k : Nat) => (((x :: xs).count (k : Int) : Nat) : Int)).sum = ((List.range' i n).map fun (k : Nat) => ((xs.count (k : Int) : Nat) : Int)).sum := by
        intro n
        induction n with
        | zero => intro i _; rfl
        | succ n ih2 =>
          intro i hi
          rw [List.range'_succ, List.map_cons, List.map_cons, List.sum_cons, List.sum_cons, ih2 (i + 1) (by omega), List.count_cons]
          have : ¬ (x == (i : Int)) = true := by simp; omega
          rw [if_neg this]; omega
      intro n
      induction n with
      | zero => intro i h1 h2; omega
      | succ n ih2 =>
        intro i h1 h2
        rw [List.range'_succ, List.map_cons, List.map_cons, List.sum_cons, List.sum_cons, List.count_cons]
        by_cases c : x = (i : Int)
        · rw [no n (i + 1) (by omega), if_pos (by simp [c])]; omega
        · rw [ih2 (i + 1) (by omega) (by omega), if_neg (by simp [c])]; omega
    rw [key m 0 (by omega) (by omega), ih, List.length_cons]
    omega
theorem sum_weighted : ∀ (m : Nat) (xs : List Int), (∀ x ∈ xs, 0 ≤ x ∧ x < (m : Int)) → ((List.range' 0 m).map fun (k : Nat) => (k : Int) * ((xs.count (k : Int) : Nat) : Int)).sum = xs.sum := by
  intro m xs h
  induction xs with
  | nil =>
    have : ∀ (n i : Nat), ((List.range' i n).map fun (k : Nat) => (k : Int) * ((([] : List Int).count (k : Int) : Nat) : Int)).sum = 0 := by
      intro n
      induction n with
      | zero => intro i; rfl
      | succ n ih => intro i; rw [List.range'_succ, List.map_cons, List.sum_cons, ih]; simp
    exact this m 0
  | cons x xs ih =>
    have ih := ih fun y hy => h y (by simp [hy])
    obtain ⟨x0, x1⟩ := h x (by simp)
    have key : ∀ (n i : Nat), (i : Int) ≤ x → x < ((i + n : Nat) : Int) → ((List.range' i n).map fun (k : Nat) => (k : Int) * (((x :: xs).count (k : Int) : Nat) : Int)).sum = ((List.range' i n).map fun (k : Nat) => (k : Int) * ((xs.count (k : Int) : Nat) : Int)).sum + x := by
      have no : ∀ (n i : Nat), (x < (i : Int)) → ((List.range' i n).map fun (k : Nat) => (k : Int) * (((x :: xs).count (k : Int) : Nat) : Int)).sum = ((List.range' i n).map fun (k : Nat) => (k : Int) * ((xs.count (k : Int) : Nat) : Int)).sum := by
        intro n
        induction n with
        | zero => intro i _; rfl
        | succ n ih2 =>
          intro i hi
          rw [List.range'_succ, List.map_cons, List.map_cons, List.sum_cons, List.sum_cons, ih2 (i + 1) (by omega), List.count_cons]
          have : ¬ (x == (i : Int)) = true := by simp; omega
          rw [if_neg this]; rfl
      intro n
      induction n with
      | zero => intro i h1 h2; omega
      | succ n ih2 =>
        intro i h1 h2
        rw [List.range'_succ, List.map_cons, List.map_cons, List.sum_cons, List.sum_cons, List.count_cons]
        by_cases c : x = (i : Int)
        · rw [no n (i + 1) (by omega), if_pos (by simp [c])]
          have : (i : Int) * ((xs.count (i : Int) + 1 : Nat) : Int) = (i : Int) * (xs.count (i : Int) : Nat) + i := by
            rw [Int.natCast_add, Int.mul_add]; simp
          rw [this]; omega
        · rw [ih2 (i + 1) (by omega) (by omega), if_neg (by simp [c])]
          rw [Nat.add_zero]; omega
    rw [key m 0 (by omega) (by omega), ih, List.sum_cons]
    omega
/-! the law's payloads -/
theorem lon_loop (s0 : Slot) : ∀ (xs acc : List (List Nat)) (s2 : Slot), (∀ x ∈ xs, x.length ≤ 100) → acc.length + 2 * xs.length ≤ 100000 → ∃ r2 : Slot, forB [] (.one 2) B0__law_longer (xs.map D.str) [s0, .own (acc.map D.str), s2] = .next [s0, .own ((acc ++ lonG xs).map D.str), r2]
  | [], acc, s2, _, _ => ⟨s2, by simp [lonG]⟩
  | x :: xs, acc, s2, h, hl => by
    have hx := h x (by simp)
    simp only [List.length_cons] at hl
    obtain ⟨r2, ih⟩ := lon_loop s0 xs (acc ++ [x ++ [48]] ++ [x ++ [49]]) (.val (.str x)) (fun y hy => h y (by simp [hy])) (by simp; omega)
    refine ⟨r2, ?_⟩
    have e : acc ++ lonG (x :: xs) = acc ++ [x ++ [48]] ++ [x ++ [49]] ++ lonG xs := by simp [lonG]
    rw [e, List.map_cons, forB_cons, ← ih]
    have em : (acc ++ [x ++ [48]] ++ [x ++ [49]]).map D.str = acc.map D.str ++ [.str (x ++ [48])] ++ [.str (x ++ [49])] := by simp
    rw [em]
    have la : (acc.map D.str).length = acc.length := by simp
    have a0 : addD (.str x) (.str [48]) = .ok (.str (x ++ [48])) := R.when_pos (by show _ ≤ 16777216; simp; omega)
    have a1 : addD (.str x) (.str [49]) = .ok (.str (x ++ [49])) := R.when_pos (by show _ ≤ 16777216; simp; omega)
    generalize acc.map D.str = AC at *
    generalize x ++ [48] = x0 at *
    generalize x ++ [49] = x1 at *
    simp (disch := first | omega | (simp; done) | (simp; omega)) [-addD_str, a0, a1, la]
theorem longer_ok (xs : List (List Nat)) (h : ∀ x ∈ xs, x.length ≤ 100) (hl : xs.length ≤ 10000) : g__law_longer [.lst (xs.map D.str)] = .ok (.lst ((lonG xs).map D.str)) := by
  obtain ⟨r2, e⟩ := lon_loop (.val (.lst (xs.map D.str))) xs [] .no h (by simp; omega)
  rw [List.map_nil, List.nil_append] at e
  have lm : (xs.map D.str).length = xs.length := by simp
  have nl : D.nols ((lonG xs).map D.str) = true := nols_strs _
  refine evF_ret rfl ?_
  generalize (lonG xs).map D.str = OUT at *
  generalize xs.map D.str = XS at *
  simp (disch := first | omega | (simp; done) | (simp; omega)) [t__law_longer, e, lm, nl]
theorem pow_bd {n : Nat} (h : n ≤ 10) : 2 ^ n ≤ 1024 := Nat.pow_le_pow_right (n := 2) (by omega) h
theorem all_loop (s0 : Slot) : ∀ (k i : Nat) (s2 : Slot), i + k ≤ 10 → ∃ r2 : Slot, forB [g__law_longer] (.one 2) B0__law_all (rangeD (i : Nat) 1 k) [s0, .val (.lst ((allF i).map D.str)), s2] = .next [s0, .val (.lst ((allF (i + k)).map D.str)), r2]
  | 0, i, s2, _ => ⟨s2, by simp⟩
  | k + 1, i, s2, h => by
    obtain ⟨r2, ih⟩ := all_loop s0 k (i + 1) (.val (.int i)) (by omega)
    refine ⟨r2, ?_⟩
    have f0 : [g__law_longer][0]? = some g__law_longer := rfl
    have lo := longer_ok (allF i) (fun x hx => by have := (all_mem i x hx).1; omega) (by rw [all_len]; have := pow_bd (n := i) (by omega); omega)
    rw [all_lon] at lo
    have e1 : ((i + 1 : Nat) : Int) = (i : Int) + 1 := by omega
    rw [rangeD_cons, forB_cons, show i + (k + 1) = i + 1 + k by omega, ← ih, e1]
    generalize (allF (i + 1)).map D.str = A1 at *
    generalize (allF i).map D.str = A0 at *
    generalize [g__law_longer] = F at *
    simp (disch := first | omega | (simp; done) | (simp; omega)) [f0, lo]
theorem all_ok (n : Nat) (h : n ≤ 10) : g__law_all [.int n] = .ok (.lst ((allF n).map D.str)) := by
  obtain ⟨r2, e⟩ := all_loop (.val (.int n)) n 0 .no (by omega)
  rw [Nat.zero_add] at e
  have e0 : (allF 0).map D.str = [.str []] := rfl
  have c0 : ((0 : Nat) : Int) = 0 := rfl
  rw [e0, c0] at e
  refine evF_ret rfl ?_
  show evSs [g__law_longer] _ _ = _
  generalize (allF n).map D.str = A at *
  generalize [g__law_longer] = F at *
  simp (disch := first | omega | (simp; done) | (simp; omega)) [t__law_all, e]
/-! the mean -/
theorem gcd_loop : ∀ (k a b : Nat), b ≤ k → a < 100000000 → b < 100000000 → ∃ r1 : Slot, whlB [] C0_shared_divisor B1_shared_divisor (k + 1) [.val (.int a), .val (.int b)] = .next [.val (.int (Nat.gcd a b : Nat)), r1]
  | k, a, 0, _, _, _ => ⟨.val (.int 0), by rw [whlB_succ]; simp⟩
  | 0, a, b + 1, h, _, _ => by omega
  | k + 1, a, b + 1, h, ha, hb => by
    have lt := Nat.mod_lt a (show 0 < b + 1 by omega)
    obtain ⟨r1, ih⟩ := gcd_loop k (b + 1) (a % (b + 1)) (by omega) hb (by omega)
    refine ⟨r1, ?_⟩
    have g : Nat.gcd a (b + 1) = Nat.gcd (b + 1) (a % (b + 1)) := by rw [Nat.gcd_comm, Nat.gcd_rec, Nat.gcd_comm]
    have em : ((a % (b + 1) : Nat) : Int) = (a : Int) % ((b : Int) + 1) := by simp
    rw [g, whlB_succ, ← ih]
    clear ih g
    rw [em]
    have p : (0 : Int) < (b : Int) + 1 := by omega
    simp (disch := first | omega | (simp; done) | (simp; omega)) [p]
theorem gcd_ok (a b : Nat) (ha : a < 1000000) (hb : b < 999999) : g_shared_divisor [.int a, .int b] = .ok (.int (Nat.gcd a b : Nat)) := by
  obtain ⟨r1, e⟩ := gcd_loop 999999 a b (by omega) (by omega) (by omega)
  have e : whlB [] C0_shared_divisor B1_shared_divisor 1000000 [.val (.int a), .val (.int b)] = .next [.val (.int (Nat.gcd a b : Nat)), r1] := e
  refine evF_ret rfl ?_
  generalize hN : 1000000 = N at *
  simp (disch := first | omega | (simp; done) | (simp; omega)) [t_shared_divisor, hN, e]
def rows (L sz : Nat) : List Int := (List.range' 0 (sz / L + 1)).map fun k => ct L sz 0 (k : Nat)
theorem rowsD_eq (L sz : Nat) : rowsD L sz = (rows L sz).map D.int := by
  unfold rowsD rows
  rw [List.map_map]
  rfl
def wt : Nat → List Int → List Int
  | _, [] => []
  | i, x :: xs => (i : Int) * x :: wt (i + 1) xs
theorem wt_cmp (F : List (List D → R D)) (z : Nat → Bool) (s0 s1 s2 s3 s4 : Slot) : ∀ (xs : List Int) (i : Nat) (s5 s6 : Slot), i + xs.length ≤ 1000 → (∀ x ∈ xs, 0 ≤ x ∧ x ≤ 100000) → cmpB F z (.many [5, 6]) E0_mean_stuffing [s0, s1, s2, s3, s4, s5, s6] (enumD i (xs.map D.int)) = .ok ((wt i xs).map D.int)
  | [], i, s5, s6, _, _ => by simp [wt]
  | x :: xs, i, s5, s6, h, hx => by
    simp only [List.length_cons] at h
    have ih := fun s5 s6 => wt_cmp F z s0 s1 s2 s3 s4 xs (i + 1) s5 s6 (by omega) fun y hy => hx y (by simp [hy])
    have h0 := hx x (by simp)
    have s1 : small (i : Int) := by unfold small; omega
    have s2 : small x := by unfold small; omega
    rw [List.map_cons, enumD_cons, cmpB_cons]
    unfold wt
    rw [List.map_cons]
    generalize (wt (i + 1) xs).map D.int = WT at *
    generalize enumD (i + 1) (xs.map D.int) = E at *
    simp (disch := first | omega | (simp; done) | (simp; omega)) [ih, s1, s2]
theorem wt_map (f : Nat → Int) : ∀ (n i : Nat), wt i ((List.range' i n).map f) = (List.range' i n).map fun (k : Nat) => (k : Int) * f k
  | 0, _ => rfl
  | n + 1, i => by rw [List.range'_succ, List.map_cons, List.map_cons, wt, wt_map f n (i + 1)]
theorem rows_sum (L sz : Nat) (hL : 1 ≤ L) : (rows L sz).sum = ((2 ^ sz : Nat) : Int) := by
  have e : rows L sz = (List.range' 0 (sz / L + 1)).map fun (k : Nat) => (((zs L 0 sz).count (k : Int) : Nat) : Int) := by
    unfold rows
    exact List.map_congr_left fun k _ => (zs_count L sz 0 k).symm
  rw [e, sum_counts _ _ (zs_in L sz hL)]
  unfold zs
  rw [List.length_map, all_len]
theorem rows_wt (L sz : Nat) (hL : 1 ≤ L) : (wt 0 (rows L sz)).sum = (zs L 0 sz).sum := by
  have e : rows L sz = (List.range' 0 (sz / L + 1)).map fun (k : Nat) => (((zs L 0 sz).count (k : Int) : Nat) : Int) := by
    unfold rows
    exact List.map_congr_left fun k _ => (zs_count L sz 0 k).symm
  rw [e, wt_map, sum_weighted _ _ (zs_in L sz hL)]
theorem sum_bd (b : Int) : ∀ xs : List Int, (∀ x ∈ xs, 0 ≤ x ∧ x ≤ b) → 0 ≤ xs.sum ∧ xs.sum ≤ b * xs.length
  | [], _ => by simp
  | x :: xs, h => by
    have ih := sum_bd b xs fun y hy => h y (by simp [hy])
    have h0 := h x (by simp)
    rw [List.sum_cons, List.length_cons]
    have : b * ((xs.length + 1 : Nat) : Int) = b * xs.length + b := by
      rw [Int.natCast_add, Int.mul_add]; simp
    omega
theorem zs_T (L sz : Nat) (hL : 1 ≤ L) (hs : sz ≤ 10) : ∃ T : Nat, (zs L 0 sz).sum = (T : Int) ∧ T ≤ 20000 := by
  have b := sum_bd 10 (zs L 0 sz) fun z hz => by
    have := zs_in L sz hL z hz
    have dv : sz / L ≤ 10 := Nat.le_trans (Nat.div_le_self _ _) hs
    generalize sz / L = q at *
    omega
  have l : (zs L 0 sz).length ≤ 1024 := by
    unfold zs
    rw [List.length_map, all_len]
    exact pow_bd hs
  exact ⟨(zs L 0 sz).sum.toNat, by omega, by omega⟩
theorem rows_in (L sz : Nat) (hs : sz ≤ 10) : (rows L sz).length = sz / L + 1 ∧ ∀ x ∈ rows L sz, 0 ≤ x ∧ x ≤ 100000 := by
  refine ⟨by simp [rows], fun x hx => ?_⟩
  obtain ⟨k, _, rfl⟩ := List.mem_map.mp hx
  refine ⟨ct_nn L sz 0 k, ?_⟩
  rw [← zs_count]
  have : (zs L 0 sz).count (k : Int) ≤ (zs L 0 sz).length := List.count_le_length
  have l : (zs L 0 sz).length ≤ 1024 := by
    unfold zs
    rw [List.length_map, all_len]
    exact pow_bd hs
  omega
theorem mean_ok (L sz : Nat) (hL : 2 ≤ L ∧ L ≤ 7) (hs : sz ≤ 10) (T : Nat) (hT : (zs L 0 sz).sum = (T : Int)) (hT2 : T ≤ 20000) : g_mean_stuffing L [.int L, .int sz] = .ok (.tup [.int ((T / Nat.gcd (2 ^ sz) T : Nat) : Int), .int ((2 ^ sz / Nat.gcd (2 ^ sz) T : Nat) : Int)]) := by
  have f0 : [g_counts L, g_shared_divisor][0]? = some (g_counts L) := rfl
  have f1 : [g_counts L, g_shared_divisor][1]? = some g_shared_divisor := rfl
  have co := counts_ok L sz hL (by omega)
  rw [rowsD_eq] at co
  obtain ⟨rl, ri⟩ := rows_in L sz hs
  have dv : sz / L ≤ 10 := Nat.le_trans (Nat.div_le_self _ _) hs
  have wc := fun F z s0 s1 s2 s3 s4 s5 s6 => wt_cmp F z s0 s1 s2 s3 s4 (rows L sz) 0 s5 s6 (by omega) ri
  have sw := sumB_ints (wt 0 (rows L sz))
  have sr := sumB_ints (rows L sz)
  rw [rows_wt L sz (by omega), hT] at sw
  rw [rows_sum L sz (by omega)] at sr
  have pb := pow_bd hs
  have pp : 1 ≤ 2 ^ sz := Nat.one_le_two_pow
  generalize 2 ^ sz = N at *
  have gk := gcd_ok N T (by omega) (by omega)
  have gp : 0 < Nat.gcd N T := Nat.gcd_pos_of_pos_left _ (by omega)
  have gl : Nat.gcd N T ≤ N := Nat.gcd_le_left _ (by omega)
  have el := ComB.enumD_lenB ((rows L sz).map D.int) 0
  have lm : ((rows L sz).map D.int).length = sz / L + 1 := by rw [List.length_map, rl]
  refine evF_ret rfl ?_
  show evSs [g_counts L, g_shared_divisor] _ _ = _
  generalize Nat.gcd N T = G at *
  generalize (wt 0 (rows L sz)).map D.int = WT at *
  generalize (rows L sz).map D.int = RW at *
  generalize sz / L = q at *
  generalize [g_counts L, g_shared_divisor] = F at *
  have d1 : ((T / G : Nat) : Int) = (T : Int) / G := by simp
  have d2 : ((N / G : Nat) : Int) = (N : Int) / G := by simp
  rw [d1, d2]
  generalize hE : enumD 0 RW = E at *
  simp (disch := first | omega | (simp; done) | (simp; omega)) [t_mean_stuffing, f0, f1, co, hE, el, wc, sw, sr, gk]
def bas (L sz : Nat) : Nat := 2 * (L + 3) + sz
theorem lb_ok (L sz : Nat) (hL : 2 ≤ L ∧ L ≤ 7) (hs : sz ≤ 10) : g_length_bounds [.int L, .int sz] = .ok (.tup [.int (bas L sz : Nat), .int ((bas L sz + sz / L : Nat) : Int)]) := by
  have f0 : [P.g_greatest_stuffing][0]? = some P.g_greatest_stuffing := rfl
  have gs : P.g_greatest_stuffing [.int L, .int sz] = .ok (.int ((sz / L : Nat) : Int)) := by
    refine evF_ret rfl ?_
    have c : ¬ (L : Int) = 0 := by omega
    simp [t_greatest_stuffing, c]
    first
      | done
      | (rw [R.when_pos ⟨by omega, by omega⟩]; simp)
  have sm : small 2 := by unfold small; omega
  have sm2 : small ((L : Int) + 3) := by unfold small; omega
  refine evF_ret rfl ?_
  show evSs [P.g_greatest_stuffing] _ _ = _
  unfold bas
  generalize sz / L = q at *
  generalize [P.g_greatest_stuffing] = F at *
  simp (disch := first | omega | (simp; done) | (simp; omega)) [t_length_bounds, f0, gs, sm, sm2]
theorem pbl_ok (L sz : Nat) (hL : 2 ≤ L ∧ L ≤ 7) (hs : sz ≤ 10) (n : Int) (h0 : (bas L sz : Int) - 2 ≤ n ∧ n ≤ (bas L sz : Int) + 90) : g_payloads_by_length L [.int L, .int sz, .int n] = .ok (.int (ct L sz 0 (n - bas L sz))) := by
  have f0 : [g_length_bounds, cntC 25, newC L][0]? = some g_length_bounds := rfl
  have f1 : [g_length_bounds, cntC 25, newC L][1]? = some (cntC 25) := rfl
  have f2 : [g_length_bounds, cntC 25, newC L][2]? = some (newC L) := rfl
  have lb := lb_ok L sz hL hs
  have nc := nc_ok L
  have cc := cc_ok L sz 0 (z := n - bas L sz) (by omega) (by omega) (by omega)
  have c0 : ((0 : Nat) : Int) = 0 := rfl
  rw [c0] at cc
  have i0 : ∀ a b : D, ixD (.tup [a, b]) (.int 0) = .ok a := fun a b => rfl
  refine evF_ret rfl ?_
  show evSs [g_length_bounds, cntC 25, newC L] _ _ = _
  generalize ((bas L sz + sz / L : Nat) : Int) = hi at *
  generalize ct L sz 0 (n - bas L sz) = cl at *
  generalize bas L sz = B at *
  generalize [g_length_bounds, cntC 25, newC L] = F at *
  simp (disch := first | omega | (simp; done) | (simp; omega)) [-ixD_tup, t_payloads_by_length, f0, f1, f2, lb, nc, cc, i0]
theorem zin_ok (L : Nat) (hL : 2 ≤ L) (s : List Nat) (h : s.length ≤ 1000) : P.g_zeros_in [.int L, .str s] = .ok (.int (zr L 0 s)) := by
  have so := stuff_ok L s (by omega)
  have e := stf_zr L (by omega) s 0
  have f0 : [P.g_stuff][0]? = some P.g_stuff := rfl
  have zl := zr_le L s 0
  have l1 : lenB [.str (stf L 0 s)] = .ok (.int ((stf L 0 s).length : Nat)) := R.when_pos (by show _ ≤ 16777216; omega)
  have l2 : lenB [.str s] = .ok (.int (s.length : Nat)) := R.when_pos (by show _ ≤ 16777216; omega)
  refine evF_ret rfl ?_
  show evSs [P.g_stuff] _ _ = _
  generalize stf L 0 s = S at *
  generalize [P.g_stuff] = F at *
  simp (disch := first | omega | (simp; done) | (simp; omega)) [t_zeros_in, f0, so, l1, l2]
  try omega
/-! the law -/
def lst9 : Nat → Int → Slot → Slot
  | 0, _, s => s
  | n + 1, i, s => lst9 n (i + 1) (.val (.int i))
def FL (L : Nat) : List (List D → R D) := [P.g__law_cell, g__law_all, P.g_stuff, g_counts L, g_mean_stuffing L, P.g_frame_bits, g_length_bounds, g_payloads_by_length L, P.g_zeros_in]
theorem z_cmp (L : Nat) (hL : 2 ≤ L) (F : List (List D → R D)) (f2 : F[2]? = some P.g_stuff) (z : Nat → Bool) (s0 s2 s3 s4 s5 s6 s7 s8 s9 s10 s11 s12 s13 : Slot) : ∀ (xs : List (List Nat)) (s14 : Slot), (∀ x ∈ xs, x.length ≤ 100) → cmpB F z (.one 14) E0_law [s0, .val (.int L), s2, s3, s4, s5, s6, s7, s8, s9, s10, s11, s12, s13, s14] (xs.map D.str) = .ok ((xs.map fun s => (zr L 0 s : Int)).map D.int)
  | [], s14, _ => by simp
  | x :: xs, s14, h => by
    have hx := h x (by simp)
    have ih := fun s14 => z_cmp L hL F f2 z s0 s2 s3 s4 s5 s6 s7 s8 s9 s10 s11 s12 s13 xs s14 fun y hy => h y (by simp [hy])
    have so := stuff_ok L x (by omega)
    have e := stf_zr L (by omega) x 0
    have zl := zr_le L x 0
    have l1 : lenB [.str (stf L 0 x)] = .ok (.int ((stf L 0 x).length : Nat)) := R.when_pos (show (stf L 0 x).length ≤ 16777216 by omega)
    have l2 : lenB [.str x] = .ok (.int (x.length : Nat)) := R.when_pos (show x.length ≤ 16777216 by omega)
    have sub : ((stf L 0 x).length : Int) - x.length = (zr L 0 x : Nat) := by omega
    rw [List.map_cons, cmpB_cons, List.map_cons, List.map_cons]
    generalize (xs.map fun s => (zr L 0 s : Int)).map D.int = ZZ at *
    generalize stf L 0 x = S at *
    simp (disch := first | omega | (simp; done) | (simp; omega)) [f2, so, l1, l2, sub, ih]
theorem f_cmp (L : Nat) (hL : 2 ≤ L ∧ L ≤ 7) (sz : Nat) (hs : sz ≤ 10) (F : List (List D → R D)) (f5 : F[5]? = some P.g_frame_bits) (z : Nat → Bool) (s0 s2 s3 s4 s5 s6 s7 s8 s9 s10 s11 s12 s13 : Slot) : ∀ (xs : List (List Nat)) (s14 : Slot), (∀ x ∈ xs, x.length = sz) → cmpB F z (.one 14) E3_law [s0, .val (.int L), s2, s3, s4, s5, s6, s7, s8, s9, s10, s11, s12, s13, s14] (xs.map D.str) = .ok ((xs.map fun s => (bas L sz : Int) + (zr L 0 s : Int)).map D.int)
  | [], s14, _ => by simp
  | x :: xs, s14, h => by
    have hx := h x (by simp)
    have ih := fun s14 => f_cmp L hL sz hs F f5 z s0 s2 s3 s4 s5 s6 s7 s8 s9 s10 s11 s12 s13 xs s14 fun y hy => h y (by simp [hy])
    have fo := frame_ok L x (by omega) (by omega)
    have e := stf_zr L (by omega) x 0
    have zl := zr_le L x 0
    have fl : (frm L x).length = bas L sz + zr L 0 x := by
      unfold frm bas
      rw [List.length_append, List.length_append, flg_len, e, hx]
      omega
    have l1 : lenB [.str (frm L x)] = .ok (.int ((frm L x).length : Nat)) := R.when_pos (show (frm L x).length ≤ 16777216 by rw [fl]; unfold bas; omega)
    rw [fl] at l1
    have ec : ((bas L sz + zr L 0 x : Nat) : Int) = (bas L sz : Int) + zr L 0 x := by omega
    rw [ec] at l1
    rw [List.map_cons, cmpB_cons, List.map_cons, List.map_cons]
    generalize (xs.map fun s => (bas L sz : Int) + (zr L 0 s : Int)).map D.int = ZZ at *
    generalize frm L x = S at *
    simp (disch := first | omega | (simp; done) | (simp; omega)) [f5, fo, l1, ih]
theorem countB_int (xs : List Int) (k : Int) : countB [.lst (xs.map D.int), .int k] = .ok (.int (xs.count k : Nat)) := by
  show (R.ofO (intsOf (xs.map D.int))).bind _ = _
  rw [intsOf_map]; rfl
theorem c_cmp (F : List (List D → R D)) (Z : List Int) (s0 s1 s2 s3 s5 s6 s7 s8 s10 s11 s12 s13 s14 : Slot) : ∀ (n i : Nat) (s9 : Slot), cmpB F (zOf [4]) (.one 9) E1_law [s0, s1, s2, s3, .own (Z.map D.int), s5, s6, s7, s8, s9, s10, s11, s12, s13, s14] (rangeD (i : Nat) 1 n) = .ok (((List.range' i n).map fun (k : Nat) => ((Z.count (k : Int) : Nat) : Int)).map D.int)
  | 0, i, s9 => by simp
  | n + 1, i, s9 => by
    have ih := fun s9 => c_cmp F Z s0 s1 s2 s3 s5 s6 s7 s8 s10 s11 s12 s13 s14 n (i + 1) s9
    have e1 : ((i + 1 : Nat) : Int) = (i : Int) + 1 := by omega
    rw [e1] at ih
    have co := countB_int Z (i : Int)
    rw [rangeD_cons, cmpB_cons, List.range'_succ, List.map_cons, List.map_cons]
    generalize ((List.range' (i + 1) n).map fun (k : Nat) => ((Z.count (k : Int) : Nat) : Int)).map D.int = TT at *
    generalize Z.count (i : Int) = cn at *
    generalize Z.map D.int = ZD at *
    simp (disch := first | omega | (simp; done) | (simp; omega)) [ih, co]
theorem two_loop (F : List (List D → R D)) (t m : Nat) (hg : Nat.gcd t m = 1) (s0 s1 s2 s3 s4 s5 s6 s10 s11 s12 s13 s14 : Slot) : ∀ (n i : Nat) (s9 : Slot), 2 ≤ i → i + n ≤ 100000 → forB F (.one 9) B2_law (rangeD (i : Nat) 1 n) [s0, s1, s2, s3, s4, s5, s6, .val (.int t), .val (.int m), s9, s10, s11, s12, s13, s14] = .next [s0, s1, s2, s3, s4, s5, s6, .val (.int t), .val (.int m), lst9 n i s9, s10, s11, s12, s13, s14]
  | 0, i, s9, _, _ => by simp [lst9]
  | n + 1, i, s9, hi, hb => by
    have ih := two_loop F t m hg s0 s1 s2 s3 s4 s5 s6 s10 s11 s12 s13 s14 n (i + 1) (.val (.int i)) (by omega) (by omega)
    unfold lst9
    have e1 : ((i + 1 : Nat) : Int) = (i : Int) + 1 := by omega
    have et : (t : Int) % (i : Int) = ((t % i : Nat) : Int) := by simp
    have em : (m : Int) % (i : Int) = ((m % i : Nat) : Int) := by simp
    have nb : ¬ (t % i = 0 ∧ m % i = 0) := fun ⟨h1, h2⟩ => by
      have d := Nat.dvd_gcd (Nat.dvd_of_mod_eq_zero h1) (Nat.dvd_of_mod_eq_zero h2)
      rw [hg] at d
      have := Nat.le_of_dvd (by omega) d
      omega
    rw [e1] at ih
    rw [rangeD_cons, forB_cons, ← ih]
    have p : (0 : Int) < (i : Int) := by omega
    by_cases c1 : t % i = 0
    · have c2 : ¬ m % i = 0 := fun q => nb ⟨c1, q⟩
      have c1' : (t : Int) % (i : Int) = 0 := by rw [et, c1]; rfl
      have c2' : ¬ (m : Int) % (i : Int) = 0 := by rw [em]; omega
      clear et em
      simp (disch := first | omega | (simp; done) | (simp; omega)) [c1', c2', p]
    · have c1' : ¬ (t : Int) % (i : Int) = 0 := by rw [et]; omega
      clear et em
      simp (disch := first | omega | (simp; done) | (simp; omega)) [c1', p]
theorem cnt_shift (B n : Int) : ∀ xs : List Int, (xs.map fun z => B + z).count n = xs.count (n - B)
  | [] => rfl
  | x :: xs => by
    have ih := cnt_shift B n xs
    rw [List.map_cons, List.count_cons, List.count_cons, ih]
    congr 1
    by_cases c : x = n - B
    · subst c
      have : B + (n - B) = n := by omega
      simp [this]
    · have : ¬ B + x = n := by omega
      simp [c, this]
theorem len_loop (L sz : Nat) (hL : 2 ≤ L ∧ L ≤ 7) (hs : sz ≤ 10) (s0 s3 s4 s5 s6 s7 s8 s9 s11 s12 s14 : Slot) : ∀ (n : Nat) (i : Int) (s13 : Slot), (bas L sz : Int) - 2 ≤ i → i + n ≤ (bas L sz : Int) + 90 → forB (FL L) (.one 13) B4_law (rangeD i 1 n) [s0, .val (.int L), .val (.int sz), s3, s4, s5, s6, s7, s8, s9, .own (((zs L 0 sz).map fun z => (bas L sz : Int) + z).map D.int), s11, s12, s13, s14] = .next [s0, .val (.int L), .val (.int sz), s3, s4, s5, s6, s7, s8, s9, .own (((zs L 0 sz).map fun z => (bas L sz : Int) + z).map D.int), s11, s12, lst9 n i s13, s14]
  | 0, i, s13, _, _ => by simp [lst9]
  | n + 1, i, s13, h1, h2 => by
    have f7 : (FL L)[7]? = some (g_payloads_by_length L) := rfl
    have ih := len_loop L sz hL hs s0 s3 s4 s5 s6 s7 s8 s9 s11 s12 s14 n (i + 1) (.val (.int i)) (by omega) (by omega)
    unfold lst9
    have pb := pbl_ok L sz hL hs i (by omega)
    have co := countB_int ((zs L 0 sz).map fun z => (bas L sz : Int) + z) i
    rw [cnt_shift, zs_count] at co
    rw [rangeD_cons, forB_cons, ← ih]
    generalize ((zs L 0 sz).map fun z => (bas L sz : Int) + z).map D.int = LD at *
    generalize ct L sz 0 (i - bas L sz) = cl at *
    generalize FL L = F at *
    simp (disch := first | omega | (simp; done) | (simp; omega)) [f7, pb, co]
theorem zr_ones (L : Nat) (hL : 1 ≤ L) : ∀ (n r : Nat), r < L → zr L r (List.replicate n 49) = (n + r) / L
  | 0, r, h => by rw [Nat.zero_add, Nat.div_eq_of_lt h]; rfl
  | n + 1, r, h => by
    rw [List.replicate_succ, zr, if_pos rfl]
    by_cases c : r + 1 = L
    · rw [if_pos c, zr_ones L hL n 0 (by omega), Nat.add_zero]
      have : n + 1 + r = n + L := by omega
      rw [this, Nat.add_div_right n (by omega)]
      omega
    · rw [if_neg c, zr_ones L hL n (r + 1) (by omega)]
      congr 1
      omega
theorem zr_zeros (L : Nat) : ∀ (n r : Nat), zr L r (List.replicate n 48) = 0
  | 0, _ => rfl
  | n + 1, r => by rw [List.replicate_succ, zr, if_neg (by decide), zr_zeros L n 0]
theorem rep_mem (c : Nat) (hc : c = 48 ∨ c = 49) : ∀ n : Nat, List.replicate n c ∈ allF n
  | 0 => by simp [allF]
  | n + 1 => by
    have ih := rep_mem c hc n
    rw [List.replicate_succ]
    rcases hc with rfl | rfl
    · exact List.mem_append_left _ (List.mem_map.mpr ⟨_, ih, rfl⟩)
    · exact List.mem_append_right _ (List.mem_map.mpr ⟨_, ih, rfl⟩)
theorem min_is (b : Int) : ∀ xs : List Int, b ∈ xs → (∀ x ∈ xs, b ≤ x) → minB [.lst (xs.map D.int)] = .ok (.int b)
  | [], h, _ => by cases h
  | x :: xs, h, h2 => by
    rw [minB_ints]
    congr 2
    have a := minL_le xs x
    have e : minL x xs ≤ b := by
      rcases List.mem_cons.mp h with rfl | h
      · exact a.1
      · exact a.2 b h
    have f : b ≤ minL x xs := by
      rcases minL_memB xs x with q | q
      · rw [q]; exact h2 x (by simp)
      · exact h2 _ (by simp [q])
    omega
theorem maxL_ge : ∀ (xs : List Int) (m : Int), m ≤ maxL m xs ∧ ∀ x ∈ xs, x ≤ maxL m xs
  | [], m => ⟨by show m ≤ m; omega, fun x hx => by cases hx⟩
  | y :: xs, m => by
    have ih := maxL_ge xs (if y > m then y else m)
    have e : maxL m (y :: xs) = maxL (if y > m then y else m) xs := rfl
    rw [e]
    refine ⟨?_, fun x hx => ?_⟩
    · have := ih.1; split at this <;> omega
    · rcases List.mem_cons.mp hx with rfl | hx
      · have := ih.1; split at this <;> omega
      · exact ih.2 x hx
theorem max_is (b : Int) : ∀ xs : List Int, b ∈ xs → (∀ x ∈ xs, x ≤ b) → maxB [.lst (xs.map D.int)] = .ok (.int b)
  | [], h, _ => by cases h
  | x :: xs, h, h2 => by
    rw [maxB_ints]
    congr 2
    have e : b ≤ maxL x xs := by
      have ge := maxL_ge xs x
      rcases List.mem_cons.mp h with rfl | h
      · exact ge.1
      · exact ge.2 b h
    have f : maxL x xs ≤ b := maxL_le xs x (h2 x (by simp)) fun y hy => h2 y (by simp [hy])
    omega
theorem law_ok (ns : List Int) (_ : ns.length ≤ 63) : ∃ L : Int, g_law L [.scr ns] = .ok (.bl true) := by
  obtain ⟨c0, hc0⟩ := cell_ok ns 0 (by omega)
  obtain ⟨c1, hc1⟩ := cell_ok ns 1 (by omega)
  obtain ⟨L, hL, hL2⟩ : ∃ L : Nat, 2 + c0 % 6 = (L : Int) ∧ (2 ≤ L ∧ L ≤ 7) := ⟨(2 + c0 % 6).toNat, by omega, by omega⟩
  obtain ⟨sz, hsz, hs⟩ : ∃ n : Nat, c1 % 11 = (n : Int) ∧ n ≤ 10 := ⟨(c1 % 11).toNat, by omega, by omega⟩
  have hL1 : 1 ≤ L := by omega
  have dv : sz / L ≤ 10 := Nat.le_trans (Nat.div_le_self _ _) hs
  have mem := all_mem sz
  have al := all_ok sz hs
  have zc := fun F f2 z s0 s2 s3 s4 s5 s6 s7 s8 s9 s10 s11 s12 s13 s14 => z_cmp L hL2.1 F f2 z s0 s2 s3 s4 s5 s6 s7 s8 s9 s10 s11 s12 s13 (allF sz) s14 fun x hx => by have := (mem x hx).1; omega
  have fc := fun F f5 z s0 s2 s3 s4 s5 s6 s7 s8 s9 s10 s11 s12 s13 s14 => f_cmp L hL2 sz hs F f5 z s0 s2 s3 s4 s5 s6 s7 s8 s9 s10 s11 s12 s13 (allF sz) s14 fun x hx => (mem x hx).1
  have co := counts_ok L sz hL2 (by omega)
  rw [rowsD_eq] at co
  have cc := fun F s0 s1 s2 s3 s5 s6 s7 s8 s10 s11 s12 s13 s14 s9 => c_cmp F (zs L 0 sz) s0 s1 s2 s3 s5 s6 s7 s8 s10 s11 s12 s13 s14 (sz / L + 1) 0 s9
  have er : ((List.range' 0 (sz / L + 1)).map fun (k : Nat) => (((zs L 0 sz).count (k : Int) : Nat) : Int)) = rows L sz := by
    unfold rows
    exact List.map_congr_left fun k _ => zs_count L sz 0 k
  rw [er] at cc
  have c00 : ((0 : Nat) : Int) = 0 := rfl
  rw [c00] at cc
  have sr := sumB_ints (rows L sz)
  rw [rows_sum L sz hL1] at sr
  have eqr : D.eqvs ((rows L sz).map D.int) ((rows L sz).map D.int) = true := by rw [eqvs_ints]; simp
  have shr : ∀ n, D.shps n ((rows L sz).map D.int) = true := fun n => shps_ints n _
  obtain ⟨T, hT, hT2⟩ := zs_T L sz hL1 hs
  have me := mean_ok L sz hL2 hs T hT hT2
  have sz4 := sumB_ints (zs L 0 sz)
  rw [hT] at sz4
  have ap : ((allF sz).map D.str).length = 2 ^ sz := by rw [List.length_map, all_len]
  have pb := pow_bd hs
  have pp : 1 ≤ 2 ^ sz := Nat.one_le_two_pow
  have lz : (zs L 0 sz).length = 2 ^ sz := by unfold zs; rw [List.length_map, all_len]
  -- the fraction
  have gp : 0 < Nat.gcd (2 ^ sz) T := Nat.gcd_pos_of_pos_left _ (by omega)
  obtain ⟨t, ht⟩ := Nat.gcd_dvd_right (2 ^ sz) T
  obtain ⟨m, hm⟩ := Nat.gcd_dvd_left (2 ^ sz) T
  have hg : Nat.gcd t m = 1 := by
    have e := Nat.gcd_mul_left (Nat.gcd (2 ^ sz) T) m t
    rw [← hm, ← ht] at e
    have : Nat.gcd m t = 1 := Nat.eq_of_mul_eq_mul_left gp (by rw [← e, Nat.mul_one])
    rw [Nat.gcd_comm]; exact this
  have e1 : T / Nat.gcd (2 ^ sz) T = t := by rw [Nat.div_eq_iff_eq_mul_right gp (Nat.gcd_dvd_right _ _)]; exact ht
  have e2 : 2 ^ sz / Nat.gcd (2 ^ sz) T = m := by rw [Nat.div_eq_iff_eq_mul_right gp (Nat.gcd_dvd_left _ _)]; exact hm
  rw [e1, e2] at me
  have fr : (t : Int) * ((2 ^ sz : Nat) : Int) = (T : Int) * m := by
    rw [← Int.natCast_mul, ← Int.natCast_mul]
    congr 1
    generalize Nat.gcd (2 ^ sz) T = G at *
    rw [hm, ht, Nat.mul_left_comm, Nat.mul_assoc]
  have m1 : 1 ≤ m := by
    rcases Nat.eq_zero_or_pos m with z | z
    · rw [z, Nat.mul_zero] at hm; omega
    · exact z
  have mle : m ≤ 1024 := by
    rw [← e2]
    exact Nat.le_trans (Nat.div_le_self _ _) pb
  have tle : t ≤ 20000 := by
    rw [← e1]
    exact Nat.le_trans (Nat.div_le_self _ _) hT2
  have t0 : t = 0 → m = 1 := fun z => by rw [z, Nat.gcd_zero_left] at hg; exact hg
  have T0 : t = 0 → T = 0 := fun z => by
    have h := ht
    rw [z, Nat.mul_zero] at h
    exact h
  have lb := lb_ok L sz hL2 hs
  -- lengths
  have lens : ((allF sz).map fun s => (bas L sz : Int) + (zr L 0 s : Int)) = (zs L 0 sz).map fun z => (bas L sz : Int) + z := by unfold zs; rw [List.map_map]; rfl
  rw [lens] at fc
  have zin := zs_in L sz hL1
  have z0 : (0 : Int) ∈ zs L 0 sz := List.mem_map.mpr ⟨List.replicate sz 48, rep_mem 48 (.inl rfl) sz, by rw [zr_zeros]; rfl⟩
  have z9 : ((sz / L : Nat) : Int) ∈ zs L 0 sz := List.mem_map.mpr ⟨List.replicate sz 49, rep_mem 49 (.inr rfl) sz, by rw [zr_ones L hL1 sz 0 (by omega), Nat.add_zero]⟩
  have mn := min_is (bas L sz) ((zs L 0 sz).map fun z => (bas L sz : Int) + z) (List.mem_map.mpr ⟨0, z0, by omega⟩) (fun x hx => by
    obtain ⟨z, hz, rfl⟩ := List.mem_map.mp hx
    have := zin z hz
    omega)
  have mx := max_is ((bas L sz + sz / L : Nat) : Int) ((zs L 0 sz).map fun z => (bas L sz : Int) + z) (List.mem_map.mpr ⟨_, z9, by generalize sz / L = q at *; omega⟩) (fun x hx => by
    obtain ⟨z, hz, rfl⟩ := List.mem_map.mp hx
    have := zin z hz
    generalize sz / L = q at *
    omega)
  -- the last one
  obtain ⟨s, hsm, pl, zl⟩ : ∃ s : List Nat, s.length ≤ 1000 ∧ atI ((allF sz).map D.str) (-1) = some (.str s) ∧ atI ((zs L 0 sz).map D.int) (-1) = some (.int (zr L 0 s : Nat)) := by
    rcases concat_or (allF sz) with e | ⟨ys, s, e⟩
    · have := all_len sz; rw [e] at this; simp at this; omega
    · have hsl := (mem s (by rw [e]; simp)).1
      refine ⟨s, by omega, by rw [e, List.map_append]; exact atI_app _ _, ?_⟩
      unfold zs
      rw [e, List.map_append, List.map_append]
      exact atI_app _ _
  have zi := zin_ok L hL2.1 s hsm
  have f0 : (FL L)[0]? = some P.g__law_cell := rfl
  have f1 : (FL L)[1]? = some g__law_all := rfl
  have f2 : (FL L)[2]? = some P.g_stuff := rfl
  have f3 : (FL L)[3]? = some (g_counts L) := rfl
  have f4 : (FL L)[4]? = some (g_mean_stuffing L) := rfl
  have f5 : (FL L)[5]? = some P.g_frame_bits := rfl
  have f6 : (FL L)[6]? = some g_length_bounds := rfl
  have f8 : (FL L)[8]? = some P.g_zeros_in := rfl
  have zc2 := fun z s0 s2 s3 s4 s5 s6 s7 s8 s9 s10 s11 s12 s13 s14 => zc (FL L) f2 z s0 s2 s3 s4 s5 s6 s7 s8 s9 s10 s11 s12 s13 s14
  have zeq : ((allF sz).map fun s => (zr L 0 s : Int)) = zs L 0 sz := rfl
  rw [zeq] at zc2
  have fc2 := fun z s0 s2 s3 s4 s5 s6 s7 s8 s9 s10 s11 s12 s13 s14 => fc (FL L) f5 z s0 s2 s3 s4 s5 s6 s7 s8 s9 s10 s11 s12 s13 s14
  have two := fun s0 s1 s2 s3 s4 s5 s6 s10 s11 s12 s13 s14 s9 => two_loop (FL L) t m hg s0 s1 s2 s3 s4 s5 s6 s10 s11 s12 s13 s14 (m - 1) 2 s9 (by omega) (by omega)
  have ll := fun s0 s3 s4 s5 s6 s7 s8 s9 s11 s12 s14 s13 => len_loop L sz hL2 hs s0 s3 s4 s5 s6 s7 s8 s9 s11 s12 s14 (sz / L + 5) ((bas L sz : Int) - 2) s13 (by omega) (by generalize sz / L = q at *; omega)
  clear zc fc
  refine ⟨L, evF_ret rfl ?_⟩
  show evSs (FL L) t_law.body _ = _
  have tn2 : ((m : Int) + 1 - 2).toNat = m - 1 := by omega
  have tq : (sz : Int) / (L : Int) = ((sz / L : Nat) : Int) := by simp
  have c2 : ((2 : Nat) : Int) = 2 := rfl
  simp only [c2] at two
  have lzd : ((zs L 0 sz).map D.int).length = 2 ^ sz := by rw [List.length_map, lz]
  have lrd : ((rows L sz).map D.int).length = sz / L + 1 := by rw [List.length_map]; exact (rows_in L sz hs).1
  have lld : (((zs L 0 sz).map fun z => (bas L sz : Int) + z).map D.int).length = 2 ^ sz := by rw [List.length_map, List.length_map, lz]
  have nlz : D.nols ((zs L 0 sz).map D.int) = true := nols_ints _
  have nll : D.nols (((zs L 0 sz).map fun z => (bas L sz : Int) + z).map D.int) = true := nols_ints _
  have nlr : D.nols ((rows L sz).map D.int) = true := nols_ints _
  generalize (allF sz).map D.str = AD at *
  generalize ((zs L 0 sz).map fun z => (bas L sz : Int) + z).map D.int = LD at *
  generalize (zs L 0 sz).map D.int = ZD at *
  generalize (rows L sz).map D.int = RD at *
  clear er mem lens zin z0 z9 ht hm hg e1 e2 gp hT lz
  have bb : bas L sz ≤ 30 := by unfold bas; omega
  generalize bas L sz = B at *
  generalize sz / L = q at *
  generalize 2 ^ sz = N at *
  generalize zr L 0 s = zz at *
  generalize FL L = F at *
  have tn4 : ((B : Int) + q + 3 - (B - 2)).toNat = q + 5 := by omega
  have m1' : ¬ (m : Int) < 1 := by omega
  have rln := range_len (q + 1) 0 1
  have tm : ((t : Int) = 0 → (m : Int) = 1) := fun z => by have := t0 (by omega); omega
  by_cases tz : (t : Int) = 0
  · have mz := tm tz
    have tz0 : t = 0 := by omega
    have hT0 : T = 0 := T0 tz0
    clear T0
    subst hT0
    simp (disch := first | omega | (simp; done) | (simp; omega)) [t_law, f0, f1, f2, f3, f4, f5, f6, f8, hc0, hc1, hL, hsz, al, zc2, fc2, co, cc, sr, eqr, shr, me, sz4, ap, fr, lb, mn, mx, pl, zl, zi, two, ll, tn2, tq, tn4, rln, lzd, lrd, lld, nlz, nll, nlr, m1', tz, mz, tz0]
  · have tz0 : ¬ t = 0 := by omega
    simp (disch := first | omega | (simp; done) | (simp; omega)) [t_law, f0, f1, f2, f3, f4, f5, f6, f8, hc0, hc1, hL, hsz, al, zc2, fc2, co, cc, sr, eqr, shr, me, sz4, ap, fr, lb, mn, mx, pl, zl, zi, two, ll, tn2, tq, tn4, rln, lzd, lrd, lld, nlz, nll, nlr, m1', tz, tz0]
end K13

/-! K13: the look, and the end -/
namespace K13
open PySem PySem.Spec PyProof.Rows L2 Pv
def topS (i : Nat) : Stmt := PySem.Challenge.pw_edgelink_k13_counts_of_stuffings.main.body.getD i (.Pass ⟨0, 0, 0, 0⟩)
/-! the class Counter -/
abbrev sCI : Stmt := inClass (topS 4) 0
abbrev sCB : Stmt := inClass (topS 4) 1
abbrev sCC : Stmt := inClass (topS 4) 2
section
open ExM
variable {P : Program} {w : World} {K : PySem.W.Frag} {mg : Str → Option Value} {base : Heap} [Tabs]
theorem scCI : FnScope ["self", "limit"] ["self", "limit"] (defScope sCI) := ⟨rfl, rfl, rfl, by decide +kernel, rfl, by decide +kernel, by decide +kernel⟩
theorem ok_cinit {f : Addr} {fd : FuncData} (F : Fun K "__init__" "Counter.__init__" sCI f fd) (T : CTxt K) : FnOk P w K mg base (L2N.CX P w) 1 f fd ["self", "limit"] spCI := by
  refine F.okN scCI (fun vs H Q E h => ?_) (fun cdv A outer s H vs Q E hr h => ?_)
  · obtain ⟨p, dx, L, rfl, _⟩ := h
    rfl
  · exact ⟨tCI K, pss_cons (ps_fld (pv 0) (pv 1) rfl) (pss_one (ps_fld (pv 0) pe_dnewT rfl)), init_ok T h fun _ _ q => q⟩
theorem scCB : FnScope ["self", "run", "bit"] ["self", "run", "bit"] (defScope sCB) := ⟨rfl, rfl, rfl, by decide +kernel, rfl, by decide +kernel, by decide +kernel⟩
theorem ok_cbeh {f : Addr} {fd : FuncData} (F : Fun K "behind" "Counter.behind" sCB f fd) (T : CTxt K) : FnOk P w K mg base (L2N.CX P w) 1 f fd ["self", "run", "bit"] (spD K behC) := by
  refine F.okN scCB (fun vs H Q E h => beh_len h) (fun cdv A outer s H vs Q E hr h => ?_)
  exact ⟨tBeh K, pss_cons (ps_if (pt_cmpR op_eq (pv 2) pe_str (nomark _)) (pss_one (ps_ret (pe_tup (pa_cons pe_int (pa_cons pe_int pa_nil))))) pss_nil)
    (pss_one (ps_ret (pe_ifExp (pt_cmpR op_eq (pe_op op_add (pv 1) pe_int) (pe_fld (pv 0) rfl) (nomark _)) (pe_tup (pa_cons pe_int (pa_cons pe_int pa_nil))) (pe_tup (pa_cons (pe_op op_add (pv 1) pe_int) (pa_cons pe_int pa_nil)))))), beh_ok T h fun _ _ q => q⟩
theorem scCC : FnScope ["self", "left", "run", "zeros", "total", "bit", "later", "more"] ["self", "left", "run", "zeros"] (defScope sCC) := ⟨rfl, rfl, rfl, by decide +kernel, rfl, by decide +kernel, by decide +kernel⟩
abbrev cS1 : Stmt := nth (defBody sCC) 0
abbrev cS2 : Stmt := nth (defBody sCC) 1
abbrev cB1 : Stmt := nth (thenOf (nth (defBody sCC) 2)) 0
abbrev cB2 : Stmt := nth (thenOf (nth (defBody sCC) 2)) 1
theorem ok_ccnt {f : Addr} {fd : FuncData} (F : Fun K "count" "Counter.count" sCC f fd) (T : CTxt K) (hb : ∀ y ∈ bltNames, mg y = none) (M : Meth K Tabs.cc "count" f) (b : Binds K fd ["self", "left", "run", "zeros"] []) (CB : CallK P w K mg base 1 ".behind" behC) : CallK P w K mg base 26 ".count" (cntC 25) :=
  count_all F scCC T hb rfl rfl (s1 := cS1) (s2 := cS2) (b1 := cB1) (b2 := cB2) (by decide +kernel) (by decide +kernel) (by decide +kernel) (by decide +kernel) (fun cdv A outer s H E hu =>
    pss_cons (psW cS1) (pss_cons (psW cS2) (pss_cons (ps_if (pt_cmp (pc_dnotin hu (pe_tup (pa_cons (pv 1) (pa_cons (pv 2) (pa_cons (pv 3) pa_nil)))) (pe_fld (pv 0) rfl)))
      (pss_cons (psW cB1) (pss_cons (psW cB2) (pss_one (ps_dput hu (pe_fld (pv 0) rfl) (pe_tup (pa_cons (pv 1) (pa_cons (pv 2) (pa_cons (pv 3) pa_nil)))) (pv 4) rfl)))) pss_nil)
      (pss_one (ps_ret (pe_dget hu (pe_fld (pv 0) rfl) (pe_tup (pa_cons (pv 1) (pa_cons (pv 2) (pa_cons (pv 3) pa_nil)))) (fun _ _ => rfl))))))) M b CB 25
end

abbrev s__law_cell : Stmt := topS 15
theorem sc__law_cell : FnScope ["_law_script", "_law_k"] ["_law_script", "_law_k"] (defScope s__law_cell) := ⟨rfl, rfl, rfl, by decide +kernel, rfl, by decide +kernel, by decide +kernel⟩
theorem look__law_cell : chkSs ["_law_script", "_law_k"] [] [] (defScope s__law_cell) P.t__law_cell.body (defBody s__law_cell) = true := by decide +kernel
abbrev s__law_longer : Stmt := topS 19
theorem sc__law_longer : FnScope ["_law_rows", "_law_made", "_law_bits"] ["_law_rows"] (defScope s__law_longer) := ⟨rfl, rfl, rfl, by decide +kernel, rfl, by decide +kernel, by decide +kernel⟩
theorem look__law_longer : chkSs ["_law_rows", "_law_made", "_law_bits"] [] [] (defScope s__law_longer) t__law_longer.body (defBody s__law_longer) = true := by decide +kernel
abbrev s__law_all : Stmt := topS 18
theorem sc__law_all : FnScope ["_law_size", "_law_found", "_law_turn"] ["_law_size"] (defScope s__law_all) := ⟨rfl, rfl, rfl, by decide +kernel, rfl, by decide +kernel, by decide +kernel⟩
theorem look__law_all : chkSs ["_law_size", "_law_found", "_law_turn"] ["_law_longer"] [] (defScope s__law_all) t__law_all.body (defBody s__law_all) = true := by decide +kernel
abbrev s_stuff : Stmt := topS 1
theorem sc_stuff : FnScope ["limit", "bits", "found", "ones", "bit"] ["limit", "bits"] (defScope s_stuff) := ⟨rfl, rfl, rfl, by decide +kernel, rfl, by decide +kernel, by decide +kernel⟩
theorem look_stuff : chkSs ["limit", "bits", "found", "ones", "bit"] [] [] (defScope s_stuff) P.t_stuff.body (defBody s_stuff) = true := by decide +kernel
abbrev s_greatest_stuffing : Stmt := topS 2
theorem sc_greatest_stuffing : FnScope ["limit", "count"] ["limit", "count"] (defScope s_greatest_stuffing) := ⟨rfl, rfl, rfl, by decide +kernel, rfl, by decide +kernel, by decide +kernel⟩
theorem look_greatest_stuffing : chkSs ["limit", "count"] [] [] (defScope s_greatest_stuffing) P.t_greatest_stuffing.body (defBody s_greatest_stuffing) = true := by decide +kernel
abbrev s_counts : Stmt := topS 6
theorem sc_counts : FnScope ["limit", "size", "counter", "zeros"] ["limit", "size"] (defScope s_counts) := ⟨rfl, rfl, rfl, by decide +kernel, rfl, by decide +kernel, by decide +kernel⟩
theorem look_counts : chkSs ["limit", "size", "counter", "zeros"] ["Counter", "greatest_stuffing", ".count"] [] (defScope s_counts) t_counts.body (defBody s_counts) = true := by decide +kernel
abbrev s_shared_divisor : Stmt := topS 7
theorem sc_shared_divisor : FnScope ["one", "two"] ["one", "two"] (defScope s_shared_divisor) := ⟨rfl, rfl, rfl, by decide +kernel, rfl, by decide +kernel, by decide +kernel⟩
theorem look_shared_divisor : chkSs ["one", "two"] [] [] (defScope s_shared_divisor) t_shared_divisor.body (defBody s_shared_divisor) = true := by decide +kernel
abbrev s_mean_stuffing : Stmt := topS 8
theorem sc_mean_stuffing : FnScope ["limit", "size", "rows", "total", "divisor", "zeros", "count"] ["limit", "size"] (defScope s_mean_stuffing) := ⟨rfl, rfl, rfl, by decide +kernel, rfl, by decide +kernel, by decide +kernel⟩
theorem look_mean_stuffing : chkSs ["limit", "size", "rows", "total", "divisor", "zeros", "count"] ["counts", "shared_divisor"] [] (defScope s_mean_stuffing) t_mean_stuffing.body (defBody s_mean_stuffing) = true := by decide +kernel
abbrev s_flag_of : Stmt := topS 12
theorem sc_flag_of : FnScope ["limit"] ["limit"] (defScope s_flag_of) := ⟨rfl, rfl, rfl, by decide +kernel, rfl, by decide +kernel, by decide +kernel⟩
theorem look_flag_of : chkSs ["limit"] [] [] (defScope s_flag_of) P.t_flag_of.body (defBody s_flag_of) = true := by decide +kernel
abbrev s_frame_bits : Stmt := topS 13
theorem sc_frame_bits : FnScope ["limit", "payload"] ["limit", "payload"] (defScope s_frame_bits) := ⟨rfl, rfl, rfl, by decide +kernel, rfl, by decide +kernel, by decide +kernel⟩
theorem look_frame_bits : chkSs ["limit", "payload"] ["flag_of", "stuff"] [] (defScope s_frame_bits) P.t_frame_bits.body (defBody s_frame_bits) = true := by decide +kernel
abbrev s_length_bounds : Stmt := topS 9
theorem sc_length_bounds : FnScope ["limit", "size", "flags"] ["limit", "size"] (defScope s_length_bounds) := ⟨rfl, rfl, rfl, by decide +kernel, rfl, by decide +kernel, by decide +kernel⟩
theorem look_length_bounds : chkSs ["limit", "size", "flags"] ["greatest_stuffing"] [] (defScope s_length_bounds) t_length_bounds.body (defBody s_length_bounds) = true := by decide +kernel
abbrev s_payloads_by_length : Stmt := topS 10
theorem sc_payloads_by_length : FnScope ["limit", "size", "length", "zeros"] ["limit", "size", "length"] (defScope s_payloads_by_length) := ⟨rfl, rfl, rfl, by decide +kernel, rfl, by decide +kernel, by decide +kernel⟩
theorem look_payloads_by_length : chkSs ["limit", "size", "length", "zeros"] ["length_bounds", ".count", "Counter"] [] (defScope s_payloads_by_length) t_payloads_by_length.body (defBody s_payloads_by_length) = true := by decide +kernel
abbrev s_zeros_in : Stmt := topS 5
theorem sc_zeros_in : FnScope ["limit", "payload"] ["limit", "payload"] (defScope s_zeros_in) := ⟨rfl, rfl, rfl, by decide +kernel, rfl, by decide +kernel, by decide +kernel⟩
theorem look_zeros_in : chkSs ["limit", "payload"] ["stuff"] [] (defScope s_zeros_in) P.t_zeros_in.body (defBody s_zeros_in) = true := by decide +kernel
abbrev s_law : Stmt := topS 20
theorem sc_law : FnScope ["_law_script", "_law_limit", "_law_size", "_law_payloads", "_law_zeros", "_law_told", "_law_due", "_law_top", "_law_bottom", "_law_k", "_law_lengths", "_law_low", "_law_high", "_law_length", "_law_bits"] ["_law_script"] (defScope s_law) := ⟨rfl, rfl, rfl, by decide +kernel, rfl, by decide +kernel, by decide +kernel⟩
theorem look_law : chkSs ["_law_script", "_law_limit", "_law_size", "_law_payloads", "_law_zeros", "_law_told", "_law_due", "_law_top", "_law_bottom", "_law_k", "_law_lengths", "_law_low", "_law_high", "_law_length", "_law_bits"] ["_law_cell", "_law_all", "stuff", "counts", "mean_stuffing", "frame_bits", "length_bounds", "payloads_by_length", "zeros_in"] [] (defScope s_law) t_law.body (defBody s_law) = true := by decide +kernel
theorem all_mk {l : PySem.W.OpenLaw} {w : World} {K : PySem.W.Frag} {h : Heap} {mg : Str → Option Value} {fa f0 f1 f2 f3 f4 f5 f6 f7 f8 f9 f10 f11 f12 f13 : Addr} (X : K.In h) (G : h.Ns mainGlobals mg) (hfa : mg "law" = some (.ref fa))
    {od0 an0 od1 an1 od2 an2 od3 an3 od4 an4 od5 an5 od6 an6 od7 an7 od8 an8 od9 an9 od10 an10 od11 an11 od12 an12 od13 an13 : Option Addr} {sl0 sl1 sl2 sl3 sl4 sl5 sl6 sl7 sl8 sl9 sl10 sl11 sl12 sl13 : Array (Option Value)} {oc0 kV0 dc0 pm0 cd0 ct0 oc1 kV1 dc1 pm1 cd1 ct1 oc2 kV2 dc2 pm2 cd2 ct2 oc3 kV3 dc3 pm3 cd3 ct3 oc4 kV4 dc4 pm4 cd4 ct4 oc5 kV5 dc5 pm5 cd5 ct5 oc6 kV6 dc6 pm6 cd6 ct6 oc7 kV7 dc7 pm7 cd7 ct7 oc8 kV8 dc8 pm8 cd8 ct8 oc9 kV9 dc9 pm9 cd9 ct9 oc10 kV10 dc10 pm10 cd10 ct10 oc11 kV11 dc11 pm11 cd11 ct11 oc12 kV12 dc12 pm12 cd12 ct12 oc13 kV13 dc13 pm13 cd13 ct13 : Value}
    {CC fKI fKB fKC : Addr} {odKI anKI odKB anKB odKC anKC : Option Addr} {slKI slKB slKC : Array (Option Value)} {ocKI kVKI dcKI pmKI cdKI ctKI ocKB kVKB dcKB pmKB cdKB ctKB ocKC kVKC dcKC pmKC cdKC ctKC : Value}
    (a0 : PySem.W.nsIn K mainGlobals "_law_cell" = some (some (.ref f0))) (l0 : K.lookup f0 = some ⟨oc0, od0, .func (PySem.W.fnOf "_law_cell" "_law_cell" (defArgs s__law_cell) (defBody s__law_cell) (defScope s__law_cell) .none kV0 dc0 pm0 an0 cd0 ct0), sl0⟩) (c0 : PySem.W.codeIn K cd0 "_law_cell" = true) (k0 : PySem.W.keepIn K (.ref f0) = true)
    (a1 : PySem.W.nsIn K mainGlobals "_law_longer" = some (some (.ref f1))) (l1 : K.lookup f1 = some ⟨oc1, od1, .func (PySem.W.fnOf "_law_longer" "_law_longer" (defArgs s__law_longer) (defBody s__law_longer) (defScope s__law_longer) .none kV1 dc1 pm1 an1 cd1 ct1), sl1⟩) (c1 : PySem.W.codeIn K cd1 "_law_longer" = true) (k1 : PySem.W.keepIn K (.ref f1) = true)
    (a2 : PySem.W.nsIn K mainGlobals "_law_all" = some (some (.ref f2))) (l2 : K.lookup f2 = some ⟨oc2, od2, .func (PySem.W.fnOf "_law_all" "_law_all" (defArgs s__law_all) (defBody s__law_all) (defScope s__law_all) .none kV2 dc2 pm2 an2 cd2 ct2), sl2⟩) (c2 : PySem.W.codeIn K cd2 "_law_all" = true) (k2 : PySem.W.keepIn K (.ref f2) = true)
    (a3 : PySem.W.nsIn K mainGlobals "stuff" = some (some (.ref f3))) (l3 : K.lookup f3 = some ⟨oc3, od3, .func (PySem.W.fnOf "stuff" "stuff" (defArgs s_stuff) (defBody s_stuff) (defScope s_stuff) .none kV3 dc3 pm3 an3 cd3 ct3), sl3⟩) (c3 : PySem.W.codeIn K cd3 "stuff" = true) (k3 : PySem.W.keepIn K (.ref f3) = true)
    (a4 : PySem.W.nsIn K mainGlobals "greatest_stuffing" = some (some (.ref f4))) (l4 : K.lookup f4 = some ⟨oc4, od4, .func (PySem.W.fnOf "greatest_stuffing" "greatest_stuffing" (defArgs s_greatest_stuffing) (defBody s_greatest_stuffing) (defScope s_greatest_stuffing) .none kV4 dc4 pm4 an4 cd4 ct4), sl4⟩) (c4 : PySem.W.codeIn K cd4 "greatest_stuffing" = true) (k4 : PySem.W.keepIn K (.ref f4) = true)
    (a5 : PySem.W.nsIn K mainGlobals "counts" = some (some (.ref f5))) (l5 : K.lookup f5 = some ⟨oc5, od5, .func (PySem.W.fnOf "counts" "counts" (defArgs s_counts) (defBody s_counts) (defScope s_counts) .none kV5 dc5 pm5 an5 cd5 ct5), sl5⟩) (c5 : PySem.W.codeIn K cd5 "counts" = true) (k5 : PySem.W.keepIn K (.ref f5) = true)
    (a6 : PySem.W.nsIn K mainGlobals "shared_divisor" = some (some (.ref f6))) (l6 : K.lookup f6 = some ⟨oc6, od6, .func (PySem.W.fnOf "shared_divisor" "shared_divisor" (defArgs s_shared_divisor) (defBody s_shared_divisor) (defScope s_shared_divisor) .none kV6 dc6 pm6 an6 cd6 ct6), sl6⟩) (c6 : PySem.W.codeIn K cd6 "shared_divisor" = true) (k6 : PySem.W.keepIn K (.ref f6) = true)
    (a7 : PySem.W.nsIn K mainGlobals "mean_stuffing" = some (some (.ref f7))) (l7 : K.lookup f7 = some ⟨oc7, od7, .func (PySem.W.fnOf "mean_stuffing" "mean_stuffing" (defArgs s_mean_stuffing) (defBody s_mean_stuffing) (defScope s_mean_stuffing) .none kV7 dc7 pm7 an7 cd7 ct7), sl7⟩) (c7 : PySem.W.codeIn K cd7 "mean_stuffing" = true) (k7 : PySem.W.keepIn K (.ref f7) = true)
    (a8 : PySem.W.nsIn K mainGlobals "flag_of" = some (some (.ref f8))) (l8 : K.lookup f8 = some ⟨oc8, od8, .func (PySem.W.fnOf "flag_of" "flag_of" (defArgs s_flag_of) (defBody s_flag_of) (defScope s_flag_of) .none kV8 dc8 pm8 an8 cd8 ct8), sl8⟩) (c8 : PySem.W.codeIn K cd8 "flag_of" = true) (k8 : PySem.W.keepIn K (.ref f8) = true)
    (a9 : PySem.W.nsIn K mainGlobals "frame_bits" = some (some (.ref f9))) (l9 : K.lookup f9 = some ⟨oc9, od9, .func (PySem.W.fnOf "frame_bits" "frame_bits" (defArgs s_frame_bits) (defBody s_frame_bits) (defScope s_frame_bits) .none kV9 dc9 pm9 an9 cd9 ct9), sl9⟩) (c9 : PySem.W.codeIn K cd9 "frame_bits" = true) (k9 : PySem.W.keepIn K (.ref f9) = true)
    (a10 : PySem.W.nsIn K mainGlobals "length_bounds" = some (some (.ref f10))) (l10 : K.lookup f10 = some ⟨oc10, od10, .func (PySem.W.fnOf "length_bounds" "length_bounds" (defArgs s_length_bounds) (defBody s_length_bounds) (defScope s_length_bounds) .none kV10 dc10 pm10 an10 cd10 ct10), sl10⟩) (c10 : PySem.W.codeIn K cd10 "length_bounds" = true) (k10 : PySem.W.keepIn K (.ref f10) = true)
    (a11 : PySem.W.nsIn K mainGlobals "payloads_by_length" = some (some (.ref f11))) (l11 : K.lookup f11 = some ⟨oc11, od11, .func (PySem.W.fnOf "payloads_by_length" "payloads_by_length" (defArgs s_payloads_by_length) (defBody s_payloads_by_length) (defScope s_payloads_by_length) .none kV11 dc11 pm11 an11 cd11 ct11), sl11⟩) (c11 : PySem.W.codeIn K cd11 "payloads_by_length" = true) (k11 : PySem.W.keepIn K (.ref f11) = true)
    (a12 : PySem.W.nsIn K mainGlobals "zeros_in" = some (some (.ref f12))) (l12 : K.lookup f12 = some ⟨oc12, od12, .func (PySem.W.fnOf "zeros_in" "zeros_in" (defArgs s_zeros_in) (defBody s_zeros_in) (defScope s_zeros_in) .none kV12 dc12 pm12 an12 cd12 ct12), sl12⟩) (c12 : PySem.W.codeIn K cd12 "zeros_in" = true) (k12 : PySem.W.keepIn K (.ref f12) = true)
    (a13 : PySem.W.nsIn K mainGlobals "law" = some (some (.ref f13))) (l13 : K.lookup f13 = some ⟨oc13, od13, .func (PySem.W.fnOf "law" "law" (defArgs s_law) (defBody s_law) (defScope s_law) .none kV13 dc13 pm13 an13 cd13 ct13), sl13⟩) (c13 : PySem.W.codeIn K cd13 "law" = true) (k13 : PySem.W.keepIn K (.ref f13) = true)
    (z0 : PySem.W.nsIn K mainGlobals "len" = some none)
    (z1 : PySem.W.nsIn K mainGlobals "max" = some none)
    (z2 : PySem.W.nsIn K mainGlobals "min" = some none)
    (z3 : PySem.W.nsIn K mainGlobals "abs" = some none)
    (z4 : PySem.W.nsIn K mainGlobals "sum" = some none)
    (z5 : PySem.W.nsIn K mainGlobals "sorted" = some none)
    (z6 : PySem.W.nsIn K mainGlobals "int" = some none)
    (z7 : PySem.W.nsIn K mainGlobals "str" = some none)
    (z8 : PySem.W.nsIn K mainGlobals "list" = some none)
    (z9 : PySem.W.nsIn K mainGlobals "tuple" = some none)
    (z10 : PySem.W.nsIn K mainGlobals "bool" = some none)
    (z11 : PySem.W.nsIn K mainGlobals "range" = some none)
    (z12 : PySem.W.nsIn K mainGlobals "enumerate" = some none)
    (z13 : PySem.W.nsIn K mainGlobals "zip" = some none)
    (z14 : PySem.W.nsIn K mainGlobals "isinstance" = some none)
    (z15 : PySem.W.nsIn K mainGlobals "all" = some none)
    (z16 : PySem.W.nsIn K mainGlobals "any" = some none)
    (kC0 : PySem.W.nsIn K mainGlobals "Counter" = some (some (.ref CC)))
    (eKI : PySem.W.findIn K (.ref CC) "__init__" = some (some (.ref fKI))) (iKI : PySem.W.isFn K (.ref fKI) = true) (lKI : K.lookup fKI = some ⟨ocKI, odKI, .func (PySem.W.fnOf "__init__" "Counter.__init__" (defArgs sCI) (defBody sCI) (defScope sCI) .none kVKI dcKI pmKI anKI cdKI ctKI), slKI⟩) (cKI : PySem.W.codeIn K cdKI "Counter.__init__" = true) (kKI : PySem.W.keepIn K (.ref fKI) = true)
    (eKB : PySem.W.findIn K (.ref CC) "behind" = some (some (.ref fKB))) (iKB : PySem.W.isFn K (.ref fKB) = true) (lKB : K.lookup fKB = some ⟨ocKB, odKB, .func (PySem.W.fnOf "behind" "Counter.behind" (defArgs sCB) (defBody sCB) (defScope sCB) .none kVKB dcKB pmKB anKB cdKB ctKB), slKB⟩) (cKB : PySem.W.codeIn K cdKB "Counter.behind" = true) (kKB : PySem.W.keepIn K (.ref fKB) = true)
    (eKC : PySem.W.findIn K (.ref CC) "count" = some (some (.ref fKC))) (iKC : PySem.W.isFn K (.ref fKC) = true) (lKC : K.lookup fKC = some ⟨ocKC, odKC, .func (PySem.W.fnOf "count" "Counter.count" (defArgs sCC) (defBody sCC) (defScope sCC) .none kVKC dcKC pmKC anKC cdKC ctKC), slKC⟩) (cKC : PySem.W.codeIn K cdKC "Counter.count" = true) (kKC : PySem.W.keepIn K (.ref fKC) = true)
    (kpg : PySem.W.plainGet K CC Str.empty = true) (khd : PySem.W.hasDictIn K CC = true) (kpo : PySem.W.plainOver K CC = true) (ksa : PySem.W.findIn K (.ref CC) "__setattr__" = some (some (.builtin "object.__setattr__"))) (kmk : PySem.W.makesIn K CC = true) (kkc : PySem.W.keepIn K (.ref CC) = true)
    (knL : PySem.W.findIn K (.ref CC) "limit" = some none) (knK : PySem.W.findIn K (.ref CC) "known" = some none)
    : ∃ (cs : List (Addr × Addr)) (rc : Addr × Addr × Addr) (fd : FuncData), (∀ p ∈ cs, ∃ y ∈ ([] : List Str), PySem.W.tabIn K y = some p) ∧ (∀ p ∈ cs, K.lookup p.2 = none) ∧ (∀ (s : Shared) (v : Value), BindsTo s fd ⟨[v], []⟩ [("_law_script", v)]) ∧ ∀ base : Heap, K.In base → base.Ns mainGlobals mg → (∀ p ∈ cs, GxR.TabB base mg p.1 p.2) → FnOk l.prog w K mg base (L2N.CX l.prog w) 29 fa fd ["_law_script"] (@spLaw ⟨cs, rc, 0⟩ K) := by
  have e := hfa.symm.trans (PySem.W.mg_of X G a13)
  cases e
  have hb : ∀ y ∈ bltNames, mg y = none := by
    intro y hy
    simp only [bltNames, List.mem_cons, List.not_mem_nil, or_false] at hy
    rcases hy with rfl | rfl | rfl | rfl | rfl | rfl | rfl | rfl | rfl | rfl | rfl | rfl | rfl | rfl | rfl | rfl | rfl
    · exact PySem.W.mg_none_of X G z0
    · exact PySem.W.mg_none_of X G z1
    · exact PySem.W.mg_none_of X G z2
    · exact PySem.W.mg_none_of X G z3
    · exact PySem.W.mg_none_of X G z4
    · exact PySem.W.mg_none_of X G z5
    · exact PySem.W.mg_none_of X G z6
    · exact PySem.W.mg_none_of X G z7
    · exact PySem.W.mg_none_of X G z8
    · exact PySem.W.mg_none_of X G z9
    · exact PySem.W.mg_none_of X G z10
    · exact PySem.W.mg_none_of X G z11
    · exact PySem.W.mg_none_of X G z12
    · exact PySem.W.mg_none_of X G z13
    · exact PySem.W.mg_none_of X G z14
    · exact PySem.W.mg_none_of X G z15
    · exact PySem.W.mg_none_of X G z16
  refine ⟨[], (0, 0, CC), PySem.W.fnOf "law" "law" (defArgs s_law) (defBody s_law) (defScope s_law) .none kV13 dc13 pm13 an13 cd13 ct13, ?h1, ?h2, fun s v => .of_eq rfl, fun base _ Gb TB => ?_⟩
  case h1 => exact fun p hp => by cases hp
  case h2 => exact fun p hp => by cases hp
  refine law_ofL (g := g_law) (fun L => ?_) law_ok
  letI : Tabs := ⟨[], (0, 0, CC), L⟩
  have TC : ExM.CTxt K := ⟨⟨kpg, khd, kpo, ksa⟩, knL, knK⟩
  have FnKI := fun_mk (st := sCI) lKI cKI kKI
  have FnKB := fun_mk (st := sCB) lKB cKB kKB
  have FnKC := fun_mk (st := sCC) lKC cKC kKC
  have bKI := FnKI.binds (ps := ["self", "limit"]) fun _ _ _ _ _ _ us hl => match us, hl with | [_, _], _ => rfl
  have bKB := FnKB.binds (ps := ["self", "run", "bit"]) fun _ _ _ _ _ _ us hl => match us, hl with | [_, _, _], _ => rfl
  have bKC := FnKC.binds (ps := ["self", "left", "run", "zeros"]) fun _ _ _ _ _ _ us hl => match us, hl with | [_, _, _, _], _ => rfl
  have CK_new : CallK l.prog w K mg base 2 "Counter" (newC Tabs.lim) := ExM.callK_cls (PySem.W.mg_of X G kC0) ⟨kmk, eKI, iKI, kkc⟩ bKI (ok_cinit FnKI TC) (by decide)
  have CK_beh : CallK l.prog w K mg base 1 ".behind" behC := ExM.callK_meth (by decide +kernel) TC ExM.beh_cnt ⟨eKB, iKB, kKB⟩ bKB (ok_cbeh FnKB TC)
  have CK_cnt : CallK l.prog w K mg base 26 ".count" (cntC 25) := ok_ccnt FnKC TC hb ⟨eKC, iKC, kKC⟩ bKC CK_beh
  have C__law_cell : Callee l.prog w K mg base 1 "_law_cell" P.g__law_cell := callee_of (fun_mk (st := s__law_cell) l0 c0 k0) (PySem.W.mg_of X G a0) ((fun_mk (st := s__law_cell) l0 c0 k0).binds (ps := ["_law_script", "_law_k"]) fun _ _ _ _ _ _ us hl => match us, hl with | [_, _], _ => rfl) sc__law_cell rfl rfl look__law_cell hb Glb.nil (fun z => absurd z (by decide +kernel)) ⟨fun z => absurd z (by decide +kernel), fun z => absurd z (by decide +kernel), fun z => absurd z (by decide +kernel), fun z => absurd z (by decide +kernel)⟩ Fns.nil
  have C__law_longer : Callee l.prog w K mg base 1 "_law_longer" g__law_longer := callee_of (fun_mk (st := s__law_longer) l1 c1 k1) (PySem.W.mg_of X G a1) ((fun_mk (st := s__law_longer) l1 c1 k1).binds (ps := ["_law_rows"]) fun _ _ _ _ _ _ us hl => match us, hl with | [_], _ => rfl) sc__law_longer rfl rfl look__law_longer hb Glb.nil (fun z => absurd z (by decide +kernel)) ⟨fun z => absurd z (by decide +kernel), fun z => absurd z (by decide +kernel), fun z => absurd z (by decide +kernel), fun z => absurd z (by decide +kernel)⟩ Fns.nil
  have C__law_all : Callee l.prog w K mg base 2 "_law_all" g__law_all := callee_of (fun_mk (st := s__law_all) l2 c2 k2) (PySem.W.mg_of X G a2) ((fun_mk (st := s__law_all) l2 c2 k2).binds (ps := ["_law_size"]) fun _ _ _ _ _ _ us hl => match us, hl with | [_], _ => rfl) sc__law_all rfl rfl look__law_all hb Glb.nil (fun z => absurd z (by decide +kernel)) ⟨fun z => absurd z (by decide +kernel), fun z => absurd z (by decide +kernel), fun z => absurd z (by decide +kernel), fun z => absurd z (by decide +kernel)⟩ (Fns.cons C__law_longer (by decide) Fns.nil)
  have C_stuff : Callee l.prog w K mg base 1 "stuff" P.g_stuff := callee_of (fun_mk (st := s_stuff) l3 c3 k3) (PySem.W.mg_of X G a3) ((fun_mk (st := s_stuff) l3 c3 k3).binds (ps := ["limit", "bits"]) fun _ _ _ _ _ _ us hl => match us, hl with | [_, _], _ => rfl) sc_stuff rfl rfl look_stuff hb Glb.nil (fun z => absurd z (by decide +kernel)) ⟨fun z => absurd z (by decide +kernel), fun z => absurd z (by decide +kernel), fun z => absurd z (by decide +kernel), fun z => absurd z (by decide +kernel)⟩ Fns.nil
  have C_greatest_stuffing : Callee l.prog w K mg base 1 "greatest_stuffing" P.g_greatest_stuffing := callee_of (fun_mk (st := s_greatest_stuffing) l4 c4 k4) (PySem.W.mg_of X G a4) ((fun_mk (st := s_greatest_stuffing) l4 c4 k4).binds (ps := ["limit", "count"]) fun _ _ _ _ _ _ us hl => match us, hl with | [_, _], _ => rfl) sc_greatest_stuffing rfl rfl look_greatest_stuffing hb Glb.nil (fun z => absurd z (by decide +kernel)) ⟨fun z => absurd z (by decide +kernel), fun z => absurd z (by decide +kernel), fun z => absurd z (by decide +kernel), fun z => absurd z (by decide +kernel)⟩ Fns.nil
  have C_counts : Callee l.prog w K mg base 27 "counts" (g_counts Tabs.lim) := callee_of (fun_mk (st := s_counts) l5 c5 k5) (PySem.W.mg_of X G a5) ((fun_mk (st := s_counts) l5 c5 k5).binds (ps := ["limit", "size"]) fun _ _ _ _ _ _ us hl => match us, hl with | [_, _], _ => rfl) sc_counts rfl rfl look_counts hb Glb.nil (fun z => absurd z (by decide +kernel)) ⟨fun z => absurd z (by decide +kernel), fun z => absurd z (by decide +kernel), fun z => absurd z (by decide +kernel), fun z => absurd z (by decide +kernel)⟩ (Fns.consK CK_new (by decide) (Fns.cons C_greatest_stuffing (by decide) (Fns.consK CK_cnt (by decide) Fns.nil)))
  have C_shared_divisor : Callee l.prog w K mg base 1 "shared_divisor" g_shared_divisor := callee_of (fun_mk (st := s_shared_divisor) l6 c6 k6) (PySem.W.mg_of X G a6) ((fun_mk (st := s_shared_divisor) l6 c6 k6).binds (ps := ["one", "two"]) fun _ _ _ _ _ _ us hl => match us, hl with | [_, _], _ => rfl) sc_shared_divisor rfl rfl look_shared_divisor hb Glb.nil (fun z => absurd z (by decide +kernel)) ⟨fun z => absurd z (by decide +kernel), fun z => absurd z (by decide +kernel), fun z => absurd z (by decide +kernel), fun z => absurd z (by decide +kernel)⟩ Fns.nil
  have C_mean_stuffing : Callee l.prog w K mg base 28 "mean_stuffing" (g_mean_stuffing Tabs.lim) := callee_of (fun_mk (st := s_mean_stuffing) l7 c7 k7) (PySem.W.mg_of X G a7) ((fun_mk (st := s_mean_stuffing) l7 c7 k7).binds (ps := ["limit", "size"]) fun _ _ _ _ _ _ us hl => match us, hl with | [_, _], _ => rfl) sc_mean_stuffing rfl rfl look_mean_stuffing hb Glb.nil (fun z => absurd z (by decide +kernel)) ⟨fun z => absurd z (by decide +kernel), fun z => absurd z (by decide +kernel), fun z => absurd z (by decide +kernel), fun z => absurd z (by decide +kernel)⟩ (Fns.cons C_counts (by decide) (Fns.cons C_shared_divisor (by decide) Fns.nil))
  have C_flag_of : Callee l.prog w K mg base 1 "flag_of" P.g_flag_of := callee_of (fun_mk (st := s_flag_of) l8 c8 k8) (PySem.W.mg_of X G a8) ((fun_mk (st := s_flag_of) l8 c8 k8).binds (ps := ["limit"]) fun _ _ _ _ _ _ us hl => match us, hl with | [_], _ => rfl) sc_flag_of rfl rfl look_flag_of hb Glb.nil (fun z => absurd z (by decide +kernel)) ⟨fun z => absurd z (by decide +kernel), fun z => absurd z (by decide +kernel), fun z => absurd z (by decide +kernel), fun z => absurd z (by decide +kernel)⟩ Fns.nil
  have C_frame_bits : Callee l.prog w K mg base 2 "frame_bits" P.g_frame_bits := callee_of (fun_mk (st := s_frame_bits) l9 c9 k9) (PySem.W.mg_of X G a9) ((fun_mk (st := s_frame_bits) l9 c9 k9).binds (ps := ["limit", "payload"]) fun _ _ _ _ _ _ us hl => match us, hl with | [_, _], _ => rfl) sc_frame_bits rfl rfl look_frame_bits hb Glb.nil (fun z => absurd z (by decide +kernel)) ⟨fun z => absurd z (by decide +kernel), fun z => absurd z (by decide +kernel), fun z => absurd z (by decide +kernel), fun z => absurd z (by decide +kernel)⟩ (Fns.cons C_flag_of (by decide) (Fns.cons C_stuff (by decide) Fns.nil))
  have C_length_bounds : Callee l.prog w K mg base 2 "length_bounds" g_length_bounds := callee_of (fun_mk (st := s_length_bounds) l10 c10 k10) (PySem.W.mg_of X G a10) ((fun_mk (st := s_length_bounds) l10 c10 k10).binds (ps := ["limit", "size"]) fun _ _ _ _ _ _ us hl => match us, hl with | [_, _], _ => rfl) sc_length_bounds rfl rfl look_length_bounds hb Glb.nil (fun z => absurd z (by decide +kernel)) ⟨fun z => absurd z (by decide +kernel), fun z => absurd z (by decide +kernel), fun z => absurd z (by decide +kernel), fun z => absurd z (by decide +kernel)⟩ (Fns.cons C_greatest_stuffing (by decide) Fns.nil)
  have C_payloads_by_length : Callee l.prog w K mg base 27 "payloads_by_length" (g_payloads_by_length Tabs.lim) := callee_of (fun_mk (st := s_payloads_by_length) l11 c11 k11) (PySem.W.mg_of X G a11) ((fun_mk (st := s_payloads_by_length) l11 c11 k11).binds (ps := ["limit", "size", "length"]) fun _ _ _ _ _ _ us hl => match us, hl with | [_, _, _], _ => rfl) sc_payloads_by_length rfl rfl look_payloads_by_length hb Glb.nil (fun z => absurd z (by decide +kernel)) ⟨fun z => absurd z (by decide +kernel), fun z => absurd z (by decide +kernel), fun z => absurd z (by decide +kernel), fun z => absurd z (by decide +kernel)⟩ (Fns.cons C_length_bounds (by decide) (Fns.consK CK_cnt (by decide) (Fns.consK CK_new (by decide) Fns.nil)))
  have C_zeros_in : Callee l.prog w K mg base 2 "zeros_in" P.g_zeros_in := callee_of (fun_mk (st := s_zeros_in) l12 c12 k12) (PySem.W.mg_of X G a12) ((fun_mk (st := s_zeros_in) l12 c12 k12).binds (ps := ["limit", "payload"]) fun _ _ _ _ _ _ us hl => match us, hl with | [_, _], _ => rfl) sc_zeros_in rfl rfl look_zeros_in hb Glb.nil (fun z => absurd z (by decide +kernel)) ⟨fun z => absurd z (by decide +kernel), fun z => absurd z (by decide +kernel), fun z => absurd z (by decide +kernel), fun z => absurd z (by decide +kernel)⟩ (Fns.cons C_stuff (by decide) Fns.nil)
  exact (ok_def (fun_mk (st := s_law) l13 c13 k13) sc_law rfl rfl look_law hb Glb.nil (fun z => absurd z (by decide +kernel)) ⟨fun z => absurd z (by decide +kernel), fun z => absurd z (by decide +kernel), fun z => absurd z (by decide +kernel), fun z => absurd z (by decide +kernel)⟩ (Fns.cons C__law_cell (by decide) (Fns.cons C__law_all (by decide) (Fns.cons C_stuff (by decide) (Fns.cons C_counts (by decide) (Fns.cons C_mean_stuffing (by decide) (Fns.cons C_frame_bits (by decide) (Fns.cons C_length_bounds (by decide) (Fns.cons C_payloads_by_length (by decide) (Fns.cons C_zeros_in (by decide) Fns.nil))))))))))
end K13
open PySem PySem.W PyProof.Rows in
set_option maxRecDepth 100000 in
set_option maxHeartbeats 0 in
theorem PySem.Challenge.cw_edgelink_k13_counts_of_stuffings_holds : PySem.Challenge.rw_edgelink_k13_counts_of_stuffings.Holds := by
  w_on; o_law; k_head; (case hw => w_witness2)
  k_fill
  refine Pv.walk_tabs (l := PySem.Challenge.rw_edgelink_k13_counts_of_stuffings) (k := 29) (names := []) (x := "_law_script") rfl rfl ⟨rfl, by decide, by decide⟩ (by first | rfl | decide +kernel) (fun w h Y => PySem.W.kIn_of Y) ?F
  case F =>
    intro w mg fa h KX G hmg
    refine' K13.all_mk KX G hmg ?a0 ?l0 ?c0 ?k0 ?a1 ?l1 ?c1 ?k1 ?a2 ?l2 ?c2 ?k2 ?a3 ?l3 ?c3 ?k3 ?a4 ?l4 ?c4 ?k4 ?a5 ?l5 ?c5 ?k5 ?a6 ?l6 ?c6 ?k6 ?a7 ?l7 ?c7 ?k7 ?a8 ?l8 ?c8 ?k8 ?a9 ?l9 ?c9 ?k9 ?a10 ?l10 ?c10 ?k10 ?a11 ?l11 ?c11 ?k11 ?a12 ?l12 ?c12 ?k12 ?a13 ?l13 ?c13 ?k13 ?z0 ?z1 ?z2 ?z3 ?z4 ?z5 ?z6 ?z7 ?z8 ?z9 ?z10 ?z11 ?z12 ?z13 ?z14 ?z15 ?z16 ?kC0 ?eKI ?iKI ?lKI ?cKI ?kKI ?eKB ?iKB ?lKB ?cKB ?kKB ?eKC ?iKC ?lKC ?cKC ?kKC ?kpg ?khd ?kpo ?ksa ?kmk ?kkc ?knL ?knK
    (case a0 => k_is)
    (case l0 => k_is)
    (case c0 => k_is)
    (case k0 => k_is)
    (case a1 => k_is)
    (case l1 => k_is)
    (case c1 => k_is)
    (case k1 => k_is)
    (case a2 => k_is)
    (case l2 => k_is)
    (case c2 => k_is)
    (case k2 => k_is)
    (case a3 => k_is)
    (case l3 => k_is)
    (case c3 => k_is)
    (case k3 => k_is)
    (case a4 => k_is)
    (case l4 => k_is)
    (case c4 => k_is)
    (case k4 => k_is)
    (case a5 => k_is)
    (case l5 => k_is)
    (case c5 => k_is)
    (case k5 => k_is)
    (case a6 => k_is)
    (case l6 => k_is)
    (case c6 => k_is)
    (case k6 => k_is)
    (case a7 => k_is)
    (case l7 => k_is)
    (case c7 => k_is)
    (case k7 => k_is)
    (case a8 => k_is)
    (case l8 => k_is)
    (case c8 => k_is)
    (case k8 => k_is)
    (case a9 => k_is)
    (case l9 => k_is)
    (case c9 => k_is)
    (case k9 => k_is)
    (case a10 => k_is)
    (case l10 => k_is)
    (case c10 => k_is)
    (case k10 => k_is)
    (case a11 => k_is)
    (case l11 => k_is)
    (case c11 => k_is)
    (case k11 => k_is)
    (case a12 => k_is)
    (case l12 => k_is)
    (case c12 => k_is)
    (case k12 => k_is)
    (case a13 => k_is)
    (case l13 => k_is)
    (case c13 => k_is)
    (case k13 => k_is)
    (case z0 => k_is)
    (case z1 => k_is)
    (case z2 => k_is)
    (case z3 => k_is)
    (case z4 => k_is)
    (case z5 => k_is)
    (case z6 => k_is)
    (case z7 => k_is)
    (case z8 => k_is)
    (case z9 => k_is)
    (case z10 => k_is)
    (case z11 => k_is)
    (case z12 => k_is)
    (case z13 => k_is)
    (case z14 => k_is)
    (case z15 => k_is)
    (case z16 => k_is)
    (case kC0 => k_is)
    (case eKI => k_is)
    (case iKI => k_is)
    (case lKI => k_is)
    (case cKI => k_is)
    (case kKI => k_is)
    (case eKB => k_is)
    (case iKB => k_is)
    (case lKB => k_is)
    (case cKB => k_is)
    (case kKB => k_is)
    (case eKC => k_is)
    (case iKC => k_is)
    (case lKC => k_is)
    (case cKC => k_is)
    (case kKC => k_is)
    (case kpg => k_is)
    (case khd => k_is)
    (case kpo => k_is)
    (case ksa => k_is)
    (case kmk => k_is)
    (case kkc => k_is)
    (case knL => k_is)
    (case knK => k_is)

